/- Texts laid together: Walks of functions of the program and of the document's texts. The conditions stand with each theorem. Walks of functions of the program and of the document's texts. The conditions stand with each theorem. Walks of functions of the program and of the document's texts. The conditions stand with each theorem. -/
import Derived.Test.YtnlecdpiccgdpaaJMmult60x2
import Derived.Test.YtnlecdpiccgdpaaProg
import Derived.Test.YtnlecdpiccgdpaaJMmult60x1
import Derived.Test.YtnlecdpiccgdpaaJMmult60x11
import Derived.Test.YtnlecdpiccgdpaaJMmult60x9
import Derived.Test.YtnlecdpiccgdpaaJMmult60x8
import Derived.Test.YtnlecdpiccgdpaaJMmult60x10
set_option linter.unusedVariables false
set_option linter.unusedSimpArgs false
namespace Go.Proofs.YtnlecdpiccgdpaaV
open Go Go.RowKit Go.Proofs

set_option maxRecDepth 100000 in
theorem rsgn_ok (wd x : Nat) (w : World) (h1 : 1 ≤ wd) (h2 : wd ≤ 64) (hx : x < 18446744073709551616) : Ret Try.prog 66 [.int .i64 ((wd : Nat) : Int), .int .u64 ((x : Nat) : Int)] w fun v w' => v = .int .i64 (sgn wd x) ∧ Tch N0 w w' := by
  have hp64 := pw64 (w := wd) (by omega)
  have hpp := pw_pos wd
  refine enter Try.func66 rfl rfl ?_
  refine W_seq ?_
  refine W_region (by kernel_rfl) ?_
  refine sg [(4, .int .i64 0)] (by kernel_rfl) ?_
  refine op_nil ?_
  refine W_seq ?_
  refine W_seq ?_
  refine W_region (by kernel_rfl) ?_
  refine sg [(5, .int .i64 ((wd : Nat) : Int))] (by kernel_rfl) ?_
  refine st (by rfl) (S_call (args := [.int .i64 ((wd : Nat) : Int)]) (by kernel_rfl) (rfits_t wd _ (by omega) (by omega)) ?_)
  rintro _ w1 ⟨rfl, hT2⟩
  have hT0 := hT2
  refine sg [(7, .bool false)] (by kernel_rfl) ?_
  refine op_nil ?_
  refine W_cond false (by kernel_rfl) (by kernel_rfl) (fun h => nomatch h) (fun _ => ?_)
  refine W_skip ?_
  refine W_seq ?_
  refine W_region (by kernel_rfl) ?_
  refine sg [(8, .int .i64 ((wd : Nat) : Int)), (9, .int .u64 ((x : Nat) : Int))] (by kernel_rfl) ?_
  refine st (by rfl) (S_call (args := [.int .i64 ((wd : Nat) : Int), .int .u64 ((x : Nat) : Int)]) (by kernel_rfl) (rcut_ok wd x _ (by omega) (by omega) (by first | omega | exact bval_u (by omega) | (unfold bitN; split <;> omega))) ?_)
  rintro _ w3 ⟨rfl, hT4⟩
  have hT0 := hT0.t0 hT4
  have hcl5 := cutN_lt wd x
  refine sg [(1, .int .u64 ((cutN wd x : Nat) : Int))] (by kernel_rfl) ?_
  refine op_nil ?_
  refine W_seq ?_
  refine W_seq ?_
  refine W_fg [(0, .int .i64 ((wd : Nat) : Int)), (1, .int .u64 ((cutN wd x : Nat) : Int)), (4, .int .i64 0), (7, .bool false)] (by kernel_rfl) fun ρ => ?_
  refine W_region (by kernel_rfl) ?_
  refine sg [(11, .int .u64 ((cutN wd x : Nat) : Int)), (12, .int .i64 ((wd : Nat) : Int)), (13, .int .i64 (IntKind.i64.wrap (((wd : Nat) : Int) - 1)))] (by kernel_rfl) ?_
  rw [show IntKind.i64.wrap (((wd : Nat) : Int) - 1) = ((wd : Nat) : Int) - 1 from wrap_i64 (by omega) (by omega)]
  refine fixR (y := ((wd - 1 : Nat) : Int)) (by omega) ?_
  refine st (by rfl) (S_call (args := [.int .u64 ((cutN wd x : Nat) : Int), .int .i64 ((wd - 1 : Nat) : Int)]) (by kernel_rfl) (rbit_ok (cutN wd x) (wd - 1) _ (by omega)) ?_)
  rintro _ w6 ⟨rfl, hT7⟩
  have hT0 := hT0.t0 hT7
  refine op_nil ?_
  refine W_cond ((cutN wd x).testBit (wd - 1)) (by kernel_rfl) (by kernel_rfl) (fun hc8 => ?_) (fun hc8 => ?_)
  · replace hc8 : (cutN wd x).testBit (wd - 1) = true := (hc8)
    refine W_region (by kernel_rfl) ?_
    refine sg [(15, .int .u64 ((cutN wd x : Nat) : Int)), (16, .int .i64 ((wd : Nat) : Int))] (by kernel_rfl) ?_
    refine st (by rfl) (S_call (args := [.int .i64 ((wd : Nat) : Int)]) (by kernel_rfl) (rmask_ok wd _ (by omega) (by omega)) ?_)
    rintro _ w9 ⟨rfl, hT10⟩
    have hT0 := hT0.t0 hT10
    refine stv (v := .int .u64 (((18446744073709551615 - (pw wd - 1) : Nat)) : Int)) (by rfl) (R_not64 (pw wd - 1) (by kernel_rfl) (by omega)) ?_
    rw [show 18446744073709551615 - (pw wd - 1) = 18446744073709551616 - pw wd by omega]
    refine sg [(19, .int .u64 (IntKind.u64.wrap (BitVec.ofInt 64 ((cutN wd x : Nat) : Int) ||| BitVec.ofInt 64 ((18446744073709551616 - pw wd : Nat) : Int)).toNat))] (by kernel_rfl) ?_
    rw [or_u _ _ (by omega) (by omega), or_high (by omega) (cutN_lt _ _)]
    refine sg [(1, .int .u64 ((cutN wd x + (18446744073709551616 - pw wd) : Nat) : Int))] (by kernel_rfl) ?_
    refine op_nil ?_
    refine W_seq ?_
    refine W_fg [(0, .int .i64 ((wd : Nat) : Int)), (1, .int .u64 ((cutN wd x + (18446744073709551616 - pw wd) : Nat) : Int)), (4, .int .i64 0), (7, .bool false), (14, .bool ((cutN wd x).testBit (wd - 1)))] (by kernel_rfl) fun ρ => ?_
    refine W_region (by kernel_rfl) ?_
    refine sg [(20, .int .u64 ((cutN wd x + (18446744073709551616 - pw wd) : Nat) : Int)), (21, .int .i64 (IntKind.i64.wrap ((cutN wd x + (18446744073709551616 - pw wd) : Nat) : Int))), (4, .int .i64 (IntKind.i64.wrap ((cutN wd x + (18446744073709551616 - pw wd) : Nat) : Int)))] (by kernel_rfl) ?_
    refine op_nil ?_
    refine W_ret ?_
    exact ⟨_, Res_of (v := .int .i64 (IntKind.i64.wrap ((cutN wd x + (18446744073709551616 - pw wd) : Nat) : Int))) (by kernel_rfl), ⟨congrArg (Value.int .i64) (by first | exact sgn_neg h1 h2 (by assumption) | exact sgn_pos h1 h2 (by assumption)), hT0⟩⟩
  · replace hc8 : (cutN wd x).testBit (wd - 1) = false := (hc8)
    refine W_skip ?_
    refine W_seq ?_
    refine W_region (by kernel_rfl) ?_
    refine sg [(20, .int .u64 ((cutN wd x : Nat) : Int)), (21, .int .i64 (IntKind.i64.wrap ((cutN wd x : Nat) : Int))), (4, .int .i64 (IntKind.i64.wrap ((cutN wd x : Nat) : Int)))] (by kernel_rfl) ?_
    refine op_nil ?_
    refine W_ret ?_
    exact ⟨_, Res_of (v := .int .i64 (IntKind.i64.wrap ((cutN wd x : Nat) : Int))) (by kernel_rfl), ⟨congrArg (Value.int .i64) (by first | exact sgn_neg h1 h2 (by assumption) | exact sgn_pos h1 h2 (by assumption)), hT0⟩⟩

set_option maxRecDepth 100000 in
theorem rbin1_ok (wd a b : Nat) (w : World) (h1 : 1 ≤ wd) (h2 : wd ≤ 64) (ha : a < 18446744073709551616) (hb : b < 18446744073709551616) : Ret Try.prog 33 [.int .i64 1, .int .i64 ((wd : Nat) : Int), .int .u64 ((a : Nat) : Int), .int .u64 ((b : Nat) : Int)] w fun v w' => v = .tuple #[.int .u64 ((cutN wd (cutN wd a + cutN wd b) : Nat) : Int), .int .i64 0] ∧ Tch N0 w w' := by
  have hp64 := pw64 (w := wd) (by omega)
  have hca := cutN_lt wd a
  have hcb := cutN_lt wd b
  have hpw := pw64 (w := wd) (by omega)
  refine enter Try.func33 rfl rfl ?_
  refine W_seq ?_
  refine W_region (by kernel_rfl) ?_
  refine sg [(8, .int .u64 0), (9, .int .i64 0)] (by kernel_rfl) ?_
  refine op_nil ?_
  refine W_seq ?_
  refine W_seq ?_
  refine W_region (by kernel_rfl) ?_
  refine sg [(11, .int .i64 1), (12, .bool false), (13, .bool false), (14, .int .i64 1), (15, .bool false), (16, .bool false)] (by kernel_rfl) ?_
  refine op_nil ?_
  refine W_cond false (by kernel_rfl) (by kernel_rfl) (fun h => nomatch h) (fun _ => ?_)
  refine W_skip ?_
  refine W_seq ?_
  refine W_seq ?_
  refine W_fg [(0, .int .i64 1), (1, .int .i64 ((wd : Nat) : Int)), (2, .int .u64 ((a : Nat) : Int)), (3, .int .u64 ((b : Nat) : Int)), (8, .int .u64 0), (9, .int .i64 0), (16, .bool false)] (by kernel_rfl) fun ρ => ?_
  refine W_region (by kernel_rfl) ?_
  refine sg [(17, .int .i64 ((wd : Nat) : Int))] (by kernel_rfl) ?_
  refine st (by rfl) (S_call (args := [.int .i64 ((wd : Nat) : Int)]) (by kernel_rfl) (rfits_t wd _ (by omega) (by omega)) ?_)
  rintro _ w1 ⟨rfl, hT2⟩
  have hT0 := hT2
  refine sg [(19, .bool false)] (by kernel_rfl) ?_
  refine op_nil ?_
  refine W_cond false (by kernel_rfl) (by kernel_rfl) (fun h => nomatch h) (fun _ => ?_)
  refine W_skip ?_
  refine W_seq ?_
  refine W_region (by kernel_rfl) ?_
  refine sg [(20, .int .i64 ((wd : Nat) : Int)), (21, .int .u64 ((a : Nat) : Int))] (by kernel_rfl) ?_
  refine st (by rfl) (S_call (args := [.int .i64 ((wd : Nat) : Int), .int .u64 ((a : Nat) : Int)]) (by kernel_rfl) (rcut_ok wd a _ (by omega) (by omega) (by first | omega | exact bval_u (by omega) | (unfold bitN; split <;> omega))) ?_)
  rintro _ w3 ⟨rfl, hT4⟩
  have hT0 := hT0.t0 hT4
  have hcl5 := cutN_lt wd a
  refine sg [(2, .int .u64 ((cutN wd a : Nat) : Int))] (by kernel_rfl) ?_
  refine op_nil ?_
  refine W_seq ?_
  refine W_region (by kernel_rfl) ?_
  refine sg [(23, .int .i64 ((wd : Nat) : Int)), (24, .int .u64 ((b : Nat) : Int))] (by kernel_rfl) ?_
  refine st (by rfl) (S_call (args := [.int .i64 ((wd : Nat) : Int), .int .u64 ((b : Nat) : Int)]) (by kernel_rfl) (rcut_ok wd b _ (by omega) (by omega) (by first | omega | exact bval_u (by omega) | (unfold bitN; split <;> omega))) ?_)
  rintro _ w6 ⟨rfl, hT7⟩
  have hT0 := hT0.t0 hT7
  have hcl8 := cutN_lt wd b
  refine sg [(3, .int .u64 ((cutN wd b : Nat) : Int))] (by kernel_rfl) ?_
  refine op_nil ?_
  refine W_seq ?_
  refine W_fg [(0, .int .i64 1), (1, .int .i64 ((wd : Nat) : Int)), (2, .int .u64 ((cutN wd a : Nat) : Int)), (3, .int .u64 ((cutN wd b : Nat) : Int)), (8, .int .u64 0), (9, .int .i64 0), (16, .bool false), (19, .bool false)] (by kernel_rfl) fun ρ => ?_
  refine W_region (by kernel_rfl) ?_
  refine sg [(10, .int .u64 0)] (by kernel_rfl) ?_
  refine op_nil ?_
  refine W_seq ?_
  refine W_seq ?_
  refine W_region (by kernel_rfl) ?_
  refine sg [(26, .int .i64 1)] (by kernel_rfl) ?_
  refine op_nil ?_
  refine W_block ?_
  refine W_seq ?_
  refine W_region (by kernel_rfl) ?_
  refine sg [(33, .bool true), (32, .bool true)] (by kernel_rfl) ?_
  refine op_nil ?_
  refine W_cond true (by kernel_rfl) (by kernel_rfl) (fun _ => ?_) (fun h => nomatch h)
  refine W_region (by kernel_rfl) ?_
  refine sg [(34, .int .u64 ((cutN wd a : Nat) : Int)), (35, .int .u64 ((cutN wd b : Nat) : Int))] (by kernel_rfl) ?_
  refine sg [(36, .int .u64 (IntKind.u64.wrap (((cutN wd a : Nat) : Int) + ((cutN wd b : Nat) : Int))))] (by kernel_rfl) ?_
  rw [u64_add (cutN wd a) (cutN wd b)]
  refine sg [(10, .int .u64 (((cutN wd a + cutN wd b) % 18446744073709551616 : Nat) : Int))] (by kernel_rfl) ?_
  refine op_nil ?_
  refine W_seq ?_
  refine W_fg [(0, .int .i64 1), (1, .int .i64 ((wd : Nat) : Int)), (2, .int .u64 ((cutN wd a : Nat) : Int)), (3, .int .u64 ((cutN wd b : Nat) : Int)), (8, .int .u64 0), (9, .int .i64 0), (10, .int .u64 (((cutN wd a + cutN wd b) % 18446744073709551616 : Nat) : Int)), (16, .bool false), (19, .bool false), (26, .int .i64 1), (32, .bool true)] (by kernel_rfl) fun ρ => ?_
  refine W_region (by kernel_rfl) ?_
  refine sg [(101, .int .i64 ((wd : Nat) : Int)), (102, .int .u64 (((cutN wd a + cutN wd b) % 18446744073709551616 : Nat) : Int))] (by kernel_rfl) ?_
  refine st (by rfl) (S_call (args := [.int .i64 ((wd : Nat) : Int), .int .u64 (((cutN wd a + cutN wd b) % 18446744073709551616 : Nat) : Int)]) (by kernel_rfl) (rcut_ok wd ((cutN wd a + cutN wd b) % 18446744073709551616) _ (by omega) (by omega) (by first | omega | exact bval_u (by omega) | (unfold bitN; split <;> omega))) ?_)
  rintro _ w9 ⟨rfl, hT10⟩
  have hT0 := hT0.t0 hT10
  have hcl11 := cutN_lt wd ((cutN wd a + cutN wd b) % 18446744073709551616)
  refine sg [(8, .int .u64 ((cutN wd ((cutN wd a + cutN wd b) % 18446744073709551616) : Nat) : Int)), (9, .int .i64 0)] (by kernel_rfl) ?_
  refine op_nil ?_
  refine W_ret ?_
  exact ⟨_, Res_of (v := .tuple #[.int .u64 ((cutN wd ((cutN wd a + cutN wd b) % 18446744073709551616) : Nat) : Int), .int .i64 0]) (by kernel_rfl), ⟨by rw [cut_of64 (by omega)], hT0⟩⟩

set_option maxRecDepth 100000 in
theorem rbin2_ok (wd a b : Nat) (w : World) (h1 : 1 ≤ wd) (h2 : wd ≤ 64) (ha : a < 18446744073709551616) (hb : b < 18446744073709551616) : Ret Try.prog 33 [.int .i64 2, .int .i64 ((wd : Nat) : Int), .int .u64 ((a : Nat) : Int), .int .u64 ((b : Nat) : Int)] w fun v w' => v = .tuple #[.int .u64 ((subN wd (cutN wd a) (cutN wd b) : Nat) : Int), .int .i64 0] ∧ Tch N0 w w' := by
  have hp64 := pw64 (w := wd) (by omega)
  have hca := cutN_lt wd a
  have hcb := cutN_lt wd b
  have hpw := pw64 (w := wd) (by omega)
  refine enter Try.func33 rfl rfl ?_
  refine W_seq ?_
  refine W_region (by kernel_rfl) ?_
  refine sg [(8, .int .u64 0), (9, .int .i64 0)] (by kernel_rfl) ?_
  refine op_nil ?_
  refine W_seq ?_
  refine W_seq ?_
  refine W_region (by kernel_rfl) ?_
  refine sg [(11, .int .i64 2), (12, .bool false), (13, .bool false), (14, .int .i64 2), (15, .bool false), (16, .bool false)] (by kernel_rfl) ?_
  refine op_nil ?_
  refine W_cond false (by kernel_rfl) (by kernel_rfl) (fun h => nomatch h) (fun _ => ?_)
  refine W_skip ?_
  refine W_seq ?_
  refine W_seq ?_
  refine W_fg [(0, .int .i64 2), (1, .int .i64 ((wd : Nat) : Int)), (2, .int .u64 ((a : Nat) : Int)), (3, .int .u64 ((b : Nat) : Int)), (8, .int .u64 0), (9, .int .i64 0), (16, .bool false)] (by kernel_rfl) fun ρ => ?_
  refine W_region (by kernel_rfl) ?_
  refine sg [(17, .int .i64 ((wd : Nat) : Int))] (by kernel_rfl) ?_
  refine st (by rfl) (S_call (args := [.int .i64 ((wd : Nat) : Int)]) (by kernel_rfl) (rfits_t wd _ (by omega) (by omega)) ?_)
  rintro _ w1 ⟨rfl, hT2⟩
  have hT0 := hT2
  refine sg [(19, .bool false)] (by kernel_rfl) ?_
  refine op_nil ?_
  refine W_cond false (by kernel_rfl) (by kernel_rfl) (fun h => nomatch h) (fun _ => ?_)
  refine W_skip ?_
  refine W_seq ?_
  refine W_region (by kernel_rfl) ?_
  refine sg [(20, .int .i64 ((wd : Nat) : Int)), (21, .int .u64 ((a : Nat) : Int))] (by kernel_rfl) ?_
  refine st (by rfl) (S_call (args := [.int .i64 ((wd : Nat) : Int), .int .u64 ((a : Nat) : Int)]) (by kernel_rfl) (rcut_ok wd a _ (by omega) (by omega) (by first | omega | exact bval_u (by omega) | (unfold bitN; split <;> omega))) ?_)
  rintro _ w3 ⟨rfl, hT4⟩
  have hT0 := hT0.t0 hT4
  have hcl5 := cutN_lt wd a
  refine sg [(2, .int .u64 ((cutN wd a : Nat) : Int))] (by kernel_rfl) ?_
  refine op_nil ?_
  refine W_seq ?_
  refine W_region (by kernel_rfl) ?_
  refine sg [(23, .int .i64 ((wd : Nat) : Int)), (24, .int .u64 ((b : Nat) : Int))] (by kernel_rfl) ?_
  refine st (by rfl) (S_call (args := [.int .i64 ((wd : Nat) : Int), .int .u64 ((b : Nat) : Int)]) (by kernel_rfl) (rcut_ok wd b _ (by omega) (by omega) (by first | omega | exact bval_u (by omega) | (unfold bitN; split <;> omega))) ?_)
  rintro _ w6 ⟨rfl, hT7⟩
  have hT0 := hT0.t0 hT7
  have hcl8 := cutN_lt wd b
  refine sg [(3, .int .u64 ((cutN wd b : Nat) : Int))] (by kernel_rfl) ?_
  refine op_nil ?_
  refine W_seq ?_
  refine W_fg [(0, .int .i64 2), (1, .int .i64 ((wd : Nat) : Int)), (2, .int .u64 ((cutN wd a : Nat) : Int)), (3, .int .u64 ((cutN wd b : Nat) : Int)), (8, .int .u64 0), (9, .int .i64 0), (16, .bool false), (19, .bool false)] (by kernel_rfl) fun ρ => ?_
  refine W_region (by kernel_rfl) ?_
  refine sg [(10, .int .u64 0)] (by kernel_rfl) ?_
  refine op_nil ?_
  refine W_seq ?_
  refine W_seq ?_
  refine W_region (by kernel_rfl) ?_
  refine sg [(26, .int .i64 2)] (by kernel_rfl) ?_
  refine op_nil ?_
  refine W_block ?_
  refine W_seq ?_
  refine W_region (by kernel_rfl) ?_
  refine sg [(33, .bool false), (32, .bool false)] (by kernel_rfl) ?_
  refine op_nil ?_
  refine W_cond false (by kernel_rfl) (by kernel_rfl) (fun h => nomatch h) (fun _ => ?_)
  refine W_seq ?_
  refine W_region (by kernel_rfl) ?_
  refine sg [(38, .bool true), (37, .bool true)] (by kernel_rfl) ?_
  refine op_nil ?_
  refine W_cond true (by kernel_rfl) (by kernel_rfl) (fun _ => ?_) (fun h => nomatch h)
  refine W_region (by kernel_rfl) ?_
  refine sg [(39, .int .u64 ((cutN wd a : Nat) : Int)), (40, .int .u64 ((cutN wd b : Nat) : Int))] (by kernel_rfl) ?_
  refine sg [(41, .int .u64 (IntKind.u64.wrap (((cutN wd a : Nat) : Int) - ((cutN wd b : Nat) : Int))))] (by kernel_rfl) ?_
  rw [u64_sub (cutN wd a) (cutN wd b) (by omega) (by omega)]
  refine sg [(10, .int .u64 (((cutN wd a + (18446744073709551616 - cutN wd b)) % 18446744073709551616 : Nat) : Int))] (by kernel_rfl) ?_
  refine op_nil ?_
  refine W_seq ?_
  refine W_fg [(0, .int .i64 2), (1, .int .i64 ((wd : Nat) : Int)), (2, .int .u64 ((cutN wd a : Nat) : Int)), (3, .int .u64 ((cutN wd b : Nat) : Int)), (8, .int .u64 0), (9, .int .i64 0), (10, .int .u64 (((cutN wd a + (18446744073709551616 - cutN wd b)) % 18446744073709551616 : Nat) : Int)), (16, .bool false), (19, .bool false), (26, .int .i64 2), (32, .bool false), (37, .bool true)] (by kernel_rfl) fun ρ => ?_
  refine W_region (by kernel_rfl) ?_
  refine sg [(101, .int .i64 ((wd : Nat) : Int)), (102, .int .u64 (((cutN wd a + (18446744073709551616 - cutN wd b)) % 18446744073709551616 : Nat) : Int))] (by kernel_rfl) ?_
  refine st (by rfl) (S_call (args := [.int .i64 ((wd : Nat) : Int), .int .u64 (((cutN wd a + (18446744073709551616 - cutN wd b)) % 18446744073709551616 : Nat) : Int)]) (by kernel_rfl) (rcut_ok wd ((cutN wd a + (18446744073709551616 - cutN wd b)) % 18446744073709551616) _ (by omega) (by omega) (by first | omega | exact bval_u (by omega) | (unfold bitN; split <;> omega))) ?_)
  rintro _ w9 ⟨rfl, hT10⟩
  have hT0 := hT0.t0 hT10
  have hcl11 := cutN_lt wd ((cutN wd a + (18446744073709551616 - cutN wd b)) % 18446744073709551616)
  refine sg [(8, .int .u64 ((cutN wd ((cutN wd a + (18446744073709551616 - cutN wd b)) % 18446744073709551616) : Nat) : Int)), (9, .int .i64 0)] (by kernel_rfl) ?_
  refine op_nil ?_
  refine W_ret ?_
  exact ⟨_, Res_of (v := .tuple #[.int .u64 ((cutN wd ((cutN wd a + (18446744073709551616 - cutN wd b)) % 18446744073709551616) : Nat) : Int), .int .i64 0]) (by kernel_rfl), ⟨by rw [cut_sub64 (by omega) (by omega)], hT0⟩⟩

set_option maxRecDepth 100000 in
theorem rbin12_ok (wd a b : Nat) (w : World) (h1 : 1 ≤ wd) (h2 : wd ≤ 64) (ha : a < 18446744073709551616) (hb : b < 18446744073709551616) : Ret Try.prog 33 [.int .i64 12, .int .i64 ((wd : Nat) : Int), .int .u64 ((a : Nat) : Int), .int .u64 ((b : Nat) : Int)] w fun v w' => v = .tuple #[.int .u64 ((bitN (decide (cutN wd a = cutN wd b)) : Nat) : Int), .int .i64 0] ∧ Tch N0 w w' := by
  have hp64 := pw64 (w := wd) (by omega)
  have hca := cutN_lt wd a
  have hcb := cutN_lt wd b
  have hpw := pw64 (w := wd) (by omega)
  refine enter Try.func33 rfl rfl ?_
  refine W_seq ?_
  refine W_region (by kernel_rfl) ?_
  refine sg [(8, .int .u64 0), (9, .int .i64 0)] (by kernel_rfl) ?_
  refine op_nil ?_
  refine W_seq ?_
  refine W_seq ?_
  refine W_region (by kernel_rfl) ?_
  refine sg [(11, .int .i64 12), (12, .bool false), (13, .bool false), (14, .int .i64 12), (15, .bool false), (16, .bool false)] (by kernel_rfl) ?_
  refine op_nil ?_
  refine W_cond false (by kernel_rfl) (by kernel_rfl) (fun h => nomatch h) (fun _ => ?_)
  refine W_skip ?_
  refine W_seq ?_
  refine W_seq ?_
  refine W_fg [(0, .int .i64 12), (1, .int .i64 ((wd : Nat) : Int)), (2, .int .u64 ((a : Nat) : Int)), (3, .int .u64 ((b : Nat) : Int)), (8, .int .u64 0), (9, .int .i64 0), (16, .bool false)] (by kernel_rfl) fun ρ => ?_
  refine W_region (by kernel_rfl) ?_
  refine sg [(17, .int .i64 ((wd : Nat) : Int))] (by kernel_rfl) ?_
  refine st (by rfl) (S_call (args := [.int .i64 ((wd : Nat) : Int)]) (by kernel_rfl) (rfits_t wd _ (by omega) (by omega)) ?_)
  rintro _ w1 ⟨rfl, hT2⟩
  have hT0 := hT2
  refine sg [(19, .bool false)] (by kernel_rfl) ?_
  refine op_nil ?_
  refine W_cond false (by kernel_rfl) (by kernel_rfl) (fun h => nomatch h) (fun _ => ?_)
  refine W_skip ?_
  refine W_seq ?_
  refine W_region (by kernel_rfl) ?_
  refine sg [(20, .int .i64 ((wd : Nat) : Int)), (21, .int .u64 ((a : Nat) : Int))] (by kernel_rfl) ?_
  refine st (by rfl) (S_call (args := [.int .i64 ((wd : Nat) : Int), .int .u64 ((a : Nat) : Int)]) (by kernel_rfl) (rcut_ok wd a _ (by omega) (by omega) (by first | omega | exact bval_u (by omega) | (unfold bitN; split <;> omega))) ?_)
  rintro _ w3 ⟨rfl, hT4⟩
  have hT0 := hT0.t0 hT4
  have hcl5 := cutN_lt wd a
  refine sg [(2, .int .u64 ((cutN wd a : Nat) : Int))] (by kernel_rfl) ?_
  refine op_nil ?_
  refine W_seq ?_
  refine W_region (by kernel_rfl) ?_
  refine sg [(23, .int .i64 ((wd : Nat) : Int)), (24, .int .u64 ((b : Nat) : Int))] (by kernel_rfl) ?_
  refine st (by rfl) (S_call (args := [.int .i64 ((wd : Nat) : Int), .int .u64 ((b : Nat) : Int)]) (by kernel_rfl) (rcut_ok wd b _ (by omega) (by omega) (by first | omega | exact bval_u (by omega) | (unfold bitN; split <;> omega))) ?_)
  rintro _ w6 ⟨rfl, hT7⟩
  have hT0 := hT0.t0 hT7
  have hcl8 := cutN_lt wd b
  refine sg [(3, .int .u64 ((cutN wd b : Nat) : Int))] (by kernel_rfl) ?_
  refine op_nil ?_
  refine W_seq ?_
  refine W_fg [(0, .int .i64 12), (1, .int .i64 ((wd : Nat) : Int)), (2, .int .u64 ((cutN wd a : Nat) : Int)), (3, .int .u64 ((cutN wd b : Nat) : Int)), (8, .int .u64 0), (9, .int .i64 0), (16, .bool false), (19, .bool false)] (by kernel_rfl) fun ρ => ?_
  refine W_region (by kernel_rfl) ?_
  refine sg [(10, .int .u64 0)] (by kernel_rfl) ?_
  refine op_nil ?_
  refine W_seq ?_
  refine W_seq ?_
  refine W_region (by kernel_rfl) ?_
  refine sg [(26, .int .i64 12)] (by kernel_rfl) ?_
  refine op_nil ?_
  refine W_block ?_
  refine W_seq ?_
  refine W_region (by kernel_rfl) ?_
  refine sg [(33, .bool false), (32, .bool false)] (by kernel_rfl) ?_
  refine op_nil ?_
  refine W_cond false (by kernel_rfl) (by kernel_rfl) (fun h => nomatch h) (fun _ => ?_)
  refine W_seq ?_
  refine W_region (by kernel_rfl) ?_
  refine sg [(38, .bool false), (37, .bool false)] (by kernel_rfl) ?_
  refine op_nil ?_
  refine W_cond false (by kernel_rfl) (by kernel_rfl) (fun h => nomatch h) (fun _ => ?_)
  refine W_seq ?_
  refine W_region (by kernel_rfl) ?_
  refine sg [(43, .bool false), (42, .bool false)] (by kernel_rfl) ?_
  refine op_nil ?_
  refine W_cond false (by kernel_rfl) (by kernel_rfl) (fun h => nomatch h) (fun _ => ?_)
  refine W_seq ?_
  refine W_fg [(0, .int .i64 12), (1, .int .i64 ((wd : Nat) : Int)), (2, .int .u64 ((cutN wd a : Nat) : Int)), (3, .int .u64 ((cutN wd b : Nat) : Int)), (8, .int .u64 0), (9, .int .i64 0), (10, .int .u64 0), (16, .bool false), (19, .bool false), (26, .int .i64 12), (32, .bool false), (37, .bool false), (42, .bool false)] (by kernel_rfl) fun ρ => ?_
  refine W_region (by kernel_rfl) ?_
  refine sg [(48, .bool false), (47, .bool false)] (by kernel_rfl) ?_
  refine op_nil ?_
  refine W_cond false (by kernel_rfl) (by kernel_rfl) (fun h => nomatch h) (fun _ => ?_)
  refine W_seq ?_
  refine W_region (by kernel_rfl) ?_
  refine sg [(57, .bool false), (56, .bool false)] (by kernel_rfl) ?_
  refine op_nil ?_
  refine W_cond false (by kernel_rfl) (by kernel_rfl) (fun h => nomatch h) (fun _ => ?_)
  refine W_seq ?_
  refine W_region (by kernel_rfl) ?_
  refine sg [(65, .bool false), (64, .bool false)] (by kernel_rfl) ?_
  refine op_nil ?_
  refine W_cond false (by kernel_rfl) (by kernel_rfl) (fun h => nomatch h) (fun _ => ?_)
  refine W_seq ?_
  refine W_region (by kernel_rfl) ?_
  refine sg [(70, .bool false), (69, .bool false)] (by kernel_rfl) ?_
  refine op_nil ?_
  refine W_cond false (by kernel_rfl) (by kernel_rfl) (fun h => nomatch h) (fun _ => ?_)
  refine W_seq ?_
  refine W_fg [(0, .int .i64 12), (1, .int .i64 ((wd : Nat) : Int)), (2, .int .u64 ((cutN wd a : Nat) : Int)), (3, .int .u64 ((cutN wd b : Nat) : Int)), (8, .int .u64 0), (9, .int .i64 0), (10, .int .u64 0), (16, .bool false), (19, .bool false), (26, .int .i64 12), (32, .bool false), (37, .bool false), (42, .bool false), (47, .bool false), (56, .bool false), (64, .bool false), (69, .bool false)] (by kernel_rfl) fun ρ => ?_
  refine W_region (by kernel_rfl) ?_
  refine sg [(75, .bool false), (74, .bool false)] (by kernel_rfl) ?_
  refine op_nil ?_
  refine W_cond false (by kernel_rfl) (by kernel_rfl) (fun h => nomatch h) (fun _ => ?_)
  refine W_seq ?_
  refine W_region (by kernel_rfl) ?_
  refine sg [(80, .bool true), (79, .bool true)] (by kernel_rfl) ?_
  refine op_nil ?_
  refine W_cond true (by kernel_rfl) (by kernel_rfl) (fun _ => ?_) (fun h => nomatch h)
  refine W_region (by kernel_rfl) ?_
  refine sg [(81, .int .u64 ((cutN wd a : Nat) : Int)), (82, .int .u64 ((cutN wd b : Nat) : Int)), (83, .bool (((cutN wd a : Nat) : Int) == ((cutN wd b : Nat) : Int)))] (by kernel_rfl) ?_
  refine st (by rfl) (S_call (args := [.bool (((cutN wd a : Nat) : Int) == ((cutN wd b : Nat) : Int))]) (by kernel_rfl) (rone_ok (((cutN wd a : Nat) : Int) == ((cutN wd b : Nat) : Int)) _) ?_)
  rintro _ w9 ⟨rfl, hT10⟩
  have hT0 := hT0.t0 hT10
  refine sg [(10, .int .u64 ((bitN (((cutN wd a : Nat) : Int) == ((cutN wd b : Nat) : Int)) : Nat) : Int))] (by kernel_rfl) ?_
  refine op_nil ?_
  refine W_seq ?_
  refine W_fg [(0, .int .i64 12), (1, .int .i64 ((wd : Nat) : Int)), (2, .int .u64 ((cutN wd a : Nat) : Int)), (3, .int .u64 ((cutN wd b : Nat) : Int)), (8, .int .u64 0), (9, .int .i64 0), (10, .int .u64 ((bitN (((cutN wd a : Nat) : Int) == ((cutN wd b : Nat) : Int)) : Nat) : Int)), (16, .bool false), (19, .bool false), (26, .int .i64 12), (32, .bool false), (37, .bool false), (42, .bool false), (47, .bool false), (56, .bool false), (64, .bool false), (69, .bool false), (74, .bool false), (79, .bool true)] (by kernel_rfl) fun ρ => ?_
  refine W_region (by kernel_rfl) ?_
  refine sg [(101, .int .i64 ((wd : Nat) : Int)), (102, .int .u64 ((bitN (((cutN wd a : Nat) : Int) == ((cutN wd b : Nat) : Int)) : Nat) : Int))] (by kernel_rfl) ?_
  refine st (by rfl) (S_call (args := [.int .i64 ((wd : Nat) : Int), .int .u64 ((bitN (((cutN wd a : Nat) : Int) == ((cutN wd b : Nat) : Int)) : Nat) : Int)]) (by kernel_rfl) (rcut_ok wd (bitN (((cutN wd a : Nat) : Int) == ((cutN wd b : Nat) : Int))) _ (by omega) (by omega) (by first | omega | exact bval_u (by omega) | (unfold bitN; split <;> omega))) ?_)
  rintro _ w11 ⟨rfl, hT12⟩
  have hT0 := hT0.t0 hT12
  have hcl13 := cutN_lt wd (bitN (((cutN wd a : Nat) : Int) == ((cutN wd b : Nat) : Int)))
  refine sg [(8, .int .u64 ((cutN wd (bitN (((cutN wd a : Nat) : Int) == ((cutN wd b : Nat) : Int))) : Nat) : Int)), (9, .int .i64 0)] (by kernel_rfl) ?_
  refine op_nil ?_
  refine W_ret ?_
  exact ⟨_, Res_of (v := .tuple #[.int .u64 ((cutN wd (bitN (((cutN wd a : Nat) : Int) == ((cutN wd b : Nat) : Int))) : Nat) : Int), .int .i64 0]) (by kernel_rfl), ⟨by rw [cut_bit1 h1, beq_nat], hT0⟩⟩

set_option maxRecDepth 100000 in
theorem rbin13_ok (wd a b : Nat) (w : World) (h1 : 1 ≤ wd) (h2 : wd ≤ 64) (ha : a < 18446744073709551616) (hb : b < 18446744073709551616) : Ret Try.prog 33 [.int .i64 13, .int .i64 ((wd : Nat) : Int), .int .u64 ((a : Nat) : Int), .int .u64 ((b : Nat) : Int)] w fun v w' => v = .tuple #[.int .u64 ((bitN (decide (cutN wd a < cutN wd b)) : Nat) : Int), .int .i64 0] ∧ Tch N0 w w' := by
  have hp64 := pw64 (w := wd) (by omega)
  have hca := cutN_lt wd a
  have hcb := cutN_lt wd b
  have hpw := pw64 (w := wd) (by omega)
  refine enter Try.func33 rfl rfl ?_
  refine W_seq ?_
  refine W_region (by kernel_rfl) ?_
  refine sg [(8, .int .u64 0), (9, .int .i64 0)] (by kernel_rfl) ?_
  refine op_nil ?_
  refine W_seq ?_
  refine W_seq ?_
  refine W_region (by kernel_rfl) ?_
  refine sg [(11, .int .i64 13), (12, .bool false), (13, .bool false), (14, .int .i64 13), (15, .bool false), (16, .bool false)] (by kernel_rfl) ?_
  refine op_nil ?_
  refine W_cond false (by kernel_rfl) (by kernel_rfl) (fun h => nomatch h) (fun _ => ?_)
  refine W_skip ?_
  refine W_seq ?_
  refine W_seq ?_
  refine W_fg [(0, .int .i64 13), (1, .int .i64 ((wd : Nat) : Int)), (2, .int .u64 ((a : Nat) : Int)), (3, .int .u64 ((b : Nat) : Int)), (8, .int .u64 0), (9, .int .i64 0), (16, .bool false)] (by kernel_rfl) fun ρ => ?_
  refine W_region (by kernel_rfl) ?_
  refine sg [(17, .int .i64 ((wd : Nat) : Int))] (by kernel_rfl) ?_
  refine st (by rfl) (S_call (args := [.int .i64 ((wd : Nat) : Int)]) (by kernel_rfl) (rfits_t wd _ (by omega) (by omega)) ?_)
  rintro _ w1 ⟨rfl, hT2⟩
  have hT0 := hT2
  refine sg [(19, .bool false)] (by kernel_rfl) ?_
  refine op_nil ?_
  refine W_cond false (by kernel_rfl) (by kernel_rfl) (fun h => nomatch h) (fun _ => ?_)
  refine W_skip ?_
  refine W_seq ?_
  refine W_region (by kernel_rfl) ?_
  refine sg [(20, .int .i64 ((wd : Nat) : Int)), (21, .int .u64 ((a : Nat) : Int))] (by kernel_rfl) ?_
  refine st (by rfl) (S_call (args := [.int .i64 ((wd : Nat) : Int), .int .u64 ((a : Nat) : Int)]) (by kernel_rfl) (rcut_ok wd a _ (by omega) (by omega) (by first | omega | exact bval_u (by omega) | (unfold bitN; split <;> omega))) ?_)
  rintro _ w3 ⟨rfl, hT4⟩
  have hT0 := hT0.t0 hT4
  have hcl5 := cutN_lt wd a
  refine sg [(2, .int .u64 ((cutN wd a : Nat) : Int))] (by kernel_rfl) ?_
  refine op_nil ?_
  refine W_seq ?_
  refine W_region (by kernel_rfl) ?_
  refine sg [(23, .int .i64 ((wd : Nat) : Int)), (24, .int .u64 ((b : Nat) : Int))] (by kernel_rfl) ?_
  refine st (by rfl) (S_call (args := [.int .i64 ((wd : Nat) : Int), .int .u64 ((b : Nat) : Int)]) (by kernel_rfl) (rcut_ok wd b _ (by omega) (by omega) (by first | omega | exact bval_u (by omega) | (unfold bitN; split <;> omega))) ?_)
  rintro _ w6 ⟨rfl, hT7⟩
  have hT0 := hT0.t0 hT7
  have hcl8 := cutN_lt wd b
  refine sg [(3, .int .u64 ((cutN wd b : Nat) : Int))] (by kernel_rfl) ?_
  refine op_nil ?_
  refine W_seq ?_
  refine W_fg [(0, .int .i64 13), (1, .int .i64 ((wd : Nat) : Int)), (2, .int .u64 ((cutN wd a : Nat) : Int)), (3, .int .u64 ((cutN wd b : Nat) : Int)), (8, .int .u64 0), (9, .int .i64 0), (16, .bool false), (19, .bool false)] (by kernel_rfl) fun ρ => ?_
  refine W_region (by kernel_rfl) ?_
  refine sg [(10, .int .u64 0)] (by kernel_rfl) ?_
  refine op_nil ?_
  refine W_seq ?_
  refine W_seq ?_
  refine W_region (by kernel_rfl) ?_
  refine sg [(26, .int .i64 13)] (by kernel_rfl) ?_
  refine op_nil ?_
  refine W_block ?_
  refine W_seq ?_
  refine W_region (by kernel_rfl) ?_
  refine sg [(33, .bool false), (32, .bool false)] (by kernel_rfl) ?_
  refine op_nil ?_
  refine W_cond false (by kernel_rfl) (by kernel_rfl) (fun h => nomatch h) (fun _ => ?_)
  refine W_seq ?_
  refine W_region (by kernel_rfl) ?_
  refine sg [(38, .bool false), (37, .bool false)] (by kernel_rfl) ?_
  refine op_nil ?_
  refine W_cond false (by kernel_rfl) (by kernel_rfl) (fun h => nomatch h) (fun _ => ?_)
  refine W_seq ?_
  refine W_region (by kernel_rfl) ?_
  refine sg [(43, .bool false), (42, .bool false)] (by kernel_rfl) ?_
  refine op_nil ?_
  refine W_cond false (by kernel_rfl) (by kernel_rfl) (fun h => nomatch h) (fun _ => ?_)
  refine W_seq ?_
  refine W_fg [(0, .int .i64 13), (1, .int .i64 ((wd : Nat) : Int)), (2, .int .u64 ((cutN wd a : Nat) : Int)), (3, .int .u64 ((cutN wd b : Nat) : Int)), (8, .int .u64 0), (9, .int .i64 0), (10, .int .u64 0), (16, .bool false), (19, .bool false), (26, .int .i64 13), (32, .bool false), (37, .bool false), (42, .bool false)] (by kernel_rfl) fun ρ => ?_
  refine W_region (by kernel_rfl) ?_
  refine sg [(48, .bool false), (47, .bool false)] (by kernel_rfl) ?_
  refine op_nil ?_
  refine W_cond false (by kernel_rfl) (by kernel_rfl) (fun h => nomatch h) (fun _ => ?_)
  refine W_seq ?_
  refine W_region (by kernel_rfl) ?_
  refine sg [(57, .bool false), (56, .bool false)] (by kernel_rfl) ?_
  refine op_nil ?_
  refine W_cond false (by kernel_rfl) (by kernel_rfl) (fun h => nomatch h) (fun _ => ?_)
  refine W_seq ?_
  refine W_region (by kernel_rfl) ?_
  refine sg [(65, .bool false), (64, .bool false)] (by kernel_rfl) ?_
  refine op_nil ?_
  refine W_cond false (by kernel_rfl) (by kernel_rfl) (fun h => nomatch h) (fun _ => ?_)
  refine W_seq ?_
  refine W_region (by kernel_rfl) ?_
  refine sg [(70, .bool false), (69, .bool false)] (by kernel_rfl) ?_
  refine op_nil ?_
  refine W_cond false (by kernel_rfl) (by kernel_rfl) (fun h => nomatch h) (fun _ => ?_)
  refine W_seq ?_
  refine W_fg [(0, .int .i64 13), (1, .int .i64 ((wd : Nat) : Int)), (2, .int .u64 ((cutN wd a : Nat) : Int)), (3, .int .u64 ((cutN wd b : Nat) : Int)), (8, .int .u64 0), (9, .int .i64 0), (10, .int .u64 0), (16, .bool false), (19, .bool false), (26, .int .i64 13), (32, .bool false), (37, .bool false), (42, .bool false), (47, .bool false), (56, .bool false), (64, .bool false), (69, .bool false)] (by kernel_rfl) fun ρ => ?_
  refine W_region (by kernel_rfl) ?_
  refine sg [(75, .bool false), (74, .bool false)] (by kernel_rfl) ?_
  refine op_nil ?_
  refine W_cond false (by kernel_rfl) (by kernel_rfl) (fun h => nomatch h) (fun _ => ?_)
  refine W_seq ?_
  refine W_region (by kernel_rfl) ?_
  refine sg [(80, .bool false), (79, .bool false)] (by kernel_rfl) ?_
  refine op_nil ?_
  refine W_cond false (by kernel_rfl) (by kernel_rfl) (fun h => nomatch h) (fun _ => ?_)
  refine W_seq ?_
  refine W_region (by kernel_rfl) ?_
  refine sg [(86, .bool true), (85, .bool true)] (by kernel_rfl) ?_
  refine op_nil ?_
  refine W_cond true (by kernel_rfl) (by kernel_rfl) (fun _ => ?_) (fun h => nomatch h)
  refine W_region (by kernel_rfl) ?_
  refine sg [(87, .int .u64 ((cutN wd a : Nat) : Int)), (88, .int .u64 ((cutN wd b : Nat) : Int)), (89, .bool (decide (((cutN wd a : Nat) : Int) < ((cutN wd b : Nat) : Int))))] (by kernel_rfl) ?_
  refine st (by rfl) (S_call (args := [.bool (decide (((cutN wd a : Nat) : Int) < ((cutN wd b : Nat) : Int)))]) (by kernel_rfl) (rone_ok (decide (((cutN wd a : Nat) : Int) < ((cutN wd b : Nat) : Int))) _) ?_)
  rintro _ w9 ⟨rfl, hT10⟩
  have hT0 := hT0.t0 hT10
  refine sg [(10, .int .u64 ((bitN (decide (((cutN wd a : Nat) : Int) < ((cutN wd b : Nat) : Int))) : Nat) : Int))] (by kernel_rfl) ?_
  refine op_nil ?_
  refine W_seq ?_
  refine W_fg [(0, .int .i64 13), (1, .int .i64 ((wd : Nat) : Int)), (2, .int .u64 ((cutN wd a : Nat) : Int)), (3, .int .u64 ((cutN wd b : Nat) : Int)), (8, .int .u64 0), (9, .int .i64 0), (10, .int .u64 ((bitN (decide (((cutN wd a : Nat) : Int) < ((cutN wd b : Nat) : Int))) : Nat) : Int)), (16, .bool false), (19, .bool false), (26, .int .i64 13), (32, .bool false), (37, .bool false), (42, .bool false), (47, .bool false), (56, .bool false), (64, .bool false), (69, .bool false), (74, .bool false), (79, .bool false), (85, .bool true)] (by kernel_rfl) fun ρ => ?_
  refine W_region (by kernel_rfl) ?_
  refine sg [(101, .int .i64 ((wd : Nat) : Int)), (102, .int .u64 ((bitN (decide (((cutN wd a : Nat) : Int) < ((cutN wd b : Nat) : Int))) : Nat) : Int))] (by kernel_rfl) ?_
  refine st (by rfl) (S_call (args := [.int .i64 ((wd : Nat) : Int), .int .u64 ((bitN (decide (((cutN wd a : Nat) : Int) < ((cutN wd b : Nat) : Int))) : Nat) : Int)]) (by kernel_rfl) (rcut_ok wd (bitN (decide (((cutN wd a : Nat) : Int) < ((cutN wd b : Nat) : Int)))) _ (by omega) (by omega) (by first | omega | exact bval_u (by omega) | (unfold bitN; split <;> omega))) ?_)
  rintro _ w11 ⟨rfl, hT12⟩
  have hT0 := hT0.t0 hT12
  have hcl13 := cutN_lt wd (bitN (decide (((cutN wd a : Nat) : Int) < ((cutN wd b : Nat) : Int))))
  refine sg [(8, .int .u64 ((cutN wd (bitN (decide (((cutN wd a : Nat) : Int) < ((cutN wd b : Nat) : Int)))) : Nat) : Int)), (9, .int .i64 0)] (by kernel_rfl) ?_
  refine op_nil ?_
  refine W_ret ?_
  exact ⟨_, Res_of (v := .tuple #[.int .u64 ((cutN wd (bitN (decide (((cutN wd a : Nat) : Int) < ((cutN wd b : Nat) : Int)))) : Nat) : Int), .int .i64 0]) (by kernel_rfl), ⟨by rw [cut_bit1 h1, lt_nat], hT0⟩⟩

set_option maxRecDepth 100000 in
theorem rbin14_ok (wd a b : Nat) (w : World) (h1 : 1 ≤ wd) (h2 : wd ≤ 64) (ha : a < 18446744073709551616) (hb : b < 18446744073709551616) : Ret Try.prog 33 [.int .i64 14, .int .i64 ((wd : Nat) : Int), .int .u64 ((a : Nat) : Int), .int .u64 ((b : Nat) : Int)] w fun v w' => v = .tuple #[.int .u64 ((bitN (decide (sgn wd a < sgn wd b)) : Nat) : Int), .int .i64 0] ∧ Tch N0 w w' := by
  have hp64 := pw64 (w := wd) (by omega)
  have hca := cutN_lt wd a
  have hcb := cutN_lt wd b
  have hpw := pw64 (w := wd) (by omega)
  refine enter Try.func33 rfl rfl ?_
  refine W_seq ?_
  refine W_region (by kernel_rfl) ?_
  refine sg [(8, .int .u64 0), (9, .int .i64 0)] (by kernel_rfl) ?_
  refine op_nil ?_
  refine W_seq ?_
  refine W_seq ?_
  refine W_region (by kernel_rfl) ?_
  refine sg [(11, .int .i64 14), (12, .bool false), (13, .bool false), (14, .int .i64 14), (15, .bool false), (16, .bool false)] (by kernel_rfl) ?_
  refine op_nil ?_
  refine W_cond false (by kernel_rfl) (by kernel_rfl) (fun h => nomatch h) (fun _ => ?_)
  refine W_skip ?_
  refine W_seq ?_
  refine W_seq ?_
  refine W_fg [(0, .int .i64 14), (1, .int .i64 ((wd : Nat) : Int)), (2, .int .u64 ((a : Nat) : Int)), (3, .int .u64 ((b : Nat) : Int)), (8, .int .u64 0), (9, .int .i64 0), (16, .bool false)] (by kernel_rfl) fun ρ => ?_
  refine W_region (by kernel_rfl) ?_
  refine sg [(17, .int .i64 ((wd : Nat) : Int))] (by kernel_rfl) ?_
  refine st (by rfl) (S_call (args := [.int .i64 ((wd : Nat) : Int)]) (by kernel_rfl) (rfits_t wd _ (by omega) (by omega)) ?_)
  rintro _ w1 ⟨rfl, hT2⟩
  have hT0 := hT2
  refine sg [(19, .bool false)] (by kernel_rfl) ?_
  refine op_nil ?_
  refine W_cond false (by kernel_rfl) (by kernel_rfl) (fun h => nomatch h) (fun _ => ?_)
  refine W_skip ?_
  refine W_seq ?_
  refine W_region (by kernel_rfl) ?_
  refine sg [(20, .int .i64 ((wd : Nat) : Int)), (21, .int .u64 ((a : Nat) : Int))] (by kernel_rfl) ?_
  refine st (by rfl) (S_call (args := [.int .i64 ((wd : Nat) : Int), .int .u64 ((a : Nat) : Int)]) (by kernel_rfl) (rcut_ok wd a _ (by omega) (by omega) (by first | omega | exact bval_u (by omega) | (unfold bitN; split <;> omega))) ?_)
  rintro _ w3 ⟨rfl, hT4⟩
  have hT0 := hT0.t0 hT4
  have hcl5 := cutN_lt wd a
  refine sg [(2, .int .u64 ((cutN wd a : Nat) : Int))] (by kernel_rfl) ?_
  refine op_nil ?_
  refine W_seq ?_
  refine W_region (by kernel_rfl) ?_
  refine sg [(23, .int .i64 ((wd : Nat) : Int)), (24, .int .u64 ((b : Nat) : Int))] (by kernel_rfl) ?_
  refine st (by rfl) (S_call (args := [.int .i64 ((wd : Nat) : Int), .int .u64 ((b : Nat) : Int)]) (by kernel_rfl) (rcut_ok wd b _ (by omega) (by omega) (by first | omega | exact bval_u (by omega) | (unfold bitN; split <;> omega))) ?_)
  rintro _ w6 ⟨rfl, hT7⟩
  have hT0 := hT0.t0 hT7
  have hcl8 := cutN_lt wd b
  refine sg [(3, .int .u64 ((cutN wd b : Nat) : Int))] (by kernel_rfl) ?_
  refine op_nil ?_
  refine W_seq ?_
  refine W_fg [(0, .int .i64 14), (1, .int .i64 ((wd : Nat) : Int)), (2, .int .u64 ((cutN wd a : Nat) : Int)), (3, .int .u64 ((cutN wd b : Nat) : Int)), (8, .int .u64 0), (9, .int .i64 0), (16, .bool false), (19, .bool false)] (by kernel_rfl) fun ρ => ?_
  refine W_region (by kernel_rfl) ?_
  refine sg [(10, .int .u64 0)] (by kernel_rfl) ?_
  refine op_nil ?_
  refine W_seq ?_
  refine W_seq ?_
  refine W_region (by kernel_rfl) ?_
  refine sg [(26, .int .i64 14)] (by kernel_rfl) ?_
  refine op_nil ?_
  refine W_block ?_
  refine W_seq ?_
  refine W_region (by kernel_rfl) ?_
  refine sg [(33, .bool false), (32, .bool false)] (by kernel_rfl) ?_
  refine op_nil ?_
  refine W_cond false (by kernel_rfl) (by kernel_rfl) (fun h => nomatch h) (fun _ => ?_)
  refine W_seq ?_
  refine W_region (by kernel_rfl) ?_
  refine sg [(38, .bool false), (37, .bool false)] (by kernel_rfl) ?_
  refine op_nil ?_
  refine W_cond false (by kernel_rfl) (by kernel_rfl) (fun h => nomatch h) (fun _ => ?_)
  refine W_seq ?_
  refine W_region (by kernel_rfl) ?_
  refine sg [(43, .bool false), (42, .bool false)] (by kernel_rfl) ?_
  refine op_nil ?_
  refine W_cond false (by kernel_rfl) (by kernel_rfl) (fun h => nomatch h) (fun _ => ?_)
  refine W_seq ?_
  refine W_fg [(0, .int .i64 14), (1, .int .i64 ((wd : Nat) : Int)), (2, .int .u64 ((cutN wd a : Nat) : Int)), (3, .int .u64 ((cutN wd b : Nat) : Int)), (8, .int .u64 0), (9, .int .i64 0), (10, .int .u64 0), (16, .bool false), (19, .bool false), (26, .int .i64 14), (32, .bool false), (37, .bool false), (42, .bool false)] (by kernel_rfl) fun ρ => ?_
  refine W_region (by kernel_rfl) ?_
  refine sg [(48, .bool false), (47, .bool false)] (by kernel_rfl) ?_
  refine op_nil ?_
  refine W_cond false (by kernel_rfl) (by kernel_rfl) (fun h => nomatch h) (fun _ => ?_)
  refine W_seq ?_
  refine W_region (by kernel_rfl) ?_
  refine sg [(57, .bool false), (56, .bool false)] (by kernel_rfl) ?_
  refine op_nil ?_
  refine W_cond false (by kernel_rfl) (by kernel_rfl) (fun h => nomatch h) (fun _ => ?_)
  refine W_seq ?_
  refine W_region (by kernel_rfl) ?_
  refine sg [(65, .bool false), (64, .bool false)] (by kernel_rfl) ?_
  refine op_nil ?_
  refine W_cond false (by kernel_rfl) (by kernel_rfl) (fun h => nomatch h) (fun _ => ?_)
  refine W_seq ?_
  refine W_region (by kernel_rfl) ?_
  refine sg [(70, .bool false), (69, .bool false)] (by kernel_rfl) ?_
  refine op_nil ?_
  refine W_cond false (by kernel_rfl) (by kernel_rfl) (fun h => nomatch h) (fun _ => ?_)
  refine W_seq ?_
  refine W_fg [(0, .int .i64 14), (1, .int .i64 ((wd : Nat) : Int)), (2, .int .u64 ((cutN wd a : Nat) : Int)), (3, .int .u64 ((cutN wd b : Nat) : Int)), (8, .int .u64 0), (9, .int .i64 0), (10, .int .u64 0), (16, .bool false), (19, .bool false), (26, .int .i64 14), (32, .bool false), (37, .bool false), (42, .bool false), (47, .bool false), (56, .bool false), (64, .bool false), (69, .bool false)] (by kernel_rfl) fun ρ => ?_
  refine W_region (by kernel_rfl) ?_
  refine sg [(75, .bool false), (74, .bool false)] (by kernel_rfl) ?_
  refine op_nil ?_
  refine W_cond false (by kernel_rfl) (by kernel_rfl) (fun h => nomatch h) (fun _ => ?_)
  refine W_seq ?_
  refine W_region (by kernel_rfl) ?_
  refine sg [(80, .bool false), (79, .bool false)] (by kernel_rfl) ?_
  refine op_nil ?_
  refine W_cond false (by kernel_rfl) (by kernel_rfl) (fun h => nomatch h) (fun _ => ?_)
  refine W_seq ?_
  refine W_region (by kernel_rfl) ?_
  refine sg [(86, .bool false), (85, .bool false)] (by kernel_rfl) ?_
  refine op_nil ?_
  refine W_cond false (by kernel_rfl) (by kernel_rfl) (fun h => nomatch h) (fun _ => ?_)
  refine W_seq ?_
  refine W_region (by kernel_rfl) ?_
  refine sg [(92, .bool true), (91, .bool true)] (by kernel_rfl) ?_
  refine op_nil ?_
  refine W_cond true (by kernel_rfl) (by kernel_rfl) (fun _ => ?_) (fun h => nomatch h)
  refine W_fg [(0, .int .i64 14), (1, .int .i64 ((wd : Nat) : Int)), (2, .int .u64 ((cutN wd a : Nat) : Int)), (3, .int .u64 ((cutN wd b : Nat) : Int)), (8, .int .u64 0), (9, .int .i64 0), (10, .int .u64 0), (16, .bool false), (19, .bool false), (26, .int .i64 14), (32, .bool false), (37, .bool false), (42, .bool false), (47, .bool false), (56, .bool false), (64, .bool false), (69, .bool false), (74, .bool false), (79, .bool false), (85, .bool false), (91, .bool true)] (by kernel_rfl) fun ρ => ?_
  refine W_region (by kernel_rfl) ?_
  refine sg [(93, .int .i64 ((wd : Nat) : Int)), (94, .int .u64 ((cutN wd a : Nat) : Int))] (by kernel_rfl) ?_
  refine st (by rfl) (S_call (args := [.int .i64 ((wd : Nat) : Int), .int .u64 ((cutN wd a : Nat) : Int)]) (by kernel_rfl) (rsgn_ok wd (cutN wd a) _ (by omega) (by omega) (by omega)) ?_)
  rintro _ w9 ⟨rfl, hT10⟩
  have hT0 := hT0.t0 hT10
  refine sg [(96, .int .i64 ((wd : Nat) : Int)), (97, .int .u64 ((cutN wd b : Nat) : Int))] (by kernel_rfl) ?_
  refine st (by rfl) (S_call (args := [.int .i64 ((wd : Nat) : Int), .int .u64 ((cutN wd b : Nat) : Int)]) (by kernel_rfl) (rsgn_ok wd (cutN wd b) _ (by omega) (by omega) (by omega)) ?_)
  rintro _ w11 ⟨rfl, hT12⟩
  have hT0 := hT0.t0 hT12
  refine sg [(99, .bool (decide (sgn wd (cutN wd a) < sgn wd (cutN wd b))))] (by kernel_rfl) ?_
  refine st (by rfl) (S_call (args := [.bool (decide (sgn wd (cutN wd a) < sgn wd (cutN wd b)))]) (by kernel_rfl) (rone_ok (decide (sgn wd (cutN wd a) < sgn wd (cutN wd b))) _) ?_)
  rintro _ w13 ⟨rfl, hT14⟩
  have hT0 := hT0.t0 hT14
  refine sg [(10, .int .u64 ((bitN (decide (sgn wd (cutN wd a) < sgn wd (cutN wd b))) : Nat) : Int))] (by kernel_rfl) ?_
  refine op_nil ?_
  refine W_seq ?_
  refine W_fg [(0, .int .i64 14), (1, .int .i64 ((wd : Nat) : Int)), (2, .int .u64 ((cutN wd a : Nat) : Int)), (3, .int .u64 ((cutN wd b : Nat) : Int)), (8, .int .u64 0), (9, .int .i64 0), (10, .int .u64 ((bitN (decide (sgn wd (cutN wd a) < sgn wd (cutN wd b))) : Nat) : Int)), (16, .bool false), (19, .bool false), (26, .int .i64 14), (32, .bool false), (37, .bool false), (42, .bool false), (47, .bool false), (56, .bool false), (64, .bool false), (69, .bool false), (74, .bool false), (79, .bool false), (85, .bool false), (91, .bool true)] (by kernel_rfl) fun ρ => ?_
  refine W_region (by kernel_rfl) ?_
  refine sg [(101, .int .i64 ((wd : Nat) : Int)), (102, .int .u64 ((bitN (decide (sgn wd (cutN wd a) < sgn wd (cutN wd b))) : Nat) : Int))] (by kernel_rfl) ?_
  refine st (by rfl) (S_call (args := [.int .i64 ((wd : Nat) : Int), .int .u64 ((bitN (decide (sgn wd (cutN wd a) < sgn wd (cutN wd b))) : Nat) : Int)]) (by kernel_rfl) (rcut_ok wd (bitN (decide (sgn wd (cutN wd a) < sgn wd (cutN wd b)))) _ (by omega) (by omega) (by first | omega | exact bval_u (by omega) | (unfold bitN; split <;> omega))) ?_)
  rintro _ w15 ⟨rfl, hT16⟩
  have hT0 := hT0.t0 hT16
  have hcl17 := cutN_lt wd (bitN (decide (sgn wd (cutN wd a) < sgn wd (cutN wd b))))
  refine sg [(8, .int .u64 ((cutN wd (bitN (decide (sgn wd (cutN wd a) < sgn wd (cutN wd b)))) : Nat) : Int)), (9, .int .i64 0)] (by kernel_rfl) ?_
  refine op_nil ?_
  refine W_ret ?_
  exact ⟨_, Res_of (v := .tuple #[.int .u64 ((cutN wd (bitN (decide (sgn wd (cutN wd a) < sgn wd (cutN wd b)))) : Nat) : Int), .int .i64 0]) (by kernel_rfl), ⟨by rw [cut_bit1 h1, sgn_cut, sgn_cut], hT0⟩⟩

set_option maxRecDepth 100000 in
theorem binary1_ok (wd xa xb ins : Nat) (w : World) (h1 : 1 ≤ wd) (h2 : wd ≤ 64) (ha : xa < 18446744073709551616) (hb : xb < 18446744073709551616) : Ret Try.prog 47 [.int .i64 1, .agg #[.int .i64 ((wd : Nat) : Int), .int .u64 ((xa : Nat) : Int), .int .u64 ((xb : Nat) : Int), .int .u64 ((ins : Nat) : Int)]] w fun v w' => v = .int .u64 ((cutN wd (cutN wd xa + cutN wd xb) : Nat) : Int) ∧ Tch N0 w w' := by
  refine enter Try.func47 rfl rfl ?_
  refine W_seq ?_
  refine W_region (by kernel_rfl) ?_
  refine st (by rfl) (S_new (v := .pointer (some ⟨w.heap.size, 0, none⟩)) (ob := .cells #[.int .i64 ((wd : Nat) : Int), .int .u64 ((xa : Nat) : Int), .int .u64 ((xb : Nat) : Int), .int .u64 ((ins : Nat) : Int)] 46) (by kernel_rfl) fun w1 hT2 hs3 hB4 => ?_)
  replace hB4 : Blk w1 (w.heap.size) 46 [.int .i64 ((wd : Nat) : Int), .int .u64 ((xa : Nat) : Int), .int .u64 ((xb : Nat) : Int), .int .u64 ((ins : Nat) : Int)] := hB4
  have hT0 := hT2
  refine sg [(4, .int .u64 0)] (by kernel_rfl) ?_
  refine op_nil ?_
  refine W_seq ?_
  refine W_region (by kernel_rfl) ?_
  refine sg [(8, .int .i64 1), (9, .pointer (some ⟨w.heap.size, 0, none⟩))] (by kernel_rfl) ?_
  refine st (by rfl) (S_val (v := .int .i64 ((wd : Nat) : Int)) (R_load (v := .int .i64 ((wd : Nat) : Int)) (by kernel_rfl) (by kernel_rfl) ((hB4.cell 0).trans rfl)) ?_)
  refine sg [(11, .pointer (some ⟨w.heap.size, 1, none⟩))] (by kernel_rfl) ?_
  refine st (by rfl) (S_val (v := .int .u64 ((xa : Nat) : Int)) (R_load (v := .int .u64 ((xa : Nat) : Int)) (by kernel_rfl) (by kernel_rfl) ((hB4.cell 1).trans rfl)) ?_)
  refine sg [(13, .pointer (some ⟨w.heap.size, 2, none⟩))] (by kernel_rfl) ?_
  refine st (by rfl) (S_val (v := .int .u64 ((xb : Nat) : Int)) (R_load (v := .int .u64 ((xb : Nat) : Int)) (by kernel_rfl) (by kernel_rfl) ((hB4.cell 2).trans rfl)) ?_)
  refine st (by rfl) (S_call (args := [.int .i64 1, .int .i64 ((wd : Nat) : Int), .int .u64 ((xa : Nat) : Int), .int .u64 ((xb : Nat) : Int)]) (by kernel_rfl) (rbin1_ok wd xa xb _ h1 h2 ha hb) ?_)
  rintro _ w5 ⟨rfl, hT6⟩
  have hT0 := hT0.t0 hT6
  have hB4 := hB4.tch0 hT6
  refine sg [(7, .tuple #[.int .u64 ((cutN wd (cutN wd xa + cutN wd xb) : Nat) : Int), .int .i64 0]), (16, .int .u64 ((cutN wd (cutN wd xa + cutN wd xb) : Nat) : Int)), (17, .int .i64 0), (5, .int .u64 ((cutN wd (cutN wd xa + cutN wd xb) : Nat) : Int)), (6, .int .i64 0)] (by kernel_rfl) ?_
  refine op_nil ?_
  refine W_seq ?_
  refine W_fg [(0, .int .i64 1), (1, .agg #[.int .i64 ((wd : Nat) : Int), .int .u64 ((xa : Nat) : Int), .int .u64 ((xb : Nat) : Int), .int .u64 ((ins : Nat) : Int)]), (3, .pointer (some ⟨w.heap.size, 0, none⟩)), (4, .int .u64 0), (5, .int .u64 ((cutN wd (cutN wd xa + cutN wd xb) : Nat) : Int))] (by kernel_rfl) fun ρ => ?_
  refine W_region (by kernel_rfl) ?_
  refine sg [(18, .int .u64 ((cutN wd (cutN wd xa + cutN wd xb) : Nat) : Int)), (4, .int .u64 ((cutN wd (cutN wd xa + cutN wd xb) : Nat) : Int))] (by kernel_rfl) ?_
  refine op_nil ?_
  refine W_ret ?_
  exact ⟨_, Res_of (v := .int .u64 ((cutN wd (cutN wd xa + cutN wd xb) : Nat) : Int)) (by kernel_rfl), ⟨rfl, hT0⟩⟩

set_option maxRecDepth 100000 in
theorem binary2_ok (wd xa xb ins : Nat) (w : World) (h1 : 1 ≤ wd) (h2 : wd ≤ 64) (ha : xa < 18446744073709551616) (hb : xb < 18446744073709551616) : Ret Try.prog 47 [.int .i64 2, .agg #[.int .i64 ((wd : Nat) : Int), .int .u64 ((xa : Nat) : Int), .int .u64 ((xb : Nat) : Int), .int .u64 ((ins : Nat) : Int)]] w fun v w' => v = .int .u64 ((subN wd (cutN wd xa) (cutN wd xb) : Nat) : Int) ∧ Tch N0 w w' := by
  refine enter Try.func47 rfl rfl ?_
  refine W_seq ?_
  refine W_region (by kernel_rfl) ?_
  refine st (by rfl) (S_new (v := .pointer (some ⟨w.heap.size, 0, none⟩)) (ob := .cells #[.int .i64 ((wd : Nat) : Int), .int .u64 ((xa : Nat) : Int), .int .u64 ((xb : Nat) : Int), .int .u64 ((ins : Nat) : Int)] 46) (by kernel_rfl) fun w1 hT2 hs3 hB4 => ?_)
  replace hB4 : Blk w1 (w.heap.size) 46 [.int .i64 ((wd : Nat) : Int), .int .u64 ((xa : Nat) : Int), .int .u64 ((xb : Nat) : Int), .int .u64 ((ins : Nat) : Int)] := hB4
  have hT0 := hT2
  refine sg [(4, .int .u64 0)] (by kernel_rfl) ?_
  refine op_nil ?_
  refine W_seq ?_
  refine W_region (by kernel_rfl) ?_
  refine sg [(8, .int .i64 2), (9, .pointer (some ⟨w.heap.size, 0, none⟩))] (by kernel_rfl) ?_
  refine st (by rfl) (S_val (v := .int .i64 ((wd : Nat) : Int)) (R_load (v := .int .i64 ((wd : Nat) : Int)) (by kernel_rfl) (by kernel_rfl) ((hB4.cell 0).trans rfl)) ?_)
  refine sg [(11, .pointer (some ⟨w.heap.size, 1, none⟩))] (by kernel_rfl) ?_
  refine st (by rfl) (S_val (v := .int .u64 ((xa : Nat) : Int)) (R_load (v := .int .u64 ((xa : Nat) : Int)) (by kernel_rfl) (by kernel_rfl) ((hB4.cell 1).trans rfl)) ?_)
  refine sg [(13, .pointer (some ⟨w.heap.size, 2, none⟩))] (by kernel_rfl) ?_
  refine st (by rfl) (S_val (v := .int .u64 ((xb : Nat) : Int)) (R_load (v := .int .u64 ((xb : Nat) : Int)) (by kernel_rfl) (by kernel_rfl) ((hB4.cell 2).trans rfl)) ?_)
  refine st (by rfl) (S_call (args := [.int .i64 2, .int .i64 ((wd : Nat) : Int), .int .u64 ((xa : Nat) : Int), .int .u64 ((xb : Nat) : Int)]) (by kernel_rfl) (rbin2_ok wd xa xb _ h1 h2 ha hb) ?_)
  rintro _ w5 ⟨rfl, hT6⟩
  have hT0 := hT0.t0 hT6
  have hB4 := hB4.tch0 hT6
  refine sg [(7, .tuple #[.int .u64 ((subN wd (cutN wd xa) (cutN wd xb) : Nat) : Int), .int .i64 0]), (16, .int .u64 ((subN wd (cutN wd xa) (cutN wd xb) : Nat) : Int)), (17, .int .i64 0), (5, .int .u64 ((subN wd (cutN wd xa) (cutN wd xb) : Nat) : Int)), (6, .int .i64 0)] (by kernel_rfl) ?_
  refine op_nil ?_
  refine W_seq ?_
  refine W_fg [(0, .int .i64 2), (1, .agg #[.int .i64 ((wd : Nat) : Int), .int .u64 ((xa : Nat) : Int), .int .u64 ((xb : Nat) : Int), .int .u64 ((ins : Nat) : Int)]), (3, .pointer (some ⟨w.heap.size, 0, none⟩)), (4, .int .u64 0), (5, .int .u64 ((subN wd (cutN wd xa) (cutN wd xb) : Nat) : Int))] (by kernel_rfl) fun ρ => ?_
  refine W_region (by kernel_rfl) ?_
  refine sg [(18, .int .u64 ((subN wd (cutN wd xa) (cutN wd xb) : Nat) : Int)), (4, .int .u64 ((subN wd (cutN wd xa) (cutN wd xb) : Nat) : Int))] (by kernel_rfl) ?_
  refine op_nil ?_
  refine W_ret ?_
  exact ⟨_, Res_of (v := .int .u64 ((subN wd (cutN wd xa) (cutN wd xb) : Nat) : Int)) (by kernel_rfl), ⟨rfl, hT0⟩⟩

set_option maxRecDepth 100000 in
theorem binary12_ok (wd xa xb ins : Nat) (w : World) (h1 : 1 ≤ wd) (h2 : wd ≤ 64) (ha : xa < 18446744073709551616) (hb : xb < 18446744073709551616) : Ret Try.prog 47 [.int .i64 12, .agg #[.int .i64 ((wd : Nat) : Int), .int .u64 ((xa : Nat) : Int), .int .u64 ((xb : Nat) : Int), .int .u64 ((ins : Nat) : Int)]] w fun v w' => v = .int .u64 ((bitN (decide (cutN wd xa = cutN wd xb)) : Nat) : Int) ∧ Tch N0 w w' := by
  refine enter Try.func47 rfl rfl ?_
  refine W_seq ?_
  refine W_region (by kernel_rfl) ?_
  refine st (by rfl) (S_new (v := .pointer (some ⟨w.heap.size, 0, none⟩)) (ob := .cells #[.int .i64 ((wd : Nat) : Int), .int .u64 ((xa : Nat) : Int), .int .u64 ((xb : Nat) : Int), .int .u64 ((ins : Nat) : Int)] 46) (by kernel_rfl) fun w1 hT2 hs3 hB4 => ?_)
  replace hB4 : Blk w1 (w.heap.size) 46 [.int .i64 ((wd : Nat) : Int), .int .u64 ((xa : Nat) : Int), .int .u64 ((xb : Nat) : Int), .int .u64 ((ins : Nat) : Int)] := hB4
  have hT0 := hT2
  refine sg [(4, .int .u64 0)] (by kernel_rfl) ?_
  refine op_nil ?_
  refine W_seq ?_
  refine W_region (by kernel_rfl) ?_
  refine sg [(8, .int .i64 12), (9, .pointer (some ⟨w.heap.size, 0, none⟩))] (by kernel_rfl) ?_
  refine st (by rfl) (S_val (v := .int .i64 ((wd : Nat) : Int)) (R_load (v := .int .i64 ((wd : Nat) : Int)) (by kernel_rfl) (by kernel_rfl) ((hB4.cell 0).trans rfl)) ?_)
  refine sg [(11, .pointer (some ⟨w.heap.size, 1, none⟩))] (by kernel_rfl) ?_
  refine st (by rfl) (S_val (v := .int .u64 ((xa : Nat) : Int)) (R_load (v := .int .u64 ((xa : Nat) : Int)) (by kernel_rfl) (by kernel_rfl) ((hB4.cell 1).trans rfl)) ?_)
  refine sg [(13, .pointer (some ⟨w.heap.size, 2, none⟩))] (by kernel_rfl) ?_
  refine st (by rfl) (S_val (v := .int .u64 ((xb : Nat) : Int)) (R_load (v := .int .u64 ((xb : Nat) : Int)) (by kernel_rfl) (by kernel_rfl) ((hB4.cell 2).trans rfl)) ?_)
  refine st (by rfl) (S_call (args := [.int .i64 12, .int .i64 ((wd : Nat) : Int), .int .u64 ((xa : Nat) : Int), .int .u64 ((xb : Nat) : Int)]) (by kernel_rfl) (rbin12_ok wd xa xb _ h1 h2 ha hb) ?_)
  rintro _ w5 ⟨rfl, hT6⟩
  have hT0 := hT0.t0 hT6
  have hB4 := hB4.tch0 hT6
  refine sg [(7, .tuple #[.int .u64 ((bitN (decide (cutN wd xa = cutN wd xb)) : Nat) : Int), .int .i64 0]), (16, .int .u64 ((bitN (decide (cutN wd xa = cutN wd xb)) : Nat) : Int)), (17, .int .i64 0), (5, .int .u64 ((bitN (decide (cutN wd xa = cutN wd xb)) : Nat) : Int)), (6, .int .i64 0)] (by kernel_rfl) ?_
  refine op_nil ?_
  refine W_seq ?_
  refine W_fg [(0, .int .i64 12), (1, .agg #[.int .i64 ((wd : Nat) : Int), .int .u64 ((xa : Nat) : Int), .int .u64 ((xb : Nat) : Int), .int .u64 ((ins : Nat) : Int)]), (3, .pointer (some ⟨w.heap.size, 0, none⟩)), (4, .int .u64 0), (5, .int .u64 ((bitN (decide (cutN wd xa = cutN wd xb)) : Nat) : Int))] (by kernel_rfl) fun ρ => ?_
  refine W_region (by kernel_rfl) ?_
  refine sg [(18, .int .u64 ((bitN (decide (cutN wd xa = cutN wd xb)) : Nat) : Int)), (4, .int .u64 ((bitN (decide (cutN wd xa = cutN wd xb)) : Nat) : Int))] (by kernel_rfl) ?_
  refine op_nil ?_
  refine W_ret ?_
  exact ⟨_, Res_of (v := .int .u64 ((bitN (decide (cutN wd xa = cutN wd xb)) : Nat) : Int)) (by kernel_rfl), ⟨rfl, hT0⟩⟩

set_option maxRecDepth 100000 in
theorem binary13_ok (wd xa xb ins : Nat) (w : World) (h1 : 1 ≤ wd) (h2 : wd ≤ 64) (ha : xa < 18446744073709551616) (hb : xb < 18446744073709551616) : Ret Try.prog 47 [.int .i64 13, .agg #[.int .i64 ((wd : Nat) : Int), .int .u64 ((xa : Nat) : Int), .int .u64 ((xb : Nat) : Int), .int .u64 ((ins : Nat) : Int)]] w fun v w' => v = .int .u64 ((bitN (decide (cutN wd xa < cutN wd xb)) : Nat) : Int) ∧ Tch N0 w w' := by
  refine enter Try.func47 rfl rfl ?_
  refine W_seq ?_
  refine W_region (by kernel_rfl) ?_
  refine st (by rfl) (S_new (v := .pointer (some ⟨w.heap.size, 0, none⟩)) (ob := .cells #[.int .i64 ((wd : Nat) : Int), .int .u64 ((xa : Nat) : Int), .int .u64 ((xb : Nat) : Int), .int .u64 ((ins : Nat) : Int)] 46) (by kernel_rfl) fun w1 hT2 hs3 hB4 => ?_)
  replace hB4 : Blk w1 (w.heap.size) 46 [.int .i64 ((wd : Nat) : Int), .int .u64 ((xa : Nat) : Int), .int .u64 ((xb : Nat) : Int), .int .u64 ((ins : Nat) : Int)] := hB4
  have hT0 := hT2
  refine sg [(4, .int .u64 0)] (by kernel_rfl) ?_
  refine op_nil ?_
  refine W_seq ?_
  refine W_region (by kernel_rfl) ?_
  refine sg [(8, .int .i64 13), (9, .pointer (some ⟨w.heap.size, 0, none⟩))] (by kernel_rfl) ?_
  refine st (by rfl) (S_val (v := .int .i64 ((wd : Nat) : Int)) (R_load (v := .int .i64 ((wd : Nat) : Int)) (by kernel_rfl) (by kernel_rfl) ((hB4.cell 0).trans rfl)) ?_)
  refine sg [(11, .pointer (some ⟨w.heap.size, 1, none⟩))] (by kernel_rfl) ?_
  refine st (by rfl) (S_val (v := .int .u64 ((xa : Nat) : Int)) (R_load (v := .int .u64 ((xa : Nat) : Int)) (by kernel_rfl) (by kernel_rfl) ((hB4.cell 1).trans rfl)) ?_)
  refine sg [(13, .pointer (some ⟨w.heap.size, 2, none⟩))] (by kernel_rfl) ?_
  refine st (by rfl) (S_val (v := .int .u64 ((xb : Nat) : Int)) (R_load (v := .int .u64 ((xb : Nat) : Int)) (by kernel_rfl) (by kernel_rfl) ((hB4.cell 2).trans rfl)) ?_)
  refine st (by rfl) (S_call (args := [.int .i64 13, .int .i64 ((wd : Nat) : Int), .int .u64 ((xa : Nat) : Int), .int .u64 ((xb : Nat) : Int)]) (by kernel_rfl) (rbin13_ok wd xa xb _ h1 h2 ha hb) ?_)
  rintro _ w5 ⟨rfl, hT6⟩
  have hT0 := hT0.t0 hT6
  have hB4 := hB4.tch0 hT6
  refine sg [(7, .tuple #[.int .u64 ((bitN (decide (cutN wd xa < cutN wd xb)) : Nat) : Int), .int .i64 0]), (16, .int .u64 ((bitN (decide (cutN wd xa < cutN wd xb)) : Nat) : Int)), (17, .int .i64 0), (5, .int .u64 ((bitN (decide (cutN wd xa < cutN wd xb)) : Nat) : Int)), (6, .int .i64 0)] (by kernel_rfl) ?_
  refine op_nil ?_
  refine W_seq ?_
  refine W_fg [(0, .int .i64 13), (1, .agg #[.int .i64 ((wd : Nat) : Int), .int .u64 ((xa : Nat) : Int), .int .u64 ((xb : Nat) : Int), .int .u64 ((ins : Nat) : Int)]), (3, .pointer (some ⟨w.heap.size, 0, none⟩)), (4, .int .u64 0), (5, .int .u64 ((bitN (decide (cutN wd xa < cutN wd xb)) : Nat) : Int))] (by kernel_rfl) fun ρ => ?_
  refine W_region (by kernel_rfl) ?_
  refine sg [(18, .int .u64 ((bitN (decide (cutN wd xa < cutN wd xb)) : Nat) : Int)), (4, .int .u64 ((bitN (decide (cutN wd xa < cutN wd xb)) : Nat) : Int))] (by kernel_rfl) ?_
  refine op_nil ?_
  refine W_ret ?_
  exact ⟨_, Res_of (v := .int .u64 ((bitN (decide (cutN wd xa < cutN wd xb)) : Nat) : Int)) (by kernel_rfl), ⟨rfl, hT0⟩⟩

set_option maxRecDepth 100000 in
theorem binary14_ok (wd xa xb ins : Nat) (w : World) (h1 : 1 ≤ wd) (h2 : wd ≤ 64) (ha : xa < 18446744073709551616) (hb : xb < 18446744073709551616) : Ret Try.prog 47 [.int .i64 14, .agg #[.int .i64 ((wd : Nat) : Int), .int .u64 ((xa : Nat) : Int), .int .u64 ((xb : Nat) : Int), .int .u64 ((ins : Nat) : Int)]] w fun v w' => v = .int .u64 ((bitN (decide (sgn wd xa < sgn wd xb)) : Nat) : Int) ∧ Tch N0 w w' := by
  refine enter Try.func47 rfl rfl ?_
  refine W_seq ?_
  refine W_region (by kernel_rfl) ?_
  refine st (by rfl) (S_new (v := .pointer (some ⟨w.heap.size, 0, none⟩)) (ob := .cells #[.int .i64 ((wd : Nat) : Int), .int .u64 ((xa : Nat) : Int), .int .u64 ((xb : Nat) : Int), .int .u64 ((ins : Nat) : Int)] 46) (by kernel_rfl) fun w1 hT2 hs3 hB4 => ?_)
  replace hB4 : Blk w1 (w.heap.size) 46 [.int .i64 ((wd : Nat) : Int), .int .u64 ((xa : Nat) : Int), .int .u64 ((xb : Nat) : Int), .int .u64 ((ins : Nat) : Int)] := hB4
  have hT0 := hT2
  refine sg [(4, .int .u64 0)] (by kernel_rfl) ?_
  refine op_nil ?_
  refine W_seq ?_
  refine W_region (by kernel_rfl) ?_
  refine sg [(8, .int .i64 14), (9, .pointer (some ⟨w.heap.size, 0, none⟩))] (by kernel_rfl) ?_
  refine st (by rfl) (S_val (v := .int .i64 ((wd : Nat) : Int)) (R_load (v := .int .i64 ((wd : Nat) : Int)) (by kernel_rfl) (by kernel_rfl) ((hB4.cell 0).trans rfl)) ?_)
  refine sg [(11, .pointer (some ⟨w.heap.size, 1, none⟩))] (by kernel_rfl) ?_
  refine st (by rfl) (S_val (v := .int .u64 ((xa : Nat) : Int)) (R_load (v := .int .u64 ((xa : Nat) : Int)) (by kernel_rfl) (by kernel_rfl) ((hB4.cell 1).trans rfl)) ?_)
  refine sg [(13, .pointer (some ⟨w.heap.size, 2, none⟩))] (by kernel_rfl) ?_
  refine st (by rfl) (S_val (v := .int .u64 ((xb : Nat) : Int)) (R_load (v := .int .u64 ((xb : Nat) : Int)) (by kernel_rfl) (by kernel_rfl) ((hB4.cell 2).trans rfl)) ?_)
  refine st (by rfl) (S_call (args := [.int .i64 14, .int .i64 ((wd : Nat) : Int), .int .u64 ((xa : Nat) : Int), .int .u64 ((xb : Nat) : Int)]) (by kernel_rfl) (rbin14_ok wd xa xb _ h1 h2 ha hb) ?_)
  rintro _ w5 ⟨rfl, hT6⟩
  have hT0 := hT0.t0 hT6
  have hB4 := hB4.tch0 hT6
  refine sg [(7, .tuple #[.int .u64 ((bitN (decide (sgn wd xa < sgn wd xb)) : Nat) : Int), .int .i64 0]), (16, .int .u64 ((bitN (decide (sgn wd xa < sgn wd xb)) : Nat) : Int)), (17, .int .i64 0), (5, .int .u64 ((bitN (decide (sgn wd xa < sgn wd xb)) : Nat) : Int)), (6, .int .i64 0)] (by kernel_rfl) ?_
  refine op_nil ?_
  refine W_seq ?_
  refine W_fg [(0, .int .i64 14), (1, .agg #[.int .i64 ((wd : Nat) : Int), .int .u64 ((xa : Nat) : Int), .int .u64 ((xb : Nat) : Int), .int .u64 ((ins : Nat) : Int)]), (3, .pointer (some ⟨w.heap.size, 0, none⟩)), (4, .int .u64 0), (5, .int .u64 ((bitN (decide (sgn wd xa < sgn wd xb)) : Nat) : Int))] (by kernel_rfl) fun ρ => ?_
  refine W_region (by kernel_rfl) ?_
  refine sg [(18, .int .u64 ((bitN (decide (sgn wd xa < sgn wd xb)) : Nat) : Int)), (4, .int .u64 ((bitN (decide (sgn wd xa < sgn wd xb)) : Nat) : Int))] (by kernel_rfl) ?_
  refine op_nil ?_
  refine W_ret ?_
  exact ⟨_, Res_of (v := .int .u64 ((bitN (decide (sgn wd xa < sgn wd xb)) : Nat) : Int)) (by kernel_rfl), ⟨rfl, hT0⟩⟩

set_option maxRecDepth 100000 in
theorem bit_ok (n x : Nat) (K J : Option Addr) (ck cj : Nat) (kn tr : List Bool) (be : Nat → Bool) (bb : Bool) (w : World) (hK : RdW w 1 n K (boolsV kn)) (hJ : RdW w 1 n J (boolsV tr)) (hn : n ≤ 68719476736) (hall : ∀ x, x / 2 < n → kn.getD (x / 2) false = true ∧ hIs kn tr x = lt_ be x) (hx : x / 2 < n) (hv : lt_ be x = bb) : Ret Try.prog 48 [.agg #[.slice K n ck, .slice J n cj], .int .i64 ((x : Nat) : Int), .int .u64 ((bitN bb : Nat) : Int)] w fun v w' => v = .bool true ∧ Tch N0 w w' := by
  refine enter Try.func48 rfl rfl ?_
  refine W_seq ?_
  refine W_region (by kernel_rfl) ?_
  refine st (by rfl) (S_new (v := .pointer (some ⟨w.heap.size, 0, none⟩)) (ob := .cells #[.slice K n ck, .slice J n cj] 54) (by kernel_rfl) fun w1 hT2 hs3 hB4 => ?_)
  replace hB4 : Blk w1 (w.heap.size) 54 [.slice K n ck, .slice J n cj] := hB4
  have hT0 := hT2
  refine sg [(6, .bool false)] (by kernel_rfl) ?_
  refine op_nil ?_
  refine W_seq ?_
  refine W_region (by kernel_rfl) ?_
  refine st (by rfl) (S_val (v := .agg #[.slice K n ck, .slice J n cj]) (R_loadA [.slice K n ck, .slice J n cj] (by kernel_rfl) (by kernel_rfl) (by kernel_rfl) (fun k u hk => by rw [hB4.cell]; exact get_part _ 0 _ k u rfl hk)) ?_)
  refine sg [(11, .int .i64 ((x : Nat) : Int))] (by kernel_rfl) ?_
  refine st (by rfl) (S_call (args := [.agg #[.slice K n ck, .slice J n cj], .int .i64 ((x : Nat) : Int)]) (by kernel_rfl) (holds_is n K J ck cj kn tr x bb _ (hK.tch0 hT0) (hJ.tch0 hT0) hn hx ⟨(hall _ hx).1, (hall _ hx).2.trans hv⟩) ?_)
  rintro _ w5 ⟨rfl, hT6⟩
  have hT0 := hT0.t0 hT6
  have hB4 := hB4.tch0 hT6
  refine sg [(9, .tuple #[.bool bb, .bool true]), (13, .bool bb), (14, .bool true), (7, .bool bb), (8, .bool true)] (by kernel_rfl) ?_
  refine op_nil ?_
  refine W_seq ?_
  refine W_fg [(0, .agg #[.slice K n ck, .slice J n cj]), (1, .int .i64 ((x : Nat) : Int)), (2, .int .u64 ((bitN bb : Nat) : Int)), (3, .pointer (some ⟨w.heap.size, 0, none⟩)), (6, .bool false), (7, .bool bb), (8, .bool true)] (by kernel_rfl) fun ρ => ?_
  refine W_region (by kernel_rfl) ?_
  refine sg [(15, .bool true), (16, .bool true), (17, .bool bb), (18, .int .u64 ((bitN bb : Nat) : Int)), (19, .bool (((bitN bb : Nat) : Int) == 1)), (20, .bool (bb == (((bitN bb : Nat) : Int) == 1))), (21, .bool (bb == (((bitN bb : Nat) : Int) == 1))), (6, .bool (bb == (((bitN bb : Nat) : Int) == 1)))] (by kernel_rfl) ?_
  refine op_nil ?_
  refine W_ret ?_
  exact ⟨_, Res_of (v := .bool (bb == (((bitN bb : Nat) : Int) == 1))) (by kernel_rfl), ⟨congrArg Value.bool (by cases bb <;> rfl), hT0⟩⟩

theorem is_okV (n mm ca : Nat) (K J A : Option Addr) (ck cj : Nat) (kn tr : List Bool) (r : List Nat) (be : Nat → Bool) (x : Nat) (w : World) (hK : RdW w 1 n K (boolsV kn)) (hJ : RdW w 1 n J (boolsV tr)) (hA : RdW w 1 mm A (nats r)) (hn : n ≤ 68719476736) (hall : ∀ x, x / 2 < n → kn.getD (x / 2) false = true ∧ hIs kn tr x = lt_ be x) (hfr : ∀ j, j < mm → r.getD j 0 / 2 < n) (hm2 : mm ≤ 64) (hm1 : 1 ≤ mm) (hx : x < 18446744073709551616) (hv : bval mm (fun j => lt_ be (r.getD j 0)) = cutN mm x) :
    Ret Try.prog 34 [.agg #[.slice K n ck, .slice J n cj], .slice A mm ca, .int .i64 ((mm : Nat) : Int), .int .u64 ((x : Nat) : Int)] w fun v w' => v = .int .i64 1 ∧ Tch N0 w w' :=
  is_ok n mm ca K J A ck cj kn tr r be x w hK hJ hA hn hall hfr hm2 hm1 hx (fun j hj => by
    have := congrArg (fun z => Nat.testBit z j) hv
    simp only [bval_bit, cut_bit, decide_eq_true hj, Bool.true_and] at this
    exact this)

end Go.Proofs.YtnlecdpiccgdpaaV

set_option linter.unusedVariables false
set_option linter.unusedSimpArgs false
namespace Go.Proofs.YtnlecdpiccgdpaaV
open Go Go.RowKit Go.Proofs

theorem u64_mul (a b : Nat) : IntKind.u64.wrap ((a : Int) * (b : Int)) = (((a * b) % 18446744073709551616 : Nat) : Int) := by
  simp only [IntKind.wrap, IntKind.bits, IntKind.signed]; simp
section
variable {P : Program} {ρ : Env} {w : World}
theorem R_quoN {d : Option Tmp} {t u : TypeId} {x y : Operand} {ty : TypeId} {pos : String} {af : Array Edge} {g : Option (Nat × Bool)} {a b : Nat} (hx : evR ρ x = .int .u64 ((a : Nat) : Int)) (hy : evR ρ y = .int .u64 ((b : Nat) : Int)) (hb : 0 < b) (ha : a < 18446744073709551616) :
    (execOp (evR ρ) ⟨d, .binOp .quo t x y u, ty, pos, af, g⟩).run P w = .ok (.value (.int .u64 ((a / b : Nat) : Int))) w := by
  have hd := Nat.div_le_self a b
  have e : ((a : Int) / (b : Int)) = ((a / b : Nat) : Int) := rfl
  have hw : IntKind.u64.wrap ((a / b : Nat) : Int) = ((a / b : Nat) : Int) := by
    generalize a / b = q at *
    exact wrap_u64 (by omega) (by omega)
  rw [R_quo (P := P) (w := w) (d := d) (t := t) (u := u) (ty := ty) (pos := pos) (af := af) (g := g) hx hy (by omega) (by omega) (by rw [e]; exact hw), e]
theorem R_remN {d : Option Tmp} {t u : TypeId} {x y : Operand} {ty : TypeId} {pos : String} {af : Array Edge} {g : Option (Nat × Bool)} {a b : Nat} (hx : evR ρ x = .int .u64 ((a : Nat) : Int)) (hy : evR ρ y = .int .u64 ((b : Nat) : Int)) (hb : 0 < b) :
    (execOp (evR ρ) ⟨d, .binOp .rem t x y u, ty, pos, af, g⟩).run P w = .ok (.value (.int .u64 ((a % b : Nat) : Int))) w := by
  have := R_rem (P := P) (w := w) (d := d) (t := t) (u := u) (ty := ty) (pos := pos) (af := af) (g := g) hx hy (by omega) (by omega)
  rw [this]
  congr 1
end

set_option maxRecDepth 100000 in
theorem rbin3_ok (wd a b : Nat) (w : World) (h1 : 1 ≤ wd) (h2 : wd ≤ 64) (ha : a < 18446744073709551616) (hb : b < 18446744073709551616) : Ret Try.prog 33 [.int .i64 3, .int .i64 ((wd : Nat) : Int), .int .u64 ((a : Nat) : Int), .int .u64 ((b : Nat) : Int)] w fun v w' => v = .tuple #[.int .u64 ((cutN wd (cutN wd a * cutN wd b) : Nat) : Int), .int .i64 0] ∧ Tch N0 w w' := by
  have hp64 := pw64 (w := wd) (by omega)
  have hca := cutN_lt wd a
  have hcb := cutN_lt wd b
  have hpw := pw64 (w := wd) (by omega)
  refine enter Try.func33 rfl rfl ?_
  refine W_seq ?_
  refine W_region (by kernel_rfl) ?_
  refine sg [(8, .int .u64 0), (9, .int .i64 0)] (by kernel_rfl) ?_
  refine op_nil ?_
  refine W_seq ?_
  refine W_seq ?_
  refine W_region (by kernel_rfl) ?_
  refine sg [(11, .int .i64 3), (12, .bool false), (13, .bool false), (14, .int .i64 3), (15, .bool false), (16, .bool false)] (by kernel_rfl) ?_
  refine op_nil ?_
  refine W_cond false (by kernel_rfl) (by kernel_rfl) (fun h => nomatch h) (fun _ => ?_)
  refine W_skip ?_
  refine W_seq ?_
  refine W_seq ?_
  refine W_fg [(0, .int .i64 3), (1, .int .i64 ((wd : Nat) : Int)), (2, .int .u64 ((a : Nat) : Int)), (3, .int .u64 ((b : Nat) : Int)), (8, .int .u64 0), (9, .int .i64 0), (16, .bool false)] (by kernel_rfl) fun ρ => ?_
  refine W_region (by kernel_rfl) ?_
  refine sg [(17, .int .i64 ((wd : Nat) : Int))] (by kernel_rfl) ?_
  refine st (by rfl) (S_call (args := [.int .i64 ((wd : Nat) : Int)]) (by kernel_rfl) (rfits_t wd _ (by omega) (by omega)) ?_)
  rintro _ w1 ⟨rfl, hT2⟩
  have hT0 := hT2
  refine sg [(19, .bool false)] (by kernel_rfl) ?_
  refine op_nil ?_
  refine W_cond false (by kernel_rfl) (by kernel_rfl) (fun h => nomatch h) (fun _ => ?_)
  refine W_skip ?_
  refine W_seq ?_
  refine W_region (by kernel_rfl) ?_
  refine sg [(20, .int .i64 ((wd : Nat) : Int)), (21, .int .u64 ((a : Nat) : Int))] (by kernel_rfl) ?_
  refine st (by rfl) (S_call (args := [.int .i64 ((wd : Nat) : Int), .int .u64 ((a : Nat) : Int)]) (by kernel_rfl) (rcut_ok wd a _ (by omega) (by omega) (by first | omega | exact bval_u (by omega) | (unfold bitN; split <;> omega))) ?_)
  rintro _ w3 ⟨rfl, hT4⟩
  have hT0 := hT0.t0 hT4
  have hcl5 := cutN_lt wd a
  refine sg [(2, .int .u64 ((cutN wd a : Nat) : Int))] (by kernel_rfl) ?_
  refine op_nil ?_
  refine W_seq ?_
  refine W_region (by kernel_rfl) ?_
  refine sg [(23, .int .i64 ((wd : Nat) : Int)), (24, .int .u64 ((b : Nat) : Int))] (by kernel_rfl) ?_
  refine st (by rfl) (S_call (args := [.int .i64 ((wd : Nat) : Int), .int .u64 ((b : Nat) : Int)]) (by kernel_rfl) (rcut_ok wd b _ (by omega) (by omega) (by first | omega | exact bval_u (by omega) | (unfold bitN; split <;> omega))) ?_)
  rintro _ w6 ⟨rfl, hT7⟩
  have hT0 := hT0.t0 hT7
  have hcl8 := cutN_lt wd b
  refine sg [(3, .int .u64 ((cutN wd b : Nat) : Int))] (by kernel_rfl) ?_
  refine op_nil ?_
  refine W_seq ?_
  refine W_fg [(0, .int .i64 3), (1, .int .i64 ((wd : Nat) : Int)), (2, .int .u64 ((cutN wd a : Nat) : Int)), (3, .int .u64 ((cutN wd b : Nat) : Int)), (8, .int .u64 0), (9, .int .i64 0), (16, .bool false), (19, .bool false)] (by kernel_rfl) fun ρ => ?_
  refine W_region (by kernel_rfl) ?_
  refine sg [(10, .int .u64 0)] (by kernel_rfl) ?_
  refine op_nil ?_
  refine W_seq ?_
  refine W_seq ?_
  refine W_region (by kernel_rfl) ?_
  refine sg [(26, .int .i64 3)] (by kernel_rfl) ?_
  refine op_nil ?_
  refine W_block ?_
  refine W_seq ?_
  refine W_region (by kernel_rfl) ?_
  refine sg [(33, .bool false), (32, .bool false)] (by kernel_rfl) ?_
  refine op_nil ?_
  refine W_cond false (by kernel_rfl) (by kernel_rfl) (fun h => nomatch h) (fun _ => ?_)
  refine W_seq ?_
  refine W_region (by kernel_rfl) ?_
  refine sg [(38, .bool false), (37, .bool false)] (by kernel_rfl) ?_
  refine op_nil ?_
  refine W_cond false (by kernel_rfl) (by kernel_rfl) (fun h => nomatch h) (fun _ => ?_)
  refine W_seq ?_
  refine W_region (by kernel_rfl) ?_
  refine sg [(43, .bool true), (42, .bool true)] (by kernel_rfl) ?_
  refine op_nil ?_
  refine W_cond true (by kernel_rfl) (by kernel_rfl) (fun _ => ?_) (fun h => nomatch h)
  refine W_fg [(0, .int .i64 3), (1, .int .i64 ((wd : Nat) : Int)), (2, .int .u64 ((cutN wd a : Nat) : Int)), (3, .int .u64 ((cutN wd b : Nat) : Int)), (8, .int .u64 0), (9, .int .i64 0), (10, .int .u64 0), (16, .bool false), (19, .bool false), (26, .int .i64 3), (32, .bool false), (37, .bool false), (42, .bool true)] (by kernel_rfl) fun ρ => ?_
  refine W_region (by kernel_rfl) ?_
  refine sg [(44, .int .u64 ((cutN wd a : Nat) : Int)), (45, .int .u64 ((cutN wd b : Nat) : Int))] (by kernel_rfl) ?_
  refine sg [(46, .int .u64 (IntKind.u64.wrap (((cutN wd a : Nat) : Int) * ((cutN wd b : Nat) : Int))))] (by kernel_rfl) ?_
  rw [u64_mul (cutN wd a) (cutN wd b)]
  refine sg [(10, .int .u64 (((cutN wd a * cutN wd b) % 18446744073709551616 : Nat) : Int))] (by kernel_rfl) ?_
  refine op_nil ?_
  refine W_seq ?_
  refine W_region (by kernel_rfl) ?_
  refine sg [(101, .int .i64 ((wd : Nat) : Int)), (102, .int .u64 (((cutN wd a * cutN wd b) % 18446744073709551616 : Nat) : Int))] (by kernel_rfl) ?_
  refine st (by rfl) (S_call (args := [.int .i64 ((wd : Nat) : Int), .int .u64 (((cutN wd a * cutN wd b) % 18446744073709551616 : Nat) : Int)]) (by kernel_rfl) (rcut_ok wd ((cutN wd a * cutN wd b) % 18446744073709551616) _ (by omega) (by omega) (by first | omega | exact bval_u (by omega) | (unfold bitN; split <;> omega))) ?_)
  rintro _ w9 ⟨rfl, hT10⟩
  have hT0 := hT0.t0 hT10
  have hcl11 := cutN_lt wd ((cutN wd a * cutN wd b) % 18446744073709551616)
  refine sg [(8, .int .u64 ((cutN wd ((cutN wd a * cutN wd b) % 18446744073709551616) : Nat) : Int)), (9, .int .i64 0)] (by kernel_rfl) ?_
  refine op_nil ?_
  refine W_ret ?_
  exact ⟨_, Res_of (v := .tuple #[.int .u64 ((cutN wd ((cutN wd a * cutN wd b) % 18446744073709551616) : Nat) : Int), .int .i64 0]) (by kernel_rfl), ⟨by rw [cut_of64 (by omega)], hT0⟩⟩

set_option maxRecDepth 100000 in
theorem rbin4_ok (wd a b : Nat) (w : World) (h1 : 1 ≤ wd) (h2 : wd ≤ 64) (ha : a < 18446744073709551616) (hb : b < 18446744073709551616) : Ret Try.prog 33 [.int .i64 4, .int .i64 ((wd : Nat) : Int), .int .u64 ((a : Nat) : Int), .int .u64 ((b : Nat) : Int)] w fun v w' => v = .tuple #[.int .u64 ((cutN wd (if cutN wd b = 0 then pw wd - 1 else cutN wd a / cutN wd b) : Nat) : Int), .int .i64 0] ∧ Tch N0 w w' := by
  have hp64 := pw64 (w := wd) (by omega)
  have hca := cutN_lt wd a
  have hcb := cutN_lt wd b
  have hpw := pw64 (w := wd) (by omega)
  have hdq := Nat.div_le_self (cutN wd a) (cutN wd b)
  have hdm := Nat.mod_le (cutN wd a) (cutN wd b)
  refine enter Try.func33 rfl rfl ?_
  refine W_seq ?_
  refine W_region (by kernel_rfl) ?_
  refine sg [(8, .int .u64 0), (9, .int .i64 0)] (by kernel_rfl) ?_
  refine op_nil ?_
  refine W_seq ?_
  refine W_seq ?_
  refine W_region (by kernel_rfl) ?_
  refine sg [(11, .int .i64 4), (12, .bool false), (13, .bool false), (14, .int .i64 4), (15, .bool false), (16, .bool false)] (by kernel_rfl) ?_
  refine op_nil ?_
  refine W_cond false (by kernel_rfl) (by kernel_rfl) (fun h => nomatch h) (fun _ => ?_)
  refine W_skip ?_
  refine W_seq ?_
  refine W_seq ?_
  refine W_fg [(0, .int .i64 4), (1, .int .i64 ((wd : Nat) : Int)), (2, .int .u64 ((a : Nat) : Int)), (3, .int .u64 ((b : Nat) : Int)), (8, .int .u64 0), (9, .int .i64 0), (16, .bool false)] (by kernel_rfl) fun ρ => ?_
  refine W_region (by kernel_rfl) ?_
  refine sg [(17, .int .i64 ((wd : Nat) : Int))] (by kernel_rfl) ?_
  refine st (by rfl) (S_call (args := [.int .i64 ((wd : Nat) : Int)]) (by kernel_rfl) (rfits_t wd _ (by omega) (by omega)) ?_)
  rintro _ w1 ⟨rfl, hT2⟩
  have hT0 := hT2
  refine sg [(19, .bool false)] (by kernel_rfl) ?_
  refine op_nil ?_
  refine W_cond false (by kernel_rfl) (by kernel_rfl) (fun h => nomatch h) (fun _ => ?_)
  refine W_skip ?_
  refine W_seq ?_
  refine W_region (by kernel_rfl) ?_
  refine sg [(20, .int .i64 ((wd : Nat) : Int)), (21, .int .u64 ((a : Nat) : Int))] (by kernel_rfl) ?_
  refine st (by rfl) (S_call (args := [.int .i64 ((wd : Nat) : Int), .int .u64 ((a : Nat) : Int)]) (by kernel_rfl) (rcut_ok wd a _ (by omega) (by omega) (by first | omega | exact bval_u (by omega) | (unfold bitN; split <;> omega))) ?_)
  rintro _ w3 ⟨rfl, hT4⟩
  have hT0 := hT0.t0 hT4
  have hcl5 := cutN_lt wd a
  refine sg [(2, .int .u64 ((cutN wd a : Nat) : Int))] (by kernel_rfl) ?_
  refine op_nil ?_
  refine W_seq ?_
  refine W_region (by kernel_rfl) ?_
  refine sg [(23, .int .i64 ((wd : Nat) : Int)), (24, .int .u64 ((b : Nat) : Int))] (by kernel_rfl) ?_
  refine st (by rfl) (S_call (args := [.int .i64 ((wd : Nat) : Int), .int .u64 ((b : Nat) : Int)]) (by kernel_rfl) (rcut_ok wd b _ (by omega) (by omega) (by first | omega | exact bval_u (by omega) | (unfold bitN; split <;> omega))) ?_)
  rintro _ w6 ⟨rfl, hT7⟩
  have hT0 := hT0.t0 hT7
  have hcl8 := cutN_lt wd b
  refine sg [(3, .int .u64 ((cutN wd b : Nat) : Int))] (by kernel_rfl) ?_
  refine op_nil ?_
  refine W_seq ?_
  refine W_fg [(0, .int .i64 4), (1, .int .i64 ((wd : Nat) : Int)), (2, .int .u64 ((cutN wd a : Nat) : Int)), (3, .int .u64 ((cutN wd b : Nat) : Int)), (8, .int .u64 0), (9, .int .i64 0), (16, .bool false), (19, .bool false)] (by kernel_rfl) fun ρ => ?_
  refine W_region (by kernel_rfl) ?_
  refine sg [(10, .int .u64 0)] (by kernel_rfl) ?_
  refine op_nil ?_
  refine W_seq ?_
  refine W_seq ?_
  refine W_region (by kernel_rfl) ?_
  refine sg [(26, .int .i64 4)] (by kernel_rfl) ?_
  refine op_nil ?_
  refine W_block ?_
  refine W_seq ?_
  refine W_region (by kernel_rfl) ?_
  refine sg [(33, .bool false), (32, .bool false)] (by kernel_rfl) ?_
  refine op_nil ?_
  refine W_cond false (by kernel_rfl) (by kernel_rfl) (fun h => nomatch h) (fun _ => ?_)
  refine W_seq ?_
  refine W_region (by kernel_rfl) ?_
  refine sg [(38, .bool false), (37, .bool false)] (by kernel_rfl) ?_
  refine op_nil ?_
  refine W_cond false (by kernel_rfl) (by kernel_rfl) (fun h => nomatch h) (fun _ => ?_)
  refine W_seq ?_
  refine W_region (by kernel_rfl) ?_
  refine sg [(43, .bool false), (42, .bool false)] (by kernel_rfl) ?_
  refine op_nil ?_
  refine W_cond false (by kernel_rfl) (by kernel_rfl) (fun h => nomatch h) (fun _ => ?_)
  refine W_seq ?_
  refine W_fg [(0, .int .i64 4), (1, .int .i64 ((wd : Nat) : Int)), (2, .int .u64 ((cutN wd a : Nat) : Int)), (3, .int .u64 ((cutN wd b : Nat) : Int)), (8, .int .u64 0), (9, .int .i64 0), (10, .int .u64 0), (16, .bool false), (19, .bool false), (26, .int .i64 4), (32, .bool false), (37, .bool false), (42, .bool false)] (by kernel_rfl) fun ρ => ?_
  refine W_region (by kernel_rfl) ?_
  refine sg [(48, .bool true), (47, .bool true)] (by kernel_rfl) ?_
  refine op_nil ?_
  refine W_cond true (by kernel_rfl) (by kernel_rfl) (fun _ => ?_) (fun h => nomatch h)
  refine W_seq ?_
  refine W_region (by kernel_rfl) ?_
  refine sg [(49, .int .i64 ((wd : Nat) : Int))] (by kernel_rfl) ?_
  refine st (by rfl) (S_call (args := [.int .i64 ((wd : Nat) : Int)]) (by kernel_rfl) (rmask_ok wd _ (by omega) (by omega)) ?_)
  rintro _ w9 ⟨rfl, hT10⟩
  have hT0 := hT0.t0 hT10
  refine sg [(10, .int .u64 ((pw wd - 1 : Nat) : Int))] (by kernel_rfl) ?_
  refine op_nil ?_
  refine W_seq ?_
  refine W_region (by kernel_rfl) ?_
  refine sg [(51, .int .u64 ((cutN wd b : Nat) : Int)), (52, .bool (((cutN wd b : Nat) : Int) != 0))] (by kernel_rfl) ?_
  refine op_nil ?_
  refine W_cond (((cutN wd b : Nat) : Int) != 0) (by kernel_rfl) (by kernel_rfl) (fun hc11 => ?_) (fun hc11 => ?_)
  · replace hc11 : ((cutN wd b : Nat) : Int) ≠ 0 := (bne_iff_ne.1 hc11)
    refine W_region (by kernel_rfl) ?_
    refine sg [(53, .int .u64 ((cutN wd a : Nat) : Int)), (54, .int .u64 ((cutN wd b : Nat) : Int))] (by kernel_rfl) ?_
    refine stv (v := .int .u64 ((cutN wd a / cutN wd b : Nat) : Int)) (by rfl) (R_quoN (by kernel_rfl) (by kernel_rfl) (by omega) (by omega)) ?_
    refine sg [(10, .int .u64 ((cutN wd a / cutN wd b : Nat) : Int))] (by kernel_rfl) ?_
    refine op_nil ?_
    refine W_seq ?_
    refine W_fg [(0, .int .i64 4), (1, .int .i64 ((wd : Nat) : Int)), (2, .int .u64 ((cutN wd a : Nat) : Int)), (3, .int .u64 ((cutN wd b : Nat) : Int)), (8, .int .u64 0), (9, .int .i64 0), (10, .int .u64 ((cutN wd a / cutN wd b : Nat) : Int)), (16, .bool false), (19, .bool false), (26, .int .i64 4), (32, .bool false), (37, .bool false), (42, .bool false), (47, .bool true), (52, .bool (((cutN wd b : Nat) : Int) != 0))] (by kernel_rfl) fun ρ => ?_
    refine W_region (by kernel_rfl) ?_
    refine sg [(101, .int .i64 ((wd : Nat) : Int)), (102, .int .u64 ((cutN wd a / cutN wd b : Nat) : Int))] (by kernel_rfl) ?_
    refine st (by rfl) (S_call (args := [.int .i64 ((wd : Nat) : Int), .int .u64 ((cutN wd a / cutN wd b : Nat) : Int)]) (by kernel_rfl) (rcut_ok wd (cutN wd a / cutN wd b) _ (by omega) (by omega) (by first | omega | exact bval_u (by omega) | (unfold bitN; split <;> omega))) ?_)
    rintro _ w12 ⟨rfl, hT13⟩
    have hT0 := hT0.t0 hT13
    have hcl14 := cutN_lt wd (cutN wd a / cutN wd b)
    refine sg [(8, .int .u64 ((cutN wd (cutN wd a / cutN wd b) : Nat) : Int)), (9, .int .i64 0)] (by kernel_rfl) ?_
    refine op_nil ?_
    refine W_ret ?_
    exact ⟨_, Res_of (v := .tuple #[.int .u64 ((cutN wd (cutN wd a / cutN wd b) : Nat) : Int), .int .i64 0]) (by kernel_rfl), ⟨by first | rw [if_pos (show cutN wd b = 0 by omega)] | rw [if_neg (show ¬ cutN wd b = 0 by omega)], hT0⟩⟩
  · replace hc11 : ((cutN wd b : Nat) : Int) = 0 := (bne_eq_false_iff_eq.1 hc11)
    refine W_skip ?_
    refine W_seq ?_
    refine W_region (by kernel_rfl) ?_
    refine sg [(101, .int .i64 ((wd : Nat) : Int)), (102, .int .u64 ((pw wd - 1 : Nat) : Int))] (by kernel_rfl) ?_
    refine st (by rfl) (S_call (args := [.int .i64 ((wd : Nat) : Int), .int .u64 ((pw wd - 1 : Nat) : Int)]) (by kernel_rfl) (rcut_ok wd (pw wd - 1) _ (by omega) (by omega) (by first | omega | exact bval_u (by omega) | (unfold bitN; split <;> omega))) ?_)
    rintro _ w15 ⟨rfl, hT16⟩
    have hT0 := hT0.t0 hT16
    have hcl17 := cutN_lt wd (pw wd - 1)
    refine sg [(8, .int .u64 ((cutN wd (pw wd - 1) : Nat) : Int)), (9, .int .i64 0)] (by kernel_rfl) ?_
    refine op_nil ?_
    refine W_ret ?_
    exact ⟨_, Res_of (v := .tuple #[.int .u64 ((cutN wd (pw wd - 1) : Nat) : Int), .int .i64 0]) (by kernel_rfl), ⟨by first | rw [if_pos (show cutN wd b = 0 by omega)] | rw [if_neg (show ¬ cutN wd b = 0 by omega)], hT0⟩⟩

set_option maxRecDepth 100000 in
theorem rbin5_ok (wd a b : Nat) (w : World) (h1 : 1 ≤ wd) (h2 : wd ≤ 64) (ha : a < 18446744073709551616) (hb : b < 18446744073709551616) : Ret Try.prog 33 [.int .i64 5, .int .i64 ((wd : Nat) : Int), .int .u64 ((a : Nat) : Int), .int .u64 ((b : Nat) : Int)] w fun v w' => v = .tuple #[.int .u64 ((cutN wd (if cutN wd b = 0 then cutN wd a else cutN wd a % cutN wd b) : Nat) : Int), .int .i64 0] ∧ Tch N0 w w' := by
  have hp64 := pw64 (w := wd) (by omega)
  have hca := cutN_lt wd a
  have hcb := cutN_lt wd b
  have hpw := pw64 (w := wd) (by omega)
  have hdq := Nat.div_le_self (cutN wd a) (cutN wd b)
  have hdm := Nat.mod_le (cutN wd a) (cutN wd b)
  refine enter Try.func33 rfl rfl ?_
  refine W_seq ?_
  refine W_region (by kernel_rfl) ?_
  refine sg [(8, .int .u64 0), (9, .int .i64 0)] (by kernel_rfl) ?_
  refine op_nil ?_
  refine W_seq ?_
  refine W_seq ?_
  refine W_region (by kernel_rfl) ?_
  refine sg [(11, .int .i64 5), (12, .bool false), (13, .bool false), (14, .int .i64 5), (15, .bool false), (16, .bool false)] (by kernel_rfl) ?_
  refine op_nil ?_
  refine W_cond false (by kernel_rfl) (by kernel_rfl) (fun h => nomatch h) (fun _ => ?_)
  refine W_skip ?_
  refine W_seq ?_
  refine W_seq ?_
  refine W_fg [(0, .int .i64 5), (1, .int .i64 ((wd : Nat) : Int)), (2, .int .u64 ((a : Nat) : Int)), (3, .int .u64 ((b : Nat) : Int)), (8, .int .u64 0), (9, .int .i64 0), (16, .bool false)] (by kernel_rfl) fun ρ => ?_
  refine W_region (by kernel_rfl) ?_
  refine sg [(17, .int .i64 ((wd : Nat) : Int))] (by kernel_rfl) ?_
  refine st (by rfl) (S_call (args := [.int .i64 ((wd : Nat) : Int)]) (by kernel_rfl) (rfits_t wd _ (by omega) (by omega)) ?_)
  rintro _ w1 ⟨rfl, hT2⟩
  have hT0 := hT2
  refine sg [(19, .bool false)] (by kernel_rfl) ?_
  refine op_nil ?_
  refine W_cond false (by kernel_rfl) (by kernel_rfl) (fun h => nomatch h) (fun _ => ?_)
  refine W_skip ?_
  refine W_seq ?_
  refine W_region (by kernel_rfl) ?_
  refine sg [(20, .int .i64 ((wd : Nat) : Int)), (21, .int .u64 ((a : Nat) : Int))] (by kernel_rfl) ?_
  refine st (by rfl) (S_call (args := [.int .i64 ((wd : Nat) : Int), .int .u64 ((a : Nat) : Int)]) (by kernel_rfl) (rcut_ok wd a _ (by omega) (by omega) (by first | omega | exact bval_u (by omega) | (unfold bitN; split <;> omega))) ?_)
  rintro _ w3 ⟨rfl, hT4⟩
  have hT0 := hT0.t0 hT4
  have hcl5 := cutN_lt wd a
  refine sg [(2, .int .u64 ((cutN wd a : Nat) : Int))] (by kernel_rfl) ?_
  refine op_nil ?_
  refine W_seq ?_
  refine W_region (by kernel_rfl) ?_
  refine sg [(23, .int .i64 ((wd : Nat) : Int)), (24, .int .u64 ((b : Nat) : Int))] (by kernel_rfl) ?_
  refine st (by rfl) (S_call (args := [.int .i64 ((wd : Nat) : Int), .int .u64 ((b : Nat) : Int)]) (by kernel_rfl) (rcut_ok wd b _ (by omega) (by omega) (by first | omega | exact bval_u (by omega) | (unfold bitN; split <;> omega))) ?_)
  rintro _ w6 ⟨rfl, hT7⟩
  have hT0 := hT0.t0 hT7
  have hcl8 := cutN_lt wd b
  refine sg [(3, .int .u64 ((cutN wd b : Nat) : Int))] (by kernel_rfl) ?_
  refine op_nil ?_
  refine W_seq ?_
  refine W_fg [(0, .int .i64 5), (1, .int .i64 ((wd : Nat) : Int)), (2, .int .u64 ((cutN wd a : Nat) : Int)), (3, .int .u64 ((cutN wd b : Nat) : Int)), (8, .int .u64 0), (9, .int .i64 0), (16, .bool false), (19, .bool false)] (by kernel_rfl) fun ρ => ?_
  refine W_region (by kernel_rfl) ?_
  refine sg [(10, .int .u64 0)] (by kernel_rfl) ?_
  refine op_nil ?_
  refine W_seq ?_
  refine W_seq ?_
  refine W_region (by kernel_rfl) ?_
  refine sg [(26, .int .i64 5)] (by kernel_rfl) ?_
  refine op_nil ?_
  refine W_block ?_
  refine W_seq ?_
  refine W_region (by kernel_rfl) ?_
  refine sg [(33, .bool false), (32, .bool false)] (by kernel_rfl) ?_
  refine op_nil ?_
  refine W_cond false (by kernel_rfl) (by kernel_rfl) (fun h => nomatch h) (fun _ => ?_)
  refine W_seq ?_
  refine W_region (by kernel_rfl) ?_
  refine sg [(38, .bool false), (37, .bool false)] (by kernel_rfl) ?_
  refine op_nil ?_
  refine W_cond false (by kernel_rfl) (by kernel_rfl) (fun h => nomatch h) (fun _ => ?_)
  refine W_seq ?_
  refine W_region (by kernel_rfl) ?_
  refine sg [(43, .bool false), (42, .bool false)] (by kernel_rfl) ?_
  refine op_nil ?_
  refine W_cond false (by kernel_rfl) (by kernel_rfl) (fun h => nomatch h) (fun _ => ?_)
  refine W_seq ?_
  refine W_fg [(0, .int .i64 5), (1, .int .i64 ((wd : Nat) : Int)), (2, .int .u64 ((cutN wd a : Nat) : Int)), (3, .int .u64 ((cutN wd b : Nat) : Int)), (8, .int .u64 0), (9, .int .i64 0), (10, .int .u64 0), (16, .bool false), (19, .bool false), (26, .int .i64 5), (32, .bool false), (37, .bool false), (42, .bool false)] (by kernel_rfl) fun ρ => ?_
  refine W_region (by kernel_rfl) ?_
  refine sg [(48, .bool false), (47, .bool false)] (by kernel_rfl) ?_
  refine op_nil ?_
  refine W_cond false (by kernel_rfl) (by kernel_rfl) (fun h => nomatch h) (fun _ => ?_)
  refine W_seq ?_
  refine W_region (by kernel_rfl) ?_
  refine sg [(57, .bool true), (56, .bool true)] (by kernel_rfl) ?_
  refine op_nil ?_
  refine W_cond true (by kernel_rfl) (by kernel_rfl) (fun _ => ?_) (fun h => nomatch h)
  refine W_seq ?_
  refine W_region (by kernel_rfl) ?_
  refine sg [(58, .int .u64 ((cutN wd a : Nat) : Int)), (10, .int .u64 ((cutN wd a : Nat) : Int))] (by kernel_rfl) ?_
  refine op_nil ?_
  refine W_seq ?_
  refine W_region (by kernel_rfl) ?_
  refine sg [(59, .int .u64 ((cutN wd b : Nat) : Int)), (60, .bool (((cutN wd b : Nat) : Int) != 0))] (by kernel_rfl) ?_
  refine op_nil ?_
  refine W_cond (((cutN wd b : Nat) : Int) != 0) (by kernel_rfl) (by kernel_rfl) (fun hc9 => ?_) (fun hc9 => ?_)
  · replace hc9 : ((cutN wd b : Nat) : Int) ≠ 0 := (bne_iff_ne.1 hc9)
    refine W_fg [(0, .int .i64 5), (1, .int .i64 ((wd : Nat) : Int)), (2, .int .u64 ((cutN wd a : Nat) : Int)), (3, .int .u64 ((cutN wd b : Nat) : Int)), (8, .int .u64 0), (9, .int .i64 0), (10, .int .u64 ((cutN wd a : Nat) : Int)), (16, .bool false), (19, .bool false), (26, .int .i64 5), (32, .bool false), (37, .bool false), (42, .bool false), (47, .bool false), (56, .bool true), (60, .bool (((cutN wd b : Nat) : Int) != 0))] (by kernel_rfl) fun ρ => ?_
    refine W_region (by kernel_rfl) ?_
    refine sg [(61, .int .u64 ((cutN wd a : Nat) : Int)), (62, .int .u64 ((cutN wd b : Nat) : Int))] (by kernel_rfl) ?_
    refine stv (v := .int .u64 ((cutN wd a % cutN wd b : Nat) : Int)) (by rfl) (R_remN (by kernel_rfl) (by kernel_rfl) (by omega)) ?_
    refine sg [(10, .int .u64 ((cutN wd a % cutN wd b : Nat) : Int))] (by kernel_rfl) ?_
    refine op_nil ?_
    refine W_seq ?_
    refine W_region (by kernel_rfl) ?_
    refine sg [(101, .int .i64 ((wd : Nat) : Int)), (102, .int .u64 ((cutN wd a % cutN wd b : Nat) : Int))] (by kernel_rfl) ?_
    refine st (by rfl) (S_call (args := [.int .i64 ((wd : Nat) : Int), .int .u64 ((cutN wd a % cutN wd b : Nat) : Int)]) (by kernel_rfl) (rcut_ok wd (cutN wd a % cutN wd b) _ (by omega) (by omega) (by first | omega | exact bval_u (by omega) | (unfold bitN; split <;> omega))) ?_)
    rintro _ w10 ⟨rfl, hT11⟩
    have hT0 := hT0.t0 hT11
    have hcl12 := cutN_lt wd (cutN wd a % cutN wd b)
    refine sg [(8, .int .u64 ((cutN wd (cutN wd a % cutN wd b) : Nat) : Int)), (9, .int .i64 0)] (by kernel_rfl) ?_
    refine op_nil ?_
    refine W_ret ?_
    exact ⟨_, Res_of (v := .tuple #[.int .u64 ((cutN wd (cutN wd a % cutN wd b) : Nat) : Int), .int .i64 0]) (by kernel_rfl), ⟨by first | rw [if_pos (show cutN wd b = 0 by omega)] | rw [if_neg (show ¬ cutN wd b = 0 by omega)], hT0⟩⟩
  · replace hc9 : ((cutN wd b : Nat) : Int) = 0 := (bne_eq_false_iff_eq.1 hc9)
    refine W_skip ?_
    refine W_seq ?_
    refine W_fg [(0, .int .i64 5), (1, .int .i64 ((wd : Nat) : Int)), (2, .int .u64 ((cutN wd a : Nat) : Int)), (3, .int .u64 ((cutN wd b : Nat) : Int)), (8, .int .u64 0), (9, .int .i64 0), (10, .int .u64 ((cutN wd a : Nat) : Int)), (16, .bool false), (19, .bool false), (26, .int .i64 5), (32, .bool false), (37, .bool false), (42, .bool false), (47, .bool false), (56, .bool true), (60, .bool (((cutN wd b : Nat) : Int) != 0))] (by kernel_rfl) fun ρ => ?_
    refine W_region (by kernel_rfl) ?_
    refine sg [(101, .int .i64 ((wd : Nat) : Int)), (102, .int .u64 ((cutN wd a : Nat) : Int))] (by kernel_rfl) ?_
    refine st (by rfl) (S_call (args := [.int .i64 ((wd : Nat) : Int), .int .u64 ((cutN wd a : Nat) : Int)]) (by kernel_rfl) (rcut_ok wd (cutN wd a) _ (by omega) (by omega) (by first | omega | exact bval_u (by omega) | (unfold bitN; split <;> omega))) ?_)
    rintro _ w13 ⟨rfl, hT14⟩
    have hT0 := hT0.t0 hT14
    have hcl15 := cutN_lt wd (cutN wd a)
    refine sg [(8, .int .u64 ((cutN wd (cutN wd a) : Nat) : Int)), (9, .int .i64 0)] (by kernel_rfl) ?_
    refine op_nil ?_
    refine W_ret ?_
    exact ⟨_, Res_of (v := .tuple #[.int .u64 ((cutN wd (cutN wd a) : Nat) : Int), .int .i64 0]) (by kernel_rfl), ⟨by first | rw [if_pos (show cutN wd b = 0 by omega)] | rw [if_neg (show ¬ cutN wd b = 0 by omega)], hT0⟩⟩

section
variable {be : Nat → Bool} {wd xa xb : Nat} {r ra rb : List Nat} (ha : ∀ j, j < wd → lt_ be (ra.getD j 0) = xa.testBit j) (hb : ∀ j, j < wd → lt_ be (rb.getD j 0) = xb.testBit j)
include ha hb
theorem mul_says (hv : ∀ j, j < wd → lt_ be (r.getD j 0) = mulF (fun j => lt_ be (ra.getD j 0)) (fun j => lt_ be (rb.getD j 0)) wd wd j) : bval wd (fun j => lt_ be (r.getD j 0)) = cutN wd (cutN wd (cutN wd xa * cutN wd xb)) := by
  rw [bval_congr hv, cut_cut]
  unfold mulF
  rw [bval_of, bval_cut ha, bval_cut hb]; rfl
theorem quo_says (hv : ∀ j, j < wd → lt_ be (r.getD j 0) = quoB (bval wd (fun j => lt_ be (ra.getD j 0))) (bval wd (fun j => lt_ be (rb.getD j 0))) j) : bval wd (fun j => lt_ be (r.getD j 0)) = cutN wd (cutN wd (if cutN wd xb = 0 then pw wd - 1 else cutN wd xa / cutN wd xb)) := by
  rw [bval_congr hv, cut_cut, quo_val (bval_lt _ _), bval_cut ha, bval_cut hb]
  unfold cutN
  symm
  refine Nat.mod_eq_of_lt ?_
  have hp := pw_pos wd
  split
  · omega
  · exact Nat.lt_of_le_of_lt (Nat.div_le_self _ _) (Nat.mod_lt _ hp)
theorem rem_says (hv : ∀ j, j < wd → lt_ be (r.getD j 0) = (remN (bval wd (fun j => lt_ be (ra.getD j 0))) (bval wd (fun j => lt_ be (rb.getD j 0))) 0).testBit j) : bval wd (fun j => lt_ be (r.getD j 0)) = cutN wd (cutN wd (if cutN wd xb = 0 then cutN wd xa else cutN wd xa % cutN wd xb)) := by
  rw [bval_congr hv, cut_cut, bval_of, bval_cut ha, bval_cut hb]
  unfold remN
  rw [Nat.pow_zero, Nat.div_one]
  show cutN wd _ = _
  congr 1
  split
  · rename_i e; rw [e, Nat.mod_zero]
  · rfl
end

end Go.Proofs.YtnlecdpiccgdpaaV

set_option linter.unusedVariables false
set_option linter.unusedSimpArgs false
namespace Go.Proofs.YtnlecdpiccgdpaaV
open Go Go.RowKit Go.Proofs

set_option maxRecDepth 100000 in
set_option maxHeartbeats 4000000 in
theorem awake21_ok (w : World) : Ret Try.prog 35 [] w fun v w' => v = .bool true ∧ Tch N0 w w' := by
  refine enter Try.func35 rfl rfl ?_
  refine W_seq ?_
  refine W_region (by kernel_rfl) ?_
  refine sg [(0, .bool false)] (by kernel_rfl) ?_
  refine op_nil ?_
  refine W_seq ?_
  refine W_region (by kernel_rfl) ?_
  refine st (by rfl) (S_call (args := []) (by kernel_rfl) (new_ok _) ?_)
  rintro _ w1 ⟨p3, F4, rfl, hG, hT2, hFb⟩
  have hT0 := hT2
  refine sg [(1, .pointer (some ⟨p3, 0, none⟩))] (by kernel_rfl) ?_
  refine op_nil ?_
  refine W_seq ?_
  refine W_seq ?_
  refine W_region (by kernel_rfl) ?_
  refine sg [(14, .pointer (some ⟨p3, 0, none⟩)), (15, .bool false)] (by kernel_rfl) ?_
  refine op_nil ?_
  refine W_cond false (by kernel_rfl) (by kernel_rfl) (fun h => nomatch h) (fun _ => ?_)
  refine W_skip ?_
  refine W_seq ?_
  refine W_region (by kernel_rfl) ?_
  refine sg [(17, .pointer (some ⟨p3, 0, none⟩))] (by kernel_rfl) ?_
  have hz_ := hT0.size
  refine st (by rfl) (S_call (args := [.pointer (some ⟨p3, 0, none⟩), .int .i64 4, .int .u64 7, .int .u64 0]) (by kernel_rfl) (rowc_ok F4 p3 1 4 ([[0]]) (fun _ => False) 7 0 _ hG (by omega) (by omega) (by omega)) ?_)
  rintro _ w5 ⟨Fa, na, Ia, Ra, rca, Ha, hca, rowa, holda, rfl, hXa, hYa, gRa, gHa, hG, mva, hria, hda, aHa, hlla, hrca⟩
  have hT0 := (hT0).then mva.1 hFb
  replace hFb := mva.ge hFb hz_
  have lt_hXa := hXa.lt
  have lt_hYa := hYa.lt
  have ge_hXa := gRa
  have ge_hYa := gHa
  have hle_hria := hria.le
  refine sg [(16, .tuple #[.slice Ra 4 rca, .slice Ha holda.length hca]), (19, .slice Ra 4 rca), (20, .slice Ha holda.length hca), (2, .slice Ra 4 rca), (3, .slice Ha holda.length hca)] (by kernel_rfl) ?_
  refine op_nil ?_
  refine W_seq ?_
  refine W_fg [(0, .bool false), (1, .pointer (some ⟨p3, 0, none⟩)), (2, .slice Ra 4 rca), (15, .bool false)] (by kernel_rfl) fun ρ => ?_
  refine W_region (by kernel_rfl) ?_
  refine sg [(22, .pointer (some ⟨p3, 0, none⟩))] (by kernel_rfl) ?_
  have hz_ := hT0.size
  refine st (by rfl) (S_call (args := [.pointer (some ⟨p3, 0, none⟩), .int .i64 4, .int .u64 2, .int .u64 0]) (by kernel_rfl) (rowc_ok Fa p3 na 4 ([[0]]) Ia 2 0 _ hG (by omega) (by omega) (by omega)) ?_)
  rintro _ w6 ⟨Fb, nb, Ib, Rb, rcb, Hb, hcb, rowb, holdb, rfl, hXb, hYb, gRb, gHb, hG, mvb, hrib, hdb, aHb, hllb, hrcb⟩
  have hT0 := (hT0).then mvb.1 hFb
  have hXa := hXa.mv mvb
  have hYa := hYa.mv mvb
  replace hFb := mvb.ge hFb hz_
  have lt_hXb := hXb.lt
  have lt_hYb := hYb.lt
  have ge_hXb := gRb
  have ge_hYb := gHb
  have hle_hrib := hrib.le
  refine sg [(21, .tuple #[.slice Rb 4 rcb, .slice Hb holdb.length hcb]), (24, .slice Rb 4 rcb), (25, .slice Hb holdb.length hcb), (4, .slice Rb 4 rcb), (5, .slice Hb holdb.length hcb)] (by kernel_rfl) ?_
  refine op_nil ?_
  refine W_seq ?_
  refine W_region (by kernel_rfl) ?_
  refine sg [(27, .pointer (some ⟨p3, 0, none⟩)), (28, .slice Ra 4 rca), (29, .slice Rb 4 rcb)] (by kernel_rfl) ?_
  have hz_ := hT0.size
  refine st (by rfl) (S_call (args := [.pointer (some ⟨p3, 0, none⟩), .slice Ra 4 rca, .slice Rb 4 rcb]) (by kernel_rfl) (div_ok Fb p3 nb 4 rca rcb Ra Rb rowa rowb ([[0]]) Ib _ hG hXa hXb (fun j hj => by have := hria.fit j hj; omega) (fun j hj => by have := hrib.fit j hj; omega) (by omega) (by omega) (by omega) (by omega)) ?_)
  rintro _ w7 ⟨F8, n9, cs10, Q11, R12, q13, r14, rfl, hql15, hrl16, hX17, hX18, hgQ19, hgR20, hG, mv21, hrw22, hrw23, hd24⟩
  have hT0 := (hT0).then mv21.1 hFb
  have hXa := hXa.mv mv21
  have hYa := hYa.mv mv21
  have hXb := hXb.mv mv21
  have hYb := hYb.mv mv21
  replace hFb := mv21.ge hFb hz_
  have lt_hX17 := hX17.lt
  have ge_hX17 := hgQ19
  have lt_hX18 := hX18.lt
  have ge_hX18 := hgR20
  have hle25 := hrw22.le
  refine sg [(26, .tuple #[.slice Q11 4 4, .slice R12 4 4]), (31, .slice Q11 4 4), (32, .slice R12 4 4), (6, .slice Q11 4 4), (7, .slice R12 4 4)] (by kernel_rfl) ?_
  refine op_nil ?_
  refine W_seq ?_
  refine W_fg [(0, .bool false), (1, .pointer (some ⟨p3, 0, none⟩)), (2, .slice Ra 4 rca), (4, .slice Rb 4 rcb), (6, .slice Q11 4 4), (7, .slice R12 4 4), (15, .bool false)] (by kernel_rfl) fun ρ => ?_
  refine W_region (by kernel_rfl) ?_
  refine sg [(33, .pointer (some ⟨p3, 0, none⟩)), (34, .slice Ra 4 rca), (35, .slice Rb 4 rcb)] (by kernel_rfl) ?_
  have hz_ := hT0.size
  refine st (by rfl) (S_call (args := [.pointer (some ⟨p3, 0, none⟩), .slice Ra 4 rca, .slice Rb 4 rcb]) (by kernel_rfl) (mul_ok F8 p3 n9 4 rca rcb Ra Rb rowa rowb cs10 Ib _ hG hXa hXb (fun j hj => by have := hria.fit j hj; omega) (fun j hj => by have := hrib.fit j hj; omega) (by omega) (by omega) (by omega)) ?_)
  rintro _ w26 ⟨F27, n28, cs29, A30, cp31, r32, rfl, hrl33, hX34, hg35, hG, mv36, hrw37, hd38⟩
  have hT0 := (hT0).then mv36.1 hFb
  have hXa := hXa.mv mv36
  have hYa := hYa.mv mv36
  have hXb := hXb.mv mv36
  have hYb := hYb.mv mv36
  have hX17 := hX17.mv mv36
  have hX18 := hX18.mv mv36
  replace hFb := mv36.ge hFb hz_
  have lt_hX34 := hX34.lt
  have ge_hX34 := hg35
  have hle39 := hrw37.le
  refine sg [(8, .slice A30 4 cp31)] (by kernel_rfl) ?_
  refine op_nil ?_
  refine W_seq ?_
  refine W_region (by kernel_rfl) ?_
  refine sg [(38, .pointer (some ⟨p3, 0, none⟩))] (by kernel_rfl) ?_
  refine st (by rfl) (S_call (args := [.pointer (some ⟨p3, 0, none⟩), .slice none 0 0]) (by kernel_rfl) (close_ok F27 p3 n28 0 0 cs29 Ib none ([] : List Nat) (fun _ => false) _ hG (by omega) (RdW.nil_ _ _ _) (fun v hv => ((RowI.noin (i := 0) hrib (RowI.noin (i := 0) hria (fun _ h => h))) v hv).elim) (fun x hx => by cases hx)) ?_)
  rintro _ w40 ⟨K, J, ck, cj, kn, tr, be, rfl, hK0, hJ0, hmod, hbt, hall, hTC⟩
  have hT0 := hT0.t0 hTC
  have hG := hG.tch0 hTC
  have hXa := hXa.tch0 hTC
  have hYa := hYa.tch0 hTC
  have hXb := hXb.tch0 hTC
  have hYb := hYb.tch0 hTC
  have hX17 := hX17.tch0 hTC
  have hX18 := hX18.tch0 hTC
  have hX34 := hX34.tch0 hTC
  have hTK := Tch.refl N0 w40
  have hK := hK0
  have hJ := hJ0
  have hmd2 := hmod
  have hmd1 := hmd2.sub hrw37.sub
  have hmd0 := hmd1.sub hrw22.sub
  have hva := (RowI.plain (i := 0) hria).2 be hmd0
  have hvb := (RowI.plain (i := 0) hrib).2 be hmd0
  refine sg [(37, .tuple #[.agg #[.slice K n28 ck, .slice J n28 cj], .int .i64 1]), (40, .agg #[.slice K n28 ck, .slice J n28 cj]), (41, .int .i64 1)] (by kernel_rfl) ?_
  have hz45 := hTK.size
  have hlt_ := hG.1.lt
  have lt_hXa := hXa.lt
  have lt_hYa := hYa.lt
  have lt_hXb := hXb.lt
  have lt_hYb := hYb.lt
  have lt_hX17 := hX17.lt
  have lt_hX18 := hX18.lt
  have lt_hX34 := hX34.lt
  have z46 := hT0.size
  refine st (by rfl) (S_new (v := .pointer (some ⟨w40.heap.size, 0, none⟩)) (ob := .cells #[.slice none 0 0, .slice none 0 0] 54) (by kernel_rfl) fun w41 hT42 hs43 hB44 => ?_)
  replace hB44 : Blk w41 (w40.heap.size) 54 [.slice none 0 0, .slice none 0 0] := hB44
  have hT0 := hT0.t0 hT42
  have hG := hG.tch0 hT42
  have hXa := hXa.tch0 hT42
  have hYa := hYa.tch0 hT42
  have hXb := hXb.tch0 hT42
  have hYb := hYb.tch0 hT42
  have hX17 := hX17.tch0 hT42
  have hX18 := hX18.tch0 hT42
  have hX34 := hX34.tch0 hT42
  have hTK := hTK.t0 hT42
  have hK := hK0.tch0 hTK
  have hJ := hJ0.tch0 hTK
  have nF_hB44 : ¬ F27 (w40.heap.size) := fun e => by have := hlt_ _ e; omega
  refine st (by rfl) (S_storeA (b := w40.heap.size) (j := 0) (cs := [.slice K n28 ck, .slice J n28 cj]) (by kernel_rfl) (by kernel_rfl) (by kernel_rfl) (by simp [oneV]) hB44 (by simp) fun w47 hT48 hs49 hB44' => ?_)
  have hT0 := (hT0).then hT48 (fun c e => by have : c = w40.heap.size := e; omega)
  have hG := hG.tchS hT48 (fun c e q => by cases e; exact nF_hB44 q)
  have hXa := hXa.st hT48 (fun c hc e => by have h1 := lt_hXa c hc; have h2 := ge_hXa c hc; have : c = w40.heap.size := e; omega)
  have hYa := hYa.st hT48 (fun c hc e => by have h1 := lt_hYa c hc; have h2 := ge_hYa c hc; have : c = w40.heap.size := e; omega)
  have hXb := hXb.st hT48 (fun c hc e => by have h1 := lt_hXb c hc; have h2 := ge_hXb c hc; have : c = w40.heap.size := e; omega)
  have hYb := hYb.st hT48 (fun c hc e => by have h1 := lt_hYb c hc; have h2 := ge_hYb c hc; have : c = w40.heap.size := e; omega)
  have hX17 := hX17.st hT48 (fun c hc e => by have h1 := lt_hX17 c hc; have h2 := ge_hX17 c hc; have : c = w40.heap.size := e; omega)
  have hX18 := hX18.st hT48 (fun c hc e => by have h1 := lt_hX18 c hc; have h2 := ge_hX18 c hc; have : c = w40.heap.size := e; omega)
  have hX34 := hX34.st hT48 (fun c hc e => by have h1 := lt_hX34 c hc; have h2 := ge_hX34 c hc; have : c = w40.heap.size := e; omega)
  have hTK := hTK.then hT48 (fun c e => by have : c = w40.heap.size := e; omega)
  have hK := hK0.tch0 hTK
  have hJ := hJ0.tch0 hTK
  replace hB44 : Blk w47 w40.heap.size 54 [.slice K n28 ck, .slice J n28 cj] := hB44'
  refine sg [(10, .int .i64 1)] (by kernel_rfl) ?_
  refine op_nil ?_
  refine W_seq ?_
  refine W_fg [(0, .bool false), (1, .pointer (some ⟨p3, 0, none⟩)), (2, .slice Ra 4 rca), (4, .slice Rb 4 rcb), (6, .slice Q11 4 4), (7, .slice R12 4 4), (8, .slice A30 4 cp31), (9, .pointer (some ⟨w40.heap.size, 0, none⟩)), (10, .int .i64 1), (15, .bool false)] (by kernel_rfl) fun ρ => ?_
  have hXt := hXb.headT (h := 3) (cp := rcb) (by omega)
  have lt_hXt := hXt.lt
  have ge_hXt : ∀ c, blkOf (slA Rb 0 rcb) = some c → 0 ≤ c := fun c _ => Nat.zero_le c
  refine W_region (by kernel_rfl) ?_
  refine sg [(43, .pointer (some ⟨p3, 0, none⟩)), (44, .slice Ra 4 rca), (45, .slice Rb 4 rcb)] (by kernel_rfl) ?_
  refine stv (v := .slice (slA Rb 0 rcb) 3 rcb) (by rfl) (R_sliceH (A := Rb) (n := 4) (cp := rcb) 3 (by kernel_rfl) (by kernel_rfl) (by kernel_rfl) (by kernel_rfl) (by omega)) ?_
  refine st (by rfl) (S_call (args := [.pointer (some ⟨p3, 0, none⟩), .slice Ra 4 rca, .slice (slA Rb 0 rcb) 3 rcb]) (by kernel_rfl) (div_bad p3 4 3 rca rcb Ra (slA Rb 0 rcb) (rowa.map fun (x : Nat) => (x : Int)) ((rowb.take 3).map fun (x : Nat) => (x : Int)) _ (by rw [← nats_ints]; exact hXa.1) (by rw [← nats_ints]; exact hXt.1) (badR_len (by omega))) ?_)
  rintro _ w50 ⟨rfl, hT51⟩
  have hT0 := hT0.t0 hT51
  have hG := hG.tch0 hT51
  have hXa := hXa.tch0 hT51
  have hYa := hYa.tch0 hT51
  have hXb := hXb.tch0 hT51
  have hYb := hYb.tch0 hT51
  have hX17 := hX17.tch0 hT51
  have hX18 := hX18.tch0 hT51
  have hX34 := hX34.tch0 hT51
  have hTK := hTK.t0 hT51
  have hK := hK0.tch0 hTK
  have hJ := hJ0.tch0 hTK
  have hB44 := hB44.tch0 hT51
  have hXt := hXt.tch0 hT51
  refine sg [(42, .tuple #[.slice none 0 0, .slice none 0 0]), (48, .slice none 0 0), (49, .slice none 0 0), (11, .slice none 0 0), (12, .slice none 0 0)] (by kernel_rfl) ?_
  refine op_nil ?_
  refine W_seq ?_
  refine W_fg [(0, .bool false), (1, .pointer (some ⟨p3, 0, none⟩)), (2, .slice Ra 4 rca), (4, .slice Rb 4 rcb), (6, .slice Q11 4 4), (7, .slice R12 4 4), (8, .slice A30 4 cp31), (9, .pointer (some ⟨w40.heap.size, 0, none⟩)), (10, .int .i64 1), (11, .slice none 0 0), (12, .slice none 0 0), (15, .bool false)] (by kernel_rfl) fun ρ => ?_
  refine W_region (by kernel_rfl) ?_
  refine sg [(50, .int .i64 1), (51, .bool true), (52, .bool true)] (by kernel_rfl) ?_
  refine st (by kernel_rfl) (S_val (v := .agg #[.slice K n28 ck, .slice J n28 cj]) (R_loadA [.slice K n28 ck, .slice J n28 cj] (by kernel_rfl) (by kernel_rfl) (by kernel_rfl) (fun k u hk => by rw [hB44.cell]; exact get_part _ 0 _ k u rfl hk)) ?_)
  refine sg [(54, .slice Q11 4 4)] (by kernel_rfl) ?_
  refine st (by kernel_rfl) (S_call (args := [.agg #[.slice K n28 ck, .slice J n28 cj], .slice Q11 4 4, .int .i64 4, .int .u64 3]) (by kernel_rfl) (is_okV n28 4 4 K J Q11 ck cj kn tr q13 be 3 _ hK hJ hX17.1 (by omega) hall (fun j hj => by have := hrw22.fit j hj; omega) (by omega) (by omega) (by first | omega | exact Nat.lt_of_lt_of_le (cutN_lt _ _) (pw64 (by omega)) | exact Nat.lt_of_lt_of_le (Nat.mod_lt _ (pw_pos _)) (pw64 (by omega)) | exact Nat.mod_lt _ (by omega)) ((quo_says hva hvb (fun j hj => hrw22.val be hmd1 j hj)).trans (by decide))) ?_)
  rintro _ w52 ⟨rfl, hT53⟩
  have hT0 := hT0.t0 hT53
  have hG := hG.tch0 hT53
  have hXa := hXa.tch0 hT53
  have hYa := hYa.tch0 hT53
  have hXb := hXb.tch0 hT53
  have hYb := hYb.tch0 hT53
  have hX17 := hX17.tch0 hT53
  have hX18 := hX18.tch0 hT53
  have hX34 := hX34.tch0 hT53
  have hTK := hTK.t0 hT53
  have hK := hK0.tch0 hTK
  have hJ := hJ0.tch0 hTK
  have hB44 := hB44.tch0 hT53
  have hXt := hXt.tch0 hT53
  refine sg [(56, .bool true), (57, .bool true), (58, .bool true)] (by kernel_rfl) ?_
  refine st (by kernel_rfl) (S_val (v := .agg #[.slice K n28 ck, .slice J n28 cj]) (R_loadA [.slice K n28 ck, .slice J n28 cj] (by kernel_rfl) (by kernel_rfl) (by kernel_rfl) (fun k u hk => by rw [hB44.cell]; exact get_part _ 0 _ k u rfl hk)) ?_)
  refine sg [(60, .slice R12 4 4)] (by kernel_rfl) ?_
  refine st (by kernel_rfl) (S_call (args := [.agg #[.slice K n28 ck, .slice J n28 cj], .slice R12 4 4, .int .i64 4, .int .u64 1]) (by kernel_rfl) (is_okV n28 4 4 K J R12 ck cj kn tr r14 be 1 _ hK hJ hX18.1 (by omega) hall (fun j hj => by have := hrw23.fit j hj; omega) (by omega) (by omega) (by first | omega | exact Nat.lt_of_lt_of_le (cutN_lt _ _) (pw64 (by omega)) | exact Nat.lt_of_lt_of_le (Nat.mod_lt _ (pw_pos _)) (pw64 (by omega)) | exact Nat.mod_lt _ (by omega)) ((rem_says hva hvb (fun j hj => hrw23.val be hmd1 j hj)).trans (by decide))) ?_)
  rintro _ w54 ⟨rfl, hT55⟩
  have hT0 := hT0.t0 hT55
  have hG := hG.tch0 hT55
  have hXa := hXa.tch0 hT55
  have hYa := hYa.tch0 hT55
  have hXb := hXb.tch0 hT55
  have hYb := hYb.tch0 hT55
  have hX17 := hX17.tch0 hT55
  have hX18 := hX18.tch0 hT55
  have hX34 := hX34.tch0 hT55
  have hTK := hTK.t0 hT55
  have hK := hK0.tch0 hTK
  have hJ := hJ0.tch0 hTK
  have hB44 := hB44.tch0 hT55
  have hXt := hXt.tch0 hT55
  refine sg [(62, .bool true), (63, .bool true), (64, .bool true)] (by kernel_rfl) ?_
  refine st (by kernel_rfl) (S_val (v := .agg #[.slice K n28 ck, .slice J n28 cj]) (R_loadA [.slice K n28 ck, .slice J n28 cj] (by kernel_rfl) (by kernel_rfl) (by kernel_rfl) (fun k u hk => by rw [hB44.cell]; exact get_part _ 0 _ k u rfl hk)) ?_)
  refine sg [(66, .slice A30 4 cp31)] (by kernel_rfl) ?_
  refine st (by kernel_rfl) (S_call (args := [.agg #[.slice K n28 ck, .slice J n28 cj], .slice A30 4 cp31, .int .i64 4, .int .u64 14]) (by kernel_rfl) (is_okV n28 4 cp31 K J A30 ck cj kn tr r32 be 14 _ hK hJ hX34.1 (by omega) hall (fun j hj => by have := hrw37.fit j hj; omega) (by omega) (by omega) (by first | omega | exact Nat.lt_of_lt_of_le (cutN_lt _ _) (pw64 (by omega)) | exact Nat.lt_of_lt_of_le (Nat.mod_lt _ (pw_pos _)) (pw64 (by omega)) | exact Nat.mod_lt _ (by omega)) ((mul_says hva hvb (fun j hj => hrw37.val be hmd2 j hj)).trans (by decide))) ?_)
  rintro _ w56 ⟨rfl, hT57⟩
  have hT0 := hT0.t0 hT57
  have hG := hG.tch0 hT57
  have hXa := hXa.tch0 hT57
  have hYa := hYa.tch0 hT57
  have hXb := hXb.tch0 hT57
  have hYb := hYb.tch0 hT57
  have hX17 := hX17.tch0 hT57
  have hX18 := hX18.tch0 hT57
  have hX34 := hX34.tch0 hT57
  have hTK := hTK.t0 hT57
  have hK := hK0.tch0 hTK
  have hJ := hJ0.tch0 hTK
  have hB44 := hB44.tch0 hT57
  have hXt := hXt.tch0 hT57
  refine sg [(68, .bool true), (69, .bool true), (70, .bool true), (71, .slice none 0 0), (72, .int .i64 0), (73, .bool true), (74, .bool true), (75, .bool true), (76, .slice none 0 0), (77, .int .i64 0), (78, .bool true), (79, .bool true), (80, .bool true), (81, .pointer (some ⟨p3, 0, none⟩)), (82, .slice Ra 4 rca)] (by kernel_rfl) ?_
  refine st (by kernel_rfl) (S_call (args := [.pointer (some ⟨p3, 0, none⟩), .slice Ra 4 rca, .slice none 0 0]) (by kernel_rfl) (mul_bad p3 4 0 rca 0 Ra none (rowa.map fun (x : Nat) => (x : Int)) ([]) _ (by rw [← nats_ints]; exact hXa.1) (RdW.nil_ _ _ _) (badR_len (by omega))) ?_)
  rintro _ w58 ⟨rfl, hT59⟩
  have hT0 := hT0.t0 hT59
  have hG := hG.tch0 hT59
  have hXa := hXa.tch0 hT59
  have hYa := hYa.tch0 hT59
  have hXb := hXb.tch0 hT59
  have hYb := hYb.tch0 hT59
  have hX17 := hX17.tch0 hT59
  have hX18 := hX18.tch0 hT59
  have hX34 := hX34.tch0 hT59
  have hTK := hTK.t0 hT59
  have hK := hK0.tch0 hTK
  have hJ := hJ0.tch0 hTK
  have hB44 := hB44.tch0 hT59
  have hXt := hXt.tch0 hT59
  refine sg [(84, .int .i64 0), (85, .bool true), (86, .bool true), (0, .bool true)] (by kernel_rfl) ?_
  refine op_nil ?_
  refine W_ret ?_
  exact ⟨_, Res_of (v := .bool true) (by kernel_rfl), ⟨rfl, hT0⟩⟩

end Go.Proofs.YtnlecdpiccgdpaaV
