/- Walks of functions of the program and of the document's texts. The conditions stand with each theorem. -/
import Derived.Test.YtnlecdpiccgdpaaVx13
import Derived.Test.YtnlecdpiccgdpaaProg
import Derived.Test.YtnlecdpiccgdpaaVx4
import Derived.Test.YtnlecdpiccgdpaaSignP
import Derived.Test.YtnlecdpiccgdpaaA1
import Derived.Test.YtnlecdpiccgdpaaZ1
set_option linter.unusedVariables false
set_option linter.unusedSimpArgs false
namespace Go.Proofs.YtnlecdpiccgdpaaV
open Go Go.RowKit Go.Proofs

set_option maxRecDepth 100000 in
theorem rsgn_ok (wd x : Nat) (w : World) (h1 : 1 ≤ wd) (h2 : wd ≤ 64) (hx : x < 18446744073709551616) : Ret Try.prog 66 [.int .i64 ((wd : Nat) : Int), .int .u64 ((x : Nat) : Int)] w fun v w' => v = .int .i64 (sgn wd x) ∧ Tch N0 w w' := by
  have hp64 := pw64 (w := wd) (by omega)
  have hpp := pw_pos wd
  refine enter Try.func66 rfl rfl ?_
  refine W_seq ?_
  refine W_region (by kernel_rfl) ?_
  refine sg [(4, .int .i64 0)] (by kernel_rfl) ?_
  refine op_nil ?_
  refine W_seq ?_
  refine W_seq ?_
  refine W_region (by kernel_rfl) ?_
  refine sg [(5, .int .i64 ((wd : Nat) : Int))] (by kernel_rfl) ?_
  refine st (by rfl) (S_call (args := [.int .i64 ((wd : Nat) : Int)]) (by kernel_rfl) (rfits_t wd _ (by omega) (by omega)) ?_)
  rintro _ w1 ⟨rfl, hT2⟩
  have hT0 := hT2
  refine sg [(7, .bool false)] (by kernel_rfl) ?_
  refine op_nil ?_
  refine W_cond false (by kernel_rfl) (by kernel_rfl) (fun h => nomatch h) (fun _ => ?_)
  refine W_skip ?_
  refine W_seq ?_
  refine W_region (by kernel_rfl) ?_
  refine sg [(8, .int .i64 ((wd : Nat) : Int)), (9, .int .u64 ((x : Nat) : Int))] (by kernel_rfl) ?_
  refine st (by rfl) (S_call (args := [.int .i64 ((wd : Nat) : Int), .int .u64 ((x : Nat) : Int)]) (by kernel_rfl) (rcut_ok wd x _ (by omega) (by omega) (by first | omega | exact bval_u (by omega) | (unfold bitN; split <;> omega))) ?_)
  rintro _ w3 ⟨rfl, hT4⟩
  have hT0 := hT0.t0 hT4
  have hcl5 := cutN_lt wd x
  refine sg [(1, .int .u64 ((cutN wd x : Nat) : Int))] (by kernel_rfl) ?_
  refine op_nil ?_
  refine W_seq ?_
  refine W_seq ?_
  refine W_fg [(0, .int .i64 ((wd : Nat) : Int)), (1, .int .u64 ((cutN wd x : Nat) : Int)), (4, .int .i64 0), (7, .bool false)] (by kernel_rfl) fun ρ => ?_
  refine W_region (by kernel_rfl) ?_
  refine sg [(11, .int .u64 ((cutN wd x : Nat) : Int)), (12, .int .i64 ((wd : Nat) : Int)), (13, .int .i64 (IntKind.i64.wrap (((wd : Nat) : Int) - 1)))] (by kernel_rfl) ?_
  rw [show IntKind.i64.wrap (((wd : Nat) : Int) - 1) = ((wd : Nat) : Int) - 1 from wrap_i64 (by omega) (by omega)]
  refine fixR (y := ((wd - 1 : Nat) : Int)) (by omega) ?_
  refine st (by rfl) (S_call (args := [.int .u64 ((cutN wd x : Nat) : Int), .int .i64 ((wd - 1 : Nat) : Int)]) (by kernel_rfl) (rbit_ok (cutN wd x) (wd - 1) _ (by omega)) ?_)
  rintro _ w6 ⟨rfl, hT7⟩
  have hT0 := hT0.t0 hT7
  refine op_nil ?_
  refine W_cond ((cutN wd x).testBit (wd - 1)) (by kernel_rfl) (by kernel_rfl) (fun hc8 => ?_) (fun hc8 => ?_)
  · replace hc8 : (cutN wd x).testBit (wd - 1) = true := (hc8)
    refine W_region (by kernel_rfl) ?_
    refine sg [(15, .int .u64 ((cutN wd x : Nat) : Int)), (16, .int .i64 ((wd : Nat) : Int))] (by kernel_rfl) ?_
    refine st (by rfl) (S_call (args := [.int .i64 ((wd : Nat) : Int)]) (by kernel_rfl) (rmask_ok wd _ (by omega) (by omega)) ?_)
    rintro _ w9 ⟨rfl, hT10⟩
    have hT0 := hT0.t0 hT10
    refine stv (v := .int .u64 (((18446744073709551615 - (pw wd - 1) : Nat)) : Int)) (by rfl) (R_not64 (pw wd - 1) (by kernel_rfl) (by omega)) ?_
    rw [show 18446744073709551615 - (pw wd - 1) = 18446744073709551616 - pw wd by omega]
    refine sg [(19, .int .u64 (IntKind.u64.wrap (BitVec.ofInt 64 ((cutN wd x : Nat) : Int) ||| BitVec.ofInt 64 ((18446744073709551616 - pw wd : Nat) : Int)).toNat))] (by kernel_rfl) ?_
    rw [or_u _ _ (by omega) (by omega), or_high (by omega) (cutN_lt _ _)]
    refine sg [(1, .int .u64 ((cutN wd x + (18446744073709551616 - pw wd) : Nat) : Int))] (by kernel_rfl) ?_
    refine op_nil ?_
    refine W_seq ?_
    refine W_fg [(0, .int .i64 ((wd : Nat) : Int)), (1, .int .u64 ((cutN wd x + (18446744073709551616 - pw wd) : Nat) : Int)), (4, .int .i64 0), (7, .bool false), (14, .bool ((cutN wd x).testBit (wd - 1)))] (by kernel_rfl) fun ρ => ?_
    refine W_region (by kernel_rfl) ?_
    refine sg [(20, .int .u64 ((cutN wd x + (18446744073709551616 - pw wd) : Nat) : Int)), (21, .int .i64 (IntKind.i64.wrap ((cutN wd x + (18446744073709551616 - pw wd) : Nat) : Int))), (4, .int .i64 (IntKind.i64.wrap ((cutN wd x + (18446744073709551616 - pw wd) : Nat) : Int)))] (by kernel_rfl) ?_
    refine op_nil ?_
    refine W_ret ?_
    exact ⟨_, Res_of (v := .int .i64 (IntKind.i64.wrap ((cutN wd x + (18446744073709551616 - pw wd) : Nat) : Int))) (by kernel_rfl), ⟨congrArg (Value.int .i64) (by first | exact sgn_neg h1 h2 (by assumption) | exact sgn_pos h1 h2 (by assumption)), hT0⟩⟩
  · replace hc8 : (cutN wd x).testBit (wd - 1) = false := (hc8)
    refine W_skip ?_
    refine W_seq ?_
    refine W_region (by kernel_rfl) ?_
    refine sg [(20, .int .u64 ((cutN wd x : Nat) : Int)), (21, .int .i64 (IntKind.i64.wrap ((cutN wd x : Nat) : Int))), (4, .int .i64 (IntKind.i64.wrap ((cutN wd x : Nat) : Int)))] (by kernel_rfl) ?_
    refine op_nil ?_
    refine W_ret ?_
    exact ⟨_, Res_of (v := .int .i64 (IntKind.i64.wrap ((cutN wd x : Nat) : Int))) (by kernel_rfl), ⟨congrArg (Value.int .i64) (by first | exact sgn_neg h1 h2 (by assumption) | exact sgn_pos h1 h2 (by assumption)), hT0⟩⟩

set_option maxRecDepth 100000 in
theorem rbin1_ok (wd a b : Nat) (w : World) (h1 : 1 ≤ wd) (h2 : wd ≤ 64) (ha : a < 18446744073709551616) (hb : b < 18446744073709551616) : Ret Try.prog 33 [.int .i64 1, .int .i64 ((wd : Nat) : Int), .int .u64 ((a : Nat) : Int), .int .u64 ((b : Nat) : Int)] w fun v w' => v = .tuple #[.int .u64 ((cutN wd (cutN wd a + cutN wd b) : Nat) : Int), .int .i64 0] ∧ Tch N0 w w' := by
  have hp64 := pw64 (w := wd) (by omega)
  have hca := cutN_lt wd a
  have hcb := cutN_lt wd b
  have hpw := pw64 (w := wd) (by omega)
  refine enter Try.func33 rfl rfl ?_
  refine W_seq ?_
  refine W_region (by kernel_rfl) ?_
  refine sg [(8, .int .u64 0), (9, .int .i64 0)] (by kernel_rfl) ?_
  refine op_nil ?_
  refine W_seq ?_
  refine W_seq ?_
  refine W_region (by kernel_rfl) ?_
  refine sg [(11, .int .i64 1), (12, .bool false), (13, .bool false), (14, .int .i64 1), (15, .bool false), (16, .bool false)] (by kernel_rfl) ?_
  refine op_nil ?_
  refine W_cond false (by kernel_rfl) (by kernel_rfl) (fun h => nomatch h) (fun _ => ?_)
  refine W_skip ?_
  refine W_seq ?_
  refine W_seq ?_
  refine W_fg [(0, .int .i64 1), (1, .int .i64 ((wd : Nat) : Int)), (2, .int .u64 ((a : Nat) : Int)), (3, .int .u64 ((b : Nat) : Int)), (8, .int .u64 0), (9, .int .i64 0), (16, .bool false)] (by kernel_rfl) fun ρ => ?_
  refine W_region (by kernel_rfl) ?_
  refine sg [(17, .int .i64 ((wd : Nat) : Int))] (by kernel_rfl) ?_
  refine st (by rfl) (S_call (args := [.int .i64 ((wd : Nat) : Int)]) (by kernel_rfl) (rfits_t wd _ (by omega) (by omega)) ?_)
  rintro _ w1 ⟨rfl, hT2⟩
  have hT0 := hT2
  refine sg [(19, .bool false)] (by kernel_rfl) ?_
  refine op_nil ?_
  refine W_cond false (by kernel_rfl) (by kernel_rfl) (fun h => nomatch h) (fun _ => ?_)
  refine W_skip ?_
  refine W_seq ?_
  refine W_region (by kernel_rfl) ?_
  refine sg [(20, .int .i64 ((wd : Nat) : Int)), (21, .int .u64 ((a : Nat) : Int))] (by kernel_rfl) ?_
  refine st (by rfl) (S_call (args := [.int .i64 ((wd : Nat) : Int), .int .u64 ((a : Nat) : Int)]) (by kernel_rfl) (rcut_ok wd a _ (by omega) (by omega) (by first | omega | exact bval_u (by omega) | (unfold bitN; split <;> omega))) ?_)
  rintro _ w3 ⟨rfl, hT4⟩
  have hT0 := hT0.t0 hT4
  have hcl5 := cutN_lt wd a
  refine sg [(2, .int .u64 ((cutN wd a : Nat) : Int))] (by kernel_rfl) ?_
  refine op_nil ?_
  refine W_seq ?_
  refine W_region (by kernel_rfl) ?_
  refine sg [(23, .int .i64 ((wd : Nat) : Int)), (24, .int .u64 ((b : Nat) : Int))] (by kernel_rfl) ?_
  refine st (by rfl) (S_call (args := [.int .i64 ((wd : Nat) : Int), .int .u64 ((b : Nat) : Int)]) (by kernel_rfl) (rcut_ok wd b _ (by omega) (by omega) (by first | omega | exact bval_u (by omega) | (unfold bitN; split <;> omega))) ?_)
  rintro _ w6 ⟨rfl, hT7⟩
  have hT0 := hT0.t0 hT7
  have hcl8 := cutN_lt wd b
  refine sg [(3, .int .u64 ((cutN wd b : Nat) : Int))] (by kernel_rfl) ?_
  refine op_nil ?_
  refine W_seq ?_
  refine W_fg [(0, .int .i64 1), (1, .int .i64 ((wd : Nat) : Int)), (2, .int .u64 ((cutN wd a : Nat) : Int)), (3, .int .u64 ((cutN wd b : Nat) : Int)), (8, .int .u64 0), (9, .int .i64 0), (16, .bool false), (19, .bool false)] (by kernel_rfl) fun ρ => ?_
  refine W_region (by kernel_rfl) ?_
  refine sg [(10, .int .u64 0)] (by kernel_rfl) ?_
  refine op_nil ?_
  refine W_seq ?_
  refine W_seq ?_
  refine W_region (by kernel_rfl) ?_
  refine sg [(26, .int .i64 1)] (by kernel_rfl) ?_
  refine op_nil ?_
  refine W_block ?_
  refine W_seq ?_
  refine W_region (by kernel_rfl) ?_
  refine sg [(33, .bool true), (32, .bool true)] (by kernel_rfl) ?_
  refine op_nil ?_
  refine W_cond true (by kernel_rfl) (by kernel_rfl) (fun _ => ?_) (fun h => nomatch h)
  refine W_region (by kernel_rfl) ?_
  refine sg [(34, .int .u64 ((cutN wd a : Nat) : Int)), (35, .int .u64 ((cutN wd b : Nat) : Int))] (by kernel_rfl) ?_
  refine sg [(36, .int .u64 (IntKind.u64.wrap (((cutN wd a : Nat) : Int) + ((cutN wd b : Nat) : Int))))] (by kernel_rfl) ?_
  rw [u64_add (cutN wd a) (cutN wd b)]
  refine sg [(10, .int .u64 (((cutN wd a + cutN wd b) % 18446744073709551616 : Nat) : Int))] (by kernel_rfl) ?_
  refine op_nil ?_
  refine W_seq ?_
  refine W_fg [(0, .int .i64 1), (1, .int .i64 ((wd : Nat) : Int)), (2, .int .u64 ((cutN wd a : Nat) : Int)), (3, .int .u64 ((cutN wd b : Nat) : Int)), (8, .int .u64 0), (9, .int .i64 0), (10, .int .u64 (((cutN wd a + cutN wd b) % 18446744073709551616 : Nat) : Int)), (16, .bool false), (19, .bool false), (26, .int .i64 1), (32, .bool true)] (by kernel_rfl) fun ρ => ?_
  refine W_region (by kernel_rfl) ?_
  refine sg [(101, .int .i64 ((wd : Nat) : Int)), (102, .int .u64 (((cutN wd a + cutN wd b) % 18446744073709551616 : Nat) : Int))] (by kernel_rfl) ?_
  refine st (by rfl) (S_call (args := [.int .i64 ((wd : Nat) : Int), .int .u64 (((cutN wd a + cutN wd b) % 18446744073709551616 : Nat) : Int)]) (by kernel_rfl) (rcut_ok wd ((cutN wd a + cutN wd b) % 18446744073709551616) _ (by omega) (by omega) (by first | omega | exact bval_u (by omega) | (unfold bitN; split <;> omega))) ?_)
  rintro _ w9 ⟨rfl, hT10⟩
  have hT0 := hT0.t0 hT10
  have hcl11 := cutN_lt wd ((cutN wd a + cutN wd b) % 18446744073709551616)
  refine sg [(8, .int .u64 ((cutN wd ((cutN wd a + cutN wd b) % 18446744073709551616) : Nat) : Int)), (9, .int .i64 0)] (by kernel_rfl) ?_
  refine op_nil ?_
  refine W_ret ?_
  exact ⟨_, Res_of (v := .tuple #[.int .u64 ((cutN wd ((cutN wd a + cutN wd b) % 18446744073709551616) : Nat) : Int), .int .i64 0]) (by kernel_rfl), ⟨by rw [cut_of64 (by omega)], hT0⟩⟩

set_option maxRecDepth 100000 in
theorem rbin2_ok (wd a b : Nat) (w : World) (h1 : 1 ≤ wd) (h2 : wd ≤ 64) (ha : a < 18446744073709551616) (hb : b < 18446744073709551616) : Ret Try.prog 33 [.int .i64 2, .int .i64 ((wd : Nat) : Int), .int .u64 ((a : Nat) : Int), .int .u64 ((b : Nat) : Int)] w fun v w' => v = .tuple #[.int .u64 ((subN wd (cutN wd a) (cutN wd b) : Nat) : Int), .int .i64 0] ∧ Tch N0 w w' := by
  have hp64 := pw64 (w := wd) (by omega)
  have hca := cutN_lt wd a
  have hcb := cutN_lt wd b
  have hpw := pw64 (w := wd) (by omega)
  refine enter Try.func33 rfl rfl ?_
  refine W_seq ?_
  refine W_region (by kernel_rfl) ?_
  refine sg [(8, .int .u64 0), (9, .int .i64 0)] (by kernel_rfl) ?_
  refine op_nil ?_
  refine W_seq ?_
  refine W_seq ?_
  refine W_region (by kernel_rfl) ?_
  refine sg [(11, .int .i64 2), (12, .bool false), (13, .bool false), (14, .int .i64 2), (15, .bool false), (16, .bool false)] (by kernel_rfl) ?_
  refine op_nil ?_
  refine W_cond false (by kernel_rfl) (by kernel_rfl) (fun h => nomatch h) (fun _ => ?_)
  refine W_skip ?_
  refine W_seq ?_
  refine W_seq ?_
  refine W_fg [(0, .int .i64 2), (1, .int .i64 ((wd : Nat) : Int)), (2, .int .u64 ((a : Nat) : Int)), (3, .int .u64 ((b : Nat) : Int)), (8, .int .u64 0), (9, .int .i64 0), (16, .bool false)] (by kernel_rfl) fun ρ => ?_
  refine W_region (by kernel_rfl) ?_
  refine sg [(17, .int .i64 ((wd : Nat) : Int))] (by kernel_rfl) ?_
  refine st (by rfl) (S_call (args := [.int .i64 ((wd : Nat) : Int)]) (by kernel_rfl) (rfits_t wd _ (by omega) (by omega)) ?_)
  rintro _ w1 ⟨rfl, hT2⟩
  have hT0 := hT2
  refine sg [(19, .bool false)] (by kernel_rfl) ?_
  refine op_nil ?_
  refine W_cond false (by kernel_rfl) (by kernel_rfl) (fun h => nomatch h) (fun _ => ?_)
  refine W_skip ?_
  refine W_seq ?_
  refine W_region (by kernel_rfl) ?_
  refine sg [(20, .int .i64 ((wd : Nat) : Int)), (21, .int .u64 ((a : Nat) : Int))] (by kernel_rfl) ?_
  refine st (by rfl) (S_call (args := [.int .i64 ((wd : Nat) : Int), .int .u64 ((a : Nat) : Int)]) (by kernel_rfl) (rcut_ok wd a _ (by omega) (by omega) (by first | omega | exact bval_u (by omega) | (unfold bitN; split <;> omega))) ?_)
  rintro _ w3 ⟨rfl, hT4⟩
  have hT0 := hT0.t0 hT4
  have hcl5 := cutN_lt wd a
  refine sg [(2, .int .u64 ((cutN wd a : Nat) : Int))] (by kernel_rfl) ?_
  refine op_nil ?_
  refine W_seq ?_
  refine W_region (by kernel_rfl) ?_
  refine sg [(23, .int .i64 ((wd : Nat) : Int)), (24, .int .u64 ((b : Nat) : Int))] (by kernel_rfl) ?_
  refine st (by rfl) (S_call (args := [.int .i64 ((wd : Nat) : Int), .int .u64 ((b : Nat) : Int)]) (by kernel_rfl) (rcut_ok wd b _ (by omega) (by omega) (by first | omega | exact bval_u (by omega) | (unfold bitN; split <;> omega))) ?_)
  rintro _ w6 ⟨rfl, hT7⟩
  have hT0 := hT0.t0 hT7
  have hcl8 := cutN_lt wd b
  refine sg [(3, .int .u64 ((cutN wd b : Nat) : Int))] (by kernel_rfl) ?_
  refine op_nil ?_
  refine W_seq ?_
  refine W_fg [(0, .int .i64 2), (1, .int .i64 ((wd : Nat) : Int)), (2, .int .u64 ((cutN wd a : Nat) : Int)), (3, .int .u64 ((cutN wd b : Nat) : Int)), (8, .int .u64 0), (9, .int .i64 0), (16, .bool false), (19, .bool false)] (by kernel_rfl) fun ρ => ?_
  refine W_region (by kernel_rfl) ?_
  refine sg [(10, .int .u64 0)] (by kernel_rfl) ?_
  refine op_nil ?_
  refine W_seq ?_
  refine W_seq ?_
  refine W_region (by kernel_rfl) ?_
  refine sg [(26, .int .i64 2)] (by kernel_rfl) ?_
  refine op_nil ?_
  refine W_block ?_
  refine W_seq ?_
  refine W_region (by kernel_rfl) ?_
  refine sg [(33, .bool false), (32, .bool false)] (by kernel_rfl) ?_
  refine op_nil ?_
  refine W_cond false (by kernel_rfl) (by kernel_rfl) (fun h => nomatch h) (fun _ => ?_)
  refine W_seq ?_
  refine W_region (by kernel_rfl) ?_
  refine sg [(38, .bool true), (37, .bool true)] (by kernel_rfl) ?_
  refine op_nil ?_
  refine W_cond true (by kernel_rfl) (by kernel_rfl) (fun _ => ?_) (fun h => nomatch h)
  refine W_region (by kernel_rfl) ?_
  refine sg [(39, .int .u64 ((cutN wd a : Nat) : Int)), (40, .int .u64 ((cutN wd b : Nat) : Int))] (by kernel_rfl) ?_
  refine sg [(41, .int .u64 (IntKind.u64.wrap (((cutN wd a : Nat) : Int) - ((cutN wd b : Nat) : Int))))] (by kernel_rfl) ?_
  rw [u64_sub (cutN wd a) (cutN wd b) (by omega) (by omega)]
  refine sg [(10, .int .u64 (((cutN wd a + (18446744073709551616 - cutN wd b)) % 18446744073709551616 : Nat) : Int))] (by kernel_rfl) ?_
  refine op_nil ?_
  refine W_seq ?_
  refine W_fg [(0, .int .i64 2), (1, .int .i64 ((wd : Nat) : Int)), (2, .int .u64 ((cutN wd a : Nat) : Int)), (3, .int .u64 ((cutN wd b : Nat) : Int)), (8, .int .u64 0), (9, .int .i64 0), (10, .int .u64 (((cutN wd a + (18446744073709551616 - cutN wd b)) % 18446744073709551616 : Nat) : Int)), (16, .bool false), (19, .bool false), (26, .int .i64 2), (32, .bool false), (37, .bool true)] (by kernel_rfl) fun ρ => ?_
  refine W_region (by kernel_rfl) ?_
  refine sg [(101, .int .i64 ((wd : Nat) : Int)), (102, .int .u64 (((cutN wd a + (18446744073709551616 - cutN wd b)) % 18446744073709551616 : Nat) : Int))] (by kernel_rfl) ?_
  refine st (by rfl) (S_call (args := [.int .i64 ((wd : Nat) : Int), .int .u64 (((cutN wd a + (18446744073709551616 - cutN wd b)) % 18446744073709551616 : Nat) : Int)]) (by kernel_rfl) (rcut_ok wd ((cutN wd a + (18446744073709551616 - cutN wd b)) % 18446744073709551616) _ (by omega) (by omega) (by first | omega | exact bval_u (by omega) | (unfold bitN; split <;> omega))) ?_)
  rintro _ w9 ⟨rfl, hT10⟩
  have hT0 := hT0.t0 hT10
  have hcl11 := cutN_lt wd ((cutN wd a + (18446744073709551616 - cutN wd b)) % 18446744073709551616)
  refine sg [(8, .int .u64 ((cutN wd ((cutN wd a + (18446744073709551616 - cutN wd b)) % 18446744073709551616) : Nat) : Int)), (9, .int .i64 0)] (by kernel_rfl) ?_
  refine op_nil ?_
  refine W_ret ?_
  exact ⟨_, Res_of (v := .tuple #[.int .u64 ((cutN wd ((cutN wd a + (18446744073709551616 - cutN wd b)) % 18446744073709551616) : Nat) : Int), .int .i64 0]) (by kernel_rfl), ⟨by rw [cut_sub64 (by omega) (by omega)], hT0⟩⟩

set_option maxRecDepth 100000 in
theorem rbin12_ok (wd a b : Nat) (w : World) (h1 : 1 ≤ wd) (h2 : wd ≤ 64) (ha : a < 18446744073709551616) (hb : b < 18446744073709551616) : Ret Try.prog 33 [.int .i64 12, .int .i64 ((wd : Nat) : Int), .int .u64 ((a : Nat) : Int), .int .u64 ((b : Nat) : Int)] w fun v w' => v = .tuple #[.int .u64 ((bitN (decide (cutN wd a = cutN wd b)) : Nat) : Int), .int .i64 0] ∧ Tch N0 w w' := by
  have hp64 := pw64 (w := wd) (by omega)
  have hca := cutN_lt wd a
  have hcb := cutN_lt wd b
  have hpw := pw64 (w := wd) (by omega)
  refine enter Try.func33 rfl rfl ?_
  refine W_seq ?_
  refine W_region (by kernel_rfl) ?_
  refine sg [(8, .int .u64 0), (9, .int .i64 0)] (by kernel_rfl) ?_
  refine op_nil ?_
  refine W_seq ?_
  refine W_seq ?_
  refine W_region (by kernel_rfl) ?_
  refine sg [(11, .int .i64 12), (12, .bool false), (13, .bool false), (14, .int .i64 12), (15, .bool false), (16, .bool false)] (by kernel_rfl) ?_
  refine op_nil ?_
  refine W_cond false (by kernel_rfl) (by kernel_rfl) (fun h => nomatch h) (fun _ => ?_)
  refine W_skip ?_
  refine W_seq ?_
  refine W_seq ?_
  refine W_fg [(0, .int .i64 12), (1, .int .i64 ((wd : Nat) : Int)), (2, .int .u64 ((a : Nat) : Int)), (3, .int .u64 ((b : Nat) : Int)), (8, .int .u64 0), (9, .int .i64 0), (16, .bool false)] (by kernel_rfl) fun ρ => ?_
  refine W_region (by kernel_rfl) ?_
  refine sg [(17, .int .i64 ((wd : Nat) : Int))] (by kernel_rfl) ?_
  refine st (by rfl) (S_call (args := [.int .i64 ((wd : Nat) : Int)]) (by kernel_rfl) (rfits_t wd _ (by omega) (by omega)) ?_)
  rintro _ w1 ⟨rfl, hT2⟩
  have hT0 := hT2
  refine sg [(19, .bool false)] (by kernel_rfl) ?_
  refine op_nil ?_
  refine W_cond false (by kernel_rfl) (by kernel_rfl) (fun h => nomatch h) (fun _ => ?_)
  refine W_skip ?_
  refine W_seq ?_
  refine W_region (by kernel_rfl) ?_
  refine sg [(20, .int .i64 ((wd : Nat) : Int)), (21, .int .u64 ((a : Nat) : Int))] (by kernel_rfl) ?_
  refine st (by rfl) (S_call (args := [.int .i64 ((wd : Nat) : Int), .int .u64 ((a : Nat) : Int)]) (by kernel_rfl) (rcut_ok wd a _ (by omega) (by omega) (by first | omega | exact bval_u (by omega) | (unfold bitN; split <;> omega))) ?_)
  rintro _ w3 ⟨rfl, hT4⟩
  have hT0 := hT0.t0 hT4
  have hcl5 := cutN_lt wd a
  refine sg [(2, .int .u64 ((cutN wd a : Nat) : Int))] (by kernel_rfl) ?_
  refine op_nil ?_
  refine W_seq ?_
  refine W_region (by kernel_rfl) ?_
  refine sg [(23, .int .i64 ((wd : Nat) : Int)), (24, .int .u64 ((b : Nat) : Int))] (by kernel_rfl) ?_
  refine st (by rfl) (S_call (args := [.int .i64 ((wd : Nat) : Int), .int .u64 ((b : Nat) : Int)]) (by kernel_rfl) (rcut_ok wd b _ (by omega) (by omega) (by first | omega | exact bval_u (by omega) | (unfold bitN; split <;> omega))) ?_)
  rintro _ w6 ⟨rfl, hT7⟩
  have hT0 := hT0.t0 hT7
  have hcl8 := cutN_lt wd b
  refine sg [(3, .int .u64 ((cutN wd b : Nat) : Int))] (by kernel_rfl) ?_
  refine op_nil ?_
  refine W_seq ?_
  refine W_fg [(0, .int .i64 12), (1, .int .i64 ((wd : Nat) : Int)), (2, .int .u64 ((cutN wd a : Nat) : Int)), (3, .int .u64 ((cutN wd b : Nat) : Int)), (8, .int .u64 0), (9, .int .i64 0), (16, .bool false), (19, .bool false)] (by kernel_rfl) fun ρ => ?_
  refine W_region (by kernel_rfl) ?_
  refine sg [(10, .int .u64 0)] (by kernel_rfl) ?_
  refine op_nil ?_
  refine W_seq ?_
  refine W_seq ?_
  refine W_region (by kernel_rfl) ?_
  refine sg [(26, .int .i64 12)] (by kernel_rfl) ?_
  refine op_nil ?_
  refine W_block ?_
  refine W_seq ?_
  refine W_region (by kernel_rfl) ?_
  refine sg [(33, .bool false), (32, .bool false)] (by kernel_rfl) ?_
  refine op_nil ?_
  refine W_cond false (by kernel_rfl) (by kernel_rfl) (fun h => nomatch h) (fun _ => ?_)
  refine W_seq ?_
  refine W_region (by kernel_rfl) ?_
  refine sg [(38, .bool false), (37, .bool false)] (by kernel_rfl) ?_
  refine op_nil ?_
  refine W_cond false (by kernel_rfl) (by kernel_rfl) (fun h => nomatch h) (fun _ => ?_)
  refine W_seq ?_
  refine W_region (by kernel_rfl) ?_
  refine sg [(43, .bool false), (42, .bool false)] (by kernel_rfl) ?_
  refine op_nil ?_
  refine W_cond false (by kernel_rfl) (by kernel_rfl) (fun h => nomatch h) (fun _ => ?_)
  refine W_seq ?_
  refine W_fg [(0, .int .i64 12), (1, .int .i64 ((wd : Nat) : Int)), (2, .int .u64 ((cutN wd a : Nat) : Int)), (3, .int .u64 ((cutN wd b : Nat) : Int)), (8, .int .u64 0), (9, .int .i64 0), (10, .int .u64 0), (16, .bool false), (19, .bool false), (26, .int .i64 12), (32, .bool false), (37, .bool false), (42, .bool false)] (by kernel_rfl) fun ρ => ?_
  refine W_region (by kernel_rfl) ?_
  refine sg [(48, .bool false), (47, .bool false)] (by kernel_rfl) ?_
  refine op_nil ?_
  refine W_cond false (by kernel_rfl) (by kernel_rfl) (fun h => nomatch h) (fun _ => ?_)
  refine W_seq ?_
  refine W_region (by kernel_rfl) ?_
  refine sg [(57, .bool false), (56, .bool false)] (by kernel_rfl) ?_
  refine op_nil ?_
  refine W_cond false (by kernel_rfl) (by kernel_rfl) (fun h => nomatch h) (fun _ => ?_)
  refine W_seq ?_
  refine W_region (by kernel_rfl) ?_
  refine sg [(65, .bool false), (64, .bool false)] (by kernel_rfl) ?_
  refine op_nil ?_
  refine W_cond false (by kernel_rfl) (by kernel_rfl) (fun h => nomatch h) (fun _ => ?_)
  refine W_seq ?_
  refine W_region (by kernel_rfl) ?_
  refine sg [(70, .bool false), (69, .bool false)] (by kernel_rfl) ?_
  refine op_nil ?_
  refine W_cond false (by kernel_rfl) (by kernel_rfl) (fun h => nomatch h) (fun _ => ?_)
  refine W_seq ?_
  refine W_fg [(0, .int .i64 12), (1, .int .i64 ((wd : Nat) : Int)), (2, .int .u64 ((cutN wd a : Nat) : Int)), (3, .int .u64 ((cutN wd b : Nat) : Int)), (8, .int .u64 0), (9, .int .i64 0), (10, .int .u64 0), (16, .bool false), (19, .bool false), (26, .int .i64 12), (32, .bool false), (37, .bool false), (42, .bool false), (47, .bool false), (56, .bool false), (64, .bool false), (69, .bool false)] (by kernel_rfl) fun ρ => ?_
  refine W_region (by kernel_rfl) ?_
  refine sg [(75, .bool false), (74, .bool false)] (by kernel_rfl) ?_
  refine op_nil ?_
  refine W_cond false (by kernel_rfl) (by kernel_rfl) (fun h => nomatch h) (fun _ => ?_)
  refine W_seq ?_
  refine W_region (by kernel_rfl) ?_
  refine sg [(80, .bool true), (79, .bool true)] (by kernel_rfl) ?_
  refine op_nil ?_
  refine W_cond true (by kernel_rfl) (by kernel_rfl) (fun _ => ?_) (fun h => nomatch h)
  refine W_region (by kernel_rfl) ?_
  refine sg [(81, .int .u64 ((cutN wd a : Nat) : Int)), (82, .int .u64 ((cutN wd b : Nat) : Int)), (83, .bool (((cutN wd a : Nat) : Int) == ((cutN wd b : Nat) : Int)))] (by kernel_rfl) ?_
  refine st (by rfl) (S_call (args := [.bool (((cutN wd a : Nat) : Int) == ((cutN wd b : Nat) : Int))]) (by kernel_rfl) (rone_ok (((cutN wd a : Nat) : Int) == ((cutN wd b : Nat) : Int)) _) ?_)
  rintro _ w9 ⟨rfl, hT10⟩
  have hT0 := hT0.t0 hT10
  refine sg [(10, .int .u64 ((bitN (((cutN wd a : Nat) : Int) == ((cutN wd b : Nat) : Int)) : Nat) : Int))] (by kernel_rfl) ?_
  refine op_nil ?_
  refine W_seq ?_
  refine W_fg [(0, .int .i64 12), (1, .int .i64 ((wd : Nat) : Int)), (2, .int .u64 ((cutN wd a : Nat) : Int)), (3, .int .u64 ((cutN wd b : Nat) : Int)), (8, .int .u64 0), (9, .int .i64 0), (10, .int .u64 ((bitN (((cutN wd a : Nat) : Int) == ((cutN wd b : Nat) : Int)) : Nat) : Int)), (16, .bool false), (19, .bool false), (26, .int .i64 12), (32, .bool false), (37, .bool false), (42, .bool false), (47, .bool false), (56, .bool false), (64, .bool false), (69, .bool false), (74, .bool false), (79, .bool true)] (by kernel_rfl) fun ρ => ?_
  refine W_region (by kernel_rfl) ?_
  refine sg [(101, .int .i64 ((wd : Nat) : Int)), (102, .int .u64 ((bitN (((cutN wd a : Nat) : Int) == ((cutN wd b : Nat) : Int)) : Nat) : Int))] (by kernel_rfl) ?_
  refine st (by rfl) (S_call (args := [.int .i64 ((wd : Nat) : Int), .int .u64 ((bitN (((cutN wd a : Nat) : Int) == ((cutN wd b : Nat) : Int)) : Nat) : Int)]) (by kernel_rfl) (rcut_ok wd (bitN (((cutN wd a : Nat) : Int) == ((cutN wd b : Nat) : Int))) _ (by omega) (by omega) (by first | omega | exact bval_u (by omega) | (unfold bitN; split <;> omega))) ?_)
  rintro _ w11 ⟨rfl, hT12⟩
  have hT0 := hT0.t0 hT12
  have hcl13 := cutN_lt wd (bitN (((cutN wd a : Nat) : Int) == ((cutN wd b : Nat) : Int)))
  refine sg [(8, .int .u64 ((cutN wd (bitN (((cutN wd a : Nat) : Int) == ((cutN wd b : Nat) : Int))) : Nat) : Int)), (9, .int .i64 0)] (by kernel_rfl) ?_
  refine op_nil ?_
  refine W_ret ?_
  exact ⟨_, Res_of (v := .tuple #[.int .u64 ((cutN wd (bitN (((cutN wd a : Nat) : Int) == ((cutN wd b : Nat) : Int))) : Nat) : Int), .int .i64 0]) (by kernel_rfl), ⟨by rw [cut_bit1 h1, beq_nat], hT0⟩⟩

set_option maxRecDepth 100000 in
theorem rbin13_ok (wd a b : Nat) (w : World) (h1 : 1 ≤ wd) (h2 : wd ≤ 64) (ha : a < 18446744073709551616) (hb : b < 18446744073709551616) : Ret Try.prog 33 [.int .i64 13, .int .i64 ((wd : Nat) : Int), .int .u64 ((a : Nat) : Int), .int .u64 ((b : Nat) : Int)] w fun v w' => v = .tuple #[.int .u64 ((bitN (decide (cutN wd a < cutN wd b)) : Nat) : Int), .int .i64 0] ∧ Tch N0 w w' := by
  have hp64 := pw64 (w := wd) (by omega)
  have hca := cutN_lt wd a
  have hcb := cutN_lt wd b
  have hpw := pw64 (w := wd) (by omega)
  refine enter Try.func33 rfl rfl ?_
  refine W_seq ?_
  refine W_region (by kernel_rfl) ?_
  refine sg [(8, .int .u64 0), (9, .int .i64 0)] (by kernel_rfl) ?_
  refine op_nil ?_
  refine W_seq ?_
  refine W_seq ?_
  refine W_region (by kernel_rfl) ?_
  refine sg [(11, .int .i64 13), (12, .bool false), (13, .bool false), (14, .int .i64 13), (15, .bool false), (16, .bool false)] (by kernel_rfl) ?_
  refine op_nil ?_
  refine W_cond false (by kernel_rfl) (by kernel_rfl) (fun h => nomatch h) (fun _ => ?_)
  refine W_skip ?_
  refine W_seq ?_
  refine W_seq ?_
  refine W_fg [(0, .int .i64 13), (1, .int .i64 ((wd : Nat) : Int)), (2, .int .u64 ((a : Nat) : Int)), (3, .int .u64 ((b : Nat) : Int)), (8, .int .u64 0), (9, .int .i64 0), (16, .bool false)] (by kernel_rfl) fun ρ => ?_
  refine W_region (by kernel_rfl) ?_
  refine sg [(17, .int .i64 ((wd : Nat) : Int))] (by kernel_rfl) ?_
  refine st (by rfl) (S_call (args := [.int .i64 ((wd : Nat) : Int)]) (by kernel_rfl) (rfits_t wd _ (by omega) (by omega)) ?_)
  rintro _ w1 ⟨rfl, hT2⟩
  have hT0 := hT2
  refine sg [(19, .bool false)] (by kernel_rfl) ?_
  refine op_nil ?_
  refine W_cond false (by kernel_rfl) (by kernel_rfl) (fun h => nomatch h) (fun _ => ?_)
  refine W_skip ?_
  refine W_seq ?_
  refine W_region (by kernel_rfl) ?_
  refine sg [(20, .int .i64 ((wd : Nat) : Int)), (21, .int .u64 ((a : Nat) : Int))] (by kernel_rfl) ?_
  refine st (by rfl) (S_call (args := [.int .i64 ((wd : Nat) : Int), .int .u64 ((a : Nat) : Int)]) (by kernel_rfl) (rcut_ok wd a _ (by omega) (by omega) (by first | omega | exact bval_u (by omega) | (unfold bitN; split <;> omega))) ?_)
  rintro _ w3 ⟨rfl, hT4⟩
  have hT0 := hT0.t0 hT4
  have hcl5 := cutN_lt wd a
  refine sg [(2, .int .u64 ((cutN wd a : Nat) : Int))] (by kernel_rfl) ?_
  refine op_nil ?_
  refine W_seq ?_
  refine W_region (by kernel_rfl) ?_
  refine sg [(23, .int .i64 ((wd : Nat) : Int)), (24, .int .u64 ((b : Nat) : Int))] (by kernel_rfl) ?_
  refine st (by rfl) (S_call (args := [.int .i64 ((wd : Nat) : Int), .int .u64 ((b : Nat) : Int)]) (by kernel_rfl) (rcut_ok wd b _ (by omega) (by omega) (by first | omega | exact bval_u (by omega) | (unfold bitN; split <;> omega))) ?_)
  rintro _ w6 ⟨rfl, hT7⟩
  have hT0 := hT0.t0 hT7
  have hcl8 := cutN_lt wd b
  refine sg [(3, .int .u64 ((cutN wd b : Nat) : Int))] (by kernel_rfl) ?_
  refine op_nil ?_
  refine W_seq ?_
  refine W_fg [(0, .int .i64 13), (1, .int .i64 ((wd : Nat) : Int)), (2, .int .u64 ((cutN wd a : Nat) : Int)), (3, .int .u64 ((cutN wd b : Nat) : Int)), (8, .int .u64 0), (9, .int .i64 0), (16, .bool false), (19, .bool false)] (by kernel_rfl) fun ρ => ?_
  refine W_region (by kernel_rfl) ?_
  refine sg [(10, .int .u64 0)] (by kernel_rfl) ?_
  refine op_nil ?_
  refine W_seq ?_
  refine W_seq ?_
  refine W_region (by kernel_rfl) ?_
  refine sg [(26, .int .i64 13)] (by kernel_rfl) ?_
  refine op_nil ?_
  refine W_block ?_
  refine W_seq ?_
  refine W_region (by kernel_rfl) ?_
  refine sg [(33, .bool false), (32, .bool false)] (by kernel_rfl) ?_
  refine op_nil ?_
  refine W_cond false (by kernel_rfl) (by kernel_rfl) (fun h => nomatch h) (fun _ => ?_)
  refine W_seq ?_
  refine W_region (by kernel_rfl) ?_
  refine sg [(38, .bool false), (37, .bool false)] (by kernel_rfl) ?_
  refine op_nil ?_
  refine W_cond false (by kernel_rfl) (by kernel_rfl) (fun h => nomatch h) (fun _ => ?_)
  refine W_seq ?_
  refine W_region (by kernel_rfl) ?_
  refine sg [(43, .bool false), (42, .bool false)] (by kernel_rfl) ?_
  refine op_nil ?_
  refine W_cond false (by kernel_rfl) (by kernel_rfl) (fun h => nomatch h) (fun _ => ?_)
  refine W_seq ?_
  refine W_fg [(0, .int .i64 13), (1, .int .i64 ((wd : Nat) : Int)), (2, .int .u64 ((cutN wd a : Nat) : Int)), (3, .int .u64 ((cutN wd b : Nat) : Int)), (8, .int .u64 0), (9, .int .i64 0), (10, .int .u64 0), (16, .bool false), (19, .bool false), (26, .int .i64 13), (32, .bool false), (37, .bool false), (42, .bool false)] (by kernel_rfl) fun ρ => ?_
  refine W_region (by kernel_rfl) ?_
  refine sg [(48, .bool false), (47, .bool false)] (by kernel_rfl) ?_
  refine op_nil ?_
  refine W_cond false (by kernel_rfl) (by kernel_rfl) (fun h => nomatch h) (fun _ => ?_)
  refine W_seq ?_
  refine W_region (by kernel_rfl) ?_
  refine sg [(57, .bool false), (56, .bool false)] (by kernel_rfl) ?_
  refine op_nil ?_
  refine W_cond false (by kernel_rfl) (by kernel_rfl) (fun h => nomatch h) (fun _ => ?_)
  refine W_seq ?_
  refine W_region (by kernel_rfl) ?_
  refine sg [(65, .bool false), (64, .bool false)] (by kernel_rfl) ?_
  refine op_nil ?_
  refine W_cond false (by kernel_rfl) (by kernel_rfl) (fun h => nomatch h) (fun _ => ?_)
  refine W_seq ?_
  refine W_region (by kernel_rfl) ?_
  refine sg [(70, .bool false), (69, .bool false)] (by kernel_rfl) ?_
  refine op_nil ?_
  refine W_cond false (by kernel_rfl) (by kernel_rfl) (fun h => nomatch h) (fun _ => ?_)
  refine W_seq ?_
  refine W_fg [(0, .int .i64 13), (1, .int .i64 ((wd : Nat) : Int)), (2, .int .u64 ((cutN wd a : Nat) : Int)), (3, .int .u64 ((cutN wd b : Nat) : Int)), (8, .int .u64 0), (9, .int .i64 0), (10, .int .u64 0), (16, .bool false), (19, .bool false), (26, .int .i64 13), (32, .bool false), (37, .bool false), (42, .bool false), (47, .bool false), (56, .bool false), (64, .bool false), (69, .bool false)] (by kernel_rfl) fun ρ => ?_
  refine W_region (by kernel_rfl) ?_
  refine sg [(75, .bool false), (74, .bool false)] (by kernel_rfl) ?_
  refine op_nil ?_
  refine W_cond false (by kernel_rfl) (by kernel_rfl) (fun h => nomatch h) (fun _ => ?_)
  refine W_seq ?_
  refine W_region (by kernel_rfl) ?_
  refine sg [(80, .bool false), (79, .bool false)] (by kernel_rfl) ?_
  refine op_nil ?_
  refine W_cond false (by kernel_rfl) (by kernel_rfl) (fun h => nomatch h) (fun _ => ?_)
  refine W_seq ?_
  refine W_region (by kernel_rfl) ?_
  refine sg [(86, .bool true), (85, .bool true)] (by kernel_rfl) ?_
  refine op_nil ?_
  refine W_cond true (by kernel_rfl) (by kernel_rfl) (fun _ => ?_) (fun h => nomatch h)
  refine W_region (by kernel_rfl) ?_
  refine sg [(87, .int .u64 ((cutN wd a : Nat) : Int)), (88, .int .u64 ((cutN wd b : Nat) : Int)), (89, .bool (decide (((cutN wd a : Nat) : Int) < ((cutN wd b : Nat) : Int))))] (by kernel_rfl) ?_
  refine st (by rfl) (S_call (args := [.bool (decide (((cutN wd a : Nat) : Int) < ((cutN wd b : Nat) : Int)))]) (by kernel_rfl) (rone_ok (decide (((cutN wd a : Nat) : Int) < ((cutN wd b : Nat) : Int))) _) ?_)
  rintro _ w9 ⟨rfl, hT10⟩
  have hT0 := hT0.t0 hT10
  refine sg [(10, .int .u64 ((bitN (decide (((cutN wd a : Nat) : Int) < ((cutN wd b : Nat) : Int))) : Nat) : Int))] (by kernel_rfl) ?_
  refine op_nil ?_
  refine W_seq ?_
  refine W_fg [(0, .int .i64 13), (1, .int .i64 ((wd : Nat) : Int)), (2, .int .u64 ((cutN wd a : Nat) : Int)), (3, .int .u64 ((cutN wd b : Nat) : Int)), (8, .int .u64 0), (9, .int .i64 0), (10, .int .u64 ((bitN (decide (((cutN wd a : Nat) : Int) < ((cutN wd b : Nat) : Int))) : Nat) : Int)), (16, .bool false), (19, .bool false), (26, .int .i64 13), (32, .bool false), (37, .bool false), (42, .bool false), (47, .bool false), (56, .bool false), (64, .bool false), (69, .bool false), (74, .bool false), (79, .bool false), (85, .bool true)] (by kernel_rfl) fun ρ => ?_
  refine W_region (by kernel_rfl) ?_
  refine sg [(101, .int .i64 ((wd : Nat) : Int)), (102, .int .u64 ((bitN (decide (((cutN wd a : Nat) : Int) < ((cutN wd b : Nat) : Int))) : Nat) : Int))] (by kernel_rfl) ?_
  refine st (by rfl) (S_call (args := [.int .i64 ((wd : Nat) : Int), .int .u64 ((bitN (decide (((cutN wd a : Nat) : Int) < ((cutN wd b : Nat) : Int))) : Nat) : Int)]) (by kernel_rfl) (rcut_ok wd (bitN (decide (((cutN wd a : Nat) : Int) < ((cutN wd b : Nat) : Int)))) _ (by omega) (by omega) (by first | omega | exact bval_u (by omega) | (unfold bitN; split <;> omega))) ?_)
  rintro _ w11 ⟨rfl, hT12⟩
  have hT0 := hT0.t0 hT12
  have hcl13 := cutN_lt wd (bitN (decide (((cutN wd a : Nat) : Int) < ((cutN wd b : Nat) : Int))))
  refine sg [(8, .int .u64 ((cutN wd (bitN (decide (((cutN wd a : Nat) : Int) < ((cutN wd b : Nat) : Int)))) : Nat) : Int)), (9, .int .i64 0)] (by kernel_rfl) ?_
  refine op_nil ?_
  refine W_ret ?_
  exact ⟨_, Res_of (v := .tuple #[.int .u64 ((cutN wd (bitN (decide (((cutN wd a : Nat) : Int) < ((cutN wd b : Nat) : Int)))) : Nat) : Int), .int .i64 0]) (by kernel_rfl), ⟨by rw [cut_bit1 h1, lt_nat], hT0⟩⟩

set_option maxRecDepth 100000 in
theorem rbin14_ok (wd a b : Nat) (w : World) (h1 : 1 ≤ wd) (h2 : wd ≤ 64) (ha : a < 18446744073709551616) (hb : b < 18446744073709551616) : Ret Try.prog 33 [.int .i64 14, .int .i64 ((wd : Nat) : Int), .int .u64 ((a : Nat) : Int), .int .u64 ((b : Nat) : Int)] w fun v w' => v = .tuple #[.int .u64 ((bitN (decide (sgn wd a < sgn wd b)) : Nat) : Int), .int .i64 0] ∧ Tch N0 w w' := by
  have hp64 := pw64 (w := wd) (by omega)
  have hca := cutN_lt wd a
  have hcb := cutN_lt wd b
  have hpw := pw64 (w := wd) (by omega)
  refine enter Try.func33 rfl rfl ?_
  refine W_seq ?_
  refine W_region (by kernel_rfl) ?_
  refine sg [(8, .int .u64 0), (9, .int .i64 0)] (by kernel_rfl) ?_
  refine op_nil ?_
  refine W_seq ?_
  refine W_seq ?_
  refine W_region (by kernel_rfl) ?_
  refine sg [(11, .int .i64 14), (12, .bool false), (13, .bool false), (14, .int .i64 14), (15, .bool false), (16, .bool false)] (by kernel_rfl) ?_
  refine op_nil ?_
  refine W_cond false (by kernel_rfl) (by kernel_rfl) (fun h => nomatch h) (fun _ => ?_)
  refine W_skip ?_
  refine W_seq ?_
  refine W_seq ?_
  refine W_fg [(0, .int .i64 14), (1, .int .i64 ((wd : Nat) : Int)), (2, .int .u64 ((a : Nat) : Int)), (3, .int .u64 ((b : Nat) : Int)), (8, .int .u64 0), (9, .int .i64 0), (16, .bool false)] (by kernel_rfl) fun ρ => ?_
  refine W_region (by kernel_rfl) ?_
  refine sg [(17, .int .i64 ((wd : Nat) : Int))] (by kernel_rfl) ?_
  refine st (by rfl) (S_call (args := [.int .i64 ((wd : Nat) : Int)]) (by kernel_rfl) (rfits_t wd _ (by omega) (by omega)) ?_)
  rintro _ w1 ⟨rfl, hT2⟩
  have hT0 := hT2
  refine sg [(19, .bool false)] (by kernel_rfl) ?_
  refine op_nil ?_
  refine W_cond false (by kernel_rfl) (by kernel_rfl) (fun h => nomatch h) (fun _ => ?_)
  refine W_skip ?_
  refine W_seq ?_
  refine W_region (by kernel_rfl) ?_
  refine sg [(20, .int .i64 ((wd : Nat) : Int)), (21, .int .u64 ((a : Nat) : Int))] (by kernel_rfl) ?_
  refine st (by rfl) (S_call (args := [.int .i64 ((wd : Nat) : Int), .int .u64 ((a : Nat) : Int)]) (by kernel_rfl) (rcut_ok wd a _ (by omega) (by omega) (by first | omega | exact bval_u (by omega) | (unfold bitN; split <;> omega))) ?_)
  rintro _ w3 ⟨rfl, hT4⟩
  have hT0 := hT0.t0 hT4
  have hcl5 := cutN_lt wd a
  refine sg [(2, .int .u64 ((cutN wd a : Nat) : Int))] (by kernel_rfl) ?_
  refine op_nil ?_
  refine W_seq ?_
  refine W_region (by kernel_rfl) ?_
  refine sg [(23, .int .i64 ((wd : Nat) : Int)), (24, .int .u64 ((b : Nat) : Int))] (by kernel_rfl) ?_
  refine st (by rfl) (S_call (args := [.int .i64 ((wd : Nat) : Int), .int .u64 ((b : Nat) : Int)]) (by kernel_rfl) (rcut_ok wd b _ (by omega) (by omega) (by first | omega | exact bval_u (by omega) | (unfold bitN; split <;> omega))) ?_)
  rintro _ w6 ⟨rfl, hT7⟩
  have hT0 := hT0.t0 hT7
  have hcl8 := cutN_lt wd b
  refine sg [(3, .int .u64 ((cutN wd b : Nat) : Int))] (by kernel_rfl) ?_
  refine op_nil ?_
  refine W_seq ?_
  refine W_fg [(0, .int .i64 14), (1, .int .i64 ((wd : Nat) : Int)), (2, .int .u64 ((cutN wd a : Nat) : Int)), (3, .int .u64 ((cutN wd b : Nat) : Int)), (8, .int .u64 0), (9, .int .i64 0), (16, .bool false), (19, .bool false)] (by kernel_rfl) fun ρ => ?_
  refine W_region (by kernel_rfl) ?_
  refine sg [(10, .int .u64 0)] (by kernel_rfl) ?_
  refine op_nil ?_
  refine W_seq ?_
  refine W_seq ?_
  refine W_region (by kernel_rfl) ?_
  refine sg [(26, .int .i64 14)] (by kernel_rfl) ?_
  refine op_nil ?_
  refine W_block ?_
  refine W_seq ?_
  refine W_region (by kernel_rfl) ?_
  refine sg [(33, .bool false), (32, .bool false)] (by kernel_rfl) ?_
  refine op_nil ?_
  refine W_cond false (by kernel_rfl) (by kernel_rfl) (fun h => nomatch h) (fun _ => ?_)
  refine W_seq ?_
  refine W_region (by kernel_rfl) ?_
  refine sg [(38, .bool false), (37, .bool false)] (by kernel_rfl) ?_
  refine op_nil ?_
  refine W_cond false (by kernel_rfl) (by kernel_rfl) (fun h => nomatch h) (fun _ => ?_)
  refine W_seq ?_
  refine W_region (by kernel_rfl) ?_
  refine sg [(43, .bool false), (42, .bool false)] (by kernel_rfl) ?_
  refine op_nil ?_
  refine W_cond false (by kernel_rfl) (by kernel_rfl) (fun h => nomatch h) (fun _ => ?_)
  refine W_seq ?_
  refine W_fg [(0, .int .i64 14), (1, .int .i64 ((wd : Nat) : Int)), (2, .int .u64 ((cutN wd a : Nat) : Int)), (3, .int .u64 ((cutN wd b : Nat) : Int)), (8, .int .u64 0), (9, .int .i64 0), (10, .int .u64 0), (16, .bool false), (19, .bool false), (26, .int .i64 14), (32, .bool false), (37, .bool false), (42, .bool false)] (by kernel_rfl) fun ρ => ?_
  refine W_region (by kernel_rfl) ?_
  refine sg [(48, .bool false), (47, .bool false)] (by kernel_rfl) ?_
  refine op_nil ?_
  refine W_cond false (by kernel_rfl) (by kernel_rfl) (fun h => nomatch h) (fun _ => ?_)
  refine W_seq ?_
  refine W_region (by kernel_rfl) ?_
  refine sg [(57, .bool false), (56, .bool false)] (by kernel_rfl) ?_
  refine op_nil ?_
  refine W_cond false (by kernel_rfl) (by kernel_rfl) (fun h => nomatch h) (fun _ => ?_)
  refine W_seq ?_
  refine W_region (by kernel_rfl) ?_
  refine sg [(65, .bool false), (64, .bool false)] (by kernel_rfl) ?_
  refine op_nil ?_
  refine W_cond false (by kernel_rfl) (by kernel_rfl) (fun h => nomatch h) (fun _ => ?_)
  refine W_seq ?_
  refine W_region (by kernel_rfl) ?_
  refine sg [(70, .bool false), (69, .bool false)] (by kernel_rfl) ?_
  refine op_nil ?_
  refine W_cond false (by kernel_rfl) (by kernel_rfl) (fun h => nomatch h) (fun _ => ?_)
  refine W_seq ?_
  refine W_fg [(0, .int .i64 14), (1, .int .i64 ((wd : Nat) : Int)), (2, .int .u64 ((cutN wd a : Nat) : Int)), (3, .int .u64 ((cutN wd b : Nat) : Int)), (8, .int .u64 0), (9, .int .i64 0), (10, .int .u64 0), (16, .bool false), (19, .bool false), (26, .int .i64 14), (32, .bool false), (37, .bool false), (42, .bool false), (47, .bool false), (56, .bool false), (64, .bool false), (69, .bool false)] (by kernel_rfl) fun ρ => ?_
  refine W_region (by kernel_rfl) ?_
  refine sg [(75, .bool false), (74, .bool false)] (by kernel_rfl) ?_
  refine op_nil ?_
  refine W_cond false (by kernel_rfl) (by kernel_rfl) (fun h => nomatch h) (fun _ => ?_)
  refine W_seq ?_
  refine W_region (by kernel_rfl) ?_
  refine sg [(80, .bool false), (79, .bool false)] (by kernel_rfl) ?_
  refine op_nil ?_
  refine W_cond false (by kernel_rfl) (by kernel_rfl) (fun h => nomatch h) (fun _ => ?_)
  refine W_seq ?_
  refine W_region (by kernel_rfl) ?_
  refine sg [(86, .bool false), (85, .bool false)] (by kernel_rfl) ?_
  refine op_nil ?_
  refine W_cond false (by kernel_rfl) (by kernel_rfl) (fun h => nomatch h) (fun _ => ?_)
  refine W_seq ?_
  refine W_region (by kernel_rfl) ?_
  refine sg [(92, .bool true), (91, .bool true)] (by kernel_rfl) ?_
  refine op_nil ?_
  refine W_cond true (by kernel_rfl) (by kernel_rfl) (fun _ => ?_) (fun h => nomatch h)
  refine W_fg [(0, .int .i64 14), (1, .int .i64 ((wd : Nat) : Int)), (2, .int .u64 ((cutN wd a : Nat) : Int)), (3, .int .u64 ((cutN wd b : Nat) : Int)), (8, .int .u64 0), (9, .int .i64 0), (10, .int .u64 0), (16, .bool false), (19, .bool false), (26, .int .i64 14), (32, .bool false), (37, .bool false), (42, .bool false), (47, .bool false), (56, .bool false), (64, .bool false), (69, .bool false), (74, .bool false), (79, .bool false), (85, .bool false), (91, .bool true)] (by kernel_rfl) fun ρ => ?_
  refine W_region (by kernel_rfl) ?_
  refine sg [(93, .int .i64 ((wd : Nat) : Int)), (94, .int .u64 ((cutN wd a : Nat) : Int))] (by kernel_rfl) ?_
  refine st (by rfl) (S_call (args := [.int .i64 ((wd : Nat) : Int), .int .u64 ((cutN wd a : Nat) : Int)]) (by kernel_rfl) (rsgn_ok wd (cutN wd a) _ (by omega) (by omega) (by omega)) ?_)
  rintro _ w9 ⟨rfl, hT10⟩
  have hT0 := hT0.t0 hT10
  refine sg [(96, .int .i64 ((wd : Nat) : Int)), (97, .int .u64 ((cutN wd b : Nat) : Int))] (by kernel_rfl) ?_
  refine st (by rfl) (S_call (args := [.int .i64 ((wd : Nat) : Int), .int .u64 ((cutN wd b : Nat) : Int)]) (by kernel_rfl) (rsgn_ok wd (cutN wd b) _ (by omega) (by omega) (by omega)) ?_)
  rintro _ w11 ⟨rfl, hT12⟩
  have hT0 := hT0.t0 hT12
  refine sg [(99, .bool (decide (sgn wd (cutN wd a) < sgn wd (cutN wd b))))] (by kernel_rfl) ?_
  refine st (by rfl) (S_call (args := [.bool (decide (sgn wd (cutN wd a) < sgn wd (cutN wd b)))]) (by kernel_rfl) (rone_ok (decide (sgn wd (cutN wd a) < sgn wd (cutN wd b))) _) ?_)
  rintro _ w13 ⟨rfl, hT14⟩
  have hT0 := hT0.t0 hT14
  refine sg [(10, .int .u64 ((bitN (decide (sgn wd (cutN wd a) < sgn wd (cutN wd b))) : Nat) : Int))] (by kernel_rfl) ?_
  refine op_nil ?_
  refine W_seq ?_
  refine W_fg [(0, .int .i64 14), (1, .int .i64 ((wd : Nat) : Int)), (2, .int .u64 ((cutN wd a : Nat) : Int)), (3, .int .u64 ((cutN wd b : Nat) : Int)), (8, .int .u64 0), (9, .int .i64 0), (10, .int .u64 ((bitN (decide (sgn wd (cutN wd a) < sgn wd (cutN wd b))) : Nat) : Int)), (16, .bool false), (19, .bool false), (26, .int .i64 14), (32, .bool false), (37, .bool false), (42, .bool false), (47, .bool false), (56, .bool false), (64, .bool false), (69, .bool false), (74, .bool false), (79, .bool false), (85, .bool false), (91, .bool true)] (by kernel_rfl) fun ρ => ?_
  refine W_region (by kernel_rfl) ?_
  refine sg [(101, .int .i64 ((wd : Nat) : Int)), (102, .int .u64 ((bitN (decide (sgn wd (cutN wd a) < sgn wd (cutN wd b))) : Nat) : Int))] (by kernel_rfl) ?_
  refine st (by rfl) (S_call (args := [.int .i64 ((wd : Nat) : Int), .int .u64 ((bitN (decide (sgn wd (cutN wd a) < sgn wd (cutN wd b))) : Nat) : Int)]) (by kernel_rfl) (rcut_ok wd (bitN (decide (sgn wd (cutN wd a) < sgn wd (cutN wd b)))) _ (by omega) (by omega) (by first | omega | exact bval_u (by omega) | (unfold bitN; split <;> omega))) ?_)
  rintro _ w15 ⟨rfl, hT16⟩
  have hT0 := hT0.t0 hT16
  have hcl17 := cutN_lt wd (bitN (decide (sgn wd (cutN wd a) < sgn wd (cutN wd b))))
  refine sg [(8, .int .u64 ((cutN wd (bitN (decide (sgn wd (cutN wd a) < sgn wd (cutN wd b)))) : Nat) : Int)), (9, .int .i64 0)] (by kernel_rfl) ?_
  refine op_nil ?_
  refine W_ret ?_
  exact ⟨_, Res_of (v := .tuple #[.int .u64 ((cutN wd (bitN (decide (sgn wd (cutN wd a) < sgn wd (cutN wd b)))) : Nat) : Int), .int .i64 0]) (by kernel_rfl), ⟨by rw [cut_bit1 h1, sgn_cut, sgn_cut], hT0⟩⟩

set_option maxRecDepth 100000 in
theorem binary1_ok (wd xa xb ins : Nat) (w : World) (h1 : 1 ≤ wd) (h2 : wd ≤ 64) (ha : xa < 18446744073709551616) (hb : xb < 18446744073709551616) : Ret Try.prog 47 [.int .i64 1, .agg #[.int .i64 ((wd : Nat) : Int), .int .u64 ((xa : Nat) : Int), .int .u64 ((xb : Nat) : Int), .int .u64 ((ins : Nat) : Int)]] w fun v w' => v = .int .u64 ((cutN wd (cutN wd xa + cutN wd xb) : Nat) : Int) ∧ Tch N0 w w' := by
  refine enter Try.func47 rfl rfl ?_
  refine W_seq ?_
  refine W_region (by kernel_rfl) ?_
  refine st (by rfl) (S_new (v := .pointer (some ⟨w.heap.size, 0, none⟩)) (ob := .cells #[.int .i64 ((wd : Nat) : Int), .int .u64 ((xa : Nat) : Int), .int .u64 ((xb : Nat) : Int), .int .u64 ((ins : Nat) : Int)] 46) (by kernel_rfl) fun w1 hT2 hs3 hB4 => ?_)
  replace hB4 : Blk w1 (w.heap.size) 46 [.int .i64 ((wd : Nat) : Int), .int .u64 ((xa : Nat) : Int), .int .u64 ((xb : Nat) : Int), .int .u64 ((ins : Nat) : Int)] := hB4
  have hT0 := hT2
  refine sg [(4, .int .u64 0)] (by kernel_rfl) ?_
  refine op_nil ?_
  refine W_seq ?_
  refine W_region (by kernel_rfl) ?_
  refine sg [(8, .int .i64 1), (9, .pointer (some ⟨w.heap.size, 0, none⟩))] (by kernel_rfl) ?_
  refine st (by rfl) (S_val (v := .int .i64 ((wd : Nat) : Int)) (R_load (v := .int .i64 ((wd : Nat) : Int)) (by kernel_rfl) (by kernel_rfl) ((hB4.cell 0).trans rfl)) ?_)
  refine sg [(11, .pointer (some ⟨w.heap.size, 1, none⟩))] (by kernel_rfl) ?_
  refine st (by rfl) (S_val (v := .int .u64 ((xa : Nat) : Int)) (R_load (v := .int .u64 ((xa : Nat) : Int)) (by kernel_rfl) (by kernel_rfl) ((hB4.cell 1).trans rfl)) ?_)
  refine sg [(13, .pointer (some ⟨w.heap.size, 2, none⟩))] (by kernel_rfl) ?_
  refine st (by rfl) (S_val (v := .int .u64 ((xb : Nat) : Int)) (R_load (v := .int .u64 ((xb : Nat) : Int)) (by kernel_rfl) (by kernel_rfl) ((hB4.cell 2).trans rfl)) ?_)
  refine st (by rfl) (S_call (args := [.int .i64 1, .int .i64 ((wd : Nat) : Int), .int .u64 ((xa : Nat) : Int), .int .u64 ((xb : Nat) : Int)]) (by kernel_rfl) (rbin1_ok wd xa xb _ h1 h2 ha hb) ?_)
  rintro _ w5 ⟨rfl, hT6⟩
  have hT0 := hT0.t0 hT6
  have hB4 := hB4.tch0 hT6
  refine sg [(7, .tuple #[.int .u64 ((cutN wd (cutN wd xa + cutN wd xb) : Nat) : Int), .int .i64 0]), (16, .int .u64 ((cutN wd (cutN wd xa + cutN wd xb) : Nat) : Int)), (17, .int .i64 0), (5, .int .u64 ((cutN wd (cutN wd xa + cutN wd xb) : Nat) : Int)), (6, .int .i64 0)] (by kernel_rfl) ?_
  refine op_nil ?_
  refine W_seq ?_
  refine W_fg [(0, .int .i64 1), (1, .agg #[.int .i64 ((wd : Nat) : Int), .int .u64 ((xa : Nat) : Int), .int .u64 ((xb : Nat) : Int), .int .u64 ((ins : Nat) : Int)]), (3, .pointer (some ⟨w.heap.size, 0, none⟩)), (4, .int .u64 0), (5, .int .u64 ((cutN wd (cutN wd xa + cutN wd xb) : Nat) : Int))] (by kernel_rfl) fun ρ => ?_
  refine W_region (by kernel_rfl) ?_
  refine sg [(18, .int .u64 ((cutN wd (cutN wd xa + cutN wd xb) : Nat) : Int)), (4, .int .u64 ((cutN wd (cutN wd xa + cutN wd xb) : Nat) : Int))] (by kernel_rfl) ?_
  refine op_nil ?_
  refine W_ret ?_
  exact ⟨_, Res_of (v := .int .u64 ((cutN wd (cutN wd xa + cutN wd xb) : Nat) : Int)) (by kernel_rfl), ⟨rfl, hT0⟩⟩

set_option maxRecDepth 100000 in
theorem binary2_ok (wd xa xb ins : Nat) (w : World) (h1 : 1 ≤ wd) (h2 : wd ≤ 64) (ha : xa < 18446744073709551616) (hb : xb < 18446744073709551616) : Ret Try.prog 47 [.int .i64 2, .agg #[.int .i64 ((wd : Nat) : Int), .int .u64 ((xa : Nat) : Int), .int .u64 ((xb : Nat) : Int), .int .u64 ((ins : Nat) : Int)]] w fun v w' => v = .int .u64 ((subN wd (cutN wd xa) (cutN wd xb) : Nat) : Int) ∧ Tch N0 w w' := by
  refine enter Try.func47 rfl rfl ?_
  refine W_seq ?_
  refine W_region (by kernel_rfl) ?_
  refine st (by rfl) (S_new (v := .pointer (some ⟨w.heap.size, 0, none⟩)) (ob := .cells #[.int .i64 ((wd : Nat) : Int), .int .u64 ((xa : Nat) : Int), .int .u64 ((xb : Nat) : Int), .int .u64 ((ins : Nat) : Int)] 46) (by kernel_rfl) fun w1 hT2 hs3 hB4 => ?_)
  replace hB4 : Blk w1 (w.heap.size) 46 [.int .i64 ((wd : Nat) : Int), .int .u64 ((xa : Nat) : Int), .int .u64 ((xb : Nat) : Int), .int .u64 ((ins : Nat) : Int)] := hB4
  have hT0 := hT2
  refine sg [(4, .int .u64 0)] (by kernel_rfl) ?_
  refine op_nil ?_
  refine W_seq ?_
  refine W_region (by kernel_rfl) ?_
  refine sg [(8, .int .i64 2), (9, .pointer (some ⟨w.heap.size, 0, none⟩))] (by kernel_rfl) ?_
  refine st (by rfl) (S_val (v := .int .i64 ((wd : Nat) : Int)) (R_load (v := .int .i64 ((wd : Nat) : Int)) (by kernel_rfl) (by kernel_rfl) ((hB4.cell 0).trans rfl)) ?_)
  refine sg [(11, .pointer (some ⟨w.heap.size, 1, none⟩))] (by kernel_rfl) ?_
  refine st (by rfl) (S_val (v := .int .u64 ((xa : Nat) : Int)) (R_load (v := .int .u64 ((xa : Nat) : Int)) (by kernel_rfl) (by kernel_rfl) ((hB4.cell 1).trans rfl)) ?_)
  refine sg [(13, .pointer (some ⟨w.heap.size, 2, none⟩))] (by kernel_rfl) ?_
  refine st (by rfl) (S_val (v := .int .u64 ((xb : Nat) : Int)) (R_load (v := .int .u64 ((xb : Nat) : Int)) (by kernel_rfl) (by kernel_rfl) ((hB4.cell 2).trans rfl)) ?_)
  refine st (by rfl) (S_call (args := [.int .i64 2, .int .i64 ((wd : Nat) : Int), .int .u64 ((xa : Nat) : Int), .int .u64 ((xb : Nat) : Int)]) (by kernel_rfl) (rbin2_ok wd xa xb _ h1 h2 ha hb) ?_)
  rintro _ w5 ⟨rfl, hT6⟩
  have hT0 := hT0.t0 hT6
  have hB4 := hB4.tch0 hT6
  refine sg [(7, .tuple #[.int .u64 ((subN wd (cutN wd xa) (cutN wd xb) : Nat) : Int), .int .i64 0]), (16, .int .u64 ((subN wd (cutN wd xa) (cutN wd xb) : Nat) : Int)), (17, .int .i64 0), (5, .int .u64 ((subN wd (cutN wd xa) (cutN wd xb) : Nat) : Int)), (6, .int .i64 0)] (by kernel_rfl) ?_
  refine op_nil ?_
  refine W_seq ?_
  refine W_fg [(0, .int .i64 2), (1, .agg #[.int .i64 ((wd : Nat) : Int), .int .u64 ((xa : Nat) : Int), .int .u64 ((xb : Nat) : Int), .int .u64 ((ins : Nat) : Int)]), (3, .pointer (some ⟨w.heap.size, 0, none⟩)), (4, .int .u64 0), (5, .int .u64 ((subN wd (cutN wd xa) (cutN wd xb) : Nat) : Int))] (by kernel_rfl) fun ρ => ?_
  refine W_region (by kernel_rfl) ?_
  refine sg [(18, .int .u64 ((subN wd (cutN wd xa) (cutN wd xb) : Nat) : Int)), (4, .int .u64 ((subN wd (cutN wd xa) (cutN wd xb) : Nat) : Int))] (by kernel_rfl) ?_
  refine op_nil ?_
  refine W_ret ?_
  exact ⟨_, Res_of (v := .int .u64 ((subN wd (cutN wd xa) (cutN wd xb) : Nat) : Int)) (by kernel_rfl), ⟨rfl, hT0⟩⟩

set_option maxRecDepth 100000 in
theorem binary12_ok (wd xa xb ins : Nat) (w : World) (h1 : 1 ≤ wd) (h2 : wd ≤ 64) (ha : xa < 18446744073709551616) (hb : xb < 18446744073709551616) : Ret Try.prog 47 [.int .i64 12, .agg #[.int .i64 ((wd : Nat) : Int), .int .u64 ((xa : Nat) : Int), .int .u64 ((xb : Nat) : Int), .int .u64 ((ins : Nat) : Int)]] w fun v w' => v = .int .u64 ((bitN (decide (cutN wd xa = cutN wd xb)) : Nat) : Int) ∧ Tch N0 w w' := by
  refine enter Try.func47 rfl rfl ?_
  refine W_seq ?_
  refine W_region (by kernel_rfl) ?_
  refine st (by rfl) (S_new (v := .pointer (some ⟨w.heap.size, 0, none⟩)) (ob := .cells #[.int .i64 ((wd : Nat) : Int), .int .u64 ((xa : Nat) : Int), .int .u64 ((xb : Nat) : Int), .int .u64 ((ins : Nat) : Int)] 46) (by kernel_rfl) fun w1 hT2 hs3 hB4 => ?_)
  replace hB4 : Blk w1 (w.heap.size) 46 [.int .i64 ((wd : Nat) : Int), .int .u64 ((xa : Nat) : Int), .int .u64 ((xb : Nat) : Int), .int .u64 ((ins : Nat) : Int)] := hB4
  have hT0 := hT2
  refine sg [(4, .int .u64 0)] (by kernel_rfl) ?_
  refine op_nil ?_
  refine W_seq ?_
  refine W_region (by kernel_rfl) ?_
  refine sg [(8, .int .i64 12), (9, .pointer (some ⟨w.heap.size, 0, none⟩))] (by kernel_rfl) ?_
  refine st (by rfl) (S_val (v := .int .i64 ((wd : Nat) : Int)) (R_load (v := .int .i64 ((wd : Nat) : Int)) (by kernel_rfl) (by kernel_rfl) ((hB4.cell 0).trans rfl)) ?_)
  refine sg [(11, .pointer (some ⟨w.heap.size, 1, none⟩))] (by kernel_rfl) ?_
  refine st (by rfl) (S_val (v := .int .u64 ((xa : Nat) : Int)) (R_load (v := .int .u64 ((xa : Nat) : Int)) (by kernel_rfl) (by kernel_rfl) ((hB4.cell 1).trans rfl)) ?_)
  refine sg [(13, .pointer (some ⟨w.heap.size, 2, none⟩))] (by kernel_rfl) ?_
  refine st (by rfl) (S_val (v := .int .u64 ((xb : Nat) : Int)) (R_load (v := .int .u64 ((xb : Nat) : Int)) (by kernel_rfl) (by kernel_rfl) ((hB4.cell 2).trans rfl)) ?_)
  refine st (by rfl) (S_call (args := [.int .i64 12, .int .i64 ((wd : Nat) : Int), .int .u64 ((xa : Nat) : Int), .int .u64 ((xb : Nat) : Int)]) (by kernel_rfl) (rbin12_ok wd xa xb _ h1 h2 ha hb) ?_)
  rintro _ w5 ⟨rfl, hT6⟩
  have hT0 := hT0.t0 hT6
  have hB4 := hB4.tch0 hT6
  refine sg [(7, .tuple #[.int .u64 ((bitN (decide (cutN wd xa = cutN wd xb)) : Nat) : Int), .int .i64 0]), (16, .int .u64 ((bitN (decide (cutN wd xa = cutN wd xb)) : Nat) : Int)), (17, .int .i64 0), (5, .int .u64 ((bitN (decide (cutN wd xa = cutN wd xb)) : Nat) : Int)), (6, .int .i64 0)] (by kernel_rfl) ?_
  refine op_nil ?_
  refine W_seq ?_
  refine W_fg [(0, .int .i64 12), (1, .agg #[.int .i64 ((wd : Nat) : Int), .int .u64 ((xa : Nat) : Int), .int .u64 ((xb : Nat) : Int), .int .u64 ((ins : Nat) : Int)]), (3, .pointer (some ⟨w.heap.size, 0, none⟩)), (4, .int .u64 0), (5, .int .u64 ((bitN (decide (cutN wd xa = cutN wd xb)) : Nat) : Int))] (by kernel_rfl) fun ρ => ?_
  refine W_region (by kernel_rfl) ?_
  refine sg [(18, .int .u64 ((bitN (decide (cutN wd xa = cutN wd xb)) : Nat) : Int)), (4, .int .u64 ((bitN (decide (cutN wd xa = cutN wd xb)) : Nat) : Int))] (by kernel_rfl) ?_
  refine op_nil ?_
  refine W_ret ?_
  exact ⟨_, Res_of (v := .int .u64 ((bitN (decide (cutN wd xa = cutN wd xb)) : Nat) : Int)) (by kernel_rfl), ⟨rfl, hT0⟩⟩

set_option maxRecDepth 100000 in
theorem binary13_ok (wd xa xb ins : Nat) (w : World) (h1 : 1 ≤ wd) (h2 : wd ≤ 64) (ha : xa < 18446744073709551616) (hb : xb < 18446744073709551616) : Ret Try.prog 47 [.int .i64 13, .agg #[.int .i64 ((wd : Nat) : Int), .int .u64 ((xa : Nat) : Int), .int .u64 ((xb : Nat) : Int), .int .u64 ((ins : Nat) : Int)]] w fun v w' => v = .int .u64 ((bitN (decide (cutN wd xa < cutN wd xb)) : Nat) : Int) ∧ Tch N0 w w' := by
  refine enter Try.func47 rfl rfl ?_
  refine W_seq ?_
  refine W_region (by kernel_rfl) ?_
  refine st (by rfl) (S_new (v := .pointer (some ⟨w.heap.size, 0, none⟩)) (ob := .cells #[.int .i64 ((wd : Nat) : Int), .int .u64 ((xa : Nat) : Int), .int .u64 ((xb : Nat) : Int), .int .u64 ((ins : Nat) : Int)] 46) (by kernel_rfl) fun w1 hT2 hs3 hB4 => ?_)
  replace hB4 : Blk w1 (w.heap.size) 46 [.int .i64 ((wd : Nat) : Int), .int .u64 ((xa : Nat) : Int), .int .u64 ((xb : Nat) : Int), .int .u64 ((ins : Nat) : Int)] := hB4
  have hT0 := hT2
  refine sg [(4, .int .u64 0)] (by kernel_rfl) ?_
  refine op_nil ?_
  refine W_seq ?_
  refine W_region (by kernel_rfl) ?_
  refine sg [(8, .int .i64 13), (9, .pointer (some ⟨w.heap.size, 0, none⟩))] (by kernel_rfl) ?_
  refine st (by rfl) (S_val (v := .int .i64 ((wd : Nat) : Int)) (R_load (v := .int .i64 ((wd : Nat) : Int)) (by kernel_rfl) (by kernel_rfl) ((hB4.cell 0).trans rfl)) ?_)
  refine sg [(11, .pointer (some ⟨w.heap.size, 1, none⟩))] (by kernel_rfl) ?_
  refine st (by rfl) (S_val (v := .int .u64 ((xa : Nat) : Int)) (R_load (v := .int .u64 ((xa : Nat) : Int)) (by kernel_rfl) (by kernel_rfl) ((hB4.cell 1).trans rfl)) ?_)
  refine sg [(13, .pointer (some ⟨w.heap.size, 2, none⟩))] (by kernel_rfl) ?_
  refine st (by rfl) (S_val (v := .int .u64 ((xb : Nat) : Int)) (R_load (v := .int .u64 ((xb : Nat) : Int)) (by kernel_rfl) (by kernel_rfl) ((hB4.cell 2).trans rfl)) ?_)
  refine st (by rfl) (S_call (args := [.int .i64 13, .int .i64 ((wd : Nat) : Int), .int .u64 ((xa : Nat) : Int), .int .u64 ((xb : Nat) : Int)]) (by kernel_rfl) (rbin13_ok wd xa xb _ h1 h2 ha hb) ?_)
  rintro _ w5 ⟨rfl, hT6⟩
  have hT0 := hT0.t0 hT6
  have hB4 := hB4.tch0 hT6
  refine sg [(7, .tuple #[.int .u64 ((bitN (decide (cutN wd xa < cutN wd xb)) : Nat) : Int), .int .i64 0]), (16, .int .u64 ((bitN (decide (cutN wd xa < cutN wd xb)) : Nat) : Int)), (17, .int .i64 0), (5, .int .u64 ((bitN (decide (cutN wd xa < cutN wd xb)) : Nat) : Int)), (6, .int .i64 0)] (by kernel_rfl) ?_
  refine op_nil ?_
  refine W_seq ?_
  refine W_fg [(0, .int .i64 13), (1, .agg #[.int .i64 ((wd : Nat) : Int), .int .u64 ((xa : Nat) : Int), .int .u64 ((xb : Nat) : Int), .int .u64 ((ins : Nat) : Int)]), (3, .pointer (some ⟨w.heap.size, 0, none⟩)), (4, .int .u64 0), (5, .int .u64 ((bitN (decide (cutN wd xa < cutN wd xb)) : Nat) : Int))] (by kernel_rfl) fun ρ => ?_
  refine W_region (by kernel_rfl) ?_
  refine sg [(18, .int .u64 ((bitN (decide (cutN wd xa < cutN wd xb)) : Nat) : Int)), (4, .int .u64 ((bitN (decide (cutN wd xa < cutN wd xb)) : Nat) : Int))] (by kernel_rfl) ?_
  refine op_nil ?_
  refine W_ret ?_
  exact ⟨_, Res_of (v := .int .u64 ((bitN (decide (cutN wd xa < cutN wd xb)) : Nat) : Int)) (by kernel_rfl), ⟨rfl, hT0⟩⟩

set_option maxRecDepth 100000 in
theorem binary14_ok (wd xa xb ins : Nat) (w : World) (h1 : 1 ≤ wd) (h2 : wd ≤ 64) (ha : xa < 18446744073709551616) (hb : xb < 18446744073709551616) : Ret Try.prog 47 [.int .i64 14, .agg #[.int .i64 ((wd : Nat) : Int), .int .u64 ((xa : Nat) : Int), .int .u64 ((xb : Nat) : Int), .int .u64 ((ins : Nat) : Int)]] w fun v w' => v = .int .u64 ((bitN (decide (sgn wd xa < sgn wd xb)) : Nat) : Int) ∧ Tch N0 w w' := by
  refine enter Try.func47 rfl rfl ?_
  refine W_seq ?_
  refine W_region (by kernel_rfl) ?_
  refine st (by rfl) (S_new (v := .pointer (some ⟨w.heap.size, 0, none⟩)) (ob := .cells #[.int .i64 ((wd : Nat) : Int), .int .u64 ((xa : Nat) : Int), .int .u64 ((xb : Nat) : Int), .int .u64 ((ins : Nat) : Int)] 46) (by kernel_rfl) fun w1 hT2 hs3 hB4 => ?_)
  replace hB4 : Blk w1 (w.heap.size) 46 [.int .i64 ((wd : Nat) : Int), .int .u64 ((xa : Nat) : Int), .int .u64 ((xb : Nat) : Int), .int .u64 ((ins : Nat) : Int)] := hB4
  have hT0 := hT2
  refine sg [(4, .int .u64 0)] (by kernel_rfl) ?_
  refine op_nil ?_
  refine W_seq ?_
  refine W_region (by kernel_rfl) ?_
  refine sg [(8, .int .i64 14), (9, .pointer (some ⟨w.heap.size, 0, none⟩))] (by kernel_rfl) ?_
  refine st (by rfl) (S_val (v := .int .i64 ((wd : Nat) : Int)) (R_load (v := .int .i64 ((wd : Nat) : Int)) (by kernel_rfl) (by kernel_rfl) ((hB4.cell 0).trans rfl)) ?_)
  refine sg [(11, .pointer (some ⟨w.heap.size, 1, none⟩))] (by kernel_rfl) ?_
  refine st (by rfl) (S_val (v := .int .u64 ((xa : Nat) : Int)) (R_load (v := .int .u64 ((xa : Nat) : Int)) (by kernel_rfl) (by kernel_rfl) ((hB4.cell 1).trans rfl)) ?_)
  refine sg [(13, .pointer (some ⟨w.heap.size, 2, none⟩))] (by kernel_rfl) ?_
  refine st (by rfl) (S_val (v := .int .u64 ((xb : Nat) : Int)) (R_load (v := .int .u64 ((xb : Nat) : Int)) (by kernel_rfl) (by kernel_rfl) ((hB4.cell 2).trans rfl)) ?_)
  refine st (by rfl) (S_call (args := [.int .i64 14, .int .i64 ((wd : Nat) : Int), .int .u64 ((xa : Nat) : Int), .int .u64 ((xb : Nat) : Int)]) (by kernel_rfl) (rbin14_ok wd xa xb _ h1 h2 ha hb) ?_)
  rintro _ w5 ⟨rfl, hT6⟩
  have hT0 := hT0.t0 hT6
  have hB4 := hB4.tch0 hT6
  refine sg [(7, .tuple #[.int .u64 ((bitN (decide (sgn wd xa < sgn wd xb)) : Nat) : Int), .int .i64 0]), (16, .int .u64 ((bitN (decide (sgn wd xa < sgn wd xb)) : Nat) : Int)), (17, .int .i64 0), (5, .int .u64 ((bitN (decide (sgn wd xa < sgn wd xb)) : Nat) : Int)), (6, .int .i64 0)] (by kernel_rfl) ?_
  refine op_nil ?_
  refine W_seq ?_
  refine W_fg [(0, .int .i64 14), (1, .agg #[.int .i64 ((wd : Nat) : Int), .int .u64 ((xa : Nat) : Int), .int .u64 ((xb : Nat) : Int), .int .u64 ((ins : Nat) : Int)]), (3, .pointer (some ⟨w.heap.size, 0, none⟩)), (4, .int .u64 0), (5, .int .u64 ((bitN (decide (sgn wd xa < sgn wd xb)) : Nat) : Int))] (by kernel_rfl) fun ρ => ?_
  refine W_region (by kernel_rfl) ?_
  refine sg [(18, .int .u64 ((bitN (decide (sgn wd xa < sgn wd xb)) : Nat) : Int)), (4, .int .u64 ((bitN (decide (sgn wd xa < sgn wd xb)) : Nat) : Int))] (by kernel_rfl) ?_
  refine op_nil ?_
  refine W_ret ?_
  exact ⟨_, Res_of (v := .int .u64 ((bitN (decide (sgn wd xa < sgn wd xb)) : Nat) : Int)) (by kernel_rfl), ⟨rfl, hT0⟩⟩

set_option maxRecDepth 100000 in
theorem bit_ok (n x : Nat) (K J : Option Addr) (ck cj : Nat) (kn tr : List Bool) (be : Nat → Bool) (bb : Bool) (w : World) (hK : RdW w 1 n K (boolsV kn)) (hJ : RdW w 1 n J (boolsV tr)) (hn : n ≤ 68719476736) (hall : ∀ x, x / 2 < n → kn.getD (x / 2) false = true ∧ hIs kn tr x = lt_ be x) (hx : x / 2 < n) (hv : lt_ be x = bb) : Ret Try.prog 48 [.agg #[.slice K n ck, .slice J n cj], .int .i64 ((x : Nat) : Int), .int .u64 ((bitN bb : Nat) : Int)] w fun v w' => v = .bool true ∧ Tch N0 w w' := by
  refine enter Try.func48 rfl rfl ?_
  refine W_seq ?_
  refine W_region (by kernel_rfl) ?_
  refine st (by rfl) (S_new (v := .pointer (some ⟨w.heap.size, 0, none⟩)) (ob := .cells #[.slice K n ck, .slice J n cj] 54) (by kernel_rfl) fun w1 hT2 hs3 hB4 => ?_)
  replace hB4 : Blk w1 (w.heap.size) 54 [.slice K n ck, .slice J n cj] := hB4
  have hT0 := hT2
  refine sg [(6, .bool false)] (by kernel_rfl) ?_
  refine op_nil ?_
  refine W_seq ?_
  refine W_region (by kernel_rfl) ?_
  refine st (by rfl) (S_val (v := .agg #[.slice K n ck, .slice J n cj]) (R_loadA [.slice K n ck, .slice J n cj] (by kernel_rfl) (by kernel_rfl) (by kernel_rfl) (fun k u hk => by rw [hB4.cell]; exact get_part _ 0 _ k u rfl hk)) ?_)
  refine sg [(11, .int .i64 ((x : Nat) : Int))] (by kernel_rfl) ?_
  refine st (by rfl) (S_call (args := [.agg #[.slice K n ck, .slice J n cj], .int .i64 ((x : Nat) : Int)]) (by kernel_rfl) (holds_is n K J ck cj kn tr x bb _ (hK.tch0 hT0) (hJ.tch0 hT0) hn hx ⟨(hall _ hx).1, (hall _ hx).2.trans hv⟩) ?_)
  rintro _ w5 ⟨rfl, hT6⟩
  have hT0 := hT0.t0 hT6
  have hB4 := hB4.tch0 hT6
  refine sg [(9, .tuple #[.bool bb, .bool true]), (13, .bool bb), (14, .bool true), (7, .bool bb), (8, .bool true)] (by kernel_rfl) ?_
  refine op_nil ?_
  refine W_seq ?_
  refine W_fg [(0, .agg #[.slice K n ck, .slice J n cj]), (1, .int .i64 ((x : Nat) : Int)), (2, .int .u64 ((bitN bb : Nat) : Int)), (3, .pointer (some ⟨w.heap.size, 0, none⟩)), (6, .bool false), (7, .bool bb), (8, .bool true)] (by kernel_rfl) fun ρ => ?_
  refine W_region (by kernel_rfl) ?_
  refine sg [(15, .bool true), (16, .bool true), (17, .bool bb), (18, .int .u64 ((bitN bb : Nat) : Int)), (19, .bool (((bitN bb : Nat) : Int) == 1)), (20, .bool (bb == (((bitN bb : Nat) : Int) == 1))), (21, .bool (bb == (((bitN bb : Nat) : Int) == 1))), (6, .bool (bb == (((bitN bb : Nat) : Int) == 1)))] (by kernel_rfl) ?_
  refine op_nil ?_
  refine W_ret ?_
  exact ⟨_, Res_of (v := .bool (bb == (((bitN bb : Nat) : Int) == 1))) (by kernel_rfl), ⟨congrArg Value.bool (by cases bb <;> rfl), hT0⟩⟩

theorem is_okV (n mm ca : Nat) (K J A : Option Addr) (ck cj : Nat) (kn tr : List Bool) (r : List Nat) (be : Nat → Bool) (x : Nat) (w : World) (hK : RdW w 1 n K (boolsV kn)) (hJ : RdW w 1 n J (boolsV tr)) (hA : RdW w 1 mm A (nats r)) (hn : n ≤ 68719476736) (hall : ∀ x, x / 2 < n → kn.getD (x / 2) false = true ∧ hIs kn tr x = lt_ be x) (hfr : ∀ j, j < mm → r.getD j 0 / 2 < n) (hm2 : mm ≤ 64) (hm1 : 1 ≤ mm) (hx : x < 18446744073709551616) (hv : bval mm (fun j => lt_ be (r.getD j 0)) = cutN mm x) :
    Ret Try.prog 34 [.agg #[.slice K n ck, .slice J n cj], .slice A mm ca, .int .i64 ((mm : Nat) : Int), .int .u64 ((x : Nat) : Int)] w fun v w' => v = .int .i64 1 ∧ Tch N0 w w' :=
  is_ok n mm ca K J A ck cj kn tr r be x w hK hJ hA hn hall hfr hm2 hm1 hx (fun j hj => by
    have := congrArg (fun z => Nat.testBit z j) hv
    simp only [bval_bit, cut_bit, decide_eq_true hj, Bool.true_and] at this
    exact this)

end Go.Proofs.YtnlecdpiccgdpaaV
