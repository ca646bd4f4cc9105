/- Walks of functions of the program and of the document's texts. The conditions stand with each theorem. -/
import Derived.Test.YtnlecdpiccgdpaaVx13
import Derived.Test.YtnlecdpiccgdpaaProg
import Derived.Test.YtnlecdpiccgdpaaVx4
import Derived.Test.YtnlecdpiccgdpaaY1
set_option linter.unusedVariables false
set_option linter.unusedSimpArgs false
namespace Go.Proofs.YtnlecdpiccgdpaaV
open Go Go.RowKit Go.Proofs

set_option maxRecDepth 100000 in
theorem rbin9_ok (wd a b : Nat) (w : World) (h1 : 1 ≤ wd) (h2 : wd ≤ 64) (ha : a < 18446744073709551616) (hb : b < 18446744073709551616) : Ret Try.prog 33 [.int .i64 9, .int .i64 ((wd : Nat) : Int), .int .u64 ((a : Nat) : Int), .int .u64 ((b : Nat) : Int)] w fun v w' => v = .tuple #[.int .u64 ((bval wd (mvB true wd (fun j => (cutN wd a).testBit j) false (cutN wd b)) : Nat) : Int), .int .i64 0] ∧ Tch N0 w w' := by
  have hp64 := pw64 (w := wd) (by omega)
  refine enter Try.func33 rfl rfl ?_
  refine W_seq ?_
  refine W_region (by kernel_rfl) ?_
  refine sg [(8, .int .u64 0), (9, .int .i64 0)] (by kernel_rfl) ?_
  refine op_nil ?_
  refine W_seq ?_
  refine W_seq ?_
  refine W_region (by kernel_rfl) ?_
  refine sg [(11, .int .i64 9), (12, .bool false), (13, .bool false), (14, .int .i64 9), (15, .bool false), (16, .bool false)] (by kernel_rfl) ?_
  refine op_nil ?_
  refine W_cond false (by kernel_rfl) (by kernel_rfl) (fun h => nomatch h) (fun _ => ?_)
  refine W_skip ?_
  refine W_seq ?_
  refine W_seq ?_
  refine W_fg [(0, .int .i64 9), (1, .int .i64 ((wd : Nat) : Int)), (2, .int .u64 ((a : Nat) : Int)), (3, .int .u64 ((b : Nat) : Int)), (8, .int .u64 0), (9, .int .i64 0), (16, .bool false)] (by kernel_rfl) fun ρ => ?_
  refine W_region (by kernel_rfl) ?_
  refine sg [(17, .int .i64 ((wd : Nat) : Int))] (by kernel_rfl) ?_
  refine st (by rfl) (S_call (args := [.int .i64 ((wd : Nat) : Int)]) (by kernel_rfl) (rfits_t wd _ (by omega) (by omega)) ?_)
  rintro _ w1 ⟨rfl, hT2⟩
  have hT0 := hT2
  refine sg [(19, .bool false)] (by kernel_rfl) ?_
  refine op_nil ?_
  refine W_cond false (by kernel_rfl) (by kernel_rfl) (fun h => nomatch h) (fun _ => ?_)
  refine W_skip ?_
  refine W_seq ?_
  refine W_region (by kernel_rfl) ?_
  refine sg [(20, .int .i64 ((wd : Nat) : Int)), (21, .int .u64 ((a : Nat) : Int))] (by kernel_rfl) ?_
  refine st (by rfl) (S_call (args := [.int .i64 ((wd : Nat) : Int), .int .u64 ((a : Nat) : Int)]) (by kernel_rfl) (rcut_ok wd a _ (by omega) (by omega) (by first | omega | exact bval_u (by omega))) ?_)
  rintro _ w3 ⟨rfl, hT4⟩
  have hT0 := hT0.t0 hT4
  have hcl5 := cutN_lt wd a
  refine sg [(2, .int .u64 ((cutN wd a : Nat) : Int))] (by kernel_rfl) ?_
  refine op_nil ?_
  refine W_seq ?_
  refine W_region (by kernel_rfl) ?_
  refine sg [(23, .int .i64 ((wd : Nat) : Int)), (24, .int .u64 ((b : Nat) : Int))] (by kernel_rfl) ?_
  refine st (by rfl) (S_call (args := [.int .i64 ((wd : Nat) : Int), .int .u64 ((b : Nat) : Int)]) (by kernel_rfl) (rcut_ok wd b _ (by omega) (by omega) (by first | omega | exact bval_u (by omega))) ?_)
  rintro _ w6 ⟨rfl, hT7⟩
  have hT0 := hT0.t0 hT7
  have hcl8 := cutN_lt wd b
  refine sg [(3, .int .u64 ((cutN wd b : Nat) : Int))] (by kernel_rfl) ?_
  refine op_nil ?_
  refine W_seq ?_
  refine W_fg [(0, .int .i64 9), (1, .int .i64 ((wd : Nat) : Int)), (2, .int .u64 ((cutN wd a : Nat) : Int)), (3, .int .u64 ((cutN wd b : Nat) : Int)), (8, .int .u64 0), (9, .int .i64 0), (16, .bool false), (19, .bool false)] (by kernel_rfl) fun ρ => ?_
  refine W_region (by kernel_rfl) ?_
  refine sg [(10, .int .u64 0)] (by kernel_rfl) ?_
  refine op_nil ?_
  refine W_seq ?_
  refine W_seq ?_
  refine W_region (by kernel_rfl) ?_
  refine sg [(26, .int .i64 9)] (by kernel_rfl) ?_
  refine op_nil ?_
  refine W_block ?_
  refine W_seq ?_
  refine W_region (by kernel_rfl) ?_
  refine sg [(33, .bool false), (32, .bool false)] (by kernel_rfl) ?_
  refine op_nil ?_
  refine W_cond false (by kernel_rfl) (by kernel_rfl) (fun h => nomatch h) (fun _ => ?_)
  refine W_seq ?_
  refine W_region (by kernel_rfl) ?_
  refine sg [(38, .bool false), (37, .bool false)] (by kernel_rfl) ?_
  refine op_nil ?_
  refine W_cond false (by kernel_rfl) (by kernel_rfl) (fun h => nomatch h) (fun _ => ?_)
  refine W_seq ?_
  refine W_region (by kernel_rfl) ?_
  refine sg [(43, .bool false), (42, .bool false)] (by kernel_rfl) ?_
  refine op_nil ?_
  refine W_cond false (by kernel_rfl) (by kernel_rfl) (fun h => nomatch h) (fun _ => ?_)
  refine W_seq ?_
  refine W_fg [(0, .int .i64 9), (1, .int .i64 ((wd : Nat) : Int)), (2, .int .u64 ((cutN wd a : Nat) : Int)), (3, .int .u64 ((cutN wd b : Nat) : Int)), (8, .int .u64 0), (9, .int .i64 0), (10, .int .u64 0), (16, .bool false), (19, .bool false), (26, .int .i64 9), (32, .bool false), (37, .bool false), (42, .bool false)] (by kernel_rfl) fun ρ => ?_
  refine W_region (by kernel_rfl) ?_
  refine sg [(48, .bool false), (47, .bool false)] (by kernel_rfl) ?_
  refine op_nil ?_
  refine W_cond false (by kernel_rfl) (by kernel_rfl) (fun h => nomatch h) (fun _ => ?_)
  refine W_seq ?_
  refine W_region (by kernel_rfl) ?_
  refine sg [(57, .bool false), (56, .bool false)] (by kernel_rfl) ?_
  refine op_nil ?_
  refine W_cond false (by kernel_rfl) (by kernel_rfl) (fun h => nomatch h) (fun _ => ?_)
  refine W_seq ?_
  refine W_region (by kernel_rfl) ?_
  refine sg [(65, .bool false), (64, .bool false)] (by kernel_rfl) ?_
  refine op_nil ?_
  refine W_cond false (by kernel_rfl) (by kernel_rfl) (fun h => nomatch h) (fun _ => ?_)
  refine W_seq ?_
  refine W_region (by kernel_rfl) ?_
  refine sg [(70, .bool false), (69, .bool false)] (by kernel_rfl) ?_
  refine op_nil ?_
  refine W_cond false (by kernel_rfl) (by kernel_rfl) (fun h => nomatch h) (fun _ => ?_)
  refine W_seq ?_
  refine W_fg [(0, .int .i64 9), (1, .int .i64 ((wd : Nat) : Int)), (2, .int .u64 ((cutN wd a : Nat) : Int)), (3, .int .u64 ((cutN wd b : Nat) : Int)), (8, .int .u64 0), (9, .int .i64 0), (10, .int .u64 0), (16, .bool false), (19, .bool false), (26, .int .i64 9), (32, .bool false), (37, .bool false), (42, .bool false), (47, .bool false), (56, .bool false), (64, .bool false), (69, .bool false)] (by kernel_rfl) fun ρ => ?_
  refine W_region (by kernel_rfl) ?_
  refine sg [(75, .bool false), (74, .bool false)] (by kernel_rfl) ?_
  refine op_nil ?_
  refine W_cond false (by kernel_rfl) (by kernel_rfl) (fun h => nomatch h) (fun _ => ?_)
  refine W_seq ?_
  refine W_region (by kernel_rfl) ?_
  refine sg [(80, .bool false), (79, .bool false)] (by kernel_rfl) ?_
  refine op_nil ?_
  refine W_cond false (by kernel_rfl) (by kernel_rfl) (fun h => nomatch h) (fun _ => ?_)
  refine W_seq ?_
  refine W_region (by kernel_rfl) ?_
  refine sg [(86, .bool false), (85, .bool false)] (by kernel_rfl) ?_
  refine op_nil ?_
  refine W_cond false (by kernel_rfl) (by kernel_rfl) (fun h => nomatch h) (fun _ => ?_)
  refine W_seq ?_
  refine W_region (by kernel_rfl) ?_
  refine sg [(92, .bool false), (91, .bool false)] (by kernel_rfl) ?_
  refine op_nil ?_
  refine W_cond false (by kernel_rfl) (by kernel_rfl) (fun h => nomatch h) (fun _ => ?_)
  refine W_fg [(0, .int .i64 9), (1, .int .i64 ((wd : Nat) : Int)), (2, .int .u64 ((cutN wd a : Nat) : Int)), (3, .int .u64 ((cutN wd b : Nat) : Int)), (8, .int .u64 0), (9, .int .i64 0), (10, .int .u64 0), (16, .bool false), (19, .bool false), (26, .int .i64 9), (32, .bool false), (37, .bool false), (42, .bool false), (47, .bool false), (56, .bool false), (64, .bool false), (69, .bool false), (74, .bool false), (79, .bool false), (85, .bool false), (91, .bool false)] (by kernel_rfl) fun ρ => ?_
  refine W_region (by kernel_rfl) ?_
  refine sg [(27, .int .i64 9), (28, .int .i64 ((wd : Nat) : Int)), (29, .int .u64 ((cutN wd a : Nat) : Int)), (30, .int .u64 ((cutN wd b : Nat) : Int))] (by kernel_rfl) ?_
  refine st (by rfl) (S_call (args := [.int .i64 9, .int .i64 ((wd : Nat) : Int), .int .u64 ((cutN wd a : Nat) : Int), .int .u64 ((cutN wd b : Nat) : Int)]) (by kernel_rfl) (rshift9_ok wd (cutN wd a) (cutN wd b) _ (by omega) (by omega) (by omega)) ?_)
  rintro _ w9 ⟨rfl, hT10⟩
  have hT0 := hT0.t0 hT10
  refine sg [(10, .int .u64 ((bval wd (mvB true wd (fun j => (cutN wd a).testBit j) false (cutN wd b)) : Nat) : Int))] (by kernel_rfl) ?_
  refine op_nil ?_
  refine W_seq ?_
  refine W_region (by kernel_rfl) ?_
  refine sg [(101, .int .i64 ((wd : Nat) : Int)), (102, .int .u64 ((bval wd (mvB true wd (fun j => (cutN wd a).testBit j) false (cutN wd b)) : Nat) : Int))] (by kernel_rfl) ?_
  refine st (by rfl) (S_call (args := [.int .i64 ((wd : Nat) : Int), .int .u64 ((bval wd (mvB true wd (fun j => (cutN wd a).testBit j) false (cutN wd b)) : Nat) : Int)]) (by kernel_rfl) (rcut_ok wd (bval wd (mvB true wd (fun j => (cutN wd a).testBit j) false (cutN wd b))) _ (by omega) (by omega) (by first | omega | exact bval_u (by omega))) ?_)
  rintro _ w11 ⟨rfl, hT12⟩
  have hT0 := hT0.t0 hT12
  have hcl13 := cutN_lt wd (bval wd (mvB true wd (fun j => (cutN wd a).testBit j) false (cutN wd b)))
  refine sg [(8, .int .u64 ((cutN wd (bval wd (mvB true wd (fun j => (cutN wd a).testBit j) false (cutN wd b))) : Nat) : Int)), (9, .int .i64 0)] (by kernel_rfl) ?_
  refine op_nil ?_
  refine W_ret ?_
  exact ⟨_, Res_of (v := .tuple #[.int .u64 ((cutN wd (bval wd (mvB true wd (fun j => (cutN wd a).testBit j) false (cutN wd b))) : Nat) : Int), .int .i64 0]) (by kernel_rfl), ⟨by rw [cut_bval], hT0⟩⟩

set_option maxRecDepth 100000 in
theorem rbin10_ok (wd a b : Nat) (w : World) (h1 : 1 ≤ wd) (h2 : wd ≤ 64) (ha : a < 18446744073709551616) (hb : b < 18446744073709551616) : Ret Try.prog 33 [.int .i64 10, .int .i64 ((wd : Nat) : Int), .int .u64 ((a : Nat) : Int), .int .u64 ((b : Nat) : Int)] w fun v w' => v = .tuple #[.int .u64 ((bval wd (mvB false wd (fun j => (cutN wd a).testBit j) false (cutN wd b)) : Nat) : Int), .int .i64 0] ∧ Tch N0 w w' := by
  have hp64 := pw64 (w := wd) (by omega)
  refine enter Try.func33 rfl rfl ?_
  refine W_seq ?_
  refine W_region (by kernel_rfl) ?_
  refine sg [(8, .int .u64 0), (9, .int .i64 0)] (by kernel_rfl) ?_
  refine op_nil ?_
  refine W_seq ?_
  refine W_seq ?_
  refine W_region (by kernel_rfl) ?_
  refine sg [(11, .int .i64 10), (12, .bool false), (13, .bool false), (14, .int .i64 10), (15, .bool false), (16, .bool false)] (by kernel_rfl) ?_
  refine op_nil ?_
  refine W_cond false (by kernel_rfl) (by kernel_rfl) (fun h => nomatch h) (fun _ => ?_)
  refine W_skip ?_
  refine W_seq ?_
  refine W_seq ?_
  refine W_fg [(0, .int .i64 10), (1, .int .i64 ((wd : Nat) : Int)), (2, .int .u64 ((a : Nat) : Int)), (3, .int .u64 ((b : Nat) : Int)), (8, .int .u64 0), (9, .int .i64 0), (16, .bool false)] (by kernel_rfl) fun ρ => ?_
  refine W_region (by kernel_rfl) ?_
  refine sg [(17, .int .i64 ((wd : Nat) : Int))] (by kernel_rfl) ?_
  refine st (by rfl) (S_call (args := [.int .i64 ((wd : Nat) : Int)]) (by kernel_rfl) (rfits_t wd _ (by omega) (by omega)) ?_)
  rintro _ w1 ⟨rfl, hT2⟩
  have hT0 := hT2
  refine sg [(19, .bool false)] (by kernel_rfl) ?_
  refine op_nil ?_
  refine W_cond false (by kernel_rfl) (by kernel_rfl) (fun h => nomatch h) (fun _ => ?_)
  refine W_skip ?_
  refine W_seq ?_
  refine W_region (by kernel_rfl) ?_
  refine sg [(20, .int .i64 ((wd : Nat) : Int)), (21, .int .u64 ((a : Nat) : Int))] (by kernel_rfl) ?_
  refine st (by rfl) (S_call (args := [.int .i64 ((wd : Nat) : Int), .int .u64 ((a : Nat) : Int)]) (by kernel_rfl) (rcut_ok wd a _ (by omega) (by omega) (by first | omega | exact bval_u (by omega))) ?_)
  rintro _ w3 ⟨rfl, hT4⟩
  have hT0 := hT0.t0 hT4
  have hcl5 := cutN_lt wd a
  refine sg [(2, .int .u64 ((cutN wd a : Nat) : Int))] (by kernel_rfl) ?_
  refine op_nil ?_
  refine W_seq ?_
  refine W_region (by kernel_rfl) ?_
  refine sg [(23, .int .i64 ((wd : Nat) : Int)), (24, .int .u64 ((b : Nat) : Int))] (by kernel_rfl) ?_
  refine st (by rfl) (S_call (args := [.int .i64 ((wd : Nat) : Int), .int .u64 ((b : Nat) : Int)]) (by kernel_rfl) (rcut_ok wd b _ (by omega) (by omega) (by first | omega | exact bval_u (by omega))) ?_)
  rintro _ w6 ⟨rfl, hT7⟩
  have hT0 := hT0.t0 hT7
  have hcl8 := cutN_lt wd b
  refine sg [(3, .int .u64 ((cutN wd b : Nat) : Int))] (by kernel_rfl) ?_
  refine op_nil ?_
  refine W_seq ?_
  refine W_fg [(0, .int .i64 10), (1, .int .i64 ((wd : Nat) : Int)), (2, .int .u64 ((cutN wd a : Nat) : Int)), (3, .int .u64 ((cutN wd b : Nat) : Int)), (8, .int .u64 0), (9, .int .i64 0), (16, .bool false), (19, .bool false)] (by kernel_rfl) fun ρ => ?_
  refine W_region (by kernel_rfl) ?_
  refine sg [(10, .int .u64 0)] (by kernel_rfl) ?_
  refine op_nil ?_
  refine W_seq ?_
  refine W_seq ?_
  refine W_region (by kernel_rfl) ?_
  refine sg [(26, .int .i64 10)] (by kernel_rfl) ?_
  refine op_nil ?_
  refine W_block ?_
  refine W_seq ?_
  refine W_region (by kernel_rfl) ?_
  refine sg [(33, .bool false), (32, .bool false)] (by kernel_rfl) ?_
  refine op_nil ?_
  refine W_cond false (by kernel_rfl) (by kernel_rfl) (fun h => nomatch h) (fun _ => ?_)
  refine W_seq ?_
  refine W_region (by kernel_rfl) ?_
  refine sg [(38, .bool false), (37, .bool false)] (by kernel_rfl) ?_
  refine op_nil ?_
  refine W_cond false (by kernel_rfl) (by kernel_rfl) (fun h => nomatch h) (fun _ => ?_)
  refine W_seq ?_
  refine W_region (by kernel_rfl) ?_
  refine sg [(43, .bool false), (42, .bool false)] (by kernel_rfl) ?_
  refine op_nil ?_
  refine W_cond false (by kernel_rfl) (by kernel_rfl) (fun h => nomatch h) (fun _ => ?_)
  refine W_seq ?_
  refine W_fg [(0, .int .i64 10), (1, .int .i64 ((wd : Nat) : Int)), (2, .int .u64 ((cutN wd a : Nat) : Int)), (3, .int .u64 ((cutN wd b : Nat) : Int)), (8, .int .u64 0), (9, .int .i64 0), (10, .int .u64 0), (16, .bool false), (19, .bool false), (26, .int .i64 10), (32, .bool false), (37, .bool false), (42, .bool false)] (by kernel_rfl) fun ρ => ?_
  refine W_region (by kernel_rfl) ?_
  refine sg [(48, .bool false), (47, .bool false)] (by kernel_rfl) ?_
  refine op_nil ?_
  refine W_cond false (by kernel_rfl) (by kernel_rfl) (fun h => nomatch h) (fun _ => ?_)
  refine W_seq ?_
  refine W_region (by kernel_rfl) ?_
  refine sg [(57, .bool false), (56, .bool false)] (by kernel_rfl) ?_
  refine op_nil ?_
  refine W_cond false (by kernel_rfl) (by kernel_rfl) (fun h => nomatch h) (fun _ => ?_)
  refine W_seq ?_
  refine W_region (by kernel_rfl) ?_
  refine sg [(65, .bool false), (64, .bool false)] (by kernel_rfl) ?_
  refine op_nil ?_
  refine W_cond false (by kernel_rfl) (by kernel_rfl) (fun h => nomatch h) (fun _ => ?_)
  refine W_seq ?_
  refine W_region (by kernel_rfl) ?_
  refine sg [(70, .bool false), (69, .bool false)] (by kernel_rfl) ?_
  refine op_nil ?_
  refine W_cond false (by kernel_rfl) (by kernel_rfl) (fun h => nomatch h) (fun _ => ?_)
  refine W_seq ?_
  refine W_fg [(0, .int .i64 10), (1, .int .i64 ((wd : Nat) : Int)), (2, .int .u64 ((cutN wd a : Nat) : Int)), (3, .int .u64 ((cutN wd b : Nat) : Int)), (8, .int .u64 0), (9, .int .i64 0), (10, .int .u64 0), (16, .bool false), (19, .bool false), (26, .int .i64 10), (32, .bool false), (37, .bool false), (42, .bool false), (47, .bool false), (56, .bool false), (64, .bool false), (69, .bool false)] (by kernel_rfl) fun ρ => ?_
  refine W_region (by kernel_rfl) ?_
  refine sg [(75, .bool false), (74, .bool false)] (by kernel_rfl) ?_
  refine op_nil ?_
  refine W_cond false (by kernel_rfl) (by kernel_rfl) (fun h => nomatch h) (fun _ => ?_)
  refine W_seq ?_
  refine W_region (by kernel_rfl) ?_
  refine sg [(80, .bool false), (79, .bool false)] (by kernel_rfl) ?_
  refine op_nil ?_
  refine W_cond false (by kernel_rfl) (by kernel_rfl) (fun h => nomatch h) (fun _ => ?_)
  refine W_seq ?_
  refine W_region (by kernel_rfl) ?_
  refine sg [(86, .bool false), (85, .bool false)] (by kernel_rfl) ?_
  refine op_nil ?_
  refine W_cond false (by kernel_rfl) (by kernel_rfl) (fun h => nomatch h) (fun _ => ?_)
  refine W_seq ?_
  refine W_region (by kernel_rfl) ?_
  refine sg [(92, .bool false), (91, .bool false)] (by kernel_rfl) ?_
  refine op_nil ?_
  refine W_cond false (by kernel_rfl) (by kernel_rfl) (fun h => nomatch h) (fun _ => ?_)
  refine W_fg [(0, .int .i64 10), (1, .int .i64 ((wd : Nat) : Int)), (2, .int .u64 ((cutN wd a : Nat) : Int)), (3, .int .u64 ((cutN wd b : Nat) : Int)), (8, .int .u64 0), (9, .int .i64 0), (10, .int .u64 0), (16, .bool false), (19, .bool false), (26, .int .i64 10), (32, .bool false), (37, .bool false), (42, .bool false), (47, .bool false), (56, .bool false), (64, .bool false), (69, .bool false), (74, .bool false), (79, .bool false), (85, .bool false), (91, .bool false)] (by kernel_rfl) fun ρ => ?_
  refine W_region (by kernel_rfl) ?_
  refine sg [(27, .int .i64 10), (28, .int .i64 ((wd : Nat) : Int)), (29, .int .u64 ((cutN wd a : Nat) : Int)), (30, .int .u64 ((cutN wd b : Nat) : Int))] (by kernel_rfl) ?_
  refine st (by rfl) (S_call (args := [.int .i64 10, .int .i64 ((wd : Nat) : Int), .int .u64 ((cutN wd a : Nat) : Int), .int .u64 ((cutN wd b : Nat) : Int)]) (by kernel_rfl) (rshift10_ok wd (cutN wd a) (cutN wd b) _ (by omega) (by omega) (by omega)) ?_)
  rintro _ w9 ⟨rfl, hT10⟩
  have hT0 := hT0.t0 hT10
  refine sg [(10, .int .u64 ((bval wd (mvB false wd (fun j => (cutN wd a).testBit j) false (cutN wd b)) : Nat) : Int))] (by kernel_rfl) ?_
  refine op_nil ?_
  refine W_seq ?_
  refine W_region (by kernel_rfl) ?_
  refine sg [(101, .int .i64 ((wd : Nat) : Int)), (102, .int .u64 ((bval wd (mvB false wd (fun j => (cutN wd a).testBit j) false (cutN wd b)) : Nat) : Int))] (by kernel_rfl) ?_
  refine st (by rfl) (S_call (args := [.int .i64 ((wd : Nat) : Int), .int .u64 ((bval wd (mvB false wd (fun j => (cutN wd a).testBit j) false (cutN wd b)) : Nat) : Int)]) (by kernel_rfl) (rcut_ok wd (bval wd (mvB false wd (fun j => (cutN wd a).testBit j) false (cutN wd b))) _ (by omega) (by omega) (by first | omega | exact bval_u (by omega))) ?_)
  rintro _ w11 ⟨rfl, hT12⟩
  have hT0 := hT0.t0 hT12
  have hcl13 := cutN_lt wd (bval wd (mvB false wd (fun j => (cutN wd a).testBit j) false (cutN wd b)))
  refine sg [(8, .int .u64 ((cutN wd (bval wd (mvB false wd (fun j => (cutN wd a).testBit j) false (cutN wd b))) : Nat) : Int)), (9, .int .i64 0)] (by kernel_rfl) ?_
  refine op_nil ?_
  refine W_ret ?_
  exact ⟨_, Res_of (v := .tuple #[.int .u64 ((cutN wd (bval wd (mvB false wd (fun j => (cutN wd a).testBit j) false (cutN wd b))) : Nat) : Int), .int .i64 0]) (by kernel_rfl), ⟨by rw [cut_bval], hT0⟩⟩

set_option maxRecDepth 100000 in
theorem rbin11_ok (wd a b : Nat) (w : World) (h1 : 1 ≤ wd) (h2 : wd ≤ 64) (ha : a < 18446744073709551616) (hb : b < 18446744073709551616) : Ret Try.prog 33 [.int .i64 11, .int .i64 ((wd : Nat) : Int), .int .u64 ((a : Nat) : Int), .int .u64 ((b : Nat) : Int)] w fun v w' => v = .tuple #[.int .u64 ((bval wd (mvB false wd (fun j => (cutN wd a).testBit j) ((cutN wd a).testBit (wd - 1)) (cutN wd b)) : Nat) : Int), .int .i64 0] ∧ Tch N0 w w' := by
  have hp64 := pw64 (w := wd) (by omega)
  refine enter Try.func33 rfl rfl ?_
  refine W_seq ?_
  refine W_region (by kernel_rfl) ?_
  refine sg [(8, .int .u64 0), (9, .int .i64 0)] (by kernel_rfl) ?_
  refine op_nil ?_
  refine W_seq ?_
  refine W_seq ?_
  refine W_region (by kernel_rfl) ?_
  refine sg [(11, .int .i64 11), (12, .bool false), (13, .bool false), (14, .int .i64 11), (15, .bool false), (16, .bool false)] (by kernel_rfl) ?_
  refine op_nil ?_
  refine W_cond false (by kernel_rfl) (by kernel_rfl) (fun h => nomatch h) (fun _ => ?_)
  refine W_skip ?_
  refine W_seq ?_
  refine W_seq ?_
  refine W_fg [(0, .int .i64 11), (1, .int .i64 ((wd : Nat) : Int)), (2, .int .u64 ((a : Nat) : Int)), (3, .int .u64 ((b : Nat) : Int)), (8, .int .u64 0), (9, .int .i64 0), (16, .bool false)] (by kernel_rfl) fun ρ => ?_
  refine W_region (by kernel_rfl) ?_
  refine sg [(17, .int .i64 ((wd : Nat) : Int))] (by kernel_rfl) ?_
  refine st (by rfl) (S_call (args := [.int .i64 ((wd : Nat) : Int)]) (by kernel_rfl) (rfits_t wd _ (by omega) (by omega)) ?_)
  rintro _ w1 ⟨rfl, hT2⟩
  have hT0 := hT2
  refine sg [(19, .bool false)] (by kernel_rfl) ?_
  refine op_nil ?_
  refine W_cond false (by kernel_rfl) (by kernel_rfl) (fun h => nomatch h) (fun _ => ?_)
  refine W_skip ?_
  refine W_seq ?_
  refine W_region (by kernel_rfl) ?_
  refine sg [(20, .int .i64 ((wd : Nat) : Int)), (21, .int .u64 ((a : Nat) : Int))] (by kernel_rfl) ?_
  refine st (by rfl) (S_call (args := [.int .i64 ((wd : Nat) : Int), .int .u64 ((a : Nat) : Int)]) (by kernel_rfl) (rcut_ok wd a _ (by omega) (by omega) (by first | omega | exact bval_u (by omega))) ?_)
  rintro _ w3 ⟨rfl, hT4⟩
  have hT0 := hT0.t0 hT4
  have hcl5 := cutN_lt wd a
  refine sg [(2, .int .u64 ((cutN wd a : Nat) : Int))] (by kernel_rfl) ?_
  refine op_nil ?_
  refine W_seq ?_
  refine W_region (by kernel_rfl) ?_
  refine sg [(23, .int .i64 ((wd : Nat) : Int)), (24, .int .u64 ((b : Nat) : Int))] (by kernel_rfl) ?_
  refine st (by rfl) (S_call (args := [.int .i64 ((wd : Nat) : Int), .int .u64 ((b : Nat) : Int)]) (by kernel_rfl) (rcut_ok wd b _ (by omega) (by omega) (by first | omega | exact bval_u (by omega))) ?_)
  rintro _ w6 ⟨rfl, hT7⟩
  have hT0 := hT0.t0 hT7
  have hcl8 := cutN_lt wd b
  refine sg [(3, .int .u64 ((cutN wd b : Nat) : Int))] (by kernel_rfl) ?_
  refine op_nil ?_
  refine W_seq ?_
  refine W_fg [(0, .int .i64 11), (1, .int .i64 ((wd : Nat) : Int)), (2, .int .u64 ((cutN wd a : Nat) : Int)), (3, .int .u64 ((cutN wd b : Nat) : Int)), (8, .int .u64 0), (9, .int .i64 0), (16, .bool false), (19, .bool false)] (by kernel_rfl) fun ρ => ?_
  refine W_region (by kernel_rfl) ?_
  refine sg [(10, .int .u64 0)] (by kernel_rfl) ?_
  refine op_nil ?_
  refine W_seq ?_
  refine W_seq ?_
  refine W_region (by kernel_rfl) ?_
  refine sg [(26, .int .i64 11)] (by kernel_rfl) ?_
  refine op_nil ?_
  refine W_block ?_
  refine W_seq ?_
  refine W_region (by kernel_rfl) ?_
  refine sg [(33, .bool false), (32, .bool false)] (by kernel_rfl) ?_
  refine op_nil ?_
  refine W_cond false (by kernel_rfl) (by kernel_rfl) (fun h => nomatch h) (fun _ => ?_)
  refine W_seq ?_
  refine W_region (by kernel_rfl) ?_
  refine sg [(38, .bool false), (37, .bool false)] (by kernel_rfl) ?_
  refine op_nil ?_
  refine W_cond false (by kernel_rfl) (by kernel_rfl) (fun h => nomatch h) (fun _ => ?_)
  refine W_seq ?_
  refine W_region (by kernel_rfl) ?_
  refine sg [(43, .bool false), (42, .bool false)] (by kernel_rfl) ?_
  refine op_nil ?_
  refine W_cond false (by kernel_rfl) (by kernel_rfl) (fun h => nomatch h) (fun _ => ?_)
  refine W_seq ?_
  refine W_fg [(0, .int .i64 11), (1, .int .i64 ((wd : Nat) : Int)), (2, .int .u64 ((cutN wd a : Nat) : Int)), (3, .int .u64 ((cutN wd b : Nat) : Int)), (8, .int .u64 0), (9, .int .i64 0), (10, .int .u64 0), (16, .bool false), (19, .bool false), (26, .int .i64 11), (32, .bool false), (37, .bool false), (42, .bool false)] (by kernel_rfl) fun ρ => ?_
  refine W_region (by kernel_rfl) ?_
  refine sg [(48, .bool false), (47, .bool false)] (by kernel_rfl) ?_
  refine op_nil ?_
  refine W_cond false (by kernel_rfl) (by kernel_rfl) (fun h => nomatch h) (fun _ => ?_)
  refine W_seq ?_
  refine W_region (by kernel_rfl) ?_
  refine sg [(57, .bool false), (56, .bool false)] (by kernel_rfl) ?_
  refine op_nil ?_
  refine W_cond false (by kernel_rfl) (by kernel_rfl) (fun h => nomatch h) (fun _ => ?_)
  refine W_seq ?_
  refine W_region (by kernel_rfl) ?_
  refine sg [(65, .bool false), (64, .bool false)] (by kernel_rfl) ?_
  refine op_nil ?_
  refine W_cond false (by kernel_rfl) (by kernel_rfl) (fun h => nomatch h) (fun _ => ?_)
  refine W_seq ?_
  refine W_region (by kernel_rfl) ?_
  refine sg [(70, .bool false), (69, .bool false)] (by kernel_rfl) ?_
  refine op_nil ?_
  refine W_cond false (by kernel_rfl) (by kernel_rfl) (fun h => nomatch h) (fun _ => ?_)
  refine W_seq ?_
  refine W_fg [(0, .int .i64 11), (1, .int .i64 ((wd : Nat) : Int)), (2, .int .u64 ((cutN wd a : Nat) : Int)), (3, .int .u64 ((cutN wd b : Nat) : Int)), (8, .int .u64 0), (9, .int .i64 0), (10, .int .u64 0), (16, .bool false), (19, .bool false), (26, .int .i64 11), (32, .bool false), (37, .bool false), (42, .bool false), (47, .bool false), (56, .bool false), (64, .bool false), (69, .bool false)] (by kernel_rfl) fun ρ => ?_
  refine W_region (by kernel_rfl) ?_
  refine sg [(75, .bool false), (74, .bool false)] (by kernel_rfl) ?_
  refine op_nil ?_
  refine W_cond false (by kernel_rfl) (by kernel_rfl) (fun h => nomatch h) (fun _ => ?_)
  refine W_seq ?_
  refine W_region (by kernel_rfl) ?_
  refine sg [(80, .bool false), (79, .bool false)] (by kernel_rfl) ?_
  refine op_nil ?_
  refine W_cond false (by kernel_rfl) (by kernel_rfl) (fun h => nomatch h) (fun _ => ?_)
  refine W_seq ?_
  refine W_region (by kernel_rfl) ?_
  refine sg [(86, .bool false), (85, .bool false)] (by kernel_rfl) ?_
  refine op_nil ?_
  refine W_cond false (by kernel_rfl) (by kernel_rfl) (fun h => nomatch h) (fun _ => ?_)
  refine W_seq ?_
  refine W_region (by kernel_rfl) ?_
  refine sg [(92, .bool false), (91, .bool false)] (by kernel_rfl) ?_
  refine op_nil ?_
  refine W_cond false (by kernel_rfl) (by kernel_rfl) (fun h => nomatch h) (fun _ => ?_)
  refine W_fg [(0, .int .i64 11), (1, .int .i64 ((wd : Nat) : Int)), (2, .int .u64 ((cutN wd a : Nat) : Int)), (3, .int .u64 ((cutN wd b : Nat) : Int)), (8, .int .u64 0), (9, .int .i64 0), (10, .int .u64 0), (16, .bool false), (19, .bool false), (26, .int .i64 11), (32, .bool false), (37, .bool false), (42, .bool false), (47, .bool false), (56, .bool false), (64, .bool false), (69, .bool false), (74, .bool false), (79, .bool false), (85, .bool false), (91, .bool false)] (by kernel_rfl) fun ρ => ?_
  refine W_region (by kernel_rfl) ?_
  refine sg [(27, .int .i64 11), (28, .int .i64 ((wd : Nat) : Int)), (29, .int .u64 ((cutN wd a : Nat) : Int)), (30, .int .u64 ((cutN wd b : Nat) : Int))] (by kernel_rfl) ?_
  refine st (by rfl) (S_call (args := [.int .i64 11, .int .i64 ((wd : Nat) : Int), .int .u64 ((cutN wd a : Nat) : Int), .int .u64 ((cutN wd b : Nat) : Int)]) (by kernel_rfl) (rshift11_ok wd (cutN wd a) (cutN wd b) _ (by omega) (by omega) (by omega)) ?_)
  rintro _ w9 ⟨rfl, hT10⟩
  have hT0 := hT0.t0 hT10
  refine sg [(10, .int .u64 ((bval wd (mvB false wd (fun j => (cutN wd a).testBit j) ((cutN wd a).testBit (wd - 1)) (cutN wd b)) : Nat) : Int))] (by kernel_rfl) ?_
  refine op_nil ?_
  refine W_seq ?_
  refine W_region (by kernel_rfl) ?_
  refine sg [(101, .int .i64 ((wd : Nat) : Int)), (102, .int .u64 ((bval wd (mvB false wd (fun j => (cutN wd a).testBit j) ((cutN wd a).testBit (wd - 1)) (cutN wd b)) : Nat) : Int))] (by kernel_rfl) ?_
  refine st (by rfl) (S_call (args := [.int .i64 ((wd : Nat) : Int), .int .u64 ((bval wd (mvB false wd (fun j => (cutN wd a).testBit j) ((cutN wd a).testBit (wd - 1)) (cutN wd b)) : Nat) : Int)]) (by kernel_rfl) (rcut_ok wd (bval wd (mvB false wd (fun j => (cutN wd a).testBit j) ((cutN wd a).testBit (wd - 1)) (cutN wd b))) _ (by omega) (by omega) (by first | omega | exact bval_u (by omega))) ?_)
  rintro _ w11 ⟨rfl, hT12⟩
  have hT0 := hT0.t0 hT12
  have hcl13 := cutN_lt wd (bval wd (mvB false wd (fun j => (cutN wd a).testBit j) ((cutN wd a).testBit (wd - 1)) (cutN wd b)))
  refine sg [(8, .int .u64 ((cutN wd (bval wd (mvB false wd (fun j => (cutN wd a).testBit j) ((cutN wd a).testBit (wd - 1)) (cutN wd b))) : Nat) : Int)), (9, .int .i64 0)] (by kernel_rfl) ?_
  refine op_nil ?_
  refine W_ret ?_
  exact ⟨_, Res_of (v := .tuple #[.int .u64 ((cutN wd (bval wd (mvB false wd (fun j => (cutN wd a).testBit j) ((cutN wd a).testBit (wd - 1)) (cutN wd b))) : Nat) : Int), .int .i64 0]) (by kernel_rfl), ⟨by rw [cut_bval], hT0⟩⟩

end Go.Proofs.YtnlecdpiccgdpaaV
