/- Texts laid together: Walks of functions of the program and of the document's texts. The conditions stand with each theorem. Walks of functions of the program and of the document's texts. The conditions stand with each theorem. Walks of functions of the program and of the document's texts. The conditions stand with each theorem. -/
import Derived.Test.YtlbadnpgmkobdaaJRrang58x1
import Derived.Test.YtlbadnpgmkobdaaProg
import Derived.Test.YtlbadnpgmkobdaaJRrang58x6
import Derived.Test.YtlbadnpgmkobdaaJRrang58x4
import Derived.Test.YtlbadnpgmkobdaaG2
set_option linter.unusedVariables false
set_option linter.unusedSimpArgs false
namespace Go.Proofs.YtlbadnpgmkobdaaV
open Go Go.RowKit Go.Proofs

theorem rmask_okN (x : Nat) (w : World) (h : x ≤ 64) : Ret Try.prog 30 [.int .i64 ((x : Nat) : Int)] w fun v w' => v = .int .u64 ((pw x - 1 : Nat) : Int) ∧ Tch N0 w w' := by
 rw [← mask_nat h]; exact rmask_ok _ w

set_option maxRecDepth 100000 in
theorem rBit_ok (x i : Nat) (w : World) (hi : i < 64) (hx : x < 18446744073709551616) : Ret Try.prog 94 [.int .u64 ((x : Nat) : Int), .int .i64 ((i : Nat) : Int)] w fun v w' => v = .bool (x.testBit i) ∧ Tch N0 w w' := by
 refine enter Try.func94 rfl rfl ?_
 refine zQ ?_
 refine zS [(4, .bool false)] ?_
 refine op_nil ?_
 refine zQ ?_
 refine zS [(5, .int .i64 ((i : Nat) : Int)), (6, .bool (decide (((i : Nat) : Int) ≥ 0))), (7, .bool (decide (((i : Nat) : Int) ≥ 0)))] ?_
 cases hb1 : decide (((i : Nat) : Int) ≥ 0)
 ·
  replace hb1 : ((i : Nat) : Int) < 0 := (Int.not_le.1 (of_decide_eq_false hb1))
  exfalso; omega
 ·
  replace hb1 : 0 ≤ ((i : Nat) : Int) := (of_decide_eq_true hb1)
  refine zS [(8, .int .i64 ((i : Nat) : Int)), (9, .bool (decide (((i : Nat) : Int) < 64))), (10, .bool (decide (((i : Nat) : Int) < 64))), (11, .bool (decide (((i : Nat) : Int) < 64)))] ?_
  cases hb2 : decide (((i : Nat) : Int) < 64)
  ·
   replace hb2 : 64 ≤ ((i : Nat) : Int) := (Int.not_lt.1 (of_decide_eq_false hb2))
   exfalso; omega
  ·
   replace hb2 : ((i : Nat) : Int) < 64 := (of_decide_eq_true hb2)
   refine zS [(12, .int .u64 ((x : Nat) : Int)), (13, .int .i64 ((i : Nat) : Int)), (14, .int .u64 (IntKind.u64.wrap ((i : Nat) : Int)))] ?_
   rw [show IntKind.u64.wrap ((i : Nat) : Int) = ((i : Nat) : Int) from wrap_u64 (by omega) (by omega)]
   refine stv (v := .int .u64 ((x / pw i : Nat) : Int)) (by kernel_rfl) (R_shrP (k2 := .u64) x i (by kernel_rfl) (by kernel_rfl) (by omega)) ?_
   have hu3 : x / pw i < 18446744073709551616 := div_lt64 hx
   refine stv (v := .int .u64 (((x / pw i) % 2 : Nat) : Int)) (by kernel_rfl) (R_remN (by kernel_rfl) (by kernel_rfl) (by omega)) ?_
   have hu4 : (x / pw i) % 2 < 18446744073709551616 := rem_lt64 hu3
   refine zS [(17, .bool ((((x / pw i) % 2 : Nat) : Int) == 1)), (18, .bool ((((x / pw i) % 2 : Nat) : Int) == 1)), (4, .bool ((((x / pw i) % 2 : Nat) : Int) == 1))] ?_
   refine op_nil ?_
   refine W_ret ?_
   exact ⟨_, Res_of (v := .bool ((((x / pw i) % 2 : Nat) : Int) == 1)) (by kernel_rfl), ⟨congrArg Value.bool (bit_eqN x i), Tch.refl _ _⟩⟩

end Go.Proofs.YtlbadnpgmkobdaaV

set_option linter.unusedVariables false
set_option linter.unusedSimpArgs false
namespace Go.Proofs.YtlbadnpgmkobdaaV
open Go Go.RowKit Go.Proofs

theorem fill_eq {x j : Nat} (h : ¬ pw j - 1 < x) (hi : j = 0 ∨ pw (j - 1) ≤ x) : pw j - 1 = rfill x := by
 have hp := pw_pos j
 unfold rfill; rw [bl_eq (x := x) (n := j) (by omega) hi]
theorem rt_t {m n : Bool} (h : m = true) : rtruth m n = (1, 1) := by rw [h]; rfl
theorem rt_f {m n : Bool} (h : m = false) (k : n = true) : rtruth m n = (0, 0) := by rw [h, k]; rfl
theorem rt_n {m n : Bool} (h : m = false) (k : n = false) : rtruth m n = (0, 1) := by rw [h, k]; rfl
theorem mul_room {a b m : Nat} (h : b = 0 ∨ a ≤ m / b) : a * b ≤ m := by
 rcases Nat.eq_zero_or_pos b with q | q
 ·
  rw [q]; omega
 ·
  exact (Nat.le_div_iff_mul_le q).1 (h.resolve_left (by omega))
theorem mul_full {a b m : Nat} (h : b ≠ 0 ∧ m / b < a) : ¬ a * b ≤ m := fun q => by
 have := (Nat.le_div_iff_mul_le (by omega)).2 q
 omega

section
variable {ρ : Env} {w : World}
theorem keyT117 : Try.prog.keyTypeAt 3 117 = true := by kernel_rfl
theorem tiled117 : Try.prog.tiled 3 117 = true := by kernel_rfl
theorem cells117 : Try.prog.cellsOf 117 = 2 := by kernel_rfl
theorem keyT117' : Try.prog.keyType 117 = true := by kernel_rfl
theorem key_law117 : Go.Maps.Keyed Try.prog 117 := .of_law (Go.deep_law (m := 3) (by omega) keyT117 tiled117 (by rw [Try.underlying117]))
set_option maxRecDepth 100000 in
theorem key_sd {x : K} (h1 : x.1 < 18446744073709551616) (h2 : x.2 < 18446744073709551616) : ∃ l, keyOf Try.prog 117 (kV x) = some l := by
 have k0 := wf_u64 (x := ((x.1 : Nat) : Int)) (by unfold u64; omega)
 have k1 := wf_u64 (x := ((x.2 : Nat) : Int)) (by unfold u64; omega)
 obtain ⟨m, hm⟩ : ∃ m, Try.prog.types.size = m + 1 := ⟨_, rfl⟩
 have hf : (kV x).formed Try.prog 117 = true := by
  unfold kV Value.formed
  rw [Try.underlying117]
  simp [cells117]
 unfold keyOf
 rw [Try.underlying117]
 simp only [keyT117', hf, Bool.and_self, if_true, hm]
 unfold Program.keyLits
 rw [Try.underlying117]
 simp [kV, cells117, cells30, Value.cells, lits30, k0, k1]
theorem eqg117 : Try.prog.eqGuardType Try.prog.depth 117 = false := by kernel_rfl
set_option maxRecDepth 100000 in
theorem equal_sd (w : World) {x y : K} (h1 : x.1 < 18446744073709551616) (h2 : x.2 < 18446744073709551616) (h3 : y.1 < 18446744073709551616) (h4 : y.2 < 18446744073709551616) : (Op.equal 117 (kV x) (kV y)).run Try.prog w = .ok (decide (x = y)) w := by
 obtain ⟨l1, q1⟩ := key_sd h1 h2
 obtain ⟨l2, q2⟩ := key_sd h3 h4
 obtain ⟨r, hr, hi⟩ := Go.run_equal_deep w (m := 3) (by omega) keyT117 (by rw [Try.underlying117]) q1 q2
 rw [hr]
 congr 1
 have : r = true ↔ x = y := hi.trans ⟨fun e => kV_inj (key_law117.inj q1 (e ▸ q2)), fun e => by subst e; rw [q1] at q2; injection q2⟩
 cases r <;> simp_all
set_option maxRecDepth 100000 in
theorem R_eqSd {d : Option Tmp} {u : TypeId} {x y : Operand} {ty : TypeId} {pos : String} {af : Array Edge} {g : Option (Nat × Bool)} (a b : K) (hx : evR ρ x = kV a) (hy : evR ρ y = kV b) (h1 : a.1 < 18446744073709551616) (h2 : a.2 < 18446744073709551616) (h3 : b.1 < 18446744073709551616) (h4 : b.2 < 18446744073709551616) :
  (execOp (evR ρ) ⟨d, .binOp .eql 117 x y u, ty, pos, af, g⟩).run Try.prog w = .ok (.value (.bool (decide (a = b)))) w := by
 have e := equal_sd w h1 h2 h3 h4
 simp only [execOp, hx, hy]
 obtain ⟨c1, q1⟩ : ∃ c, kV a = .agg c := ⟨_, rfl⟩
 obtain ⟨c2, q2⟩ : ∃ c, kV b = .agg c := ⟨_, rfl⟩
 rw [q1, q2] at e ⊢
 simp [eqGuard, run_underlying Try.underlying117, eqg117, binOp, e]
end

set_option maxRecDepth 100000 in
theorem rall_ok (wd : Nat) (w : World) (hw : wd ≤ 64) : Ret Try.prog 95 [.int .i64 ((wd : Nat) : Int)] w fun v w' => v = .agg #[.int .u64 (((rall wd).1 : Nat) : Int), .int .u64 (((rall wd).2 : Nat) : Int)] ∧ Tch N0 w w' := by
 refine enter Try.func95 rfl rfl ?_
 refine zQ ?_
 refine st (by rfl) (S_new (v := .pointer (some ⟨w.heap.size, 0, none⟩)) (ob := .cells #[.int .u64 0, .int .u64 0] 117) (by kernel_rfl) fun w1 hT2 hs3 hB4 => ?_)
 replace hB4 : Blk w1 (w.heap.size) 117 [.int .u64 0, .int .u64 0] := hB4
 have hT0 := hT2
 refine op_nil ?_
 refine zQ ?_
 refine zS [(3, .int .i64 ((wd : Nat) : Int))] ?_
 refine zC (rmask_okN wd _ (by omega)) ?_
 rintro _ w5 ⟨rfl, hT6⟩
 have hT0 := hT0.t0 hT6
 have hB4 := hB4.tch0 hT6
 have hu7 := pwm_lt (x := wd) (by omega)
 refine zS [(5, .agg #[.int .u64 0, .int .u64 ((pw wd - 1 : Nat) : Int)])] ?_
 refine st (by rfl) (S_storeA (b := w.heap.size) (j := 0) (cs := [.int .u64 0, .int .u64 ((pw wd - 1 : Nat) : Int)]) (by kernel_rfl) (by kernel_rfl) (by kernel_rfl) (by simp [oneV]) hB4 (by simp) fun w8 hT9 hs10 hB4' => ?_)
 have hT0 := (hT0).then hT9 (fun c e => by have : c = w.heap.size := e; omega)
 replace hB4 : Blk w8 w.heap.size 117 [.int .u64 0, .int .u64 ((pw wd - 1 : Nat) : Int)] := hB4'
 refine op_nil ?_
 refine W_ret ?_
 exact ⟨_, Res_cell (b := w.heap.size) (cs := [.int .u64 0, .int .u64 ((pw wd - 1 : Nat) : Int)]) (by rfl) (by kernel_rfl) (by kernel_rfl) hB4 (by kernel_rfl) (by kernel_rfl), ⟨rfl, hT0⟩⟩

set_option maxRecDepth 100000 in
theorem filled_ok (x : Nat) (w : World) (hx : x < 18446744073709551616) : Ret Try.prog 112 [.int .u64 ((x : Nat) : Int)] w fun v w' => v = .int .u64 ((rfill x : Nat) : Int) ∧ Tch N0 w w' := by
 refine enter Try.func112 rfl rfl ?_
 refine zQ ?_
 refine zS [(2, .int .u64 0)] ?_
 refine op_nil ?_
 refine zQ ?_
 refine zS [(3, .int .u64 0)] ?_
 refine op_nil ?_
 refine W_seq ?_
 refine W_block ?_
 refine W_loop (fun m ρ w' => ∃ (j : Nat) (ρ0 : Env), ρ = updL ρ0 [(0, .int .u64 ((x : Nat) : Int)), (3, .int .u64 ((pw j - 1 : Nat) : Int))] ∧ (j ≤ 64) ∧ (j = 0 ∨ pw (j - 1) ≤ x) ∧ Tch N0 w w' ∧ m = 64 - j) (m := 64 - 0) ?_ ?_
 ·
  refine ⟨0, _, updL_self (by kernel_rfl), by omega, .inl rfl, Tch.refl _ _, rfl⟩
 ·
  rintro m ρ w1 ⟨j, ρ, rfl, hj, hi, hT0, rfl⟩
  refine W_seq ?_
  refine zQ ?_
  refine zS [(4, .int .u64 ((pw j - 1 : Nat) : Int)), (5, .int .u64 ((x : Nat) : Int)), (6, .bool (decide (((pw j - 1 : Nat) : Int) < ((x : Nat) : Int))))] ?_
  refine zO (decide (((pw j - 1 : Nat) : Int) < ((x : Nat) : Int))) (fun hc2 => ?_) (fun hc2 => ?_)
  ·
   replace hc2 : ((pw j - 1 : Nat) : Int) < ((x : Nat) : Int) := (of_decide_eq_true hc2)
   refine W_skip ?_
   refine W_block ?_
   have hj2 : j < 64 := by rcases Nat.lt_or_ge j 64 with q | q; exact q; (obtain rfl : j = 64 := by omega); have e64 : pw 64 = 18446744073709551616 := rfl; omega
   have hp1 := pw_u64 hj2
   have hp2 := pw_pos j
   have hp3 := pw_succ j
   refine zR ?_
   refine zS [(7, .int .u64 ((pw j - 1 : Nat) : Int)), (8, .int .u64 (IntKind.u64.wrap (((pw j - 1 : Nat) : Int) * 2)))] ?_
   rw [show IntKind.u64.wrap (((pw j - 1 : Nat) : Int) * 2) = (((pw j - 1) * 2 % 18446744073709551616 : Nat) : Int) from u64_mul (pw j - 1) 2]
   have hu3 : (pw j - 1) * 2 % 18446744073709551616 < 18446744073709551616 := mod_lt64 _
   refine zS [(9, .int .u64 (IntKind.u64.wrap ((((pw j - 1) * 2 % 18446744073709551616 : Nat) : Int) + 1)))] ?_
   rw [show IntKind.u64.wrap ((((pw j - 1) * 2 % 18446744073709551616 : Nat) : Int) + 1) = (((((pw j - 1) * 2 % 18446744073709551616) + 1) % 18446744073709551616 : Nat) : Int) from u64_add ((pw j - 1) * 2 % 18446744073709551616) 1]
   have hu4 : (((pw j - 1) * 2 % 18446744073709551616) + 1) % 18446744073709551616 < 18446744073709551616 := mod_lt64 _
   refine fixR (y := ((pw (j + 1) - 1 : Nat) : Int)) (by omega) ?_
   refine zS [(3, .int .u64 ((pw (j + 1) - 1 : Nat) : Int))] ?_
   refine op_nil ?_
   refine ⟨_, ?_, j + 1, _, updL_self (by kernel_rfl), ?_, (.inr (by rw [Nat.add_sub_cancel]; omega)), hT0, rfl⟩
   ·
    omega
   ·
    omega
  ·
   replace hc2 : ((x : Nat) : Int) ≤ ((pw j - 1 : Nat) : Int) := (Int.not_lt.1 (of_decide_eq_false hc2))
   refine W_exit ?_
   refine X_hit ?_
   refine zQ ?_
   refine zS [(10, .int .u64 ((pw j - 1 : Nat) : Int)), (2, .int .u64 ((pw j - 1 : Nat) : Int))] ?_
   refine op_nil ?_
   refine W_ret ?_
   exact ⟨_, Res_of (v := .int .u64 ((pw j - 1 : Nat) : Int)) (by kernel_rfl), ⟨by rw [fill_eq (by omega) hi], hT0⟩⟩

set_option maxRecDepth 100000 in
set_option maxHeartbeats 2000000 in
theorem compared_ok (O wd : Nat) (x y : K) (w : World) (hx : RI wd x) (hy : RI wd y) (h1 : 1 ≤ wd) (hw : wd ≤ 64) (hO : O = 12 ∨ O = 13 ∨ O = 14) : Ret Try.prog 113 [.int .i64 ((O : Nat) : Int), .agg #[.int .u64 ((x.1 : Nat) : Int), .int .u64 ((x.2 : Nat) : Int)], .agg #[.int .u64 ((y.1 : Nat) : Int), .int .u64 ((y.2 : Nat) : Int)]] w fun v w' => v = .agg #[.int .u64 (((rbin O wd x y).1 : Nat) : Int), .int .u64 (((rbin O wd x y).2 : Nat) : Int)] ∧ Tch N0 w w' := by
 have hp := pw_pos wd
 have hp64 := pw64 hw
 have ux1 := hx.u1 hw
 have ux2 := hx.u2 hw
 have uy1 := hy.u1 hw
 have uy2 := hy.u2 hw
 have hx1 := hx.1
 have hx2 := hx.2
 have hy1 := hy.1
 have hy2 := hy.2
 have hm1 := Nat.mul_le_mul hx1 hy1
 refine enter Try.func113 rfl rfl ?_
 refine zQ ?_
 refine st (by rfl) (S_new (v := .pointer (some ⟨w.heap.size, 0, none⟩)) (ob := .cells #[.int .u64 ((x.1 : Nat) : Int), .int .u64 ((x.2 : Nat) : Int)] 117) (by kernel_rfl) fun w1 hT2 hs3 hB4 => ?_)
 replace hB4 : Blk w1 (w.heap.size) 117 [.int .u64 ((x.1 : Nat) : Int), .int .u64 ((x.2 : Nat) : Int)] := hB4
 have hT0 := hT2
 have z9 := hT0.size
 have l10 := hB4.lt
 refine st (by rfl) (S_new (v := .pointer (some ⟨w1.heap.size, 0, none⟩)) (ob := .cells #[.int .u64 ((y.1 : Nat) : Int), .int .u64 ((y.2 : Nat) : Int)] 117) (by kernel_rfl) fun w5 hT6 hs7 hB8 => ?_)
 replace hB8 : Blk w5 (w1.heap.size) 117 [.int .u64 ((y.1 : Nat) : Int), .int .u64 ((y.2 : Nat) : Int)] := hB8
 have hT0 := hT0.t0 hT6
 have hB4 := hB4.tch0 hT6
 have z15 := hT0.size
 have l16 := hB4.lt
 have l17 := hB8.lt
 refine st (by rfl) (S_new (v := .pointer (some ⟨w5.heap.size, 0, none⟩)) (ob := .cells #[.int .u64 0, .int .u64 0] 117) (by kernel_rfl) fun w11 hT12 hs13 hB14 => ?_)
 replace hB14 : Blk w11 (w5.heap.size) 117 [.int .u64 0, .int .u64 0] := hB14
 have hT0 := hT0.t0 hT12
 have hB4 := hB4.tch0 hT12
 have hB8 := hB8.tch0 hT12
 refine op_nil ?_
 refine W_seq ?_
 refine W_block ?_
 refine zQ ?_
 refine zS [(8, .int .i64 ((O : Nat) : Int)), (9, .bool (((O : Nat) : Int) == 12)), (10, .bool (((O : Nat) : Int) == 12))] ?_
 cases hb18 : ((O : Nat) : Int) == 12
 ·
  replace hb18 : ((O : Nat) : Int) ≠ 12 := (ne_of_beq_false hb18)
  refine zS [(11, undef), (12, undef), (13, undef), (14, undef), (15, undef), (16, undef), (17, undef), (18, undef), (19, undef), (20, undef), (21, undef), (22, undef), (23, .bool false), (7, .bool false)] ?_
  refine zO false (fun h => nomatch h) (fun _ => ?_)
  refine zQ ?_
  refine zS [(26, .int .i64 ((O : Nat) : Int)), (27, .bool (((O : Nat) : Int) == 12)), (28, .bool (((O : Nat) : Int) == 12))] ?_
  cases hb19 : ((O : Nat) : Int) == 12
  ·
   replace hb19 : ((O : Nat) : Int) ≠ 12 := (ne_of_beq_false hb19)
   refine zS [(29, undef), (30, undef), (31, undef), (32, undef), (33, undef), (34, .bool false), (35, .bool false), (36, undef), (37, undef), (38, undef), (39, .bool false), (25, .bool false)] ?_
   refine zO false (fun h => nomatch h) (fun _ => ?_)
   refine zQ ?_
   refine zS [(42, .int .i64 ((O : Nat) : Int)), (43, .bool (((O : Nat) : Int) == 13)), (44, .bool (((O : Nat) : Int) == 13))] ?_
   cases hb20 : ((O : Nat) : Int) == 13
   ·
    replace hb20 : ((O : Nat) : Int) ≠ 13 := (ne_of_beq_false hb20)
    refine zS [(45, undef), (46, undef), (47, undef), (48, undef), (49, undef), (50, .bool false), (41, .bool false)] ?_
    refine zO false (fun h => nomatch h) (fun _ => ?_)
    refine zQ ?_
    refine zS [(53, .int .i64 ((O : Nat) : Int)), (54, .bool (((O : Nat) : Int) == 13)), (55, .bool (((O : Nat) : Int) == 13))] ?_
    cases hb21 : ((O : Nat) : Int) == 13
    ·
     replace hb21 : ((O : Nat) : Int) ≠ 13 := (ne_of_beq_false hb21)
     refine zS [(56, undef), (57, undef), (58, undef), (59, undef), (60, undef), (61, .bool false), (52, .bool false)] ?_
     refine zO false (fun h => nomatch h) (fun _ => ?_)
     refine W_skip ?_
     refine zQ ?_
     refine zS [(63, .agg #[.int .u64 0, .int .u64 1])] ?_
     refine st (by rfl) (S_storeA (b := w5.heap.size) (j := 0) (cs := [.int .u64 0, .int .u64 1]) (by kernel_rfl) (by kernel_rfl) (by kernel_rfl) (by simp [oneV]) hB14 (by simp) fun w22 hT23 hs24 hB14' => ?_)
     have hT0 := (hT0).then hT23 (fun c e => by have : c = w5.heap.size := e; omega)
     have hB4 := hB4.tch hT23 (fun e => by have : w.heap.size = w5.heap.size := e; omega)
     have hB8 := hB8.tch hT23 (fun e => by have : w1.heap.size = w5.heap.size := e; omega)
     replace hB14 : Blk w22 w5.heap.size 117 [.int .u64 0, .int .u64 1] := hB14'
     refine op_nil ?_
     refine W_ret ?_
     refine ⟨_, Res_cell (b := w5.heap.size) (cs := [.int .u64 0, .int .u64 1]) (by rfl) (by kernel_rfl) (by kernel_rfl) hB14 (by kernel_rfl) (by kernel_rfl), ?_⟩
     have e : rbin O wd x y = (0, 1) := by unfold rbin; (repeat (first | rw [if_pos (by omega)] | rw [if_neg (by omega)])); first | (show rtruth _ _ = _; exact rt_n (by first | (simp_all; done) | (rw [Bool.eq_false_iff]; intro q; simp only [Bool.and_eq_true, Bool.or_eq_true, decide_eq_true_eq] at q; omega) | (rw [Bool.eq_false_iff]; intro q; simp only [Bool.and_eq_true, decide_eq_true_eq] at q; obtain ⟨rfl, q⟩ := q; omega) | (simp only [Bool.and_eq_true, Bool.or_eq_true, decide_eq_true_eq]; omega) | (simp only [Bool.and_eq_true, decide_eq_true_eq]; exact ⟨by assumption, by omega⟩) | (rw [Bool.eq_false_iff]; intro q; simp only [Bool.and_eq_true, decide_eq_true_eq] at q; exact absurd q.1 (by assumption)) | (rw [Bool.eq_false_iff]; intro q; simp only [Bool.and_eq_true, decide_eq_true_eq] at q; obtain ⟨rfl, q⟩ := q; simp_all)) (by first | (simp_all; done) | (rw [Bool.eq_false_iff]; intro q; simp only [Bool.and_eq_true, Bool.or_eq_true, decide_eq_true_eq] at q; omega) | (rw [Bool.eq_false_iff]; intro q; simp only [Bool.and_eq_true, decide_eq_true_eq] at q; obtain ⟨rfl, q⟩ := q; omega) | (simp only [Bool.and_eq_true, Bool.or_eq_true, decide_eq_true_eq]; omega) | (simp only [Bool.and_eq_true, decide_eq_true_eq]; exact ⟨by assumption, by omega⟩) | (rw [Bool.eq_false_iff]; intro q; simp only [Bool.and_eq_true, decide_eq_true_eq] at q; exact absurd q.1 (by assumption)) | (rw [Bool.eq_false_iff]; intro q; simp only [Bool.and_eq_true, decide_eq_true_eq] at q; obtain ⟨rfl, q⟩ := q; simp_all))) | rfl
     rw [e]
     exact ⟨rfl, hT0⟩
    ·
     replace hb21 : ((O : Nat) : Int) = 13 := (eq_of_beq hb21)
     exfalso; omega
   ·
    replace hb20 : ((O : Nat) : Int) = 13 := (eq_of_beq hb20)
    refine zS [(45, .pointer (some ⟨w.heap.size, 1, none⟩))] ?_
    refine zL (.int .u64 ((x.2 : Nat) : Int)) ((hB4.cell 1).trans rfl) ?_
    refine zS [(47, .pointer (some ⟨w1.heap.size, 0, none⟩))] ?_
    refine zL (.int .u64 ((y.1 : Nat) : Int)) ((hB8.cell 0).trans rfl) ?_
    refine zS [(49, .bool (decide (((x.2 : Nat) : Int) < ((y.1 : Nat) : Int)))), (50, .bool (decide (((x.2 : Nat) : Int) < ((y.1 : Nat) : Int)))), (41, .bool (decide (((x.2 : Nat) : Int) < ((y.1 : Nat) : Int))))] ?_
    refine zO (decide (((x.2 : Nat) : Int) < ((y.1 : Nat) : Int))) (fun hc25 => ?_) (fun hc25 => ?_)
    ·
     replace hc25 : ((x.2 : Nat) : Int) < ((y.1 : Nat) : Int) := (of_decide_eq_true hc25)
     refine zQ ?_
     refine zS [(51, .agg #[.int .u64 1, .int .u64 1])] ?_
     refine st (by rfl) (S_storeA (b := w5.heap.size) (j := 0) (cs := [.int .u64 1, .int .u64 1]) (by kernel_rfl) (by kernel_rfl) (by kernel_rfl) (by simp [oneV]) hB14 (by simp) fun w26 hT27 hs28 hB14' => ?_)
     have hT0 := (hT0).then hT27 (fun c e => by have : c = w5.heap.size := e; omega)
     have hB4 := hB4.tch hT27 (fun e => by have : w.heap.size = w5.heap.size := e; omega)
     have hB8 := hB8.tch hT27 (fun e => by have : w1.heap.size = w5.heap.size := e; omega)
     replace hB14 : Blk w26 w5.heap.size 117 [.int .u64 1, .int .u64 1] := hB14'
     refine op_nil ?_
     refine W_ret ?_
     refine ⟨_, Res_cell (b := w5.heap.size) (cs := [.int .u64 1, .int .u64 1]) (by rfl) (by kernel_rfl) (by kernel_rfl) hB14 (by kernel_rfl) (by kernel_rfl), ?_⟩
     have e : rbin O wd x y = (1, 1) := by unfold rbin; (repeat (first | rw [if_pos (by omega)] | rw [if_neg (by omega)])); first | (show rtruth _ _ = _; exact rt_t (by first | (simp_all; done) | (rw [Bool.eq_false_iff]; intro q; simp only [Bool.and_eq_true, Bool.or_eq_true, decide_eq_true_eq] at q; omega) | (rw [Bool.eq_false_iff]; intro q; simp only [Bool.and_eq_true, decide_eq_true_eq] at q; obtain ⟨rfl, q⟩ := q; omega) | (simp only [Bool.and_eq_true, Bool.or_eq_true, decide_eq_true_eq]; omega) | (simp only [Bool.and_eq_true, decide_eq_true_eq]; exact ⟨by assumption, by omega⟩) | (rw [Bool.eq_false_iff]; intro q; simp only [Bool.and_eq_true, decide_eq_true_eq] at q; exact absurd q.1 (by assumption)) | (rw [Bool.eq_false_iff]; intro q; simp only [Bool.and_eq_true, decide_eq_true_eq] at q; obtain ⟨rfl, q⟩ := q; simp_all))) | rfl
     rw [e]
     exact ⟨rfl, hT0⟩
    ·
     replace hc25 : ((y.1 : Nat) : Int) ≤ ((x.2 : Nat) : Int) := (Int.not_lt.1 (of_decide_eq_false hc25))
     refine zQ ?_
     refine zS [(53, .int .i64 ((O : Nat) : Int)), (54, .bool (((O : Nat) : Int) == 13)), (55, .bool (((O : Nat) : Int) == 13))] ?_
     cases hb29 : ((O : Nat) : Int) == 13
     ·
      replace hb29 : ((O : Nat) : Int) ≠ 13 := (ne_of_beq_false hb29)
      exfalso; omega
     ·
      replace hb29 : ((O : Nat) : Int) = 13 := (eq_of_beq hb29)
      refine zS [(56, .pointer (some ⟨w.heap.size, 0, none⟩))] ?_
      refine zL (.int .u64 ((x.1 : Nat) : Int)) ((hB4.cell 0).trans rfl) ?_
      refine zS [(58, .pointer (some ⟨w1.heap.size, 1, none⟩))] ?_
      refine zL (.int .u64 ((y.2 : Nat) : Int)) ((hB8.cell 1).trans rfl) ?_
      refine zS [(60, .bool (decide (((x.1 : Nat) : Int) ≥ ((y.2 : Nat) : Int)))), (61, .bool (decide (((x.1 : Nat) : Int) ≥ ((y.2 : Nat) : Int)))), (52, .bool (decide (((x.1 : Nat) : Int) ≥ ((y.2 : Nat) : Int))))] ?_
      refine zO (decide (((x.1 : Nat) : Int) ≥ ((y.2 : Nat) : Int))) (fun hc30 => ?_) (fun hc30 => ?_)
      ·
       replace hc30 : ((y.2 : Nat) : Int) ≤ ((x.1 : Nat) : Int) := (of_decide_eq_true hc30)
       refine zQ ?_
       refine zS [(62, .agg #[.int .u64 0, .int .u64 0])] ?_
       refine st (by rfl) (S_storeA (b := w5.heap.size) (j := 0) (cs := [.int .u64 0, .int .u64 0]) (by kernel_rfl) (by kernel_rfl) (by kernel_rfl) (by simp [oneV]) hB14 (by simp) fun w31 hT32 hs33 hB14' => ?_)
       have hT0 := (hT0).then hT32 (fun c e => by have : c = w5.heap.size := e; omega)
       have hB4 := hB4.tch hT32 (fun e => by have : w.heap.size = w5.heap.size := e; omega)
       have hB8 := hB8.tch hT32 (fun e => by have : w1.heap.size = w5.heap.size := e; omega)
       replace hB14 : Blk w31 w5.heap.size 117 [.int .u64 0, .int .u64 0] := hB14'
       refine op_nil ?_
       refine W_ret ?_
       refine ⟨_, Res_cell (b := w5.heap.size) (cs := [.int .u64 0, .int .u64 0]) (by rfl) (by kernel_rfl) (by kernel_rfl) hB14 (by kernel_rfl) (by kernel_rfl), ?_⟩
       have e : rbin O wd x y = (0, 0) := by unfold rbin; (repeat (first | rw [if_pos (by omega)] | rw [if_neg (by omega)])); first | (show rtruth _ _ = _; exact rt_f (by first | (simp_all; done) | (rw [Bool.eq_false_iff]; intro q; simp only [Bool.and_eq_true, Bool.or_eq_true, decide_eq_true_eq] at q; omega) | (rw [Bool.eq_false_iff]; intro q; simp only [Bool.and_eq_true, decide_eq_true_eq] at q; obtain ⟨rfl, q⟩ := q; omega) | (simp only [Bool.and_eq_true, Bool.or_eq_true, decide_eq_true_eq]; omega) | (simp only [Bool.and_eq_true, decide_eq_true_eq]; exact ⟨by assumption, by omega⟩) | (rw [Bool.eq_false_iff]; intro q; simp only [Bool.and_eq_true, decide_eq_true_eq] at q; exact absurd q.1 (by assumption)) | (rw [Bool.eq_false_iff]; intro q; simp only [Bool.and_eq_true, decide_eq_true_eq] at q; obtain ⟨rfl, q⟩ := q; simp_all)) (by first | (simp_all; done) | (rw [Bool.eq_false_iff]; intro q; simp only [Bool.and_eq_true, Bool.or_eq_true, decide_eq_true_eq] at q; omega) | (rw [Bool.eq_false_iff]; intro q; simp only [Bool.and_eq_true, decide_eq_true_eq] at q; obtain ⟨rfl, q⟩ := q; omega) | (simp only [Bool.and_eq_true, Bool.or_eq_true, decide_eq_true_eq]; omega) | (simp only [Bool.and_eq_true, decide_eq_true_eq]; exact ⟨by assumption, by omega⟩) | (rw [Bool.eq_false_iff]; intro q; simp only [Bool.and_eq_true, decide_eq_true_eq] at q; exact absurd q.1 (by assumption)) | (rw [Bool.eq_false_iff]; intro q; simp only [Bool.and_eq_true, decide_eq_true_eq] at q; obtain ⟨rfl, q⟩ := q; simp_all))) | rfl
       rw [e]
       exact ⟨rfl, hT0⟩
      ·
       replace hc30 : ((x.1 : Nat) : Int) < ((y.2 : Nat) : Int) := (Int.not_le.1 (of_decide_eq_false hc30))
       refine W_skip ?_
       refine zQ ?_
       refine zS [(63, .agg #[.int .u64 0, .int .u64 1])] ?_
       refine st (by rfl) (S_storeA (b := w5.heap.size) (j := 0) (cs := [.int .u64 0, .int .u64 1]) (by kernel_rfl) (by kernel_rfl) (by kernel_rfl) (by simp [oneV]) hB14 (by simp) fun w34 hT35 hs36 hB14' => ?_)
       have hT0 := (hT0).then hT35 (fun c e => by have : c = w5.heap.size := e; omega)
       have hB4 := hB4.tch hT35 (fun e => by have : w.heap.size = w5.heap.size := e; omega)
       have hB8 := hB8.tch hT35 (fun e => by have : w1.heap.size = w5.heap.size := e; omega)
       replace hB14 : Blk w34 w5.heap.size 117 [.int .u64 0, .int .u64 1] := hB14'
       refine op_nil ?_
       refine W_ret ?_
       refine ⟨_, Res_cell (b := w5.heap.size) (cs := [.int .u64 0, .int .u64 1]) (by rfl) (by kernel_rfl) (by kernel_rfl) hB14 (by kernel_rfl) (by kernel_rfl), ?_⟩
       have e : rbin O wd x y = (0, 1) := by unfold rbin; (repeat (first | rw [if_pos (by omega)] | rw [if_neg (by omega)])); first | (show rtruth _ _ = _; exact rt_n (by first | (simp_all; done) | (rw [Bool.eq_false_iff]; intro q; simp only [Bool.and_eq_true, Bool.or_eq_true, decide_eq_true_eq] at q; omega) | (rw [Bool.eq_false_iff]; intro q; simp only [Bool.and_eq_true, decide_eq_true_eq] at q; obtain ⟨rfl, q⟩ := q; omega) | (simp only [Bool.and_eq_true, Bool.or_eq_true, decide_eq_true_eq]; omega) | (simp only [Bool.and_eq_true, decide_eq_true_eq]; exact ⟨by assumption, by omega⟩) | (rw [Bool.eq_false_iff]; intro q; simp only [Bool.and_eq_true, decide_eq_true_eq] at q; exact absurd q.1 (by assumption)) | (rw [Bool.eq_false_iff]; intro q; simp only [Bool.and_eq_true, decide_eq_true_eq] at q; obtain ⟨rfl, q⟩ := q; simp_all)) (by first | (simp_all; done) | (rw [Bool.eq_false_iff]; intro q; simp only [Bool.and_eq_true, Bool.or_eq_true, decide_eq_true_eq] at q; omega) | (rw [Bool.eq_false_iff]; intro q; simp only [Bool.and_eq_true, decide_eq_true_eq] at q; obtain ⟨rfl, q⟩ := q; omega) | (simp only [Bool.and_eq_true, Bool.or_eq_true, decide_eq_true_eq]; omega) | (simp only [Bool.and_eq_true, decide_eq_true_eq]; exact ⟨by assumption, by omega⟩) | (rw [Bool.eq_false_iff]; intro q; simp only [Bool.and_eq_true, decide_eq_true_eq] at q; exact absurd q.1 (by assumption)) | (rw [Bool.eq_false_iff]; intro q; simp only [Bool.and_eq_true, decide_eq_true_eq] at q; obtain ⟨rfl, q⟩ := q; simp_all))) | rfl
       rw [e]
       exact ⟨rfl, hT0⟩
  ·
   replace hb19 : ((O : Nat) : Int) = 12 := (eq_of_beq hb19)
   exfalso; omega
 ·
  replace hb18 : ((O : Nat) : Int) = 12 := (eq_of_beq hb18)
  refine zS [(11, .pointer (some ⟨w.heap.size, 1, none⟩))] ?_
  refine zL (.int .u64 ((x.2 : Nat) : Int)) ((hB4.cell 1).trans rfl) ?_
  refine zS [(13, .pointer (some ⟨w1.heap.size, 0, none⟩))] ?_
  refine zL (.int .u64 ((y.1 : Nat) : Int)) ((hB8.cell 0).trans rfl) ?_
  refine zS [(15, .bool (decide (((x.2 : Nat) : Int) < ((y.1 : Nat) : Int)))), (16, .bool (decide (((x.2 : Nat) : Int) < ((y.1 : Nat) : Int))))] ?_
  cases hb37 : decide (((x.2 : Nat) : Int) < ((y.1 : Nat) : Int))
  ·
   replace hb37 : ((y.1 : Nat) : Int) ≤ ((x.2 : Nat) : Int) := (Int.not_lt.1 (of_decide_eq_false hb37))
   refine zS [(17, .pointer (some ⟨w1.heap.size, 1, none⟩))] ?_
   refine zL (.int .u64 ((y.2 : Nat) : Int)) ((hB8.cell 1).trans rfl) ?_
   refine zS [(19, .pointer (some ⟨w.heap.size, 0, none⟩))] ?_
   refine zL (.int .u64 ((x.1 : Nat) : Int)) ((hB4.cell 0).trans rfl) ?_
   refine zS [(21, .bool (decide (((y.2 : Nat) : Int) < ((x.1 : Nat) : Int)))), (22, .bool (decide (((y.2 : Nat) : Int) < ((x.1 : Nat) : Int)))), (23, .bool (decide (((y.2 : Nat) : Int) < ((x.1 : Nat) : Int)))), (7, .bool (decide (((y.2 : Nat) : Int) < ((x.1 : Nat) : Int))))] ?_
   refine zO (decide (((y.2 : Nat) : Int) < ((x.1 : Nat) : Int))) (fun hc38 => ?_) (fun hc38 => ?_)
   ·
    replace hc38 : ((y.2 : Nat) : Int) < ((x.1 : Nat) : Int) := (of_decide_eq_true hc38)
    refine zQ ?_
    refine zS [(24, .agg #[.int .u64 0, .int .u64 0])] ?_
    refine st (by rfl) (S_storeA (b := w5.heap.size) (j := 0) (cs := [.int .u64 0, .int .u64 0]) (by kernel_rfl) (by kernel_rfl) (by kernel_rfl) (by simp [oneV]) hB14 (by simp) fun w39 hT40 hs41 hB14' => ?_)
    have hT0 := (hT0).then hT40 (fun c e => by have : c = w5.heap.size := e; omega)
    have hB4 := hB4.tch hT40 (fun e => by have : w.heap.size = w5.heap.size := e; omega)
    have hB8 := hB8.tch hT40 (fun e => by have : w1.heap.size = w5.heap.size := e; omega)
    replace hB14 : Blk w39 w5.heap.size 117 [.int .u64 0, .int .u64 0] := hB14'
    refine op_nil ?_
    refine W_ret ?_
    refine ⟨_, Res_cell (b := w5.heap.size) (cs := [.int .u64 0, .int .u64 0]) (by rfl) (by kernel_rfl) (by kernel_rfl) hB14 (by kernel_rfl) (by kernel_rfl), ?_⟩
    have e : rbin O wd x y = (0, 0) := by unfold rbin; (repeat (first | rw [if_pos (by omega)] | rw [if_neg (by omega)])); first | (show rtruth _ _ = _; exact rt_f (by first | (simp_all; done) | (rw [Bool.eq_false_iff]; intro q; simp only [Bool.and_eq_true, Bool.or_eq_true, decide_eq_true_eq] at q; omega) | (rw [Bool.eq_false_iff]; intro q; simp only [Bool.and_eq_true, decide_eq_true_eq] at q; obtain ⟨rfl, q⟩ := q; omega) | (simp only [Bool.and_eq_true, Bool.or_eq_true, decide_eq_true_eq]; omega) | (simp only [Bool.and_eq_true, decide_eq_true_eq]; exact ⟨by assumption, by omega⟩) | (rw [Bool.eq_false_iff]; intro q; simp only [Bool.and_eq_true, decide_eq_true_eq] at q; exact absurd q.1 (by assumption)) | (rw [Bool.eq_false_iff]; intro q; simp only [Bool.and_eq_true, decide_eq_true_eq] at q; obtain ⟨rfl, q⟩ := q; simp_all)) (by first | (simp_all; done) | (rw [Bool.eq_false_iff]; intro q; simp only [Bool.and_eq_true, Bool.or_eq_true, decide_eq_true_eq] at q; omega) | (rw [Bool.eq_false_iff]; intro q; simp only [Bool.and_eq_true, decide_eq_true_eq] at q; obtain ⟨rfl, q⟩ := q; omega) | (simp only [Bool.and_eq_true, Bool.or_eq_true, decide_eq_true_eq]; omega) | (simp only [Bool.and_eq_true, decide_eq_true_eq]; exact ⟨by assumption, by omega⟩) | (rw [Bool.eq_false_iff]; intro q; simp only [Bool.and_eq_true, decide_eq_true_eq] at q; exact absurd q.1 (by assumption)) | (rw [Bool.eq_false_iff]; intro q; simp only [Bool.and_eq_true, decide_eq_true_eq] at q; obtain ⟨rfl, q⟩ := q; simp_all))) | rfl
    rw [e]
    exact ⟨rfl, hT0⟩
   ·
    replace hc38 : ((x.1 : Nat) : Int) ≤ ((y.2 : Nat) : Int) := (Int.not_lt.1 (of_decide_eq_false hc38))
    refine zQ ?_
    refine zS [(26, .int .i64 ((O : Nat) : Int)), (27, .bool (((O : Nat) : Int) == 12)), (28, .bool (((O : Nat) : Int) == 12))] ?_
    cases hb42 : ((O : Nat) : Int) == 12
    ·
     replace hb42 : ((O : Nat) : Int) ≠ 12 := (ne_of_beq_false hb42)
     exfalso; omega
    ·
     replace hb42 : ((O : Nat) : Int) = 12 := (eq_of_beq hb42)
     refine zS [(29, .pointer (some ⟨w.heap.size, 0, none⟩))] ?_
     refine zL (.int .u64 ((x.1 : Nat) : Int)) ((hB4.cell 0).trans rfl) ?_
     refine zS [(31, .pointer (some ⟨w.heap.size, 1, none⟩))] ?_
     refine zL (.int .u64 ((x.2 : Nat) : Int)) ((hB4.cell 1).trans rfl) ?_
     refine zS [(33, .bool (((x.1 : Nat) : Int) == ((x.2 : Nat) : Int))), (34, .bool (((x.1 : Nat) : Int) == ((x.2 : Nat) : Int))), (35, .bool (((x.1 : Nat) : Int) == ((x.2 : Nat) : Int)))] ?_
     cases hb43 : ((x.1 : Nat) : Int) == ((x.2 : Nat) : Int)
     ·
      replace hb43 : ((x.1 : Nat) : Int) ≠ ((x.2 : Nat) : Int) := (ne_of_beq_false hb43)
      refine zS [(36, undef), (37, undef), (38, undef), (39, .bool false), (25, .bool false)] ?_
      refine zO false (fun h => nomatch h) (fun _ => ?_)
      refine zQ ?_
      refine zS [(42, .int .i64 ((O : Nat) : Int)), (43, .bool (((O : Nat) : Int) == 13)), (44, .bool (((O : Nat) : Int) == 13))] ?_
      cases hb44 : ((O : Nat) : Int) == 13
      ·
       replace hb44 : ((O : Nat) : Int) ≠ 13 := (ne_of_beq_false hb44)
       refine zS [(45, undef), (46, undef), (47, undef), (48, undef), (49, undef), (50, .bool false), (41, .bool false)] ?_
       refine zO false (fun h => nomatch h) (fun _ => ?_)
       refine zQ ?_
       refine zS [(53, .int .i64 ((O : Nat) : Int)), (54, .bool (((O : Nat) : Int) == 13)), (55, .bool (((O : Nat) : Int) == 13))] ?_
       cases hb45 : ((O : Nat) : Int) == 13
       ·
        replace hb45 : ((O : Nat) : Int) ≠ 13 := (ne_of_beq_false hb45)
        refine zS [(56, undef), (57, undef), (58, undef), (59, undef), (60, undef), (61, .bool false), (52, .bool false)] ?_
        refine zO false (fun h => nomatch h) (fun _ => ?_)
        refine W_skip ?_
        refine zQ ?_
        refine zS [(63, .agg #[.int .u64 0, .int .u64 1])] ?_
        refine st (by rfl) (S_storeA (b := w5.heap.size) (j := 0) (cs := [.int .u64 0, .int .u64 1]) (by kernel_rfl) (by kernel_rfl) (by kernel_rfl) (by simp [oneV]) hB14 (by simp) fun w46 hT47 hs48 hB14' => ?_)
        have hT0 := (hT0).then hT47 (fun c e => by have : c = w5.heap.size := e; omega)
        have hB4 := hB4.tch hT47 (fun e => by have : w.heap.size = w5.heap.size := e; omega)
        have hB8 := hB8.tch hT47 (fun e => by have : w1.heap.size = w5.heap.size := e; omega)
        replace hB14 : Blk w46 w5.heap.size 117 [.int .u64 0, .int .u64 1] := hB14'
        refine op_nil ?_
        refine W_ret ?_
        refine ⟨_, Res_cell (b := w5.heap.size) (cs := [.int .u64 0, .int .u64 1]) (by rfl) (by kernel_rfl) (by kernel_rfl) hB14 (by kernel_rfl) (by kernel_rfl), ?_⟩
        have e : rbin O wd x y = (0, 1) := by unfold rbin; (repeat (first | rw [if_pos (by omega)] | rw [if_neg (by omega)])); first | (show rtruth _ _ = _; exact rt_n (by first | (simp_all; done) | (rw [Bool.eq_false_iff]; intro q; simp only [Bool.and_eq_true, Bool.or_eq_true, decide_eq_true_eq] at q; omega) | (rw [Bool.eq_false_iff]; intro q; simp only [Bool.and_eq_true, decide_eq_true_eq] at q; obtain ⟨rfl, q⟩ := q; omega) | (simp only [Bool.and_eq_true, Bool.or_eq_true, decide_eq_true_eq]; omega) | (simp only [Bool.and_eq_true, decide_eq_true_eq]; exact ⟨by assumption, by omega⟩) | (rw [Bool.eq_false_iff]; intro q; simp only [Bool.and_eq_true, decide_eq_true_eq] at q; exact absurd q.1 (by assumption)) | (rw [Bool.eq_false_iff]; intro q; simp only [Bool.and_eq_true, decide_eq_true_eq] at q; obtain ⟨rfl, q⟩ := q; simp_all)) (by first | (simp_all; done) | (rw [Bool.eq_false_iff]; intro q; simp only [Bool.and_eq_true, Bool.or_eq_true, decide_eq_true_eq] at q; omega) | (rw [Bool.eq_false_iff]; intro q; simp only [Bool.and_eq_true, decide_eq_true_eq] at q; obtain ⟨rfl, q⟩ := q; omega) | (simp only [Bool.and_eq_true, Bool.or_eq_true, decide_eq_true_eq]; omega) | (simp only [Bool.and_eq_true, decide_eq_true_eq]; exact ⟨by assumption, by omega⟩) | (rw [Bool.eq_false_iff]; intro q; simp only [Bool.and_eq_true, decide_eq_true_eq] at q; exact absurd q.1 (by assumption)) | (rw [Bool.eq_false_iff]; intro q; simp only [Bool.and_eq_true, decide_eq_true_eq] at q; obtain ⟨rfl, q⟩ := q; simp_all))) | rfl
        rw [e]
        exact ⟨rfl, hT0⟩
       ·
        replace hb45 : ((O : Nat) : Int) = 13 := (eq_of_beq hb45)
        exfalso; omega
      ·
       replace hb44 : ((O : Nat) : Int) = 13 := (eq_of_beq hb44)
       exfalso; omega
     ·
      replace hb43 : ((x.1 : Nat) : Int) = ((x.2 : Nat) : Int) := (eq_of_beq hb43)
      refine st (by kernel_rfl) (S_val (v := .agg #[.int .u64 ((x.1 : Nat) : Int), .int .u64 ((x.2 : Nat) : Int)]) (R_loadA [.int .u64 ((x.1 : Nat) : Int), .int .u64 ((x.2 : Nat) : Int)] (by kernel_rfl) (by kernel_rfl) (by kernel_rfl) (fun k u hk => by rw [hB4.cell]; exact get_part _ 0 _ k u rfl hk)) ?_)
      refine st (by kernel_rfl) (S_val (v := .agg #[.int .u64 ((y.1 : Nat) : Int), .int .u64 ((y.2 : Nat) : Int)]) (R_loadA [.int .u64 ((y.1 : Nat) : Int), .int .u64 ((y.2 : Nat) : Int)] (by kernel_rfl) (by kernel_rfl) (by kernel_rfl) (fun k u hk => by rw [hB8.cell]; exact get_part _ 0 _ k u rfl hk)) ?_)
      refine stv (v := .bool (decide (x = y))) (by rfl) (R_eqSd x y (by kernel_rfl) (by kernel_rfl) ux1 ux2 uy1 uy2) ?_
      refine zS [(39, .bool (decide (x = y))), (25, .bool (decide (x = y)))] ?_
      refine zO (decide (x = y)) (fun hc49 => ?_) (fun hc49 => ?_)
      ·
       replace hc49 : x = y := (of_decide_eq_true hc49)
       refine zQ ?_
       refine zS [(40, .agg #[.int .u64 1, .int .u64 1])] ?_
       refine st (by rfl) (S_storeA (b := w5.heap.size) (j := 0) (cs := [.int .u64 1, .int .u64 1]) (by kernel_rfl) (by kernel_rfl) (by kernel_rfl) (by simp [oneV]) hB14 (by simp) fun w50 hT51 hs52 hB14' => ?_)
       have hT0 := (hT0).then hT51 (fun c e => by have : c = w5.heap.size := e; omega)
       have hB4 := hB4.tch hT51 (fun e => by have : w.heap.size = w5.heap.size := e; omega)
       have hB8 := hB8.tch hT51 (fun e => by have : w1.heap.size = w5.heap.size := e; omega)
       replace hB14 : Blk w50 w5.heap.size 117 [.int .u64 1, .int .u64 1] := hB14'
       refine op_nil ?_
       refine W_ret ?_
       refine ⟨_, Res_cell (b := w5.heap.size) (cs := [.int .u64 1, .int .u64 1]) (by rfl) (by kernel_rfl) (by kernel_rfl) hB14 (by kernel_rfl) (by kernel_rfl), ?_⟩
       have e : rbin O wd x y = (1, 1) := by unfold rbin; (repeat (first | rw [if_pos (by omega)] | rw [if_neg (by omega)])); first | (show rtruth _ _ = _; exact rt_t (by first | (simp_all; done) | (rw [Bool.eq_false_iff]; intro q; simp only [Bool.and_eq_true, Bool.or_eq_true, decide_eq_true_eq] at q; omega) | (rw [Bool.eq_false_iff]; intro q; simp only [Bool.and_eq_true, decide_eq_true_eq] at q; obtain ⟨rfl, q⟩ := q; omega) | (simp only [Bool.and_eq_true, Bool.or_eq_true, decide_eq_true_eq]; omega) | (simp only [Bool.and_eq_true, decide_eq_true_eq]; exact ⟨by assumption, by omega⟩) | (rw [Bool.eq_false_iff]; intro q; simp only [Bool.and_eq_true, decide_eq_true_eq] at q; exact absurd q.1 (by assumption)) | (rw [Bool.eq_false_iff]; intro q; simp only [Bool.and_eq_true, decide_eq_true_eq] at q; obtain ⟨rfl, q⟩ := q; simp_all))) | rfl
       rw [e]
       exact ⟨rfl, hT0⟩
      ·
       replace hc49 : x ≠ y := (of_decide_eq_false hc49)
       refine zQ ?_
       refine zS [(42, .int .i64 ((O : Nat) : Int)), (43, .bool (((O : Nat) : Int) == 13)), (44, .bool (((O : Nat) : Int) == 13))] ?_
       cases hb53 : ((O : Nat) : Int) == 13
       ·
        replace hb53 : ((O : Nat) : Int) ≠ 13 := (ne_of_beq_false hb53)
        refine zS [(45, undef), (46, undef), (47, undef), (48, undef), (49, undef), (50, .bool false), (41, .bool false)] ?_
        refine zO false (fun h => nomatch h) (fun _ => ?_)
        refine zQ ?_
        refine zS [(53, .int .i64 ((O : Nat) : Int)), (54, .bool (((O : Nat) : Int) == 13)), (55, .bool (((O : Nat) : Int) == 13))] ?_
        cases hb54 : ((O : Nat) : Int) == 13
        ·
         replace hb54 : ((O : Nat) : Int) ≠ 13 := (ne_of_beq_false hb54)
         refine zS [(56, undef), (57, undef), (58, undef), (59, undef), (60, undef), (61, .bool false), (52, .bool false)] ?_
         refine zO false (fun h => nomatch h) (fun _ => ?_)
         refine W_skip ?_
         refine zQ ?_
         refine zS [(63, .agg #[.int .u64 0, .int .u64 1])] ?_
         refine st (by rfl) (S_storeA (b := w5.heap.size) (j := 0) (cs := [.int .u64 0, .int .u64 1]) (by kernel_rfl) (by kernel_rfl) (by kernel_rfl) (by simp [oneV]) hB14 (by simp) fun w55 hT56 hs57 hB14' => ?_)
         have hT0 := (hT0).then hT56 (fun c e => by have : c = w5.heap.size := e; omega)
         have hB4 := hB4.tch hT56 (fun e => by have : w.heap.size = w5.heap.size := e; omega)
         have hB8 := hB8.tch hT56 (fun e => by have : w1.heap.size = w5.heap.size := e; omega)
         replace hB14 : Blk w55 w5.heap.size 117 [.int .u64 0, .int .u64 1] := hB14'
         refine op_nil ?_
         refine W_ret ?_
         refine ⟨_, Res_cell (b := w5.heap.size) (cs := [.int .u64 0, .int .u64 1]) (by rfl) (by kernel_rfl) (by kernel_rfl) hB14 (by kernel_rfl) (by kernel_rfl), ?_⟩
         have e : rbin O wd x y = (0, 1) := by unfold rbin; (repeat (first | rw [if_pos (by omega)] | rw [if_neg (by omega)])); first | (show rtruth _ _ = _; exact rt_n (by first | (simp_all; done) | (rw [Bool.eq_false_iff]; intro q; simp only [Bool.and_eq_true, Bool.or_eq_true, decide_eq_true_eq] at q; omega) | (rw [Bool.eq_false_iff]; intro q; simp only [Bool.and_eq_true, decide_eq_true_eq] at q; obtain ⟨rfl, q⟩ := q; omega) | (simp only [Bool.and_eq_true, Bool.or_eq_true, decide_eq_true_eq]; omega) | (simp only [Bool.and_eq_true, decide_eq_true_eq]; exact ⟨by assumption, by omega⟩) | (rw [Bool.eq_false_iff]; intro q; simp only [Bool.and_eq_true, decide_eq_true_eq] at q; exact absurd q.1 (by assumption)) | (rw [Bool.eq_false_iff]; intro q; simp only [Bool.and_eq_true, decide_eq_true_eq] at q; obtain ⟨rfl, q⟩ := q; simp_all)) (by first | (simp_all; done) | (rw [Bool.eq_false_iff]; intro q; simp only [Bool.and_eq_true, Bool.or_eq_true, decide_eq_true_eq] at q; omega) | (rw [Bool.eq_false_iff]; intro q; simp only [Bool.and_eq_true, decide_eq_true_eq] at q; obtain ⟨rfl, q⟩ := q; omega) | (simp only [Bool.and_eq_true, Bool.or_eq_true, decide_eq_true_eq]; omega) | (simp only [Bool.and_eq_true, decide_eq_true_eq]; exact ⟨by assumption, by omega⟩) | (rw [Bool.eq_false_iff]; intro q; simp only [Bool.and_eq_true, decide_eq_true_eq] at q; exact absurd q.1 (by assumption)) | (rw [Bool.eq_false_iff]; intro q; simp only [Bool.and_eq_true, decide_eq_true_eq] at q; obtain ⟨rfl, q⟩ := q; simp_all))) | rfl
         rw [e]
         exact ⟨rfl, hT0⟩
        ·
         replace hb54 : ((O : Nat) : Int) = 13 := (eq_of_beq hb54)
         exfalso; omega
       ·
        replace hb53 : ((O : Nat) : Int) = 13 := (eq_of_beq hb53)
        exfalso; omega
  ·
   replace hb37 : ((x.2 : Nat) : Int) < ((y.1 : Nat) : Int) := (of_decide_eq_true hb37)
   refine zS [(17, undef), (18, undef), (19, undef), (20, undef), (21, undef), (22, .bool true), (23, .bool true), (7, .bool true)] ?_
   refine zO true (fun _ => ?_) (fun h => nomatch h)
   refine zQ ?_
   refine zS [(24, .agg #[.int .u64 0, .int .u64 0])] ?_
   refine st (by rfl) (S_storeA (b := w5.heap.size) (j := 0) (cs := [.int .u64 0, .int .u64 0]) (by kernel_rfl) (by kernel_rfl) (by kernel_rfl) (by simp [oneV]) hB14 (by simp) fun w58 hT59 hs60 hB14' => ?_)
   have hT0 := (hT0).then hT59 (fun c e => by have : c = w5.heap.size := e; omega)
   have hB4 := hB4.tch hT59 (fun e => by have : w.heap.size = w5.heap.size := e; omega)
   have hB8 := hB8.tch hT59 (fun e => by have : w1.heap.size = w5.heap.size := e; omega)
   replace hB14 : Blk w58 w5.heap.size 117 [.int .u64 0, .int .u64 0] := hB14'
   refine op_nil ?_
   refine W_ret ?_
   refine ⟨_, Res_cell (b := w5.heap.size) (cs := [.int .u64 0, .int .u64 0]) (by rfl) (by kernel_rfl) (by kernel_rfl) hB14 (by kernel_rfl) (by kernel_rfl), ?_⟩
   have e : rbin O wd x y = (0, 0) := by unfold rbin; (repeat (first | rw [if_pos (by omega)] | rw [if_neg (by omega)])); first | (show rtruth _ _ = _; exact rt_f (by first | (simp_all; done) | (rw [Bool.eq_false_iff]; intro q; simp only [Bool.and_eq_true, Bool.or_eq_true, decide_eq_true_eq] at q; omega) | (rw [Bool.eq_false_iff]; intro q; simp only [Bool.and_eq_true, decide_eq_true_eq] at q; obtain ⟨rfl, q⟩ := q; omega) | (simp only [Bool.and_eq_true, Bool.or_eq_true, decide_eq_true_eq]; omega) | (simp only [Bool.and_eq_true, decide_eq_true_eq]; exact ⟨by assumption, by omega⟩) | (rw [Bool.eq_false_iff]; intro q; simp only [Bool.and_eq_true, decide_eq_true_eq] at q; exact absurd q.1 (by assumption)) | (rw [Bool.eq_false_iff]; intro q; simp only [Bool.and_eq_true, decide_eq_true_eq] at q; obtain ⟨rfl, q⟩ := q; simp_all)) (by first | (simp_all; done) | (rw [Bool.eq_false_iff]; intro q; simp only [Bool.and_eq_true, Bool.or_eq_true, decide_eq_true_eq] at q; omega) | (rw [Bool.eq_false_iff]; intro q; simp only [Bool.and_eq_true, decide_eq_true_eq] at q; obtain ⟨rfl, q⟩ := q; omega) | (simp only [Bool.and_eq_true, Bool.or_eq_true, decide_eq_true_eq]; omega) | (simp only [Bool.and_eq_true, decide_eq_true_eq]; exact ⟨by assumption, by omega⟩) | (rw [Bool.eq_false_iff]; intro q; simp only [Bool.and_eq_true, decide_eq_true_eq] at q; exact absurd q.1 (by assumption)) | (rw [Bool.eq_false_iff]; intro q; simp only [Bool.and_eq_true, decide_eq_true_eq] at q; obtain ⟨rfl, q⟩ := q; simp_all))) | rfl
   rw [e]
   exact ⟨rfl, hT0⟩

set_option maxRecDepth 100000 in
set_option maxHeartbeats 2000000 in
theorem reckoned_ok (O wd : Nat) (x y : K) (w : World) (hx : RI wd x) (hy : RI wd y) (h1 : 1 ≤ wd) (hw : wd ≤ 64) (hO : O = 1 ∨ O = 2 ∨ O = 3 ∨ O = 4 ∨ O = 8 ∨ O = 9 ∨ O = 11) : Ret Try.prog 114 [.int .i64 ((O : Nat) : Int), .int .i64 ((wd : Nat) : Int), .agg #[.int .u64 ((x.1 : Nat) : Int), .int .u64 ((x.2 : Nat) : Int)], .agg #[.int .u64 ((y.1 : Nat) : Int), .int .u64 ((y.2 : Nat) : Int)]] w fun v w' => v = .agg #[.int .u64 (((rbin O wd x y).1 : Nat) : Int), .int .u64 (((rbin O wd x y).2 : Nat) : Int)] ∧ Tch N0 w w' := by
 have hp := pw_pos wd
 have hp64 := pw64 hw
 have ux1 := hx.u1 hw
 have ux2 := hx.u2 hw
 have uy1 := hy.u1 hw
 have uy2 := hy.u2 hw
 have hx1 := hx.1
 have hx2 := hx.2
 have hy1 := hy.1
 have hy2 := hy.2
 have hm1 := Nat.mul_le_mul hx1 hy1
 refine enter Try.func114 rfl rfl ?_
 refine zQ ?_
 refine st (by rfl) (S_new (v := .pointer (some ⟨w.heap.size, 0, none⟩)) (ob := .cells #[.int .u64 ((x.1 : Nat) : Int), .int .u64 ((x.2 : Nat) : Int)] 117) (by kernel_rfl) fun w1 hT2 hs3 hB4 => ?_)
 replace hB4 : Blk w1 (w.heap.size) 117 [.int .u64 ((x.1 : Nat) : Int), .int .u64 ((x.2 : Nat) : Int)] := hB4
 have hT0 := hT2
 have z9 := hT0.size
 have l10 := hB4.lt
 refine st (by rfl) (S_new (v := .pointer (some ⟨w1.heap.size, 0, none⟩)) (ob := .cells #[.int .u64 ((y.1 : Nat) : Int), .int .u64 ((y.2 : Nat) : Int)] 117) (by kernel_rfl) fun w5 hT6 hs7 hB8 => ?_)
 replace hB8 : Blk w5 (w1.heap.size) 117 [.int .u64 ((y.1 : Nat) : Int), .int .u64 ((y.2 : Nat) : Int)] := hB8
 have hT0 := hT0.t0 hT6
 have hB4 := hB4.tch0 hT6
 have z15 := hT0.size
 have l16 := hB4.lt
 have l17 := hB8.lt
 refine st (by rfl) (S_new (v := .pointer (some ⟨w5.heap.size, 0, none⟩)) (ob := .cells #[.int .u64 0, .int .u64 0] 117) (by kernel_rfl) fun w11 hT12 hs13 hB14 => ?_)
 replace hB14 : Blk w11 (w5.heap.size) 117 [.int .u64 0, .int .u64 0] := hB14
 have hT0 := hT0.t0 hT12
 have hB4 := hB4.tch0 hT12
 have hB8 := hB8.tch0 hT12
 refine op_nil ?_
 refine zQ ?_
 refine zS [(10, .int .i64 ((wd : Nat) : Int))] ?_
 refine zC (rmask_okN wd _ (by omega)) ?_
 rintro _ w18 ⟨rfl, hT19⟩
 have hT0 := hT0.t0 hT19
 have hB4 := hB4.tch0 hT19
 have hB8 := hB8.tch0 hT19
 have hB14 := hB14.tch0 hT19
 have hu20 := pwm_lt (x := wd) (by omega)
 refine zS [(9, .int .u64 ((pw wd - 1 : Nat) : Int))] ?_
 refine op_nil ?_
 refine W_seq ?_
 refine zQ ?_
 refine zS [(12, .int .i64 ((O : Nat) : Int))] ?_
 refine op_nil ?_
 refine W_block ?_
 refine zQ ?_
 refine zS [(14, .bool (((O : Nat) : Int) == 1)), (13, .bool (((O : Nat) : Int) == 1))] ?_
 refine zO (((O : Nat) : Int) == 1) (fun hc21 => ?_) (fun hc21 => ?_)
 ·
  replace hc21 : ((O : Nat) : Int) = 1 := (eq_of_beq hc21)
  refine zQ ?_
  refine zS [(15, .pointer (some ⟨w.heap.size, 1, none⟩))] ?_
  refine zL (.int .u64 ((x.2 : Nat) : Int)) ((hB4.cell 1).trans rfl) ?_
  refine zS [(17, .int .u64 ((pw wd - 1 : Nat) : Int)), (18, .pointer (some ⟨w1.heap.size, 1, none⟩))] ?_
  refine zL (.int .u64 ((y.2 : Nat) : Int)) ((hB8.cell 1).trans rfl) ?_
  refine zS [(20, .int .u64 (IntKind.u64.wrap (((pw wd - 1 : Nat) : Int) - ((y.2 : Nat) : Int))))] ?_
  rw [show IntKind.u64.wrap (((pw wd - 1 : Nat) : Int) - ((y.2 : Nat) : Int)) = ((((pw wd - 1) + (18446744073709551616 - y.2)) % 18446744073709551616 : Nat) : Int) from u64_sub (pw wd - 1) y.2 hu20 uy2]
  have hu22 : ((pw wd - 1) + (18446744073709551616 - y.2)) % 18446744073709551616 < 18446744073709551616 := mod_lt64 _
  refine fixR (y := ((pw wd - 1 - y.2 : Nat) : Int)) (by omega) ?_
  refine zS [(21, .bool (decide (((x.2 : Nat) : Int) ≤ ((pw wd - 1 - y.2 : Nat) : Int))))] ?_
  refine zO (decide (((x.2 : Nat) : Int) ≤ ((pw wd - 1 - y.2 : Nat) : Int))) (fun hc23 => ?_) (fun hc23 => ?_)
  ·
   replace hc23 : ((x.2 : Nat) : Int) ≤ ((pw wd - 1 - y.2 : Nat) : Int) := (of_decide_eq_true hc23)
   refine zQ ?_
   refine zS [(22, .pointer (some ⟨w.heap.size, 0, none⟩))] ?_
   refine zL (.int .u64 ((x.1 : Nat) : Int)) ((hB4.cell 0).trans rfl) ?_
   refine zS [(24, .pointer (some ⟨w1.heap.size, 0, none⟩))] ?_
   refine zL (.int .u64 ((y.1 : Nat) : Int)) ((hB8.cell 0).trans rfl) ?_
   refine zS [(26, .int .u64 (IntKind.u64.wrap (((x.1 : Nat) : Int) + ((y.1 : Nat) : Int))))] ?_
   rw [show IntKind.u64.wrap (((x.1 : Nat) : Int) + ((y.1 : Nat) : Int)) = (((x.1 + y.1) % 18446744073709551616 : Nat) : Int) from u64_add x.1 y.1]
   have hu24 : (x.1 + y.1) % 18446744073709551616 < 18446744073709551616 := mod_lt64 _
   refine fixR (y := ((x.1 + y.1 : Nat) : Int)) (by omega) ?_
   refine zS [(27, .pointer (some ⟨w.heap.size, 1, none⟩))] ?_
   refine zL (.int .u64 ((x.2 : Nat) : Int)) ((hB4.cell 1).trans rfl) ?_
   refine zS [(29, .pointer (some ⟨w1.heap.size, 1, none⟩))] ?_
   refine zL (.int .u64 ((y.2 : Nat) : Int)) ((hB8.cell 1).trans rfl) ?_
   refine zS [(31, .int .u64 (IntKind.u64.wrap (((x.2 : Nat) : Int) + ((y.2 : Nat) : Int))))] ?_
   rw [show IntKind.u64.wrap (((x.2 : Nat) : Int) + ((y.2 : Nat) : Int)) = (((x.2 + y.2) % 18446744073709551616 : Nat) : Int) from u64_add x.2 y.2]
   have hu25 : (x.2 + y.2) % 18446744073709551616 < 18446744073709551616 := mod_lt64 _
   refine fixR (y := ((x.2 + y.2 : Nat) : Int)) (by omega) ?_
   refine zS [(32, .agg #[.int .u64 ((x.1 + y.1 : Nat) : Int), .int .u64 ((x.2 + y.2 : Nat) : Int)])] ?_
   refine st (by rfl) (S_storeA (b := w5.heap.size) (j := 0) (cs := [.int .u64 ((x.1 + y.1 : Nat) : Int), .int .u64 ((x.2 + y.2 : Nat) : Int)]) (by kernel_rfl) (by kernel_rfl) (by kernel_rfl) (by simp [oneV]) hB14 (by simp) fun w26 hT27 hs28 hB14' => ?_)
   have hT0 := (hT0).then hT27 (fun c e => by have : c = w5.heap.size := e; omega)
   have hB4 := hB4.tch hT27 (fun e => by have : w.heap.size = w5.heap.size := e; omega)
   have hB8 := hB8.tch hT27 (fun e => by have : w1.heap.size = w5.heap.size := e; omega)
   replace hB14 : Blk w26 w5.heap.size 117 [.int .u64 ((x.1 + y.1 : Nat) : Int), .int .u64 ((x.2 + y.2 : Nat) : Int)] := hB14'
   refine op_nil ?_
   refine W_ret ?_
   refine ⟨_, Res_cell (b := w5.heap.size) (cs := [.int .u64 ((x.1 + y.1 : Nat) : Int), .int .u64 ((x.2 + y.2 : Nat) : Int)]) (by rfl) (by kernel_rfl) (by kernel_rfl) hB14 (by kernel_rfl) (by kernel_rfl), ?_⟩
   have e : rbin O wd x y = (x.1 + y.1, x.2 + y.2) := by unfold rbin; (repeat (first | rw [if_pos (by omega)] | rw [if_neg (by omega)] | rw [if_neg (mul_full (by omega))]))
   rw [e]
   exact ⟨rfl, hT0⟩
  ·
   replace hc23 : ((pw wd - 1 - y.2 : Nat) : Int) < ((x.2 : Nat) : Int) := (Int.not_le.1 (of_decide_eq_false hc23))
   refine W_skip ?_
   refine zQ ?_
   refine zS [(92, .int .i64 ((wd : Nat) : Int))] ?_
   refine zC (rall_ok wd _ (by omega)) ?_
   rintro _ w29 ⟨rfl, hT30⟩
   have hT0 := hT0.t0 hT30
   have hB4 := hB4.tch0 hT30
   have hB8 := hB8.tch0 hT30
   have hB14 := hB14.tch0 hT30
   refine st (by rfl) (S_storeA (b := w5.heap.size) (j := 0) (cs := [.int .u64 (((rall wd).1 : Nat) : Int), .int .u64 (((rall wd).2 : Nat) : Int)]) (by kernel_rfl) (by kernel_rfl) (by kernel_rfl) (by simp [oneV]) hB14 (by simp) fun w31 hT32 hs33 hB14' => ?_)
   have hT0 := (hT0).then hT32 (fun c e => by have : c = w5.heap.size := e; omega)
   have hB4 := hB4.tch hT32 (fun e => by have : w.heap.size = w5.heap.size := e; omega)
   have hB8 := hB8.tch hT32 (fun e => by have : w1.heap.size = w5.heap.size := e; omega)
   replace hB14 : Blk w31 w5.heap.size 117 [.int .u64 (((rall wd).1 : Nat) : Int), .int .u64 (((rall wd).2 : Nat) : Int)] := hB14'
   refine op_nil ?_
   refine W_ret ?_
   refine ⟨_, Res_cell (b := w5.heap.size) (cs := [.int .u64 (((rall wd).1 : Nat) : Int), .int .u64 (((rall wd).2 : Nat) : Int)]) (by rfl) (by kernel_rfl) (by kernel_rfl) hB14 (by kernel_rfl) (by kernel_rfl), ?_⟩
   have e : rbin O wd x y = rall wd := by unfold rbin; (repeat (first | rw [if_pos (by omega)] | rw [if_neg (by omega)] | rw [if_neg (mul_full (by omega))]))
   rw [e]
   exact ⟨rfl, hT0⟩
 ·
  replace hc21 : ((O : Nat) : Int) ≠ 1 := (ne_of_beq_false hc21)
  refine zQ ?_
  refine zS [(34, .bool (((O : Nat) : Int) == 2)), (33, .bool (((O : Nat) : Int) == 2))] ?_
  refine zO (((O : Nat) : Int) == 2) (fun hc34 => ?_) (fun hc34 => ?_)
  ·
   replace hc34 : ((O : Nat) : Int) = 2 := (eq_of_beq hc34)
   refine zQ ?_
   refine zS [(35, .pointer (some ⟨w.heap.size, 0, none⟩))] ?_
   refine zL (.int .u64 ((x.1 : Nat) : Int)) ((hB4.cell 0).trans rfl) ?_
   refine zS [(37, .pointer (some ⟨w1.heap.size, 1, none⟩))] ?_
   refine zL (.int .u64 ((y.2 : Nat) : Int)) ((hB8.cell 1).trans rfl) ?_
   refine zS [(39, .bool (decide (((x.1 : Nat) : Int) ≥ ((y.2 : Nat) : Int))))] ?_
   refine zO (decide (((x.1 : Nat) : Int) ≥ ((y.2 : Nat) : Int))) (fun hc35 => ?_) (fun hc35 => ?_)
   ·
    replace hc35 : ((y.2 : Nat) : Int) ≤ ((x.1 : Nat) : Int) := (of_decide_eq_true hc35)
    refine zQ ?_
    refine zS [(40, .pointer (some ⟨w.heap.size, 0, none⟩))] ?_
    refine zL (.int .u64 ((x.1 : Nat) : Int)) ((hB4.cell 0).trans rfl) ?_
    refine zS [(42, .pointer (some ⟨w1.heap.size, 1, none⟩))] ?_
    refine zL (.int .u64 ((y.2 : Nat) : Int)) ((hB8.cell 1).trans rfl) ?_
    refine zS [(44, .int .u64 (IntKind.u64.wrap (((x.1 : Nat) : Int) - ((y.2 : Nat) : Int))))] ?_
    rw [show IntKind.u64.wrap (((x.1 : Nat) : Int) - ((y.2 : Nat) : Int)) = (((x.1 + (18446744073709551616 - y.2)) % 18446744073709551616 : Nat) : Int) from u64_sub x.1 y.2 ux1 uy2]
    have hu36 : (x.1 + (18446744073709551616 - y.2)) % 18446744073709551616 < 18446744073709551616 := mod_lt64 _
    refine fixR (y := ((x.1 - y.2 : Nat) : Int)) (by omega) ?_
    refine zS [(45, .pointer (some ⟨w.heap.size, 1, none⟩))] ?_
    refine zL (.int .u64 ((x.2 : Nat) : Int)) ((hB4.cell 1).trans rfl) ?_
    refine zS [(47, .pointer (some ⟨w1.heap.size, 0, none⟩))] ?_
    refine zL (.int .u64 ((y.1 : Nat) : Int)) ((hB8.cell 0).trans rfl) ?_
    refine zS [(49, .int .u64 (IntKind.u64.wrap (((x.2 : Nat) : Int) - ((y.1 : Nat) : Int))))] ?_
    rw [show IntKind.u64.wrap (((x.2 : Nat) : Int) - ((y.1 : Nat) : Int)) = (((x.2 + (18446744073709551616 - y.1)) % 18446744073709551616 : Nat) : Int) from u64_sub x.2 y.1 ux2 uy1]
    have hu37 : (x.2 + (18446744073709551616 - y.1)) % 18446744073709551616 < 18446744073709551616 := mod_lt64 _
    refine fixR (y := ((x.2 - y.1 : Nat) : Int)) (by omega) ?_
    refine zS [(50, .agg #[.int .u64 ((x.1 - y.2 : Nat) : Int), .int .u64 ((x.2 - y.1 : Nat) : Int)])] ?_
    refine st (by rfl) (S_storeA (b := w5.heap.size) (j := 0) (cs := [.int .u64 ((x.1 - y.2 : Nat) : Int), .int .u64 ((x.2 - y.1 : Nat) : Int)]) (by kernel_rfl) (by kernel_rfl) (by kernel_rfl) (by simp [oneV]) hB14 (by simp) fun w38 hT39 hs40 hB14' => ?_)
    have hT0 := (hT0).then hT39 (fun c e => by have : c = w5.heap.size := e; omega)
    have hB4 := hB4.tch hT39 (fun e => by have : w.heap.size = w5.heap.size := e; omega)
    have hB8 := hB8.tch hT39 (fun e => by have : w1.heap.size = w5.heap.size := e; omega)
    replace hB14 : Blk w38 w5.heap.size 117 [.int .u64 ((x.1 - y.2 : Nat) : Int), .int .u64 ((x.2 - y.1 : Nat) : Int)] := hB14'
    refine op_nil ?_
    refine W_ret ?_
    refine ⟨_, Res_cell (b := w5.heap.size) (cs := [.int .u64 ((x.1 - y.2 : Nat) : Int), .int .u64 ((x.2 - y.1 : Nat) : Int)]) (by rfl) (by kernel_rfl) (by kernel_rfl) hB14 (by kernel_rfl) (by kernel_rfl), ?_⟩
    have e : rbin O wd x y = (x.1 - y.2, x.2 - y.1) := by unfold rbin; (repeat (first | rw [if_pos (by omega)] | rw [if_neg (by omega)] | rw [if_neg (mul_full (by omega))]))
    rw [e]
    exact ⟨rfl, hT0⟩
   ·
    replace hc35 : ((x.1 : Nat) : Int) < ((y.2 : Nat) : Int) := (Int.not_le.1 (of_decide_eq_false hc35))
    refine W_skip ?_
    refine zQ ?_
    refine zS [(92, .int .i64 ((wd : Nat) : Int))] ?_
    refine zC (rall_ok wd _ (by omega)) ?_
    rintro _ w41 ⟨rfl, hT42⟩
    have hT0 := hT0.t0 hT42
    have hB4 := hB4.tch0 hT42
    have hB8 := hB8.tch0 hT42
    have hB14 := hB14.tch0 hT42
    refine st (by rfl) (S_storeA (b := w5.heap.size) (j := 0) (cs := [.int .u64 (((rall wd).1 : Nat) : Int), .int .u64 (((rall wd).2 : Nat) : Int)]) (by kernel_rfl) (by kernel_rfl) (by kernel_rfl) (by simp [oneV]) hB14 (by simp) fun w43 hT44 hs45 hB14' => ?_)
    have hT0 := (hT0).then hT44 (fun c e => by have : c = w5.heap.size := e; omega)
    have hB4 := hB4.tch hT44 (fun e => by have : w.heap.size = w5.heap.size := e; omega)
    have hB8 := hB8.tch hT44 (fun e => by have : w1.heap.size = w5.heap.size := e; omega)
    replace hB14 : Blk w43 w5.heap.size 117 [.int .u64 (((rall wd).1 : Nat) : Int), .int .u64 (((rall wd).2 : Nat) : Int)] := hB14'
    refine op_nil ?_
    refine W_ret ?_
    refine ⟨_, Res_cell (b := w5.heap.size) (cs := [.int .u64 (((rall wd).1 : Nat) : Int), .int .u64 (((rall wd).2 : Nat) : Int)]) (by rfl) (by kernel_rfl) (by kernel_rfl) hB14 (by kernel_rfl) (by kernel_rfl), ?_⟩
    have e : rbin O wd x y = rall wd := by unfold rbin; (repeat (first | rw [if_pos (by omega)] | rw [if_neg (by omega)] | rw [if_neg (mul_full (by omega))]))
    rw [e]
    exact ⟨rfl, hT0⟩
  ·
   replace hc34 : ((O : Nat) : Int) ≠ 2 := (ne_of_beq_false hc34)
   refine zQ ?_
   refine zS [(52, .bool (((O : Nat) : Int) == 3)), (51, .bool (((O : Nat) : Int) == 3))] ?_
   refine zO (((O : Nat) : Int) == 3) (fun hc46 => ?_) (fun hc46 => ?_)
   ·
    replace hc46 : ((O : Nat) : Int) = 3 := (eq_of_beq hc46)
    refine W_seq ?_
    refine W_draw (fun w' => Blk w' (w.heap.size) 117 [.int .u64 ((x.1 : Nat) : Int), .int .u64 ((x.2 : Nat) : Int)] ∧ Blk w' (w1.heap.size) 117 [.int .u64 ((y.1 : Nat) : Int), .int .u64 ((y.2 : Nat) : Int)]) (by kernel_rfl) (by kernel_rfl) (by kernel_rfl) fun w47 hT48 hh49 => ?_
    have hT0 := hT0.t0 hT48
    have hB4 := hB4.tch0 hT48
    have hB8 := hB8.tch0 hT48
    have hB14 := hB14.tch0 hT48
    refine zK [0] #[true, false, false, false, false, false, false, false, false, false, false, false] [(53, .pointer (some ⟨w1.heap.size, 1, none⟩))] ⟨hB4, hB8⟩ ?_
    refine zV 1 rfl (.int .u64 ((y.2 : Nat) : Int)) (fun _ ⟨hB4, hB8⟩ => R_load (v := .int .u64 ((y.2 : Nat) : Int)) (by kernel_rfl) (by kernel_rfl) ((hB8.cell 1).trans rfl)) ⟨hB4, hB8⟩ ?_
    refine zK [2, 3] #[true, true, true, true, false, false, false, false, false, false, false, false] [(55, .bool (((y.2 : Nat) : Int) == 0)), (56, .bool (((y.2 : Nat) : Int) == 0))] ⟨hB4, hB8⟩ ?_
    cases hb50 : ((y.2 : Nat) : Int) == 0
    ·
     replace hb50 : ((y.2 : Nat) : Int) ≠ 0 := (ne_of_beq_false hb50)
     refine zK [4, 6, 7] #[true, true, true, true, true, false, true, true, false, false, false, false] [(57, .pointer (some ⟨w.heap.size, 1, none⟩)), (59, .int .u64 ((pw wd - 1 : Nat) : Int)), (60, .pointer (some ⟨w1.heap.size, 1, none⟩))] ⟨hB4, hB8⟩ ?_
     refine zV 5 rfl (.int .u64 ((x.2 : Nat) : Int)) (fun _ ⟨hB4, hB8⟩ => R_load (v := .int .u64 ((x.2 : Nat) : Int)) (by kernel_rfl) (by kernel_rfl) ((hB4.cell 1).trans rfl)) ⟨hB4, hB8⟩ ?_
     refine zV 8 rfl (.int .u64 ((y.2 : Nat) : Int)) (fun _ ⟨hB4, hB8⟩ => R_load (v := .int .u64 ((y.2 : Nat) : Int)) (by kernel_rfl) (by kernel_rfl) ((hB8.cell 1).trans rfl)) ⟨hB4, hB8⟩ ?_
     refine zV 9 rfl (.int .u64 (((pw wd - 1) / y.2 : Nat) : Int)) (fun _ ⟨hB4, hB8⟩ => R_quoN (by kernel_rfl) (by kernel_rfl) (by omega) hu20) ⟨hB4, hB8⟩ ?_
     have hu51 : (pw wd - 1) / y.2 < 18446744073709551616 := div_lt64 hu20
     refine zK [10, 11] #[true, true, true, true, true, true, true, true, true, true, true, true] [(63, .bool (decide (((x.2 : Nat) : Int) ≤ (((pw wd - 1) / y.2 : Nat) : Int)))), (64, .bool (decide (((x.2 : Nat) : Int) ≤ (((pw wd - 1) / y.2 : Nat) : Int))))] ⟨hB4, hB8⟩ ?_
     refine d_done (by kernel_rfl) ?_
     refine zW (decide (((x.2 : Nat) : Int) ≤ (((pw wd - 1) / y.2 : Nat) : Int))) (fun hc52 => ?_) (fun hc52 => ?_)
     ·
      replace hc52 : ((x.2 : Nat) : Int) ≤ (((pw wd - 1) / y.2 : Nat) : Int) := (of_decide_eq_true hc52)
      refine W_seq ?_
      have hmul : x.2 * y.2 ≤ pw wd - 1 := mul_room (by omega)
      refine zR ?_
      refine zS [(65, .pointer (some ⟨w.heap.size, 0, none⟩))] ?_
      refine zL (.int .u64 ((x.1 : Nat) : Int)) ((hB4.cell 0).trans rfl) ?_
      refine zS [(67, .pointer (some ⟨w1.heap.size, 0, none⟩))] ?_
      refine zL (.int .u64 ((y.1 : Nat) : Int)) ((hB8.cell 0).trans rfl) ?_
      refine zS [(69, .int .u64 (IntKind.u64.wrap (((x.1 : Nat) : Int) * ((y.1 : Nat) : Int))))] ?_
      rw [show IntKind.u64.wrap (((x.1 : Nat) : Int) * ((y.1 : Nat) : Int)) = ((x.1 * y.1 % 18446744073709551616 : Nat) : Int) from u64_mul x.1 y.1]
      have hu53 : x.1 * y.1 % 18446744073709551616 < 18446744073709551616 := mod_lt64 _
      refine fixR (y := ((x.1 * y.1 : Nat) : Int)) (by omega) ?_
      refine zS [(70, .pointer (some ⟨w.heap.size, 1, none⟩))] ?_
      refine zL (.int .u64 ((x.2 : Nat) : Int)) ((hB4.cell 1).trans rfl) ?_
      refine zS [(72, .pointer (some ⟨w1.heap.size, 1, none⟩))] ?_
      refine zL (.int .u64 ((y.2 : Nat) : Int)) ((hB8.cell 1).trans rfl) ?_
      refine zS [(74, .int .u64 (IntKind.u64.wrap (((x.2 : Nat) : Int) * ((y.2 : Nat) : Int))))] ?_
      rw [show IntKind.u64.wrap (((x.2 : Nat) : Int) * ((y.2 : Nat) : Int)) = ((x.2 * y.2 % 18446744073709551616 : Nat) : Int) from u64_mul x.2 y.2]
      have hu54 : x.2 * y.2 % 18446744073709551616 < 18446744073709551616 := mod_lt64 _
      refine fixR (y := ((x.2 * y.2 : Nat) : Int)) (by omega) ?_
      refine zS [(75, .agg #[.int .u64 ((x.1 * y.1 : Nat) : Int), .int .u64 ((x.2 * y.2 : Nat) : Int)])] ?_
      refine st (by rfl) (S_storeA (b := w5.heap.size) (j := 0) (cs := [.int .u64 ((x.1 * y.1 : Nat) : Int), .int .u64 ((x.2 * y.2 : Nat) : Int)]) (by kernel_rfl) (by kernel_rfl) (by kernel_rfl) (by simp [oneV]) hB14 (by simp) fun w55 hT56 hs57 hB14' => ?_)
      have hT0 := (hT0).then hT56 (fun c e => by have : c = w5.heap.size := e; omega)
      have hB4 := hB4.tch hT56 (fun e => by have : w.heap.size = w5.heap.size := e; omega)
      have hB8 := hB8.tch hT56 (fun e => by have : w1.heap.size = w5.heap.size := e; omega)
      replace hB14 : Blk w55 w5.heap.size 117 [.int .u64 ((x.1 * y.1 : Nat) : Int), .int .u64 ((x.2 * y.2 : Nat) : Int)] := hB14'
      refine op_nil ?_
      refine W_ret ?_
      refine ⟨_, Res_cell (b := w5.heap.size) (cs := [.int .u64 ((x.1 * y.1 : Nat) : Int), .int .u64 ((x.2 * y.2 : Nat) : Int)]) (by rfl) (by kernel_rfl) (by kernel_rfl) hB14 (by kernel_rfl) (by kernel_rfl), ?_⟩
      have e : rbin O wd x y = (x.1 * y.1, x.2 * y.2) := by unfold rbin; (repeat (first | rw [if_pos (by omega)] | rw [if_neg (by omega)] | rw [if_neg (mul_full (by omega))]))
      rw [e]
      exact ⟨rfl, hT0⟩
     ·
      replace hc52 : (((pw wd - 1) / y.2 : Nat) : Int) < ((x.2 : Nat) : Int) := (Int.not_le.1 (of_decide_eq_false hc52))
      refine W_skip ?_
      refine zQ ?_
      refine zS [(92, .int .i64 ((wd : Nat) : Int))] ?_
      refine zC (rall_ok wd _ (by omega)) ?_
      rintro _ w58 ⟨rfl, hT59⟩
      have hT0 := hT0.t0 hT59
      have hB4 := hB4.tch0 hT59
      have hB8 := hB8.tch0 hT59
      have hB14 := hB14.tch0 hT59
      refine st (by rfl) (S_storeA (b := w5.heap.size) (j := 0) (cs := [.int .u64 (((rall wd).1 : Nat) : Int), .int .u64 (((rall wd).2 : Nat) : Int)]) (by kernel_rfl) (by kernel_rfl) (by kernel_rfl) (by simp [oneV]) hB14 (by simp) fun w60 hT61 hs62 hB14' => ?_)
      have hT0 := (hT0).then hT61 (fun c e => by have : c = w5.heap.size := e; omega)
      have hB4 := hB4.tch hT61 (fun e => by have : w.heap.size = w5.heap.size := e; omega)
      have hB8 := hB8.tch hT61 (fun e => by have : w1.heap.size = w5.heap.size := e; omega)
      replace hB14 : Blk w60 w5.heap.size 117 [.int .u64 (((rall wd).1 : Nat) : Int), .int .u64 (((rall wd).2 : Nat) : Int)] := hB14'
      refine op_nil ?_
      refine W_ret ?_
      refine ⟨_, Res_cell (b := w5.heap.size) (cs := [.int .u64 (((rall wd).1 : Nat) : Int), .int .u64 (((rall wd).2 : Nat) : Int)]) (by rfl) (by kernel_rfl) (by kernel_rfl) hB14 (by kernel_rfl) (by kernel_rfl), ?_⟩
      have e : rbin O wd x y = rall wd := by unfold rbin; (repeat (first | rw [if_pos (by omega)] | rw [if_neg (by omega)] | rw [if_neg (mul_full (by omega))]))
      rw [e]
      exact ⟨rfl, hT0⟩
    ·
     replace hb50 : ((y.2 : Nat) : Int) = 0 := (eq_of_beq hb50)
     refine zK [4, 6, 7, 5, 8, 9, 10, 11] #[true, true, true, true, true, true, true, true, true, true, true, true] [(57, undef), (59, undef), (60, undef), (58, undef), (61, undef), (62, undef), (63, undef), (64, .bool true)] ⟨hB4, hB8⟩ ?_
     refine d_done (by kernel_rfl) ?_
     refine zW true (fun _ => ?_) (fun h => nomatch h)
     refine W_seq ?_
     have hmul : x.2 * y.2 ≤ pw wd - 1 := mul_room (by omega)
     refine zR ?_
     refine zS [(65, .pointer (some ⟨w.heap.size, 0, none⟩))] ?_
     refine zL (.int .u64 ((x.1 : Nat) : Int)) ((hB4.cell 0).trans rfl) ?_
     refine zS [(67, .pointer (some ⟨w1.heap.size, 0, none⟩))] ?_
     refine zL (.int .u64 ((y.1 : Nat) : Int)) ((hB8.cell 0).trans rfl) ?_
     refine zS [(69, .int .u64 (IntKind.u64.wrap (((x.1 : Nat) : Int) * ((y.1 : Nat) : Int))))] ?_
     rw [show IntKind.u64.wrap (((x.1 : Nat) : Int) * ((y.1 : Nat) : Int)) = ((x.1 * y.1 % 18446744073709551616 : Nat) : Int) from u64_mul x.1 y.1]
     have hu63 : x.1 * y.1 % 18446744073709551616 < 18446744073709551616 := mod_lt64 _
     refine fixR (y := ((x.1 * y.1 : Nat) : Int)) (by omega) ?_
     refine zS [(70, .pointer (some ⟨w.heap.size, 1, none⟩))] ?_
     refine zL (.int .u64 ((x.2 : Nat) : Int)) ((hB4.cell 1).trans rfl) ?_
     refine zS [(72, .pointer (some ⟨w1.heap.size, 1, none⟩))] ?_
     refine zL (.int .u64 ((y.2 : Nat) : Int)) ((hB8.cell 1).trans rfl) ?_
     refine zS [(74, .int .u64 (IntKind.u64.wrap (((x.2 : Nat) : Int) * ((y.2 : Nat) : Int))))] ?_
     rw [show IntKind.u64.wrap (((x.2 : Nat) : Int) * ((y.2 : Nat) : Int)) = ((x.2 * y.2 % 18446744073709551616 : Nat) : Int) from u64_mul x.2 y.2]
     have hu64 : x.2 * y.2 % 18446744073709551616 < 18446744073709551616 := mod_lt64 _
     refine fixR (y := ((x.2 * y.2 : Nat) : Int)) (by omega) ?_
     refine zS [(75, .agg #[.int .u64 ((x.1 * y.1 : Nat) : Int), .int .u64 ((x.2 * y.2 : Nat) : Int)])] ?_
     refine st (by rfl) (S_storeA (b := w5.heap.size) (j := 0) (cs := [.int .u64 ((x.1 * y.1 : Nat) : Int), .int .u64 ((x.2 * y.2 : Nat) : Int)]) (by kernel_rfl) (by kernel_rfl) (by kernel_rfl) (by simp [oneV]) hB14 (by simp) fun w65 hT66 hs67 hB14' => ?_)
     have hT0 := (hT0).then hT66 (fun c e => by have : c = w5.heap.size := e; omega)
     have hB4 := hB4.tch hT66 (fun e => by have : w.heap.size = w5.heap.size := e; omega)
     have hB8 := hB8.tch hT66 (fun e => by have : w1.heap.size = w5.heap.size := e; omega)
     replace hB14 : Blk w65 w5.heap.size 117 [.int .u64 ((x.1 * y.1 : Nat) : Int), .int .u64 ((x.2 * y.2 : Nat) : Int)] := hB14'
     refine op_nil ?_
     refine W_ret ?_
     refine ⟨_, Res_cell (b := w5.heap.size) (cs := [.int .u64 ((x.1 * y.1 : Nat) : Int), .int .u64 ((x.2 * y.2 : Nat) : Int)]) (by rfl) (by kernel_rfl) (by kernel_rfl) hB14 (by kernel_rfl) (by kernel_rfl), ?_⟩
     have e : rbin O wd x y = (x.1 * y.1, x.2 * y.2) := by unfold rbin; (repeat (first | rw [if_pos (by omega)] | rw [if_neg (by omega)] | rw [if_neg (mul_full (by omega))]))
     rw [e]
     exact ⟨rfl, hT0⟩
   ·
    replace hc46 : ((O : Nat) : Int) ≠ 3 := (ne_of_beq_false hc46)
    refine zQ ?_
    refine zS [(77, .bool (((O : Nat) : Int) == 4)), (76, .bool (((O : Nat) : Int) == 4))] ?_
    refine zO (((O : Nat) : Int) == 4) (fun hc68 => ?_) (fun hc68 => ?_)
    ·
     replace hc68 : ((O : Nat) : Int) = 4 := (eq_of_beq hc68)
     refine zQ ?_
     refine zS [(78, .pointer (some ⟨w1.heap.size, 0, none⟩))] ?_
     refine zL (.int .u64 ((y.1 : Nat) : Int)) ((hB8.cell 0).trans rfl) ?_
     refine zS [(80, .bool (((y.1 : Nat) : Int) != 0))] ?_
     refine zO (((y.1 : Nat) : Int) != 0) (fun hc69 => ?_) (fun hc69 => ?_)
     ·
      replace hc69 : ((y.1 : Nat) : Int) ≠ 0 := (bne_iff_ne.1 hc69)
      refine W_seq ?_
      refine W_draw (fun w' => Blk w' (w.heap.size) 117 [.int .u64 ((x.1 : Nat) : Int), .int .u64 ((x.2 : Nat) : Int)] ∧ Blk w' (w1.heap.size) 117 [.int .u64 ((y.1 : Nat) : Int), .int .u64 ((y.2 : Nat) : Int)]) (by kernel_rfl) (by kernel_rfl) (by kernel_rfl) fun w70 hT71 hh72 => ?_
      have hT0 := hT0.t0 hT71
      have hB4 := hB4.tch0 hT71
      have hB8 := hB8.tch0 hT71
      have hB14 := hB14.tch0 hT71
      refine zK [0, 2, 5, 7] #[true, false, true, false, false, true, false, true, false, false, false, false] [(81, .pointer (some ⟨w.heap.size, 0, none⟩)), (83, .pointer (some ⟨w1.heap.size, 1, none⟩)), (86, .pointer (some ⟨w.heap.size, 1, none⟩)), (88, .pointer (some ⟨w1.heap.size, 0, none⟩))] ⟨hB4, hB8⟩ ?_
      refine zV 1 rfl (.int .u64 ((x.1 : Nat) : Int)) (fun _ ⟨hB4, hB8⟩ => R_load (v := .int .u64 ((x.1 : Nat) : Int)) (by kernel_rfl) (by kernel_rfl) ((hB4.cell 0).trans rfl)) ⟨hB4, hB8⟩ ?_
      refine zV 3 rfl (.int .u64 ((y.2 : Nat) : Int)) (fun _ ⟨hB4, hB8⟩ => R_load (v := .int .u64 ((y.2 : Nat) : Int)) (by kernel_rfl) (by kernel_rfl) ((hB8.cell 1).trans rfl)) ⟨hB4, hB8⟩ ?_
      refine zV 4 rfl (.int .u64 ((x.1 / y.2 : Nat) : Int)) (fun _ ⟨hB4, hB8⟩ => R_quoN (by kernel_rfl) (by kernel_rfl) (by omega) ux1) ⟨hB4, hB8⟩ ?_
      have hu73 : x.1 / y.2 < 18446744073709551616 := div_lt64 ux1
      refine zV 6 rfl (.int .u64 ((x.2 : Nat) : Int)) (fun _ ⟨hB4, hB8⟩ => R_load (v := .int .u64 ((x.2 : Nat) : Int)) (by kernel_rfl) (by kernel_rfl) ((hB4.cell 1).trans rfl)) ⟨hB4, hB8⟩ ?_
      refine zV 8 rfl (.int .u64 ((y.1 : Nat) : Int)) (fun _ ⟨hB4, hB8⟩ => R_load (v := .int .u64 ((y.1 : Nat) : Int)) (by kernel_rfl) (by kernel_rfl) ((hB8.cell 0).trans rfl)) ⟨hB4, hB8⟩ ?_
      refine zV 9 rfl (.int .u64 ((x.2 / y.1 : Nat) : Int)) (fun _ ⟨hB4, hB8⟩ => R_quoN (by kernel_rfl) (by kernel_rfl) (by omega) ux2) ⟨hB4, hB8⟩ ?_
      have hu74 : x.2 / y.1 < 18446744073709551616 := div_lt64 ux2
      refine zK [10] #[true, true, true, true, true, true, true, true, true, true, true, false] [(91, .agg #[.int .u64 ((x.1 / y.2 : Nat) : Int), .int .u64 ((x.2 / y.1 : Nat) : Int)])] ⟨hB4, hB8⟩ ?_
      refine zD 11 rfl (S_storeA (b := w5.heap.size) (j := 0) (cs := [.int .u64 ((x.1 / y.2 : Nat) : Int), .int .u64 ((x.2 / y.1 : Nat) : Int)]) (by kernel_rfl) (by kernel_rfl) (by kernel_rfl) (by simp [oneV]) hB14 (by simp) fun w75 hT76 hs77 hB14' => ?_)
      have hT0 := (hT0).then hT76 (fun c e => by have : c = w5.heap.size := e; omega)
      have hB4 := hB4.tch hT76 (fun e => by have : w.heap.size = w5.heap.size := e; omega)
      have hB8 := hB8.tch hT76 (fun e => by have : w1.heap.size = w5.heap.size := e; omega)
      replace hB14 : Blk w75 w5.heap.size 117 [.int .u64 ((x.1 / y.2 : Nat) : Int), .int .u64 ((x.2 / y.1 : Nat) : Int)] := hB14'
      refine ⟨⟨hB4, hB8⟩, ?_⟩
      refine d_done (by kernel_rfl) ?_
      refine W_ret ?_
      refine ⟨_, Res_cell (b := w5.heap.size) (cs := [.int .u64 ((x.1 / y.2 : Nat) : Int), .int .u64 ((x.2 / y.1 : Nat) : Int)]) (by rfl) (by kernel_rfl) (by kernel_rfl) hB14 (by kernel_rfl) (by kernel_rfl), ?_⟩
      have e : rbin O wd x y = (x.1 / y.2, x.2 / y.1) := by unfold rbin; (repeat (first | rw [if_pos (by omega)] | rw [if_neg (by omega)] | rw [if_neg (mul_full (by omega))]))
      rw [e]
      exact ⟨rfl, hT0⟩
     ·
      replace hc69 : ((y.1 : Nat) : Int) = 0 := (bne_eq_false_iff_eq.1 hc69)
      refine W_skip ?_
      refine zQ ?_
      refine zS [(92, .int .i64 ((wd : Nat) : Int))] ?_
      refine zC (rall_ok wd _ (by omega)) ?_
      rintro _ w78 ⟨rfl, hT79⟩
      have hT0 := hT0.t0 hT79
      have hB4 := hB4.tch0 hT79
      have hB8 := hB8.tch0 hT79
      have hB14 := hB14.tch0 hT79
      refine st (by rfl) (S_storeA (b := w5.heap.size) (j := 0) (cs := [.int .u64 (((rall wd).1 : Nat) : Int), .int .u64 (((rall wd).2 : Nat) : Int)]) (by kernel_rfl) (by kernel_rfl) (by kernel_rfl) (by simp [oneV]) hB14 (by simp) fun w80 hT81 hs82 hB14' => ?_)
      have hT0 := (hT0).then hT81 (fun c e => by have : c = w5.heap.size := e; omega)
      have hB4 := hB4.tch hT81 (fun e => by have : w.heap.size = w5.heap.size := e; omega)
      have hB8 := hB8.tch hT81 (fun e => by have : w1.heap.size = w5.heap.size := e; omega)
      replace hB14 : Blk w80 w5.heap.size 117 [.int .u64 (((rall wd).1 : Nat) : Int), .int .u64 (((rall wd).2 : Nat) : Int)] := hB14'
      refine op_nil ?_
      refine W_ret ?_
      refine ⟨_, Res_cell (b := w5.heap.size) (cs := [.int .u64 (((rall wd).1 : Nat) : Int), .int .u64 (((rall wd).2 : Nat) : Int)]) (by rfl) (by kernel_rfl) (by kernel_rfl) hB14 (by kernel_rfl) (by kernel_rfl), ?_⟩
      have e : rbin O wd x y = rall wd := by unfold rbin; (repeat (first | rw [if_pos (by omega)] | rw [if_neg (by omega)] | rw [if_neg (mul_full (by omega))]))
      rw [e]
      exact ⟨rfl, hT0⟩
    ·
     replace hc68 : ((O : Nat) : Int) ≠ 4 := (ne_of_beq_false hc68)
     refine W_skip ?_
     refine zQ ?_
     refine zS [(92, .int .i64 ((wd : Nat) : Int))] ?_
     refine zC (rall_ok wd _ (by omega)) ?_
     rintro _ w83 ⟨rfl, hT84⟩
     have hT0 := hT0.t0 hT84
     have hB4 := hB4.tch0 hT84
     have hB8 := hB8.tch0 hT84
     have hB14 := hB14.tch0 hT84
     refine st (by rfl) (S_storeA (b := w5.heap.size) (j := 0) (cs := [.int .u64 (((rall wd).1 : Nat) : Int), .int .u64 (((rall wd).2 : Nat) : Int)]) (by kernel_rfl) (by kernel_rfl) (by kernel_rfl) (by simp [oneV]) hB14 (by simp) fun w85 hT86 hs87 hB14' => ?_)
     have hT0 := (hT0).then hT86 (fun c e => by have : c = w5.heap.size := e; omega)
     have hB4 := hB4.tch hT86 (fun e => by have : w.heap.size = w5.heap.size := e; omega)
     have hB8 := hB8.tch hT86 (fun e => by have : w1.heap.size = w5.heap.size := e; omega)
     replace hB14 : Blk w85 w5.heap.size 117 [.int .u64 (((rall wd).1 : Nat) : Int), .int .u64 (((rall wd).2 : Nat) : Int)] := hB14'
     refine op_nil ?_
     refine W_ret ?_
     refine ⟨_, Res_cell (b := w5.heap.size) (cs := [.int .u64 (((rall wd).1 : Nat) : Int), .int .u64 (((rall wd).2 : Nat) : Int)]) (by rfl) (by kernel_rfl) (by kernel_rfl) hB14 (by kernel_rfl) (by kernel_rfl), ?_⟩
     have e : rbin O wd x y = rall wd := by unfold rbin; (repeat (first | rw [if_pos (by omega)] | rw [if_neg (by omega)] | rw [if_neg (mul_full (by omega))]))
     rw [e]
     exact ⟨rfl, hT0⟩

end Go.Proofs.YtlbadnpgmkobdaaV

set_option linter.unusedVariables false
set_option linter.unusedSimpArgs false
namespace Go.Proofs.YtlbadnpgmkobdaaV
open Go Go.RowKit Go.Proofs

set_option maxRecDepth 100000 in
set_option maxHeartbeats 2000000 in
theorem sbin_ok (O wd : Nat) (x y : K) (w : World) (hx : RI wd x) (hy : RI wd y) (h1 : 1 ≤ wd) (hw : wd ≤ 64) (hO : 1 ≤ O ∧ O ≤ 14) : Ret Try.prog 93 [.int .i64 ((O : Nat) : Int), .int .i64 ((wd : Nat) : Int), .agg #[.int .u64 ((x.1 : Nat) : Int), .int .u64 ((x.2 : Nat) : Int)], .agg #[.int .u64 ((y.1 : Nat) : Int), .int .u64 ((y.2 : Nat) : Int)]] w fun v w' => v = .agg #[.int .u64 (((rbin O wd x y).1 : Nat) : Int), .int .u64 (((rbin O wd x y).2 : Nat) : Int)] ∧ Tch N0 w w' := by
 have hp := pw_pos wd
 have hp64 := pw64 hw
 have ux1 := hx.u1 hw
 have ux2 := hx.u2 hw
 have uy1 := hy.u1 hw
 have uy2 := hy.u2 hw
 have hx1 := hx.1
 have hx2 := hx.2
 have hy1 := hy.1
 have hy2 := hy.2
 have hm1 := Nat.mul_le_mul hx1 hy1
 refine enter Try.func93 rfl rfl ?_
 refine zQ ?_
 refine st (by rfl) (S_new (v := .pointer (some ⟨w.heap.size, 0, none⟩)) (ob := .cells #[.int .u64 ((x.1 : Nat) : Int), .int .u64 ((x.2 : Nat) : Int)] 117) (by kernel_rfl) fun w1 hT2 hs3 hB4 => ?_)
 replace hB4 : Blk w1 (w.heap.size) 117 [.int .u64 ((x.1 : Nat) : Int), .int .u64 ((x.2 : Nat) : Int)] := hB4
 have hT0 := hT2
 have z9 := hT0.size
 have l10 := hB4.lt
 refine st (by rfl) (S_new (v := .pointer (some ⟨w1.heap.size, 0, none⟩)) (ob := .cells #[.int .u64 ((y.1 : Nat) : Int), .int .u64 ((y.2 : Nat) : Int)] 117) (by kernel_rfl) fun w5 hT6 hs7 hB8 => ?_)
 replace hB8 : Blk w5 (w1.heap.size) 117 [.int .u64 ((y.1 : Nat) : Int), .int .u64 ((y.2 : Nat) : Int)] := hB8
 have hT0 := hT0.t0 hT6
 have hB4 := hB4.tch0 hT6
 have z15 := hT0.size
 have l16 := hB4.lt
 have l17 := hB8.lt
 refine st (by rfl) (S_new (v := .pointer (some ⟨w5.heap.size, 0, none⟩)) (ob := .cells #[.int .u64 0, .int .u64 0] 117) (by kernel_rfl) fun w11 hT12 hs13 hB14 => ?_)
 replace hB14 : Blk w11 (w5.heap.size) 117 [.int .u64 0, .int .u64 0] := hB14
 have hT0 := hT0.t0 hT12
 have hB4 := hB4.tch0 hT12
 have hB8 := hB8.tch0 hT12
 refine op_nil ?_
 refine W_seq ?_
 refine zQ ?_
 refine zS [(9, .int .i64 ((O : Nat) : Int))] ?_
 refine op_nil ?_
 refine W_block ?_
 refine zQ ?_
 refine zS [(11, .bool (((O : Nat) : Int) == 5)), (10, .bool (((O : Nat) : Int) == 5))] ?_
 refine zO (((O : Nat) : Int) == 5) (fun hc18 => ?_) (fun hc18 => ?_)
 ·
  replace hc18 : ((O : Nat) : Int) = 5 := (eq_of_beq hc18)
  refine W_seq ?_
  refine zQ ?_
  refine zS [(12, .pointer (some ⟨w1.heap.size, 0, none⟩))] ?_
  refine zL (.int .u64 ((y.1 : Nat) : Int)) ((hB8.cell 0).trans rfl) ?_
  refine zS [(14, .bool (((y.1 : Nat) : Int) != 0))] ?_
  refine zO (((y.1 : Nat) : Int) != 0) (fun hc19 => ?_) (fun hc19 => ?_)
  ·
   replace hc19 : ((y.1 : Nat) : Int) ≠ 0 := (bne_iff_ne.1 hc19)
   refine zQ ?_
   refine zS [(15, .pointer (some ⟨w.heap.size, 1, none⟩))] ?_
   refine zL (.int .u64 ((x.2 : Nat) : Int)) ((hB4.cell 1).trans rfl) ?_
   refine zS [(17, .pointer (some ⟨w1.heap.size, 1, none⟩))] ?_
   refine zL (.int .u64 ((y.2 : Nat) : Int)) ((hB8.cell 1).trans rfl) ?_
   refine zS [(19, .int .u64 (IntKind.u64.wrap (((y.2 : Nat) : Int) - 1)))] ?_
   rw [show IntKind.u64.wrap (((y.2 : Nat) : Int) - 1) = (((y.2 + (18446744073709551616 - 1)) % 18446744073709551616 : Nat) : Int) from u64_sub y.2 1 uy2 (by omega)]
   have hu20 : (y.2 + (18446744073709551616 - 1)) % 18446744073709551616 < 18446744073709551616 := mod_lt64 _
   refine fixR (y := ((y.2 - 1 : Nat) : Int)) (by omega) ?_
   refine zS [(20, .int .u64 (if ((y.2 - 1 : Nat) : Int) < ((x.2 : Nat) : Int) then ((y.2 - 1 : Nat) : Int) else ((x.2 : Nat) : Int)))] ?_
   rw [show (if ((y.2 - 1 : Nat) : Int) < ((x.2 : Nat) : Int) then ((y.2 - 1 : Nat) : Int) else ((x.2 : Nat) : Int)) = ((min x.2 (y.2 - 1) : Nat) : Int) from min_u x.2 (y.2 - 1)]
   have hu21 : min x.2 (y.2 - 1) < 18446744073709551616 := min_lt64 ux2
   refine zS [(21, .agg #[.int .u64 0, .int .u64 ((min x.2 (y.2 - 1) : Nat) : Int)])] ?_
   refine st (by rfl) (S_storeA (b := w5.heap.size) (j := 0) (cs := [.int .u64 0, .int .u64 ((min x.2 (y.2 - 1) : Nat) : Int)]) (by kernel_rfl) (by kernel_rfl) (by kernel_rfl) (by simp [oneV]) hB14 (by simp) fun w22 hT23 hs24 hB14' => ?_)
   have hT0 := (hT0).then hT23 (fun c e => by have : c = w5.heap.size := e; omega)
   have hB4 := hB4.tch hT23 (fun e => by have : w.heap.size = w5.heap.size := e; omega)
   have hB8 := hB8.tch hT23 (fun e => by have : w1.heap.size = w5.heap.size := e; omega)
   replace hB14 : Blk w22 w5.heap.size 117 [.int .u64 0, .int .u64 ((min x.2 (y.2 - 1) : Nat) : Int)] := hB14'
   refine op_nil ?_
   refine W_ret ?_
   refine ⟨_, Res_cell (b := w5.heap.size) (cs := [.int .u64 0, .int .u64 ((min x.2 (y.2 - 1) : Nat) : Int)]) (by rfl) (by kernel_rfl) (by kernel_rfl) hB14 (by kernel_rfl) (by kernel_rfl), ?_⟩
   have e : rbin O wd x y = (0, min x.2 (y.2 - 1)) := by unfold rbin; (repeat (first | rw [if_pos (by omega)] | rw [if_neg (by omega)]))
   rw [e]
   exact ⟨rfl, hT0⟩
  ·
   replace hc19 : ((y.1 : Nat) : Int) = 0 := (bne_eq_false_iff_eq.1 hc19)
   refine W_skip ?_
   refine zQ ?_
   refine zS [(22, .pointer (some ⟨w.heap.size, 1, none⟩))] ?_
   refine zL (.int .u64 ((x.2 : Nat) : Int)) ((hB4.cell 1).trans rfl) ?_
   refine zS [(24, .agg #[.int .u64 0, .int .u64 ((x.2 : Nat) : Int)])] ?_
   refine st (by rfl) (S_storeA (b := w5.heap.size) (j := 0) (cs := [.int .u64 0, .int .u64 ((x.2 : Nat) : Int)]) (by kernel_rfl) (by kernel_rfl) (by kernel_rfl) (by simp [oneV]) hB14 (by simp) fun w25 hT26 hs27 hB14' => ?_)
   have hT0 := (hT0).then hT26 (fun c e => by have : c = w5.heap.size := e; omega)
   have hB4 := hB4.tch hT26 (fun e => by have : w.heap.size = w5.heap.size := e; omega)
   have hB8 := hB8.tch hT26 (fun e => by have : w1.heap.size = w5.heap.size := e; omega)
   replace hB14 : Blk w25 w5.heap.size 117 [.int .u64 0, .int .u64 ((x.2 : Nat) : Int)] := hB14'
   refine op_nil ?_
   refine W_ret ?_
   refine ⟨_, Res_cell (b := w5.heap.size) (cs := [.int .u64 0, .int .u64 ((x.2 : Nat) : Int)]) (by rfl) (by kernel_rfl) (by kernel_rfl) hB14 (by kernel_rfl) (by kernel_rfl), ?_⟩
   have e : rbin O wd x y = (0, x.2) := by unfold rbin; (repeat (first | rw [if_pos (by omega)] | rw [if_neg (by omega)]))
   rw [e]
   exact ⟨rfl, hT0⟩
 ·
  replace hc18 : ((O : Nat) : Int) ≠ 5 := (ne_of_beq_false hc18)
  refine zQ ?_
  refine zS [(26, .bool (((O : Nat) : Int) == 6)), (25, .bool (((O : Nat) : Int) == 6))] ?_
  refine zO (((O : Nat) : Int) == 6) (fun hc28 => ?_) (fun hc28 => ?_)
  ·
   replace hc28 : ((O : Nat) : Int) = 6 := (eq_of_beq hc28)
   refine zQ ?_
   refine zS [(27, .pointer (some ⟨w.heap.size, 1, none⟩))] ?_
   refine zL (.int .u64 ((x.2 : Nat) : Int)) ((hB4.cell 1).trans rfl) ?_
   refine zS [(29, .pointer (some ⟨w1.heap.size, 1, none⟩))] ?_
   refine zL (.int .u64 ((y.2 : Nat) : Int)) ((hB8.cell 1).trans rfl) ?_
   refine zS [(31, .int .u64 (if ((y.2 : Nat) : Int) < ((x.2 : Nat) : Int) then ((y.2 : Nat) : Int) else ((x.2 : Nat) : Int)))] ?_
   rw [show (if ((y.2 : Nat) : Int) < ((x.2 : Nat) : Int) then ((y.2 : Nat) : Int) else ((x.2 : Nat) : Int)) = ((min x.2 y.2 : Nat) : Int) from min_u x.2 y.2]
   have hu29 : min x.2 y.2 < 18446744073709551616 := min_lt64 ux2
   refine zS [(32, .agg #[.int .u64 0, .int .u64 ((min x.2 y.2 : Nat) : Int)])] ?_
   refine st (by rfl) (S_storeA (b := w5.heap.size) (j := 0) (cs := [.int .u64 0, .int .u64 ((min x.2 y.2 : Nat) : Int)]) (by kernel_rfl) (by kernel_rfl) (by kernel_rfl) (by simp [oneV]) hB14 (by simp) fun w30 hT31 hs32 hB14' => ?_)
   have hT0 := (hT0).then hT31 (fun c e => by have : c = w5.heap.size := e; omega)
   have hB4 := hB4.tch hT31 (fun e => by have : w.heap.size = w5.heap.size := e; omega)
   have hB8 := hB8.tch hT31 (fun e => by have : w1.heap.size = w5.heap.size := e; omega)
   replace hB14 : Blk w30 w5.heap.size 117 [.int .u64 0, .int .u64 ((min x.2 y.2 : Nat) : Int)] := hB14'
   refine op_nil ?_
   refine W_ret ?_
   refine ⟨_, Res_cell (b := w5.heap.size) (cs := [.int .u64 0, .int .u64 ((min x.2 y.2 : Nat) : Int)]) (by rfl) (by kernel_rfl) (by kernel_rfl) hB14 (by kernel_rfl) (by kernel_rfl), ?_⟩
   have e : rbin O wd x y = (0, min x.2 y.2) := by unfold rbin; (repeat (first | rw [if_pos (by omega)] | rw [if_neg (by omega)]))
   rw [e]
   exact ⟨rfl, hT0⟩
  ·
   replace hc28 : ((O : Nat) : Int) ≠ 6 := (ne_of_beq_false hc28)
   refine zQ ?_
   refine zS [(34, .bool (((O : Nat) : Int) == 7)), (33, .bool (((O : Nat) : Int) == 7))] ?_
   refine zO (((O : Nat) : Int) == 7) (fun hc33 => ?_) (fun hc33 => ?_)
   ·
    replace hc33 : ((O : Nat) : Int) = 7 := (eq_of_beq hc33)
    refine W_seq ?_
    refine W_draw (fun w' => Blk w' (w.heap.size) 117 [.int .u64 ((x.1 : Nat) : Int), .int .u64 ((x.2 : Nat) : Int)] ∧ Blk w' (w1.heap.size) 117 [.int .u64 ((y.1 : Nat) : Int), .int .u64 ((y.2 : Nat) : Int)]) (by kernel_rfl) (by kernel_rfl) (by kernel_rfl) fun w34 hT35 hh36 => ?_
    have hT0 := hT0.t0 hT35
    have hB4 := hB4.tch0 hT35
    have hB8 := hB8.tch0 hT35
    have hB14 := hB14.tch0 hT35
    refine zK [0, 2, 5, 7] #[true, false, true, false, false, true, false, true, false, false, false, false, false] [(35, .pointer (some ⟨w.heap.size, 0, none⟩)), (37, .pointer (some ⟨w1.heap.size, 0, none⟩)), (40, .pointer (some ⟨w.heap.size, 1, none⟩)), (42, .pointer (some ⟨w1.heap.size, 1, none⟩))] ⟨hB4, hB8⟩ ?_
    refine zV 1 rfl (.int .u64 ((x.1 : Nat) : Int)) (fun _ ⟨hB4, hB8⟩ => R_load (v := .int .u64 ((x.1 : Nat) : Int)) (by kernel_rfl) (by kernel_rfl) ((hB4.cell 0).trans rfl)) ⟨hB4, hB8⟩ ?_
    refine zV 3 rfl (.int .u64 ((y.1 : Nat) : Int)) (fun _ ⟨hB4, hB8⟩ => R_load (v := .int .u64 ((y.1 : Nat) : Int)) (by kernel_rfl) (by kernel_rfl) ((hB8.cell 0).trans rfl)) ⟨hB4, hB8⟩ ?_
    refine zK [4] #[true, true, true, true, true, true, false, true, false, false, false, false, false] [(39, .int .u64 (if ((x.1 : Nat) : Int) < ((y.1 : Nat) : Int) then ((y.1 : Nat) : Int) else ((x.1 : Nat) : Int)))] ⟨hB4, hB8⟩ ?_
    rw [show (if ((x.1 : Nat) : Int) < ((y.1 : Nat) : Int) then ((y.1 : Nat) : Int) else ((x.1 : Nat) : Int)) = ((max x.1 y.1 : Nat) : Int) from max_u x.1 y.1]
    have hu37 : max x.1 y.1 < 18446744073709551616 := max_lt64 ux1 uy1
    refine zV 6 rfl (.int .u64 ((x.2 : Nat) : Int)) (fun _ ⟨hB4, hB8⟩ => R_load (v := .int .u64 ((x.2 : Nat) : Int)) (by kernel_rfl) (by kernel_rfl) ((hB4.cell 1).trans rfl)) ⟨hB4, hB8⟩ ?_
    refine zV 8 rfl (.int .u64 ((y.2 : Nat) : Int)) (fun _ ⟨hB4, hB8⟩ => R_load (v := .int .u64 ((y.2 : Nat) : Int)) (by kernel_rfl) (by kernel_rfl) ((hB8.cell 1).trans rfl)) ⟨hB4, hB8⟩ ?_
    refine zK [9] #[true, true, true, true, true, true, true, true, true, true, false, false, false] [(44, .int .u64 (if ((x.2 : Nat) : Int) < ((y.2 : Nat) : Int) then ((y.2 : Nat) : Int) else ((x.2 : Nat) : Int)))] ⟨hB4, hB8⟩ ?_
    rw [show (if ((x.2 : Nat) : Int) < ((y.2 : Nat) : Int) then ((y.2 : Nat) : Int) else ((x.2 : Nat) : Int)) = ((max x.2 y.2 : Nat) : Int) from max_u x.2 y.2]
    have hu38 : max x.2 y.2 < 18446744073709551616 := max_lt64 ux2 uy2
    refine zD 10 rfl (S_call (args := [.int .u64 ((max x.2 y.2 : Nat) : Int)]) (by kernel_rfl) (filled_ok (max x.2 y.2) _ hu38) ?_)
    rintro _ w39 ⟨rfl, hT40⟩
    have hT0 := hT0.t0 hT40
    have hB4 := hB4.tch0 hT40
    have hB8 := hB8.tch0 hT40
    have hB14 := hB14.tch0 hT40
    have hu41 : rfill (max x.2 y.2) < 18446744073709551616 := rfill_lt (w := 64) (by show _ < 18446744073709551616; exact hu38)
    refine ⟨⟨hB4, hB8⟩, ?_⟩
    refine zK [11] #[true, true, true, true, true, true, true, true, true, true, true, true, false] [(46, .agg #[.int .u64 ((max x.1 y.1 : Nat) : Int), .int .u64 ((rfill (max x.2 y.2) : Nat) : Int)])] ⟨hB4, hB8⟩ ?_
    refine zD 12 rfl (S_storeA (b := w5.heap.size) (j := 0) (cs := [.int .u64 ((max x.1 y.1 : Nat) : Int), .int .u64 ((rfill (max x.2 y.2) : Nat) : Int)]) (by kernel_rfl) (by kernel_rfl) (by kernel_rfl) (by simp [oneV]) hB14 (by simp) fun w42 hT43 hs44 hB14' => ?_)
    have hT0 := (hT0).then hT43 (fun c e => by have : c = w5.heap.size := e; omega)
    have hB4 := hB4.tch hT43 (fun e => by have : w.heap.size = w5.heap.size := e; omega)
    have hB8 := hB8.tch hT43 (fun e => by have : w1.heap.size = w5.heap.size := e; omega)
    replace hB14 : Blk w42 w5.heap.size 117 [.int .u64 ((max x.1 y.1 : Nat) : Int), .int .u64 ((rfill (max x.2 y.2) : Nat) : Int)] := hB14'
    refine ⟨⟨hB4, hB8⟩, ?_⟩
    refine d_done (by kernel_rfl) ?_
    refine W_ret ?_
    refine ⟨_, Res_cell (b := w5.heap.size) (cs := [.int .u64 ((max x.1 y.1 : Nat) : Int), .int .u64 ((rfill (max x.2 y.2) : Nat) : Int)]) (by rfl) (by kernel_rfl) (by kernel_rfl) hB14 (by kernel_rfl) (by kernel_rfl), ?_⟩
    have e : rbin O wd x y = (max x.1 y.1, rfill (max x.2 y.2)) := by unfold rbin; (repeat (first | rw [if_pos (by omega)] | rw [if_neg (by omega)]))
    rw [e]
    exact ⟨rfl, hT0⟩
   ·
    replace hc33 : ((O : Nat) : Int) ≠ 7 := (ne_of_beq_false hc33)
    refine zQ ?_
    refine zS [(48, .bool (((O : Nat) : Int) == 10)), (47, .bool (((O : Nat) : Int) == 10))] ?_
    refine zO (((O : Nat) : Int) == 10) (fun hc45 => ?_) (fun hc45 => ?_)
    ·
     replace hc45 : ((O : Nat) : Int) = 10 := (eq_of_beq hc45)
     refine zQ ?_
     refine zS [(49, .pointer (some ⟨w.heap.size, 1, none⟩))] ?_
     refine zL (.int .u64 ((x.2 : Nat) : Int)) ((hB4.cell 1).trans rfl) ?_
     refine zS [(51, .agg #[.int .u64 0, .int .u64 ((x.2 : Nat) : Int)])] ?_
     refine st (by rfl) (S_storeA (b := w5.heap.size) (j := 0) (cs := [.int .u64 0, .int .u64 ((x.2 : Nat) : Int)]) (by kernel_rfl) (by kernel_rfl) (by kernel_rfl) (by simp [oneV]) hB14 (by simp) fun w46 hT47 hs48 hB14' => ?_)
     have hT0 := (hT0).then hT47 (fun c e => by have : c = w5.heap.size := e; omega)
     have hB4 := hB4.tch hT47 (fun e => by have : w.heap.size = w5.heap.size := e; omega)
     have hB8 := hB8.tch hT47 (fun e => by have : w1.heap.size = w5.heap.size := e; omega)
     replace hB14 : Blk w46 w5.heap.size 117 [.int .u64 0, .int .u64 ((x.2 : Nat) : Int)] := hB14'
     refine op_nil ?_
     refine W_ret ?_
     refine ⟨_, Res_cell (b := w5.heap.size) (cs := [.int .u64 0, .int .u64 ((x.2 : Nat) : Int)]) (by rfl) (by kernel_rfl) (by kernel_rfl) hB14 (by kernel_rfl) (by kernel_rfl), ?_⟩
     have e : rbin O wd x y = (0, x.2) := by unfold rbin; (repeat (first | rw [if_pos (by omega)] | rw [if_neg (by omega)]))
     rw [e]
     exact ⟨rfl, hT0⟩
    ·
     replace hc45 : ((O : Nat) : Int) ≠ 10 := (ne_of_beq_false hc45)
     refine W_seq ?_
     refine zQ ?_
     refine zS [(53, .bool (((O : Nat) : Int) == 12)), (52, .bool (((O : Nat) : Int) == 12))] ?_
     refine zO (((O : Nat) : Int) == 12) (fun hc49 => ?_) (fun hc49 => ?_)
     ·
      replace hc49 : ((O : Nat) : Int) = 12 := (eq_of_beq hc49)
      refine W_skip ?_
      refine zW (((O : Nat) : Int) == 12) (fun hc50 => ?_) (fun hc50 => ?_)
      ·
       replace hc50 : ((O : Nat) : Int) = 12 := (eq_of_beq hc50)
       refine zQ ?_
       refine zS [(56, .int .i64 ((O : Nat) : Int))] ?_
       refine st (by rfl) (S_val (v := .agg #[.int .u64 ((x.1 : Nat) : Int), .int .u64 ((x.2 : Nat) : Int)]) (R_loadA [.int .u64 ((x.1 : Nat) : Int), .int .u64 ((x.2 : Nat) : Int)] (by kernel_rfl) (by kernel_rfl) (by kernel_rfl) (fun k u hk => by rw [hB4.cell]; exact get_part _ 0 _ k u rfl hk)) ?_)
       refine st (by rfl) (S_val (v := .agg #[.int .u64 ((y.1 : Nat) : Int), .int .u64 ((y.2 : Nat) : Int)]) (R_loadA [.int .u64 ((y.1 : Nat) : Int), .int .u64 ((y.2 : Nat) : Int)] (by kernel_rfl) (by kernel_rfl) (by kernel_rfl) (fun k u hk => by rw [hB8.cell]; exact get_part _ 0 _ k u rfl hk)) ?_)
       refine zC (compared_ok O wd x y _ hx hy h1 hw (by omega)) ?_
       rintro _ w51 ⟨rfl, hT52⟩
       have hT0 := hT0.t0 hT52
       have hB4 := hB4.tch0 hT52
       have hB8 := hB8.tch0 hT52
       have hB14 := hB14.tch0 hT52
       refine st (by rfl) (S_storeA (b := w5.heap.size) (j := 0) (cs := [.int .u64 (((rbin O wd x y).1 : Nat) : Int), .int .u64 (((rbin O wd x y).2 : Nat) : Int)]) (by kernel_rfl) (by kernel_rfl) (by kernel_rfl) (by simp [oneV]) hB14 (by simp) fun w53 hT54 hs55 hB14' => ?_)
       have hT0 := (hT0).then hT54 (fun c e => by have : c = w5.heap.size := e; omega)
       have hB4 := hB4.tch hT54 (fun e => by have : w.heap.size = w5.heap.size := e; omega)
       have hB8 := hB8.tch hT54 (fun e => by have : w1.heap.size = w5.heap.size := e; omega)
       replace hB14 : Blk w53 w5.heap.size 117 [.int .u64 (((rbin O wd x y).1 : Nat) : Int), .int .u64 (((rbin O wd x y).2 : Nat) : Int)] := hB14'
       refine op_nil ?_
       refine W_ret ?_
       exact ⟨_, Res_cell (b := w5.heap.size) (cs := [.int .u64 (((rbin O wd x y).1 : Nat) : Int), .int .u64 (((rbin O wd x y).2 : Nat) : Int)]) (by rfl) (by kernel_rfl) (by kernel_rfl) hB14 (by kernel_rfl) (by kernel_rfl), ⟨rfl, hT0⟩⟩
      ·
       replace hc50 : ((O : Nat) : Int) ≠ 12 := (ne_of_beq_false hc50)
       exfalso; omega
     ·
      replace hc49 : ((O : Nat) : Int) ≠ 12 := (ne_of_beq_false hc49)
      refine zQ ?_
      refine zS [(54, .bool (((O : Nat) : Int) == 13)), (52, .bool (((O : Nat) : Int) == 13))] ?_
      refine zO (((O : Nat) : Int) == 13) (fun hc56 => ?_) (fun hc56 => ?_)
      ·
       replace hc56 : ((O : Nat) : Int) = 13 := (eq_of_beq hc56)
       refine W_skip ?_
       refine zW (((O : Nat) : Int) == 13) (fun hc57 => ?_) (fun hc57 => ?_)
       ·
        replace hc57 : ((O : Nat) : Int) = 13 := (eq_of_beq hc57)
        refine zQ ?_
        refine zS [(56, .int .i64 ((O : Nat) : Int))] ?_
        refine st (by rfl) (S_val (v := .agg #[.int .u64 ((x.1 : Nat) : Int), .int .u64 ((x.2 : Nat) : Int)]) (R_loadA [.int .u64 ((x.1 : Nat) : Int), .int .u64 ((x.2 : Nat) : Int)] (by kernel_rfl) (by kernel_rfl) (by kernel_rfl) (fun k u hk => by rw [hB4.cell]; exact get_part _ 0 _ k u rfl hk)) ?_)
        refine st (by rfl) (S_val (v := .agg #[.int .u64 ((y.1 : Nat) : Int), .int .u64 ((y.2 : Nat) : Int)]) (R_loadA [.int .u64 ((y.1 : Nat) : Int), .int .u64 ((y.2 : Nat) : Int)] (by kernel_rfl) (by kernel_rfl) (by kernel_rfl) (fun k u hk => by rw [hB8.cell]; exact get_part _ 0 _ k u rfl hk)) ?_)
        refine zC (compared_ok O wd x y _ hx hy h1 hw (by omega)) ?_
        rintro _ w58 ⟨rfl, hT59⟩
        have hT0 := hT0.t0 hT59
        have hB4 := hB4.tch0 hT59
        have hB8 := hB8.tch0 hT59
        have hB14 := hB14.tch0 hT59
        refine st (by rfl) (S_storeA (b := w5.heap.size) (j := 0) (cs := [.int .u64 (((rbin O wd x y).1 : Nat) : Int), .int .u64 (((rbin O wd x y).2 : Nat) : Int)]) (by kernel_rfl) (by kernel_rfl) (by kernel_rfl) (by simp [oneV]) hB14 (by simp) fun w60 hT61 hs62 hB14' => ?_)
        have hT0 := (hT0).then hT61 (fun c e => by have : c = w5.heap.size := e; omega)
        have hB4 := hB4.tch hT61 (fun e => by have : w.heap.size = w5.heap.size := e; omega)
        have hB8 := hB8.tch hT61 (fun e => by have : w1.heap.size = w5.heap.size := e; omega)
        replace hB14 : Blk w60 w5.heap.size 117 [.int .u64 (((rbin O wd x y).1 : Nat) : Int), .int .u64 (((rbin O wd x y).2 : Nat) : Int)] := hB14'
        refine op_nil ?_
        refine W_ret ?_
        exact ⟨_, Res_cell (b := w5.heap.size) (cs := [.int .u64 (((rbin O wd x y).1 : Nat) : Int), .int .u64 (((rbin O wd x y).2 : Nat) : Int)]) (by rfl) (by kernel_rfl) (by kernel_rfl) hB14 (by kernel_rfl) (by kernel_rfl), ⟨rfl, hT0⟩⟩
       ·
        replace hc57 : ((O : Nat) : Int) ≠ 13 := (ne_of_beq_false hc57)
        exfalso; omega
      ·
       replace hc56 : ((O : Nat) : Int) ≠ 13 := (ne_of_beq_false hc56)
       refine zR ?_
       refine zS [(55, .bool (((O : Nat) : Int) == 14)), (52, .bool (((O : Nat) : Int) == 14))] ?_
       refine zO (((O : Nat) : Int) == 14) (fun hc63 => ?_) (fun hc63 => ?_)
       ·
        replace hc63 : ((O : Nat) : Int) = 14 := (eq_of_beq hc63)
        refine zQ ?_
        refine zS [(56, .int .i64 ((O : Nat) : Int))] ?_
        refine st (by rfl) (S_val (v := .agg #[.int .u64 ((x.1 : Nat) : Int), .int .u64 ((x.2 : Nat) : Int)]) (R_loadA [.int .u64 ((x.1 : Nat) : Int), .int .u64 ((x.2 : Nat) : Int)] (by kernel_rfl) (by kernel_rfl) (by kernel_rfl) (fun k u hk => by rw [hB4.cell]; exact get_part _ 0 _ k u rfl hk)) ?_)
        refine st (by rfl) (S_val (v := .agg #[.int .u64 ((y.1 : Nat) : Int), .int .u64 ((y.2 : Nat) : Int)]) (R_loadA [.int .u64 ((y.1 : Nat) : Int), .int .u64 ((y.2 : Nat) : Int)] (by kernel_rfl) (by kernel_rfl) (by kernel_rfl) (fun k u hk => by rw [hB8.cell]; exact get_part _ 0 _ k u rfl hk)) ?_)
        refine zC (compared_ok O wd x y _ hx hy h1 hw (by omega)) ?_
        rintro _ w64 ⟨rfl, hT65⟩
        have hT0 := hT0.t0 hT65
        have hB4 := hB4.tch0 hT65
        have hB8 := hB8.tch0 hT65
        have hB14 := hB14.tch0 hT65
        refine st (by rfl) (S_storeA (b := w5.heap.size) (j := 0) (cs := [.int .u64 (((rbin O wd x y).1 : Nat) : Int), .int .u64 (((rbin O wd x y).2 : Nat) : Int)]) (by kernel_rfl) (by kernel_rfl) (by kernel_rfl) (by simp [oneV]) hB14 (by simp) fun w66 hT67 hs68 hB14' => ?_)
        have hT0 := (hT0).then hT67 (fun c e => by have : c = w5.heap.size := e; omega)
        have hB4 := hB4.tch hT67 (fun e => by have : w.heap.size = w5.heap.size := e; omega)
        have hB8 := hB8.tch hT67 (fun e => by have : w1.heap.size = w5.heap.size := e; omega)
        replace hB14 : Blk w66 w5.heap.size 117 [.int .u64 (((rbin O wd x y).1 : Nat) : Int), .int .u64 (((rbin O wd x y).2 : Nat) : Int)] := hB14'
        refine op_nil ?_
        refine W_ret ?_
        exact ⟨_, Res_cell (b := w5.heap.size) (cs := [.int .u64 (((rbin O wd x y).1 : Nat) : Int), .int .u64 (((rbin O wd x y).2 : Nat) : Int)]) (by rfl) (by kernel_rfl) (by kernel_rfl) hB14 (by kernel_rfl) (by kernel_rfl), ⟨rfl, hT0⟩⟩
       ·
        replace hc63 : ((O : Nat) : Int) ≠ 14 := (ne_of_beq_false hc63)
        refine W_skip ?_
        refine zQ ?_
        refine zS [(60, .int .i64 ((O : Nat) : Int)), (61, .int .i64 ((wd : Nat) : Int))] ?_
        refine st (by rfl) (S_val (v := .agg #[.int .u64 ((x.1 : Nat) : Int), .int .u64 ((x.2 : Nat) : Int)]) (R_loadA [.int .u64 ((x.1 : Nat) : Int), .int .u64 ((x.2 : Nat) : Int)] (by kernel_rfl) (by kernel_rfl) (by kernel_rfl) (fun k u hk => by rw [hB4.cell]; exact get_part _ 0 _ k u rfl hk)) ?_)
        refine st (by rfl) (S_val (v := .agg #[.int .u64 ((y.1 : Nat) : Int), .int .u64 ((y.2 : Nat) : Int)]) (R_loadA [.int .u64 ((y.1 : Nat) : Int), .int .u64 ((y.2 : Nat) : Int)] (by kernel_rfl) (by kernel_rfl) (by kernel_rfl) (fun k u hk => by rw [hB8.cell]; exact get_part _ 0 _ k u rfl hk)) ?_)
        refine zC (reckoned_ok O wd x y _ hx hy h1 hw (by omega)) ?_
        rintro _ w69 ⟨rfl, hT70⟩
        have hT0 := hT0.t0 hT70
        have hB4 := hB4.tch0 hT70
        have hB8 := hB8.tch0 hT70
        have hB14 := hB14.tch0 hT70
        refine st (by rfl) (S_storeA (b := w5.heap.size) (j := 0) (cs := [.int .u64 (((rbin O wd x y).1 : Nat) : Int), .int .u64 (((rbin O wd x y).2 : Nat) : Int)]) (by kernel_rfl) (by kernel_rfl) (by kernel_rfl) (by simp [oneV]) hB14 (by simp) fun w71 hT72 hs73 hB14' => ?_)
        have hT0 := (hT0).then hT72 (fun c e => by have : c = w5.heap.size := e; omega)
        have hB4 := hB4.tch hT72 (fun e => by have : w.heap.size = w5.heap.size := e; omega)
        have hB8 := hB8.tch hT72 (fun e => by have : w1.heap.size = w5.heap.size := e; omega)
        replace hB14 : Blk w71 w5.heap.size 117 [.int .u64 (((rbin O wd x y).1 : Nat) : Int), .int .u64 (((rbin O wd x y).2 : Nat) : Int)] := hB14'
        refine op_nil ?_
        refine W_ret ?_
        exact ⟨_, Res_cell (b := w5.heap.size) (cs := [.int .u64 (((rbin O wd x y).1 : Nat) : Int), .int .u64 (((rbin O wd x y).2 : Nat) : Int)]) (by rfl) (by kernel_rfl) (by kernel_rfl) hB14 (by kernel_rfl) (by kernel_rfl), ⟨rfl, hT0⟩⟩

end Go.Proofs.YtlbadnpgmkobdaaV
