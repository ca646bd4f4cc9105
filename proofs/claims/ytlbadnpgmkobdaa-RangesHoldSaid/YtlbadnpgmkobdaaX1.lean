/- Walks of functions of the program and of the document's texts. The conditions stand with each theorem. -/
import Derived.Test.YtlbadnpgmkobdaaJRrang26x1
import Derived.Test.YtlbadnpgmkobdaaJRrang26x1
import Derived.Test.YtlbadnpgmkobdaaProg
import Derived.Test.YtlbadnpgmkobdaaJRrang26x6
set_option linter.unusedVariables false
set_option linter.unusedSimpArgs false
namespace Go.Proofs.YtlbadnpgmkobdaaV
open Go Go.RowKit Go.Proofs

theorem lt_nat (a b : Nat) : decide (((a : Nat) : Int) < ((b : Nat) : Int)) = decide (a < b) := decide_eq_decide.2 (by omega)

theorem shift_allY (O wd a b : Nat) (w : World) (h1 : 1 ≤ wd) (h2 : wd ≤ 64) (ha : a < 18446744073709551616) (hb : b < 18446744073709551616) (hO : 9 ≤ O ∧ O ≤ 11) : Ret Try.prog 108 [.int .i64 ((O : Nat) : Int), .int .i64 ((wd : Nat) : Int), .int .u64 ((a : Nat) : Int), .int .u64 ((b : Nat) : Int)] w fun v w' => ∃ X : Nat, v = .int .u64 ((X : Nat) : Int) ∧ BinY O wd a b X ∧ Tch N0 w w' :=
 (shift_all O wd a b w h1 h2 ha hb hO).mono fun v w' ⟨X, e, h, T⟩ => ⟨X, e, ⟨h.1, by omega, by omega, by omega, by omega, by omega, by omega, by omega, h.2.2.2.2.2.2.1, by omega, by omega, by omega⟩, T⟩

set_option maxRecDepth 100000 in
set_option maxHeartbeats 1000000 in
theorem binY_ok (O wd a b : Nat) (w : World) (h1 : 1 ≤ wd) (h2 : wd ≤ 64) (ha : a < pw wd) (hb : b < pw wd) (hO : 1 ≤ O ∧ O ≤ 14) : Ret Try.prog 90 [.int .i64 ((O : Nat) : Int), .int .i64 ((wd : Nat) : Int), .int .u64 ((a : Nat) : Int), .int .u64 ((b : Nat) : Int)] w fun v w' => ∃ X : Nat, v = .tuple #[.int .u64 ((cutN wd X : Nat) : Int), .int .i64 0] ∧ BinY O wd a b X ∧ Tch N0 w w' := by
 have hp64 := pw64 (w := wd) (by omega)
 have ha_ : a < 18446744073709551616 := by omega
 have hb_ : b < 18446744073709551616 := by omega
 refine enter Try.func90 rfl rfl ?_
 refine zQ ?_
 refine zS [(8, .int .u64 0), (9, .int .i64 0)] ?_
 refine op_nil ?_
 refine W_seq ?_
 refine zQ ?_
 refine zS [(11, .int .i64 ((O : Nat) : Int)), (12, .bool (decide (((O : Nat) : Int) < 1))), (13, .bool (decide (((O : Nat) : Int) < 1)))] ?_
 cases hb1 : decide (((O : Nat) : Int) < 1)
 ·
  replace hb1 : 1 ≤ ((O : Nat) : Int) := (Int.not_lt.1 (of_decide_eq_false hb1))
  refine zS [(14, .int .i64 ((O : Nat) : Int)), (15, .bool (decide (((O : Nat) : Int) > 14))), (16, .bool (decide (((O : Nat) : Int) > 14)))] ?_
  refine zO (decide (((O : Nat) : Int) > 14)) (fun hc2 => ?_) (fun hc2 => ?_)
  ·
   replace hc2 : 14 < ((O : Nat) : Int) := (of_decide_eq_true hc2)
   exfalso; omega
  ·
   replace hc2 : ((O : Nat) : Int) ≤ 14 := (Int.not_lt.1 (of_decide_eq_false hc2))
   refine W_skip ?_
   refine W_seq ?_
   refine zQ ?_
   refine zS [(17, .int .i64 ((wd : Nat) : Int))] ?_
   refine zC (rfits_t wd _ (by omega) (by omega)) ?_
   rintro _ w3 ⟨rfl, hT4⟩
   have hT0 := hT4
   refine zS [(19, .bool false)] ?_
   refine zO false (fun h => nomatch h) (fun _ => ?_)
   refine W_skip ?_
   refine zQ ?_
   refine zS [(20, .int .i64 ((wd : Nat) : Int)), (21, .int .u64 ((a : Nat) : Int))] ?_
   refine zC (rcutI_ok wd a _ (by omega) ha) ?_
   rintro _ w5 ⟨rfl, hT6⟩
   have hT0 := hT0.t0 hT6
   refine zS [(2, .int .u64 ((a : Nat) : Int))] ?_
   refine op_nil ?_
   refine zQ ?_
   refine zS [(23, .int .i64 ((wd : Nat) : Int)), (24, .int .u64 ((b : Nat) : Int))] ?_
   refine zC (rcutI_ok wd b _ (by omega) hb) ?_
   rintro _ w7 ⟨rfl, hT8⟩
   have hT0 := hT0.t0 hT8
   refine zS [(3, .int .u64 ((b : Nat) : Int))] ?_
   refine op_nil ?_
   refine zQ ?_
   refine zS [(10, .int .u64 0)] ?_
   refine op_nil ?_
   refine W_seq ?_
   refine zQ ?_
   refine zS [(26, .int .i64 ((O : Nat) : Int))] ?_
   refine op_nil ?_
   refine W_block ?_
   refine zQ ?_
   refine zS [(33, .bool (((O : Nat) : Int) == 1)), (32, .bool (((O : Nat) : Int) == 1))] ?_
   refine zO (((O : Nat) : Int) == 1) (fun hc9 => ?_) (fun hc9 => ?_)
   ·
    replace hc9 : ((O : Nat) : Int) = 1 := (eq_of_beq hc9)
    refine zR ?_
    refine zS [(34, .int .u64 ((a : Nat) : Int)), (35, .int .u64 ((b : Nat) : Int)), (36, .int .u64 (IntKind.u64.wrap (((a : Nat) : Int) + ((b : Nat) : Int))))] ?_
    rw [show IntKind.u64.wrap (((a : Nat) : Int) + ((b : Nat) : Int)) = (((a + b) % 18446744073709551616 : Nat) : Int) from u64_add a b]
    have hu10 : (a + b) % 18446744073709551616 < 18446744073709551616 := mod_lt64 _
    refine zS [(10, .int .u64 (((a + b) % 18446744073709551616 : Nat) : Int))] ?_
    refine op_nil ?_
    refine zQ ?_
    refine zS [(101, .int .i64 ((wd : Nat) : Int)), (102, .int .u64 (((a + b) % 18446744073709551616 : Nat) : Int))] ?_
    refine zC (rcutN_ok wd ((a + b) % 18446744073709551616) _ (by omega) hu10) ?_
    rintro _ w11 ⟨rfl, hT12⟩
    have hT0 := hT0.t0 hT12
    have hu13 : cutN wd ((a + b) % 18446744073709551616) < 18446744073709551616 := Nat.lt_of_lt_of_le (cutN_lt _ _) (pw64 (by omega))
    refine zS [(8, .int .u64 ((cutN wd ((a + b) % 18446744073709551616) : Nat) : Int)), (9, .int .i64 0)] ?_
    refine op_nil ?_
    refine W_ret ?_
    exact ⟨_, Res_of (v := .tuple #[.int .u64 ((cutN wd ((a + b) % 18446744073709551616) : Nat) : Int), .int .i64 0]) (by kernel_rfl), ⟨_, rfl, ⟨hu10, (by first | (intro q; exfalso; omega) | (intro _; rfl) | (intro _; omega) | (intro _; exact congrArg bitN (beq_nat a b)) | (intro _; exact congrArg bitN (lt_nat a b)) | (intro _ q; exfalso; omega) | (intro _ _; rfl) | (intro _; rw [if_pos (by omega)]) | (intro _; rw [if_neg (by omega)]) | (intro _; simp)), (by first | (intro q; exfalso; omega) | (intro _; rfl) | (intro _; omega) | (intro _; exact congrArg bitN (beq_nat a b)) | (intro _; exact congrArg bitN (lt_nat a b)) | (intro _ q; exfalso; omega) | (intro _ _; rfl) | (intro _; rw [if_pos (by omega)]) | (intro _; rw [if_neg (by omega)]) | (intro _; simp)), (by first | (intro q; exfalso; omega) | (intro _; rfl) | (intro _; omega) | (intro _; exact congrArg bitN (beq_nat a b)) | (intro _; exact congrArg bitN (lt_nat a b)) | (intro _ q; exfalso; omega) | (intro _ _; rfl) | (intro _; rw [if_pos (by omega)]) | (intro _; rw [if_neg (by omega)]) | (intro _; simp)), (by first | (intro q; exfalso; omega) | (intro _; rfl) | (intro _; omega) | (intro _; exact congrArg bitN (beq_nat a b)) | (intro _; exact congrArg bitN (lt_nat a b)) | (intro _ q; exfalso; omega) | (intro _ _; rfl) | (intro _; rw [if_pos (by omega)]) | (intro _; rw [if_neg (by omega)]) | (intro _; simp)), (by first | (intro q; exfalso; omega) | (intro _; rfl) | (intro _; omega) | (intro _; exact congrArg bitN (beq_nat a b)) | (intro _; exact congrArg bitN (lt_nat a b)) | (intro _ q; exfalso; omega) | (intro _ _; rfl) | (intro _; rw [if_pos (by omega)]) | (intro _; rw [if_neg (by omega)]) | (intro _; simp)), (by first | (intro q; exfalso; omega) | (intro _; rfl) | (intro _; omega) | (intro _; exact congrArg bitN (beq_nat a b)) | (intro _; exact congrArg bitN (lt_nat a b)) | (intro _ q; exfalso; omega) | (intro _ _; rfl) | (intro _; rw [if_pos (by omega)]) | (intro _; rw [if_neg (by omega)]) | (intro _; simp)), (by first | (intro q; exfalso; omega) | (intro _; rfl) | (intro _; omega) | (intro _; exact congrArg bitN (beq_nat a b)) | (intro _; exact congrArg bitN (lt_nat a b)) | (intro _ q; exfalso; omega) | (intro _ _; rfl) | (intro _; rw [if_pos (by omega)]) | (intro _; rw [if_neg (by omega)]) | (intro _; simp)), (by first | (intro q; exfalso; omega) | (intro _; rfl) | (intro _; omega) | (intro _; exact congrArg bitN (beq_nat a b)) | (intro _; exact congrArg bitN (lt_nat a b)) | (intro _ q; exfalso; omega) | (intro _ _; rfl) | (intro _; rw [if_pos (by omega)]) | (intro _; rw [if_neg (by omega)]) | (intro _; simp)), (by first | (intro q; exfalso; omega) | (intro _; rfl) | (intro _; omega) | (intro _; exact congrArg bitN (beq_nat a b)) | (intro _; exact congrArg bitN (lt_nat a b)) | (intro _ q; exfalso; omega) | (intro _ _; rfl) | (intro _; rw [if_pos (by omega)]) | (intro _; rw [if_neg (by omega)]) | (intro _; simp)), (by first | (intro q; exfalso; omega) | (intro _; rfl) | (intro _; omega) | (intro _; exact congrArg bitN (beq_nat a b)) | (intro _; exact congrArg bitN (lt_nat a b)) | (intro _ q; exfalso; omega) | (intro _ _; rfl) | (intro _; rw [if_pos (by omega)]) | (intro _; rw [if_neg (by omega)]) | (intro _; simp)), (by first | (intro q; exfalso; omega) | (intro _; rfl) | (intro _; omega) | (intro _; exact congrArg bitN (beq_nat a b)) | (intro _; exact congrArg bitN (lt_nat a b)) | (intro _ q; exfalso; omega) | (intro _ _; rfl) | (intro _; rw [if_pos (by omega)]) | (intro _; rw [if_neg (by omega)]) | (intro _; simp))⟩, hT0⟩⟩
   ·
    replace hc9 : ((O : Nat) : Int) ≠ 1 := (ne_of_beq_false hc9)
    refine zQ ?_
    refine zS [(38, .bool (((O : Nat) : Int) == 2)), (37, .bool (((O : Nat) : Int) == 2))] ?_
    refine zO (((O : Nat) : Int) == 2) (fun hc14 => ?_) (fun hc14 => ?_)
    ·
     replace hc14 : ((O : Nat) : Int) = 2 := (eq_of_beq hc14)
     refine zR ?_
     refine zS [(39, .int .u64 ((a : Nat) : Int)), (40, .int .u64 ((b : Nat) : Int)), (41, .int .u64 (IntKind.u64.wrap (((a : Nat) : Int) - ((b : Nat) : Int))))] ?_
     rw [show IntKind.u64.wrap (((a : Nat) : Int) - ((b : Nat) : Int)) = (((a + (18446744073709551616 - b)) % 18446744073709551616 : Nat) : Int) from u64_sub a b ha_ hb_]
     have hu15 : (a + (18446744073709551616 - b)) % 18446744073709551616 < 18446744073709551616 := mod_lt64 _
     refine zS [(10, .int .u64 (((a + (18446744073709551616 - b)) % 18446744073709551616 : Nat) : Int))] ?_
     refine op_nil ?_
     refine zQ ?_
     refine zS [(101, .int .i64 ((wd : Nat) : Int)), (102, .int .u64 (((a + (18446744073709551616 - b)) % 18446744073709551616 : Nat) : Int))] ?_
     refine zC (rcutN_ok wd ((a + (18446744073709551616 - b)) % 18446744073709551616) _ (by omega) hu15) ?_
     rintro _ w16 ⟨rfl, hT17⟩
     have hT0 := hT0.t0 hT17
     have hu18 : cutN wd ((a + (18446744073709551616 - b)) % 18446744073709551616) < 18446744073709551616 := Nat.lt_of_lt_of_le (cutN_lt _ _) (pw64 (by omega))
     refine zS [(8, .int .u64 ((cutN wd ((a + (18446744073709551616 - b)) % 18446744073709551616) : Nat) : Int)), (9, .int .i64 0)] ?_
     refine op_nil ?_
     refine W_ret ?_
     exact ⟨_, Res_of (v := .tuple #[.int .u64 ((cutN wd ((a + (18446744073709551616 - b)) % 18446744073709551616) : Nat) : Int), .int .i64 0]) (by kernel_rfl), ⟨_, rfl, ⟨hu15, (by first | (intro q; exfalso; omega) | (intro _; rfl) | (intro _; omega) | (intro _; exact congrArg bitN (beq_nat a b)) | (intro _; exact congrArg bitN (lt_nat a b)) | (intro _ q; exfalso; omega) | (intro _ _; rfl) | (intro _; rw [if_pos (by omega)]) | (intro _; rw [if_neg (by omega)]) | (intro _; simp)), (by first | (intro q; exfalso; omega) | (intro _; rfl) | (intro _; omega) | (intro _; exact congrArg bitN (beq_nat a b)) | (intro _; exact congrArg bitN (lt_nat a b)) | (intro _ q; exfalso; omega) | (intro _ _; rfl) | (intro _; rw [if_pos (by omega)]) | (intro _; rw [if_neg (by omega)]) | (intro _; simp)), (by first | (intro q; exfalso; omega) | (intro _; rfl) | (intro _; omega) | (intro _; exact congrArg bitN (beq_nat a b)) | (intro _; exact congrArg bitN (lt_nat a b)) | (intro _ q; exfalso; omega) | (intro _ _; rfl) | (intro _; rw [if_pos (by omega)]) | (intro _; rw [if_neg (by omega)]) | (intro _; simp)), (by first | (intro q; exfalso; omega) | (intro _; rfl) | (intro _; omega) | (intro _; exact congrArg bitN (beq_nat a b)) | (intro _; exact congrArg bitN (lt_nat a b)) | (intro _ q; exfalso; omega) | (intro _ _; rfl) | (intro _; rw [if_pos (by omega)]) | (intro _; rw [if_neg (by omega)]) | (intro _; simp)), (by first | (intro q; exfalso; omega) | (intro _; rfl) | (intro _; omega) | (intro _; exact congrArg bitN (beq_nat a b)) | (intro _; exact congrArg bitN (lt_nat a b)) | (intro _ q; exfalso; omega) | (intro _ _; rfl) | (intro _; rw [if_pos (by omega)]) | (intro _; rw [if_neg (by omega)]) | (intro _; simp)), (by first | (intro q; exfalso; omega) | (intro _; rfl) | (intro _; omega) | (intro _; exact congrArg bitN (beq_nat a b)) | (intro _; exact congrArg bitN (lt_nat a b)) | (intro _ q; exfalso; omega) | (intro _ _; rfl) | (intro _; rw [if_pos (by omega)]) | (intro _; rw [if_neg (by omega)]) | (intro _; simp)), (by first | (intro q; exfalso; omega) | (intro _; rfl) | (intro _; omega) | (intro _; exact congrArg bitN (beq_nat a b)) | (intro _; exact congrArg bitN (lt_nat a b)) | (intro _ q; exfalso; omega) | (intro _ _; rfl) | (intro _; rw [if_pos (by omega)]) | (intro _; rw [if_neg (by omega)]) | (intro _; simp)), (by first | (intro q; exfalso; omega) | (intro _; rfl) | (intro _; omega) | (intro _; exact congrArg bitN (beq_nat a b)) | (intro _; exact congrArg bitN (lt_nat a b)) | (intro _ q; exfalso; omega) | (intro _ _; rfl) | (intro _; rw [if_pos (by omega)]) | (intro _; rw [if_neg (by omega)]) | (intro _; simp)), (by first | (intro q; exfalso; omega) | (intro _; rfl) | (intro _; omega) | (intro _; exact congrArg bitN (beq_nat a b)) | (intro _; exact congrArg bitN (lt_nat a b)) | (intro _ q; exfalso; omega) | (intro _ _; rfl) | (intro _; rw [if_pos (by omega)]) | (intro _; rw [if_neg (by omega)]) | (intro _; simp)), (by first | (intro q; exfalso; omega) | (intro _; rfl) | (intro _; omega) | (intro _; exact congrArg bitN (beq_nat a b)) | (intro _; exact congrArg bitN (lt_nat a b)) | (intro _ q; exfalso; omega) | (intro _ _; rfl) | (intro _; rw [if_pos (by omega)]) | (intro _; rw [if_neg (by omega)]) | (intro _; simp)), (by first | (intro q; exfalso; omega) | (intro _; rfl) | (intro _; omega) | (intro _; exact congrArg bitN (beq_nat a b)) | (intro _; exact congrArg bitN (lt_nat a b)) | (intro _ q; exfalso; omega) | (intro _ _; rfl) | (intro _; rw [if_pos (by omega)]) | (intro _; rw [if_neg (by omega)]) | (intro _; simp))⟩, hT0⟩⟩
    ·
     replace hc14 : ((O : Nat) : Int) ≠ 2 := (ne_of_beq_false hc14)
     refine zQ ?_
     refine zS [(43, .bool (((O : Nat) : Int) == 3)), (42, .bool (((O : Nat) : Int) == 3))] ?_
     refine zO (((O : Nat) : Int) == 3) (fun hc19 => ?_) (fun hc19 => ?_)
     ·
      replace hc19 : ((O : Nat) : Int) = 3 := (eq_of_beq hc19)
      refine zR ?_
      refine zS [(44, .int .u64 ((a : Nat) : Int)), (45, .int .u64 ((b : Nat) : Int)), (46, .int .u64 (IntKind.u64.wrap (((a : Nat) : Int) * ((b : Nat) : Int))))] ?_
      rw [show IntKind.u64.wrap (((a : Nat) : Int) * ((b : Nat) : Int)) = ((a * b % 18446744073709551616 : Nat) : Int) from u64_mul a b]
      have hu20 : a * b % 18446744073709551616 < 18446744073709551616 := mod_lt64 _
      refine zS [(10, .int .u64 ((a * b % 18446744073709551616 : Nat) : Int))] ?_
      refine op_nil ?_
      refine zQ ?_
      refine zS [(101, .int .i64 ((wd : Nat) : Int)), (102, .int .u64 ((a * b % 18446744073709551616 : Nat) : Int))] ?_
      refine zC (rcutN_ok wd (a * b % 18446744073709551616) _ (by omega) hu20) ?_
      rintro _ w21 ⟨rfl, hT22⟩
      have hT0 := hT0.t0 hT22
      have hu23 : cutN wd (a * b % 18446744073709551616) < 18446744073709551616 := Nat.lt_of_lt_of_le (cutN_lt _ _) (pw64 (by omega))
      refine zS [(8, .int .u64 ((cutN wd (a * b % 18446744073709551616) : Nat) : Int)), (9, .int .i64 0)] ?_
      refine op_nil ?_
      refine W_ret ?_
      exact ⟨_, Res_of (v := .tuple #[.int .u64 ((cutN wd (a * b % 18446744073709551616) : Nat) : Int), .int .i64 0]) (by kernel_rfl), ⟨_, rfl, ⟨hu20, (by first | (intro q; exfalso; omega) | (intro _; rfl) | (intro _; omega) | (intro _; exact congrArg bitN (beq_nat a b)) | (intro _; exact congrArg bitN (lt_nat a b)) | (intro _ q; exfalso; omega) | (intro _ _; rfl) | (intro _; rw [if_pos (by omega)]) | (intro _; rw [if_neg (by omega)]) | (intro _; simp)), (by first | (intro q; exfalso; omega) | (intro _; rfl) | (intro _; omega) | (intro _; exact congrArg bitN (beq_nat a b)) | (intro _; exact congrArg bitN (lt_nat a b)) | (intro _ q; exfalso; omega) | (intro _ _; rfl) | (intro _; rw [if_pos (by omega)]) | (intro _; rw [if_neg (by omega)]) | (intro _; simp)), (by first | (intro q; exfalso; omega) | (intro _; rfl) | (intro _; omega) | (intro _; exact congrArg bitN (beq_nat a b)) | (intro _; exact congrArg bitN (lt_nat a b)) | (intro _ q; exfalso; omega) | (intro _ _; rfl) | (intro _; rw [if_pos (by omega)]) | (intro _; rw [if_neg (by omega)]) | (intro _; simp)), (by first | (intro q; exfalso; omega) | (intro _; rfl) | (intro _; omega) | (intro _; exact congrArg bitN (beq_nat a b)) | (intro _; exact congrArg bitN (lt_nat a b)) | (intro _ q; exfalso; omega) | (intro _ _; rfl) | (intro _; rw [if_pos (by omega)]) | (intro _; rw [if_neg (by omega)]) | (intro _; simp)), (by first | (intro q; exfalso; omega) | (intro _; rfl) | (intro _; omega) | (intro _; exact congrArg bitN (beq_nat a b)) | (intro _; exact congrArg bitN (lt_nat a b)) | (intro _ q; exfalso; omega) | (intro _ _; rfl) | (intro _; rw [if_pos (by omega)]) | (intro _; rw [if_neg (by omega)]) | (intro _; simp)), (by first | (intro q; exfalso; omega) | (intro _; rfl) | (intro _; omega) | (intro _; exact congrArg bitN (beq_nat a b)) | (intro _; exact congrArg bitN (lt_nat a b)) | (intro _ q; exfalso; omega) | (intro _ _; rfl) | (intro _; rw [if_pos (by omega)]) | (intro _; rw [if_neg (by omega)]) | (intro _; simp)), (by first | (intro q; exfalso; omega) | (intro _; rfl) | (intro _; omega) | (intro _; exact congrArg bitN (beq_nat a b)) | (intro _; exact congrArg bitN (lt_nat a b)) | (intro _ q; exfalso; omega) | (intro _ _; rfl) | (intro _; rw [if_pos (by omega)]) | (intro _; rw [if_neg (by omega)]) | (intro _; simp)), (by first | (intro q; exfalso; omega) | (intro _; rfl) | (intro _; omega) | (intro _; exact congrArg bitN (beq_nat a b)) | (intro _; exact congrArg bitN (lt_nat a b)) | (intro _ q; exfalso; omega) | (intro _ _; rfl) | (intro _; rw [if_pos (by omega)]) | (intro _; rw [if_neg (by omega)]) | (intro _; simp)), (by first | (intro q; exfalso; omega) | (intro _; rfl) | (intro _; omega) | (intro _; exact congrArg bitN (beq_nat a b)) | (intro _; exact congrArg bitN (lt_nat a b)) | (intro _ q; exfalso; omega) | (intro _ _; rfl) | (intro _; rw [if_pos (by omega)]) | (intro _; rw [if_neg (by omega)]) | (intro _; simp)), (by first | (intro q; exfalso; omega) | (intro _; rfl) | (intro _; omega) | (intro _; exact congrArg bitN (beq_nat a b)) | (intro _; exact congrArg bitN (lt_nat a b)) | (intro _ q; exfalso; omega) | (intro _ _; rfl) | (intro _; rw [if_pos (by omega)]) | (intro _; rw [if_neg (by omega)]) | (intro _; simp)), (by first | (intro q; exfalso; omega) | (intro _; rfl) | (intro _; omega) | (intro _; exact congrArg bitN (beq_nat a b)) | (intro _; exact congrArg bitN (lt_nat a b)) | (intro _ q; exfalso; omega) | (intro _ _; rfl) | (intro _; rw [if_pos (by omega)]) | (intro _; rw [if_neg (by omega)]) | (intro _; simp))⟩, hT0⟩⟩
     ·
      replace hc19 : ((O : Nat) : Int) ≠ 3 := (ne_of_beq_false hc19)
      refine zQ ?_
      refine zS [(48, .bool (((O : Nat) : Int) == 4)), (47, .bool (((O : Nat) : Int) == 4))] ?_
      refine zO (((O : Nat) : Int) == 4) (fun hc24 => ?_) (fun hc24 => ?_)
      ·
       replace hc24 : ((O : Nat) : Int) = 4 := (eq_of_beq hc24)
       refine zQ ?_
       refine zS [(49, .int .i64 ((wd : Nat) : Int))] ?_
       refine zC (rmask_okN wd _ (by omega)) ?_
       rintro _ w25 ⟨rfl, hT26⟩
       have hT0 := hT0.t0 hT26
       have hu27 := pwm_lt (x := wd) (by omega)
       refine zS [(10, .int .u64 ((pw wd - 1 : Nat) : Int))] ?_
       refine op_nil ?_
       refine zQ ?_
       refine zS [(51, .int .u64 ((b : Nat) : Int)), (52, .bool (((b : Nat) : Int) != 0))] ?_
       refine zO (((b : Nat) : Int) != 0) (fun hc28 => ?_) (fun hc28 => ?_)
       ·
        replace hc28 : ((b : Nat) : Int) ≠ 0 := (bne_iff_ne.1 hc28)
        refine zR ?_
        refine zS [(53, .int .u64 ((a : Nat) : Int)), (54, .int .u64 ((b : Nat) : Int))] ?_
        refine stv (v := .int .u64 ((a / b : Nat) : Int)) (by rfl) (R_quoN (by kernel_rfl) (by kernel_rfl) (by omega) ha_) ?_
        have hu29 : a / b < 18446744073709551616 := div_lt64 ha_
        refine zS [(10, .int .u64 ((a / b : Nat) : Int))] ?_
        refine op_nil ?_
        refine zQ ?_
        refine zS [(101, .int .i64 ((wd : Nat) : Int)), (102, .int .u64 ((a / b : Nat) : Int))] ?_
        refine zC (rcutN_ok wd (a / b) _ (by omega) hu29) ?_
        rintro _ w30 ⟨rfl, hT31⟩
        have hT0 := hT0.t0 hT31
        have hu32 : cutN wd (a / b) < 18446744073709551616 := Nat.lt_of_lt_of_le (cutN_lt _ _) (pw64 (by omega))
        refine zS [(8, .int .u64 ((cutN wd (a / b) : Nat) : Int)), (9, .int .i64 0)] ?_
        refine op_nil ?_
        refine W_ret ?_
        exact ⟨_, Res_of (v := .tuple #[.int .u64 ((cutN wd (a / b) : Nat) : Int), .int .i64 0]) (by kernel_rfl), ⟨_, rfl, ⟨hu29, (by first | (intro q; exfalso; omega) | (intro _; rfl) | (intro _; omega) | (intro _; exact congrArg bitN (beq_nat a b)) | (intro _; exact congrArg bitN (lt_nat a b)) | (intro _ q; exfalso; omega) | (intro _ _; rfl) | (intro _; rw [if_pos (by omega)]) | (intro _; rw [if_neg (by omega)]) | (intro _; simp)), (by first | (intro q; exfalso; omega) | (intro _; rfl) | (intro _; omega) | (intro _; exact congrArg bitN (beq_nat a b)) | (intro _; exact congrArg bitN (lt_nat a b)) | (intro _ q; exfalso; omega) | (intro _ _; rfl) | (intro _; rw [if_pos (by omega)]) | (intro _; rw [if_neg (by omega)]) | (intro _; simp)), (by first | (intro q; exfalso; omega) | (intro _; rfl) | (intro _; omega) | (intro _; exact congrArg bitN (beq_nat a b)) | (intro _; exact congrArg bitN (lt_nat a b)) | (intro _ q; exfalso; omega) | (intro _ _; rfl) | (intro _; rw [if_pos (by omega)]) | (intro _; rw [if_neg (by omega)]) | (intro _; simp)), (by first | (intro q; exfalso; omega) | (intro _; rfl) | (intro _; omega) | (intro _; exact congrArg bitN (beq_nat a b)) | (intro _; exact congrArg bitN (lt_nat a b)) | (intro _ q; exfalso; omega) | (intro _ _; rfl) | (intro _; rw [if_pos (by omega)]) | (intro _; rw [if_neg (by omega)]) | (intro _; simp)), (by first | (intro q; exfalso; omega) | (intro _; rfl) | (intro _; omega) | (intro _; exact congrArg bitN (beq_nat a b)) | (intro _; exact congrArg bitN (lt_nat a b)) | (intro _ q; exfalso; omega) | (intro _ _; rfl) | (intro _; rw [if_pos (by omega)]) | (intro _; rw [if_neg (by omega)]) | (intro _; simp)), (by first | (intro q; exfalso; omega) | (intro _; rfl) | (intro _; omega) | (intro _; exact congrArg bitN (beq_nat a b)) | (intro _; exact congrArg bitN (lt_nat a b)) | (intro _ q; exfalso; omega) | (intro _ _; rfl) | (intro _; rw [if_pos (by omega)]) | (intro _; rw [if_neg (by omega)]) | (intro _; simp)), (by first | (intro q; exfalso; omega) | (intro _; rfl) | (intro _; omega) | (intro _; exact congrArg bitN (beq_nat a b)) | (intro _; exact congrArg bitN (lt_nat a b)) | (intro _ q; exfalso; omega) | (intro _ _; rfl) | (intro _; rw [if_pos (by omega)]) | (intro _; rw [if_neg (by omega)]) | (intro _; simp)), (by first | (intro q; exfalso; omega) | (intro _; rfl) | (intro _; omega) | (intro _; exact congrArg bitN (beq_nat a b)) | (intro _; exact congrArg bitN (lt_nat a b)) | (intro _ q; exfalso; omega) | (intro _ _; rfl) | (intro _; rw [if_pos (by omega)]) | (intro _; rw [if_neg (by omega)]) | (intro _; simp)), (by first | (intro q; exfalso; omega) | (intro _; rfl) | (intro _; omega) | (intro _; exact congrArg bitN (beq_nat a b)) | (intro _; exact congrArg bitN (lt_nat a b)) | (intro _ q; exfalso; omega) | (intro _ _; rfl) | (intro _; rw [if_pos (by omega)]) | (intro _; rw [if_neg (by omega)]) | (intro _; simp)), (by first | (intro q; exfalso; omega) | (intro _; rfl) | (intro _; omega) | (intro _; exact congrArg bitN (beq_nat a b)) | (intro _; exact congrArg bitN (lt_nat a b)) | (intro _ q; exfalso; omega) | (intro _ _; rfl) | (intro _; rw [if_pos (by omega)]) | (intro _; rw [if_neg (by omega)]) | (intro _; simp)), (by first | (intro q; exfalso; omega) | (intro _; rfl) | (intro _; omega) | (intro _; exact congrArg bitN (beq_nat a b)) | (intro _; exact congrArg bitN (lt_nat a b)) | (intro _ q; exfalso; omega) | (intro _ _; rfl) | (intro _; rw [if_pos (by omega)]) | (intro _; rw [if_neg (by omega)]) | (intro _; simp))⟩, hT0⟩⟩
       ·
        replace hc28 : ((b : Nat) : Int) = 0 := (bne_eq_false_iff_eq.1 hc28)
        refine W_skip ?_
        refine zQ ?_
        refine zS [(101, .int .i64 ((wd : Nat) : Int)), (102, .int .u64 ((pw wd - 1 : Nat) : Int))] ?_
        refine zC (rcutN_ok wd (pw wd - 1) _ (by omega) hu27) ?_
        rintro _ w33 ⟨rfl, hT34⟩
        have hT0 := hT0.t0 hT34
        have hu35 : cutN wd (pw wd - 1) < 18446744073709551616 := Nat.lt_of_lt_of_le (cutN_lt _ _) (pw64 (by omega))
        refine zS [(8, .int .u64 ((cutN wd (pw wd - 1) : Nat) : Int)), (9, .int .i64 0)] ?_
        refine op_nil ?_
        refine W_ret ?_
        exact ⟨_, Res_of (v := .tuple #[.int .u64 ((cutN wd (pw wd - 1) : Nat) : Int), .int .i64 0]) (by kernel_rfl), ⟨_, rfl, ⟨hu27, (by first | (intro q; exfalso; omega) | (intro _; rfl) | (intro _; omega) | (intro _; exact congrArg bitN (beq_nat a b)) | (intro _; exact congrArg bitN (lt_nat a b)) | (intro _ q; exfalso; omega) | (intro _ _; rfl) | (intro _; rw [if_pos (by omega)]) | (intro _; rw [if_neg (by omega)]) | (intro _; simp)), (by first | (intro q; exfalso; omega) | (intro _; rfl) | (intro _; omega) | (intro _; exact congrArg bitN (beq_nat a b)) | (intro _; exact congrArg bitN (lt_nat a b)) | (intro _ q; exfalso; omega) | (intro _ _; rfl) | (intro _; rw [if_pos (by omega)]) | (intro _; rw [if_neg (by omega)]) | (intro _; simp)), (by first | (intro q; exfalso; omega) | (intro _; rfl) | (intro _; omega) | (intro _; exact congrArg bitN (beq_nat a b)) | (intro _; exact congrArg bitN (lt_nat a b)) | (intro _ q; exfalso; omega) | (intro _ _; rfl) | (intro _; rw [if_pos (by omega)]) | (intro _; rw [if_neg (by omega)]) | (intro _; simp)), (by first | (intro q; exfalso; omega) | (intro _; rfl) | (intro _; omega) | (intro _; exact congrArg bitN (beq_nat a b)) | (intro _; exact congrArg bitN (lt_nat a b)) | (intro _ q; exfalso; omega) | (intro _ _; rfl) | (intro _; rw [if_pos (by omega)]) | (intro _; rw [if_neg (by omega)]) | (intro _; simp)), (by first | (intro q; exfalso; omega) | (intro _; rfl) | (intro _; omega) | (intro _; exact congrArg bitN (beq_nat a b)) | (intro _; exact congrArg bitN (lt_nat a b)) | (intro _ q; exfalso; omega) | (intro _ _; rfl) | (intro _; rw [if_pos (by omega)]) | (intro _; rw [if_neg (by omega)]) | (intro _; simp)), (by first | (intro q; exfalso; omega) | (intro _; rfl) | (intro _; omega) | (intro _; exact congrArg bitN (beq_nat a b)) | (intro _; exact congrArg bitN (lt_nat a b)) | (intro _ q; exfalso; omega) | (intro _ _; rfl) | (intro _; rw [if_pos (by omega)]) | (intro _; rw [if_neg (by omega)]) | (intro _; simp)), (by first | (intro q; exfalso; omega) | (intro _; rfl) | (intro _; omega) | (intro _; exact congrArg bitN (beq_nat a b)) | (intro _; exact congrArg bitN (lt_nat a b)) | (intro _ q; exfalso; omega) | (intro _ _; rfl) | (intro _; rw [if_pos (by omega)]) | (intro _; rw [if_neg (by omega)]) | (intro _; simp)), (by first | (intro q; exfalso; omega) | (intro _; rfl) | (intro _; omega) | (intro _; exact congrArg bitN (beq_nat a b)) | (intro _; exact congrArg bitN (lt_nat a b)) | (intro _ q; exfalso; omega) | (intro _ _; rfl) | (intro _; rw [if_pos (by omega)]) | (intro _; rw [if_neg (by omega)]) | (intro _; simp)), (by first | (intro q; exfalso; omega) | (intro _; rfl) | (intro _; omega) | (intro _; exact congrArg bitN (beq_nat a b)) | (intro _; exact congrArg bitN (lt_nat a b)) | (intro _ q; exfalso; omega) | (intro _ _; rfl) | (intro _; rw [if_pos (by omega)]) | (intro _; rw [if_neg (by omega)]) | (intro _; simp)), (by first | (intro q; exfalso; omega) | (intro _; rfl) | (intro _; omega) | (intro _; exact congrArg bitN (beq_nat a b)) | (intro _; exact congrArg bitN (lt_nat a b)) | (intro _ q; exfalso; omega) | (intro _ _; rfl) | (intro _; rw [if_pos (by omega)]) | (intro _; rw [if_neg (by omega)]) | (intro _; simp)), (by first | (intro q; exfalso; omega) | (intro _; rfl) | (intro _; omega) | (intro _; exact congrArg bitN (beq_nat a b)) | (intro _; exact congrArg bitN (lt_nat a b)) | (intro _ q; exfalso; omega) | (intro _ _; rfl) | (intro _; rw [if_pos (by omega)]) | (intro _; rw [if_neg (by omega)]) | (intro _; simp))⟩, hT0⟩⟩
      ·
       replace hc24 : ((O : Nat) : Int) ≠ 4 := (ne_of_beq_false hc24)
       refine zQ ?_
       refine zS [(57, .bool (((O : Nat) : Int) == 5)), (56, .bool (((O : Nat) : Int) == 5))] ?_
       refine zO (((O : Nat) : Int) == 5) (fun hc36 => ?_) (fun hc36 => ?_)
       ·
        replace hc36 : ((O : Nat) : Int) = 5 := (eq_of_beq hc36)
        refine zQ ?_
        refine zS [(58, .int .u64 ((a : Nat) : Int)), (10, .int .u64 ((a : Nat) : Int))] ?_
        refine op_nil ?_
        refine zQ ?_
        refine zS [(59, .int .u64 ((b : Nat) : Int)), (60, .bool (((b : Nat) : Int) != 0))] ?_
        refine zO (((b : Nat) : Int) != 0) (fun hc37 => ?_) (fun hc37 => ?_)
        ·
         replace hc37 : ((b : Nat) : Int) ≠ 0 := (bne_iff_ne.1 hc37)
         refine zR ?_
         refine zS [(61, .int .u64 ((a : Nat) : Int)), (62, .int .u64 ((b : Nat) : Int))] ?_
         refine stv (v := .int .u64 ((a % b : Nat) : Int)) (by rfl) (R_remN (by kernel_rfl) (by kernel_rfl) (by omega)) ?_
         have hu38 : a % b < 18446744073709551616 := rem_lt64 ha_
         refine zS [(10, .int .u64 ((a % b : Nat) : Int))] ?_
         refine op_nil ?_
         refine zQ ?_
         refine zS [(101, .int .i64 ((wd : Nat) : Int)), (102, .int .u64 ((a % b : Nat) : Int))] ?_
         refine zC (rcutN_ok wd (a % b) _ (by omega) hu38) ?_
         rintro _ w39 ⟨rfl, hT40⟩
         have hT0 := hT0.t0 hT40
         have hu41 : cutN wd (a % b) < 18446744073709551616 := Nat.lt_of_lt_of_le (cutN_lt _ _) (pw64 (by omega))
         refine zS [(8, .int .u64 ((cutN wd (a % b) : Nat) : Int)), (9, .int .i64 0)] ?_
         refine op_nil ?_
         refine W_ret ?_
         exact ⟨_, Res_of (v := .tuple #[.int .u64 ((cutN wd (a % b) : Nat) : Int), .int .i64 0]) (by kernel_rfl), ⟨_, rfl, ⟨hu38, (by first | (intro q; exfalso; omega) | (intro _; rfl) | (intro _; omega) | (intro _; exact congrArg bitN (beq_nat a b)) | (intro _; exact congrArg bitN (lt_nat a b)) | (intro _ q; exfalso; omega) | (intro _ _; rfl) | (intro _; rw [if_pos (by omega)]) | (intro _; rw [if_neg (by omega)]) | (intro _; simp)), (by first | (intro q; exfalso; omega) | (intro _; rfl) | (intro _; omega) | (intro _; exact congrArg bitN (beq_nat a b)) | (intro _; exact congrArg bitN (lt_nat a b)) | (intro _ q; exfalso; omega) | (intro _ _; rfl) | (intro _; rw [if_pos (by omega)]) | (intro _; rw [if_neg (by omega)]) | (intro _; simp)), (by first | (intro q; exfalso; omega) | (intro _; rfl) | (intro _; omega) | (intro _; exact congrArg bitN (beq_nat a b)) | (intro _; exact congrArg bitN (lt_nat a b)) | (intro _ q; exfalso; omega) | (intro _ _; rfl) | (intro _; rw [if_pos (by omega)]) | (intro _; rw [if_neg (by omega)]) | (intro _; simp)), (by first | (intro q; exfalso; omega) | (intro _; rfl) | (intro _; omega) | (intro _; exact congrArg bitN (beq_nat a b)) | (intro _; exact congrArg bitN (lt_nat a b)) | (intro _ q; exfalso; omega) | (intro _ _; rfl) | (intro _; rw [if_pos (by omega)]) | (intro _; rw [if_neg (by omega)]) | (intro _; simp)), (by first | (intro q; exfalso; omega) | (intro _; rfl) | (intro _; omega) | (intro _; exact congrArg bitN (beq_nat a b)) | (intro _; exact congrArg bitN (lt_nat a b)) | (intro _ q; exfalso; omega) | (intro _ _; rfl) | (intro _; rw [if_pos (by omega)]) | (intro _; rw [if_neg (by omega)]) | (intro _; simp)), (by first | (intro q; exfalso; omega) | (intro _; rfl) | (intro _; omega) | (intro _; exact congrArg bitN (beq_nat a b)) | (intro _; exact congrArg bitN (lt_nat a b)) | (intro _ q; exfalso; omega) | (intro _ _; rfl) | (intro _; rw [if_pos (by omega)]) | (intro _; rw [if_neg (by omega)]) | (intro _; simp)), (by first | (intro q; exfalso; omega) | (intro _; rfl) | (intro _; omega) | (intro _; exact congrArg bitN (beq_nat a b)) | (intro _; exact congrArg bitN (lt_nat a b)) | (intro _ q; exfalso; omega) | (intro _ _; rfl) | (intro _; rw [if_pos (by omega)]) | (intro _; rw [if_neg (by omega)]) | (intro _; simp)), (by first | (intro q; exfalso; omega) | (intro _; rfl) | (intro _; omega) | (intro _; exact congrArg bitN (beq_nat a b)) | (intro _; exact congrArg bitN (lt_nat a b)) | (intro _ q; exfalso; omega) | (intro _ _; rfl) | (intro _; rw [if_pos (by omega)]) | (intro _; rw [if_neg (by omega)]) | (intro _; simp)), (by first | (intro q; exfalso; omega) | (intro _; rfl) | (intro _; omega) | (intro _; exact congrArg bitN (beq_nat a b)) | (intro _; exact congrArg bitN (lt_nat a b)) | (intro _ q; exfalso; omega) | (intro _ _; rfl) | (intro _; rw [if_pos (by omega)]) | (intro _; rw [if_neg (by omega)]) | (intro _; simp)), (by first | (intro q; exfalso; omega) | (intro _; rfl) | (intro _; omega) | (intro _; exact congrArg bitN (beq_nat a b)) | (intro _; exact congrArg bitN (lt_nat a b)) | (intro _ q; exfalso; omega) | (intro _ _; rfl) | (intro _; rw [if_pos (by omega)]) | (intro _; rw [if_neg (by omega)]) | (intro _; simp)), (by first | (intro q; exfalso; omega) | (intro _; rfl) | (intro _; omega) | (intro _; exact congrArg bitN (beq_nat a b)) | (intro _; exact congrArg bitN (lt_nat a b)) | (intro _ q; exfalso; omega) | (intro _ _; rfl) | (intro _; rw [if_pos (by omega)]) | (intro _; rw [if_neg (by omega)]) | (intro _; simp))⟩, hT0⟩⟩
        ·
         replace hc37 : ((b : Nat) : Int) = 0 := (bne_eq_false_iff_eq.1 hc37)
         refine W_skip ?_
         refine zQ ?_
         refine zS [(101, .int .i64 ((wd : Nat) : Int)), (102, .int .u64 ((a : Nat) : Int))] ?_
         refine zC (rcutN_ok wd a _ (by omega) ha_) ?_
         rintro _ w42 ⟨rfl, hT43⟩
         have hT0 := hT0.t0 hT43
         have hu44 : cutN wd a < 18446744073709551616 := Nat.lt_of_lt_of_le (cutN_lt _ _) (pw64 (by omega))
         refine zS [(8, .int .u64 ((cutN wd a : Nat) : Int)), (9, .int .i64 0)] ?_
         refine op_nil ?_
         refine W_ret ?_
         exact ⟨_, Res_of (v := .tuple #[.int .u64 ((cutN wd a : Nat) : Int), .int .i64 0]) (by kernel_rfl), ⟨_, rfl, ⟨ha_, (by first | (intro q; exfalso; omega) | (intro _; rfl) | (intro _; omega) | (intro _; exact congrArg bitN (beq_nat a b)) | (intro _; exact congrArg bitN (lt_nat a b)) | (intro _ q; exfalso; omega) | (intro _ _; rfl) | (intro _; rw [if_pos (by omega)]) | (intro _; rw [if_neg (by omega)]) | (intro _; simp)), (by first | (intro q; exfalso; omega) | (intro _; rfl) | (intro _; omega) | (intro _; exact congrArg bitN (beq_nat a b)) | (intro _; exact congrArg bitN (lt_nat a b)) | (intro _ q; exfalso; omega) | (intro _ _; rfl) | (intro _; rw [if_pos (by omega)]) | (intro _; rw [if_neg (by omega)]) | (intro _; simp)), (by first | (intro q; exfalso; omega) | (intro _; rfl) | (intro _; omega) | (intro _; exact congrArg bitN (beq_nat a b)) | (intro _; exact congrArg bitN (lt_nat a b)) | (intro _ q; exfalso; omega) | (intro _ _; rfl) | (intro _; rw [if_pos (by omega)]) | (intro _; rw [if_neg (by omega)]) | (intro _; simp)), (by first | (intro q; exfalso; omega) | (intro _; rfl) | (intro _; omega) | (intro _; exact congrArg bitN (beq_nat a b)) | (intro _; exact congrArg bitN (lt_nat a b)) | (intro _ q; exfalso; omega) | (intro _ _; rfl) | (intro _; rw [if_pos (by omega)]) | (intro _; rw [if_neg (by omega)]) | (intro _; simp)), (by first | (intro q; exfalso; omega) | (intro _; rfl) | (intro _; omega) | (intro _; exact congrArg bitN (beq_nat a b)) | (intro _; exact congrArg bitN (lt_nat a b)) | (intro _ q; exfalso; omega) | (intro _ _; rfl) | (intro _; rw [if_pos (by omega)]) | (intro _; rw [if_neg (by omega)]) | (intro _; simp)), (by first | (intro q; exfalso; omega) | (intro _; rfl) | (intro _; omega) | (intro _; exact congrArg bitN (beq_nat a b)) | (intro _; exact congrArg bitN (lt_nat a b)) | (intro _ q; exfalso; omega) | (intro _ _; rfl) | (intro _; rw [if_pos (by omega)]) | (intro _; rw [if_neg (by omega)]) | (intro _; simp)), (by first | (intro q; exfalso; omega) | (intro _; rfl) | (intro _; omega) | (intro _; exact congrArg bitN (beq_nat a b)) | (intro _; exact congrArg bitN (lt_nat a b)) | (intro _ q; exfalso; omega) | (intro _ _; rfl) | (intro _; rw [if_pos (by omega)]) | (intro _; rw [if_neg (by omega)]) | (intro _; simp)), (by first | (intro q; exfalso; omega) | (intro _; rfl) | (intro _; omega) | (intro _; exact congrArg bitN (beq_nat a b)) | (intro _; exact congrArg bitN (lt_nat a b)) | (intro _ q; exfalso; omega) | (intro _ _; rfl) | (intro _; rw [if_pos (by omega)]) | (intro _; rw [if_neg (by omega)]) | (intro _; simp)), (by first | (intro q; exfalso; omega) | (intro _; rfl) | (intro _; omega) | (intro _; exact congrArg bitN (beq_nat a b)) | (intro _; exact congrArg bitN (lt_nat a b)) | (intro _ q; exfalso; omega) | (intro _ _; rfl) | (intro _; rw [if_pos (by omega)]) | (intro _; rw [if_neg (by omega)]) | (intro _; simp)), (by first | (intro q; exfalso; omega) | (intro _; rfl) | (intro _; omega) | (intro _; exact congrArg bitN (beq_nat a b)) | (intro _; exact congrArg bitN (lt_nat a b)) | (intro _ q; exfalso; omega) | (intro _ _; rfl) | (intro _; rw [if_pos (by omega)]) | (intro _; rw [if_neg (by omega)]) | (intro _; simp)), (by first | (intro q; exfalso; omega) | (intro _; rfl) | (intro _; omega) | (intro _; exact congrArg bitN (beq_nat a b)) | (intro _; exact congrArg bitN (lt_nat a b)) | (intro _ q; exfalso; omega) | (intro _ _; rfl) | (intro _; rw [if_pos (by omega)]) | (intro _; rw [if_neg (by omega)]) | (intro _; simp))⟩, hT0⟩⟩
       ·
        replace hc36 : ((O : Nat) : Int) ≠ 5 := (ne_of_beq_false hc36)
        refine zQ ?_
        refine zS [(65, .bool (((O : Nat) : Int) == 6)), (64, .bool (((O : Nat) : Int) == 6))] ?_
        refine zO (((O : Nat) : Int) == 6) (fun hc45 => ?_) (fun hc45 => ?_)
        ·
         replace hc45 : ((O : Nat) : Int) = 6 := (eq_of_beq hc45)
         refine zR ?_
         refine zS [(66, .int .u64 ((a : Nat) : Int)), (67, .int .u64 ((b : Nat) : Int)), (68, .int .u64 (IntKind.u64.wrap (BitVec.ofInt 64 ((a : Nat) : Int) &&& BitVec.ofInt 64 ((b : Nat) : Int)).toNat))] ?_
         rw [show IntKind.u64.wrap (BitVec.ofInt 64 ((a : Nat) : Int) &&& BitVec.ofInt 64 ((b : Nat) : Int)).toNat = ((a &&& b : Nat) : Int) from and_u a b ha_ hb_]
         have hu46 : a &&& b < 18446744073709551616 := and_lt ha_
         refine zS [(10, .int .u64 ((a &&& b : Nat) : Int))] ?_
         refine op_nil ?_
         refine zQ ?_
         refine zS [(101, .int .i64 ((wd : Nat) : Int)), (102, .int .u64 ((a &&& b : Nat) : Int))] ?_
         refine zC (rcutN_ok wd (a &&& b) _ (by omega) hu46) ?_
         rintro _ w47 ⟨rfl, hT48⟩
         have hT0 := hT0.t0 hT48
         have hu49 : cutN wd (a &&& b) < 18446744073709551616 := Nat.lt_of_lt_of_le (cutN_lt _ _) (pw64 (by omega))
         refine zS [(8, .int .u64 ((cutN wd (a &&& b) : Nat) : Int)), (9, .int .i64 0)] ?_
         refine op_nil ?_
         refine W_ret ?_
         exact ⟨_, Res_of (v := .tuple #[.int .u64 ((cutN wd (a &&& b) : Nat) : Int), .int .i64 0]) (by kernel_rfl), ⟨_, rfl, ⟨hu46, (by first | (intro q; exfalso; omega) | (intro _; rfl) | (intro _; omega) | (intro _; exact congrArg bitN (beq_nat a b)) | (intro _; exact congrArg bitN (lt_nat a b)) | (intro _ q; exfalso; omega) | (intro _ _; rfl) | (intro _; rw [if_pos (by omega)]) | (intro _; rw [if_neg (by omega)]) | (intro _; simp)), (by first | (intro q; exfalso; omega) | (intro _; rfl) | (intro _; omega) | (intro _; exact congrArg bitN (beq_nat a b)) | (intro _; exact congrArg bitN (lt_nat a b)) | (intro _ q; exfalso; omega) | (intro _ _; rfl) | (intro _; rw [if_pos (by omega)]) | (intro _; rw [if_neg (by omega)]) | (intro _; simp)), (by first | (intro q; exfalso; omega) | (intro _; rfl) | (intro _; omega) | (intro _; exact congrArg bitN (beq_nat a b)) | (intro _; exact congrArg bitN (lt_nat a b)) | (intro _ q; exfalso; omega) | (intro _ _; rfl) | (intro _; rw [if_pos (by omega)]) | (intro _; rw [if_neg (by omega)]) | (intro _; simp)), (by first | (intro q; exfalso; omega) | (intro _; rfl) | (intro _; omega) | (intro _; exact congrArg bitN (beq_nat a b)) | (intro _; exact congrArg bitN (lt_nat a b)) | (intro _ q; exfalso; omega) | (intro _ _; rfl) | (intro _; rw [if_pos (by omega)]) | (intro _; rw [if_neg (by omega)]) | (intro _; simp)), (by first | (intro q; exfalso; omega) | (intro _; rfl) | (intro _; omega) | (intro _; exact congrArg bitN (beq_nat a b)) | (intro _; exact congrArg bitN (lt_nat a b)) | (intro _ q; exfalso; omega) | (intro _ _; rfl) | (intro _; rw [if_pos (by omega)]) | (intro _; rw [if_neg (by omega)]) | (intro _; simp)), (by first | (intro q; exfalso; omega) | (intro _; rfl) | (intro _; omega) | (intro _; exact congrArg bitN (beq_nat a b)) | (intro _; exact congrArg bitN (lt_nat a b)) | (intro _ q; exfalso; omega) | (intro _ _; rfl) | (intro _; rw [if_pos (by omega)]) | (intro _; rw [if_neg (by omega)]) | (intro _; simp)), (by first | (intro q; exfalso; omega) | (intro _; rfl) | (intro _; omega) | (intro _; exact congrArg bitN (beq_nat a b)) | (intro _; exact congrArg bitN (lt_nat a b)) | (intro _ q; exfalso; omega) | (intro _ _; rfl) | (intro _; rw [if_pos (by omega)]) | (intro _; rw [if_neg (by omega)]) | (intro _; simp)), (by first | (intro q; exfalso; omega) | (intro _; rfl) | (intro _; omega) | (intro _; exact congrArg bitN (beq_nat a b)) | (intro _; exact congrArg bitN (lt_nat a b)) | (intro _ q; exfalso; omega) | (intro _ _; rfl) | (intro _; rw [if_pos (by omega)]) | (intro _; rw [if_neg (by omega)]) | (intro _; simp)), (by first | (intro q; exfalso; omega) | (intro _; rfl) | (intro _; omega) | (intro _; exact congrArg bitN (beq_nat a b)) | (intro _; exact congrArg bitN (lt_nat a b)) | (intro _ q; exfalso; omega) | (intro _ _; rfl) | (intro _; rw [if_pos (by omega)]) | (intro _; rw [if_neg (by omega)]) | (intro _; simp)), (by first | (intro q; exfalso; omega) | (intro _; rfl) | (intro _; omega) | (intro _; exact congrArg bitN (beq_nat a b)) | (intro _; exact congrArg bitN (lt_nat a b)) | (intro _ q; exfalso; omega) | (intro _ _; rfl) | (intro _; rw [if_pos (by omega)]) | (intro _; rw [if_neg (by omega)]) | (intro _; simp)), (by first | (intro q; exfalso; omega) | (intro _; rfl) | (intro _; omega) | (intro _; exact congrArg bitN (beq_nat a b)) | (intro _; exact congrArg bitN (lt_nat a b)) | (intro _ q; exfalso; omega) | (intro _ _; rfl) | (intro _; rw [if_pos (by omega)]) | (intro _; rw [if_neg (by omega)]) | (intro _; simp))⟩, hT0⟩⟩
        ·
         replace hc45 : ((O : Nat) : Int) ≠ 6 := (ne_of_beq_false hc45)
         refine zQ ?_
         refine zS [(70, .bool (((O : Nat) : Int) == 7)), (69, .bool (((O : Nat) : Int) == 7))] ?_
         refine zO (((O : Nat) : Int) == 7) (fun hc50 => ?_) (fun hc50 => ?_)
         ·
          replace hc50 : ((O : Nat) : Int) = 7 := (eq_of_beq hc50)
          refine zR ?_
          refine zS [(71, .int .u64 ((a : Nat) : Int)), (72, .int .u64 ((b : Nat) : Int)), (73, .int .u64 (IntKind.u64.wrap (BitVec.ofInt 64 ((a : Nat) : Int) ||| BitVec.ofInt 64 ((b : Nat) : Int)).toNat))] ?_
          rw [show IntKind.u64.wrap (BitVec.ofInt 64 ((a : Nat) : Int) ||| BitVec.ofInt 64 ((b : Nat) : Int)).toNat = ((a ||| b : Nat) : Int) from or_u a b ha_ hb_]
          have hu51 : a ||| b < 18446744073709551616 := or_lt ha_ hb_
          refine zS [(10, .int .u64 ((a ||| b : Nat) : Int))] ?_
          refine op_nil ?_
          refine zQ ?_
          refine zS [(101, .int .i64 ((wd : Nat) : Int)), (102, .int .u64 ((a ||| b : Nat) : Int))] ?_
          refine zC (rcutN_ok wd (a ||| b) _ (by omega) hu51) ?_
          rintro _ w52 ⟨rfl, hT53⟩
          have hT0 := hT0.t0 hT53
          have hu54 : cutN wd (a ||| b) < 18446744073709551616 := Nat.lt_of_lt_of_le (cutN_lt _ _) (pw64 (by omega))
          refine zS [(8, .int .u64 ((cutN wd (a ||| b) : Nat) : Int)), (9, .int .i64 0)] ?_
          refine op_nil ?_
          refine W_ret ?_
          exact ⟨_, Res_of (v := .tuple #[.int .u64 ((cutN wd (a ||| b) : Nat) : Int), .int .i64 0]) (by kernel_rfl), ⟨_, rfl, ⟨hu51, (by first | (intro q; exfalso; omega) | (intro _; rfl) | (intro _; omega) | (intro _; exact congrArg bitN (beq_nat a b)) | (intro _; exact congrArg bitN (lt_nat a b)) | (intro _ q; exfalso; omega) | (intro _ _; rfl) | (intro _; rw [if_pos (by omega)]) | (intro _; rw [if_neg (by omega)]) | (intro _; simp)), (by first | (intro q; exfalso; omega) | (intro _; rfl) | (intro _; omega) | (intro _; exact congrArg bitN (beq_nat a b)) | (intro _; exact congrArg bitN (lt_nat a b)) | (intro _ q; exfalso; omega) | (intro _ _; rfl) | (intro _; rw [if_pos (by omega)]) | (intro _; rw [if_neg (by omega)]) | (intro _; simp)), (by first | (intro q; exfalso; omega) | (intro _; rfl) | (intro _; omega) | (intro _; exact congrArg bitN (beq_nat a b)) | (intro _; exact congrArg bitN (lt_nat a b)) | (intro _ q; exfalso; omega) | (intro _ _; rfl) | (intro _; rw [if_pos (by omega)]) | (intro _; rw [if_neg (by omega)]) | (intro _; simp)), (by first | (intro q; exfalso; omega) | (intro _; rfl) | (intro _; omega) | (intro _; exact congrArg bitN (beq_nat a b)) | (intro _; exact congrArg bitN (lt_nat a b)) | (intro _ q; exfalso; omega) | (intro _ _; rfl) | (intro _; rw [if_pos (by omega)]) | (intro _; rw [if_neg (by omega)]) | (intro _; simp)), (by first | (intro q; exfalso; omega) | (intro _; rfl) | (intro _; omega) | (intro _; exact congrArg bitN (beq_nat a b)) | (intro _; exact congrArg bitN (lt_nat a b)) | (intro _ q; exfalso; omega) | (intro _ _; rfl) | (intro _; rw [if_pos (by omega)]) | (intro _; rw [if_neg (by omega)]) | (intro _; simp)), (by first | (intro q; exfalso; omega) | (intro _; rfl) | (intro _; omega) | (intro _; exact congrArg bitN (beq_nat a b)) | (intro _; exact congrArg bitN (lt_nat a b)) | (intro _ q; exfalso; omega) | (intro _ _; rfl) | (intro _; rw [if_pos (by omega)]) | (intro _; rw [if_neg (by omega)]) | (intro _; simp)), (by first | (intro q; exfalso; omega) | (intro _; rfl) | (intro _; omega) | (intro _; exact congrArg bitN (beq_nat a b)) | (intro _; exact congrArg bitN (lt_nat a b)) | (intro _ q; exfalso; omega) | (intro _ _; rfl) | (intro _; rw [if_pos (by omega)]) | (intro _; rw [if_neg (by omega)]) | (intro _; simp)), (by first | (intro q; exfalso; omega) | (intro _; rfl) | (intro _; omega) | (intro _; exact congrArg bitN (beq_nat a b)) | (intro _; exact congrArg bitN (lt_nat a b)) | (intro _ q; exfalso; omega) | (intro _ _; rfl) | (intro _; rw [if_pos (by omega)]) | (intro _; rw [if_neg (by omega)]) | (intro _; simp)), (by first | (intro q; exfalso; omega) | (intro _; rfl) | (intro _; omega) | (intro _; exact congrArg bitN (beq_nat a b)) | (intro _; exact congrArg bitN (lt_nat a b)) | (intro _ q; exfalso; omega) | (intro _ _; rfl) | (intro _; rw [if_pos (by omega)]) | (intro _; rw [if_neg (by omega)]) | (intro _; simp)), (by first | (intro q; exfalso; omega) | (intro _; rfl) | (intro _; omega) | (intro _; exact congrArg bitN (beq_nat a b)) | (intro _; exact congrArg bitN (lt_nat a b)) | (intro _ q; exfalso; omega) | (intro _ _; rfl) | (intro _; rw [if_pos (by omega)]) | (intro _; rw [if_neg (by omega)]) | (intro _; simp)), (by first | (intro q; exfalso; omega) | (intro _; rfl) | (intro _; omega) | (intro _; exact congrArg bitN (beq_nat a b)) | (intro _; exact congrArg bitN (lt_nat a b)) | (intro _ q; exfalso; omega) | (intro _ _; rfl) | (intro _; rw [if_pos (by omega)]) | (intro _; rw [if_neg (by omega)]) | (intro _; simp))⟩, hT0⟩⟩
         ·
          replace hc50 : ((O : Nat) : Int) ≠ 7 := (ne_of_beq_false hc50)
          refine zQ ?_
          refine zS [(75, .bool (((O : Nat) : Int) == 8)), (74, .bool (((O : Nat) : Int) == 8))] ?_
          refine zO (((O : Nat) : Int) == 8) (fun hc55 => ?_) (fun hc55 => ?_)
          ·
           replace hc55 : ((O : Nat) : Int) = 8 := (eq_of_beq hc55)
           refine zR ?_
           refine zS [(76, .int .u64 ((a : Nat) : Int)), (77, .int .u64 ((b : Nat) : Int)), (78, .int .u64 (IntKind.u64.wrap (BitVec.ofInt 64 ((a : Nat) : Int) ^^^ BitVec.ofInt 64 ((b : Nat) : Int)).toNat))] ?_
           rw [show IntKind.u64.wrap (BitVec.ofInt 64 ((a : Nat) : Int) ^^^ BitVec.ofInt 64 ((b : Nat) : Int)).toNat = ((a ^^^ b : Nat) : Int) from xor_u a b ha_ hb_]
           have hu56 : a ^^^ b < 18446744073709551616 := xor_lt ha_ hb_
           refine zS [(10, .int .u64 ((a ^^^ b : Nat) : Int))] ?_
           refine op_nil ?_
           refine zQ ?_
           refine zS [(101, .int .i64 ((wd : Nat) : Int)), (102, .int .u64 ((a ^^^ b : Nat) : Int))] ?_
           refine zC (rcutN_ok wd (a ^^^ b) _ (by omega) hu56) ?_
           rintro _ w57 ⟨rfl, hT58⟩
           have hT0 := hT0.t0 hT58
           have hu59 : cutN wd (a ^^^ b) < 18446744073709551616 := Nat.lt_of_lt_of_le (cutN_lt _ _) (pw64 (by omega))
           refine zS [(8, .int .u64 ((cutN wd (a ^^^ b) : Nat) : Int)), (9, .int .i64 0)] ?_
           refine op_nil ?_
           refine W_ret ?_
           exact ⟨_, Res_of (v := .tuple #[.int .u64 ((cutN wd (a ^^^ b) : Nat) : Int), .int .i64 0]) (by kernel_rfl), ⟨_, rfl, ⟨hu56, (by first | (intro q; exfalso; omega) | (intro _; rfl) | (intro _; omega) | (intro _; exact congrArg bitN (beq_nat a b)) | (intro _; exact congrArg bitN (lt_nat a b)) | (intro _ q; exfalso; omega) | (intro _ _; rfl) | (intro _; rw [if_pos (by omega)]) | (intro _; rw [if_neg (by omega)]) | (intro _; simp)), (by first | (intro q; exfalso; omega) | (intro _; rfl) | (intro _; omega) | (intro _; exact congrArg bitN (beq_nat a b)) | (intro _; exact congrArg bitN (lt_nat a b)) | (intro _ q; exfalso; omega) | (intro _ _; rfl) | (intro _; rw [if_pos (by omega)]) | (intro _; rw [if_neg (by omega)]) | (intro _; simp)), (by first | (intro q; exfalso; omega) | (intro _; rfl) | (intro _; omega) | (intro _; exact congrArg bitN (beq_nat a b)) | (intro _; exact congrArg bitN (lt_nat a b)) | (intro _ q; exfalso; omega) | (intro _ _; rfl) | (intro _; rw [if_pos (by omega)]) | (intro _; rw [if_neg (by omega)]) | (intro _; simp)), (by first | (intro q; exfalso; omega) | (intro _; rfl) | (intro _; omega) | (intro _; exact congrArg bitN (beq_nat a b)) | (intro _; exact congrArg bitN (lt_nat a b)) | (intro _ q; exfalso; omega) | (intro _ _; rfl) | (intro _; rw [if_pos (by omega)]) | (intro _; rw [if_neg (by omega)]) | (intro _; simp)), (by first | (intro q; exfalso; omega) | (intro _; rfl) | (intro _; omega) | (intro _; exact congrArg bitN (beq_nat a b)) | (intro _; exact congrArg bitN (lt_nat a b)) | (intro _ q; exfalso; omega) | (intro _ _; rfl) | (intro _; rw [if_pos (by omega)]) | (intro _; rw [if_neg (by omega)]) | (intro _; simp)), (by first | (intro q; exfalso; omega) | (intro _; rfl) | (intro _; omega) | (intro _; exact congrArg bitN (beq_nat a b)) | (intro _; exact congrArg bitN (lt_nat a b)) | (intro _ q; exfalso; omega) | (intro _ _; rfl) | (intro _; rw [if_pos (by omega)]) | (intro _; rw [if_neg (by omega)]) | (intro _; simp)), (by first | (intro q; exfalso; omega) | (intro _; rfl) | (intro _; omega) | (intro _; exact congrArg bitN (beq_nat a b)) | (intro _; exact congrArg bitN (lt_nat a b)) | (intro _ q; exfalso; omega) | (intro _ _; rfl) | (intro _; rw [if_pos (by omega)]) | (intro _; rw [if_neg (by omega)]) | (intro _; simp)), (by first | (intro q; exfalso; omega) | (intro _; rfl) | (intro _; omega) | (intro _; exact congrArg bitN (beq_nat a b)) | (intro _; exact congrArg bitN (lt_nat a b)) | (intro _ q; exfalso; omega) | (intro _ _; rfl) | (intro _; rw [if_pos (by omega)]) | (intro _; rw [if_neg (by omega)]) | (intro _; simp)), (by first | (intro q; exfalso; omega) | (intro _; rfl) | (intro _; omega) | (intro _; exact congrArg bitN (beq_nat a b)) | (intro _; exact congrArg bitN (lt_nat a b)) | (intro _ q; exfalso; omega) | (intro _ _; rfl) | (intro _; rw [if_pos (by omega)]) | (intro _; rw [if_neg (by omega)]) | (intro _; simp)), (by first | (intro q; exfalso; omega) | (intro _; rfl) | (intro _; omega) | (intro _; exact congrArg bitN (beq_nat a b)) | (intro _; exact congrArg bitN (lt_nat a b)) | (intro _ q; exfalso; omega) | (intro _ _; rfl) | (intro _; rw [if_pos (by omega)]) | (intro _; rw [if_neg (by omega)]) | (intro _; simp)), (by first | (intro q; exfalso; omega) | (intro _; rfl) | (intro _; omega) | (intro _; exact congrArg bitN (beq_nat a b)) | (intro _; exact congrArg bitN (lt_nat a b)) | (intro _ q; exfalso; omega) | (intro _ _; rfl) | (intro _; rw [if_pos (by omega)]) | (intro _; rw [if_neg (by omega)]) | (intro _; simp))⟩, hT0⟩⟩
          ·
           replace hc55 : ((O : Nat) : Int) ≠ 8 := (ne_of_beq_false hc55)
           refine zQ ?_
           refine zS [(80, .bool (((O : Nat) : Int) == 12)), (79, .bool (((O : Nat) : Int) == 12))] ?_
           refine zO (((O : Nat) : Int) == 12) (fun hc60 => ?_) (fun hc60 => ?_)
           ·
            replace hc60 : ((O : Nat) : Int) = 12 := (eq_of_beq hc60)
            refine zR ?_
            refine zS [(81, .int .u64 ((a : Nat) : Int)), (82, .int .u64 ((b : Nat) : Int)), (83, .bool (((a : Nat) : Int) == ((b : Nat) : Int)))] ?_
            refine zC (bit1_ok (((a : Nat) : Int) == ((b : Nat) : Int)) _) ?_
            rintro _ w61 ⟨rfl, hT62⟩
            have hT0 := hT0.t0 hT62
            have hu63 := bitN_lt (((a : Nat) : Int) == ((b : Nat) : Int))
            have hb164 := bitN_u (((a : Nat) : Int) == ((b : Nat) : Int))
            refine zS [(10, .int .u64 ((bitN (((a : Nat) : Int) == ((b : Nat) : Int)) : Nat) : Int))] ?_
            refine op_nil ?_
            refine zQ ?_
            refine zS [(101, .int .i64 ((wd : Nat) : Int)), (102, .int .u64 ((bitN (((a : Nat) : Int) == ((b : Nat) : Int)) : Nat) : Int))] ?_
            refine zC (rcutN_ok wd (bitN (((a : Nat) : Int) == ((b : Nat) : Int))) _ (by omega) hu63) ?_
            rintro _ w65 ⟨rfl, hT66⟩
            have hT0 := hT0.t0 hT66
            have hu67 : cutN wd (bitN (((a : Nat) : Int) == ((b : Nat) : Int))) < 18446744073709551616 := Nat.lt_of_lt_of_le (cutN_lt _ _) (pw64 (by omega))
            refine zS [(8, .int .u64 ((cutN wd (bitN (((a : Nat) : Int) == ((b : Nat) : Int))) : Nat) : Int)), (9, .int .i64 0)] ?_
            refine op_nil ?_
            refine W_ret ?_
            exact ⟨_, Res_of (v := .tuple #[.int .u64 ((cutN wd (bitN (((a : Nat) : Int) == ((b : Nat) : Int))) : Nat) : Int), .int .i64 0]) (by kernel_rfl), ⟨_, rfl, ⟨hu63, (by first | (intro q; exfalso; omega) | (intro _; rfl) | (intro _; omega) | (intro _; exact congrArg bitN (beq_nat a b)) | (intro _; exact congrArg bitN (lt_nat a b)) | (intro _ q; exfalso; omega) | (intro _ _; rfl) | (intro _; rw [if_pos (by omega)]) | (intro _; rw [if_neg (by omega)]) | (intro _; simp)), (by first | (intro q; exfalso; omega) | (intro _; rfl) | (intro _; omega) | (intro _; exact congrArg bitN (beq_nat a b)) | (intro _; exact congrArg bitN (lt_nat a b)) | (intro _ q; exfalso; omega) | (intro _ _; rfl) | (intro _; rw [if_pos (by omega)]) | (intro _; rw [if_neg (by omega)]) | (intro _; simp)), (by first | (intro q; exfalso; omega) | (intro _; rfl) | (intro _; omega) | (intro _; exact congrArg bitN (beq_nat a b)) | (intro _; exact congrArg bitN (lt_nat a b)) | (intro _ q; exfalso; omega) | (intro _ _; rfl) | (intro _; rw [if_pos (by omega)]) | (intro _; rw [if_neg (by omega)]) | (intro _; simp)), (by first | (intro q; exfalso; omega) | (intro _; rfl) | (intro _; omega) | (intro _; exact congrArg bitN (beq_nat a b)) | (intro _; exact congrArg bitN (lt_nat a b)) | (intro _ q; exfalso; omega) | (intro _ _; rfl) | (intro _; rw [if_pos (by omega)]) | (intro _; rw [if_neg (by omega)]) | (intro _; simp)), (by first | (intro q; exfalso; omega) | (intro _; rfl) | (intro _; omega) | (intro _; exact congrArg bitN (beq_nat a b)) | (intro _; exact congrArg bitN (lt_nat a b)) | (intro _ q; exfalso; omega) | (intro _ _; rfl) | (intro _; rw [if_pos (by omega)]) | (intro _; rw [if_neg (by omega)]) | (intro _; simp)), (by first | (intro q; exfalso; omega) | (intro _; rfl) | (intro _; omega) | (intro _; exact congrArg bitN (beq_nat a b)) | (intro _; exact congrArg bitN (lt_nat a b)) | (intro _ q; exfalso; omega) | (intro _ _; rfl) | (intro _; rw [if_pos (by omega)]) | (intro _; rw [if_neg (by omega)]) | (intro _; simp)), (by first | (intro q; exfalso; omega) | (intro _; rfl) | (intro _; omega) | (intro _; exact congrArg bitN (beq_nat a b)) | (intro _; exact congrArg bitN (lt_nat a b)) | (intro _ q; exfalso; omega) | (intro _ _; rfl) | (intro _; rw [if_pos (by omega)]) | (intro _; rw [if_neg (by omega)]) | (intro _; simp)), (by first | (intro q; exfalso; omega) | (intro _; rfl) | (intro _; omega) | (intro _; exact congrArg bitN (beq_nat a b)) | (intro _; exact congrArg bitN (lt_nat a b)) | (intro _ q; exfalso; omega) | (intro _ _; rfl) | (intro _; rw [if_pos (by omega)]) | (intro _; rw [if_neg (by omega)]) | (intro _; simp)), (by first | (intro q; exfalso; omega) | (intro _; rfl) | (intro _; omega) | (intro _; exact congrArg bitN (beq_nat a b)) | (intro _; exact congrArg bitN (lt_nat a b)) | (intro _ q; exfalso; omega) | (intro _ _; rfl) | (intro _; rw [if_pos (by omega)]) | (intro _; rw [if_neg (by omega)]) | (intro _; simp)), (by first | (intro q; exfalso; omega) | (intro _; rfl) | (intro _; omega) | (intro _; exact congrArg bitN (beq_nat a b)) | (intro _; exact congrArg bitN (lt_nat a b)) | (intro _ q; exfalso; omega) | (intro _ _; rfl) | (intro _; rw [if_pos (by omega)]) | (intro _; rw [if_neg (by omega)]) | (intro _; simp)), (by first | (intro q; exfalso; omega) | (intro _; rfl) | (intro _; omega) | (intro _; exact congrArg bitN (beq_nat a b)) | (intro _; exact congrArg bitN (lt_nat a b)) | (intro _ q; exfalso; omega) | (intro _ _; rfl) | (intro _; rw [if_pos (by omega)]) | (intro _; rw [if_neg (by omega)]) | (intro _; simp))⟩, hT0⟩⟩
           ·
            replace hc60 : ((O : Nat) : Int) ≠ 12 := (ne_of_beq_false hc60)
            refine zQ ?_
            refine zS [(86, .bool (((O : Nat) : Int) == 13)), (85, .bool (((O : Nat) : Int) == 13))] ?_
            refine zO (((O : Nat) : Int) == 13) (fun hc68 => ?_) (fun hc68 => ?_)
            ·
             replace hc68 : ((O : Nat) : Int) = 13 := (eq_of_beq hc68)
             refine zR ?_
             refine zS [(87, .int .u64 ((a : Nat) : Int)), (88, .int .u64 ((b : Nat) : Int)), (89, .bool (decide (((a : Nat) : Int) < ((b : Nat) : Int))))] ?_
             refine zC (bit1_ok (decide (((a : Nat) : Int) < ((b : Nat) : Int))) _) ?_
             rintro _ w69 ⟨rfl, hT70⟩
             have hT0 := hT0.t0 hT70
             have hu71 := bitN_lt (decide (((a : Nat) : Int) < ((b : Nat) : Int)))
             have hb172 := bitN_u (decide (((a : Nat) : Int) < ((b : Nat) : Int)))
             refine zS [(10, .int .u64 ((bitN (decide (((a : Nat) : Int) < ((b : Nat) : Int))) : Nat) : Int))] ?_
             refine op_nil ?_
             refine zQ ?_
             refine zS [(101, .int .i64 ((wd : Nat) : Int)), (102, .int .u64 ((bitN (decide (((a : Nat) : Int) < ((b : Nat) : Int))) : Nat) : Int))] ?_
             refine zC (rcutN_ok wd (bitN (decide (((a : Nat) : Int) < ((b : Nat) : Int)))) _ (by omega) hu71) ?_
             rintro _ w73 ⟨rfl, hT74⟩
             have hT0 := hT0.t0 hT74
             have hu75 : cutN wd (bitN (decide (((a : Nat) : Int) < ((b : Nat) : Int)))) < 18446744073709551616 := Nat.lt_of_lt_of_le (cutN_lt _ _) (pw64 (by omega))
             refine zS [(8, .int .u64 ((cutN wd (bitN (decide (((a : Nat) : Int) < ((b : Nat) : Int)))) : Nat) : Int)), (9, .int .i64 0)] ?_
             refine op_nil ?_
             refine W_ret ?_
             exact ⟨_, Res_of (v := .tuple #[.int .u64 ((cutN wd (bitN (decide (((a : Nat) : Int) < ((b : Nat) : Int)))) : Nat) : Int), .int .i64 0]) (by kernel_rfl), ⟨_, rfl, ⟨hu71, (by first | (intro q; exfalso; omega) | (intro _; rfl) | (intro _; omega) | (intro _; exact congrArg bitN (beq_nat a b)) | (intro _; exact congrArg bitN (lt_nat a b)) | (intro _ q; exfalso; omega) | (intro _ _; rfl) | (intro _; rw [if_pos (by omega)]) | (intro _; rw [if_neg (by omega)]) | (intro _; simp)), (by first | (intro q; exfalso; omega) | (intro _; rfl) | (intro _; omega) | (intro _; exact congrArg bitN (beq_nat a b)) | (intro _; exact congrArg bitN (lt_nat a b)) | (intro _ q; exfalso; omega) | (intro _ _; rfl) | (intro _; rw [if_pos (by omega)]) | (intro _; rw [if_neg (by omega)]) | (intro _; simp)), (by first | (intro q; exfalso; omega) | (intro _; rfl) | (intro _; omega) | (intro _; exact congrArg bitN (beq_nat a b)) | (intro _; exact congrArg bitN (lt_nat a b)) | (intro _ q; exfalso; omega) | (intro _ _; rfl) | (intro _; rw [if_pos (by omega)]) | (intro _; rw [if_neg (by omega)]) | (intro _; simp)), (by first | (intro q; exfalso; omega) | (intro _; rfl) | (intro _; omega) | (intro _; exact congrArg bitN (beq_nat a b)) | (intro _; exact congrArg bitN (lt_nat a b)) | (intro _ q; exfalso; omega) | (intro _ _; rfl) | (intro _; rw [if_pos (by omega)]) | (intro _; rw [if_neg (by omega)]) | (intro _; simp)), (by first | (intro q; exfalso; omega) | (intro _; rfl) | (intro _; omega) | (intro _; exact congrArg bitN (beq_nat a b)) | (intro _; exact congrArg bitN (lt_nat a b)) | (intro _ q; exfalso; omega) | (intro _ _; rfl) | (intro _; rw [if_pos (by omega)]) | (intro _; rw [if_neg (by omega)]) | (intro _; simp)), (by first | (intro q; exfalso; omega) | (intro _; rfl) | (intro _; omega) | (intro _; exact congrArg bitN (beq_nat a b)) | (intro _; exact congrArg bitN (lt_nat a b)) | (intro _ q; exfalso; omega) | (intro _ _; rfl) | (intro _; rw [if_pos (by omega)]) | (intro _; rw [if_neg (by omega)]) | (intro _; simp)), (by first | (intro q; exfalso; omega) | (intro _; rfl) | (intro _; omega) | (intro _; exact congrArg bitN (beq_nat a b)) | (intro _; exact congrArg bitN (lt_nat a b)) | (intro _ q; exfalso; omega) | (intro _ _; rfl) | (intro _; rw [if_pos (by omega)]) | (intro _; rw [if_neg (by omega)]) | (intro _; simp)), (by first | (intro q; exfalso; omega) | (intro _; rfl) | (intro _; omega) | (intro _; exact congrArg bitN (beq_nat a b)) | (intro _; exact congrArg bitN (lt_nat a b)) | (intro _ q; exfalso; omega) | (intro _ _; rfl) | (intro _; rw [if_pos (by omega)]) | (intro _; rw [if_neg (by omega)]) | (intro _; simp)), (by first | (intro q; exfalso; omega) | (intro _; rfl) | (intro _; omega) | (intro _; exact congrArg bitN (beq_nat a b)) | (intro _; exact congrArg bitN (lt_nat a b)) | (intro _ q; exfalso; omega) | (intro _ _; rfl) | (intro _; rw [if_pos (by omega)]) | (intro _; rw [if_neg (by omega)]) | (intro _; simp)), (by first | (intro q; exfalso; omega) | (intro _; rfl) | (intro _; omega) | (intro _; exact congrArg bitN (beq_nat a b)) | (intro _; exact congrArg bitN (lt_nat a b)) | (intro _ q; exfalso; omega) | (intro _ _; rfl) | (intro _; rw [if_pos (by omega)]) | (intro _; rw [if_neg (by omega)]) | (intro _; simp)), (by first | (intro q; exfalso; omega) | (intro _; rfl) | (intro _; omega) | (intro _; exact congrArg bitN (beq_nat a b)) | (intro _; exact congrArg bitN (lt_nat a b)) | (intro _ q; exfalso; omega) | (intro _ _; rfl) | (intro _; rw [if_pos (by omega)]) | (intro _; rw [if_neg (by omega)]) | (intro _; simp))⟩, hT0⟩⟩
            ·
             replace hc68 : ((O : Nat) : Int) ≠ 13 := (ne_of_beq_false hc68)
             refine zQ ?_
             refine zS [(92, .bool (((O : Nat) : Int) == 14)), (91, .bool (((O : Nat) : Int) == 14))] ?_
             refine zO (((O : Nat) : Int) == 14) (fun hc76 => ?_) (fun hc76 => ?_)
             ·
              replace hc76 : ((O : Nat) : Int) = 14 := (eq_of_beq hc76)
              refine zR ?_
              refine zS [(93, .int .i64 ((wd : Nat) : Int)), (94, .int .u64 ((a : Nat) : Int))] ?_
              refine zC (signed_ok wd a _ (by omega) (by omega) ha) ?_
              rintro _ w77 ⟨rfl, hT78⟩
              have hT0 := hT0.t0 hT78
              refine zS [(96, .int .i64 ((wd : Nat) : Int)), (97, .int .u64 ((b : Nat) : Int))] ?_
              refine zC (signed_ok wd b _ (by omega) (by omega) hb) ?_
              rintro _ w79 ⟨rfl, hT80⟩
              have hT0 := hT0.t0 hT80
              refine zS [(99, .bool (decide (IntKind.i64.wrap ((sxN wd a : Nat) : Int) < IntKind.i64.wrap ((sxN wd b : Nat) : Int))))] ?_
              refine zC (bit1_ok (decide (IntKind.i64.wrap ((sxN wd a : Nat) : Int) < IntKind.i64.wrap ((sxN wd b : Nat) : Int))) _) ?_
              rintro _ w81 ⟨rfl, hT82⟩
              have hT0 := hT0.t0 hT82
              have hu83 := bitN_lt (decide (IntKind.i64.wrap ((sxN wd a : Nat) : Int) < IntKind.i64.wrap ((sxN wd b : Nat) : Int)))
              have hb184 := bitN_u (decide (IntKind.i64.wrap ((sxN wd a : Nat) : Int) < IntKind.i64.wrap ((sxN wd b : Nat) : Int)))
              refine zS [(10, .int .u64 ((bitN (decide (IntKind.i64.wrap ((sxN wd a : Nat) : Int) < IntKind.i64.wrap ((sxN wd b : Nat) : Int))) : Nat) : Int))] ?_
              refine op_nil ?_
              refine zQ ?_
              refine zS [(101, .int .i64 ((wd : Nat) : Int)), (102, .int .u64 ((bitN (decide (IntKind.i64.wrap ((sxN wd a : Nat) : Int) < IntKind.i64.wrap ((sxN wd b : Nat) : Int))) : Nat) : Int))] ?_
              refine zC (rcutN_ok wd (bitN (decide (IntKind.i64.wrap ((sxN wd a : Nat) : Int) < IntKind.i64.wrap ((sxN wd b : Nat) : Int)))) _ (by omega) hu83) ?_
              rintro _ w85 ⟨rfl, hT86⟩
              have hT0 := hT0.t0 hT86
              have hu87 : cutN wd (bitN (decide (IntKind.i64.wrap ((sxN wd a : Nat) : Int) < IntKind.i64.wrap ((sxN wd b : Nat) : Int)))) < 18446744073709551616 := Nat.lt_of_lt_of_le (cutN_lt _ _) (pw64 (by omega))
              refine zS [(8, .int .u64 ((cutN wd (bitN (decide (IntKind.i64.wrap ((sxN wd a : Nat) : Int) < IntKind.i64.wrap ((sxN wd b : Nat) : Int)))) : Nat) : Int)), (9, .int .i64 0)] ?_
              refine op_nil ?_
              refine W_ret ?_
              exact ⟨_, Res_of (v := .tuple #[.int .u64 ((cutN wd (bitN (decide (IntKind.i64.wrap ((sxN wd a : Nat) : Int) < IntKind.i64.wrap ((sxN wd b : Nat) : Int)))) : Nat) : Int), .int .i64 0]) (by kernel_rfl), ⟨_, rfl, ⟨hu83, (by first | (intro q; exfalso; omega) | (intro _; rfl) | (intro _; omega) | (intro _; exact congrArg bitN (beq_nat a b)) | (intro _; exact congrArg bitN (lt_nat a b)) | (intro _ q; exfalso; omega) | (intro _ _; rfl) | (intro _; rw [if_pos (by omega)]) | (intro _; rw [if_neg (by omega)]) | (intro _; simp)), (by first | (intro q; exfalso; omega) | (intro _; rfl) | (intro _; omega) | (intro _; exact congrArg bitN (beq_nat a b)) | (intro _; exact congrArg bitN (lt_nat a b)) | (intro _ q; exfalso; omega) | (intro _ _; rfl) | (intro _; rw [if_pos (by omega)]) | (intro _; rw [if_neg (by omega)]) | (intro _; simp)), (by first | (intro q; exfalso; omega) | (intro _; rfl) | (intro _; omega) | (intro _; exact congrArg bitN (beq_nat a b)) | (intro _; exact congrArg bitN (lt_nat a b)) | (intro _ q; exfalso; omega) | (intro _ _; rfl) | (intro _; rw [if_pos (by omega)]) | (intro _; rw [if_neg (by omega)]) | (intro _; simp)), (by first | (intro q; exfalso; omega) | (intro _; rfl) | (intro _; omega) | (intro _; exact congrArg bitN (beq_nat a b)) | (intro _; exact congrArg bitN (lt_nat a b)) | (intro _ q; exfalso; omega) | (intro _ _; rfl) | (intro _; rw [if_pos (by omega)]) | (intro _; rw [if_neg (by omega)]) | (intro _; simp)), (by first | (intro q; exfalso; omega) | (intro _; rfl) | (intro _; omega) | (intro _; exact congrArg bitN (beq_nat a b)) | (intro _; exact congrArg bitN (lt_nat a b)) | (intro _ q; exfalso; omega) | (intro _ _; rfl) | (intro _; rw [if_pos (by omega)]) | (intro _; rw [if_neg (by omega)]) | (intro _; simp)), (by first | (intro q; exfalso; omega) | (intro _; rfl) | (intro _; omega) | (intro _; exact congrArg bitN (beq_nat a b)) | (intro _; exact congrArg bitN (lt_nat a b)) | (intro _ q; exfalso; omega) | (intro _ _; rfl) | (intro _; rw [if_pos (by omega)]) | (intro _; rw [if_neg (by omega)]) | (intro _; simp)), (by first | (intro q; exfalso; omega) | (intro _; rfl) | (intro _; omega) | (intro _; exact congrArg bitN (beq_nat a b)) | (intro _; exact congrArg bitN (lt_nat a b)) | (intro _ q; exfalso; omega) | (intro _ _; rfl) | (intro _; rw [if_pos (by omega)]) | (intro _; rw [if_neg (by omega)]) | (intro _; simp)), (by first | (intro q; exfalso; omega) | (intro _; rfl) | (intro _; omega) | (intro _; exact congrArg bitN (beq_nat a b)) | (intro _; exact congrArg bitN (lt_nat a b)) | (intro _ q; exfalso; omega) | (intro _ _; rfl) | (intro _; rw [if_pos (by omega)]) | (intro _; rw [if_neg (by omega)]) | (intro _; simp)), (by first | (intro q; exfalso; omega) | (intro _; rfl) | (intro _; omega) | (intro _; exact congrArg bitN (beq_nat a b)) | (intro _; exact congrArg bitN (lt_nat a b)) | (intro _ q; exfalso; omega) | (intro _ _; rfl) | (intro _; rw [if_pos (by omega)]) | (intro _; rw [if_neg (by omega)]) | (intro _; simp)), (by first | (intro q; exfalso; omega) | (intro _; rfl) | (intro _; omega) | (intro _; exact congrArg bitN (beq_nat a b)) | (intro _; exact congrArg bitN (lt_nat a b)) | (intro _ q; exfalso; omega) | (intro _ _; rfl) | (intro _; rw [if_pos (by omega)]) | (intro _; rw [if_neg (by omega)]) | (intro _; simp)), (by first | (intro q; exfalso; omega) | (intro _; rfl) | (intro _; omega) | (intro _; exact congrArg bitN (beq_nat a b)) | (intro _; exact congrArg bitN (lt_nat a b)) | (intro _ q; exfalso; omega) | (intro _ _; rfl) | (intro _; rw [if_pos (by omega)]) | (intro _; rw [if_neg (by omega)]) | (intro _; simp))⟩, hT0⟩⟩
             ·
              replace hc76 : ((O : Nat) : Int) ≠ 14 := (ne_of_beq_false hc76)
              refine zR ?_
              refine zS [(27, .int .i64 ((O : Nat) : Int)), (28, .int .i64 ((wd : Nat) : Int)), (29, .int .u64 ((a : Nat) : Int)), (30, .int .u64 ((b : Nat) : Int))] ?_
              refine zC (shift_allY O wd a b _ h1 h2 ha_ hb_ (by omega)) ?_
              rintro _ w88 ⟨X90, rfl, hX91, hT89⟩
              have hT0 := hT0.t0 hT89
              refine zS [(10, .int .u64 ((X90 : Nat) : Int))] ?_
              refine op_nil ?_
              refine zQ ?_
              refine zS [(101, .int .i64 ((wd : Nat) : Int)), (102, .int .u64 ((X90 : Nat) : Int))] ?_
              refine zC (rcutN_ok wd X90 _ (by omega) hX91.1) ?_
              rintro _ w92 ⟨rfl, hT93⟩
              have hT0 := hT0.t0 hT93
              have hu94 : cutN wd X90 < 18446744073709551616 := Nat.lt_of_lt_of_le (cutN_lt _ _) (pw64 (by omega))
              refine zS [(8, .int .u64 ((cutN wd X90 : Nat) : Int)), (9, .int .i64 0)] ?_
              refine op_nil ?_
              refine W_ret ?_
              exact ⟨_, Res_of (v := .tuple #[.int .u64 ((cutN wd X90 : Nat) : Int), .int .i64 0]) (by kernel_rfl), ⟨_, rfl, hX91, hT0⟩⟩
 ·
  replace hb1 : ((O : Nat) : Int) < 1 := (of_decide_eq_true hb1)
  exfalso; omega

end Go.Proofs.YtlbadnpgmkobdaaV
