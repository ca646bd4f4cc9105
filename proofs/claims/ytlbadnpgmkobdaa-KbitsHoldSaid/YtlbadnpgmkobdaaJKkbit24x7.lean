/- Texts laid together: Walks of functions of the program and of the document's texts. The conditions stand with each theorem. A node's classes, told for any claim of its arguments; a value that fits what is known: plain. -/
import Derived.Test.YtlbadnpgmkobdaaJKkbit24x1
import Derived.Test.YtlbadnpgmkobdaaProg
import Derived.Test.YtlbadnpgmkobdaaJKkbit24x6
set_option linter.unusedVariables false
set_option linter.unusedSimpArgs false
namespace Go.Proofs.YtlbadnpgmkobdaaV
open Go Go.RowKit Go.Proofs

set_option maxRecDepth 100000 in
set_option maxHeartbeats 1000000 in
theorem bin_ok_ (O wd a b : Nat) (w : World) (h1 : 1 ≤ wd) (h2 : wd ≤ 64) (ha : a < pw wd) (hb : b < pw wd) (hO : 1 ≤ O ∧ O ≤ 14) : Ret Try.prog 90 [.int .i64 ((O : Nat) : Int), .int .i64 ((wd : Nat) : Int), .int .u64 ((a : Nat) : Int), .int .u64 ((b : Nat) : Int)] w fun v w' => ∃ X : Nat, v = .tuple #[.int .u64 ((cutN wd X : Nat) : Int), .int .i64 0] ∧ BinX O wd a b X ∧ Tch N0 w w' := by
 have hp64 := pw64 (w := wd) (by omega)
 have ha_ : a < 18446744073709551616 := by omega
 have hb_ : b < 18446744073709551616 := by omega
 refine enter Try.func90 rfl rfl ?_
 refine zQ ?_
 refine zS [(8, .int .u64 0), (9, .int .i64 0)] ?_
 refine op_nil ?_
 refine W_seq ?_
 refine zQ ?_
 refine zS [(11, .int .i64 ((O : Nat) : Int)), (12, .bool (decide (((O : Nat) : Int) < 1))), (13, .bool (decide (((O : Nat) : Int) < 1)))] ?_
 cases hb1 : decide (((O : Nat) : Int) < 1)
 ·
  replace hb1 : 1 ≤ ((O : Nat) : Int) := (Int.not_lt.1 (of_decide_eq_false hb1))
  refine zS [(14, .int .i64 ((O : Nat) : Int)), (15, .bool (decide (((O : Nat) : Int) > 14))), (16, .bool (decide (((O : Nat) : Int) > 14)))] ?_
  refine zO (decide (((O : Nat) : Int) > 14)) (fun hc2 => ?_) (fun hc2 => ?_)
  ·
   replace hc2 : 14 < ((O : Nat) : Int) := (of_decide_eq_true hc2)
   exfalso; omega
  ·
   replace hc2 : ((O : Nat) : Int) ≤ 14 := (Int.not_lt.1 (of_decide_eq_false hc2))
   refine W_skip ?_
   refine W_seq ?_
   refine zQ ?_
   refine zS [(17, .int .i64 ((wd : Nat) : Int))] ?_
   refine zC (rfits_t wd _ (by omega) (by omega)) ?_
   rintro _ w3 ⟨rfl, hT4⟩
   have hT0 := hT4
   refine zS [(19, .bool false)] ?_
   refine zO false (fun h => nomatch h) (fun _ => ?_)
   refine W_skip ?_
   refine zQ ?_
   refine zS [(20, .int .i64 ((wd : Nat) : Int)), (21, .int .u64 ((a : Nat) : Int))] ?_
   refine zC (rcutI_ok wd a _ (by omega) ha) ?_
   rintro _ w5 ⟨rfl, hT6⟩
   have hT0 := hT0.t0 hT6
   refine zS [(2, .int .u64 ((a : Nat) : Int))] ?_
   refine op_nil ?_
   refine zQ ?_
   refine zS [(23, .int .i64 ((wd : Nat) : Int)), (24, .int .u64 ((b : Nat) : Int))] ?_
   refine zC (rcutI_ok wd b _ (by omega) hb) ?_
   rintro _ w7 ⟨rfl, hT8⟩
   have hT0 := hT0.t0 hT8
   refine zS [(3, .int .u64 ((b : Nat) : Int))] ?_
   refine op_nil ?_
   refine zQ ?_
   refine zS [(10, .int .u64 0)] ?_
   refine op_nil ?_
   refine W_seq ?_
   refine zQ ?_
   refine zS [(26, .int .i64 ((O : Nat) : Int))] ?_
   refine op_nil ?_
   refine W_block ?_
   refine zQ ?_
   refine zS [(33, .bool (((O : Nat) : Int) == 1)), (32, .bool (((O : Nat) : Int) == 1))] ?_
   refine zO (((O : Nat) : Int) == 1) (fun hc9 => ?_) (fun hc9 => ?_)
   ·
    replace hc9 : ((O : Nat) : Int) = 1 := (eq_of_beq hc9)
    refine zR ?_
    refine zS [(34, .int .u64 ((a : Nat) : Int)), (35, .int .u64 ((b : Nat) : Int)), (36, .int .u64 (IntKind.u64.wrap (((a : Nat) : Int) + ((b : Nat) : Int))))] ?_
    rw [show IntKind.u64.wrap (((a : Nat) : Int) + ((b : Nat) : Int)) = (((a + b) % 18446744073709551616 : Nat) : Int) from u64_add a b]
    have hu10 : (a + b) % 18446744073709551616 < 18446744073709551616 := mod_lt64 _
    refine zS [(10, .int .u64 (((a + b) % 18446744073709551616 : Nat) : Int))] ?_
    refine op_nil ?_
    refine zQ ?_
    refine zS [(101, .int .i64 ((wd : Nat) : Int)), (102, .int .u64 (((a + b) % 18446744073709551616 : Nat) : Int))] ?_
    refine zC (rcutN_ok wd ((a + b) % 18446744073709551616) _ (by omega) hu10) ?_
    rintro _ w11 ⟨rfl, hT12⟩
    have hT0 := hT0.t0 hT12
    have hu13 : cutN wd ((a + b) % 18446744073709551616) < 18446744073709551616 := Nat.lt_of_lt_of_le (cutN_lt _ _) (pw64 (by omega))
    refine zS [(8, .int .u64 ((cutN wd ((a + b) % 18446744073709551616) : Nat) : Int)), (9, .int .i64 0)] ?_
    refine op_nil ?_
    refine W_ret ?_
    exact ⟨_, Res_of (v := .tuple #[.int .u64 ((cutN wd ((a + b) % 18446744073709551616) : Nat) : Int), .int .i64 0]) (by kernel_rfl), ⟨_, rfl, ⟨hu10, (by first | (intro q; exfalso; omega) | (intro _; rfl) | (intro _; exact congrArg bitN (beq_nat a b)) | (intro _; omega) | (intro _; simp)), (by first | (intro q; exfalso; omega) | (intro _; rfl) | (intro _; exact congrArg bitN (beq_nat a b)) | (intro _; omega) | (intro _; simp)), (by first | (intro q; exfalso; omega) | (intro _; rfl) | (intro _; exact congrArg bitN (beq_nat a b)) | (intro _; omega) | (intro _; simp)), (by first | (intro q; exfalso; omega) | (intro _; rfl) | (intro _; exact congrArg bitN (beq_nat a b)) | (intro _; omega) | (intro _; simp)), (by first | (intro q; exfalso; omega) | (intro _; rfl) | (intro _; exact congrArg bitN (beq_nat a b)) | (intro _; omega) | (intro _; simp)), (by first | (intro q; exfalso; omega) | (intro _; rfl) | (intro _; exact congrArg bitN (beq_nat a b)) | (intro _; omega) | (intro _; simp)), (by first | (intro q; exfalso; omega) | (intro _; rfl) | (intro _; exact congrArg bitN (beq_nat a b)) | (intro _; omega) | (intro _; simp)), (by first | (intro q; exfalso; omega) | (intro _; rfl) | (intro _; exact congrArg bitN (beq_nat a b)) | (intro _; omega) | (intro _; simp))⟩, hT0⟩⟩
   ·
    replace hc9 : ((O : Nat) : Int) ≠ 1 := (ne_of_beq_false hc9)
    refine zQ ?_
    refine zS [(38, .bool (((O : Nat) : Int) == 2)), (37, .bool (((O : Nat) : Int) == 2))] ?_
    refine zO (((O : Nat) : Int) == 2) (fun hc14 => ?_) (fun hc14 => ?_)
    ·
     replace hc14 : ((O : Nat) : Int) = 2 := (eq_of_beq hc14)
     refine zR ?_
     refine zS [(39, .int .u64 ((a : Nat) : Int)), (40, .int .u64 ((b : Nat) : Int)), (41, .int .u64 (IntKind.u64.wrap (((a : Nat) : Int) - ((b : Nat) : Int))))] ?_
     rw [show IntKind.u64.wrap (((a : Nat) : Int) - ((b : Nat) : Int)) = (((a + (18446744073709551616 - b)) % 18446744073709551616 : Nat) : Int) from u64_sub a b ha_ hb_]
     have hu15 : (a + (18446744073709551616 - b)) % 18446744073709551616 < 18446744073709551616 := mod_lt64 _
     refine zS [(10, .int .u64 (((a + (18446744073709551616 - b)) % 18446744073709551616 : Nat) : Int))] ?_
     refine op_nil ?_
     refine zQ ?_
     refine zS [(101, .int .i64 ((wd : Nat) : Int)), (102, .int .u64 (((a + (18446744073709551616 - b)) % 18446744073709551616 : Nat) : Int))] ?_
     refine zC (rcutN_ok wd ((a + (18446744073709551616 - b)) % 18446744073709551616) _ (by omega) hu15) ?_
     rintro _ w16 ⟨rfl, hT17⟩
     have hT0 := hT0.t0 hT17
     have hu18 : cutN wd ((a + (18446744073709551616 - b)) % 18446744073709551616) < 18446744073709551616 := Nat.lt_of_lt_of_le (cutN_lt _ _) (pw64 (by omega))
     refine zS [(8, .int .u64 ((cutN wd ((a + (18446744073709551616 - b)) % 18446744073709551616) : Nat) : Int)), (9, .int .i64 0)] ?_
     refine op_nil ?_
     refine W_ret ?_
     exact ⟨_, Res_of (v := .tuple #[.int .u64 ((cutN wd ((a + (18446744073709551616 - b)) % 18446744073709551616) : Nat) : Int), .int .i64 0]) (by kernel_rfl), ⟨_, rfl, ⟨hu15, (by first | (intro q; exfalso; omega) | (intro _; rfl) | (intro _; exact congrArg bitN (beq_nat a b)) | (intro _; omega) | (intro _; simp)), (by first | (intro q; exfalso; omega) | (intro _; rfl) | (intro _; exact congrArg bitN (beq_nat a b)) | (intro _; omega) | (intro _; simp)), (by first | (intro q; exfalso; omega) | (intro _; rfl) | (intro _; exact congrArg bitN (beq_nat a b)) | (intro _; omega) | (intro _; simp)), (by first | (intro q; exfalso; omega) | (intro _; rfl) | (intro _; exact congrArg bitN (beq_nat a b)) | (intro _; omega) | (intro _; simp)), (by first | (intro q; exfalso; omega) | (intro _; rfl) | (intro _; exact congrArg bitN (beq_nat a b)) | (intro _; omega) | (intro _; simp)), (by first | (intro q; exfalso; omega) | (intro _; rfl) | (intro _; exact congrArg bitN (beq_nat a b)) | (intro _; omega) | (intro _; simp)), (by first | (intro q; exfalso; omega) | (intro _; rfl) | (intro _; exact congrArg bitN (beq_nat a b)) | (intro _; omega) | (intro _; simp)), (by first | (intro q; exfalso; omega) | (intro _; rfl) | (intro _; exact congrArg bitN (beq_nat a b)) | (intro _; omega) | (intro _; simp))⟩, hT0⟩⟩
    ·
     replace hc14 : ((O : Nat) : Int) ≠ 2 := (ne_of_beq_false hc14)
     refine zQ ?_
     refine zS [(43, .bool (((O : Nat) : Int) == 3)), (42, .bool (((O : Nat) : Int) == 3))] ?_
     refine zO (((O : Nat) : Int) == 3) (fun hc19 => ?_) (fun hc19 => ?_)
     ·
      replace hc19 : ((O : Nat) : Int) = 3 := (eq_of_beq hc19)
      refine zR ?_
      refine zS [(44, .int .u64 ((a : Nat) : Int)), (45, .int .u64 ((b : Nat) : Int)), (46, .int .u64 (IntKind.u64.wrap (((a : Nat) : Int) * ((b : Nat) : Int))))] ?_
      rw [show IntKind.u64.wrap (((a : Nat) : Int) * ((b : Nat) : Int)) = ((a * b % 18446744073709551616 : Nat) : Int) from u64_mul a b]
      have hu20 : a * b % 18446744073709551616 < 18446744073709551616 := mod_lt64 _
      refine zS [(10, .int .u64 ((a * b % 18446744073709551616 : Nat) : Int))] ?_
      refine op_nil ?_
      refine zQ ?_
      refine zS [(101, .int .i64 ((wd : Nat) : Int)), (102, .int .u64 ((a * b % 18446744073709551616 : Nat) : Int))] ?_
      refine zC (rcutN_ok wd (a * b % 18446744073709551616) _ (by omega) hu20) ?_
      rintro _ w21 ⟨rfl, hT22⟩
      have hT0 := hT0.t0 hT22
      have hu23 : cutN wd (a * b % 18446744073709551616) < 18446744073709551616 := Nat.lt_of_lt_of_le (cutN_lt _ _) (pw64 (by omega))
      refine zS [(8, .int .u64 ((cutN wd (a * b % 18446744073709551616) : Nat) : Int)), (9, .int .i64 0)] ?_
      refine op_nil ?_
      refine W_ret ?_
      exact ⟨_, Res_of (v := .tuple #[.int .u64 ((cutN wd (a * b % 18446744073709551616) : Nat) : Int), .int .i64 0]) (by kernel_rfl), ⟨_, rfl, ⟨hu20, (by first | (intro q; exfalso; omega) | (intro _; rfl) | (intro _; exact congrArg bitN (beq_nat a b)) | (intro _; omega) | (intro _; simp)), (by first | (intro q; exfalso; omega) | (intro _; rfl) | (intro _; exact congrArg bitN (beq_nat a b)) | (intro _; omega) | (intro _; simp)), (by first | (intro q; exfalso; omega) | (intro _; rfl) | (intro _; exact congrArg bitN (beq_nat a b)) | (intro _; omega) | (intro _; simp)), (by first | (intro q; exfalso; omega) | (intro _; rfl) | (intro _; exact congrArg bitN (beq_nat a b)) | (intro _; omega) | (intro _; simp)), (by first | (intro q; exfalso; omega) | (intro _; rfl) | (intro _; exact congrArg bitN (beq_nat a b)) | (intro _; omega) | (intro _; simp)), (by first | (intro q; exfalso; omega) | (intro _; rfl) | (intro _; exact congrArg bitN (beq_nat a b)) | (intro _; omega) | (intro _; simp)), (by first | (intro q; exfalso; omega) | (intro _; rfl) | (intro _; exact congrArg bitN (beq_nat a b)) | (intro _; omega) | (intro _; simp)), (by first | (intro q; exfalso; omega) | (intro _; rfl) | (intro _; exact congrArg bitN (beq_nat a b)) | (intro _; omega) | (intro _; simp))⟩, hT0⟩⟩
     ·
      replace hc19 : ((O : Nat) : Int) ≠ 3 := (ne_of_beq_false hc19)
      refine zQ ?_
      refine zS [(48, .bool (((O : Nat) : Int) == 4)), (47, .bool (((O : Nat) : Int) == 4))] ?_
      refine zO (((O : Nat) : Int) == 4) (fun hc24 => ?_) (fun hc24 => ?_)
      ·
       replace hc24 : ((O : Nat) : Int) = 4 := (eq_of_beq hc24)
       refine zQ ?_
       refine zS [(49, .int .i64 ((wd : Nat) : Int))] ?_
       refine zC (rmask_okN wd _ (by omega)) ?_
       rintro _ w25 ⟨rfl, hT26⟩
       have hT0 := hT0.t0 hT26
       have hu27 := pwm_lt (x := wd) (by omega)
       refine zS [(10, .int .u64 ((pw wd - 1 : Nat) : Int))] ?_
       refine op_nil ?_
       refine zQ ?_
       refine zS [(51, .int .u64 ((b : Nat) : Int)), (52, .bool (((b : Nat) : Int) != 0))] ?_
       refine zO (((b : Nat) : Int) != 0) (fun hc28 => ?_) (fun hc28 => ?_)
       ·
        replace hc28 : ((b : Nat) : Int) ≠ 0 := (bne_iff_ne.1 hc28)
        refine zR ?_
        refine zS [(53, .int .u64 ((a : Nat) : Int)), (54, .int .u64 ((b : Nat) : Int))] ?_
        refine stv (v := .int .u64 ((a / b : Nat) : Int)) (by rfl) (R_quoN (by kernel_rfl) (by kernel_rfl) (by omega) ha_) ?_
        have hu29 : a / b < 18446744073709551616 := div_lt64 ha_
        refine zS [(10, .int .u64 ((a / b : Nat) : Int))] ?_
        refine op_nil ?_
        refine zQ ?_
        refine zS [(101, .int .i64 ((wd : Nat) : Int)), (102, .int .u64 ((a / b : Nat) : Int))] ?_
        refine zC (rcutN_ok wd (a / b) _ (by omega) hu29) ?_
        rintro _ w30 ⟨rfl, hT31⟩
        have hT0 := hT0.t0 hT31
        have hu32 : cutN wd (a / b) < 18446744073709551616 := Nat.lt_of_lt_of_le (cutN_lt _ _) (pw64 (by omega))
        refine zS [(8, .int .u64 ((cutN wd (a / b) : Nat) : Int)), (9, .int .i64 0)] ?_
        refine op_nil ?_
        refine W_ret ?_
        exact ⟨_, Res_of (v := .tuple #[.int .u64 ((cutN wd (a / b) : Nat) : Int), .int .i64 0]) (by kernel_rfl), ⟨_, rfl, ⟨hu29, (by first | (intro q; exfalso; omega) | (intro _; rfl) | (intro _; exact congrArg bitN (beq_nat a b)) | (intro _; omega) | (intro _; simp)), (by first | (intro q; exfalso; omega) | (intro _; rfl) | (intro _; exact congrArg bitN (beq_nat a b)) | (intro _; omega) | (intro _; simp)), (by first | (intro q; exfalso; omega) | (intro _; rfl) | (intro _; exact congrArg bitN (beq_nat a b)) | (intro _; omega) | (intro _; simp)), (by first | (intro q; exfalso; omega) | (intro _; rfl) | (intro _; exact congrArg bitN (beq_nat a b)) | (intro _; omega) | (intro _; simp)), (by first | (intro q; exfalso; omega) | (intro _; rfl) | (intro _; exact congrArg bitN (beq_nat a b)) | (intro _; omega) | (intro _; simp)), (by first | (intro q; exfalso; omega) | (intro _; rfl) | (intro _; exact congrArg bitN (beq_nat a b)) | (intro _; omega) | (intro _; simp)), (by first | (intro q; exfalso; omega) | (intro _; rfl) | (intro _; exact congrArg bitN (beq_nat a b)) | (intro _; omega) | (intro _; simp)), (by first | (intro q; exfalso; omega) | (intro _; rfl) | (intro _; exact congrArg bitN (beq_nat a b)) | (intro _; omega) | (intro _; simp))⟩, hT0⟩⟩
       ·
        replace hc28 : ((b : Nat) : Int) = 0 := (bne_eq_false_iff_eq.1 hc28)
        refine W_skip ?_
        refine zQ ?_
        refine zS [(101, .int .i64 ((wd : Nat) : Int)), (102, .int .u64 ((pw wd - 1 : Nat) : Int))] ?_
        refine zC (rcutN_ok wd (pw wd - 1) _ (by omega) hu27) ?_
        rintro _ w33 ⟨rfl, hT34⟩
        have hT0 := hT0.t0 hT34
        have hu35 : cutN wd (pw wd - 1) < 18446744073709551616 := Nat.lt_of_lt_of_le (cutN_lt _ _) (pw64 (by omega))
        refine zS [(8, .int .u64 ((cutN wd (pw wd - 1) : Nat) : Int)), (9, .int .i64 0)] ?_
        refine op_nil ?_
        refine W_ret ?_
        exact ⟨_, Res_of (v := .tuple #[.int .u64 ((cutN wd (pw wd - 1) : Nat) : Int), .int .i64 0]) (by kernel_rfl), ⟨_, rfl, ⟨hu27, (by first | (intro q; exfalso; omega) | (intro _; rfl) | (intro _; exact congrArg bitN (beq_nat a b)) | (intro _; omega) | (intro _; simp)), (by first | (intro q; exfalso; omega) | (intro _; rfl) | (intro _; exact congrArg bitN (beq_nat a b)) | (intro _; omega) | (intro _; simp)), (by first | (intro q; exfalso; omega) | (intro _; rfl) | (intro _; exact congrArg bitN (beq_nat a b)) | (intro _; omega) | (intro _; simp)), (by first | (intro q; exfalso; omega) | (intro _; rfl) | (intro _; exact congrArg bitN (beq_nat a b)) | (intro _; omega) | (intro _; simp)), (by first | (intro q; exfalso; omega) | (intro _; rfl) | (intro _; exact congrArg bitN (beq_nat a b)) | (intro _; omega) | (intro _; simp)), (by first | (intro q; exfalso; omega) | (intro _; rfl) | (intro _; exact congrArg bitN (beq_nat a b)) | (intro _; omega) | (intro _; simp)), (by first | (intro q; exfalso; omega) | (intro _; rfl) | (intro _; exact congrArg bitN (beq_nat a b)) | (intro _; omega) | (intro _; simp)), (by first | (intro q; exfalso; omega) | (intro _; rfl) | (intro _; exact congrArg bitN (beq_nat a b)) | (intro _; omega) | (intro _; simp))⟩, hT0⟩⟩
      ·
       replace hc24 : ((O : Nat) : Int) ≠ 4 := (ne_of_beq_false hc24)
       refine zQ ?_
       refine zS [(57, .bool (((O : Nat) : Int) == 5)), (56, .bool (((O : Nat) : Int) == 5))] ?_
       refine zO (((O : Nat) : Int) == 5) (fun hc36 => ?_) (fun hc36 => ?_)
       ·
        replace hc36 : ((O : Nat) : Int) = 5 := (eq_of_beq hc36)
        refine zQ ?_
        refine zS [(58, .int .u64 ((a : Nat) : Int)), (10, .int .u64 ((a : Nat) : Int))] ?_
        refine op_nil ?_
        refine zQ ?_
        refine zS [(59, .int .u64 ((b : Nat) : Int)), (60, .bool (((b : Nat) : Int) != 0))] ?_
        refine zO (((b : Nat) : Int) != 0) (fun hc37 => ?_) (fun hc37 => ?_)
        ·
         replace hc37 : ((b : Nat) : Int) ≠ 0 := (bne_iff_ne.1 hc37)
         refine zR ?_
         refine zS [(61, .int .u64 ((a : Nat) : Int)), (62, .int .u64 ((b : Nat) : Int))] ?_
         refine stv (v := .int .u64 ((a % b : Nat) : Int)) (by rfl) (R_remN (by kernel_rfl) (by kernel_rfl) (by omega)) ?_
         have hu38 : a % b < 18446744073709551616 := rem_lt64 ha_
         refine zS [(10, .int .u64 ((a % b : Nat) : Int))] ?_
         refine op_nil ?_
         refine zQ ?_
         refine zS [(101, .int .i64 ((wd : Nat) : Int)), (102, .int .u64 ((a % b : Nat) : Int))] ?_
         refine zC (rcutN_ok wd (a % b) _ (by omega) hu38) ?_
         rintro _ w39 ⟨rfl, hT40⟩
         have hT0 := hT0.t0 hT40
         have hu41 : cutN wd (a % b) < 18446744073709551616 := Nat.lt_of_lt_of_le (cutN_lt _ _) (pw64 (by omega))
         refine zS [(8, .int .u64 ((cutN wd (a % b) : Nat) : Int)), (9, .int .i64 0)] ?_
         refine op_nil ?_
         refine W_ret ?_
         exact ⟨_, Res_of (v := .tuple #[.int .u64 ((cutN wd (a % b) : Nat) : Int), .int .i64 0]) (by kernel_rfl), ⟨_, rfl, ⟨hu38, (by first | (intro q; exfalso; omega) | (intro _; rfl) | (intro _; exact congrArg bitN (beq_nat a b)) | (intro _; omega) | (intro _; simp)), (by first | (intro q; exfalso; omega) | (intro _; rfl) | (intro _; exact congrArg bitN (beq_nat a b)) | (intro _; omega) | (intro _; simp)), (by first | (intro q; exfalso; omega) | (intro _; rfl) | (intro _; exact congrArg bitN (beq_nat a b)) | (intro _; omega) | (intro _; simp)), (by first | (intro q; exfalso; omega) | (intro _; rfl) | (intro _; exact congrArg bitN (beq_nat a b)) | (intro _; omega) | (intro _; simp)), (by first | (intro q; exfalso; omega) | (intro _; rfl) | (intro _; exact congrArg bitN (beq_nat a b)) | (intro _; omega) | (intro _; simp)), (by first | (intro q; exfalso; omega) | (intro _; rfl) | (intro _; exact congrArg bitN (beq_nat a b)) | (intro _; omega) | (intro _; simp)), (by first | (intro q; exfalso; omega) | (intro _; rfl) | (intro _; exact congrArg bitN (beq_nat a b)) | (intro _; omega) | (intro _; simp)), (by first | (intro q; exfalso; omega) | (intro _; rfl) | (intro _; exact congrArg bitN (beq_nat a b)) | (intro _; omega) | (intro _; simp))⟩, hT0⟩⟩
        ·
         replace hc37 : ((b : Nat) : Int) = 0 := (bne_eq_false_iff_eq.1 hc37)
         refine W_skip ?_
         refine zQ ?_
         refine zS [(101, .int .i64 ((wd : Nat) : Int)), (102, .int .u64 ((a : Nat) : Int))] ?_
         refine zC (rcutN_ok wd a _ (by omega) ha_) ?_
         rintro _ w42 ⟨rfl, hT43⟩
         have hT0 := hT0.t0 hT43
         have hu44 : cutN wd a < 18446744073709551616 := Nat.lt_of_lt_of_le (cutN_lt _ _) (pw64 (by omega))
         refine zS [(8, .int .u64 ((cutN wd a : Nat) : Int)), (9, .int .i64 0)] ?_
         refine op_nil ?_
         refine W_ret ?_
         exact ⟨_, Res_of (v := .tuple #[.int .u64 ((cutN wd a : Nat) : Int), .int .i64 0]) (by kernel_rfl), ⟨_, rfl, ⟨ha_, (by first | (intro q; exfalso; omega) | (intro _; rfl) | (intro _; exact congrArg bitN (beq_nat a b)) | (intro _; omega) | (intro _; simp)), (by first | (intro q; exfalso; omega) | (intro _; rfl) | (intro _; exact congrArg bitN (beq_nat a b)) | (intro _; omega) | (intro _; simp)), (by first | (intro q; exfalso; omega) | (intro _; rfl) | (intro _; exact congrArg bitN (beq_nat a b)) | (intro _; omega) | (intro _; simp)), (by first | (intro q; exfalso; omega) | (intro _; rfl) | (intro _; exact congrArg bitN (beq_nat a b)) | (intro _; omega) | (intro _; simp)), (by first | (intro q; exfalso; omega) | (intro _; rfl) | (intro _; exact congrArg bitN (beq_nat a b)) | (intro _; omega) | (intro _; simp)), (by first | (intro q; exfalso; omega) | (intro _; rfl) | (intro _; exact congrArg bitN (beq_nat a b)) | (intro _; omega) | (intro _; simp)), (by first | (intro q; exfalso; omega) | (intro _; rfl) | (intro _; exact congrArg bitN (beq_nat a b)) | (intro _; omega) | (intro _; simp)), (by first | (intro q; exfalso; omega) | (intro _; rfl) | (intro _; exact congrArg bitN (beq_nat a b)) | (intro _; omega) | (intro _; simp))⟩, hT0⟩⟩
       ·
        replace hc36 : ((O : Nat) : Int) ≠ 5 := (ne_of_beq_false hc36)
        refine zQ ?_
        refine zS [(65, .bool (((O : Nat) : Int) == 6)), (64, .bool (((O : Nat) : Int) == 6))] ?_
        refine zO (((O : Nat) : Int) == 6) (fun hc45 => ?_) (fun hc45 => ?_)
        ·
         replace hc45 : ((O : Nat) : Int) = 6 := (eq_of_beq hc45)
         refine zR ?_
         refine zS [(66, .int .u64 ((a : Nat) : Int)), (67, .int .u64 ((b : Nat) : Int)), (68, .int .u64 (IntKind.u64.wrap (BitVec.ofInt 64 ((a : Nat) : Int) &&& BitVec.ofInt 64 ((b : Nat) : Int)).toNat))] ?_
         rw [show IntKind.u64.wrap (BitVec.ofInt 64 ((a : Nat) : Int) &&& BitVec.ofInt 64 ((b : Nat) : Int)).toNat = ((a &&& b : Nat) : Int) from and_u a b ha_ hb_]
         have hu46 : a &&& b < 18446744073709551616 := and_lt ha_
         refine zS [(10, .int .u64 ((a &&& b : Nat) : Int))] ?_
         refine op_nil ?_
         refine zQ ?_
         refine zS [(101, .int .i64 ((wd : Nat) : Int)), (102, .int .u64 ((a &&& b : Nat) : Int))] ?_
         refine zC (rcutN_ok wd (a &&& b) _ (by omega) hu46) ?_
         rintro _ w47 ⟨rfl, hT48⟩
         have hT0 := hT0.t0 hT48
         have hu49 : cutN wd (a &&& b) < 18446744073709551616 := Nat.lt_of_lt_of_le (cutN_lt _ _) (pw64 (by omega))
         refine zS [(8, .int .u64 ((cutN wd (a &&& b) : Nat) : Int)), (9, .int .i64 0)] ?_
         refine op_nil ?_
         refine W_ret ?_
         exact ⟨_, Res_of (v := .tuple #[.int .u64 ((cutN wd (a &&& b) : Nat) : Int), .int .i64 0]) (by kernel_rfl), ⟨_, rfl, ⟨hu46, (by first | (intro q; exfalso; omega) | (intro _; rfl) | (intro _; exact congrArg bitN (beq_nat a b)) | (intro _; omega) | (intro _; simp)), (by first | (intro q; exfalso; omega) | (intro _; rfl) | (intro _; exact congrArg bitN (beq_nat a b)) | (intro _; omega) | (intro _; simp)), (by first | (intro q; exfalso; omega) | (intro _; rfl) | (intro _; exact congrArg bitN (beq_nat a b)) | (intro _; omega) | (intro _; simp)), (by first | (intro q; exfalso; omega) | (intro _; rfl) | (intro _; exact congrArg bitN (beq_nat a b)) | (intro _; omega) | (intro _; simp)), (by first | (intro q; exfalso; omega) | (intro _; rfl) | (intro _; exact congrArg bitN (beq_nat a b)) | (intro _; omega) | (intro _; simp)), (by first | (intro q; exfalso; omega) | (intro _; rfl) | (intro _; exact congrArg bitN (beq_nat a b)) | (intro _; omega) | (intro _; simp)), (by first | (intro q; exfalso; omega) | (intro _; rfl) | (intro _; exact congrArg bitN (beq_nat a b)) | (intro _; omega) | (intro _; simp)), (by first | (intro q; exfalso; omega) | (intro _; rfl) | (intro _; exact congrArg bitN (beq_nat a b)) | (intro _; omega) | (intro _; simp))⟩, hT0⟩⟩
        ·
         replace hc45 : ((O : Nat) : Int) ≠ 6 := (ne_of_beq_false hc45)
         refine zQ ?_
         refine zS [(70, .bool (((O : Nat) : Int) == 7)), (69, .bool (((O : Nat) : Int) == 7))] ?_
         refine zO (((O : Nat) : Int) == 7) (fun hc50 => ?_) (fun hc50 => ?_)
         ·
          replace hc50 : ((O : Nat) : Int) = 7 := (eq_of_beq hc50)
          refine zR ?_
          refine zS [(71, .int .u64 ((a : Nat) : Int)), (72, .int .u64 ((b : Nat) : Int)), (73, .int .u64 (IntKind.u64.wrap (BitVec.ofInt 64 ((a : Nat) : Int) ||| BitVec.ofInt 64 ((b : Nat) : Int)).toNat))] ?_
          rw [show IntKind.u64.wrap (BitVec.ofInt 64 ((a : Nat) : Int) ||| BitVec.ofInt 64 ((b : Nat) : Int)).toNat = ((a ||| b : Nat) : Int) from or_u a b ha_ hb_]
          have hu51 : a ||| b < 18446744073709551616 := or_lt ha_ hb_
          refine zS [(10, .int .u64 ((a ||| b : Nat) : Int))] ?_
          refine op_nil ?_
          refine zQ ?_
          refine zS [(101, .int .i64 ((wd : Nat) : Int)), (102, .int .u64 ((a ||| b : Nat) : Int))] ?_
          refine zC (rcutN_ok wd (a ||| b) _ (by omega) hu51) ?_
          rintro _ w52 ⟨rfl, hT53⟩
          have hT0 := hT0.t0 hT53
          have hu54 : cutN wd (a ||| b) < 18446744073709551616 := Nat.lt_of_lt_of_le (cutN_lt _ _) (pw64 (by omega))
          refine zS [(8, .int .u64 ((cutN wd (a ||| b) : Nat) : Int)), (9, .int .i64 0)] ?_
          refine op_nil ?_
          refine W_ret ?_
          exact ⟨_, Res_of (v := .tuple #[.int .u64 ((cutN wd (a ||| b) : Nat) : Int), .int .i64 0]) (by kernel_rfl), ⟨_, rfl, ⟨hu51, (by first | (intro q; exfalso; omega) | (intro _; rfl) | (intro _; exact congrArg bitN (beq_nat a b)) | (intro _; omega) | (intro _; simp)), (by first | (intro q; exfalso; omega) | (intro _; rfl) | (intro _; exact congrArg bitN (beq_nat a b)) | (intro _; omega) | (intro _; simp)), (by first | (intro q; exfalso; omega) | (intro _; rfl) | (intro _; exact congrArg bitN (beq_nat a b)) | (intro _; omega) | (intro _; simp)), (by first | (intro q; exfalso; omega) | (intro _; rfl) | (intro _; exact congrArg bitN (beq_nat a b)) | (intro _; omega) | (intro _; simp)), (by first | (intro q; exfalso; omega) | (intro _; rfl) | (intro _; exact congrArg bitN (beq_nat a b)) | (intro _; omega) | (intro _; simp)), (by first | (intro q; exfalso; omega) | (intro _; rfl) | (intro _; exact congrArg bitN (beq_nat a b)) | (intro _; omega) | (intro _; simp)), (by first | (intro q; exfalso; omega) | (intro _; rfl) | (intro _; exact congrArg bitN (beq_nat a b)) | (intro _; omega) | (intro _; simp)), (by first | (intro q; exfalso; omega) | (intro _; rfl) | (intro _; exact congrArg bitN (beq_nat a b)) | (intro _; omega) | (intro _; simp))⟩, hT0⟩⟩
         ·
          replace hc50 : ((O : Nat) : Int) ≠ 7 := (ne_of_beq_false hc50)
          refine zQ ?_
          refine zS [(75, .bool (((O : Nat) : Int) == 8)), (74, .bool (((O : Nat) : Int) == 8))] ?_
          refine zO (((O : Nat) : Int) == 8) (fun hc55 => ?_) (fun hc55 => ?_)
          ·
           replace hc55 : ((O : Nat) : Int) = 8 := (eq_of_beq hc55)
           refine zR ?_
           refine zS [(76, .int .u64 ((a : Nat) : Int)), (77, .int .u64 ((b : Nat) : Int)), (78, .int .u64 (IntKind.u64.wrap (BitVec.ofInt 64 ((a : Nat) : Int) ^^^ BitVec.ofInt 64 ((b : Nat) : Int)).toNat))] ?_
           rw [show IntKind.u64.wrap (BitVec.ofInt 64 ((a : Nat) : Int) ^^^ BitVec.ofInt 64 ((b : Nat) : Int)).toNat = ((a ^^^ b : Nat) : Int) from xor_u a b ha_ hb_]
           have hu56 : a ^^^ b < 18446744073709551616 := xor_lt ha_ hb_
           refine zS [(10, .int .u64 ((a ^^^ b : Nat) : Int))] ?_
           refine op_nil ?_
           refine zQ ?_
           refine zS [(101, .int .i64 ((wd : Nat) : Int)), (102, .int .u64 ((a ^^^ b : Nat) : Int))] ?_
           refine zC (rcutN_ok wd (a ^^^ b) _ (by omega) hu56) ?_
           rintro _ w57 ⟨rfl, hT58⟩
           have hT0 := hT0.t0 hT58
           have hu59 : cutN wd (a ^^^ b) < 18446744073709551616 := Nat.lt_of_lt_of_le (cutN_lt _ _) (pw64 (by omega))
           refine zS [(8, .int .u64 ((cutN wd (a ^^^ b) : Nat) : Int)), (9, .int .i64 0)] ?_
           refine op_nil ?_
           refine W_ret ?_
           exact ⟨_, Res_of (v := .tuple #[.int .u64 ((cutN wd (a ^^^ b) : Nat) : Int), .int .i64 0]) (by kernel_rfl), ⟨_, rfl, ⟨hu56, (by first | (intro q; exfalso; omega) | (intro _; rfl) | (intro _; exact congrArg bitN (beq_nat a b)) | (intro _; omega) | (intro _; simp)), (by first | (intro q; exfalso; omega) | (intro _; rfl) | (intro _; exact congrArg bitN (beq_nat a b)) | (intro _; omega) | (intro _; simp)), (by first | (intro q; exfalso; omega) | (intro _; rfl) | (intro _; exact congrArg bitN (beq_nat a b)) | (intro _; omega) | (intro _; simp)), (by first | (intro q; exfalso; omega) | (intro _; rfl) | (intro _; exact congrArg bitN (beq_nat a b)) | (intro _; omega) | (intro _; simp)), (by first | (intro q; exfalso; omega) | (intro _; rfl) | (intro _; exact congrArg bitN (beq_nat a b)) | (intro _; omega) | (intro _; simp)), (by first | (intro q; exfalso; omega) | (intro _; rfl) | (intro _; exact congrArg bitN (beq_nat a b)) | (intro _; omega) | (intro _; simp)), (by first | (intro q; exfalso; omega) | (intro _; rfl) | (intro _; exact congrArg bitN (beq_nat a b)) | (intro _; omega) | (intro _; simp)), (by first | (intro q; exfalso; omega) | (intro _; rfl) | (intro _; exact congrArg bitN (beq_nat a b)) | (intro _; omega) | (intro _; simp))⟩, hT0⟩⟩
          ·
           replace hc55 : ((O : Nat) : Int) ≠ 8 := (ne_of_beq_false hc55)
           refine zQ ?_
           refine zS [(80, .bool (((O : Nat) : Int) == 12)), (79, .bool (((O : Nat) : Int) == 12))] ?_
           refine zO (((O : Nat) : Int) == 12) (fun hc60 => ?_) (fun hc60 => ?_)
           ·
            replace hc60 : ((O : Nat) : Int) = 12 := (eq_of_beq hc60)
            refine zR ?_
            refine zS [(81, .int .u64 ((a : Nat) : Int)), (82, .int .u64 ((b : Nat) : Int)), (83, .bool (((a : Nat) : Int) == ((b : Nat) : Int)))] ?_
            refine zC (bit1_ok (((a : Nat) : Int) == ((b : Nat) : Int)) _) ?_
            rintro _ w61 ⟨rfl, hT62⟩
            have hT0 := hT0.t0 hT62
            have hu63 := bitN_lt (((a : Nat) : Int) == ((b : Nat) : Int))
            have hb164 := bitN_u (((a : Nat) : Int) == ((b : Nat) : Int))
            refine zS [(10, .int .u64 ((bitN (((a : Nat) : Int) == ((b : Nat) : Int)) : Nat) : Int))] ?_
            refine op_nil ?_
            refine zQ ?_
            refine zS [(101, .int .i64 ((wd : Nat) : Int)), (102, .int .u64 ((bitN (((a : Nat) : Int) == ((b : Nat) : Int)) : Nat) : Int))] ?_
            refine zC (rcutN_ok wd (bitN (((a : Nat) : Int) == ((b : Nat) : Int))) _ (by omega) hu63) ?_
            rintro _ w65 ⟨rfl, hT66⟩
            have hT0 := hT0.t0 hT66
            have hu67 : cutN wd (bitN (((a : Nat) : Int) == ((b : Nat) : Int))) < 18446744073709551616 := Nat.lt_of_lt_of_le (cutN_lt _ _) (pw64 (by omega))
            refine zS [(8, .int .u64 ((cutN wd (bitN (((a : Nat) : Int) == ((b : Nat) : Int))) : Nat) : Int)), (9, .int .i64 0)] ?_
            refine op_nil ?_
            refine W_ret ?_
            exact ⟨_, Res_of (v := .tuple #[.int .u64 ((cutN wd (bitN (((a : Nat) : Int) == ((b : Nat) : Int))) : Nat) : Int), .int .i64 0]) (by kernel_rfl), ⟨_, rfl, ⟨hu63, (by first | (intro q; exfalso; omega) | (intro _; rfl) | (intro _; exact congrArg bitN (beq_nat a b)) | (intro _; omega) | (intro _; simp)), (by first | (intro q; exfalso; omega) | (intro _; rfl) | (intro _; exact congrArg bitN (beq_nat a b)) | (intro _; omega) | (intro _; simp)), (by first | (intro q; exfalso; omega) | (intro _; rfl) | (intro _; exact congrArg bitN (beq_nat a b)) | (intro _; omega) | (intro _; simp)), (by first | (intro q; exfalso; omega) | (intro _; rfl) | (intro _; exact congrArg bitN (beq_nat a b)) | (intro _; omega) | (intro _; simp)), (by first | (intro q; exfalso; omega) | (intro _; rfl) | (intro _; exact congrArg bitN (beq_nat a b)) | (intro _; omega) | (intro _; simp)), (by first | (intro q; exfalso; omega) | (intro _; rfl) | (intro _; exact congrArg bitN (beq_nat a b)) | (intro _; omega) | (intro _; simp)), (by first | (intro q; exfalso; omega) | (intro _; rfl) | (intro _; exact congrArg bitN (beq_nat a b)) | (intro _; omega) | (intro _; simp)), (by first | (intro q; exfalso; omega) | (intro _; rfl) | (intro _; exact congrArg bitN (beq_nat a b)) | (intro _; omega) | (intro _; simp))⟩, hT0⟩⟩
           ·
            replace hc60 : ((O : Nat) : Int) ≠ 12 := (ne_of_beq_false hc60)
            refine zQ ?_
            refine zS [(86, .bool (((O : Nat) : Int) == 13)), (85, .bool (((O : Nat) : Int) == 13))] ?_
            refine zO (((O : Nat) : Int) == 13) (fun hc68 => ?_) (fun hc68 => ?_)
            ·
             replace hc68 : ((O : Nat) : Int) = 13 := (eq_of_beq hc68)
             refine zR ?_
             refine zS [(87, .int .u64 ((a : Nat) : Int)), (88, .int .u64 ((b : Nat) : Int)), (89, .bool (decide (((a : Nat) : Int) < ((b : Nat) : Int))))] ?_
             refine zC (bit1_ok (decide (((a : Nat) : Int) < ((b : Nat) : Int))) _) ?_
             rintro _ w69 ⟨rfl, hT70⟩
             have hT0 := hT0.t0 hT70
             have hu71 := bitN_lt (decide (((a : Nat) : Int) < ((b : Nat) : Int)))
             have hb172 := bitN_u (decide (((a : Nat) : Int) < ((b : Nat) : Int)))
             refine zS [(10, .int .u64 ((bitN (decide (((a : Nat) : Int) < ((b : Nat) : Int))) : Nat) : Int))] ?_
             refine op_nil ?_
             refine zQ ?_
             refine zS [(101, .int .i64 ((wd : Nat) : Int)), (102, .int .u64 ((bitN (decide (((a : Nat) : Int) < ((b : Nat) : Int))) : Nat) : Int))] ?_
             refine zC (rcutN_ok wd (bitN (decide (((a : Nat) : Int) < ((b : Nat) : Int)))) _ (by omega) hu71) ?_
             rintro _ w73 ⟨rfl, hT74⟩
             have hT0 := hT0.t0 hT74
             have hu75 : cutN wd (bitN (decide (((a : Nat) : Int) < ((b : Nat) : Int)))) < 18446744073709551616 := Nat.lt_of_lt_of_le (cutN_lt _ _) (pw64 (by omega))
             refine zS [(8, .int .u64 ((cutN wd (bitN (decide (((a : Nat) : Int) < ((b : Nat) : Int)))) : Nat) : Int)), (9, .int .i64 0)] ?_
             refine op_nil ?_
             refine W_ret ?_
             exact ⟨_, Res_of (v := .tuple #[.int .u64 ((cutN wd (bitN (decide (((a : Nat) : Int) < ((b : Nat) : Int)))) : Nat) : Int), .int .i64 0]) (by kernel_rfl), ⟨_, rfl, ⟨hu71, (by first | (intro q; exfalso; omega) | (intro _; rfl) | (intro _; exact congrArg bitN (beq_nat a b)) | (intro _; omega) | (intro _; simp)), (by first | (intro q; exfalso; omega) | (intro _; rfl) | (intro _; exact congrArg bitN (beq_nat a b)) | (intro _; omega) | (intro _; simp)), (by first | (intro q; exfalso; omega) | (intro _; rfl) | (intro _; exact congrArg bitN (beq_nat a b)) | (intro _; omega) | (intro _; simp)), (by first | (intro q; exfalso; omega) | (intro _; rfl) | (intro _; exact congrArg bitN (beq_nat a b)) | (intro _; omega) | (intro _; simp)), (by first | (intro q; exfalso; omega) | (intro _; rfl) | (intro _; exact congrArg bitN (beq_nat a b)) | (intro _; omega) | (intro _; simp)), (by first | (intro q; exfalso; omega) | (intro _; rfl) | (intro _; exact congrArg bitN (beq_nat a b)) | (intro _; omega) | (intro _; simp)), (by first | (intro q; exfalso; omega) | (intro _; rfl) | (intro _; exact congrArg bitN (beq_nat a b)) | (intro _; omega) | (intro _; simp)), (by first | (intro q; exfalso; omega) | (intro _; rfl) | (intro _; exact congrArg bitN (beq_nat a b)) | (intro _; omega) | (intro _; simp))⟩, hT0⟩⟩
            ·
             replace hc68 : ((O : Nat) : Int) ≠ 13 := (ne_of_beq_false hc68)
             refine zQ ?_
             refine zS [(92, .bool (((O : Nat) : Int) == 14)), (91, .bool (((O : Nat) : Int) == 14))] ?_
             refine zO (((O : Nat) : Int) == 14) (fun hc76 => ?_) (fun hc76 => ?_)
             ·
              replace hc76 : ((O : Nat) : Int) = 14 := (eq_of_beq hc76)
              refine zR ?_
              refine zS [(93, .int .i64 ((wd : Nat) : Int)), (94, .int .u64 ((a : Nat) : Int))] ?_
              refine zC (signed_ok wd a _ (by omega) (by omega) ha) ?_
              rintro _ w77 ⟨rfl, hT78⟩
              have hT0 := hT0.t0 hT78
              refine zS [(96, .int .i64 ((wd : Nat) : Int)), (97, .int .u64 ((b : Nat) : Int))] ?_
              refine zC (signed_ok wd b _ (by omega) (by omega) hb) ?_
              rintro _ w79 ⟨rfl, hT80⟩
              have hT0 := hT0.t0 hT80
              refine zS [(99, .bool (decide (IntKind.i64.wrap ((sxN wd a : Nat) : Int) < IntKind.i64.wrap ((sxN wd b : Nat) : Int))))] ?_
              refine zC (bit1_ok (decide (IntKind.i64.wrap ((sxN wd a : Nat) : Int) < IntKind.i64.wrap ((sxN wd b : Nat) : Int))) _) ?_
              rintro _ w81 ⟨rfl, hT82⟩
              have hT0 := hT0.t0 hT82
              have hu83 := bitN_lt (decide (IntKind.i64.wrap ((sxN wd a : Nat) : Int) < IntKind.i64.wrap ((sxN wd b : Nat) : Int)))
              have hb184 := bitN_u (decide (IntKind.i64.wrap ((sxN wd a : Nat) : Int) < IntKind.i64.wrap ((sxN wd b : Nat) : Int)))
              refine zS [(10, .int .u64 ((bitN (decide (IntKind.i64.wrap ((sxN wd a : Nat) : Int) < IntKind.i64.wrap ((sxN wd b : Nat) : Int))) : Nat) : Int))] ?_
              refine op_nil ?_
              refine zQ ?_
              refine zS [(101, .int .i64 ((wd : Nat) : Int)), (102, .int .u64 ((bitN (decide (IntKind.i64.wrap ((sxN wd a : Nat) : Int) < IntKind.i64.wrap ((sxN wd b : Nat) : Int))) : Nat) : Int))] ?_
              refine zC (rcutN_ok wd (bitN (decide (IntKind.i64.wrap ((sxN wd a : Nat) : Int) < IntKind.i64.wrap ((sxN wd b : Nat) : Int)))) _ (by omega) hu83) ?_
              rintro _ w85 ⟨rfl, hT86⟩
              have hT0 := hT0.t0 hT86
              have hu87 : cutN wd (bitN (decide (IntKind.i64.wrap ((sxN wd a : Nat) : Int) < IntKind.i64.wrap ((sxN wd b : Nat) : Int)))) < 18446744073709551616 := Nat.lt_of_lt_of_le (cutN_lt _ _) (pw64 (by omega))
              refine zS [(8, .int .u64 ((cutN wd (bitN (decide (IntKind.i64.wrap ((sxN wd a : Nat) : Int) < IntKind.i64.wrap ((sxN wd b : Nat) : Int)))) : Nat) : Int)), (9, .int .i64 0)] ?_
              refine op_nil ?_
              refine W_ret ?_
              exact ⟨_, Res_of (v := .tuple #[.int .u64 ((cutN wd (bitN (decide (IntKind.i64.wrap ((sxN wd a : Nat) : Int) < IntKind.i64.wrap ((sxN wd b : Nat) : Int)))) : Nat) : Int), .int .i64 0]) (by kernel_rfl), ⟨_, rfl, ⟨hu83, (by first | (intro q; exfalso; omega) | (intro _; rfl) | (intro _; exact congrArg bitN (beq_nat a b)) | (intro _; omega) | (intro _; simp)), (by first | (intro q; exfalso; omega) | (intro _; rfl) | (intro _; exact congrArg bitN (beq_nat a b)) | (intro _; omega) | (intro _; simp)), (by first | (intro q; exfalso; omega) | (intro _; rfl) | (intro _; exact congrArg bitN (beq_nat a b)) | (intro _; omega) | (intro _; simp)), (by first | (intro q; exfalso; omega) | (intro _; rfl) | (intro _; exact congrArg bitN (beq_nat a b)) | (intro _; omega) | (intro _; simp)), (by first | (intro q; exfalso; omega) | (intro _; rfl) | (intro _; exact congrArg bitN (beq_nat a b)) | (intro _; omega) | (intro _; simp)), (by first | (intro q; exfalso; omega) | (intro _; rfl) | (intro _; exact congrArg bitN (beq_nat a b)) | (intro _; omega) | (intro _; simp)), (by first | (intro q; exfalso; omega) | (intro _; rfl) | (intro _; exact congrArg bitN (beq_nat a b)) | (intro _; omega) | (intro _; simp)), (by first | (intro q; exfalso; omega) | (intro _; rfl) | (intro _; exact congrArg bitN (beq_nat a b)) | (intro _; omega) | (intro _; simp))⟩, hT0⟩⟩
             ·
              replace hc76 : ((O : Nat) : Int) ≠ 14 := (ne_of_beq_false hc76)
              refine zR ?_
              refine zS [(27, .int .i64 ((O : Nat) : Int)), (28, .int .i64 ((wd : Nat) : Int)), (29, .int .u64 ((a : Nat) : Int)), (30, .int .u64 ((b : Nat) : Int))] ?_
              refine zC (shift_all O wd a b _ h1 h2 ha_ hb_ (by omega)) ?_
              rintro _ w88 ⟨X90, rfl, hX91, hT89⟩
              have hT0 := hT0.t0 hT89
              refine zS [(10, .int .u64 ((X90 : Nat) : Int))] ?_
              refine op_nil ?_
              refine zQ ?_
              refine zS [(101, .int .i64 ((wd : Nat) : Int)), (102, .int .u64 ((X90 : Nat) : Int))] ?_
              refine zC (rcutN_ok wd X90 _ (by omega) hX91.1) ?_
              rintro _ w92 ⟨rfl, hT93⟩
              have hT0 := hT0.t0 hT93
              have hu94 : cutN wd X90 < 18446744073709551616 := Nat.lt_of_lt_of_le (cutN_lt _ _) (pw64 (by omega))
              refine zS [(8, .int .u64 ((cutN wd X90 : Nat) : Int)), (9, .int .i64 0)] ?_
              refine op_nil ?_
              refine W_ret ?_
              exact ⟨_, Res_of (v := .tuple #[.int .u64 ((cutN wd X90 : Nat) : Int), .int .i64 0]) (by kernel_rfl), ⟨_, rfl, hX91, hT0⟩⟩
 ·
  replace hb1 : ((O : Nat) : Int) < 1 := (of_decide_eq_true hb1)
  exfalso; omega

end Go.Proofs.YtlbadnpgmkobdaaV

set_option linter.unusedVariables false
set_option linter.unusedSimpArgs false
namespace Go.Proofs.YtlbadnpgmkobdaaV
open Go Go.RowKit Go.Proofs
theorem node_casesA {N : List Nd} {most : Int} {i : Nat} (hJ : TJ N most) (hB : TB N) (hi : i < N.length) (A : Nat → Nat → Prop) (hA : ∀ x, pt i x → A (widF N x).toNat x.toNat) (l : List K) (P : Int → Int → Int → Int → Int → Int → K → Prop)
  (h20 : ∀ (nw wd up : Nat) (xa xb xc : Int) (x y z : K) (lo V : Nat) (cst : Option Nat), 1 ≤ nw → nw ≤ 64 → V < pw nw → P 20 nw xa xb xc V (kone 20 nw wd up x y z lo V cst))
  (h21 : ∀ (nw wd up a : Nat) (xb xc xv : Int) (x y z : K) (lo V : Nat) (cst : Option Nat), 1 ≤ nw → nw ≤ 64 → a < 256 → P 21 nw a xb xc xv (kone 21 nw wd up x y z lo V cst))
  (h15 : ∀ (O wd up a : Nat) (xb xc xv : Int) (y z : K) (lo V : Nat) (cst : Option Nat), (O = 15 ∨ O = 16) → a < i → widF N ((a : Nat) : Int) = ((wd : Nat) : Int) → A wd a → 1 ≤ wd → wd ≤ 64 → P O wd a xb xc xv (kone O wd wd up (kg l a) y z lo V cst))
  (h2 : ∀ (nw wd up a b : Nat) (xc xv : Int) (z : K) (lo V : Nat) (by_ O : Nat), a < i → b < i → widF N ((a : Nat) : Int) = ((wd : Nat) : Int) → A wd a → A wd b → 1 ≤ wd → wd ≤ 64 → (1 ≤ O ∧ O ≤ 14) → b < N.length → nV (nth N b) = ((by_ : Nat) : Int) → nw = (if O = 12 ∨ O = 13 ∨ O = 14 then 1 else wd) → P O nw a b xc xv (kone O nw wd up (kg l a) (kg l b) z lo V (if nO (nth N b) = 20 then some by_ else none)))
  (h22 : ∀ (nw wd up a b c : Nat) (xv : Int) (lo V : Nat) (cst : Option Nat), a < i → b < i → c < i → A 1 a → A nw b → A nw c → nw ≤ 64 → P 22 nw a b c xv (kone 22 nw wd up (kg l a) (kg l b) (kg l c) lo V cst))
  (h23 : ∀ (nw wd up a lo : Nat) (xc xv : Int) (y z : K) (V : Nat) (cst : Option Nat), a < i → A wd a → wd ≤ 64 → 1 ≤ nw → lo + nw ≤ wd → P 23 nw a lo xc xv (kone 23 nw wd up (kg l a) y z lo V cst))
  (h24 : ∀ (wd up a b : Nat) (xc xv : Int) (z : K) (lo V : Nat) (cst : Option Nat), a < i → b < i → widF N ((b : Nat) : Int) = ((up : Nat) : Int) → A wd a → A up b → 1 ≤ wd → 1 ≤ up → wd + up ≤ 64 → P 24 ((wd + up : Nat) : Int) a b xc xv (kone 24 (wd + up) wd up (kg l a) (kg l b) z lo V cst))
  (h25 : ∀ (O nw wd up a : Nat) (xb xc xv : Int) (y z : K) (lo V : Nat) (cst : Option Nat), (O = 25 ∨ O = 26) → a < i → widF N ((a : Nat) : Int) = ((wd : Nat) : Int) → A wd a → 1 ≤ wd → wd < nw → nw ≤ 64 → P O nw a xb xc xv (kone O nw wd up (kg l a) y z lo V cst)) :
  P (nO (nth N i)) (nW (nth N i)) (nA (nth N i)) (nB (nth N i)) (nC (nth N i)) (nV (nth N i)) (konN N l (nth N i)) := by
 have hn := hB i hi
 have hwr := hJ.wr _ (nth_mem hi)
 have hwf := hJ.ti.wf _ (nth_mem hi)
 have hu := hwf.2.2.2.2.2
 unfold u64 at hu
 generalize nth N i = n at hn hwr hwf hu ⊢
 have key : ∀ (o w a b c v : Int) (x : K), nO n = o → nW n = w → nA n = a → nB n = b → nC n = c → nV n = v → konN N l n = x → P o w a b c v x → P (nO n) (nW n) (nA n) (nB n) (nC n) (nV n) (konN N l n) := by
  rintro o w a b c v x rfl rfl rfl rfl rfl rfl rfl h; exact h
 have tn : ∀ {x : Int}, 0 ≤ x → x = ((x.toNat : Nat) : Int) := fun h => (Int.toNat_of_nonneg h).symm
 have lt : ∀ {x : Int}, pt i x → x.toNat < i := fun p => by have := p.1; have := p.2; omega
 have wd : ∀ {x : Int}, pt i x → 1 ≤ widF N x ∧ widF N x ≤ 64 := fun p => hJ.wid p.1 (by have := p.2; omega)
 have we : ∀ {x : Int}, pt i x → widF N ((x.toNat : Nat) : Int) = (((widF N x).toNat : Nat) : Int) := fun p => by
  rw [Int.toNat_of_nonneg p.1, Int.toNat_of_nonneg (by have := (wd p).1; omega)]
 have hwn : nW n = (((nW n).toNat : Nat) : Int) := tn (by omega)
 rcases hn with h | h | ⟨h, a, e⟩ | ⟨h, a, b, e, e2⟩ | ⟨h, a, b, c, e, e2, e3⟩ | ⟨h, a, b, e⟩ | ⟨h, a, b, e⟩ | ⟨h, a, e⟩
 ·
  refine key _ _ _ _ _ _ _ h.1 hwn rfl rfl rfl (tn hu.1) ?_ (h20 (nW n).toNat (widF N (nA n)).toNat (widF N (nB n)).toNat (nA n) (nB n) (nC n) (kg l (nA n).toNat) (kg l (nB n).toNat) (kg l (nC n).toNat) (nB n).toNat (nV n).toNat (cstN N n) (by omega) (by omega) ?_)
  ·
   unfold konN; rw [show (nO n).toNat = 20 by omega]
  ·
   have h2 := h.2.2
   have e : ((pw (nW n).toNat : Nat) : Int) = 2 ^ (nW n).toNat := by (unfold pw; simp)
   rw [← e] at h2; omega
 ·
  refine key _ _ _ _ _ _ _ h.1 hwn (tn h.2.1) rfl rfl rfl ?_ (h21 (nW n).toNat (widF N (nA n)).toNat (widF N (nB n)).toNat (nA n).toNat (nB n) (nC n) (nV n) (kg l (nA n).toNat) (kg l (nB n).toNat) (kg l (nC n).toNat) (nB n).toNat (nV n).toNat (cstN N n) (by omega) (by omega) (by omega))
  unfold konN; rw [show (nO n).toNat = 21 by omega]
 ·
  have w1 := wd a
  have en : (nW n).toNat = (widF N (nA n)).toNat := by rw [e]
  have hO : (nO n).toNat = 15 ∨ (nO n).toNat = 16 := by omega
  refine key _ _ _ _ _ _ _ (tn (by omega)) (by rw [e]; exact tn (by omega)) (tn a.1) rfl rfl rfl ?_ (h15 (nO n).toNat (widF N (nA n)).toNat (widF N (nB n)).toNat (nA n).toNat (nB n) (nC n) (nV n) (kg l (nB n).toNat) (kg l (nC n).toNat) (nB n).toNat (nV n).toNat (cstN N n) hO (lt a) (we a) (hA _ a) (by omega) (by omega))
  unfold konN; rw [en]
 ·
  have w1 := wd a
  have lb := lt b
  have hy := hA _ b
  rw [← e] at hy
  have hvb := (hJ.ti.wf _ (nth_mem (show (nB n).toNat < N.length by omega))).2.2.2.2.2
  unfold u64 at hvb
  refine key _ _ _ _ _ _ _ (tn (by omega)) hwn (tn a.1) (tn b.1) rfl rfl ?_ (h2 (nW n).toNat (widF N (nA n)).toNat (widF N (nB n)).toNat (nA n).toNat (nB n).toNat (nC n) (nV n) (kg l (nC n).toNat) (nB n).toNat (nV n).toNat (nV (nth N (nB n).toNat)).toNat (nO n).toNat (lt a) lb (we a) (hA _ a) hy (by omega) (by omega) (by omega) (by omega) (tn hvb.1) ?_)
  ·
   rfl
  ·
   rw [e2]
   by_cases q : nO n = 12 ∨ nO n = 13 ∨ nO n = 14
   ·
    rw [if_pos q, if_pos (by omega)]; rfl
   ·
    rw [if_neg q, if_neg (by omega)]
 ·
  have w1 := wd a
  have w2 := wd b
  have hx := hA _ a
  have hy := hA _ b
  have hz := hA _ c
  rw [e] at hx
  rw [← e2] at hz
  rw [← e3] at hy hz
  refine key _ _ _ _ _ _ _ h hwn (tn a.1) (tn b.1) (tn c.1) rfl ?_ (h22 (nW n).toNat (widF N (nA n)).toNat (widF N (nB n)).toNat (nA n).toNat (nB n).toNat (nC n).toNat (nV n) (nB n).toNat (nV n).toNat (cstN N n) (lt a) (lt b) (lt c) hx hy hz (by omega))
  unfold konN; rw [show (nO n).toNat = 22 by omega]
 ·
  have w1 := wd a
  refine key _ _ _ _ _ _ _ h hwn (tn a.1) (tn b) rfl rfl ?_ (h23 (nW n).toNat (widF N (nA n)).toNat (widF N (nB n)).toNat (nA n).toNat (nB n).toNat (nC n) (nV n) (kg l (nB n).toNat) (kg l (nC n).toNat) (nV n).toNat (cstN N n) (lt a) (hA _ a) (by omega) (by omega) (by omega))
  unfold konN; rw [show (nO n).toNat = 23 by omega]
 ·
  have w1 := wd a
  have w2 := wd b
  have en : (nW n).toNat = (widF N (nA n)).toNat + (widF N (nB n)).toNat := by omega
  refine key _ _ _ _ _ _ _ h (by rw [← en]; exact hwn) (tn a.1) (tn b.1) rfl rfl ?_ (h24 (widF N (nA n)).toNat (widF N (nB n)).toNat (nA n).toNat (nB n).toNat (nC n) (nV n) (kg l (nC n).toNat) (nB n).toNat (nV n).toNat (cstN N n) (lt a) (lt b) (we b) (hA _ a) (hA _ b) (by omega) (by omega) (by omega))
  unfold konN; rw [show (nO n).toNat = 24 by omega, en]
 ·
  have w1 := wd a
  have hO : (nO n).toNat = 25 ∨ (nO n).toNat = 26 := by omega
  refine key _ _ _ _ _ _ _ (tn (by omega)) hwn (tn a.1) rfl rfl rfl ?_ (h25 (nO n).toNat (nW n).toNat (widF N (nA n)).toNat (widF N (nB n)).toNat (nA n).toNat (nB n) (nC n) (nV n) (kg l (nB n).toNat) (kg l (nC n).toNat) (nB n).toNat (nV n).toNat (cstN N n) hO (lt a) (we a) (hA _ a) (by omega) (by omega) (by omega))
  rfl
/-- Words as a slice's cells. -/
def us (l : List Nat) : List Value := l.map fun (n : Nat) => .int .u64 ((n : Nat) : Int)
theorem us_at {l : List Nat} {i : Nat} (h : i < l.length) : (us l)[i]? = some (.int .u64 ((l.getD i 0 : Nat) : Int)) := by
 unfold us; rw [List.getElem?_map, List.getD_eq_getElem?_getD, List.getElem?_eq_getElem h]; rfl
theorem us_app (l : List Nat) (x : Nat) : us (l ++ [x]) = us l ++ [.int .u64 ((x : Nat) : Int)] := by simp [us]
/-- A value of a term: it fits the width, what is known of it holds, a constant's is the constant. -/
def Fits (N : List Nd) (l : List K) (vs : List Nat) (wd a : Nat) : Prop := KI wd (kg l a) ∧ vs.getD a 0 < pw wd ∧ Snd (kg l a) (vs.getD a 0) ∧ (nO (nth N a) = 20 → nV (nth N a) = ((vs.getD a 0 : Nat) : Int))
def Good (nw : Nat) (x : K) (r : Nat) : Prop := r < pw nw ∧ Snd x r
section
variable {nw wd up : Nat} {x y z : K} {lo V : Nat} {cst : Option Nat} {va vb X O : Nat}
theorem good_bin (h1 : 1 ≤ wd) (h2 : wd ≤ 64) (hO : 1 ≤ O ∧ O ≤ 14) (hX : BinX O wd va vb X) (hx : Snd x va) (hy : Snd y vb) (ha : va < pw wd) (hb : vb < pw wd) (hnw : nw = if O = 12 ∨ O = 13 ∨ O = 14 then 1 else wd) (hc : ∀ q, cst = some q → q = vb) : Good nw (kone O nw wd up x y z lo V cst) (cutN wd X) := by
 obtain ⟨hu, x1, x6, x7, x8, x9, x10, x12, x13⟩ := hX
 have p1 : pw 1 ≤ pw wd := Nat.pow_le_pow_right (n := 2) (by decide) h1
 have e1 : pw 1 = 2 := rfl
 have hlt := cutN_lt wd X
 have hb1 : X ≤ 1 → cutN wd X = X := fun h => Nat.mod_eq_of_lt (by omega)
 refine ⟨?_, ?_⟩
 ·
  by_cases q : O = 12 ∨ O = 13 ∨ O = 14
  ·
   rw [hnw, if_pos q]
   have : X ≤ 1 := by
    rcases q with q | q | q
    ·
     rw [x12 q]; exact bitN_u _
    ·
     exact x13 (.inl q)
    ·
     exact x13 (.inr q)
   rw [hb1 this]; omega
  ·
   rw [hnw, if_neg q]; exact hlt
 ·
  have hcs : ∀ {q : Nat}, q < pw wd → cutN wd q = q := fun h => Nat.mod_eq_of_lt h
  unfold kone
  rw [if_neg (by omega), if_neg (by omega)]
  by_cases q : O = 6 ∨ O = 7 ∨ O = 8
  ·
   rw [if_pos q]
   rcases q with rfl | rfl | rfl
   ·
    rw [x6 rfl, hcs (Nat.lt_of_le_of_lt Nat.and_le_left ha)]; exact snd_6 hx hy
   ·
    rw [x7 rfl, hcs (Nat.or_lt_two_pow ha hb)]; exact snd_7 hx hy
   ·
    rw [x8 rfl, hcs (Nat.xor_lt_two_pow ha hb)]; exact snd_8 hx hy
  rw [if_neg q]
  by_cases q : O = 1
  ·
   rw [if_pos q, x1 q]
   exact (snd_sum (w := wd) hx hy).resolve_right (fun h => h h2)
  rw [if_neg q]
  by_cases q : O = 12
  ·
   rw [if_pos q, hb1 (by rw [x12 q]; exact bitN_u _), x12 q]
   exact snd_eq hx hy ha hb
  rw [if_neg q]
  by_cases q : O = 9 ∨ O = 10
  ·
   rw [if_pos q]
   cases cst with
   | none => exact Snd_zero _
   | some c =>
    obtain rfl := hc c rfl
    rcases q with rfl | rfl
    ·
     rw [x9 rfl, cut_bval]; exact snd_shl hx _
    ·
     rw [x10 rfl, cut_bval]; exact snd_shr hx _
  rw [if_neg q, if_neg (by omega), if_neg (by omega), if_neg (by omega), if_neg (by omega), if_neg (by omega)]
  exact Snd_zero _
theorem good_una (hO : O = 15 ∨ O = 16) (h2 : wd ≤ 64) (hk : KI wd x) (hx : Snd x va) (ha : va < pw wd) (hX : O = 15 → X = 18446744073709551615 - va) : Good wd (kone O wd wd up x y z lo V cst) (cutN wd X) := by
 refine ⟨cutN_lt _ _, ?_⟩
 rcases hO with rfl | rfl
 ·
  rw [hX rfl]; exact snd_not hx hk h2 (Nat.lt_of_lt_of_le ha (pw64 h2))
 ·
  exact Snd_zero _
theorem good_ite {q : Nat} {c : K} (hc : Snd c q) (hq : q < pw 1) (hx : Snd x va) (hy : Snd y vb) (ha : va < pw nw) (hb : vb < pw nw) : Good nw (kone 22 nw wd up c x y lo V cst) (if q = 1 then va else vb) := ⟨by split <;> assumption, snd_ite hx hy hc hq⟩
theorem good_ext (hx : Snd x va) : Good nw (kone 23 nw wd up x y z lo V cst) (cutN nw (va / pw lo)) := ⟨cutN_lt _ _, snd_ext hx wd lo⟩
theorem good_cat (hx : Snd x va) (hy : Snd y vb) (kx : KI wd x) (ky : KI up y) (ha : va < pw wd) (hb : vb < pw up) (hw : wd + up ≤ 64) : Good (wd + up) (kone 24 (wd + up) wd up x y z lo V cst) (va * pw up % 18446744073709551616 ||| vb) := by
 refine ⟨?_, snd_cat hx hy kx ky hb hw⟩
 obtain ⟨e1, l1⟩ := cat_mod ha hw
 rw [e1]
 exact Nat.or_lt_two_pow l1 (Nat.lt_of_lt_of_le hb (Nat.pow_le_pow_right (n := 2) (by decide) (by omega)))
theorem good_zx (hx : Snd x va) (ha : va < pw wd) (hw : wd < nw) : Good nw (kone 25 nw wd up x y z lo V cst) va := ⟨Nat.lt_of_lt_of_le ha (Nat.pow_le_pow_right (n := 2) (by decide) (by omega)), snd_zx hx ha⟩
theorem good_sx (hx : Snd x va) (ha : va < pw wd) (hw : wd < nw) (h64 : nw ≤ 64) : Good nw (kone 26 nw wd up x y z lo V cst) (cutN nw (sxN wd va)) := ⟨cutN_lt _ _, snd_sx hx ha (by omega) h64⟩
theorem good_const (h : V < pw nw) : Good nw (kone 20 nw wd up x y z lo V cst) V := ⟨h, fun t _ => rfl⟩
theorem good_var {r : Nat} (h : r < pw nw) : Good nw (kone 21 nw wd up x y z lo V cst) r := ⟨h, Snd_zero _⟩
end
/-- What is known of a node that is a constant: all of it. -/
theorem const_val {w V r : Nat} (hV : V < pw w) (hr : r < pw w) (h : Snd (pw w - 1, V) r) : V = r := Nat.eq_of_testBit_eq fun t => by
 by_cases q : t < w
 ·
  exact (h t (by show (pw w - 1).testBit t = true; rw [pwm_bit]; exact decide_eq_true q)).symm
 ·
  rw [hi_bit hV (by omega), hi_bit hr (by omega)]
/-- The values of the terms ahead of one. -/
def VOK (N : List Nd) (vs : List Nat) : Prop := ∀ j, j < vs.length → Good (nW (nth N j)).toNat (konN N (kl N j) (nth N j)) (vs.getD j 0)
theorem VOK.fits {N : List Nd} {most : Int} {vs : List Nat} (h : VOK N vs) (hJ : TJ N most) (hB : TB N) (hl : vs.length ≤ N.length) {x : Int} (hp : pt vs.length x) : Fits N (kl N vs.length) vs (widF N x).toNat x.toNat := by
 have hx : x.toNat < vs.length := by have := hp.1; have := hp.2; omega
 have hg := h _ hx
 rw [wid_nth hp hl]
 have hk := kl_kg (N := N) hx
 refine ⟨kl_KI hJ hB _ _ hx (by omega), hg.1, by rw [hk]; exact hg.2, fun e => ?_⟩
 have hn := hB x.toNat (by omega)
 have hV : 0 ≤ nV (nth N x.toNat) ∧ nV (nth N x.toNat) < 2 ^ (nW (nth N x.toNat)).toNat := by
  rcases hn with h | h | h | h | h | h | h | h
  ·
   exact h.2
  ·
   omega
  ·
   omega
  ·
   omega
  ·
   omega
  ·
   omega
  ·
   omega
  ·
   omega
 have h2 := hV.2
 have e2 : ((pw (nW (nth N x.toNat)).toNat : Nat) : Int) = 2 ^ (nW (nth N x.toNat)).toNat := by (unfold pw; simp)
 rw [← e2] at h2
 have hs := hg.2
 unfold konN at hs
 rw [show (nO (nth N x.toNat)).toNat = 20 by omega] at hs
 have := const_val (V := (nV (nth N x.toNat)).toNat) (by omega) hg.1 hs
 omega
theorem VOK.add {N : List Nd} {vs : List Nat} {r : Nat} (h : VOK N vs) (hr : Good (nW (nth N vs.length)).toNat (konN N (kl N vs.length) (nth N vs.length)) r) : VOK N (vs ++ [r]) := fun j hj => by
 rw [List.length_append] at hj
 simp only [List.length_cons, List.length_nil] at hj
 by_cases e : j < vs.length
 ·
  rw [show (vs ++ [r]).getD j 0 = vs.getD j 0 by simp [List.getD_eq_getElem?_getD, List.getElem?_append_left e]]
  exact h j e
 ·
  obtain rfl : j = vs.length := by omega
  rw [show (vs ++ [r]).getD vs.length 0 = r by simp [List.getD_eq_getElem?_getD]]
  exact hr
theorem VOK_nil (N : List Nd) : VOK N [] := fun j h => by simp at h
end Go.Proofs.YtlbadnpgmkobdaaV
