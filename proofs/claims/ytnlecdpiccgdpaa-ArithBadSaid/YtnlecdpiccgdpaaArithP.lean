/- Sums and comparisons of rows: plain. -/
import Derived.Test.YtnlecdpiccgdpaaInP
set_option linter.unusedVariables false
set_option linter.unusedSimpArgs false
namespace Go.Proofs.YtnlecdpiccgdpaaV
open Go Go.RowKit Go.Proofs
theorem bval_succ (m : Nat) (f : Nat → Bool) : bval (m + 1) f = bval m f + (if f m = true then 2 ^ m else 0) := rfl
def cryB (A B : Nat → Bool) (c : Bool) : Nat → Bool
  | 0 => c
  | i + 1 => (A i && B i) || ((A i != B i) && cryB A B c i)
def sumB (A B : Nat → Bool) (c : Bool) (i : Nat) : Bool := (A i != B i) != cryB A B c i
theorem sum_val (A B : Nat → Bool) (c : Bool) (m : Nat) : bval m (sumB A B c) + (if cryB A B c m = true then 2 ^ m else 0) = bval m A + bval m B + (if c = true then 1 else 0) := by
  induction m with
  | zero => cases c <;> rfl
  | succ m ih =>
    rw [bval_succ, bval_succ, bval_succ]
    have e1 : cryB A B c (m + 1) = ((A m && B m) || ((A m != B m) && cryB A B c m)) := rfl
    have e2 : sumB A B c m = ((A m != B m) != cryB A B c m) := rfl
    rw [e1, e2, Nat.pow_succ]
    generalize 2 ^ m = P at *
    cases hA : A m <;> cases hB : B m <;> cases hC : cryB A B c m <;> simp [hC] at ih ⊢ <;> omega
theorem sum_mod (A B : Nat → Bool) (c : Bool) (m : Nat) : bval m (sumB A B c) = (bval m A + bval m B + (if c = true then 1 else 0)) % pw m := by
  have h := sum_val A B c m
  have hl := bval_lt m (sumB A B c)
  unfold pw
  rw [← h]
  split
  · rw [Nat.add_mod_right, Nat.mod_eq_of_lt hl]
  · rw [Nat.add_zero, Nat.mod_eq_of_lt hl]
theorem bval_nots (A : Nat → Bool) (m : Nat) : bval m (fun j => !A j) + bval m A + 1 = pw m := by
  induction m with
  | zero => rfl
  | succ m ih =>
    unfold bval
    rw [pw_succ]
    unfold pw at *
    cases A m <;> simp <;> omega
theorem bval_false (m : Nat) : bval m (fun _ => false) = 0 := by
  induction m with
  | zero => rfl
  | succ m ih => unfold bval; rw [ih]; simp
theorem cut_add {w a b : Nat} (hw : w ≤ 64) : cutN w ((a + b) % 18446744073709551616) = cutN w (a + b) := by
  have : pw w ∣ 18446744073709551616 := by
    have : pw w ∣ 2 ^ 64 := Nat.pow_dvd_pow 2 hw
    exact this
  unfold cutN
  exact Nat.mod_mod_of_dvd _ this
theorem cut_of64 {w x : Nat} (hw : w ≤ 64) : cutN w (x % 18446744073709551616) = cutN w x := by
  have : pw w ∣ 18446744073709551616 := by
    have : pw w ∣ 2 ^ 64 := Nat.pow_dvd_pow 2 hw
    exact this
  unfold cutN
  exact Nat.mod_mod_of_dvd _ this
/-- A difference. -/
def subN (w a b : Nat) : Nat := (a + (pw w - b % pw w)) % pw w
theorem sub_mod (A B : Nat → Bool) (m : Nat) : bval m (sumB A (fun j => !B j) true) = subN m (bval m A) (bval m B) := by
  rw [sum_mod]
  have h := bval_nots B m
  have hl := bval_lt m B
  unfold subN
  rw [Nat.mod_eq_of_lt (show bval m B < pw m from hl)]
  congr 1
  simp only [if_true]; omega
theorem cut_cut {w x : Nat} : cutN w (cutN w x) = cutN w x := Nat.mod_mod _ _
theorem u64_sub (a b : Nat) (ha : a < 18446744073709551616) (hb : b < 18446744073709551616) : IntKind.u64.wrap ((a : Int) - (b : Int)) = (((a + (18446744073709551616 - b)) % 18446744073709551616 : Nat) : Int) := by
  simp only [IntKind.wrap, IntKind.bits, IntKind.signed]; simp; omega
theorem u64_add (a b : Nat) : IntKind.u64.wrap ((a : Int) + (b : Int)) = (((a + b) % 18446744073709551616 : Nat) : Int) := by
  simp only [IntKind.wrap, IntKind.bits, IntKind.signed]; simp
theorem cut_sub64 {w a b : Nat} (hw : w ≤ 64) (hb : b < 18446744073709551616) : cutN w ((a + (18446744073709551616 - b)) % 18446744073709551616) = subN w a b := by
  rw [cut_of64 hw]
  obtain ⟨k, hk⟩ : pw w ∣ 18446744073709551616 := by
    have : pw w ∣ 2 ^ 64 := Nat.pow_dvd_pow 2 hw
    exact this
  unfold cutN subN
  have hp := pw_pos w
  have hd := Nat.div_add_mod b (pw w)
  have hm := Nat.mod_lt b (show pw w > 0 by omega)
  have e : a + (18446744073709551616 - b) = a + (pw w - b % pw w) + pw w * (k - 1 - b / pw w) := by
    have hbk : b / pw w < k := by
      rw [Nat.div_lt_iff_lt_mul (by omega), Nat.mul_comm, ← hk]; exact hb
    have h3 : pw w * (k - 1 - b / pw w) + pw w * (b / pw w) + pw w = pw w * k := by
      rw [← Nat.mul_add, ← Nat.mul_succ]; congr 1; omega
    rw [hk]; omega
  rw [e, Nat.add_mul_mod_self_left]
theorem subN_cut {w a b : Nat} : subN w (cutN w a) (cutN w b) = subN w a b := by
  unfold subN cutN
  rw [Nat.mod_mod, Nat.mod_add_mod]
theorem subN_lt (w a b : Nat) : cutN w (subN w a b) = subN w a b := Nat.mod_mod _ _
/-! ### Comparisons -/
def eqB (A B : Nat → Bool) : Nat → Bool
  | 0 => true
  | i + 1 => eqB A B i && !(A i != B i)
def lsB (A B : Nat → Bool) : Nat → Bool
  | 0 => false
  | i + 1 => ite_ (A i != B i) (B i) (lsB A B i)
theorem eqB_val (A B : Nat → Bool) (m : Nat) : eqB A B m = decide (bval m A = bval m B) := by
  induction m with
  | zero => rfl
  | succ m ih =>
    have h1 := bval_lt m A
    have h2 := bval_lt m B
    show (eqB A B m && !(A m != B m)) = _
    rw [ih, bval_succ, bval_succ]
    generalize 2 ^ m = P at *
    cases A m <;> cases B m <;> simp <;> omega
theorem lsB_val (A B : Nat → Bool) (m : Nat) : lsB A B m = decide (bval m A < bval m B) := by
  induction m with
  | zero => rfl
  | succ m ih =>
    have h1 := bval_lt m A
    have h2 := bval_lt m B
    show ite_ (A m != B m) (B m) (lsB A B m) = _
    rw [ih, bval_succ, bval_succ]
    unfold ite_
    generalize 2 ^ m = P at *
    cases A m <;> cases B m <;> simp <;> omega
def flip (m : Nat) (A : Nat → Bool) (j : Nat) : Bool := if j = m - 1 then !A j else A j
/-- A word with its sign. -/
def sgn (w x : Nat) : Int := if (cutN w x).testBit (w - 1) = true then (cutN w x : Int) - (pw w : Int) else (cutN w x : Int)
theorem flip_val {m : Nat} (A : Nat → Bool) (hm : 1 ≤ m) : (bval m (flip m A) : Int) = (if A (m - 1) = true then (bval m A : Int) - pw m else (bval m A : Int)) + pw (m - 1) := by
  obtain ⟨k, rfl⟩ : ∃ k, m = k + 1 := ⟨m - 1, by omega⟩
  unfold bval
  have e : bval k (flip (k + 1) A) = bval k A := bval_congr fun j hj => by unfold flip; rw [if_neg (by omega)]
  have e2 : flip (k + 1) A k = !A k := by unfold flip; rw [if_pos (by omega)]
  rw [e, e2, pw_succ, show k + 1 - 1 = k from rfl]
  unfold pw
  generalize 2 ^ k = P at *
  cases A k <;> simp <;> omega
theorem sless_val {m a b : Nat} {A B : Nat → Bool} (hm : 1 ≤ m) (hA : ∀ j, j < m → A j = a.testBit j) (hB : ∀ j, j < m → B j = b.testBit j) : lsB (flip m A) (flip m B) m = decide (sgn m a < sgn m b) := by
  rw [lsB_val]
  have h1 := flip_val A hm
  have h2 := flip_val B hm
  have e1 : bval m A = cutN m a := bval_cut hA
  have e2 : bval m B = cutN m b := bval_cut hB
  have t1 : A (m - 1) = (cutN m a).testBit (m - 1) := by rw [hA _ (by omega), cut_bit, decide_eq_true (by omega), Bool.true_and]
  have t2 : B (m - 1) = (cutN m b).testBit (m - 1) := by rw [hB _ (by omega), cut_bit, decide_eq_true (by omega), Bool.true_and]
  rw [e1, t1] at h1
  rw [e2, t2] at h2
  refine decide_eq_decide.2 ?_
  unfold sgn
  constructor <;> intro h <;> omega
theorem lsB_congr {A A' B B' : Nat → Bool} {m : Nat} (h : ∀ j, j < m → A j = A' j) (k : ∀ j, j < m → B j = B' j) : lsB A B m = lsB A' B' m := by rw [lsB_val, lsB_val, bval_congr h, bval_congr k]
theorem cryB_congr {A A' B B' : Nat → Bool} {c : Bool} {m : Nat} (h : ∀ j, j < m → A j = A' j) (k : ∀ j, j < m → B j = B' j) : cryB A B c m = cryB A' B' c m := by
  induction m with
  | zero => rfl
  | succ m ih =>
    show ((A m && B m) || ((A m != B m) && cryB A B c m)) = ((A' m && B' m) || ((A' m != B' m) && cryB A' B' c m))
    rw [ih (fun j hj => h j (by omega)) (fun j hj => k j (by omega)), h m (by omega), k m (by omega)]
theorem sumB_congr {A A' B B' : Nat → Bool} {c : Bool} {j : Nat} (h : ∀ i, i ≤ j → A i = A' i) (k : ∀ i, i ≤ j → B i = B' i) : sumB A B c j = sumB A' B' c j := by
  unfold sumB
  rw [cryB_congr (fun i hi => h i (by omega)) (fun i hi => k i (by omega)), h j (by omega), k j (by omega)]
theorem and1_u (x : Nat) (hx : x < 18446744073709551616) : IntKind.u64.wrap ((BitVec.ofInt 64 (x : Int) &&& BitVec.ofInt 64 1).toNat : Int) = ((x % 2 : Nat) : Int) := by
  have := and_u x 1 hx (by omega)
  rw [show ((1 : Nat) : Int) = 1 from rfl] at this
  rw [this, Nat.and_one_is_mod]
end Go.Proofs.YtnlecdpiccgdpaaV
