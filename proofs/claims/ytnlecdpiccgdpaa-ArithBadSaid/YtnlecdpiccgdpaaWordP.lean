/- Words: plain. -/
import Derived.Test.YtnlecdpiccgdpaaShiftP
set_option linter.unusedVariables false
set_option linter.unusedSimpArgs false
namespace Go.Proofs.YtnlecdpiccgdpaaV
open Go Go.RowKit Go.Proofs
theorem pw_u64 {i : Nat} (h : i < 64) : pw i ≤ 9223372036854775808 := Nat.pow_le_pow_right (n := 2) (j := 63) (by decide) (by omega)
theorem pw_pos (i : Nat) : 1 ≤ pw i := Nat.one_le_two_pow
theorem pw_succ (i : Nat) : pw (i + 1) = 2 * pw i := by unfold pw; rw [Nat.pow_succ]; omega
theorem lt64 {x : Nat} (h : x < 18446744073709551616) : x < 2 ^ 64 := h
theorem bval_u {m : Nat} {f : Nat → Bool} (h : m ≤ 64) : bval m f < 18446744073709551616 := Nat.lt_of_lt_of_le (bval_lt m f) (Nat.pow_le_pow_right (n := 2) (j := 64) (by decide) h)
theorem fdiv_nat (x i : Nat) : ((x : Nat) : Int).fdiv (2 ^ i) = ((x / pw i : Nat) : Int) := by
  have e : ((2 : Int) ^ i) = ((pw i : Nat) : Int) := by unfold pw; simp
  rw [e, Int.fdiv_eq_ediv_of_nonneg _ (by omega)]
  rfl
theorem bit_div (x i : Nat) : (x / pw i % 2 = 1) ↔ x.testBit i = true := by
  unfold pw
  rw [Nat.testBit_eq_decide_div_mod_eq]
  simp
theorem bitB (x i : Nat) : decide (x / pw i % 2 = 1) = x.testBit i := by
  unfold pw; rw [Nat.testBit_eq_decide_div_mod_eq]
theorem bit_eq (x i : Nat) : ((((x / pw i : Nat) : Int)) % 2 == 1) = x.testBit i := by
  rw [← bitB]
  rcases (show x / pw i % 2 = 0 ∨ x / pw i % 2 = 1 by omega) with h | h
  · rw [decide_eq_false (by omega)]
    exact beq_eq_false_iff_ne.2 (by omega)
  · rw [decide_eq_true h]
    exact beq_iff_eq.2 (by omega)
theorem bv_u (a : Nat) (h : a < 18446744073709551616) : (BitVec.ofInt 64 (a : Int)).toNat = a := by
  rw [BitVec.toNat_ofInt]
  have : (2 : Int) ^ 64 = 18446744073709551616 := by decide
  omega
theorem and_u (a b : Nat) (ha : a < 18446744073709551616) (hb : b < 18446744073709551616) : IntKind.u64.wrap ((BitVec.ofInt 64 (a : Int) &&& BitVec.ofInt 64 (b : Int)).toNat : Int) = ((a &&& b : Nat) : Int) := by
  have e : (BitVec.ofInt 64 (a : Int) &&& BitVec.ofInt 64 (b : Int)).toNat = a &&& b := by rw [BitVec.toNat_and, bv_u a ha, bv_u b hb]
  have : a &&& b ≤ a := Nat.and_le_left
  rw [e, wrap_u64 (by omega) (by omega)]
theorem or_u (a b : Nat) (ha : a < 18446744073709551616) (hb : b < 18446744073709551616) : IntKind.u64.wrap ((BitVec.ofInt 64 (a : Int) ||| BitVec.ofInt 64 (b : Int)).toNat : Int) = ((a ||| b : Nat) : Int) := by
  have e : (BitVec.ofInt 64 (a : Int) ||| BitVec.ofInt 64 (b : Int)).toNat = a ||| b := by rw [BitVec.toNat_or, bv_u a ha, bv_u b hb]
  have : a ||| b < 2 ^ 64 := Nat.or_lt_two_pow ha hb
  have h64 : (2 : Nat) ^ 64 = 18446744073709551616 := by decide
  rw [e, wrap_u64 (by omega) (by omega)]
/-- One more bit. -/
theorem bval_or (i : Nat) (f : Nat → Bool) (b : Bool) (hb : b = f i) : (bval i f ||| (if b = true then pw i else 0)) = bval (i + 1) f := by
  subst hb
  have hl := bval_lt i f
  show _ = bval i f + (if f i then 2 ^ i else 0)
  by_cases h : f i = true
  · rw [if_pos h, if_pos h]
    unfold pw
    rw [Nat.add_comm, Nat.or_comm]
    have := Nat.two_pow_add_eq_or_of_lt hl 1
    rw [Nat.mul_one] at this
    exact this.symm
  · rw [if_neg h, if_neg h]; simp
theorem bvalor_u (i : Nat) (f : Nat → Bool) (b : Bool) (hi : i < 64) (hb : b = f i) : IntKind.u64.wrap ((BitVec.ofInt 64 ((bval i f : Nat) : Int) ||| BitVec.ofInt 64 (((if b = true then pw i else 0 : Nat)) : Int)).toNat : Int) = ((bval (i + 1) f : Nat) : Int) := by
  have h1 := bval_u (m := i) (f := f) (by omega)
  have h2 := pw_u64 hi
  rw [or_u _ _ h1 (by split <;> omega), bval_or i f b hb]
theorem bval_not {i : Nat} {f : Nat → Bool} (h : f i = false) : bval i f = bval (i + 1) f := by
  show _ = bval i f + (if f i then 2 ^ i else 0)
  rw [h]; simp
def bitN (b : Bool) : Nat := if b = true then 1 else 0
theorem shl_bit (b : Bool) {i : Nat} (h : i < 64) : IntKind.u64.wrap (((bitN b : Nat) : Int) * 2 ^ i) = (((if b = true then pw i else 0 : Nat)) : Int) := by
  have h2 := pw_u64 h
  have e : ((2 : Int) ^ i) = ((pw i : Nat) : Int) := by unfold pw; simp
  rw [e]
  cases b with
  | true => simp only [bitN, if_true]; rw [wrap_u64 (by omega) (by omega)]; simp
  | false => simp only [bitN, Bool.false_eq_true, if_false]; rw [wrap_u64 (by omega) (by omega)]; simp
/-- The lowest bits. -/
def cutN (w x : Nat) : Nat := x % pw w
theorem cutN_lt (w x : Nat) : cutN w x < pw w := Nat.mod_lt _ (pw_pos w)
theorem pw64 {w : Nat} (h : w ≤ 64) : pw w ≤ 18446744073709551616 := Nat.pow_le_pow_right (n := 2) (j := 64) (by decide) h
theorem cut_and (w x : Nat) : x &&& (pw w - 1) = cutN w x := by unfold pw cutN pw; exact Nat.and_two_pow_sub_one_eq_mod x w
theorem cut_u (w x : Nat) (hw : w ≤ 64) (hx : x < 18446744073709551616) : IntKind.u64.wrap ((BitVec.ofInt 64 (x : Int) &&& BitVec.ofInt 64 ((pw w - 1 : Nat) : Int)).toNat : Int) = ((cutN w x : Nat) : Int) := by
  have := pw64 hw
  rw [and_u _ _ hx (by have := pw_pos w; omega), cut_and]
theorem cut_bval (w : Nat) (f : Nat → Bool) : cutN w (bval w f) = bval w f := Nat.mod_eq_of_lt (bval_lt w f)
theorem cut_bit (w x j : Nat) : (cutN w x).testBit j = (decide (j < w) && x.testBit j) := by unfold cutN pw; rw [Nat.testBit_mod_two_pow]
theorem bval_cut {m x : Nat} {f : Nat → Bool} (h : ∀ j, j < m → f j = x.testBit j) : bval m f = cutN m x := bval_eq h
/-- The word that is moved, bit by bit. -/
def mvR (w a : Nat) (sh : Int) (fl : Bool) (i : Nat) : Bool := if (w : Int) ≤ (i : Int) - sh then fl else if 0 ≤ (i : Int) - sh then a.testBit ((i : Int) - sh).toNat else false
theorem mvR_up {w a b i : Nat} (hi : i < w) (hw : w ≤ 64) (s : Int) (hs : s = if b < 64 then (b : Int) else 64) : mvR w a s false i = mvB true w (fun j => a.testBit j) false b i := by
  unfold mvR mvB
  rw [if_pos rfl]
  by_cases h : b ≤ i
  · rw [if_pos (by omega) (c := b < 64)] at hs
    rw [if_neg (by omega), if_pos (by omega), if_pos h]
    congr 1; omega
  · have : i < s.toNat := by split at hs <;> omega
    rw [if_neg (by split at hs <;> omega), if_neg (by split at hs <;> omega), if_neg h]
theorem mvR_dn {w a b i : Nat} (hi : i < w) (hw : w ≤ 64) (fl : Bool) (s : Int) (hs : s = if b < 64 then (b : Int) else 64) : mvR w a (-s) fl i = mvB false w (fun j => a.testBit j) fl b i := by
  unfold mvR mvB
  simp only [Bool.false_eq_true, if_false]
  by_cases h : i + b < w
  · rw [if_pos (by omega) (c := b < 64)] at hs
    rw [if_neg (by omega), if_pos (by omega), if_pos h]
    congr 1; omega
  · rw [if_pos (by split at hs <;> omega), if_neg h]
end Go.Proofs.YtnlecdpiccgdpaaV
