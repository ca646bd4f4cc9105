/- Plain facts on the row of chapter 9: what Term answers, the first numbers; two lists that are the same. No condition. -/
import Derived.IntWalk
import Derived.OwnWalk
set_option linter.unusedVariables false
namespace LubyP
/-- The i-th number of the row (0 at i = 0), with fuel. -/
def T : Nat → Nat → Nat
  | 0, _ => 0
  | f + 1, i => if i = 0 then 0 else if 2 ^ Nat.log2 (i + 1) = i + 1 then (i + 1) / 2 else T f (i + 1 - 2 ^ Nat.log2 (i + 1))
def lub (i : Nat) : Nat := T i i
theorem T_fuel : ∀ (f i : Nat), i ≤ f → T f i = T i i := by
  intro f
  induction f using Nat.strongRecOn with
  | _ f ih =>
    intro i hi
    cases i with
    | zero => cases f <;> simp [T]
    | succ i =>
      cases f with
      | zero => omega
      | succ f =>
        have h2 : 2 ≤ 2 ^ Nat.log2 (i + 1 + 1) := by
          have h1 : 1 ≤ Nat.log2 (i + 1 + 1) := (Nat.le_log2 (by omega)).2 (by omega)
          calc 2 = 2 ^ 1 := rfl
            _ ≤ _ := Nat.pow_le_pow_right (by omega) h1
        have hp : 2 ^ Nat.log2 (i + 1 + 1) ≤ i + 1 + 1 := Nat.log2_self_le (by omega)
        simp only [T]
        by_cases h : 2 ^ Nat.log2 (i + 1 + 1) = i + 1 + 1
        · simp [h]
        · rw [if_neg (by omega), if_neg h, if_neg (by omega), if_neg h]
          rw [ih f (by omega) _ (by omega)]
          by_cases hif : i = f
          · subst hif; rw [ih i (by omega) _ (by omega)]
          · rw [ih i (by omega) _ (by omega)]
/-- p: a power of two, p ≤ i + 1 < 2p. -/
theorem log2_of {m k : Nat} (h1 : 2 ^ k ≤ m) (h2 : m < 2 ^ (k + 1)) : Nat.log2 m = k := by
  have hm : m ≠ 0 := by have := Nat.two_pow_pos k; omega
  have a := (Nat.le_log2 hm).2 h1
  have b := (Nat.log2_lt hm).2 h2
  omega
theorem lub_zero : lub 0 = 0 := rfl
theorem lub_top (k : Nat) (hk : 1 ≤ k) : lub (2 ^ k - 1) = 2 ^ k / 2 := by
  have h2 : 2 ≤ 2 ^ k := by
    calc 2 = 2 ^ 1 := rfl
      _ ≤ _ := Nat.pow_le_pow_right (by omega) hk
  have e : 2 ^ k - 1 + 1 = 2 ^ k := by omega
  obtain ⟨m, hm⟩ : ∃ m, 2 ^ k - 1 = m + 1 := ⟨2 ^ k - 2, by omega⟩
  unfold lub
  rw [hm]
  simp only [T]
  rw [if_neg (by omega)]
  have e2 : m + 1 + 1 = 2 ^ k := by omega
  rw [e2]
  rw [log2_of (k := k) (by omega) (by rw [Nat.pow_succ]; omega)]
  simp
theorem lub_step {i k : Nat} (hk : 1 ≤ k) (h1 : 2 ^ k ≤ i + 1) (h2 : i + 1 < 2 ^ (k + 1)) (h : 2 ^ k ≠ i + 1) : lub i = lub (i + 1 - 2 ^ k) := by
  have hp : 2 ≤ 2 ^ k := by
    calc 2 = 2 ^ 1 := rfl
      _ ≤ _ := Nat.pow_le_pow_right (by omega) hk
  obtain ⟨m, hm⟩ : ∃ m, i = m + 1 := ⟨i - 1, by omega⟩
  subst hm
  unfold lub
  simp only [T]
  rw [log2_of h1 h2, if_neg (by omega), if_neg h, T_fuel m _ (by omega)]
theorem lub_le (i : Nat) : lub i ≤ i := by
  induction i using Nat.strongRecOn with
  | _ i ih =>
    cases i with
    | zero => simp [lub_zero]
    | succ m =>
      have hl := Nat.log2_self_le (n := m + 1 + 1) (by omega)
      have hl2 : m + 1 + 1 < 2 ^ (Nat.log2 (m + 1 + 1) + 1) := Nat.lt_log2_self
      have h1 : 1 ≤ Nat.log2 (m + 1 + 1) := (Nat.le_log2 (by omega)).2 (by omega)
      by_cases h : 2 ^ Nat.log2 (m + 1 + 1) = m + 1 + 1
      · have e : m + 1 = 2 ^ Nat.log2 (m + 1 + 1) - 1 := by omega
        rw [e, lub_top _ h1]; omega
      · rw [lub_step h1 hl hl2 h]
        have h2 : 2 ≤ 2 ^ Nat.log2 (m + 1 + 1) := by
          calc 2 = 2 ^ 1 := rfl
            _ ≤ _ := Nat.pow_le_pow_right (by omega) h1
        have := ih (m + 1 + 1 - 2 ^ Nat.log2 (m + 1 + 1)) (by omega)
        omega
theorem lub_7 : lub 7 = 4 := by decide
theorem lub_1 : lub 1 = 1 := by decide
theorem lub_2 : lub 2 = 1 := by decide
theorem lub_3 : lub 3 = 2 := by decide
/-- What a call of Term answers. -/
def term (i : Int) : Int := if i < 1 ∨ 1099511627776 < i then 0 else (lub i.toNat : Int)
/-- The first 2^k - 1 come again. -/
theorem twice {k a : Nat} (hk : 1 ≤ k) (h1 : 1 ≤ a) (h2 : a ≤ 2 ^ k - 1) : lub (a + (2 ^ k - 1)) = lub a := by
  have hp : 2 ≤ 2 ^ k := by
    calc 2 = 2 ^ 1 := rfl
      _ ≤ _ := Nat.pow_le_pow_right (by omega) hk
  have e := lub_step (i := a + (2 ^ k - 1)) (k := k) hk (by omega) (by rw [Nat.pow_succ]; omega) (by omega)
  rw [e]
  congr 1
  omega
/-- The end of a call. -/
theorem term_top {i x p : Int} {k : Nat} (h1 : 1 ≤ x) (h2 : x ≤ 1099511627776) (hk : 1 ≤ k) (hp : p = ((2 ^ k : Nat) : Int)) (hx : x = p - 1) (h3 : lub x.toNat = lub i.toNat) (hi : 1 ≤ i) (hi2 : i ≤ 1099511627776) : p / 2 = term i := by
  rw [term, if_neg (by omega), ← h3]
  have e : x.toNat = 2 ^ k - 1 := by omega
  rw [e, lub_top k hk]
  omega
/-- One step down. -/
theorem step_eq {x p : Int} {k : Nat} (h1 : 1 ≤ x) (hk : 1 ≤ k) (hp : p = ((2 ^ k : Nat) : Int)) (hlt : x < p) (hle : p ≤ 2 * x) (hne : x ≠ p - 1) : lub (x - (p / 2 - 1)).toNat = lub x.toNat := by
  obtain ⟨j, rfl⟩ : ∃ j, k = j + 1 := ⟨k - 1, by omega⟩
  have hj : 1 ≤ j := by
    rcases Nat.eq_zero_or_pos j with h | h
    · subst h; omega
    · exact h
  have e : (2 : Nat) ^ (j + 1) = 2 ^ j * 2 := Nat.pow_succ ..
  rw [lub_step (i := x.toNat) (k := j) hj (by omega) (by omega) (by omega)]
  congr 1
  omega
theorem ref_top {i p : Int} {k : Nat} (hp : p = ((2 ^ k : Nat) : Int)) (h1 : p ≤ i + 1) (h2 : i + 1 < 2 * p) (h3 : p = i + 1) (hi : 1 ≤ i) (hi2 : i ≤ 1099511627776) : p / 2 = term i := by
  have hk : 1 ≤ k := by
    rcases Nat.eq_zero_or_pos k with h | h
    · subst h; simp at hp; omega
    · exact h
  exact term_top (x := i) hi hi2 hk hp (by omega) rfl hi hi2
theorem ref_step {i p : Int} {k : Nat} (hp : p = ((2 ^ k : Nat) : Int)) (h1 : p ≤ i + 1) (h2 : i + 1 < 2 * p) (h3 : p ≠ i + 1) (hi : 1 ≤ i) (hi2 : i ≤ 1099511627776) : term (i - p + 1) = term i := by
  have hk : 1 ≤ k := by
    rcases Nat.eq_zero_or_pos k with h | h
    · subst h; simp at hp; omega
    · exact h
  have e : (2 : Nat) ^ (k + 1) = 2 ^ k * 2 := Nat.pow_succ ..
  have hs := lub_step (i := i.toNat) (k := k) hk (by omega) (by omega) (by omega)
  have e2 : (i - p + 1).toNat = i.toNat + 1 - 2 ^ k := by omega
  rw [term, if_neg (by omega), term, if_neg (by omega), hs, e2]
/-- The first numbers. -/
def rowTo (n : Nat) : List Int := (List.range n).map fun (i : Nat) => term ((i : Int) + 1)
theorem rowTo_succ (n : Nat) : rowTo (n + 1) = rowTo n ++ [term ((n : Int) + 1)] := by simp [rowTo, List.range_succ]
theorem rowTo_length (n : Nat) : (rowTo n).length = n := by simp [rowTo]
def many (n : Int) : Nat := (min n 100000).toNat
def row (n : Int) : List Int := rowTo (many n)
theorem many_eq {n i : Int} (h0 : 1 ≤ i) (h1 : i ≤ 100001) (h2 : i = 1 ∨ i ≤ n + 1) (h3 : n < i ∨ 100000 < i) : many n = (i - 1).toNat := by
  unfold many; omega
/-- 2^(k % 30 + 1). -/
def pw (k : Int) : Int := ((2 ^ (k % 30 + 1).toNat : Nat) : Int)
theorem pw_bd {k : Int} (hk : 0 ≤ k) : 2 ≤ pw k ∧ pw k ≤ 1073741824 := by
  have h1 : 1 ≤ (k % 30 + 1).toNat := by omega
  have h2 : (k % 30 + 1).toNat ≤ 30 := by omega
  have a : 2 ^ 1 ≤ 2 ^ (k % 30 + 1).toNat := Nat.pow_le_pow_right (by omega) h1
  have b : 2 ^ (k % 30 + 1).toNat ≤ 2 ^ 30 := Nat.pow_le_pow_right (by omega) h2
  unfold pw
  omega
theorem pw_wrap {k : Int} (hk : 0 ≤ k) : Go.IntKind.i64.wrap (1 * 2 ^ (k % 30 + 1).toNat) = pw k := by
  have h := pw_bd hk
  have e : (1 * 2 ^ (k % 30 + 1).toNat : Int) = pw k := by unfold pw; rw [Int.one_mul]; norm_cast
  rw [e, Go.IntKind.wrap_i64]
  omega
theorem tw1 {k a : Int} (hk : 0 ≤ k) (h1 : 0 ≤ a) (h2 : a < pw k - 1) : term (a + 1) = term ((a + 1) + (pw k - 1)) := by
  have h := pw_bd hk
  have e := twice (k := (k % 30 + 1).toNat) (a := (a + 1).toNat) (by omega) (by omega) (by unfold pw at h2; omega)
  have e2 : (a + 1 + (pw k - 1)).toNat = (a + 1).toNat + (2 ^ (k % 30 + 1).toNat - 1) := by unfold pw; unfold pw at h; omega
  rw [term, if_neg (by omega), term, if_neg (by omega), e2, e]
theorem tw2 {k : Int} (hk : 0 ≤ k) : term ((2 * (pw k - 1)) + 1) = (pw k - 1) + 1 := by
  have h := pw_bd hk
  have e := lub_top ((k % 30 + 1).toNat + 1) (by omega)
  have e2 : (2 * (pw k - 1) + 1).toNat = 2 ^ ((k % 30 + 1).toNat + 1) - 1 := by rw [Nat.pow_succ]; unfold pw; unfold pw at h; omega
  rw [term, if_neg (by omega), e2, e, Nat.pow_succ]
  unfold pw
  omega
end LubyP
namespace SameP
theorem take_step {xs ys : List Int} {i : Int} (h0 : 0 ≤ i) (hx : i.toNat < xs.length) (hy : i.toNat < ys.length) (h : xs.take i.toNat = ys.take i.toNat) (he : xs.getD i.toNat 0 = ys.getD i.toNat 0) : xs.take (i + 1).toNat = ys.take (i + 1).toNat := by
  have e : (i + 1).toNat = i.toNat + 1 := by omega
  rw [e, List.take_succ_eq_append_getElem hx, List.take_succ_eq_append_getElem hy, h]
  simp [List.getD_eq_getElem?_getD, List.getElem?_eq_getElem hx, List.getElem?_eq_getElem hy] at he
  rw [he]
set_option linter.unusedVariables false in
theorem fin_t {xs ys : List Int} {i : Int} {n m : Nat} (hx : xs.length = n) (hy : ys.length = m) (h1 : i ≤ n) (h : xs.take i.toNat = ys.take i.toNat) (h2 : n = m ∧ (n : Int) ≤ i) : true = decide (xs = ys) := by
  have e : i.toNat = n := by omega
  rw [e, List.take_of_length_le (by omega), List.take_of_length_le (by omega)] at h
  simp [h]
theorem fin_f1 {xs ys : List Int} (h : xs.length ≠ ys.length) : false = decide (xs = ys) := by
  symm
  rw [decide_eq_false_iff_not]
  rintro rfl
  exact h rfl
theorem fin_f2 {xs ys : List Int} {i : Int} (h0 : 0 ≤ i) (hx : i.toNat < xs.length) (hy : i.toNat < ys.length) (h : xs.getD i.toNat 0 ≠ ys.getD i.toNat 0) : false = decide (xs = ys) := by
  symm
  rw [decide_eq_false_iff_not]
  rintro rfl
  exact h rfl
end SameP
