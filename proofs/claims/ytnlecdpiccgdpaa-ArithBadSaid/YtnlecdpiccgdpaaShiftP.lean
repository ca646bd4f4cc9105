/- Moves of rows and of words: plain. -/
import Derived.Test.YtnlecdpiccgdpaaW1
set_option linter.unusedVariables false
set_option linter.unusedSimpArgs false
namespace Go.Proofs.YtnlecdpiccgdpaaV
open Go Go.RowKit Go.Proofs
def pw (i : Nat) : Nat := 2 ^ i
theorem pw_i64 {i : Nat} (h : i < 63) : IntKind.i64.wrap ((1 : Int) * 2 ^ i) = ((pw i : Nat) : Int) := by
  have h2 : pw i ≤ 4611686018427387904 := Nat.pow_le_pow_right (n := 2) (j := 62) (by decide) (by omega)
  have e : ((1 : Int) * 2 ^ i) = ((pw i : Nat) : Int) := by unfold pw; simp
  rw [e, wrap_i64 (by omega) (by omega)]
theorem pw30 {i : Nat} (h : 30 ≤ i) : 1000 < pw i := by
  have : (2 : Nat) ^ 30 ≤ 2 ^ i := Nat.pow_le_pow_right (by decide) h
  unfold pw
  have : (2 : Nat) ^ 30 = 1073741824 := by decide
  omega
/-- The literals of a row that is moved. -/
def mvN (up : Bool) (m : Nat) (a : List Nat) (s fl j : Nat) : Nat := if up = true then (if s ≤ j then a.getD (j - s) 0 else fl) else (if j + s < m then a.getD (j + s) 0 else fl)
def mvB (up : Bool) (m : Nat) (A : Nat → Bool) (fl : Bool) (s j : Nat) : Bool := if up = true then (if s ≤ j then A (j - s) else fl) else (if j + s < m then A (j + s) else fl)
theorem mv_put {o : List Nat} {i x : Nat} {f : Nat → Nat} (hl : i < o.length) (h : ∀ j, j < i → o.getD j 0 = f j) (e : x = f i) : ∀ j, j < i + 1 → (o.set i x).getD j 0 = f j := fun j hj => by
  rw [setN _ _ _ _ hl]
  by_cases q : j = i
  · rw [if_pos q, q]; exact e
  · rw [if_neg q]; exact h j (by omega)
theorem mv_put2 {o : List Nat} {i x y : Nat} {f : Nat → Nat} (hl : i < o.length) (h : ∀ j, j < i → o.getD j 0 = f j) (e : x = f i) : ∀ j, j < i + 1 → ((o.set i y).set i x).getD j 0 = f j := by
  rw [List.set_set]; exact mv_put hl h e
theorem mvN_fit {up : Bool} {m n s fl : Nat} {a : List Nat} (ha : ∀ j, j < m → a.getD j 0 / 2 < n) (hf : fl / 2 < n) {j : Nat} (hj : j < m) : mvN up m a s fl j / 2 < n := by
  unfold mvN
  split
  · split
    · exact ha _ (by omega)
    · exact hf
  · split
    · exact ha _ (by omega)
    · exact hf
def lowV (m : Nat) (B : Nat → Bool) (i : Nat) : Nat := match i with
  | 0 => 0
  | i + 1 => lowV m B i + (if pw i < m ∧ B i = true then pw i else 0)
def farV (m : Nat) (B : Nat → Bool) (i : Nat) : Bool := match i with
  | 0 => false
  | i + 1 => farV m B i || (decide (m ≤ pw i) && B i)
theorem far_low {m : Nat} {B : Nat → Bool} {i : Nat} (h : farV m B i = false) : lowV m B i = bval i B := by
  induction i with
  | zero => rfl
  | succ i ih =>
    unfold farV at h
    rw [Bool.or_eq_false_iff] at h
    unfold lowV bval
    rw [ih h.1]
    cases hb : B i with
    | false => simp
    | true =>
      have : pw i < m := by
        have := h.2; rw [hb] at this; simp at this; exact this
      rw [if_pos ⟨this, rfl⟩]; rfl
theorem bval_ge {m : Nat} {B : Nat → Bool} {k : Nat} (hk : k < m) (h : B k = true) : pw k ≤ bval m B := by
  induction m with
  | zero => omega
  | succ m ih =>
    unfold bval
    by_cases e : k = m
    · subst e; rw [if_pos h]; unfold pw; omega
    · have := ih (by omega); omega
theorem far_big {m : Nat} {B : Nat → Bool} {i : Nat} (h : farV m B i = true) : ∃ k, k < i ∧ m ≤ pw k ∧ B k = true := by
  induction i with
  | zero => cases h
  | succ i ih =>
    unfold farV at h
    rw [Bool.or_eq_true] at h
    rcases h with h | h
    · obtain ⟨k, h1, h2⟩ := ih h; exact ⟨k, by omega, h2⟩
    · simp at h; exact ⟨i, by omega, h⟩
theorem mvB_far {up : Bool} {m : Nat} {A : Nat → Bool} {fl : Bool} {s j : Nat} (hj : j < m) (hs : m ≤ s) : mvB up m A fl s j = fl := by
  unfold mvB
  split
  · rw [if_neg (by omega)]
  · rw [if_neg (by omega)]
theorem mv_end {up : Bool} {m : Nat} {A B : Nat → Bool} {fl : Bool} {j : Nat} (hj : j < m) : ite_ (farV m B m) fl (mvB up m A fl (lowV m B m) j) = mvB up m A fl (bval m B) j := by
  unfold ite_
  cases h : farV m B m with
  | false => rw [far_low h]; simp
  | true =>
    obtain ⟨k, h1, h2, h3⟩ := far_big h
    have := bval_ge h1 h3
    rw [mvB_far hj (by omega : m ≤ bval m B)]; simp
theorem mv_stage {be : Nat → Bool} {up : Bool} {m : Nat} {o : List Nat} {fl i j : Nat} {A B : Nat → Bool} (ho : ∀ j, j < m → lt_ be (o.getD j 0) = mvB up m A (lt_ be fl) (lowV m B i) j) (hp : pw i < m) (hj : j < m) :
    ite_ (B i) (lt_ be (mvN up m o (pw i) fl j)) (lt_ be (o.getD j 0)) = mvB up m A (lt_ be fl) (lowV m B (i + 1)) j := by
  unfold ite_
  cases hb : B i with
  | false =>
    have e : lowV m B (i + 1) = lowV m B i := by
      show lowV m B i + (if pw i < m ∧ B i = true then pw i else 0) = _
      rw [hb]; simp
    rw [e, ← ho j hj]; simp
  | true =>
    have e : lowV m B (i + 1) = lowV m B i + pw i := by
      show lowV m B i + (if pw i < m ∧ B i = true then pw i else 0) = _
      rw [hb, if_pos ⟨hp, rfl⟩]
    rw [e]
    simp only [Bool.true_and, Bool.not_true, Bool.false_and, Bool.or_false]
    unfold mvN mvB
    cases up with
    | true =>
      rw [if_pos rfl, if_pos rfl]
      by_cases h1 : pw i ≤ j
      · rw [if_pos h1, ho _ (by omega)]
        unfold mvB
        rw [if_pos rfl]
        by_cases h2 : lowV m B i ≤ j - pw i
        · rw [if_pos h2, if_pos (by omega)]; congr 1; omega
        · rw [if_neg h2, if_neg (by omega)]
      · rw [if_neg h1, if_neg (by omega)]
    | false =>
      simp only [Bool.false_eq_true, if_false]
      by_cases h1 : j + pw i < m
      · rw [if_pos h1, ho _ h1]
        unfold mvB
        simp only [Bool.false_eq_true, if_false]
        by_cases h2 : j + pw i + lowV m B i < m
        · rw [if_pos h2, if_pos (by omega)]; congr 1; omega
        · rw [if_neg h2, if_neg (by omega)]
      · rw [if_neg h1, if_neg (by omega)]
theorem low_same {m : Nat} {B : Nat → Bool} {i : Nat} (h : m ≤ pw i) : lowV m B (i + 1) = lowV m B i := by
  show lowV m B i + (if pw i < m ∧ B i = true then pw i else 0) = _
  rw [if_neg (by omega)]; rfl
theorem far_same {m : Nat} {B : Nat → Bool} {i : Nat} (h : pw i < m) : farV m B (i + 1) = farV m B i := by
  show (farV m B i || (decide (m ≤ pw i) && B i)) = _
  rw [decide_eq_false (by omega)]; simp
theorem far_step {m : Nat} {B : Nat → Bool} {i : Nat} (h : m ≤ pw i) : farV m B (i + 1) = (farV m B i || B i) := by
  show (farV m B i || (decide (m ≤ pw i) && B i)) = _
  rw [decide_eq_true h]; simp
theorem Rw.far {n n1 n2 m x : Nat} {cs cs1 cs2 : List (List Nat)} {o : List Nat} {f : (Nat → Bool) → Nat → Bool} {g : (Nat → Bool) → Bool} (h : Rw n cs n1 cs1 m o f) (k : GR n1 cs1 n2 cs2 x g) : Rw n cs n2 cs2 m o f := h.mono k.1 k.2.1
/-- A literal and what it says. -/
def Lw (n : Nat) (cs : List (List Nat)) (x : Nat) (f : (Nat → Bool) → Bool) : Prop := x / 2 < n ∧ ∀ be, Mod cs be → lt_ be x = f be
theorem Lw.mono {n n' : Nat} {cs cs' : List (List Nat)} {x : Nat} {f : (Nat → Bool) → Bool} (h : Lw n cs x f) (hn : n ≤ n') (hs : ∀ c, c ∈ cs → c ∈ cs') : Lw n' cs' x f := ⟨by have := h.1; omega, fun be hm => h.2 be (hm.sub hs)⟩
theorem Lw.eq {n : Nat} {cs : List (List Nat)} {x : Nat} {f g : (Nat → Bool) → Bool} (h : Lw n cs x f) (e : ∀ be, Mod cs be → f be = g be) : Lw n cs x g := ⟨h.1, fun be hm => (h.2 be hm).trans (e be hm)⟩
theorem Lw.of {n n' : Nat} {cs cs' : List (List Nat)} {x : Nat} {f : (Nat → Bool) → Bool} (h : GR n cs n' cs' x f) : Lw n' cs' x f := ⟨h.2.2.1, h.2.2.2⟩
end Go.Proofs.YtnlecdpiccgdpaaV
