/- A heap of numbers, by lists: what goes up and down; where each stands; who is ahead. -/
import Derived.Test.YthfjceemphhgcaaVx4
set_option linter.unusedVariables false
set_option linter.unusedSimpArgs false
namespace HeapP
/-- Two places of a list swapped. -/
def swp (l : List Nat) (i k : Nat) : List Nat := (l.set i (l.getD k 0)).set k (l.getD i 0)
theorem swp_length (l : List Nat) (i k : Nat) : (swp l i k).length = l.length := by simp [swp]
theorem swp_getD (l : List Nat) (i k j : Nat) (hi : i < l.length) (hk : k < l.length) :
    (swp l i k).getD j 0 = if j = k then l.getD i 0 else if j = i then l.getD k 0 else l.getD j 0 := by
  unfold swp
  simp only [List.getD_eq_getElem?_getD, List.getElem?_set, List.length_set]
  by_cases h1 : j = k
  · subst h1; simp [hk]
  · by_cases h2 : j = i
    · subst h2; simp [h1, Ne.symm h1, hi]
    · simp [h1, h2, Ne.symm h1, Ne.symm h2]
theorem swp_perm (l : List Nat) (i k : Nat) (hi : i < l.length) (hk : k < l.length) : (swp l i k).Perm l := by
  rw [List.perm_iff_count]
  intro a
  unfold swp
  have hk' : k < (l.set i (l.getD k 0)).length := by simpa using hk
  rw [List.count_set hk', List.count_set hi]
  by_cases h : i = k
  · subst h
    simp [List.getD_eq_getElem?_getD, List.getElem?_eq_getElem hi]
    have : l[i] = a → 0 < l.count a := fun e => List.count_pos_iff.2 (e ▸ List.getElem_mem hi)
    split <;> simp_all
  · simp only [List.getD_eq_getElem?_getD, List.getElem?_eq_getElem hi, List.getElem?_eq_getElem hk, Option.getD_some, List.getElem_set, if_neg h]
    have h1 : l[i] = a → 0 < l.count a := fun e => List.count_pos_iff.2 (e ▸ List.getElem_mem hi)
    have h2 : l[k] = a → 0 < l.count a := fun e => List.count_pos_iff.2 (e ▸ List.getElem_mem hk)
    by_cases e1 : l[i] = a <;> by_cases e2 : l[k] = a <;> simp_all <;> omega

/-- A strict order in which any two unlike ones are held against each other. -/
structure Strict (lt : Nat → Nat → Prop) : Prop where
  irrefl : ∀ a, ¬ lt a a
  trans : ∀ {a b c}, lt a b → lt b c → lt a c
  tri : ∀ a b, lt a b ∨ a = b ∨ lt b a
theorem Strict.nlt_trans {lt : Nat → Nat → Prop} (h : Strict lt) {a b c : Nat} (h1 : ¬ lt b a) (h2 : ¬ lt c b) : ¬ lt c a := by
  intro h3
  rcases h.tri a b with e | e | e
  · exact h2 (h.trans h3 e)
  · subst e; exact h2 h3
  · exact h1 e
theorem Strict.asym {lt : Nat → Nat → Prop} (h : Strict lt) {a b : Nat} (h1 : lt a b) : ¬ lt b a := fun h2 => h.irrefl _ (h.trans h1 h2)

variable (lt : Nat → Nat → Prop) [DecidableRel lt]
/-- Nobody from s on is ahead of its parent, but for those at places of E. -/
def Fine (l : List Nat) : Prop := ∀ j, 0 < j → j < l.length → ¬ lt (l.getD j 0) (l.getD ((j - 1) / 2) 0)

/-- What stands at a place goes up. -/
def up : Nat → List Nat → Nat → List Nat
  | 0, l, _ => l
  | f + 1, l, i => if 0 < i ∧ lt (l.getD i 0) (l.getD ((i - 1) / 2) 0) then up f (swp l i ((i - 1) / 2)) ((i - 1) / 2) else l
/-- The place of the best of a place and its children. -/
def best1 (l : List Nat) (i : Nat) : Nat := if 2 * i + 1 < l.length ∧ lt (l.getD (2 * i + 1) 0) (l.getD i 0) then 2 * i + 1 else i
def best (l : List Nat) (i : Nat) : Nat := if 2 * i + 2 < l.length ∧ lt (l.getD (2 * i + 2) 0) (l.getD (best1 lt l i) 0) then 2 * i + 2 else best1 lt l i
def down : Nat → List Nat → Nat → List Nat
  | 0, l, _ => l
  | f + 1, l, i => if best lt l i = i then l else down f (swp l i (best lt l i)) (best lt l i)
variable {lt}
theorem up_perm (f : Nat) : ∀ (l : List Nat) (i : Nat), i < l.length → (up lt f l i).Perm l := by
  induction f with
  | zero => intro l i _; exact List.Perm.refl _
  | succ f ih =>
    intro l i hi
    simp only [up]
    split
    · exact (ih _ _ (by rw [swp_length]; omega)).trans (swp_perm l _ _ hi (by omega))
    · exact List.Perm.refl _
theorem best1_cases (l : List Nat) (i : Nat) : best1 lt l i = i ∨ best1 lt l i = 2 * i + 1 ∧ 2 * i + 1 < l.length := by
  unfold best1; split <;> simp_all
theorem best_cases (l : List Nat) (i : Nat) : best lt l i = i ∨ (best lt l i = 2 * i + 1 ∧ 2 * i + 1 < l.length) ∨ (best lt l i = 2 * i + 2 ∧ 2 * i + 2 < l.length) := by
  unfold best
  split
  · simp_all
  · rcases best1_cases (lt := lt) l i with h | h <;> simp [h]
theorem best_lt (l : List Nat) (i : Nat) (hi : i < l.length) : best lt l i < l.length := by
  rcases best_cases (lt := lt) l i with h | h | h <;> omega
theorem down_perm (f : Nat) : ∀ (l : List Nat) (i : Nat), i < l.length → (down lt f l i).Perm l := by
  induction f with
  | zero => intro l i _; exact List.Perm.refl _
  | succ f ih =>
    intro l i hi
    simp only [down]
    split
    · exact List.Perm.refl _
    · have hb := best_lt (lt := lt) l i hi
      exact (ih _ _ (by rw [swp_length]; exact hb)).trans (swp_perm l _ _ hi hb)

/-- Up: all is fine but that what stands at i may be ahead of its parent. -/
theorem up_fine (hs : Strict lt) (f : Nat) : ∀ (l : List Nat) (i : Nat), i < l.length → i ≤ f →
    (∀ j, 0 < j → j < l.length → j ≠ i → ¬ lt (l.getD j 0) (l.getD ((j - 1) / 2) 0)) →
    (∀ j, 0 < j → j < l.length → (j - 1) / 2 = i → 0 < i → ¬ lt (l.getD j 0) (l.getD ((i - 1) / 2) 0)) →
    Fine lt (up lt f l i) := by
  induction f with
  | zero =>
    intro l i hi hf h1 _ j hj0 hj
    have : i = 0 := by omega
    exact h1 j hj0 hj (by omega)
  | succ f ih =>
    intro l i hi hf h1 h2
    simp only [up]
    split
    · rename_i hc
      obtain ⟨hi0, hlt⟩ := hc
      have hp : (i - 1) / 2 < l.length := by omega
      have hpi : (i - 1) / 2 < i := by omega
      refine ih _ _ (by rw [swp_length]; exact hp) (by omega) ?_ ?_
      · intro j hj0 hj hjp
        rw [swp_length] at hj
        rw [swp_getD _ _ _ _ hi hp, swp_getD _ _ _ _ hi hp]
        by_cases hji : j = i
        · subst hji
          simp only [if_neg hjp, if_true]
          exact hs.asym hlt
        · rw [if_neg hjp, if_neg hji]
          by_cases e1 : (j - 1) / 2 = (i - 1) / 2
          · rw [if_pos e1]
            intro h3
            exact h1 j hj0 hj hji (by rw [e1]; exact hs.trans h3 hlt)
          · rw [if_neg e1]
            by_cases e2 : (j - 1) / 2 = i
            · rw [if_pos e2]; exact h2 j hj0 hj e2 hi0
            · rw [if_neg e2]; exact h1 j hj0 hj hji
      · intro j hj0 hj hjp hp0
        rw [swp_length] at hj
        have hpp : ((i - 1) / 2 - 1) / 2 < (i - 1) / 2 := by omega
        rw [swp_getD _ _ _ _ hi hp, swp_getD _ _ _ _ hi hp]
        rw [if_neg (show ((i - 1) / 2 - 1) / 2 ≠ (i - 1) / 2 by omega), if_neg (show ((i - 1) / 2 - 1) / 2 ≠ i by omega)]
        have hgp := h1 ((i - 1) / 2) hp0 hp (by omega)
        by_cases hji : j = i
        · subst hji
          rw [if_neg (by omega), if_pos rfl]
          exact hgp
        · rw [if_neg (by omega), if_neg hji]
          have := h1 j hj0 hj hji
          rw [hjp] at this
          exact hs.nlt_trans hgp this
    · rename_i hc
      intro j hj0 hj
      by_cases hji : j = i
      · subst hji; exact fun h => hc ⟨hj0, h⟩
      · exact h1 j hj0 hj hji

theorem best_best (hs : Strict lt) (l : List Nat) (i : Nat) : ∀ j, 0 < j → j < l.length → (j - 1) / 2 = i → ¬ lt (l.getD j 0) (l.getD (best lt l i) 0) := by
  intro j hj0 hj hji
  have hj2 : j = 2 * i + 1 ∨ j = 2 * i + 2 := by omega
  have b1 : 2 * i + 1 < l.length → ¬ lt (l.getD (2 * i + 1) 0) (l.getD (best1 lt l i) 0) := by
    intro hl
    unfold best1
    split
    · exact hs.irrefl _
    · rename_i h; exact fun h' => h ⟨hl, h'⟩
  unfold best
  split
  · rename_i h
    rcases hj2 with rfl | rfl
    · exact hs.nlt_trans (hs.asym h.2) (b1 hj)
    · exact hs.irrefl _
  · rename_i h
    rcases hj2 with rfl | rfl
    · exact b1 hj
    · exact fun h' => h ⟨hj, h'⟩
theorem best_ahead (hs : Strict lt) (l : List Nat) (i : Nat) (h : best lt l i ≠ i) : lt (l.getD (best lt l i) 0) (l.getD i 0) := by
  have b1 : best1 lt l i ≠ i → lt (l.getD (best1 lt l i) 0) (l.getD i 0) := by
    unfold best1; split
    · rename_i h; exact fun _ => h.2
    · exact fun h => absurd rfl h
  revert h
  unfold best
  split
  · rename_i h
    intro _
    by_cases e : best1 lt l i = i
    · rw [e] at h; exact h.2
    · exact hs.trans h.2 (b1 e)
  · exact b1

/-- Down: all whose parents stand from s on are fine, but the children of i. -/
theorem down_fine (hs : Strict lt) (s : Nat) (f : Nat) : ∀ (l : List Nat) (i : Nat), i < l.length → s ≤ i → l.length ≤ i + f →
    (∀ j, 0 < j → j < l.length → s ≤ (j - 1) / 2 → (j - 1) / 2 ≠ i → ¬ lt (l.getD j 0) (l.getD ((j - 1) / 2) 0)) →
    (∀ j, 0 < j → j < l.length → (j - 1) / 2 = i → 0 < i → s ≤ (i - 1) / 2 → ¬ lt (l.getD j 0) (l.getD ((i - 1) / 2) 0)) →
    ∀ j, 0 < j → j < l.length → s ≤ (j - 1) / 2 → ¬ lt ((down lt f l i).getD j 0) ((down lt f l i).getD ((j - 1) / 2) 0) := by
  induction f with
  | zero => intro l i hi _ hf; omega
  | succ f ih =>
    intro l i hi hsi hf h1 h2
    simp only [down]
    split
    · rename_i hb
      intro j hj0 hj hjs
      by_cases e : (j - 1) / 2 = i
      · have := best_best hs l i j hj0 hj e
        rw [hb] at this
        rw [e]; exact this
      · exact h1 j hj0 hj hjs e
    · rename_i hb
      have hbl := best_lt (lt := lt) l i hi
      have hba := best_ahead hs l i hb
      have hbb := best_best hs l i
      have hbp : (best lt l i - 1) / 2 = i ∧ i < best lt l i := by
        rcases best_cases (lt := lt) l i with h | h | h <;> omega
      generalize best lt l i = b at *
      obtain ⟨hbp, hib⟩ := hbp
      have hlen : (swp l i b).length = l.length := swp_length l i b
      rw [← hlen]
      refine ih _ _ (by omega) (by omega) (by omega) ?_ ?_
      · intro j hj0 hj hjs hjb
        rw [hlen] at hj
        rw [swp_getD _ _ _ _ hi hbl, swp_getD _ _ _ _ hi hbl, if_neg hjb]
        by_cases e1 : j = b
        · subst e1
          rw [if_pos rfl, if_pos hbp]
          exact hs.asym hba
        · rw [if_neg e1]
          by_cases e2 : j = i
          · subst e2
            rw [if_pos rfl, if_neg (show (j - 1) / 2 ≠ j by omega)]
            exact h2 b (by omega) hbl hbp hj0 hjs
          · rw [if_neg e2]
            by_cases e3 : (j - 1) / 2 = i
            · rw [if_pos e3]; exact hbb j hj0 hj e3
            · rw [if_neg e3]; exact h1 j hj0 hj hjs e3
      · intro j hj0 hj hjb _ hs2
        rw [hlen] at hj
        rw [swp_getD _ _ _ _ hi hbl, swp_getD _ _ _ _ hi hbl, hbp, if_neg (show j ≠ b by omega), if_neg (show j ≠ i by omega), if_neg (show i ≠ b by omega), if_pos rfl]
        have := h1 j hj0 hj (by omega) (by omega)
        rw [hjb] at this
        exact this
omit [DecidableRel lt] in
theorem fine_root (hs : Strict lt) (l : List Nat) (h : Fine lt l) : ∀ j, j < l.length → ¬ lt (l.getD j 0) (l.getD 0 0) := by
  intro j
  induction j using Nat.strongRecOn with
  | _ j ih =>
    intro hj
    by_cases h0 : j = 0
    · subst h0; exact hs.irrefl _
    · exact hs.nlt_trans (ih ((j - 1) / 2) (by omega) (by omega)) (h j (by omega) hj)
end HeapP
namespace HeapP
def aheadB (ac : List Int) (a b : Nat) : Bool := if ac.getD a 0 = ac.getD b 0 then decide (a < b) else decide (ac.getD b 0 < ac.getD a 0)
def lt (ac : List Int) (a b : Nat) : Prop := aheadB ac a b = true
instance (ac : List Int) : DecidableRel (lt ac) := fun a b => inferInstanceAs (Decidable (aheadB ac a b = true))
theorem lt_iff {ac : List Int} {a b : Nat} : lt ac a b ↔ (ac.getD b 0 < ac.getD a 0 ∨ ac.getD a 0 = ac.getD b 0 ∧ a < b) := by
  unfold lt aheadB
  split <;> simp_all
theorem lt_strict (ac : List Int) : Strict (lt ac) where
  irrefl a := by rw [lt_iff]; omega
  trans h1 h2 := by rw [lt_iff] at *; omega
  tri a b := by rw [lt_iff, lt_iff]; omega
/-- Where each stands. -/
def AtOk (n : Nat) (hp : List Nat) (at_ : List Int) : Prop := (∀ j, j < hp.length → at_.getD (hp.getD j 0) 0 = (j : Int)) ∧ (∀ x, x < n → x ∉ hp → at_.getD x 0 = -1)
def Pur (p g bat bac n : Nat) (hp : List Nat) (at_ ac : List Int) : Prop :=
  (p ≠ g ∧ p ≠ bat ∧ p ≠ bac ∧ g ≠ bat ∧ g ≠ bac ∧ bat ≠ bac) ∧ at_.length = n ∧ ac.length = n ∧ n ≤ 1048576 ∧ hp.length ≤ n ∧ (∀ x, x ∈ hp → x < n) ∧ AtOk n hp at_
theorem getD_mem {l : List Nat} {i : Nat} (h : i < l.length) : l.getD i 0 ∈ l := by
  rw [List.getD_eq_getElem?_getD, List.getElem?_eq_getElem h]; exact List.getElem_mem h
theorem mem_getD {l : List Nat} {x : Nat} (h : x ∈ l) : ∃ j, j < l.length ∧ l.getD j 0 = x := by
  obtain ⟨j, hj, e⟩ := List.getElem_of_mem h
  exact ⟨j, hj, by rw [List.getD_eq_getElem?_getD, List.getElem?_eq_getElem hj]; exact e⟩
theorem AtOk.inj {n : Nat} {hp : List Nat} {at_ : List Int} (h : AtOk n hp at_) {i j : Nat} (hi : i < hp.length) (hj : j < hp.length) (e : hp.getD i 0 = hp.getD j 0) : i = j := by
  have a := h.1 i hi
  have b := h.1 j hj
  rw [e] at a
  omega
theorem AtOk.nodup {n : Nat} {hp : List Nat} {at_ : List Int} (h : AtOk n hp at_) : hp.Nodup := by
  unfold List.Nodup
  rw [List.pairwise_iff_getElem]
  intro i j hi hj hij e
  have := h.inj (i := i) (j := j) hi hj (by simp [List.getD_eq_getElem?_getD, List.getElem?_eq_getElem hi, List.getElem?_eq_getElem hj, e])
  omega
theorem setD (l : List Int) (i j : Nat) (x : Int) (hi : i < l.length) : (l.set i x).getD j 0 = if j = i then x else l.getD j 0 := by
  simp only [List.getD_eq_getElem?_getD, List.getElem?_set]
  by_cases h : i = j
  · subst h; simp [hi]
  · simp [h, Ne.symm h]
theorem AtOk.swap {n : Nat} {hp : List Nat} {at_ : List Int} (h : AtOk n hp at_) (hl : at_.length = n) (hlt : ∀ x, x ∈ hp → x < n) {i k : Nat} (hi : i < hp.length) (hk : k < hp.length) :
    AtOk n (swp hp i k) ((at_.set ((swp hp i k).getD i 0) (i : Int)).set ((swp hp i k).getD k 0) (k : Int)) := by
  have gi : (swp hp i k).getD i 0 = hp.getD k 0 := by rw [swp_getD _ _ _ _ hi hk]; split <;> simp_all
  have gk : (swp hp i k).getD k 0 = hp.getD i 0 := by rw [swp_getD _ _ _ _ hi hk, if_pos rfl]
  have li := hlt _ (getD_mem hi)
  have lk := hlt _ (getD_mem hk)
  rw [gi, gk]
  constructor
  · intro j hj
    rw [swp_length] at hj
    rw [setD _ _ _ _ (by rw [List.length_set]; omega), setD _ _ _ _ (by omega), swp_getD _ _ _ _ hi hk]
    by_cases e1 : j = k
    · subst e1; simp
    · rw [if_neg e1]
      by_cases e2 : j = i
      · subst e2
        rw [if_pos rfl, if_pos rfl, if_neg (fun e => e1 (h.inj hk hj e).symm)]
      · rw [if_neg e2, if_neg (fun e => e2 (h.inj hj hi e)), if_neg (fun e => e1 (h.inj hj hk e))]
        exact h.1 j hj
  · intro x hx hn
    have hm := (swp_perm hp i k hi hk).mem_iff (a := x)
    have hn' : x ∉ hp := fun e => hn (hm.2 e)
    rw [setD _ _ _ _ (by rw [List.length_set]; omega), setD _ _ _ _ (by omega), if_neg (show x ≠ hp.getD i 0 from fun e => hn' (e ▸ getD_mem hi)), if_neg (show x ≠ hp.getD k 0 from fun e => hn' (e ▸ getD_mem hk))]
    exact h.2 x hx hn'
theorem nodup_le : ∀ (n : Nat) (l : List Nat), l.Nodup → (∀ x, x ∈ l → x < n) → l.length ≤ n := by
  intro n
  induction n with
  | zero =>
    intro l _ h
    cases l with
    | nil => simp
    | cons a l => exact absurd (h a (by simp)) (by omega)
  | succ n ih =>
    intro l hd h
    by_cases hm : n ∈ l
    · have h1 := ih (l.erase n) (hd.erase n) (fun x hx => by
        have hx' := (hd.mem_erase_iff).1 hx
        have := h x hx'.2
        have := hx'.1
        omega)
      have h2 := List.length_erase_of_mem hm
      omega
    · have h1 := ih l hd (fun x hx => by
        have := h x hx
        have : x ≠ n := fun e => hm (e ▸ hx)
        omega)
      omega
theorem Pur.swap {p g bat bac n : Nat} {hp : List Nat} {at_ ac : List Int} (h : Pur p g bat bac n hp at_ ac) {i k : Nat} (hi : i < hp.length) (hk : k < hp.length) :
    Pur p g bat bac n (swp hp i k) ((at_.set ((swp hp i k).getD i 0) (i : Int)).set ((swp hp i k).getD k 0) (k : Int)) ac := by
  obtain ⟨hs, h1, h2, h3, h4, h5, h6⟩ := h
  exact ⟨hs, by simp [h1], h2, h3, by rw [swp_length]; exact h4, fun x hx => h5 x ((swp_perm hp i k hi hk).mem_iff.1 hx), h6.swap h1 h5 hi hk⟩
theorem up_stop {lt : Nat → Nat → Prop} [DecidableRel lt] (f : Nat) (l : List Nat) (i : Nat) (h : ¬ (0 < i ∧ lt (l.getD i 0) (l.getD ((i - 1) / 2) 0))) : up lt f l i = l := by
  cases f with
  | zero => rfl
  | succ f => simp only [up]; rw [if_neg h]
theorem up_go {lt : Nat → Nat → Prop} [DecidableRel lt] (f : Nat) (l : List Nat) (i : Nat) (hf : i ≤ f) (h0 : 0 < i) (h : lt (l.getD i 0) (l.getD ((i - 1) / 2) 0)) : up lt f l i = up lt (f - 1) (swp l i ((i - 1) / 2)) ((i - 1) / 2) := by
  cases f with
  | zero => omega
  | succ f => simp only [up]; rw [if_pos ⟨h0, h⟩]; rfl
theorem down_stop {lt : Nat → Nat → Prop} [DecidableRel lt] (f : Nat) (l : List Nat) (i : Nat) (h : best lt l i = i) : down lt f l i = l := by
  cases f with
  | zero => rfl
  | succ f => simp only [down]; rw [if_pos h]
theorem down_go {lt : Nat → Nat → Prop} [DecidableRel lt] (f : Nat) (l : List Nat) (i : Nat) (hf : l.length ≤ i + f) (hi : i < l.length) (h : best lt l i ≠ i) : down lt f l i = down lt (f - 1) (swp l i (best lt l i)) (best lt l i) := by
  cases f with
  | zero => omega
  | succ f => simp only [down]; rw [if_neg h]; rfl
end HeapP
namespace HeapP
theorem lt_f {ac : List Int} {a b : Nat} (h : aheadB ac a b = false) : ¬ lt ac a b := fun e => by unfold lt at e; rw [h] at e; cases e
/-- The search of the best one, on its way. -/
def BInv (lt : Nat → Nat → Prop) [DecidableRel lt] (l : List Nat) (j k b : Nat) : Prop := (k = 2 * j + 1 ∧ b = j) ∨ (k = 2 * j + 2 ∧ b = best1 lt l j) ∨ (k = 2 * j + 3 ∧ b = best lt l j)
theorem BInv.t {lt : Nat → Nat → Prop} [DecidableRel lt] {l : List Nat} {j k b : Nat} (h : BInv lt l j k b) (h1 : k ≤ 2 * j + 2) (h2 : k < l.length) (h3 : lt (l.getD k 0) (l.getD b 0)) : BInv lt l j (k + 1) k := by
  rcases h with ⟨rfl, rfl⟩ | ⟨rfl, rfl⟩ | ⟨rfl, rfl⟩
  · exact .inr (.inl ⟨by omega, by unfold best1; rw [if_pos ⟨h2, h3⟩]⟩)
  · exact .inr (.inr ⟨by omega, by unfold best; rw [if_pos ⟨h2, h3⟩]⟩)
  · omega
theorem BInv.f {lt : Nat → Nat → Prop} [DecidableRel lt] {l : List Nat} {j k b : Nat} (h : BInv lt l j k b) (h1 : k ≤ 2 * j + 2) (h3 : ¬ lt (l.getD k 0) (l.getD b 0)) : BInv lt l j (k + 1) b := by
  rcases h with ⟨rfl, rfl⟩ | ⟨rfl, rfl⟩ | ⟨rfl, rfl⟩
  · exact .inr (.inl ⟨by omega, by unfold best1; rw [if_neg (fun e => h3 e.2)]⟩)
  · exact .inr (.inr ⟨by omega, by unfold best; rw [if_neg (fun e => h3 e.2)]⟩)
  · omega
theorem BInv.fin {lt : Nat → Nat → Prop} [DecidableRel lt] {l : List Nat} {j k b : Nat} (h : BInv lt l j k b) (h1 : 2 * j + 2 < k ∨ l.length ≤ k) : b = best lt l j := by
  rcases h with ⟨rfl, rfl⟩ | ⟨rfl, rfl⟩ | ⟨rfl, rfl⟩
  · have e : best1 lt l b = b := by unfold best1; rw [if_neg (by omega)]
    unfold best; rw [if_neg (by omega), e]
  · unfold best; rw [if_neg (by omega)]
  · rfl
end HeapP
namespace HeapP
theorem at_pos {n : Nat} {hp : List Nat} {at_ : List Int} (h : AtOk n hp at_) {x : Nat} (hx : x < n) : 0 ≤ at_.getD x 0 ↔ x ∈ hp := by
  by_cases e : x ∈ hp
  · obtain ⟨j, hj, rfl⟩ := mem_getD e
    rw [h.1 j hj]; exact ⟨fun _ => e, fun _ => Int.natCast_nonneg _⟩
  · rw [h.2 x hx e]; simp [e]
def hasB (hp : List Nat) (v : Int) : Bool := decide (0 ≤ v ∧ v.toNat ∈ hp)
theorem has_none {n : Nat} {hp : List Nat} (hlt : ∀ x, x ∈ hp → x < n) {v : Int} (h : v < 0 ∨ (n : Int) ≤ v) : false = hasB hp v := by
  unfold hasB
  symm; rw [decide_eq_false_iff_not]
  rintro ⟨h1, h2⟩
  have := hlt _ h2
  omega
theorem has_at {n : Nat} {hp : List Nat} {at_ : List Int} (h : AtOk n hp at_) {v : Int} (h0 : 0 ≤ v) (h1 : v < (n : Int)) : decide (at_.getD v.toNat 0 ≥ 0) = hasB hp v := by
  unfold hasB
  have := at_pos h (x := v.toNat) (by omega)
  rw [decide_eq_decide]
  constructor
  · intro e; exact ⟨h0, this.1 e⟩
  · intro e; exact this.2 e.2
def actB (ac : List Int) (v : Int) : Int := if 0 ≤ v ∧ v < (ac.length : Int) then ac.getD v.toNat 0 else 0
theorem AtOk.push {n : Nat} {hp : List Nat} {at_ : List Int} (h : AtOk n hp at_) (hl : at_.length = n) (hlt : ∀ x, x ∈ hp → x < n) {x : Nat} (hx : x < n) (hn : x ∉ hp) : AtOk n (hp ++ [x]) (at_.set x (hp.length : Int)) := by
  constructor
  · intro j hj
    rw [List.length_append, List.length_singleton] at hj
    by_cases e : j = hp.length
    · subst e
      have : (hp ++ [x]).getD hp.length 0 = x := by simp [List.getD_eq_getElem?_getD]
      rw [this, setD _ _ _ _ (by omega), if_pos rfl]
    · have hj' : j < hp.length := by omega
      have : (hp ++ [x]).getD j 0 = hp.getD j 0 := by simp [List.getD_eq_getElem?_getD, List.getElem?_append_left hj']
      rw [this, setD _ _ _ _ (by omega), if_neg (show hp.getD j 0 ≠ x from fun e => hn (e ▸ getD_mem hj'))]
      exact h.1 j hj'
  · intro y hy hyn
    rw [List.mem_append, List.mem_singleton] at hyn
    rw [setD _ _ _ _ (by omega), if_neg (fun e => hyn (.inr e))]
    exact h.2 y hy (fun e => hyn (.inl e))
theorem Pur.push {p g g' bat bac n : Nat} {hp : List Nat} {at_ ac : List Int} (hs : p ≠ g' ∧ p ≠ bat ∧ p ≠ bac ∧ g' ≠ bat ∧ g' ≠ bac ∧ bat ≠ bac) (h1 : at_.length = n) (h2 : ac.length = n) (h3 : n ≤ 1048576) (h5 : ∀ x, x ∈ hp → x < n) (h6 : AtOk n hp at_) {x : Nat} (hx : x < n) (hn : x ∉ hp) :
    Pur p g' bat bac n (hp ++ [x]) (at_.set x (hp.length : Int)) ac := by
  have hlt : ∀ y, y ∈ hp ++ [x] → y < n := by
    intro y hy
    rw [List.mem_append, List.mem_singleton] at hy
    rcases hy with hy | hy
    · exact h5 y hy
    · omega
  have ha := h6.push h1 h5 hx hn
  exact ⟨hs, by rw [List.length_set]; exact h1, h2, h3, nodup_le n _ ha.nodup hlt, hlt, ha⟩
theorem push_fine {lt : Nat → Nat → Prop} [DecidableRel lt] (hs : Strict lt) {hp : List Nat} (h : Fine lt hp) (x : Nat) : Fine lt (up lt hp.length (hp ++ [x]) hp.length) := by
  have gl : ∀ j, j < hp.length → (hp ++ [x]).getD j 0 = hp.getD j 0 := fun j hj => by simp [List.getD_eq_getElem?_getD, List.getElem?_append_left hj]
  refine up_fine hs _ _ _ (by simp) (Nat.le_refl _) ?_ ?_
  · intro j hj0 hj hji
    rw [List.length_append, List.length_singleton] at hj
    rw [gl j (by omega), gl _ (by omega)]
    exact h j hj0 (by omega)
  · intro j hj0 hj hji
    rw [List.length_append, List.length_singleton] at hj
    omega
/-- The row without its first, which the last one takes the place of. -/
def cutL (hp : List Nat) : List Nat := (swp hp 0 (hp.length - 1)).take (hp.length - 1)
theorem cutL_length (hp : List Nat) : (cutL hp).length = hp.length - 1 := by simp [cutL, swp_length]
theorem cutL_getD (hp : List Nat) (j : Nat) (hj : j < hp.length - 1) : (cutL hp).getD j 0 = if j = 0 then hp.getD (hp.length - 1) 0 else hp.getD j 0 := by
  have h1 : (cutL hp).getD j 0 = (swp hp 0 (hp.length - 1)).getD j 0 := by
    unfold cutL; simp only [List.getD_eq_getElem?_getD]; rw [List.getElem?_take_of_lt hj]
  rw [h1, swp_getD _ _ _ _ (by omega) (by omega), if_neg (by omega)]
theorem cutL_cat (hp : List Nat) (h : 0 < hp.length) : swp hp 0 (hp.length - 1) = cutL hp ++ [hp.getD 0 0] := by
  have h2 : (swp hp 0 (hp.length - 1)).drop (hp.length - 1) = [hp.getD 0 0] := by
    have hl := swp_length hp 0 (hp.length - 1)
    have hg := swp_getD hp 0 (hp.length - 1) (hp.length - 1) (by omega) (by omega)
    rw [if_pos rfl] at hg
    rw [List.drop_eq_getElem_cons (by omega), List.drop_eq_nil_of_le (by omega)]
    rw [← hg, List.getD_eq_getElem?_getD, List.getElem?_eq_getElem (by omega)]
    rfl
  unfold cutL
  rw [← h2, List.take_append_drop]
theorem cutL_perm (hp : List Nat) (h : 0 < hp.length) : (hp.getD 0 0 :: cutL hp).Perm hp := by
  have h1 := swp_perm hp 0 (hp.length - 1) h (by omega)
  rw [cutL_cat hp h] at h1
  exact (List.perm_append_singleton _ _).symm.trans h1
theorem Pur.cut {p g bat bac n : Nat} {hp : List Nat} {at_ ac : List Int} (h : Pur p g bat bac n (swp hp 0 (hp.length - 1)) at_ ac) (h0 : 0 < hp.length) : Pur p g bat bac n (cutL hp) (at_.set (hp.getD 0 0) (-1)) ac := by
  obtain ⟨hs, h1, h2, h3, h4, h5, h6⟩ := h
  have hd := h6.nodup
  rw [cutL_cat hp h0] at h4 h5 h6 hd
  have hm : hp.getD 0 0 < n := h5 _ (by simp)
  have hnm : hp.getD 0 0 ∉ cutL hp := by
    rw [List.nodup_append] at hd
    exact fun e => hd.2.2 _ e _ (by simp) rfl
  refine ⟨hs, by rw [List.length_set]; exact h1, h2, h3, by rw [List.length_append] at h4; simp at h4; omega, fun x hx => h5 x (by simp [hx]), ?_, ?_⟩
  · intro j hj
    have e : (cutL hp ++ [hp.getD 0 0]).getD j 0 = (cutL hp).getD j 0 := by simp only [List.getD_eq_getElem?_getD]; rw [List.getElem?_append_left hj]
    have := h6.1 j (by rw [List.length_append]; omega)
    rw [e] at this
    rw [setD _ _ _ _ (by omega), if_neg (show (cutL hp).getD j 0 ≠ hp.getD 0 0 from fun e => hnm (e ▸ getD_mem hj))]
    exact this
  · intro x hx hxn
    rw [setD _ _ _ _ (by omega)]
    by_cases e : x = hp.getD 0 0
    · rw [if_pos e]
    · rw [if_neg e]
      exact h6.2 x hx (by rw [List.mem_append, List.mem_singleton]; exact fun q => q.elim hxn e)
theorem cut_fine {lt : Nat → Nat → Prop} [DecidableRel lt] (hs : Strict lt) {hp : List Nat} (h : Fine lt hp) (h0 : 0 < (cutL hp).length) : Fine lt (down lt (cutL hp).length (cutL hp) 0) := by
  intro j hj0 hj
  have hp' := down_perm (lt := lt) (cutL hp).length (cutL hp) 0 h0
  rw [hp'.length_eq] at hj
  refine down_fine hs 0 _ _ 0 h0 (Nat.le_refl _) (by omega) ?_ ?_ j hj0 hj (by omega)
  · intro j hj0 hj _ hne
    rw [cutL_length] at hj
    rw [cutL_getD _ _ hj, cutL_getD _ _ (by omega), if_neg (by omega), if_neg hne]
    exact h j hj0 (by omega)
  · intro j _ _ _ h0; omega
theorem lt_set {ac : List Int} {x : Nat} {y : Int} (hx : x < ac.length) {a b : Nat} (ha : a ≠ x) (hb : b ≠ x) : lt (ac.set x y) a b ↔ lt ac a b := by
  rw [lt_iff, lt_iff, setD _ _ _ _ hx, setD _ _ _ _ hx, if_neg ha, if_neg hb]
theorem lt_set_up {ac : List Int} {x : Nat} {y : Int} (hx : x < ac.length) (hy : ac.getD x 0 ≤ y) {a : Nat} (ha : a ≠ x) (h : ¬ lt ac a x) : ¬ lt (ac.set x y) a x := by
  rw [lt_iff] at *
  rw [setD _ _ _ _ hx, setD _ _ _ _ hx, if_neg ha, if_pos rfl]
  omega
theorem lt_set_dn {ac : List Int} {x : Nat} {y : Int} (hx : x < ac.length) (hy : y ≤ ac.getD x 0) {a : Nat} (ha : a ≠ x) (h : ¬ lt ac x a) : ¬ lt (ac.set x y) x a := by
  rw [lt_iff] at *
  rw [setD _ _ _ _ hx, setD _ _ _ _ hx, if_neg ha, if_pos rfl]
  omega
theorem down_any {lt : Nat → Nat → Prop} [DecidableRel lt] (hs : Strict lt) {l : List Nat} (h : Fine lt l) (f j : Nat) (hj : j < l.length) (hf : l.length ≤ j + f) : Fine lt (down lt f l j) := by
  intro k hk0 hk
  rw [(down_perm (lt := lt) f l j hj).length_eq] at hk
  refine down_fine hs 0 f l j hj (by omega) hf (fun k h0 hk _ _ => h k h0 hk) ?_ k hk0 hk (by omega)
  intro k h0 hk he hj0 _
  have h1 := h k h0 hk
  have h2 := h j hj0 hj
  rw [he] at h1
  exact hs.nlt_trans h2 h1
theorem bump_fine {n : Nat} {ac : List Int} {hp : List Nat} {at_ : List Int} (hat : AtOk n hp at_) (h : Fine (lt ac) hp) {x : Nat} {y : Int} (hx : x < ac.length) {i : Nat} (hi : i < hp.length) (hix : hp.getD i 0 = x)
    {j f : Nat} (hj : j < (up (lt (ac.set x y)) i hp i).length) (hjx : (up (lt (ac.set x y)) i hp i).getD j 0 = x) (hf : hp.length ≤ j + f) : Fine (lt (ac.set x y)) (down (lt (ac.set x y)) f (up (lt (ac.set x y)) i hp i) j) := by
  have hs := lt_strict (ac.set x y)
  have hs0 := lt_strict ac
  have hne : ∀ k, k < hp.length → k ≠ i → hp.getD k 0 ≠ x := fun k hk hki e => hki (hat.inj hk hi (by rw [e, hix]))
  have gp : ∀ k, 0 < k → k < hp.length → (k - 1) / 2 = i → 0 < i → ¬ lt (ac.set x y) (hp.getD k 0) (hp.getD ((i - 1) / 2) 0) := by
    intro k h0 hk he hi0
    have h1 := h k h0 hk
    have h2 := h i hi0 hi
    rw [he] at h1
    rw [lt_set hx (hne k hk (by omega)) (hne _ (by omega) (by omega))]
    exact hs0.nlt_trans h2 h1
  by_cases hle : ac.getD x 0 ≤ y
  · refine down_any hs (up_fine hs i hp i hi (Nat.le_refl _) ?_ gp) f j hj (by rw [(up_perm (lt := lt (ac.set x y)) i hp i hi).length_eq]; exact hf)
    intro k h0 hk hki
    by_cases e : (k - 1) / 2 = i
    · have h1 := h k h0 hk
      rw [e, hix] at h1 ⊢
      exact lt_set_up hx hle (hne k hk hki) h1
    · rw [lt_set hx (hne k hk hki) (hne _ (by omega) e)]
      exact h k h0 hk
  · have hup : up (lt (ac.set x y)) i hp i = hp := up_stop _ _ _ (by
      rintro ⟨h0, h1⟩
      have h2 := h i h0 hi
      rw [hix] at h1 h2
      exact lt_set_dn hx (by omega) (hne _ (by omega) (by omega)) h2 h1)
    rw [hup] at hj hjx ⊢
    have hji : j = i := hat.inj hj hi (by rw [hjx, hix])
    subst hji
    intro k hk0 hk
    rw [(down_perm (lt := lt (ac.set x y)) f hp j hj).length_eq] at hk
    refine down_fine hs 0 f hp j hj (by omega) hf ?_ (fun k h0 hk he hj0 _ => gp k h0 hk he hj0) k hk0 hk (by omega)
    intro k h0 hk _ hkj
    by_cases e : k = j
    · subst e
      have h2 := h k h0 hk
      rw [hix] at h2 ⊢
      exact lt_set_dn hx (by omega) (hne _ (by omega) (by omega)) h2
    · rw [lt_set hx (hne k hk e) (hne _ (by omega) hkj)]
      exact h k h0 hk
/-- Fine from place s on. -/
def FineFrom (lt : Nat → Nat → Prop) (s : Nat) (l : List Nat) : Prop := ∀ j, 0 < j → j < l.length → s ≤ (j - 1) / 2 → ¬ lt (l.getD j 0) (l.getD ((j - 1) / 2) 0)
theorem FineFrom.down {lt : Nat → Nat → Prop} [DecidableRel lt] (hs : Strict lt) {l : List Nat} {i : Nat} (h : FineFrom lt (i + 1) l) (hi : i < l.length) (f : Nat) (hf : l.length ≤ i + f) : FineFrom lt i (down lt f l i) := by
  intro j h0 hj hji
  rw [(down_perm (lt := lt) f l i hi).length_eq] at hj
  refine down_fine hs i f l i hi (Nat.le_refl _) hf ?_ ?_ j h0 hj hji
  · intro j h0 hj h1 h2
    exact h j h0 hj (by omega)
  · intro j _ _ _ hi0 h; omega
end HeapP
namespace HeapP
def bumpA (a d : Int) : Int := if d > 1099511627776 - a then 1099511627776 else if d < -a then 0 else a + d
theorem Pur.setA {p g bat bac n : Nat} {hp : List Nat} {at_ ac : List Int} (h : Pur p g bat bac n hp at_ ac) (x : Nat) (y : Int) : Pur p g bat bac n hp at_ (ac.set x y) :=
  ⟨h.1, h.2.1, by rw [List.length_set]; exact h.2.2.1, h.2.2.2⟩
theorem out_fine {ac : List Int} {hp : List Nat} (h : Fine (lt ac) hp) {x : Nat} (hx : x < ac.length) (hn : x ∉ hp) (y : Int) : Fine (lt (ac.set x y)) hp := by
  intro j h0 hj
  rw [lt_set hx (show hp.getD j 0 ≠ x from fun e => hn (e ▸ getD_mem hj)) (show hp.getD ((j - 1) / 2) 0 ≠ x from fun e => hn (e ▸ getD_mem (show (j - 1) / 2 < hp.length by omega)))]
  exact h j h0 hj
def halveL (ac : List Int) : List Int := ac.map (· / 2)
theorem halveL_getD (ac : List Int) (j : Nat) : (halveL ac).getD j 0 = ac.getD j 0 / 2 := by
  simp only [halveL, List.getD_eq_getElem?_getD, List.getElem?_map]
  cases ac[j]? <;> simp
theorem halve_end {ac ac2 : List Int} {v : Nat} (hl : ac2.length = ac.length) (hv : ac.length ≤ v) (h : ∀ j, ac2.getD j 0 = if j < v then ac.getD j 0 / 2 else ac.getD j 0) : ac2 = halveL ac := by
  refine List.ext_getElem (by simp [halveL, hl]) fun i h1 h2 => ?_
  have e1 := h i
  rw [if_pos (by omega)] at e1
  rw [← halveL_getD] at e1
  simpa [List.getD_eq_getElem?_getD, List.getElem?_eq_getElem h1, List.getElem?_eq_getElem h2] using e1
theorem halve_step {ac ac2 : List Int} {v : Nat} (hl : ac2.length = ac.length) (hv : v < ac.length) (h : ∀ j, ac2.getD j 0 = if j < v then ac.getD j 0 / 2 else ac.getD j 0) :
    ∀ j, (ac2.set v (ac2.getD v 0 / 2)).getD j 0 = if j < v + 1 then ac.getD j 0 / 2 else ac.getD j 0 := by
  intro j
  rw [setD _ _ _ _ (by omega)]
  by_cases e : j = v
  · subst e
    rw [if_pos rfl, h j, if_neg (by omega), if_pos (by omega)]
  · rw [if_neg e, h j]
    by_cases e2 : j < v
    · rw [if_pos e2, if_pos (by omega)]
    · rw [if_neg e2, if_neg (by omega)]
theorem Pur.setL {p g bat bac n : Nat} {hp : List Nat} {at_ ac ac' : List Int} (h : Pur p g bat bac n hp at_ ac) (hl : ac'.length = ac.length) : Pur p g bat bac n hp at_ ac' :=
  ⟨h.1, h.2.1, hl.trans h.2.2.1, h.2.2.2⟩
theorem FineFrom.zero {lt : Nat → Nat → Prop} {l : List Nat} (h : FineFrom lt 0 l) : Fine lt l := fun j h0 hj => h j h0 hj (by omega)
theorem FineFrom.len {lt : Nat → Nat → Prop} (l : List Nat) : FineFrom lt l.length l := fun j h0 hj h => by omega
theorem new_end {at2 : List Int} {n v : Nat} (hl : at2.length = n) (hv : n ≤ v) (h : ∀ j, j < v → j < n → at2.getD j 0 = -1) : AtOk n [] at2 :=
  ⟨fun j hj => by simp at hj, fun x hx _ => h x (by omega) hx⟩
theorem new_step {at2 : List Int} {n v : Nat} (hl : at2.length = n) (hv : v < n) (h : ∀ j, j < v → j < n → at2.getD j 0 = -1) : ∀ j, j < v + 1 → j < n → (at2.set v (-1)).getD j 0 = -1 := by
  intro j h1 h2
  rw [setD _ _ _ _ (by omega)]
  by_cases e : j = v
  · rw [if_pos e]
  · rw [if_neg e]; exact h j (by omega) h2
end HeapP
theorem ints_rep (n : Nat) (x : Int) : Go.Proofs.YthfjceemphhgcaaV.ints .i64 (List.replicate n x) = List.replicate n (.int .i64 x) := by simp [Go.Proofs.YthfjceemphhgcaaV.ints]
