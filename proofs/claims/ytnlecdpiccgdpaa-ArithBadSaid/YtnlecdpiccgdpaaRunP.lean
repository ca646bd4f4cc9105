/- What follows of clauses by clauses of one literal: plain. -/
import Derived.Test.YtnlecdpiccgdpaaB5
set_option linter.unusedVariables false
set_option linter.unusedSimpArgs false
namespace Go.Proofs.YtnlecdpiccgdpaaV
open Go Go.RowKit Go.Proofs
/-- What a truth of variables makes of a literal. -/
def lt_ (b : Nat → Bool) (x : Nat) : Bool := b (x / 2) != decide (x % 2 = 1)
/-- What is known is as b says. -/
def Cons (b : Nat → Bool) (kn tr : List Bool) : Prop := ∀ v, kn.getD v false = true → tr.getD v false = b v
def True_ (b : Nat → Bool) (c : List Nat) : Prop := ∃ z, z ∈ c ∧ lt_ b z = true
theorem setBb (l : List Bool) (i j : Nat) (x : Bool) (hi : i < l.length) : (l.set i x).getD j false = if j = i then x else l.getD j false := by
  simp only [List.getD_eq_getElem?_getD, List.getElem?_set]
  by_cases h : i = j
  · subst h; simp [hi]
  · simp [h, Ne.symm h]
theorem Cons.is {b : Nat → Bool} {kn tr : List Bool} (h : Cons b kn tr) {x : Nat} (hk : Kn kn x) : hIs kn tr x = lt_ b x := by
  unfold hIs lt_ Kn at *
  rw [hk, h _ hk]; rfl
theorem Cons.can {b : Nat → Bool} {kn tr : List Bool} (h : Cons b kn tr) {c : List Nat} (ht : True_ b c) : ∃ z, z ∈ c ∧ ¬ (Kn kn z ∧ hIs kn tr z = false) := by
  obtain ⟨z, hz, hb⟩ := ht
  exact ⟨z, hz, fun ⟨h1, h2⟩ => by rw [h.is h1, hb] at h2; cases h2⟩
theorem Cons.unit {b : Nat → Bool} {kn tr : List Bool} (h : Cons b kn tr) {c : List Nat} (ht : True_ b c) {x : Nat} (hx : ∀ z, z ∈ c → z ≠ x → Kn kn z ∧ hIs kn tr z = false) : lt_ b x = true := by
  obtain ⟨z, hz, hb⟩ := ht
  by_cases e : z = x
  · rw [← e]; exact hb
  · obtain ⟨h1, h2⟩ := hx z hz e
    rw [h.is h1, hb] at h2; cases h2
theorem Cons.put {b : Nat → Bool} {kn tr : List Bool} (h : Cons b kn tr) {x : Nat} (hx : lt_ b x = true) (hl : x / 2 < kn.length) (hl2 : x / 2 < tr.length) : Cons b (kn.set (x / 2) true) (tr.set (x / 2) (!decide (x % 2 = 1))) := by
  intro v hv
  rw [setBb _ _ _ _ hl] at hv
  rw [setBb _ _ _ _ hl2]
  by_cases e : v = x / 2
  · rw [if_pos e, e]
    unfold lt_ at hx
    cases hb : b (x / 2) <;> cases hd : decide (x % 2 = 1) <;> simp_all
  · rw [if_neg e] at hv ⊢
    exact h v hv
theorem Cons.zero (b : Nat → Bool) (n : Nat) (tr : List Bool) : Cons b (List.replicate n false) tr := by
  intro v hv
  simp only [List.getD_eq_getElem?_getD, List.getElem?_replicate] at hv
  split at hv <;> simp at hv
/-- How many are not known. -/
def unk (kn : List Bool) : Nat := kn.countP (fun x => !x)
theorem unk_put {kn : List Bool} {v : Nat} (hl : v < kn.length) (hk : kn.getD v false = false) : unk (kn.set v true) + 1 = unk kn := by
  unfold unk
  rw [List.countP_set hl]
  have e : kn[v] = false := by simpa [List.getD_eq_getElem?_getD, List.getElem?_eq_getElem hl] using hk
  have hp : 0 < kn.countP (fun x => !x) := List.countP_pos_iff.2 ⟨kn[v], List.getElem_mem hl, by simp [e]⟩
  simp [e]
  omega
end Go.Proofs.YtnlecdpiccgdpaaV
