/- Walks of functions of the program and of the document's texts. The conditions stand with each theorem. -/
import Derived.Test.YtnlecdpiccgdpaaProg
import Derived.Test.YtnlecdpiccgdpaaVx4
import Derived.Test.YtnlecdpiccgdpaaB3
set_option linter.unusedVariables false
set_option linter.unusedSimpArgs false
namespace Go.Proofs.YtnlecdpiccgdpaaV
open Go Go.RowKit Go.Proofs

def Kn (kn : List Bool) (x : Nat) : Prop := kn.getD (x / 2) false = true
def LInv (kn tr : List Bool) (c : List Nat) (i : Nat) (a : Int) : Prop := (∀ j, j < i → Kn kn (c.getD j 0) → hIs kn tr (c.getD j 0) = false) ∧
  ((a = -1 ∧ ∀ j, j < i → Kn kn (c.getD j 0)) ∨ (0 ≤ a ∧ a.toNat < i ∧ ¬ Kn kn (c.getD a.toNat 0) ∧ ∀ j, j < i → ¬ Kn kn (c.getD j 0) → c.getD j 0 = c.getD a.toNat 0))
theorem LInv.zero (kn tr : List Bool) (c : List Nat) : LInv kn tr c 0 (-1) := ⟨fun j h => by omega, .inl ⟨rfl, fun j h => by omega⟩⟩
theorem not_Kn {kn : List Bool} {x : Nat} (h : kn.getD (x / 2) false = false) : ¬ Kn kn x := fun e => by unfold Kn at e; rw [h] at e; cases e
theorem LInv.known {kn tr : List Bool} {c : List Nat} {i : Nat} {a : Int} (h : LInv kn tr c i a) (hk : kn.getD (c.getD i 0 / 2) false = true) (hf : hIs kn tr (c.getD i 0) = false) : LInv kn tr c (i + 1) a := by
  refine ⟨fun j hj hkj => ?_, ?_⟩
  · by_cases e : j = i
    · subst e; exact hf
    · exact h.1 j (by omega) hkj
  · rcases h.2 with ⟨h1, h2⟩ | ⟨h1, h2, h3, h4⟩
    · exact .inl ⟨h1, fun j hj => by
        by_cases e : j = i
        · subst e; exact hk
        · exact h2 j (by omega)⟩
    · exact .inr ⟨h1, by omega, h3, fun j hj hn => by
        by_cases e : j = i
        · subst e; exact absurd hk hn
        · exact h4 j (by omega) hn⟩
theorem LInv.first {kn tr : List Bool} {c : List Nat} {i : Nat} {a : Int} (h : LInv kn tr c i a) (hk : kn.getD (c.getD i 0 / 2) false = false) (ha : a < 0) : LInv kn tr c (i + 1) (i : Int) := by
  refine ⟨fun j hj hkj => ?_, .inr ⟨by omega, by omega, by rw [Int.toNat_natCast]; exact not_Kn hk, fun j hj hn => ?_⟩⟩
  · by_cases e : j = i
    · subst e; exact absurd hkj (not_Kn hk)
    · exact h.1 j (by omega) hkj
  · rw [Int.toNat_natCast]
    by_cases e : j = i
    · subst e; rfl
    · rcases h.2 with ⟨h1, h2⟩ | ⟨h1, _⟩
      · exact absurd (h2 j (by omega)) hn
      · omega
theorem LInv.again {kn tr : List Bool} {c : List Nat} {i : Nat} {a : Int} (h : LInv kn tr c i a) (hk : kn.getD (c.getD i 0 / 2) false = false) (ha : 0 ≤ a) (he : c.getD a.toNat 0 = c.getD i 0) : LInv kn tr c (i + 1) (i : Int) := by
  rcases h.2 with ⟨h1, h2⟩ | ⟨h1, h2, h3, h4⟩
  · omega
  · refine ⟨fun j hj hkj => ?_, .inr ⟨by omega, by omega, by rw [Int.toNat_natCast]; exact not_Kn hk, fun j hj hn => ?_⟩⟩
    · by_cases e : j = i
      · subst e; exact absurd hkj (not_Kn hk)
      · exact h.1 j (by omega) hkj
    · rw [Int.toNat_natCast]
      by_cases e : j = i
      · subst e; rfl
      · rw [h4 j (by omega) hn, he]
/-- Nothing is left to do for a clause. -/
def Settled (kn tr : List Bool) (c : List Nat) : Prop := (∃ y, y ∈ c ∧ Kn kn y ∧ hIs kn tr y = true) ∨ (∃ y z, y ∈ c ∧ z ∈ c ∧ ¬ Kn kn y ∧ ¬ Kn kn z ∧ y ≠ z)
def LeftR (kn tr : List Bool) (c : List Nat) (y : Int) : Prop := (y = -1 ∧ Settled kn tr c) ∨ ∃ x : Nat, y = x ∧ x ∈ c ∧ ¬ Kn kn x ∧ ∀ z, z ∈ c → z ≠ x → Kn kn z ∧ hIs kn tr z = false
theorem gmem {l : List Nat} {i : Nat} (h : i < l.length) : l.getD i 0 ∈ l := by
  rw [List.getD_eq_getElem?_getD, List.getElem?_eq_getElem h]; exact List.getElem_mem h
theorem memg {l : List Nat} {x : Nat} (h : x ∈ l) : ∃ j, j < l.length ∧ l.getD j 0 = x := by
  obtain ⟨j, hj, e⟩ := List.getElem_of_mem h
  exact ⟨j, hj, by rw [List.getD_eq_getElem?_getD, List.getElem?_eq_getElem hj]; exact e⟩
theorem LInv.sat {kn tr : List Bool} {c : List Nat} {i : Nat} (hi : i < c.length) (hk : kn.getD (c.getD i 0 / 2) false = true) (hf : hIs kn tr (c.getD i 0) = true) : LeftR kn tr c (-1) := .inl ⟨rfl, .inl ⟨_, gmem hi, hk, hf⟩⟩
theorem LInv.two {kn tr : List Bool} {c : List Nat} {i : Nat} {a : Int} (h : LInv kn tr c i a) (hi : i < c.length) (hk : kn.getD (c.getD i 0 / 2) false = false) (ha : 0 ≤ a) (hne : c.getD a.toNat 0 ≠ c.getD i 0) : LeftR kn tr c (-1) := by
  rcases h.2 with ⟨h1, h2⟩ | ⟨h1, h2, h3, h4⟩
  · omega
  · exact .inl ⟨rfl, .inr ⟨_, _, gmem (show a.toNat < c.length by omega), gmem hi, h3, not_Kn hk, hne⟩⟩
theorem LInv.fin {kn tr : List Bool} {c : List Nat} {a : Int} (h : LInv kn tr c c.length a) (ha : 0 ≤ a) : LeftR kn tr c ((c.getD a.toNat 0 : Nat) : Int) := by
  rcases h.2 with ⟨h1, h2⟩ | ⟨h1, h2, h3, h4⟩
  · omega
  · refine .inr ⟨_, rfl, gmem h2, h3, fun z hz hne => ?_⟩
    obtain ⟨j, hj, rfl⟩ := memg hz
    by_cases hk : Kn kn (c.getD j 0)
    · exact ⟨hk, h.1 j hj hk⟩
    · exact absurd (h4 j hj hk) hne
theorem LInv.dead {kn tr : List Bool} {c : List Nat} {a : Int} (h : LInv kn tr c c.length a) (ha : a < 0) (hT : ∃ z, z ∈ c ∧ ¬ (Kn kn z ∧ hIs kn tr z = false)) : False := by
  obtain ⟨z, hz, hn⟩ := hT
  obtain ⟨j, hj, rfl⟩ := memg hz
  rcases h.2 with ⟨h1, h2⟩ | ⟨h1, _⟩
  · exact hn ⟨h2 j hj, h.1 j hj (h2 j hj)⟩
  · omega

end Go.Proofs.YtnlecdpiccgdpaaV
