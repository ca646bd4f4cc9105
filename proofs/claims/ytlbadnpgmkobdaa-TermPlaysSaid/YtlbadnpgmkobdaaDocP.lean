/- The document's terms: plain. -/
import Derived.Test.YtlbadnpgmkobdaaOnceP
import Derived.Test.YtlbadnpgmkobdaaVx10
set_option linter.unusedVariables false
set_option linter.unusedSimpArgs false
namespace Go.Proofs.YtlbadnpgmkobdaaV
open Go Go.RowKit Go.Proofs
theorem mask_pow {w : Int} (h : 1 ≤ w ∧ w ≤ 64) : maskF w = 2 ^ w.toNat - 1 := by
  unfold maskF
  rw [if_pos h]
  have k : ∀ k : Fin 65, (18446744073709551615 : Int).fdiv (2 ^ (64 - k.val)) = 2 ^ k.val - 1 := by decide +kernel
  exact k ⟨w.toNat, by omega⟩
theorem pow64 {i : Nat} (h : i < 64) : (1 : Int) ≤ 2 ^ i ∧ (2 : Int) ^ i * 2 ≤ 18446744073709551616 := by
  have k : ∀ k : Fin 64, (1 : Int) ≤ 2 ^ k.val ∧ (2 : Int) ^ k.val * 2 ≤ 18446744073709551616 := by decide +kernel
  exact k ⟨i, h⟩
theorem mask_end {x : Int} {i : Nat} (h : i = 0 ∨ (1 ≤ x ∧ x ≤ 64 ∧ (i : Int) ≤ x)) (hx : ¬ ((i : Int) < x ∧ 1 ≤ x ∧ x ≤ 64)) : (2 : Int) ^ i - 1 = maskF x := by
  by_cases q : 1 ≤ x ∧ x ≤ 64
  · have e : i = x.toNat := by omega
    rw [mask_pow q, e]
  · have e : i = 0 := by omega
    subst e
    rw [mask_z q]; rfl
theorem at_nth {N : List Nd} {i : Nat} {n : Nd} (h : i < N.length) (e : nth N i = n) : N[i]? = some n := by
  rw [List.getElem?_eq_getElem h, ← e]; unfold nth; rw [List.getD_eq_getElem?_getD, List.getElem?_eq_getElem h]; rfl
theorem not_in {N : List Nd} {n : Nd} {i : Nat} (hi : N.length ≤ i) (h : ∀ j, j < i → nth N j ≠ n) : n ∉ N := by
  intro hn
  obtain ⟨j, hj, e⟩ := List.getElem_of_mem hn
  refine h j (by omega) ?_
  unfold nth; rw [List.getD_eq_getElem?_getD, List.getElem?_eq_getElem hj]; exact e
theorem ncs_oneV (N : List Nd) : ∀ u ∈ ncs N, oneV u = true := by
  intro u hu
  unfold ncs at hu
  rw [List.mem_flatMap] at hu
  obtain ⟨n, _, h⟩ := hu
  simp only [ncl, List.mem_cons, List.not_mem_nil, or_false] at h
  rcases h with rfl | rfl | rfl | rfl | rfl | rfl <;> rfl
def isT (N : List Nd) (x : Int) : Bool := decide (0 ≤ x ∧ x < (N.length : Int))
/-- What comes of a call of the document's that makes a term. -/
def DRet (A : Option Addr) (cp : Nat) (most : Int) (N : List Nd) (w : World) (r : TR) (v : Value) (w' : World) : Prop := ∃ A' cp', v = .tuple #[.agg #[.slice A' r.2.2.length cp', .int .i64 most], .int .i64 r.1, .int .i64 r.2.1] ∧ Own w' 0 32 6 (.slice A' r.2.2.length cp') r.2.2.length (ncs r.2.2) ∧ (∀ c, (Value.slice A' r.2.2.length cp').ownBlock = some c → (Value.slice A N.length cp).ownBlock = some c ∨ w.heap.size ≤ c) ∧ Tch N0 w w'
theorem var_seen {N : List Nd} {wd ix : Int} {i : Nat} (hi : i < N.length) (h1 : nO (nth N i) = 21) (h2 : nA (nth N i) = ix) (h3 : nW (nth N i) ≠ wd) : varBad N wd ix := ⟨_, nth_mem hi, h1, h2, h3⟩
theorem var_none {N : List Nd} {wd ix : Int} {i : Nat} (hi : N.length ≤ i) (h : ∀ j, j < i → ¬ (nO (nth N j) = 21 ∧ nA (nth N j) = ix ∧ nW (nth N j) ≠ wd)) : ¬ varBad N wd ix := by
  rintro ⟨m, hm, h1, h2, h3⟩
  obtain ⟨j, hj, e⟩ := List.getElem_of_mem hm
  have e2 : nth N j = m := by unfold nth; rw [List.getD_eq_getElem?_getD, List.getElem?_eq_getElem hj]; exact e
  exact h j (by omega) (by rw [e2]; exact ⟨h1, h2, h3⟩)
end Go.Proofs.YtlbadnpgmkobdaaV
