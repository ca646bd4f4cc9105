/- An argument that is a row of truths, opened. -/
import Derived.Test.YtnlecdpiccgdpaaU4
set_option linter.unusedVariables false
set_option linter.unusedSimpArgs false
namespace Go.Proofs.YtnlecdpiccgdpaaV
open Go Go.RowKit Go.Proofs Go.ChangeShapes Go.WideShapes Go.Deep
def isT : Option Value → Bool
  | some (.bool b) => b
  | _ => false
set_option maxRecDepth 100000 in
theorem open_truths {H : Type} {enc : TypeId × Value → H} {W : World} {r : Reach} {b0 : Nat} {v : Value} {d : DataW H} {ps : List MemPlace} (hv : Value.okWide Try.prog W r b0 23 v) (h : DataW.Trod enc Try.prog W 0 (fun _ => true) true 23 v d ps) :
    ∃ L m cl tru, v = .slice L m cl ∧ RdW W 1 m L (boolsV tru) := by
  obtain ⟨a, len, cap, rfl⟩ := okWide_slice Try.underlying23 hv
  obtain ⟨fuel, hf⟩ := h
  rcases open_slice Try.underlying23 hf with ⟨e, _⟩ | ⟨a', len', cap', m, n, D, Pl, e, hb, hl, hm, hmm, _, hx⟩
  · simp only [Value.cells] at e
    have e2 : Value.slice a len cap = .slice none 0 0 := by simpa using e
    injection e2 with e3 e4 e5
    subst e3 e4 e5
    exact ⟨none, 0, 0, [], rfl, RdW.nil_ _ _ _⟩
  · simp only [Value.cells] at e
    have e2 : Value.slice a len cap = .slice (some a') len' cap' := by simpa using e
    injection e2 with e3 e4 e5
    subst e3 e4 e5
    have hlm : len ≤ m := by rw [hmm]; simp; exact hl
    have key : ∀ i, i < len → ∃ x : Bool, W.cell? (a'.add i) = some (.bool x) := by
      intro i hi
      obtain ⟨cs, h1, h2⟩ := hx i (by omega)
      obtain ⟨_, hcl, hc⟩ := World.cells?_some h1
      have hcl1 : cs.length = 1 := hcl
      obtain ⟨c0, rfl⟩ : ∃ c0, cs = [c0] := by
        match cs, hcl1 with
        | [c0], _ => exact ⟨c0, rfl⟩
      obtain ⟨x, ex⟩ : ∃ x : Bool, c0 = .bool x := by
        unfold DataW.trod at h2
        split at h2
        · cases h2
        · rw [show Try.prog.underlying 4 = some .bool from Try.underlying4] at h2
          revert h2
          cases c0 <;> simp
      subst ex
      have hc0 := hc 0 (by show 0 < 1; omega)
      have z0 : (a'.add (i * Try.prog.cellsOf 4)).add 0 = a'.add i := by
        rw [show i * Try.prog.cellsOf 4 = i from (show i * 1 = i by omega)]
        simp [Addr.add]
      rw [z0] at hc0
      exact ⟨x, by simpa using hc0⟩
    by_cases h0 : len = 0
    · subst h0
      exact ⟨some a', 0, cap, [], rfl, RdW.nil_ _ _ _⟩
    · have hsp : a'.spot = none := by
        obtain ⟨x, hc⟩ := key 0 (by omega)
        have : a'.add 0 = a' := by simp [Addr.add]
        rw [this] at hc
        unfold World.cell? at hc
        split at hc
        · split at hc
          · cases hc
          · rename_i hh; simpa using hh
        · cases hc
      obtain ⟨b, off, spot⟩ := a'
      simp only at hsp
      subst hsp
      have hV : ∀ k, k < len → W.cell? ⟨b, off + k, none⟩ = some (.bool (isT (W.cell? ⟨b, off + k, none⟩))) := by
        intro k hk
        obtain ⟨x, h1⟩ := key k hk
        simp only [add_at] at h1
        rw [h1]
        rfl
      have hlt : b < W.heap.size := cell_lt_ (hV 0 (by omega))
      refine ⟨some ⟨b, off, none⟩, len, cap, (List.range len).map (fun k => isT (W.cell? ⟨b, off + k, none⟩)), rfl, ⟨by simp [boolsV], by simp only [maxLen] at hm; omega, fun _ => ⟨b, off, rfl, hlt, fun k u hu => ?_⟩⟩⟩
      have hk : k < len := by
        rcases Nat.lt_or_ge k len with h' | h'
        · exact h'
        · rw [List.getElem?_eq_none (by simpa [boolsV] using h')] at hu; cases hu
      rw [hV k hk, ← hu]
      simp [boolsV, List.getElem?_map, List.getElem?_range hk]
end Go.Proofs.YtnlecdpiccgdpaaV
