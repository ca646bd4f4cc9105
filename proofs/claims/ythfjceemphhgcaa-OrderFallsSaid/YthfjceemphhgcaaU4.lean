/- An argument that is a row of deeds, opened. -/
import Derived.Test.YthfjceemphhgcaaP1
import Derived.WideShapes
import Derived.Deep.Slices
import Derived.Deep.Strs
import Derived.Lib.SmallJoins
set_option linter.unusedVariables false
set_option linter.unusedSimpArgs false
namespace Go.Proofs.YthfjceemphhgcaaV
open Go Go.RowKit Go.Proofs Go.ChangeShapes Go.WideShapes Go.Deep

theorem open_deeds {H : Type} {enc : TypeId × Value → H} {W : World} {r : Reach} {b0 : Nat} {v : Value} {d : DataW H} {ps : List MemPlace} (hv : Value.okWide Try.prog W r b0 30 v) (h : DataW.Trod enc Try.prog W 0 (fun _ => true) true 30 v d ps) :
    ∃ L m cl cells ds, v = .slice L m cl ∧ RdW W 3 m L cells ∧ Deeds m cells ds := by
  obtain ⟨a, len, cap, rfl⟩ := okWide_slice Try.underlying30 hv
  obtain ⟨fuel, hf⟩ := h
  rcases open_slice Try.underlying30 hf with ⟨e, _⟩ | ⟨a', len', cap', m, n, D, Pl, e, hb, hl, hm, hmm, _, hx⟩
  · simp only [Value.cells] at e
    have e2 : Value.slice a len cap = .slice none 0 0 := by simpa using e
    injection e2 with e3 e4 e5
    subst e3 e4 e5
    exact ⟨none, 0, 0, [], fun _ => (0, 0, 0), rfl, RdW.nil_ _ _ _, fun i hi => by omega⟩
  · simp only [Value.cells] at e
    have e2 : Value.slice a len cap = .slice (some a') len' cap' := by simpa using e
    injection e2 with e3 e4 e5
    subst e3 e4 e5
    have hlm : len ≤ m := by rw [hmm]; simp; exact hl
    have key : ∀ i, i < len → ∃ x y z, W.cell? (a'.add (i * 3)) = some (.int .i64 x) ∧ W.cell? ((a'.add (i * 3)).add 1) = some (.int .i64 y) ∧ W.cell? ((a'.add (i * 3)).add 2) = some (.int .i64 z) := by
      intro i hi
      obtain ⟨cs, h1, h2⟩ := hx i (by omega)
      obtain ⟨_, hcl, hc⟩ := World.cells?_some h1
      obtain ⟨y0, y1, y2, k, _, _, t0, t1, t2⟩ := trod_struct3 Try.underlying40 h2
      have hcl3 : cs.length = 3 := hcl
      obtain ⟨c0, c1, c2, rfl⟩ : ∃ c0 c1 c2, cs = [c0, c1, c2] := by
        match cs, hcl3 with
        | [c0, c1, c2], _ => exact ⟨c0, c1, c2, rfl⟩
      obtain ⟨x, ex, _, _⟩ := DataW.trod_int Try.underlying3 t0
      obtain ⟨y, ey, _, _⟩ := DataW.trod_int Try.underlying3 t1
      obtain ⟨z, ez, _, _⟩ := DataW.trod_int Try.underlying3 t2
      have ex' : [c0] = [Value.int .i64 x] := ex
      have ey' : [c1] = [Value.int .i64 y] := ey
      have ez' : [c2] = [Value.int .i64 z] := ez
      injection ex' with ex'
      injection ey' with ey'
      injection ez' with ez'
      subst ex' ey' ez'
      have hc0 := hc 0 (by show 0 < 3; omega)
      have hc1 := hc 1 (by show 1 < 3; omega)
      have hc2 := hc 2 (by show 2 < 3; omega)
      have z0 : (a'.add (i * 3)).add 0 = a'.add (i * 3) := by simp [Addr.add]
      rw [show i * Try.prog.cellsOf 40 = i * 3 from rfl] at hc0 hc1 hc2
      rw [z0] at hc0
      exact ⟨x, y, z, by simpa using hc0, by simpa using hc1, by simpa using hc2⟩
    by_cases h0 : len = 0
    · subst h0
      exact ⟨some a', 0, cap, [], fun _ => (0, 0, 0), rfl, RdW.nil_ _ _ _, fun i hi => by omega⟩
    · have hsp : a'.spot = none := by
        obtain ⟨x, _, _, hc, _⟩ := key 0 (by omega)
        have : a'.add (0 * 3) = a' := by simp [Addr.add]
        rw [this] at hc
        unfold World.cell? at hc
        split at hc
        · split at hc
          · cases hc
          · rename_i hh; simpa using hh
        · cases hc
      obtain ⟨b, off, spot⟩ := a'
      simp only at hsp
      subst hsp
      have key2 : ∀ i, i < len → ∃ x y z, W.cell? ⟨b, off + i * 3, none⟩ = some (.int .i64 x) ∧ W.cell? ⟨b, off + (i * 3 + 1), none⟩ = some (.int .i64 y) ∧ W.cell? ⟨b, off + (i * 3 + 2), none⟩ = some (.int .i64 z) := by
        intro i hi
        obtain ⟨x, y, z, h1, h2, h3⟩ := key i hi
        simp only [add_at] at h1 h2 h3
        exact ⟨x, y, z, h1, by rw [← Nat.add_assoc]; exact h2, by rw [← Nat.add_assoc]; exact h3⟩
      let V : Nat → Value := fun k => (W.cell? ⟨b, off + k, none⟩).getD undef
      have hV : ∀ k, k < len * 3 → W.cell? ⟨b, off + k, none⟩ = some (V k) := by
        intro k hk
        obtain ⟨x, y, z, h1, h2, h3⟩ := key2 (k / 3) (by omega)
        have h4 : k = k / 3 * 3 ∨ k = k / 3 * 3 + 1 ∨ k = k / 3 * 3 + 2 := by omega
        have : ∃ u, W.cell? ⟨b, off + k, none⟩ = some u := by
          rcases h4 with h4 | h4 | h4
          · rw [h4]; exact ⟨_, h1⟩
          · rw [h4]; exact ⟨_, h2⟩
          · rw [h4]; exact ⟨_, h3⟩
        obtain ⟨u, hu⟩ := this
        show _ = some ((W.cell? ⟨b, off + k, none⟩).getD undef)
        rw [hu]; rfl
      have hlt : b < W.heap.size := cell_lt_ (hV 0 (by omega))
      have hg : ∀ k, k < len * 3 → ((List.range (len * 3)).map V)[k]? = some (V k) := by
        intro k hk
        rw [List.getElem?_map, List.getElem?_range hk]; rfl
      have hds : ∀ i : Nat, ∃ t : Int × Int × Int, i < len → W.cell? ⟨b, off + i * 3, none⟩ = some (.int .i64 t.1) ∧ W.cell? ⟨b, off + (i * 3 + 1), none⟩ = some (.int .i64 t.2.1) ∧ W.cell? ⟨b, off + (i * 3 + 2), none⟩ = some (.int .i64 t.2.2) := by
        intro i
        by_cases hi : i < len
        · obtain ⟨x, y, z, h⟩ := key2 i hi
          exact ⟨(x, y, z), fun _ => h⟩
        · exact ⟨(0, 0, 0), fun h => absurd h hi⟩
      refine ⟨some ⟨b, off, none⟩, len, cap, (List.range (len * 3)).map V, fun i => Classical.choose (hds i), rfl, ⟨by simp, by simp only [maxLen] at hm; omega, fun _ => ⟨b, off, rfl, hlt, fun k u hu => ?_⟩⟩, fun i hi => ?_⟩
      · have hk : k < len * 3 := by
          rcases Nat.lt_or_ge k (len * 3) with h' | h'
          · exact h'
          · rw [List.getElem?_eq_none (by simpa using h')] at hu; cases hu
        rw [hg k hk] at hu
        rw [hV k hk]; exact hu
      · have hc := Classical.choose_spec (hds i) hi
        refine ⟨?_, ?_, ?_⟩
        · rw [hg _ (by omega), ← hV _ (by omega)]; exact hc.1
        · rw [hg _ (by omega), ← hV _ (by omega)]; exact hc.2.1
        · rw [hg _ (by omega), ← hV _ (by omega)]; exact hc.2.2
end Go.Proofs.YthfjceemphhgcaaV
