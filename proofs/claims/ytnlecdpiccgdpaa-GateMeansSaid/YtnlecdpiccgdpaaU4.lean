/- An argument that is a row of deeds, or of truths, opened. -/
import Derived.Test.YtnlecdpiccgdpaaVx4
import Derived.Test.YtnlecdpiccgdpaaProg
import Derived.WideShapes
import Derived.ProofKit
import Derived.OpenShut
import Derived.Deep.Slices
import Derived.Deep.Strs
import Derived.Lib.SmallJoins
set_option linter.unusedVariables false
set_option linter.unusedSimpArgs false
namespace Go.Proofs.YtnlecdpiccgdpaaV
open Go Go.RowKit Go.Proofs Go.ChangeShapes Go.WideShapes Go.Deep
def b64 (x : Int) : Prop := -9223372036854775808 ≤ x ∧ x ≤ 9223372036854775807
/-- A row of deeds: four whole numbers each. -/
def Deeds4 (m : Nat) (cells : List Value) (ds : Nat → Int × Int × Int × Int) : Prop := ∀ i, i < m → cells[i * 4]? = some (.int .i64 (ds i).1) ∧ cells[i * 4 + 1]? = some (.int .i64 (ds i).2.1) ∧ cells[i * 4 + 2]? = some (.int .i64 (ds i).2.2.1) ∧ cells[i * 4 + 3]? = some (.int .i64 (ds i).2.2.2) ∧ b64 (ds i).1 ∧ b64 (ds i).2.1 ∧ b64 (ds i).2.2.1 ∧ b64 (ds i).2.2.2
theorem Deeds4.part {m : Nat} {cells : List Value} {ds : Nat → Int × Int × Int × Int} (h : Deeds4 m cells ds) {i : Nat} (hi : i < m) : ∀ k u, [Value.int .i64 (ds i).1, .int .i64 (ds i).2.1, .int .i64 (ds i).2.2.1, .int .i64 (ds i).2.2.2][k]? = some u → cells[i * 4 + k]? = some u := by
  obtain ⟨h0, h1, h2, h3, _⟩ := h i hi
  intro k u hk
  match k with
  | 0 => simp at hk; subst hk; exact h0
  | 1 => simp at hk; subst hk; exact h1
  | 2 => simp at hk; subst hk; exact h2
  | 3 => simp at hk; subst hk; exact h3
  | k + 4 => simp at hk
set_option maxRecDepth 100000 in
theorem open_deeds4 {H : Type} {enc : TypeId × Value → H} {W : World} {r : Reach} {b0 : Nat} {v : Value} {d : DataW H} {ps : List MemPlace} (hv : Value.okWide Try.prog W r b0 22 v) (h : DataW.Trod enc Try.prog W 0 (fun _ => true) true 22 v d ps) :
    ∃ L m cl cells ds, v = .slice L m cl ∧ RdW W 4 m L cells ∧ Deeds4 m cells ds := by
  obtain ⟨a, len, cap, rfl⟩ := okWide_slice Try.underlying22 hv
  obtain ⟨fuel, hf⟩ := h
  rcases open_slice Try.underlying22 hf with ⟨e, _⟩ | ⟨a', len', cap', m, n, D, Pl, e, hb, hl, hm, hmm, _, hx⟩
  · simp only [Value.cells] at e
    have e2 : Value.slice a len cap = .slice none 0 0 := by simpa using e
    injection e2 with e3 e4 e5
    subst e3 e4 e5
    exact ⟨none, 0, 0, [], fun _ => (0, 0, 0, 0), rfl, RdW.nil_ _ _ _, fun i hi => by omega⟩
  · simp only [Value.cells] at e
    have e2 : Value.slice a len cap = .slice (some a') len' cap' := by simpa using e
    injection e2 with e3 e4 e5
    subst e3 e4 e5
    have hlm : len ≤ m := by rw [hmm]; simp; exact hl
    have key : ∀ i, i < len → ∃ x y z u, (W.cell? (a'.add (i * 4)) = some (.int .i64 x) ∧ W.cell? ((a'.add (i * 4)).add 1) = some (.int .i64 y) ∧ W.cell? ((a'.add (i * 4)).add 2) = some (.int .i64 z) ∧ W.cell? ((a'.add (i * 4)).add 3) = some (.int .i64 u)) ∧ b64 x ∧ b64 y ∧ b64 z ∧ b64 u := by
      intro i hi
      obtain ⟨cs, h1, h2⟩ := hx i (by omega)
      obtain ⟨_, hcl, hc⟩ := World.cells?_some h1
      obtain ⟨y0, y1, y2, y3, k, _, _, t0, t1, t2, t3⟩ := Go.Joins.trod_struct4 Try.underlying30 h2
      have hcl4 : cs.length = 4 := hcl
      obtain ⟨c0, c1, c2, c3, rfl⟩ : ∃ c0 c1 c2 c3, cs = [c0, c1, c2, c3] := by
        match cs, hcl4 with
        | [c0, c1, c2, c3], _ => exact ⟨c0, c1, c2, c3, rfl⟩
      obtain ⟨x, ex, _, wx⟩ := DataW.trod_int Try.underlying3 t0
      obtain ⟨y, ey, _, wy⟩ := DataW.trod_int Try.underlying3 t1
      obtain ⟨z, ez, _, wz⟩ := DataW.trod_int Try.underlying3 t2
      obtain ⟨u, eu, _, wu⟩ := DataW.trod_int Try.underlying3 t3
      have ex' : [c0] = [Value.int .i64 x] := ex
      have ey' : [c1] = [Value.int .i64 y] := ey
      have ez' : [c2] = [Value.int .i64 z] := ez
      have eu' : [c3] = [Value.int .i64 u] := eu
      injection ex' with ex'
      injection ey' with ey'
      injection ez' with ez'
      injection eu' with eu'
      subst ex' ey' ez' eu'
      have hc0 := hc 0 (by show 0 < 4; omega)
      have hc1 := hc 1 (by show 1 < 4; omega)
      have hc2 := hc 2 (by show 2 < 4; omega)
      have hc3 := hc 3 (by show 3 < 4; omega)
      have z0 : (a'.add (i * 4)).add 0 = a'.add (i * 4) := by simp [Addr.add]
      rw [show i * Try.prog.cellsOf 30 = i * 4 from rfl] at hc0 hc1 hc2 hc3
      rw [z0] at hc0
      exact ⟨x, y, z, u, ⟨by simpa using hc0, by simpa using hc1, by simpa using hc2, by simpa using hc3⟩, bounds_i64 wx, bounds_i64 wy, bounds_i64 wz, bounds_i64 wu⟩
    by_cases h0 : len = 0
    · subst h0
      exact ⟨some a', 0, cap, [], fun _ => (0, 0, 0, 0), rfl, RdW.nil_ _ _ _, fun i hi => by omega⟩
    · have hsp : a'.spot = none := by
        obtain ⟨x, _, _, _, ⟨hc, _⟩, _⟩ := key 0 (by omega)
        have : a'.add (0 * 4) = a' := by simp [Addr.add]
        rw [this] at hc
        unfold World.cell? at hc
        split at hc
        · split at hc
          · cases hc
          · rename_i hh; simpa using hh
        · cases hc
      obtain ⟨b, off, spot⟩ := a'
      simp only at hsp
      subst hsp
      have key2 : ∀ i, i < len → ∃ x y z u, (W.cell? ⟨b, off + i * 4, none⟩ = some (.int .i64 x) ∧ W.cell? ⟨b, off + (i * 4 + 1), none⟩ = some (.int .i64 y) ∧ W.cell? ⟨b, off + (i * 4 + 2), none⟩ = some (.int .i64 z) ∧ W.cell? ⟨b, off + (i * 4 + 3), none⟩ = some (.int .i64 u)) ∧ b64 x ∧ b64 y ∧ b64 z ∧ b64 u := by
        intro i hi
        obtain ⟨x, y, z, u, ⟨h1, h2, h3, h4⟩, h5⟩ := key i hi
        simp only [add_at] at h1 h2 h3 h4
        exact ⟨x, y, z, u, ⟨h1, by rw [← Nat.add_assoc]; exact h2, by rw [← Nat.add_assoc]; exact h3, by rw [← Nat.add_assoc]; exact h4⟩, h5⟩
      let V : Nat → Value := fun k => (W.cell? ⟨b, off + k, none⟩).getD undef
      have hV : ∀ k, k < len * 4 → W.cell? ⟨b, off + k, none⟩ = some (V k) := by
        intro k hk
        obtain ⟨x, y, z, u, ⟨h1, h2, h3, h5⟩, _⟩ := key2 (k / 4) (by omega)
        have h4 : k = k / 4 * 4 ∨ k = k / 4 * 4 + 1 ∨ k = k / 4 * 4 + 2 ∨ k = k / 4 * 4 + 3 := by omega
        have : ∃ u, W.cell? ⟨b, off + k, none⟩ = some u := by
          rcases h4 with h4 | h4 | h4 | h4
          · rw [h4]; exact ⟨_, h1⟩
          · rw [h4]; exact ⟨_, h2⟩
          · rw [h4]; exact ⟨_, h3⟩
          · rw [h4]; exact ⟨_, h5⟩
        obtain ⟨u, hu⟩ := this
        show _ = some ((W.cell? ⟨b, off + k, none⟩).getD undef)
        rw [hu]; rfl
      have hlt : b < W.heap.size := cell_lt_ (hV 0 (by omega))
      have hg : ∀ k, k < len * 4 → ((List.range (len * 4)).map V)[k]? = some (V k) := by
        intro k hk
        rw [List.getElem?_map, List.getElem?_range hk]; rfl
      have hds : ∀ i : Nat, ∃ t : Int × Int × Int × Int, i < len → (W.cell? ⟨b, off + i * 4, none⟩ = some (.int .i64 t.1) ∧ W.cell? ⟨b, off + (i * 4 + 1), none⟩ = some (.int .i64 t.2.1) ∧ W.cell? ⟨b, off + (i * 4 + 2), none⟩ = some (.int .i64 t.2.2.1) ∧ W.cell? ⟨b, off + (i * 4 + 3), none⟩ = some (.int .i64 t.2.2.2)) ∧ b64 t.1 ∧ b64 t.2.1 ∧ b64 t.2.2.1 ∧ b64 t.2.2.2 := by
        intro i
        by_cases hi : i < len
        · obtain ⟨x, y, z, u, h⟩ := key2 i hi
          exact ⟨(x, y, z, u), fun _ => h⟩
        · exact ⟨(0, 0, 0, 0), fun h => absurd h hi⟩
      refine ⟨some ⟨b, off, none⟩, len, cap, (List.range (len * 4)).map V, fun i => Classical.choose (hds i), rfl, ⟨by simp, by simp only [maxLen] at hm; omega, fun _ => ⟨b, off, rfl, hlt, fun k u hu => ?_⟩⟩, fun i hi => ?_⟩
      · have hk : k < len * 4 := by
          rcases Nat.lt_or_ge k (len * 4) with h' | h'
          · exact h'
          · rw [List.getElem?_eq_none (by simpa using h')] at hu; cases hu
        rw [hg k hk] at hu
        rw [hV k hk]; exact hu
      · have hc := Classical.choose_spec (hds i) hi
        refine ⟨?_, ?_, ?_, ?_, hc.2⟩
        · rw [hg _ (by omega), ← hV _ (by omega)]; exact hc.1.1
        · rw [hg _ (by omega), ← hV _ (by omega)]; exact hc.1.2.1
        · rw [hg _ (by omega), ← hV _ (by omega)]; exact hc.1.2.2.1
        · rw [hg _ (by omega), ← hV _ (by omega)]; exact hc.1.2.2.2
end Go.Proofs.YtnlecdpiccgdpaaV
