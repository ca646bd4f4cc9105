/- An argument that is a deed, or a row of such, opened. -/
import Derived.Test.YtlbadnpgmkobdaaTermP
import Derived.WideShapes
import Derived.ProofKit
import Derived.OpenShut
import Derived.Deep.Slices
import Derived.Deep.Strs
import Derived.Lib.SmallJoins
set_option linter.unusedVariables false
set_option linter.unusedSimpArgs false
namespace Go.Proofs.YtlbadnpgmkobdaaV
open Go Go.RowKit Go.Proofs Go.ChangeShapes Go.WideShapes Go.Deep Go.Joins
section
variable {H : Type} {enc : TypeId × Value → H} {P : Program} {w : World} {base : Nat} {spare : Nat → Bool} {held : Bool}
theorem array6 {α : Type} {cs : Array α} (h : cs.size = 6) : ∃ c0 c1 c2 c3 c4 c5, cs = #[c0, c1, c2, c3, c4, c5] := by
  obtain ⟨l⟩ := cs
  match l, h with
  | [c0, c1, c2, c3, c4, c5], _ => exact ⟨c0, c1, c2, c3, c4, c5, rfl⟩
theorem trod_struct6 {t : TypeId} {f0 f1 f2 f3 f4 f5 : Field} {fuel : Nat} {cs : List Value} {x : DataW H × List MemPlace} (ht : P.underlying t = some (.struct #[f0, f1, f2, f3, f4, f5])) (h : DataW.trod enc P w base spare held fuel t cs = some x) :
    ∃ y0 y1 y2 y3 y4 y5 n, x = (.agg [y0.1, y1.1, y2.1, y3.1, y4.1, y5.1], y0.2 ++ (y1.2 ++ (y2.2 ++ (y3.2 ++ (y4.2 ++ y5.2))))) ∧ cs.length = P.cellsOf t ∧ DataW.trod enc P w base spare held n f0.type ((cs.drop f0.offset).take (P.cellsOf f0.type)) = some y0 ∧ DataW.trod enc P w base spare held n f1.type ((cs.drop f1.offset).take (P.cellsOf f1.type)) = some y1 ∧ DataW.trod enc P w base spare held n f2.type ((cs.drop f2.offset).take (P.cellsOf f2.type)) = some y2 ∧ DataW.trod enc P w base spare held n f3.type ((cs.drop f3.offset).take (P.cellsOf f3.type)) = some y3 ∧ DataW.trod enc P w base spare held n f4.type ((cs.drop f4.offset).take (P.cellsOf f4.type)) = some y4 ∧ DataW.trod enc P w base spare held n f5.type ((cs.drop f5.offset).take (P.cellsOf f5.type)) = some y5 := by
  obtain ⟨xs, n, _, rfl, hl, hlen, hf⟩ := DataW.trod_struct ht h
  match xs, hlen with
  | [y0, y1, y2, y3, y4, y5], _ => exact ⟨y0, y1, y2, y3, y4, y5, n, by simp, hl, by simpa using hf 0 f0 rfl, by simpa using hf 1 f1 rfl, by simpa using hf 2 f2 rfl, by simpa using hf 3 f3 rfl, by simpa using hf 4 f4 rfl, by simpa using hf 5 f5 rfl⟩
theorem open_agg6 {r : Reach} {b0 : Nat} {t : TypeId} {f0 f1 f2 f3 f4 f5 : Field} {v : Value} {d : DataW H} {p : List MemPlace} (hs : P.underlying t = some (.struct #[f0, f1, f2, f3, f4, f5])) (hone : oneCellFields P #[f0, f1, f2, f3, f4, f5] = true) (hC : P.cellsOf t = 6)
    (hv : Value.okWide P w r b0 t v) (h : DataW.Trod enc P w base spare held t v d p) :
    ∃ (v0 v1 v2 v3 v4 v5 : Value) (y0 y1 y2 y3 y4 y5 : DataW H × List MemPlace) (n : Nat), v = .agg #[v0, v1, v2, v3, v4, v5] ∧ d = .agg [y0.1, y1.1, y2.1, y3.1, y4.1, y5.1] ∧ p = y0.2 ++ (y1.2 ++ (y2.2 ++ (y3.2 ++ (y4.2 ++ y5.2)))) ∧
      DataW.trod enc P w base spare held n f0.type [v0] = some y0 ∧ DataW.trod enc P w base spare held n f1.type [v1] = some y1 ∧ DataW.trod enc P w base spare held n f2.type [v2] = some y2 ∧ DataW.trod enc P w base spare held n f3.type [v3] = some y3 ∧ DataW.trod enc P w base spare held n f4.type [v4] = some y4 ∧ DataW.trod enc P w base spare held n f5.type [v5] = some y5 := by
  obtain ⟨cs, rfl, hsz⟩ := okWide_struct hs hv
  obtain ⟨c0, c1, c2, c3, c4, c5, rfl⟩ := array6 (hsz.trans hC)
  obtain ⟨fuel, hf⟩ := h
  obtain ⟨y0, y1, y2, y3, y4, y5, n, hx, _, h0, h1, h2, h3, h4, h5⟩ := trod_struct6 hs hf
  obtain ⟨o0, k0⟩ := hone_of hone 0 f0 rfl
  obtain ⟨o1, k1⟩ := hone_of hone 1 f1 rfl
  obtain ⟨o2, k2⟩ := hone_of hone 2 f2 rfl
  obtain ⟨o3, k3⟩ := hone_of hone 3 f3 rfl
  obtain ⟨o4, k4⟩ := hone_of hone 4 f4 rfl
  obtain ⟨o5, k5⟩ := hone_of hone 5 f5 rfl
  simp only [Prod.mk.injEq] at hx
  exact ⟨c0, c1, c2, c3, c4, c5, y0, y1, y2, y3, y4, y5, n, rfl, hx.1, hx.2, by simpa [Value.cells, o0, k0] using h0, by simpa [Value.cells, o1, k1] using h1, by simpa [Value.cells, o2, k2] using h2, by simpa [Value.cells, o3, k3] using h3, by simpa [Value.cells, o4, k4] using h4, by simpa [Value.cells, o5, k5] using h5⟩
end
/-- A row of deeds: five whole numbers and a word each. -/
def Deeds6 (m : Nat) (cells : List Value) (ds : Nat → Int × Int × Int × Int × Int × Int) : Prop := ∀ i, i < m → (cells[i * 6]? = some (.int .i64 (ds i).1) ∧ cells[i * 6 + 1]? = some (.int .i64 (ds i).2.1) ∧ cells[i * 6 + 2]? = some (.int .i64 (ds i).2.2.1) ∧ cells[i * 6 + 3]? = some (.int .i64 (ds i).2.2.2.1) ∧ cells[i * 6 + 4]? = some (.int .i64 (ds i).2.2.2.2.1) ∧ cells[i * 6 + 5]? = some (.int .u64 (ds i).2.2.2.2.2)) ∧ b64 (ds i).1 ∧ b64 (ds i).2.1 ∧ b64 (ds i).2.2.1 ∧ b64 (ds i).2.2.2.1 ∧ b64 (ds i).2.2.2.2.1 ∧ u64 (ds i).2.2.2.2.2
theorem Deeds6.part {m : Nat} {cells : List Value} {ds : Nat → Int × Int × Int × Int × Int × Int} (h : Deeds6 m cells ds) {i : Nat} (hi : i < m) : ∀ k u, [Value.int .i64 (ds i).1, Value.int .i64 (ds i).2.1, Value.int .i64 (ds i).2.2.1, Value.int .i64 (ds i).2.2.2.1, Value.int .i64 (ds i).2.2.2.2.1, Value.int .u64 (ds i).2.2.2.2.2][k]? = some u → cells[i * 6 + k]? = some u := by
  obtain ⟨⟨h0, h1, h2, h3, h4, h5⟩, _⟩ := h i hi
  intro k u hk
  match k with
  | 0 => simp at hk; subst hk; exact h0
  | 1 => simp at hk; subst hk; exact h1
  | 2 => simp at hk; subst hk; exact h2
  | 3 => simp at hk; subst hk; exact h3
  | 4 => simp at hk; subst hk; exact h4
  | 5 => simp at hk; subst hk; exact h5
  | k + 6 => simp at hk
set_option maxRecDepth 100000 in
theorem open_deeds6 {H : Type} {enc : TypeId × Value → H} {W : World} {r : Reach} {b0 : Nat} {v : Value} {d : DataW H} {ps : List MemPlace} (hv : Value.okWide Try.prog W r b0 22 v) (h : DataW.Trod enc Try.prog W 0 (fun _ => true) true 22 v d ps) :
    ∃ L m cl cells ds, v = .slice L m cl ∧ RdW W 6 m L cells ∧ Deeds6 m cells ds := by
  obtain ⟨a, len, cap, rfl⟩ := okWide_slice Try.underlying22 hv
  obtain ⟨fuel, hf⟩ := h
  rcases open_slice Try.underlying22 hf with ⟨e, _⟩ | ⟨a', len', cap', m, n, D, Pl, e, hb, hl, hm, hmm, _, hx⟩
  · simp only [Value.cells] at e
    have e2 : Value.slice a len cap = .slice none 0 0 := by simpa using e
    injection e2 with e3 e4 e5
    subst e3 e4 e5
    exact ⟨none, 0, 0, [], fun _ => (0, 0, 0, 0, 0, 0), rfl, RdW.nil_ _ _ _, fun i hi => by omega⟩
  · simp only [Value.cells] at e
    have e2 : Value.slice a len cap = .slice (some a') len' cap' := by simpa using e
    injection e2 with e3 e4 e5
    subst e3 e4 e5
    have hlm : len ≤ m := by rw [hmm]; simp; exact hl
    have key : ∀ i, i < len → ∃ q0 q1 q2 q3 q4 q5, (W.cell? (a'.add (i * 6)) = some (.int .i64 q0) ∧ W.cell? ((a'.add (i * 6)).add 1) = some (.int .i64 q1) ∧ W.cell? ((a'.add (i * 6)).add 2) = some (.int .i64 q2) ∧ W.cell? ((a'.add (i * 6)).add 3) = some (.int .i64 q3) ∧ W.cell? ((a'.add (i * 6)).add 4) = some (.int .i64 q4) ∧ W.cell? ((a'.add (i * 6)).add 5) = some (.int .u64 q5)) ∧ b64 q0 ∧ b64 q1 ∧ b64 q2 ∧ b64 q3 ∧ b64 q4 ∧ u64 q5 := by
      intro i hi
      obtain ⟨cs, h1, h2⟩ := hx i (by omega)
      obtain ⟨_, hcl, hc⟩ := World.cells?_some h1
      obtain ⟨y0, y1, y2, y3, y4, y5, k, _, _, t0, t1, t2, t3, t4, t5⟩ := trod_struct6 Try.underlying44 h2
      have hcl6 : cs.length = 6 := hcl
      obtain ⟨c0, c1, c2, c3, c4, c5, rfl⟩ : ∃ c0 c1 c2 c3 c4 c5, cs = [c0, c1, c2, c3, c4, c5] := by
        match cs, hcl6 with
        | [c0, c1, c2, c3, c4, c5], _ => exact ⟨c0, c1, c2, c3, c4, c5, rfl⟩
      obtain ⟨q0, e0, _, w0⟩ := DataW.trod_int Try.underlying3 t0
      have e0' : [c0] = [Value.int .i64 q0] := e0
      injection e0' with e0'
      subst e0'
      obtain ⟨q1, e1, _, w1⟩ := DataW.trod_int Try.underlying3 t1
      have e1' : [c1] = [Value.int .i64 q1] := e1
      injection e1' with e1'
      subst e1'
      obtain ⟨q2, e2, _, w2⟩ := DataW.trod_int Try.underlying3 t2
      have e2' : [c2] = [Value.int .i64 q2] := e2
      injection e2' with e2'
      subst e2'
      obtain ⟨q3, e3, _, w3⟩ := DataW.trod_int Try.underlying3 t3
      have e3' : [c3] = [Value.int .i64 q3] := e3
      injection e3' with e3'
      subst e3'
      obtain ⟨q4, e4, _, w4⟩ := DataW.trod_int Try.underlying3 t4
      have e4' : [c4] = [Value.int .i64 q4] := e4
      injection e4' with e4'
      subst e4'
      obtain ⟨q5, e5, _, w5⟩ := DataW.trod_int Try.underlying30 t5
      have e5' : [c5] = [Value.int .u64 q5] := e5
      injection e5' with e5'
      subst e5'
      have hc0 := hc 0 (by show 0 < 6; omega)
      have hc1 := hc 1 (by show 1 < 6; omega)
      have hc2 := hc 2 (by show 2 < 6; omega)
      have hc3 := hc 3 (by show 3 < 6; omega)
      have hc4 := hc 4 (by show 4 < 6; omega)
      have hc5 := hc 5 (by show 5 < 6; omega)
      have z0 : (a'.add (i * 6)).add 0 = a'.add (i * 6) := by simp [Addr.add]
      rw [show i * Try.prog.cellsOf 44 = i * 6 from rfl] at hc0 hc1 hc2 hc3 hc4 hc5
      rw [z0] at hc0
      exact ⟨q0, q1, q2, q3, q4, q5, ⟨by simpa using hc0, by simpa using hc1, by simpa using hc2, by simpa using hc3, by simpa using hc4, by simpa using hc5⟩, bounds_i64 w0, bounds_i64 w1, bounds_i64 w2, bounds_i64 w3, bounds_i64 w4, bounds_u64 w5⟩
    by_cases h0 : len = 0
    · subst h0
      exact ⟨some a', 0, cap, [], fun _ => (0, 0, 0, 0, 0, 0), rfl, RdW.nil_ _ _ _, fun i hi => by omega⟩
    · have hsp : a'.spot = none := by
        obtain ⟨_, _, _, _, _, _, ⟨hc, _⟩, _⟩ := key 0 (by omega)
        have : a'.add (0 * 6) = a' := by simp [Addr.add]
        rw [this] at hc
        unfold World.cell? at hc
        split at hc
        · split at hc
          · cases hc
          · rename_i hh; simpa using hh
        · cases hc
      obtain ⟨b, off, spot⟩ := a'
      simp only at hsp
      subst hsp
      have key2 : ∀ i, i < len → ∃ q0 q1 q2 q3 q4 q5, (W.cell? ⟨b, off + i * 6, none⟩ = some (.int .i64 q0) ∧ W.cell? ⟨b, off + (i * 6 + 1), none⟩ = some (.int .i64 q1) ∧ W.cell? ⟨b, off + (i * 6 + 2), none⟩ = some (.int .i64 q2) ∧ W.cell? ⟨b, off + (i * 6 + 3), none⟩ = some (.int .i64 q3) ∧ W.cell? ⟨b, off + (i * 6 + 4), none⟩ = some (.int .i64 q4) ∧ W.cell? ⟨b, off + (i * 6 + 5), none⟩ = some (.int .u64 q5)) ∧ b64 q0 ∧ b64 q1 ∧ b64 q2 ∧ b64 q3 ∧ b64 q4 ∧ u64 q5 := by
        intro i hi
        obtain ⟨q0, q1, q2, q3, q4, q5, ⟨g0, g1, g2, g3, g4, g5⟩, hB⟩ := key i hi
        simp only [add_at] at g0 g1 g2 g3 g4 g5
        exact ⟨q0, q1, q2, q3, q4, q5, ⟨g0, by rw [← Nat.add_assoc]; exact g1, by rw [← Nat.add_assoc]; exact g2, by rw [← Nat.add_assoc]; exact g3, by rw [← Nat.add_assoc]; exact g4, by rw [← Nat.add_assoc]; exact g5⟩, hB⟩
      let V : Nat → Value := fun k => (W.cell? ⟨b, off + k, none⟩).getD undef
      have hV : ∀ k, k < len * 6 → W.cell? ⟨b, off + k, none⟩ = some (V k) := by
        intro k hk
        obtain ⟨q0, q1, q2, q3, q4, q5, ⟨g0, g1, g2, g3, g4, g5⟩, _⟩ := key2 (k / 6) (by omega)
        have h4 : k = k / 6 * 6 ∨ k = k / 6 * 6 + 1 ∨ k = k / 6 * 6 + 2 ∨ k = k / 6 * 6 + 3 ∨ k = k / 6 * 6 + 4 ∨ k = k / 6 * 6 + 5 := by omega
        have : ∃ u, W.cell? ⟨b, off + k, none⟩ = some u := by
          rcases h4 with h4 | h4 | h4 | h4 | h4 | h4
          · rw [h4]; exact ⟨_, g0⟩
          · rw [h4]; exact ⟨_, g1⟩
          · rw [h4]; exact ⟨_, g2⟩
          · rw [h4]; exact ⟨_, g3⟩
          · rw [h4]; exact ⟨_, g4⟩
          · rw [h4]; exact ⟨_, g5⟩
        obtain ⟨u, hu⟩ := this
        show _ = some ((W.cell? ⟨b, off + k, none⟩).getD undef)
        rw [hu]; rfl
      have hlt : b < W.heap.size := cell_lt_ (hV 0 (by omega))
      have hg : ∀ k, k < len * 6 → ((List.range (len * 6)).map V)[k]? = some (V k) := by
        intro k hk
        rw [List.getElem?_map, List.getElem?_range hk]; rfl
      have hds : ∀ i : Nat, ∃ t : Int × Int × Int × Int × Int × Int, i < len → (W.cell? ⟨b, off + i * 6, none⟩ = some (.int .i64 t.1) ∧ W.cell? ⟨b, off + (i * 6 + 1), none⟩ = some (.int .i64 t.2.1) ∧ W.cell? ⟨b, off + (i * 6 + 2), none⟩ = some (.int .i64 t.2.2.1) ∧ W.cell? ⟨b, off + (i * 6 + 3), none⟩ = some (.int .i64 t.2.2.2.1) ∧ W.cell? ⟨b, off + (i * 6 + 4), none⟩ = some (.int .i64 t.2.2.2.2.1) ∧ W.cell? ⟨b, off + (i * 6 + 5), none⟩ = some (.int .u64 t.2.2.2.2.2)) ∧ b64 t.1 ∧ b64 t.2.1 ∧ b64 t.2.2.1 ∧ b64 t.2.2.2.1 ∧ b64 t.2.2.2.2.1 ∧ u64 t.2.2.2.2.2 := by
        intro i
        by_cases hi : i < len
        · obtain ⟨q0, q1, q2, q3, q4, q5, h⟩ := key2 i hi
          exact ⟨(q0, q1, q2, q3, q4, q5), fun _ => h⟩
        · exact ⟨(0, 0, 0, 0, 0, 0), fun h => absurd h hi⟩
      refine ⟨some ⟨b, off, none⟩, len, cap, (List.range (len * 6)).map V, fun i => Classical.choose (hds i), rfl, ⟨by simp, by simp only [maxLen] at hm; omega, fun _ => ⟨b, off, rfl, hlt, fun k u hu => ?_⟩⟩, fun i hi => ?_⟩
      · have hk : k < len * 6 := by
          rcases Nat.lt_or_ge k (len * 6) with h' | h'
          · exact h'
          · rw [List.getElem?_eq_none (by simpa using h')] at hu; cases hu
        rw [hg k hk] at hu
        rw [hV k hk]; exact hu
      · obtain ⟨⟨c0, c1, c2, c3, c4, c5⟩, hB⟩ := Classical.choose_spec (hds i) hi
        refine ⟨⟨?_, ?_, ?_, ?_, ?_, ?_⟩, hB⟩
        · rw [hg _ (by omega), ← hV _ (by omega)]; exact c0
        · rw [hg _ (by omega), ← hV _ (by omega)]; exact c1
        · rw [hg _ (by omega), ← hV _ (by omega)]; exact c2
        · rw [hg _ (by omega), ← hV _ (by omega)]; exact c3
        · rw [hg _ (by omega), ← hV _ (by omega)]; exact c4
        · rw [hg _ (by omega), ← hV _ (by omega)]; exact c5
end Go.Proofs.YtlbadnpgmkobdaaV
