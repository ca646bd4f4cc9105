/- Texts laid together: TermPlays: plain. An argument that is a deed, or a row of such, opened. Walks of functions of the program and of the document's texts. The conditions stand with each theorem. Terms that are made of ones ahead, of widths that fit: plain. Walks of functions of the program and of the document's texts. The conditions stand with each theorem. Walks of functions of the program and of the document's texts. The conditions stand with each theorem. A loop of so many rounds, each by itself. -/
import Derived.Test.YtlbadnpgmkobdaaD2
import Derived.Test.YtlbadnpgmkobdaaJTterm4x2
import Derived.WideShapes
import Derived.ProofKit
import Derived.OpenShut
import Derived.Deep.Slices
import Derived.Deep.Strs
import Derived.Lib.SmallJoins
import Derived.Test.YtlbadnpgmkobdaaJTterm4x1
import Derived.Test.YtlbadnpgmkobdaaProg
import Derived.Test.YtlbadnpgmkobdaaJTterm4x3
import Derived.Test.YtlbadnpgmkobdaaJTterm4x4
set_option linter.unusedVariables false
set_option linter.unusedSimpArgs false
namespace Go.Proofs.YtlbadnpgmkobdaaV
open Go Go.RowKit Go.Proofs
section
variable {ρ : Env} {w : World}
end
def ndF (N : List Nd) (x : Int) : Nd := if 0 ≤ x ∧ x < (N.length : Int) then nth N x.toNat else nd0
theorem ndF_out {N : List Nd} {x : Int} (h : ¬ (0 ≤ x ∧ x < (N.length : Int))) : ndF N x = nd0 := by unfold ndF; rw [if_neg h]
theorem node_ok (F : Nat → Prop) (p : Nat) (most : Int) (N : List Nd) (W : Value → Value → Prop) (ix : Int) (w : World) (hL : TLow F w p most N W) (hN : N.length ≤ 65536) :
  Ret Try.prog 14 [.pointer (some ⟨p, 0, none⟩), .int .i64 ix] w fun v w' => v = .tuple #[.agg #[.int .i64 (nO (ndF N ix)), .int .i64 (nW (ndF N ix)), .int .i64 (nA (ndF N ix)), .int .i64 (nB (ndF N ix)), .int .i64 (nC (ndF N ix)), .int .u64 (nV (ndF N ix))], .bool (isT N ix)] ∧ Tch N0 w w' := by
 by_cases h : 0 ≤ ix ∧ ix < (N.length : Int)
 ·
  have e : isT N ix = true := decide_eq_true h
  have e2 : ndF N ix = nth N ix.toNat := by unfold ndF; rw [if_pos h]
  rw [e, e2]; exact node_in F p most N W ix w hL hN h.1 h.2
 ·
  have e : isT N ix = false := decide_eq_false h
  rw [e, ndF_out h]; exact node_out F p most N W ix w hL hN h
end Go.Proofs.YtlbadnpgmkobdaaV

set_option linter.unusedVariables false
set_option linter.unusedSimpArgs false
namespace Go.Proofs.YtlbadnpgmkobdaaV
open Go Go.RowKit Go.Proofs Go.ChangeShapes Go.WideShapes Go.Deep Go.Joins
section
variable {H : Type} {enc : TypeId × Value → H} {P : Program} {w : World} {base : Nat} {spare : Nat → Bool} {held : Bool}
theorem trod_struct6 {t : TypeId} {f0 f1 f2 f3 f4 f5 : Field} {fuel : Nat} {cs : List Value} {x : DataW H × List MemPlace} (ht : P.underlying t = some (.struct #[f0, f1, f2, f3, f4, f5])) (h : DataW.trod enc P w base spare held fuel t cs = some x) :
  ∃ y0 y1 y2 y3 y4 y5 n, x = (.agg [y0.1, y1.1, y2.1, y3.1, y4.1, y5.1], y0.2 ++ (y1.2 ++ (y2.2 ++ (y3.2 ++ (y4.2 ++ y5.2))))) ∧ cs.length = P.cellsOf t ∧ DataW.trod enc P w base spare held n f0.type ((cs.drop f0.offset).take (P.cellsOf f0.type)) = some y0 ∧ DataW.trod enc P w base spare held n f1.type ((cs.drop f1.offset).take (P.cellsOf f1.type)) = some y1 ∧ DataW.trod enc P w base spare held n f2.type ((cs.drop f2.offset).take (P.cellsOf f2.type)) = some y2 ∧ DataW.trod enc P w base spare held n f3.type ((cs.drop f3.offset).take (P.cellsOf f3.type)) = some y3 ∧ DataW.trod enc P w base spare held n f4.type ((cs.drop f4.offset).take (P.cellsOf f4.type)) = some y4 ∧ DataW.trod enc P w base spare held n f5.type ((cs.drop f5.offset).take (P.cellsOf f5.type)) = some y5 := by
 obtain ⟨xs, n, _, rfl, hl, hlen, hf⟩ := DataW.trod_struct ht h
 match xs, hlen with
 | [y0, y1, y2, y3, y4, y5], _ => exact ⟨y0, y1, y2, y3, y4, y5, n, by simp, hl, by simpa using hf 0 f0 rfl, by simpa using hf 1 f1 rfl, by simpa using hf 2 f2 rfl, by simpa using hf 3 f3 rfl, by simpa using hf 4 f4 rfl, by simpa using hf 5 f5 rfl⟩
end
/-- A row of deeds: five whole numbers and a word each. -/
def Deeds6 (m : Nat) (cells : List Value) (ds : Nat → Int × Int × Int × Int × Int × Int) : Prop := ∀ i, i < m → (cells[i * 6]? = some (.int .i64 (ds i).1) ∧ cells[i * 6 + 1]? = some (.int .i64 (ds i).2.1) ∧ cells[i * 6 + 2]? = some (.int .i64 (ds i).2.2.1) ∧ cells[i * 6 + 3]? = some (.int .i64 (ds i).2.2.2.1) ∧ cells[i * 6 + 4]? = some (.int .i64 (ds i).2.2.2.2.1) ∧ cells[i * 6 + 5]? = some (.int .u64 (ds i).2.2.2.2.2)) ∧ b64 (ds i).1 ∧ b64 (ds i).2.1 ∧ b64 (ds i).2.2.1 ∧ b64 (ds i).2.2.2.1 ∧ b64 (ds i).2.2.2.2.1 ∧ u64 (ds i).2.2.2.2.2
theorem Deeds6.part {m : Nat} {cells : List Value} {ds : Nat → Int × Int × Int × Int × Int × Int} (h : Deeds6 m cells ds) {i : Nat} (hi : i < m) : ∀ k u, [Value.int .i64 (ds i).1, Value.int .i64 (ds i).2.1, Value.int .i64 (ds i).2.2.1, Value.int .i64 (ds i).2.2.2.1, Value.int .i64 (ds i).2.2.2.2.1, Value.int .u64 (ds i).2.2.2.2.2][k]? = some u → cells[i * 6 + k]? = some u := by
 obtain ⟨⟨h0, h1, h2, h3, h4, h5⟩, _⟩ := h i hi
 intro k u hk
 match k with
 | 0 => simp at hk; subst hk; exact h0
 | 1 => simp at hk; subst hk; exact h1
 | 2 => simp at hk; subst hk; exact h2
 | 3 => simp at hk; subst hk; exact h3
 | 4 => simp at hk; subst hk; exact h4
 | 5 => simp at hk; subst hk; exact h5
 | k + 6 => simp at hk
set_option maxRecDepth 100000 in
theorem open_deeds6 {H : Type} {enc : TypeId × Value → H} {W : World} {r : Reach} {b0 : Nat} {v : Value} {d : DataW H} {ps : List MemPlace} (hv : Value.okWide Try.prog W r b0 22 v) (h : DataW.Trod enc Try.prog W 0 (fun _ => true) true 22 v d ps) :
    ∃ L m cl cells ds, v = .slice L m cl ∧ RdW W 6 m L cells ∧ Deeds6 m cells ds := by
  obtain ⟨a, len, cap, rfl⟩ := okWide_slice Try.underlying22 hv
  obtain ⟨fuel, hf⟩ := h
  rcases open_slice Try.underlying22 hf with ⟨e, _⟩ | ⟨a', len', cap', m, n, D, Pl, e, hb, hl, hm, hmm, _, hx⟩
  · simp only [Value.cells] at e
    have e2 : Value.slice a len cap = .slice none 0 0 := by simpa using e
    injection e2 with e3 e4 e5
    subst e3 e4 e5
    exact ⟨none, 0, 0, [], fun _ => (0, 0, 0, 0, 0, 0), rfl, RdW.nil_ _ _ _, fun i hi => by omega⟩
  · simp only [Value.cells] at e
    have e2 : Value.slice a len cap = .slice (some a') len' cap' := by simpa using e
    injection e2 with e3 e4 e5
    subst e3 e4 e5
    have hlm : len ≤ m := by rw [hmm]; simp; exact hl
    have key : ∀ i, i < len → ∃ q0 q1 q2 q3 q4 q5, (W.cell? (a'.add (i * 6)) = some (.int .i64 q0) ∧ W.cell? ((a'.add (i * 6)).add 1) = some (.int .i64 q1) ∧ W.cell? ((a'.add (i * 6)).add 2) = some (.int .i64 q2) ∧ W.cell? ((a'.add (i * 6)).add 3) = some (.int .i64 q3) ∧ W.cell? ((a'.add (i * 6)).add 4) = some (.int .i64 q4) ∧ W.cell? ((a'.add (i * 6)).add 5) = some (.int .u64 q5)) ∧ b64 q0 ∧ b64 q1 ∧ b64 q2 ∧ b64 q3 ∧ b64 q4 ∧ u64 q5 := by
      intro i hi
      obtain ⟨cs, h1, h2⟩ := hx i (by omega)
      obtain ⟨_, hcl, hc⟩ := World.cells?_some h1
      obtain ⟨y0, y1, y2, y3, y4, y5, k, _, _, t0, t1, t2, t3, t4, t5⟩ := trod_struct6 Try.underlying44 h2
      have hcl6 : cs.length = 6 := hcl
      obtain ⟨c0, c1, c2, c3, c4, c5, rfl⟩ : ∃ c0 c1 c2 c3 c4 c5, cs = [c0, c1, c2, c3, c4, c5] := by
        match cs, hcl6 with
        | [c0, c1, c2, c3, c4, c5], _ => exact ⟨c0, c1, c2, c3, c4, c5, rfl⟩
      obtain ⟨q0, e0, _, w0⟩ := DataW.trod_int Try.underlying3 t0
      have e0' : [c0] = [Value.int .i64 q0] := e0
      injection e0' with e0'
      subst e0'
      obtain ⟨q1, e1, _, w1⟩ := DataW.trod_int Try.underlying3 t1
      have e1' : [c1] = [Value.int .i64 q1] := e1
      injection e1' with e1'
      subst e1'
      obtain ⟨q2, e2, _, w2⟩ := DataW.trod_int Try.underlying3 t2
      have e2' : [c2] = [Value.int .i64 q2] := e2
      injection e2' with e2'
      subst e2'
      obtain ⟨q3, e3, _, w3⟩ := DataW.trod_int Try.underlying3 t3
      have e3' : [c3] = [Value.int .i64 q3] := e3
      injection e3' with e3'
      subst e3'
      obtain ⟨q4, e4, _, w4⟩ := DataW.trod_int Try.underlying3 t4
      have e4' : [c4] = [Value.int .i64 q4] := e4
      injection e4' with e4'
      subst e4'
      obtain ⟨q5, e5, _, w5⟩ := DataW.trod_int Try.underlying30 t5
      have e5' : [c5] = [Value.int .u64 q5] := e5
      injection e5' with e5'
      subst e5'
      have hc0 := hc 0 (by show 0 < 6; omega)
      have hc1 := hc 1 (by show 1 < 6; omega)
      have hc2 := hc 2 (by show 2 < 6; omega)
      have hc3 := hc 3 (by show 3 < 6; omega)
      have hc4 := hc 4 (by show 4 < 6; omega)
      have hc5 := hc 5 (by show 5 < 6; omega)
      have z0 : (a'.add (i * 6)).add 0 = a'.add (i * 6) := by simp [Addr.add]
      rw [show i * Try.prog.cellsOf 44 = i * 6 from rfl] at hc0 hc1 hc2 hc3 hc4 hc5
      rw [z0] at hc0
      exact ⟨q0, q1, q2, q3, q4, q5, ⟨by simpa using hc0, by simpa using hc1, by simpa using hc2, by simpa using hc3, by simpa using hc4, by simpa using hc5⟩, bounds_i64 w0, bounds_i64 w1, bounds_i64 w2, bounds_i64 w3, bounds_i64 w4, bounds_u64 w5⟩
    by_cases h0 : len = 0
    · subst h0
      exact ⟨some a', 0, cap, [], fun _ => (0, 0, 0, 0, 0, 0), rfl, RdW.nil_ _ _ _, fun i hi => by omega⟩
    · have hsp : a'.spot = none := by
        obtain ⟨_, _, _, _, _, _, ⟨hc, _⟩, _⟩ := key 0 (by omega)
        have : a'.add (0 * 6) = a' := by simp [Addr.add]
        rw [this] at hc
        unfold World.cell? at hc
        split at hc
        · split at hc
          · cases hc
          · rename_i hh; simpa using hh
        · cases hc
      obtain ⟨b, off, spot⟩ := a'
      simp only at hsp
      subst hsp
      have key2 : ∀ i, i < len → ∃ q0 q1 q2 q3 q4 q5, (W.cell? ⟨b, off + i * 6, none⟩ = some (.int .i64 q0) ∧ W.cell? ⟨b, off + (i * 6 + 1), none⟩ = some (.int .i64 q1) ∧ W.cell? ⟨b, off + (i * 6 + 2), none⟩ = some (.int .i64 q2) ∧ W.cell? ⟨b, off + (i * 6 + 3), none⟩ = some (.int .i64 q3) ∧ W.cell? ⟨b, off + (i * 6 + 4), none⟩ = some (.int .i64 q4) ∧ W.cell? ⟨b, off + (i * 6 + 5), none⟩ = some (.int .u64 q5)) ∧ b64 q0 ∧ b64 q1 ∧ b64 q2 ∧ b64 q3 ∧ b64 q4 ∧ u64 q5 := by
        intro i hi
        obtain ⟨q0, q1, q2, q3, q4, q5, ⟨g0, g1, g2, g3, g4, g5⟩, hB⟩ := key i hi
        simp only [add_at] at g0 g1 g2 g3 g4 g5
        exact ⟨q0, q1, q2, q3, q4, q5, ⟨g0, by rw [← Nat.add_assoc]; exact g1, by rw [← Nat.add_assoc]; exact g2, by rw [← Nat.add_assoc]; exact g3, by rw [← Nat.add_assoc]; exact g4, by rw [← Nat.add_assoc]; exact g5⟩, hB⟩
      let V : Nat → Value := fun k => (W.cell? ⟨b, off + k, none⟩).getD undef
      have hV : ∀ k, k < len * 6 → W.cell? ⟨b, off + k, none⟩ = some (V k) := by
        intro k hk
        obtain ⟨q0, q1, q2, q3, q4, q5, ⟨g0, g1, g2, g3, g4, g5⟩, _⟩ := key2 (k / 6) (by omega)
        have h4 : k = k / 6 * 6 ∨ k = k / 6 * 6 + 1 ∨ k = k / 6 * 6 + 2 ∨ k = k / 6 * 6 + 3 ∨ k = k / 6 * 6 + 4 ∨ k = k / 6 * 6 + 5 := by omega
        have : ∃ u, W.cell? ⟨b, off + k, none⟩ = some u := by
          rcases h4 with h4 | h4 | h4 | h4 | h4 | h4
          · rw [h4]; exact ⟨_, g0⟩
          · rw [h4]; exact ⟨_, g1⟩
          · rw [h4]; exact ⟨_, g2⟩
          · rw [h4]; exact ⟨_, g3⟩
          · rw [h4]; exact ⟨_, g4⟩
          · rw [h4]; exact ⟨_, g5⟩
        obtain ⟨u, hu⟩ := this
        show _ = some ((W.cell? ⟨b, off + k, none⟩).getD undef)
        rw [hu]; rfl
      have hlt : b < W.heap.size := cell_lt_ (hV 0 (by omega))
      have hg : ∀ k, k < len * 6 → ((List.range (len * 6)).map V)[k]? = some (V k) := by
        intro k hk
        rw [List.getElem?_map, List.getElem?_range hk]; rfl
      have hds : ∀ i : Nat, ∃ t : Int × Int × Int × Int × Int × Int, i < len → (W.cell? ⟨b, off + i * 6, none⟩ = some (.int .i64 t.1) ∧ W.cell? ⟨b, off + (i * 6 + 1), none⟩ = some (.int .i64 t.2.1) ∧ W.cell? ⟨b, off + (i * 6 + 2), none⟩ = some (.int .i64 t.2.2.1) ∧ W.cell? ⟨b, off + (i * 6 + 3), none⟩ = some (.int .i64 t.2.2.2.1) ∧ W.cell? ⟨b, off + (i * 6 + 4), none⟩ = some (.int .i64 t.2.2.2.2.1) ∧ W.cell? ⟨b, off + (i * 6 + 5), none⟩ = some (.int .u64 t.2.2.2.2.2)) ∧ b64 t.1 ∧ b64 t.2.1 ∧ b64 t.2.2.1 ∧ b64 t.2.2.2.1 ∧ b64 t.2.2.2.2.1 ∧ u64 t.2.2.2.2.2 := by
        intro i
        by_cases hi : i < len
        · obtain ⟨q0, q1, q2, q3, q4, q5, h⟩ := key2 i hi
          exact ⟨(q0, q1, q2, q3, q4, q5), fun _ => h⟩
        · exact ⟨(0, 0, 0, 0, 0, 0), fun h => absurd h hi⟩
      refine ⟨some ⟨b, off, none⟩, len, cap, (List.range (len * 6)).map V, fun i => Classical.choose (hds i), rfl, ⟨by simp, by simp only [maxLen] at hm; omega, fun _ => ⟨b, off, rfl, hlt, fun k u hu => ?_⟩⟩, fun i hi => ?_⟩
      · have hk : k < len * 6 := by
          rcases Nat.lt_or_ge k (len * 6) with h' | h'
          · exact h'
          · rw [List.getElem?_eq_none (by simpa using h')] at hu; cases hu
        rw [hg k hk] at hu
        rw [hV k hk]; exact hu
      · obtain ⟨⟨c0, c1, c2, c3, c4, c5⟩, hB⟩ := Classical.choose_spec (hds i) hi
        refine ⟨⟨?_, ?_, ?_, ?_, ?_, ?_⟩, hB⟩
        · rw [hg _ (by omega), ← hV _ (by omega)]; exact c0
        · rw [hg _ (by omega), ← hV _ (by omega)]; exact c1
        · rw [hg _ (by omega), ← hV _ (by omega)]; exact c2
        · rw [hg _ (by omega), ← hV _ (by omega)]; exact c3
        · rw [hg _ (by omega), ← hV _ (by omega)]; exact c4
        · rw [hg _ (by omega), ← hV _ (by omega)]; exact c5
end Go.Proofs.YtlbadnpgmkobdaaV

set_option linter.unusedVariables false
set_option linter.unusedSimpArgs false
namespace Go.Proofs.YtlbadnpgmkobdaaV
open Go Go.RowKit Go.Proofs

set_option maxRecDepth 100000 in
theorem meant_ok (A : Option Addr) (cp : Nat) (most : Int) (N : List Nd) (k wd a b c x : Int) (w : World) (hD : Own w 0 32 6 (.slice A N.length cp) N.length (ncs N)) (hJ : TJ N most) (hk : b64 k) (hwd : b64 wd) (ha : b64 a) (hb : b64 b) (hc : b64 c) (hx : u64 x) : Ret Try.prog 43 [.agg #[.slice A N.length cp, .int .i64 most], .agg #[.int .i64 k, .int .i64 wd, .int .i64 a, .int .i64 b, .int .i64 c, .int .u64 x]] w fun v w' => DRet A cp most N w (madeF N most k wd a b c x) v w' := by
 refine enter Try.func43 rfl rfl ?_
 refine zQ ?_
 refine st (by rfl) (S_new (v := .pointer (some ⟨w.heap.size, 0, none⟩)) (ob := .cells #[.slice A N.length cp, .int .i64 most] 27) (by kernel_rfl) fun w1 hT2 hs3 hB4 => ?_)
 replace hB4 : Blk w1 (w.heap.size) 27 [.slice A N.length cp, .int .i64 most] := hB4
 have hT0 := hT2
 have hD := hD.tch0 hT2
 have z9 := hT0.size
 have l10 := hB4.lt
 refine st (by rfl) (S_new (v := .pointer (some ⟨w1.heap.size, 0, none⟩)) (ob := .cells #[.int .i64 k, .int .i64 wd, .int .i64 a, .int .i64 b, .int .i64 c, .int .u64 x] 44) (by kernel_rfl) fun w5 hT6 hs7 hB8 => ?_)
 replace hB8 : Blk w5 (w1.heap.size) 44 [.int .i64 k, .int .i64 wd, .int .i64 a, .int .i64 b, .int .i64 c, .int .u64 x] := hB8
 have hT0 := hT0.t0 hT6
 have hD := hD.tch0 hT6
 have hB4 := hB4.tch0 hT6
 have z15 := hT0.size
 have l16 := hB4.lt
 have l17 := hB8.lt
 refine st (by rfl) (S_new (v := .pointer (some ⟨w5.heap.size, 0, none⟩)) (ob := .cells #[.slice none 0 0, .int .i64 0] 27) (by kernel_rfl) fun w11 hT12 hs13 hB14 => ?_)
 replace hB14 : Blk w11 (w5.heap.size) 27 [.slice none 0 0, .int .i64 0] := hB14
 have hT0 := hT0.t0 hT12
 have hD := hD.tch0 hT12
 have hB4 := hB4.tch0 hT12
 have hB8 := hB8.tch0 hT12
 refine zS [(5, .int .i64 0), (6, .int .i64 0)] ?_
 refine op_nil ?_
 refine W_seq ?_
 refine zQ ?_
 refine zS [(7, .pointer (some ⟨w1.heap.size, 0, none⟩))] ?_
 refine zL (.int .i64 k) ((hB8.cell 0).trans rfl) ?_
 refine op_nil ?_
 refine W_block ?_
 refine zQ ?_
 refine zS [(10, .bool (k == 0)), (9, .bool (k == 0))] ?_
 refine zO (k == 0) (fun hc18 => ?_) (fun hc18 => ?_)
 ·
  replace hc18 : k = 0 := (eq_of_beq hc18)
  refine W_seq ?_
  refine zF [(0, .agg #[.slice A N.length cp, .int .i64 most]), (1, .agg #[.int .i64 k, .int .i64 wd, .int .i64 a, .int .i64 b, .int .i64 c, .int .u64 x]), (2, .pointer (some ⟨w.heap.size, 0, none⟩)), (3, .pointer (some ⟨w1.heap.size, 0, none⟩)), (4, .pointer (some ⟨w5.heap.size, 0, none⟩)), (5, .int .i64 0), (6, .int .i64 0), (8, .int .i64 k), (9, .bool (k == 0))] fun ρ => ?_
  refine zR ?_
  refine st (by rfl) (S_val (v := .agg #[.slice A N.length cp, .int .i64 most]) (R_loadA [.slice A N.length cp, .int .i64 most] (by kernel_rfl) (by kernel_rfl) (by kernel_rfl) (fun k u hk => by rw [hB4.cell]; exact get_part _ 0 _ k u rfl hk)) ?_)
  refine zS [(12, .pointer (some ⟨w1.heap.size, 1, none⟩))] ?_
  refine zL (.int .i64 wd) ((hB8.cell 1).trans rfl) ?_
  refine zS [(14, .pointer (some ⟨w1.heap.size, 5, none⟩))] ?_
  refine zL (.int .u64 x) ((hB8.cell 5).trans rfl) ?_
  have hzr := hT0.size
  refine zC (rcst_ok A cp most N wd x _ hD hJ (by assumption) (by assumption)) ?_
  rintro _ w19 ⟨A20, cp21, rfl, hD24, hw22, hT23⟩
  have hT0 := hT0.t0 hT23
  have hD := hD.tch0 hT23
  have hB4 := hB4.tch0 hT23
  have hB8 := hB8.tch0 hT23
  have hB14 := hB14.tch0 hT23
  refine zS [(17, .agg #[.slice A20 (((constF N most wd x).2.2).length) cp21, .int .i64 most]), (18, .int .i64 ((constF N most wd x).1)), (19, .int .i64 ((constF N most wd x).2.1))] ?_
  refine st (by rfl) (S_storeA (b := w5.heap.size) (j := 0) (cs := [.slice A20 (((constF N most wd x).2.2).length) cp21, .int .i64 most]) (by kernel_rfl) (by kernel_rfl) (by kernel_rfl) (by simp [oneV]) hB14 (by simp) fun w25 hT26 hs27 hB14' => ?_)
  have hT0 := (hT0).then hT26 (fun c e => by have : c = w5.heap.size := e; omega)
  have hD := hD.tch hT26 (fun c hc e => hD.blk_ne hB14 (by decide) c hc e)
  have hB4 := hB4.tch hT26 (fun e => by have : w.heap.size = w5.heap.size := e; omega)
  have hB8 := hB8.tch hT26 (hB8.ne hB14 (by decide))
  have hD24 := hD24.tch hT26 (fun c hc e => hD24.blk_ne hB14 (by decide) c hc e)
  replace hB14 : Blk w25 w5.heap.size 27 [.slice A20 (((constF N most wd x).2.2).length) cp21, .int .i64 most] := hB14'
  refine zS [(5, .int .i64 ((constF N most wd x).1)), (6, .int .i64 ((constF N most wd x).2.1))] ?_
  refine op_nil ?_
  refine W_ret ?_
  refine ⟨_, Res_cell2 (b := w5.heap.size) (cs := [.slice A20 (((constF N most wd x).2.2).length) cp21, .int .i64 most]) (by rfl) (by kernel_rfl) (by kernel_rfl) (by kernel_rfl) (by kernel_rfl) hB14 (by kernel_rfl) (by kernel_rfl), ?_⟩
  have e : madeF N most k wd a b c x = constF N most wd x := by unfold madeF; rw [if_pos (by omega)]
  rw [e]
  exact ⟨A20, cp21, rfl, hD24, fun c h => (hw22 c h).imp id (fun q => Nat.le_trans hzr q), hT0⟩
 ·
  replace hc18 : k ≠ 0 := (ne_of_beq_false hc18)
  refine W_seq ?_
  refine zF [(0, .agg #[.slice A N.length cp, .int .i64 most]), (1, .agg #[.int .i64 k, .int .i64 wd, .int .i64 a, .int .i64 b, .int .i64 c, .int .u64 x]), (2, .pointer (some ⟨w.heap.size, 0, none⟩)), (3, .pointer (some ⟨w1.heap.size, 0, none⟩)), (4, .pointer (some ⟨w5.heap.size, 0, none⟩)), (5, .int .i64 0), (6, .int .i64 0), (8, .int .i64 k), (9, .bool (k == 0))] fun ρ => ?_
  refine zR ?_
  refine zS [(21, .bool (k == 1)), (20, .bool (k == 1))] ?_
  refine zO (k == 1) (fun hc28 => ?_) (fun hc28 => ?_)
  ·
   replace hc28 : k = 1 := (eq_of_beq hc28)
   refine zQ ?_
   refine st (by rfl) (S_val (v := .agg #[.slice A N.length cp, .int .i64 most]) (R_loadA [.slice A N.length cp, .int .i64 most] (by kernel_rfl) (by kernel_rfl) (by kernel_rfl) (fun k u hk => by rw [hB4.cell]; exact get_part _ 0 _ k u rfl hk)) ?_)
   refine zS [(23, .pointer (some ⟨w1.heap.size, 1, none⟩))] ?_
   refine zL (.int .i64 wd) ((hB8.cell 1).trans rfl) ?_
   refine zS [(25, .pointer (some ⟨w1.heap.size, 2, none⟩))] ?_
   refine zL (.int .i64 a) ((hB8.cell 2).trans rfl) ?_
   have hzr := hT0.size
   refine zC (rvar_ok A cp most N wd a _ hD hJ (by assumption) (by assumption)) ?_
   rintro _ w29 ⟨A30, cp31, rfl, hD34, hw32, hT33⟩
   have hT0 := hT0.t0 hT33
   have hD := hD.tch0 hT33
   have hB4 := hB4.tch0 hT33
   have hB8 := hB8.tch0 hT33
   have hB14 := hB14.tch0 hT33
   refine zS [(28, .agg #[.slice A30 (((varF N most wd a).2.2).length) cp31, .int .i64 most]), (29, .int .i64 ((varF N most wd a).1)), (30, .int .i64 ((varF N most wd a).2.1))] ?_
   refine st (by rfl) (S_storeA (b := w5.heap.size) (j := 0) (cs := [.slice A30 (((varF N most wd a).2.2).length) cp31, .int .i64 most]) (by kernel_rfl) (by kernel_rfl) (by kernel_rfl) (by simp [oneV]) hB14 (by simp) fun w35 hT36 hs37 hB14' => ?_)
   have hT0 := (hT0).then hT36 (fun c e => by have : c = w5.heap.size := e; omega)
   have hD := hD.tch hT36 (fun c hc e => hD.blk_ne hB14 (by decide) c hc e)
   have hB4 := hB4.tch hT36 (fun e => by have : w.heap.size = w5.heap.size := e; omega)
   have hB8 := hB8.tch hT36 (hB8.ne hB14 (by decide))
   have hD34 := hD34.tch hT36 (fun c hc e => hD34.blk_ne hB14 (by decide) c hc e)
   replace hB14 : Blk w35 w5.heap.size 27 [.slice A30 (((varF N most wd a).2.2).length) cp31, .int .i64 most] := hB14'
   refine zS [(5, .int .i64 ((varF N most wd a).1)), (6, .int .i64 ((varF N most wd a).2.1))] ?_
   refine op_nil ?_
   refine W_ret ?_
   refine ⟨_, Res_cell2 (b := w5.heap.size) (cs := [.slice A30 (((varF N most wd a).2.2).length) cp31, .int .i64 most]) (by rfl) (by kernel_rfl) (by kernel_rfl) (by kernel_rfl) (by kernel_rfl) hB14 (by kernel_rfl) (by kernel_rfl), ?_⟩
   have e : madeF N most k wd a b c x = varF N most wd a := by unfold madeF; rw [if_neg (by omega), if_pos (by omega)]
   rw [e]
   exact ⟨A30, cp31, rfl, hD34, fun c h => (hw32 c h).imp id (fun q => Nat.le_trans hzr q), hT0⟩
  ·
   replace hc28 : k ≠ 1 := (ne_of_beq_false hc28)
   refine zQ ?_
   refine zS [(32, .bool (k == 2)), (31, .bool (k == 2))] ?_
   refine zO (k == 2) (fun hc38 => ?_) (fun hc38 => ?_)
   ·
    replace hc38 : k = 2 := (eq_of_beq hc38)
    refine zQ ?_
    refine st (by rfl) (S_val (v := .agg #[.slice A N.length cp, .int .i64 most]) (R_loadA [.slice A N.length cp, .int .i64 most] (by kernel_rfl) (by kernel_rfl) (by kernel_rfl) (fun k u hk => by rw [hB4.cell]; exact get_part _ 0 _ k u rfl hk)) ?_)
    refine zS [(34, .pointer (some ⟨w1.heap.size, 2, none⟩))] ?_
    refine zL (.int .i64 a) ((hB8.cell 2).trans rfl) ?_
    refine zS [(36, .pointer (some ⟨w1.heap.size, 3, none⟩))] ?_
    refine zL (.int .i64 b) ((hB8.cell 3).trans rfl) ?_
    have hzr := hT0.size
    refine zC (runa_ok A cp most N a b _ hD hJ (by assumption) (by assumption)) ?_
    rintro _ w39 ⟨A40, cp41, rfl, hD44, hw42, hT43⟩
    have hT0 := hT0.t0 hT43
    have hD := hD.tch0 hT43
    have hB4 := hB4.tch0 hT43
    have hB8 := hB8.tch0 hT43
    have hB14 := hB14.tch0 hT43
    refine zS [(39, .agg #[.slice A40 (((unaF N most a b).2.2).length) cp41, .int .i64 most]), (40, .int .i64 ((unaF N most a b).1)), (41, .int .i64 ((unaF N most a b).2.1))] ?_
    refine st (by rfl) (S_storeA (b := w5.heap.size) (j := 0) (cs := [.slice A40 (((unaF N most a b).2.2).length) cp41, .int .i64 most]) (by kernel_rfl) (by kernel_rfl) (by kernel_rfl) (by simp [oneV]) hB14 (by simp) fun w45 hT46 hs47 hB14' => ?_)
    have hT0 := (hT0).then hT46 (fun c e => by have : c = w5.heap.size := e; omega)
    have hD := hD.tch hT46 (fun c hc e => hD.blk_ne hB14 (by decide) c hc e)
    have hB4 := hB4.tch hT46 (fun e => by have : w.heap.size = w5.heap.size := e; omega)
    have hB8 := hB8.tch hT46 (hB8.ne hB14 (by decide))
    have hD44 := hD44.tch hT46 (fun c hc e => hD44.blk_ne hB14 (by decide) c hc e)
    replace hB14 : Blk w45 w5.heap.size 27 [.slice A40 (((unaF N most a b).2.2).length) cp41, .int .i64 most] := hB14'
    refine zS [(5, .int .i64 ((unaF N most a b).1)), (6, .int .i64 ((unaF N most a b).2.1))] ?_
    refine op_nil ?_
    refine W_ret ?_
    refine ⟨_, Res_cell2 (b := w5.heap.size) (cs := [.slice A40 (((unaF N most a b).2.2).length) cp41, .int .i64 most]) (by rfl) (by kernel_rfl) (by kernel_rfl) (by kernel_rfl) (by kernel_rfl) hB14 (by kernel_rfl) (by kernel_rfl), ?_⟩
    have e : madeF N most k wd a b c x = unaF N most a b := by unfold madeF; rw [if_neg (by omega), if_neg (by omega), if_pos (by omega)]
    rw [e]
    exact ⟨A40, cp41, rfl, hD44, fun c h => (hw42 c h).imp id (fun q => Nat.le_trans hzr q), hT0⟩
   ·
    replace hc38 : k ≠ 2 := (ne_of_beq_false hc38)
    refine zQ ?_
    refine zS [(43, .bool (k == 3)), (42, .bool (k == 3))] ?_
    refine zO (k == 3) (fun hc48 => ?_) (fun hc48 => ?_)
    ·
     replace hc48 : k = 3 := (eq_of_beq hc48)
     refine zQ ?_
     refine st (by rfl) (S_val (v := .agg #[.slice A N.length cp, .int .i64 most]) (R_loadA [.slice A N.length cp, .int .i64 most] (by kernel_rfl) (by kernel_rfl) (by kernel_rfl) (fun k u hk => by rw [hB4.cell]; exact get_part _ 0 _ k u rfl hk)) ?_)
     refine zS [(45, .pointer (some ⟨w1.heap.size, 2, none⟩))] ?_
     refine zL (.int .i64 a) ((hB8.cell 2).trans rfl) ?_
     refine zS [(47, .pointer (some ⟨w1.heap.size, 3, none⟩))] ?_
     refine zL (.int .i64 b) ((hB8.cell 3).trans rfl) ?_
     refine zS [(49, .pointer (some ⟨w1.heap.size, 4, none⟩))] ?_
     refine zL (.int .i64 c) ((hB8.cell 4).trans rfl) ?_
     have hzr := hT0.size
     refine zC (rbin_ok A cp most N a b c _ hD hJ (by assumption) (by assumption) (by assumption)) ?_
     rintro _ w49 ⟨A50, cp51, rfl, hD54, hw52, hT53⟩
     have hT0 := hT0.t0 hT53
     have hD := hD.tch0 hT53
     have hB4 := hB4.tch0 hT53
     have hB8 := hB8.tch0 hT53
     have hB14 := hB14.tch0 hT53
     refine zS [(52, .agg #[.slice A50 (((binF N most a b c).2.2).length) cp51, .int .i64 most]), (53, .int .i64 ((binF N most a b c).1)), (54, .int .i64 ((binF N most a b c).2.1))] ?_
     refine st (by rfl) (S_storeA (b := w5.heap.size) (j := 0) (cs := [.slice A50 (((binF N most a b c).2.2).length) cp51, .int .i64 most]) (by kernel_rfl) (by kernel_rfl) (by kernel_rfl) (by simp [oneV]) hB14 (by simp) fun w55 hT56 hs57 hB14' => ?_)
     have hT0 := (hT0).then hT56 (fun c e => by have : c = w5.heap.size := e; omega)
     have hD := hD.tch hT56 (fun c hc e => hD.blk_ne hB14 (by decide) c hc e)
     have hB4 := hB4.tch hT56 (fun e => by have : w.heap.size = w5.heap.size := e; omega)
     have hB8 := hB8.tch hT56 (hB8.ne hB14 (by decide))
     have hD54 := hD54.tch hT56 (fun c hc e => hD54.blk_ne hB14 (by decide) c hc e)
     replace hB14 : Blk w55 w5.heap.size 27 [.slice A50 (((binF N most a b c).2.2).length) cp51, .int .i64 most] := hB14'
     refine zS [(5, .int .i64 ((binF N most a b c).1)), (6, .int .i64 ((binF N most a b c).2.1))] ?_
     refine op_nil ?_
     refine W_ret ?_
     refine ⟨_, Res_cell2 (b := w5.heap.size) (cs := [.slice A50 (((binF N most a b c).2.2).length) cp51, .int .i64 most]) (by rfl) (by kernel_rfl) (by kernel_rfl) (by kernel_rfl) (by kernel_rfl) hB14 (by kernel_rfl) (by kernel_rfl), ?_⟩
     have e : madeF N most k wd a b c x = binF N most a b c := by unfold madeF; rw [if_neg (by omega), if_neg (by omega), if_neg (by omega), if_pos (by omega)]
     rw [e]
     exact ⟨A50, cp51, rfl, hD54, fun c h => (hw52 c h).imp id (fun q => Nat.le_trans hzr q), hT0⟩
    ·
     replace hc48 : k ≠ 3 := (ne_of_beq_false hc48)
     refine zQ ?_
     refine zS [(56, .bool (k == 4)), (55, .bool (k == 4))] ?_
     refine zO (k == 4) (fun hc58 => ?_) (fun hc58 => ?_)
     ·
      replace hc58 : k = 4 := (eq_of_beq hc58)
      refine W_seq ?_
      refine zF [(0, .agg #[.slice A N.length cp, .int .i64 most]), (1, .agg #[.int .i64 k, .int .i64 wd, .int .i64 a, .int .i64 b, .int .i64 c, .int .u64 x]), (2, .pointer (some ⟨w.heap.size, 0, none⟩)), (3, .pointer (some ⟨w1.heap.size, 0, none⟩)), (4, .pointer (some ⟨w5.heap.size, 0, none⟩)), (5, .int .i64 0), (6, .int .i64 0), (8, .int .i64 k), (9, .bool (k == 0)), (20, .bool (k == 1)), (31, .bool (k == 2)), (42, .bool (k == 3)), (55, .bool (k == 4))] fun ρ => ?_
      refine zR ?_
      refine st (by rfl) (S_val (v := .agg #[.slice A N.length cp, .int .i64 most]) (R_loadA [.slice A N.length cp, .int .i64 most] (by kernel_rfl) (by kernel_rfl) (by kernel_rfl) (fun k u hk => by rw [hB4.cell]; exact get_part _ 0 _ k u rfl hk)) ?_)
      refine zS [(58, .pointer (some ⟨w1.heap.size, 2, none⟩))] ?_
      refine zL (.int .i64 a) ((hB8.cell 2).trans rfl) ?_
      refine zS [(60, .pointer (some ⟨w1.heap.size, 3, none⟩))] ?_
      refine zL (.int .i64 b) ((hB8.cell 3).trans rfl) ?_
      refine zS [(62, .pointer (some ⟨w1.heap.size, 4, none⟩))] ?_
      refine zL (.int .i64 c) ((hB8.cell 4).trans rfl) ?_
      have hzr := hT0.size
      refine zC (rite_ok A cp most N a b c _ hD hJ (by assumption) (by assumption) (by assumption)) ?_
      rintro _ w59 ⟨A60, cp61, rfl, hD64, hw62, hT63⟩
      have hT0 := hT0.t0 hT63
      have hD := hD.tch0 hT63
      have hB4 := hB4.tch0 hT63
      have hB8 := hB8.tch0 hT63
      have hB14 := hB14.tch0 hT63
      refine zS [(65, .agg #[.slice A60 (((iteF N most a b c).2.2).length) cp61, .int .i64 most]), (66, .int .i64 ((iteF N most a b c).1)), (67, .int .i64 ((iteF N most a b c).2.1))] ?_
      refine st (by rfl) (S_storeA (b := w5.heap.size) (j := 0) (cs := [.slice A60 (((iteF N most a b c).2.2).length) cp61, .int .i64 most]) (by kernel_rfl) (by kernel_rfl) (by kernel_rfl) (by simp [oneV]) hB14 (by simp) fun w65 hT66 hs67 hB14' => ?_)
      have hT0 := (hT0).then hT66 (fun c e => by have : c = w5.heap.size := e; omega)
      have hD := hD.tch hT66 (fun c hc e => hD.blk_ne hB14 (by decide) c hc e)
      have hB4 := hB4.tch hT66 (fun e => by have : w.heap.size = w5.heap.size := e; omega)
      have hB8 := hB8.tch hT66 (hB8.ne hB14 (by decide))
      have hD64 := hD64.tch hT66 (fun c hc e => hD64.blk_ne hB14 (by decide) c hc e)
      replace hB14 : Blk w65 w5.heap.size 27 [.slice A60 (((iteF N most a b c).2.2).length) cp61, .int .i64 most] := hB14'
      refine zS [(5, .int .i64 ((iteF N most a b c).1)), (6, .int .i64 ((iteF N most a b c).2.1))] ?_
      refine op_nil ?_
      refine W_ret ?_
      refine ⟨_, Res_cell2 (b := w5.heap.size) (cs := [.slice A60 (((iteF N most a b c).2.2).length) cp61, .int .i64 most]) (by rfl) (by kernel_rfl) (by kernel_rfl) (by kernel_rfl) (by kernel_rfl) hB14 (by kernel_rfl) (by kernel_rfl), ?_⟩
      have e : madeF N most k wd a b c x = iteF N most a b c := by unfold madeF; rw [if_neg (by omega), if_neg (by omega), if_neg (by omega), if_neg (by omega), if_pos (by omega)]
      rw [e]
      exact ⟨A60, cp61, rfl, hD64, fun c h => (hw62 c h).imp id (fun q => Nat.le_trans hzr q), hT0⟩
     ·
      replace hc58 : k ≠ 4 := (ne_of_beq_false hc58)
      refine W_seq ?_
      refine zF [(0, .agg #[.slice A N.length cp, .int .i64 most]), (1, .agg #[.int .i64 k, .int .i64 wd, .int .i64 a, .int .i64 b, .int .i64 c, .int .u64 x]), (2, .pointer (some ⟨w.heap.size, 0, none⟩)), (3, .pointer (some ⟨w1.heap.size, 0, none⟩)), (4, .pointer (some ⟨w5.heap.size, 0, none⟩)), (5, .int .i64 0), (6, .int .i64 0), (8, .int .i64 k), (9, .bool (k == 0)), (20, .bool (k == 1)), (31, .bool (k == 2)), (42, .bool (k == 3)), (55, .bool (k == 4))] fun ρ => ?_
      refine zR ?_
      refine zS [(69, .bool (k == 5)), (68, .bool (k == 5))] ?_
      refine zO (k == 5) (fun hc68 => ?_) (fun hc68 => ?_)
      ·
       replace hc68 : k = 5 := (eq_of_beq hc68)
       refine zQ ?_
       refine st (by rfl) (S_val (v := .agg #[.slice A N.length cp, .int .i64 most]) (R_loadA [.slice A N.length cp, .int .i64 most] (by kernel_rfl) (by kernel_rfl) (by kernel_rfl) (fun k u hk => by rw [hB4.cell]; exact get_part _ 0 _ k u rfl hk)) ?_)
       refine zS [(71, .pointer (some ⟨w1.heap.size, 2, none⟩))] ?_
       refine zL (.int .i64 a) ((hB8.cell 2).trans rfl) ?_
       refine zS [(73, .pointer (some ⟨w1.heap.size, 3, none⟩))] ?_
       refine zL (.int .i64 b) ((hB8.cell 3).trans rfl) ?_
       refine zS [(75, .pointer (some ⟨w1.heap.size, 1, none⟩))] ?_
       refine zL (.int .i64 wd) ((hB8.cell 1).trans rfl) ?_
       have hzr := hT0.size
       refine zC (rext_ok A cp most N a b wd _ hD hJ (by assumption) (by assumption) (by assumption)) ?_
       rintro _ w69 ⟨A70, cp71, rfl, hD74, hw72, hT73⟩
       have hT0 := hT0.t0 hT73
       have hD := hD.tch0 hT73
       have hB4 := hB4.tch0 hT73
       have hB8 := hB8.tch0 hT73
       have hB14 := hB14.tch0 hT73
       refine zS [(78, .agg #[.slice A70 (((extF N most a b wd).2.2).length) cp71, .int .i64 most]), (79, .int .i64 ((extF N most a b wd).1)), (80, .int .i64 ((extF N most a b wd).2.1))] ?_
       refine st (by rfl) (S_storeA (b := w5.heap.size) (j := 0) (cs := [.slice A70 (((extF N most a b wd).2.2).length) cp71, .int .i64 most]) (by kernel_rfl) (by kernel_rfl) (by kernel_rfl) (by simp [oneV]) hB14 (by simp) fun w75 hT76 hs77 hB14' => ?_)
       have hT0 := (hT0).then hT76 (fun c e => by have : c = w5.heap.size := e; omega)
       have hD := hD.tch hT76 (fun c hc e => hD.blk_ne hB14 (by decide) c hc e)
       have hB4 := hB4.tch hT76 (fun e => by have : w.heap.size = w5.heap.size := e; omega)
       have hB8 := hB8.tch hT76 (hB8.ne hB14 (by decide))
       have hD74 := hD74.tch hT76 (fun c hc e => hD74.blk_ne hB14 (by decide) c hc e)
       replace hB14 : Blk w75 w5.heap.size 27 [.slice A70 (((extF N most a b wd).2.2).length) cp71, .int .i64 most] := hB14'
       refine zS [(5, .int .i64 ((extF N most a b wd).1)), (6, .int .i64 ((extF N most a b wd).2.1))] ?_
       refine op_nil ?_
       refine W_ret ?_
       refine ⟨_, Res_cell2 (b := w5.heap.size) (cs := [.slice A70 (((extF N most a b wd).2.2).length) cp71, .int .i64 most]) (by rfl) (by kernel_rfl) (by kernel_rfl) (by kernel_rfl) (by kernel_rfl) hB14 (by kernel_rfl) (by kernel_rfl), ?_⟩
       have e : madeF N most k wd a b c x = extF N most a b wd := by unfold madeF; rw [if_neg (by omega), if_neg (by omega), if_neg (by omega), if_neg (by omega), if_neg (by omega), if_pos (by omega)]
       rw [e]
       exact ⟨A70, cp71, rfl, hD74, fun c h => (hw72 c h).imp id (fun q => Nat.le_trans hzr q), hT0⟩
      ·
       replace hc68 : k ≠ 5 := (ne_of_beq_false hc68)
       refine zQ ?_
       refine zS [(82, .bool (k == 6)), (81, .bool (k == 6))] ?_
       refine zO (k == 6) (fun hc78 => ?_) (fun hc78 => ?_)
       ·
        replace hc78 : k = 6 := (eq_of_beq hc78)
        refine zQ ?_
        refine st (by rfl) (S_val (v := .agg #[.slice A N.length cp, .int .i64 most]) (R_loadA [.slice A N.length cp, .int .i64 most] (by kernel_rfl) (by kernel_rfl) (by kernel_rfl) (fun k u hk => by rw [hB4.cell]; exact get_part _ 0 _ k u rfl hk)) ?_)
        refine zS [(84, .pointer (some ⟨w1.heap.size, 2, none⟩))] ?_
        refine zL (.int .i64 a) ((hB8.cell 2).trans rfl) ?_
        refine zS [(86, .pointer (some ⟨w1.heap.size, 3, none⟩))] ?_
        refine zL (.int .i64 b) ((hB8.cell 3).trans rfl) ?_
        have hzr := hT0.size
        refine zC (rcat_ok A cp most N a b _ hD hJ (by assumption) (by assumption)) ?_
        rintro _ w79 ⟨A80, cp81, rfl, hD84, hw82, hT83⟩
        have hT0 := hT0.t0 hT83
        have hD := hD.tch0 hT83
        have hB4 := hB4.tch0 hT83
        have hB8 := hB8.tch0 hT83
        have hB14 := hB14.tch0 hT83
        refine zS [(89, .agg #[.slice A80 (((catF N most a b).2.2).length) cp81, .int .i64 most]), (90, .int .i64 ((catF N most a b).1)), (91, .int .i64 ((catF N most a b).2.1))] ?_
        refine st (by rfl) (S_storeA (b := w5.heap.size) (j := 0) (cs := [.slice A80 (((catF N most a b).2.2).length) cp81, .int .i64 most]) (by kernel_rfl) (by kernel_rfl) (by kernel_rfl) (by simp [oneV]) hB14 (by simp) fun w85 hT86 hs87 hB14' => ?_)
        have hT0 := (hT0).then hT86 (fun c e => by have : c = w5.heap.size := e; omega)
        have hD := hD.tch hT86 (fun c hc e => hD.blk_ne hB14 (by decide) c hc e)
        have hB4 := hB4.tch hT86 (fun e => by have : w.heap.size = w5.heap.size := e; omega)
        have hB8 := hB8.tch hT86 (hB8.ne hB14 (by decide))
        have hD84 := hD84.tch hT86 (fun c hc e => hD84.blk_ne hB14 (by decide) c hc e)
        replace hB14 : Blk w85 w5.heap.size 27 [.slice A80 (((catF N most a b).2.2).length) cp81, .int .i64 most] := hB14'
        refine zS [(5, .int .i64 ((catF N most a b).1)), (6, .int .i64 ((catF N most a b).2.1))] ?_
        refine op_nil ?_
        refine W_ret ?_
        refine ⟨_, Res_cell2 (b := w5.heap.size) (cs := [.slice A80 (((catF N most a b).2.2).length) cp81, .int .i64 most]) (by rfl) (by kernel_rfl) (by kernel_rfl) (by kernel_rfl) (by kernel_rfl) hB14 (by kernel_rfl) (by kernel_rfl), ?_⟩
        have e : madeF N most k wd a b c x = catF N most a b := by unfold madeF; rw [if_neg (by omega), if_neg (by omega), if_neg (by omega), if_neg (by omega), if_neg (by omega), if_neg (by omega), if_pos (by omega)]
        rw [e]
        exact ⟨A80, cp81, rfl, hD84, fun c h => (hw82 c h).imp id (fun q => Nat.le_trans hzr q), hT0⟩
       ·
        replace hc78 : k ≠ 6 := (ne_of_beq_false hc78)
        refine W_skip ?_
        refine zQ ?_
        refine st (by rfl) (S_val (v := .agg #[.slice A N.length cp, .int .i64 most]) (R_loadA [.slice A N.length cp, .int .i64 most] (by kernel_rfl) (by kernel_rfl) (by kernel_rfl) (fun k u hk => by rw [hB4.cell]; exact get_part _ 0 _ k u rfl hk)) ?_)
        refine zS [(93, .pointer (some ⟨w1.heap.size, 2, none⟩))] ?_
        refine zL (.int .i64 a) ((hB8.cell 2).trans rfl) ?_
        refine zS [(95, .pointer (some ⟨w1.heap.size, 1, none⟩))] ?_
        refine zL (.int .i64 wd) ((hB8.cell 1).trans rfl) ?_
        refine zS [(97, .pointer (some ⟨w1.heap.size, 3, none⟩))] ?_
        refine zL (.int .i64 b) ((hB8.cell 3).trans rfl) ?_
        refine zS [(99, .int .i64 (b.tmod 2)), (100, .bool ((b.tmod 2) != 0))] ?_
        have hzr := hT0.size
        refine zC (rexd_ok A cp most N a wd ((b.tmod 2) != 0) _ hD hJ (by assumption) (by assumption)) ?_
        rintro _ w88 ⟨A89, cp90, rfl, hD93, hw91, hT92⟩
        have hT0 := hT0.t0 hT92
        have hD := hD.tch0 hT92
        have hB4 := hB4.tch0 hT92
        have hB8 := hB8.tch0 hT92
        have hB14 := hB14.tch0 hT92
        refine zS [(102, .agg #[.slice A89 (((exdF N most a wd ((b.tmod 2) != 0)).2.2).length) cp90, .int .i64 most]), (103, .int .i64 ((exdF N most a wd ((b.tmod 2) != 0)).1)), (104, .int .i64 ((exdF N most a wd ((b.tmod 2) != 0)).2.1))] ?_
        refine st (by rfl) (S_storeA (b := w5.heap.size) (j := 0) (cs := [.slice A89 (((exdF N most a wd ((b.tmod 2) != 0)).2.2).length) cp90, .int .i64 most]) (by kernel_rfl) (by kernel_rfl) (by kernel_rfl) (by simp [oneV]) hB14 (by simp) fun w94 hT95 hs96 hB14' => ?_)
        have hT0 := (hT0).then hT95 (fun c e => by have : c = w5.heap.size := e; omega)
        have hD := hD.tch hT95 (fun c hc e => hD.blk_ne hB14 (by decide) c hc e)
        have hB4 := hB4.tch hT95 (fun e => by have : w.heap.size = w5.heap.size := e; omega)
        have hB8 := hB8.tch hT95 (hB8.ne hB14 (by decide))
        have hD93 := hD93.tch hT95 (fun c hc e => hD93.blk_ne hB14 (by decide) c hc e)
        replace hB14 : Blk w94 w5.heap.size 27 [.slice A89 (((exdF N most a wd ((b.tmod 2) != 0)).2.2).length) cp90, .int .i64 most] := hB14'
        refine zS [(5, .int .i64 ((exdF N most a wd ((b.tmod 2) != 0)).1)), (6, .int .i64 ((exdF N most a wd ((b.tmod 2) != 0)).2.1))] ?_
        refine op_nil ?_
        refine W_ret ?_
        refine ⟨_, Res_cell2 (b := w5.heap.size) (cs := [.slice A89 (((exdF N most a wd ((b.tmod 2) != 0)).2.2).length) cp90, .int .i64 most]) (by rfl) (by kernel_rfl) (by kernel_rfl) (by kernel_rfl) (by kernel_rfl) hB14 (by kernel_rfl) (by kernel_rfl), ?_⟩
        have e : madeF N most k wd a b c x = exdF N most a wd ((b.tmod 2) != 0) := by unfold madeF; rw [if_neg (by omega), if_neg (by omega), if_neg (by omega), if_neg (by omega), if_neg (by omega), if_neg (by omega), if_neg (by omega)]
        rw [e]
        exact ⟨A89, cp90, rfl, hD93, fun c h => (hw91 c h).imp id (fun q => Nat.le_trans hzr q), hT0⟩

set_option maxRecDepth 100000 in
theorem rnew_ok (mo : Int) (w : World) : Ret Try.prog 42 [.int .i64 mo] w fun v w' => v = .agg #[.slice none 0 0, .int .i64 (newM mo)] ∧ Tch N0 w w' := by
 refine enter Try.func42 rfl rfl ?_
 refine zQ ?_
 refine st (by rfl) (S_new (v := .pointer (some ⟨w.heap.size, 0, none⟩)) (ob := .cells #[.slice none 0 0, .int .i64 0] 27) (by kernel_rfl) fun w1 hT2 hs3 hB4 => ?_)
 replace hB4 : Blk w1 (w.heap.size) 27 [.slice none 0 0, .int .i64 0] := hB4
 have hT0 := hT2
 refine op_nil ?_
 refine W_seq ?_
 refine zQ ?_
 refine zS [(3, .int .i64 mo), (4, .bool (decide (mo < 0))), (5, .bool (decide (mo < 0)))] ?_
 cases hb5 : decide (mo < 0)
 ·
  replace hb5 : 0 ≤ mo := (Int.not_lt.1 (of_decide_eq_false hb5))
  refine zS [(6, .int .i64 mo), (7, .bool (decide (mo > 65536))), (8, .bool (decide (mo > 65536)))] ?_
  refine zO (decide (mo > 65536)) (fun hc6 => ?_) (fun hc6 => ?_)
  ·
   replace hc6 : 65536 < mo := (of_decide_eq_true hc6)
   refine zR ?_
   refine zS [(0, .int .i64 0)] ?_
   refine op_nil ?_
   refine W_seq ?_
   refine zF [(0, .int .i64 0), (2, .pointer (some ⟨w.heap.size, 0, none⟩)), (8, .bool (decide (mo > 65536)))] fun ρ => ?_
   refine zR ?_
   refine zS [(9, .int .i64 0), (10, .agg #[.slice none 0 0, .int .i64 0])] ?_
   refine st (by rfl) (S_storeA (b := w.heap.size) (j := 0) (cs := [.slice none 0 0, .int .i64 0]) (by kernel_rfl) (by kernel_rfl) (by kernel_rfl) (by simp [oneV]) hB4 (by simp) fun w7 hT8 hs9 hB4' => ?_)
   have hT0 := (hT0).then hT8 (fun c e => by have : c = w.heap.size := e; omega)
   replace hB4 : Blk w7 w.heap.size 27 [.slice none 0 0, .int .i64 0] := hB4'
   refine op_nil ?_
   refine W_ret ?_
   refine ⟨_, Res_cell (b := w.heap.size) (cs := [.slice none 0 0, .int .i64 0]) (by rfl) (by kernel_rfl) (by kernel_rfl) hB4 (by kernel_rfl) (by kernel_rfl), ?_⟩
   have e : newM mo = 0 := by unfold newM; first | rw [if_pos (by omega)] | rw [if_neg (by omega)]
   rw [e]
   exact ⟨rfl, hT0⟩
  ·
   replace hc6 : mo ≤ 65536 := (Int.not_lt.1 (of_decide_eq_false hc6))
   refine W_skip ?_
   refine zQ ?_
   refine zS [(9, .int .i64 mo), (10, .agg #[.slice none 0 0, .int .i64 mo])] ?_
   refine st (by rfl) (S_storeA (b := w.heap.size) (j := 0) (cs := [.slice none 0 0, .int .i64 mo]) (by kernel_rfl) (by kernel_rfl) (by kernel_rfl) (by simp [oneV]) hB4 (by simp) fun w10 hT11 hs12 hB4' => ?_)
   have hT0 := (hT0).then hT11 (fun c e => by have : c = w.heap.size := e; omega)
   replace hB4 : Blk w10 w.heap.size 27 [.slice none 0 0, .int .i64 mo] := hB4'
   refine op_nil ?_
   refine W_ret ?_
   refine ⟨_, Res_cell (b := w.heap.size) (cs := [.slice none 0 0, .int .i64 mo]) (by rfl) (by kernel_rfl) (by kernel_rfl) hB4 (by kernel_rfl) (by kernel_rfl), ?_⟩
   have e : newM mo = mo := by unfold newM; first | rw [if_pos (by omega)] | rw [if_neg (by omega)]
   rw [e]
   exact ⟨rfl, hT0⟩
 ·
  replace hb5 : mo < 0 := (of_decide_eq_true hb5)
  refine zS [(6, undef), (7, undef), (8, .bool true)] ?_
  refine zO true (fun _ => ?_) (fun h => nomatch h)
  refine zR ?_
  refine zS [(0, .int .i64 0)] ?_
  refine op_nil ?_
  refine W_seq ?_
  refine zF [(0, .int .i64 0), (2, .pointer (some ⟨w.heap.size, 0, none⟩)), (8, .bool true)] fun ρ => ?_
  refine zR ?_
  refine zS [(9, .int .i64 0), (10, .agg #[.slice none 0 0, .int .i64 0])] ?_
  refine st (by rfl) (S_storeA (b := w.heap.size) (j := 0) (cs := [.slice none 0 0, .int .i64 0]) (by kernel_rfl) (by kernel_rfl) (by kernel_rfl) (by simp [oneV]) hB4 (by simp) fun w13 hT14 hs15 hB4' => ?_)
  have hT0 := (hT0).then hT14 (fun c e => by have : c = w.heap.size := e; omega)
  replace hB4 : Blk w13 w.heap.size 27 [.slice none 0 0, .int .i64 0] := hB4'
  refine op_nil ?_
  refine W_ret ?_
  refine ⟨_, Res_cell (b := w.heap.size) (cs := [.slice none 0 0, .int .i64 0]) (by rfl) (by kernel_rfl) (by kernel_rfl) hB4 (by kernel_rfl) (by kernel_rfl), ?_⟩
  have e : newM mo = 0 := by unfold newM; first | rw [if_pos (by omega)] | rw [if_neg (by omega)]
  rw [e]
  exact ⟨rfl, hT0⟩

end Go.Proofs.YtlbadnpgmkobdaaV

set_option linter.unusedVariables false
set_option linter.unusedSimpArgs false
namespace Go.Proofs.YtlbadnpgmkobdaaV
open Go Go.RowKit Go.Proofs
def pt (i : Nat) (x : Int) : Prop := 0 ≤ x ∧ x < (i : Int)
/-- What a term's node is, at its place. -/
def NdW (N : List Nd) (i : Nat) (n : Nd) : Prop :=
 (nO n = 20 ∧ 0 ≤ nV n ∧ nV n < 2 ^ (nW n).toNat) ∨ (nO n = 21 ∧ 0 ≤ nA n ∧ nA n < 256) ∨ ((nO n = 15 ∨ nO n = 16) ∧ pt i (nA n) ∧ nW n = widF N (nA n)) ∨
 ((1 ≤ nO n ∧ nO n ≤ 14) ∧ pt i (nA n) ∧ pt i (nB n) ∧ widF N (nA n) = widF N (nB n) ∧ nW n = if nO n = 12 ∨ nO n = 13 ∨ nO n = 14 then 1 else widF N (nA n)) ∨
 (nO n = 22 ∧ pt i (nA n) ∧ pt i (nB n) ∧ pt i (nC n) ∧ widF N (nA n) = 1 ∧ widF N (nB n) = widF N (nC n) ∧ nW n = widF N (nB n)) ∨
 (nO n = 23 ∧ pt i (nA n) ∧ 0 ≤ nB n ∧ nB n + nW n ≤ widF N (nA n)) ∨ (nO n = 24 ∧ pt i (nA n) ∧ pt i (nB n) ∧ nW n = widF N (nA n) + widF N (nB n)) ∨
 ((nO n = 25 ∨ nO n = 26) ∧ pt i (nA n) ∧ widF N (nA n) < nW n)
theorem NdW.mono {N N' : List Nd} {i : Nat} {n : Nd} (h : NdW N i n) (hw : ∀ a, pt i a → widF N' a = widF N a) : NdW N' i n := by
 rcases h with h | h | ⟨h, a, e⟩ | ⟨h, a, b, e, e2⟩ | ⟨h, a, b, c, e, e2, e3⟩ | ⟨h, a, b, e⟩ | ⟨h, a, b, e⟩ | ⟨h, a, e⟩
 ·
  exact .inl h
 ·
  exact .inr (.inl h)
 ·
  exact .inr (.inr (.inl ⟨h, a, by rw [hw _ a]; exact e⟩))
 ·
  exact .inr (.inr (.inr (.inl ⟨h, a, b, by rw [hw _ a, hw _ b]; exact e, by rw [hw _ a]; exact e2⟩)))
 ·
  exact .inr (.inr (.inr (.inr (.inl ⟨h, a, b, c, by rw [hw _ a]; exact e, by rw [hw _ b, hw _ c]; exact e2, by rw [hw _ b]; exact e3⟩))))
 ·
  exact .inr (.inr (.inr (.inr (.inr (.inl ⟨h, a, b, by rw [hw _ a]; exact e⟩)))))
 ·
  exact .inr (.inr (.inr (.inr (.inr (.inr (.inl ⟨h, a, b, by rw [hw _ a, hw _ b]; exact e⟩))))))
 ·
  exact .inr (.inr (.inr (.inr (.inr (.inr (.inr ⟨h, a, by rw [hw _ a]; exact e⟩))))))
def TB (N : List Nd) : Prop := ∀ i, i < N.length → NdW N i (nth N i)
theorem TB_nil : TB [] := fun i h => by simp at h
theorem mk_TB {N : List Nd} {most : Int} {n : Nd} (h : TB N) (hn : NdW N N.length n) : TB (mk N most n).2.2 := by
 have hw : ∀ a, pt N.length a → widF (mk N most n).2.2 a = widF N a := fun a q => widF_mk q.1 q.2
 by_cases h1 : n ∈ N
 ·
  have e : (mk N most n).2.2 = N := by unfold mk; rw [if_pos h1]
  rw [e]; exact h
 ·
  by_cases h2 : most ≤ (N.length : Int)
  ·
   have e : (mk N most n).2.2 = N := by unfold mk; rw [if_neg h1, if_pos h2]
   rw [e]; exact h
  ·
   have e : (mk N most n).2.2 = N ++ [n] := by unfold mk; rw [if_neg h1, if_neg h2]
   rw [e] at hw ⊢
   intro i hi
   have hi' : i < N.length + 1 := by simpa using hi
   by_cases e : i < N.length
   ·
    rw [nth_app e]
    exact (h i e).mono (fun a q => hw a ⟨q.1, by have := q.2; omega⟩)
   ·
    obtain rfl : i = N.length := by omega
    rw [nth_last]
    exact hn.mono hw
theorem cut_lt {w x : Int} (h : 1 ≤ w ∧ w ≤ 64) : 0 ≤ cutF w x ∧ cutF w x < 2 ^ w.toNat := by
 refine ⟨(cut_u64 w x).1, ?_⟩
 unfold cutF
 have hl := (BitVec.ofInt 64 x &&& BitVec.ofInt 64 (maskF w)).isLt
 rw [wrap_u64 (by omega) (by omega)]
 have hm := mask_pos h
 have e : (BitVec.ofInt 64 (maskF w)).toNat = (maskF w).toNat := by
  rw [BitVec.toNat_ofInt]; omega
 have hle : (BitVec.ofInt 64 x &&& BitVec.ofInt 64 (maskF w)).toNat ≤ (maskF w).toNat := by
  rw [BitVec.toNat_and, e]; exact Nat.and_le_right
 have hmm := mask_pow h
 generalize (BitVec.ofInt 64 x &&& BitVec.ofInt 64 (maskF w)).toNat = X at *
 generalize (2 : Int) ^ w.toNat = Z at *
 omega
theorem made_TB {N : List Nd} {mo : Int} (hJ : TJ N mo) (h : TB N) (most k w a b c x : Int) : TB (madeF N most k w a b c x).2.2 := by
 unfold madeF
 split
 ·
  unfold constF; split
  ·
   exact h
  ·
   rename_i q; exact mk_TB h (.inl ⟨rfl, cut_lt (by omega)⟩)
 ·
  split
  ·
   unfold varF; split
   ·
    exact h
   ·
    split
    ·
     exact h
    ·
     rename_i q
     split
     ·
      exact h
     ·
      exact mk_TB h (.inr (.inl ⟨rfl, show 0 ≤ a by omega, show a < 256 by omega⟩))
  ·
   split
   ·
    unfold unaF; split
    ·
     exact h
    ·
     split
     ·
      exact h
     ·
      rename_i ho hb
      obtain ⟨q, r⟩ := bad1f.1 (Bool.eq_false_iff.2 hb)
      exact mk_TB h (.inr (.inr (.inl ⟨show a = 15 ∨ a = 16 by omega, ⟨q, r⟩, rfl⟩)))
   ·
    split
    ·
     unfold binF; split
     ·
      exact h
     ·
      split
      ·
       exact h
      ·
       rename_i ho hb
       obtain ⟨⟨q, r⟩, q2, r2⟩ := bad2f.1 (Bool.eq_false_iff.2 hb)
       split
       ·
        exact h
       ·
        rename_i hw; exact mk_TB h (.inr (.inr (.inr (.inl ⟨show 1 ≤ a ∧ a ≤ 14 by omega, ⟨q, r⟩, ⟨q2, r2⟩, Decidable.not_not.1 hw, rfl⟩))))
    ·
     split
     ·
      unfold iteF; split
      ·
       exact h
      ·
       rename_i hb
       obtain ⟨⟨q, r⟩, ⟨q2, r2⟩, q3, r3⟩ := bad3f.1 (Bool.eq_false_iff.2 hb)
       split
       ·
        exact h
       ·
        rename_i hw; exact mk_TB h (.inr (.inr (.inr (.inr (.inl ⟨rfl, ⟨q, r⟩, ⟨q2, r2⟩, ⟨q3, r3⟩, show widF N a = 1 by omega, show widF N b = widF N c by omega, rfl⟩)))))
     ·
      split
      ·
       unfold extF; split
       ·
        exact h
       ·
        rename_i hb
        obtain ⟨q, r⟩ := bad1f.1 (Bool.eq_false_iff.2 hb)
        split
        ·
         exact h
        ·
         rename_i hw; exact mk_TB h (.inr (.inr (.inr (.inr (.inr (.inl ⟨rfl, ⟨q, r⟩, show 0 ≤ b by omega, show b + w ≤ widF N a by omega⟩))))))
      ·
       split
       ·
        unfold catF; split
        ·
         exact h
        ·
         rename_i hb
         obtain ⟨⟨q, r⟩, q2, r2⟩ := bad2f.1 (Bool.eq_false_iff.2 hb)
         split
         ·
          exact h
         ·
          exact mk_TB h (.inr (.inr (.inr (.inr (.inr (.inr (.inl ⟨rfl, ⟨q, r⟩, ⟨q2, r2⟩, rfl⟩)))))))
       ·
        unfold exdF; split
        ·
         exact h
        ·
         rename_i hb
         obtain ⟨q, r⟩ := bad1f.1 (Bool.eq_false_iff.2 hb)
         split
         ·
          exact h
         ·
          split
          ·
           exact h
          ·
           rename_i h1 h2
           refine mk_TB h (.inr (.inr (.inr (.inr (.inr (.inr (.inr ⟨?_, ⟨q, r⟩, show widF N a < w by omega⟩)))))))
           show (if _ then (26 : Int) else 25) = 25 ∨ (if _ then (26 : Int) else 25) = 26
           split
           ·
            exact .inr rfl
           ·
            exact .inl rfl
/-! ### The terms that a term is made of -/
def kidsN (n : Nd) : List Nat := if nO n = 20 ∨ nO n = 21 then [] else if nO n = 22 then [(nA n).toNat, (nB n).toNat, (nC n).toNat] else if nO n ≤ 14 ∨ nO n = 24 then [(nA n).toNat, (nB n).toNat] else [(nA n).toNat]
theorem kids_lt {N : List Nd} {i : Nat} {n : Nd} (h : NdW N i n) : ∀ k, k ∈ kidsN n → k < i := by
 intro k hk
 unfold kidsN at hk
 rcases h with h | h | ⟨h, a, e⟩ | ⟨h, a, b, e, e2⟩ | ⟨h, a, b, c, e, e2, e3⟩ | ⟨h, a, b, e⟩ | ⟨h, a, b, e⟩ | ⟨h, a, e⟩
 ·
  rw [if_pos (.inl h.1)] at hk; cases hk
 ·
  rw [if_pos (.inr h.1)] at hk; cases hk
 ·
  rw [if_neg (by omega), if_neg (by omega), if_neg (by omega)] at hk
  simp at hk; have := a.1; have := a.2; omega
 ·
  rw [if_neg (by omega), if_neg (by omega), if_pos (by omega)] at hk
  simp at hk; have := a.1; have := a.2; have := b.1; have := b.2; omega
 ·
  rw [if_neg (by omega), if_pos (by omega)] at hk
  simp at hk; have := a.1; have := a.2; have := b.1; have := b.2; have := c.1; have := c.2; omega
 ·
  rw [if_neg (by omega), if_neg (by omega), if_neg (by omega)] at hk
  simp at hk; have := a.1; have := a.2; omega
 ·
  rw [if_neg (by omega), if_neg (by omega), if_pos (by omega)] at hk
  simp at hk; have := a.1; have := a.2; have := b.1; have := b.2; omega
 ·
  rw [if_neg (by omega), if_neg (by omega), if_neg (by omega)] at hk
  simp at hk; have := a.1; have := a.2; omega
end Go.Proofs.YtlbadnpgmkobdaaV

set_option linter.unusedVariables false
set_option linter.unusedSimpArgs false
namespace Go.Proofs.YtlbadnpgmkobdaaV
open Go Go.RowKit Go.Proofs

set_option maxRecDepth 100000 in
set_option maxHeartbeats 4000000 in
theorem buildq_ok (Q : List Nd → Prop) (mo : Int) (L : Option Addr) (mm cl : Nat) (cells : List Value) (ds : Nat → Int × Int × Int × Int × Int × Int) (w : World) (hL : RdW w 6 mm L cells) (hDs : Deeds6 mm cells ds) (hm : mm ≤ 150) (hQ0 : Q []) (hQ : ∀ N k w a b c x, TJ N (newM mo) → Q N → Q (madeF N (newM mo) k w a b c x).2.2) : Ret Try.prog 13 [.int .i64 mo, .slice L mm cl] w fun v w' => ∃ p F A cp N, v = .tuple #[.pointer (some ⟨p, 0, none⟩), .agg #[.slice A N.length cp, .int .i64 (newM mo)]] ∧ Q N ∧ TObj F w' p (newM mo) N ∧ Own w' 0 32 6 (.slice A N.length cp) N.length (ncs N) ∧ (∀ b, F b → w.heap.size ≤ b) ∧ (∀ c, (Value.slice A N.length cp).ownBlock = some c → w.heap.size ≤ c ∧ ¬ F c) ∧ Tch N0 w w' := by
 refine enter Try.func13 rfl rfl ?_
 refine zQ ?_
 refine zS [(4, .pointer none)] ?_
 refine st (by rfl) (S_new (v := .pointer (some ⟨w.heap.size, 0, none⟩)) (ob := .cells #[.slice none 0 0, .int .i64 0] 27) (by kernel_rfl) fun w1 hT2 hs3 hB4 => ?_)
 replace hB4 : Blk w1 (w.heap.size) 27 [.slice none 0 0, .int .i64 0] := hB4
 have hT0 := hT2
 refine op_nil ?_
 refine zQ ?_
 refine zS [(14, .int .i64 mo)] ?_
 have hz_ := hT0.size
 have lt9 := hB4.lt
 refine zC (new_ok mo _) ?_
 rintro _ w5 ⟨p7, F8, rfl, hO, hT6, hFb⟩
 have hT0 := hT0.t0 hT6
 have hB4 := hB4.tch0 hT6
 have nF_hB4 : ¬ F8 (w.heap.size) := fun e => by have := hFb _ e; omega
 replace hFb := fun b hb => Nat.le_trans hz_ (hFb b hb)
 refine zS [(16, .int .i64 mo)] ?_
 refine zC (rnew_ok mo _) ?_
 rintro _ w10 ⟨rfl, hT11⟩
 have hT0 := hT0.t0 hT11
 have hB4 := hB4.tch0 hT11
 have hO := hO.tch0 hT11
 have hlt_ := hO.1.lt
 have lt16 := hB4.lt
 have z17 := hT0.size
 have l18 := hB4.lt
 refine st (by rfl) (S_new (v := .pointer (some ⟨w10.heap.size, 0, none⟩)) (ob := .cells #[.slice none 0 0, .int .i64 0] 27) (by kernel_rfl) fun w12 hT13 hs14 hB15 => ?_)
 replace hB15 : Blk w12 (w10.heap.size) 27 [.slice none 0 0, .int .i64 0] := hB15
 have hT0 := hT0.t0 hT13
 have hB4 := hB4.tch0 hT13
 have hO := hO.tch0 hT13
 have nF_hB15 : ¬ F8 (w10.heap.size) := fun e => by have := hlt_ _ e; omega
 refine zS [(6, .pointer (some ⟨p7, 0, none⟩))] ?_
 refine st (by rfl) (S_storeA (b := w10.heap.size) (j := 0) (cs := [.slice none 0 0, .int .i64 (newM mo)]) (by kernel_rfl) (by kernel_rfl) (by kernel_rfl) (by simp [oneV]) hB15 (by simp) fun w19 hT20 hs21 hB15' => ?_)
 have hT0 := (hT0).then hT20 (fun c e => by have : c = w10.heap.size := e; omega)
 have hB4 := hB4.tch hT20 (fun e => by have : w.heap.size = w10.heap.size := e; omega)
 have hO := hO.tchS hT20 (fun c e q => by cases e; exact nF_hB15 q)
 replace hB15 : Blk w19 w10.heap.size 27 [.slice none 0 0, .int .i64 (newM mo)] := hB15'
 refine op_nil ?_
 refine W_seq ?_
 refine W_seq ?_
 refine zF [(0, .int .i64 mo), (1, .slice L mm cl), (4, .pointer none), (5, .pointer (some ⟨w.heap.size, 0, none⟩)), (6, .pointer (some ⟨p7, 0, none⟩)), (7, .pointer (some ⟨w10.heap.size, 0, none⟩))] fun ρ => ?_
 refine zR ?_
 refine zS [(18, .pointer (some ⟨p7, 0, none⟩)), (19, .bool false)] ?_
 refine zO false (fun h => nomatch h) (fun _ => ?_)
 refine W_skip ?_
 refine W_seq ?_
 refine zQ ?_
 refine zS [(8, .int .i64 0)] ?_
 refine op_nil ?_
 refine W_block ?_
 refine W_loop (fun m ρ w' => ∃ (F : Nat → Prop) (A : Option Addr) (cp : Nat) (N : List Nd) (i : Nat) (ρ0 : Env), ρ = updL ρ0 [(0, .int .i64 mo), (1, .slice L mm cl), (4, .pointer none), (5, .pointer (some ⟨w.heap.size, 0, none⟩)), (6, .pointer (some ⟨p7, 0, none⟩)), (7, .pointer (some ⟨w10.heap.size, 0, none⟩)), (8, .int .i64 ((i : Nat) : Int))] ∧ (i ≤ mm) ∧ (∀ b, F b → w.heap.size ≤ b) ∧ (∀ c, (Value.slice A N.length cp).ownBlock = some c → w.heap.size ≤ c) ∧ (∀ c, (Value.slice A N.length cp).ownBlock = some c → ¬ F c) ∧ (¬ F (w10.heap.size)) ∧ (¬ F (w.heap.size)) ∧ (Q N) ∧ Tch N0 w w' ∧ TObj F w' p7 (newM mo) N ∧ Blk w' (w10.heap.size) 27 [.slice A N.length cp, .int .i64 (newM mo)] ∧ Blk w' (w.heap.size) 27 [.slice none 0 0, .int .i64 0] ∧ Own w' 0 32 6 (.slice A N.length cp) N.length (ncs N) ∧ RdW w' 6 mm L cells ∧ m = mm - i) (m := mm - 0) ?_ ?_
 ·
  refine ⟨F8, none, 0, [], 0, _, updL_self (by kernel_rfl), by omega, hFb, (fun c h => by cases h), (fun c h => by cases h), nF_hB15, nF_hB4, hQ0, hT0, hO, hB15, hB4, (Own.nil_ _ _ _ _), hL.tch0 hT0, rfl⟩
 ·
  rintro m ρ w22 ⟨F, A, cp, N, i, ρ, rfl, hi, hFb, nB_hD, nF_hD, nF_hBD, nF_hBR, hQN, hT0, hO, hBD, hBR, hD, hLc, rfl⟩
  have hJ0 := hO.2
  have ln0 := hO.2.ti.len
  have lm0 := hO.2.ti.most
  refine W_seq ?_
  refine zQ ?_
  refine zS [(21, .int .i64 ((i : Nat) : Int)), (22, .slice L mm cl), (23, .int .i64 (mm : Int)), (24, .bool (decide (((i : Nat) : Int) < (mm : Int))))] ?_
  refine zO (decide (((i : Nat) : Int) < (mm : Int))) (fun hc23 => ?_) (fun hc23 => ?_)
  ·
   replace hc23 : ((i : Nat) : Int) < (mm : Int) := (of_decide_eq_true hc23)
   refine W_skip ?_
   refine W_seq ?_
   refine W_block ?_
   refine zQ ?_
   refine zS [(28, .pointer (some ⟨p7, 0, none⟩)), (29, .slice L mm cl), (30, .int .i64 ((i : Nat) : Int))] ?_
   refine stv (v := ptrAt L (i * 6)) (by rfl) (R_indexRd (sz := 6) (len := mm) (cap := cl) (k := .i64) (i := ((i : Nat) : Int)) (e := 44) i hLc (by kernel_rfl) (by kernel_rfl) (by kernel_rfl) (by kernel_rfl) rfl (by omega)) ?_
   refine stv (v := .agg #[.int .i64 ((ds i).1), .int .i64 ((ds i).2.1), .int .i64 ((ds i).2.2.1), .int .i64 ((ds i).2.2.2.1), .int .i64 ((ds i).2.2.2.2.1), .int .u64 ((ds i).2.2.2.2.2)]) (by rfl) (R_loadRdA [.int .i64 ((ds i).1), .int .i64 ((ds i).2.1), .int .i64 ((ds i).2.2.1), .int .i64 ((ds i).2.2.2.1), .int .i64 ((ds i).2.2.2.2.1), .int .u64 ((ds i).2.2.2.2.2)] hLc (by omega) (by kernel_rfl) (by kernel_rfl) (by kernel_rfl) (hDs.part (by omega))) ?_
   have hz_ := hT0.size
   have lt27 := hBD.lt
   have lt28 := hBR.lt
   have lD_ := hD.lt
   obtain ⟨_, b0, b1, b2, b3, b4, b5⟩ := hDs i (by omega)
   refine zC (made_ok F p7 (newM mo) N ((ds i).1) ((ds i).2.1) ((ds i).2.2.1) ((ds i).2.2.2.1) ((ds i).2.2.2.2.1) ((ds i).2.2.2.2.2) _ hO b0 b1 b2 b3 b4 b5) ?_
   rintro _ w24 ⟨rfl, F25, hO, hm26⟩
   have hT0 := (hT0).then hm26.1 hFb
   have hBD := hBD.tch hm26.1 nF_hBD
   have hBR := hBR.tch hm26.1 nF_hBR
   have hD := hD.tch hm26.1 nF_hD
   have hLc := hL.tch0 hT0
   replace nF_hBD : ¬ F25 (w10.heap.size) := fun e => (hm26.2 _ e).elim nF_hBD (fun q => by omega)
   replace nF_hBR : ¬ F25 (w.heap.size) := fun e => (hm26.2 _ e).elim nF_hBR (fun q => by omega)
   replace nF_hD : ∀ c, (Value.slice A N.length cp).ownBlock = some c → ¬ F25 c := fun c hc e => (hm26.2 _ e).elim (nF_hD c hc) (fun q => by have := lD_ c hc; omega)
   replace hFb := hm26.ge hFb hz_
   refine zS [(27, .tuple #[.int .i64 ((madeF N (newM mo) ((ds i).1) ((ds i).2.1) ((ds i).2.2.1) ((ds i).2.2.2.1) ((ds i).2.2.2.2.1) ((ds i).2.2.2.2.2)).1), .int .i64 ((madeF N (newM mo) ((ds i).1) ((ds i).2.1) ((ds i).2.2.1) ((ds i).2.2.2.1) ((ds i).2.2.2.2.1) ((ds i).2.2.2.2.2)).2.1)]), (34, .int .i64 ((madeF N (newM mo) ((ds i).1) ((ds i).2.1) ((ds i).2.2.1) ((ds i).2.2.2.1) ((ds i).2.2.2.2.1) ((ds i).2.2.2.2.2)).1)), (35, .int .i64 ((madeF N (newM mo) ((ds i).1) ((ds i).2.1) ((ds i).2.2.1) ((ds i).2.2.2.1) ((ds i).2.2.2.2.1) ((ds i).2.2.2.2.2)).2.1)), (9, .int .i64 ((madeF N (newM mo) ((ds i).1) ((ds i).2.1) ((ds i).2.2.1) ((ds i).2.2.2.1) ((ds i).2.2.2.2.1) ((ds i).2.2.2.2.2)).1)), (10, .int .i64 ((madeF N (newM mo) ((ds i).1) ((ds i).2.1) ((ds i).2.2.1) ((ds i).2.2.2.1) ((ds i).2.2.2.2.1) ((ds i).2.2.2.2.2)).2.1))] ?_
   refine op_nil ?_
   refine W_seq ?_
   refine zF [(0, .int .i64 mo), (1, .slice L mm cl), (4, .pointer none), (5, .pointer (some ⟨w.heap.size, 0, none⟩)), (6, .pointer (some ⟨p7, 0, none⟩)), (7, .pointer (some ⟨w10.heap.size, 0, none⟩)), (8, .int .i64 ((i : Nat) : Int)), (9, .int .i64 ((madeF N (newM mo) ((ds i).1) ((ds i).2.1) ((ds i).2.2.1) ((ds i).2.2.2.1) ((ds i).2.2.2.2.1) ((ds i).2.2.2.2.2)).1)), (10, .int .i64 ((madeF N (newM mo) ((ds i).1) ((ds i).2.1) ((ds i).2.2.1) ((ds i).2.2.2.1) ((ds i).2.2.2.2.1) ((ds i).2.2.2.2.2)).2.1)), (24, .bool (decide (((i : Nat) : Int) < (mm : Int))))] fun ρ => ?_
   refine W_draw (fun w' => Blk w' (w10.heap.size) 27 [.slice A N.length cp, .int .i64 (newM mo)] ∧ RdW w' 6 mm L cells) (by kernel_rfl) (by kernel_rfl) (by kernel_rfl) fun w29 hT30 hh31 => ?_
   have hT0 := hT0.t0 hT30
   have hO := hO.tch0 hT30
   have hBD := hBD.tch0 hT30
   have hBR := hBR.tch0 hT30
   have hD := hD.tch0 hT30
   have hLc := hL.tch0 hT0
   refine zK [1, 2] #[false, true, true, false, false, false, false, false, false, false, false, false, false, false] [(38, .slice L mm cl), (39, .int .i64 ((i : Nat) : Int))] ⟨hBD, hLc⟩ ?_
   refine zV 0 rfl (.agg #[.slice A N.length cp, .int .i64 (newM mo)]) (fun _ ⟨hBD, hLc⟩ => R_loadA [.slice A N.length cp, .int .i64 (newM mo)] (by kernel_rfl) (by kernel_rfl) (by kernel_rfl) (fun k u hk => by rw [hBD.cell]; exact get_part _ 0 _ k u rfl hk)) ⟨hBD, hLc⟩ ?_
   refine zV 3 rfl (ptrAt L (i * 6)) (fun _ ⟨hBD, hLc⟩ => R_indexRd (sz := 6) (len := mm) (cap := cl) (k := .i64) (i := ((i : Nat) : Int)) (e := 44) i hLc (by kernel_rfl) (by kernel_rfl) (by kernel_rfl) (by kernel_rfl) rfl (by omega)) ⟨hBD, hLc⟩ ?_
   refine zV 4 rfl (.agg #[.int .i64 ((ds i).1), .int .i64 ((ds i).2.1), .int .i64 ((ds i).2.2.1), .int .i64 ((ds i).2.2.2.1), .int .i64 ((ds i).2.2.2.2.1), .int .u64 ((ds i).2.2.2.2.2)]) (fun _ ⟨hBD, hLc⟩ => R_loadRdA [.int .i64 ((ds i).1), .int .i64 ((ds i).2.1), .int .i64 ((ds i).2.2.1), .int .i64 ((ds i).2.2.2.1), .int .i64 ((ds i).2.2.2.2.1), .int .u64 ((ds i).2.2.2.2.2)] hLc (by omega) (by kernel_rfl) (by kernel_rfl) (by kernel_rfl) (hDs.part (by omega))) ⟨hBD, hLc⟩ ?_
   refine d_two 5 10 (by kernel_rfl) (by rfl) (by rfl) (by kernel_rfl) (by kernel_rfl) ?_ ?_
   ·
    have hzr := hT0.size
    have hl2 := hO.1.lt
    refine (S_call (args := [.agg #[.slice A N.length cp, .int .i64 (newM mo)], .agg #[.int .i64 ((ds i).1), .int .i64 ((ds i).2.1), .int .i64 ((ds i).2.2.1), .int .i64 ((ds i).2.2.2.1), .int .i64 ((ds i).2.2.2.2.1), .int .u64 ((ds i).2.2.2.2.2)]]) (by kernel_rfl) (meant_ok A cp (newM mo) N ((ds i).1) ((ds i).2.1) ((ds i).2.2.1) ((ds i).2.2.2.1) ((ds i).2.2.2.2.1) ((ds i).2.2.2.2.2) _ hD hJ0 b0 b1 b2 b3 b4 b5) ?_)
    rintro _ w32 ⟨A33, cp34, rfl, hD37, hw35, hT36⟩
    have hT0 := hT0.t0 hT36
    have hO := hO.tch0 hT36
    have hBD := hBD.tch0 hT36
    have hBR := hBR.tch0 hT36
    have hLc := hL.tch0 hT0
    have nB_hD37 : ∀ c, (Value.slice A33 (((madeF N (newM mo) ((ds i).1) ((ds i).2.1) ((ds i).2.2.1) ((ds i).2.2.2.1) ((ds i).2.2.2.2.1) ((ds i).2.2.2.2.2)).2.2).length) cp34).ownBlock = some c → w.heap.size ≤ c := fun c h => (hw35 c h).elim (nB_hD c) (fun q => by omega)
    have nF_hD37 : ∀ c, (Value.slice A33 (((madeF N (newM mo) ((ds i).1) ((ds i).2.1) ((ds i).2.2.1) ((ds i).2.2.2.1) ((ds i).2.2.2.2.1) ((ds i).2.2.2.2.2)).2.2).length) cp34).ownBlock = some c → ¬ F25 c := fun c h e => (hw35 c h).elim (fun q => nF_hD c q e) (fun q => by have := hl2 c e; omega)
    refine ⟨⟨hBD, hLc⟩, ?_⟩
    refine zK [6, 7, 8, 9] #[true, true, true, true, true, true, true, true, true, true, false, false, false, false] [(36, .tuple #[.agg #[.slice A33 (((madeF N (newM mo) ((ds i).1) ((ds i).2.1) ((ds i).2.2.1) ((ds i).2.2.2.1) ((ds i).2.2.2.2.1) ((ds i).2.2.2.2.2)).2.2).length) cp34, .int .i64 (newM mo)], .int .i64 ((madeF N (newM mo) ((ds i).1) ((ds i).2.1) ((ds i).2.2.1) ((ds i).2.2.2.1) ((ds i).2.2.2.2.1) ((ds i).2.2.2.2.2)).1), .int .i64 ((madeF N (newM mo) ((ds i).1) ((ds i).2.1) ((ds i).2.2.1) ((ds i).2.2.2.1) ((ds i).2.2.2.2.1) ((ds i).2.2.2.2.2)).2.1)]), (43, .agg #[.slice A33 (((madeF N (newM mo) ((ds i).1) ((ds i).2.1) ((ds i).2.2.1) ((ds i).2.2.2.1) ((ds i).2.2.2.2.1) ((ds i).2.2.2.2.2)).2.2).length) cp34, .int .i64 (newM mo)]), (44, .int .i64 ((madeF N (newM mo) ((ds i).1) ((ds i).2.1) ((ds i).2.2.1) ((ds i).2.2.2.1) ((ds i).2.2.2.2.1) ((ds i).2.2.2.2.2)).1)), (45, .int .i64 ((madeF N (newM mo) ((ds i).1) ((ds i).2.1) ((ds i).2.2.1) ((ds i).2.2.2.1) ((ds i).2.2.2.2.1) ((ds i).2.2.2.2.2)).2.1))] ⟨hBD, hLc⟩ ?_
    have hlt_ := hO.1.lt
    have lt42 := hBD.lt
    have lt43 := hBR.lt
    have lR_hD37 := hD37.lt
    have z44 := hT0.size
    have l45 := hBD.lt
    have l46 := hBR.lt
    refine zD 10 rfl (S_new (v := .pointer (some ⟨w32.heap.size, 0, none⟩)) (ob := .cells #[.slice none 0 0, .int .i64 0] 27) (by kernel_rfl) fun w38 hT39 hs40 hB41 => ?_)
    replace hB41 : Blk w38 (w32.heap.size) 27 [.slice none 0 0, .int .i64 0] := hB41
    have hT0 := hT0.t0 hT39
    have hO := hO.tch0 hT39
    have hBD := hBD.tch0 hT39
    have hBR := hBR.tch0 hT39
    have hLc := hL.tch0 hT0
    have hD37 := hD37.tch0 hT39
    have nF_hB41 : ¬ F25 (w32.heap.size) := fun e => by have := hlt_ _ e; omega
    refine ⟨⟨hBD, hLc⟩, ?_⟩
    refine zD 11 rfl (S_storeA (b := w32.heap.size) (j := 0) (cs := [.slice A33 (((madeF N (newM mo) ((ds i).1) ((ds i).2.1) ((ds i).2.2.1) ((ds i).2.2.2.1) ((ds i).2.2.2.2.1) ((ds i).2.2.2.2.2)).2.2).length) cp34, .int .i64 (newM mo)]) (by kernel_rfl) (by kernel_rfl) (by kernel_rfl) (by simp [oneV]) hB41 (by simp) fun w47 hT48 hs49 hB41' => ?_)
    have hT0 := (hT0).then hT48 (fun c e => by have : c = w32.heap.size := e; omega)
    have hO := hO.tchS hT48 (fun c e q => by cases e; exact nF_hB41 q)
    have hBD := hBD.tch hT48 (fun e => by have : w10.heap.size = w32.heap.size := e; omega)
    have hBR := hBR.tch hT48 (fun e => by have : w.heap.size = w32.heap.size := e; omega)
    have hLc := hL.tch0 hT0
    have hD37 := hD37.tch hT48 (fun c hc e => hD37.blk_ne hB41 (by decide) c hc e)
    replace hB41 : Blk w47 w32.heap.size 27 [.slice A33 (((madeF N (newM mo) ((ds i).1) ((ds i).2.1) ((ds i).2.2.1) ((ds i).2.2.2.1) ((ds i).2.2.2.2.1) ((ds i).2.2.2.2.2)).2.2).length) cp34, .int .i64 (newM mo)] := hB41'
    refine ⟨⟨hBD, hLc⟩, ?_⟩
    refine zK [12, 13] #[true, true, true, true, true, true, true, true, true, true, true, true, true, true] [(12, .int .i64 ((madeF N (newM mo) ((ds i).1) ((ds i).2.1) ((ds i).2.2.1) ((ds i).2.2.2.1) ((ds i).2.2.2.2.1) ((ds i).2.2.2.2.2)).1)), (13, .int .i64 ((madeF N (newM mo) ((ds i).1) ((ds i).2.1) ((ds i).2.2.1) ((ds i).2.2.2.1) ((ds i).2.2.2.2.1) ((ds i).2.2.2.2.2)).2.1))] ⟨hBD, hLc⟩ ?_
    refine d_done (by kernel_rfl) ?_
    refine W_seq ?_
    refine zF [(0, .int .i64 mo), (1, .slice L mm cl), (4, .pointer none), (5, .pointer (some ⟨w.heap.size, 0, none⟩)), (6, .pointer (some ⟨p7, 0, none⟩)), (7, .pointer (some ⟨w10.heap.size, 0, none⟩)), (8, .int .i64 ((i : Nat) : Int)), (9, .int .i64 ((madeF N (newM mo) ((ds i).1) ((ds i).2.1) ((ds i).2.2.1) ((ds i).2.2.2.1) ((ds i).2.2.2.2.1) ((ds i).2.2.2.2.2)).1)), (10, .int .i64 ((madeF N (newM mo) ((ds i).1) ((ds i).2.1) ((ds i).2.2.1) ((ds i).2.2.2.1) ((ds i).2.2.2.2.1) ((ds i).2.2.2.2.2)).2.1)), (11, .pointer (some ⟨w32.heap.size, 0, none⟩)), (12, .int .i64 ((madeF N (newM mo) ((ds i).1) ((ds i).2.1) ((ds i).2.2.1) ((ds i).2.2.2.1) ((ds i).2.2.2.2.1) ((ds i).2.2.2.2.2)).1)), (13, .int .i64 ((madeF N (newM mo) ((ds i).1) ((ds i).2.1) ((ds i).2.2.1) ((ds i).2.2.2.1) ((ds i).2.2.2.2.1) ((ds i).2.2.2.2.2)).2.1)), (24, .bool (decide (((i : Nat) : Int) < (mm : Int))))] fun ρ => ?_
    refine zR ?_
    refine st (by rfl) (S_val (v := .agg #[.slice A33 (((madeF N (newM mo) ((ds i).1) ((ds i).2.1) ((ds i).2.2.1) ((ds i).2.2.2.1) ((ds i).2.2.2.2.1) ((ds i).2.2.2.2.2)).2.2).length) cp34, .int .i64 (newM mo)]) (R_loadA [.slice A33 (((madeF N (newM mo) ((ds i).1) ((ds i).2.1) ((ds i).2.2.1) ((ds i).2.2.2.1) ((ds i).2.2.2.2.1) ((ds i).2.2.2.2.2)).2.2).length) cp34, .int .i64 (newM mo)] (by kernel_rfl) (by kernel_rfl) (by kernel_rfl) (fun k u hk => by rw [hB41.cell]; exact get_part _ 0 _ k u rfl hk)) ?_)
    refine st (by rfl) (S_storeA (b := w10.heap.size) (j := 0) (cs := [.slice A33 (((madeF N (newM mo) ((ds i).1) ((ds i).2.1) ((ds i).2.2.1) ((ds i).2.2.2.1) ((ds i).2.2.2.2.1) ((ds i).2.2.2.2.2)).2.2).length) cp34, .int .i64 (newM mo)]) (by kernel_rfl) (by kernel_rfl) (by kernel_rfl) (by simp [oneV]) hBD (by simp) fun w50 hT51 hs52 hBD' => ?_)
    have hT0 := (hT0).then hT51 (fun c e => by have : c = w10.heap.size := e; omega)
    have hO := hO.tchS hT51 (fun c e q => by cases e; exact nF_hBD q)
    have hBR := hBR.tch hT51 (fun e => by have : w.heap.size = w10.heap.size := e; omega)
    have hLc := hL.tch0 hT0
    have hD37 := hD37.tch hT51 (fun c hc e => hD37.blk_ne hBD (by decide) c hc e)
    have hB41 := hB41.tch hT51 (fun e => by have : w32.heap.size = w10.heap.size := e; omega)
    replace hBD : Blk w50 w10.heap.size 27 [.slice A33 (((madeF N (newM mo) ((ds i).1) ((ds i).2.1) ((ds i).2.2.1) ((ds i).2.2.2.1) ((ds i).2.2.2.2.1) ((ds i).2.2.2.2.2)).2.2).length) cp34, .int .i64 (newM mo)] := hBD'
    refine op_nil ?_
    refine W_seq ?_
    refine W_draw (fun w' => Blk w' (w10.heap.size) 27 [.slice A33 (((madeF N (newM mo) ((ds i).1) ((ds i).2.1) ((ds i).2.2.1) ((ds i).2.2.2.1) ((ds i).2.2.2.2.1) ((ds i).2.2.2.2.2)).2.2).length) cp34, .int .i64 (newM mo)]) (by kernel_rfl) (by kernel_rfl) (by kernel_rfl) fun w53 hT54 hh55 => ?_
    have hT0 := hT0.t0 hT54
    have hO := hO.tch0 hT54
    have hBD := hBD.tch0 hT54
    have hBR := hBR.tch0 hT54
    have hLc := hL.tch0 hT0
    have hD37 := hD37.tch0 hT54
    have hB41 := hB41.tch0 hT54
    refine zK [0, 1, 2, 3] #[true, true, true, true, false, false, false, false, false, false, false, false, false, false, false, false] [(47, .int .i64 ((madeF N (newM mo) ((ds i).1) ((ds i).2.1) ((ds i).2.2.1) ((ds i).2.2.2.1) ((ds i).2.2.2.2.1) ((ds i).2.2.2.2.2)).1)), (48, .int .i64 ((madeF N (newM mo) ((ds i).1) ((ds i).2.1) ((ds i).2.2.1) ((ds i).2.2.2.1) ((ds i).2.2.2.2.1) ((ds i).2.2.2.2.2)).1)), (49, .bool (((madeF N (newM mo) ((ds i).1) ((ds i).2.1) ((ds i).2.2.1) ((ds i).2.2.2.1) ((ds i).2.2.2.2.1) ((ds i).2.2.2.2.2)).1) != ((madeF N (newM mo) ((ds i).1) ((ds i).2.1) ((ds i).2.2.1) ((ds i).2.2.2.1) ((ds i).2.2.2.2.1) ((ds i).2.2.2.2.2)).1))), (50, .bool (((madeF N (newM mo) ((ds i).1) ((ds i).2.1) ((ds i).2.2.1) ((ds i).2.2.2.1) ((ds i).2.2.2.2.1) ((ds i).2.2.2.2.2)).1) != ((madeF N (newM mo) ((ds i).1) ((ds i).2.1) ((ds i).2.2.1) ((ds i).2.2.2.1) ((ds i).2.2.2.2.1) ((ds i).2.2.2.2.2)).1)))] hBD ?_
    cases hb56 : ((madeF N (newM mo) ((ds i).1) ((ds i).2.1) ((ds i).2.2.1) ((ds i).2.2.2.1) ((ds i).2.2.2.2.1) ((ds i).2.2.2.2.2)).1) != ((madeF N (newM mo) ((ds i).1) ((ds i).2.1) ((ds i).2.2.1) ((ds i).2.2.2.1) ((ds i).2.2.2.2.1) ((ds i).2.2.2.2.2)).1)
    ·
     replace hb56 : (madeF N (newM mo) ((ds i).1) ((ds i).2.1) ((ds i).2.2.1) ((ds i).2.2.2.1) ((ds i).2.2.2.2.1) ((ds i).2.2.2.2.2)).1 = (madeF N (newM mo) ((ds i).1) ((ds i).2.1) ((ds i).2.2.1) ((ds i).2.2.2.1) ((ds i).2.2.2.2.1) ((ds i).2.2.2.2.2)).1 := (bne_eq_false_iff_eq.1 hb56)
     refine zK [4, 5, 6, 7, 8] #[true, true, true, true, true, true, true, true, true, false, false, false, false, false, false, false] [(51, .int .i64 ((madeF N (newM mo) ((ds i).1) ((ds i).2.1) ((ds i).2.2.1) ((ds i).2.2.2.1) ((ds i).2.2.2.2.1) ((ds i).2.2.2.2.2)).2.1)), (52, .int .i64 ((madeF N (newM mo) ((ds i).1) ((ds i).2.1) ((ds i).2.2.1) ((ds i).2.2.2.1) ((ds i).2.2.2.2.1) ((ds i).2.2.2.2.2)).2.1)), (53, .bool (((madeF N (newM mo) ((ds i).1) ((ds i).2.1) ((ds i).2.2.1) ((ds i).2.2.2.1) ((ds i).2.2.2.2.1) ((ds i).2.2.2.2.2)).2.1) != ((madeF N (newM mo) ((ds i).1) ((ds i).2.1) ((ds i).2.2.1) ((ds i).2.2.2.1) ((ds i).2.2.2.2.1) ((ds i).2.2.2.2.2)).2.1))), (54, .bool (((madeF N (newM mo) ((ds i).1) ((ds i).2.1) ((ds i).2.2.1) ((ds i).2.2.2.1) ((ds i).2.2.2.2.1) ((ds i).2.2.2.2.2)).2.1) != ((madeF N (newM mo) ((ds i).1) ((ds i).2.1) ((ds i).2.2.1) ((ds i).2.2.2.1) ((ds i).2.2.2.2.1) ((ds i).2.2.2.2.2)).2.1))), (55, .bool (((madeF N (newM mo) ((ds i).1) ((ds i).2.1) ((ds i).2.2.1) ((ds i).2.2.2.1) ((ds i).2.2.2.2.1) ((ds i).2.2.2.2.2)).2.1) != ((madeF N (newM mo) ((ds i).1) ((ds i).2.1) ((ds i).2.2.1) ((ds i).2.2.2.1) ((ds i).2.2.2.2.1) ((ds i).2.2.2.2.2)).2.1)))] hBD ?_
     cases hb57 : ((madeF N (newM mo) ((ds i).1) ((ds i).2.1) ((ds i).2.2.1) ((ds i).2.2.2.1) ((ds i).2.2.2.2.1) ((ds i).2.2.2.2.2)).2.1) != ((madeF N (newM mo) ((ds i).1) ((ds i).2.1) ((ds i).2.2.1) ((ds i).2.2.2.1) ((ds i).2.2.2.2.1) ((ds i).2.2.2.2.2)).2.1)
     ·
      replace hb57 : (madeF N (newM mo) ((ds i).1) ((ds i).2.1) ((ds i).2.2.1) ((ds i).2.2.2.1) ((ds i).2.2.2.2.1) ((ds i).2.2.2.2.2)).2.1 = (madeF N (newM mo) ((ds i).1) ((ds i).2.1) ((ds i).2.2.1) ((ds i).2.2.2.1) ((ds i).2.2.2.2.1) ((ds i).2.2.2.2.2)).2.1 := (bne_eq_false_iff_eq.1 hb57)
      refine zK [9, 11] #[true, true, true, true, true, true, true, true, true, true, false, true, false, false, false, false] [(56, .pointer (some ⟨p7, 0, none⟩)), (58, .pointer (some ⟨w10.heap.size, 0, none⟩))] hBD ?_
      refine zV 12 rfl (.slice A33 (((madeF N (newM mo) ((ds i).1) ((ds i).2.1) ((ds i).2.2.1) ((ds i).2.2.2.1) ((ds i).2.2.2.2.1) ((ds i).2.2.2.2.2)).2.2).length) cp34) (fun _ hBD => R_load (v := .slice A33 (((madeF N (newM mo) ((ds i).1) ((ds i).2.1) ((ds i).2.2.1) ((ds i).2.2.2.1) ((ds i).2.2.2.2.1) ((ds i).2.2.2.2.2)).2.2).length) cp34) (by kernel_rfl) (by kernel_rfl) ((hBD.cell 0).trans rfl)) hBD ?_
      refine zK [13] #[true, true, true, true, true, true, true, true, true, true, false, true, true, true, false, false] [(60, .int .i64 (((madeF N (newM mo) ((ds i).1) ((ds i).2.1) ((ds i).2.2.1) ((ds i).2.2.2.1) ((ds i).2.2.2.2.1) ((ds i).2.2.2.2.2)).2.2).length : Int))] hBD ?_
      have ln_ := hO.2.ti.len
      have lm_ := hO.2.ti.most
      refine zD 10 rfl (S_call (args := [.pointer (some ⟨p7, 0, none⟩)]) (by kernel_rfl) (len_ok F25 p7 (newM mo) ((madeF N (newM mo) ((ds i).1) ((ds i).2.1) ((ds i).2.2.1) ((ds i).2.2.2.1) ((ds i).2.2.2.2.1) ((ds i).2.2.2.2.2)).2.2) _ _ hO.1 (by omega)) ?_)
      rintro _ w58 ⟨rfl, hT59⟩
      have hT0 := hT0.t0 hT59
      have hO := hO.tch0 hT59
      have hBD := hBD.tch0 hT59
      have hBR := hBR.tch0 hT59
      have hLc := hL.tch0 hT0
      have hD37 := hD37.tch0 hT59
      have hB41 := hB41.tch0 hT59
      refine ⟨hBD, ?_⟩
      refine zK [14, 15] #[true, true, true, true, true, true, true, true, true, true, true, true, true, true, true, true] [(61, .bool ((((madeF N (newM mo) ((ds i).1) ((ds i).2.1) ((ds i).2.2.1) ((ds i).2.2.2.1) ((ds i).2.2.2.2.1) ((ds i).2.2.2.2.2)).2.2).length : Int) != (((madeF N (newM mo) ((ds i).1) ((ds i).2.1) ((ds i).2.2.1) ((ds i).2.2.2.1) ((ds i).2.2.2.2.1) ((ds i).2.2.2.2.2)).2.2).length : Int))), (62, .bool ((((madeF N (newM mo) ((ds i).1) ((ds i).2.1) ((ds i).2.2.1) ((ds i).2.2.2.1) ((ds i).2.2.2.2.1) ((ds i).2.2.2.2.2)).2.2).length : Int) != (((madeF N (newM mo) ((ds i).1) ((ds i).2.1) ((ds i).2.2.1) ((ds i).2.2.2.1) ((ds i).2.2.2.2.1) ((ds i).2.2.2.2.2)).2.2).length : Int)))] hBD ?_
      refine d_done (by kernel_rfl) ?_
      refine zW ((((madeF N (newM mo) ((ds i).1) ((ds i).2.1) ((ds i).2.2.1) ((ds i).2.2.2.1) ((ds i).2.2.2.2.1) ((ds i).2.2.2.2.2)).2.2).length : Int) != (((madeF N (newM mo) ((ds i).1) ((ds i).2.1) ((ds i).2.2.1) ((ds i).2.2.2.1) ((ds i).2.2.2.2.1) ((ds i).2.2.2.2.2)).2.2).length : Int)) (fun hc60 => ?_) (fun hc60 => ?_)
      ·
       replace hc60 : (((madeF N (newM mo) ((ds i).1) ((ds i).2.1) ((ds i).2.2.1) ((ds i).2.2.2.1) ((ds i).2.2.2.2.1) ((ds i).2.2.2.2.2)).2.2).length : Int) ≠ (((madeF N (newM mo) ((ds i).1) ((ds i).2.1) ((ds i).2.2.1) ((ds i).2.2.2.1) ((ds i).2.2.2.2.1) ((ds i).2.2.2.2.2)).2.2).length : Int) := (bne_iff_ne.1 hc60)
       exact absurd rfl hc60
      ·
       replace hc60 : (((madeF N (newM mo) ((ds i).1) ((ds i).2.1) ((ds i).2.2.1) ((ds i).2.2.2.1) ((ds i).2.2.2.2.1) ((ds i).2.2.2.2.2)).2.2).length : Int) = (((madeF N (newM mo) ((ds i).1) ((ds i).2.1) ((ds i).2.2.1) ((ds i).2.2.2.1) ((ds i).2.2.2.2.1) ((ds i).2.2.2.2.2)).2.2).length : Int) := (bne_eq_false_iff_eq.1 hc60)
       refine W_skip ?_
       refine zF [(0, .int .i64 mo), (1, .slice L mm cl), (4, .pointer none), (5, .pointer (some ⟨w.heap.size, 0, none⟩)), (6, .pointer (some ⟨p7, 0, none⟩)), (7, .pointer (some ⟨w10.heap.size, 0, none⟩)), (8, .int .i64 ((i : Nat) : Int)), (9, .int .i64 ((madeF N (newM mo) ((ds i).1) ((ds i).2.1) ((ds i).2.2.1) ((ds i).2.2.2.1) ((ds i).2.2.2.2.1) ((ds i).2.2.2.2.2)).1)), (10, .int .i64 ((madeF N (newM mo) ((ds i).1) ((ds i).2.1) ((ds i).2.2.1) ((ds i).2.2.2.1) ((ds i).2.2.2.2.1) ((ds i).2.2.2.2.2)).2.1)), (11, .pointer (some ⟨w32.heap.size, 0, none⟩)), (12, .int .i64 ((madeF N (newM mo) ((ds i).1) ((ds i).2.1) ((ds i).2.2.1) ((ds i).2.2.2.1) ((ds i).2.2.2.2.1) ((ds i).2.2.2.2.2)).1)), (13, .int .i64 ((madeF N (newM mo) ((ds i).1) ((ds i).2.1) ((ds i).2.2.1) ((ds i).2.2.2.1) ((ds i).2.2.2.2.1) ((ds i).2.2.2.2.2)).2.1)), (24, .bool (decide (((i : Nat) : Int) < (mm : Int)))), (62, .bool ((((madeF N (newM mo) ((ds i).1) ((ds i).2.1) ((ds i).2.2.1) ((ds i).2.2.2.1) ((ds i).2.2.2.2.1) ((ds i).2.2.2.2.2)).2.2).length : Int) != (((madeF N (newM mo) ((ds i).1) ((ds i).2.1) ((ds i).2.2.1) ((ds i).2.2.2.1) ((ds i).2.2.2.2.1) ((ds i).2.2.2.2.2)).2.2).length : Int)))] fun ρ => ?_
       refine zR ?_
       refine zS [(25, .int .i64 ((i : Nat) : Int)), (26, .int .i64 (IntKind.i64.wrap (((i : Nat) : Int) + 1)))] ?_
       rw [show IntKind.i64.wrap (((i : Nat) : Int) + 1) = ((i : Nat) : Int) + 1 from wrap_i64 (by omega) (by omega)]
       refine fixR (y := ((i + 1 : Nat) : Int)) (by omega) ?_
       refine zS [(8, .int .i64 ((i + 1 : Nat) : Int))] ?_
       refine op_nil ?_
       refine ⟨_, ?_, F25, A33, cp34, (madeF N (newM mo) ((ds i).1) ((ds i).2.1) ((ds i).2.2.1) ((ds i).2.2.2.1) ((ds i).2.2.2.2.1) ((ds i).2.2.2.2.2)).2.2, i + 1, _, updL_self (by kernel_rfl), ?_, hFb, nB_hD37, nF_hD37, nF_hBD, nF_hBR, (hQ _ _ _ _ _ _ _ hJ0 hQN), hT0, hO, hBD, hBR, hD37, hLc, rfl⟩
       ·
        omega
       ·
        omega
     ·
      replace hb57 : (madeF N (newM mo) ((ds i).1) ((ds i).2.1) ((ds i).2.2.1) ((ds i).2.2.2.1) ((ds i).2.2.2.2.1) ((ds i).2.2.2.2.2)).2.1 ≠ (madeF N (newM mo) ((ds i).1) ((ds i).2.1) ((ds i).2.2.1) ((ds i).2.2.2.1) ((ds i).2.2.2.2.1) ((ds i).2.2.2.2.2)).2.1 := (bne_iff_ne.1 hb57)
      exact absurd rfl hb57
    ·
     replace hb56 : (madeF N (newM mo) ((ds i).1) ((ds i).2.1) ((ds i).2.2.1) ((ds i).2.2.2.1) ((ds i).2.2.2.2.1) ((ds i).2.2.2.2.2)).1 ≠ (madeF N (newM mo) ((ds i).1) ((ds i).2.1) ((ds i).2.2.1) ((ds i).2.2.2.1) ((ds i).2.2.2.2.1) ((ds i).2.2.2.2.2)).1 := (bne_iff_ne.1 hb56)
     exact absurd rfl hb56
   ·
    have hlt_ := hO.1.lt
    have lt65 := hBD.lt
    have lt66 := hBR.lt
    have lR_hD := hD.lt
    have z67 := hT0.size
    have l68 := hBD.lt
    have l69 := hBR.lt
    refine (S_new (v := .pointer (some ⟨w29.heap.size, 0, none⟩)) (ob := .cells #[.slice none 0 0, .int .i64 0] 27) (by kernel_rfl) fun w61 hT62 hs63 hB64 => ?_)
    replace hB64 : Blk w61 (w29.heap.size) 27 [.slice none 0 0, .int .i64 0] := hB64
    have hT0 := hT0.t0 hT62
    have hO := hO.tch0 hT62
    have hBD := hBD.tch0 hT62
    have hBR := hBR.tch0 hT62
    have hD := hD.tch0 hT62
    have hLc := hL.tch0 hT0
    have nF_hB64 : ¬ F25 (w29.heap.size) := fun e => by have := hlt_ _ e; omega
    refine ⟨⟨hBD, hLc⟩, ?_⟩
    have hzr := hT0.size
    have hl2 := hO.1.lt
    refine zD 5 rfl (S_call (args := [.agg #[.slice A N.length cp, .int .i64 (newM mo)], .agg #[.int .i64 ((ds i).1), .int .i64 ((ds i).2.1), .int .i64 ((ds i).2.2.1), .int .i64 ((ds i).2.2.2.1), .int .i64 ((ds i).2.2.2.2.1), .int .u64 ((ds i).2.2.2.2.2)]]) (by kernel_rfl) (meant_ok A cp (newM mo) N ((ds i).1) ((ds i).2.1) ((ds i).2.2.1) ((ds i).2.2.2.1) ((ds i).2.2.2.2.1) ((ds i).2.2.2.2.2) _ hD hJ0 b0 b1 b2 b3 b4 b5) ?_)
    rintro _ w70 ⟨A71, cp72, rfl, hD75, hw73, hT74⟩
    have hT0 := hT0.t0 hT74
    have hO := hO.tch0 hT74
    have hBD := hBD.tch0 hT74
    have hBR := hBR.tch0 hT74
    have hLc := hL.tch0 hT0
    have hB64 := hB64.tch0 hT74
    have nB_hD75 : ∀ c, (Value.slice A71 (((madeF N (newM mo) ((ds i).1) ((ds i).2.1) ((ds i).2.2.1) ((ds i).2.2.2.1) ((ds i).2.2.2.2.1) ((ds i).2.2.2.2.2)).2.2).length) cp72).ownBlock = some c → w.heap.size ≤ c := fun c h => (hw73 c h).elim (nB_hD c) (fun q => by omega)
    have nF_hD75 : ∀ c, (Value.slice A71 (((madeF N (newM mo) ((ds i).1) ((ds i).2.1) ((ds i).2.2.1) ((ds i).2.2.2.1) ((ds i).2.2.2.2.1) ((ds i).2.2.2.2.2)).2.2).length) cp72).ownBlock = some c → ¬ F25 c := fun c h e => (hw73 c h).elim (fun q => nF_hD c q e) (fun q => by have := hl2 c e; omega)
    refine ⟨⟨hBD, hLc⟩, ?_⟩
    refine zK [6, 7, 8, 9] #[true, true, true, true, true, true, true, true, true, true, true, false, false, false] [(36, .tuple #[.agg #[.slice A71 (((madeF N (newM mo) ((ds i).1) ((ds i).2.1) ((ds i).2.2.1) ((ds i).2.2.2.1) ((ds i).2.2.2.2.1) ((ds i).2.2.2.2.2)).2.2).length) cp72, .int .i64 (newM mo)], .int .i64 ((madeF N (newM mo) ((ds i).1) ((ds i).2.1) ((ds i).2.2.1) ((ds i).2.2.2.1) ((ds i).2.2.2.2.1) ((ds i).2.2.2.2.2)).1), .int .i64 ((madeF N (newM mo) ((ds i).1) ((ds i).2.1) ((ds i).2.2.1) ((ds i).2.2.2.1) ((ds i).2.2.2.2.1) ((ds i).2.2.2.2.2)).2.1)]), (43, .agg #[.slice A71 (((madeF N (newM mo) ((ds i).1) ((ds i).2.1) ((ds i).2.2.1) ((ds i).2.2.2.1) ((ds i).2.2.2.2.1) ((ds i).2.2.2.2.2)).2.2).length) cp72, .int .i64 (newM mo)]), (44, .int .i64 ((madeF N (newM mo) ((ds i).1) ((ds i).2.1) ((ds i).2.2.1) ((ds i).2.2.2.1) ((ds i).2.2.2.2.1) ((ds i).2.2.2.2.2)).1)), (45, .int .i64 ((madeF N (newM mo) ((ds i).1) ((ds i).2.1) ((ds i).2.2.1) ((ds i).2.2.2.1) ((ds i).2.2.2.2.1) ((ds i).2.2.2.2.2)).2.1))] ⟨hBD, hLc⟩ ?_
    refine zD 11 rfl (S_storeA (b := w29.heap.size) (j := 0) (cs := [.slice A71 (((madeF N (newM mo) ((ds i).1) ((ds i).2.1) ((ds i).2.2.1) ((ds i).2.2.2.1) ((ds i).2.2.2.2.1) ((ds i).2.2.2.2.2)).2.2).length) cp72, .int .i64 (newM mo)]) (by kernel_rfl) (by kernel_rfl) (by kernel_rfl) (by simp [oneV]) hB64 (by simp) fun w76 hT77 hs78 hB64' => ?_)
    have hT0 := (hT0).then hT77 (fun c e => by have : c = w29.heap.size := e; omega)
    have hO := hO.tchS hT77 (fun c e q => by cases e; exact nF_hB64 q)
    have hBD := hBD.tch hT77 (fun e => by have : w10.heap.size = w29.heap.size := e; omega)
    have hBR := hBR.tch hT77 (fun e => by have : w.heap.size = w29.heap.size := e; omega)
    have hLc := hL.tch0 hT0
    have hD75 := hD75.tch hT77 (fun c hc e => hD75.blk_ne hB64 (by decide) c hc e)
    replace hB64 : Blk w76 w29.heap.size 27 [.slice A71 (((madeF N (newM mo) ((ds i).1) ((ds i).2.1) ((ds i).2.2.1) ((ds i).2.2.2.1) ((ds i).2.2.2.2.1) ((ds i).2.2.2.2.2)).2.2).length) cp72, .int .i64 (newM mo)] := hB64'
    refine ⟨⟨hBD, hLc⟩, ?_⟩
    refine zK [12, 13] #[true, true, true, true, true, true, true, true, true, true, true, true, true, true] [(12, .int .i64 ((madeF N (newM mo) ((ds i).1) ((ds i).2.1) ((ds i).2.2.1) ((ds i).2.2.2.1) ((ds i).2.2.2.2.1) ((ds i).2.2.2.2.2)).1)), (13, .int .i64 ((madeF N (newM mo) ((ds i).1) ((ds i).2.1) ((ds i).2.2.1) ((ds i).2.2.2.1) ((ds i).2.2.2.2.1) ((ds i).2.2.2.2.2)).2.1))] ⟨hBD, hLc⟩ ?_
    refine d_done (by kernel_rfl) ?_
    refine W_seq ?_
    refine zF [(0, .int .i64 mo), (1, .slice L mm cl), (4, .pointer none), (5, .pointer (some ⟨w.heap.size, 0, none⟩)), (6, .pointer (some ⟨p7, 0, none⟩)), (7, .pointer (some ⟨w10.heap.size, 0, none⟩)), (8, .int .i64 ((i : Nat) : Int)), (9, .int .i64 ((madeF N (newM mo) ((ds i).1) ((ds i).2.1) ((ds i).2.2.1) ((ds i).2.2.2.1) ((ds i).2.2.2.2.1) ((ds i).2.2.2.2.2)).1)), (10, .int .i64 ((madeF N (newM mo) ((ds i).1) ((ds i).2.1) ((ds i).2.2.1) ((ds i).2.2.2.1) ((ds i).2.2.2.2.1) ((ds i).2.2.2.2.2)).2.1)), (11, .pointer (some ⟨w29.heap.size, 0, none⟩)), (12, .int .i64 ((madeF N (newM mo) ((ds i).1) ((ds i).2.1) ((ds i).2.2.1) ((ds i).2.2.2.1) ((ds i).2.2.2.2.1) ((ds i).2.2.2.2.2)).1)), (13, .int .i64 ((madeF N (newM mo) ((ds i).1) ((ds i).2.1) ((ds i).2.2.1) ((ds i).2.2.2.1) ((ds i).2.2.2.2.1) ((ds i).2.2.2.2.2)).2.1)), (24, .bool (decide (((i : Nat) : Int) < (mm : Int))))] fun ρ => ?_
    refine zR ?_
    refine st (by rfl) (S_val (v := .agg #[.slice A71 (((madeF N (newM mo) ((ds i).1) ((ds i).2.1) ((ds i).2.2.1) ((ds i).2.2.2.1) ((ds i).2.2.2.2.1) ((ds i).2.2.2.2.2)).2.2).length) cp72, .int .i64 (newM mo)]) (R_loadA [.slice A71 (((madeF N (newM mo) ((ds i).1) ((ds i).2.1) ((ds i).2.2.1) ((ds i).2.2.2.1) ((ds i).2.2.2.2.1) ((ds i).2.2.2.2.2)).2.2).length) cp72, .int .i64 (newM mo)] (by kernel_rfl) (by kernel_rfl) (by kernel_rfl) (fun k u hk => by rw [hB64.cell]; exact get_part _ 0 _ k u rfl hk)) ?_)
    refine st (by rfl) (S_storeA (b := w10.heap.size) (j := 0) (cs := [.slice A71 (((madeF N (newM mo) ((ds i).1) ((ds i).2.1) ((ds i).2.2.1) ((ds i).2.2.2.1) ((ds i).2.2.2.2.1) ((ds i).2.2.2.2.2)).2.2).length) cp72, .int .i64 (newM mo)]) (by kernel_rfl) (by kernel_rfl) (by kernel_rfl) (by simp [oneV]) hBD (by simp) fun w79 hT80 hs81 hBD' => ?_)
    have hT0 := (hT0).then hT80 (fun c e => by have : c = w10.heap.size := e; omega)
    have hO := hO.tchS hT80 (fun c e q => by cases e; exact nF_hBD q)
    have hBR := hBR.tch hT80 (fun e => by have : w.heap.size = w10.heap.size := e; omega)
    have hLc := hL.tch0 hT0
    have hB64 := hB64.tch hT80 (fun e => by have : w29.heap.size = w10.heap.size := e; omega)
    have hD75 := hD75.tch hT80 (fun c hc e => hD75.blk_ne hBD (by decide) c hc e)
    replace hBD : Blk w79 w10.heap.size 27 [.slice A71 (((madeF N (newM mo) ((ds i).1) ((ds i).2.1) ((ds i).2.2.1) ((ds i).2.2.2.1) ((ds i).2.2.2.2.1) ((ds i).2.2.2.2.2)).2.2).length) cp72, .int .i64 (newM mo)] := hBD'
    refine op_nil ?_
    refine W_seq ?_
    refine W_draw (fun w' => Blk w' (w10.heap.size) 27 [.slice A71 (((madeF N (newM mo) ((ds i).1) ((ds i).2.1) ((ds i).2.2.1) ((ds i).2.2.2.1) ((ds i).2.2.2.2.1) ((ds i).2.2.2.2.2)).2.2).length) cp72, .int .i64 (newM mo)]) (by kernel_rfl) (by kernel_rfl) (by kernel_rfl) fun w82 hT83 hh84 => ?_
    have hT0 := hT0.t0 hT83
    have hO := hO.tch0 hT83
    have hBD := hBD.tch0 hT83
    have hBR := hBR.tch0 hT83
    have hLc := hL.tch0 hT0
    have hB64 := hB64.tch0 hT83
    have hD75 := hD75.tch0 hT83
    refine zK [0, 1, 2, 3] #[true, true, true, true, false, false, false, false, false, false, false, false, false, false, false, false] [(47, .int .i64 ((madeF N (newM mo) ((ds i).1) ((ds i).2.1) ((ds i).2.2.1) ((ds i).2.2.2.1) ((ds i).2.2.2.2.1) ((ds i).2.2.2.2.2)).1)), (48, .int .i64 ((madeF N (newM mo) ((ds i).1) ((ds i).2.1) ((ds i).2.2.1) ((ds i).2.2.2.1) ((ds i).2.2.2.2.1) ((ds i).2.2.2.2.2)).1)), (49, .bool (((madeF N (newM mo) ((ds i).1) ((ds i).2.1) ((ds i).2.2.1) ((ds i).2.2.2.1) ((ds i).2.2.2.2.1) ((ds i).2.2.2.2.2)).1) != ((madeF N (newM mo) ((ds i).1) ((ds i).2.1) ((ds i).2.2.1) ((ds i).2.2.2.1) ((ds i).2.2.2.2.1) ((ds i).2.2.2.2.2)).1))), (50, .bool (((madeF N (newM mo) ((ds i).1) ((ds i).2.1) ((ds i).2.2.1) ((ds i).2.2.2.1) ((ds i).2.2.2.2.1) ((ds i).2.2.2.2.2)).1) != ((madeF N (newM mo) ((ds i).1) ((ds i).2.1) ((ds i).2.2.1) ((ds i).2.2.2.1) ((ds i).2.2.2.2.1) ((ds i).2.2.2.2.2)).1)))] hBD ?_
    cases hb85 : ((madeF N (newM mo) ((ds i).1) ((ds i).2.1) ((ds i).2.2.1) ((ds i).2.2.2.1) ((ds i).2.2.2.2.1) ((ds i).2.2.2.2.2)).1) != ((madeF N (newM mo) ((ds i).1) ((ds i).2.1) ((ds i).2.2.1) ((ds i).2.2.2.1) ((ds i).2.2.2.2.1) ((ds i).2.2.2.2.2)).1)
    ·
     replace hb85 : (madeF N (newM mo) ((ds i).1) ((ds i).2.1) ((ds i).2.2.1) ((ds i).2.2.2.1) ((ds i).2.2.2.2.1) ((ds i).2.2.2.2.2)).1 = (madeF N (newM mo) ((ds i).1) ((ds i).2.1) ((ds i).2.2.1) ((ds i).2.2.2.1) ((ds i).2.2.2.2.1) ((ds i).2.2.2.2.2)).1 := (bne_eq_false_iff_eq.1 hb85)
     refine zK [4, 5, 6, 7, 8] #[true, true, true, true, true, true, true, true, true, false, false, false, false, false, false, false] [(51, .int .i64 ((madeF N (newM mo) ((ds i).1) ((ds i).2.1) ((ds i).2.2.1) ((ds i).2.2.2.1) ((ds i).2.2.2.2.1) ((ds i).2.2.2.2.2)).2.1)), (52, .int .i64 ((madeF N (newM mo) ((ds i).1) ((ds i).2.1) ((ds i).2.2.1) ((ds i).2.2.2.1) ((ds i).2.2.2.2.1) ((ds i).2.2.2.2.2)).2.1)), (53, .bool (((madeF N (newM mo) ((ds i).1) ((ds i).2.1) ((ds i).2.2.1) ((ds i).2.2.2.1) ((ds i).2.2.2.2.1) ((ds i).2.2.2.2.2)).2.1) != ((madeF N (newM mo) ((ds i).1) ((ds i).2.1) ((ds i).2.2.1) ((ds i).2.2.2.1) ((ds i).2.2.2.2.1) ((ds i).2.2.2.2.2)).2.1))), (54, .bool (((madeF N (newM mo) ((ds i).1) ((ds i).2.1) ((ds i).2.2.1) ((ds i).2.2.2.1) ((ds i).2.2.2.2.1) ((ds i).2.2.2.2.2)).2.1) != ((madeF N (newM mo) ((ds i).1) ((ds i).2.1) ((ds i).2.2.1) ((ds i).2.2.2.1) ((ds i).2.2.2.2.1) ((ds i).2.2.2.2.2)).2.1))), (55, .bool (((madeF N (newM mo) ((ds i).1) ((ds i).2.1) ((ds i).2.2.1) ((ds i).2.2.2.1) ((ds i).2.2.2.2.1) ((ds i).2.2.2.2.2)).2.1) != ((madeF N (newM mo) ((ds i).1) ((ds i).2.1) ((ds i).2.2.1) ((ds i).2.2.2.1) ((ds i).2.2.2.2.1) ((ds i).2.2.2.2.2)).2.1)))] hBD ?_
     cases hb86 : ((madeF N (newM mo) ((ds i).1) ((ds i).2.1) ((ds i).2.2.1) ((ds i).2.2.2.1) ((ds i).2.2.2.2.1) ((ds i).2.2.2.2.2)).2.1) != ((madeF N (newM mo) ((ds i).1) ((ds i).2.1) ((ds i).2.2.1) ((ds i).2.2.2.1) ((ds i).2.2.2.2.1) ((ds i).2.2.2.2.2)).2.1)
     ·
      replace hb86 : (madeF N (newM mo) ((ds i).1) ((ds i).2.1) ((ds i).2.2.1) ((ds i).2.2.2.1) ((ds i).2.2.2.2.1) ((ds i).2.2.2.2.2)).2.1 = (madeF N (newM mo) ((ds i).1) ((ds i).2.1) ((ds i).2.2.1) ((ds i).2.2.2.1) ((ds i).2.2.2.2.1) ((ds i).2.2.2.2.2)).2.1 := (bne_eq_false_iff_eq.1 hb86)
      refine zK [9, 11] #[true, true, true, true, true, true, true, true, true, true, false, true, false, false, false, false] [(56, .pointer (some ⟨p7, 0, none⟩)), (58, .pointer (some ⟨w10.heap.size, 0, none⟩))] hBD ?_
      refine zV 12 rfl (.slice A71 (((madeF N (newM mo) ((ds i).1) ((ds i).2.1) ((ds i).2.2.1) ((ds i).2.2.2.1) ((ds i).2.2.2.2.1) ((ds i).2.2.2.2.2)).2.2).length) cp72) (fun _ hBD => R_load (v := .slice A71 (((madeF N (newM mo) ((ds i).1) ((ds i).2.1) ((ds i).2.2.1) ((ds i).2.2.2.1) ((ds i).2.2.2.2.1) ((ds i).2.2.2.2.2)).2.2).length) cp72) (by kernel_rfl) (by kernel_rfl) ((hBD.cell 0).trans rfl)) hBD ?_
      refine zK [13] #[true, true, true, true, true, true, true, true, true, true, false, true, true, true, false, false] [(60, .int .i64 (((madeF N (newM mo) ((ds i).1) ((ds i).2.1) ((ds i).2.2.1) ((ds i).2.2.2.1) ((ds i).2.2.2.2.1) ((ds i).2.2.2.2.2)).2.2).length : Int))] hBD ?_
      have ln_ := hO.2.ti.len
      have lm_ := hO.2.ti.most
      refine zD 10 rfl (S_call (args := [.pointer (some ⟨p7, 0, none⟩)]) (by kernel_rfl) (len_ok F25 p7 (newM mo) ((madeF N (newM mo) ((ds i).1) ((ds i).2.1) ((ds i).2.2.1) ((ds i).2.2.2.1) ((ds i).2.2.2.2.1) ((ds i).2.2.2.2.2)).2.2) _ _ hO.1 (by omega)) ?_)
      rintro _ w87 ⟨rfl, hT88⟩
      have hT0 := hT0.t0 hT88
      have hO := hO.tch0 hT88
      have hBD := hBD.tch0 hT88
      have hBR := hBR.tch0 hT88
      have hLc := hL.tch0 hT0
      have hB64 := hB64.tch0 hT88
      have hD75 := hD75.tch0 hT88
      refine ⟨hBD, ?_⟩
      refine zK [14, 15] #[true, true, true, true, true, true, true, true, true, true, true, true, true, true, true, true] [(61, .bool ((((madeF N (newM mo) ((ds i).1) ((ds i).2.1) ((ds i).2.2.1) ((ds i).2.2.2.1) ((ds i).2.2.2.2.1) ((ds i).2.2.2.2.2)).2.2).length : Int) != (((madeF N (newM mo) ((ds i).1) ((ds i).2.1) ((ds i).2.2.1) ((ds i).2.2.2.1) ((ds i).2.2.2.2.1) ((ds i).2.2.2.2.2)).2.2).length : Int))), (62, .bool ((((madeF N (newM mo) ((ds i).1) ((ds i).2.1) ((ds i).2.2.1) ((ds i).2.2.2.1) ((ds i).2.2.2.2.1) ((ds i).2.2.2.2.2)).2.2).length : Int) != (((madeF N (newM mo) ((ds i).1) ((ds i).2.1) ((ds i).2.2.1) ((ds i).2.2.2.1) ((ds i).2.2.2.2.1) ((ds i).2.2.2.2.2)).2.2).length : Int)))] hBD ?_
      refine d_done (by kernel_rfl) ?_
      refine zW ((((madeF N (newM mo) ((ds i).1) ((ds i).2.1) ((ds i).2.2.1) ((ds i).2.2.2.1) ((ds i).2.2.2.2.1) ((ds i).2.2.2.2.2)).2.2).length : Int) != (((madeF N (newM mo) ((ds i).1) ((ds i).2.1) ((ds i).2.2.1) ((ds i).2.2.2.1) ((ds i).2.2.2.2.1) ((ds i).2.2.2.2.2)).2.2).length : Int)) (fun hc89 => ?_) (fun hc89 => ?_)
      ·
       replace hc89 : (((madeF N (newM mo) ((ds i).1) ((ds i).2.1) ((ds i).2.2.1) ((ds i).2.2.2.1) ((ds i).2.2.2.2.1) ((ds i).2.2.2.2.2)).2.2).length : Int) ≠ (((madeF N (newM mo) ((ds i).1) ((ds i).2.1) ((ds i).2.2.1) ((ds i).2.2.2.1) ((ds i).2.2.2.2.1) ((ds i).2.2.2.2.2)).2.2).length : Int) := (bne_iff_ne.1 hc89)
       exact absurd rfl hc89
      ·
       replace hc89 : (((madeF N (newM mo) ((ds i).1) ((ds i).2.1) ((ds i).2.2.1) ((ds i).2.2.2.1) ((ds i).2.2.2.2.1) ((ds i).2.2.2.2.2)).2.2).length : Int) = (((madeF N (newM mo) ((ds i).1) ((ds i).2.1) ((ds i).2.2.1) ((ds i).2.2.2.1) ((ds i).2.2.2.2.1) ((ds i).2.2.2.2.2)).2.2).length : Int) := (bne_eq_false_iff_eq.1 hc89)
       refine W_skip ?_
       refine zF [(0, .int .i64 mo), (1, .slice L mm cl), (4, .pointer none), (5, .pointer (some ⟨w.heap.size, 0, none⟩)), (6, .pointer (some ⟨p7, 0, none⟩)), (7, .pointer (some ⟨w10.heap.size, 0, none⟩)), (8, .int .i64 ((i : Nat) : Int)), (9, .int .i64 ((madeF N (newM mo) ((ds i).1) ((ds i).2.1) ((ds i).2.2.1) ((ds i).2.2.2.1) ((ds i).2.2.2.2.1) ((ds i).2.2.2.2.2)).1)), (10, .int .i64 ((madeF N (newM mo) ((ds i).1) ((ds i).2.1) ((ds i).2.2.1) ((ds i).2.2.2.1) ((ds i).2.2.2.2.1) ((ds i).2.2.2.2.2)).2.1)), (11, .pointer (some ⟨w29.heap.size, 0, none⟩)), (12, .int .i64 ((madeF N (newM mo) ((ds i).1) ((ds i).2.1) ((ds i).2.2.1) ((ds i).2.2.2.1) ((ds i).2.2.2.2.1) ((ds i).2.2.2.2.2)).1)), (13, .int .i64 ((madeF N (newM mo) ((ds i).1) ((ds i).2.1) ((ds i).2.2.1) ((ds i).2.2.2.1) ((ds i).2.2.2.2.1) ((ds i).2.2.2.2.2)).2.1)), (24, .bool (decide (((i : Nat) : Int) < (mm : Int)))), (62, .bool ((((madeF N (newM mo) ((ds i).1) ((ds i).2.1) ((ds i).2.2.1) ((ds i).2.2.2.1) ((ds i).2.2.2.2.1) ((ds i).2.2.2.2.2)).2.2).length : Int) != (((madeF N (newM mo) ((ds i).1) ((ds i).2.1) ((ds i).2.2.1) ((ds i).2.2.2.1) ((ds i).2.2.2.2.1) ((ds i).2.2.2.2.2)).2.2).length : Int)))] fun ρ => ?_
       refine zR ?_
       refine zS [(25, .int .i64 ((i : Nat) : Int)), (26, .int .i64 (IntKind.i64.wrap (((i : Nat) : Int) + 1)))] ?_
       rw [show IntKind.i64.wrap (((i : Nat) : Int) + 1) = ((i : Nat) : Int) + 1 from wrap_i64 (by omega) (by omega)]
       refine fixR (y := ((i + 1 : Nat) : Int)) (by omega) ?_
       refine zS [(8, .int .i64 ((i + 1 : Nat) : Int))] ?_
       refine op_nil ?_
       refine ⟨_, ?_, F25, A71, cp72, (madeF N (newM mo) ((ds i).1) ((ds i).2.1) ((ds i).2.2.1) ((ds i).2.2.2.1) ((ds i).2.2.2.2.1) ((ds i).2.2.2.2.2)).2.2, i + 1, _, updL_self (by kernel_rfl), ?_, hFb, nB_hD75, nF_hD75, nF_hBD, nF_hBR, (hQ _ _ _ _ _ _ _ hJ0 hQN), hT0, hO, hBD, hBR, hD75, hLc, rfl⟩
       ·
        omega
       ·
        omega
     ·
      replace hb86 : (madeF N (newM mo) ((ds i).1) ((ds i).2.1) ((ds i).2.2.1) ((ds i).2.2.2.1) ((ds i).2.2.2.2.1) ((ds i).2.2.2.2.2)).2.1 ≠ (madeF N (newM mo) ((ds i).1) ((ds i).2.1) ((ds i).2.2.1) ((ds i).2.2.2.1) ((ds i).2.2.2.2.1) ((ds i).2.2.2.2.2)).2.1 := (bne_iff_ne.1 hb86)
      exact absurd rfl hb86
    ·
     replace hb85 : (madeF N (newM mo) ((ds i).1) ((ds i).2.1) ((ds i).2.2.1) ((ds i).2.2.2.1) ((ds i).2.2.2.2.1) ((ds i).2.2.2.2.2)).1 ≠ (madeF N (newM mo) ((ds i).1) ((ds i).2.1) ((ds i).2.2.1) ((ds i).2.2.2.1) ((ds i).2.2.2.2.1) ((ds i).2.2.2.2.2)).1 := (bne_iff_ne.1 hb85)
     exact absurd rfl hb85
  ·
   replace hc23 : (mm : Int) ≤ ((i : Nat) : Int) := (Int.not_lt.1 (of_decide_eq_false hc23))
   refine W_exit ?_
   refine X_hit ?_
   refine W_seq ?_
   refine W_draw (fun w' => Blk w' (w10.heap.size) 27 [.slice A N.length cp, .int .i64 (newM mo)]) (by kernel_rfl) (by kernel_rfl) (by kernel_rfl) fun w90 hT91 hh92 => ?_
   have hT0 := hT0.t0 hT91
   have hO := hO.tch0 hT91
   have hBD := hBD.tch0 hT91
   have hBR := hBR.tch0 hT91
   have hD := hD.tch0 hT91
   have hLc := hL.tch0 hT0
   refine zK [0, 2] #[true, false, true, false] [(64, .pointer (some ⟨p7, 0, none⟩)), (4, .pointer (some ⟨p7, 0, none⟩))] hBD ?_
   refine zV 1 rfl (.agg #[.slice A N.length cp, .int .i64 (newM mo)]) (fun _ hBD => R_loadA [.slice A N.length cp, .int .i64 (newM mo)] (by kernel_rfl) (by kernel_rfl) (by kernel_rfl) (fun k u hk => by rw [hBD.cell]; exact get_part _ 0 _ k u rfl hk)) hBD ?_
   refine zD 3 rfl (S_storeA (b := w.heap.size) (j := 0) (cs := [.slice A N.length cp, .int .i64 (newM mo)]) (by kernel_rfl) (by kernel_rfl) (by kernel_rfl) (by simp [oneV]) hBR (by simp) fun w93 hT94 hs95 hBR' => ?_)
   have hT0 := (hT0).then hT94 (fun c e => by have : c = w.heap.size := e; omega)
   have hO := hO.tchS hT94 (fun c e q => by cases e; exact nF_hBR q)
   have hBD := hBD.tch hT94 (fun e => by have : w10.heap.size = w.heap.size := e; omega)
   have hD := hD.tch hT94 (fun c hc e => hD.blk_ne hBR (by decide) c hc e)
   have hLc := hL.tch0 hT0
   replace hBR : Blk w93 w.heap.size 27 [.slice A N.length cp, .int .i64 (newM mo)] := hBR'
   refine ⟨hBD, ?_⟩
   refine d_done (by kernel_rfl) ?_
   refine W_ret ?_
   exact ⟨_, Res_tc (b := w.heap.size) (cs := [.slice A N.length cp, .int .i64 (newM mo)]) (by rfl) (by kernel_rfl) (by kernel_rfl) (by kernel_rfl) hBR (by kernel_rfl) (by kernel_rfl), ⟨_, F, A, cp, N, rfl, hQN, hO, hD, hFb, fun c h => ⟨nB_hD c h, nF_hD c h⟩, hT0⟩⟩

end Go.Proofs.YtlbadnpgmkobdaaV

set_option linter.unusedVariables false
set_option linter.unusedSimpArgs false
namespace Go.Proofs.YtlbadnpgmkobdaaV
open Go Go.RowKit Go.Proofs

set_option maxRecDepth 100000 in
theorem digits_ok (n : Nat) (w : World) (hn : n < 18446744073709551616) : Ret Try.prog 68 [.int .u64 ((n : Nat) : Int)] w fun v w' => v = .string (bsT (dgs n)) ∧ Tch N0 w w' := by
 refine enter Try.func68 rfl rfl ?_
 refine zQ ?_
 refine zS [(2, .string (bsT ([])))] ?_
 refine op_nil ?_
 refine zQ ?_
 refine st (by rfl) (S_new (v := .pointer (some ⟨w.heap.size, 0, none⟩)) (ob := .cells #[.int .u8 0, .int .u8 0, .int .u8 0, .int .u8 0, .int .u8 0, .int .u8 0, .int .u8 0, .int .u8 0, .int .u8 0, .int .u8 0, .int .u8 0, .int .u8 0, .int .u8 0, .int .u8 0, .int .u8 0, .int .u8 0, .int .u8 0, .int .u8 0, .int .u8 0, .int .u8 0] 160) (by kernel_rfl) fun w1 hT2 hs3 hB4 => ?_)
 replace hB4 : Blk w1 (w.heap.size) 160 [.int .u8 0, .int .u8 0, .int .u8 0, .int .u8 0, .int .u8 0, .int .u8 0, .int .u8 0, .int .u8 0, .int .u8 0, .int .u8 0, .int .u8 0, .int .u8 0, .int .u8 0, .int .u8 0, .int .u8 0, .int .u8 0, .int .u8 0, .int .u8 0, .int .u8 0, .int .u8 0] := hB4
 have hT0 := hT2
 refine op_nil ?_
 refine zQ ?_
 refine zS [(4, .int .i64 20)] ?_
 refine op_nil ?_
 refine W_seq ?_
 refine W_block ?_
 have hgB : w.heap.size ≤ w.heap.size := by first | omega | (have := hT0.size; omega)
 refine W_loop (fun m ρ w' => ∃ (q i : Nat) (l : Tx) (ρ0 : Env), ρ = updL ρ0 [(0, .int .u64 ((q : Nat) : Int)), (3, .pointer (some ⟨w.heap.size, 0, none⟩)), (4, .int .i64 ((i : Nat) : Int))] ∧ (i + l.length = 20) ∧ (DI n q l) ∧ (q < 18446744073709551616) ∧ Tch N0 w w' ∧ Blk w' (w.heap.size) 160 (zp i ++ u8s l) ∧ m = i + 1) (m := 20 + 1) ?_ ?_
 ·
  refine ⟨n, 20, [], _, updL_self (by kernel_rfl), rfl, DI.first n, hn, hT0, hB4, rfl⟩
 ·
  rintro m ρ w5 ⟨q, i, l, ρ, rfl, hil, hDI, hqn, hT0, hB, rfl⟩
  refine W_seq ?_
  refine zQ ?_
  refine zS [(5, .int .i64 ((i : Nat) : Int)), (6, .bool (((i : Nat) : Int) == 20)), (7, .bool (((i : Nat) : Int) == 20))] ?_
  cases hb6 : ((i : Nat) : Int) == 20
  ·
   replace hb6 : ((i : Nat) : Int) ≠ 20 := (ne_of_beq_false hb6)
   refine zS [(8, .int .u64 ((q : Nat) : Int)), (9, .bool (decide (((q : Nat) : Int) > 0))), (10, .bool (decide (((q : Nat) : Int) > 0)))] ?_
   refine zO (decide (((q : Nat) : Int) > 0)) (fun hc7 => ?_) (fun hc7 => ?_)
   ·
    replace hc7 : 0 < ((q : Nat) : Int) := (of_decide_eq_true hc7)
    refine W_skip ?_
    refine W_block ?_
    refine W_seq ?_
    have hi1 : 1 ≤ i := hDI.room hn hil (by omega)
    have hlm : l = [] ∨ 0 < q := by first | exact .inr (by omega) | exact .inl (List.eq_nil_of_length_eq_zero (by omega))
    refine zR ?_
    refine zS [(11, .int .i64 ((i : Nat) : Int)), (12, .int .i64 (IntKind.i64.wrap (((i : Nat) : Int) - 1)))] ?_
    rw [show IntKind.i64.wrap (((i : Nat) : Int) - 1) = ((i : Nat) : Int) - 1 from wrap_i64 (by omega) (by omega)]
    refine fixR (y := ((i - 1 : Nat) : Int)) (by omega) ?_
    refine zS [(4, .int .i64 ((i - 1 : Nat) : Int))] ?_
    refine op_nil ?_
    refine W_seq ?_
    refine zF [(0, .int .u64 ((q : Nat) : Int)), (3, .pointer (some ⟨w.heap.size, 0, none⟩)), (4, .int .i64 ((i - 1 : Nat) : Int)), (10, .bool (decide (((q : Nat) : Int) > 0)))] fun ρ => ?_
    refine zR ?_
    refine zS [(13, .int .i64 ((i - 1 : Nat) : Int)), (14, .int .u64 ((q : Nat) : Int)), (15, .int .u64 (((q : Nat) : Int).tmod 10))] ?_
    rw [show ((q : Nat) : Int).tmod 10 = ((q : Nat) : Int) % 10 from Int.tmod_eq_emod_of_nonneg (by first | omega | exact Int.natCast_nonneg _)]
    refine zS [(16, .int .u64 (IntKind.u64.wrap (48 + (((q : Nat) : Int) % 10))))] ?_
    rw [show IntKind.u64.wrap (48 + (((q : Nat) : Int) % 10)) = 48 + (((q : Nat) : Int) % 10) from wrap_u64 (by omega) (by omega)]
    refine zS [(17, .int .u8 (IntKind.u8.wrap (48 + (((q : Nat) : Int) % 10))))] ?_
    rw [show IntKind.u8.wrap (48 + (((q : Nat) : Int) % 10)) = 48 + (((q : Nat) : Int) % 10) from wrap_u8 (by omega) (by omega)]
    refine stv (v := .pointer (some ⟨w.heap.size, i - 1, none⟩)) (by rfl) (R_idxP0 (k := .i64) (len := 20) (e := 5) (i - 1) (by kernel_rfl) (by kernel_rfl) (by kernel_rfl) (by kernel_rfl) rfl (by omega)) ?_
    refine st (by rfl) (S_store (b := w.heap.size) (j := i - 1) (v := .int .u8 (48 + (((q : Nat) : Int) % 10))) (by kernel_rfl) (by kernel_rfl) (by kernel_rfl) (by rfl) hB (by rw [List.length_append, zp_length, u8s_length]; omega) fun w8 hT9 hs10 hB' => ?_)
    have hT0 := (hT0).then hT9 (fun c e => by have : c = w.heap.size := e; omega)
    have hB : Blk w8 (w.heap.size) 160 (zp (i - 1) ++ u8s (dg (q % 10) :: l)) := by rw [← zp_set hi1 (dg_int q rfl)]; exact hB'
    refine op_nil ?_
    refine zR ?_
    refine zS [(19, .int .u64 ((q : Nat) : Int)), (20, .int .u64 (IntKind.u64.wrap (((q : Nat) : Int).tdiv 10)))] ?_
    rw [show IntKind.u64.wrap (((q : Nat) : Int).tdiv 10) = ((q : Nat) : Int) / 10 from by rw [Int.tdiv_eq_ediv_of_nonneg (by omega)]; exact wrap_u64 (by omega) (by omega)]
    refine fixR (y := ((q / 10 : Nat) : Int)) (by omega) ?_
    refine zS [(0, .int .u64 ((q / 10 : Nat) : Int))] ?_
    refine op_nil ?_
    refine ⟨_, (by omega), q / 10, i - 1, dg (q % 10) :: l, _, updL_self (by kernel_rfl), (by simp only [List.length_cons]; omega), (hDI.step hlm), (by omega), hT0, hB, rfl⟩
   ·
    replace hc7 : ((q : Nat) : Int) ≤ 0 := (Int.not_lt.1 (of_decide_eq_false hc7))
    refine W_exit ?_
    refine X_hit ?_
    refine zQ ?_
    refine zS [(21, .int .i64 ((i : Nat) : Int))] ?_
    refine stv (v := .slice (some ⟨w.heap.size, i, none⟩) (20 - i) (20 - i)) (by rfl) (R_slP (len := 20) (e := 5) i (by kernel_rfl) (by kernel_rfl) (by kernel_rfl) (by kernel_rfl) rfl (by omega)) ?_
    refine stv (v := .string (bsT l)) (by rfl) (R_b2s (l := l) (len := 20 - i) (cap := 20 - i) (by kernel_rfl) (by kernel_rfl) (by kernel_rfl) (by kernel_rfl) (by omega) (zp_cells hB)) ?_
    refine zS [(2, .string (bsT l))] ?_
    refine op_nil ?_
    refine W_ret ?_
    exact ⟨_, Res_of (v := .string (bsT l)) (by kernel_rfl), ⟨by rw [hDI.last (by rintro rfl; simp at hil; omega) (by omega)], hT0⟩⟩
  ·
   replace hb6 : ((i : Nat) : Int) = 20 := (eq_of_beq hb6)
   refine zS [(8, undef), (9, undef), (10, .bool true)] ?_
   refine zO true (fun _ => ?_) (fun h => nomatch h)
   refine W_skip ?_
   refine W_block ?_
   refine W_seq ?_
   have hi1 : 1 ≤ i := hDI.room hn hil (by omega)
   have hlm : l = [] ∨ 0 < q := by first | exact .inr (by omega) | exact .inl (List.eq_nil_of_length_eq_zero (by omega))
   refine zR ?_
   refine zS [(11, .int .i64 ((i : Nat) : Int)), (12, .int .i64 (IntKind.i64.wrap (((i : Nat) : Int) - 1)))] ?_
   rw [show IntKind.i64.wrap (((i : Nat) : Int) - 1) = ((i : Nat) : Int) - 1 from wrap_i64 (by omega) (by omega)]
   refine fixR (y := ((i - 1 : Nat) : Int)) (by omega) ?_
   refine zS [(4, .int .i64 ((i - 1 : Nat) : Int))] ?_
   refine op_nil ?_
   refine W_seq ?_
   refine zF [(0, .int .u64 ((q : Nat) : Int)), (3, .pointer (some ⟨w.heap.size, 0, none⟩)), (4, .int .i64 ((i - 1 : Nat) : Int)), (10, .bool true)] fun ρ => ?_
   refine zR ?_
   refine zS [(13, .int .i64 ((i - 1 : Nat) : Int)), (14, .int .u64 ((q : Nat) : Int)), (15, .int .u64 (((q : Nat) : Int).tmod 10))] ?_
   rw [show ((q : Nat) : Int).tmod 10 = ((q : Nat) : Int) % 10 from Int.tmod_eq_emod_of_nonneg (by first | omega | exact Int.natCast_nonneg _)]
   refine zS [(16, .int .u64 (IntKind.u64.wrap (48 + (((q : Nat) : Int) % 10))))] ?_
   rw [show IntKind.u64.wrap (48 + (((q : Nat) : Int) % 10)) = 48 + (((q : Nat) : Int) % 10) from wrap_u64 (by omega) (by omega)]
   refine zS [(17, .int .u8 (IntKind.u8.wrap (48 + (((q : Nat) : Int) % 10))))] ?_
   rw [show IntKind.u8.wrap (48 + (((q : Nat) : Int) % 10)) = 48 + (((q : Nat) : Int) % 10) from wrap_u8 (by omega) (by omega)]
   refine stv (v := .pointer (some ⟨w.heap.size, i - 1, none⟩)) (by rfl) (R_idxP0 (k := .i64) (len := 20) (e := 5) (i - 1) (by kernel_rfl) (by kernel_rfl) (by kernel_rfl) (by kernel_rfl) rfl (by omega)) ?_
   refine st (by rfl) (S_store (b := w.heap.size) (j := i - 1) (v := .int .u8 (48 + (((q : Nat) : Int) % 10))) (by kernel_rfl) (by kernel_rfl) (by kernel_rfl) (by rfl) hB (by rw [List.length_append, zp_length, u8s_length]; omega) fun w11 hT12 hs13 hB' => ?_)
   have hT0 := (hT0).then hT12 (fun c e => by have : c = w.heap.size := e; omega)
   have hB : Blk w11 (w.heap.size) 160 (zp (i - 1) ++ u8s (dg (q % 10) :: l)) := by rw [← zp_set hi1 (dg_int q rfl)]; exact hB'
   refine op_nil ?_
   refine zR ?_
   refine zS [(19, .int .u64 ((q : Nat) : Int)), (20, .int .u64 (IntKind.u64.wrap (((q : Nat) : Int).tdiv 10)))] ?_
   rw [show IntKind.u64.wrap (((q : Nat) : Int).tdiv 10) = ((q : Nat) : Int) / 10 from by rw [Int.tdiv_eq_ediv_of_nonneg (by omega)]; exact wrap_u64 (by omega) (by omega)]
   refine fixR (y := ((q / 10 : Nat) : Int)) (by omega) ?_
   refine zS [(0, .int .u64 ((q / 10 : Nat) : Int))] ?_
   refine op_nil ?_
   refine ⟨_, (by omega), q / 10, i - 1, dg (q % 10) :: l, _, updL_self (by kernel_rfl), (by simp only [List.length_cons]; omega), (hDI.step hlm), (by omega), hT0, hB, rfl⟩

set_option maxRecDepth 100000 in
theorem number_ok (n : Nat) (w : World) (hn : n < 9223372036854775808) : Ret Try.prog 69 [.int .i64 ((n : Nat) : Int)] w fun v w' => v = .string (bsT (dgs n)) ∧ Tch N0 w w' := by
 refine enter Try.func69 rfl rfl ?_
 refine zQ ?_
 refine zS [(2, .string (bsT ([])))] ?_
 refine op_nil ?_
 refine zQ ?_
 refine zS [(3, .int .i64 ((n : Nat) : Int)), (4, .int .u64 (IntKind.u64.wrap ((n : Nat) : Int)))] ?_
 rw [show IntKind.u64.wrap ((n : Nat) : Int) = ((n : Nat) : Int) from wrap_u64 (by omega) (by omega)]
 refine zC (digits_ok n _ (by omega)) ?_
 rintro _ w1 ⟨rfl, hT2⟩
 have hT0 := hT2
 refine zS [(2, .string (bsT (dgs n)))] ?_
 refine op_nil ?_
 refine W_ret ?_
 exact ⟨_, Res_of (v := .string (bsT (dgs n))) (by kernel_rfl), ⟨rfl, hT0⟩⟩

end Go.Proofs.YtlbadnpgmkobdaaV

set_option linter.unusedVariables false
set_option linter.unusedSimpArgs false
namespace Go.Proofs.YtlbadnpgmkobdaaV
open Go Go.RowKit Go.Proofs
/-- At most k rounds from here. -/
def Un (P : Program) (n : Nat) (c : Code) (R : Env → World → Prop) (X : Nat → Env → World → Prop) : Nat → Env → World → Prop
 | 0 => fun _ _ => False
 | k + 1 => fun ρ w => W P n c (Un P n c R X k) R X ρ w
section
variable {P : Program} {n : Nat} {c : Code} {N R : Env → World → Prop} {X : Nat → Env → World → Prop} {ρ : Env} {w : World}
theorem Un_s {k : Nat} (h : W P n c (Un P n c R X k) R X ρ w) : Un P n c R X (k + 1) ρ w := h
theorem W_un (k : Nat) (h : Un P n c R X k ρ w) : W P n (.loop c) N R X ρ w :=
 W_loop (fun m ρ w => Un P n c R X m ρ w) (m := k) h fun m ρ w hI => by
  cases m with
  | zero => exact hI.elim
  | succ m => exact W_mono (show W P n c (Un P n c R X m) R X ρ w from hI) (fun ρ' w' q => ⟨m, Nat.lt_succ_self m, q⟩) (fun _ _ q => q) (fun _ _ _ q => q)
end
end Go.Proofs.YtlbadnpgmkobdaaV
