/- The calculus' words for maps whose keys are arrays (or whatever has a law of keys). -/
import Derived.Test.YtnlecdpiccgdpaaVx4
import Derived.DeepKeys4
import Derived.MapKept
import Derived.Maps.Keyed
set_option linter.unusedVariables false
set_option linter.unusedSimpArgs false
namespace Go.Proofs.YtnlecdpiccgdpaaV
open Go Go.RowKit

/-- A map in memory, each of whose entries is as I says. -/
def MapB (P : Program) (k : TypeId) (w : World) (b : Nat) (I : Value → Value → Prop) : Prop :=
  ∃ es clock, w.heap[b]? = some (.map es clock) ∧ ∀ e ∈ es.toList, (∃ l, keyOf P k e.key = some l) ∧ I e.key e.val
theorem MapB.lt {P : Program} {k : TypeId} {w : World} {b : Nat} {I : Value → Value → Prop} (h : MapB P k w b I) : b < w.heap.size := by
  obtain ⟨es, clock, hb, _⟩ := h; exact (Array.getElem?_eq_some_iff.1 hb).1
theorem MapB.tch {P : Program} {k : TypeId} {S : Nat → Prop} {w w' : World} {b : Nat} {I : Value → Value → Prop} (h : MapB P k w b I) (t : Tch S w w') (hs : ¬ S b) : MapB P k w' b I := by
  have hl := h.lt
  obtain ⟨es, clock, hb, q⟩ := h; exact ⟨es, clock, (t.block b hl hs).trans hb, q⟩
theorem MapB.tch0 {P : Program} {k : TypeId} {w w' : World} {b : Nat} {I : Value → Value → Prop} (h : MapB P k w b I) (t : Tch N0 w w') : MapB P k w' b I := h.tch t (fun e => e)
theorem MapB.mono {P : Program} {k : TypeId} {w : World} {b : Nat} {I I' : Value → Value → Prop} (h : MapB P k w b I) (hi : ∀ x y, I x y → I' x y) : MapB P k w b I' := by
  obtain ⟨es, clock, hb, q⟩ := h; exact ⟨es, clock, hb, fun e he => ⟨(q e he).1, hi _ _ (q e he).2⟩⟩
theorem MapB.ne {P : Program} {k : TypeId} {w : World} {b c : Nat} {I : Value → Value → Prop} {t : TypeId} {l : List Value} (h : MapB P k w b I) (hc : Blk w c t l) : b ≠ c := by
  rintro rfl
  obtain ⟨es, clock, hb, q⟩ := h
  unfold Blk at hc
  rw [hb] at hc; cases hc
section
variable {P : Program} {ρ : Env} {w : World} {J : Env → World → Prop}
theorem S_lookup {d : Option Tmp} {t : TypeId} {m x : Operand} {ty : TypeId} {pos : String} {af : Array Edge} {g : Option (Nat × Bool)} (k e : TypeId) (z : Value) {b : Nat} {key : Value} {I : Value → Value → Prop} (K : WideMaps.KeyLaw P k)
    (ht : pureR P (underlying t) = some (.map k e)) (hz : pureR P (zeroValue e) = some z) (hm : evR ρ m = .map (some b)) (hx : evR ρ x = key) (hk : ∃ l, keyOf P k key = some l) (hM : MapB P k w b I)
    (h : ∀ v ok, (ok = true ∧ I key v ∨ ok = false ∧ v = z) → J (updO ρ d (.tuple #[v, .bool ok])) w) : Step P ⟨d, .lookup t m x true, ty, pos, af, g⟩ ρ w J := by
  obtain ⟨es, clock, hb, q⟩ := hM
  obtain ⟨l, hl⟩ := hk
  have h1 := pureR_run (w := w) ht
  have h2 := pureR_run (w := w) hz
  rcases K.find w hl es.toList (fun e he => (q e he).1) with ⟨f1, f2⟩ | ⟨j, e0, f1, f2, f3⟩
  · refine S_val (v := .tuple #[z, .bool false]) (w' := w) ?_ (h z false (.inr ⟨rfl, rfl⟩))
    simp only [execOp, hm, hx]
    simp [Instr.lookup, h1, MapKept.run_getObj_map hb, K.check w _ hl, f1, h2, Result.andThen]
  · refine S_val (v := .tuple #[e0.val, .bool true]) (w' := w) ?_ (h e0.val true (.inl ⟨rfl, ?_⟩))
    · simp only [execOp, hm, hx]
      simp [Instr.lookup, h1, MapKept.run_getObj_map hb, K.check w _ hl, f1, Result.andThen]
    · rw [← f3]; exact (q e0 (List.mem_of_getElem? f2)).2
theorem S_mapUpdate {d : Option Tmp} {t : TypeId} {m x y : Operand} {ty : TypeId} {pos : String} {af : Array Edge} {g : Option (Nat × Bool)} (k e : TypeId) {b : Nat} {key val : Value} {I : Value → Value → Prop} (K : WideMaps.KeyLaw P k)
    (ht : pureR P (underlying t) = some (.map k e)) (hm : evR ρ m = .map (some b)) (hx : evR ρ x = key) (hy : evR ρ y = val) (hk : ∃ l, keyOf P k key = some l) (hM : MapB P k w b I) (hi : I key val)
    (h : ∀ w1, Tch (one b) w w1 → w1.heap.size = w.heap.size → MapB P k w1 b I → J (updO ρ d undef) w1) : Step P ⟨d, .mapUpdate t m x y, ty, pos, af, g⟩ ρ w J := by
  obtain ⟨es, clock, hb, q⟩ := hM
  obtain ⟨l, hl⟩ := hk
  have h1 := pureR_run (w := w) ht
  have hbl : b < w.heap.size := (Array.getElem?_eq_some_iff.1 hb).1
  have fin : ∀ es' clock', (∀ e ∈ es'.toList, (∃ l, keyOf P k e.key = some l) ∧ I e.key e.val) → J (updO ρ d undef) { w with heap := w.heap.setIfInBounds b (.map es' clock') } := fun es' clock' q' => by
    refine h _ ⟨rfl, rfl, rfl, by simp, fun c hc hn => ?_⟩ (by simp) ⟨es', clock', ?_, q'⟩
    · have : b ≠ c := fun e => hn e.symm
      simp [Array.getElem?_setIfInBounds, this]
    · simp [Array.getElem?_setIfInBounds, hbl]
  rcases K.find w hl es.toList (fun e he => (q e he).1) with ⟨f1, f2⟩ | ⟨j, e0, f1, f2, f3⟩
  · refine S_skip (w' := { w with heap := w.heap.setIfInBounds b (.map (es.push ⟨key, val, clock⟩) (clock + 1)) }) ?_ (fin _ _ fun e0 he => ?_)
    · simp only [execOp, hm, hx, hy]
      simp [Instr.mapUpdate, h1, MapKept.run_getObj_map hb, K.check w false hl, f1, MapKept.run_setObj_map _ hb, Result.andThen]
    · simp only [Array.toList_push, List.mem_append, List.mem_singleton] at he
      rcases he with he | rfl
      · exact q e0 he
      · exact ⟨⟨l, hl⟩, hi⟩
  · have hj : es[j]? = some e0 := by simpa using f2
    refine S_skip (w' := { w with heap := w.heap.setIfInBounds b (.map (es.modify j fun e => { e with key := key, val := val }) clock) }) ?_ (fin _ _ fun e1 he => ?_)
    · simp only [execOp, hm, hx, hy]
      simp [Instr.mapUpdate, h1, MapKept.run_getObj_map hb, K.check w false hl, f1, MapKept.run_setObj_map _ hb, Result.andThen, hj, f3, K.stays w hl]
    · obtain ⟨i, hi1, rfl⟩ := List.getElem_of_mem he
      simp only [Array.getElem_toList, Array.getElem_modify]
      split
      · exact ⟨⟨l, hl⟩, hi⟩
      · exact q _ (by simp)
theorem S_makeMap {d : Option Tmp} {t : TypeId} {ty : TypeId} {pos : String} {af : Array Edge} {g : Option (Nat × Bool)} (k : TypeId) (I : Value → Value → Prop)
    (h : ∀ w1, Tch N0 w w1 → w1.heap.size = w.heap.size + 1 → MapB P k w1 w.heap.size I → J (updO ρ d (.map (some w.heap.size))) w1) : Step P ⟨d, .makeMap t none, ty, pos, af, g⟩ ρ w J :=
  S_new (v := .map (some w.heap.size)) (ob := .map #[] 0) rfl fun w1 h1 h2 h3 => h w1 h1 h2 ⟨#[], 0, h3, by simp⟩
end
end Go.Proofs.YtnlecdpiccgdpaaV
