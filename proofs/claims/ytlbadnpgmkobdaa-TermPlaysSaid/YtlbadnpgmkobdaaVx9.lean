/- The calculus' words for maps whose content is told exactly. -/
import Derived.Test.YtlbadnpgmkobdaaVx4
import Derived.DeepKeys4
import Derived.MapKept
import Derived.Maps.Keyed
set_option linter.unusedVariables false
set_option linter.unusedSimpArgs false
namespace Go.Proofs.YtlbadnpgmkobdaaV
open Go Go.RowKit
/-- A map in memory: just these keys and elements. -/
def MapE (P : Program) (k : TypeId) (w : World) (b : Nat) (R : Value → Value → Prop) : Prop :=
  ∃ es clock, w.heap[b]? = some (.map es clock) ∧ (∀ e ∈ es.toList, ∃ l, keyOf P k e.key = some l) ∧ (∀ x y, R x y ↔ ∃ e ∈ es.toList, e.key = x ∧ e.val = y) ∧ (∀ (i j : Nat) (e e' : MapEntry), es.toList[i]? = some e → es.toList[j]? = some e' → e.key = e'.key → i = j)
theorem MapE.lt {P : Program} {k : TypeId} {w : World} {b : Nat} {R : Value → Value → Prop} (h : MapE P k w b R) : b < w.heap.size := by
  obtain ⟨es, clock, hb, _⟩ := h; exact (Array.getElem?_eq_some_iff.1 hb).1
theorem MapE.tch {P : Program} {k : TypeId} {S : Nat → Prop} {w w' : World} {b : Nat} {R : Value → Value → Prop} (h : MapE P k w b R) (t : Tch S w w') (hs : ¬ S b) : MapE P k w' b R := by
  have hl := h.lt
  obtain ⟨es, clock, hb, q⟩ := h; exact ⟨es, clock, (t.block b hl hs).trans hb, q⟩
theorem MapE.tch0 {P : Program} {k : TypeId} {w w' : World} {b : Nat} {R : Value → Value → Prop} (h : MapE P k w b R) (t : Tch N0 w w') : MapE P k w' b R := h.tch t (fun e => e)
theorem MapE.congr {P : Program} {k : TypeId} {w : World} {b : Nat} {R R' : Value → Value → Prop} (h : MapE P k w b R) (hi : ∀ x y, R' x y ↔ R x y) : MapE P k w b R' := by
  obtain ⟨es, clock, hb, q1, q2, q3⟩ := h; exact ⟨es, clock, hb, q1, fun x y => (hi x y).trans (q2 x y), q3⟩
theorem MapE.ne {P : Program} {k : TypeId} {w : World} {b c : Nat} {R : Value → Value → Prop} {t : TypeId} {l : List Value} (h : MapE P k w b R) (hc : Blk w c t l) : b ≠ c := by
  rintro rfl
  obtain ⟨es, clock, hb, q⟩ := h
  unfold Blk at hc
  rw [hb] at hc; cases hc
theorem Own.ne_mapE {P : Program} {k : TypeId} {w : World} {base e sz n b : Nat} {v : Value} {cells : List Value} {R : Value → Value → Prop} (h : Own w base e sz v n cells) (hM : MapE P k w b R) : ∀ c, v.ownBlock = some c → c ≠ b := by
  rintro c hc rfl
  obtain ⟨hl, hc'⟩ := h
  rcases hc' with ⟨hv, _⟩ | ⟨g, cap, cur, hv, _, hgb, _⟩
  · rw [hv] at hc; cases hc
  · rw [hv] at hc
    have : g = c := by injection hc
    subst this
    obtain ⟨es, clock, hb, _⟩ := hM
    rw [hb] at hgb; cases hgb
section
variable {P : Program} {ρ : Env} {w : World} {J : Env → World → Prop}
theorem S_lookupE {d : Option Tmp} {t : TypeId} {m x : Operand} {ty : TypeId} {pos : String} {af : Array Edge} {g : Option (Nat × Bool)} (cm : Bool) (k e : TypeId) (z : Value) {b : Nat} {key : Value} {R : Value → Value → Prop} (K : Go.Maps.Keyed P k)
    (ht : pureR P (underlying t) = some (.map k e)) (hz : pureR P (zeroValue e) = some z) (hm : evR ρ m = .map (some b)) (hx : evR ρ x = key) (hk : ∃ l, keyOf P k key = some l) (hM : MapE P k w b R)
    (h : ∀ v ok, (ok = true ∧ R key v ∨ ok = false ∧ v = z ∧ ∀ y, ¬ R key y) → J (updO ρ d (if cm then .tuple #[v, .bool ok] else v)) w) : Step P ⟨d, .lookup t m x cm, ty, pos, af, g⟩ ρ w J := by
  obtain ⟨es, clock, hb, q1, q2, q3⟩ := hM
  obtain ⟨l, hl⟩ := hk
  have h1 := pureR_run (w := w) ht
  have h2 := pureR_run (w := w) hz
  rcases K.find w hl es.toList q1 with ⟨f1, f2⟩ | ⟨j, e0, f1, f2, f3⟩
  · refine S_val (v := if cm then .tuple #[z, .bool false] else z) (w' := w) ?_ (h z false (.inr ⟨rfl, rfl, fun y hy => ?_⟩))
    · simp only [execOp, hm, hx]
      simp [Instr.lookup, h1, MapKept.run_getObj_map hb, K.check w _ hl, f1, h2, Result.andThen]
    · obtain ⟨e0, he, hk0, _⟩ := (q2 key y).1 hy
      exact f2 e0 he hk0
  · refine S_val (v := if cm then .tuple #[e0.val, .bool true] else e0.val) (w' := w) ?_ (h e0.val true (.inl ⟨rfl, (q2 _ _).2 ⟨e0, List.mem_of_getElem? f2, f3, rfl⟩⟩))
    simp only [execOp, hm, hx]
    simp [Instr.lookup, h1, MapKept.run_getObj_map hb, K.check w _ hl, f1, Result.andThen]
theorem S_updateE {d : Option Tmp} {t : TypeId} {m x y : Operand} {ty : TypeId} {pos : String} {af : Array Edge} {g : Option (Nat × Bool)} (k e : TypeId) {b : Nat} {key val : Value} {R : Value → Value → Prop} (K : Go.Maps.Keyed P k)
    (ht : pureR P (underlying t) = some (.map k e)) (hm : evR ρ m = .map (some b)) (hx : evR ρ x = key) (hy : evR ρ y = val) (hk : ∃ l, keyOf P k key = some l) (hM : MapE P k w b R)
    (h : ∀ w1, Tch (one b) w w1 → w1.heap.size = w.heap.size → MapE P k w1 b (fun x y => (x ≠ key ∧ R x y) ∨ (x = key ∧ y = val)) → J (updO ρ d undef) w1) : Step P ⟨d, .mapUpdate t m x y, ty, pos, af, g⟩ ρ w J := by
  obtain ⟨es, clock, hb, q1, q2, q3⟩ := hM
  obtain ⟨l, hl⟩ := hk
  have h1 := pureR_run (w := w) ht
  have hbl : b < w.heap.size := (Array.getElem?_eq_some_iff.1 hb).1
  have fin : ∀ es' clock', (∀ e ∈ es'.toList, ∃ l, keyOf P k e.key = some l) → (∀ x y, ((x ≠ key ∧ R x y) ∨ (x = key ∧ y = val)) ↔ ∃ e ∈ es'.toList, e.key = x ∧ e.val = y) → (∀ (i j : Nat) (e e' : MapEntry), es'.toList[i]? = some e → es'.toList[j]? = some e' → e.key = e'.key → i = j) → J (updO ρ d undef) { w with heap := w.heap.setIfInBounds b (.map es' clock') } := fun es' clock' p1 p2 p3 => by
    refine h _ ⟨rfl, rfl, rfl, by simp, fun c hc hn => ?_⟩ (by simp) ⟨es', clock', ?_, p1, p2, p3⟩
    · have : b ≠ c := fun e => hn e.symm
      simp [Array.getElem?_setIfInBounds, this]
    · simp [Array.getElem?_setIfInBounds, hbl]
  rcases K.find w hl es.toList q1 with ⟨f1, f2⟩ | ⟨j, e0, f1, f2, f3⟩
  · refine S_skip (w' := { w with heap := w.heap.setIfInBounds b (.map (es.push ⟨key, val, clock⟩) (clock + 1)) }) ?_ (fin _ _ (fun e0 he => ?_) (fun x y => ?_) (fun i j e e' hi hj he => ?_))
    · simp only [execOp, hm, hx, hy]
      simp [Instr.mapUpdate, h1, MapKept.run_getObj_map hb, K.check w false hl, f1, MapKept.run_setObj_map _ hb, Result.andThen]
    · simp only [Array.toList_push, List.mem_append, List.mem_singleton] at he
      rcases he with he | rfl
      · exact q1 e0 he
      · exact ⟨l, hl⟩
    · simp only [Array.toList_push, List.mem_append, List.mem_singleton]
      constructor
      · rintro (⟨hne, hr⟩ | ⟨rfl, rfl⟩)
        · obtain ⟨e0, he, a, c⟩ := (q2 x y).1 hr
          exact ⟨e0, .inl he, a, c⟩
        · exact ⟨_, .inr rfl, rfl, rfl⟩
      · rintro ⟨e0, he | rfl, a, c⟩
        · exact .inl ⟨fun q => f2 e0 he (a.trans q), (q2 x y).2 ⟨e0, he, a, c⟩⟩
        · exact .inr ⟨a.symm, c.symm⟩
    · rw [Array.toList_push] at hi hj
      have key_of : ∀ i e, (es.toList ++ [⟨key, val, clock⟩])[i]? = some e → (i < es.toList.length ∧ es.toList[i]? = some e) ∨ (i = es.toList.length ∧ e = ⟨key, val, clock⟩) := fun i e hi => by
        rcases Nat.lt_or_ge i es.toList.length with q | q
        · rw [List.getElem?_append_left q] at hi; exact .inl ⟨q, hi⟩
        · rw [List.getElem?_append_right q] at hi
          have : i - es.toList.length = 0 := by
            rcases Nat.eq_zero_or_pos (i - es.toList.length) with z | z
            · exact z
            · rw [List.getElem?_eq_none (by simp only [List.length_cons, List.length_nil]; omega)] at hi; cases hi
          rw [this] at hi
          injection hi with hi
          exact .inr ⟨by omega, hi.symm⟩
      rcases key_of i e hi with ⟨a, b1⟩ | ⟨a, b1⟩ <;> rcases key_of j e' hj with ⟨c, d1⟩ | ⟨c, d1⟩
      · exact q3 i j e e' b1 d1 he
      · rw [d1] at he; exact absurd he (f2 e (List.mem_of_getElem? b1))
      · rw [b1] at he; exact absurd he.symm (f2 e' (List.mem_of_getElem? d1))
      · omega
  · have hj : es[j]? = some e0 := by simpa using f2
    refine S_skip (w' := { w with heap := w.heap.setIfInBounds b (.map (es.modify j fun e => { e with key := key, val := val }) clock) }) ?_ (fin _ _ (fun e1 he => ?_) (fun x y => ?_) (fun i j' e e' hi hj' he => ?_))
    · simp only [execOp, hm, hx, hy]
      simp [Instr.mapUpdate, h1, MapKept.run_getObj_map hb, K.check w false hl, f1, MapKept.run_setObj_map _ hb, Result.andThen, hj, f3, K.stays w hl]
    · obtain ⟨i, hi1, rfl⟩ := List.getElem_of_mem he
      simp only [Array.getElem_toList, Array.getElem_modify]
      split
      · exact ⟨l, hl⟩
      · exact q1 _ (by simp)
    · have at_ : ∀ i, (es.modify j fun e => { e with key := key, val := val }).toList[i]? = if i = j then (es.toList[i]?).map (fun e => { e with key := key, val := val }) else es.toList[i]? := fun i => by
        simp only [Array.getElem?_toList, Array.getElem?_modify]
        by_cases q : j = i
        · subst q; simp
        · simp [q, Ne.symm q]
      constructor
      · rintro (⟨hne, hr⟩ | ⟨rfl, rfl⟩)
        · obtain ⟨e1, he, a, c⟩ := (q2 x y).1 hr
          obtain ⟨i, hi, rfl⟩ := List.getElem_of_mem he
          have hij : i ≠ j := fun q => hne (by
            subst q
            rw [List.getElem?_eq_getElem hi] at f2
            injection f2 with f2
            rw [← a, f2, f3])
          refine ⟨_, List.mem_of_getElem? (i := i) ?_, a, c⟩
          rw [at_, if_neg hij, List.getElem?_eq_getElem hi]
        · refine ⟨{ e0 with key := x, val := y }, List.mem_of_getElem? (i := j) ?_, rfl, rfl⟩
          rw [at_, if_pos rfl, f2]; rfl
      · rintro ⟨e1, he, a, c⟩
        obtain ⟨i, hi, e2⟩ := List.getElem_of_mem he
        have e3 : (es.modify j fun e => { e with key := key, val := val }).toList[i]? = some e1 := by rw [List.getElem?_eq_getElem hi, e2]
        rw [at_] at e3
        split at e3
        · rename_i q
          rw [q, f2] at e3
          injection e3 with e3
          subst e3
          exact .inr ⟨a.symm, c.symm⟩
        · rename_i q
          refine .inl ⟨fun z => q (q3 i j e1 e0 e3 f2 (by rw [a, z, f3])), (q2 x y).2 ⟨e1, List.mem_of_getElem? e3, a, c⟩⟩
    · have at_ : ∀ i, (es.modify j fun e => { e with key := key, val := val }).toList[i]? = if i = j then (es.toList[i]?).map (fun e => { e with key := key, val := val }) else es.toList[i]? := fun i => by
        simp only [Array.getElem?_toList, Array.getElem?_modify]
        by_cases q : j = i
        · subst q; simp
        · simp [q, Ne.symm q]
      have kk : ∀ (i : Nat) (e : MapEntry), (es.modify j fun e => { e with key := key, val := val }).toList[i]? = some e → ∃ e1, es.toList[i]? = some e1 ∧ e1.key = e.key := fun i e hi => by
        rw [at_] at hi
        split at hi
        · rename_i q
          rw [q, f2] at hi
          injection hi with hi
          exact ⟨e0, by rw [q]; exact f2, by rw [← hi, f3]⟩
        · exact ⟨e, hi, rfl⟩
      obtain ⟨e1, a1, b1⟩ := kk i e hi
      obtain ⟨e2, a2, b2⟩ := kk j' e' hj'
      exact q3 i j' e1 e2 a1 a2 (by rw [b1, b2]; exact he)
theorem S_makeMapE {d : Option Tmp} {t : TypeId} {ty : TypeId} {pos : String} {af : Array Edge} {g : Option (Nat × Bool)} (k : TypeId)
    (h : ∀ w1, Tch N0 w w1 → w1.heap.size = w.heap.size + 1 → MapE P k w1 w.heap.size (fun _ _ => False) → J (updO ρ d (.map (some w.heap.size))) w1) : Step P ⟨d, .makeMap t none, ty, pos, af, g⟩ ρ w J :=
  S_new (v := .map (some w.heap.size)) (ob := .map #[] 0) rfl fun w1 h1 h2 h3 => h w1 h1 h2 ⟨#[], 0, h3, by simp, by simp, by simp⟩
end
end Go.Proofs.YtlbadnpgmkobdaaV
