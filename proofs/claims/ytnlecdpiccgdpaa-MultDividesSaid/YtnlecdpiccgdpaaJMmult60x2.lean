/- Texts laid together: The calculus' words for regions that draw their order and end with operations that wait for all others: what S says need not hold behind these. The calculus, told shorter: a run tells what it puts. Literals as whole numbers from 0 on: their Nots, their signs, by bits and by halves. Walks of functions of the program and of the document's texts. The conditions stand with each theorem. Walks of functions of the program and of the document's texts. The conditions stand with each theorem. Walks of functions of the program and of the document's texts. The conditions stand with each theorem. Walks of functions of the program and of the document's texts. The conditions stand with each theorem. Walks of functions of the program and of the document's texts. The conditions stand with each theorem. What follows of clauses by clauses of one literal: plain. Gates as clauses: plain laws. The calculus' words for maps whose keys are arrays (or whatever has a law of keys). The law of keys for the map of gates: four whole numbers. Gates in memory: what holds of their blocks, and how it stays. -/
import Derived.Test.YtnlecdpiccgdpaaJMmult60x1
import Derived.Test.YtnlecdpiccgdpaaProg
import Derived.DeepKeys4
import Derived.MapKept
import Derived.Maps.Keyed
set_option linter.unusedVariables false
set_option linter.unusedSimpArgs false
namespace Go.Proofs.YtnlecdpiccgdpaaV
open Go Go.RowKit
/-- Whatever order is picked from here on; S holds behind every operation below k0 that is carried out. -/
def wpAnyT (P : Program) (md : Region.Mode) (ops : Array Oper) (Q : Exit → Act → World → Prop) (S : World → Prop) (k0 : Nat) : Nat → Array Bool → Act → World → Prop
  | 0, listed, a, w => Region.ready md ops listed = [] ∧ Q .normal a w
  | fuel + 1, listed, a, w =>
    (Region.ready md ops listed = [] → Q .normal a w) ∧
    ∀ i ∈ Region.ready md ops listed, wpOp P ops Q i (fun a' w' => (i < k0 → S w') ∧ wpAnyT P md ops Q S k0 fuel (listed.setIfInBounds i true) a' w') a w
section
variable {P : Program} {md : Region.Mode} {ops : Array Oper} {Q : Exit → Act → World → Prop} {S : World → Prop} {k0 : Nat}
theorem wpAny_ofT : ∀ (fuel : Nat) (listed : Array Bool) (a : Act) (w : World), wpAnyT P md ops Q S k0 fuel listed a w → wpAny P md ops Q fuel listed a w
  | 0, _, _, _, h => h
  | fuel + 1, _, _, _, h => ⟨h.1, fun i hi => wpOp_mono (fun a' w' h' => wpAny_ofT fuel _ a' w' h'.2) (h.2 i hi)⟩
/-- Those from k0 on wait for i. -/
def tailW (md : Region.Mode) (ops : Array Oper) (k0 i : Nat) : Bool := (List.range ops.size).all fun j => decide (j < k0) || (match ops[j]? with | some o => o.after.any (fun e => Region.binds md e && e.on == i) | none => true)
theorem tailW_spec {i : Nat} (h : tailW md ops k0 i = true) : ∀ j oj, ops[j]? = some oj → k0 ≤ j → ∃ e ∈ oj.after, Region.binds md e = true ∧ e.on = i := fun j oj hj hk => by
  unfold tailW at h
  rw [List.all_eq_true] at h
  have := h j (by rw [List.mem_range]; exact (Array.getElem?_eq_some_iff.1 hj).1)
  rw [hj] at this
  simp only [Bool.or_eq_true, decide_eq_true_eq] at this
  rcases this with h' | h'
  · omega
  · rw [Array.any_eq_true'] at h'
    obtain ⟨e, he, hb⟩ := h'
    rw [Bool.and_eq_true, beq_iff_eq] at hb
    exact ⟨e, he, hb.1, hb.2⟩
theorem wpAnyT_first {i : Nat} {oi : Oper} {v : Value} (hi : ops[i]? = some oi) (hsel : ∀ (j : Nat) (o : Oper) cs b, ops[j]? = some o → o.op ≠ .select cs b)
    (hQ : ∀ c a w, Q (.panic c) (a.put oi.dst v) w → Q (.panic c) a w) (hT : ∀ j oj, ops[j]? = some oj → k0 ≤ j → ∃ e ∈ oj.after, Region.binds md e = true ∧ e.on = i) :
    ∀ (fuel : Nat) (listed : Array Bool) (a : Act) (w : World),
      (∀ j oj, ops[j]? = some oj → j ≠ i → listed.getD j true = false → (∀ e ∈ oj.after, Region.binds md e = true → e.on ≠ i) → oi.apart ops oj = true) →
      i ∈ Region.ready md ops listed → YieldsIf P ops S oi v a → S w →
      wpAnyT P md ops Q S k0 fuel (listed.setIfInBounds i true) (a.put oi.dst v) w → wpAnyT P md ops Q S k0 (fuel + 1) listed a w := by
  intro fuel
  induction fuel with
  | zero =>
    intro listed a w _ hr hy hS H
    refine ⟨fun h => (by rw [h] at hr; cases hr), fun j hj => ?_⟩
    by_cases hji : j = i
    · subst hji; exact hy.wpOp hi hS ⟨fun _ => hS, H⟩
    · have := ready_mono hj hji
      rw [H.1] at this
      cases this
  | succ fuel ih =>
    intro listed a w hfree hr hy hS H
    refine ⟨fun h => (by rw [h] at hr; cases hr), fun j hj => ?_⟩
    by_cases hji : j = i
    · subst hji; exact hy.wpOp hi hS ⟨fun _ => hS, H⟩
    · have h1 := H.2 j (ready_mono hj hji)
      obtain ⟨hjun, oj, hoj, hall⟩ := mem_ready.1 hj
      have hnot : ∀ e ∈ oj.after, Region.binds md e = true → e.on ≠ i := fun e he hb heq => by
        have h1 := hall e he hb
        have h0 := (mem_ready.1 hr).1
        rw [heq] at h1
        rcases Nat.lt_or_ge i listed.size with h' | h'
        · simp [h'] at h0 h1; rw [h0] at h1; cases h1
        · simp [Array.getElem?_eq_none h'] at h1
      have hjk : j < k0 := by
        rcases Nat.lt_or_ge j k0 with h' | h'
        · exact h'
        · obtain ⟨e, he, hb, heq⟩ := hT j oj hoj h'
          exact absurd heq (hnot e he hb)
      have h2 := wpOp_putIf hoj (hfree j oj hoj hji hjun hnot) (fun cs b => hsel i oi cs b hi) (fun cs b => hsel j oj cs b hoj) hQ hy h1
      have hfree' : ∀ k ok, ops[k]? = some ok → k ≠ i → (listed.setIfInBounds j true).getD k true = false →
          (∀ e ∈ ok.after, Region.binds md e = true → e.on ≠ i) → oi.apart ops ok = true := fun k ok hk hki hun hno => by
        refine hfree k ok hk hki ?_ hno
        by_cases hjk : j = k
        · subst hjk; exact hjun
        · rw [getD_set_ne true hjk] at hun; exact hun
      refine wpOp_mono (fun a' w' h3 => ⟨h3.2.1, ih (listed.setIfInBounds j true) a' w' hfree' (ready_mono hr (Ne.symm hji)) h3.1 (h3.2.1 hjk) ?_⟩) h2
      rw [Array.setIfInBounds_comm _ _ hji]
      exact h3.2.2
end
def tAny (P : Program) (n : Nat) (ops : Array Oper) (N : Env → World → Prop) (S : World → Prop) (k0 : Nat) (listed : Array Bool) (ρ : Env) (w : World) : Prop :=
  okOps n ops = true ∧ Region.noSelect ops = true → wpAnyT P .any ops (QD n N) S k0 (listed.toList.count false) listed (Fr n ρ) w
section
variable {P : Program} {n : Nat} {ops : Array Oper} {N : Env → World → Prop} {S : World → Prop} {k0 : Nat} {listed : Array Bool} {ρ : Env} {w : World} {R : Env → World → Prop} {X : Nat → Env → World → Prop}
theorem W_drawT {i : Nat} (S : World → Prop) (k0 : Nat) (hn : okOps n ops = true) (hs : Region.noSelect ops = true) (hm : P.follows .mixedOrders = true)
    (h : ∀ w1, Tch N0 w w1 → w1.heap = w.heap → tAny P n ops N S k0 (Array.replicate ops.size false) ρ w1) : W P n (.region i ops true) N R X ρ w := by
  have h1 := h { w with drawn := w.drawn + 1 } ⟨rfl, rfl, rfl, Nat.le_refl _, fun _ _ _ => rfl⟩ rfl ⟨hn, hs⟩
  have e : (Array.replicate ops.size false).toList.count false = ops.size := by simp
  rw [e] at h1
  refine wp_mono (wp_region_any (Q := QD n N) hm (wpAny_ofT _ _ _ _ h1)) fun e a w' hq => ?_
  obtain ⟨rfl, ρ, rfl, hn⟩ := hq
  exact ⟨ρ, rfl, hn⟩
theorem t_val (i : Nat) {o : Oper} {v : Value} (hT : tailW .any ops k0 i = true) (ho : ops[i]? = some o) (hf : Region.free .any ops listed i = true) (hr : (Region.ready .any ops listed).contains i = true) (hw : wantedR ops ρ o = true)
    (hv : ∀ w', S w' → (execOp (evR ρ) o).run P w' = .ok (.value v) w') (hS : S w) (k : tAny P n ops N S k0 (listed.setIfInBounds i true) (updO ρ o.dst v) w) : tAny P n ops N S k0 listed ρ w := fun hh => by
  have hri : i ∈ Region.ready .any ops listed := by simpa using hr
  rw [count_listed (ready_unlisted hri)]
  refine wpAnyT_first (v := v) ho (Region.noSelect_spec hh.2) (fun c a w h => absurd h.1 (by simp)) (tailW_spec hT) _ _ _ _ (Region.free_spec ho hf) hri (.inl ⟨by rw [wanted_Fr hh.1]; exact hw, fun w' hs => ?_⟩) hS ?_
  · rw [exec_Fr (okOps_at hh.1 ho)]; exact hv w' hs
  · rw [d_put hh.1 ho]; exact k hh
theorem t_off (i : Nat) {o : Oper} (hT : tailW .any ops k0 i = true) (ho : ops[i]? = some o) (hf : Region.free .any ops listed i = true) (hr : (Region.ready .any ops listed).contains i = true) (hw : wantedR ops ρ o = false)
    (hS : S w) (k : tAny P n ops N S k0 (listed.setIfInBounds i true) (updO ρ o.dst undef) w) : tAny P n ops N S k0 listed ρ w := fun hh => by
  have hri : i ∈ Region.ready .any ops listed := by simpa using hr
  rw [count_listed (ready_unlisted hri)]
  refine wpAnyT_first ho (Region.noSelect_spec hh.2) (fun c a w h => absurd h.1 (by simp)) (tailW_spec hT) _ _ _ _ (Region.free_spec ho hf) hri (.inr ⟨by rw [wanted_Fr hh.1]; exact hw, rfl⟩) hS ?_
  rw [d_put hh.1 ho]; exact k hh
def takeT (P : Program) (ops : Array Oper) (k0 : Nat) : List Nat → Array Bool → Env → Option (Array Bool × Env)
  | [], listed, ρ => some (listed, ρ)
  | i :: is, listed, ρ =>
    match ops[i]? with
    | none => none
    | some o => cond (Region.free .any ops listed i && (Region.ready .any ops listed).contains i && tailW .any ops k0 i)
        (cond (wantedR ops ρ o) (match plainV P ρ o with | some v => takeT P ops k0 is (listed.setIfInBounds i true) (updO ρ o.dst v) | none => none)
          (takeT P ops k0 is (listed.setIfInBounds i true) (updO ρ o.dst undef))) none
theorem t_takes (is : List Nat) {listed' : Array Bool} {ρ' : Env} (hS : S w) : ∀ {listed : Array Bool} {ρ : Env}, takeT P ops k0 is listed ρ = some (listed', ρ') → tAny P n ops N S k0 listed' ρ' w → tAny P n ops N S k0 listed ρ w := by
  induction is with
  | nil => intro listed ρ h k; simp only [takeT, Option.some.injEq, Prod.mk.injEq] at h; obtain ⟨rfl, rfl⟩ := h; exact k
  | cons i is ih =>
    intro listed ρ h k
    simp only [takeT] at h
    cases ho : ops[i]? with
    | none => rw [ho] at h; cases h
    | some o =>
      rw [ho] at h
      cases hfr : (Region.free .any ops listed i && (Region.ready .any ops listed).contains i && tailW .any ops k0 i) with
      | false => simp only [hfr, cond_false] at h; cases h
      | true =>
        simp only [hfr, cond_true] at h
        rw [Bool.and_eq_true, Bool.and_eq_true] at hfr
        cases hw : wantedR ops ρ o with
        | true =>
          simp only [hw, cond_true] at h
          cases hv : plainV P ρ o with
          | none => rw [hv] at h; cases h
          | some v =>
            rw [hv] at h
            exact t_val i hfr.2 ho hfr.1.1 hfr.1.2 hw (fun w' _ => plainV_run hv w') hS (ih h k)
        | false =>
          simp only [hw, cond_false] at h
          exact t_off i hfr.2 ho hfr.1.1 hfr.1.2 hw hS (ih h k)
theorem t_step {i : Nat} {o : Oper} (hn : okOps n ops = true) (hs : Region.noSelect ops = true) (ho : ops[i]? = some o) (hu : listed.getD i true = false) (hw : wantedR ops ρ o = true)
    (h : Step P o ρ w (fun ρ' w' => (i < k0 → S w') ∧ tAny P n ops N S k0 (listed.setIfInBounds i true) ρ' w')) :
    wpOp P ops (QD n N) i (fun a' w' => (i < k0 → S w') ∧ wpAnyT P .any ops (QD n N) S k0 ((listed.setIfInBounds i true).toList.count false) (listed.setIfInBounds i true) a' w') (Fr n ρ) w := by
  unfold wpOp
  simp only [ho]
  rw [wanted_Fr hn, if_pos hw]
  exact .inl (Oper.wp_mono (fun a w' ⟨ρ', ha, h1, h2⟩ => by subst ha; exact ⟨h1, h2 ⟨hn, hs⟩⟩) (Step.wp (okOps_at hn ho) h))
theorem wpAnyT_all {rs : List Nat} {fuel : Nat} {listed : Array Bool} {a : Act} {w : World} {Q : Exit → Act → World → Prop} {md : Region.Mode} (hr : Region.ready md ops listed = rs) (hne : rs ≠ [])
    (h : ∀ i ∈ rs, wpOp P ops Q i (fun a' w' => (i < k0 → S w') ∧ wpAnyT P md ops Q S k0 fuel (listed.setIfInBounds i true) a' w') a w) : wpAnyT P md ops Q S k0 (fuel + 1) listed a w :=
  ⟨fun h0 => absurd (hr ▸ h0) hne, hr ▸ h⟩
theorem t_one (i : Nat) {o : Oper} (hr : Region.ready .any ops listed = [i]) (ho : ops[i]? = some o) (hw : wantedR ops ρ o = true)
    (h : Step P o ρ w (fun ρ' w' => (i < k0 → S w') ∧ tAny P n ops N S k0 (listed.setIfInBounds i true) ρ' w')) : tAny P n ops N S k0 listed ρ w := fun hh => by
  have hu := ready_unlisted (ops := ops) (listed := listed) (i := i) (by rw [hr]; simp)
  rw [count_listed hu]
  refine wpAnyT_all hr (by simp) fun j hj => ?_
  obtain rfl : j = i := by simpa using hj
  exact t_step hh.1 hh.2 ho hu hw h
/-- A plain operation, where only it may come up. -/
theorem t_plain (i : Nat) {o : Oper} (v : Value) (hr : Region.ready .any ops listed = [i]) (ho : ops[i]? = some o) (hw : wantedR ops ρ o = true) (hv : plainV P ρ o = some v) (hS : S w)
    (h : tAny P n ops N S k0 (listed.setIfInBounds i true) (updO ρ o.dst v) w) : tAny P n ops N S k0 listed ρ w := t_one i hr ho hw (S_val (plainV_run hv w) ⟨fun _ => hS, h⟩)
theorem t_plainT (i : Nat) {o : Oper} (v : Value) (hr : Region.ready .any ops listed = [i]) (ho : ops[i]? = some o) (hw : wantedR ops ρ o = true) (hv : plainV P ρ o = some v) (hk : Nat.ble k0 i = true)
    (h : tAny P n ops N S k0 (listed.setIfInBounds i true) (updO ρ o.dst v) w) : tAny P n ops N S k0 listed ρ w := t_one i hr ho hw (S_val (plainV_run hv w) ⟨fun q => absurd (Nat.le_of_ble_eq_true hk) (by omega), h⟩)
theorem t_two (i j : Nat) {o u : Oper} (hr : Region.ready .any ops listed = [i, j]) (ho : ops[i]? = some o) (hu : ops[j]? = some u) (hw : wantedR ops ρ o = true) (hw2 : wantedR ops ρ u = true)
    (h : Step P o ρ w (fun ρ' w' => (i < k0 → S w') ∧ tAny P n ops N S k0 (listed.setIfInBounds i true) ρ' w'))
    (h2 : Step P u ρ w (fun ρ' w' => (j < k0 → S w') ∧ tAny P n ops N S k0 (listed.setIfInBounds j true) ρ' w')) : tAny P n ops N S k0 listed ρ w := fun hh => by
  have hui := ready_unlisted (ops := ops) (listed := listed) (i := i) (by rw [hr]; simp)
  have huj := ready_unlisted (ops := ops) (listed := listed) (i := j) (by rw [hr]; simp)
  have e : (listed.setIfInBounds i true).toList.count false = (listed.setIfInBounds j true).toList.count false := by
    have a := count_listed hui
    have b := count_listed huj
    omega
  rw [count_listed hui]
  refine wpAnyT_all hr (by simp) fun k hk => ?_
  rcases List.mem_cons.1 hk with rfl | hk
  · exact t_step hh.1 hh.2 ho hui hw h
  · obtain rfl : k = j := by simpa using hk
    rw [e]
    exact t_step hh.1 hh.2 hu huj hw2 h2
theorem t_three (i j m : Nat) {o u x : Oper} (hr : Region.ready .any ops listed = [i, j, m]) (ho : ops[i]? = some o) (hu : ops[j]? = some u) (hx : ops[m]? = some x) (hw : wantedR ops ρ o = true) (hw2 : wantedR ops ρ u = true) (hw3 : wantedR ops ρ x = true)
    (h : Step P o ρ w (fun ρ' w' => (i < k0 → S w') ∧ tAny P n ops N S k0 (listed.setIfInBounds i true) ρ' w'))
    (h2 : Step P u ρ w (fun ρ' w' => (j < k0 → S w') ∧ tAny P n ops N S k0 (listed.setIfInBounds j true) ρ' w'))
    (h3 : Step P x ρ w (fun ρ' w' => (m < k0 → S w') ∧ tAny P n ops N S k0 (listed.setIfInBounds m true) ρ' w')) : tAny P n ops N S k0 listed ρ w := fun hh => by
  have hui := ready_unlisted (ops := ops) (listed := listed) (i := i) (by rw [hr]; simp)
  have huj := ready_unlisted (ops := ops) (listed := listed) (i := j) (by rw [hr]; simp)
  have hum := ready_unlisted (ops := ops) (listed := listed) (i := m) (by rw [hr]; simp)
  have a := count_listed hui
  have b := count_listed huj
  have c := count_listed hum
  have e : (listed.setIfInBounds i true).toList.count false = (listed.setIfInBounds j true).toList.count false := by omega
  have e2 : (listed.setIfInBounds i true).toList.count false = (listed.setIfInBounds m true).toList.count false := by omega
  rw [count_listed hui]
  refine wpAnyT_all hr (by simp) fun k hk => ?_
  rcases List.mem_cons.1 hk with rfl | hk
  · exact t_step hh.1 hh.2 ho hui hw h
  · rcases List.mem_cons.1 hk with rfl | hk
    · rw [e]; exact t_step hh.1 hh.2 hu huj hw2 h2
    · obtain rfl : k = m := by simpa using hk
      rw [e2]; exact t_step hh.1 hh.2 hx hum hw3 h3
theorem t_done (hr : Region.ready .any ops listed = []) (h : N ρ w) : tAny P n ops N S k0 listed ρ w := fun _ => by
  cases (listed.toList.count false) with
  | zero => exact ⟨hr, rfl, ρ, rfl, h⟩
  | succ m => exact ⟨fun _ => ⟨rfl, ρ, rfl, h⟩, by rw [hr]; simp⟩
end
end Go.Proofs.YtnlecdpiccgdpaaV

set_option linter.unusedVariables false
set_option linter.unusedSimpArgs false
namespace Go.Proofs.YtnlecdpiccgdpaaV
open Go Go.RowKit Go.Proofs
/-- A frame into which these are put, one after the other. -/
@[reducible] def ups (ρ : Env) : List (Nat × Value) → Env
  | [] => ρ
  | p :: l => ups (upd ρ p.1 p.2) l
section
variable {P : Program} {ops : Array Oper} {K : Env → World → Prop} {ρ : Env} {w : World}
theorem sg (vs : List (Nat × Value)) {L : List Oper} (h : segR P ops (L.take vs.length) ρ = some (ups ρ vs)) (k : rOps P ops K (L.drop vs.length) (ups ρ vs) w) : rOps P ops K L ρ w := by
  have := seg_app (P := P) (ops := ops) (K := K) (L.take vs.length) h k
  rwa [List.take_append_drop] at this
theorem fixR {b : Env} {d : Nat} {kd : IntKind} {x y : Int} {L : List Oper} (e : x = y) (k : rOps P ops K L (upd b d (.int kd y)) w) : rOps P ops K L (upd b d (.int kd x)) w := by rw [e]; exact k
end
section
variable {P : Program} {ops : Array Oper} {K : Env → Prop} {ρ : Env} {w : World}
theorem qsg (vs : List (Nat × Value)) {L : List Oper} (h : segR P ops (L.take vs.length) ρ = some (ups ρ vs)) (k : qOps P ops w K (L.drop vs.length) (ups ρ vs)) : qOps P ops w K L ρ := by
  have := qseg_app (P := P) (ops := ops) (K := K) (L.take vs.length) h k
  rwa [List.take_append_drop] at this
theorem fixQ {b : Env} {d : Nat} {kd : IntKind} {x y : Int} {L : List Oper} (e : x = y) (k : qOps P ops w K L (upd b d (.int kd y))) : qOps P ops w K L (upd b d (.int kd x)) := by rw [e]; exact k
end
section
variable {P : Program} {n : Nat} {ops : Array Oper} {N : Env → World → Prop} {S : World → Prop} {listed : Array Bool} {ρ : Env} {w : World}
theorem dtk (is : List Nat) (listed' : Array Bool) (vs : List (Nat × Value)) (hS : S w) (h : takeR P ops is listed ρ = some (listed', ups ρ vs)) (k : dAny P n ops N S listed' (ups ρ vs) w) : dAny P n ops N S listed ρ w := d_takes is hS h k
theorem ttk {k0 : Nat} (is : List Nat) (listed' : Array Bool) (vs : List (Nat × Value)) (hS : S w) (h : takeT P ops k0 is listed ρ = some (listed', ups ρ vs)) (k : tAny P n ops N S k0 listed' (ups ρ vs) w) : tAny P n ops N S k0 listed ρ w := t_takes is hS h k
theorem fixD {b : Env} {d : Nat} {kd : IntKind} {x y : Int} (e : x = y) (k : dAny P n ops N S listed (upd b d (.int kd y)) w) : dAny P n ops N S listed (upd b d (.int kd x)) w := by rw [e]; exact k
theorem fixT {k0 : Nat} {b : Env} {d : Nat} {kd : IntKind} {x y : Int} (e : x = y) (k : tAny P n ops N S k0 listed (upd b d (.int kd y)) w) : tAny P n ops N S k0 listed (upd b d (.int kd x)) w := by rw [e]; exact k
end
end Go.Proofs.YtnlecdpiccgdpaaV

set_option linter.unusedVariables false
set_option linter.unusedSimpArgs false
namespace GateP
/-- The other literal. -/
def nt (x : Nat) : Nat := if x % 2 = 0 then x + 1 else x - 1
theorem xor_one (x : Nat) : x ^^^ 1 = nt x := by
  have h1 : (x ^^^ 1) / 2 = x / 2 := by
    rw [Nat.xor_div_two]; simp
  have h2 : (x ^^^ 1) % 2 = (x + 1) % 2 := by
    rw [← Nat.and_one_is_mod, Nat.and_xor_distrib_right]
    have h3 : x % 2 = 0 ∨ x % 2 = 1 := by omega
    rw [Nat.and_one_is_mod]
    rcases h3 with h3 | h3 <;> simp [h3] <;> omega
  unfold nt
  split <;> omega
theorem and_one (x : Nat) : x &&& 1 = x % 2 := Nat.and_one_is_mod x
theorem nt_lt {x n : Nat} (h : x < 2 * n) : nt x < 2 * n := by unfold nt; split <;> omega
theorem nt_nt (x : Nat) : nt (nt x) = x := by unfold nt; split <;> split <;> omega
theorem nt_div (x : Nat) : nt x / 2 = x / 2 := by unfold nt; split <;> omega
theorem nt_mod (x : Nat) : nt x % 2 = 1 - x % 2 := by unfold nt; split <;> omega
open Go in
theorem bv_nat (x : Nat) (h : x < 9223372036854775808) : (BitVec.ofInt 64 (x : Int)).toNat = x := by
  rw [BitVec.ofInt_natCast, BitVec.toNat_ofNat, Nat.mod_eq_of_lt (by omega)]
open Go in
theorem not_i64 (x : Nat) (h : x < 9223372036854775808) : IntKind.i64.wrap ((BitVec.ofInt 64 (x : Int) ^^^ BitVec.ofInt 64 1).toNat : Int) = ((nt x : Nat) : Int) := by
  have e : (BitVec.ofInt 64 (x : Int) ^^^ BitVec.ofInt 64 1).toNat = nt x := by
    rw [BitVec.toNat_xor, bv_nat x (by omega), show (BitVec.ofInt 64 1).toNat = 1 from rfl, xor_one]
  have h2 : nt x < 9223372036854775808 := by unfold nt; split <;> omega
  rw [e, IntKind.wrap_i64]; omega
open Go in
theorem and_i64 (x : Nat) (h : x < 9223372036854775808) : IntKind.i64.wrap ((BitVec.ofInt 64 (x : Int) &&& BitVec.ofInt 64 1).toNat : Int) = ((x % 2 : Nat) : Int) := by
  have e : (BitVec.ofInt 64 (x : Int) &&& BitVec.ofInt 64 1).toNat = x % 2 := by
    rw [BitVec.toNat_and, bv_nat x (by omega), show (BitVec.ofInt 64 1).toNat = 1 from rfl, and_one]
  rw [e, IntKind.wrap_i64]; omega
end GateP

set_option linter.unusedVariables false
set_option linter.unusedSimpArgs false
namespace Go.Proofs.YtnlecdpiccgdpaaV
open Go Go.RowKit Go.Proofs

theorem shr_nat (x : Nat) : ((x : Int)).fdiv (2 ^ 1) = ((x / 2 : Nat) : Int) := by rw [Int.fdiv_eq_ediv_of_nonneg _ (by decide)]; omega
theorem odd_eq (x : Nat) : ((((x % 2 : Nat) : Int)) == 1) = decide (x % 2 = 1) := by
  have h : x % 2 = 0 ∨ x % 2 = 1 := by omega
  rcases h with h | h <;> simp [h]

set_option maxRecDepth 100000 in
theorem of_ok (x : Nat) (w : World) (hx : x < 9223372036854775808) : Ret Try.prog 79 [.int .i64 ((x : Nat) : Int)] w fun v w' => v = .agg #[.int .i64 ((x / 2 : Nat) : Int), .bool (decide (x % 2 = 1))] ∧ Tch N0 w w' := by
  refine enter Try.func79 rfl rfl ?_
  refine W_seq ?_
  refine W_region (by kernel_rfl) ?_
  refine st (by rfl) (S_new (v := .pointer (some ⟨w.heap.size, 0, none⟩)) (ob := .cells #[.int .i64 0, .bool false] 104) (by kernel_rfl) fun w1 hT2 hs3 hB4 => ?_)
  replace hB4 : Blk w1 (w.heap.size) 104 [.int .i64 0, .bool false] := hB4
  have hT0 := hT2
  refine op_nil ?_
  refine W_seq ?_
  refine W_seq ?_
  refine W_region (by kernel_rfl) ?_
  refine sg [(3, .int .i64 ((x : Nat) : Int)), (4, .bool (decide (((x : Nat) : Int) < 0)))] (by kernel_rfl) ?_
  refine op_nil ?_
  refine W_cond (decide (((x : Nat) : Int) < 0)) (by kernel_rfl) (by kernel_rfl) (fun hc5 => ?_) (fun hc5 => ?_)
  · replace hc5 : ((x : Nat) : Int) < 0 := (of_decide_eq_true hc5)
    exfalso; omega
  · replace hc5 : 0 ≤ ((x : Nat) : Int) := (Int.not_lt.1 (of_decide_eq_false hc5))
    refine W_skip ?_
    refine W_seq ?_
    refine W_region (by kernel_rfl) ?_
    refine sg [(6, .int .i64 ((x : Nat) : Int))] (by kernel_rfl) ?_
    refine sg [(7, .int .i64 (((x : Nat) : Int).fdiv (2 ^ 1)))] (by kernel_rfl) ?_
    rw [shr_nat x]
    refine sg [(8, .int .i64 ((x : Nat) : Int))] (by kernel_rfl) ?_
    refine sg [(9, .int .i64 (IntKind.i64.wrap (BitVec.ofInt 64 ((x : Nat) : Int) &&& BitVec.ofInt 64 1).toNat))] (by kernel_rfl) ?_
    rw [GateP.and_i64 x (by omega)]
    refine sg [(10, .bool (((x % 2 : Nat) : Int) == 1))] (by kernel_rfl) ?_
    rw [odd_eq x]
    refine sg [(11, .agg #[.int .i64 ((x / 2 : Nat) : Int), .bool (decide (x % 2 = 1))])] (by kernel_rfl) ?_
    refine st (by rfl) (S_storeA (b := w.heap.size) (j := 0) (cs := [.int .i64 ((x / 2 : Nat) : Int), .bool (decide (x % 2 = 1))]) (by kernel_rfl) (by kernel_rfl) (by kernel_rfl) (by simp [oneV]) hB4 (by simp) fun w6 hT7 hs8 hB4' => ?_)
    have hT0 := (hT0).then hT7 (fun c e => by have : c = w.heap.size := e; omega)
    replace hB4 : Blk w6 w.heap.size 104 [.int .i64 ((x / 2 : Nat) : Int), .bool (decide (x % 2 = 1))] := hB4'
    refine op_nil ?_
    refine W_ret ?_
    exact ⟨_, Res_cell (b := w.heap.size) (cs := [.int .i64 ((x / 2 : Nat) : Int), .bool (decide (x % 2 = 1))]) (by rfl) (by kernel_rfl) (by kernel_rfl) hB4 (by kernel_rfl) (by kernel_rfl), ⟨rfl, hT0⟩⟩

set_option maxRecDepth 100000 in
theorem var_ok (x : Nat) (w : World) (hx : x < 9223372036854775808) : Ret Try.prog 77 [.int .i64 ((x : Nat) : Int)] w fun v w' => v = .int .i64 ((x / 2 : Nat) : Int) ∧ Tch N0 w w' := by
  refine enter Try.func77 rfl rfl ?_
  refine W_seq ?_
  refine W_region (by kernel_rfl) ?_
  refine sg [(2, .int .i64 0)] (by kernel_rfl) ?_
  refine op_nil ?_
  refine W_seq ?_
  refine W_region (by kernel_rfl) ?_
  refine sg [(3, .int .i64 ((x : Nat) : Int))] (by kernel_rfl) ?_
  refine st (by rfl) (S_call (args := [.int .i64 ((x : Nat) : Int)]) (by kernel_rfl) (of_ok x _ (by omega)) ?_)
  rintro _ w1 ⟨rfl, hT2⟩
  have hT0 := hT2
  refine sg [(5, .int .i64 ((x / 2 : Nat) : Int)), (2, .int .i64 ((x / 2 : Nat) : Int))] (by kernel_rfl) ?_
  refine op_nil ?_
  refine W_ret ?_
  exact ⟨_, Res_of (v := .int .i64 ((x / 2 : Nat) : Int)) (by kernel_rfl), ⟨rfl, hT0⟩⟩

set_option maxRecDepth 100000 in
theorem neg_ok (x : Nat) (w : World) (hx : x < 9223372036854775808) : Ret Try.prog 58 [.int .i64 ((x : Nat) : Int)] w fun v w' => v = .bool (decide (x % 2 = 1)) ∧ Tch N0 w w' := by
  refine enter Try.func58 rfl rfl ?_
  refine W_seq ?_
  refine W_region (by kernel_rfl) ?_
  refine sg [(2, .bool false)] (by kernel_rfl) ?_
  refine op_nil ?_
  refine W_seq ?_
  refine W_region (by kernel_rfl) ?_
  refine sg [(3, .int .i64 ((x : Nat) : Int))] (by kernel_rfl) ?_
  refine st (by rfl) (S_call (args := [.int .i64 ((x : Nat) : Int)]) (by kernel_rfl) (of_ok x _ (by omega)) ?_)
  rintro _ w1 ⟨rfl, hT2⟩
  have hT0 := hT2
  refine sg [(5, .bool (decide (x % 2 = 1))), (2, .bool (decide (x % 2 = 1)))] (by kernel_rfl) ?_
  refine op_nil ?_
  refine W_ret ?_
  exact ⟨_, Res_of (v := .bool (decide (x % 2 = 1))) (by kernel_rfl), ⟨rfl, hT0⟩⟩

set_option maxRecDepth 100000 in
theorem not_ok (x : Nat) (w : World) (hx : x < 9223372036854775808) : Ret Try.prog 56 [.int .i64 ((x : Nat) : Int)] w fun v w' => v = .int .i64 ((GateP.nt x : Nat) : Int) ∧ Tch N0 w w' := by
  refine enter Try.func56 rfl rfl ?_
  refine W_seq ?_
  refine W_region (by kernel_rfl) ?_
  refine sg [(2, .int .i64 0)] (by kernel_rfl) ?_
  refine op_nil ?_
  refine W_seq ?_
  refine W_seq ?_
  refine W_region (by kernel_rfl) ?_
  refine sg [(3, .int .i64 ((x : Nat) : Int)), (4, .bool (decide (((x : Nat) : Int) < 0)))] (by kernel_rfl) ?_
  refine op_nil ?_
  refine W_cond (decide (((x : Nat) : Int) < 0)) (by kernel_rfl) (by kernel_rfl) (fun hc1 => ?_) (fun hc1 => ?_)
  · replace hc1 : ((x : Nat) : Int) < 0 := (of_decide_eq_true hc1)
    exfalso; omega
  · replace hc1 : 0 ≤ ((x : Nat) : Int) := (Int.not_lt.1 (of_decide_eq_false hc1))
    refine W_skip ?_
    refine W_seq ?_
    refine W_region (by kernel_rfl) ?_
    refine sg [(6, .int .i64 ((x : Nat) : Int))] (by kernel_rfl) ?_
    refine sg [(7, .int .i64 (IntKind.i64.wrap (BitVec.ofInt 64 ((x : Nat) : Int) ^^^ BitVec.ofInt 64 1).toNat))] (by kernel_rfl) ?_
    rw [GateP.not_i64 x (by omega)]
    refine sg [(2, .int .i64 ((GateP.nt x : Nat) : Int))] (by kernel_rfl) ?_
    refine op_nil ?_
    refine W_ret ?_
    exact ⟨_, Res_of (v := .int .i64 ((GateP.nt x : Nat) : Int)) (by kernel_rfl), ⟨rfl, Tch.refl _ _⟩⟩

end Go.Proofs.YtnlecdpiccgdpaaV

set_option linter.unusedVariables false
set_option linter.unusedSimpArgs false
namespace Go.Proofs.YtnlecdpiccgdpaaV
open Go Go.RowKit Go.Proofs

theorem tm_nat (x : Nat) : ((x : Int)).tmod 2 = ((x % 2 : Nat) : Int) := by rw [Int.tmod_eq_emod_of_nonneg (by omega)]; omega

set_option maxRecDepth 100000 in
theorem rnot_ok (x : Nat) (w : World) (hx : x < 4611686018427387904) : Ret Try.prog 19 [.int .i64 ((x : Nat) : Int)] w fun v w' => v = .int .i64 ((GateP.nt x : Nat) : Int) ∧ Tch N0 w w' := by
  refine enter Try.func19 rfl rfl ?_
  refine W_seq ?_
  refine W_region (by kernel_rfl) ?_
  refine sg [(2, .int .i64 0)] (by kernel_rfl) ?_
  refine op_nil ?_
  refine W_seq ?_
  refine W_seq ?_
  refine W_region (by kernel_rfl) ?_
  refine sg [(3, .int .i64 ((x : Nat) : Int)), (4, .bool (decide (((x : Nat) : Int) < 0)))] (by kernel_rfl) ?_
  refine op_nil ?_
  refine W_cond (decide (((x : Nat) : Int) < 0)) (by kernel_rfl) (by kernel_rfl) (fun hc1 => ?_) (fun hc1 => ?_)
  · replace hc1 : ((x : Nat) : Int) < 0 := (of_decide_eq_true hc1)
    exfalso; omega
  · replace hc1 : 0 ≤ ((x : Nat) : Int) := (Int.not_lt.1 (of_decide_eq_false hc1))
    refine W_skip ?_
    refine W_seq ?_
    refine W_seq ?_
    refine W_region (by kernel_rfl) ?_
    refine sg [(6, .int .i64 ((x : Nat) : Int)), (7, .int .i64 (((x : Nat) : Int).tmod 2))] (by kernel_rfl) ?_
    rw [show ((x : Nat) : Int).tmod 2 = ((x : Nat) : Int) % 2 from Int.tmod_eq_emod_of_nonneg (by omega)]
    refine fixR (y := ((x % 2 : Nat) : Int)) (by omega) ?_
    refine sg [(8, .bool (((x % 2 : Nat) : Int) == 1))] (by kernel_rfl) ?_
    refine op_nil ?_
    refine W_cond (((x % 2 : Nat) : Int) == 1) (by kernel_rfl) (by kernel_rfl) (fun hc2 => ?_) (fun hc2 => ?_)
    · replace hc2 : ((x % 2 : Nat) : Int) = 1 := (eq_of_beq hc2)
      refine W_seq ?_
      refine W_region (by kernel_rfl) ?_
      refine sg [(9, .int .i64 ((x : Nat) : Int)), (10, .int .i64 (IntKind.i64.wrap (((x : Nat) : Int) - 1)))] (by kernel_rfl) ?_
      rw [show IntKind.i64.wrap (((x : Nat) : Int) - 1) = ((x : Nat) : Int) - 1 from wrap_i64 (by omega) (by omega)]
      refine sg [(2, .int .i64 (((x : Nat) : Int) - 1))] (by kernel_rfl) ?_
      refine op_nil ?_
      refine W_ret ?_
      exact ⟨_, Res_of (v := .int .i64 (((x : Nat) : Int) - 1)) (by kernel_rfl), ⟨congrArg (Value.int .i64) (by unfold GateP.nt; split <;> omega), Tch.refl _ _⟩⟩
    · replace hc2 : ((x % 2 : Nat) : Int) ≠ 1 := (ne_of_beq_false hc2)
      refine W_skip ?_
      refine W_seq ?_
      refine W_region (by kernel_rfl) ?_
      refine sg [(11, .int .i64 ((x : Nat) : Int)), (12, .int .i64 (IntKind.i64.wrap (((x : Nat) : Int) + 1)))] (by kernel_rfl) ?_
      rw [show IntKind.i64.wrap (((x : Nat) : Int) + 1) = ((x : Nat) : Int) + 1 from wrap_i64 (by omega) (by omega)]
      refine sg [(2, .int .i64 (((x : Nat) : Int) + 1))] (by kernel_rfl) ?_
      refine op_nil ?_
      refine W_ret ?_
      exact ⟨_, Res_of (v := .int .i64 (((x : Nat) : Int) + 1)) (by kernel_rfl), ⟨congrArg (Value.int .i64) (by unfold GateP.nt; split <;> omega), Tch.refl _ _⟩⟩

set_option maxRecDepth 100000 in
theorem rneg_ok (x : Nat) (w : World) (hx : x < 4611686018427387904) : Ret Try.prog 74 [.int .i64 ((x : Nat) : Int)] w fun v w' => v = .bool (decide (x % 2 = 1)) ∧ Tch N0 w w' := by
  refine enter Try.func74 rfl rfl ?_
  refine W_seq ?_
  refine W_region (by kernel_rfl) ?_
  refine sg [(2, .bool false)] (by kernel_rfl) ?_
  refine op_nil ?_
  refine W_seq ?_
  refine W_region (by kernel_rfl) ?_
  refine sg [(3, .int .i64 ((x : Nat) : Int)), (4, .bool (decide (((x : Nat) : Int) ≥ 0))), (5, .bool (decide (((x : Nat) : Int) ≥ 0)))] (by kernel_rfl) ?_
  cases hb1 : decide (((x : Nat) : Int) ≥ 0)
  · replace hb1 : ((x : Nat) : Int) < 0 := (Int.not_le.1 (of_decide_eq_false hb1))
    exfalso; omega
  · replace hb1 : 0 ≤ ((x : Nat) : Int) := (of_decide_eq_true hb1)
    refine sg [(6, .int .i64 ((x : Nat) : Int)), (7, .int .i64 (((x : Nat) : Int).tmod 2))] (by kernel_rfl) ?_
    rw [show ((x : Nat) : Int).tmod 2 = ((x : Nat) : Int) % 2 from Int.tmod_eq_emod_of_nonneg (by omega)]
    refine fixR (y := ((x % 2 : Nat) : Int)) (by omega) ?_
    refine sg [(8, .bool (((x % 2 : Nat) : Int) == 1)), (9, .bool (((x % 2 : Nat) : Int) == 1)), (2, .bool (((x % 2 : Nat) : Int) == 1))] (by kernel_rfl) ?_
    refine op_nil ?_
    refine W_ret ?_
    exact ⟨_, Res_of (v := .bool (((x % 2 : Nat) : Int) == 1)) (by kernel_rfl), ⟨congrArg Value.bool (odd_eq x), Tch.refl _ _⟩⟩

end Go.Proofs.YtnlecdpiccgdpaaV

set_option linter.unusedVariables false
set_option linter.unusedSimpArgs false
namespace Go.Proofs.YtnlecdpiccgdpaaV
open Go Go.RowKit Go.Proofs

set_option maxRecDepth 100000 in
theorem fits_ok (n : Nat) (K : Option Addr) (ck : Nat) (jv : Value) (x : Nat) (w : World) (hx : x < 4611686018427387904) : Ret Try.prog 73 [.agg #[.slice K n ck, jv], .int .i64 ((x : Nat) : Int)] w fun v w' => v = .bool (decide (x / 2 < n)) ∧ Tch N0 w w' := by
  refine enter Try.func73 rfl rfl ?_
  refine W_seq ?_
  refine W_region (by kernel_rfl) ?_
  refine st (by rfl) (S_new (v := .pointer (some ⟨w.heap.size, 0, none⟩)) (ob := .cells #[.slice K n ck, jv] 54) (by kernel_rfl) fun w1 hT2 hs3 hB4 => ?_)
  replace hB4 : Blk w1 (w.heap.size) 54 [.slice K n ck, jv] := hB4
  have hT0 := hT2
  refine sg [(4, .bool false)] (by kernel_rfl) ?_
  refine op_nil ?_
  refine W_seq ?_
  refine W_region (by kernel_rfl) ?_
  refine sg [(5, .int .i64 ((x : Nat) : Int)), (6, .bool (decide (((x : Nat) : Int) ≥ 0))), (7, .bool (decide (((x : Nat) : Int) ≥ 0)))] (by kernel_rfl) ?_
  cases hb5 : decide (((x : Nat) : Int) ≥ 0)
  · replace hb5 : ((x : Nat) : Int) < 0 := (Int.not_le.1 (of_decide_eq_false hb5))
    exfalso; omega
  · replace hb5 : 0 ≤ ((x : Nat) : Int) := (of_decide_eq_true hb5)
    refine sg [(8, .int .i64 ((x : Nat) : Int)), (9, .int .i64 (IntKind.i64.wrap (((x : Nat) : Int).tdiv 2)))] (by kernel_rfl) ?_
    rw [show IntKind.i64.wrap (((x : Nat) : Int).tdiv 2) = ((x : Nat) : Int) / 2 from by rw [Int.tdiv_eq_ediv_of_nonneg (by omega)]; exact wrap_i64 (by omega) (by omega)]
    refine fixR (y := ((x / 2 : Nat) : Int)) (by omega) ?_
    refine sg [(10, .pointer (some ⟨w.heap.size, 0, none⟩))] (by kernel_rfl) ?_
    refine st (by kernel_rfl) (S_val (v := .slice K n ck) (R_load (v := .slice K n ck) (by kernel_rfl) (by kernel_rfl) ((hB4.cell 0).trans rfl)) ?_)
    refine sg [(12, .int .i64 (n : Int)), (13, .bool (decide (((x / 2 : Nat) : Int) < (n : Int)))), (14, .bool (decide (((x / 2 : Nat) : Int) < (n : Int)))), (4, .bool (decide (((x / 2 : Nat) : Int) < (n : Int))))] (by kernel_rfl) ?_
    refine op_nil ?_
    refine W_ret ?_
    exact ⟨_, Res_of (v := .bool (decide (((x / 2 : Nat) : Int) < (n : Int)))) (by kernel_rfl), ⟨congrArg Value.bool (by rw [decide_eq_decide]; omega), hT0⟩⟩

/-- What a literal is, where its variable is known. -/
def hIs (kn tr : List Bool) (x : Nat) : Bool := kn.getD (x / 2) false && (tr.getD (x / 2) false != decide (x % 2 = 1))

set_option maxRecDepth 100000 in
theorem holds_ok (n : Nat) (K J : Option Addr) (ck cj : Nat) (kn tr : List Bool) (x : Nat) (w : World) (hK : RdW w 1 n K (boolsV kn)) (hJ : RdW w 1 n J (boolsV tr)) (hn : n < 2305843009213693952) (hx : x < 4611686018427387904) (hxn : x / 2 < n) : Ret Try.prog 50 [.agg #[.slice K n ck, .slice J n cj], .int .i64 ((x : Nat) : Int)] w fun v w' => v = .tuple #[.bool (hIs kn tr x), .bool (kn.getD (x / 2) false)] ∧ Tch N0 w w' := by
  have lk := hK.lenb
  have lj := hJ.lenb
  have hJc := hJ
  refine enter Try.func50 rfl rfl ?_
  refine W_seq ?_
  refine W_region (by kernel_rfl) ?_
  refine st (by rfl) (S_new (v := .pointer (some ⟨w.heap.size, 0, none⟩)) (ob := .cells #[.slice K n ck, .slice J n cj] 54) (by kernel_rfl) fun w1 hT2 hs3 hB4 => ?_)
  replace hB4 : Blk w1 (w.heap.size) 54 [.slice K n ck, .slice J n cj] := hB4
  have hT0 := hT2
  have hJc := hJ.tch0 hT0
  refine sg [(4, .bool false), (5, .bool false)] (by kernel_rfl) ?_
  refine op_nil ?_
  refine W_seq ?_
  refine W_seq ?_
  refine W_region (by kernel_rfl) ?_
  refine st (by rfl) (S_val (v := .agg #[.slice K n ck, .slice J n cj]) (R_loadA [.slice K n ck, .slice J n cj] (by kernel_rfl) (by kernel_rfl) (by kernel_rfl) (fun k u hk => by rw [hB4.cell]; exact get_part _ 0 _ k u rfl hk)) ?_)
  refine sg [(7, .int .i64 ((x : Nat) : Int))] (by kernel_rfl) ?_
  refine st (by rfl) (S_call (args := [.agg #[.slice K n ck, .slice J n cj], .int .i64 ((x : Nat) : Int)]) (by kernel_rfl) (fits_ok n K ck (.slice J n cj) x _ (by omega)) ?_)
  rintro _ w5 ⟨rfl, hT6⟩
  have hT0 := hT0.t0 hT6
  have hJc := hJ.tch0 hT0
  have hB4 := hB4.tch0 hT6
  refine sg [(9, .bool (!(decide (x / 2 < n)))), (10, .bool (!(decide (x / 2 < n))))] (by kernel_rfl) ?_
  cases hb7 : decide (x / 2 < n)
  · replace hb7 : n ≤ x / 2 := (Nat.not_lt.1 (of_decide_eq_false hb7))
    exfalso; omega
  · replace hb7 : x / 2 < n := (of_decide_eq_true hb7)
    refine sg [(11, .pointer (some ⟨w.heap.size, 0, none⟩))] (by kernel_rfl) ?_
    refine st (by kernel_rfl) (S_val (v := .slice K n ck) (R_load (v := .slice K n ck) (by kernel_rfl) (by kernel_rfl) ((hB4.cell 0).trans rfl)) ?_)
    refine sg [(13, .int .i64 ((x : Nat) : Int)), (14, .int .i64 (IntKind.i64.wrap (((x : Nat) : Int).tdiv 2)))] (by kernel_rfl) ?_
    rw [show IntKind.i64.wrap (((x : Nat) : Int).tdiv 2) = ((x : Nat) : Int) / 2 from by rw [Int.tdiv_eq_ediv_of_nonneg (by omega)]; exact wrap_i64 (by omega) (by omega)]
    refine fixR (y := ((x / 2 : Nat) : Int)) (by omega) ?_
    refine stv (v := ptrAt K (x / 2)) (by kernel_rfl) (R_indexRd1 (len := n) (cap := ck) (k := .i64) (i := ((x / 2 : Nat) : Int)) (e := 4) (x / 2) (hK.tch0 hT0) (by kernel_rfl) (by kernel_rfl) (by kernel_rfl) (by kernel_rfl) rfl (by omega)) ?_
    refine stv (v := .bool (kn.getD (x / 2) false)) (by kernel_rfl) (R_loadRd (v := .bool (kn.getD (x / 2) false)) (hK.tch0 hT0) (by omega) (by kernel_rfl) (by kernel_rfl) (boolsV_at kn (by omega))) ?_
    refine sg [(17, .bool (!(kn.getD (x / 2) false))), (18, .bool (!(kn.getD (x / 2) false)))] (by kernel_rfl) ?_
    refine op_nil ?_
    refine W_cond (!(kn.getD (x / 2) false)) (by kernel_rfl) (by kernel_rfl) (fun hc8 => ?_) (fun hc8 => ?_)
    · replace hc8 : kn.getD (x / 2) false = false := ((not_t hc8))
      refine W_seq ?_
      refine W_fg [(0, .agg #[.slice K n ck, .slice J n cj]), (1, .int .i64 ((x : Nat) : Int)), (2, .pointer (some ⟨w.heap.size, 0, none⟩)), (4, .bool false), (5, .bool false), (18, .bool (!(kn.getD (x / 2) false)))] (by kernel_rfl) fun ρ => ?_
      refine W_region (by kernel_rfl) ?_
      refine sg [(4, .bool false), (5, .bool false)] (by kernel_rfl) ?_
      refine op_nil ?_
      refine W_ret ?_
      exact ⟨_, Res_of (v := .tuple #[.bool false, .bool false]) (by kernel_rfl), ⟨by unfold hIs; simp_all [bne], hT0⟩⟩
    · replace hc8 : kn.getD (x / 2) false = true := ((not_f hc8))
      refine W_skip ?_
      refine W_seq ?_
      refine W_fg [(0, .agg #[.slice K n ck, .slice J n cj]), (1, .int .i64 ((x : Nat) : Int)), (2, .pointer (some ⟨w.heap.size, 0, none⟩)), (4, .bool false), (5, .bool false), (18, .bool (!(kn.getD (x / 2) false)))] (by kernel_rfl) fun ρ => ?_
      refine W_draw (fun w' => RdW w' 1 n J (boolsV tr) ∧ Blk w' (w.heap.size) 54 [.slice K n ck, .slice J n cj]) (by kernel_rfl) (by kernel_rfl) (by kernel_rfl) fun w9 hT10 hh11 => ?_
      have hT0 := hT0.t0 hT10
      have hJc := hJ.tch0 hT0
      have hB4 := hB4.tch0 hT10
      refine dtk [0, 2, 6] #[true, false, true, false, false, false, true, false, false, false, false] [(19, .pointer (some ⟨w.heap.size, 1, none⟩)), (21, .int .i64 ((x : Nat) : Int)), (25, .int .i64 ((x : Nat) : Int))] ⟨hJc, hB4⟩ (by kernel_rfl) ?_
      refine d_val (v := .slice J n cj) 1 (by rfl) (by kernel_rfl) (by kernel_rfl) (by kernel_rfl) (fun w' hs => by obtain ⟨hJc, hB4⟩ := hs; exact R_load (v := .slice J n cj) (by kernel_rfl) (by kernel_rfl) ((hB4.cell 1).trans rfl)) ⟨hJc, hB4⟩ ?_
      refine dtk [3] #[true, true, true, true, false, false, true, false, false, false, false] [(22, .int .i64 (IntKind.i64.wrap (((x : Nat) : Int).tdiv 2)))] ⟨hJc, hB4⟩ (by kernel_rfl) ?_
      rw [show IntKind.i64.wrap (((x : Nat) : Int).tdiv 2) = ((x : Nat) : Int) / 2 from by rw [Int.tdiv_eq_ediv_of_nonneg (by omega)]; exact wrap_i64 (by omega) (by omega)]
      refine fixD (y := ((x / 2 : Nat) : Int)) (by omega) ?_
      refine d_val (v := ptrAt J (x / 2)) 4 (by rfl) (by kernel_rfl) (by kernel_rfl) (by kernel_rfl) (fun w' hs => by obtain ⟨hJc, hB4⟩ := hs; exact R_indexRd1 (len := n) (cap := cj) (k := .i64) (i := ((x / 2 : Nat) : Int)) (e := 4) (x / 2) hJc (by kernel_rfl) (by kernel_rfl) (by kernel_rfl) (by kernel_rfl) rfl (by omega)) ⟨hJc, hB4⟩ ?_
      refine d_val (v := .bool (tr.getD (x / 2) false)) 5 (by rfl) (by kernel_rfl) (by kernel_rfl) (by kernel_rfl) (fun w' hs => by obtain ⟨hJc, hB4⟩ := hs; exact R_loadRd (v := .bool (tr.getD (x / 2) false)) hJc (by omega) (by kernel_rfl) (by kernel_rfl) (boolsV_at tr (by omega))) ⟨hJc, hB4⟩ ?_
      refine d_one 7 (by kernel_rfl) (by rfl) (by kernel_rfl) (S_call (args := [.int .i64 ((x : Nat) : Int)]) (by kernel_rfl) (rneg_ok x _ (by omega)) ?_)
      rintro _ w12 ⟨rfl, hT13⟩
      have hT0 := hT0.t0 hT13
      have hJc := hJ.tch0 hT0
      have hB4 := hB4.tch0 hT13
      refine ⟨⟨hJc, hB4⟩, ?_⟩
      refine dtk [8, 9, 10] #[true, true, true, true, true, true, true, true, true, true, true] [(27, .bool (!((tr.getD (x / 2) false) == (decide (x % 2 = 1))))), (4, .bool (!((tr.getD (x / 2) false) == (decide (x % 2 = 1))))), (5, .bool true)] ⟨hJc, hB4⟩ (by kernel_rfl) ?_
      refine d_done (by kernel_rfl) ?_
      refine W_ret ?_
      exact ⟨_, Res_of (v := .tuple #[.bool (!((tr.getD (x / 2) false) == (decide (x % 2 = 1)))), .bool true]) (by kernel_rfl), ⟨by unfold hIs; simp_all [bne], hT0⟩⟩

end Go.Proofs.YtnlecdpiccgdpaaV

set_option linter.unusedVariables false
set_option linter.unusedSimpArgs false
namespace Go.Proofs.YtnlecdpiccgdpaaV
open Go Go.RowKit Go.Proofs

def Kn (kn : List Bool) (x : Nat) : Prop := kn.getD (x / 2) false = true
def LInv (kn tr : List Bool) (c : List Nat) (i : Nat) (a : Int) : Prop := (∀ j, j < i → Kn kn (c.getD j 0) → hIs kn tr (c.getD j 0) = false) ∧
  ((a = -1 ∧ ∀ j, j < i → Kn kn (c.getD j 0)) ∨ (0 ≤ a ∧ a.toNat < i ∧ ¬ Kn kn (c.getD a.toNat 0) ∧ ∀ j, j < i → ¬ Kn kn (c.getD j 0) → c.getD j 0 = c.getD a.toNat 0))
theorem LInv.zero (kn tr : List Bool) (c : List Nat) : LInv kn tr c 0 (-1) := ⟨fun j h => by omega, .inl ⟨rfl, fun j h => by omega⟩⟩
theorem not_Kn {kn : List Bool} {x : Nat} (h : kn.getD (x / 2) false = false) : ¬ Kn kn x := fun e => by unfold Kn at e; rw [h] at e; cases e
theorem LInv.known {kn tr : List Bool} {c : List Nat} {i : Nat} {a : Int} (h : LInv kn tr c i a) (hk : kn.getD (c.getD i 0 / 2) false = true) (hf : hIs kn tr (c.getD i 0) = false) : LInv kn tr c (i + 1) a := by
  refine ⟨fun j hj hkj => ?_, ?_⟩
  · by_cases e : j = i
    · subst e; exact hf
    · exact h.1 j (by omega) hkj
  · rcases h.2 with ⟨h1, h2⟩ | ⟨h1, h2, h3, h4⟩
    · exact .inl ⟨h1, fun j hj => by
        by_cases e : j = i
        · subst e; exact hk
        · exact h2 j (by omega)⟩
    · exact .inr ⟨h1, by omega, h3, fun j hj hn => by
        by_cases e : j = i
        · subst e; exact absurd hk hn
        · exact h4 j (by omega) hn⟩
theorem LInv.first {kn tr : List Bool} {c : List Nat} {i : Nat} {a : Int} (h : LInv kn tr c i a) (hk : kn.getD (c.getD i 0 / 2) false = false) (ha : a < 0) : LInv kn tr c (i + 1) (i : Int) := by
  refine ⟨fun j hj hkj => ?_, .inr ⟨by omega, by omega, by rw [Int.toNat_natCast]; exact not_Kn hk, fun j hj hn => ?_⟩⟩
  · by_cases e : j = i
    · subst e; exact absurd hkj (not_Kn hk)
    · exact h.1 j (by omega) hkj
  · rw [Int.toNat_natCast]
    by_cases e : j = i
    · subst e; rfl
    · rcases h.2 with ⟨h1, h2⟩ | ⟨h1, _⟩
      · exact absurd (h2 j (by omega)) hn
      · omega
theorem LInv.again {kn tr : List Bool} {c : List Nat} {i : Nat} {a : Int} (h : LInv kn tr c i a) (hk : kn.getD (c.getD i 0 / 2) false = false) (ha : 0 ≤ a) (he : c.getD a.toNat 0 = c.getD i 0) : LInv kn tr c (i + 1) (i : Int) := by
  rcases h.2 with ⟨h1, h2⟩ | ⟨h1, h2, h3, h4⟩
  · omega
  · refine ⟨fun j hj hkj => ?_, .inr ⟨by omega, by omega, by rw [Int.toNat_natCast]; exact not_Kn hk, fun j hj hn => ?_⟩⟩
    · by_cases e : j = i
      · subst e; exact absurd hkj (not_Kn hk)
      · exact h.1 j (by omega) hkj
    · rw [Int.toNat_natCast]
      by_cases e : j = i
      · subst e; rfl
      · rw [h4 j (by omega) hn, he]
/-- Nothing is left to do for a clause. -/
def Settled (kn tr : List Bool) (c : List Nat) : Prop := (∃ y, y ∈ c ∧ Kn kn y ∧ hIs kn tr y = true) ∨ (∃ y z, y ∈ c ∧ z ∈ c ∧ ¬ Kn kn y ∧ ¬ Kn kn z ∧ y ≠ z)
def LeftR (kn tr : List Bool) (c : List Nat) (y : Int) : Prop := (y = -1 ∧ Settled kn tr c) ∨ ∃ x : Nat, y = x ∧ x ∈ c ∧ ¬ Kn kn x ∧ ∀ z, z ∈ c → z ≠ x → Kn kn z ∧ hIs kn tr z = false
theorem gmem {l : List Nat} {i : Nat} (h : i < l.length) : l.getD i 0 ∈ l := by
  rw [List.getD_eq_getElem?_getD, List.getElem?_eq_getElem h]; exact List.getElem_mem h
theorem memg {l : List Nat} {x : Nat} (h : x ∈ l) : ∃ j, j < l.length ∧ l.getD j 0 = x := by
  obtain ⟨j, hj, e⟩ := List.getElem_of_mem h
  exact ⟨j, hj, by rw [List.getD_eq_getElem?_getD, List.getElem?_eq_getElem hj]; exact e⟩
theorem LInv.sat {kn tr : List Bool} {c : List Nat} {i : Nat} (hi : i < c.length) (hk : kn.getD (c.getD i 0 / 2) false = true) (hf : hIs kn tr (c.getD i 0) = true) : LeftR kn tr c (-1) := .inl ⟨rfl, .inl ⟨_, gmem hi, hk, hf⟩⟩
theorem LInv.two {kn tr : List Bool} {c : List Nat} {i : Nat} {a : Int} (h : LInv kn tr c i a) (hi : i < c.length) (hk : kn.getD (c.getD i 0 / 2) false = false) (ha : 0 ≤ a) (hne : c.getD a.toNat 0 ≠ c.getD i 0) : LeftR kn tr c (-1) := by
  rcases h.2 with ⟨h1, h2⟩ | ⟨h1, h2, h3, h4⟩
  · omega
  · exact .inl ⟨rfl, .inr ⟨_, _, gmem (show a.toNat < c.length by omega), gmem hi, h3, not_Kn hk, hne⟩⟩
theorem LInv.fin {kn tr : List Bool} {c : List Nat} {a : Int} (h : LInv kn tr c c.length a) (ha : 0 ≤ a) : LeftR kn tr c ((c.getD a.toNat 0 : Nat) : Int) := by
  rcases h.2 with ⟨h1, h2⟩ | ⟨h1, h2, h3, h4⟩
  · omega
  · refine .inr ⟨_, rfl, gmem h2, h3, fun z hz hne => ?_⟩
    obtain ⟨j, hj, rfl⟩ := memg hz
    by_cases hk : Kn kn (c.getD j 0)
    · exact ⟨hk, h.1 j hj hk⟩
    · exact absurd (h4 j hj hk) hne
theorem LInv.dead {kn tr : List Bool} {c : List Nat} {a : Int} (h : LInv kn tr c c.length a) (ha : a < 0) (hT : ∃ z, z ∈ c ∧ ¬ (Kn kn z ∧ hIs kn tr z = false)) : False := by
  obtain ⟨z, hz, hn⟩ := hT
  obtain ⟨j, hj, rfl⟩ := memg hz
  rcases h.2 with ⟨h1, h2⟩ | ⟨h1, _⟩
  · exact hn ⟨h2 j hj, h.1 j hj (h2 j hj)⟩
  · omega

end Go.Proofs.YtnlecdpiccgdpaaV

set_option linter.unusedVariables false
set_option linter.unusedSimpArgs false
namespace Go.Proofs.YtnlecdpiccgdpaaV
open Go Go.RowKit Go.Proofs

set_option maxRecDepth 100000 in
theorem left_ok (n : Nat) (K J : Option Addr) (ck cj : Nat) (kn tr : List Bool) (C : Option Addr) (m0 cc : Nat) (c : List Nat) (w : World) (hK : RdW w 1 n K (boolsV kn)) (hJ : RdW w 1 n J (boolsV tr)) (hn : n < 2305843009213693952) (hC : RdW w 1 m0 C (nats c)) (hfit : ∀ x, x ∈ c → x / 2 < n) (hT : ∃ z, z ∈ c ∧ ¬ (Kn kn z ∧ hIs kn tr z = false)) : Ret Try.prog 75 [.agg #[.slice K n ck, .slice J n cj], .slice C m0 cc] w fun v w' => ∃ y, v = .tuple #[.int .i64 y, .bool true] ∧ LeftR kn tr c y ∧ Tch N0 w w' := by
  have lk := hK.lenb
  have lj := hJ.lenb
  have lc : c.length = m0 := by have := hC.1; rw [nats_length] at this; omega
  have hm63 := hC.2.1
  have hKc := hK
  have hJc := hJ
  have hCc := hC
  refine enter Try.func75 rfl rfl ?_
  refine W_seq ?_
  refine W_region (by kernel_rfl) ?_
  refine st (by rfl) (S_new (v := .pointer (some ⟨w.heap.size, 0, none⟩)) (ob := .cells #[.slice K n ck, .slice J n cj] 54) (by kernel_rfl) fun w1 hT2 hs3 hB4 => ?_)
  replace hB4 : Blk w1 (w.heap.size) 54 [.slice K n ck, .slice J n cj] := hB4
  have hT0 := hT2
  have hKc := hK.tch0 hT0
  have hJc := hJ.tch0 hT0
  have hCc := hC.tch0 hT0
  refine sg [(4, .int .i64 0), (5, .bool false)] (by kernel_rfl) ?_
  refine op_nil ?_
  refine W_seq ?_
  refine W_region (by kernel_rfl) ?_
  refine sg [(6, .int .i64 (-1))] (by kernel_rfl) ?_
  refine op_nil ?_
  refine W_seq ?_
  refine W_seq ?_
  refine W_region (by kernel_rfl) ?_
  refine sg [(7, .int .i64 0)] (by kernel_rfl) ?_
  refine op_nil ?_
  refine W_block ?_
  refine W_loop (fun m ρ w' => ∃ (a : Int) (i : Nat) (ρ0 : Env), ρ = updL ρ0 [(1, .slice C m0 cc), (2, .pointer (some ⟨w.heap.size, 0, none⟩)), (4, .int .i64 0), (5, .bool false), (6, .int .i64 a), (7, .int .i64 ((i : Nat) : Int))] ∧ (LInv kn tr c i a) ∧ (i ≤ m0) ∧ (-1 ≤ a) ∧ (a < i) ∧ Tch N0 w w' ∧ RdW w' 1 n K (boolsV kn) ∧ RdW w' 1 n J (boolsV tr) ∧ RdW w' 1 m0 C (nats c) ∧ Blk w' (w.heap.size) 54 [.slice K n ck, .slice J n cj] ∧ m = m0 - i) (m := m0 - 0) ?_ ?_
  · refine ⟨-1, 0, _, updL_self (by kernel_rfl), LInv.zero _ _ _, by omega, by omega, by omega, hT0, hKc, hJc, hCc, hB4, rfl⟩
  · rintro m ρ w5 ⟨a, i, ρ, rfl, h1, h2, h3, h4, hT0, hKc, hJc, hCc, hB4, rfl⟩
    have hfi : i < m0 → c.getD i 0 / 2 < n := fun h => hfit _ (gmem (by omega))
    refine W_seq ?_
    refine W_seq ?_
    refine W_region (by kernel_rfl) ?_
    refine sg [(10, .int .i64 ((i : Nat) : Int)), (11, .slice C m0 cc), (12, .int .i64 (m0 : Int)), (13, .bool (decide (((i : Nat) : Int) < (m0 : Int))))] (by kernel_rfl) ?_
    refine op_nil ?_
    refine W_cond (decide (((i : Nat) : Int) < (m0 : Int))) (by kernel_rfl) (by kernel_rfl) (fun hc6 => ?_) (fun hc6 => ?_)
    · replace hc6 : ((i : Nat) : Int) < (m0 : Int) := (of_decide_eq_true hc6)
      refine W_skip ?_
      refine W_seq ?_
      refine W_block ?_
      refine W_seq ?_
      refine W_seq ?_
      refine W_draw (fun w' => RdW w' 1 n K (boolsV kn) ∧ RdW w' 1 n J (boolsV tr) ∧ RdW w' 1 m0 C (nats c) ∧ Blk w' (w.heap.size) 54 [.slice K n ck, .slice J n cj]) (by kernel_rfl) (by kernel_rfl) (by kernel_rfl) fun w7 hT8 hh9 => ?_
      have hT0 := hT0.t0 hT8
      have hKc := hK.tch0 hT0
      have hJc := hJ.tch0 hT0
      have hCc := hC.tch0 hT0
      have hB4 := hB4.tch0 hT8
      refine dtk [1, 2] #[false, true, true, false, false, false, false] [(17, .slice C m0 cc), (18, .int .i64 ((i : Nat) : Int))] ⟨hKc, hJc, hCc, hB4⟩ (by kernel_rfl) ?_
      refine d_val (v := .agg #[.slice K n ck, .slice J n cj]) 0 (by rfl) (by kernel_rfl) (by kernel_rfl) (by kernel_rfl) (fun w' hs => by obtain ⟨hKc, hJc, hCc, hB4⟩ := hs; exact R_loadA [.slice K n ck, .slice J n cj] (by kernel_rfl) (by kernel_rfl) (by kernel_rfl) (fun k u hk => by rw [hB4.cell]; exact get_part _ 0 _ k u rfl hk)) ⟨hKc, hJc, hCc, hB4⟩ ?_
      refine d_val (v := ptrAt C i) 3 (by rfl) (by kernel_rfl) (by kernel_rfl) (by kernel_rfl) (fun w' hs => by obtain ⟨hKc, hJc, hCc, hB4⟩ := hs; exact R_indexRd1 (len := m0) (cap := cc) (k := .i64) (i := ((i : Nat) : Int)) (e := 3) i hCc (by kernel_rfl) (by kernel_rfl) (by kernel_rfl) (by kernel_rfl) rfl (by omega)) ⟨hKc, hJc, hCc, hB4⟩ ?_
      refine d_val (v := .int .i64 ((c.getD i 0 : Nat) : Int)) 4 (by rfl) (by kernel_rfl) (by kernel_rfl) (by kernel_rfl) (fun w' hs => by obtain ⟨hKc, hJc, hCc, hB4⟩ := hs; exact R_loadRd (v := .int .i64 ((c.getD i 0 : Nat) : Int)) hCc (by omega) (by kernel_rfl) (by kernel_rfl) (nats_at (l := c) (by omega))) ⟨hKc, hJc, hCc, hB4⟩ ?_
      refine d_one 5 (by kernel_rfl) (by rfl) (by kernel_rfl) (S_call (args := [.agg #[.slice K n ck, .slice J n cj], .int .i64 ((c.getD i 0 : Nat) : Int)]) (by kernel_rfl) (fits_ok n K ck (.slice J n cj) (c.getD i 0) _ (by omega)) ?_)
      rintro _ w10 ⟨rfl, hT11⟩
      have hT0 := hT0.t0 hT11
      have hKc := hK.tch0 hT0
      have hJc := hJ.tch0 hT0
      have hCc := hC.tch0 hT0
      have hB4 := hB4.tch0 hT11
      refine ⟨⟨hKc, hJc, hCc, hB4⟩, ?_⟩
      refine dtk [6] #[true, true, true, true, true, true, true] [(22, .bool (!(decide (c.getD i 0 / 2 < n))))] ⟨hKc, hJc, hCc, hB4⟩ (by kernel_rfl) ?_
      refine d_done (by kernel_rfl) ?_
      refine W_cond (!(decide (c.getD i 0 / 2 < n))) (by kernel_rfl) (by kernel_rfl) (fun hc12 => ?_) (fun hc12 => ?_)
      · replace hc12 : n ≤ c.getD i 0 / 2 := (Nat.not_lt.1 (of_decide_eq_false (not_t hc12)))
        exfalso; omega
      · replace hc12 : c.getD i 0 / 2 < n := (of_decide_eq_true (not_f hc12))
        refine W_skip ?_
        refine W_seq ?_
        refine W_fg [(1, .slice C m0 cc), (2, .pointer (some ⟨w.heap.size, 0, none⟩)), (4, .int .i64 0), (5, .bool false), (6, .int .i64 a), (7, .int .i64 ((i : Nat) : Int)), (13, .bool (decide (((i : Nat) : Int) < (m0 : Int)))), (22, .bool (!(decide (c.getD i 0 / 2 < n))))] (by kernel_rfl) fun ρ => ?_
        refine W_draw (fun w' => RdW w' 1 n K (boolsV kn) ∧ RdW w' 1 n J (boolsV tr) ∧ RdW w' 1 m0 C (nats c) ∧ Blk w' (w.heap.size) 54 [.slice K n ck, .slice J n cj]) (by kernel_rfl) (by kernel_rfl) (by kernel_rfl) fun w13 hT14 hh15 => ?_
        have hT0 := hT0.t0 hT14
        have hKc := hK.tch0 hT0
        have hJc := hJ.tch0 hT0
        have hCc := hC.tch0 hT0
        have hB4 := hB4.tch0 hT14
        refine dtk [1, 2] #[false, true, true, false, false, false, false, false, false, false, false] [(25, .slice C m0 cc), (26, .int .i64 ((i : Nat) : Int))] ⟨hKc, hJc, hCc, hB4⟩ (by kernel_rfl) ?_
        refine d_val (v := .agg #[.slice K n ck, .slice J n cj]) 0 (by rfl) (by kernel_rfl) (by kernel_rfl) (by kernel_rfl) (fun w' hs => by obtain ⟨hKc, hJc, hCc, hB4⟩ := hs; exact R_loadA [.slice K n ck, .slice J n cj] (by kernel_rfl) (by kernel_rfl) (by kernel_rfl) (fun k u hk => by rw [hB4.cell]; exact get_part _ 0 _ k u rfl hk)) ⟨hKc, hJc, hCc, hB4⟩ ?_
        refine d_val (v := ptrAt C i) 3 (by rfl) (by kernel_rfl) (by kernel_rfl) (by kernel_rfl) (fun w' hs => by obtain ⟨hKc, hJc, hCc, hB4⟩ := hs; exact R_indexRd1 (len := m0) (cap := cc) (k := .i64) (i := ((i : Nat) : Int)) (e := 3) i hCc (by kernel_rfl) (by kernel_rfl) (by kernel_rfl) (by kernel_rfl) rfl (by omega)) ⟨hKc, hJc, hCc, hB4⟩ ?_
        refine d_val (v := .int .i64 ((c.getD i 0 : Nat) : Int)) 4 (by rfl) (by kernel_rfl) (by kernel_rfl) (by kernel_rfl) (fun w' hs => by obtain ⟨hKc, hJc, hCc, hB4⟩ := hs; exact R_loadRd (v := .int .i64 ((c.getD i 0 : Nat) : Int)) hCc (by omega) (by kernel_rfl) (by kernel_rfl) (nats_at (l := c) (by omega))) ⟨hKc, hJc, hCc, hB4⟩ ?_
        refine d_one 5 (by kernel_rfl) (by rfl) (by kernel_rfl) (S_call (args := [.agg #[.slice K n ck, .slice J n cj], .int .i64 ((c.getD i 0 : Nat) : Int)]) (by kernel_rfl) (holds_ok n K J ck cj kn tr (c.getD i 0) _ hKc hJc (by omega) (by omega) (by omega)) ?_)
        rintro _ w16 ⟨rfl, hT17⟩
        have hT0 := hT0.t0 hT17
        have hKc := hK.tch0 hT0
        have hJc := hJ.tch0 hT0
        have hCc := hC.tch0 hT0
        have hB4 := hB4.tch0 hT17
        refine ⟨⟨hKc, hJc, hCc, hB4⟩, ?_⟩
        refine dtk [6, 7, 8, 9, 10] #[true, true, true, true, true, true, true, true, true, true, true] [(23, .tuple #[.bool (hIs kn tr (c.getD i 0)), .bool (kn.getD ((c.getD i 0) / 2) false)]), (30, .bool (hIs kn tr (c.getD i 0))), (31, .bool (kn.getD ((c.getD i 0) / 2) false)), (8, .bool (hIs kn tr (c.getD i 0))), (9, .bool (kn.getD ((c.getD i 0) / 2) false))] ⟨hKc, hJc, hCc, hB4⟩ (by kernel_rfl) ?_
        refine d_done (by kernel_rfl) ?_
        refine W_seq ?_
        refine W_seq ?_
        refine W_fg [(1, .slice C m0 cc), (2, .pointer (some ⟨w.heap.size, 0, none⟩)), (4, .int .i64 0), (5, .bool false), (6, .int .i64 a), (7, .int .i64 ((i : Nat) : Int)), (8, .bool (hIs kn tr (c.getD i 0))), (9, .bool (kn.getD ((c.getD i 0) / 2) false)), (13, .bool (decide (((i : Nat) : Int) < (m0 : Int)))), (22, .bool (!(decide (c.getD i 0 / 2 < n))))] (by kernel_rfl) fun ρ => ?_
        refine W_still (by kernel_rfl) (by kernel_rfl) (by kernel_rfl) fun w18 hT19 hh20 => ?_
        have hT0 := hT0.t0 hT19
        have hKc := hK.tch0 hT0
        have hJc := hJ.tch0 hT0
        have hCc := hC.tch0 hT0
        have hB4 := hB4.tch0 hT19
        refine qsg [(32, .bool (kn.getD ((c.getD i 0) / 2) false)), (33, .bool (kn.getD ((c.getD i 0) / 2) false))] (by kernel_rfl) ?_
        cases hb21 : kn.getD ((c.getD i 0) / 2) false
        · replace hb21 : kn.getD ((c.getD i 0) / 2) false = false := (hb21)
          refine qsg [(34, undef), (35, .bool false), (36, .bool false), (37, .bool false), (38, .bool true), (39, .bool true), (40, .int .i64 a), (41, .bool (decide (a ≥ 0))), (42, .bool (decide (a ≥ 0))), (43, .bool (decide (a ≥ 0)))] (by kernel_rfl) ?_
          cases hb22 : decide (a ≥ 0)
          · replace hb22 : a < 0 := (Int.not_le.1 (of_decide_eq_false hb22))
            refine qsg [(44, undef), (45, undef), (46, undef), (47, undef), (48, undef), (49, undef), (50, undef), (51, undef), (52, undef), (53, .bool false), (54, .bool false)] (by kernel_rfl) ?_
            refine q_nil ?_
            refine W_cond false (by kernel_rfl) (by kernel_rfl) (fun h => nomatch h) (fun _ => ?_)
            refine W_skip ?_
            refine W_seq ?_
            refine W_fg [(1, .slice C m0 cc), (2, .pointer (some ⟨w.heap.size, 0, none⟩)), (4, .int .i64 0), (5, .bool false), (6, .int .i64 a), (7, .int .i64 ((i : Nat) : Int)), (8, .bool (hIs kn tr (c.getD i 0))), (9, .bool false), (13, .bool (decide (((i : Nat) : Int) < (m0 : Int)))), (22, .bool (!(decide (c.getD i 0 / 2 < n)))), (54, .bool false)] (by kernel_rfl) fun ρ => ?_
            refine W_region (by kernel_rfl) ?_
            refine sg [(55, .bool false), (56, .bool true)] (by kernel_rfl) ?_
            refine op_nil ?_
            refine W_cond true (by kernel_rfl) (by kernel_rfl) (fun _ => ?_) (fun h => nomatch h)
            refine W_region (by kernel_rfl) ?_
            refine sg [(57, .int .i64 ((i : Nat) : Int)), (6, .int .i64 ((i : Nat) : Int))] (by kernel_rfl) ?_
            refine op_nil ?_
            refine W_region (by kernel_rfl) ?_
            refine sg [(14, .int .i64 ((i : Nat) : Int)), (15, .int .i64 (IntKind.i64.wrap (((i : Nat) : Int) + 1)))] (by kernel_rfl) ?_
            rw [show IntKind.i64.wrap (((i : Nat) : Int) + 1) = ((i : Nat) : Int) + 1 from wrap_i64 (by omega) (by omega)]
            refine fixR (y := ((i + 1 : Nat) : Int)) (by omega) ?_
            refine sg [(7, .int .i64 ((i + 1 : Nat) : Int))] (by kernel_rfl) ?_
            refine op_nil ?_
            refine ⟨_, ?_, ((i : Nat) : Int), i + 1, _, updL_self (by kernel_rfl), ?_, ?_, ?_, ?_, hT0, hKc, hJc, hCc, hB4, rfl⟩
            · omega
            · first | exact h1.known (by assumption) (by assumption) | exact h1.first (by assumption) (by omega) | exact h1.again (by assumption) (by omega) (by omega)
            · omega
            · omega
            · omega
          · replace hb22 : 0 ≤ a := (of_decide_eq_true hb22)
            refine qsg [(44, .slice C m0 cc), (45, .int .i64 a)] (by kernel_rfl) ?_
            refine q_val (v := ptrAt C a.toNat) (by kernel_rfl) (R_indexRd1 (len := m0) (cap := cc) (k := .i64) (i := a) (e := 3) a.toNat hCc (by kernel_rfl) (by kernel_rfl) (by kernel_rfl) (by kernel_rfl) (by omega) (by omega)) ?_
            refine q_val (v := .int .i64 ((c.getD a.toNat 0 : Nat) : Int)) (by kernel_rfl) (R_loadRd (v := .int .i64 ((c.getD a.toNat 0 : Nat) : Int)) hCc (by omega) (by kernel_rfl) (by kernel_rfl) (nats_at (l := c) (by omega))) ?_
            refine qsg [(48, .slice C m0 cc), (49, .int .i64 ((i : Nat) : Int))] (by kernel_rfl) ?_
            refine q_val (v := ptrAt C i) (by kernel_rfl) (R_indexRd1 (len := m0) (cap := cc) (k := .i64) (i := ((i : Nat) : Int)) (e := 3) i hCc (by kernel_rfl) (by kernel_rfl) (by kernel_rfl) (by kernel_rfl) rfl (by omega)) ?_
            refine q_val (v := .int .i64 ((c.getD i 0 : Nat) : Int)) (by kernel_rfl) (R_loadRd (v := .int .i64 ((c.getD i 0 : Nat) : Int)) hCc (by omega) (by kernel_rfl) (by kernel_rfl) (nats_at (l := c) (by omega))) ?_
            refine qsg [(52, .bool (((c.getD a.toNat 0 : Nat) : Int) != ((c.getD i 0 : Nat) : Int))), (53, .bool (((c.getD a.toNat 0 : Nat) : Int) != ((c.getD i 0 : Nat) : Int))), (54, .bool (((c.getD a.toNat 0 : Nat) : Int) != ((c.getD i 0 : Nat) : Int)))] (by kernel_rfl) ?_
            refine q_nil ?_
            refine W_cond (((c.getD a.toNat 0 : Nat) : Int) != ((c.getD i 0 : Nat) : Int)) (by kernel_rfl) (by kernel_rfl) (fun hc23 => ?_) (fun hc23 => ?_)
            · replace hc23 : ((c.getD a.toNat 0 : Nat) : Int) ≠ ((c.getD i 0 : Nat) : Int) := (bne_iff_ne.1 hc23)
              refine W_seq ?_
              refine W_fg [(1, .slice C m0 cc), (2, .pointer (some ⟨w.heap.size, 0, none⟩)), (4, .int .i64 0), (5, .bool false), (6, .int .i64 a), (7, .int .i64 ((i : Nat) : Int)), (8, .bool (hIs kn tr (c.getD i 0))), (9, .bool false), (13, .bool (decide (((i : Nat) : Int) < (m0 : Int)))), (22, .bool (!(decide (c.getD i 0 / 2 < n)))), (54, .bool (((c.getD a.toNat 0 : Nat) : Int) != ((c.getD i 0 : Nat) : Int)))] (by kernel_rfl) fun ρ => ?_
              refine W_region (by kernel_rfl) ?_
              refine sg [(4, .int .i64 (-1)), (5, .bool true)] (by kernel_rfl) ?_
              refine op_nil ?_
              refine W_ret ?_
              exact ⟨_, Res_of (v := .tuple #[.int .i64 (-1), .bool true]) (by kernel_rfl), ⟨_, rfl, by first | exact LInv.sat (i := i) (by omega) (by assumption) (by assumption) | exact h1.two (by omega) (by assumption) (by omega) (by omega) | exact (show LInv kn tr c c.length a by rw [show c.length = i by omega]; exact h1).fin (by omega), hT0⟩⟩
            · replace hc23 : ((c.getD a.toNat 0 : Nat) : Int) = ((c.getD i 0 : Nat) : Int) := (bne_eq_false_iff_eq.1 hc23)
              refine W_skip ?_
              refine W_seq ?_
              refine W_fg [(1, .slice C m0 cc), (2, .pointer (some ⟨w.heap.size, 0, none⟩)), (4, .int .i64 0), (5, .bool false), (6, .int .i64 a), (7, .int .i64 ((i : Nat) : Int)), (8, .bool (hIs kn tr (c.getD i 0))), (9, .bool false), (13, .bool (decide (((i : Nat) : Int) < (m0 : Int)))), (22, .bool (!(decide (c.getD i 0 / 2 < n)))), (54, .bool (((c.getD a.toNat 0 : Nat) : Int) != ((c.getD i 0 : Nat) : Int)))] (by kernel_rfl) fun ρ => ?_
              refine W_region (by kernel_rfl) ?_
              refine sg [(55, .bool false), (56, .bool true)] (by kernel_rfl) ?_
              refine op_nil ?_
              refine W_cond true (by kernel_rfl) (by kernel_rfl) (fun _ => ?_) (fun h => nomatch h)
              refine W_region (by kernel_rfl) ?_
              refine sg [(57, .int .i64 ((i : Nat) : Int)), (6, .int .i64 ((i : Nat) : Int))] (by kernel_rfl) ?_
              refine op_nil ?_
              refine W_region (by kernel_rfl) ?_
              refine sg [(14, .int .i64 ((i : Nat) : Int)), (15, .int .i64 (IntKind.i64.wrap (((i : Nat) : Int) + 1)))] (by kernel_rfl) ?_
              rw [show IntKind.i64.wrap (((i : Nat) : Int) + 1) = ((i : Nat) : Int) + 1 from wrap_i64 (by omega) (by omega)]
              refine fixR (y := ((i + 1 : Nat) : Int)) (by omega) ?_
              refine sg [(7, .int .i64 ((i + 1 : Nat) : Int))] (by kernel_rfl) ?_
              refine op_nil ?_
              refine ⟨_, ?_, ((i : Nat) : Int), i + 1, _, updL_self (by kernel_rfl), ?_, ?_, ?_, ?_, hT0, hKc, hJc, hCc, hB4, rfl⟩
              · omega
              · first | exact h1.known (by assumption) (by assumption) | exact h1.first (by assumption) (by omega) | exact h1.again (by assumption) (by omega) (by omega)
              · omega
              · omega
              · omega
        · replace hb21 : kn.getD ((c.getD i 0) / 2) false = true := (hb21)
          refine qsg [(34, .bool (hIs kn tr (c.getD i 0))), (35, .bool (hIs kn tr (c.getD i 0))), (36, .bool (hIs kn tr (c.getD i 0)))] (by kernel_rfl) ?_
          cases hb24 : hIs kn tr (c.getD i 0)
          · replace hb24 : hIs kn tr (c.getD i 0) = false := (hb24)
            refine qsg [(37, .bool true), (38, .bool false), (39, .bool false), (40, undef), (41, undef), (42, .bool false), (43, .bool false), (44, undef), (45, undef), (46, undef), (47, undef), (48, undef), (49, undef), (50, undef), (51, undef), (52, undef), (53, .bool false), (54, .bool false)] (by kernel_rfl) ?_
            refine q_nil ?_
            refine W_cond false (by kernel_rfl) (by kernel_rfl) (fun h => nomatch h) (fun _ => ?_)
            refine W_skip ?_
            refine W_seq ?_
            refine W_fg [(1, .slice C m0 cc), (2, .pointer (some ⟨w.heap.size, 0, none⟩)), (4, .int .i64 0), (5, .bool false), (6, .int .i64 a), (7, .int .i64 ((i : Nat) : Int)), (8, .bool false), (9, .bool true), (13, .bool (decide (((i : Nat) : Int) < (m0 : Int)))), (22, .bool (!(decide (c.getD i 0 / 2 < n)))), (54, .bool false)] (by kernel_rfl) fun ρ => ?_
            refine W_region (by kernel_rfl) ?_
            refine sg [(55, .bool true), (56, .bool false)] (by kernel_rfl) ?_
            refine op_nil ?_
            refine W_cond false (by kernel_rfl) (by kernel_rfl) (fun h => nomatch h) (fun _ => ?_)
            refine W_skip ?_
            refine W_region (by kernel_rfl) ?_
            refine sg [(14, .int .i64 ((i : Nat) : Int)), (15, .int .i64 (IntKind.i64.wrap (((i : Nat) : Int) + 1)))] (by kernel_rfl) ?_
            rw [show IntKind.i64.wrap (((i : Nat) : Int) + 1) = ((i : Nat) : Int) + 1 from wrap_i64 (by omega) (by omega)]
            refine fixR (y := ((i + 1 : Nat) : Int)) (by omega) ?_
            refine sg [(7, .int .i64 ((i + 1 : Nat) : Int))] (by kernel_rfl) ?_
            refine op_nil ?_
            refine ⟨_, ?_, a, i + 1, _, updL_self (by kernel_rfl), ?_, ?_, ?_, ?_, hT0, hKc, hJc, hCc, hB4, rfl⟩
            · omega
            · first | exact h1.known (by assumption) (by assumption) | exact h1.first (by assumption) (by omega) | exact h1.again (by assumption) (by omega) (by omega)
            · omega
            · omega
            · omega
          · replace hb24 : hIs kn tr (c.getD i 0) = true := (hb24)
            refine qsg [(37, undef), (38, undef), (39, undef), (40, undef), (41, undef), (42, undef), (43, undef), (44, undef), (45, undef), (46, undef), (47, undef), (48, undef), (49, undef), (50, undef), (51, undef), (52, undef), (53, undef), (54, .bool true)] (by kernel_rfl) ?_
            refine q_nil ?_
            refine W_cond true (by kernel_rfl) (by kernel_rfl) (fun _ => ?_) (fun h => nomatch h)
            refine W_seq ?_
            refine W_fg [(1, .slice C m0 cc), (2, .pointer (some ⟨w.heap.size, 0, none⟩)), (4, .int .i64 0), (5, .bool false), (6, .int .i64 a), (7, .int .i64 ((i : Nat) : Int)), (8, .bool true), (9, .bool true), (13, .bool (decide (((i : Nat) : Int) < (m0 : Int)))), (22, .bool (!(decide (c.getD i 0 / 2 < n)))), (54, .bool true)] (by kernel_rfl) fun ρ => ?_
            refine W_region (by kernel_rfl) ?_
            refine sg [(4, .int .i64 (-1)), (5, .bool true)] (by kernel_rfl) ?_
            refine op_nil ?_
            refine W_ret ?_
            exact ⟨_, Res_of (v := .tuple #[.int .i64 (-1), .bool true]) (by kernel_rfl), ⟨_, rfl, by first | exact LInv.sat (i := i) (by omega) (by assumption) (by assumption) | exact h1.two (by omega) (by assumption) (by omega) (by omega) | exact (show LInv kn tr c c.length a by rw [show c.length = i by omega]; exact h1).fin (by omega), hT0⟩⟩
    · replace hc6 : (m0 : Int) ≤ ((i : Nat) : Int) := (Int.not_lt.1 (of_decide_eq_false hc6))
      refine W_exit ?_
      refine X_hit ?_
      refine W_seq ?_
      refine W_seq ?_
      refine W_region (by kernel_rfl) ?_
      refine sg [(58, .int .i64 a), (59, .bool (decide (a < 0)))] (by kernel_rfl) ?_
      refine op_nil ?_
      refine W_cond (decide (a < 0)) (by kernel_rfl) (by kernel_rfl) (fun hc25 => ?_) (fun hc25 => ?_)
      · replace hc25 : a < 0 := (of_decide_eq_true hc25)
        exact (LInv.dead (by rw [show c.length = i by omega]; exact h1) hc25 hT).elim
      · replace hc25 : 0 ≤ a := (Int.not_lt.1 (of_decide_eq_false hc25))
        refine W_skip ?_
        refine W_seq ?_
        refine W_region (by kernel_rfl) ?_
        refine sg [(60, .slice C m0 cc), (61, .int .i64 a)] (by kernel_rfl) ?_
        refine stv (v := ptrAt C a.toNat) (by rfl) (R_indexRd1 (len := m0) (cap := cc) (k := .i64) (i := a) (e := 3) a.toNat hCc (by kernel_rfl) (by kernel_rfl) (by kernel_rfl) (by kernel_rfl) (by omega) (by omega)) ?_
        refine stv (v := .int .i64 ((c.getD a.toNat 0 : Nat) : Int)) (by rfl) (R_loadRd (v := .int .i64 ((c.getD a.toNat 0 : Nat) : Int)) hCc (by omega) (by kernel_rfl) (by kernel_rfl) (nats_at (l := c) (by omega))) ?_
        refine sg [(4, .int .i64 ((c.getD a.toNat 0 : Nat) : Int)), (5, .bool true)] (by kernel_rfl) ?_
        refine op_nil ?_
        refine W_ret ?_
        exact ⟨_, Res_of (v := .tuple #[.int .i64 ((c.getD a.toNat 0 : Nat) : Int), .bool true]) (by kernel_rfl), ⟨_, rfl, by first | exact LInv.sat (i := i) (by omega) (by assumption) (by assumption) | exact h1.two (by omega) (by assumption) (by omega) (by omega) | exact (show LInv kn tr c c.length a by rw [show c.length = i by omega]; exact h1).fin (by omega), hT0⟩⟩

end Go.Proofs.YtnlecdpiccgdpaaV

set_option linter.unusedVariables false
set_option linter.unusedSimpArgs false
namespace Go.Proofs.YtnlecdpiccgdpaaV
open Go Go.RowKit Go.Proofs
/-- What a truth of variables makes of a literal. -/
def lt_ (b : Nat → Bool) (x : Nat) : Bool := b (x / 2) != decide (x % 2 = 1)
/-- What is known is as b says. -/
def Cons (b : Nat → Bool) (kn tr : List Bool) : Prop := ∀ v, kn.getD v false = true → tr.getD v false = b v
def True_ (b : Nat → Bool) (c : List Nat) : Prop := ∃ z, z ∈ c ∧ lt_ b z = true
theorem setBb (l : List Bool) (i j : Nat) (x : Bool) (hi : i < l.length) : (l.set i x).getD j false = if j = i then x else l.getD j false := by
  simp only [List.getD_eq_getElem?_getD, List.getElem?_set]
  by_cases h : i = j
  · subst h; simp [hi]
  · simp [h, Ne.symm h]
theorem Cons.is {b : Nat → Bool} {kn tr : List Bool} (h : Cons b kn tr) {x : Nat} (hk : Kn kn x) : hIs kn tr x = lt_ b x := by
  unfold hIs lt_ Kn at *
  rw [hk, h _ hk]; rfl
theorem Cons.can {b : Nat → Bool} {kn tr : List Bool} (h : Cons b kn tr) {c : List Nat} (ht : True_ b c) : ∃ z, z ∈ c ∧ ¬ (Kn kn z ∧ hIs kn tr z = false) := by
  obtain ⟨z, hz, hb⟩ := ht
  exact ⟨z, hz, fun ⟨h1, h2⟩ => by rw [h.is h1, hb] at h2; cases h2⟩
theorem Cons.unit {b : Nat → Bool} {kn tr : List Bool} (h : Cons b kn tr) {c : List Nat} (ht : True_ b c) {x : Nat} (hx : ∀ z, z ∈ c → z ≠ x → Kn kn z ∧ hIs kn tr z = false) : lt_ b x = true := by
  obtain ⟨z, hz, hb⟩ := ht
  by_cases e : z = x
  · rw [← e]; exact hb
  · obtain ⟨h1, h2⟩ := hx z hz e
    rw [h.is h1, hb] at h2; cases h2
theorem Cons.put {b : Nat → Bool} {kn tr : List Bool} (h : Cons b kn tr) {x : Nat} (hx : lt_ b x = true) (hl : x / 2 < kn.length) (hl2 : x / 2 < tr.length) : Cons b (kn.set (x / 2) true) (tr.set (x / 2) (!decide (x % 2 = 1))) := by
  intro v hv
  rw [setBb _ _ _ _ hl] at hv
  rw [setBb _ _ _ _ hl2]
  by_cases e : v = x / 2
  · rw [if_pos e, e]
    unfold lt_ at hx
    cases hb : b (x / 2) <;> cases hd : decide (x % 2 = 1) <;> simp_all
  · rw [if_neg e] at hv ⊢
    exact h v hv
theorem Cons.zero (b : Nat → Bool) (n : Nat) (tr : List Bool) : Cons b (List.replicate n false) tr := by
  intro v hv
  simp only [List.getD_eq_getElem?_getD, List.getElem?_replicate] at hv
  split at hv <;> simp at hv
/-- How many are not known. -/
def unk (kn : List Bool) : Nat := kn.countP (fun x => !x)
theorem unk_put {kn : List Bool} {v : Nat} (hl : v < kn.length) (hk : kn.getD v false = false) : unk (kn.set v true) + 1 = unk kn := by
  unfold unk
  rw [List.countP_set hl]
  have e : kn[v] = false := by simpa [List.getD_eq_getElem?_getD, List.getElem?_eq_getElem hl] using hk
  have hp : 0 < kn.countP (fun x => !x) := List.countP_pos_iff.2 ⟨kn[v], List.getElem_mem hl, by simp [e]⟩
  simp [e]
  omega
end Go.Proofs.YtnlecdpiccgdpaaV

set_option linter.unusedVariables false
set_option linter.unusedSimpArgs false
namespace Go.Proofs.YtnlecdpiccgdpaaV
open Go Go.RowKit Go.Proofs
/-- All clauses are true. -/
def Mod (cs : List (List Nat)) (b : Nat → Bool) : Prop := ∀ c, c ∈ cs → True_ b c
theorem Mod.sub {cs cs' : List (List Nat)} {b : Nat → Bool} (h : Mod cs' b) (hs : ∀ c, c ∈ cs → c ∈ cs') : Mod cs b := fun c hc => h c (hs c hc)
theorem lt_nt (b : Nat → Bool) (x : Nat) : lt_ b (GateP.nt x) = !lt_ b x := by
  have h2 : GateP.nt x / 2 = x / 2 := by unfold GateP.nt; split <;> omega
  have h3 : decide (GateP.nt x % 2 = 1) = !decide (x % 2 = 1) := by
    unfold GateP.nt
    rcases (show x % 2 = 0 ∨ x % 2 = 1 by omega) with h | h <;> simp [h] <;> omega
  unfold lt_
  rw [h2, h3]
  cases b (x / 2) <;> cases decide (x % 2 = 1) <;> rfl
theorem nt_div (x : Nat) : GateP.nt x / 2 = x / 2 := by unfold GateP.nt; split <;> omega
theorem nt_ne (x : Nat) : GateP.nt x ≠ x := by unfold GateP.nt; split <;> omega
/-- What a gate of a kind says. -/
def gv (k : Nat) (a b c : Bool) : Bool := if k = 0 then a && b else if k = 1 then a != b else (a && b) || (!a && c)
/-- A gate's clauses. -/
def gcl (k a b c x : Nat) : List (List Nat) :=
  if k = 0 then [[GateP.nt x, a], [GateP.nt x, b], [x, GateP.nt a, GateP.nt b]]
  else if k = 1 then [[GateP.nt x, a, b], [GateP.nt x, GateP.nt a, GateP.nt b], [x, GateP.nt a, b], [x, a, GateP.nt b]]
  else [[GateP.nt a, GateP.nt b, x], [GateP.nt a, b, GateP.nt x], [a, GateP.nt c, x], [a, c, GateP.nt x], [GateP.nt b, GateP.nt c, x], [b, c, GateP.nt x]]
theorem gcl_len (k a b c x : Nat) : (gcl k a b c x).length ≤ 6 := by
  unfold gcl; split
  · simp
  · split <;> simp
theorem True2 {b : Nat → Bool} {x y : Nat} : True_ b [x, y] ↔ lt_ b x = true ∨ lt_ b y = true := by simp [True_]
theorem True3 {b : Nat → Bool} {x y z : Nat} : True_ b [x, y, z] ↔ lt_ b x = true ∨ lt_ b y = true ∨ lt_ b z = true := by simp [True_]
theorem gv_of {k a b c x : Nat} {be : Nat → Bool} : Mod (gcl k a b c x) be ↔ lt_ be x = gv k (lt_ be a) (lt_ be b) (lt_ be c) := by
  unfold gcl gv Mod
  split
  · simp only [List.mem_cons, List.not_mem_nil, or_false, forall_eq_or_imp, forall_eq, True2, True3, lt_nt]
    cases lt_ be x <;> cases lt_ be a <;> cases lt_ be b <;> simp
  · split
    · simp only [List.mem_cons, List.not_mem_nil, or_false, forall_eq_or_imp, forall_eq, True2, True3, lt_nt]
      cases lt_ be x <;> cases lt_ be a <;> cases lt_ be b <;> simp
    · simp only [List.mem_cons, List.not_mem_nil, or_false, forall_eq_or_imp, forall_eq, True2, True3, lt_nt]
      cases lt_ be x <;> cases lt_ be a <;> cases lt_ be b <;> cases lt_ be c <;> simp
/-- A clause of which all but the literals of one variable are known, and of these there is but one: it has another that holds. -/
theorem Settled.other {kn tr : List Bool} {c : List Nat} {x : Nat} (h : Settled kn tr c) (hx : ¬ Kn kn x) (ho : ∀ y, y ∈ c → y = x ∨ Kn kn y) : ∃ y, y ∈ c ∧ y ≠ x ∧ lt_ (fun v => tr.getD v false) y = true := by
  rcases h with ⟨y, h1, h2, h3⟩ | ⟨y, z, h1, h2, h3, h4, h5⟩
  · refine ⟨y, h1, fun e => hx (e ▸ h2), ?_⟩
    have : Cons (fun v => tr.getD v false) kn tr := fun v _ => rfl
    rw [← this.is h2]; exact h3
  · have e1 := (ho y h1).resolve_right h3
    have e2 := (ho z h2).resolve_right h4
    exact absurd (e1.trans e2.symm) h5
theorem Kn_nt {kn : List Bool} {x : Nat} : Kn kn (GateP.nt x) ↔ Kn kn x := by unfold Kn; rw [nt_div]
theorem oth2 {kn tr : List Bool} {x a : Nat} (hx : ¬ Kn kn x) (ha : Kn kn a) (h : Settled kn tr [x, a]) : lt_ (fun v => tr.getD v false) a = true := by
  obtain ⟨y, h1, h2, h3⟩ := h.other hx (fun y hy => by simp only [List.mem_cons, List.not_mem_nil, or_false] at hy; rcases hy with e | e <;> subst e; exact .inl rfl; exact .inr ha)
  simp only [List.mem_cons, List.not_mem_nil, or_false] at h1
  rcases h1 with e | e <;> subst e
  · exact absurd rfl h2
  · exact h3
theorem oth3 {kn tr : List Bool} {x a b : Nat} (hx : ¬ Kn kn x) (ha : Kn kn a) (hb : Kn kn b) {c : List Nat} (hc : c = [x, a, b] ∨ c = [a, b, x]) (h : Settled kn tr c) : lt_ (fun v => tr.getD v false) a = true ∨ lt_ (fun v => tr.getD v false) b = true := by
  have hm : ∀ y, y ∈ c ↔ y = x ∨ y = a ∨ y = b := fun y => by
    rcases hc with e | e <;> subst e <;> simp only [List.mem_cons, List.not_mem_nil, or_false]
    constructor <;> (intro h; rcases h with h | h | h <;> simp [h])
  obtain ⟨y, h1, h2, h3⟩ := h.other hx (fun y hy => by rcases (hm y).1 hy with e | e | e <;> subst e; exact .inl rfl; exact .inr ha; exact .inr hb)
  rcases (hm y).1 h1 with e | e | e <;> subst e
  · exact absurd rfl h2
  · exact .inl h3
  · exact .inr h3
/-- A gate whose arguments are known is known, when nothing is left to do. -/
theorem gcl_known {k a b c x : Nat} {kn tr : List Bool} (ha : Kn kn a) (hb : Kn kn b) (hc : 2 ≤ k → Kn kn c) (h : ∀ d, d ∈ gcl k a b c x → Settled kn tr d) : Kn kn x := by
  by_cases hx : Kn kn x
  · exact hx
  exfalso
  have hnx : ¬ Kn kn (GateP.nt x) := fun e => hx (Kn_nt.1 e)
  have ha' := Kn_nt.2 ha
  have hb' := Kn_nt.2 hb
  unfold gcl at h
  split at h
  · simp only [List.mem_cons, List.not_mem_nil, or_false, forall_eq_or_imp, forall_eq] at h
    have q1 := oth2 hnx ha h.1
    have q2 := oth2 hnx hb h.2.1
    have q3 := oth3 hx ha' hb' (.inl rfl) h.2.2
    rw [lt_nt, lt_nt, q1, q2] at q3
    simp at q3
  · split at h
    · simp only [List.mem_cons, List.not_mem_nil, or_false, forall_eq_or_imp, forall_eq] at h
      have q1 := oth3 hnx ha hb (.inl rfl) h.1
      have q2 := oth3 hnx ha' hb' (.inl rfl) h.2.1
      have q3 := oth3 hx ha' hb (.inl rfl) h.2.2.1
      have q4 := oth3 hx ha hb' (.inl rfl) h.2.2.2
      simp only [lt_nt] at q1 q2 q3 q4
      revert q1 q2 q3 q4
      cases lt_ (fun v => tr.getD v false) a <;> cases lt_ (fun v => tr.getD v false) b <;> simp
    · have hc := hc (by omega)
      have hc' := Kn_nt.2 hc
      simp only [List.mem_cons, List.not_mem_nil, or_false, forall_eq_or_imp, forall_eq] at h
      have q1 := oth3 hx ha' hb' (.inr rfl) h.1
      have q2 := oth3 hnx ha' hb (.inr rfl) h.2.1
      have q3 := oth3 hx ha hc' (.inr rfl) h.2.2.1
      have q4 := oth3 hnx ha hc (.inr rfl) h.2.2.2.1
      have q5 := oth3 hx hb' hc' (.inr rfl) h.2.2.2.2.1
      have q6 := oth3 hnx hb hc (.inr rfl) h.2.2.2.2.2
      simp only [lt_nt] at q1 q2 q3 q4 q5 q6
      revert q1 q2 q3 q4 q5 q6
      cases lt_ (fun v => tr.getD v false) a <;> cases lt_ (fun v => tr.getD v false) b <;> cases lt_ (fun v => tr.getD v false) c <;> simp
/-- Gates: so many variables, these clauses, these inputs. -/
structure GI (n : Nat) (cs : List (List Nat)) (I : Nat → Prop) : Prop where
  fit : ∀ c, c ∈ cs → ∀ x, x ∈ c → x / 2 < n
  pos : 0 < n
  top : [0] ∈ cs
  len : cs.length ≤ 6 * n
  len3 : ∀ c, c ∈ cs → c.length ≤ 3
  ins : ∀ v, I v → v < n
  ex : ∀ t : Nat → Bool, ∃ b, (∀ v, I v → b v = t v) ∧ Mod cs b
  cpl : ∀ kn tr : List Bool, (∀ v, I v → kn.getD v false = true) → (∀ c, c ∈ cs → Settled kn tr c) → ∀ v, v < n → kn.getD v false = true
theorem lt_of {b b' : Nat → Bool} {x : Nat} (h : b (x / 2) = b' (x / 2)) : lt_ b x = lt_ b' x := by unfold lt_; rw [h]
theorem gcl_len3 (k a b c x : Nat) : ∀ d, d ∈ gcl k a b c x → d.length ≤ 3 := fun d hd => by
  unfold gcl at hd
  split at hd
  · simp only [List.mem_cons, List.not_mem_nil, or_false] at hd
    rcases hd with e | e | e <;> subst e <;> simp
  · split at hd
    · simp only [List.mem_cons, List.not_mem_nil, or_false] at hd
      rcases hd with e | e | e | e <;> subst e <;> simp
    · simp only [List.mem_cons, List.not_mem_nil, or_false] at hd
      rcases hd with e | e | e | e | e | e <;> subst e <;> simp
theorem GI.zero : GI 1 [[0]] (fun _ => False) where
  fit := by simp
  len3 := by simp
  pos := by omega
  top := by simp
  len := by simp
  ins := fun v h => h.elim
  ex := fun t => ⟨fun _ => true, fun v h => h.elim, fun c hc => by simp at hc; subst hc; exact ⟨0, by simp, rfl⟩⟩
  cpl := fun kn tr _ h v hv => by
    have e : v = 0 := by omega
    subst e
    rcases h [0] (by simp) with ⟨y, h1, h2, h3⟩ | ⟨y, z, h1, h2, _, _, h5⟩
    · simp at h1; subst h1; exact h2
    · simp at h1 h2; omega
theorem GI.input {n : Nat} {cs : List (List Nat)} {I : Nat → Prop} (h : GI n cs I) : GI (n + 1) cs (fun v => I v ∨ v = n) where
  fit := fun c hc x hx => by have := h.fit c hc x hx; omega
  pos := by omega
  top := h.top
  len := by have := h.len; omega
  len3 := h.len3
  ins := fun v hv => by rcases hv with hv | hv; have := h.ins v hv; omega; omega
  ex := fun t => by
    obtain ⟨b, h1, h2⟩ := h.ex t
    refine ⟨fun v => if v = n then t n else b v, fun v hv => ?_, fun c hc => ?_⟩
    · rcases hv with hv | hv
      · have := h.ins v hv
        show (if v = n then _ else _) = _
        rw [if_neg (by omega)]; exact h1 v hv
      · subst hv; simp
    · obtain ⟨z, hz, hb⟩ := h2 c hc
      refine ⟨z, hz, ?_⟩
      rw [← hb]
      refine lt_of ?_
      have := h.fit c hc z hz
      show (if _ then _ else _) = _
      rw [if_neg (by omega)]
  cpl := fun kn tr hi hs v hv => by
    by_cases e : v = n
    · subst e; exact hi _ (.inr rfl)
    · exact h.cpl kn tr (fun v hv => hi v (.inl hv)) hs v (by omega)
theorem GI.gate {n : Nat} {cs : List (List Nat)} {I : Nat → Prop} (h : GI n cs I) {k a b c : Nat} (ha : a / 2 < n) (hb : b / 2 < n) (hc : c / 2 < n) : GI (n + 1) (cs ++ gcl k a b c (2 * n)) I where
  fit := fun d hd x hx => by
    rcases List.mem_append.1 hd with hd | hd
    · have := h.fit d hd x hx; omega
    · have e1 := nt_div a
      have e2 := nt_div b
      have e3 := nt_div c
      have e4 := nt_div (2 * n)
      have key : x = a ∨ x = b ∨ x = c ∨ x = 2 * n ∨ x = GateP.nt a ∨ x = GateP.nt b ∨ x = GateP.nt c ∨ x = GateP.nt (2 * n) := by
        unfold gcl at hd
        split at hd
        · simp only [List.mem_cons, List.not_mem_nil, or_false] at hd
          rcases hd with e | e | e <;> subst e <;> simp only [List.mem_cons, List.not_mem_nil, or_false] at hx
          · rcases hx with e | e <;> simp [e]
          · rcases hx with e | e <;> simp [e]
          · rcases hx with e | e | e <;> simp [e]
        · split at hd
          · simp only [List.mem_cons, List.not_mem_nil, or_false] at hd
            rcases hd with e | e | e | e <;> subst e <;> simp only [List.mem_cons, List.not_mem_nil, or_false] at hx <;> (rcases hx with e | e | e <;> simp [e])
          · simp only [List.mem_cons, List.not_mem_nil, or_false] at hd
            rcases hd with e | e | e | e | e | e <;> subst e <;> simp only [List.mem_cons, List.not_mem_nil, or_false] at hx <;> (rcases hx with e | e | e <;> simp [e])
      rcases key with e | e | e | e | e | e | e | e <;> rw [e] <;> omega
  pos := by omega
  top := List.mem_append.2 (.inl h.top)
  len := by have := h.len; have := gcl_len k a b c (2 * n); rw [List.length_append]; omega
  len3 := fun d hd => (List.mem_append.1 hd).elim (h.len3 d) (gcl_len3 k a b c (2 * n) d)
  ins := fun v hv => by have := h.ins v hv; omega
  ex := fun t => by
    obtain ⟨be, h1, h2⟩ := h.ex t
    let be' : Nat → Bool := fun v => if v = n then gv k (lt_ be a) (lt_ be b) (lt_ be c) else be v
    have old : ∀ x, x / 2 < n → lt_ be' x = lt_ be x := fun x hx => lt_of (by show (if _ then _ else _) = _; rw [if_neg (by omega)])
    refine ⟨be', fun v hv => ?_, fun d hd => ?_⟩
    · have := h.ins v hv
      show (if v = n then _ else _) = _
      rw [if_neg (by omega)]; exact h1 v hv
    · rcases List.mem_append.1 hd with hd | hd
      · obtain ⟨z, hz, hb⟩ := h2 d hd
        exact ⟨z, hz, by rw [old z (h.fit d hd z hz)]; exact hb⟩
      · refine gv_of.2 ?_ d hd
        rw [old a ha, old b hb, old c hc]
        unfold lt_
        rw [show 2 * n / 2 = n by omega, show decide (2 * n % 2 = 1) = false by simp]
        show (be' n != false) = _
        have : be' n = gv k (lt_ be a) (lt_ be b) (lt_ be c) := if_pos rfl
        rw [this]
        unfold lt_
        simp
  cpl := fun kn tr hi hs v hv => by
    have old : ∀ v, v < n → kn.getD v false = true := h.cpl kn tr hi (fun d hd => hs d (List.mem_append.2 (.inl hd)))
    by_cases e : v = n
    · subst e
      have := gcl_known (kn := kn) (tr := tr) (x := 2 * v) (old _ ha) (old _ hb) (fun _ => old _ hc) (fun d hd => hs d (List.mem_append.2 (.inr hd)))
      unfold Kn at this
      rwa [show 2 * v / 2 = v by omega] at this
    · exact old v (by omega)
theorem GI.t0 {n : Nat} {cs : List (List Nat)} {I : Nat → Prop} (h : GI n cs I) {b : Nat → Bool} (hb : Mod cs b) : lt_ b 0 = true := by
  obtain ⟨z, hz, e⟩ := hb _ h.top
  simp at hz; subst hz; exact e
/-- A gate that has been made: what its literal is. -/
def MkI (n : Nat) (cs : List (List Nat)) (k a b c x : Nat) : Prop := x / 2 < n ∧ ∀ be, Mod cs be → lt_ be x = gv k (lt_ be a) (lt_ be b) (lt_ be c)
theorem MkI.mono {n n' : Nat} {cs cs' : List (List Nat)} {k a b c x : Nat} (h : MkI n cs k a b c x) (hn : n ≤ n') (hs : ∀ c, c ∈ cs → c ∈ cs') : MkI n' cs' k a b c x := ⟨by have := h.1; omega, fun be hb => h.2 be (hb.sub hs)⟩
theorem MkI.new (n : Nat) (cs : List (List Nat)) (k a b c : Nat) : MkI (n + 1) (cs ++ gcl k a b c (2 * n)) k a b c (2 * n) := ⟨by omega, fun be hb => gv_of.1 (hb.sub (fun c hc => List.mem_append.2 (.inr hc)))⟩
/-- What a call has made of the gates: more of them, a literal, and what it says. -/
def GR (n : Nat) (cs : List (List Nat)) (n' : Nat) (cs' : List (List Nat)) (x : Nat) (f : (Nat → Bool) → Bool) : Prop := n ≤ n' ∧ (∀ c, c ∈ cs → c ∈ cs') ∧ x / 2 < n' ∧ ∀ be, Mod cs' be → lt_ be x = f be
end Go.Proofs.YtnlecdpiccgdpaaV

set_option linter.unusedVariables false
set_option linter.unusedSimpArgs false
namespace Go.Proofs.YtnlecdpiccgdpaaV
open Go Go.RowKit

/-- A map in memory, each of whose entries is as I says. -/
def MapB (P : Program) (k : TypeId) (w : World) (b : Nat) (I : Value → Value → Prop) : Prop :=
  ∃ es clock, w.heap[b]? = some (.map es clock) ∧ ∀ e ∈ es.toList, (∃ l, keyOf P k e.key = some l) ∧ I e.key e.val
theorem MapB.lt {P : Program} {k : TypeId} {w : World} {b : Nat} {I : Value → Value → Prop} (h : MapB P k w b I) : b < w.heap.size := by
  obtain ⟨es, clock, hb, _⟩ := h; exact (Array.getElem?_eq_some_iff.1 hb).1
theorem MapB.tch {P : Program} {k : TypeId} {S : Nat → Prop} {w w' : World} {b : Nat} {I : Value → Value → Prop} (h : MapB P k w b I) (t : Tch S w w') (hs : ¬ S b) : MapB P k w' b I := by
  have hl := h.lt
  obtain ⟨es, clock, hb, q⟩ := h; exact ⟨es, clock, (t.block b hl hs).trans hb, q⟩
theorem MapB.tch0 {P : Program} {k : TypeId} {w w' : World} {b : Nat} {I : Value → Value → Prop} (h : MapB P k w b I) (t : Tch N0 w w') : MapB P k w' b I := h.tch t (fun e => e)
theorem MapB.mono {P : Program} {k : TypeId} {w : World} {b : Nat} {I I' : Value → Value → Prop} (h : MapB P k w b I) (hi : ∀ x y, I x y → I' x y) : MapB P k w b I' := by
  obtain ⟨es, clock, hb, q⟩ := h; exact ⟨es, clock, hb, fun e he => ⟨(q e he).1, hi _ _ (q e he).2⟩⟩
theorem MapB.ne {P : Program} {k : TypeId} {w : World} {b c : Nat} {I : Value → Value → Prop} {t : TypeId} {l : List Value} (h : MapB P k w b I) (hc : Blk w c t l) : b ≠ c := by
  rintro rfl
  obtain ⟨es, clock, hb, q⟩ := h
  unfold Blk at hc
  rw [hb] at hc; cases hc
section
variable {P : Program} {ρ : Env} {w : World} {J : Env → World → Prop}
theorem S_lookup {d : Option Tmp} {t : TypeId} {m x : Operand} {ty : TypeId} {pos : String} {af : Array Edge} {g : Option (Nat × Bool)} (k e : TypeId) (z : Value) {b : Nat} {key : Value} {I : Value → Value → Prop} (K : WideMaps.KeyLaw P k)
    (ht : pureR P (underlying t) = some (.map k e)) (hz : pureR P (zeroValue e) = some z) (hm : evR ρ m = .map (some b)) (hx : evR ρ x = key) (hk : ∃ l, keyOf P k key = some l) (hM : MapB P k w b I)
    (h : ∀ v ok, (ok = true ∧ I key v ∨ ok = false ∧ v = z) → J (updO ρ d (.tuple #[v, .bool ok])) w) : Step P ⟨d, .lookup t m x true, ty, pos, af, g⟩ ρ w J := by
  obtain ⟨es, clock, hb, q⟩ := hM
  obtain ⟨l, hl⟩ := hk
  have h1 := pureR_run (w := w) ht
  have h2 := pureR_run (w := w) hz
  rcases K.find w hl es.toList (fun e he => (q e he).1) with ⟨f1, f2⟩ | ⟨j, e0, f1, f2, f3⟩
  · refine S_val (v := .tuple #[z, .bool false]) (w' := w) ?_ (h z false (.inr ⟨rfl, rfl⟩))
    simp only [execOp, hm, hx]
    simp [Instr.lookup, h1, MapKept.run_getObj_map hb, K.check w _ hl, f1, h2, Result.andThen]
  · refine S_val (v := .tuple #[e0.val, .bool true]) (w' := w) ?_ (h e0.val true (.inl ⟨rfl, ?_⟩))
    · simp only [execOp, hm, hx]
      simp [Instr.lookup, h1, MapKept.run_getObj_map hb, K.check w _ hl, f1, Result.andThen]
    · rw [← f3]; exact (q e0 (List.mem_of_getElem? f2)).2
theorem S_mapUpdate {d : Option Tmp} {t : TypeId} {m x y : Operand} {ty : TypeId} {pos : String} {af : Array Edge} {g : Option (Nat × Bool)} (k e : TypeId) {b : Nat} {key val : Value} {I : Value → Value → Prop} (K : WideMaps.KeyLaw P k)
    (ht : pureR P (underlying t) = some (.map k e)) (hm : evR ρ m = .map (some b)) (hx : evR ρ x = key) (hy : evR ρ y = val) (hk : ∃ l, keyOf P k key = some l) (hM : MapB P k w b I) (hi : I key val)
    (h : ∀ w1, Tch (one b) w w1 → w1.heap.size = w.heap.size → MapB P k w1 b I → J (updO ρ d undef) w1) : Step P ⟨d, .mapUpdate t m x y, ty, pos, af, g⟩ ρ w J := by
  obtain ⟨es, clock, hb, q⟩ := hM
  obtain ⟨l, hl⟩ := hk
  have h1 := pureR_run (w := w) ht
  have hbl : b < w.heap.size := (Array.getElem?_eq_some_iff.1 hb).1
  have fin : ∀ es' clock', (∀ e ∈ es'.toList, (∃ l, keyOf P k e.key = some l) ∧ I e.key e.val) → J (updO ρ d undef) { w with heap := w.heap.setIfInBounds b (.map es' clock') } := fun es' clock' q' => by
    refine h _ ⟨rfl, rfl, rfl, by simp, fun c hc hn => ?_⟩ (by simp) ⟨es', clock', ?_, q'⟩
    · have : b ≠ c := fun e => hn e.symm
      simp [Array.getElem?_setIfInBounds, this]
    · simp [Array.getElem?_setIfInBounds, hbl]
  rcases K.find w hl es.toList (fun e he => (q e he).1) with ⟨f1, f2⟩ | ⟨j, e0, f1, f2, f3⟩
  · refine S_skip (w' := { w with heap := w.heap.setIfInBounds b (.map (es.push ⟨key, val, clock⟩) (clock + 1)) }) ?_ (fin _ _ fun e0 he => ?_)
    · simp only [execOp, hm, hx, hy]
      simp [Instr.mapUpdate, h1, MapKept.run_getObj_map hb, K.check w false hl, f1, MapKept.run_setObj_map _ hb, Result.andThen]
    · simp only [Array.toList_push, List.mem_append, List.mem_singleton] at he
      rcases he with he | rfl
      · exact q e0 he
      · exact ⟨⟨l, hl⟩, hi⟩
  · have hj : es[j]? = some e0 := by simpa using f2
    refine S_skip (w' := { w with heap := w.heap.setIfInBounds b (.map (es.modify j fun e => { e with key := key, val := val }) clock) }) ?_ (fin _ _ fun e1 he => ?_)
    · simp only [execOp, hm, hx, hy]
      simp [Instr.mapUpdate, h1, MapKept.run_getObj_map hb, K.check w false hl, f1, MapKept.run_setObj_map _ hb, Result.andThen, hj, f3, K.stays w hl]
    · obtain ⟨i, hi1, rfl⟩ := List.getElem_of_mem he
      simp only [Array.getElem_toList, Array.getElem_modify]
      split
      · exact ⟨⟨l, hl⟩, hi⟩
      · exact q _ (by simp)
theorem S_makeMap {d : Option Tmp} {t : TypeId} {ty : TypeId} {pos : String} {af : Array Edge} {g : Option (Nat × Bool)} (k : TypeId) (I : Value → Value → Prop)
    (h : ∀ w1, Tch N0 w w1 → w1.heap.size = w.heap.size + 1 → MapB P k w1 w.heap.size I → J (updO ρ d (.map (some w.heap.size))) w1) : Step P ⟨d, .makeMap t none, ty, pos, af, g⟩ ρ w J :=
  S_new (v := .map (some w.heap.size)) (ob := .map #[] 0) rfl fun w1 h1 h2 h3 => h w1 h1 h2 ⟨#[], 0, h3, by simp⟩
end
end Go.Proofs.YtnlecdpiccgdpaaV

set_option linter.unusedVariables false
set_option linter.unusedSimpArgs false
namespace Go.Proofs.YtnlecdpiccgdpaaV
open Go Go.RowKit Go.Proofs
theorem und34 : Try.prog.underlying 34 = some (.array 4 3) := by kernel_rfl
theorem und3 : Try.prog.underlying 3 = some (.int .i64) := by kernel_rfl
theorem keyT34 : Try.prog.keyTypeAt 3 34 = true := by kernel_rfl
theorem tiled34 : Try.prog.tiled 3 34 = true := by kernel_rfl
theorem key_law : WideMaps.KeyLaw Try.prog 34 := Go.deep_law (m := 3) (by omega) keyT34 tiled34 (by rw [und34])
theorem cells3 : Try.prog.cellsOf 3 = 1 := by kernel_rfl
theorem cells34 : Try.prog.cellsOf 34 = 4 := by kernel_rfl
theorem keyT34' : Try.prog.keyType 34 = true := by kernel_rfl
def key4 (a b c d : Int) : Value := .agg #[.int .i64 a, .int .i64 b, .int .i64 c, .int .i64 d]
theorem lits3 (m : Nat) (x : Int) (h : (Lit.int .i64 x).wf = true) : Try.prog.keyLits (m + 1) 3 [.int .i64 x] = some [.int .i64 x] := by
  simp [Program.keyLits, und3, h]
theorem key_is (a b c d : Int) (ha : (Lit.int .i64 a).wf = true) (hb : (Lit.int .i64 b).wf = true) (hc : (Lit.int .i64 c).wf = true) (hd : (Lit.int .i64 d).wf = true) : ∃ l, keyOf Try.prog 34 (key4 a b c d) = some l := by
  obtain ⟨m, hm⟩ : ∃ m, Try.prog.types.size = m + 1 := ⟨_, rfl⟩
  have hf : (key4 a b c d).formed Try.prog 34 = true := by
    unfold key4 Value.formed
    rw [und34]
    simp [cells34]
  unfold keyOf
  rw [und34]
  simp only [keyT34', hf, Bool.and_self, if_true, hm]
  unfold Program.keyLits
  rw [und34]
  simp [key4, cells34, cells3, Value.cells, List.range_succ, lits3, ha, hb, hc, hd]
end Go.Proofs.YtnlecdpiccgdpaaV

set_option linter.unusedVariables false
set_option linter.unusedSimpArgs false
namespace Go.Proofs.YtnlecdpiccgdpaaV
open Go Go.RowKit Go.Proofs
theorem Own.ne_map {P : Program} {k : TypeId} {w : World} {base e sz n b : Nat} {v : Value} {cells : List Value} {I : Value → Value → Prop} (h : Own w base e sz v n cells) (hM : MapB P k w b I) : ∀ c, v.ownBlock = some c → c ≠ b := by
  rintro c hc rfl
  obtain ⟨hl, hc'⟩ := h
  rcases hc' with ⟨hv, _⟩ | ⟨g, cap, cur, hv, _, hgb, _⟩
  · rw [hv] at hc; cases hc
  · rw [hv] at hc
    have : g = c := by injection hc
    subst this
    obtain ⟨es, clock, hb, _⟩ := hM
    rw [hb] at hgb; cases hgb
/-- So many clauses, each in a block of its own. -/
def ClsT (F : Nat → Prop) (w : World) (Lv : List Value) (cs : List (List Nat)) : Prop := Lv.length = cs.length ∧ ∀ i, i < cs.length → ∃ g, Lv[i]? = some (.slice (some ⟨g, 0, none⟩) (cs.getD i []).length (cs.getD i []).length) ∧ F g ∧ Blk w g 3 (nats (cs.getD i []))
theorem ClsT.tch {F S : Nat → Prop} {w w' : World} {Lv : List Value} {cs : List (List Nat)} (h : ClsT F w Lv cs) (k : Tch S w w') (hs : ∀ g l, F g → Blk w g 3 l → ¬ S g) : ClsT F w' Lv cs := ⟨h.1, fun i hi => by
  obtain ⟨g, h1, h2, h3⟩ := h.2 i hi
  exact ⟨g, h1, h2, h3.tch k (hs g _ h2 h3)⟩⟩
theorem ClsT.tch0 {F : Nat → Prop} {w w' : World} {Lv : List Value} {cs : List (List Nat)} (h : ClsT F w Lv cs) (k : Tch N0 w w') : ClsT F w' Lv cs := h.tch k (fun _ _ _ _ e => e)
theorem ClsT.up {F F' : Nat → Prop} {w : World} {Lv : List Value} {cs : List (List Nat)} (h : ClsT F w Lv cs) (hF : ∀ b, F b → F' b) : ClsT F' w Lv cs := ⟨h.1, fun i hi => by
  obtain ⟨g, h1, h2, h3⟩ := h.2 i hi
  exact ⟨g, h1, hF g h2, h3⟩⟩
theorem ClsT.push {F : Nat → Prop} {w : World} {Lv : List Value} {cs : List (List Nat)} (h : ClsT F w Lv cs) {g : Nat} {c : List Nat} (hg : F g) (hb : Blk w g 3 (nats c)) : ClsT F w (Lv ++ [.slice (some ⟨g, 0, none⟩) c.length c.length]) (cs ++ [c]) := by
  refine ⟨by simp [h.1], fun i hi => ?_⟩
  rcases Nat.lt_or_ge i cs.length with hi' | hi'
  · obtain ⟨g, h1, h2, h3⟩ := h.2 i hi'
    have e : (cs ++ [c]).getD i [] = cs.getD i [] := by simp [List.getD_eq_getElem?_getD, List.getElem?_append_left hi']
    rw [e]
    exact ⟨g, by rw [List.getElem?_append_left (by rw [h.1]; exact hi')]; exact h1, h2, h3⟩
  · have e : i = cs.length := by simp at hi; omega
    subst e
    have e2 : (cs ++ [c]).getD cs.length [] = c := by simp [List.getD_eq_getElem?_getD]
    rw [e2]
    exact ⟨g, by rw [← h.1]; simp, hg, hb⟩
/-- Gates in memory, all of whose blocks are of F: so many variables, these clauses, a map each of whose entries is as M says. -/
def Low (F : Nat → Prop) (w : World) (p nv : Nat) (cs : List (List Nat)) (M : Value → Value → Prop) : Prop :=
  ∃ A cp mb Lv, Blk w p 78 [.int .i64 ((nv : Nat) : Int), .slice A cs.length cp, .map (some mb)] ∧ Own w 0 27 1 (.slice A cs.length cp) cs.length Lv ∧ MapB Try.prog 34 w mb M ∧ ClsT F w Lv cs ∧ F p ∧ F mb ∧ (∀ c, (Value.slice A cs.length cp).ownBlock = some c → F c) ∧ (∀ b, F b → b < w.heap.size)
theorem Low.tch {F S : Nat → Prop} {w w' : World} {p nv : Nat} {cs : List (List Nat)} {M : Value → Value → Prop} (h : Low F w p nv cs M) (k : Tch S w w') (hs : ∀ b, F b → ¬ S b) : Low F w' p nv cs M := by
  obtain ⟨A, cp, mb, Lv, hP, hO, hM, hC, fp, fm, fA, hl⟩ := h
  exact ⟨A, cp, mb, Lv, hP.tch k (hs p fp), hO.tch k (fun b hb => hs b (fA b hb)), hM.tch k (hs mb fm), hC.tch k (fun g _ hg _ => hs g hg), fp, fm, fA, fun b hb => Nat.lt_of_lt_of_le (hl b hb) k.size⟩
theorem Low.tch0 {F : Nat → Prop} {w w' : World} {p nv : Nat} {cs : List (List Nat)} {M : Value → Value → Prop} (h : Low F w p nv cs M) (k : Tch N0 w w') : Low F w' p nv cs M := h.tch k (fun _ _ e => e)
theorem Low.lt {F : Nat → Prop} {w : World} {p nv : Nat} {cs : List (List Nat)} {M : Value → Value → Prop} (h : Low F w p nv cs M) : ∀ b, F b → b < w.heap.size := by
  obtain ⟨A, cp, mb, Lv, hP, hO, hM, hC, fp, fm, fA, hl⟩ := h
  exact hl
theorem Low.Fp {F : Nat → Prop} {w : World} {p nv : Nat} {cs : List (List Nat)} {M : Value → Value → Prop} (h : Low F w p nv cs M) : F p := by
  obtain ⟨A, cp, mb, Lv, hP, hO, hM, hC, fp, fm, fA, hl⟩ := h
  exact fp
theorem Low.mono {F : Nat → Prop} {w : World} {p nv : Nat} {cs : List (List Nat)} {M M' : Value → Value → Prop} (h : Low F w p nv cs M) (hm : ∀ x y, M x y → M' x y) : Low F w p nv cs M' := by
  obtain ⟨A, cp, mb, Lv, hP, hO, hM, hC, fp, fm, fA, hl⟩ := h
  exact ⟨A, cp, mb, Lv, hP, hO, hM.mono hm, hC, fp, fm, fA, hl⟩
def Mv (F F' : Nat → Prop) (w w' : World) : Prop := Tch F w w' ∧ ∀ b, F' b → F b ∨ w.heap.size ≤ b
theorem Mv.refl (F : Nat → Prop) (w : World) : Mv F F w w := ⟨Tch.refl _ _, fun b hb => .inl hb⟩
theorem Mv.trans {F F1 F2 : Nat → Prop} {w w1 w2 : World} (h : Mv F F1 w w1) (k : Mv F1 F2 w1 w2) : Mv F F2 w w2 :=
  ⟨h.1.trans k.1 (fun _ _ e => e) (fun b hb e => (h.2 b e).resolve_right (by omega)), fun b hb => (k.2 b hb).elim (fun e => h.2 b e) (fun e => .inr (Nat.le_trans h.1.size e))⟩
theorem Mv.same {F : Nat → Prop} {w w' : World} (h : Tch F w w') : Mv F F w w' := ⟨h, fun b hb => .inl hb⟩
theorem Mv.n0 {F : Nat → Prop} {w w' : World} (h : Tch N0 w w') : Mv F F w w' := .same (h.weaken (fun _ _ e => e.elim))
theorem Mv.then0 {F F' : Nat → Prop} {w w1 w2 : World} (h : Mv F F' w w1) (k : Tch N0 w1 w2) : Mv F F' w w2 := h.trans (.n0 k)
theorem Mv.newst {F F' : Nat → Prop} {w w1 w2 : World} {b : Nat} (h : Mv F F' w w1) (k : Tch (one b) w1 w2) (hb : w.heap.size ≤ b) : Mv F F' w w2 :=
  ⟨h.1.trans k (fun _ _ e => e) (fun c hc e => by have : c = b := e; omega), h.2⟩
theorem Mv.ge {F F' : Nat → Prop} {w0 w w' : World} (h : Mv F F' w w') (hF : ∀ b, F b → w0.heap.size ≤ b) (hz : w0.heap.size ≤ w.heap.size) : ∀ b, F' b → w0.heap.size ≤ b := fun b hb => (h.2 b hb).elim (hF b) (fun q => Nat.le_trans hz q)
/-- What an entry of the map of gates is. -/
def MkE (n : Nat) (cs : List (List Nat)) : Value → Value → Prop := fun key val => ∀ k a b c : Nat, key = key4 k a b c → ∃ x : Nat, val = .int .i64 ((x : Nat) : Int) ∧ MkI n cs k a b c x
theorem MkE.mono {n n' : Nat} {cs cs' : List (List Nat)} (hn : n ≤ n') (hs : ∀ c, c ∈ cs → c ∈ cs') (x y : Value) (h : MkE n cs x y) : MkE n' cs' x y := fun k a b c e => by
  obtain ⟨x, h1, h2⟩ := h k a b c e
  exact ⟨x, h1, h2.mono hn hs⟩
theorem key4_inj {k a b c k' a' b' c' : Nat} (h : key4 k a b c = key4 k' a' b' c') : k = k' ∧ a = a' ∧ b = b' ∧ c = c' := by
  unfold key4 at h
  injection h with h
  injection h with h
  simp only [List.cons.injEq, Value.int.injEq, true_and, and_true] at h
  omega
theorem MkE.new (n : Nat) (cs : List (List Nat)) (k a b c : Nat) : MkE (n + 1) (cs ++ gcl k a b c (2 * n)) (key4 k a b c) (.int .i64 ((2 * n : Nat) : Int)) := fun k' a' b' c' e => by
  obtain ⟨rfl, rfl, rfl, rfl⟩ := key4_inj e
  exact ⟨2 * n, rfl, MkI.new n cs k a b c⟩
/-- Gates, in memory and as clauses. -/
def GObj (F : Nat → Prop) (w : World) (p n : Nat) (cs : List (List Nat)) (I : Nat → Prop) : Prop := Low F w p n cs (MkE n cs) ∧ GI n cs I
theorem GObj.tch0 {F : Nat → Prop} {w w' : World} {p n : Nat} {cs : List (List Nat)} {I : Nat → Prop} (h : GObj F w p n cs I) (k : Tch N0 w w') : GObj F w' p n cs I := ⟨h.1.tch0 k, h.2⟩
theorem GObj.tchS {F S : Nat → Prop} {w w' : World} {p n : Nat} {cs : List (List Nat)} {I : Nat → Prop} (h : GObj F w p n cs I) (k : Tch S w w') (hs : ∀ b, S b → ¬ F b) : GObj F w' p n cs I := ⟨h.1.tch k (fun b hb e => hs b e hb), h.2⟩
theorem Low.tchS {F S : Nat → Prop} {w w' : World} {p nv : Nat} {cs : List (List Nat)} {M : Value → Value → Prop} (h : Low F w p nv cs M) (k : Tch S w w') (hs : ∀ b, S b → ¬ F b) : Low F w' p nv cs M := h.tch k (fun b hb e => hs b e hb)
theorem wf_i64 {x : Int} (h0 : -9223372036854775808 ≤ x) (h1 : x ≤ 9223372036854775807) : (Lit.int .i64 x).wf = true := by
  simp only [Lit.wf, IntKind.min, IntKind.max, Bool.and_eq_true, decide_eq_true_eq]
  simp [IntKind.signed, IntKind.bits]
  omega
theorem key_nat (k a b c : Nat) (hk : k < 9223372036854775807) (ha : a < 9223372036854775807) (hb : b < 9223372036854775807) (hc : c < 9223372036854775807) : ∃ l, keyOf Try.prog 34 (key4 k a b c) = some l :=
  key_is _ _ _ _ (wf_i64 (by omega) (by omega)) (wf_i64 (by omega) (by omega)) (wf_i64 (by omega) (by omega)) (wf_i64 (by omega) (by omega))
section
variable {ρ : Env} {w : World} {J : Env → World → Prop}
set_option maxRecDepth 100000 in
/-- A look for a gate. -/
theorem S_lookupG {d : Option Tmp} {m x : Operand} {ty : TypeId} {pos : String} {af : Array Edge} {g : Option (Nat × Bool)} {mb n : Nat} {cs : List (List Nat)} (k a b c : Nat) (hm : evR ρ m = .map (some mb)) (hx : evR ρ x = key4 k a b c) (hk : ∃ l, keyOf Try.prog 34 (key4 k a b c) = some l) (hM : MapB Try.prog 34 w mb (MkE n cs))
    (h : ∀ (x : Nat) ok, (ok = true → MkI n cs k a b c x) → J (updO ρ d (.tuple #[.int .i64 ((x : Nat) : Int), .bool ok])) w) : Step Try.prog ⟨d, .lookup 76 m x true, ty, pos, af, g⟩ ρ w J :=
  S_lookup 34 3 (.int .i64 0) key_law (by kernel_rfl) (by kernel_rfl) hm hx hk hM fun v ok hv => by
    rcases hv with ⟨rfl, hv⟩ | ⟨rfl, rfl⟩
    · obtain ⟨x, rfl, hx⟩ := hv k a b c rfl
      exact h x true (fun _ => hx)
    · exact h 0 false (fun e => by cases e)
set_option maxRecDepth 100000 in
/-- A gate is put down. -/
theorem S_updateG {d : Option Tmp} {m x y : Operand} {ty : TypeId} {pos : String} {af : Array Edge} {g : Option (Nat × Bool)} {F : Nat → Prop} {p nv n : Nat} {A : Option Addr} {cp mb : Nat} {Lv : List Value} {cs : List (List Nat)} (k a b c : Nat) (hm : evR ρ m = .map (some mb)) (hx : evR ρ x = key4 k a b c) (hy : evR ρ y = .int .i64 ((2 * n : Nat) : Int)) (hk : ∃ l, keyOf Try.prog 34 (key4 k a b c) = some l)
    (hP : Blk w p 78 [.int .i64 ((nv : Nat) : Int), .slice A cs.length cp, .map (some mb)]) (hO : Own w 0 27 1 (.slice A cs.length cp) cs.length Lv) (hM : MapB Try.prog 34 w mb (MkE n cs)) (hC : ClsT F w Lv cs) (fp : F p) (fm : F mb) (fA : ∀ c, (Value.slice A cs.length cp).ownBlock = some c → F c) (hl : ∀ b, F b → b < w.heap.size)
    (h : ∀ w1, Tch F w w1 → w1.heap.size = w.heap.size → Low F w1 p nv cs (MkE (n + 1) (cs ++ gcl k a b c (2 * n))) → J (updO ρ d undef) w1) : Step Try.prog ⟨d, .mapUpdate 76 m x y, ty, pos, af, g⟩ ρ w J :=
  S_mapUpdate 34 3 key_law (by kernel_rfl) hm hx hy hk (hM.mono (MkE.mono (Nat.le_succ n) (fun c hc => List.mem_append.2 (.inl hc)))) (MkE.new n cs k a b c) fun w1 T hs hM1 => by
    refine h w1 (T.weaken (fun b _ e => by have : b = mb := e; rw [this]; exact fm)) hs ⟨A, cp, mb, Lv, hP.tch T (fun e => hM.ne hP (Eq.symm e)), hO.tch T (fun c hc e => hO.ne_map hM c hc e), hM1, hC.tch T (fun g l _ hb e => hM.ne hb (Eq.symm e)), fp, fm, fA, fun b hb => by rw [hs]; exact hl b hb⟩
end
end Go.Proofs.YtnlecdpiccgdpaaV
