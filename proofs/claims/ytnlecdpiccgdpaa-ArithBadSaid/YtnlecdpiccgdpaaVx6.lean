/- The calculus' words for regions that draw their order and end with operations that wait for all others: what S says need not hold behind these. -/
import Derived.Test.YtnlecdpiccgdpaaVx4
set_option linter.unusedVariables false
set_option linter.unusedSimpArgs false
namespace Go.Proofs.YtnlecdpiccgdpaaV
open Go Go.RowKit
/-- Whatever order is picked from here on; S holds behind every operation below k0 that is carried out. -/
def wpAnyT (P : Program) (md : Region.Mode) (ops : Array Oper) (Q : Exit → Act → World → Prop) (S : World → Prop) (k0 : Nat) : Nat → Array Bool → Act → World → Prop
  | 0, listed, a, w => Region.ready md ops listed = [] ∧ Q .normal a w
  | fuel + 1, listed, a, w =>
    (Region.ready md ops listed = [] → Q .normal a w) ∧
    ∀ i ∈ Region.ready md ops listed, wpOp P ops Q i (fun a' w' => (i < k0 → S w') ∧ wpAnyT P md ops Q S k0 fuel (listed.setIfInBounds i true) a' w') a w
section
variable {P : Program} {md : Region.Mode} {ops : Array Oper} {Q : Exit → Act → World → Prop} {S : World → Prop} {k0 : Nat}
theorem wpAny_ofT : ∀ (fuel : Nat) (listed : Array Bool) (a : Act) (w : World), wpAnyT P md ops Q S k0 fuel listed a w → wpAny P md ops Q fuel listed a w
  | 0, _, _, _, h => h
  | fuel + 1, _, _, _, h => ⟨h.1, fun i hi => wpOp_mono (fun a' w' h' => wpAny_ofT fuel _ a' w' h'.2) (h.2 i hi)⟩
/-- Those from k0 on wait for i. -/
def tailW (md : Region.Mode) (ops : Array Oper) (k0 i : Nat) : Bool := (List.range ops.size).all fun j => decide (j < k0) || (match ops[j]? with | some o => o.after.any (fun e => Region.binds md e && e.on == i) | none => true)
theorem tailW_spec {i : Nat} (h : tailW md ops k0 i = true) : ∀ j oj, ops[j]? = some oj → k0 ≤ j → ∃ e ∈ oj.after, Region.binds md e = true ∧ e.on = i := fun j oj hj hk => by
  unfold tailW at h
  rw [List.all_eq_true] at h
  have := h j (by rw [List.mem_range]; exact (Array.getElem?_eq_some_iff.1 hj).1)
  rw [hj] at this
  simp only [Bool.or_eq_true, decide_eq_true_eq] at this
  rcases this with h' | h'
  · omega
  · rw [Array.any_eq_true'] at h'
    obtain ⟨e, he, hb⟩ := h'
    rw [Bool.and_eq_true, beq_iff_eq] at hb
    exact ⟨e, he, hb.1, hb.2⟩
theorem wpAnyT_first {i : Nat} {oi : Oper} {v : Value} (hi : ops[i]? = some oi) (hsel : ∀ (j : Nat) (o : Oper) cs b, ops[j]? = some o → o.op ≠ .select cs b)
    (hQ : ∀ c a w, Q (.panic c) (a.put oi.dst v) w → Q (.panic c) a w) (hT : ∀ j oj, ops[j]? = some oj → k0 ≤ j → ∃ e ∈ oj.after, Region.binds md e = true ∧ e.on = i) :
    ∀ (fuel : Nat) (listed : Array Bool) (a : Act) (w : World),
      (∀ j oj, ops[j]? = some oj → j ≠ i → listed.getD j true = false → (∀ e ∈ oj.after, Region.binds md e = true → e.on ≠ i) → oi.apart ops oj = true) →
      i ∈ Region.ready md ops listed → YieldsIf P ops S oi v a → S w →
      wpAnyT P md ops Q S k0 fuel (listed.setIfInBounds i true) (a.put oi.dst v) w → wpAnyT P md ops Q S k0 (fuel + 1) listed a w := by
  intro fuel
  induction fuel with
  | zero =>
    intro listed a w _ hr hy hS H
    refine ⟨fun h => (by rw [h] at hr; cases hr), fun j hj => ?_⟩
    by_cases hji : j = i
    · subst hji; exact hy.wpOp hi hS ⟨fun _ => hS, H⟩
    · have := ready_mono hj hji
      rw [H.1] at this
      cases this
  | succ fuel ih =>
    intro listed a w hfree hr hy hS H
    refine ⟨fun h => (by rw [h] at hr; cases hr), fun j hj => ?_⟩
    by_cases hji : j = i
    · subst hji; exact hy.wpOp hi hS ⟨fun _ => hS, H⟩
    · have h1 := H.2 j (ready_mono hj hji)
      obtain ⟨hjun, oj, hoj, hall⟩ := mem_ready.1 hj
      have hnot : ∀ e ∈ oj.after, Region.binds md e = true → e.on ≠ i := fun e he hb heq => by
        have h1 := hall e he hb
        have h0 := (mem_ready.1 hr).1
        rw [heq] at h1
        rcases Nat.lt_or_ge i listed.size with h' | h'
        · simp [h'] at h0 h1; rw [h0] at h1; cases h1
        · simp [Array.getElem?_eq_none h'] at h1
      have hjk : j < k0 := by
        rcases Nat.lt_or_ge j k0 with h' | h'
        · exact h'
        · obtain ⟨e, he, hb, heq⟩ := hT j oj hoj h'
          exact absurd heq (hnot e he hb)
      have h2 := wpOp_putIf hoj (hfree j oj hoj hji hjun hnot) (fun cs b => hsel i oi cs b hi) (fun cs b => hsel j oj cs b hoj) hQ hy h1
      have hfree' : ∀ k ok, ops[k]? = some ok → k ≠ i → (listed.setIfInBounds j true).getD k true = false →
          (∀ e ∈ ok.after, Region.binds md e = true → e.on ≠ i) → oi.apart ops ok = true := fun k ok hk hki hun hno => by
        refine hfree k ok hk hki ?_ hno
        by_cases hjk : j = k
        · subst hjk; exact hjun
        · rw [getD_set_ne true hjk] at hun; exact hun
      refine wpOp_mono (fun a' w' h3 => ⟨h3.2.1, ih (listed.setIfInBounds j true) a' w' hfree' (ready_mono hr (Ne.symm hji)) h3.1 (h3.2.1 hjk) ?_⟩) h2
      rw [Array.setIfInBounds_comm _ _ hji]
      exact h3.2.2
end
def tAny (P : Program) (n : Nat) (ops : Array Oper) (N : Env → World → Prop) (S : World → Prop) (k0 : Nat) (listed : Array Bool) (ρ : Env) (w : World) : Prop :=
  okOps n ops = true ∧ Region.noSelect ops = true → wpAnyT P .any ops (QD n N) S k0 (listed.toList.count false) listed (Fr n ρ) w
section
variable {P : Program} {n : Nat} {ops : Array Oper} {N : Env → World → Prop} {S : World → Prop} {k0 : Nat} {listed : Array Bool} {ρ : Env} {w : World} {R : Env → World → Prop} {X : Nat → Env → World → Prop}
theorem W_drawT {i : Nat} (S : World → Prop) (k0 : Nat) (hn : okOps n ops = true) (hs : Region.noSelect ops = true) (hm : P.follows .mixedOrders = true)
    (h : ∀ w1, Tch N0 w w1 → w1.heap = w.heap → tAny P n ops N S k0 (Array.replicate ops.size false) ρ w1) : W P n (.region i ops true) N R X ρ w := by
  have h1 := h { w with drawn := w.drawn + 1 } ⟨rfl, rfl, rfl, Nat.le_refl _, fun _ _ _ => rfl⟩ rfl ⟨hn, hs⟩
  have e : (Array.replicate ops.size false).toList.count false = ops.size := by simp
  rw [e] at h1
  refine wp_mono (wp_region_any (Q := QD n N) hm (wpAny_ofT _ _ _ _ h1)) fun e a w' hq => ?_
  obtain ⟨rfl, ρ, rfl, hn⟩ := hq
  exact ⟨ρ, rfl, hn⟩
theorem t_val (i : Nat) {o : Oper} {v : Value} (hT : tailW .any ops k0 i = true) (ho : ops[i]? = some o) (hf : Region.free .any ops listed i = true) (hr : (Region.ready .any ops listed).contains i = true) (hw : wantedR ops ρ o = true)
    (hv : ∀ w', S w' → (execOp (evR ρ) o).run P w' = .ok (.value v) w') (hS : S w) (k : tAny P n ops N S k0 (listed.setIfInBounds i true) (updO ρ o.dst v) w) : tAny P n ops N S k0 listed ρ w := fun hh => by
  have hri : i ∈ Region.ready .any ops listed := by simpa using hr
  rw [count_listed (ready_unlisted hri)]
  refine wpAnyT_first (v := v) ho (Region.noSelect_spec hh.2) (fun c a w h => absurd h.1 (by simp)) (tailW_spec hT) _ _ _ _ (Region.free_spec ho hf) hri (.inl ⟨by rw [wanted_Fr hh.1]; exact hw, fun w' hs => ?_⟩) hS ?_
  · rw [exec_Fr (okOps_at hh.1 ho)]; exact hv w' hs
  · rw [d_put hh.1 ho]; exact k hh
theorem t_off (i : Nat) {o : Oper} (hT : tailW .any ops k0 i = true) (ho : ops[i]? = some o) (hf : Region.free .any ops listed i = true) (hr : (Region.ready .any ops listed).contains i = true) (hw : wantedR ops ρ o = false)
    (hS : S w) (k : tAny P n ops N S k0 (listed.setIfInBounds i true) (updO ρ o.dst undef) w) : tAny P n ops N S k0 listed ρ w := fun hh => by
  have hri : i ∈ Region.ready .any ops listed := by simpa using hr
  rw [count_listed (ready_unlisted hri)]
  refine wpAnyT_first ho (Region.noSelect_spec hh.2) (fun c a w h => absurd h.1 (by simp)) (tailW_spec hT) _ _ _ _ (Region.free_spec ho hf) hri (.inr ⟨by rw [wanted_Fr hh.1]; exact hw, rfl⟩) hS ?_
  rw [d_put hh.1 ho]; exact k hh
def takeT (P : Program) (ops : Array Oper) (k0 : Nat) : List Nat → Array Bool → Env → Option (Array Bool × Env)
  | [], listed, ρ => some (listed, ρ)
  | i :: is, listed, ρ =>
    match ops[i]? with
    | none => none
    | some o => cond (Region.free .any ops listed i && (Region.ready .any ops listed).contains i && tailW .any ops k0 i)
        (cond (wantedR ops ρ o) (match plainV P ρ o with | some v => takeT P ops k0 is (listed.setIfInBounds i true) (updO ρ o.dst v) | none => none)
          (takeT P ops k0 is (listed.setIfInBounds i true) (updO ρ o.dst undef))) none
theorem t_takes (is : List Nat) {listed' : Array Bool} {ρ' : Env} (hS : S w) : ∀ {listed : Array Bool} {ρ : Env}, takeT P ops k0 is listed ρ = some (listed', ρ') → tAny P n ops N S k0 listed' ρ' w → tAny P n ops N S k0 listed ρ w := by
  induction is with
  | nil => intro listed ρ h k; simp only [takeT, Option.some.injEq, Prod.mk.injEq] at h; obtain ⟨rfl, rfl⟩ := h; exact k
  | cons i is ih =>
    intro listed ρ h k
    simp only [takeT] at h
    cases ho : ops[i]? with
    | none => rw [ho] at h; cases h
    | some o =>
      rw [ho] at h
      cases hfr : (Region.free .any ops listed i && (Region.ready .any ops listed).contains i && tailW .any ops k0 i) with
      | false => simp only [hfr, cond_false] at h; cases h
      | true =>
        simp only [hfr, cond_true] at h
        rw [Bool.and_eq_true, Bool.and_eq_true] at hfr
        cases hw : wantedR ops ρ o with
        | true =>
          simp only [hw, cond_true] at h
          cases hv : plainV P ρ o with
          | none => rw [hv] at h; cases h
          | some v =>
            rw [hv] at h
            exact t_val i hfr.2 ho hfr.1.1 hfr.1.2 hw (fun w' _ => plainV_run hv w') hS (ih h k)
        | false =>
          simp only [hw, cond_false] at h
          exact t_off i hfr.2 ho hfr.1.1 hfr.1.2 hw hS (ih h k)
theorem t_step {i : Nat} {o : Oper} (hn : okOps n ops = true) (hs : Region.noSelect ops = true) (ho : ops[i]? = some o) (hu : listed.getD i true = false) (hw : wantedR ops ρ o = true)
    (h : Step P o ρ w (fun ρ' w' => (i < k0 → S w') ∧ tAny P n ops N S k0 (listed.setIfInBounds i true) ρ' w')) :
    wpOp P ops (QD n N) i (fun a' w' => (i < k0 → S w') ∧ wpAnyT P .any ops (QD n N) S k0 ((listed.setIfInBounds i true).toList.count false) (listed.setIfInBounds i true) a' w') (Fr n ρ) w := by
  unfold wpOp
  simp only [ho]
  rw [wanted_Fr hn, if_pos hw]
  exact .inl (Oper.wp_mono (fun a w' ⟨ρ', ha, h1, h2⟩ => by subst ha; exact ⟨h1, h2 ⟨hn, hs⟩⟩) (Step.wp (okOps_at hn ho) h))
theorem wpAnyT_all {rs : List Nat} {fuel : Nat} {listed : Array Bool} {a : Act} {w : World} {Q : Exit → Act → World → Prop} {md : Region.Mode} (hr : Region.ready md ops listed = rs) (hne : rs ≠ [])
    (h : ∀ i ∈ rs, wpOp P ops Q i (fun a' w' => (i < k0 → S w') ∧ wpAnyT P md ops Q S k0 fuel (listed.setIfInBounds i true) a' w') a w) : wpAnyT P md ops Q S k0 (fuel + 1) listed a w :=
  ⟨fun h0 => absurd (hr ▸ h0) hne, hr ▸ h⟩
theorem t_one (i : Nat) {o : Oper} (hr : Region.ready .any ops listed = [i]) (ho : ops[i]? = some o) (hw : wantedR ops ρ o = true)
    (h : Step P o ρ w (fun ρ' w' => (i < k0 → S w') ∧ tAny P n ops N S k0 (listed.setIfInBounds i true) ρ' w')) : tAny P n ops N S k0 listed ρ w := fun hh => by
  have hu := ready_unlisted (ops := ops) (listed := listed) (i := i) (by rw [hr]; simp)
  rw [count_listed hu]
  refine wpAnyT_all hr (by simp) fun j hj => ?_
  obtain rfl : j = i := by simpa using hj
  exact t_step hh.1 hh.2 ho hu hw h
/-- A plain operation, where only it may come up. -/
theorem t_plain (i : Nat) {o : Oper} (v : Value) (hr : Region.ready .any ops listed = [i]) (ho : ops[i]? = some o) (hw : wantedR ops ρ o = true) (hv : plainV P ρ o = some v) (hS : S w)
    (h : tAny P n ops N S k0 (listed.setIfInBounds i true) (updO ρ o.dst v) w) : tAny P n ops N S k0 listed ρ w := t_one i hr ho hw (S_val (plainV_run hv w) ⟨fun _ => hS, h⟩)
theorem t_plainT (i : Nat) {o : Oper} (v : Value) (hr : Region.ready .any ops listed = [i]) (ho : ops[i]? = some o) (hw : wantedR ops ρ o = true) (hv : plainV P ρ o = some v) (hk : Nat.ble k0 i = true)
    (h : tAny P n ops N S k0 (listed.setIfInBounds i true) (updO ρ o.dst v) w) : tAny P n ops N S k0 listed ρ w := t_one i hr ho hw (S_val (plainV_run hv w) ⟨fun q => absurd (Nat.le_of_ble_eq_true hk) (by omega), h⟩)
theorem t_two (i j : Nat) {o u : Oper} (hr : Region.ready .any ops listed = [i, j]) (ho : ops[i]? = some o) (hu : ops[j]? = some u) (hw : wantedR ops ρ o = true) (hw2 : wantedR ops ρ u = true)
    (h : Step P o ρ w (fun ρ' w' => (i < k0 → S w') ∧ tAny P n ops N S k0 (listed.setIfInBounds i true) ρ' w'))
    (h2 : Step P u ρ w (fun ρ' w' => (j < k0 → S w') ∧ tAny P n ops N S k0 (listed.setIfInBounds j true) ρ' w')) : tAny P n ops N S k0 listed ρ w := fun hh => by
  have hui := ready_unlisted (ops := ops) (listed := listed) (i := i) (by rw [hr]; simp)
  have huj := ready_unlisted (ops := ops) (listed := listed) (i := j) (by rw [hr]; simp)
  have e : (listed.setIfInBounds i true).toList.count false = (listed.setIfInBounds j true).toList.count false := by
    have a := count_listed hui
    have b := count_listed huj
    omega
  rw [count_listed hui]
  refine wpAnyT_all hr (by simp) fun k hk => ?_
  rcases List.mem_cons.1 hk with rfl | hk
  · exact t_step hh.1 hh.2 ho hui hw h
  · obtain rfl : k = j := by simpa using hk
    rw [e]
    exact t_step hh.1 hh.2 hu huj hw2 h2
theorem t_three (i j m : Nat) {o u x : Oper} (hr : Region.ready .any ops listed = [i, j, m]) (ho : ops[i]? = some o) (hu : ops[j]? = some u) (hx : ops[m]? = some x) (hw : wantedR ops ρ o = true) (hw2 : wantedR ops ρ u = true) (hw3 : wantedR ops ρ x = true)
    (h : Step P o ρ w (fun ρ' w' => (i < k0 → S w') ∧ tAny P n ops N S k0 (listed.setIfInBounds i true) ρ' w'))
    (h2 : Step P u ρ w (fun ρ' w' => (j < k0 → S w') ∧ tAny P n ops N S k0 (listed.setIfInBounds j true) ρ' w'))
    (h3 : Step P x ρ w (fun ρ' w' => (m < k0 → S w') ∧ tAny P n ops N S k0 (listed.setIfInBounds m true) ρ' w')) : tAny P n ops N S k0 listed ρ w := fun hh => by
  have hui := ready_unlisted (ops := ops) (listed := listed) (i := i) (by rw [hr]; simp)
  have huj := ready_unlisted (ops := ops) (listed := listed) (i := j) (by rw [hr]; simp)
  have hum := ready_unlisted (ops := ops) (listed := listed) (i := m) (by rw [hr]; simp)
  have a := count_listed hui
  have b := count_listed huj
  have c := count_listed hum
  have e : (listed.setIfInBounds i true).toList.count false = (listed.setIfInBounds j true).toList.count false := by omega
  have e2 : (listed.setIfInBounds i true).toList.count false = (listed.setIfInBounds m true).toList.count false := by omega
  rw [count_listed hui]
  refine wpAnyT_all hr (by simp) fun k hk => ?_
  rcases List.mem_cons.1 hk with rfl | hk
  · exact t_step hh.1 hh.2 ho hui hw h
  · rcases List.mem_cons.1 hk with rfl | hk
    · rw [e]; exact t_step hh.1 hh.2 hu huj hw2 h2
    · obtain rfl : k = m := by simpa using hk
      rw [e2]; exact t_step hh.1 hh.2 hx hum hw3 h3
theorem t_done (hr : Region.ready .any ops listed = []) (h : N ρ w) : tAny P n ops N S k0 listed ρ w := fun _ => by
  cases (listed.toList.count false) with
  | zero => exact ⟨hr, rfl, ρ, rfl, h⟩
  | succ m => exact ⟨fun _ => ⟨rfl, ρ, rfl, h⟩, by rw [hr]; simp⟩
end
end Go.Proofs.YtnlecdpiccgdpaaV
