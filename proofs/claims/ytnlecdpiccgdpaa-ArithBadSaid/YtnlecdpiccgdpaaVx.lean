/- A small calculus for walking a loaded function: frames as functions from slots to values; whole runs of plain operations by one closed reckoning; regions that draw by 'wpAnyH'. -/
import Derived.OrdersHeld
import Derived.Below
import Derived.KernelRfl
import Derived.OwnWalk
import Derived.Laws.MakeOwn
import Derived.Laws.OwnMore
import Derived.Deep.AppendLies
import Derived.RowKit
import Derived.IntWalk
set_option linter.unusedVariables false
set_option linter.unusedSimpArgs false
namespace Go.Proofs.YtnlecdpiccgdpaaV
open Go Go.RowKit

/-! ### Frames -/
abbrev Env := Nat → Value
def upd (ρ : Env) (d : Nat) (v : Value) : Env := fun t => cond (Nat.beq t d) v (ρ t)
theorem upd_eq (ρ : Env) (d : Nat) (v : Value) : upd ρ d v d = v := by simp [upd]
theorem upd_ne (ρ : Env) {d t : Nat} (v : Value) (h : t ≠ d) : upd ρ d v t = ρ t := by
  have : Nat.beq t d = false := by cases hb : Nat.beq t d with
    | false => rfl
    | true => exact absurd (Nat.eq_of_beq_eq_true hb) h
  simp [upd, this]
theorem upd_self {ρ : Env} {d : Nat} {v : Value} (h : ρ d = v) : ρ = upd ρ d v := by
  funext t
  by_cases e : t = d
  · subst e; rw [upd_eq, h]
  · rw [upd_ne _ _ e]
def updO (ρ : Env) : Option Tmp → Value → Env
  | some d, v => upd ρ d v
  | none, _ => ρ
def evR (ρ : Env) : Operand → Value
  | .tmp t => ρ t
  | .const v => v
  | .global g => .pointer (some ⟨g, 0, none⟩)
  | .func f => .func (.func f) #[] #[]
def Fr (n : Nat) (ρ : Env) : Act := { tmps := ((List.range n).map ρ).toArray, defers := [] }
theorem Fr_get (n : Nat) (ρ : Env) (t : Nat) : (Fr n ρ).tmps[t]? = if t < n then some (ρ t) else none := by
  simp only [Fr, List.getElem?_toArray, List.getElem?_map]
  by_cases h : t < n
  · simp [List.getElem?_range h, h]
  · simp [h, List.getElem?_eq_none (show (List.range n).length ≤ t by simp; omega)]
def okX (n : Nat) : Operand → Bool
  | .tmp t => Nat.blt t n
  | _ => true
theorem Fr_eval {n : Nat} {ρ : Env} {x : Operand} (h : okX n x = true) : (Fr n ρ).eval x = evR ρ x := by
  cases x with
  | tmp t =>
    have ht : t < n := by simpa [okX, Nat.blt_eq] using h
    simp [Act.eval, evR, Array.getD_eq_getD_getElem?, Fr_get, ht]
  | _ => rfl
def notSel : Op → Bool
  | .select _ _ => false
  | _ => true
def okD (n : Nat) : Option Tmp → Bool
  | some d => Nat.blt d n
  | none => true
def okO (n : Nat) (o : Oper) : Bool := o.op.operands.toList.all (okX n) && notSel o.op && okD n o.dst
theorem Fr_put {n : Nat} {ρ : Env} {d : Option Tmp} {v : Value} (h : okD n d = true) : (Fr n ρ).put d v = Fr n (updO ρ d v) := by
  cases d with
  | none => rfl
  | some d =>
    have hd : d < n := by simpa [okD, Nat.blt_eq] using h
    have : (Fr n ρ).tmps.setIfInBounds d v = (Fr n (upd ρ d v)).tmps := by
      apply Array.ext_getElem?
      intro i
      rw [Array.getElem?_setIfInBounds, Fr_get, Fr_get]
      by_cases e : d = i
      · subst e; simp [Fr, hd, upd_eq]
      · rw [upd_ne _ _ (fun h => e h.symm)]; simp [e]
    simp only [Act.put, updO, this]
    rfl
theorem exec_Fr {n : Nat} {ρ : Env} {o : Oper} (h : okO n o = true) : execOp (Fr n ρ).eval o = execOp (evR ρ) o := by
  simp only [okO, Bool.and_eq_true, List.all_eq_true] at h
  refine execOp_congr o (fun cs b e => ?_) (fun x hx => Fr_eval (h.1.1 x (by simpa using hx)))
  have := h.1.2
  rw [e] at this
  simp [notSel] at this
/-- Is it carried out? -/
def wantedR (ops : Array Oper) (ρ : Env) (o : Oper) : Bool :=
  match o.guard with
  | none => true
  | some (j, want) =>
    match (ops[j]?).bind (·.dst) with
    | some d => match ρ d with
      | .bool b => b == want
      | _ => false
    | none => false
def okOps (n : Nat) (ops : Array Oper) : Bool := ops.toList.all (okO n)
theorem okOps_at {n : Nat} {ops : Array Oper} (h : okOps n ops = true) {i : Nat} {o : Oper} (hi : ops[i]? = some o) : okO n o = true := by
  simp only [okOps, List.all_eq_true] at h
  exact h o (by rw [← Array.mem_def]; exact Array.mem_of_getElem? hi)
theorem wanted_Fr {n : Nat} {ops : Array Oper} (hn : okOps n ops = true) (ρ : Env) (o : Oper) : Region.wanted o (yielded ops (Fr n ρ).tmps) = wantedR ops ρ o := by
  unfold Region.wanted wantedR
  cases o.guard with
  | none => rfl
  | some g =>
    obtain ⟨j, want⟩ := g
    simp only [yielded]
    cases hj : ops[j]? with
    | none => simp
    | some oj =>
      cases hd : oj.dst with
      | none => simp [hd]
      | some d =>
        have hok := okOps_at hn hj
        simp only [okO, Bool.and_eq_true, hd, okD] at hok
        have hdn : d < n := by simpa [Nat.blt_eq] using hok.2
        simp only [Option.bind_some, hd, Fr_get, hdn, if_true]
        cases ρ d with
        | bool b => simp only [Option.some_beq_some]
        | _ => rfl

/-! ### One operation -/
/-- What is asked of what an operation comes to: J of the new frame and world. No panic. -/
def rUpon (P : Program) (o : Oper) (ρ : Env) (J : Env → World → Prop) : Result Next → Prop
  | .ok (.value v) w' => J (updO ρ o.dst v) w'
  | .ok .skip w' => J (updO ρ o.dst undef) w'
  | .ok (.enter f args) w' => Calls P f args w' fun e w'' => ∃ v, e = .returned v ∧ J (updO ρ o.dst v) w''
  | _ => False
def Step (P : Program) (o : Oper) (ρ : Env) (w : World) (J : Env → World → Prop) : Prop := rUpon P o ρ J ((execOp (evR ρ) o).run P w)
theorem Step.wp {P : Program} {o : Oper} {ρ : Env} {w : World} {J : Env → World → Prop} {n : Nat} {Q : Exit → Act → World → Prop} (hn : okO n o = true) (h : Step P o ρ w J) :
    o.wp P (Fr n ρ) w (fun a w' => ∃ ρ', a = Fr n ρ' ∧ J ρ' w') Q := by
  unfold Oper.wp
  rw [exec_Fr hn]
  have hd : okD n o.dst = true := by simp only [okO, Bool.and_eq_true] at hn; exact hn.2
  unfold Step at h
  generalize (execOp (evR ρ) o).run P w = r at *
  cases r with
  | ok nx w' =>
    cases nx <;> simp only [rUpon] at h <;> simp only [Oper.upon]
    case value v => exact ⟨_, Fr_put hd, h⟩
    case skip => exact ⟨_, Fr_put hd, h⟩
    case enter f args => exact h.mono fun e w'' ⟨v, he, hj⟩ => by subst he; exact ⟨_, Fr_put hd, hj⟩
  | halt x w' => simp only [rUpon] at h
theorem Step.mono {P : Program} {o : Oper} {ρ : Env} {w : World} {J J' : Env → World → Prop} (h : Step P o ρ w J) (hj : ∀ ρ w, J ρ w → J' ρ w) : Step P o ρ w J' := by
  unfold Step at *
  generalize (execOp (evR ρ) o).run P w = r at *
  cases r with
  | ok nx w' =>
    cases nx <;> simp only [rUpon] at h ⊢
    case value v => exact hj _ _ h
    case skip => exact hj _ _ h
    case enter f args => exact h.mono fun e w'' ⟨v, he, h2⟩ => ⟨v, he, hj _ _ h2⟩
  | halt x w' => simp only [rUpon] at h

/-! ### A region in the text's order -/
def rOps (P : Program) (ops : Array Oper) (K : Env → World → Prop) : List Oper → Env → World → Prop
  | [], ρ, w => K ρ w
  | o :: l, ρ, w => if wantedR ops ρ o then Step P o ρ w (rOps P ops K l) else rOps P ops K l (updO ρ o.dst undef) w
theorem rOps_sound {P : Program} {ops : Array Oper} {n : Nat} {K : Env → World → Prop} {Q : Exit → Act → World → Prop} (hn : okOps n ops = true) (hK : ∀ ρ w, K ρ w → Q .normal (Fr n ρ) w) :
    ∀ (l : List Oper) (k : Nat) (ρ : Env) (w : World), (∀ j, l[j]? = ops[k + j]?) → rOps P ops K l ρ w → wpOps P ops Q ((List.range l.length).map (k + ·)) (Fr n ρ) w
  | [], k, ρ, w, _, h => by simpa [wpOps] using hK ρ w h
  | o :: l, k, ρ, w, hl, h => by
    have h0 : ops[k]? = some o := by simpa using (hl 0).symm
    have hl' : ∀ j, l[j]? = ops[k + 1 + j]? := fun j => by
      have := hl (j + 1)
      simpa [Nat.add_assoc, Nat.add_comm 1 j] using this
    have e : (List.range (o :: l).length).map (k + ·) = k :: (List.range l.length).map (k + 1 + ·) := by
      rw [List.length_cons, List.range_succ_eq_map, List.map_cons, List.map_map]
      refine congrArg (k :: ·) (List.map_congr_left fun j _ => ?_)
      simp only [Function.comp_apply]
      omega
    rw [e]
    simp only [wpOps, h0]
    rw [wanted_Fr hn]
    simp only [rOps] at h
    split
    · rename_i hw
      rw [if_pos hw] at h
      exact .inl (Oper.wp_mono (fun a w' ⟨ρ', ha, hj⟩ => by subst ha; exact rOps_sound hn hK l (k + 1) ρ' w' hl' hj) (Step.wp (okOps_at hn h0) h))
    · rename_i hw
      rw [if_neg hw] at h
      rw [Fr_put (by have := okOps_at hn h0; simp only [okO, Bool.and_eq_true] at this; exact this.2)]
      exact rOps_sound hn hK l (k + 1) _ w hl' h

/-! ### Codes: what goes on (N), a return (R), a way out of a block (X) -/
def QW (n : Nat) (N R : Env → World → Prop) (X : Nat → Env → World → Prop) : Exit → Act → World → Prop
  | .normal, a, w => ∃ ρ, a = Fr n ρ ∧ N ρ w
  | .ret, a, w => ∃ ρ, a = Fr n ρ ∧ R ρ w
  | .exit i, a, w => ∃ ρ, a = Fr n ρ ∧ X i ρ w
  | _, _, _ => False
def W (P : Program) (n : Nat) (c : Code) (N R : Env → World → Prop) (X : Nat → Env → World → Prop) (ρ : Env) (w : World) : Prop := c.wp P (QW n N R X) (Fr n ρ) w
section
variable {P : Program} {n : Nat} {N R : Env → World → Prop} {X : Nat → Env → World → Prop} {ρ : Env} {w : World}
theorem W_mono {c : Code} {N' R' : Env → World → Prop} {X' : Nat → Env → World → Prop} (h : W P n c N R X ρ w) (hN : ∀ ρ w, N ρ w → N' ρ w) (hR : ∀ ρ w, R ρ w → R' ρ w) (hX : ∀ i ρ w, X i ρ w → X' i ρ w) : W P n c N' R' X' ρ w :=
  wp_mono h fun e a w' hq => by
    cases e <;> simp only [QW] at hq ⊢
    · obtain ⟨ρ, h1, h2⟩ := hq; exact ⟨ρ, h1, hN _ _ h2⟩
    · obtain ⟨ρ, h1, h2⟩ := hq; exact ⟨ρ, h1, hX _ _ _ h2⟩
    · obtain ⟨ρ, h1, h2⟩ := hq; exact ⟨ρ, h1, hR _ _ h2⟩
theorem W_seq {x y : Code} (h : W P n x (fun ρ w => W P n y N R X ρ w) R X ρ w) : W P n (.seq x y) N R X ρ w :=
  wp_seq (wp_mono h fun e a w' hq => by
    cases e <;> simp only [QW, Exit.then] at hq ⊢
    · obtain ⟨ρ, rfl, h2⟩ := hq; exact h2
    · exact hq
    · exact hq)
theorem W_skip (h : N ρ w) : W P n .skip N R X ρ w := wp_skip ⟨ρ, rfl, h⟩
theorem W_ret (h : R ρ w) : W P n .ret N R X ρ w := wp_ret ⟨ρ, rfl, h⟩
theorem W_exit {i : Nat} (h : X i ρ w) : W P n (.exit i) N R X ρ w := wp_exit ⟨ρ, rfl, h⟩
theorem W_block {i : Nat} {c : Code} (h : W P n c N R (fun j ρ w => cond (Nat.beq j i) (N ρ w) (X j ρ w)) ρ w) : W P n (.block i c) N R X ρ w :=
  wp_block (wp_mono h fun e a w' hq => by
    cases e <;> simp only [QW, Exit.inBlock] at hq ⊢
    · exact hq
    · rename_i j
      obtain ⟨ρ, h1, h2⟩ := hq
      by_cases e : j = i
      · subst e; rw [if_pos rfl]; exact ⟨ρ, h1, by simpa using h2⟩
      · rw [if_neg e]
        have : Nat.beq j i = false := by cases hb : Nat.beq j i with
          | false => rfl
          | true => exact absurd (Nat.eq_of_beq_eq_true hb) e
        rw [this] at h2
        exact ⟨ρ, h1, h2⟩
    · exact hq)
theorem W_cond {c : Operand} {x y : Code} (b : Bool) (hx : okX n c = true) (hc : evR ρ c = .bool b) (ht : b = true → W P n x N R X ρ w) (hf : b = false → W P n y N R X ρ w) : W P n (.cond c x y) N R X ρ w :=
  wp_cond_split (t := b) (by rw [Fr_eval hx, hc]) ht hf
theorem W_region {i : Nat} {l : List Oper} (hn : okOps n l.toArray = true) (h : rOps P l.toArray N l ρ w) : W P n (.region i l.toArray false) N R X ρ w := by
  refine wp_region ?_
  have := rOps_sound (Q := QW n N R X) hn (fun ρ w hk => ⟨ρ, rfl, hk⟩) l 0 ρ w (by simp) h
  simpa using this
/-- A loop: I at each round's head, and a measure that every round lowers. -/
theorem W_loop {c : Code} (I : Nat → Env → World → Prop) {m : Nat} (h0 : I m ρ w)
    (hr : ∀ m ρ w, I m ρ w → W P n c (fun ρ' w' => ∃ m', m' < m ∧ I m' ρ' w') R X ρ w) : W P n (.loop c) N R X ρ w := by
  intro b k cs
  have key : ∀ m ρ w, I m ρ w → ∃ e a' w', QW n N R X e a' w' ∧ Arrives P (lone (b.at (Fr n ρ) (.code c :: .inLoop c :: k)) cs w) b k cs e a' w' := by
    intro m
    induction m using Nat.strongRecOn with
    | _ m ih =>
      intro ρ w hI
      obtain ⟨e, a₁, w₁, hq, harr⟩ := hr m ρ w hI b (.inLoop c :: k) cs
      cases e with
      | normal =>
        obtain ⟨ρ', rfl, m', hlt, hI'⟩ := hq
        obtain ⟨e₂, a₂, w₂, hq₂, harr₂⟩ := ih m' hlt ρ' w₁ hI'
        exact ⟨e₂, a₂, w₂, hq₂, .of_steps (Steps.trans harr (.one step_inLoop)) harr₂⟩
      | exit i => exact ⟨.exit i, a₁, w₁, (hq : ∃ ρ, a₁ = Fr n ρ ∧ X i ρ w₁), .pass (x := .inLoop c) rfl (fun _ _ => .inl (by simp)) harr⟩
      | goto l => exact hq.elim
      | ret => exact ⟨.ret, a₁, w₁, (hq : ∃ ρ, a₁ = Fr n ρ ∧ R ρ w₁), .pass (x := .inLoop c) rfl (fun _ _ => .inl (by simp)) harr⟩
      | panic ch => exact hq.elim
      | outgrown => exact hq.elim
  obtain ⟨e, a', w', hq, harr⟩ := key m ρ w h0
  exact ⟨e, a', w', hq, .of_steps (.one step_loop) harr⟩
/-- What stands behind is told of any frame and world that meet C. -/
theorem W_cut {x y : Code} (C : Env → World → Prop) (h1 : W P n x C R X ρ w) (h2 : ∀ ρ w, C ρ w → W P n y N R X ρ w) : W P n (.seq x y) N R X ρ w :=
  W_seq (W_mono h1 (fun _ _ h => h2 _ _ h) (fun _ _ h => h) (fun _ _ _ h => h))
end

/-! ### A function -/
def ini (args : List Value) : Env := fun t => args.getD t undef
def retV (fn : Func) (ρ : Env) : Option Value :=
  match fn.results.toList with
  | [.tmp t] => cond (Nat.blt t fn.ntmps) (some (ρ t)) none
  | [] => some (.tuple #[])
  | [.tmp t, .tmp u] => cond (Nat.blt t fn.ntmps && Nat.blt u fn.ntmps) (some (.tuple #[ρ t, ρ u])) none
  | [.tmp t, .tmp u, .tmp x] => cond (Nat.blt t fn.ntmps && Nat.blt u fn.ntmps && Nat.blt x fn.ntmps) (some (.tuple #[ρ t, ρ u, ρ x])) none
  | _ => none
theorem retV_run {P : Program} {fn : Func} {ρ : Env} {v : Value} {w : World} (h : retV fn ρ = some v) : (results fn (Fr fn.ntmps ρ).tmps).run P w = .ok v w := by
  have g : ∀ t, t < fn.ntmps → (Fr fn.ntmps ρ).tmps.getD t undef = ρ t := fun t ht => by
    rw [Array.getD_eq_getD_getElem?, Fr_get, if_pos ht]; rfl
  unfold retV at h
  split at h
  · rename_i t ht
    cases hb : Nat.blt t fn.ntmps with
    | false => rw [hb] at h; cases h
    | true =>
      rw [hb] at h
      simp only [cond_true, Option.some.injEq] at h
      subst h
      have hlt : t < fn.ntmps := by simpa [Nat.blt_eq] using hb
      have hr : fn.results = #[.tmp t] := by rw [← ht]
      exact (results_tmp hr _ _ _).trans (by rw [g t hlt])
  · rename_i ht
    simp only [Option.some.injEq] at h
    subst h
    have hr : fn.results = #[] := by rw [← Array.toList_eq_nil_iff]; exact ht
    exact results_none hr _ _ _
  · rename_i t u ht
    cases hb : Nat.blt t fn.ntmps && Nat.blt u fn.ntmps with
    | false => rw [hb] at h; cases h
    | true =>
      rw [hb] at h
      simp only [cond_true, Option.some.injEq] at h
      subst h
      simp only [Bool.and_eq_true, Nat.blt_eq] at hb
      have hr : fn.results = #[.tmp t, .tmp u] := by rw [← ht]
      simp only [results, hr]
      simp [← Array.getD_eq_getD_getElem?, g t hb.1, g u hb.2]
  · rename_i t u x ht
    cases hb : Nat.blt t fn.ntmps && Nat.blt u fn.ntmps && Nat.blt x fn.ntmps with
    | false => rw [hb] at h; cases h
    | true =>
      rw [hb] at h
      simp only [cond_true, Option.some.injEq] at h
      subst h
      simp only [Bool.and_eq_true, Nat.blt_eq] at hb
      have hr : fn.results = #[.tmp t, .tmp u, .tmp x] := by rw [← ht]
      simp only [results, hr]
      simp [← Array.getD_eq_getD_getElem?, g t hb.1.1, g u hb.1.2, g x hb.2]
  · cases h
/-- What the function's results are, read in this frame and world. -/
def Res (P : Program) (fn : Func) (ρ : Env) (w : World) (v : Value) : Prop := (results fn (Fr fn.ntmps ρ).tmps).run P w = .ok v w
theorem ini_Fr (args : List Value) (n : Nat) (h : args.length ≤ n) : ({ tmps := args.toArray ++ Array.replicate (n - args.toArray.size) undef, defers := [] } : Act) = Fr n (ini args) := by
  have : args.toArray ++ Array.replicate (n - args.toArray.size) undef = (Fr n (ini args)).tmps := by
    apply Array.ext_getElem?
    intro i
    rw [Fr_get, Array.getElem?_append]
    by_cases hi : i < args.length
    · have : i < n := by omega
      simp [hi, this, ini]
    · by_cases h2 : i < n
      · simp [hi, h2, ini, show i - args.length < n - args.length by omega]
      · simp [hi, h2, show ¬ i - args.length < n - args.length by omega]
  simp only [this]
  rfl
/-- A call returns a value, and R of it and the world holds. -/
def Ret (P : Program) (f : FuncId) (args : List Value) (w : World) (R : Value → World → Prop) : Prop := Calls P f args.toArray w fun e w' => ∃ v, e = .returned v ∧ R v w'
theorem Ret.mono {P : Program} {f : FuncId} {args : List Value} {w : World} {R R' : Value → World → Prop} (h : Ret P f args w R) (hr : ∀ v w', R v w' → R' v w') : Ret P f args w R' :=
  Calls.mono h fun e w' ⟨v, he, h1⟩ => ⟨v, he, hr _ _ h1⟩
theorem enter {P : Program} {f : FuncId} {fn : Func} {c : Code} {args : List Value} {w : World} {R : Value → World → Prop} (hf : P.funcs[f]? = some fn) (hb : fn.body = some c) (hl : Nat.ble args.length fn.ntmps = true)
    (h : W P fn.ntmps c (fun ρ w' => ∃ v, Res P fn ρ w' v ∧ R v w') (fun ρ w' => ∃ v, Res P fn ρ w' v ∧ R v w') (fun _ _ _ => False) (ini args) w) : Ret P f args w R := by
  refine calls_of_wp hf hb ?_
  rw [ini_Fr args fn.ntmps (Nat.le_of_ble_eq_true hl)]
  refine wp_mono h fun e a w' hq => ?_
  cases e <;> simp only [QW] at hq <;> simp only [bodyPost]
  · obtain ⟨ρ, rfl, v, hv, hr⟩ := hq; exact ⟨rfl, v, hv, v, rfl, hr⟩
  · obtain ⟨ρ, rfl, h⟩ := hq; exact h.elim
  · obtain ⟨ρ, rfl, v, hv, hr⟩ := hq; exact ⟨rfl, v, hv, v, rfl, hr⟩
end Go.Proofs.YtnlecdpiccgdpaaV
