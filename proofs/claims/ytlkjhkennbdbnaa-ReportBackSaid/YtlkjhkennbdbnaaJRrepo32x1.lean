/- Texts laid together: A small calculus for walking a loaded function: frames as functions from slots to values; whole runs of plain operations by one closed reckoning; regions that draw by 'wpAnyH'. The calculus' steps: runs of plain operations, operations that draw their order, memory. The calculus' words for slices: what a slice reads as; rows of the call's own; append; make. The calculus' words for objects: arrays of numbers read and written at a place; appends that tell where the row lies; slices cut. The calculus' words for regions that draw their order and end with operations that wait for all others: what S says need not hold behind these. The calculus, told shorter: a run tells what it puts. The calculus, told shorter still: what the kernel finds is not written. The calculus' words for rows of one's own, kept apart from other blocks by hand. Slices of slices; a row behind a row. The calculus' words for texts: strings told as lists of bytes; bytes behind them; appends of a text; what strings.Builder does with pointers. Numbers in tens, as texts: plain. A row is copied behind none. A loop whose measure is two numbers; a row cut short. Tests and reports: plain, and in memory. -/
import Derived.OrdersHeld
import Derived.Below
import Derived.KernelRfl
import Derived.OwnWalk
import Derived.Laws.MakeOwn
import Derived.Laws.OwnMore
import Derived.Deep.AppendLies
import Derived.RowKit
import Derived.IntWalk
import Derived.StillTail
import Derived.Maps.AppendAt
import Derived.Laws.Slices
import Derived.Lib.AppendStr
import Derived.Lib.UnsafeStr
import Derived.Lib.Builder
import Derived.Laws.BytesArg
import Derived.Test.YtlkjhkennbdbnaaProg
set_option linter.unusedVariables false
set_option linter.unusedSimpArgs false
namespace Go.Proofs.YtlkjhkennbdbnaaV
open Go Go.RowKit

/-! ### Frames -/
abbrev Env := Nat → Value
def upd (ρ : Env) (d : Nat) (v : Value) : Env := fun t => cond (Nat.beq t d) v (ρ t)
theorem upd_eq (ρ : Env) (d : Nat) (v : Value) : upd ρ d v d = v := by simp [upd]
theorem upd_ne (ρ : Env) {d t : Nat} (v : Value) (h : t ≠ d) : upd ρ d v t = ρ t := by
 have : Nat.beq t d = false := by cases hb : Nat.beq t d with
  | false => rfl
  | true => exact absurd (Nat.eq_of_beq_eq_true hb) h
 simp [upd, this]
theorem upd_self {ρ : Env} {d : Nat} {v : Value} (h : ρ d = v) : ρ = upd ρ d v := by
 funext t
 by_cases e : t = d
 ·
  subst e; rw [upd_eq, h]
 ·
  rw [upd_ne _ _ e]
def updO (ρ : Env) : Option Tmp → Value → Env
 | some d, v => upd ρ d v
 | none, _ => ρ
def evR (ρ : Env) : Operand → Value
 | .tmp t => ρ t
 | .const v => v
 | .global g => .pointer (some ⟨g, 0, none⟩)
 | .func f => .func (.func f) #[] #[]
def Fr (n : Nat) (ρ : Env) : Act := { tmps := ((List.range n).map ρ).toArray, defers := [] }
theorem Fr_get (n : Nat) (ρ : Env) (t : Nat) : (Fr n ρ).tmps[t]? = if t < n then some (ρ t) else none := by
 simp only [Fr, List.getElem?_toArray, List.getElem?_map]
 by_cases h : t < n
 ·
  simp [List.getElem?_range h, h]
 ·
  simp [h, List.getElem?_eq_none (show (List.range n).length ≤ t by simp; omega)]
def okX (n : Nat) : Operand → Bool
 | .tmp t => Nat.blt t n
 | _ => true
theorem Fr_eval {n : Nat} {ρ : Env} {x : Operand} (h : okX n x = true) : (Fr n ρ).eval x = evR ρ x := by
 cases x with
 | tmp t =>
  have ht : t < n := by simpa [okX, Nat.blt_eq] using h
  simp [Act.eval, evR, Array.getD_eq_getD_getElem?, Fr_get, ht]
 | _ => rfl
def notSel : Op → Bool
 | .select _ _ => false
 | _ => true
def okD (n : Nat) : Option Tmp → Bool
 | some d => Nat.blt d n
 | none => true
def okO (n : Nat) (o : Oper) : Bool := o.op.operands.toList.all (okX n) && notSel o.op && okD n o.dst
theorem Fr_put {n : Nat} {ρ : Env} {d : Option Tmp} {v : Value} (h : okD n d = true) : (Fr n ρ).put d v = Fr n (updO ρ d v) := by
 cases d with
 | none => rfl
 | some d =>
  have hd : d < n := by simpa [okD, Nat.blt_eq] using h
  have : (Fr n ρ).tmps.setIfInBounds d v = (Fr n (upd ρ d v)).tmps := by
   apply Array.ext_getElem?
   intro i
   rw [Array.getElem?_setIfInBounds, Fr_get, Fr_get]
   by_cases e : d = i
   ·
    subst e; simp [Fr, hd, upd_eq]
   ·
    rw [upd_ne _ _ (fun h => e h.symm)]; simp [e]
  simp only [Act.put, updO, this]
  rfl
theorem exec_Fr {n : Nat} {ρ : Env} {o : Oper} (h : okO n o = true) : execOp (Fr n ρ).eval o = execOp (evR ρ) o := by
 simp only [okO, Bool.and_eq_true, List.all_eq_true] at h
 refine execOp_congr o (fun cs b e => ?_) (fun x hx => Fr_eval (h.1.1 x (by simpa using hx)))
 have := h.1.2
 rw [e] at this
 simp [notSel] at this
/-- Is it carried out? -/
def wantedR (ops : Array Oper) (ρ : Env) (o : Oper) : Bool :=
 match o.guard with
 | none => true
 | some (j, want) =>
  match (ops[j]?).bind (·.dst) with
  | some d => match ρ d with
   | .bool b => b == want
   | _ => false
  | none => false
def okOps (n : Nat) (ops : Array Oper) : Bool := ops.toList.all (okO n)
theorem okOps_at {n : Nat} {ops : Array Oper} (h : okOps n ops = true) {i : Nat} {o : Oper} (hi : ops[i]? = some o) : okO n o = true := by
 simp only [okOps, List.all_eq_true] at h
 exact h o (by rw [← Array.mem_def]; exact Array.mem_of_getElem? hi)
theorem wanted_Fr {n : Nat} {ops : Array Oper} (hn : okOps n ops = true) (ρ : Env) (o : Oper) : Region.wanted o (yielded ops (Fr n ρ).tmps) = wantedR ops ρ o := by
 unfold Region.wanted wantedR
 cases o.guard with
 | none => rfl
 | some g =>
  obtain ⟨j, want⟩ := g
  simp only [yielded]
  cases hj : ops[j]? with
  | none => simp
  | some oj =>
   cases hd : oj.dst with
   | none => simp [hd]
   | some d =>
    have hok := okOps_at hn hj
    simp only [okO, Bool.and_eq_true, hd, okD] at hok
    have hdn : d < n := by simpa [Nat.blt_eq] using hok.2
    simp only [Option.bind_some, hd, Fr_get, hdn, if_true]
    cases ρ d with
    | bool b => simp only [Option.some_beq_some]
    | _ => rfl

/-! ### One operation -/
/-- What is asked of what an operation comes to: J of the new frame and world. No panic. -/
def rUpon (P : Program) (o : Oper) (ρ : Env) (J : Env → World → Prop) : Result Next → Prop
 | .ok (.value v) w' => J (updO ρ o.dst v) w'
 | .ok .skip w' => J (updO ρ o.dst undef) w'
 | .ok (.enter f args) w' => Calls P f args w' fun e w'' => ∃ v, e = .returned v ∧ J (updO ρ o.dst v) w''
 | _ => False
def Step (P : Program) (o : Oper) (ρ : Env) (w : World) (J : Env → World → Prop) : Prop := rUpon P o ρ J ((execOp (evR ρ) o).run P w)
theorem Step.wp {P : Program} {o : Oper} {ρ : Env} {w : World} {J : Env → World → Prop} {n : Nat} {Q : Exit → Act → World → Prop} (hn : okO n o = true) (h : Step P o ρ w J) :
  o.wp P (Fr n ρ) w (fun a w' => ∃ ρ', a = Fr n ρ' ∧ J ρ' w') Q := by
 unfold Oper.wp
 rw [exec_Fr hn]
 have hd : okD n o.dst = true := by simp only [okO, Bool.and_eq_true] at hn; exact hn.2
 unfold Step at h
 generalize (execOp (evR ρ) o).run P w = r at *
 cases r with
 | ok nx w' =>
  cases nx <;> simp only [rUpon] at h <;> simp only [Oper.upon]
  case value v => exact ⟨_, Fr_put hd, h⟩
  case skip => exact ⟨_, Fr_put hd, h⟩
  case enter f args => exact h.mono fun e w'' ⟨v, he, hj⟩ => by subst he; exact ⟨_, Fr_put hd, hj⟩
 | halt x w' => simp only [rUpon] at h
theorem Step.mono {P : Program} {o : Oper} {ρ : Env} {w : World} {J J' : Env → World → Prop} (h : Step P o ρ w J) (hj : ∀ ρ w, J ρ w → J' ρ w) : Step P o ρ w J' := by
 unfold Step at *
 generalize (execOp (evR ρ) o).run P w = r at *
 cases r with
 | ok nx w' =>
  cases nx <;> simp only [rUpon] at h ⊢
  case value v => exact hj _ _ h
  case skip => exact hj _ _ h
  case enter f args => exact h.mono fun e w'' ⟨v, he, h2⟩ => ⟨v, he, hj _ _ h2⟩
 | halt x w' => simp only [rUpon] at h

/-! ### A region in the text's order -/
def rOps (P : Program) (ops : Array Oper) (K : Env → World → Prop) : List Oper → Env → World → Prop
 | [], ρ, w => K ρ w
 | o :: l, ρ, w => if wantedR ops ρ o then Step P o ρ w (rOps P ops K l) else rOps P ops K l (updO ρ o.dst undef) w
theorem rOps_sound {P : Program} {ops : Array Oper} {n : Nat} {K : Env → World → Prop} {Q : Exit → Act → World → Prop} (hn : okOps n ops = true) (hK : ∀ ρ w, K ρ w → Q .normal (Fr n ρ) w) :
  ∀ (l : List Oper) (k : Nat) (ρ : Env) (w : World), (∀ j, l[j]? = ops[k + j]?) → rOps P ops K l ρ w → wpOps P ops Q ((List.range l.length).map (k + ·)) (Fr n ρ) w
 | [], k, ρ, w, _, h => by simpa [wpOps] using hK ρ w h
 | o :: l, k, ρ, w, hl, h => by
  have h0 : ops[k]? = some o := by simpa using (hl 0).symm
  have hl' : ∀ j, l[j]? = ops[k + 1 + j]? := fun j => by
   have := hl (j + 1)
   simpa [Nat.add_assoc, Nat.add_comm 1 j] using this
  have e : (List.range (o :: l).length).map (k + ·) = k :: (List.range l.length).map (k + 1 + ·) := by
   rw [List.length_cons, List.range_succ_eq_map, List.map_cons, List.map_map]
   refine congrArg (k :: ·) (List.map_congr_left fun j _ => ?_)
   simp only [Function.comp_apply]
   omega
  rw [e]
  simp only [wpOps, h0]
  rw [wanted_Fr hn]
  simp only [rOps] at h
  split
  ·
   rename_i hw
   rw [if_pos hw] at h
   exact .inl (Oper.wp_mono (fun a w' ⟨ρ', ha, hj⟩ => by subst ha; exact rOps_sound hn hK l (k + 1) ρ' w' hl' hj) (Step.wp (okOps_at hn h0) h))
  ·
   rename_i hw
   rw [if_neg hw] at h
   rw [Fr_put (by have := okOps_at hn h0; simp only [okO, Bool.and_eq_true] at this; exact this.2)]
   exact rOps_sound hn hK l (k + 1) _ w hl' h

/-! ### Codes: what goes on (N), a return (R), a way out of a block (X) -/
def QW (n : Nat) (N R : Env → World → Prop) (X : Nat → Env → World → Prop) : Exit → Act → World → Prop
 | .normal, a, w => ∃ ρ, a = Fr n ρ ∧ N ρ w
 | .ret, a, w => ∃ ρ, a = Fr n ρ ∧ R ρ w
 | .exit i, a, w => ∃ ρ, a = Fr n ρ ∧ X i ρ w
 | _, _, _ => False
def W (P : Program) (n : Nat) (c : Code) (N R : Env → World → Prop) (X : Nat → Env → World → Prop) (ρ : Env) (w : World) : Prop := c.wp P (QW n N R X) (Fr n ρ) w
section
variable {P : Program} {n : Nat} {N R : Env → World → Prop} {X : Nat → Env → World → Prop} {ρ : Env} {w : World}
theorem W_mono {c : Code} {N' R' : Env → World → Prop} {X' : Nat → Env → World → Prop} (h : W P n c N R X ρ w) (hN : ∀ ρ w, N ρ w → N' ρ w) (hR : ∀ ρ w, R ρ w → R' ρ w) (hX : ∀ i ρ w, X i ρ w → X' i ρ w) : W P n c N' R' X' ρ w :=
 wp_mono h fun e a w' hq => by
  cases e <;> simp only [QW] at hq ⊢
  ·
   obtain ⟨ρ, h1, h2⟩ := hq; exact ⟨ρ, h1, hN _ _ h2⟩
  ·
   obtain ⟨ρ, h1, h2⟩ := hq; exact ⟨ρ, h1, hX _ _ _ h2⟩
  ·
   obtain ⟨ρ, h1, h2⟩ := hq; exact ⟨ρ, h1, hR _ _ h2⟩
theorem W_seq {x y : Code} (h : W P n x (fun ρ w => W P n y N R X ρ w) R X ρ w) : W P n (.seq x y) N R X ρ w :=
 wp_seq (wp_mono h fun e a w' hq => by
  cases e <;> simp only [QW, Exit.then] at hq ⊢
  ·
   obtain ⟨ρ, rfl, h2⟩ := hq; exact h2
  ·
   exact hq
  ·
   exact hq)
theorem W_skip (h : N ρ w) : W P n .skip N R X ρ w := wp_skip ⟨ρ, rfl, h⟩
theorem W_ret (h : R ρ w) : W P n .ret N R X ρ w := wp_ret ⟨ρ, rfl, h⟩
theorem W_exit {i : Nat} (h : X i ρ w) : W P n (.exit i) N R X ρ w := wp_exit ⟨ρ, rfl, h⟩
theorem W_block {i : Nat} {c : Code} (h : W P n c N R (fun j ρ w => cond (Nat.beq j i) (N ρ w) (X j ρ w)) ρ w) : W P n (.block i c) N R X ρ w :=
 wp_block (wp_mono h fun e a w' hq => by
  cases e <;> simp only [QW, Exit.inBlock] at hq ⊢
  ·
   exact hq
  ·
   rename_i j
   obtain ⟨ρ, h1, h2⟩ := hq
   by_cases e : j = i
   ·
    subst e; rw [if_pos rfl]; exact ⟨ρ, h1, by simpa using h2⟩
   ·
    rw [if_neg e]
    have : Nat.beq j i = false := by cases hb : Nat.beq j i with
     | false => rfl
     | true => exact absurd (Nat.eq_of_beq_eq_true hb) e
    rw [this] at h2
    exact ⟨ρ, h1, h2⟩
  ·
   exact hq)
theorem W_cond {c : Operand} {x y : Code} (b : Bool) (hx : okX n c = true) (hc : evR ρ c = .bool b) (ht : b = true → W P n x N R X ρ w) (hf : b = false → W P n y N R X ρ w) : W P n (.cond c x y) N R X ρ w :=
 wp_cond_split (t := b) (by rw [Fr_eval hx, hc]) ht hf
theorem W_region {i : Nat} {l : List Oper} (hn : okOps n l.toArray = true) (h : rOps P l.toArray N l ρ w) : W P n (.region i l.toArray false) N R X ρ w := by
 refine wp_region ?_
 have := rOps_sound (Q := QW n N R X) hn (fun ρ w hk => ⟨ρ, rfl, hk⟩) l 0 ρ w (by simp) h
 simpa using this
/-- A loop: I at each round's head, and a measure that every round lowers. -/
theorem W_loop {c : Code} (I : Nat → Env → World → Prop) {m : Nat} (h0 : I m ρ w)
  (hr : ∀ m ρ w, I m ρ w → W P n c (fun ρ' w' => ∃ m', m' < m ∧ I m' ρ' w') R X ρ w) : W P n (.loop c) N R X ρ w := by
 intro b k cs
 have key : ∀ m ρ w, I m ρ w → ∃ e a' w', QW n N R X e a' w' ∧ Arrives P (lone (b.at (Fr n ρ) (.code c :: .inLoop c :: k)) cs w) b k cs e a' w' := by
  intro m
  induction m using Nat.strongRecOn with
  | _ m ih =>
   intro ρ w hI
   obtain ⟨e, a₁, w₁, hq, harr⟩ := hr m ρ w hI b (.inLoop c :: k) cs
   cases e with
   | normal =>
    obtain ⟨ρ', rfl, m', hlt, hI'⟩ := hq
    obtain ⟨e₂, a₂, w₂, hq₂, harr₂⟩ := ih m' hlt ρ' w₁ hI'
    exact ⟨e₂, a₂, w₂, hq₂, .of_steps (Steps.trans harr (.one step_inLoop)) harr₂⟩
   | exit i => exact ⟨.exit i, a₁, w₁, (hq : ∃ ρ, a₁ = Fr n ρ ∧ X i ρ w₁), .pass (x := .inLoop c) rfl (fun _ _ => .inl (by simp)) harr⟩
   | goto l => exact hq.elim
   | ret => exact ⟨.ret, a₁, w₁, (hq : ∃ ρ, a₁ = Fr n ρ ∧ R ρ w₁), .pass (x := .inLoop c) rfl (fun _ _ => .inl (by simp)) harr⟩
   | panic ch => exact hq.elim
   | outgrown => exact hq.elim
 obtain ⟨e, a', w', hq, harr⟩ := key m ρ w h0
 exact ⟨e, a', w', hq, .of_steps (.one step_loop) harr⟩
end

/-! ### A function -/
def ini (args : List Value) : Env := fun t => args.getD t undef
def retV (fn : Func) (ρ : Env) : Option Value :=
 match fn.results.toList with
 | [.tmp t] => cond (Nat.blt t fn.ntmps) (some (ρ t)) none
 | [] => some (.tuple #[])
 | [.tmp t, .tmp u] => cond (Nat.blt t fn.ntmps && Nat.blt u fn.ntmps) (some (.tuple #[ρ t, ρ u])) none
 | [.tmp t, .tmp u, .tmp x] => cond (Nat.blt t fn.ntmps && Nat.blt u fn.ntmps && Nat.blt x fn.ntmps) (some (.tuple #[ρ t, ρ u, ρ x])) none
 | _ => none
theorem retV_run {P : Program} {fn : Func} {ρ : Env} {v : Value} {w : World} (h : retV fn ρ = some v) : (results fn (Fr fn.ntmps ρ).tmps).run P w = .ok v w := by
 have g : ∀ t, t < fn.ntmps → (Fr fn.ntmps ρ).tmps.getD t undef = ρ t := fun t ht => by
  rw [Array.getD_eq_getD_getElem?, Fr_get, if_pos ht]; rfl
 unfold retV at h
 split at h
 ·
  rename_i t ht
  cases hb : Nat.blt t fn.ntmps with
  | false => rw [hb] at h; cases h
  | true =>
   rw [hb] at h
   simp only [cond_true, Option.some.injEq] at h
   subst h
   have hlt : t < fn.ntmps := by simpa [Nat.blt_eq] using hb
   have hr : fn.results = #[.tmp t] := by rw [← ht]
   exact (results_tmp hr _ _ _).trans (by rw [g t hlt])
 ·
  rename_i ht
  simp only [Option.some.injEq] at h
  subst h
  have hr : fn.results = #[] := by rw [← Array.toList_eq_nil_iff]; exact ht
  exact results_none hr _ _ _
 ·
  rename_i t u ht
  cases hb : Nat.blt t fn.ntmps && Nat.blt u fn.ntmps with
  | false => rw [hb] at h; cases h
  | true =>
   rw [hb] at h
   simp only [cond_true, Option.some.injEq] at h
   subst h
   simp only [Bool.and_eq_true, Nat.blt_eq] at hb
   have hr : fn.results = #[.tmp t, .tmp u] := by rw [← ht]
   simp only [results, hr]
   simp [← Array.getD_eq_getD_getElem?, g t hb.1, g u hb.2]
 ·
  rename_i t u x ht
  cases hb : Nat.blt t fn.ntmps && Nat.blt u fn.ntmps && Nat.blt x fn.ntmps with
  | false => rw [hb] at h; cases h
  | true =>
   rw [hb] at h
   simp only [cond_true, Option.some.injEq] at h
   subst h
   simp only [Bool.and_eq_true, Nat.blt_eq] at hb
   have hr : fn.results = #[.tmp t, .tmp u, .tmp x] := by rw [← ht]
   simp only [results, hr]
   simp [← Array.getD_eq_getD_getElem?, g t hb.1.1, g u hb.1.2, g x hb.2]
 ·
  cases h
/-- What the function's results are, read in this frame and world. -/
def Res (P : Program) (fn : Func) (ρ : Env) (w : World) (v : Value) : Prop := (results fn (Fr fn.ntmps ρ).tmps).run P w = .ok v w
theorem ini_Fr (args : List Value) (n : Nat) (h : args.length ≤ n) : ({ tmps := args.toArray ++ Array.replicate (n - args.toArray.size) undef, defers := [] } : Act) = Fr n (ini args) := by
 have : args.toArray ++ Array.replicate (n - args.toArray.size) undef = (Fr n (ini args)).tmps := by
  apply Array.ext_getElem?
  intro i
  rw [Fr_get, Array.getElem?_append]
  by_cases hi : i < args.length
  ·
   have : i < n := by omega
   simp [hi, this, ini]
  ·
   by_cases h2 : i < n
   ·
    simp [hi, h2, ini, show i - args.length < n - args.length by omega]
   ·
    simp [hi, h2, show ¬ i - args.length < n - args.length by omega]
 simp only [this]
 rfl
/-- A call returns a value, and R of it and the world holds. -/
def Ret (P : Program) (f : FuncId) (args : List Value) (w : World) (R : Value → World → Prop) : Prop := Calls P f args.toArray w fun e w' => ∃ v, e = .returned v ∧ R v w'
theorem Ret.mono {P : Program} {f : FuncId} {args : List Value} {w : World} {R R' : Value → World → Prop} (h : Ret P f args w R) (hr : ∀ v w', R v w' → R' v w') : Ret P f args w R' :=
 Calls.mono h fun e w' ⟨v, he, h1⟩ => ⟨v, he, hr _ _ h1⟩
theorem enter {P : Program} {f : FuncId} {fn : Func} {c : Code} {args : List Value} {w : World} {R : Value → World → Prop} (hf : P.funcs[f]? = some fn) (hb : fn.body = some c) (hl : Nat.ble args.length fn.ntmps = true)
  (h : W P fn.ntmps c (fun ρ w' => ∃ v, Res P fn ρ w' v ∧ R v w') (fun ρ w' => ∃ v, Res P fn ρ w' v ∧ R v w') (fun _ _ _ => False) (ini args) w) : Ret P f args w R := by
 refine calls_of_wp hf hb ?_
 rw [ini_Fr args fn.ntmps (Nat.le_of_ble_eq_true hl)]
 refine wp_mono h fun e a w' hq => ?_
 cases e <;> simp only [QW] at hq <;> simp only [bodyPost]
 ·
  obtain ⟨ρ, rfl, v, hv, hr⟩ := hq; exact ⟨rfl, v, hv, v, rfl, hr⟩
 ·
  obtain ⟨ρ, rfl, h⟩ := hq; exact h.elim
 ·
  obtain ⟨ρ, rfl, v, hv, hr⟩ := hq; exact ⟨rfl, v, hv, v, rfl, hr⟩
end Go.Proofs.YtlkjhkennbdbnaaV

set_option linter.unusedVariables false
set_option linter.unusedSimpArgs false
namespace Go.Proofs.YtlkjhkennbdbnaaV
open Go Go.RowKit

/-! ### Runs of plain operations -/
def pureR (P : Program) {α : Type} : Sem α → Option α
 | .pure a => some a
 | .program k => pureR P (k P)
 | .mark _ k => pureR P k
 | _ => none
theorem pureR_run {P : Program} {α : Type} {a : α} {w : World} : ∀ {s : Sem α}, pureR P s = some a → s.run P w = .ok a w
 | .pure _, h => by simp only [pureR, Option.some.injEq] at h; subst h; rfl
 | .program k, h => by simp only [pureR] at h; simp only [Sem.run]; exact pureR_run h
 | .mark _ k, h => by simp only [pureR] at h; simp only [Sem.run]; exact pureR_run h
def plainV (P : Program) (ρ : Env) (o : Oper) : Option Value :=
 match pureR P (execOp (evR ρ) o) with
 | some (.value v) => some v
 | _ => none
theorem plainV_run {P : Program} {ρ : Env} {o : Oper} {v : Value} (h : plainV P ρ o = some v) (w : World) : (execOp (evR ρ) o).run P w = .ok (.value v) w := by
 unfold plainV at h
 split at h
 ·
  rename_i u hu
  simp only [Option.some.injEq] at h
  subst h
  exact pureR_run hu
 ·
  cases h
def segR (P : Program) (ops : Array Oper) : List Oper → Env → Option Env
 | [], ρ => some ρ
 | o :: l, ρ => cond (wantedR ops ρ o) (match plainV P ρ o with | some v => segR P ops l (updO ρ o.dst v) | none => none) (segR P ops l (updO ρ o.dst undef))
section
variable {P : Program} {ops : Array Oper} {K : Env → World → Prop}
theorem st {o : Oper} {l : List Oper} {ρ : Env} {w : World} (hw : wantedR ops ρ o = true) (h : Step P o ρ w (rOps P ops K l)) : rOps P ops K (o :: l) ρ w := by
 simp only [rOps]; rw [if_pos hw]; exact h
theorem st_off {o : Oper} {l : List Oper} {ρ : Env} {w : World} (hw : wantedR ops ρ o = false) (h : rOps P ops K l (updO ρ o.dst undef) w) : rOps P ops K (o :: l) ρ w := by
 simp only [rOps]; rw [if_neg (by rw [hw]; simp)]; exact h
theorem S_val {o : Oper} {ρ : Env} {w w' : World} {v : Value} {J : Env → World → Prop} (hr : (execOp (evR ρ) o).run P w = .ok (.value v) w') (h : J (updO ρ o.dst v) w') : Step P o ρ w J := by
 unfold Step; rw [hr]; exact h
theorem S_skip {o : Oper} {ρ : Env} {w w' : World} {J : Env → World → Prop} (hr : (execOp (evR ρ) o).run P w = .ok .skip w') (h : J (updO ρ o.dst undef) w') : Step P o ρ w J := by
 unfold Step; rw [hr]; exact h
theorem stv {o : Oper} {l : List Oper} {ρ : Env} {w w' : World} {v : Value} (hw : wantedR ops ρ o = true) (hr : (execOp (evR ρ) o).run P w = .ok (.value v) w') (h : rOps P ops K l (updO ρ o.dst v) w') : rOps P ops K (o :: l) ρ w := st hw (S_val hr h)
theorem S_call {o : Oper} {ρ : Env} {w : World} {f : FuncId} {args : List Value} {R : Value → World → Prop} {J : Env → World → Prop} (hr : pureR P (execOp (evR ρ) o) = some (.enter f args.toArray)) (hc : Ret P f args w R)
  (h : ∀ v w', R v w' → J (updO ρ o.dst v) w') : Step P o ρ w J := by
 unfold Step; rw [pureR_run hr]
 exact Calls.mono hc fun e w' ⟨v, he, hv⟩ => ⟨v, he, h v w' hv⟩
theorem seg_app (l1 : List Oper) {l : List Oper} {ρ' : Env} {w : World} : ∀ {ρ : Env}, segR P ops l1 ρ = some ρ' → rOps P ops K l ρ' w → rOps P ops K (l1 ++ l) ρ w := by
 induction l1 with
 | nil => intro ρ h k; simp only [segR, Option.some.injEq] at h; subst h; exact k
 | cons o l1 ih =>
  intro ρ h k
  simp only [segR] at h
  cases hw : wantedR ops ρ o with
  | true =>
   rw [hw] at h
   simp only [cond_true] at h
   cases hv : plainV P ρ o with
   | none => rw [hv] at h; cases h
   | some v =>
    rw [hv] at h
    exact st hw (S_val (plainV_run hv w) (ih h k))
  | false =>
   rw [hw] at h
   exact st_off hw (ih h k)
theorem op_nil {ρ : Env} {w : World} (h : K ρ w) : rOps P ops K [] ρ w := h
end

/-! ### Regions that draw their order -/
def QD (n : Nat) (N : Env → World → Prop) : Exit → Act → World → Prop := fun e a w => e = .normal ∧ ∃ ρ, a = Fr n ρ ∧ N ρ w
def dAny (P : Program) (n : Nat) (ops : Array Oper) (N : Env → World → Prop) (S : World → Prop) (listed : Array Bool) (ρ : Env) (w : World) : Prop :=
 okOps n ops = true ∧ Region.noSelect ops = true → wpAnyH P .any ops (QD n N) S (listed.toList.count false) listed (Fr n ρ) w
theorem count_listed {listed : Array Bool} {i : Nat} (h : listed.getD i true = false) : listed.toList.count false = (listed.setIfInBounds i true).toList.count false + 1 := by
 have hi : i < listed.size := by
  rcases Nat.lt_or_ge i listed.size with h' | h'
  ·
   exact h'
  ·
   simp [Array.getD_eq_getD_getElem?, Array.getElem?_eq_none h'] at h
 have hv : listed[i] = false := by simpa [Array.getD_eq_getD_getElem?, Array.getElem?_eq_getElem hi] using h
 rw [Array.toList_setIfInBounds, List.count_set (by simpa using hi)]
 have hv' : listed.toList[i]'(by simpa using hi) = false := by simpa using hv
 have hp : 0 < listed.toList.count false := List.count_pos_iff.2 (hv' ▸ List.getElem_mem _)
 rw [if_pos (by simpa using hv)]
 simp only [beq_iff_eq, Bool.true_eq_false, if_false]
 omega
/-- What the world's turn of a draw leaves: all. -/
structure Tch (S : Nat → Prop) (w w' : World) : Prop where
 os : w'.os = w.os
 tape : w'.tape = w.tape
 output : w'.output = w.output
 size : w.heap.size ≤ w'.heap.size
 block : ∀ k, k < w.heap.size → ¬ S k → w'.heap[k]? = w.heap[k]?
abbrev N0 : Nat → Prop := fun _ => False
abbrev one (b : Nat) : Nat → Prop := fun k => k = b
theorem Tch.refl (S : Nat → Prop) (w : World) : Tch S w w := ⟨rfl, rfl, rfl, Nat.le_refl _, fun _ _ _ => rfl⟩
theorem Tch.trans {S S1 S2 : Nat → Prop} {w w1 w2 : World} (h : Tch S1 w w1) (k : Tch S2 w1 w2) (h1 : ∀ b, b < w.heap.size → S1 b → S b) (h2 : ∀ b, b < w.heap.size → S2 b → S b) : Tch S w w2 :=
 ⟨k.os.trans h.os, k.tape.trans h.tape, k.output.trans h.output, Nat.le_trans h.size k.size, fun b hb hs => (k.block b (Nat.lt_of_lt_of_le hb h.size) (fun e => hs (h2 b hb e))).trans (h.block b hb (fun e => hs (h1 b hb e)))⟩
theorem Tch.below {w w' : World} (h : Tch N0 w w') : Below w.heap.size w w' := ⟨h.os, h.tape, h.output, h.size, fun k hk => h.block k hk (fun e => e)⟩
theorem Tch.weaken {S S' : Nat → Prop} {w w' : World} (h : Tch S w w') (hs : ∀ b, b < w.heap.size → S b → S' b) : Tch S' w w' := ⟨h.os, h.tape, h.output, h.size, fun k hk hn => h.block k hk (fun e => hn (hs k hk e))⟩
/-- From w0 on nothing that lay has turned; then blocks of S turn, all of them new. -/
theorem Tch.then {S : Nat → Prop} {w0 w w' : World} (h : Tch N0 w0 w) (k : Tch S w w') (hS : ∀ b, S b → w0.heap.size ≤ b) : Tch N0 w0 w' := h.trans k (fun _ _ e => e) (fun b hb e => by have := hS b e; omega)
theorem Tch.then0 {S : Nat → Prop} {w0 w w' : World} (h : Tch S w0 w) (k : Tch N0 w w') : Tch S w0 w' := h.trans k (fun _ _ e => e) (fun _ _ e => e.elim)
section
variable {P : Program} {n : Nat} {ops : Array Oper} {N : Env → World → Prop} {S : World → Prop} {listed : Array Bool} {ρ : Env} {w : World} {R : Env → World → Prop} {X : Nat → Env → World → Prop}
theorem W_draw {i : Nat} (S : World → Prop) (hn : okOps n ops = true) (hs : Region.noSelect ops = true) (hm : P.follows .mixedOrders = true)
  (h : ∀ w1, Tch N0 w w1 → w1.heap = w.heap → dAny P n ops N S (Array.replicate ops.size false) ρ w1) : W P n (.region i ops true) N R X ρ w := by
 have h1 := h { w with drawn := w.drawn + 1 } ⟨rfl, rfl, rfl, Nat.le_refl _, fun _ _ _ => rfl⟩ rfl ⟨hn, hs⟩
 have e : (Array.replicate ops.size false).toList.count false = ops.size := by simp
 rw [e] at h1
 refine wp_mono (wp_region_held (Q := QD n N) hm h1) fun e a w' hq => ?_
 obtain ⟨rfl, ρ, rfl, hn⟩ := hq
 exact ⟨ρ, rfl, hn⟩
theorem ready_unlisted {i : Nat} (h : i ∈ Region.ready .any ops listed) : listed.getD i true = false := (mem_ready.1 h).1
theorem d_put {i : Nat} {o : Oper} (hn : okOps n ops = true) (ho : ops[i]? = some o) {v : Value} : (Fr n ρ).put o.dst v = Fr n (updO ρ o.dst v) :=
 Fr_put (by have := okOps_at hn ho; simp only [okO, Bool.and_eq_true] at this; exact this.2)
/-- An operation whose value hangs on nothing but what S says of the world. -/
theorem d_val (i : Nat) {o : Oper} {v : Value} (ho : ops[i]? = some o) (hf : Region.free .any ops listed i = true) (hr : (Region.ready .any ops listed).contains i = true) (hw : wantedR ops ρ o = true)
  (hv : ∀ w', S w' → (execOp (evR ρ) o).run P w' = .ok (.value v) w') (hS : S w) (k : dAny P n ops N S (listed.setIfInBounds i true) (updO ρ o.dst v) w) : dAny P n ops N S listed ρ w := fun hh => by
 have hri : i ∈ Region.ready .any ops listed := by simpa using hr
 rw [count_listed (ready_unlisted hri)]
 refine wpAnyH_take (v := v) ho hh.2 hf hr (fun c a w h => absurd h.1 (by simp)) (.inl ⟨by rw [wanted_Fr hh.1]; exact hw, fun w' hs => ?_⟩) hS ?_
 ·
  rw [exec_Fr (okOps_at hh.1 ho)]; exact hv w' hs
 ·
  rw [d_put hh.1 ho]; exact k hh
theorem d_off (i : Nat) {o : Oper} (ho : ops[i]? = some o) (hf : Region.free .any ops listed i = true) (hr : (Region.ready .any ops listed).contains i = true) (hw : wantedR ops ρ o = false)
  (hS : S w) (k : dAny P n ops N S (listed.setIfInBounds i true) (updO ρ o.dst undef) w) : dAny P n ops N S listed ρ w := fun hh => by
 have hri : i ∈ Region.ready .any ops listed := by simpa using hr
 rw [count_listed (ready_unlisted hri)]
 refine wpAnyH_take ho hh.2 hf hr (fun c a w h => absurd h.1 (by simp)) (.inr ⟨by rw [wanted_Fr hh.1]; exact hw, rfl⟩) hS ?_
 rw [d_put hh.1 ho]; exact k hh
/-- Several plain operations, as they are told. -/
def takeR (P : Program) (ops : Array Oper) : List Nat → Array Bool → Env → Option (Array Bool × Env)
  | [], listed, ρ => some (listed, ρ)
  | i :: is, listed, ρ =>
    match ops[i]? with
    | none => none
    | some o => cond (Region.free .any ops listed i && (Region.ready .any ops listed).contains i)
        (cond (wantedR ops ρ o) (match plainV P ρ o with | some v => takeR P ops is (listed.setIfInBounds i true) (updO ρ o.dst v) | none => none)
          (takeR P ops is (listed.setIfInBounds i true) (updO ρ o.dst undef))) none
theorem d_takes (is : List Nat) {listed' : Array Bool} {ρ' : Env} (hS : S w) : ∀ {listed : Array Bool} {ρ : Env}, takeR P ops is listed ρ = some (listed', ρ') → dAny P n ops N S listed' ρ' w → dAny P n ops N S listed ρ w := by
 induction is with
 | nil => intro listed ρ h k; simp only [takeR, Option.some.injEq, Prod.mk.injEq] at h; obtain ⟨rfl, rfl⟩ := h; exact k
 | cons i is ih =>
  intro listed ρ h k
  simp only [takeR] at h
  cases ho : ops[i]? with
  | none => rw [ho] at h; cases h
  | some o =>
   rw [ho] at h
   cases hfr : Region.free .any ops listed i && (Region.ready .any ops listed).contains i with
   | false => simp only [hfr, cond_false] at h; cases h
   | true =>
    simp only [hfr, cond_true] at h
    rw [Bool.and_eq_true] at hfr
    cases hw : wantedR ops ρ o with
    | true =>
     simp only [hw, cond_true] at h
     cases hv : plainV P ρ o with
     | none => rw [hv] at h; cases h
     | some v =>
      rw [hv] at h
      exact d_val i ho hfr.1 hfr.2 hw (fun w' _ => plainV_run hv w') hS (ih h k)
    | false =>
     simp only [hw, cond_false] at h
     exact d_off i ho hfr.1 hfr.2 hw hS (ih h k)
theorem d_step {i : Nat} {o : Oper} (hn : okOps n ops = true) (hs : Region.noSelect ops = true) (ho : ops[i]? = some o) (hu : listed.getD i true = false) (hw : wantedR ops ρ o = true)
  (h : Step P o ρ w (fun ρ' w' => S w' ∧ dAny P n ops N S (listed.setIfInBounds i true) ρ' w')) :
  wpOp P ops (QD n N) i (fun a' w' => S w' ∧ wpAnyH P .any ops (QD n N) S ((listed.setIfInBounds i true).toList.count false) (listed.setIfInBounds i true) a' w') (Fr n ρ) w := by
 unfold wpOp
 simp only [ho]
 rw [wanted_Fr hn, if_pos hw]
 exact .inl (Oper.wp_mono (fun a w' ⟨ρ', ha, h1, h2⟩ => by subst ha; exact ⟨h1, h2 ⟨hn, hs⟩⟩) (Step.wp (okOps_at hn ho) h))
/-- Only one may come up. -/
theorem d_one (i : Nat) {o : Oper} (hr : Region.ready .any ops listed = [i]) (ho : ops[i]? = some o) (hw : wantedR ops ρ o = true)
  (h : Step P o ρ w (fun ρ' w' => S w' ∧ dAny P n ops N S (listed.setIfInBounds i true) ρ' w')) : dAny P n ops N S listed ρ w := fun hh => by
 have hu := ready_unlisted (ops := ops) (listed := listed) (i := i) (by rw [hr]; simp)
 rw [count_listed hu]
 refine wpAnyH_all hr (by simp) fun j hj => ?_
 obtain rfl : j = i := by simpa using hj
 exact d_step hh.1 hh.2 ho hu hw h
theorem d_done (hr : Region.ready .any ops listed = []) (h : N ρ w) : dAny P n ops N S listed ρ w := fun _ => wpAnyH_done hr ⟨rfl, ρ, rfl, h⟩ _
end

/-! ### Memory -/
/-- Block b is just these cells, none frozen. -/
def Blk (w : World) (b : Nat) (t : TypeId) (l : List Value) : Prop := w.heap[b]? = some (.cells l.toArray t (0, 0))
theorem Blk.lt {w : World} {b : Nat} {t : TypeId} {l : List Value} (h : Blk w b t l) : b < w.heap.size := (Array.getElem?_eq_some_iff.1 h).1
theorem Blk.cell {w : World} {b : Nat} {t : TypeId} {l : List Value} (h : Blk w b t l) (j : Nat) : w.cell? ⟨b, j, none⟩ = l[j]? := by
 simp [World.cell?, show w.heap[b]? = _ from h]
theorem Blk.frozen {w : World} {b : Nat} {t : TypeId} {l : List Value} (h : Blk w b t l) (j : Nat) : w.frozen? ⟨b, j, none⟩ = false := by
 simp [World.frozen?, show w.heap[b]? = _ from h]
theorem Blk.tch {S : Nat → Prop} {w w' : World} {b : Nat} {t : TypeId} {l : List Value} (h : Blk w b t l) (k : Tch S w w') (hs : ¬ S b) : Blk w' b t l := (k.block b h.lt hs).trans h
theorem Blk.tch0 {w w' : World} {b : Nat} {t : TypeId} {l : List Value} (h : Blk w b t l) (k : Tch N0 w w') : Blk w' b t l := h.tch k (fun e => e)
theorem Blk.ne {w : World} {b b' : Nat} {t t' : TypeId} {l l' : List Value} (h : Blk w b t l) (h' : Blk w b' t' l') (hne : t ≠ t') : b ≠ b' := by
 rintro rfl
 unfold Blk at h h'
 rw [h] at h'
 injection h' with h'
 injection h' with _ ht
 exact hne ht
theorem Blk.same {w w' : World} {b : Nat} {t : TypeId} {l : List Value} (h : Blk w b t l) (e : w'.heap = w.heap) : Blk w' b t l := by unfold Blk at *; rw [e]; exact h
theorem add_at (b j k : Nat) : (⟨b, j, none⟩ : Addr).add k = ⟨b, j + k, none⟩ := by unfold Addr.add; split <;> simp_all
section
variable {P : Program} {ρ : Env} {w : World} {J : Env → World → Prop}
theorem size_alloc_ (w : World) (ob : Obj) : (w.alloc ob).heap.size = w.heap.size + 1 := Array.size_push _
theorem get_alloc_ (w : World) (ob : Obj) : (w.alloc ob).heap[w.heap.size]? = some ob := Array.getElem?_push_size
/-- What lays one new block. -/
theorem S_new {o : Oper} {v : Value} {ob : Obj} (hr : (execOp (evR ρ) o).run P w = .ok (.value v) (w.alloc ob)) (h : ∀ w1, Tch N0 w w1 → w1.heap.size = w.heap.size + 1 → w1.heap[w.heap.size]? = some ob → J (updO ρ o.dst v) w1) : Step P o ρ w J :=
 S_val hr (h _ ⟨rfl, rfl, rfl, by rw [size_alloc_]; omega, fun k hk _ => Below.heap_alloc w ob k hk⟩ (size_alloc_ w ob) (get_alloc_ w ob))
theorem R_load {d : Option Tmp} {t : TypeId} {x : Operand} {ty : TypeId} {pos : String} {af : Array Edge} {g : Option (Nat × Bool)} {b j : Nat} {v : Value} (hx : evR ρ x = .pointer (some ⟨b, j, none⟩)) (ha : pureR P (isAgg t) = some false)
  (hc : w.cell? ⟨b, j, none⟩ = some v) : (execOp (evR ρ) ⟨d, .load t x, ty, pos, af, g⟩).run P w = .ok (.value v) w := by
 have h1 := pureR_run (w := w) ha
 simp only [execOp, hx, Instr.loadAt, Instr.sureAddr, loadVar]
 simp [h1, hc]
theorem run_loadCellsFrom (b : Nat) : ∀ (cs : List Value) (i j : Nat) (acc : Array Value), (∀ k u, cs[k]? = some u → w.cell? ⟨b, j + i + k, none⟩ = some u) →
  (loadCellsFrom ⟨b, j, none⟩ i cs.length acc).run P w = .ok (acc ++ cs.toArray) w
 | [], i, j, acc, _ => by simp [loadCellsFrom]
 | c :: cs, i, j, acc, h => by
  have h0 := h 0 c rfl
  have ih := run_loadCellsFrom b cs (i + 1) j (acc.push c) (fun k u hk => by
   have := h (k + 1) u (by simpa using hk)
   rw [show j + (i + 1) + k = j + i + (k + 1) by omega]; exact this)
  simp only [Nat.add_zero] at h0
  simp only [List.length_cons, loadCellsFrom, add_at]
  simp [h0, ih]
theorem R_loadA {d : Option Tmp} {t : TypeId} {x : Operand} {ty : TypeId} {pos : String} {af : Array Edge} {g : Option (Nat × Bool)} {b j : Nat} (cs : List Value) (hx : evR ρ x = .pointer (some ⟨b, j, none⟩)) (ha : pureR P (isAgg t) = some true)
  (hz : pureR P (sizeOf t) = some cs.length) (hc : ∀ k u, cs[k]? = some u → w.cell? ⟨b, j + k, none⟩ = some u) : (execOp (evR ρ) ⟨d, .load t x, ty, pos, af, g⟩).run P w = .ok (.value (.agg cs.toArray)) w := by
 have h1 := pureR_run (w := w) ha
 have h2 := pureR_run (w := w) hz
 have h3 := run_loadCellsFrom (P := P) (w := w) b cs 0 j #[] (fun k u hk => by rw [Nat.add_zero]; exact hc k u hk)
 simp only [execOp, hx, Instr.loadAt, Instr.sureAddr, loadVar]
 simp [h1, h2, loadCells, h3]
/-- A value of one cell. -/
def oneV : Value → Bool
 | .agg _ => false
 | .tuple _ => false
 | _ => true
theorem oneV_cells {v : Value} (h : oneV v = true) : v.cells = #[v] := by cases v <;> first | rfl | cases h
theorem setCell_heap_same {b : Nat} {t : TypeId} {l : List Value} (h : Blk w b t l) (j : Nat) (v : Value) : Blk (w.setCell ⟨b, j, none⟩ v) b t (l.set j v) := by
 unfold Blk at *
 simp [World.setCell, Array.getElem?_modify, h]
theorem tch_setCell (b j : Nat) (v : Value) : Tch (one b) w (w.setCell ⟨b, j, none⟩ v) :=
 ⟨rfl, rfl, rfl, by simp [World.setCell], fun k _ hn => Below.heap_setCell w ⟨b, j, none⟩ v k hn⟩
theorem run_store1 {b j : Nat} {v : Value} {t : TypeId} {l : List Value} (hv : oneV v = true) (hb : Blk w b t l) (hj : j < l.length) : (store ⟨b, j, none⟩ v).run P w = .ok () (w.setCell ⟨b, j, none⟩ v) := by
 have hc := hb.cell j
 rw [List.getElem?_eq_getElem hj] at hc
 have hf := hb.frozen j
 cases v <;> first | (simp only [store, Sem.run, hc, hf, Bool.false_eq_true, if_false]; done) | cases hv
theorem S_store {d : Option Tmp} {t : TypeId} {x y : Operand} {ty : TypeId} {pos : String} {af : Array Edge} {g : Option (Nat × Bool)} {b j : Nat} {v : Value} {e : TypeId} {l : List Value} (hx : evR ρ x = .pointer (some ⟨b, j, none⟩)) (hy : evR ρ y = v)
  (hz : pureR P (sizeOf t) = some 1) (hv : oneV v = true) (hb : Blk w b e l) (hj : j < l.length)
  (h : ∀ w1, Tch (one b) w w1 → w1.heap.size = w.heap.size → Blk w1 b e (l.set j v) → J (updO ρ d undef) w1) : Step P ⟨d, .store t x y, ty, pos, af, g⟩ ρ w J := by
 have h2 := pureR_run (w := w) hz
 refine S_skip (w' := w.setCell ⟨b, j, none⟩ v) ?_ (h _ (tch_setCell b j v) (by simp [World.setCell]) (setCell_heap_same hb j v))
 have h3 := run_store1 (P := P) hv hb hj
 simp only [execOp, hx, hy, Instr.storeAt, Instr.sureAddr, storeVar]
 simp [h2, oneV_cells hv, storeCells, add_at, h3]
theorem run_storeCells {b : Nat} {e : TypeId} : ∀ (vs : List Value) (i j : Nat) (l : List Value) (w : World), (∀ v ∈ vs, oneV v = true) → Blk w b e l → j + i + vs.length ≤ l.length →
  ∃ w', (storeCells ⟨b, j, none⟩ vs i).run P w = .ok () w' ∧ Tch (one b) w w' ∧ w'.heap.size = w.heap.size ∧ Blk w' b e (l.take (j + i) ++ vs ++ l.drop (j + i + vs.length))
 | [], i, j, l, w, _, hb, _ => ⟨w, by simp [storeCells], Tch.refl _ _, rfl, by simpa using hb⟩
 | v :: vs, i, j, l, w, hv, hb, hl => by
  simp only [List.length_cons] at hl
  have h3 := run_store1 (P := P) (hv v (by simp)) hb (j := j + i) (by omega)
  obtain ⟨w', h4, h5, h6, h7⟩ := run_storeCells vs (i + 1) j (l.set (j + i) v) (w.setCell ⟨b, j + i, none⟩ v) (fun u hu => hv u (by simp [hu])) (setCell_heap_same hb _ v) (by simp; omega)
  refine ⟨w', ?_, (tch_setCell b (j + i) v).trans h5 (fun _ _ e => e) (fun _ _ e => e), by rw [h6]; simp [World.setCell], ?_⟩
  ·
   simp only [storeCells, add_at]
   simp [h3, h4]
  ·
   have : l.take (j + i) ++ v :: vs ++ l.drop (j + i + (v :: vs).length) = (l.set (j + i) v).take (j + (i + 1)) ++ vs ++ (l.set (j + i) v).drop (j + (i + 1) + vs.length) := by
    rw [List.drop_set_of_lt (by omega), ← Nat.add_assoc, List.take_succ_eq_append_getElem (by simp; omega)]
    simp [List.take_set_of_le, Nat.add_comm, Nat.add_left_comm]
   rw [this]; exact h7
/-- A store of a struct. -/
theorem S_storeA {d : Option Tmp} {t : TypeId} {x y : Operand} {ty : TypeId} {pos : String} {af : Array Edge} {g : Option (Nat × Bool)} {b j : Nat} {cs : List Value} {e : TypeId} {l : List Value} (hx : evR ρ x = .pointer (some ⟨b, j, none⟩)) (hy : evR ρ y = .agg cs.toArray)
  (hz : pureR P (sizeOf t) = some cs.length) (hv : ∀ v ∈ cs, oneV v = true) (hb : Blk w b e l) (hj : j + cs.length ≤ l.length)
  (h : ∀ w1, Tch (one b) w w1 → w1.heap.size = w.heap.size → Blk w1 b e (l.take j ++ cs ++ l.drop (j + cs.length)) → J (updO ρ d undef) w1) : Step P ⟨d, .store t x y, ty, pos, af, g⟩ ρ w J := by
 have h2 := pureR_run (w := w) hz
 obtain ⟨w', h4, h5, h6, h7⟩ := run_storeCells (P := P) cs 0 j l w hv hb (by omega)
 refine S_skip (w' := w') ?_ (h _ h5 h6 (by simpa using h7))
 simp only [execOp, hx, hy, Instr.storeAt, Instr.sureAddr, storeVar]
 simp [h2, Value.cells, h4]
/-- The address of an element of a slice. -/
theorem R_index {d : Option Tmp} {t : TypeId} {x y : Operand} {ty : TypeId} {pos : String} {af : Array Edge} {g : Option (Nat × Bool)} {b off len cap sz : Nat} {k : IntKind} {i : Int} {e : TypeId} (hx : evR ρ x = .slice (some ⟨b, off, none⟩) len cap) (hy : evR ρ y = .int k i)
  (ht : pureR P (underlying t) = some (.slice e)) (hz : pureR P (sizeOf e) = some sz) (h0 : 0 ≤ i) (h1 : i < len) :
  (execOp (evR ρ) ⟨d, .indexAddr t x y, ty, pos, af, g⟩).run P w = .ok (.value (.pointer (some ⟨b, off + i.toNat * sz, none⟩))) w := by
 have h2 := pureR_run (w := w) ht
 have h3 := pureR_run (w := w) hz
 simp only [execOp, hx, hy, Instr.indexAt, asIntOf]
 simp [h2, h3, h0, h1, add_at]
end

/-! ### Regions that draw and whose operations, but for a forced tail, only read -/
def qOps (P : Program) (ops : Array Oper) (w : World) (K : Env → Prop) : List Oper → Env → Prop
 | [], ρ => K ρ
 | o :: l, ρ => if wantedR ops ρ o then ∃ v, (execOp (evR ρ) o).run P w = .ok (.value v) w ∧ qOps P ops w K l (updO ρ o.dst v) else qOps P ops w K l (updO ρ o.dst undef)
theorem qOps_still {P : Program} {ops : Array Oper} {n : Nat} {w : World} {K : Env → Prop} {Q : Act → Prop} (hn : okOps n ops = true) (hK : ∀ ρ, K ρ → Q (Fr n ρ)) :
  ∀ (l : List Oper) (ρ : Env), (∀ o ∈ l, okO n o = true) → qOps P ops w K l ρ → wpStill P ops w Q l (Fr n ρ)
 | [], ρ, _, h => wpStill_nil (hK ρ h)
 | o :: l, ρ, hl, h => by
  have ho := hl o (by simp)
  have hd : okD n o.dst = true := by simp only [okO, Bool.and_eq_true] at ho; exact ho.2
  simp only [wpStill, qOps] at h ⊢
  rw [wanted_Fr hn]
  split
  ·
   rename_i hw
   rw [if_pos hw] at h
   obtain ⟨v, hr, hk⟩ := h
   unfold Oper.still
   rw [exec_Fr ho, hr, Oper.stillUpon_value, Fr_put hd]
   exact qOps_still hn hK l _ (fun o h => hl o (by simp [h])) hk
  ·
   rename_i hw
   rw [if_neg hw] at h
   rw [Fr_put hd]
   exact qOps_still hn hK l _ (fun o h => hl o (by simp [h])) h
theorem rOps_list {P : Program} {ops : Array Oper} {n : Nat} {K : Env → World → Prop} {Q : Exit → Act → World → Prop} (hn : okOps n ops = true) (hK : ∀ ρ w, K ρ w → Q .normal (Fr n ρ) w) :
  ∀ (l : List Oper) (ρ : Env) (w : World), (∀ o ∈ l, okO n o = true) → rOps P ops K l ρ w → wpList P ops Q l (Fr n ρ) w
 | [], ρ, w, _, h => by simpa [wpList] using hK ρ w h
 | o :: l, ρ, w, hl, h => by
  have ho := hl o (by simp)
  have hd : okD n o.dst = true := by simp only [okO, Bool.and_eq_true] at ho; exact ho.2
  simp only [wpList, rOps] at h ⊢
  rw [wanted_Fr hn]
  split
  ·
   rename_i hw
   rw [if_pos hw] at h
   exact .inl (Oper.wp_mono (fun a w' ⟨ρ', ha, hj⟩ => by subst ha; exact rOps_list hn hK l ρ' w' (fun o h => hl o (by simp [h])) hj) (Step.wp ho h))
  ·
   rename_i hw
   rw [if_neg hw] at h
   rw [Fr_put hd]
   exact rOps_list hn hK l _ w (fun o h => hl o (by simp [h])) h
section
variable {P : Program} {n : Nat} {ops : Array Oper} {N R : Env → World → Prop} {X : Nat → Env → World → Prop} {ρ : Env} {w : World} {K : Env → Prop}
theorem okOps_mem {l : List Oper} (hn : okOps n l.toArray = true) : ∀ o ∈ l, okO n o = true := by
 simpa [okOps] using hn
theorem W_tail {i : Nat} {l : List Oper} (k : Nat) (hn : okOps n l.toArray = true) (hB : Region.lexTailB .any l.toArray k = true) (hm : P.follows .mixedOrders = true)
  (h : ∀ w1, Tch N0 w w1 → w1.heap = w.heap → qOps P l.toArray w1 (fun ρ => rOps P l.toArray N (l.drop k) ρ w1) (l.take k) ρ) : W P n (.region i l.toArray true) N R X ρ w := by
 refine wp_region_still_tail k hm hB ?_
 have h1 := h { w with drawn := w.drawn + 1 } ⟨rfl, rfl, rfl, Nat.le_refl _, fun _ _ _ => rfl⟩ rfl
 refine qOps_still hn (fun ρ hk => ?_) (l.take k) ρ (fun o ho => okOps_mem hn o (List.mem_of_mem_take ho)) h1
 exact rOps_list hn (fun ρ w hk => ⟨ρ, rfl, hk⟩) (l.drop k) ρ _ (fun o ho => okOps_mem hn o (List.mem_of_mem_drop ho)) hk
theorem q_val {o : Oper} {l : List Oper} {v : Value} (hw : wantedR ops ρ o = true) (hr : (execOp (evR ρ) o).run P w = .ok (.value v) w) (h : qOps P ops w K l (updO ρ o.dst v)) : qOps P ops w K (o :: l) ρ := by
 simp only [qOps]; rw [if_pos hw]; exact ⟨v, hr, h⟩
theorem q_off {o : Oper} {l : List Oper} (hw : wantedR ops ρ o = false) (h : qOps P ops w K l (updO ρ o.dst undef)) : qOps P ops w K (o :: l) ρ := by
 simp only [qOps]; rw [if_neg (by rw [hw]; simp)]; exact h
theorem q_nil (h : K ρ) : qOps P ops w K [] ρ := h
theorem qseg_app (l1 : List Oper) {l : List Oper} {ρ' : Env} : ∀ {ρ : Env}, segR P ops l1 ρ = some ρ' → qOps P ops w K l ρ' → qOps P ops w K (l1 ++ l) ρ := by
 induction l1 with
 | nil => intro ρ h k; simp only [segR, Option.some.injEq] at h; subst h; exact k
 | cons o l1 ih =>
  intro ρ h k
  simp only [segR] at h
  cases hw : wantedR ops ρ o with
  | true =>
   rw [hw] at h
   simp only [cond_true] at h
   cases hv : plainV P ρ o with
   | none => rw [hv] at h; cases h
   | some v =>
    rw [hv] at h
    exact q_val hw (plainV_run hv w) (ih h k)
  | false =>
   rw [hw] at h
   exact q_off hw (ih h k)
theorem X_hit {i : Nat} {A B : Prop} (h : A) : cond (Nat.beq i i) A B := by simpa using h
end

theorem Tch.t0 {w w1 w2 : World} (h : Tch N0 w w1) (k : Tch N0 w1 w2) : Tch N0 w w2 := h.trans k (fun _ _ e => e) (fun _ _ e => e)
theorem not_t {b : Bool} (h : (!b) = true) : b = false := by simpa using h
theorem not_f {b : Bool} (h : (!b) = false) : b = true := by simpa using h
theorem wrap_i64 {x : Int} (h0 : -9223372036854775808 ≤ x) (h1 : x ≤ 9223372036854775807) : IntKind.i64.wrap x = x := by
 rw [IntKind.wrap_i64]; omega
theorem wrap_u8 {x : Int} (h0 : 0 ≤ x) (h1 : x ≤ 255) : IntKind.u8.wrap x = x := by
 simp only [IntKind.wrap, IntKind.bits, IntKind.signed]; simp; omega
theorem wrap_u64 {x : Int} (h0 : 0 ≤ x) (h1 : x ≤ 18446744073709551615) : IntKind.u64.wrap x = x := by
 simp only [IntKind.wrap, IntKind.bits, IntKind.signed]; simp; omega
theorem get_part (l : List Value) (j : Nat) (cs : List Value) (k : Nat) (u : Value) (h : (l.drop j).take cs.length = cs) (hk : cs[k]? = some u) : l[j + k]? = some u := by
 have hl : k < cs.length := by
  rcases Nat.lt_or_ge k cs.length with h' | h'
  ·
   exact h'
  ·
   rw [List.getElem?_eq_none h'] at hk; cases hk
 have : ((l.drop j).take cs.length)[k]? = some u := by rw [h]; exact hk
 rw [List.getElem?_take_of_lt hl, List.getElem?_drop] at this
 exact this
/-! ### Frames told by a list -/
def updL (ρ : Env) : List (Nat × Value) → Env
 | [] => ρ
 | p :: l => upd (updL ρ l) p.1 p.2
theorem updL_self {ρ : Env} : ∀ {l : List (Nat × Value)}, l.map (fun p => ρ p.1) = l.map Prod.snd → ρ = updL ρ l
  | [], _ => rfl
  | p :: l, h => by
    simp only [List.map_cons, List.cons.injEq] at h
    have ih := updL_self h.2
    show ρ = upd (updL ρ l) p.1 p.2
    rw [← ih]
    exact upd_self h.1
/-- All but these slots is forgotten. -/
theorem W_fg {P : Program} {n : Nat} {c : Code} {N R : Env → World → Prop} {X : Nat → Env → World → Prop} {ρ : Env} {w : World} (l : List (Nat × Value)) (h : l.map (fun p => ρ p.1) = l.map Prod.snd) (k : ∀ ρ, W P n c N R X (updL ρ l) w) : W P n c N R X ρ w := by
 rw [updL_self h]; exact k ρ
/-- The end of a function. -/
theorem Res_of {P : Program} {fn : Func} {ρ : Env} {w : World} {v : Value} (h : retV fn ρ = some v) : Res P fn ρ w v := retV_run h
end Go.Proofs.YtlkjhkennbdbnaaV

set_option linter.unusedVariables false
set_option linter.unusedSimpArgs false
namespace Go.Proofs.YtlkjhkennbdbnaaV
open Go Go.RowKit

def ints (k : IntKind) (xs : List Int) : List Value := xs.map fun x => .int k x
theorem ints_length (k : IntKind) (xs : List Int) : (ints k xs).length = xs.length := by simp [ints]
theorem ints_at (k : IntKind) (xs : List Int) {i : Nat} (h : i < xs.length) : (ints k xs)[i]? = some (.int k (xs.getD i 0)) := by
 simp [ints, List.getElem?_eq_getElem h, List.getD_eq_getElem?_getD]
/-- In this world a slice of n elements, sz cells each, at address A reads as these cells. -/
def RdW (w : World) (sz n : Nat) (A : Option Addr) (cells : List Value) : Prop :=
 cells.length = n * sz ∧ n ≤ 9223372036854775807 ∧ (0 < n → ∃ b off, A = some ⟨b, off, none⟩ ∧ b < w.heap.size ∧ ∀ k u, cells[k]? = some u → w.cell? ⟨b, off + k, none⟩ = some u)
theorem cell_tch {S : Nat → Prop} {w w' : World} (k : Tch S w w') {b j : Nat} (hb : b < w.heap.size) (hs : ¬ S b) : w'.cell? ⟨b, j, none⟩ = w.cell? ⟨b, j, none⟩ := World.cell?_of_block (k.block b hb hs)
theorem RdW.tch0 {w w' : World} {sz n : Nat} {A : Option Addr} {cells : List Value} (h : RdW w sz n A cells) (k : Tch N0 w w') : RdW w' sz n A cells :=
 ⟨h.1, h.2.1, fun hn => by
  obtain ⟨b, off, e, hb, hc⟩ := h.2.2 hn
  exact ⟨b, off, e, Nat.lt_of_lt_of_le hb k.size, fun j u hu => (cell_tch k hb (fun e => e)).trans (hc j u hu)⟩⟩
theorem RdW.nil_ (w : World) (sz : Nat) (A : Option Addr) : RdW w sz 0 A [] := ⟨by simp, by omega, fun h => absurd h (by omega)⟩
theorem RdW.len {w : World} {n : Nat} {A : Option Addr} {k : IntKind} {xs : List Int} (h : RdW w 1 n A (ints k xs)) : xs.length = n := by
 have := h.1; rw [ints_length] at this; omega
/-- A block is read as a slice. -/
theorem Blk.rd {w : World} {b : Nat} {t : TypeId} {l : List Value} (h : Blk w b t l) (sz n : Nat) (hl : l.length = n * sz) (hn : n ≤ 9223372036854775807) : RdW w sz n (some ⟨b, 0, none⟩) l :=
 ⟨hl, hn, fun _ => ⟨b, 0, rfl, h.lt, fun k u hu => by rw [h.cell, Nat.zero_add]; exact hu⟩⟩
/-- A row of the call's own: slice v of n elements of type e, sz cells each, from block base on, holds these cells; it may be appended to. -/
def Own (w : World) (base e sz : Nat) (v : Value) (n : Nat) (cells : List Value) : Prop := w.ownsRow base e sz v n cells
theorem Own.rd {w : World} {base e sz n : Nat} {v : Value} {cells : List Value} (h : Own w base e sz v n cells) : ∃ A c, v = .slice A n c ∧ RdW w sz n A cells := by
 obtain ⟨hl, h2⟩ := h
 rcases h2 with ⟨rfl, rfl⟩ | ⟨g, cap, cur, rfl, hb, hg, hn, hc, hs, ht⟩
 ·
  refine ⟨none, 0, rfl, hl, by omega, fun h => absurd h (by omega)⟩
 ·
  refine ⟨_, cap, rfl, hl, by simp only [maxLen] at hc; omega, fun hn0 => ⟨g, 0, rfl, (Array.getElem?_eq_some_iff.1 hg).1, fun k u hu => ?_⟩⟩
  have hk : k < n * sz := by
   rcases Nat.lt_or_ge k (n * sz) with h' | h'
   ·
    exact h'
   ·
    rw [List.getElem?_eq_none (by omega)] at hu; cases hu
  rw [← ht, List.getElem?_take_of_lt hk] at hu
  simp only [World.cell?, hg, Option.isSome_none, Bool.false_eq_true, if_false, Nat.zero_add]
  simpa using hu
theorem Own.tch {S : Nat → Prop} {w w' : World} {base e sz n : Nat} {v : Value} {cells : List Value} (h : Own w base e sz v n cells) (k : Tch S w w') (hs : ∀ b, v.ownBlock = some b → ¬ S b) : Own w' base e sz v n cells := by
 obtain ⟨hl, h2⟩ := h
 refine ⟨hl, ?_⟩
 rcases h2 with h2 | ⟨g, cap, cur, rfl, hb, hg, h3⟩
 ·
  exact .inl h2
 ·
  exact .inr ⟨g, cap, cur, rfl, hb, (k.block g (Array.getElem?_eq_some_iff.1 hg).1 (hs g rfl)).trans hg, h3⟩
theorem Own.tch0 {w w' : World} {base e sz n : Nat} {v : Value} {cells : List Value} (h : Own w base e sz v n cells) (k : Tch N0 w w') : Own w' base e sz v n cells := h.tch k (fun _ _ e => e)
theorem Own.nil_ (w : World) (base e sz : Nat) : Own w base e sz (.slice none 0 0) 0 [] := ⟨by simp, .inl ⟨rfl, rfl⟩⟩
theorem Own.lt {w : World} {base e sz n : Nat} {v : Value} {cells : List Value} (h : Own w base e sz v n cells) : ∀ b, v.ownBlock = some b → b < w.heap.size := by
 intro b hb
 rcases h.2 with ⟨rfl, _⟩ | ⟨g, cap, cur, rfl, h1, hg, _⟩
 ·
  cases hb
 ·
  simp only [Value.ownBlock, Option.some.injEq] at hb; subst hb; exact (Array.getElem?_eq_some_iff.1 hg).1
/-- Its block is of its own element type. -/
theorem Own.blk_ne {w : World} {base e sz n : Nat} {v : Value} {cells : List Value} (h : Own w base e sz v n cells) {b t : Nat} {l : List Value} (hb : Blk w b t l) (hne : t ≠ e) : ∀ c, v.ownBlock = some c → c ≠ b := by
 intro c hc
 rcases h.2 with ⟨rfl, _⟩ | ⟨g, cap, cur, rfl, h1, hg, _⟩
 ·
  cases hc
 ·
  simp only [Value.ownBlock, Option.some.injEq] at hc
  subst hc
  rintro rfl
  unfold Blk at hb
  rw [hg] at hb
  injection hb with hb
  injection hb with _ ht
  exact hne ht.symm
/-- A block of one's own, whole. -/
theorem Blk.own {w : World} {b e : Nat} {l : List Value} (h : Blk w b e l) {base sz n : Nat} (hb : base ≤ b) (hl : l.length = n * sz) (hn : n ≤ maxLen) : Own w base e sz (.slice (some ⟨b, 0, none⟩) n n) n l :=
 ⟨hl, .inr ⟨b, n, l.toArray, rfl, hb, h, Nat.le_refl _, hn, by simpa using hl, by simp [← hl]⟩⟩
/-- What an append turns: the row's own block alone. -/
def ownS (v : Value) : Nat → Prop := fun b => v.ownBlock = some b
theorem Tch.of_grown {w w' : World} {v : Value} (h : w.grownBy w' v.ownBlock) : Tch (ownS v) w w' := ⟨h.os, h.tape, h.output, h.size, fun k hk hn => h.block k hk (fun e => hn e.symm)⟩
theorem oneV_oneCell {v : Value} (h : oneV v = true) : v.oneCell' = true := by cases v <;> first | rfl | cases h
theorem info_of {P : Program} {e : TypeId} {z : Value} {sz by_ : Nat} (h : (P.info? e).map (fun i => (i.zero, i.size, i.bytes)) = some (some z, sz, by_)) : ∃ i, P.info? e = some i ∧ i.zero = some z ∧ i.size = sz ∧ i.bytes = by_ := by
 cases hi : P.info? e with
 | none => rw [hi] at h; cases h
 | some i =>
  rw [hi] at h
  simp only [Option.map_some, Option.some.injEq, Prod.mk.injEq] at h
  exact ⟨i, rfl, h.1, h.2.1, h.2.2⟩
section
variable {P : Program} {ρ : Env} {w : World} {J : Env → World → Prop}
end

/-! ### Division and shifts by what is no constant -/
section
variable {P : Program} {ρ : Env} {w : World}
theorem R_quo {d : Option Tmp} {t u : TypeId} {x y : Operand} {ty : TypeId} {pos : String} {af : Array Edge} {g : Option (Nat × Bool)} {k : IntKind} {a b : Int} (hx : evR ρ x = .int k a) (hy : evR ρ y = .int k b) (h0 : 0 ≤ a) (hb : 0 < b) (hw : k.wrap (a / b) = a / b) :
  (execOp (evR ρ) ⟨d, .binOp .quo t x y u, ty, pos, af, g⟩).run P w = .ok (.value (.int k (a / b))) w := by
 have hb' : ¬ b = 0 := by omega
 have e : a.tdiv b = a / b := Int.tdiv_eq_ediv_of_nonneg h0
 simp only [execOp, hx, hy]
 simp [eqGuard, binOp, Op.intDiv, hb', e, hw]
end
end Go.Proofs.YtlkjhkennbdbnaaV

set_option linter.unusedVariables false
set_option linter.unusedSimpArgs false
namespace Go.Proofs.YtlkjhkennbdbnaaV
open Go Go.RowKit

section
variable {P : Program} {ρ : Env} {w : World} {J : Env → World → Prop}
end
theorem Own.blk1 {w : World} {base e n : Nat} {A : Option Addr} {cp : Nat} {cells : List Value} (h : Own w base e 1 (.slice A n cp) n cells) (h0 : 0 < n) :
  ∃ g sp, A = some ⟨g, 0, none⟩ ∧ Blk w g e (cells ++ sp) ∧ (cells ++ sp).length = cp ∧ n ≤ cp ∧ cp ≤ maxLen := by
 obtain ⟨hl, hc⟩ := h
 rcases hc with ⟨_, rfl⟩ | ⟨g, cap, cur, hv, _, hgb, hn, hcap, hsz, htk⟩
 ·
  omega
 ·
  injection hv with h1 h2 h3
  subst h1 h3
  have e1 : cur.toList = cells ++ cur.toList.drop n := by
   rw [← htk]; simp
  refine ⟨g, cur.toList.drop n, rfl, ?_, ?_, hn, hcap⟩
  ·
   unfold Blk; rw [← e1]; simpa using hgb
  ·
   rw [← e1]; simpa using hsz
/-! ### Results that lie in cells -/
section
variable {P : Program} {fn : Func} {ρ : Env} {w : World}
theorem asAddr_run (a : Addr) : (asAddr (.pointer (some a))).run P w = .ok a w := rfl
theorem run_loadVarA {t : TypeId} {b j : Nat} (cs : List Value) (ha : pureR P (isAgg t) = some true) (hz : pureR P (sizeOf t) = some cs.length) (hc : ∀ k u, cs[k]? = some u → w.cell? ⟨b, j + k, none⟩ = some u) :
  (loadVar t ⟨b, j, none⟩).run P w = .ok (.agg cs.toArray) w := by
 have h1 := pureR_run (w := w) ha
 have h2 := pureR_run (w := w) hz
 have h3 := run_loadCellsFrom (P := P) (w := w) b cs 0 j #[] (fun k u hk => by rw [Nat.add_zero]; exact hc k u hk)
 simp only [loadVar]
 simp [h1, h2, loadCells, h3]
theorem blk_part {b e : Nat} {cs : List Value} (hb : Blk w b e cs) : ∀ k u, cs[k]? = some u → w.cell? ⟨b, 0 + k, none⟩ = some u := fun k u hk => by rw [Nat.zero_add, hb.cell]; exact hk
theorem Fr_getD {n : Nat} {t : Nat} (h : Nat.blt t n = true) : (Fr n ρ).tmps[t]?.getD undef = ρ t := by
 rw [Fr_get, if_pos (by simpa [Nat.blt_eq] using h)]; rfl
theorem Res_cell {p : Tmp} {ty : TypeId} {b : Nat} {e : TypeId} {cs : List Value} (h : fn.results = #[.cell p ty]) (hp : Nat.blt p fn.ntmps = true) (hx : ρ p = .pointer (some ⟨b, 0, none⟩)) (hb : Blk w b e cs) (ha : pureR P (isAgg ty) = some true) (hz : pureR P (sizeOf ty) = some cs.length) :
  Res P fn ρ w (.agg cs.toArray) := by
 unfold Res results
 have h3 := run_loadVarA (P := P) (w := w) (b := b) (j := 0) cs ha hz (blk_part hb)
 simp [h, Fr_getD hp, hx, asAddr_run, h3]
theorem Res_cell1 {p u : Tmp} {ty : TypeId} {b : Nat} {e : TypeId} {cs : List Value} (h : fn.results = #[.cell p ty, .tmp u]) (hp : Nat.blt p fn.ntmps = true) (hu : Nat.blt u fn.ntmps = true) (hx : ρ p = .pointer (some ⟨b, 0, none⟩)) (hb : Blk w b e cs) (ha : pureR P (isAgg ty) = some true) (hz : pureR P (sizeOf ty) = some cs.length) :
  Res P fn ρ w (.tuple #[.agg cs.toArray, ρ u]) := by
 unfold Res results
 have h3 := run_loadVarA (P := P) (w := w) (b := b) (j := 0) cs ha hz (blk_part hb)
 simp [h, Fr_getD hp, Fr_getD hu, hx, asAddr_run, h3]
end

/-! ### Slices that only read: the pointer to a place -/
def ptrAt (A : Option Addr) (j : Nat) : Value := match A with
 | some ⟨b, off, none⟩ => .pointer (some ⟨b, off + j, none⟩)
 | _ => .pointer none
theorem RdW.some_ {w : World} {sz n : Nat} {A : Option Addr} {cells : List Value} (h : RdW w sz n A cells) (hn : 0 < n) : ∃ b off, A = some ⟨b, off, none⟩ := by
 obtain ⟨b, off, e, _⟩ := h.2.2 hn; exact ⟨b, off, e⟩
section
variable {P : Program} {ρ : Env} {w : World} {J : Env → World → Prop}
theorem R_indexRd {d : Option Tmp} {t : TypeId} {x y : Operand} {ty : TypeId} {pos : String} {af : Array Edge} {g : Option (Nat × Bool)} {A : Option Addr} {len cap sz : Nat} {k : IntKind} {i : Int} {e : TypeId} {w0 : World} {cells : List Value} (j : Nat) (hA : RdW w0 sz len A cells)
  (hx : evR ρ x = .slice A len cap) (hy : evR ρ y = .int k i) (ht : pureR P (underlying t) = some (.slice e)) (hz : pureR P (sizeOf e) = some sz) (hj : i = (j : Int)) (h1 : j < len) :
  (execOp (evR ρ) ⟨d, .indexAddr t x y, ty, pos, af, g⟩).run P w = .ok (.value (ptrAt A (j * sz))) w := by
 subst hj
 obtain ⟨b, off, rfl⟩ := hA.some_ (by omega)
 have := R_index (P := P) (w := w) (d := d) (ty := ty) (pos := pos) (af := af) (g := g) hx hy ht hz (by omega) (by omega)
 exact this
theorem R_indexRd1 {d : Option Tmp} {t : TypeId} {x y : Operand} {ty : TypeId} {pos : String} {af : Array Edge} {g : Option (Nat × Bool)} {A : Option Addr} {len cap : Nat} {k : IntKind} {i : Int} {e : TypeId} {w0 : World} {cells : List Value} (j : Nat) (hA : RdW w0 1 len A cells)
  (hx : evR ρ x = .slice A len cap) (hy : evR ρ y = .int k i) (ht : pureR P (underlying t) = some (.slice e)) (hz : pureR P (sizeOf e) = some 1) (hj : i = (j : Int)) (h1 : j < len) :
  (execOp (evR ρ) ⟨d, .indexAddr t x y, ty, pos, af, g⟩).run P w = .ok (.value (ptrAt A j)) w := by
 have := R_indexRd (P := P) (w := w) (d := d) (ty := ty) (pos := pos) (af := af) (g := g) j hA hx hy ht hz hj h1
 rw [Nat.mul_one] at this
 exact this
theorem R_fieldRd {d : Option Tmp} {t : TypeId} {x : Operand} {f m : Nat} {ty : TypeId} {pos : String} {af : Array Edge} {g : Option (Nat × Bool)} {A : Option Addr} {len sz j : Nat} {w0 : World} {cells : List Value} (hA : RdW w0 sz len A cells) (h0 : 0 < len)
  (hx : evR ρ x = ptrAt A j) (hf : ∀ b off, pureR P (execOp (fun _ => .pointer (some ⟨b, off, none⟩)) ⟨d, .fieldAddr t x f, ty, pos, af, g⟩) = some (.value (.pointer (some ⟨b, off + m, none⟩)))) :
  (execOp (evR ρ) ⟨d, .fieldAddr t x f, ty, pos, af, g⟩).run P w = .ok (.value (ptrAt A (j + m))) w := by
 obtain ⟨b, off, rfl⟩ := hA.some_ h0
 have h1 := pureR_run (w := w) (hf b (off + j))
 simp only [execOp] at h1 ⊢
 rw [hx]
 simp only [ptrAt, ← Nat.add_assoc]
 exact h1
theorem R_loadRd {d : Option Tmp} {t : TypeId} {x : Operand} {ty : TypeId} {pos : String} {af : Array Edge} {g : Option (Nat × Bool)} {A : Option Addr} {len sz j : Nat} {cells : List Value} {v : Value} (hA : RdW w sz len A cells) (h0 : 0 < len)
  (hx : evR ρ x = ptrAt A j) (ha : pureR P (isAgg t) = some false) (hc : cells[j]? = some v) : (execOp (evR ρ) ⟨d, .load t x, ty, pos, af, g⟩).run P w = .ok (.value v) w := by
 obtain ⟨b, off, rfl, _, h⟩ := hA.2.2 h0
 exact R_load hx ha (h j v hc)
theorem R_loadRdA {d : Option Tmp} {t : TypeId} {x : Operand} {ty : TypeId} {pos : String} {af : Array Edge} {g : Option (Nat × Bool)} {A : Option Addr} {len sz j : Nat} {cells : List Value} (cs : List Value) (hA : RdW w sz len A cells) (h0 : 0 < len)
  (hx : evR ρ x = ptrAt A j) (ha : pureR P (isAgg t) = some true) (hz : pureR P (sizeOf t) = some cs.length) (hc : ∀ k u, cs[k]? = some u → cells[j + k]? = some u) : (execOp (evR ρ) ⟨d, .load t x, ty, pos, af, g⟩).run P w = .ok (.value (.agg cs.toArray)) w := by
 obtain ⟨b, off, rfl, _, h⟩ := hA.2.2 h0
 exact R_loadA cs hx ha hz (fun k u hk => by rw [Nat.add_assoc]; exact h _ u (hc k u hk))
end

/-! ### Three that may come up -/
section
variable {P : Program} {n : Nat} {ops : Array Oper} {N : Env → World → Prop} {S : World → Prop} {listed : Array Bool} {ρ : Env} {w : World}
end
end Go.Proofs.YtlkjhkennbdbnaaV

set_option linter.unusedVariables false
set_option linter.unusedSimpArgs false
namespace Go.Proofs.YtlkjhkennbdbnaaV
open Go Go.RowKit
/-- Whatever order is picked from here on; S holds behind every operation below k0 that is carried out. -/
def wpAnyT (P : Program) (md : Region.Mode) (ops : Array Oper) (Q : Exit → Act → World → Prop) (S : World → Prop) (k0 : Nat) : Nat → Array Bool → Act → World → Prop
 | 0, listed, a, w => Region.ready md ops listed = [] ∧ Q .normal a w
 | fuel + 1, listed, a, w =>
  (Region.ready md ops listed = [] → Q .normal a w) ∧
  ∀ i ∈ Region.ready md ops listed, wpOp P ops Q i (fun a' w' => (i < k0 → S w') ∧ wpAnyT P md ops Q S k0 fuel (listed.setIfInBounds i true) a' w') a w
section
variable {P : Program} {md : Region.Mode} {ops : Array Oper} {Q : Exit → Act → World → Prop} {S : World → Prop} {k0 : Nat}
theorem wpAny_ofT : ∀ (fuel : Nat) (listed : Array Bool) (a : Act) (w : World), wpAnyT P md ops Q S k0 fuel listed a w → wpAny P md ops Q fuel listed a w
 | 0, _, _, _, h => h
 | fuel + 1, _, _, _, h => ⟨h.1, fun i hi => wpOp_mono (fun a' w' h' => wpAny_ofT fuel _ a' w' h'.2) (h.2 i hi)⟩
/-- Those from k0 on wait for i. -/
def tailW (md : Region.Mode) (ops : Array Oper) (k0 i : Nat) : Bool := (List.range ops.size).all fun j => decide (j < k0) || (match ops[j]? with | some o => o.after.any (fun e => Region.binds md e && e.on == i) | none => true)
theorem tailW_spec {i : Nat} (h : tailW md ops k0 i = true) : ∀ j oj, ops[j]? = some oj → k0 ≤ j → ∃ e ∈ oj.after, Region.binds md e = true ∧ e.on = i := fun j oj hj hk => by
 unfold tailW at h
 rw [List.all_eq_true] at h
 have := h j (by rw [List.mem_range]; exact (Array.getElem?_eq_some_iff.1 hj).1)
 rw [hj] at this
 simp only [Bool.or_eq_true, decide_eq_true_eq] at this
 rcases this with h' | h'
 ·
  omega
 ·
  rw [Array.any_eq_true'] at h'
  obtain ⟨e, he, hb⟩ := h'
  rw [Bool.and_eq_true, beq_iff_eq] at hb
  exact ⟨e, he, hb.1, hb.2⟩
theorem wpAnyT_first {i : Nat} {oi : Oper} {v : Value} (hi : ops[i]? = some oi) (hsel : ∀ (j : Nat) (o : Oper) cs b, ops[j]? = some o → o.op ≠ .select cs b)
  (hQ : ∀ c a w, Q (.panic c) (a.put oi.dst v) w → Q (.panic c) a w) (hT : ∀ j oj, ops[j]? = some oj → k0 ≤ j → ∃ e ∈ oj.after, Region.binds md e = true ∧ e.on = i) :
  ∀ (fuel : Nat) (listed : Array Bool) (a : Act) (w : World),
   (∀ j oj, ops[j]? = some oj → j ≠ i → listed.getD j true = false → (∀ e ∈ oj.after, Region.binds md e = true → e.on ≠ i) → oi.apart ops oj = true) →
   i ∈ Region.ready md ops listed → YieldsIf P ops S oi v a → S w →
   wpAnyT P md ops Q S k0 fuel (listed.setIfInBounds i true) (a.put oi.dst v) w → wpAnyT P md ops Q S k0 (fuel + 1) listed a w := by
 intro fuel
 induction fuel with
 | zero =>
  intro listed a w _ hr hy hS H
  refine ⟨fun h => (by rw [h] at hr; cases hr), fun j hj => ?_⟩
  by_cases hji : j = i
  ·
   subst hji; exact hy.wpOp hi hS ⟨fun _ => hS, H⟩
  ·
   have := ready_mono hj hji
   rw [H.1] at this
   cases this
 | succ fuel ih =>
  intro listed a w hfree hr hy hS H
  refine ⟨fun h => (by rw [h] at hr; cases hr), fun j hj => ?_⟩
  by_cases hji : j = i
  ·
   subst hji; exact hy.wpOp hi hS ⟨fun _ => hS, H⟩
  ·
   have h1 := H.2 j (ready_mono hj hji)
   obtain ⟨hjun, oj, hoj, hall⟩ := mem_ready.1 hj
   have hnot : ∀ e ∈ oj.after, Region.binds md e = true → e.on ≠ i := fun e he hb heq => by
    have h1 := hall e he hb
    have h0 := (mem_ready.1 hr).1
    rw [heq] at h1
    rcases Nat.lt_or_ge i listed.size with h' | h'
    ·
     simp [h'] at h0 h1; rw [h0] at h1; cases h1
    ·
     simp [Array.getElem?_eq_none h'] at h1
   have hjk : j < k0 := by
    rcases Nat.lt_or_ge j k0 with h' | h'
    ·
     exact h'
    ·
     obtain ⟨e, he, hb, heq⟩ := hT j oj hoj h'
     exact absurd heq (hnot e he hb)
   have h2 := wpOp_putIf hoj (hfree j oj hoj hji hjun hnot) (fun cs b => hsel i oi cs b hi) (fun cs b => hsel j oj cs b hoj) hQ hy h1
   have hfree' : ∀ k ok, ops[k]? = some ok → k ≠ i → (listed.setIfInBounds j true).getD k true = false →
     (∀ e ∈ ok.after, Region.binds md e = true → e.on ≠ i) → oi.apart ops ok = true := fun k ok hk hki hun hno => by
    refine hfree k ok hk hki ?_ hno
    by_cases hjk : j = k
    ·
     subst hjk; exact hjun
    ·
     rw [getD_set_ne true hjk] at hun; exact hun
   refine wpOp_mono (fun a' w' h3 => ⟨h3.2.1, ih (listed.setIfInBounds j true) a' w' hfree' (ready_mono hr (Ne.symm hji)) h3.1 (h3.2.1 hjk) ?_⟩) h2
   rw [Array.setIfInBounds_comm _ _ hji]
   exact h3.2.2
end
def tAny (P : Program) (n : Nat) (ops : Array Oper) (N : Env → World → Prop) (S : World → Prop) (k0 : Nat) (listed : Array Bool) (ρ : Env) (w : World) : Prop :=
 okOps n ops = true ∧ Region.noSelect ops = true → wpAnyT P .any ops (QD n N) S k0 (listed.toList.count false) listed (Fr n ρ) w
section
variable {P : Program} {n : Nat} {ops : Array Oper} {N : Env → World → Prop} {S : World → Prop} {k0 : Nat} {listed : Array Bool} {ρ : Env} {w : World} {R : Env → World → Prop} {X : Nat → Env → World → Prop}
theorem W_drawT {i : Nat} (S : World → Prop) (k0 : Nat) (hn : okOps n ops = true) (hs : Region.noSelect ops = true) (hm : P.follows .mixedOrders = true)
  (h : ∀ w1, Tch N0 w w1 → w1.heap = w.heap → tAny P n ops N S k0 (Array.replicate ops.size false) ρ w1) : W P n (.region i ops true) N R X ρ w := by
 have h1 := h { w with drawn := w.drawn + 1 } ⟨rfl, rfl, rfl, Nat.le_refl _, fun _ _ _ => rfl⟩ rfl ⟨hn, hs⟩
 have e : (Array.replicate ops.size false).toList.count false = ops.size := by simp
 rw [e] at h1
 refine wp_mono (wp_region_any (Q := QD n N) hm (wpAny_ofT _ _ _ _ h1)) fun e a w' hq => ?_
 obtain ⟨rfl, ρ, rfl, hn⟩ := hq
 exact ⟨ρ, rfl, hn⟩
theorem t_val (i : Nat) {o : Oper} {v : Value} (hT : tailW .any ops k0 i = true) (ho : ops[i]? = some o) (hf : Region.free .any ops listed i = true) (hr : (Region.ready .any ops listed).contains i = true) (hw : wantedR ops ρ o = true)
  (hv : ∀ w', S w' → (execOp (evR ρ) o).run P w' = .ok (.value v) w') (hS : S w) (k : tAny P n ops N S k0 (listed.setIfInBounds i true) (updO ρ o.dst v) w) : tAny P n ops N S k0 listed ρ w := fun hh => by
 have hri : i ∈ Region.ready .any ops listed := by simpa using hr
 rw [count_listed (ready_unlisted hri)]
 refine wpAnyT_first (v := v) ho (Region.noSelect_spec hh.2) (fun c a w h => absurd h.1 (by simp)) (tailW_spec hT) _ _ _ _ (Region.free_spec ho hf) hri (.inl ⟨by rw [wanted_Fr hh.1]; exact hw, fun w' hs => ?_⟩) hS ?_
 ·
  rw [exec_Fr (okOps_at hh.1 ho)]; exact hv w' hs
 ·
  rw [d_put hh.1 ho]; exact k hh
theorem t_off (i : Nat) {o : Oper} (hT : tailW .any ops k0 i = true) (ho : ops[i]? = some o) (hf : Region.free .any ops listed i = true) (hr : (Region.ready .any ops listed).contains i = true) (hw : wantedR ops ρ o = false)
  (hS : S w) (k : tAny P n ops N S k0 (listed.setIfInBounds i true) (updO ρ o.dst undef) w) : tAny P n ops N S k0 listed ρ w := fun hh => by
 have hri : i ∈ Region.ready .any ops listed := by simpa using hr
 rw [count_listed (ready_unlisted hri)]
 refine wpAnyT_first ho (Region.noSelect_spec hh.2) (fun c a w h => absurd h.1 (by simp)) (tailW_spec hT) _ _ _ _ (Region.free_spec ho hf) hri (.inr ⟨by rw [wanted_Fr hh.1]; exact hw, rfl⟩) hS ?_
 rw [d_put hh.1 ho]; exact k hh
def takeT (P : Program) (ops : Array Oper) (k0 : Nat) : List Nat → Array Bool → Env → Option (Array Bool × Env)
  | [], listed, ρ => some (listed, ρ)
  | i :: is, listed, ρ =>
    match ops[i]? with
    | none => none
    | some o => cond (Region.free .any ops listed i && (Region.ready .any ops listed).contains i && tailW .any ops k0 i)
        (cond (wantedR ops ρ o) (match plainV P ρ o with | some v => takeT P ops k0 is (listed.setIfInBounds i true) (updO ρ o.dst v) | none => none)
          (takeT P ops k0 is (listed.setIfInBounds i true) (updO ρ o.dst undef))) none
theorem t_takes (is : List Nat) {listed' : Array Bool} {ρ' : Env} (hS : S w) : ∀ {listed : Array Bool} {ρ : Env}, takeT P ops k0 is listed ρ = some (listed', ρ') → tAny P n ops N S k0 listed' ρ' w → tAny P n ops N S k0 listed ρ w := by
 induction is with
 | nil => intro listed ρ h k; simp only [takeT, Option.some.injEq, Prod.mk.injEq] at h; obtain ⟨rfl, rfl⟩ := h; exact k
 | cons i is ih =>
  intro listed ρ h k
  simp only [takeT] at h
  cases ho : ops[i]? with
  | none => rw [ho] at h; cases h
  | some o =>
   rw [ho] at h
   cases hfr : (Region.free .any ops listed i && (Region.ready .any ops listed).contains i && tailW .any ops k0 i) with
   | false => simp only [hfr, cond_false] at h; cases h
   | true =>
    simp only [hfr, cond_true] at h
    rw [Bool.and_eq_true, Bool.and_eq_true] at hfr
    cases hw : wantedR ops ρ o with
    | true =>
     simp only [hw, cond_true] at h
     cases hv : plainV P ρ o with
     | none => rw [hv] at h; cases h
     | some v =>
      rw [hv] at h
      exact t_val i hfr.2 ho hfr.1.1 hfr.1.2 hw (fun w' _ => plainV_run hv w') hS (ih h k)
    | false =>
     simp only [hw, cond_false] at h
     exact t_off i hfr.2 ho hfr.1.1 hfr.1.2 hw hS (ih h k)
theorem t_step {i : Nat} {o : Oper} (hn : okOps n ops = true) (hs : Region.noSelect ops = true) (ho : ops[i]? = some o) (hu : listed.getD i true = false) (hw : wantedR ops ρ o = true)
  (h : Step P o ρ w (fun ρ' w' => (i < k0 → S w') ∧ tAny P n ops N S k0 (listed.setIfInBounds i true) ρ' w')) :
  wpOp P ops (QD n N) i (fun a' w' => (i < k0 → S w') ∧ wpAnyT P .any ops (QD n N) S k0 ((listed.setIfInBounds i true).toList.count false) (listed.setIfInBounds i true) a' w') (Fr n ρ) w := by
 unfold wpOp
 simp only [ho]
 rw [wanted_Fr hn, if_pos hw]
 exact .inl (Oper.wp_mono (fun a w' ⟨ρ', ha, h1, h2⟩ => by subst ha; exact ⟨h1, h2 ⟨hn, hs⟩⟩) (Step.wp (okOps_at hn ho) h))
theorem wpAnyT_all {rs : List Nat} {fuel : Nat} {listed : Array Bool} {a : Act} {w : World} {Q : Exit → Act → World → Prop} {md : Region.Mode} (hr : Region.ready md ops listed = rs) (hne : rs ≠ [])
  (h : ∀ i ∈ rs, wpOp P ops Q i (fun a' w' => (i < k0 → S w') ∧ wpAnyT P md ops Q S k0 fuel (listed.setIfInBounds i true) a' w') a w) : wpAnyT P md ops Q S k0 (fuel + 1) listed a w :=
 ⟨fun h0 => absurd (hr ▸ h0) hne, hr ▸ h⟩
theorem t_one (i : Nat) {o : Oper} (hr : Region.ready .any ops listed = [i]) (ho : ops[i]? = some o) (hw : wantedR ops ρ o = true)
  (h : Step P o ρ w (fun ρ' w' => (i < k0 → S w') ∧ tAny P n ops N S k0 (listed.setIfInBounds i true) ρ' w')) : tAny P n ops N S k0 listed ρ w := fun hh => by
 have hu := ready_unlisted (ops := ops) (listed := listed) (i := i) (by rw [hr]; simp)
 rw [count_listed hu]
 refine wpAnyT_all hr (by simp) fun j hj => ?_
 obtain rfl : j = i := by simpa using hj
 exact t_step hh.1 hh.2 ho hu hw h
theorem t_done (hr : Region.ready .any ops listed = []) (h : N ρ w) : tAny P n ops N S k0 listed ρ w := fun _ => by
 cases (listed.toList.count false) with
 | zero => exact ⟨hr, rfl, ρ, rfl, h⟩
 | succ m => exact ⟨fun _ => ⟨rfl, ρ, rfl, h⟩, by rw [hr]; simp⟩
end
end Go.Proofs.YtlkjhkennbdbnaaV

set_option linter.unusedVariables false
set_option linter.unusedSimpArgs false
namespace Go.Proofs.YtlkjhkennbdbnaaV
open Go Go.RowKit Go.Proofs
/-- A frame into which these are put, one after the other. -/
@[reducible] def ups (ρ : Env) : List (Nat × Value) → Env
 | [] => ρ
 | p :: l => ups (upd ρ p.1 p.2) l
section
variable {P : Program} {ops : Array Oper} {K : Env → World → Prop} {ρ : Env} {w : World}
theorem sg (vs : List (Nat × Value)) {L : List Oper} (h : segR P ops (L.take vs.length) ρ = some (ups ρ vs)) (k : rOps P ops K (L.drop vs.length) (ups ρ vs) w) : rOps P ops K L ρ w := by
 have := seg_app (P := P) (ops := ops) (K := K) (L.take vs.length) h k
 rwa [List.take_append_drop] at this
theorem fixR {b : Env} {d : Nat} {kd : IntKind} {x y : Int} {L : List Oper} (e : x = y) (k : rOps P ops K L (upd b d (.int kd y)) w) : rOps P ops K L (upd b d (.int kd x)) w := by rw [e]; exact k
end
section
variable {P : Program} {ops : Array Oper} {K : Env → Prop} {ρ : Env} {w : World}
theorem qsg (vs : List (Nat × Value)) {L : List Oper} (h : segR P ops (L.take vs.length) ρ = some (ups ρ vs)) (k : qOps P ops w K (L.drop vs.length) (ups ρ vs)) : qOps P ops w K L ρ := by
 have := qseg_app (P := P) (ops := ops) (K := K) (L.take vs.length) h k
 rwa [List.take_append_drop] at this
end
section
variable {P : Program} {n : Nat} {ops : Array Oper} {N : Env → World → Prop} {S : World → Prop} {listed : Array Bool} {ρ : Env} {w : World}
theorem dtk (is : List Nat) (listed' : Array Bool) (vs : List (Nat × Value)) (hS : S w) (h : takeR P ops is listed ρ = some (listed', ups ρ vs)) (k : dAny P n ops N S listed' (ups ρ vs) w) : dAny P n ops N S listed ρ w := d_takes is hS h k
theorem ttk {k0 : Nat} (is : List Nat) (listed' : Array Bool) (vs : List (Nat × Value)) (hS : S w) (h : takeT P ops k0 is listed ρ = some (listed', ups ρ vs)) (k : tAny P n ops N S k0 listed' (ups ρ vs) w) : tAny P n ops N S k0 listed ρ w := t_takes is hS h k
theorem fixD {b : Env} {d : Nat} {kd : IntKind} {x y : Int} (e : x = y) (k : dAny P n ops N S listed (upd b d (.int kd y)) w) : dAny P n ops N S listed (upd b d (.int kd x)) w := by rw [e]; exact k
end
end Go.Proofs.YtlkjhkennbdbnaaV

set_option linter.unusedVariables false
set_option linter.unusedSimpArgs false
namespace Go.Proofs.YtlkjhkennbdbnaaV
open Go Go.RowKit Go.Proofs
section
variable {P : Program} {ops : Array Oper} {K : Env → World → Prop} {ρ : Env} {w : World}
theorem zS (vs : List (Nat × Value)) {L : List Oper} (k : rOps P ops K (L.drop vs.length) (ups ρ vs) w) (h : segR P ops (L.take vs.length) ρ = some (ups ρ vs) := by kernel_rfl) : rOps P ops K L ρ w := sg vs h k
theorem zL {d : Option Tmp} {t : TypeId} {x : Operand} {ty : TypeId} {pos : String} {af : Array Edge} {g : Option (Nat × Bool)} {b j : Nat} {l : List Oper} (v : Value) (hc : w.cell? ⟨b, j, none⟩ = some v) (k : rOps P ops K l (updO ρ d v) w) (hw : wantedR ops ρ ⟨d, .load t x, ty, pos, af, g⟩ = true := by first | rfl | kernel_rfl) (hx : evR ρ x = .pointer (some ⟨b, j, none⟩) := by kernel_rfl) (ha : pureR P (isAgg t) = some false := by kernel_rfl) : rOps P ops K (⟨d, .load t x, ty, pos, af, g⟩ :: l) ρ w := st hw (S_val (R_load hx ha hc) k)
theorem zC {o : Oper} {f : FuncId} {args : List Value} {R : Value → World → Prop} {l : List Oper} (hc : Ret P f args w R) (h : ∀ v w', R v w' → rOps P ops K l (updO ρ o.dst v) w') (hw : wantedR ops ρ o = true := by first | rfl | kernel_rfl) (hr : pureR P (execOp (evR ρ) o) = some (.enter f args.toArray) := by kernel_rfl) : rOps P ops K (o :: l) ρ w := st hw (S_call hr hc h)
end
section
variable {P : Program} {n : Nat} {N R : Env → World → Prop} {X : Nat → Env → World → Prop} {ρ : Env} {w : World} {ops : Array Oper}
theorem zR {i : Nat} {l : List Oper} (h : rOps P l.toArray N l ρ w) (hn : okOps n l.toArray = true := by kernel_rfl) : W P n (.region i l.toArray false) N R X ρ w := W_region hn h
theorem zQ {i : Nat} {l : List Oper} {y : Code} (h : rOps P l.toArray (fun ρ w => W P n y N R X ρ w) l ρ w) (hn : okOps n l.toArray = true := by kernel_rfl) : W P n (.seq (.region i l.toArray false) y) N R X ρ w := W_seq (W_region hn h)
theorem zW {c : Operand} {x y : Code} (b : Bool) (ht : b = true → W P n x N R X ρ w) (hf : b = false → W P n y N R X ρ w) (hx : okX n c = true := by kernel_rfl) (hc : evR ρ c = .bool b := by kernel_rfl) : W P n (.cond c x y) N R X ρ w := W_cond b hx hc ht hf
theorem zO {c : Operand} {x y : Code} (b : Bool) (ht : b = true → W P n x N R X ρ w) (hf : b = false → W P n y N R X ρ w) (hx : okX n c = true := by kernel_rfl) (hc : evR ρ c = .bool b := by kernel_rfl) : rOps P ops (fun ρ w => W P n (.cond c x y) N R X ρ w) [] ρ w := op_nil (W_cond b hx hc ht hf)
theorem zF {c : Code} (l : List (Nat × Value)) (k : ∀ ρ, W P n c N R X (updL ρ l) w) (h : l.map (fun p => ρ p.1) = l.map Prod.snd := by kernel_rfl) : W P n c N R X ρ w := W_fg l h k
end
section
variable {P : Program} {n : Nat} {ops : Array Oper} {N : Env → World → Prop} {S : World → Prop} {listed : Array Bool} {ρ : Env} {w : World}
theorem zK (is : List Nat) (listed' : Array Bool) (vs : List (Nat × Value)) (hS : S w) (k : dAny P n ops N S listed' (ups ρ vs) w) (h : takeR P ops is listed ρ = some (listed', ups ρ vs) := by kernel_rfl) : dAny P n ops N S listed ρ w := dtk is listed' vs hS h k
theorem zV (i : Nat) {o : Oper} (ho : ops[i]? = some o) (v : Value) (hv : ∀ w', S w' → (execOp (evR ρ) o).run P w' = .ok (.value v) w') (hS : S w) (k : dAny P n ops N S (listed.setIfInBounds i true) (updO ρ o.dst v) w) (hf : Region.free .any ops listed i = true := by kernel_rfl) (hr : (Region.ready .any ops listed).contains i = true := by kernel_rfl) (hw : wantedR ops ρ o = true := by kernel_rfl) : dAny P n ops N S listed ρ w := d_val i ho hf hr hw hv hS k
theorem zD (i : Nat) {o : Oper} (ho : ops[i]? = some o) (h : Step P o ρ w (fun ρ' w' => S w' ∧ dAny P n ops N S (listed.setIfInBounds i true) ρ' w')) (hr : Region.ready .any ops listed = [i] := by kernel_rfl) (hw : wantedR ops ρ o = true := by kernel_rfl) : dAny P n ops N S listed ρ w := d_one i hr ho hw h
end
end Go.Proofs.YtlkjhkennbdbnaaV

set_option linter.unusedVariables false
set_option linter.unusedSimpArgs false
namespace Go.Proofs.YtlkjhkennbdbnaaV
open Go Go.RowKit
section
variable {P : Program} {ρ : Env} {w : World} {J : Env → World → Prop}
/-- append(v, x..), where the row lies in its own block: behind it, in that block or in a new one. -/
theorem S_appendR {d : Option Tmp} {x y : Operand} {ty : TypeId} {pos : String} {af : Array Edge} {g : Option (Nat × Bool)} (t e : TypeId) (z : Value) (sz by_ : Nat) {n m : Nat} {A : Option Addr} {cp : Nat} {cells news : List Value} {b off c : Nat}
  (hi : (P.info? e).map (fun i => (i.zero, i.size, i.bytes)) = some (some z, sz, by_)) (hzs : z.cells.size = sz) (hsz : 0 < sz) (ht : pureR P (underlying t) = some (.slice e))
  (hx : evR ρ x = .slice A n cp) (hy : evR ρ y = .slice (some ⟨b, off, none⟩) m c) (hown : Own w 0 e sz (.slice A n cp) n cells)
  (hl : news.length = m * sz) (hnews : ∀ k u, news[k]? = some u → w.cell? ⟨b, off + k, none⟩ = some u) (h1 : ∀ u ∈ news, oneV u = true)
  (h63 : n + m ≤ maxLen) (hbytes : (n + m) * by_ ≤ 140737488355328)
  (h : ∀ A2 cp2 w1, Own w1 0 e sz (.slice A2 (n + m) cp2) (n + m) (cells ++ news) → (∀ c, (Value.slice A2 (n + m) cp2).ownBlock = some c → (Value.slice A n cp).ownBlock = some c ∨ c = w.heap.size) → Tch (ownS (.slice A n cp)) w w1 → J (updO ρ d (.slice A2 (n + m) cp2)) w1) :
  Step P ⟨d, .call { callee := .builtin .append, args := #[x, y], argTypes := #[t, t] }, ty, pos, af, g⟩ ρ w J := by
 obtain ⟨i, hi1, hi2, hi3, hi4⟩ := info_of hi
 have ht' : P.underlying t = some (.slice e) := by
  have := pureR_run (w := w) ht
  simp only [underlying] at this
  cases hu : P.underlying t with
  | none => simp [hu] at this
  | some u => simp [hu] at this; rw [this]
 obtain ⟨v', w', hr, ho, hg, _, hwh⟩ := run_append_own_at (P := P) (w := w) 0 t ty e i z sz by_ ht' hi1 hi2 hi3 hi4 hzs hsz (.slice A n cp) n cells hown ⟨b, off, none⟩ m c news hl (fun k u hu => by rw [add_at]; exact hnews k u hu) (fun u hu => oneV_oneCell (h1 u hu)) h63 hbytes (by omega)
 have ho' : Own w' 0 e sz v' (n + m) (cells ++ news) := ho
 obtain ⟨A2, cp2, rfl, _⟩ := ho'.rd
 refine S_val (v := .slice A2 (n + m) cp2) (w' := w') ?_ (h A2 cp2 w' ho' (fun c hc => ?_) (Tch.of_grown hg))
 ·
  simp only [execOp, resolve, invoke, builtin, Array.map, hx, hy]
  simp [hx, hy, hr]
 ·
  rcases hwh with h' | h'
  ·
   rw [h'] at hc; exact .inl hc
  ·
   rw [h'] at hc; injection hc with hc; exact .inr hc.symm
end
end Go.Proofs.YtlkjhkennbdbnaaV

set_option linter.unusedVariables false
set_option linter.unusedSimpArgs false
namespace Go.Proofs.YtlkjhkennbdbnaaV
open Go Go.RowKit Go.Proofs
section
variable {P : Program} {ρ : Env} {w : World} {J : Env → World → Prop}
theorem R_pure {o : Oper} {v : Next} (h : pureR P (execOp (evR ρ) o) = some v) : (execOp (evR ρ) o).run P w = .ok v w := pureR_run h
variable {d : Option Tmp} {t : TypeId} {x lo hi mx : Operand} {ty : TypeId} {pos : String} {af : Array Edge} {g : Option (Nat × Bool)} {A : Option Addr} {n cp : Nat}
/-- Where a slice of a slice begins. -/
def slA (A : Option Addr) (l cap : Nat) : Option Addr := if cap = l then A else A.map (·.add l)
theorem R_sliceL (l : Nat) (hx : evR ρ x = .slice A n cp) (hl : evR ρ lo = .int .i64 ((l : Nat) : Int)) (ht : P.underlying t = some (.slice (P.elem t))) (hz : pureR P (sizeOf (P.elem t)) = some 1) (h1 : l ≤ n) :
  (execOp (evR ρ) ⟨d, .slice t x (some lo) none none, ty, pos, af, g⟩).run P w = .ok (.value (.slice (slA A l cp) (n - l) (cp - l))) w := by
 simp only [execOp, hx, hl, Option.map]
 have := run_slice_l (w := w) t A n cp ht .i64 (l : Int) (by omega) (by omega)
 rw [pureR_run hz] at this
 simp only [Result.andThen, sliced, Int.toNat_natCast, Nat.mul_one] at this
 cases A <;> simp [run_sliceAt_slice (w := w) t _ _ _ _ ht, this, slA]
theorem R_sliceH (h : Nat) (hx : evR ρ x = .slice A n cp) (hh : evR ρ hi = .int .i64 ((h : Nat) : Int)) (ht : P.underlying t = some (.slice (P.elem t))) (hz : pureR P (sizeOf (P.elem t)) = some 1) (h1 : h ≤ cp) :
  (execOp (evR ρ) ⟨d, .slice t x none (some hi) none, ty, pos, af, g⟩).run P w = .ok (.value (.slice (slA A 0 cp) (h - 0) (cp - 0))) w := by
 simp only [execOp, hx, hh, Option.map]
 have := run_slice_h (w := w) t A n cp ht .i64 (h : Int) (by omega) (by omega)
 rw [pureR_run hz] at this
 simp only [Result.andThen, sliced, Int.toNat_natCast, Nat.mul_one] at this
 cases A <;> simp [run_sliceAt_slice (w := w) t _ _ _ _ ht, this, slA]
end
section
variable {P : Program} {ρ : Env} {w : World} {J : Env → World → Prop}
/-- append(v, x..), of one-cell elements, whatever x is. -/
theorem S_appendX {d : Option Tmp} {x y : Operand} {ty : TypeId} {pos : String} {af : Array Edge} {g : Option (Nat × Bool)} (t e : TypeId) (z : Value) (by_ : Nat) {n m : Nat} {A B : Option Addr} {cp c : Nat} {cells news : List Value}
  (hi : (P.info? e).map (fun i => (i.zero, i.size, i.bytes)) = some (some z, 1, by_)) (hzs : z.cells.size = 1) (ht : pureR P (underlying t) = some (.slice e))
  (hx : evR ρ x = .slice A n cp) (hy : evR ρ y = .slice B m c) (hown : Own w 0 e 1 (.slice A n cp) n cells) (hB : RdW w 1 m B news) (h0B : m = 0 → B = none ∨ ∃ b off, B = some ⟨b, off, none⟩) (h1 : ∀ u ∈ news, oneV u = true)
  (h63 : n + m ≤ maxLen) (hbytes : (n + m) * by_ ≤ 140737488355328)
  (h : ∀ A2 cp2 w1, Own w1 0 e 1 (.slice A2 (n + m) cp2) (n + m) (cells ++ news) → (∀ c, (Value.slice A2 (n + m) cp2).ownBlock = some c → (Value.slice A n cp).ownBlock = some c ∨ c = w.heap.size) → Tch (ownS (.slice A n cp)) w w1 → J (updO ρ d (.slice A2 (n + m) cp2)) w1) :
  Step P ⟨d, .call { callee := .builtin .append, args := #[x, y], argTypes := #[t, t] }, ty, pos, af, g⟩ ρ w J := by
 have key : (∃ b off, B = some ⟨b, off, none⟩ ∧ ∀ k u, news[k]? = some u → w.cell? ⟨b, off + k, none⟩ = some u) ∨ (m = 0 ∧ B = none) := by
  rcases Nat.eq_zero_or_pos m with q | q
  ·
   rcases h0B q with r | ⟨b, off, r⟩
   ·
    exact .inr ⟨q, r⟩
   ·
    refine .inl ⟨b, off, r, fun k u hk => ?_⟩
    have : news = [] := List.eq_nil_of_length_eq_zero (by have := hB.1; omega)
    rw [this] at hk; cases hk
  ·
   obtain ⟨b, off, r, _, hc⟩ := hB.2.2 q
   exact .inl ⟨b, off, r, hc⟩
 rcases key with ⟨b, off, rfl, hc⟩ | ⟨rfl, rfl⟩
 ·
  exact S_appendR t e z 1 by_ (n := n) (m := m) (A := A) (cp := cp) (cells := cells) (news := news) (b := b) (off := off) (c := c) hi hzs (by omega) ht hx hy hown hB.1 hc h1 h63 hbytes h
 ·
  have hnil : news = [] := List.eq_nil_of_length_eq_zero (by have := hB.1; omega)
  subst hnil
  obtain ⟨i, hi1, hi2, hi3, hi4⟩ := info_of hi
  have ht' : P.underlying t = some (.slice e) := by
   have := pureR_run (w := w) ht
   simp only [underlying] at this
   cases hu : P.underlying t with
   | none => simp [hu] at this
   | some u => simp [hu] at this; rw [this]
  have hcp : n ≤ cp := by
   rcases hown with ⟨_, ⟨hv, hn⟩ | ⟨b, cap, cur, hv, _, _, hn, _⟩⟩
   ·
    omega
   ·
    injection hv with _ _ q; omega
  refine S_val (v := .slice A n cp) (w' := w) ?_ (h A cp w (by simpa using hown) (fun c hc => .inl hc) (Tch.refl _ _))
  simp only [execOp, resolve, invoke, builtin, Array.map, hx, hy]
  cases A <;> simp [hx, hy, Builtin.append_, run_underlying ht', sizeOf, typeInfo, zeroValue, hi1, hi2, Builtin.lenOf, Builtin.firstCells, hcp, storeCells]
end
end Go.Proofs.YtlkjhkennbdbnaaV

set_option linter.unusedVariables false
set_option linter.unusedSimpArgs false
namespace Go.Proofs.YtlkjhkennbdbnaaV
open Go Go.RowKit
abbrev Tx := List UInt8
/-- A text as a value. -/
def bsT (t : Tx) : ByteArray := ⟨t.toArray⟩
theorem bsT_app (a b : Tx) : bsT a ++ bsT b = bsT (a ++ b) := by
 unfold bsT
 apply ByteArray.ext
 simp [ByteArray.data_append]
theorem bsT_size (a : Tx) : (bsT a).size = a.length := by unfold bsT ByteArray.size; simp
/-- A text's bytes as cells. -/
def u8s (t : Tx) : List Value := t.map fun b => .int .u8 ((b.toNat : Nat) : Int)
theorem u8s_length (t : Tx) : (u8s t).length = t.length := by simp [u8s]
theorem u8s_app (a b : Tx) : u8s (a ++ b) = u8s a ++ u8s b := by simp [u8s]
theorem u8s_str (t : Tx) : Lib.strCells (bsT t) = u8s t := rfl
theorem u8s_at {t : Tx} {j : Nat} (h : j < t.length) : (u8s t)[j]? = some (.int .u8 (((t.getD j 0).toNat : Nat) : Int)) := by
 simp [u8s, List.getElem?_eq_getElem h, List.getD_eq_getElem?_getD]
theorem u8s_one (t : Tx) : ∀ u ∈ u8s t, oneV u = true := by
 intro u hu
 simp only [u8s, List.mem_map] at hu
 obtain ⟨b, _, rfl⟩ := hu
 rfl
theorem toList_loop (s : ByteArray) : ∀ (n i : Nat) (r : List UInt8), s.size - i = n → ByteArray.toList.loop s i r = r.reverse ++ s.data.toList.drop i
 | 0, i, r, h => by
  rw [ByteArray.toList.loop, if_neg (by omega)]
  have : s.data.toList.length ≤ i := by
   have e : s.size = s.data.toList.length := rfl
   omega
  rw [List.drop_eq_nil_of_le this, List.append_nil]
 | n + 1, i, r, h => by
  have hi : i < s.size := by omega
  have hi2 : i < s.data.toList.length := hi
  rw [ByteArray.toList.loop, if_pos hi, toList_loop s n (i + 1) _ (by omega), List.drop_eq_getElem_cons hi2]
  have : s.get! i = s.data.toList[i] := by
   have hi3 : i < s.data.size := hi2
   show s.data[i]! = _
   rw [getElem!_pos s.data i hi3]
   exact (Array.getElem_toList hi3).symm
  rw [this]
  simp
theorem bsT_list (t : Tx) : (bsT t).toList = t := by
 rw [ByteArray.toList, toList_loop (bsT t) _ 0 [] rfl]
 simp [bsT]
theorem tx_beq (a b : Tx) : (a == b) = decide (a = b) := by rw [Bool.eq_iff_iff]; simp
section
variable {P : Program} {ρ : Env} {w : World} {J : Env → World → Prop} {d : Option Tmp} {x y : Operand} {ty : TypeId} {pos : String} {af : Array Edge} {g : Option (Nat × Bool)}
theorem R_sadd {t u : TypeId} {a b : Tx} (hx : evR ρ x = .string (bsT a)) (hy : evR ρ y = .string (bsT b)) (hl : a.length + b.length ≤ 9223372036854775807) :
  (execOp (evR ρ) ⟨d, .binOp .add t x y u, ty, pos, af, g⟩).run P w = .ok (.value (.string (bsT (a ++ b)))) w := by
 have h : ¬ (((bsT a).size + (bsT b).size : Nat) : Int) > IntKind.i64.max := by
  rw [bsT_size, bsT_size]
  have : IntKind.i64.max = 9223372036854775807 := rfl
  omega
 simp only [execOp, hx, hy]
 simp only [eqGuard, binOp, Op.stringOp, if_neg h, bsT_app]
 simp
theorem R_seq {t u : TypeId} {a b : Tx} (hx : evR ρ x = .string (bsT a)) (hy : evR ρ y = .string (bsT b)) :
  (execOp (evR ρ) ⟨d, .binOp .eql t x y u, ty, pos, af, g⟩).run P w = .ok (.value (.bool (decide (a = b)))) w := by
 simp only [execOp, hx, hy]
 simp only [eqGuard, binOp, Op.stringOp, bsT_list, tx_beq]
 simp
theorem R_sne {t u : TypeId} {a b : Tx} (hx : evR ρ x = .string (bsT a)) (hy : evR ρ y = .string (bsT b)) :
  (execOp (evR ρ) ⟨d, .binOp .neq t x y u, ty, pos, af, g⟩).run P w = .ok (.value (.bool (!decide (a = b)))) w := by
 simp only [execOp, hx, hy]
 simp only [eqGuard, binOp, Op.stringOp, bsT_list, tx_beq]
 simp
theorem R_seq_t {t u : TypeId} {a b : Tx} (hx : evR ρ x = .string (bsT a)) (hy : evR ρ y = .string (bsT b)) (e : a = b) :
  (execOp (evR ρ) ⟨d, .binOp .eql t x y u, ty, pos, af, g⟩).run P w = .ok (.value (.bool true)) w := by
 rw [R_seq hx hy, decide_eq_true e]
/-- string(b), of bytes that are read. -/
theorem R_b2s {src dst : TypeId} {b off len cap : Nat} {l : Tx} (hx : evR ρ x = .slice (some ⟨b, off, none⟩) len cap) (hs : pureR P (underlying src) = some (.slice (P.elem src))) (he : pureR P (underlying (P.elem src)) = some (.int .u8)) (hd : pureR P (underlying dst) = some .string)
  (hl : l.length = len) (hc : ∀ k u, (u8s l)[k]? = some u → w.cell? ⟨b, off + k, none⟩ = some u) :
  (execOp (evR ρ) ⟨d, .convert src dst x, ty, pos, af, g⟩).run P w = .ok (.value (.string (bsT l))) w := by
 have und : ∀ {t : TypeId} {u : TypeDesc}, pureR P (underlying t) = some u → P.underlying t = some u := fun {t u} h => by
  have := pureR_run (w := w) h
  simp only [underlying] at this
  cases hu : P.underlying t with
  | none => simp [hu] at this
  | some v => simp [hu] at this; rw [this]
 have := run_convert_bytes_arg (P := P) w src (P.elem src) (und hs) (und he) b off len cap (l.map fun c => ((c.toNat : Nat) : Int)) (by simp [hl]) (fun i hi => by
  rw [hc i _ (u8s_at (by omega))]
  simp [List.getD_eq_getElem?_getD, List.getElem?_map, List.getElem?_eq_getElem (show i < l.length by omega)]) dst (und hd)
 simp only [execOp, hx]
 rw [Sem.run_bind] at *
 simp only [this]
 have e : strOfNums (l.map fun c => ((c.toNat : Nat) : Int)) = bsT l := by
  unfold strOfNums bsT
  rw [List.map_map]
  congr 2
  conv => rhs; rw [← List.map_id l]
  apply List.map_congr_left
  intro c _
  simp
 rw [e]; rfl
theorem und_of {P : Program} {t : TypeId} {u : TypeDesc} (h : pureR P (underlying t) = some u) : P.underlying t = some u := by
 have := pureR_run (w := (default : World)) h
 simp only [underlying] at this
 cases hu : P.underlying t with
 | none => simp [hu] at this
 | some v => simp [hu] at this; rw [this]
/-- x[i] of an array behind a pointer, of elements of one cell. -/
theorem R_idxP {t e : TypeId} {b off len : Nat} {k : IntKind} {i : Int} (j : Nat) (hx : evR ρ x = .pointer (some ⟨b, off, none⟩)) (hy : evR ρ y = .int k i) (ht : pureR P (underlying t) = some (.array len e)) (hz : pureR P (sizeOf e) = some 1) (hj : i = (j : Int)) (h1 : j < len) :
  (execOp (evR ρ) ⟨d, .indexAddr t x y, ty, pos, af, g⟩).run P w = .ok (.value (.pointer (some ⟨b, off + j, none⟩))) w := by
 subst hj
 have h2 := pureR_run (w := w) ht
 have h3 := pureR_run (w := w) hz
 simp only [execOp, hx, hy, Instr.indexAt, asIntOf, Instr.sureAddr]
 simp [h2, h3, h1, add_at]
theorem R_idxP0 {t e : TypeId} {b len : Nat} {k : IntKind} {i : Int} (j : Nat) (hx : evR ρ x = .pointer (some ⟨b, 0, none⟩)) (hy : evR ρ y = .int k i) (ht : pureR P (underlying t) = some (.array len e)) (hz : pureR P (sizeOf e) = some 1) (hj : i = (j : Int)) (h1 : j < len) :
  (execOp (evR ρ) ⟨d, .indexAddr t x y, ty, pos, af, g⟩).run P w = .ok (.value (.pointer (some ⟨b, j, none⟩))) w := by
 have := R_idxP (P := P) (w := w) (d := d) (ty := ty) (pos := pos) (af := af) (g := g) j hx hy ht hz hj h1
 rw [Nat.zero_add] at this
 exact this
/-- x[lo:] of an array behind a pointer, of elements of one cell. -/
theorem R_slP {t e : TypeId} {b len : Nat} {i : Int} {lo : Operand} (j : Nat) (hx : evR ρ x = .pointer (some ⟨b, 0, none⟩)) (hy : evR ρ lo = .int .i64 i) (ht : pureR P (underlying t) = some (.array len e)) (hz : pureR P (sizeOf e) = some 1) (hj : i = (j : Int)) (h1 : j < len) :
  (execOp (evR ρ) ⟨d, .slice t x (some lo) none none, ty, pos, af, g⟩).run P w = .ok (.value (.slice (some ⟨b, j, none⟩) (len - j) (len - j))) w := by
 subst hj
 have h2 := pureR_run (w := w) ht
 have h3 := pureR_run (w := w) hz
 have hne : ¬ len = j := by omega
 simp only [execOp, hx, hy, Instr.sliceAt, Instr.sliceBounds, Instr.sliceBound, asIntOf, Instr.sureAddr, Option.map]
 simp [h2, h3, show j ≤ len by omega, hne, add_at]
theorem R_conv {src dst : TypeId} {v v' : Value} (hx : evR ρ x = v) (h : (convert src dst v).run P w = .ok v' w) : (execOp (evR ρ) ⟨d, .convert src dst x, ty, pos, af, g⟩).run P w = .ok (.value v') w := by
 simp only [execOp, hx]
 rw [Sem.run_bind] at *
 simp [h]
theorem R_assert {xT asT : TypeId} {ok : Bool} {v v' : Value} (hx : evR ρ x = v) (h : (Instr.typeAssert v xT asT ok).run P w = .ok v' w) : (execOp (evR ρ) ⟨d, .typeAssert x xT asT ok, ty, pos, af, g⟩).run P w = .ok (.value v') w := by
 simp only [execOp, hx]
 rw [Sem.run_bind] at *
 simp [h]
theorem R_binop {op : BinOp} {t u : TypeId} {v v' r : Value} (hx : evR ρ x = v) (hy : evR ρ y = v') (hg : (eqGuard op t x y v v').run P w = .ok () w) (h : (binOp op t v v').run P w = .ok r w) : (execOp (evR ρ) ⟨d, .binOp op t x y u, ty, pos, af, g⟩).run P w = .ok (.value r) w := by
 simp only [execOp, hx, hy]
 simp [hg, h]
/-- append(v, s...), s a text: onto a row of the call's own. -/
theorem S_appendS (t u e : TypeId) {n : Nat} {A : Option Addr} {cp : Nat} {cells : List Value} {s : Tx}
  (hi : (P.info? e).map (fun i => (i.zero, i.size, i.bytes)) = some (some (.int .u8 0), 1, 1)) (ht : pureR P (underlying t) = some (.slice e)) (hu : pureR P (underlying u) = some .string)
  (hx : evR ρ x = .slice A n cp) (hy : evR ρ y = .string (bsT s)) (hown : Own w 0 e 1 (.slice A n cp) n cells) (hbytes : n + s.length ≤ 140737488355328)
  (h : ∀ A2 cp2 w1, Own w1 0 e 1 (.slice A2 (n + s.length) cp2) (n + s.length) (cells ++ u8s s) → (∀ c, (Value.slice A2 (n + s.length) cp2).ownBlock = some c → (Value.slice A n cp).ownBlock = some c ∨ c = w.heap.size) → Tch (ownS (.slice A n cp)) w w1 → J (updO ρ d (.slice A2 (n + s.length) cp2)) w1) :
  Step P ⟨d, .call { callee := .builtin .append, args := #[x, y], argTypes := #[t, u] }, ty, pos, af, g⟩ ρ w J := by
 obtain ⟨i, hi1, hi2, hi3, hi4⟩ := info_of hi
 have ht' := und_of ht
 have hu' := und_of hu
 obtain ⟨v', w', hr, ho, hg, _⟩ := Lib.run_append_own_string (P := P) w 0 t u ty e i ht' hu' hi1 hi2 hi3 hi4 (.slice A n cp) n cells hown (bsT s) (by rw [bsT_size]; simp only [maxLen]; omega) (by rw [bsT_size]; omega) (by omega)
 rw [bsT_size, u8s_str] at ho
 obtain ⟨A2, cp2, rfl⟩ : ∃ A2 cp2, v' = .slice A2 (n + s.length) cp2 := by
  rcases ho.2 with ⟨hv, hn⟩ | ⟨_, _, _, hv, _⟩
  ·
   exact ⟨none, 0, by rw [hv, hn]⟩
  ·
   exact ⟨_, _, hv⟩
 have hat : ∀ c, (Value.slice A2 (n + s.length) cp2).ownBlock = some c → (Value.slice A n cp).ownBlock = some c ∨ c = w.heap.size := by
  intro c hc
  rcases hown.2 with ⟨hv, hn⟩ | ⟨gg, cap, cur, hv, hbg, hgg, hnc, hcm, hcs, htake⟩
  ·
   obtain ⟨v2, w2, hr2, ho2, hg2, _⟩ := Lib.run_append_own_string (P := P) w w.heap.size t u ty e i ht' hu' hi1 hi2 hi3 hi4 (.slice A n cp) n cells ⟨hown.1, .inl ⟨hv, hn⟩⟩ (bsT s) (by rw [bsT_size]; simp only [maxLen]; omega) (by rw [bsT_size]; omega) (Nat.le_refl _)
   have he := hr.symm.trans hr2
   injection he with e1 e2
   subst e1
   rcases ho2.2 with ⟨hv2, hn2⟩ | ⟨g2, cap2, cur2, hv2, hbg2, hgg2, _⟩
   ·
    rw [hv2] at hc; cases hc
   ·
    refine .inr ?_
    rw [hv2] at hc
    simp only [Value.ownBlock, Option.some.injEq] at hc
    subst hc
    have hx0 : cells = [] := List.eq_nil_of_length_eq_zero (by have := hown.1; omega)
    by_cases hm : (bsT s).size = 0
    ·
     rw [hv] at hr
     have hf := Lib.run_firstCells_string (P := P) w 1 (bsT s)
     rw [hm] at hf
     have hr3 : (Builtin.append_ #[t, u] ty #[.slice none 0 0, .string (bsT s)]).run P w = .ok (.slice none 0 0) w := by
      have hn0 : Lib.strCells (bsT s) = [] := List.eq_nil_of_length_eq_zero (by rw [Lib.strCells_length]; exact hm)
      rw [hn0] at hf
      simp [Builtin.append_, run_underlying ht', run_underlying hu', sizeOf, typeInfo, hi1, hi3, Builtin.lenOf, hm, hf]
     have he2 := hr.symm.trans hr3
     injection he2 with e1 e2
     rw [hv2] at e1
     cases e1
    ·
     have hr3 := run_append_nil_string (P := P) w t u ty e i (.int .u8 0) ht' hu' hi1 hi2 (bsT s) (by omega) (by rw [bsT_size]; omega) (by rw [hi4, bsT_size]; omega)
     rw [hv] at hr
     have he2 := hr.symm.trans hr3
     injection he2 with e1 e2
     rw [hv2] at e1
     injection e1 with e1
     injection e1 with e1
     injection e1
  ·
   by_cases hroom : n + (bsT s).size ≤ cap
   ·
    have hr3 := Lib.run_append_room_string (P := P) w t u ty e i ht' hu' hi1 hi3 gg n cap cur hgg (bsT s) hroom (by omega)
    rw [hv] at hr ⊢
    have he2 := hr.symm.trans hr3
    injection he2 with e1 e2
    injection e1 with e1
    rw [e1] at hc
    exact .inl hc
   ·
    have holds : ∀ j u, cells[j]? = some u → w.cell? ((⟨gg, 0, none⟩ : Addr).add j) = some u := by
     have hown' := hown
     unfold Own at hown'
     rw [hv] at hown'
     exact hown'.cells (g := gg) rfl
    have hr3 := Lib.run_append_grow_string (P := P) w t u ty e i (.int .u8 0) ht' hu' hi1 hi2 ⟨gg, 0, none⟩ n cap cells (by rw [hi3]; exact hown.1) holds (bsT s) (by omega) (by rw [bsT_size]; omega) (by rw [hi4]; exact growslice_fits (by rw [bsT_size] at *; omega) (by rw [bsT_size]; omega))
    rw [hv] at hr
    have he2 := hr.symm.trans hr3
    injection he2 with e1 e2
    injection e1 with e1
    rw [e1] at hc
    simp only [Value.ownBlock, Option.some.injEq] at hc
    exact .inr hc.symm
 refine S_val (v := .slice A2 (n + s.length) cp2) (w' := w') ?_ (h A2 cp2 w' ho hat (Tch.of_grown hg))
 simp only [execOp, resolve, invoke, builtin, Array.map, hx, hy]
 simp [hx, hy, hr]
/-- unsafe.SliceData of a slice of some capacity. -/
theorem R_usd {ts : Array TypeId} {A : Addr} {n c : Nat} (hx : evR ρ x = .slice (some A) n c) (hc : c ≠ 0) :
  (execOp (evR ρ) ⟨d, .call { callee := .builtin .unsafeSliceData, args := #[x], argTypes := ts }, ty, pos, af, g⟩).run P w = .ok (.value (.pointer (some A))) w := by
 have h := Lib.run_unsafeSliceData_row (P := P) w ts ty A n c hc
 simp only [execOp, resolve, invoke, builtin, Array.map, hx]
 simp [hx, h]
theorem tch_freeze (b n : Nat) : Tch (one b) w (w.freeze ⟨b, 0, none⟩ n) := by
 unfold World.freeze
 split
 ·
  exact Tch.refl _ _
 ·
  exact ⟨rfl, rfl, rfl, by simp, fun k hk hn => by
   simp only [Array.getElem?_modify]
   rw [if_neg (fun e => hn e.symm)]⟩
/-- unsafe.String of a row's first bytes. -/
theorem S_ustr {pt it e : TypeId} {q cells : Nat} {l : Tx} (hp : pureR P (underlying pt) = some (.pointer e)) (hc : P.cellsOf e = 1) (hx : evR ρ x = .pointer (some ⟨q, 0, none⟩)) (hy : evR ρ y = .int .i64 ((l.length : Nat) : Int))
  (hsh : w.shape? q = some (e, cells)) (h0 : l ≠ []) (hn : l.length ≤ cells) (h63 : l.length ≤ 9223372036854775807) (hcell : ∀ k u, (u8s l)[k]? = some u → w.cell? ⟨q, k, none⟩ = some u)
  (h : ∀ w1, Tch (one q) w w1 → J (updO ρ d (.string (bsT l))) w1) :
  Step P ⟨d, .call { callee := .builtin .unsafeString, args := #[x, y], argTypes := #[pt, it] }, ty, pos, af, g⟩ ρ w J := by
 have h1 := Lib.run_unsafeString_row (P := P) w pt it ty e (und_of hp) hc q cells hsh l h0 hn h63 (fun j b hj => by
  have := hcell j (.int .u8 ((b.toNat : Nat) : Int)) (by simp [u8s, hj])
  rw [add_at, Nat.zero_add]; exact this)
 refine S_val (v := .string (bsT l)) (w' := w.freeze ⟨q, 0, none⟩ l.length) ?_ (h _ (tch_freeze q l.length))
 simp only [execOp, resolve, invoke, builtin, Array.map, hx, hy]
 simp [hx, hy, h1, bsT]
end
end Go.Proofs.YtlkjhkennbdbnaaV

set_option linter.unusedVariables false
set_option linter.unusedSimpArgs false
namespace Go.Proofs.YtlkjhkennbdbnaaV
open Go Go.RowKit
/-- A digit, a number in tens. -/
def dg (n : Nat) : UInt8 := UInt8.ofNat (48 + n)
def dgs (n : Nat) : Tx := if h : n < 10 then [dg n] else dgs (n / 10) ++ [dg (n % 10)]
decreasing_by omega
theorem dgs_lo {n : Nat} (h : n < 10) : dgs n = [dg n] := by rw [dgs, dif_pos h]
theorem dgs_hi {n : Nat} (h : ¬ n < 10) : dgs n = dgs (n / 10) ++ [dg (n % 10)] := by rw [dgs, dif_neg h]
theorem dg_nat {n : Nat} (h : n < 10) : (dg n).toNat = 48 + n := by
 unfold dg
 rw [UInt8.toNat_ofNat_of_lt' (by show 48 + n < 256; omega)]
theorem dgs_ne (n : Nat) : dgs n ≠ [] := by
 by_cases h : n < 10
 ·
  rw [dgs_lo h]; simp
 ·
  rw [dgs_hi h]; simp
def dgz (n : Nat) : Tx := if n = 0 then [] else dgs n
theorem dgs_step (n : Nat) : dgs n = dgz (n / 10) ++ [dg (n % 10)] := by
 unfold dgz
 by_cases h : n < 10
 ·
  rw [dgs_lo h, if_pos (by omega), show n % 10 = n by omega]; rfl
 ·
  rw [dgs_hi h, if_neg (by omega)]
theorem dgs_len : ∀ (k n : Nat), n < 10 ^ (k + 1) → (dgs n).length ≤ k + 1
 | 0, n, h => by rw [dgs_lo (by simpa using h)]; simp
 | k + 1, n, h => by
  by_cases h1 : n < 10
  ·
   rw [dgs_lo h1]; simp
  ·
   rw [dgs_hi h1, List.length_append]
   have := dgs_len k (n / 10) (by rw [Nat.pow_succ] at h; omega)
   simp only [List.length_cons, List.length_nil]; omega
theorem dgs_20 {n : Nat} (h : n < 18446744073709551616) : (dgs n).length ≤ 20 := dgs_len 19 n (by omega)
theorem dgs_pos (n : Nat) : 0 < (dgs n).length := List.length_pos_iff.2 (dgs_ne n)
theorem dg_int (m : Nat) {x : Int} (h : x = 48 + ((m : Nat) : Int) % 10) : Value.int .u8 x = Value.int .u8 (((dg (m % 10)).toNat : Nat) : Int) := by
 rw [dg_nat (by omega), h]
 congr 1
/-- What the rounds of digits hold: n is told by m and the digits l. -/
def DI (n m : Nat) (l : Tx) : Prop := (l = [] ∧ m = n) ∨ (l ≠ [] ∧ dgz m ++ l = dgs n)
theorem DI.first (n : Nat) : DI n n [] := .inl ⟨rfl, rfl⟩
theorem DI.step {n m : Nat} {l : Tx} (h : DI n m l) (hm : l = [] ∨ 0 < m) : DI n (m / 10) (dg (m % 10) :: l) := by
 refine .inr ⟨by simp, ?_⟩
 have e : dgz (m / 10) ++ dg (m % 10) :: l = dgs m ++ l := by rw [dgs_step m, List.append_assoc]; rfl
 rw [e]
 rcases h with ⟨rfl, rfl⟩ | ⟨h1, h2⟩
 ·
  simp
 ·
  have : m ≠ 0 := by rcases hm with h | h; exact absurd h h1; omega
  unfold dgz at h2
  rwa [if_neg this] at h2
theorem DI.last {n m : Nat} {l : Tx} (h : DI n m l) (h0 : l ≠ []) (hm : m = 0) : l = dgs n := by
 rcases h with ⟨h1, _⟩ | ⟨_, h2⟩
 ·
  exact absurd h1 h0
 ·
  subst hm
  simpa [dgz] using h2
theorem DI.room {n m i : Nat} {l : Tx} (h : DI n m l) (hn : n < 18446744073709551616) (hi : i + l.length = 20) (hm : i = 20 ∨ 0 < m) : 1 ≤ i := by
 rcases h with ⟨h1, _⟩ | ⟨h1, h2⟩
 ·
  subst h1; simp at hi; omega
 ·
  have := dgs_20 hn
  rw [← h2, List.length_append] at this
  rcases hm with hm | hm
  ·
   omega
  ·
   unfold dgz at this
   rw [if_neg (by omega)] at this
   have := dgs_pos m
   omega
def zp (i : Nat) : List Value := List.replicate i (.int .u8 0)
theorem zp_length (i : Nat) : (zp i).length = i := by simp [zp]
theorem zp_set {i : Nat} {l : Tx} {v : Value} {b : UInt8} (h : 1 ≤ i) (hv : v = .int .u8 ((b.toNat : Nat) : Int)) : (zp i ++ u8s l).set (i - 1) v = zp (i - 1) ++ u8s (b :: l) := by
 obtain ⟨j, rfl⟩ : ∃ j, i = j + 1 := ⟨i - 1, by omega⟩
 rw [Nat.add_sub_cancel, hv, show zp (j + 1) = zp j ++ [.int .u8 0] from List.replicate_succ', List.append_assoc, List.set_append_right _ _ (by rw [zp_length]; omega), zp_length, Nat.sub_self]
 rfl
theorem zp_cells {w : World} {b t i : Nat} {l : Tx} (h : Blk w b t (zp i ++ u8s l)) : ∀ k u, (u8s l)[k]? = some u → w.cell? ⟨b, i + k, none⟩ = some u := fun k u hk => by
 rw [h.cell, List.getElem?_append_right (by rw [zp_length]; omega), zp_length, Nat.add_sub_cancel_left]; exact hk
end Go.Proofs.YtlkjhkennbdbnaaV

set_option linter.unusedVariables false
set_option linter.unusedSimpArgs false
namespace Go.Proofs.YtlkjhkennbdbnaaV
open Go Go.RowKit Go.Proofs
section
variable {P : Program} {ρ : Env} {w : World} {J : Env → World → Prop}
end
end Go.Proofs.YtlkjhkennbdbnaaV

set_option linter.unusedVariables false
set_option linter.unusedSimpArgs false
namespace Go.Proofs.YtlkjhkennbdbnaaV
open Go Go.RowKit Go.Proofs
section
variable {P : Program} {n : Nat} {N R : Env → World → Prop} {X : Nat → Env → World → Prop} {ρ : Env} {w : World}
end
end Go.Proofs.YtlkjhkennbdbnaaV

set_option linter.unusedVariables false
set_option linter.unusedSimpArgs false
namespace Go.Proofs.YtlkjhkennbdbnaaV
open Go Go.RowKit Go.Proofs
/-! ### Bytes of numbers -/
/-- The byte of x that stands i bytes from its end. -/
def bt (x i : Nat) : UInt8 := UInt8.ofNat (x / 2 ^ (8 * i))
def be : Nat → Nat → Tx
 | 0, _ => []
 | k + 1, x => bt x k :: be k x
theorem be_length (k x : Nat) : (be k x).length = k := by
 induction k with
 | zero => rfl
 | succ k ih => show (be k x).length + 1 = _; rw [ih]
theorem by_cell (x k : Nat) : Value.int .u8 (IntKind.u8.wrap (((x : Nat) : Int).fdiv (2 ^ k))) = .int .u8 (((UInt8.ofNat (x / 2 ^ k)).toNat : Nat) : Int) := by
 have e : (((x : Nat) : Int).fdiv (2 ^ k)) = (((x / 2 ^ k : Nat)) : Int) := by
  rw [Int.fdiv_eq_ediv_of_nonneg _ (Int.le_of_lt (Int.pow_pos (by decide)))]
  simp
 rw [e]
 congr 1
theorem by_low (x : Nat) : Value.int .u8 (IntKind.u8.wrap ((x : Nat) : Int)) = .int .u8 (((UInt8.ofNat x).toNat : Nat) : Int) := by
 have := by_cell x 0
 simpa using this
def u64s (l : List Nat) : List Value := l.map fun x => .int .u64 ((x : Nat) : Int)
theorem u64s_length (l : List Nat) : (u64s l).length = l.length := by simp [u64s]
theorem u64s_app (a b : List Nat) : u64s (a ++ b) = u64s a ++ u64s b := by simp [u64s]
theorem u64s_at {l : List Nat} {j : Nat} (h : j < l.length) : (u64s l)[j]? = some (.int .u64 ((l.getD j 0 : Nat) : Int)) := by
 simp [u64s, List.getElem?_eq_getElem h, List.getD_eq_getElem?_getD]
/-! ### A test, with the places of its rows -/
structure T6 where
 iA : Option Addr
 iC : Nat
 inp : Tx
 pt : Int
 ms : Int
 gA : Option Addr
 gC : Nat
 img : List Nat
 kd : Int
 cd : Int
def t60 : T6 := ⟨none, 0, [], 0, 0, none, 0, [], 0, 0⟩
abbrev Co := Tx × Int × Int × List Nat × Int × Int
def core (t : T6) : Co := (t.inp, t.pt, t.ms, t.img, t.kd, t.cd)
def cores (l : List T6) : List Co := l.map core
def tc (t : T6) : List Value := [.slice t.iA t.inp.length t.iC, .int .i64 t.pt, .int .i64 t.ms, .slice t.gA t.img.length t.gC, .int .i64 t.kd, .int .i64 t.cd]
def tcs (l : List T6) : List Value := l.flatMap tc
def tq (l : List T6) (j : Nat) : T6 := l.getD j t60
theorem tcs_length (l : List T6) : (tcs l).length = l.length * 6 := by
 induction l with
 | nil => rfl
 | cons x l ih => unfold tcs at *; simp only [List.flatMap_cons, List.length_append, ih, List.length_cons]; simp [tc]; omega
theorem tcs_app (l m : List T6) : tcs (l ++ m) = tcs l ++ tcs m := by simp [tcs]
theorem tcs_part (l : List T6) {i : Nat} (hi : i < l.length) : ∀ k u, (tc (tq l i))[k]? = some u → (tcs l)[i * 6 + k]? = some u := by
 induction l generalizing i with
 | nil => simp at hi
 | cons x l ih =>
  intro k u hk
  have hc : tcs (x :: l) = tc x ++ tcs l := by simp [tcs]
  cases i with
  | zero =>
   have hk6 : k < 6 := by
    rcases Nat.lt_or_ge k 6 with q | q
    ·
     exact q
    ·
     rw [List.getElem?_eq_none (by simpa [tc] using q)] at hk; cases hk
   rw [hc, List.getElem?_append_left (by simp [tc]; omega)]
   simpa [tq] using hk
  | succ j =>
   have e : (j + 1) * 6 + k = (tc x).length + (j * 6 + k) := by simp [tc]; omega
   rw [hc, e, List.getElem?_append_right (by omega)]
   rw [Nat.add_sub_cancel_left]
   exact ih (i := j) (by simpa using hi) k u (by simpa [tq] using hk)
theorem tq_mem {l : List T6} {i : Nat} (h : i < l.length) : tq l i ∈ l := by
 unfold tq; rw [List.getD_eq_getElem?_getD, List.getElem?_eq_getElem h]; exact List.getElem_mem h
def b64 (x : Int) : Prop := -9223372036854775808 ≤ x ∧ x ≤ 9223372036854775807
def wfT (t : T6) : Prop := b64 t.pt ∧ b64 t.ms ∧ b64 t.kd ∧ b64 t.cd ∧ ∀ x, x ∈ t.img → x < 18446744073709551616
/-- Its rows read as they should. -/
structure TmW (w : World) (t : T6) : Prop where
 ri : RdW w 1 t.inp.length t.iA (u8s t.inp)
 rg : RdW w 1 t.img.length t.gA (u64s t.img)
 wf : wfT t
/-- A block in which one of its rows lies. -/
def T6.has (t : T6) (b : Nat) : Prop := (0 < t.inp.length ∧ ∃ o s, t.iA = some ⟨b, o, s⟩) ∨ (0 < t.img.length ∧ ∃ o s, t.gA = some ⟨b, o, s⟩)
theorem RdW.tchB {S : Nat → Prop} {w w' : World} {sz n : Nat} {A : Option Addr} {cells : List Value} (h : RdW w sz n A cells) (k : Tch S w w') (hs : 0 < n → ∀ b o s, A = some ⟨b, o, s⟩ → ¬ S b) : RdW w' sz n A cells :=
 ⟨h.1, h.2.1, fun hn => by
  obtain ⟨b, off, e, hb, hc⟩ := h.2.2 hn
  exact ⟨b, off, e, Nat.lt_of_lt_of_le hb k.size, fun j u hu => (cell_tch k hb (hs hn b off none e)).trans (hc j u hu)⟩⟩
theorem TmW.tch0 {w w' : World} {t : T6} (h : TmW w t) (k : Tch N0 w w') : TmW w' t := ⟨h.ri.tch0 k, h.rg.tch0 k, h.wf⟩
theorem TmW.tch {S : Nat → Prop} {w w' : World} {t : T6} (h : TmW w t) (k : Tch S w w') (hs : ∀ b, t.has b → ¬ S b) : TmW w' t :=
 ⟨h.ri.tchB k (fun hn b o s e => hs b (.inl ⟨hn, o, s, e⟩)), h.rg.tchB k (fun hn b o s e => hs b (.inr ⟨hn, o, s, e⟩)), h.wf⟩
theorem TmW.lt {w : World} {t : T6} (h : TmW w t) : ∀ b, t.has b → b < w.heap.size := by
 rintro b (⟨hn, o, s, e⟩ | ⟨hn, o, s, e⟩)
 ·
  obtain ⟨b', o', e', hb, _⟩ := h.ri.2.2 hn
  rw [e] at e'; injection e' with e'; injection e' with e'; omega
 ·
  obtain ⟨b', o', e', hb, _⟩ := h.rg.2.2 hn
  rw [e] at e'; injection e' with e'; injection e' with e'; omega
/-- A row of tests reads as these. -/
structure TsW (w : World) (A : Option Addr) (l : List T6) : Prop where
 rd : RdW w 6 l.length A (tcs l)
 el : ∀ t, t ∈ l → TmW w t
theorem TsW.tch0 {w w' : World} {A : Option Addr} {l : List T6} (h : TsW w A l) (k : Tch N0 w w') : TsW w' A l := ⟨h.rd.tch0 k, fun t ht => (h.el t ht).tch0 k⟩
theorem TsW.ri {w : World} {A : Option Addr} {l : List T6} (h : TsW w A l) {j : Nat} (hj : j < l.length) : RdW w 1 (tq l j).inp.length (tq l j).iA (u8s (tq l j).inp) := (h.el _ (tq_mem hj)).ri
theorem TsW.rg {w : World} {A : Option Addr} {l : List T6} (h : TsW w A l) {j : Nat} (hj : j < l.length) : RdW w 1 (tq l j).img.length (tq l j).gA (u64s (tq l j).img) := (h.el _ (tq_mem hj)).rg
theorem TsW.wf {w : World} {A : Option Addr} {l : List T6} (h : TsW w A l) {j : Nat} (hj : j < l.length) : wfT (tq l j) := (h.el _ (tq_mem hj)).wf
theorem TsW.nil_ (w : World) (A : Option Addr) : TsW w A [] := ⟨RdW.nil_ _ _ _, fun t h => by simp at h⟩
theorem core_tq {l : List T6} {j : Nat} (h : j < l.length) : (cores l)[j]? = some (core (tq l j)) := by
 unfold cores tq; simp [List.getElem?_eq_getElem h, List.getD_eq_getElem?_getD]
theorem cores_length (l : List T6) : (cores l).length = l.length := by simp [cores]
theorem take_snoc {α : Type} (f : T6 → α) (l : List T6) {j : Nat} (h : j < l.length) : (l.take (j + 1)).map f = (l.take j).map f ++ [f (tq l j)] := by
 rw [List.take_succ_eq_append_getElem h, List.map_append]
 unfold tq; simp [List.getD_eq_getElem?_getD, List.getElem?_eq_getElem h]
/-! ### What may be put, and its bytes -/
def inR (m x : Int) : Bool := decide (0 ≤ x ∧ x ≤ m)
def mayC (t : Co) : Bool := decide (t.1.length ≤ 255 ∧ t.2.2.2.1.length ≤ 255 ∧ (0 ≤ t.2.1 ∧ t.2.1 ≤ 65535) ∧ (0 ≤ t.2.2.1 ∧ t.2.2.1 ≤ 65535) ∧ (0 ≤ t.2.2.2.2.2 ∧ t.2.2.2.2.2 ≤ 65535) ∧ (0 ≤ t.2.2.2.2.1 ∧ t.2.2.2.2.1 ≤ 255))
def mayH (V E S U : Int) (n : Nat) : Bool := decide ((0 ≤ V ∧ V ≤ 3) ∧ (0 ≤ E ∧ E ≤ 255) ∧ (0 ≤ S ∧ S ≤ 1073741824) ∧ (0 ≤ U ∧ U ≤ 1073741824) ∧ n ≤ 65535)
def mayR (V E S U : Int) (l : List Co) : Bool := mayH V E S U l.length && l.all mayC
def encC (t : Co) : Tx := be 1 t.1.length ++ t.1 ++ be 2 t.2.1.toNat ++ be 2 t.2.2.1.toNat ++ be 2 t.2.2.2.2.2.toNat ++ be 1 t.2.2.2.2.1.toNat ++ be 1 t.2.2.2.1.length ++ t.2.2.2.1.flatMap (be 8)
def encR (V E S U : Int) (l : List Co) : Tx := be 1 V.toNat ++ be 1 E.toNat ++ be 4 S.toNat ++ be 4 U.toNat ++ be 2 l.length ++ l.flatMap encC
def putT (V E S U : Int) (l : List Co) : Tx := if mayR V E S U l = true then encR V E S U l else []
def putE (V E S U : Int) (l : List Co) : Int := if mayR V E S U l = true then 0 else 4
theorem put_t {V E S U : Int} {l : List Co} (h : mayR V E S U l = true) : putT V E S U l = encR V E S U l ∧ putE V E S U l = 0 := by unfold putT putE; rw [if_pos h, if_pos h]; exact ⟨rfl, rfl⟩
theorem put_f {V E S U : Int} {l : List Co} (h : mayR V E S U l = false) : putT V E S U l = [] ∧ putE V E S U l = 4 := by unfold putT putE; rw [h]; exact ⟨rfl, rfl⟩
theorem flat8_length (l : List Nat) : (l.flatMap (be 8)).length = 8 * l.length := by
 induction l with
 | nil => rfl
 | cons x l ih => rw [List.flatMap_cons, List.length_append, ih, be_length, List.length_cons]; omega
theorem encC_length (t : Co) : (encC t).length = 9 + t.1.length + 8 * t.2.2.2.1.length := by
 unfold encC
 simp only [List.length_append, be_length, flat8_length]; omega
theorem mayC_le {t : Co} (h : mayC t = true) : (encC t).length ≤ 2400 := by
 have := of_decide_eq_true h
 rw [encC_length]; omega
theorem encs_length {l : List Co} (h : ∀ t, t ∈ l → mayC t = true) : (l.flatMap encC).length ≤ 2400 * l.length := by
 induction l with
 | nil => simp
 | cons x l ih =>
  have := mayC_le (h x (by simp))
  have := ih (fun t ht => h t (by simp [ht]))
  simp only [List.flatMap_cons, List.length_append, List.length_cons]; omega
end Go.Proofs.YtlkjhkennbdbnaaV
