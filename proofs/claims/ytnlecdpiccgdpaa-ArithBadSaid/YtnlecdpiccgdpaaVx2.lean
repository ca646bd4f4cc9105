/- The calculus' steps: runs of plain operations, operations that draw their order, memory. -/
import Derived.Test.YtnlecdpiccgdpaaVx
import Derived.StillTail
set_option linter.unusedVariables false
set_option linter.unusedSimpArgs false
namespace Go.Proofs.YtnlecdpiccgdpaaV
open Go Go.RowKit

/-! ### Runs of plain operations -/
def pureR (P : Program) {α : Type} : Sem α → Option α
  | .pure a => some a
  | .program k => pureR P (k P)
  | .mark _ k => pureR P k
  | _ => none
theorem pureR_run {P : Program} {α : Type} {a : α} {w : World} : ∀ {s : Sem α}, pureR P s = some a → s.run P w = .ok a w
  | .pure _, h => by simp only [pureR, Option.some.injEq] at h; subst h; rfl
  | .program k, h => by simp only [pureR] at h; simp only [Sem.run]; exact pureR_run h
  | .mark _ k, h => by simp only [pureR] at h; simp only [Sem.run]; exact pureR_run h
def plainV (P : Program) (ρ : Env) (o : Oper) : Option Value :=
  match pureR P (execOp (evR ρ) o) with
  | some (.value v) => some v
  | _ => none
theorem plainV_run {P : Program} {ρ : Env} {o : Oper} {v : Value} (h : plainV P ρ o = some v) (w : World) : (execOp (evR ρ) o).run P w = .ok (.value v) w := by
  unfold plainV at h
  split at h
  · rename_i u hu
    simp only [Option.some.injEq] at h
    subst h
    exact pureR_run hu
  · cases h
def segR (P : Program) (ops : Array Oper) : List Oper → Env → Option Env
  | [], ρ => some ρ
  | o :: l, ρ => cond (wantedR ops ρ o) (match plainV P ρ o with | some v => segR P ops l (updO ρ o.dst v) | none => none) (segR P ops l (updO ρ o.dst undef))
section
variable {P : Program} {ops : Array Oper} {K : Env → World → Prop}
theorem st {o : Oper} {l : List Oper} {ρ : Env} {w : World} (hw : wantedR ops ρ o = true) (h : Step P o ρ w (rOps P ops K l)) : rOps P ops K (o :: l) ρ w := by
  simp only [rOps]; rw [if_pos hw]; exact h
theorem st_off {o : Oper} {l : List Oper} {ρ : Env} {w : World} (hw : wantedR ops ρ o = false) (h : rOps P ops K l (updO ρ o.dst undef) w) : rOps P ops K (o :: l) ρ w := by
  simp only [rOps]; rw [if_neg (by rw [hw]; simp)]; exact h
theorem S_val {o : Oper} {ρ : Env} {w w' : World} {v : Value} {J : Env → World → Prop} (hr : (execOp (evR ρ) o).run P w = .ok (.value v) w') (h : J (updO ρ o.dst v) w') : Step P o ρ w J := by
  unfold Step; rw [hr]; exact h
theorem S_skip {o : Oper} {ρ : Env} {w w' : World} {J : Env → World → Prop} (hr : (execOp (evR ρ) o).run P w = .ok .skip w') (h : J (updO ρ o.dst undef) w') : Step P o ρ w J := by
  unfold Step; rw [hr]; exact h
theorem stv {o : Oper} {l : List Oper} {ρ : Env} {w w' : World} {v : Value} (hw : wantedR ops ρ o = true) (hr : (execOp (evR ρ) o).run P w = .ok (.value v) w') (h : rOps P ops K l (updO ρ o.dst v) w') : rOps P ops K (o :: l) ρ w := st hw (S_val hr h)
theorem S_call {o : Oper} {ρ : Env} {w : World} {f : FuncId} {args : List Value} {R : Value → World → Prop} {J : Env → World → Prop} (hr : pureR P (execOp (evR ρ) o) = some (.enter f args.toArray)) (hc : Ret P f args w R)
    (h : ∀ v w', R v w' → J (updO ρ o.dst v) w') : Step P o ρ w J := by
  unfold Step; rw [pureR_run hr]
  exact Calls.mono hc fun e w' ⟨v, he, hv⟩ => ⟨v, he, h v w' hv⟩
theorem seg_app (l1 : List Oper) {l : List Oper} {ρ' : Env} {w : World} : ∀ {ρ : Env}, segR P ops l1 ρ = some ρ' → rOps P ops K l ρ' w → rOps P ops K (l1 ++ l) ρ w := by
  induction l1 with
  | nil => intro ρ h k; simp only [segR, Option.some.injEq] at h; subst h; exact k
  | cons o l1 ih =>
    intro ρ h k
    simp only [segR] at h
    cases hw : wantedR ops ρ o with
    | true =>
      rw [hw] at h
      simp only [cond_true] at h
      cases hv : plainV P ρ o with
      | none => rw [hv] at h; cases h
      | some v =>
        rw [hv] at h
        exact st hw (S_val (plainV_run hv w) (ih h k))
    | false =>
      rw [hw] at h
      exact st_off hw (ih h k)
theorem op_nil {ρ : Env} {w : World} (h : K ρ w) : rOps P ops K [] ρ w := h
theorem seg1 {o0 : Oper} {l : List Oper} {ρ ρ' : Env} {w : World} (h : segR P ops [o0] ρ = some ρ') (k : rOps P ops K l ρ' w) : rOps P ops K (o0 :: l) ρ w := seg_app [o0] h k
theorem seg2 {o0 o1 : Oper} {l : List Oper} {ρ ρ' : Env} {w : World} (h : segR P ops [o0, o1] ρ = some ρ') (k : rOps P ops K l ρ' w) : rOps P ops K (o0 :: o1 :: l) ρ w := seg_app [o0, o1] h k
theorem seg3 {o0 o1 o2 : Oper} {l : List Oper} {ρ ρ' : Env} {w : World} (h : segR P ops [o0, o1, o2] ρ = some ρ') (k : rOps P ops K l ρ' w) : rOps P ops K (o0 :: o1 :: o2 :: l) ρ w := seg_app [o0, o1, o2] h k
theorem seg4 {o0 o1 o2 o3 : Oper} {l : List Oper} {ρ ρ' : Env} {w : World} (h : segR P ops [o0, o1, o2, o3] ρ = some ρ') (k : rOps P ops K l ρ' w) : rOps P ops K (o0 :: o1 :: o2 :: o3 :: l) ρ w := seg_app [o0, o1, o2, o3] h k
theorem seg5 {o0 o1 o2 o3 o4 : Oper} {l : List Oper} {ρ ρ' : Env} {w : World} (h : segR P ops [o0, o1, o2, o3, o4] ρ = some ρ') (k : rOps P ops K l ρ' w) : rOps P ops K (o0 :: o1 :: o2 :: o3 :: o4 :: l) ρ w := seg_app [o0, o1, o2, o3, o4] h k
theorem seg6 {o0 o1 o2 o3 o4 o5 : Oper} {l : List Oper} {ρ ρ' : Env} {w : World} (h : segR P ops [o0, o1, o2, o3, o4, o5] ρ = some ρ') (k : rOps P ops K l ρ' w) : rOps P ops K (o0 :: o1 :: o2 :: o3 :: o4 :: o5 :: l) ρ w := seg_app [o0, o1, o2, o3, o4, o5] h k
theorem seg7 {o0 o1 o2 o3 o4 o5 o6 : Oper} {l : List Oper} {ρ ρ' : Env} {w : World} (h : segR P ops [o0, o1, o2, o3, o4, o5, o6] ρ = some ρ') (k : rOps P ops K l ρ' w) : rOps P ops K (o0 :: o1 :: o2 :: o3 :: o4 :: o5 :: o6 :: l) ρ w := seg_app [o0, o1, o2, o3, o4, o5, o6] h k
theorem seg8 {o0 o1 o2 o3 o4 o5 o6 o7 : Oper} {l : List Oper} {ρ ρ' : Env} {w : World} (h : segR P ops [o0, o1, o2, o3, o4, o5, o6, o7] ρ = some ρ') (k : rOps P ops K l ρ' w) : rOps P ops K (o0 :: o1 :: o2 :: o3 :: o4 :: o5 :: o6 :: o7 :: l) ρ w := seg_app [o0, o1, o2, o3, o4, o5, o6, o7] h k
theorem seg9 {o0 o1 o2 o3 o4 o5 o6 o7 o8 : Oper} {l : List Oper} {ρ ρ' : Env} {w : World} (h : segR P ops [o0, o1, o2, o3, o4, o5, o6, o7, o8] ρ = some ρ') (k : rOps P ops K l ρ' w) : rOps P ops K (o0 :: o1 :: o2 :: o3 :: o4 :: o5 :: o6 :: o7 :: o8 :: l) ρ w := seg_app [o0, o1, o2, o3, o4, o5, o6, o7, o8] h k
theorem seg10 {o0 o1 o2 o3 o4 o5 o6 o7 o8 o9 : Oper} {l : List Oper} {ρ ρ' : Env} {w : World} (h : segR P ops [o0, o1, o2, o3, o4, o5, o6, o7, o8, o9] ρ = some ρ') (k : rOps P ops K l ρ' w) : rOps P ops K (o0 :: o1 :: o2 :: o3 :: o4 :: o5 :: o6 :: o7 :: o8 :: o9 :: l) ρ w := seg_app [o0, o1, o2, o3, o4, o5, o6, o7, o8, o9] h k
theorem seg11 {o0 o1 o2 o3 o4 o5 o6 o7 o8 o9 o10 : Oper} {l : List Oper} {ρ ρ' : Env} {w : World} (h : segR P ops [o0, o1, o2, o3, o4, o5, o6, o7, o8, o9, o10] ρ = some ρ') (k : rOps P ops K l ρ' w) : rOps P ops K (o0 :: o1 :: o2 :: o3 :: o4 :: o5 :: o6 :: o7 :: o8 :: o9 :: o10 :: l) ρ w := seg_app [o0, o1, o2, o3, o4, o5, o6, o7, o8, o9, o10] h k
theorem seg12 {o0 o1 o2 o3 o4 o5 o6 o7 o8 o9 o10 o11 : Oper} {l : List Oper} {ρ ρ' : Env} {w : World} (h : segR P ops [o0, o1, o2, o3, o4, o5, o6, o7, o8, o9, o10, o11] ρ = some ρ') (k : rOps P ops K l ρ' w) : rOps P ops K (o0 :: o1 :: o2 :: o3 :: o4 :: o5 :: o6 :: o7 :: o8 :: o9 :: o10 :: o11 :: l) ρ w := seg_app [o0, o1, o2, o3, o4, o5, o6, o7, o8, o9, o10, o11] h k
theorem seg13 {o0 o1 o2 o3 o4 o5 o6 o7 o8 o9 o10 o11 o12 : Oper} {l : List Oper} {ρ ρ' : Env} {w : World} (h : segR P ops [o0, o1, o2, o3, o4, o5, o6, o7, o8, o9, o10, o11, o12] ρ = some ρ') (k : rOps P ops K l ρ' w) : rOps P ops K (o0 :: o1 :: o2 :: o3 :: o4 :: o5 :: o6 :: o7 :: o8 :: o9 :: o10 :: o11 :: o12 :: l) ρ w := seg_app [o0, o1, o2, o3, o4, o5, o6, o7, o8, o9, o10, o11, o12] h k
theorem seg14 {o0 o1 o2 o3 o4 o5 o6 o7 o8 o9 o10 o11 o12 o13 : Oper} {l : List Oper} {ρ ρ' : Env} {w : World} (h : segR P ops [o0, o1, o2, o3, o4, o5, o6, o7, o8, o9, o10, o11, o12, o13] ρ = some ρ') (k : rOps P ops K l ρ' w) : rOps P ops K (o0 :: o1 :: o2 :: o3 :: o4 :: o5 :: o6 :: o7 :: o8 :: o9 :: o10 :: o11 :: o12 :: o13 :: l) ρ w := seg_app [o0, o1, o2, o3, o4, o5, o6, o7, o8, o9, o10, o11, o12, o13] h k
theorem seg15 {o0 o1 o2 o3 o4 o5 o6 o7 o8 o9 o10 o11 o12 o13 o14 : Oper} {l : List Oper} {ρ ρ' : Env} {w : World} (h : segR P ops [o0, o1, o2, o3, o4, o5, o6, o7, o8, o9, o10, o11, o12, o13, o14] ρ = some ρ') (k : rOps P ops K l ρ' w) : rOps P ops K (o0 :: o1 :: o2 :: o3 :: o4 :: o5 :: o6 :: o7 :: o8 :: o9 :: o10 :: o11 :: o12 :: o13 :: o14 :: l) ρ w := seg_app [o0, o1, o2, o3, o4, o5, o6, o7, o8, o9, o10, o11, o12, o13, o14] h k
theorem seg16 {o0 o1 o2 o3 o4 o5 o6 o7 o8 o9 o10 o11 o12 o13 o14 o15 : Oper} {l : List Oper} {ρ ρ' : Env} {w : World} (h : segR P ops [o0, o1, o2, o3, o4, o5, o6, o7, o8, o9, o10, o11, o12, o13, o14, o15] ρ = some ρ') (k : rOps P ops K l ρ' w) : rOps P ops K (o0 :: o1 :: o2 :: o3 :: o4 :: o5 :: o6 :: o7 :: o8 :: o9 :: o10 :: o11 :: o12 :: o13 :: o14 :: o15 :: l) ρ w := seg_app [o0, o1, o2, o3, o4, o5, o6, o7, o8, o9, o10, o11, o12, o13, o14, o15] h k
theorem seg17 {o0 o1 o2 o3 o4 o5 o6 o7 o8 o9 o10 o11 o12 o13 o14 o15 o16 : Oper} {l : List Oper} {ρ ρ' : Env} {w : World} (h : segR P ops [o0, o1, o2, o3, o4, o5, o6, o7, o8, o9, o10, o11, o12, o13, o14, o15, o16] ρ = some ρ') (k : rOps P ops K l ρ' w) : rOps P ops K (o0 :: o1 :: o2 :: o3 :: o4 :: o5 :: o6 :: o7 :: o8 :: o9 :: o10 :: o11 :: o12 :: o13 :: o14 :: o15 :: o16 :: l) ρ w := seg_app [o0, o1, o2, o3, o4, o5, o6, o7, o8, o9, o10, o11, o12, o13, o14, o15, o16] h k
theorem seg18 {o0 o1 o2 o3 o4 o5 o6 o7 o8 o9 o10 o11 o12 o13 o14 o15 o16 o17 : Oper} {l : List Oper} {ρ ρ' : Env} {w : World} (h : segR P ops [o0, o1, o2, o3, o4, o5, o6, o7, o8, o9, o10, o11, o12, o13, o14, o15, o16, o17] ρ = some ρ') (k : rOps P ops K l ρ' w) : rOps P ops K (o0 :: o1 :: o2 :: o3 :: o4 :: o5 :: o6 :: o7 :: o8 :: o9 :: o10 :: o11 :: o12 :: o13 :: o14 :: o15 :: o16 :: o17 :: l) ρ w := seg_app [o0, o1, o2, o3, o4, o5, o6, o7, o8, o9, o10, o11, o12, o13, o14, o15, o16, o17] h k
theorem seg19 {o0 o1 o2 o3 o4 o5 o6 o7 o8 o9 o10 o11 o12 o13 o14 o15 o16 o17 o18 : Oper} {l : List Oper} {ρ ρ' : Env} {w : World} (h : segR P ops [o0, o1, o2, o3, o4, o5, o6, o7, o8, o9, o10, o11, o12, o13, o14, o15, o16, o17, o18] ρ = some ρ') (k : rOps P ops K l ρ' w) : rOps P ops K (o0 :: o1 :: o2 :: o3 :: o4 :: o5 :: o6 :: o7 :: o8 :: o9 :: o10 :: o11 :: o12 :: o13 :: o14 :: o15 :: o16 :: o17 :: o18 :: l) ρ w := seg_app [o0, o1, o2, o3, o4, o5, o6, o7, o8, o9, o10, o11, o12, o13, o14, o15, o16, o17, o18] h k
theorem seg20 {o0 o1 o2 o3 o4 o5 o6 o7 o8 o9 o10 o11 o12 o13 o14 o15 o16 o17 o18 o19 : Oper} {l : List Oper} {ρ ρ' : Env} {w : World} (h : segR P ops [o0, o1, o2, o3, o4, o5, o6, o7, o8, o9, o10, o11, o12, o13, o14, o15, o16, o17, o18, o19] ρ = some ρ') (k : rOps P ops K l ρ' w) : rOps P ops K (o0 :: o1 :: o2 :: o3 :: o4 :: o5 :: o6 :: o7 :: o8 :: o9 :: o10 :: o11 :: o12 :: o13 :: o14 :: o15 :: o16 :: o17 :: o18 :: o19 :: l) ρ w := seg_app [o0, o1, o2, o3, o4, o5, o6, o7, o8, o9, o10, o11, o12, o13, o14, o15, o16, o17, o18, o19] h k
theorem seg21 {o0 o1 o2 o3 o4 o5 o6 o7 o8 o9 o10 o11 o12 o13 o14 o15 o16 o17 o18 o19 o20 : Oper} {l : List Oper} {ρ ρ' : Env} {w : World} (h : segR P ops [o0, o1, o2, o3, o4, o5, o6, o7, o8, o9, o10, o11, o12, o13, o14, o15, o16, o17, o18, o19, o20] ρ = some ρ') (k : rOps P ops K l ρ' w) : rOps P ops K (o0 :: o1 :: o2 :: o3 :: o4 :: o5 :: o6 :: o7 :: o8 :: o9 :: o10 :: o11 :: o12 :: o13 :: o14 :: o15 :: o16 :: o17 :: o18 :: o19 :: o20 :: l) ρ w := seg_app [o0, o1, o2, o3, o4, o5, o6, o7, o8, o9, o10, o11, o12, o13, o14, o15, o16, o17, o18, o19, o20] h k
theorem seg22 {o0 o1 o2 o3 o4 o5 o6 o7 o8 o9 o10 o11 o12 o13 o14 o15 o16 o17 o18 o19 o20 o21 : Oper} {l : List Oper} {ρ ρ' : Env} {w : World} (h : segR P ops [o0, o1, o2, o3, o4, o5, o6, o7, o8, o9, o10, o11, o12, o13, o14, o15, o16, o17, o18, o19, o20, o21] ρ = some ρ') (k : rOps P ops K l ρ' w) : rOps P ops K (o0 :: o1 :: o2 :: o3 :: o4 :: o5 :: o6 :: o7 :: o8 :: o9 :: o10 :: o11 :: o12 :: o13 :: o14 :: o15 :: o16 :: o17 :: o18 :: o19 :: o20 :: o21 :: l) ρ w := seg_app [o0, o1, o2, o3, o4, o5, o6, o7, o8, o9, o10, o11, o12, o13, o14, o15, o16, o17, o18, o19, o20, o21] h k
theorem seg23 {o0 o1 o2 o3 o4 o5 o6 o7 o8 o9 o10 o11 o12 o13 o14 o15 o16 o17 o18 o19 o20 o21 o22 : Oper} {l : List Oper} {ρ ρ' : Env} {w : World} (h : segR P ops [o0, o1, o2, o3, o4, o5, o6, o7, o8, o9, o10, o11, o12, o13, o14, o15, o16, o17, o18, o19, o20, o21, o22] ρ = some ρ') (k : rOps P ops K l ρ' w) : rOps P ops K (o0 :: o1 :: o2 :: o3 :: o4 :: o5 :: o6 :: o7 :: o8 :: o9 :: o10 :: o11 :: o12 :: o13 :: o14 :: o15 :: o16 :: o17 :: o18 :: o19 :: o20 :: o21 :: o22 :: l) ρ w := seg_app [o0, o1, o2, o3, o4, o5, o6, o7, o8, o9, o10, o11, o12, o13, o14, o15, o16, o17, o18, o19, o20, o21, o22] h k
theorem seg24 {o0 o1 o2 o3 o4 o5 o6 o7 o8 o9 o10 o11 o12 o13 o14 o15 o16 o17 o18 o19 o20 o21 o22 o23 : Oper} {l : List Oper} {ρ ρ' : Env} {w : World} (h : segR P ops [o0, o1, o2, o3, o4, o5, o6, o7, o8, o9, o10, o11, o12, o13, o14, o15, o16, o17, o18, o19, o20, o21, o22, o23] ρ = some ρ') (k : rOps P ops K l ρ' w) : rOps P ops K (o0 :: o1 :: o2 :: o3 :: o4 :: o5 :: o6 :: o7 :: o8 :: o9 :: o10 :: o11 :: o12 :: o13 :: o14 :: o15 :: o16 :: o17 :: o18 :: o19 :: o20 :: o21 :: o22 :: o23 :: l) ρ w := seg_app [o0, o1, o2, o3, o4, o5, o6, o7, o8, o9, o10, o11, o12, o13, o14, o15, o16, o17, o18, o19, o20, o21, o22, o23] h k
theorem seg25 {o0 o1 o2 o3 o4 o5 o6 o7 o8 o9 o10 o11 o12 o13 o14 o15 o16 o17 o18 o19 o20 o21 o22 o23 o24 : Oper} {l : List Oper} {ρ ρ' : Env} {w : World} (h : segR P ops [o0, o1, o2, o3, o4, o5, o6, o7, o8, o9, o10, o11, o12, o13, o14, o15, o16, o17, o18, o19, o20, o21, o22, o23, o24] ρ = some ρ') (k : rOps P ops K l ρ' w) : rOps P ops K (o0 :: o1 :: o2 :: o3 :: o4 :: o5 :: o6 :: o7 :: o8 :: o9 :: o10 :: o11 :: o12 :: o13 :: o14 :: o15 :: o16 :: o17 :: o18 :: o19 :: o20 :: o21 :: o22 :: o23 :: o24 :: l) ρ w := seg_app [o0, o1, o2, o3, o4, o5, o6, o7, o8, o9, o10, o11, o12, o13, o14, o15, o16, o17, o18, o19, o20, o21, o22, o23, o24] h k
theorem seg26 {o0 o1 o2 o3 o4 o5 o6 o7 o8 o9 o10 o11 o12 o13 o14 o15 o16 o17 o18 o19 o20 o21 o22 o23 o24 o25 : Oper} {l : List Oper} {ρ ρ' : Env} {w : World} (h : segR P ops [o0, o1, o2, o3, o4, o5, o6, o7, o8, o9, o10, o11, o12, o13, o14, o15, o16, o17, o18, o19, o20, o21, o22, o23, o24, o25] ρ = some ρ') (k : rOps P ops K l ρ' w) : rOps P ops K (o0 :: o1 :: o2 :: o3 :: o4 :: o5 :: o6 :: o7 :: o8 :: o9 :: o10 :: o11 :: o12 :: o13 :: o14 :: o15 :: o16 :: o17 :: o18 :: o19 :: o20 :: o21 :: o22 :: o23 :: o24 :: o25 :: l) ρ w := seg_app [o0, o1, o2, o3, o4, o5, o6, o7, o8, o9, o10, o11, o12, o13, o14, o15, o16, o17, o18, o19, o20, o21, o22, o23, o24, o25] h k
theorem seg27 {o0 o1 o2 o3 o4 o5 o6 o7 o8 o9 o10 o11 o12 o13 o14 o15 o16 o17 o18 o19 o20 o21 o22 o23 o24 o25 o26 : Oper} {l : List Oper} {ρ ρ' : Env} {w : World} (h : segR P ops [o0, o1, o2, o3, o4, o5, o6, o7, o8, o9, o10, o11, o12, o13, o14, o15, o16, o17, o18, o19, o20, o21, o22, o23, o24, o25, o26] ρ = some ρ') (k : rOps P ops K l ρ' w) : rOps P ops K (o0 :: o1 :: o2 :: o3 :: o4 :: o5 :: o6 :: o7 :: o8 :: o9 :: o10 :: o11 :: o12 :: o13 :: o14 :: o15 :: o16 :: o17 :: o18 :: o19 :: o20 :: o21 :: o22 :: o23 :: o24 :: o25 :: o26 :: l) ρ w := seg_app [o0, o1, o2, o3, o4, o5, o6, o7, o8, o9, o10, o11, o12, o13, o14, o15, o16, o17, o18, o19, o20, o21, o22, o23, o24, o25, o26] h k
theorem seg28 {o0 o1 o2 o3 o4 o5 o6 o7 o8 o9 o10 o11 o12 o13 o14 o15 o16 o17 o18 o19 o20 o21 o22 o23 o24 o25 o26 o27 : Oper} {l : List Oper} {ρ ρ' : Env} {w : World} (h : segR P ops [o0, o1, o2, o3, o4, o5, o6, o7, o8, o9, o10, o11, o12, o13, o14, o15, o16, o17, o18, o19, o20, o21, o22, o23, o24, o25, o26, o27] ρ = some ρ') (k : rOps P ops K l ρ' w) : rOps P ops K (o0 :: o1 :: o2 :: o3 :: o4 :: o5 :: o6 :: o7 :: o8 :: o9 :: o10 :: o11 :: o12 :: o13 :: o14 :: o15 :: o16 :: o17 :: o18 :: o19 :: o20 :: o21 :: o22 :: o23 :: o24 :: o25 :: o26 :: o27 :: l) ρ w := seg_app [o0, o1, o2, o3, o4, o5, o6, o7, o8, o9, o10, o11, o12, o13, o14, o15, o16, o17, o18, o19, o20, o21, o22, o23, o24, o25, o26, o27] h k
theorem seg29 {o0 o1 o2 o3 o4 o5 o6 o7 o8 o9 o10 o11 o12 o13 o14 o15 o16 o17 o18 o19 o20 o21 o22 o23 o24 o25 o26 o27 o28 : Oper} {l : List Oper} {ρ ρ' : Env} {w : World} (h : segR P ops [o0, o1, o2, o3, o4, o5, o6, o7, o8, o9, o10, o11, o12, o13, o14, o15, o16, o17, o18, o19, o20, o21, o22, o23, o24, o25, o26, o27, o28] ρ = some ρ') (k : rOps P ops K l ρ' w) : rOps P ops K (o0 :: o1 :: o2 :: o3 :: o4 :: o5 :: o6 :: o7 :: o8 :: o9 :: o10 :: o11 :: o12 :: o13 :: o14 :: o15 :: o16 :: o17 :: o18 :: o19 :: o20 :: o21 :: o22 :: o23 :: o24 :: o25 :: o26 :: o27 :: o28 :: l) ρ w := seg_app [o0, o1, o2, o3, o4, o5, o6, o7, o8, o9, o10, o11, o12, o13, o14, o15, o16, o17, o18, o19, o20, o21, o22, o23, o24, o25, o26, o27, o28] h k
theorem seg30 {o0 o1 o2 o3 o4 o5 o6 o7 o8 o9 o10 o11 o12 o13 o14 o15 o16 o17 o18 o19 o20 o21 o22 o23 o24 o25 o26 o27 o28 o29 : Oper} {l : List Oper} {ρ ρ' : Env} {w : World} (h : segR P ops [o0, o1, o2, o3, o4, o5, o6, o7, o8, o9, o10, o11, o12, o13, o14, o15, o16, o17, o18, o19, o20, o21, o22, o23, o24, o25, o26, o27, o28, o29] ρ = some ρ') (k : rOps P ops K l ρ' w) : rOps P ops K (o0 :: o1 :: o2 :: o3 :: o4 :: o5 :: o6 :: o7 :: o8 :: o9 :: o10 :: o11 :: o12 :: o13 :: o14 :: o15 :: o16 :: o17 :: o18 :: o19 :: o20 :: o21 :: o22 :: o23 :: o24 :: o25 :: o26 :: o27 :: o28 :: o29 :: l) ρ w := seg_app [o0, o1, o2, o3, o4, o5, o6, o7, o8, o9, o10, o11, o12, o13, o14, o15, o16, o17, o18, o19, o20, o21, o22, o23, o24, o25, o26, o27, o28, o29] h k
theorem seg31 {o0 o1 o2 o3 o4 o5 o6 o7 o8 o9 o10 o11 o12 o13 o14 o15 o16 o17 o18 o19 o20 o21 o22 o23 o24 o25 o26 o27 o28 o29 o30 : Oper} {l : List Oper} {ρ ρ' : Env} {w : World} (h : segR P ops [o0, o1, o2, o3, o4, o5, o6, o7, o8, o9, o10, o11, o12, o13, o14, o15, o16, o17, o18, o19, o20, o21, o22, o23, o24, o25, o26, o27, o28, o29, o30] ρ = some ρ') (k : rOps P ops K l ρ' w) : rOps P ops K (o0 :: o1 :: o2 :: o3 :: o4 :: o5 :: o6 :: o7 :: o8 :: o9 :: o10 :: o11 :: o12 :: o13 :: o14 :: o15 :: o16 :: o17 :: o18 :: o19 :: o20 :: o21 :: o22 :: o23 :: o24 :: o25 :: o26 :: o27 :: o28 :: o29 :: o30 :: l) ρ w := seg_app [o0, o1, o2, o3, o4, o5, o6, o7, o8, o9, o10, o11, o12, o13, o14, o15, o16, o17, o18, o19, o20, o21, o22, o23, o24, o25, o26, o27, o28, o29, o30] h k
theorem seg32 {o0 o1 o2 o3 o4 o5 o6 o7 o8 o9 o10 o11 o12 o13 o14 o15 o16 o17 o18 o19 o20 o21 o22 o23 o24 o25 o26 o27 o28 o29 o30 o31 : Oper} {l : List Oper} {ρ ρ' : Env} {w : World} (h : segR P ops [o0, o1, o2, o3, o4, o5, o6, o7, o8, o9, o10, o11, o12, o13, o14, o15, o16, o17, o18, o19, o20, o21, o22, o23, o24, o25, o26, o27, o28, o29, o30, o31] ρ = some ρ') (k : rOps P ops K l ρ' w) : rOps P ops K (o0 :: o1 :: o2 :: o3 :: o4 :: o5 :: o6 :: o7 :: o8 :: o9 :: o10 :: o11 :: o12 :: o13 :: o14 :: o15 :: o16 :: o17 :: o18 :: o19 :: o20 :: o21 :: o22 :: o23 :: o24 :: o25 :: o26 :: o27 :: o28 :: o29 :: o30 :: o31 :: l) ρ w := seg_app [o0, o1, o2, o3, o4, o5, o6, o7, o8, o9, o10, o11, o12, o13, o14, o15, o16, o17, o18, o19, o20, o21, o22, o23, o24, o25, o26, o27, o28, o29, o30, o31] h k
theorem seg33 {o0 o1 o2 o3 o4 o5 o6 o7 o8 o9 o10 o11 o12 o13 o14 o15 o16 o17 o18 o19 o20 o21 o22 o23 o24 o25 o26 o27 o28 o29 o30 o31 o32 : Oper} {l : List Oper} {ρ ρ' : Env} {w : World} (h : segR P ops [o0, o1, o2, o3, o4, o5, o6, o7, o8, o9, o10, o11, o12, o13, o14, o15, o16, o17, o18, o19, o20, o21, o22, o23, o24, o25, o26, o27, o28, o29, o30, o31, o32] ρ = some ρ') (k : rOps P ops K l ρ' w) : rOps P ops K (o0 :: o1 :: o2 :: o3 :: o4 :: o5 :: o6 :: o7 :: o8 :: o9 :: o10 :: o11 :: o12 :: o13 :: o14 :: o15 :: o16 :: o17 :: o18 :: o19 :: o20 :: o21 :: o22 :: o23 :: o24 :: o25 :: o26 :: o27 :: o28 :: o29 :: o30 :: o31 :: o32 :: l) ρ w := seg_app [o0, o1, o2, o3, o4, o5, o6, o7, o8, o9, o10, o11, o12, o13, o14, o15, o16, o17, o18, o19, o20, o21, o22, o23, o24, o25, o26, o27, o28, o29, o30, o31, o32] h k
theorem seg34 {o0 o1 o2 o3 o4 o5 o6 o7 o8 o9 o10 o11 o12 o13 o14 o15 o16 o17 o18 o19 o20 o21 o22 o23 o24 o25 o26 o27 o28 o29 o30 o31 o32 o33 : Oper} {l : List Oper} {ρ ρ' : Env} {w : World} (h : segR P ops [o0, o1, o2, o3, o4, o5, o6, o7, o8, o9, o10, o11, o12, o13, o14, o15, o16, o17, o18, o19, o20, o21, o22, o23, o24, o25, o26, o27, o28, o29, o30, o31, o32, o33] ρ = some ρ') (k : rOps P ops K l ρ' w) : rOps P ops K (o0 :: o1 :: o2 :: o3 :: o4 :: o5 :: o6 :: o7 :: o8 :: o9 :: o10 :: o11 :: o12 :: o13 :: o14 :: o15 :: o16 :: o17 :: o18 :: o19 :: o20 :: o21 :: o22 :: o23 :: o24 :: o25 :: o26 :: o27 :: o28 :: o29 :: o30 :: o31 :: o32 :: o33 :: l) ρ w := seg_app [o0, o1, o2, o3, o4, o5, o6, o7, o8, o9, o10, o11, o12, o13, o14, o15, o16, o17, o18, o19, o20, o21, o22, o23, o24, o25, o26, o27, o28, o29, o30, o31, o32, o33] h k
theorem seg35 {o0 o1 o2 o3 o4 o5 o6 o7 o8 o9 o10 o11 o12 o13 o14 o15 o16 o17 o18 o19 o20 o21 o22 o23 o24 o25 o26 o27 o28 o29 o30 o31 o32 o33 o34 : Oper} {l : List Oper} {ρ ρ' : Env} {w : World} (h : segR P ops [o0, o1, o2, o3, o4, o5, o6, o7, o8, o9, o10, o11, o12, o13, o14, o15, o16, o17, o18, o19, o20, o21, o22, o23, o24, o25, o26, o27, o28, o29, o30, o31, o32, o33, o34] ρ = some ρ') (k : rOps P ops K l ρ' w) : rOps P ops K (o0 :: o1 :: o2 :: o3 :: o4 :: o5 :: o6 :: o7 :: o8 :: o9 :: o10 :: o11 :: o12 :: o13 :: o14 :: o15 :: o16 :: o17 :: o18 :: o19 :: o20 :: o21 :: o22 :: o23 :: o24 :: o25 :: o26 :: o27 :: o28 :: o29 :: o30 :: o31 :: o32 :: o33 :: o34 :: l) ρ w := seg_app [o0, o1, o2, o3, o4, o5, o6, o7, o8, o9, o10, o11, o12, o13, o14, o15, o16, o17, o18, o19, o20, o21, o22, o23, o24, o25, o26, o27, o28, o29, o30, o31, o32, o33, o34] h k
theorem seg36 {o0 o1 o2 o3 o4 o5 o6 o7 o8 o9 o10 o11 o12 o13 o14 o15 o16 o17 o18 o19 o20 o21 o22 o23 o24 o25 o26 o27 o28 o29 o30 o31 o32 o33 o34 o35 : Oper} {l : List Oper} {ρ ρ' : Env} {w : World} (h : segR P ops [o0, o1, o2, o3, o4, o5, o6, o7, o8, o9, o10, o11, o12, o13, o14, o15, o16, o17, o18, o19, o20, o21, o22, o23, o24, o25, o26, o27, o28, o29, o30, o31, o32, o33, o34, o35] ρ = some ρ') (k : rOps P ops K l ρ' w) : rOps P ops K (o0 :: o1 :: o2 :: o3 :: o4 :: o5 :: o6 :: o7 :: o8 :: o9 :: o10 :: o11 :: o12 :: o13 :: o14 :: o15 :: o16 :: o17 :: o18 :: o19 :: o20 :: o21 :: o22 :: o23 :: o24 :: o25 :: o26 :: o27 :: o28 :: o29 :: o30 :: o31 :: o32 :: o33 :: o34 :: o35 :: l) ρ w := seg_app [o0, o1, o2, o3, o4, o5, o6, o7, o8, o9, o10, o11, o12, o13, o14, o15, o16, o17, o18, o19, o20, o21, o22, o23, o24, o25, o26, o27, o28, o29, o30, o31, o32, o33, o34, o35] h k
theorem seg37 {o0 o1 o2 o3 o4 o5 o6 o7 o8 o9 o10 o11 o12 o13 o14 o15 o16 o17 o18 o19 o20 o21 o22 o23 o24 o25 o26 o27 o28 o29 o30 o31 o32 o33 o34 o35 o36 : Oper} {l : List Oper} {ρ ρ' : Env} {w : World} (h : segR P ops [o0, o1, o2, o3, o4, o5, o6, o7, o8, o9, o10, o11, o12, o13, o14, o15, o16, o17, o18, o19, o20, o21, o22, o23, o24, o25, o26, o27, o28, o29, o30, o31, o32, o33, o34, o35, o36] ρ = some ρ') (k : rOps P ops K l ρ' w) : rOps P ops K (o0 :: o1 :: o2 :: o3 :: o4 :: o5 :: o6 :: o7 :: o8 :: o9 :: o10 :: o11 :: o12 :: o13 :: o14 :: o15 :: o16 :: o17 :: o18 :: o19 :: o20 :: o21 :: o22 :: o23 :: o24 :: o25 :: o26 :: o27 :: o28 :: o29 :: o30 :: o31 :: o32 :: o33 :: o34 :: o35 :: o36 :: l) ρ w := seg_app [o0, o1, o2, o3, o4, o5, o6, o7, o8, o9, o10, o11, o12, o13, o14, o15, o16, o17, o18, o19, o20, o21, o22, o23, o24, o25, o26, o27, o28, o29, o30, o31, o32, o33, o34, o35, o36] h k
theorem seg38 {o0 o1 o2 o3 o4 o5 o6 o7 o8 o9 o10 o11 o12 o13 o14 o15 o16 o17 o18 o19 o20 o21 o22 o23 o24 o25 o26 o27 o28 o29 o30 o31 o32 o33 o34 o35 o36 o37 : Oper} {l : List Oper} {ρ ρ' : Env} {w : World} (h : segR P ops [o0, o1, o2, o3, o4, o5, o6, o7, o8, o9, o10, o11, o12, o13, o14, o15, o16, o17, o18, o19, o20, o21, o22, o23, o24, o25, o26, o27, o28, o29, o30, o31, o32, o33, o34, o35, o36, o37] ρ = some ρ') (k : rOps P ops K l ρ' w) : rOps P ops K (o0 :: o1 :: o2 :: o3 :: o4 :: o5 :: o6 :: o7 :: o8 :: o9 :: o10 :: o11 :: o12 :: o13 :: o14 :: o15 :: o16 :: o17 :: o18 :: o19 :: o20 :: o21 :: o22 :: o23 :: o24 :: o25 :: o26 :: o27 :: o28 :: o29 :: o30 :: o31 :: o32 :: o33 :: o34 :: o35 :: o36 :: o37 :: l) ρ w := seg_app [o0, o1, o2, o3, o4, o5, o6, o7, o8, o9, o10, o11, o12, o13, o14, o15, o16, o17, o18, o19, o20, o21, o22, o23, o24, o25, o26, o27, o28, o29, o30, o31, o32, o33, o34, o35, o36, o37] h k
theorem seg39 {o0 o1 o2 o3 o4 o5 o6 o7 o8 o9 o10 o11 o12 o13 o14 o15 o16 o17 o18 o19 o20 o21 o22 o23 o24 o25 o26 o27 o28 o29 o30 o31 o32 o33 o34 o35 o36 o37 o38 : Oper} {l : List Oper} {ρ ρ' : Env} {w : World} (h : segR P ops [o0, o1, o2, o3, o4, o5, o6, o7, o8, o9, o10, o11, o12, o13, o14, o15, o16, o17, o18, o19, o20, o21, o22, o23, o24, o25, o26, o27, o28, o29, o30, o31, o32, o33, o34, o35, o36, o37, o38] ρ = some ρ') (k : rOps P ops K l ρ' w) : rOps P ops K (o0 :: o1 :: o2 :: o3 :: o4 :: o5 :: o6 :: o7 :: o8 :: o9 :: o10 :: o11 :: o12 :: o13 :: o14 :: o15 :: o16 :: o17 :: o18 :: o19 :: o20 :: o21 :: o22 :: o23 :: o24 :: o25 :: o26 :: o27 :: o28 :: o29 :: o30 :: o31 :: o32 :: o33 :: o34 :: o35 :: o36 :: o37 :: o38 :: l) ρ w := seg_app [o0, o1, o2, o3, o4, o5, o6, o7, o8, o9, o10, o11, o12, o13, o14, o15, o16, o17, o18, o19, o20, o21, o22, o23, o24, o25, o26, o27, o28, o29, o30, o31, o32, o33, o34, o35, o36, o37, o38] h k
theorem seg40 {o0 o1 o2 o3 o4 o5 o6 o7 o8 o9 o10 o11 o12 o13 o14 o15 o16 o17 o18 o19 o20 o21 o22 o23 o24 o25 o26 o27 o28 o29 o30 o31 o32 o33 o34 o35 o36 o37 o38 o39 : Oper} {l : List Oper} {ρ ρ' : Env} {w : World} (h : segR P ops [o0, o1, o2, o3, o4, o5, o6, o7, o8, o9, o10, o11, o12, o13, o14, o15, o16, o17, o18, o19, o20, o21, o22, o23, o24, o25, o26, o27, o28, o29, o30, o31, o32, o33, o34, o35, o36, o37, o38, o39] ρ = some ρ') (k : rOps P ops K l ρ' w) : rOps P ops K (o0 :: o1 :: o2 :: o3 :: o4 :: o5 :: o6 :: o7 :: o8 :: o9 :: o10 :: o11 :: o12 :: o13 :: o14 :: o15 :: o16 :: o17 :: o18 :: o19 :: o20 :: o21 :: o22 :: o23 :: o24 :: o25 :: o26 :: o27 :: o28 :: o29 :: o30 :: o31 :: o32 :: o33 :: o34 :: o35 :: o36 :: o37 :: o38 :: o39 :: l) ρ w := seg_app [o0, o1, o2, o3, o4, o5, o6, o7, o8, o9, o10, o11, o12, o13, o14, o15, o16, o17, o18, o19, o20, o21, o22, o23, o24, o25, o26, o27, o28, o29, o30, o31, o32, o33, o34, o35, o36, o37, o38, o39] h k
end

/-! ### Regions that draw their order -/
def QD (n : Nat) (N : Env → World → Prop) : Exit → Act → World → Prop := fun e a w => e = .normal ∧ ∃ ρ, a = Fr n ρ ∧ N ρ w
def dAny (P : Program) (n : Nat) (ops : Array Oper) (N : Env → World → Prop) (S : World → Prop) (listed : Array Bool) (ρ : Env) (w : World) : Prop :=
  okOps n ops = true ∧ Region.noSelect ops = true → wpAnyH P .any ops (QD n N) S (listed.toList.count false) listed (Fr n ρ) w
theorem count_listed {listed : Array Bool} {i : Nat} (h : listed.getD i true = false) : listed.toList.count false = (listed.setIfInBounds i true).toList.count false + 1 := by
  have hi : i < listed.size := by
    rcases Nat.lt_or_ge i listed.size with h' | h'
    · exact h'
    · simp [Array.getD_eq_getD_getElem?, Array.getElem?_eq_none h'] at h
  have hv : listed[i] = false := by simpa [Array.getD_eq_getD_getElem?, Array.getElem?_eq_getElem hi] using h
  rw [Array.toList_setIfInBounds, List.count_set (by simpa using hi)]
  have hv' : listed.toList[i]'(by simpa using hi) = false := by simpa using hv
  have hp : 0 < listed.toList.count false := List.count_pos_iff.2 (hv' ▸ List.getElem_mem _)
  rw [if_pos (by simpa using hv)]
  simp only [beq_iff_eq, Bool.true_eq_false, if_false]
  omega
/-- What the world's turn of a draw leaves: all. -/
structure Tch (S : Nat → Prop) (w w' : World) : Prop where
  os : w'.os = w.os
  tape : w'.tape = w.tape
  output : w'.output = w.output
  size : w.heap.size ≤ w'.heap.size
  block : ∀ k, k < w.heap.size → ¬ S k → w'.heap[k]? = w.heap[k]?
abbrev N0 : Nat → Prop := fun _ => False
abbrev one (b : Nat) : Nat → Prop := fun k => k = b
theorem Tch.refl (S : Nat → Prop) (w : World) : Tch S w w := ⟨rfl, rfl, rfl, Nat.le_refl _, fun _ _ _ => rfl⟩
theorem Tch.trans {S S1 S2 : Nat → Prop} {w w1 w2 : World} (h : Tch S1 w w1) (k : Tch S2 w1 w2) (h1 : ∀ b, b < w.heap.size → S1 b → S b) (h2 : ∀ b, b < w.heap.size → S2 b → S b) : Tch S w w2 :=
  ⟨k.os.trans h.os, k.tape.trans h.tape, k.output.trans h.output, Nat.le_trans h.size k.size, fun b hb hs => (k.block b (Nat.lt_of_lt_of_le hb h.size) (fun e => hs (h2 b hb e))).trans (h.block b hb (fun e => hs (h1 b hb e)))⟩
theorem Tch.below {w w' : World} (h : Tch N0 w w') : Below w.heap.size w w' := ⟨h.os, h.tape, h.output, h.size, fun k hk => h.block k hk (fun e => e)⟩
theorem Tch.of_below {w w' : World} (h : Below w.heap.size w w') : Tch N0 w w' := ⟨h.os, h.tape, h.output, h.size, fun k hk _ => h.block k hk⟩
theorem Tch.weaken {S S' : Nat → Prop} {w w' : World} (h : Tch S w w') (hs : ∀ b, b < w.heap.size → S b → S' b) : Tch S' w w' := ⟨h.os, h.tape, h.output, h.size, fun k hk hn => h.block k hk (fun e => hn (hs k hk e))⟩
/-- From w0 on nothing that lay has turned; then blocks of S turn, all of them new. -/
theorem Tch.then {S : Nat → Prop} {w0 w w' : World} (h : Tch N0 w0 w) (k : Tch S w w') (hS : ∀ b, S b → w0.heap.size ≤ b) : Tch N0 w0 w' := h.trans k (fun _ _ e => e) (fun b hb e => by have := hS b e; omega)
theorem Tch.then0 {S : Nat → Prop} {w0 w w' : World} (h : Tch S w0 w) (k : Tch N0 w w') : Tch S w0 w' := h.trans k (fun _ _ e => e) (fun _ _ e => e.elim)
section
variable {P : Program} {n : Nat} {ops : Array Oper} {N : Env → World → Prop} {S : World → Prop} {listed : Array Bool} {ρ : Env} {w : World} {R : Env → World → Prop} {X : Nat → Env → World → Prop}
theorem W_draw {i : Nat} (S : World → Prop) (hn : okOps n ops = true) (hs : Region.noSelect ops = true) (hm : P.follows .mixedOrders = true)
    (h : ∀ w1, Tch N0 w w1 → w1.heap = w.heap → dAny P n ops N S (Array.replicate ops.size false) ρ w1) : W P n (.region i ops true) N R X ρ w := by
  have h1 := h { w with drawn := w.drawn + 1 } ⟨rfl, rfl, rfl, Nat.le_refl _, fun _ _ _ => rfl⟩ rfl ⟨hn, hs⟩
  have e : (Array.replicate ops.size false).toList.count false = ops.size := by simp
  rw [e] at h1
  refine wp_mono (wp_region_held (Q := QD n N) hm h1) fun e a w' hq => ?_
  obtain ⟨rfl, ρ, rfl, hn⟩ := hq
  exact ⟨ρ, rfl, hn⟩
theorem ready_unlisted {i : Nat} (h : i ∈ Region.ready .any ops listed) : listed.getD i true = false := (mem_ready.1 h).1
theorem d_put {i : Nat} {o : Oper} (hn : okOps n ops = true) (ho : ops[i]? = some o) {v : Value} : (Fr n ρ).put o.dst v = Fr n (updO ρ o.dst v) :=
  Fr_put (by have := okOps_at hn ho; simp only [okO, Bool.and_eq_true] at this; exact this.2)
/-- An operation whose value hangs on nothing but what S says of the world. -/
theorem d_val (i : Nat) {o : Oper} {v : Value} (ho : ops[i]? = some o) (hf : Region.free .any ops listed i = true) (hr : (Region.ready .any ops listed).contains i = true) (hw : wantedR ops ρ o = true)
    (hv : ∀ w', S w' → (execOp (evR ρ) o).run P w' = .ok (.value v) w') (hS : S w) (k : dAny P n ops N S (listed.setIfInBounds i true) (updO ρ o.dst v) w) : dAny P n ops N S listed ρ w := fun hh => by
  have hri : i ∈ Region.ready .any ops listed := by simpa using hr
  rw [count_listed (ready_unlisted hri)]
  refine wpAnyH_take (v := v) ho hh.2 hf hr (fun c a w h => absurd h.1 (by simp)) (.inl ⟨by rw [wanted_Fr hh.1]; exact hw, fun w' hs => ?_⟩) hS ?_
  · rw [exec_Fr (okOps_at hh.1 ho)]; exact hv w' hs
  · rw [d_put hh.1 ho]; exact k hh
theorem d_off (i : Nat) {o : Oper} (ho : ops[i]? = some o) (hf : Region.free .any ops listed i = true) (hr : (Region.ready .any ops listed).contains i = true) (hw : wantedR ops ρ o = false)
    (hS : S w) (k : dAny P n ops N S (listed.setIfInBounds i true) (updO ρ o.dst undef) w) : dAny P n ops N S listed ρ w := fun hh => by
  have hri : i ∈ Region.ready .any ops listed := by simpa using hr
  rw [count_listed (ready_unlisted hri)]
  refine wpAnyH_take ho hh.2 hf hr (fun c a w h => absurd h.1 (by simp)) (.inr ⟨by rw [wanted_Fr hh.1]; exact hw, rfl⟩) hS ?_
  rw [d_put hh.1 ho]; exact k hh
/-- Several plain operations, as they are told. -/
def takeR (P : Program) (ops : Array Oper) : List Nat → Array Bool → Env → Option (Array Bool × Env)
  | [], listed, ρ => some (listed, ρ)
  | i :: is, listed, ρ =>
    match ops[i]? with
    | none => none
    | some o => cond (Region.free .any ops listed i && (Region.ready .any ops listed).contains i)
        (cond (wantedR ops ρ o) (match plainV P ρ o with | some v => takeR P ops is (listed.setIfInBounds i true) (updO ρ o.dst v) | none => none)
          (takeR P ops is (listed.setIfInBounds i true) (updO ρ o.dst undef))) none
theorem d_takes (is : List Nat) {listed' : Array Bool} {ρ' : Env} (hS : S w) : ∀ {listed : Array Bool} {ρ : Env}, takeR P ops is listed ρ = some (listed', ρ') → dAny P n ops N S listed' ρ' w → dAny P n ops N S listed ρ w := by
  induction is with
  | nil => intro listed ρ h k; simp only [takeR, Option.some.injEq, Prod.mk.injEq] at h; obtain ⟨rfl, rfl⟩ := h; exact k
  | cons i is ih =>
    intro listed ρ h k
    simp only [takeR] at h
    cases ho : ops[i]? with
    | none => rw [ho] at h; cases h
    | some o =>
      rw [ho] at h
      cases hfr : Region.free .any ops listed i && (Region.ready .any ops listed).contains i with
      | false => simp only [hfr, cond_false] at h; cases h
      | true =>
        simp only [hfr, cond_true] at h
        rw [Bool.and_eq_true] at hfr
        cases hw : wantedR ops ρ o with
        | true =>
          simp only [hw, cond_true] at h
          cases hv : plainV P ρ o with
          | none => rw [hv] at h; cases h
          | some v =>
            rw [hv] at h
            exact d_val i ho hfr.1 hfr.2 hw (fun w' _ => plainV_run hv w') hS (ih h k)
        | false =>
          simp only [hw, cond_false] at h
          exact d_off i ho hfr.1 hfr.2 hw hS (ih h k)
theorem d_step {i : Nat} {o : Oper} (hn : okOps n ops = true) (hs : Region.noSelect ops = true) (ho : ops[i]? = some o) (hu : listed.getD i true = false) (hw : wantedR ops ρ o = true)
    (h : Step P o ρ w (fun ρ' w' => S w' ∧ dAny P n ops N S (listed.setIfInBounds i true) ρ' w')) :
    wpOp P ops (QD n N) i (fun a' w' => S w' ∧ wpAnyH P .any ops (QD n N) S ((listed.setIfInBounds i true).toList.count false) (listed.setIfInBounds i true) a' w') (Fr n ρ) w := by
  unfold wpOp
  simp only [ho]
  rw [wanted_Fr hn, if_pos hw]
  exact .inl (Oper.wp_mono (fun a w' ⟨ρ', ha, h1, h2⟩ => by subst ha; exact ⟨h1, h2 ⟨hn, hs⟩⟩) (Step.wp (okOps_at hn ho) h))
/-- Only one may come up. -/
theorem d_one (i : Nat) {o : Oper} (hr : Region.ready .any ops listed = [i]) (ho : ops[i]? = some o) (hw : wantedR ops ρ o = true)
    (h : Step P o ρ w (fun ρ' w' => S w' ∧ dAny P n ops N S (listed.setIfInBounds i true) ρ' w')) : dAny P n ops N S listed ρ w := fun hh => by
  have hu := ready_unlisted (ops := ops) (listed := listed) (i := i) (by rw [hr]; simp)
  rw [count_listed hu]
  refine wpAnyH_all hr (by simp) fun j hj => ?_
  obtain rfl : j = i := by simpa using hj
  exact d_step hh.1 hh.2 ho hu hw h
theorem d_two (i j : Nat) {o u : Oper} (hr : Region.ready .any ops listed = [i, j]) (ho : ops[i]? = some o) (hu : ops[j]? = some u) (hw : wantedR ops ρ o = true) (hw2 : wantedR ops ρ u = true)
    (h : Step P o ρ w (fun ρ' w' => S w' ∧ dAny P n ops N S (listed.setIfInBounds i true) ρ' w'))
    (h2 : Step P u ρ w (fun ρ' w' => S w' ∧ dAny P n ops N S (listed.setIfInBounds j true) ρ' w')) : dAny P n ops N S listed ρ w := fun hh => by
  have hui := ready_unlisted (ops := ops) (listed := listed) (i := i) (by rw [hr]; simp)
  have huj := ready_unlisted (ops := ops) (listed := listed) (i := j) (by rw [hr]; simp)
  have e : (listed.setIfInBounds i true).toList.count false = (listed.setIfInBounds j true).toList.count false := by
    have a := count_listed hui
    have b := count_listed huj
    omega
  rw [count_listed hui]
  refine wpAnyH_all hr (by simp) fun k hk => ?_
  rcases List.mem_cons.1 hk with rfl | hk
  · exact d_step hh.1 hh.2 ho hui hw h
  · obtain rfl : k = j := by simpa using hk
    rw [e]
    exact d_step hh.1 hh.2 hu huj hw2 h2
theorem d_done (hr : Region.ready .any ops listed = []) (h : N ρ w) : dAny P n ops N S listed ρ w := fun _ => wpAnyH_done hr ⟨rfl, ρ, rfl, h⟩ _
end

/-! ### Memory -/
/-- Block b is just these cells, none frozen. -/
def Blk (w : World) (b : Nat) (t : TypeId) (l : List Value) : Prop := w.heap[b]? = some (.cells l.toArray t (0, 0))
theorem Blk.lt {w : World} {b : Nat} {t : TypeId} {l : List Value} (h : Blk w b t l) : b < w.heap.size := (Array.getElem?_eq_some_iff.1 h).1
theorem Blk.cell {w : World} {b : Nat} {t : TypeId} {l : List Value} (h : Blk w b t l) (j : Nat) : w.cell? ⟨b, j, none⟩ = l[j]? := by
  simp [World.cell?, show w.heap[b]? = _ from h]
theorem Blk.frozen {w : World} {b : Nat} {t : TypeId} {l : List Value} (h : Blk w b t l) (j : Nat) : w.frozen? ⟨b, j, none⟩ = false := by
  simp [World.frozen?, show w.heap[b]? = _ from h]
theorem Blk.tch {S : Nat → Prop} {w w' : World} {b : Nat} {t : TypeId} {l : List Value} (h : Blk w b t l) (k : Tch S w w') (hs : ¬ S b) : Blk w' b t l := (k.block b h.lt hs).trans h
theorem Blk.tch0 {w w' : World} {b : Nat} {t : TypeId} {l : List Value} (h : Blk w b t l) (k : Tch N0 w w') : Blk w' b t l := h.tch k (fun e => e)
theorem Blk.ne {w : World} {b b' : Nat} {t t' : TypeId} {l l' : List Value} (h : Blk w b t l) (h' : Blk w b' t' l') (hne : t ≠ t') : b ≠ b' := by
  rintro rfl
  unfold Blk at h h'
  rw [h] at h'
  injection h' with h'
  injection h' with _ ht
  exact hne ht
theorem Blk.same {w w' : World} {b : Nat} {t : TypeId} {l : List Value} (h : Blk w b t l) (e : w'.heap = w.heap) : Blk w' b t l := by unfold Blk at *; rw [e]; exact h
theorem add_at (b j k : Nat) : (⟨b, j, none⟩ : Addr).add k = ⟨b, j + k, none⟩ := by unfold Addr.add; split <;> simp_all
section
variable {P : Program} {ρ : Env} {w : World} {J : Env → World → Prop}
theorem size_alloc_ (w : World) (ob : Obj) : (w.alloc ob).heap.size = w.heap.size + 1 := Array.size_push _
theorem get_alloc_ (w : World) (ob : Obj) : (w.alloc ob).heap[w.heap.size]? = some ob := Array.getElem?_push_size
theorem run_load_ {a : Addr} {v : Value} (hc : w.cell? a = some v) : (load a).run P w = .ok v w := by simp only [load, Sem.run, hc]
/-- What lays one new block. -/
theorem S_new {o : Oper} {v : Value} {ob : Obj} (hr : (execOp (evR ρ) o).run P w = .ok (.value v) (w.alloc ob)) (h : ∀ w1, Tch N0 w w1 → w1.heap.size = w.heap.size + 1 → w1.heap[w.heap.size]? = some ob → J (updO ρ o.dst v) w1) : Step P o ρ w J :=
  S_val hr (h _ ⟨rfl, rfl, rfl, by rw [size_alloc_]; omega, fun k hk _ => Below.heap_alloc w ob k hk⟩ (size_alloc_ w ob) (get_alloc_ w ob))
theorem R_load {d : Option Tmp} {t : TypeId} {x : Operand} {ty : TypeId} {pos : String} {af : Array Edge} {g : Option (Nat × Bool)} {b j : Nat} {v : Value} (hx : evR ρ x = .pointer (some ⟨b, j, none⟩)) (ha : pureR P (isAgg t) = some false)
    (hc : w.cell? ⟨b, j, none⟩ = some v) : (execOp (evR ρ) ⟨d, .load t x, ty, pos, af, g⟩).run P w = .ok (.value v) w := by
  have h1 := pureR_run (w := w) ha
  simp only [execOp, hx, Instr.loadAt, Instr.sureAddr, loadVar]
  simp [h1, hc]
theorem run_loadCellsFrom (b : Nat) : ∀ (cs : List Value) (i j : Nat) (acc : Array Value), (∀ k u, cs[k]? = some u → w.cell? ⟨b, j + i + k, none⟩ = some u) →
    (loadCellsFrom ⟨b, j, none⟩ i cs.length acc).run P w = .ok (acc ++ cs.toArray) w
  | [], i, j, acc, _ => by simp [loadCellsFrom]
  | c :: cs, i, j, acc, h => by
    have h0 := h 0 c rfl
    have ih := run_loadCellsFrom b cs (i + 1) j (acc.push c) (fun k u hk => by
      have := h (k + 1) u (by simpa using hk)
      rw [show j + (i + 1) + k = j + i + (k + 1) by omega]; exact this)
    simp only [Nat.add_zero] at h0
    simp only [List.length_cons, loadCellsFrom, add_at]
    simp [h0, ih]
theorem R_loadA {d : Option Tmp} {t : TypeId} {x : Operand} {ty : TypeId} {pos : String} {af : Array Edge} {g : Option (Nat × Bool)} {b j : Nat} (cs : List Value) (hx : evR ρ x = .pointer (some ⟨b, j, none⟩)) (ha : pureR P (isAgg t) = some true)
    (hz : pureR P (sizeOf t) = some cs.length) (hc : ∀ k u, cs[k]? = some u → w.cell? ⟨b, j + k, none⟩ = some u) : (execOp (evR ρ) ⟨d, .load t x, ty, pos, af, g⟩).run P w = .ok (.value (.agg cs.toArray)) w := by
  have h1 := pureR_run (w := w) ha
  have h2 := pureR_run (w := w) hz
  have h3 := run_loadCellsFrom (P := P) (w := w) b cs 0 j #[] (fun k u hk => by rw [Nat.add_zero]; exact hc k u hk)
  simp only [execOp, hx, Instr.loadAt, Instr.sureAddr, loadVar]
  simp [h1, h2, loadCells, h3]
/-- A value of one cell. -/
def oneV : Value → Bool
  | .agg _ => false
  | .tuple _ => false
  | _ => true
theorem oneV_cells {v : Value} (h : oneV v = true) : v.cells = #[v] := by cases v <;> first | rfl | cases h
theorem setCell_heap_same {b : Nat} {t : TypeId} {l : List Value} (h : Blk w b t l) (j : Nat) (v : Value) : Blk (w.setCell ⟨b, j, none⟩ v) b t (l.set j v) := by
  unfold Blk at *
  simp [World.setCell, Array.getElem?_modify, h]
theorem tch_setCell (b j : Nat) (v : Value) : Tch (one b) w (w.setCell ⟨b, j, none⟩ v) :=
  ⟨rfl, rfl, rfl, by simp [World.setCell], fun k _ hn => Below.heap_setCell w ⟨b, j, none⟩ v k hn⟩
theorem run_store1 {b j : Nat} {v : Value} {t : TypeId} {l : List Value} (hv : oneV v = true) (hb : Blk w b t l) (hj : j < l.length) : (store ⟨b, j, none⟩ v).run P w = .ok () (w.setCell ⟨b, j, none⟩ v) := by
  have hc := hb.cell j
  rw [List.getElem?_eq_getElem hj] at hc
  have hf := hb.frozen j
  cases v <;> first | (simp only [store, Sem.run, hc, hf, Bool.false_eq_true, if_false]; done) | cases hv
theorem S_store {d : Option Tmp} {t : TypeId} {x y : Operand} {ty : TypeId} {pos : String} {af : Array Edge} {g : Option (Nat × Bool)} {b j : Nat} {v : Value} {e : TypeId} {l : List Value} (hx : evR ρ x = .pointer (some ⟨b, j, none⟩)) (hy : evR ρ y = v)
    (hz : pureR P (sizeOf t) = some 1) (hv : oneV v = true) (hb : Blk w b e l) (hj : j < l.length)
    (h : ∀ w1, Tch (one b) w w1 → w1.heap.size = w.heap.size → Blk w1 b e (l.set j v) → J (updO ρ d undef) w1) : Step P ⟨d, .store t x y, ty, pos, af, g⟩ ρ w J := by
  have h2 := pureR_run (w := w) hz
  refine S_skip (w' := w.setCell ⟨b, j, none⟩ v) ?_ (h _ (tch_setCell b j v) (by simp [World.setCell]) (setCell_heap_same hb j v))
  have h3 := run_store1 (P := P) hv hb hj
  simp only [execOp, hx, hy, Instr.storeAt, Instr.sureAddr, storeVar]
  simp [h2, oneV_cells hv, storeCells, add_at, h3]
theorem run_storeCells {b : Nat} {e : TypeId} : ∀ (vs : List Value) (i j : Nat) (l : List Value) (w : World), (∀ v ∈ vs, oneV v = true) → Blk w b e l → j + i + vs.length ≤ l.length →
    ∃ w', (storeCells ⟨b, j, none⟩ vs i).run P w = .ok () w' ∧ Tch (one b) w w' ∧ w'.heap.size = w.heap.size ∧ Blk w' b e (l.take (j + i) ++ vs ++ l.drop (j + i + vs.length))
  | [], i, j, l, w, _, hb, _ => ⟨w, by simp [storeCells], Tch.refl _ _, rfl, by simpa using hb⟩
  | v :: vs, i, j, l, w, hv, hb, hl => by
    simp only [List.length_cons] at hl
    have h3 := run_store1 (P := P) (hv v (by simp)) hb (j := j + i) (by omega)
    obtain ⟨w', h4, h5, h6, h7⟩ := run_storeCells vs (i + 1) j (l.set (j + i) v) (w.setCell ⟨b, j + i, none⟩ v) (fun u hu => hv u (by simp [hu])) (setCell_heap_same hb _ v) (by simp; omega)
    refine ⟨w', ?_, (tch_setCell b (j + i) v).trans h5 (fun _ _ e => e) (fun _ _ e => e), by rw [h6]; simp [World.setCell], ?_⟩
    · simp only [storeCells, add_at]
      simp [h3, h4]
    · have : l.take (j + i) ++ v :: vs ++ l.drop (j + i + (v :: vs).length) = (l.set (j + i) v).take (j + (i + 1)) ++ vs ++ (l.set (j + i) v).drop (j + (i + 1) + vs.length) := by
        rw [List.drop_set_of_lt (by omega), ← Nat.add_assoc, List.take_succ_eq_append_getElem (by simp; omega)]
        simp [List.take_set_of_le, Nat.add_comm, Nat.add_left_comm]
      rw [this]; exact h7
/-- A store of a struct. -/
theorem S_storeA {d : Option Tmp} {t : TypeId} {x y : Operand} {ty : TypeId} {pos : String} {af : Array Edge} {g : Option (Nat × Bool)} {b j : Nat} {cs : List Value} {e : TypeId} {l : List Value} (hx : evR ρ x = .pointer (some ⟨b, j, none⟩)) (hy : evR ρ y = .agg cs.toArray)
    (hz : pureR P (sizeOf t) = some cs.length) (hv : ∀ v ∈ cs, oneV v = true) (hb : Blk w b e l) (hj : j + cs.length ≤ l.length)
    (h : ∀ w1, Tch (one b) w w1 → w1.heap.size = w.heap.size → Blk w1 b e (l.take j ++ cs ++ l.drop (j + cs.length)) → J (updO ρ d undef) w1) : Step P ⟨d, .store t x y, ty, pos, af, g⟩ ρ w J := by
  have h2 := pureR_run (w := w) hz
  obtain ⟨w', h4, h5, h6, h7⟩ := run_storeCells (P := P) cs 0 j l w hv hb (by omega)
  refine S_skip (w' := w') ?_ (h _ h5 h6 (by simpa using h7))
  simp only [execOp, hx, hy, Instr.storeAt, Instr.sureAddr, storeVar]
  simp [h2, Value.cells, h4]
/-- The address of an element of a slice. -/
theorem R_index {d : Option Tmp} {t : TypeId} {x y : Operand} {ty : TypeId} {pos : String} {af : Array Edge} {g : Option (Nat × Bool)} {b off len cap sz : Nat} {k : IntKind} {i : Int} {e : TypeId} (hx : evR ρ x = .slice (some ⟨b, off, none⟩) len cap) (hy : evR ρ y = .int k i)
    (ht : pureR P (underlying t) = some (.slice e)) (hz : pureR P (sizeOf e) = some sz) (h0 : 0 ≤ i) (h1 : i < len) :
    (execOp (evR ρ) ⟨d, .indexAddr t x y, ty, pos, af, g⟩).run P w = .ok (.value (.pointer (some ⟨b, off + i.toNat * sz, none⟩))) w := by
  have h2 := pureR_run (w := w) ht
  have h3 := pureR_run (w := w) hz
  simp only [execOp, hx, hy, Instr.indexAt, asIntOf]
  simp [h2, h3, h0, h1, add_at]
end

/-! ### Regions that draw and whose operations, but for a forced tail, only read -/
def qOps (P : Program) (ops : Array Oper) (w : World) (K : Env → Prop) : List Oper → Env → Prop
  | [], ρ => K ρ
  | o :: l, ρ => if wantedR ops ρ o then ∃ v, (execOp (evR ρ) o).run P w = .ok (.value v) w ∧ qOps P ops w K l (updO ρ o.dst v) else qOps P ops w K l (updO ρ o.dst undef)
theorem qOps_still {P : Program} {ops : Array Oper} {n : Nat} {w : World} {K : Env → Prop} {Q : Act → Prop} (hn : okOps n ops = true) (hK : ∀ ρ, K ρ → Q (Fr n ρ)) :
    ∀ (l : List Oper) (ρ : Env), (∀ o ∈ l, okO n o = true) → qOps P ops w K l ρ → wpStill P ops w Q l (Fr n ρ)
  | [], ρ, _, h => wpStill_nil (hK ρ h)
  | o :: l, ρ, hl, h => by
    have ho := hl o (by simp)
    have hd : okD n o.dst = true := by simp only [okO, Bool.and_eq_true] at ho; exact ho.2
    simp only [wpStill, qOps] at h ⊢
    rw [wanted_Fr hn]
    split
    · rename_i hw
      rw [if_pos hw] at h
      obtain ⟨v, hr, hk⟩ := h
      unfold Oper.still
      rw [exec_Fr ho, hr, Oper.stillUpon_value, Fr_put hd]
      exact qOps_still hn hK l _ (fun o h => hl o (by simp [h])) hk
    · rename_i hw
      rw [if_neg hw] at h
      rw [Fr_put hd]
      exact qOps_still hn hK l _ (fun o h => hl o (by simp [h])) h
theorem rOps_list {P : Program} {ops : Array Oper} {n : Nat} {K : Env → World → Prop} {Q : Exit → Act → World → Prop} (hn : okOps n ops = true) (hK : ∀ ρ w, K ρ w → Q .normal (Fr n ρ) w) :
    ∀ (l : List Oper) (ρ : Env) (w : World), (∀ o ∈ l, okO n o = true) → rOps P ops K l ρ w → wpList P ops Q l (Fr n ρ) w
  | [], ρ, w, _, h => by simpa [wpList] using hK ρ w h
  | o :: l, ρ, w, hl, h => by
    have ho := hl o (by simp)
    have hd : okD n o.dst = true := by simp only [okO, Bool.and_eq_true] at ho; exact ho.2
    simp only [wpList, rOps] at h ⊢
    rw [wanted_Fr hn]
    split
    · rename_i hw
      rw [if_pos hw] at h
      exact .inl (Oper.wp_mono (fun a w' ⟨ρ', ha, hj⟩ => by subst ha; exact rOps_list hn hK l ρ' w' (fun o h => hl o (by simp [h])) hj) (Step.wp ho h))
    · rename_i hw
      rw [if_neg hw] at h
      rw [Fr_put hd]
      exact rOps_list hn hK l _ w (fun o h => hl o (by simp [h])) h
section
variable {P : Program} {n : Nat} {ops : Array Oper} {N R : Env → World → Prop} {X : Nat → Env → World → Prop} {ρ : Env} {w : World} {K : Env → Prop}
theorem okOps_mem {l : List Oper} (hn : okOps n l.toArray = true) : ∀ o ∈ l, okO n o = true := by
  simpa [okOps] using hn
theorem W_still {i : Nat} {l : List Oper} (hn : okOps n l.toArray = true) (hB : Region.lexB .any l.toArray = true) (hm : P.follows .mixedOrders = true)
    (h : ∀ w1, Tch N0 w w1 → w1.heap = w.heap → qOps P l.toArray w1 (fun ρ => N ρ w1) l ρ) : W P n (.region i l.toArray true) N R X ρ w :=
  wp_region_still_lit hm hB (qOps_still hn (fun ρ hk => ⟨ρ, rfl, hk⟩) l ρ (okOps_mem hn) (h { w with drawn := w.drawn + 1 } ⟨rfl, rfl, rfl, Nat.le_refl _, fun _ _ _ => rfl⟩ rfl))
theorem W_tail {i : Nat} {l : List Oper} (k : Nat) (hn : okOps n l.toArray = true) (hB : Region.lexTailB .any l.toArray k = true) (hm : P.follows .mixedOrders = true)
    (h : ∀ w1, Tch N0 w w1 → w1.heap = w.heap → qOps P l.toArray w1 (fun ρ => rOps P l.toArray N (l.drop k) ρ w1) (l.take k) ρ) : W P n (.region i l.toArray true) N R X ρ w := by
  refine wp_region_still_tail k hm hB ?_
  have h1 := h { w with drawn := w.drawn + 1 } ⟨rfl, rfl, rfl, Nat.le_refl _, fun _ _ _ => rfl⟩ rfl
  refine qOps_still hn (fun ρ hk => ?_) (l.take k) ρ (fun o ho => okOps_mem hn o (List.mem_of_mem_take ho)) h1
  exact rOps_list hn (fun ρ w hk => ⟨ρ, rfl, hk⟩) (l.drop k) ρ _ (fun o ho => okOps_mem hn o (List.mem_of_mem_drop ho)) hk
theorem q_val {o : Oper} {l : List Oper} {v : Value} (hw : wantedR ops ρ o = true) (hr : (execOp (evR ρ) o).run P w = .ok (.value v) w) (h : qOps P ops w K l (updO ρ o.dst v)) : qOps P ops w K (o :: l) ρ := by
  simp only [qOps]; rw [if_pos hw]; exact ⟨v, hr, h⟩
theorem q_off {o : Oper} {l : List Oper} (hw : wantedR ops ρ o = false) (h : qOps P ops w K l (updO ρ o.dst undef)) : qOps P ops w K (o :: l) ρ := by
  simp only [qOps]; rw [if_neg (by rw [hw]; simp)]; exact h
theorem q_nil (h : K ρ) : qOps P ops w K [] ρ := h
theorem qseg_app (l1 : List Oper) {l : List Oper} {ρ' : Env} : ∀ {ρ : Env}, segR P ops l1 ρ = some ρ' → qOps P ops w K l ρ' → qOps P ops w K (l1 ++ l) ρ := by
  induction l1 with
  | nil => intro ρ h k; simp only [segR, Option.some.injEq] at h; subst h; exact k
  | cons o l1 ih =>
    intro ρ h k
    simp only [segR] at h
    cases hw : wantedR ops ρ o with
    | true =>
      rw [hw] at h
      simp only [cond_true] at h
      cases hv : plainV P ρ o with
      | none => rw [hv] at h; cases h
      | some v =>
        rw [hv] at h
        exact q_val hw (plainV_run hv w) (ih h k)
    | false =>
      rw [hw] at h
      exact q_off hw (ih h k)
theorem qseg1 {o0 : Oper} {l : List Oper} {ρ' : Env} (h : segR P ops [o0] ρ = some ρ') (k : qOps P ops w K l ρ') : qOps P ops w K (o0 :: l) ρ := qseg_app [o0] h k
theorem qseg2 {o0 o1 : Oper} {l : List Oper} {ρ' : Env} (h : segR P ops [o0, o1] ρ = some ρ') (k : qOps P ops w K l ρ') : qOps P ops w K (o0 :: o1 :: l) ρ := qseg_app [o0, o1] h k
theorem qseg3 {o0 o1 o2 : Oper} {l : List Oper} {ρ' : Env} (h : segR P ops [o0, o1, o2] ρ = some ρ') (k : qOps P ops w K l ρ') : qOps P ops w K (o0 :: o1 :: o2 :: l) ρ := qseg_app [o0, o1, o2] h k
theorem qseg4 {o0 o1 o2 o3 : Oper} {l : List Oper} {ρ' : Env} (h : segR P ops [o0, o1, o2, o3] ρ = some ρ') (k : qOps P ops w K l ρ') : qOps P ops w K (o0 :: o1 :: o2 :: o3 :: l) ρ := qseg_app [o0, o1, o2, o3] h k
theorem qseg5 {o0 o1 o2 o3 o4 : Oper} {l : List Oper} {ρ' : Env} (h : segR P ops [o0, o1, o2, o3, o4] ρ = some ρ') (k : qOps P ops w K l ρ') : qOps P ops w K (o0 :: o1 :: o2 :: o3 :: o4 :: l) ρ := qseg_app [o0, o1, o2, o3, o4] h k
theorem qseg6 {o0 o1 o2 o3 o4 o5 : Oper} {l : List Oper} {ρ' : Env} (h : segR P ops [o0, o1, o2, o3, o4, o5] ρ = some ρ') (k : qOps P ops w K l ρ') : qOps P ops w K (o0 :: o1 :: o2 :: o3 :: o4 :: o5 :: l) ρ := qseg_app [o0, o1, o2, o3, o4, o5] h k
theorem qseg7 {o0 o1 o2 o3 o4 o5 o6 : Oper} {l : List Oper} {ρ' : Env} (h : segR P ops [o0, o1, o2, o3, o4, o5, o6] ρ = some ρ') (k : qOps P ops w K l ρ') : qOps P ops w K (o0 :: o1 :: o2 :: o3 :: o4 :: o5 :: o6 :: l) ρ := qseg_app [o0, o1, o2, o3, o4, o5, o6] h k
theorem qseg8 {o0 o1 o2 o3 o4 o5 o6 o7 : Oper} {l : List Oper} {ρ' : Env} (h : segR P ops [o0, o1, o2, o3, o4, o5, o6, o7] ρ = some ρ') (k : qOps P ops w K l ρ') : qOps P ops w K (o0 :: o1 :: o2 :: o3 :: o4 :: o5 :: o6 :: o7 :: l) ρ := qseg_app [o0, o1, o2, o3, o4, o5, o6, o7] h k
theorem qseg9 {o0 o1 o2 o3 o4 o5 o6 o7 o8 : Oper} {l : List Oper} {ρ' : Env} (h : segR P ops [o0, o1, o2, o3, o4, o5, o6, o7, o8] ρ = some ρ') (k : qOps P ops w K l ρ') : qOps P ops w K (o0 :: o1 :: o2 :: o3 :: o4 :: o5 :: o6 :: o7 :: o8 :: l) ρ := qseg_app [o0, o1, o2, o3, o4, o5, o6, o7, o8] h k
theorem qseg10 {o0 o1 o2 o3 o4 o5 o6 o7 o8 o9 : Oper} {l : List Oper} {ρ' : Env} (h : segR P ops [o0, o1, o2, o3, o4, o5, o6, o7, o8, o9] ρ = some ρ') (k : qOps P ops w K l ρ') : qOps P ops w K (o0 :: o1 :: o2 :: o3 :: o4 :: o5 :: o6 :: o7 :: o8 :: o9 :: l) ρ := qseg_app [o0, o1, o2, o3, o4, o5, o6, o7, o8, o9] h k
theorem qseg11 {o0 o1 o2 o3 o4 o5 o6 o7 o8 o9 o10 : Oper} {l : List Oper} {ρ' : Env} (h : segR P ops [o0, o1, o2, o3, o4, o5, o6, o7, o8, o9, o10] ρ = some ρ') (k : qOps P ops w K l ρ') : qOps P ops w K (o0 :: o1 :: o2 :: o3 :: o4 :: o5 :: o6 :: o7 :: o8 :: o9 :: o10 :: l) ρ := qseg_app [o0, o1, o2, o3, o4, o5, o6, o7, o8, o9, o10] h k
theorem qseg12 {o0 o1 o2 o3 o4 o5 o6 o7 o8 o9 o10 o11 : Oper} {l : List Oper} {ρ' : Env} (h : segR P ops [o0, o1, o2, o3, o4, o5, o6, o7, o8, o9, o10, o11] ρ = some ρ') (k : qOps P ops w K l ρ') : qOps P ops w K (o0 :: o1 :: o2 :: o3 :: o4 :: o5 :: o6 :: o7 :: o8 :: o9 :: o10 :: o11 :: l) ρ := qseg_app [o0, o1, o2, o3, o4, o5, o6, o7, o8, o9, o10, o11] h k
theorem qseg13 {o0 o1 o2 o3 o4 o5 o6 o7 o8 o9 o10 o11 o12 : Oper} {l : List Oper} {ρ' : Env} (h : segR P ops [o0, o1, o2, o3, o4, o5, o6, o7, o8, o9, o10, o11, o12] ρ = some ρ') (k : qOps P ops w K l ρ') : qOps P ops w K (o0 :: o1 :: o2 :: o3 :: o4 :: o5 :: o6 :: o7 :: o8 :: o9 :: o10 :: o11 :: o12 :: l) ρ := qseg_app [o0, o1, o2, o3, o4, o5, o6, o7, o8, o9, o10, o11, o12] h k
theorem qseg14 {o0 o1 o2 o3 o4 o5 o6 o7 o8 o9 o10 o11 o12 o13 : Oper} {l : List Oper} {ρ' : Env} (h : segR P ops [o0, o1, o2, o3, o4, o5, o6, o7, o8, o9, o10, o11, o12, o13] ρ = some ρ') (k : qOps P ops w K l ρ') : qOps P ops w K (o0 :: o1 :: o2 :: o3 :: o4 :: o5 :: o6 :: o7 :: o8 :: o9 :: o10 :: o11 :: o12 :: o13 :: l) ρ := qseg_app [o0, o1, o2, o3, o4, o5, o6, o7, o8, o9, o10, o11, o12, o13] h k
theorem qseg15 {o0 o1 o2 o3 o4 o5 o6 o7 o8 o9 o10 o11 o12 o13 o14 : Oper} {l : List Oper} {ρ' : Env} (h : segR P ops [o0, o1, o2, o3, o4, o5, o6, o7, o8, o9, o10, o11, o12, o13, o14] ρ = some ρ') (k : qOps P ops w K l ρ') : qOps P ops w K (o0 :: o1 :: o2 :: o3 :: o4 :: o5 :: o6 :: o7 :: o8 :: o9 :: o10 :: o11 :: o12 :: o13 :: o14 :: l) ρ := qseg_app [o0, o1, o2, o3, o4, o5, o6, o7, o8, o9, o10, o11, o12, o13, o14] h k
theorem qseg16 {o0 o1 o2 o3 o4 o5 o6 o7 o8 o9 o10 o11 o12 o13 o14 o15 : Oper} {l : List Oper} {ρ' : Env} (h : segR P ops [o0, o1, o2, o3, o4, o5, o6, o7, o8, o9, o10, o11, o12, o13, o14, o15] ρ = some ρ') (k : qOps P ops w K l ρ') : qOps P ops w K (o0 :: o1 :: o2 :: o3 :: o4 :: o5 :: o6 :: o7 :: o8 :: o9 :: o10 :: o11 :: o12 :: o13 :: o14 :: o15 :: l) ρ := qseg_app [o0, o1, o2, o3, o4, o5, o6, o7, o8, o9, o10, o11, o12, o13, o14, o15] h k
theorem qseg17 {o0 o1 o2 o3 o4 o5 o6 o7 o8 o9 o10 o11 o12 o13 o14 o15 o16 : Oper} {l : List Oper} {ρ' : Env} (h : segR P ops [o0, o1, o2, o3, o4, o5, o6, o7, o8, o9, o10, o11, o12, o13, o14, o15, o16] ρ = some ρ') (k : qOps P ops w K l ρ') : qOps P ops w K (o0 :: o1 :: o2 :: o3 :: o4 :: o5 :: o6 :: o7 :: o8 :: o9 :: o10 :: o11 :: o12 :: o13 :: o14 :: o15 :: o16 :: l) ρ := qseg_app [o0, o1, o2, o3, o4, o5, o6, o7, o8, o9, o10, o11, o12, o13, o14, o15, o16] h k
theorem qseg18 {o0 o1 o2 o3 o4 o5 o6 o7 o8 o9 o10 o11 o12 o13 o14 o15 o16 o17 : Oper} {l : List Oper} {ρ' : Env} (h : segR P ops [o0, o1, o2, o3, o4, o5, o6, o7, o8, o9, o10, o11, o12, o13, o14, o15, o16, o17] ρ = some ρ') (k : qOps P ops w K l ρ') : qOps P ops w K (o0 :: o1 :: o2 :: o3 :: o4 :: o5 :: o6 :: o7 :: o8 :: o9 :: o10 :: o11 :: o12 :: o13 :: o14 :: o15 :: o16 :: o17 :: l) ρ := qseg_app [o0, o1, o2, o3, o4, o5, o6, o7, o8, o9, o10, o11, o12, o13, o14, o15, o16, o17] h k
theorem qseg19 {o0 o1 o2 o3 o4 o5 o6 o7 o8 o9 o10 o11 o12 o13 o14 o15 o16 o17 o18 : Oper} {l : List Oper} {ρ' : Env} (h : segR P ops [o0, o1, o2, o3, o4, o5, o6, o7, o8, o9, o10, o11, o12, o13, o14, o15, o16, o17, o18] ρ = some ρ') (k : qOps P ops w K l ρ') : qOps P ops w K (o0 :: o1 :: o2 :: o3 :: o4 :: o5 :: o6 :: o7 :: o8 :: o9 :: o10 :: o11 :: o12 :: o13 :: o14 :: o15 :: o16 :: o17 :: o18 :: l) ρ := qseg_app [o0, o1, o2, o3, o4, o5, o6, o7, o8, o9, o10, o11, o12, o13, o14, o15, o16, o17, o18] h k
theorem qseg20 {o0 o1 o2 o3 o4 o5 o6 o7 o8 o9 o10 o11 o12 o13 o14 o15 o16 o17 o18 o19 : Oper} {l : List Oper} {ρ' : Env} (h : segR P ops [o0, o1, o2, o3, o4, o5, o6, o7, o8, o9, o10, o11, o12, o13, o14, o15, o16, o17, o18, o19] ρ = some ρ') (k : qOps P ops w K l ρ') : qOps P ops w K (o0 :: o1 :: o2 :: o3 :: o4 :: o5 :: o6 :: o7 :: o8 :: o9 :: o10 :: o11 :: o12 :: o13 :: o14 :: o15 :: o16 :: o17 :: o18 :: o19 :: l) ρ := qseg_app [o0, o1, o2, o3, o4, o5, o6, o7, o8, o9, o10, o11, o12, o13, o14, o15, o16, o17, o18, o19] h k
theorem qseg21 {o0 o1 o2 o3 o4 o5 o6 o7 o8 o9 o10 o11 o12 o13 o14 o15 o16 o17 o18 o19 o20 : Oper} {l : List Oper} {ρ' : Env} (h : segR P ops [o0, o1, o2, o3, o4, o5, o6, o7, o8, o9, o10, o11, o12, o13, o14, o15, o16, o17, o18, o19, o20] ρ = some ρ') (k : qOps P ops w K l ρ') : qOps P ops w K (o0 :: o1 :: o2 :: o3 :: o4 :: o5 :: o6 :: o7 :: o8 :: o9 :: o10 :: o11 :: o12 :: o13 :: o14 :: o15 :: o16 :: o17 :: o18 :: o19 :: o20 :: l) ρ := qseg_app [o0, o1, o2, o3, o4, o5, o6, o7, o8, o9, o10, o11, o12, o13, o14, o15, o16, o17, o18, o19, o20] h k
theorem qseg22 {o0 o1 o2 o3 o4 o5 o6 o7 o8 o9 o10 o11 o12 o13 o14 o15 o16 o17 o18 o19 o20 o21 : Oper} {l : List Oper} {ρ' : Env} (h : segR P ops [o0, o1, o2, o3, o4, o5, o6, o7, o8, o9, o10, o11, o12, o13, o14, o15, o16, o17, o18, o19, o20, o21] ρ = some ρ') (k : qOps P ops w K l ρ') : qOps P ops w K (o0 :: o1 :: o2 :: o3 :: o4 :: o5 :: o6 :: o7 :: o8 :: o9 :: o10 :: o11 :: o12 :: o13 :: o14 :: o15 :: o16 :: o17 :: o18 :: o19 :: o20 :: o21 :: l) ρ := qseg_app [o0, o1, o2, o3, o4, o5, o6, o7, o8, o9, o10, o11, o12, o13, o14, o15, o16, o17, o18, o19, o20, o21] h k
theorem qseg23 {o0 o1 o2 o3 o4 o5 o6 o7 o8 o9 o10 o11 o12 o13 o14 o15 o16 o17 o18 o19 o20 o21 o22 : Oper} {l : List Oper} {ρ' : Env} (h : segR P ops [o0, o1, o2, o3, o4, o5, o6, o7, o8, o9, o10, o11, o12, o13, o14, o15, o16, o17, o18, o19, o20, o21, o22] ρ = some ρ') (k : qOps P ops w K l ρ') : qOps P ops w K (o0 :: o1 :: o2 :: o3 :: o4 :: o5 :: o6 :: o7 :: o8 :: o9 :: o10 :: o11 :: o12 :: o13 :: o14 :: o15 :: o16 :: o17 :: o18 :: o19 :: o20 :: o21 :: o22 :: l) ρ := qseg_app [o0, o1, o2, o3, o4, o5, o6, o7, o8, o9, o10, o11, o12, o13, o14, o15, o16, o17, o18, o19, o20, o21, o22] h k
theorem qseg24 {o0 o1 o2 o3 o4 o5 o6 o7 o8 o9 o10 o11 o12 o13 o14 o15 o16 o17 o18 o19 o20 o21 o22 o23 : Oper} {l : List Oper} {ρ' : Env} (h : segR P ops [o0, o1, o2, o3, o4, o5, o6, o7, o8, o9, o10, o11, o12, o13, o14, o15, o16, o17, o18, o19, o20, o21, o22, o23] ρ = some ρ') (k : qOps P ops w K l ρ') : qOps P ops w K (o0 :: o1 :: o2 :: o3 :: o4 :: o5 :: o6 :: o7 :: o8 :: o9 :: o10 :: o11 :: o12 :: o13 :: o14 :: o15 :: o16 :: o17 :: o18 :: o19 :: o20 :: o21 :: o22 :: o23 :: l) ρ := qseg_app [o0, o1, o2, o3, o4, o5, o6, o7, o8, o9, o10, o11, o12, o13, o14, o15, o16, o17, o18, o19, o20, o21, o22, o23] h k
theorem W_skipd {c : Code} (h : W P n c N R X ρ w) : W P n (.seq .skip c) N R X ρ w := W_seq (W_skip h)
theorem X_hit {i : Nat} {A B : Prop} (h : A) : cond (Nat.beq i i) A B := by simpa using h
theorem X_miss {i j : Nat} {A B : Prop} (hj : Nat.beq j i = false) (h : B) : cond (Nat.beq j i) A B := by rw [hj]; exact h
/-- Behind the region all that is told is C. -/
theorem op_cut {l : List Oper} (C : Env → World → Prop) (h1 : rOps P ops C l ρ w) (h2 : ∀ ρ w, C ρ w → N ρ w) : rOps P ops N l ρ w := by
  induction l generalizing ρ w with
  | nil => exact h2 _ _ h1
  | cons o l ih =>
    simp only [rOps] at h1 ⊢
    split
    · rename_i hw; rw [if_pos hw] at h1; exact h1.mono fun _ _ h => ih h
    · rename_i hw; rw [if_neg hw] at h1; exact ih h1
theorem W_rcut {i : Nat} {l : List Oper} {d : Bool} (C : Env → World → Prop) (h1 : W P n (.region i l.toArray d) C (fun _ _ => False) (fun _ _ _ => False) ρ w) (h2 : ∀ ρ w, C ρ w → N ρ w) : W P n (.region i l.toArray d) N R X ρ w :=
  W_mono h1 h2 (fun _ _ h => h.elim) (fun _ _ _ h => h.elim)
end

theorem Tch.t0 {w w1 w2 : World} (h : Tch N0 w w1) (k : Tch N0 w1 w2) : Tch N0 w w2 := h.trans k (fun _ _ e => e) (fun _ _ e => e)
theorem not_t {b : Bool} (h : (!b) = true) : b = false := by simpa using h
theorem not_f {b : Bool} (h : (!b) = false) : b = true := by simpa using h
theorem wrap_i64 {x : Int} (h0 : -9223372036854775808 ≤ x) (h1 : x ≤ 9223372036854775807) : IntKind.i64.wrap x = x := by
  rw [IntKind.wrap_i64]; omega
theorem wrap_u8 {x : Int} (h0 : 0 ≤ x) (h1 : x ≤ 255) : IntKind.u8.wrap x = x := by
  simp only [IntKind.wrap, IntKind.bits, IntKind.signed]; simp; omega
theorem wrap_u16 {x : Int} (h0 : 0 ≤ x) (h1 : x ≤ 65535) : IntKind.u16.wrap x = x := by
  simp only [IntKind.wrap, IntKind.bits, IntKind.signed]; simp; omega
theorem wrap_u32 {x : Int} (h0 : 0 ≤ x) (h1 : x ≤ 4294967295) : IntKind.u32.wrap x = x := by
  simp only [IntKind.wrap, IntKind.bits, IntKind.signed]; simp; omega
theorem wrap_u64 {x : Int} (h0 : 0 ≤ x) (h1 : x ≤ 18446744073709551615) : IntKind.u64.wrap x = x := by
  simp only [IntKind.wrap, IntKind.bits, IntKind.signed]; simp; omega
theorem wrap_i32 {x : Int} (h0 : -2147483648 ≤ x) (h1 : x ≤ 2147483647) : IntKind.i32.wrap x = x := by
  simp only [IntKind.wrap, IntKind.bits, IntKind.signed]; simp; omega
theorem get_part (l : List Value) (j : Nat) (cs : List Value) (k : Nat) (u : Value) (h : (l.drop j).take cs.length = cs) (hk : cs[k]? = some u) : l[j + k]? = some u := by
  have hl : k < cs.length := by
    rcases Nat.lt_or_ge k cs.length with h' | h'
    · exact h'
    · rw [List.getElem?_eq_none h'] at hk; cases hk
  have : ((l.drop j).take cs.length)[k]? = some u := by rw [h]; exact hk
  rw [List.getElem?_take_of_lt hl, List.getElem?_drop] at this
  exact this
/-! ### Frames told by a list -/
def updL (ρ : Env) : List (Nat × Value) → Env
  | [] => ρ
  | p :: l => upd (updL ρ l) p.1 p.2
theorem updL_self {ρ : Env} : ∀ {l : List (Nat × Value)}, l.map (fun p => ρ p.1) = l.map Prod.snd → ρ = updL ρ l
  | [], _ => rfl
  | p :: l, h => by
    simp only [List.map_cons, List.cons.injEq] at h
    have ih := updL_self h.2
    show ρ = upd (updL ρ l) p.1 p.2
    rw [← ih]
    exact upd_self h.1
/-- All but these slots is forgotten. -/
theorem W_fg {P : Program} {n : Nat} {c : Code} {N R : Env → World → Prop} {X : Nat → Env → World → Prop} {ρ : Env} {w : World} (l : List (Nat × Value)) (h : l.map (fun p => ρ p.1) = l.map Prod.snd) (k : ∀ ρ, W P n c N R X (updL ρ l) w) : W P n c N R X ρ w := by
  rw [updL_self h]; exact k ρ
/-- The end of a function. -/
theorem Res_of {P : Program} {fn : Func} {ρ : Env} {w : World} {v : Value} (h : retV fn ρ = some v) : Res P fn ρ w v := retV_run h
end Go.Proofs.YtnlecdpiccgdpaaV
