/- The calculus, told shorter: a run tells what it puts. -/
import Derived.Test.YtnlecdpiccgdpaaVx6
set_option linter.unusedVariables false
set_option linter.unusedSimpArgs false
namespace Go.Proofs.YtnlecdpiccgdpaaV
open Go Go.RowKit Go.Proofs
/-- A frame into which these are put, one after the other. -/
@[reducible] def ups (ρ : Env) : List (Nat × Value) → Env
  | [] => ρ
  | p :: l => ups (upd ρ p.1 p.2) l
section
variable {P : Program} {ops : Array Oper} {K : Env → World → Prop} {ρ : Env} {w : World}
theorem sg (vs : List (Nat × Value)) {L : List Oper} (h : segR P ops (L.take vs.length) ρ = some (ups ρ vs)) (k : rOps P ops K (L.drop vs.length) (ups ρ vs) w) : rOps P ops K L ρ w := by
  have := seg_app (P := P) (ops := ops) (K := K) (L.take vs.length) h k
  rwa [List.take_append_drop] at this
theorem fixR {b : Env} {d : Nat} {kd : IntKind} {x y : Int} {L : List Oper} (e : x = y) (k : rOps P ops K L (upd b d (.int kd y)) w) : rOps P ops K L (upd b d (.int kd x)) w := by rw [e]; exact k
end
section
variable {P : Program} {ops : Array Oper} {K : Env → Prop} {ρ : Env} {w : World}
theorem qsg (vs : List (Nat × Value)) {L : List Oper} (h : segR P ops (L.take vs.length) ρ = some (ups ρ vs)) (k : qOps P ops w K (L.drop vs.length) (ups ρ vs)) : qOps P ops w K L ρ := by
  have := qseg_app (P := P) (ops := ops) (K := K) (L.take vs.length) h k
  rwa [List.take_append_drop] at this
theorem fixQ {b : Env} {d : Nat} {kd : IntKind} {x y : Int} {L : List Oper} (e : x = y) (k : qOps P ops w K L (upd b d (.int kd y))) : qOps P ops w K L (upd b d (.int kd x)) := by rw [e]; exact k
end
section
variable {P : Program} {n : Nat} {ops : Array Oper} {N : Env → World → Prop} {S : World → Prop} {listed : Array Bool} {ρ : Env} {w : World}
theorem dtk (is : List Nat) (listed' : Array Bool) (vs : List (Nat × Value)) (hS : S w) (h : takeR P ops is listed ρ = some (listed', ups ρ vs)) (k : dAny P n ops N S listed' (ups ρ vs) w) : dAny P n ops N S listed ρ w := d_takes is hS h k
theorem ttk {k0 : Nat} (is : List Nat) (listed' : Array Bool) (vs : List (Nat × Value)) (hS : S w) (h : takeT P ops k0 is listed ρ = some (listed', ups ρ vs)) (k : tAny P n ops N S k0 listed' (ups ρ vs) w) : tAny P n ops N S k0 listed ρ w := t_takes is hS h k
theorem fixD {b : Env} {d : Nat} {kd : IntKind} {x y : Int} (e : x = y) (k : dAny P n ops N S listed (upd b d (.int kd y)) w) : dAny P n ops N S listed (upd b d (.int kd x)) w := by rw [e]; exact k
theorem fixT {k0 : Nat} {b : Env} {d : Nat} {kd : IntKind} {x y : Int} (e : x = y) (k : tAny P n ops N S k0 listed (upd b d (.int kd y)) w) : tAny P n ops N S k0 listed (upd b d (.int kd x)) w := by rw [e]; exact k
end
end Go.Proofs.YtnlecdpiccgdpaaV
