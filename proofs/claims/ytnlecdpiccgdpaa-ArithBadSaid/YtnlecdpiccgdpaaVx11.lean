/- A loop of so many rounds, each by itself. -/
import Derived.Test.YtnlecdpiccgdpaaVx4
set_option linter.unusedVariables false
set_option linter.unusedSimpArgs false
namespace Go.Proofs.YtnlecdpiccgdpaaV
open Go Go.RowKit Go.Proofs
/-- At most k rounds from here. -/
def Un (P : Program) (n : Nat) (c : Code) (R : Env → World → Prop) (X : Nat → Env → World → Prop) : Nat → Env → World → Prop
  | 0 => fun _ _ => False
  | k + 1 => fun ρ w => W P n c (Un P n c R X k) R X ρ w
section
variable {P : Program} {n : Nat} {c : Code} {N R : Env → World → Prop} {X : Nat → Env → World → Prop} {ρ : Env} {w : World}
theorem Un_s {k : Nat} (h : W P n c (Un P n c R X k) R X ρ w) : Un P n c R X (k + 1) ρ w := h
theorem W_un (k : Nat) (h : Un P n c R X k ρ w) : W P n (.loop c) N R X ρ w :=
  W_loop (fun m ρ w => Un P n c R X m ρ w) (m := k) h fun m ρ w hI => by
    cases m with
    | zero => exact hI.elim
    | succ m => exact W_mono (show W P n c (Un P n c R X m) R X ρ w from hI) (fun ρ' w' q => ⟨m, Nat.lt_succ_self m, q⟩) (fun _ _ q => q) (fun _ _ _ q => q)
end
end Go.Proofs.YtnlecdpiccgdpaaV
