/- The calculus' words for a place of an array, by a pointer that only reads. -/
import Derived.Test.YtnlecdpiccgdpaaVx4
set_option linter.unusedVariables false
set_option linter.unusedSimpArgs false
namespace Go.Proofs.YtnlecdpiccgdpaaV
open Go Go.RowKit
section
variable {P : Program} {ρ : Env} {w : World}
theorem R_indexArr {d : Option Tmp} {t : TypeId} {u : Tmp} {c : Value} {m : Nat} {ty : TypeId} {pos : String} {af : Array Edge} {g : Option (Nat × Bool)} {A : Option Addr} {len sz j : Nat} {w0 : World} {cells : List Value} (hA : RdW w0 sz len A cells) (h0 : 0 < len)
    (hx : evR ρ (.tmp u) = ptrAt A j) (hf : ∀ b off, pureR P (execOp (fun o => match o with | .const v => v | _ => .pointer (some ⟨b, off, none⟩)) ⟨d, .indexAddr t (.tmp u) (.const c), ty, pos, af, g⟩) = some (.value (.pointer (some ⟨b, off + m, none⟩)))) :
    (execOp (evR ρ) ⟨d, .indexAddr t (.tmp u) (.const c), ty, pos, af, g⟩).run P w = .ok (.value (ptrAt A (j + m))) w := by
  obtain ⟨b, off, rfl⟩ := hA.some_ h0
  have h1 := pureR_run (w := w) (hf b (off + j))
  simp only [execOp] at h1 ⊢
  rw [hx]
  simp only [ptrAt, ← Nat.add_assoc]
  exact h1
end
end Go.Proofs.YtnlecdpiccgdpaaV
