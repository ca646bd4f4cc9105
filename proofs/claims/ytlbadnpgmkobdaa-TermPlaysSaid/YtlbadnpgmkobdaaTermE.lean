/- Whether two nodes are the same. -/
import Derived.Test.YtlbadnpgmkobdaaT4
set_option linter.unusedVariables false
set_option linter.unusedSimpArgs false
namespace Go.Proofs.YtlbadnpgmkobdaaV
open Go Go.RowKit Go.Proofs
theorem eqg32 : Try.prog.eqGuardType Try.prog.depth 32 = false := by kernel_rfl
theorem iface32 : (match Try.prog.underlying 32 with | some (.interface _) => true | _ => false) = false := by rw [Try.underlying32]
set_option maxRecDepth 100000 in
theorem equal_nd (w : World) {n m : Nd} (hn : nwf n) (hm : nwf m) : (Op.equal 32 (nodeV n) (nodeV m)).run Try.prog w = .ok (decide (n = m)) w := by
  obtain ⟨l1, h1⟩ := key_nd hn
  obtain ⟨l2, h2⟩ := key_nd hm
  obtain ⟨r, hr, hi⟩ := Go.run_equal_deep w (m := 3) (by omega) keyT32 (by rw [Try.underlying32]) h1 h2
  rw [hr]
  congr 1
  have : r = true ↔ n = m := hi.trans ⟨fun e => nodeV_inj (key_law32.inj h1 (e ▸ h2)), fun e => by subst e; rw [h1] at h2; injection h2⟩
  cases r <;> simp_all
section
variable {ρ : Env} {w : World}
set_option maxRecDepth 100000 in
theorem R_eqNd {d : Option Tmp} {u : TypeId} {x y : Operand} {ty : TypeId} {pos : String} {af : Array Edge} {g : Option (Nat × Bool)} (n m : Nd) (hx : evR ρ x = nodeV n) (hy : evR ρ y = nodeV m) (hn : nwf n) (hm : nwf m) :
    (execOp (evR ρ) ⟨d, .binOp .eql 32 x y u, ty, pos, af, g⟩).run Try.prog w = .ok (.value (.bool (decide (n = m)))) w := by
  have e := equal_nd w hn hm
  simp only [execOp, hx, hy]
  obtain ⟨c1, q1⟩ : ∃ c, nodeV n = .agg c := ⟨_, rfl⟩
  obtain ⟨c2, q2⟩ : ∃ c, nodeV m = .agg c := ⟨_, rfl⟩
  rw [q1, q2] at e ⊢
  simp [eqGuard, run_underlying Try.underlying32, eqg32, binOp, e]
set_option maxRecDepth 100000 in
theorem R_neNd {d : Option Tmp} {u : TypeId} {x y : Operand} {ty : TypeId} {pos : String} {af : Array Edge} {g : Option (Nat × Bool)} (n m : Nd) (hx : evR ρ x = nodeV n) (hy : evR ρ y = nodeV m) (hn : nwf n) (hm : nwf m) :
    (execOp (evR ρ) ⟨d, .binOp .neq 32 x y u, ty, pos, af, g⟩).run Try.prog w = .ok (.value (.bool (!decide (n = m)))) w := by
  have e := equal_nd w hn hm
  simp only [execOp, hx, hy]
  obtain ⟨c1, q1⟩ : ∃ c, nodeV n = .agg c := ⟨_, rfl⟩
  obtain ⟨c2, q2⟩ : ∃ c, nodeV m = .agg c := ⟨_, rfl⟩
  rw [q1, q2] at e ⊢
  simp [eqGuard, run_underlying Try.underlying32, eqg32, binOp, e]
end
end Go.Proofs.YtlbadnpgmkobdaaV
