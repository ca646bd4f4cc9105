/- TermPlays: plain. -/
import Derived.Test.YtlbadnpgmkobdaaD2
set_option linter.unusedVariables false
set_option linter.unusedSimpArgs false
namespace Go.Proofs.YtlbadnpgmkobdaaV
open Go Go.RowKit Go.Proofs
section
variable {ρ : Env} {w : World}
theorem R_eqNd_t {d : Option Tmp} {u : TypeId} {x y : Operand} {ty : TypeId} {pos : String} {af : Array Edge} {g : Option (Nat × Bool)} (n m : Nd) (hx : evR ρ x = nodeV n) (hy : evR ρ y = nodeV m) (hn : nwf n) (e : n = m) :
    (execOp (evR ρ) ⟨d, .binOp .eql 32 x y u, ty, pos, af, g⟩).run Try.prog w = .ok (.value (.bool true)) w := by
  subst e
  rw [R_eqNd n n hx hy hn hn]; simp
theorem R_neNd_f {d : Option Tmp} {u : TypeId} {x y : Operand} {ty : TypeId} {pos : String} {af : Array Edge} {g : Option (Nat × Bool)} (n m : Nd) (hx : evR ρ x = nodeV n) (hy : evR ρ y = nodeV m) (hn : nwf n) (e : n = m) :
    (execOp (evR ρ) ⟨d, .binOp .neq 32 x y u, ty, pos, af, g⟩).run Try.prog w = .ok (.value (.bool false)) w := by
  subst e
  rw [R_neNd n n hx hy hn hn]; simp
end
def ndF (N : List Nd) (x : Int) : Nd := if 0 ≤ x ∧ x < (N.length : Int) then nth N x.toNat else nd0
theorem ndF_out {N : List Nd} {x : Int} (h : ¬ (0 ≤ x ∧ x < (N.length : Int))) : ndF N x = nd0 := by unfold ndF; rw [if_neg h]
theorem nwf_nd0 : nwf nd0 := nwf_of (by unfold b64; omega) (by unfold b64; omega) (by unfold b64; omega) (by unfold b64; omega) (by unfold b64; omega) (by unfold u64; omega)
theorem ndF_wf {N : List Nd} {most x : Int} (h : TI N most) : nwf (ndF N x) := by
  unfold ndF
  split
  · exact h.wf _ (nth_mem (by omega))
  · exact nwf_nd0
theorem node_ok (F : Nat → Prop) (p : Nat) (most : Int) (N : List Nd) (W : Value → Value → Prop) (ix : Int) (w : World) (hL : TLow F w p most N W) (hN : N.length ≤ 65536) :
    Ret Try.prog 14 [.pointer (some ⟨p, 0, none⟩), .int .i64 ix] w fun v w' => v = .tuple #[.agg #[.int .i64 (nO (ndF N ix)), .int .i64 (nW (ndF N ix)), .int .i64 (nA (ndF N ix)), .int .i64 (nB (ndF N ix)), .int .i64 (nC (ndF N ix)), .int .u64 (nV (ndF N ix))], .bool (isT N ix)] ∧ Tch N0 w w' := by
  by_cases h : 0 ≤ ix ∧ ix < (N.length : Int)
  · have e : isT N ix = true := decide_eq_true h
    have e2 : ndF N ix = nth N ix.toNat := by unfold ndF; rw [if_pos h]
    rw [e, e2]; exact node_in F p most N W ix w hL hN h.1 h.2
  · have e : isT N ix = false := decide_eq_false h
    rw [e, ndF_out h]; exact node_out F p most N W ix w hL hN h
theorem width_at (F : Nat → Prop) (p : Nat) (most : Int) (N : List Nd) (W : Value → Value → Prop) (i : Nat) (w : World) (hL : TLow F w p most N W) (hN : N.length ≤ 65536) (hi : i < N.length) :
    Ret Try.prog 15 [.pointer (some ⟨p, 0, none⟩), .int .i64 ((i : Nat) : Int)] w fun v w' => v = .int .i64 (nW (nth N i)) ∧ Tch N0 w w' := by
  have := width_in F p most N W (i : Int) w hL hN (by omega) (by omega)
  simpa only [Int.toNat_natCast] using this
end Go.Proofs.YtlbadnpgmkobdaaV
