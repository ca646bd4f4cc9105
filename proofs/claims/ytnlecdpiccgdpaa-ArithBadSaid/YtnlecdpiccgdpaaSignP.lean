/- Signs: plain. -/
import Derived.Test.YtnlecdpiccgdpaaArithP
set_option linter.unusedVariables false
set_option linter.unusedSimpArgs false
namespace Go.Proofs.YtnlecdpiccgdpaaV
open Go Go.RowKit Go.Proofs
theorem cut_top (w x : Nat) (hw : 1 ≤ w) : cutN w x = cutN (w - 1) x + (if (cutN w x).testBit (w - 1) = true then pw (w - 1) else 0) := by
  obtain ⟨k, rfl⟩ : ∃ k, w = k + 1 := ⟨w - 1, by omega⟩
  have e : (cutN (k + 1) x).testBit (k + 1 - 1) = x.testBit k := by rw [cut_bit, show k + 1 - 1 = k from rfl, decide_eq_true (by omega), Bool.true_and]
  rw [e, show k + 1 - 1 = k from rfl]
  have h1 := bval_of (k + 1) x
  have h2 := bval_of k x
  rw [bval_succ, h2] at h1
  exact h1.symm
theorem or_high {w a : Nat} (hw : w ≤ 64) (ha : a < pw w) : a ||| (18446744073709551616 - pw w) = a + (18446744073709551616 - pw w) := by
  have hk : 18446744073709551616 - pw w = 2 ^ w * (2 ^ (64 - w) - 1) := by
    have : 2 ^ w * 2 ^ (64 - w) = 18446744073709551616 := by rw [← Nat.pow_add, show w + (64 - w) = 64 by omega]
    rw [Nat.mul_sub, this, Nat.mul_one]; rfl
  rw [hk, Nat.or_comm, Nat.add_comm]
  exact (Nat.two_pow_add_eq_or_of_lt ha _).symm
theorem sgn_neg {w x : Nat} (h1 : 1 ≤ w) (h2 : w ≤ 64) (h : (cutN w x).testBit (w - 1) = true) : IntKind.i64.wrap (((cutN w x + (18446744073709551616 - pw w) : Nat)) : Int) = sgn w x := by
  have ht := cut_top w x h1
  rw [if_pos h] at ht
  have hl := cutN_lt w x
  have hp := pw64 h2
  have hs : pw w = 2 * pw (w - 1) := by
    obtain ⟨k, rfl⟩ : ∃ k, w = k + 1 := ⟨w - 1, by omega⟩
    exact pw_succ k
  unfold sgn
  rw [if_pos h]
  simp only [IntKind.wrap, IntKind.bits, IntKind.signed]; simp; omega
theorem sgn_pos {w x : Nat} (h1 : 1 ≤ w) (h2 : w ≤ 64) (h : (cutN w x).testBit (w - 1) = false) : IntKind.i64.wrap ((cutN w x : Nat) : Int) = sgn w x := by
  have ht := cut_top w x h1
  rw [if_neg (by rw [h]; simp), Nat.add_zero] at ht
  have hl := cutN_lt (w - 1) x
  have hp := pw_u64 (i := w - 1) (by omega)
  unfold sgn
  rw [if_neg (by rw [h]; simp)]
  rw [wrap_i64 (by omega) (by omega)]
theorem sgn_cut (w x : Nat) : sgn w (cutN w x) = sgn w x := by unfold sgn; rw [cut_cut]
theorem cut_bit1 {w : Nat} (h : 1 ≤ w) (b : Bool) : cutN w (bitN b) = bitN b := by
  have : 2 ≤ pw w := by
    have := Nat.pow_le_pow_right (n := 2) (by decide) h
    unfold pw; omega
  unfold cutN bitN
  exact Nat.mod_eq_of_lt (by split <;> omega)
theorem beq_nat (a b : Nat) : (((a : Nat) : Int) == ((b : Nat) : Int)) = decide (a = b) := by
  by_cases h : a = b
  · subst h; simp
  · rw [decide_eq_false h]; exact beq_eq_false_iff_ne.2 (by omega)
theorem lt_nat (a b : Nat) : decide (((a : Nat) : Int) < ((b : Nat) : Int)) = decide (a < b) := decide_eq_decide.2 (by omega)
section
variable {P : Program} {ρ : Env} {w : World}
theorem R_not64 {d : Option Tmp} {t : TypeId} {x : Operand} {ty : TypeId} {pos : String} {af : Array Edge} {g : Option (Nat × Bool)} (a : Nat) (hx : evR ρ x = .int .u64 ((a : Nat) : Int)) (ha : a < 18446744073709551616) :
    (execOp (evR ρ) ⟨d, .unOp .xor t x, ty, pos, af, g⟩).run P w = .ok (.value (.int .u64 (((18446744073709551615 - a : Nat)) : Int))) w := by
  have e : IntKind.u64.wrap ((BitVec.ofInt 64 (18446744073709551615 : Int) ^^^ BitVec.ofInt 64 (a : Int)).toNat : Int) = ((18446744073709551615 - a : Nat) : Int) := by
    have h1 : BitVec.ofInt 64 (18446744073709551615 : Int) = BitVec.allOnes 64 := by decide
    have h2 : (BitVec.ofInt 64 (18446744073709551615 : Int) ^^^ BitVec.ofInt 64 (a : Int)).toNat = 18446744073709551615 - a := by
      rw [h1, BitVec.allOnes_xor, BitVec.toNat_not, bv_u a ha]
    rw [h2, wrap_u64 (by omega) (by omega)]
  simp only [execOp, hx]
  simp [Op.unary, Op.intBits, IntKind.signed, IntKind.max, IntKind.bits] at e ⊢
  exact e
end
theorem neg_u64 (a : Nat) (ha : a < 18446744073709551616) : IntKind.u64.wrap (0 - (a : Int)) = (((0 + (18446744073709551616 - a)) % 18446744073709551616 : Nat) : Int) := by
  have := u64_sub 0 a (by omega) ha
  simpa using this
end Go.Proofs.YtnlecdpiccgdpaaV
