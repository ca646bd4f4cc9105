/- Literals as whole numbers from 0 on: their Nots, their signs, by bits and by halves. -/
import Derived.Test.YtnlecdpiccgdpaaVx4
set_option linter.unusedVariables false
set_option linter.unusedSimpArgs false
namespace GateP
/-- The other literal. -/
def nt (x : Nat) : Nat := if x % 2 = 0 then x + 1 else x - 1
theorem xor_one (x : Nat) : x ^^^ 1 = nt x := by
  have h1 : (x ^^^ 1) / 2 = x / 2 := by
    rw [Nat.xor_div_two]; simp
  have h2 : (x ^^^ 1) % 2 = (x + 1) % 2 := by
    rw [← Nat.and_one_is_mod, Nat.and_xor_distrib_right]
    have h3 : x % 2 = 0 ∨ x % 2 = 1 := by omega
    rw [Nat.and_one_is_mod]
    rcases h3 with h3 | h3 <;> simp [h3] <;> omega
  unfold nt
  split <;> omega
theorem and_one (x : Nat) : x &&& 1 = x % 2 := Nat.and_one_is_mod x
theorem nt_lt {x n : Nat} (h : x < 2 * n) : nt x < 2 * n := by unfold nt; split <;> omega
theorem nt_nt (x : Nat) : nt (nt x) = x := by unfold nt; split <;> split <;> omega
theorem nt_div (x : Nat) : nt x / 2 = x / 2 := by unfold nt; split <;> omega
theorem nt_mod (x : Nat) : nt x % 2 = 1 - x % 2 := by unfold nt; split <;> omega
open Go in
theorem bv_nat (x : Nat) (h : x < 9223372036854775808) : (BitVec.ofInt 64 (x : Int)).toNat = x := by
  rw [BitVec.ofInt_natCast, BitVec.toNat_ofNat, Nat.mod_eq_of_lt (by omega)]
open Go in
theorem not_i64 (x : Nat) (h : x < 9223372036854775808) : IntKind.i64.wrap ((BitVec.ofInt 64 (x : Int) ^^^ BitVec.ofInt 64 1).toNat : Int) = ((nt x : Nat) : Int) := by
  have e : (BitVec.ofInt 64 (x : Int) ^^^ BitVec.ofInt 64 1).toNat = nt x := by
    rw [BitVec.toNat_xor, bv_nat x (by omega), show (BitVec.ofInt 64 1).toNat = 1 from rfl, xor_one]
  have h2 : nt x < 9223372036854775808 := by unfold nt; split <;> omega
  rw [e, IntKind.wrap_i64]; omega
open Go in
theorem and_i64 (x : Nat) (h : x < 9223372036854775808) : IntKind.i64.wrap ((BitVec.ofInt 64 (x : Int) &&& BitVec.ofInt 64 1).toNat : Int) = ((x % 2 : Nat) : Int) := by
  have e : (BitVec.ofInt 64 (x : Int) &&& BitVec.ofInt 64 1).toNat = x % 2 := by
    rw [BitVec.toNat_and, bv_nat x (by omega), show (BitVec.ofInt 64 1).toNat = 1 from rfl, and_one]
  rw [e, IntKind.wrap_i64]; omega
end GateP
