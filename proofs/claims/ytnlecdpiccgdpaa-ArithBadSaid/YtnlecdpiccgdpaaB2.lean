/- Walks of functions of the program and of the document's texts. The conditions stand with each theorem. -/
import Derived.Test.YtnlecdpiccgdpaaVx13
import Derived.Test.YtnlecdpiccgdpaaProg
import Derived.Test.YtnlecdpiccgdpaaVx4
import Derived.Test.YtnlecdpiccgdpaaB1
set_option linter.unusedVariables false
set_option linter.unusedSimpArgs false
namespace Go.Proofs.YtnlecdpiccgdpaaV
open Go Go.RowKit Go.Proofs

theorem tm_nat (x : Nat) : ((x : Int)).tmod 2 = ((x % 2 : Nat) : Int) := by rw [Int.tmod_eq_emod_of_nonneg (by omega)]; omega

set_option maxRecDepth 100000 in
theorem rnot_ok (x : Nat) (w : World) (hx : x < 4611686018427387904) : Ret Try.prog 19 [.int .i64 ((x : Nat) : Int)] w fun v w' => v = .int .i64 ((GateP.nt x : Nat) : Int) ∧ Tch N0 w w' := by
  refine enter Try.func19 rfl rfl ?_
  refine W_seq ?_
  refine W_region (by kernel_rfl) ?_
  refine sg [(2, .int .i64 0)] (by kernel_rfl) ?_
  refine op_nil ?_
  refine W_seq ?_
  refine W_seq ?_
  refine W_region (by kernel_rfl) ?_
  refine sg [(3, .int .i64 ((x : Nat) : Int)), (4, .bool (decide (((x : Nat) : Int) < 0)))] (by kernel_rfl) ?_
  refine op_nil ?_
  refine W_cond (decide (((x : Nat) : Int) < 0)) (by kernel_rfl) (by kernel_rfl) (fun hc1 => ?_) (fun hc1 => ?_)
  · replace hc1 : ((x : Nat) : Int) < 0 := (of_decide_eq_true hc1)
    exfalso; omega
  · replace hc1 : 0 ≤ ((x : Nat) : Int) := (Int.not_lt.1 (of_decide_eq_false hc1))
    refine W_skip ?_
    refine W_seq ?_
    refine W_seq ?_
    refine W_region (by kernel_rfl) ?_
    refine sg [(6, .int .i64 ((x : Nat) : Int)), (7, .int .i64 (((x : Nat) : Int).tmod 2))] (by kernel_rfl) ?_
    rw [show ((x : Nat) : Int).tmod 2 = ((x : Nat) : Int) % 2 from Int.tmod_eq_emod_of_nonneg (by omega)]
    refine fixR (y := ((x % 2 : Nat) : Int)) (by omega) ?_
    refine sg [(8, .bool (((x % 2 : Nat) : Int) == 1))] (by kernel_rfl) ?_
    refine op_nil ?_
    refine W_cond (((x % 2 : Nat) : Int) == 1) (by kernel_rfl) (by kernel_rfl) (fun hc2 => ?_) (fun hc2 => ?_)
    · replace hc2 : ((x % 2 : Nat) : Int) = 1 := (eq_of_beq hc2)
      refine W_seq ?_
      refine W_region (by kernel_rfl) ?_
      refine sg [(9, .int .i64 ((x : Nat) : Int)), (10, .int .i64 (IntKind.i64.wrap (((x : Nat) : Int) - 1)))] (by kernel_rfl) ?_
      rw [show IntKind.i64.wrap (((x : Nat) : Int) - 1) = ((x : Nat) : Int) - 1 from wrap_i64 (by omega) (by omega)]
      refine sg [(2, .int .i64 (((x : Nat) : Int) - 1))] (by kernel_rfl) ?_
      refine op_nil ?_
      refine W_ret ?_
      exact ⟨_, Res_of (v := .int .i64 (((x : Nat) : Int) - 1)) (by kernel_rfl), ⟨congrArg (Value.int .i64) (by unfold GateP.nt; split <;> omega), Tch.refl _ _⟩⟩
    · replace hc2 : ((x % 2 : Nat) : Int) ≠ 1 := (ne_of_beq_false hc2)
      refine W_skip ?_
      refine W_seq ?_
      refine W_region (by kernel_rfl) ?_
      refine sg [(11, .int .i64 ((x : Nat) : Int)), (12, .int .i64 (IntKind.i64.wrap (((x : Nat) : Int) + 1)))] (by kernel_rfl) ?_
      rw [show IntKind.i64.wrap (((x : Nat) : Int) + 1) = ((x : Nat) : Int) + 1 from wrap_i64 (by omega) (by omega)]
      refine sg [(2, .int .i64 (((x : Nat) : Int) + 1))] (by kernel_rfl) ?_
      refine op_nil ?_
      refine W_ret ?_
      exact ⟨_, Res_of (v := .int .i64 (((x : Nat) : Int) + 1)) (by kernel_rfl), ⟨congrArg (Value.int .i64) (by unfold GateP.nt; split <;> omega), Tch.refl _ _⟩⟩

set_option maxRecDepth 100000 in
theorem rneg_ok (x : Nat) (w : World) (hx : x < 4611686018427387904) : Ret Try.prog 74 [.int .i64 ((x : Nat) : Int)] w fun v w' => v = .bool (decide (x % 2 = 1)) ∧ Tch N0 w w' := by
  refine enter Try.func74 rfl rfl ?_
  refine W_seq ?_
  refine W_region (by kernel_rfl) ?_
  refine sg [(2, .bool false)] (by kernel_rfl) ?_
  refine op_nil ?_
  refine W_seq ?_
  refine W_region (by kernel_rfl) ?_
  refine sg [(3, .int .i64 ((x : Nat) : Int)), (4, .bool (decide (((x : Nat) : Int) ≥ 0))), (5, .bool (decide (((x : Nat) : Int) ≥ 0)))] (by kernel_rfl) ?_
  cases hb1 : decide (((x : Nat) : Int) ≥ 0)
  · replace hb1 : ((x : Nat) : Int) < 0 := (Int.not_le.1 (of_decide_eq_false hb1))
    exfalso; omega
  · replace hb1 : 0 ≤ ((x : Nat) : Int) := (of_decide_eq_true hb1)
    refine sg [(6, .int .i64 ((x : Nat) : Int)), (7, .int .i64 (((x : Nat) : Int).tmod 2))] (by kernel_rfl) ?_
    rw [show ((x : Nat) : Int).tmod 2 = ((x : Nat) : Int) % 2 from Int.tmod_eq_emod_of_nonneg (by omega)]
    refine fixR (y := ((x % 2 : Nat) : Int)) (by omega) ?_
    refine sg [(8, .bool (((x % 2 : Nat) : Int) == 1)), (9, .bool (((x % 2 : Nat) : Int) == 1)), (2, .bool (((x % 2 : Nat) : Int) == 1))] (by kernel_rfl) ?_
    refine op_nil ?_
    refine W_ret ?_
    exact ⟨_, Res_of (v := .bool (((x % 2 : Nat) : Int) == 1)) (by kernel_rfl), ⟨congrArg Value.bool (odd_eq x), Tch.refl _ _⟩⟩

end Go.Proofs.YtnlecdpiccgdpaaV
