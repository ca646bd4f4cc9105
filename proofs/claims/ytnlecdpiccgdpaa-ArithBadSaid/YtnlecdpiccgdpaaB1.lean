/- Walks of functions of the program and of the document's texts. The conditions stand with each theorem. -/
import Derived.Test.YtnlecdpiccgdpaaVx13
import Derived.Test.YtnlecdpiccgdpaaProg
import Derived.Test.YtnlecdpiccgdpaaVx4
import Derived.Test.YtnlecdpiccgdpaaLitP
set_option linter.unusedVariables false
set_option linter.unusedSimpArgs false
namespace Go.Proofs.YtnlecdpiccgdpaaV
open Go Go.RowKit Go.Proofs

theorem shr_nat (x : Nat) : ((x : Int)).fdiv (2 ^ 1) = ((x / 2 : Nat) : Int) := by rw [Int.fdiv_eq_ediv_of_nonneg _ (by decide)]; omega
theorem odd_eq (x : Nat) : ((((x % 2 : Nat) : Int)) == 1) = decide (x % 2 = 1) := by
  have h : x % 2 = 0 ∨ x % 2 = 1 := by omega
  rcases h with h | h <;> simp [h]

set_option maxRecDepth 100000 in
theorem of_ok (x : Nat) (w : World) (hx : x < 9223372036854775808) : Ret Try.prog 79 [.int .i64 ((x : Nat) : Int)] w fun v w' => v = .agg #[.int .i64 ((x / 2 : Nat) : Int), .bool (decide (x % 2 = 1))] ∧ Tch N0 w w' := by
  refine enter Try.func79 rfl rfl ?_
  refine W_seq ?_
  refine W_region (by kernel_rfl) ?_
  refine st (by rfl) (S_new (v := .pointer (some ⟨w.heap.size, 0, none⟩)) (ob := .cells #[.int .i64 0, .bool false] 104) (by kernel_rfl) fun w1 hT2 hs3 hB4 => ?_)
  replace hB4 : Blk w1 (w.heap.size) 104 [.int .i64 0, .bool false] := hB4
  have hT0 := hT2
  refine op_nil ?_
  refine W_seq ?_
  refine W_seq ?_
  refine W_region (by kernel_rfl) ?_
  refine sg [(3, .int .i64 ((x : Nat) : Int)), (4, .bool (decide (((x : Nat) : Int) < 0)))] (by kernel_rfl) ?_
  refine op_nil ?_
  refine W_cond (decide (((x : Nat) : Int) < 0)) (by kernel_rfl) (by kernel_rfl) (fun hc5 => ?_) (fun hc5 => ?_)
  · replace hc5 : ((x : Nat) : Int) < 0 := (of_decide_eq_true hc5)
    exfalso; omega
  · replace hc5 : 0 ≤ ((x : Nat) : Int) := (Int.not_lt.1 (of_decide_eq_false hc5))
    refine W_skip ?_
    refine W_seq ?_
    refine W_region (by kernel_rfl) ?_
    refine sg [(6, .int .i64 ((x : Nat) : Int))] (by kernel_rfl) ?_
    refine sg [(7, .int .i64 (((x : Nat) : Int).fdiv (2 ^ 1)))] (by kernel_rfl) ?_
    rw [shr_nat x]
    refine sg [(8, .int .i64 ((x : Nat) : Int))] (by kernel_rfl) ?_
    refine sg [(9, .int .i64 (IntKind.i64.wrap (BitVec.ofInt 64 ((x : Nat) : Int) &&& BitVec.ofInt 64 1).toNat))] (by kernel_rfl) ?_
    rw [GateP.and_i64 x (by omega)]
    refine sg [(10, .bool (((x % 2 : Nat) : Int) == 1))] (by kernel_rfl) ?_
    rw [odd_eq x]
    refine sg [(11, .agg #[.int .i64 ((x / 2 : Nat) : Int), .bool (decide (x % 2 = 1))])] (by kernel_rfl) ?_
    refine st (by rfl) (S_storeA (b := w.heap.size) (j := 0) (cs := [.int .i64 ((x / 2 : Nat) : Int), .bool (decide (x % 2 = 1))]) (by kernel_rfl) (by kernel_rfl) (by kernel_rfl) (by simp [oneV]) hB4 (by simp) fun w6 hT7 hs8 hB4' => ?_)
    have hT0 := (hT0).then hT7 (fun c e => by have : c = w.heap.size := e; omega)
    replace hB4 : Blk w6 w.heap.size 104 [.int .i64 ((x / 2 : Nat) : Int), .bool (decide (x % 2 = 1))] := hB4'
    refine op_nil ?_
    refine W_ret ?_
    exact ⟨_, Res_cell (b := w.heap.size) (cs := [.int .i64 ((x / 2 : Nat) : Int), .bool (decide (x % 2 = 1))]) (by rfl) (by kernel_rfl) (by kernel_rfl) hB4 (by kernel_rfl) (by kernel_rfl), ⟨rfl, hT0⟩⟩

set_option maxRecDepth 100000 in
theorem var_ok (x : Nat) (w : World) (hx : x < 9223372036854775808) : Ret Try.prog 77 [.int .i64 ((x : Nat) : Int)] w fun v w' => v = .int .i64 ((x / 2 : Nat) : Int) ∧ Tch N0 w w' := by
  refine enter Try.func77 rfl rfl ?_
  refine W_seq ?_
  refine W_region (by kernel_rfl) ?_
  refine sg [(2, .int .i64 0)] (by kernel_rfl) ?_
  refine op_nil ?_
  refine W_seq ?_
  refine W_region (by kernel_rfl) ?_
  refine sg [(3, .int .i64 ((x : Nat) : Int))] (by kernel_rfl) ?_
  refine st (by rfl) (S_call (args := [.int .i64 ((x : Nat) : Int)]) (by kernel_rfl) (of_ok x _ (by omega)) ?_)
  rintro _ w1 ⟨rfl, hT2⟩
  have hT0 := hT2
  refine sg [(5, .int .i64 ((x / 2 : Nat) : Int)), (2, .int .i64 ((x / 2 : Nat) : Int))] (by kernel_rfl) ?_
  refine op_nil ?_
  refine W_ret ?_
  exact ⟨_, Res_of (v := .int .i64 ((x / 2 : Nat) : Int)) (by kernel_rfl), ⟨rfl, hT0⟩⟩

set_option maxRecDepth 100000 in
theorem neg_ok (x : Nat) (w : World) (hx : x < 9223372036854775808) : Ret Try.prog 58 [.int .i64 ((x : Nat) : Int)] w fun v w' => v = .bool (decide (x % 2 = 1)) ∧ Tch N0 w w' := by
  refine enter Try.func58 rfl rfl ?_
  refine W_seq ?_
  refine W_region (by kernel_rfl) ?_
  refine sg [(2, .bool false)] (by kernel_rfl) ?_
  refine op_nil ?_
  refine W_seq ?_
  refine W_region (by kernel_rfl) ?_
  refine sg [(3, .int .i64 ((x : Nat) : Int))] (by kernel_rfl) ?_
  refine st (by rfl) (S_call (args := [.int .i64 ((x : Nat) : Int)]) (by kernel_rfl) (of_ok x _ (by omega)) ?_)
  rintro _ w1 ⟨rfl, hT2⟩
  have hT0 := hT2
  refine sg [(5, .bool (decide (x % 2 = 1))), (2, .bool (decide (x % 2 = 1)))] (by kernel_rfl) ?_
  refine op_nil ?_
  refine W_ret ?_
  exact ⟨_, Res_of (v := .bool (decide (x % 2 = 1))) (by kernel_rfl), ⟨rfl, hT0⟩⟩

set_option maxRecDepth 100000 in
theorem not_ok (x : Nat) (w : World) (hx : x < 9223372036854775808) : Ret Try.prog 56 [.int .i64 ((x : Nat) : Int)] w fun v w' => v = .int .i64 ((GateP.nt x : Nat) : Int) ∧ Tch N0 w w' := by
  refine enter Try.func56 rfl rfl ?_
  refine W_seq ?_
  refine W_region (by kernel_rfl) ?_
  refine sg [(2, .int .i64 0)] (by kernel_rfl) ?_
  refine op_nil ?_
  refine W_seq ?_
  refine W_seq ?_
  refine W_region (by kernel_rfl) ?_
  refine sg [(3, .int .i64 ((x : Nat) : Int)), (4, .bool (decide (((x : Nat) : Int) < 0)))] (by kernel_rfl) ?_
  refine op_nil ?_
  refine W_cond (decide (((x : Nat) : Int) < 0)) (by kernel_rfl) (by kernel_rfl) (fun hc1 => ?_) (fun hc1 => ?_)
  · replace hc1 : ((x : Nat) : Int) < 0 := (of_decide_eq_true hc1)
    exfalso; omega
  · replace hc1 : 0 ≤ ((x : Nat) : Int) := (Int.not_lt.1 (of_decide_eq_false hc1))
    refine W_skip ?_
    refine W_seq ?_
    refine W_region (by kernel_rfl) ?_
    refine sg [(6, .int .i64 ((x : Nat) : Int))] (by kernel_rfl) ?_
    refine sg [(7, .int .i64 (IntKind.i64.wrap (BitVec.ofInt 64 ((x : Nat) : Int) ^^^ BitVec.ofInt 64 1).toNat))] (by kernel_rfl) ?_
    rw [GateP.not_i64 x (by omega)]
    refine sg [(2, .int .i64 ((GateP.nt x : Nat) : Int))] (by kernel_rfl) ?_
    refine op_nil ?_
    refine W_ret ?_
    exact ⟨_, Res_of (v := .int .i64 ((GateP.nt x : Nat) : Int)) (by kernel_rfl), ⟨rfl, Tch.refl _ _⟩⟩

end Go.Proofs.YtnlecdpiccgdpaaV
