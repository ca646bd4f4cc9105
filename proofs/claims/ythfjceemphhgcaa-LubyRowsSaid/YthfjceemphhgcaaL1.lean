/- Walks of functions of the program and of the document's texts: each call returns what the plain function says, and turns nothing that lay. The conditions stand with each theorem. -/
import Derived.Test.YthfjceemphhgcaaProg
import Derived.Test.YthfjceemphhgcaaVx2
import Derived.Test.YthfjceemphhgcaaLuby
import Derived.Test.YthfjceemphhgcaaVx3
set_option linter.unusedVariables false
set_option linter.unusedSimpArgs false
namespace Go.Proofs.YthfjceemphhgcaaV
open Go Go.RowKit Go.Proofs

set_option maxRecDepth 100000 in
theorem lubyTerm_same (i : Int) (w : World) : Ret Try.prog 9 [.int .i64 i] w fun v w' => v = .int .i64 (LubyP.term i) ∧ w = w' := by
  refine enter Try.func9 rfl rfl ?_
  refine W_seq ?_
  refine W_region (by kernel_rfl) ?_
  refine seg1 (ρ' := upd (ini [.int .i64 i]) 2 (.int .i64 0)) (by kernel_rfl) ?_
  refine op_nil ?_
  refine W_seq ?_
  refine W_seq ?_
  refine W_rcut (C := fun ρ' w' => ∃  (ρ0 : Env), ρ' = updL ρ0 [(0, .int .i64 i), (2, .int .i64 0), (9, .bool ((decide (i < 1)) || (decide (i > 1099511627776))))] ∧ w = w') ?_ ?_
  · refine W_region (by kernel_rfl) ?_
    refine seg3 (ρ' := upd (upd (upd (upd (ini [.int .i64 i]) 2 (.int .i64 0)) 4 (.int .i64 i)) 5 (.bool (decide (i < 1)))) 6 (.bool (decide (i < 1)))) (by kernel_rfl) ?_
    cases hb1 : decide (i < 1)
    · replace hb1 : 1 ≤ i := (Int.not_lt.1 (of_decide_eq_false hb1))
      refine seg3 (ρ' := upd (upd (upd (upd (upd (upd (upd (ini [.int .i64 i]) 2 (.int .i64 0)) 4 (.int .i64 i)) 5 (.bool false)) 6 (.bool false)) 7 (.int .i64 i)) 8 (.bool (decide (i > 1099511627776)))) 9 (.bool (decide (i > 1099511627776)))) (by kernel_rfl) ?_
      refine op_nil ?_
      exact ⟨_, updL_self (by kernel_rfl), rfl⟩
    · replace hb1 : i < 1 := (of_decide_eq_true hb1)
      refine seg3 (ρ' := upd (upd (upd (upd (upd (upd (upd (ini [.int .i64 i]) 2 (.int .i64 0)) 4 (.int .i64 i)) 5 (.bool true)) 6 (.bool true)) 7 (undef)) 8 (undef)) 9 (.bool true)) (by kernel_rfl) ?_
      refine op_nil ?_
      exact ⟨_, updL_self (by kernel_rfl), rfl⟩
  · rintro _ w2 ⟨ρ, rfl, rfl⟩
    refine W_cond (((decide (i < 1)) || (decide (i > 1099511627776)))) (by kernel_rfl) (by kernel_rfl) (fun hc4 => ?_) (fun hc4 => ?_)
    · replace hc4 : (i < 1) ∨ (1099511627776 < i) := (Bool.or_eq_true_iff.1 hc4).imp (fun h => (of_decide_eq_true h)) (fun h => (of_decide_eq_true h))
      refine W_seq ?_
      refine W_region (by kernel_rfl) ?_
      refine seg1 (ρ' := upd (updL ρ [(0, .int .i64 i), (2, .int .i64 0), (9, .bool ((decide (i < 1)) || (decide (i > 1099511627776))))]) 2 (.int .i64 0)) (by kernel_rfl) ?_
      refine op_nil ?_
      refine W_ret ?_
      exact ⟨_, Res_of (v := .int .i64 0) (by kernel_rfl), ⟨congrArg (Value.int .i64) (by rw [LubyP.term, if_pos (by omega)]), rfl⟩⟩
    · replace hc4 : (1 ≤ i) ∧ (i ≤ 1099511627776) := ⟨(Int.not_lt.1 (of_decide_eq_false (Bool.or_eq_false_iff.1 hc4).1)), (Int.not_lt.1 (of_decide_eq_false (Bool.or_eq_false_iff.1 hc4).2))⟩
      refine W_skip ?_
      refine W_block ?_
      refine W_loop (fun m ρ w' => ∃ (x : Int) (ρ0 : Env), ρ = updL ρ0 [(0, .int .i64 x)] ∧ (1 ≤ x) ∧ (x ≤ 1099511627776) ∧ (LubyP.lub x.toNat = LubyP.lub i.toNat) ∧ w = w' ∧ m = x.toNat) (m := i.toNat) ?_ ?_
      · refine ⟨i, _, updL_self (by kernel_rfl), by omega, by omega, rfl, rfl, rfl⟩
      · rintro m ρ w5 ⟨x, ρ, rfl, h1, h2, h3, rfl, rfl⟩
        refine W_block ?_
        refine W_seq ?_
        refine W_region (by kernel_rfl) ?_
        refine seg1 (ρ' := upd (updL ρ [(0, .int .i64 x)]) 3 (.int .i64 2)) (by kernel_rfl) ?_
        refine op_nil ?_
        refine W_seq ?_
        refine W_block ?_
        refine W_loop (fun m ρ w' => ∃ (p : Int) (k : Nat) (ρ0 : Env), ρ = updL ρ0 [(0, .int .i64 x), (3, .int .i64 p)] ∧ (1 ≤ k) ∧ (p = ((2 ^ k : Nat) : Int)) ∧ (p ≤ 2 * x) ∧ (2 ≤ p) ∧ w = w' ∧ m = (2 * x + 2 - p).toNat) (m := (2 * x + 2 - 2).toNat) ?_ ?_
        · refine ⟨2, 1, _, updL_self (by kernel_rfl), by omega, rfl, by omega, by omega, rfl, rfl⟩
        · rintro m ρ w6 ⟨p, k, ρ, rfl, k1, k2, k3, k4, rfl, rfl⟩
          refine W_seq ?_
          refine W_seq ?_
          refine W_region (by kernel_rfl) ?_
          refine seg3 (ρ' := upd (upd (upd (updL ρ [(0, .int .i64 x), (3, .int .i64 p)]) 10 (.int .i64 p)) 11 (.int .i64 x)) 12 (.bool (decide (p ≤ x)))) (by kernel_rfl) ?_
          refine op_nil ?_
          refine W_cond (decide (p ≤ x)) (by kernel_rfl) (by kernel_rfl) (fun hc7 => ?_) (fun hc7 => ?_)
          · replace hc7 : p ≤ x := (of_decide_eq_true hc7)
            refine W_skip ?_
            refine W_block ?_
            refine W_region (by kernel_rfl) ?_
            refine seg2 (ρ' := upd (upd (upd (upd (upd (updL ρ [(0, .int .i64 x), (3, .int .i64 p)]) 10 (.int .i64 p)) 11 (.int .i64 x)) 12 (.bool (decide (p ≤ x)))) 13 (.int .i64 p)) 14 (.int .i64 (IntKind.i64.wrap (p * 2)))) (by kernel_rfl) ?_
            rw [show IntKind.i64.wrap (p * 2) = p * 2 from wrap_i64 (by omega) (by omega)]
            refine seg1 (ρ' := upd (upd (upd (upd (upd (upd (updL ρ [(0, .int .i64 x), (3, .int .i64 p)]) 10 (.int .i64 p)) 11 (.int .i64 x)) 12 (.bool (decide (p ≤ x)))) 13 (.int .i64 p)) 14 (.int .i64 (p * 2))) 3 (.int .i64 (p * 2))) (by kernel_rfl) ?_
            refine op_nil ?_
            refine ⟨_, ?_, p * 2, k + 1, _, updL_self (by kernel_rfl), ?_, ?_, ?_, ?_, rfl, rfl⟩
            · omega
            · omega
            · rw [Nat.pow_succ]; omega
            · omega
            · omega
          · replace hc7 : x < p := (Int.not_le.1 (of_decide_eq_false hc7))
            refine W_exit ?_
            refine X_hit ?_
            refine W_seq ?_
            refine W_seq ?_
            refine W_region (by kernel_rfl) ?_
            refine seg3 (ρ' := upd (upd (upd (upd (upd (upd (updL ρ [(0, .int .i64 x), (3, .int .i64 p)]) 10 (.int .i64 p)) 11 (.int .i64 x)) 12 (.bool (decide (p ≤ x)))) 15 (.int .i64 x)) 16 (.int .i64 p)) 17 (.int .i64 (IntKind.i64.wrap (p - 1)))) (by kernel_rfl) ?_
            rw [show IntKind.i64.wrap (p - 1) = p - 1 from wrap_i64 (by omega) (by omega)]
            refine seg1 (ρ' := upd (upd (upd (upd (upd (upd (upd (updL ρ [(0, .int .i64 x), (3, .int .i64 p)]) 10 (.int .i64 p)) 11 (.int .i64 x)) 12 (.bool (decide (p ≤ x)))) 15 (.int .i64 x)) 16 (.int .i64 p)) 17 (.int .i64 (p - 1))) 18 (.bool (x == (p - 1)))) (by kernel_rfl) ?_
            refine op_nil ?_
            refine W_cond (x == (p - 1)) (by kernel_rfl) (by kernel_rfl) (fun hc8 => ?_) (fun hc8 => ?_)
            · replace hc8 : x = p - 1 := (eq_of_beq hc8)
              refine W_seq ?_
              refine W_region (by kernel_rfl) ?_
              refine seg2 (ρ' := upd (upd (upd (upd (upd (upd (upd (upd (upd (updL ρ [(0, .int .i64 x), (3, .int .i64 p)]) 10 (.int .i64 p)) 11 (.int .i64 x)) 12 (.bool (decide (p ≤ x)))) 15 (.int .i64 x)) 16 (.int .i64 p)) 17 (.int .i64 (p - 1))) 18 (.bool (x == (p - 1)))) 19 (.int .i64 p)) 20 (.int .i64 (IntKind.i64.wrap (p.tdiv 2)))) (by kernel_rfl) ?_
              rw [show IntKind.i64.wrap (p.tdiv 2) = p / 2 from by rw [Int.tdiv_eq_ediv_of_nonneg (by omega)]; exact wrap_i64 (by omega) (by omega)]
              refine seg1 (ρ' := upd (upd (upd (upd (upd (upd (upd (upd (upd (upd (updL ρ [(0, .int .i64 x), (3, .int .i64 p)]) 10 (.int .i64 p)) 11 (.int .i64 x)) 12 (.bool (decide (p ≤ x)))) 15 (.int .i64 x)) 16 (.int .i64 p)) 17 (.int .i64 (p - 1))) 18 (.bool (x == (p - 1)))) 19 (.int .i64 p)) 20 (.int .i64 (p / 2))) 2 (.int .i64 (p / 2))) (by kernel_rfl) ?_
              refine op_nil ?_
              refine W_ret ?_
              exact ⟨_, Res_of (v := .int .i64 (p / 2)) (by kernel_rfl), ⟨congrArg (Value.int .i64) (by exact LubyP.term_top h1 h2 k1 k2 (by omega) h3 (by omega) (by omega)), rfl⟩⟩
            · replace hc8 : x ≠ p - 1 := (ne_of_beq_false hc8)
              refine W_skip ?_
              refine W_region (by kernel_rfl) ?_
              refine seg3 (ρ' := upd (upd (upd (upd (upd (upd (upd (upd (upd (upd (updL ρ [(0, .int .i64 x), (3, .int .i64 p)]) 10 (.int .i64 p)) 11 (.int .i64 x)) 12 (.bool (decide (p ≤ x)))) 15 (.int .i64 x)) 16 (.int .i64 p)) 17 (.int .i64 (p - 1))) 18 (.bool (x == (p - 1)))) 21 (.int .i64 x)) 22 (.int .i64 p)) 23 (.int .i64 (IntKind.i64.wrap (p.tdiv 2)))) (by kernel_rfl) ?_
              rw [show IntKind.i64.wrap (p.tdiv 2) = p / 2 from by rw [Int.tdiv_eq_ediv_of_nonneg (by omega)]; exact wrap_i64 (by omega) (by omega)]
              refine seg1 (ρ' := upd (upd (upd (upd (upd (upd (upd (upd (upd (upd (upd (updL ρ [(0, .int .i64 x), (3, .int .i64 p)]) 10 (.int .i64 p)) 11 (.int .i64 x)) 12 (.bool (decide (p ≤ x)))) 15 (.int .i64 x)) 16 (.int .i64 p)) 17 (.int .i64 (p - 1))) 18 (.bool (x == (p - 1)))) 21 (.int .i64 x)) 22 (.int .i64 p)) 23 (.int .i64 (p / 2))) 24 (.int .i64 (IntKind.i64.wrap ((p / 2) - 1)))) (by kernel_rfl) ?_
              rw [show IntKind.i64.wrap ((p / 2) - 1) = (p / 2) - 1 from wrap_i64 (by omega) (by omega)]
              refine seg1 (ρ' := upd (upd (upd (upd (upd (upd (upd (upd (upd (upd (upd (upd (updL ρ [(0, .int .i64 x), (3, .int .i64 p)]) 10 (.int .i64 p)) 11 (.int .i64 x)) 12 (.bool (decide (p ≤ x)))) 15 (.int .i64 x)) 16 (.int .i64 p)) 17 (.int .i64 (p - 1))) 18 (.bool (x == (p - 1)))) 21 (.int .i64 x)) 22 (.int .i64 p)) 23 (.int .i64 (p / 2))) 24 (.int .i64 ((p / 2) - 1))) 25 (.int .i64 (IntKind.i64.wrap (x - ((p / 2) - 1))))) (by kernel_rfl) ?_
              rw [show IntKind.i64.wrap (x - ((p / 2) - 1)) = x - ((p / 2) - 1) from wrap_i64 (by omega) (by omega)]
              refine seg1 (ρ' := upd (upd (upd (upd (upd (upd (upd (upd (upd (upd (upd (upd (upd (updL ρ [(0, .int .i64 x), (3, .int .i64 p)]) 10 (.int .i64 p)) 11 (.int .i64 x)) 12 (.bool (decide (p ≤ x)))) 15 (.int .i64 x)) 16 (.int .i64 p)) 17 (.int .i64 (p - 1))) 18 (.bool (x == (p - 1)))) 21 (.int .i64 x)) 22 (.int .i64 p)) 23 (.int .i64 (p / 2))) 24 (.int .i64 ((p / 2) - 1))) 25 (.int .i64 (x - ((p / 2) - 1)))) 0 (.int .i64 (x - ((p / 2) - 1)))) (by kernel_rfl) ?_
              refine op_nil ?_
              refine ⟨_, ?_, x - ((p / 2) - 1), _, updL_self (by kernel_rfl), ?_, ?_, ?_, rfl, rfl⟩
              · omega
              · omega
              · omega
              · rw [← h3]; exact LubyP.step_eq h1 k1 k2 (by omega) (by omega) (by omega)

theorem lubyTerm_ok (i : Int) (w : World) : Ret Try.prog 9 [.int .i64 i] w fun v w' => v = .int .i64 (LubyP.term i) ∧ Tch N0 w w' := (lubyTerm_same i w).mono fun _ _ ⟨a, b⟩ => ⟨a, b ▸ Tch.refl _ _⟩

set_option maxRecDepth 100000 in
theorem refTerm_all (n : Nat) : ∀ (i : Int) (w : World), i.toNat ≤ n → Ret Try.prog 10 [.int .i64 i] w fun v w' => v = .int .i64 (LubyP.term i) ∧ Tch N0 w w' := by
  induction n using Nat.strongRecOn with
  | _ n ih =>
  intro i w hn
  refine enter Try.func10 rfl rfl ?_
  refine W_seq ?_
  refine W_region (by kernel_rfl) ?_
  refine seg1 (ρ' := upd (ini [.int .i64 i]) 2 (.int .i64 0)) (by kernel_rfl) ?_
  refine op_nil ?_
  refine W_seq ?_
  refine W_seq ?_
  refine W_rcut (C := fun ρ' w' => ∃  (ρ0 : Env), ρ' = updL ρ0 [(0, .int .i64 i), (2, .int .i64 0), (9, .bool ((decide (i < 1)) || (decide (i > 1099511627776))))] ∧ Tch N0 w w') ?_ ?_
  · refine W_region (by kernel_rfl) ?_
    refine seg3 (ρ' := upd (upd (upd (upd (ini [.int .i64 i]) 2 (.int .i64 0)) 4 (.int .i64 i)) 5 (.bool (decide (i < 1)))) 6 (.bool (decide (i < 1)))) (by kernel_rfl) ?_
    cases hb1 : decide (i < 1)
    · replace hb1 : 1 ≤ i := (Int.not_lt.1 (of_decide_eq_false hb1))
      refine seg3 (ρ' := upd (upd (upd (upd (upd (upd (upd (ini [.int .i64 i]) 2 (.int .i64 0)) 4 (.int .i64 i)) 5 (.bool false)) 6 (.bool false)) 7 (.int .i64 i)) 8 (.bool (decide (i > 1099511627776)))) 9 (.bool (decide (i > 1099511627776)))) (by kernel_rfl) ?_
      refine op_nil ?_
      exact ⟨_, updL_self (by kernel_rfl), Tch.refl _ _⟩
    · replace hb1 : i < 1 := (of_decide_eq_true hb1)
      refine seg3 (ρ' := upd (upd (upd (upd (upd (upd (upd (ini [.int .i64 i]) 2 (.int .i64 0)) 4 (.int .i64 i)) 5 (.bool true)) 6 (.bool true)) 7 (undef)) 8 (undef)) 9 (.bool true)) (by kernel_rfl) ?_
      refine op_nil ?_
      exact ⟨_, updL_self (by kernel_rfl), Tch.refl _ _⟩
  · rintro _ w2 ⟨ρ, rfl, hT3⟩
    have hT0 := hT3
    refine W_cond (((decide (i < 1)) || (decide (i > 1099511627776)))) (by kernel_rfl) (by kernel_rfl) (fun hc4 => ?_) (fun hc4 => ?_)
    · replace hc4 : (i < 1) ∨ (1099511627776 < i) := (Bool.or_eq_true_iff.1 hc4).imp (fun h => (of_decide_eq_true h)) (fun h => (of_decide_eq_true h))
      refine W_seq ?_
      refine W_region (by kernel_rfl) ?_
      refine seg1 (ρ' := upd (updL ρ [(0, .int .i64 i), (2, .int .i64 0), (9, .bool ((decide (i < 1)) || (decide (i > 1099511627776))))]) 2 (.int .i64 0)) (by kernel_rfl) ?_
      refine op_nil ?_
      refine W_ret ?_
      exact ⟨_, Res_of (v := .int .i64 0) (by kernel_rfl), ⟨congrArg (Value.int .i64) (by rw [LubyP.term, if_pos (by omega)]), hT0⟩⟩
    · replace hc4 : (1 ≤ i) ∧ (i ≤ 1099511627776) := ⟨(Int.not_lt.1 (of_decide_eq_false (Bool.or_eq_false_iff.1 hc4).1)), (Int.not_lt.1 (of_decide_eq_false (Bool.or_eq_false_iff.1 hc4).2))⟩
      refine W_skip ?_
      refine W_seq ?_
      refine W_region (by kernel_rfl) ?_
      refine seg1 (ρ' := upd (updL ρ [(0, .int .i64 i), (2, .int .i64 0), (9, .bool ((decide (i < 1)) || (decide (i > 1099511627776))))]) 3 (.int .i64 1)) (by kernel_rfl) ?_
      refine op_nil ?_
      refine W_seq ?_
      refine W_block ?_
      refine W_loop (fun m ρ w' => ∃ (p : Int) (k : Nat) (ρ0 : Env), ρ = updL ρ0 [(0, .int .i64 i), (3, .int .i64 p)] ∧ (p = ((2 ^ k : Nat) : Int)) ∧ (p ≤ i + 1) ∧ (1 ≤ p) ∧ w2 = w' ∧ m = (i + 1 - p).toNat) (m := (i + 1 - 1).toNat) ?_ ?_
      · refine ⟨1, 0, _, updL_self (by kernel_rfl), rfl, by omega, by omega, rfl, rfl⟩
      · rintro m ρ w5 ⟨p, k, ρ, rfl, k2, k3, k4, rfl, rfl⟩
        refine W_seq ?_
        refine W_seq ?_
        refine W_region (by kernel_rfl) ?_
        refine seg2 (ρ' := upd (upd (updL ρ [(0, .int .i64 i), (3, .int .i64 p)]) 10 (.int .i64 p)) 11 (.int .i64 (IntKind.i64.wrap (p * 2)))) (by kernel_rfl) ?_
        rw [show IntKind.i64.wrap (p * 2) = p * 2 from wrap_i64 (by omega) (by omega)]
        refine seg2 (ρ' := upd (upd (upd (upd (updL ρ [(0, .int .i64 i), (3, .int .i64 p)]) 10 (.int .i64 p)) 11 (.int .i64 (p * 2))) 12 (.int .i64 i)) 13 (.int .i64 (IntKind.i64.wrap (i + 1)))) (by kernel_rfl) ?_
        rw [show IntKind.i64.wrap (i + 1) = i + 1 from wrap_i64 (by omega) (by omega)]
        refine seg1 (ρ' := upd (upd (upd (upd (upd (updL ρ [(0, .int .i64 i), (3, .int .i64 p)]) 10 (.int .i64 p)) 11 (.int .i64 (p * 2))) 12 (.int .i64 i)) 13 (.int .i64 (i + 1))) 14 (.bool (decide (p * 2 ≤ i + 1)))) (by kernel_rfl) ?_
        refine op_nil ?_
        refine W_cond (decide (p * 2 ≤ i + 1)) (by kernel_rfl) (by kernel_rfl) (fun hc6 => ?_) (fun hc6 => ?_)
        · replace hc6 : p * 2 ≤ i + 1 := (of_decide_eq_true hc6)
          refine W_skip ?_
          refine W_block ?_
          refine W_region (by kernel_rfl) ?_
          refine seg2 (ρ' := upd (upd (upd (upd (upd (upd (upd (updL ρ [(0, .int .i64 i), (3, .int .i64 p)]) 10 (.int .i64 p)) 11 (.int .i64 (p * 2))) 12 (.int .i64 i)) 13 (.int .i64 (i + 1))) 14 (.bool (decide (p * 2 ≤ i + 1)))) 15 (.int .i64 p)) 16 (.int .i64 (IntKind.i64.wrap (p * 2)))) (by kernel_rfl) ?_
          rw [show IntKind.i64.wrap (p * 2) = p * 2 from wrap_i64 (by omega) (by omega)]
          refine seg1 (ρ' := upd (upd (upd (upd (upd (upd (upd (upd (updL ρ [(0, .int .i64 i), (3, .int .i64 p)]) 10 (.int .i64 p)) 11 (.int .i64 (p * 2))) 12 (.int .i64 i)) 13 (.int .i64 (i + 1))) 14 (.bool (decide (p * 2 ≤ i + 1)))) 15 (.int .i64 p)) 16 (.int .i64 (p * 2))) 3 (.int .i64 (p * 2))) (by kernel_rfl) ?_
          refine op_nil ?_
          refine ⟨_, ?_, p * 2, k + 1, _, updL_self (by kernel_rfl), ?_, ?_, ?_, rfl, rfl⟩
          · omega
          · rw [Nat.pow_succ]; omega
          · omega
          · omega
        · replace hc6 : i + 1 < p * 2 := (Int.not_le.1 (of_decide_eq_false hc6))
          refine W_exit ?_
          refine X_hit ?_
          refine W_seq ?_
          refine W_seq ?_
          refine W_region (by kernel_rfl) ?_
          refine seg3 (ρ' := upd (upd (upd (upd (upd (upd (upd (upd (updL ρ [(0, .int .i64 i), (3, .int .i64 p)]) 10 (.int .i64 p)) 11 (.int .i64 (p * 2))) 12 (.int .i64 i)) 13 (.int .i64 (i + 1))) 14 (.bool (decide (p * 2 ≤ i + 1)))) 17 (.int .i64 p)) 18 (.int .i64 i)) 19 (.int .i64 (IntKind.i64.wrap (i + 1)))) (by kernel_rfl) ?_
          rw [show IntKind.i64.wrap (i + 1) = i + 1 from wrap_i64 (by omega) (by omega)]
          refine seg1 (ρ' := upd (upd (upd (upd (upd (upd (upd (upd (upd (updL ρ [(0, .int .i64 i), (3, .int .i64 p)]) 10 (.int .i64 p)) 11 (.int .i64 (p * 2))) 12 (.int .i64 i)) 13 (.int .i64 (i + 1))) 14 (.bool (decide (p * 2 ≤ i + 1)))) 17 (.int .i64 p)) 18 (.int .i64 i)) 19 (.int .i64 (i + 1))) 20 (.bool (p == (i + 1)))) (by kernel_rfl) ?_
          refine op_nil ?_
          refine W_cond (p == (i + 1)) (by kernel_rfl) (by kernel_rfl) (fun hc7 => ?_) (fun hc7 => ?_)
          · replace hc7 : p = i + 1 := (eq_of_beq hc7)
            refine W_seq ?_
            refine W_fg [(0, .int .i64 i), (3, .int .i64 p), (14, .bool (decide (p * 2 ≤ i + 1))), (20, .bool (p == (i + 1)))] (by kernel_rfl) fun ρ => ?_
            refine W_region (by kernel_rfl) ?_
            refine seg2 (ρ' := upd (upd (updL ρ [(0, .int .i64 i), (3, .int .i64 p), (14, .bool (decide (p * 2 ≤ i + 1))), (20, .bool (p == (i + 1)))]) 21 (.int .i64 p)) 22 (.int .i64 (IntKind.i64.wrap (p.tdiv 2)))) (by kernel_rfl) ?_
            rw [show IntKind.i64.wrap (p.tdiv 2) = p / 2 from by rw [Int.tdiv_eq_ediv_of_nonneg (by omega)]; exact wrap_i64 (by omega) (by omega)]
            refine seg1 (ρ' := upd (upd (upd (updL ρ [(0, .int .i64 i), (3, .int .i64 p), (14, .bool (decide (p * 2 ≤ i + 1))), (20, .bool (p == (i + 1)))]) 21 (.int .i64 p)) 22 (.int .i64 (p / 2))) 2 (.int .i64 (p / 2))) (by kernel_rfl) ?_
            refine op_nil ?_
            refine W_ret ?_
            exact ⟨_, Res_of (v := .int .i64 (p / 2)) (by kernel_rfl), ⟨congrArg (Value.int .i64) (by exact LubyP.ref_top k2 k3 (by omega) (by omega) (by omega) (by omega)), hT0⟩⟩
          · replace hc7 : p ≠ i + 1 := (ne_of_beq_false hc7)
            refine W_skip ?_
            refine W_seq ?_
            refine W_fg [(0, .int .i64 i), (3, .int .i64 p), (14, .bool (decide (p * 2 ≤ i + 1))), (20, .bool (p == (i + 1)))] (by kernel_rfl) fun ρ => ?_
            refine W_region (by kernel_rfl) ?_
            refine seg3 (ρ' := upd (upd (upd (updL ρ [(0, .int .i64 i), (3, .int .i64 p), (14, .bool (decide (p * 2 ≤ i + 1))), (20, .bool (p == (i + 1)))]) 23 (.int .i64 i)) 24 (.int .i64 p)) 25 (.int .i64 (IntKind.i64.wrap (i - p)))) (by kernel_rfl) ?_
            rw [show IntKind.i64.wrap (i - p) = i - p from wrap_i64 (by omega) (by omega)]
            refine seg1 (ρ' := upd (upd (upd (upd (updL ρ [(0, .int .i64 i), (3, .int .i64 p), (14, .bool (decide (p * 2 ≤ i + 1))), (20, .bool (p == (i + 1)))]) 23 (.int .i64 i)) 24 (.int .i64 p)) 25 (.int .i64 (i - p))) 26 (.int .i64 (IntKind.i64.wrap ((i - p) + 1)))) (by kernel_rfl) ?_
            rw [show IntKind.i64.wrap ((i - p) + 1) = (i - p) + 1 from wrap_i64 (by omega) (by omega)]
            refine st (by rfl) (S_call (args := [.int .i64 ((i - p) + 1)]) (by kernel_rfl) (ih (i - p + 1).toNat (by omega) ((i - p) + 1) _ (Nat.le_refl _)) ?_)
            rintro _ w8 ⟨rfl, hTc⟩
            have hT0 := hT0.t0 hTc
            refine seg1 (ρ' := upd (upd (upd (upd (upd (upd (updL ρ [(0, .int .i64 i), (3, .int .i64 p), (14, .bool (decide (p * 2 ≤ i + 1))), (20, .bool (p == (i + 1)))]) 23 (.int .i64 i)) 24 (.int .i64 p)) 25 (.int .i64 (i - p))) 26 (.int .i64 ((i - p) + 1))) 27 (.int .i64 (LubyP.term ((i - p) + 1)))) 2 (.int .i64 (LubyP.term ((i - p) + 1)))) (by kernel_rfl) ?_
            refine op_nil ?_
            refine W_ret ?_
            exact ⟨_, Res_of (v := .int .i64 (LubyP.term ((i - p) + 1))) (by kernel_rfl), ⟨congrArg (Value.int .i64) (by exact LubyP.ref_step k2 k3 (by omega) (by omega) (by omega) (by omega)), hT0⟩⟩

theorem refTerm_ok (i : Int) (w : World) : Ret Try.prog 10 [.int .i64 i] w fun v w' => v = .int .i64 (LubyP.term i) ∧ Tch N0 w w' := refTerm_all _ i w (Nat.le_refl _)

set_option maxRecDepth 100000 in
theorem same_ok (A B : Option Addr) (na nb ca cb : Nat) (xs ys : List Int) (w : World) (hA : RdW w 1 na A (ints .i64 xs)) (hB : RdW w 1 nb B (ints .i64 ys)) : Ret Try.prog 12 [.slice A na ca, .slice B nb cb] w fun v w' => v = .bool (decide (xs = ys)) ∧ Tch N0 w w' := by
  have la := hA.len
  have lb := hB.len
  have ha2 := hA.2.1
  have hb2 := hB.2.1
  refine enter Try.func12 rfl rfl ?_
  refine W_seq ?_
  refine W_region (by kernel_rfl) ?_
  refine seg1 (ρ' := upd (ini [.slice A na ca, .slice B nb cb]) 4 (.bool false)) (by kernel_rfl) ?_
  refine op_nil ?_
  refine W_seq ?_
  refine W_seq ?_
  refine W_region (by kernel_rfl) ?_
  refine seg5 (ρ' := upd (upd (upd (upd (upd (upd (ini [.slice A na ca, .slice B nb cb]) 4 (.bool false)) 6 (.slice A na ca)) 7 (.int .i64 (na : Int))) 8 (.slice B nb cb)) 9 (.int .i64 (nb : Int))) 10 (.bool ((na : Int) != (nb : Int)))) (by kernel_rfl) ?_
  refine op_nil ?_
  refine W_cond ((na : Int) != (nb : Int)) (by kernel_rfl) (by kernel_rfl) (fun hc1 => ?_) (fun hc1 => ?_)
  · replace hc1 : (na : Int) ≠ (nb : Int) := (bne_iff_ne.1 hc1)
    refine W_seq ?_
    refine W_region (by kernel_rfl) ?_
    refine seg1 (ρ' := upd (upd (upd (upd (upd (upd (upd (ini [.slice A na ca, .slice B nb cb]) 4 (.bool false)) 6 (.slice A na ca)) 7 (.int .i64 (na : Int))) 8 (.slice B nb cb)) 9 (.int .i64 (nb : Int))) 10 (.bool ((na : Int) != (nb : Int)))) 4 (.bool false)) (by kernel_rfl) ?_
    refine op_nil ?_
    refine W_ret ?_
    exact ⟨_, Res_of (v := .bool false) (by kernel_rfl), ⟨congrArg Value.bool (by exact SameP.fin_f1 (by omega)), Tch.refl _ _⟩⟩
  · replace hc1 : (na : Int) = (nb : Int) := (bne_eq_false_iff_eq.1 hc1)
    refine W_skip ?_
    refine W_seq ?_
    refine W_seq ?_
    refine W_region (by kernel_rfl) ?_
    refine seg1 (ρ' := upd (upd (upd (upd (upd (upd (upd (ini [.slice A na ca, .slice B nb cb]) 4 (.bool false)) 6 (.slice A na ca)) 7 (.int .i64 (na : Int))) 8 (.slice B nb cb)) 9 (.int .i64 (nb : Int))) 10 (.bool ((na : Int) != (nb : Int)))) 5 (.int .i64 0)) (by kernel_rfl) ?_
    refine op_nil ?_
    refine W_block ?_
    refine W_loop (fun m ρ w' => ∃ (i : Int) (ρ0 : Env), ρ = updL ρ0 [(0, .slice A na ca), (1, .slice B nb cb), (5, .int .i64 i)] ∧ (0 ≤ i) ∧ (i ≤ na) ∧ (xs.take i.toNat = ys.take i.toNat) ∧ Tch N0 w w' ∧ m = (na - i).toNat) (m := (na - 0 : Int).toNat) ?_ ?_
    · refine ⟨0, _, updL_self (by kernel_rfl), by omega, by omega, rfl, Tch.refl _ _, rfl⟩
    · rintro m ρ w2 ⟨i, ρ, rfl, h0, h1, h2, hT0, rfl⟩
      refine W_seq ?_
      refine W_seq ?_
      refine W_region (by kernel_rfl) ?_
      refine seg4 (ρ' := upd (upd (upd (upd (updL ρ [(0, .slice A na ca), (1, .slice B nb cb), (5, .int .i64 i)]) 11 (.int .i64 i)) 12 (.slice A na ca)) 13 (.int .i64 (na : Int))) 14 (.bool (decide (i < (na : Int))))) (by kernel_rfl) ?_
      refine op_nil ?_
      refine W_cond (decide (i < (na : Int))) (by kernel_rfl) (by kernel_rfl) (fun hc3 => ?_) (fun hc3 => ?_)
      · replace hc3 : i < (na : Int) := (of_decide_eq_true hc3)
        refine W_skip ?_
        refine W_seq ?_
        refine W_block ?_
        refine W_seq ?_
        obtain ⟨b1, o1, rfl, c1⟩ := (hA.tch0 hT0).at_int (i := i) (by omega) (by omega)
        obtain ⟨b2, o2, rfl, c2⟩ := (hB.tch0 hT0).at_int (i := i) (by omega) (by omega)
        refine W_still (by kernel_rfl) (by kernel_rfl) (by kernel_rfl) fun w4 hT5 hh6 => ?_
        have hT0 := hT0.t0 hT5
        refine qseg2 (ρ' := upd (upd (upd (upd (upd (upd (updL ρ [(0, .slice (some ⟨b1, o1, none⟩) na ca), (1, .slice (some ⟨b2, o2, none⟩) nb cb), (5, .int .i64 i)]) 11 (.int .i64 i)) 12 (.slice (some ⟨b1, o1, none⟩) na ca)) 13 (.int .i64 (na : Int))) 14 (.bool (decide (i < (na : Int))))) 17 (.slice (some ⟨b1, o1, none⟩) na ca)) 18 (.int .i64 i)) (by kernel_rfl) ?_
        refine q_val (v := .pointer (some ⟨b1, o1 + i.toNat, none⟩)) (by rfl) (R_index1 (b := b1) (off := o1) (len := na) (cap := ca) (k := .i64) (i := i) (e := 3) (by kernel_rfl) (by kernel_rfl) (by kernel_rfl) (by kernel_rfl) (by omega) (by omega)) ?_
        refine q_val (v := .int .i64 (xs.getD i.toNat 0)) (by rfl) (R_load (v := .int .i64 (xs.getD i.toNat 0)) (by kernel_rfl) (by kernel_rfl) ((cell_tch0 hT5 c1))) ?_
        refine qseg2 (ρ' := upd (upd (upd (upd (upd (upd (upd (upd (upd (upd (updL ρ [(0, .slice (some ⟨b1, o1, none⟩) na ca), (1, .slice (some ⟨b2, o2, none⟩) nb cb), (5, .int .i64 i)]) 11 (.int .i64 i)) 12 (.slice (some ⟨b1, o1, none⟩) na ca)) 13 (.int .i64 (na : Int))) 14 (.bool (decide (i < (na : Int))))) 17 (.slice (some ⟨b1, o1, none⟩) na ca)) 18 (.int .i64 i)) 19 (.pointer (some ⟨b1, o1 + i.toNat, none⟩))) 20 (.int .i64 (xs.getD i.toNat 0))) 21 (.slice (some ⟨b2, o2, none⟩) nb cb)) 22 (.int .i64 i)) (by kernel_rfl) ?_
        refine q_val (v := .pointer (some ⟨b2, o2 + i.toNat, none⟩)) (by rfl) (R_index1 (b := b2) (off := o2) (len := nb) (cap := cb) (k := .i64) (i := i) (e := 3) (by kernel_rfl) (by kernel_rfl) (by kernel_rfl) (by kernel_rfl) (by omega) (by omega)) ?_
        refine q_val (v := .int .i64 (ys.getD i.toNat 0)) (by rfl) (R_load (v := .int .i64 (ys.getD i.toNat 0)) (by kernel_rfl) (by kernel_rfl) ((cell_tch0 hT5 c2))) ?_
        refine qseg1 (ρ' := upd (upd (upd (upd (upd (upd (upd (upd (upd (upd (upd (upd (upd (updL ρ [(0, .slice (some ⟨b1, o1, none⟩) na ca), (1, .slice (some ⟨b2, o2, none⟩) nb cb), (5, .int .i64 i)]) 11 (.int .i64 i)) 12 (.slice (some ⟨b1, o1, none⟩) na ca)) 13 (.int .i64 (na : Int))) 14 (.bool (decide (i < (na : Int))))) 17 (.slice (some ⟨b1, o1, none⟩) na ca)) 18 (.int .i64 i)) 19 (.pointer (some ⟨b1, o1 + i.toNat, none⟩))) 20 (.int .i64 (xs.getD i.toNat 0))) 21 (.slice (some ⟨b2, o2, none⟩) nb cb)) 22 (.int .i64 i)) 23 (.pointer (some ⟨b2, o2 + i.toNat, none⟩))) 24 (.int .i64 (ys.getD i.toNat 0))) 25 (.bool ((xs.getD i.toNat 0) != (ys.getD i.toNat 0)))) (by kernel_rfl) ?_
        refine q_nil ?_
        refine W_cond ((xs.getD i.toNat 0) != (ys.getD i.toNat 0)) (by kernel_rfl) (by kernel_rfl) (fun hc7 => ?_) (fun hc7 => ?_)
        · replace hc7 : xs.getD i.toNat 0 ≠ ys.getD i.toNat 0 := (bne_iff_ne.1 hc7)
          refine W_seq ?_
          refine W_fg [(0, .slice (some ⟨b1, o1, none⟩) na ca), (1, .slice (some ⟨b2, o2, none⟩) nb cb), (5, .int .i64 i), (14, .bool (decide (i < (na : Int)))), (25, .bool ((xs.getD i.toNat 0) != (ys.getD i.toNat 0)))] (by kernel_rfl) fun ρ => ?_
          refine W_region (by kernel_rfl) ?_
          refine seg1 (ρ' := upd (updL ρ [(0, .slice (some ⟨b1, o1, none⟩) na ca), (1, .slice (some ⟨b2, o2, none⟩) nb cb), (5, .int .i64 i), (14, .bool (decide (i < (na : Int)))), (25, .bool ((xs.getD i.toNat 0) != (ys.getD i.toNat 0)))]) 4 (.bool false)) (by kernel_rfl) ?_
          refine op_nil ?_
          refine W_ret ?_
          exact ⟨_, Res_of (v := .bool false) (by kernel_rfl), ⟨congrArg Value.bool (by exact SameP.fin_f2 h0 (by omega) (by omega) (by assumption)), hT0⟩⟩
        · replace hc7 : xs.getD i.toNat 0 = ys.getD i.toNat 0 := (bne_eq_false_iff_eq.1 hc7)
          refine W_skip ?_
          refine W_fg [(0, .slice (some ⟨b1, o1, none⟩) na ca), (1, .slice (some ⟨b2, o2, none⟩) nb cb), (5, .int .i64 i), (14, .bool (decide (i < (na : Int)))), (25, .bool ((xs.getD i.toNat 0) != (ys.getD i.toNat 0)))] (by kernel_rfl) fun ρ => ?_
          refine W_region (by kernel_rfl) ?_
          refine seg2 (ρ' := upd (upd (updL ρ [(0, .slice (some ⟨b1, o1, none⟩) na ca), (1, .slice (some ⟨b2, o2, none⟩) nb cb), (5, .int .i64 i), (14, .bool (decide (i < (na : Int)))), (25, .bool ((xs.getD i.toNat 0) != (ys.getD i.toNat 0)))]) 15 (.int .i64 i)) 16 (.int .i64 (IntKind.i64.wrap (i + 1)))) (by kernel_rfl) ?_
          rw [show IntKind.i64.wrap (i + 1) = i + 1 from wrap_i64 (by omega) (by omega)]
          refine seg1 (ρ' := upd (upd (upd (updL ρ [(0, .slice (some ⟨b1, o1, none⟩) na ca), (1, .slice (some ⟨b2, o2, none⟩) nb cb), (5, .int .i64 i), (14, .bool (decide (i < (na : Int)))), (25, .bool ((xs.getD i.toNat 0) != (ys.getD i.toNat 0)))]) 15 (.int .i64 i)) 16 (.int .i64 (i + 1))) 5 (.int .i64 (i + 1))) (by kernel_rfl) ?_
          refine op_nil ?_
          refine ⟨_, ?_, i + 1, _, updL_self (by kernel_rfl), ?_, ?_, ?_, hT0, rfl⟩
          · omega
          · omega
          · omega
          · exact SameP.take_step h0 (by omega) (by omega) h2 (by assumption)
      · replace hc3 : (na : Int) ≤ i := (Int.not_lt.1 (of_decide_eq_false hc3))
        refine W_exit ?_
        refine X_hit ?_
        refine W_seq ?_
        refine W_region (by kernel_rfl) ?_
        refine seg1 (ρ' := upd (upd (upd (upd (upd (updL ρ [(0, .slice A na ca), (1, .slice B nb cb), (5, .int .i64 i)]) 11 (.int .i64 i)) 12 (.slice A na ca)) 13 (.int .i64 (na : Int))) 14 (.bool (decide (i < (na : Int))))) 4 (.bool true)) (by kernel_rfl) ?_
        refine op_nil ?_
        refine W_ret ?_
        exact ⟨_, Res_of (v := .bool true) (by kernel_rfl), ⟨congrArg Value.bool (by exact SameP.fin_t (by omega) (by omega) h1 h2 (by omega)), hT0⟩⟩

set_option maxRecDepth 100000 in
theorem refRow_ok (n : Int) (w : World) (hn : n ≤ 9223372036854775806) : Ret Try.prog 14 [.int .i64 n] w fun v w' => Own w' w.heap.size 3 1 v (LubyP.many n) (ints .i64 (LubyP.row n)) ∧ Tch N0 w w' := by
  refine enter Try.func14 rfl rfl ?_
  refine W_seq ?_
  refine W_region (by kernel_rfl) ?_
  refine seg1 (ρ' := upd (ini [.int .i64 n]) 2 (.slice none 0 0)) (by kernel_rfl) ?_
  refine op_nil ?_
  refine W_seq ?_
  refine W_region (by kernel_rfl) ?_
  refine seg1 (ρ' := upd (upd (ini [.int .i64 n]) 2 (.slice none 0 0)) 3 (.slice none 0 0)) (by kernel_rfl) ?_
  refine op_nil ?_
  refine W_seq ?_
  refine W_seq ?_
  refine W_region (by kernel_rfl) ?_
  refine seg1 (ρ' := upd (upd (upd (ini [.int .i64 n]) 2 (.slice none 0 0)) 3 (.slice none 0 0)) 4 (.int .i64 1)) (by kernel_rfl) ?_
  refine op_nil ?_
  refine W_block ?_
  refine W_loop (fun m ρ w' => ∃ (i : Int) (v : Value) (ρ0 : Env), ρ = updL ρ0 [(0, .int .i64 n), (3, v), (4, .int .i64 i)] ∧ (1 ≤ i) ∧ (i ≤ 100001) ∧ (i = 1 ∨ i ≤ n + 1) ∧ Tch N0 w w' ∧ Own w' w.heap.size 3 1 v ((i - 1).toNat) (ints .i64 (LubyP.rowTo (i - 1).toNat)) ∧ m = (100001 - i).toNat) (m := (100001 - 1 : Int).toNat) ?_ ?_
  · refine ⟨1, .slice none 0 0, _, updL_self (by kernel_rfl), by omega, by omega, .inl rfl, Tch.refl _ _, Own.nil_ _ _ _ _, rfl⟩
  · rintro m ρ w1 ⟨i, v, ρ, rfl, h0, h1, h2, hT0, hO, rfl⟩
    refine W_seq ?_
    refine W_seq ?_
    refine W_rcut (C := fun ρ' w' => ∃  (ρ0 : Env), ρ' = updL ρ0 [(0, .int .i64 n), (3, v), (4, .int .i64 i), (11, .bool ((decide (i ≤ n)) && (decide (i ≤ 100000))))] ∧ Tch N0 w1 w') ?_ ?_
    · refine W_region (by kernel_rfl) ?_
      refine seg4 (ρ' := upd (upd (upd (upd (updL ρ [(0, .int .i64 n), (3, v), (4, .int .i64 i)]) 5 (.int .i64 i)) 6 (.int .i64 n)) 7 (.bool (decide (i ≤ n)))) 8 (.bool (decide (i ≤ n)))) (by kernel_rfl) ?_
      cases hb2 : decide (i ≤ n)
      · replace hb2 : n < i := (Int.not_le.1 (of_decide_eq_false hb2))
        refine seg3 (ρ' := upd (upd (upd (upd (upd (upd (upd (updL ρ [(0, .int .i64 n), (3, v), (4, .int .i64 i)]) 5 (.int .i64 i)) 6 (.int .i64 n)) 7 (.bool false)) 8 (.bool false)) 9 (undef)) 10 (undef)) 11 (.bool false)) (by kernel_rfl) ?_
        refine op_nil ?_
        exact ⟨_, updL_self (by kernel_rfl), Tch.refl _ _⟩
      · replace hb2 : i ≤ n := (of_decide_eq_true hb2)
        refine seg3 (ρ' := upd (upd (upd (upd (upd (upd (upd (updL ρ [(0, .int .i64 n), (3, v), (4, .int .i64 i)]) 5 (.int .i64 i)) 6 (.int .i64 n)) 7 (.bool true)) 8 (.bool true)) 9 (.int .i64 i)) 10 (.bool (decide (i ≤ 100000)))) 11 (.bool (decide (i ≤ 100000)))) (by kernel_rfl) ?_
        refine op_nil ?_
        exact ⟨_, updL_self (by kernel_rfl), Tch.refl _ _⟩
    · rintro _ w3 ⟨ρ, rfl, hT4⟩
      have hT0 := hT0.t0 hT4
      have hO := hO.tch0 hT4
      refine W_cond (((decide (i ≤ n)) && (decide (i ≤ 100000)))) (by kernel_rfl) (by kernel_rfl) (fun hc5 => ?_) (fun hc5 => ?_)
      · replace hc5 : (i ≤ n) ∧ (i ≤ 100000) := ⟨(of_decide_eq_true (Bool.and_eq_true_iff.1 hc5).1), (of_decide_eq_true (Bool.and_eq_true_iff.1 hc5).2)⟩
        refine W_skip ?_
        refine W_seq ?_
        refine W_block ?_
        refine W_region (by kernel_rfl) ?_
        refine seg2 (ρ' := upd (upd (updL ρ [(0, .int .i64 n), (3, v), (4, .int .i64 i), (11, .bool ((decide (i ≤ n)) && (decide (i ≤ 100000))))]) 14 (v)) 15 (.int .i64 i)) (by kernel_rfl) ?_
        refine st (by rfl) (S_call (args := [.int .i64 i]) (by kernel_rfl) (refTerm_ok i _) ?_)
        rintro _ w6 ⟨rfl, hT7⟩
        have hT0 := hT0.t0 hT7
        have hO := hO.tch0 hT7
        refine st (by rfl) (S_new (v := .slice (some ⟨w6.heap.size, 0, none⟩) 1 1) (ob := .cells #[.int .i64 (LubyP.term i)] 3) (by kernel_rfl) fun w8 hT9 hs10 hB11 => ?_)
        replace hB11 : Blk w8 (w6.heap.size) 3 [.int .i64 (LubyP.term i)] := hB11
        have hT0 := hT0.t0 hT9
        have hO := hO.tch0 hT9
        refine st (by rfl) (S_append 26 3 (.int .i64 0) 1 8 (base := w.heap.size) (n := (i - 1).toNat) (m := 1) (v := v) (cells := ints .i64 (LubyP.rowTo (i - 1).toNat)) (news := [.int .i64 (LubyP.term i)]) (b := w6.heap.size) (off := 0) (c := 1) (by kernel_rfl) (by kernel_rfl) (by decide) (by kernel_rfl) (by kernel_rfl) (by kernel_rfl) hO (by rfl) (fun k u hk => by rw [Nat.zero_add, hB11.cell]; exact hk) (by simp [oneV]) (by simp only [maxLen]; omega) (by omega) (hT0.size) fun v12 w13 hO' hT14 => ?_)
        have hT0 := (hT0).then hT14 hO.base_le
        have hO := hO'
        refine seg1 (ρ' := upd (upd (upd (upd (upd (upd (updL ρ [(0, .int .i64 n), (3, v), (4, .int .i64 i), (11, .bool ((decide (i ≤ n)) && (decide (i ≤ 100000))))]) 14 (v)) 15 (.int .i64 i)) 16 (.int .i64 (LubyP.term i))) 17 (.slice (some ⟨w6.heap.size, 0, none⟩) 1 1)) 18 (v12)) 3 (v12)) (by kernel_rfl) ?_
        refine op_nil ?_
        refine W_region (by kernel_rfl) ?_
        refine seg2 (ρ' := upd (upd (upd (upd (upd (upd (upd (upd (updL ρ [(0, .int .i64 n), (3, v), (4, .int .i64 i), (11, .bool ((decide (i ≤ n)) && (decide (i ≤ 100000))))]) 14 (v)) 15 (.int .i64 i)) 16 (.int .i64 (LubyP.term i))) 17 (.slice (some ⟨w6.heap.size, 0, none⟩) 1 1)) 18 (v12)) 3 (v12)) 12 (.int .i64 i)) 13 (.int .i64 (IntKind.i64.wrap (i + 1)))) (by kernel_rfl) ?_
        rw [show IntKind.i64.wrap (i + 1) = i + 1 from wrap_i64 (by omega) (by omega)]
        refine seg1 (ρ' := upd (upd (upd (upd (upd (upd (upd (upd (upd (updL ρ [(0, .int .i64 n), (3, v), (4, .int .i64 i), (11, .bool ((decide (i ≤ n)) && (decide (i ≤ 100000))))]) 14 (v)) 15 (.int .i64 i)) 16 (.int .i64 (LubyP.term i))) 17 (.slice (some ⟨w6.heap.size, 0, none⟩) 1 1)) 18 (v12)) 3 (v12)) 12 (.int .i64 i)) 13 (.int .i64 (i + 1))) 4 (.int .i64 (i + 1))) (by kernel_rfl) ?_
        refine op_nil ?_
        refine ⟨_, ?_, i + 1, v12, _, updL_self (by kernel_rfl), ?_, ?_, ?_, hT0, ?_, rfl⟩
        · omega
        · omega
        · omega
        · omega
        · rw [show (i + 1 - 1).toNat = (i - 1).toNat + 1 from by omega, LubyP.rowTo_succ, ints_append]; rw [show ((i - 1).toNat : Int) + 1 = i from by omega]; exact hO
      · replace hc5 : (n < i) ∨ (100000 < i) := (Bool.and_eq_false_iff.1 hc5).imp (fun h => (Int.not_le.1 (of_decide_eq_false h))) (fun h => (Int.not_le.1 (of_decide_eq_false h)))
        refine W_exit ?_
        refine X_hit ?_
        refine W_seq ?_
        refine W_region (by kernel_rfl) ?_
        refine seg2 (ρ' := upd (upd (updL ρ [(0, .int .i64 n), (3, v), (4, .int .i64 i), (11, .bool ((decide (i ≤ n)) && (decide (i ≤ 100000))))]) 19 (v)) 2 (v)) (by kernel_rfl) ?_
        refine op_nil ?_
        refine W_ret ?_
        exact ⟨_, Res_of (v := v) (by kernel_rfl), ⟨by rw [LubyP.many_eq h0 h1 h2 (by omega), LubyP.row, LubyP.many_eq h0 h1 h2 (by omega)]; exact hO, hT0⟩⟩

end Go.Proofs.YthfjceemphhgcaaV
