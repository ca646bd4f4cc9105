/- Walks of functions of the program and of the document's texts. The conditions stand with each theorem. -/
import Derived.Test.YtnlecdpiccgdpaaProg
import Derived.Test.YtnlecdpiccgdpaaVx4
import Derived.Test.YtnlecdpiccgdpaaMeansP
set_option linter.unusedVariables false
set_option linter.unusedSimpArgs false
namespace Go.Proofs.YtnlecdpiccgdpaaV
open Go Go.RowKit Go.Proofs

set_option maxRecDepth 100000 in
theorem says_ok (k : Int) (a b c : Bool) (w : World) : Ret Try.prog 76 [.int .i64 k, .bool a, .bool b, .bool c] w fun v w' => v = .bool (saysF k a b c) ∧ Tch N0 w w' := by
  refine enter Try.func76 rfl rfl ?_
  refine W_seq ?_
  refine W_region (by kernel_rfl) ?_
  refine seg1 (ρ' := upd (ini [.int .i64 k, .bool a, .bool b, .bool c]) 8 (.bool false)) (by kernel_rfl) ?_
  refine op_nil ?_
  refine W_seq ?_
  refine W_seq ?_
  refine W_region (by kernel_rfl) ?_
  refine seg1 (ρ' := upd (upd (ini [.int .i64 k, .bool a, .bool b, .bool c]) 8 (.bool false)) 9 (.int .i64 k)) (by kernel_rfl) ?_
  refine op_nil ?_
  refine W_block ?_
  refine W_seq ?_
  refine W_region (by kernel_rfl) ?_
  refine seg2 (ρ' := upd (upd (upd (upd (ini [.int .i64 k, .bool a, .bool b, .bool c]) 8 (.bool false)) 9 (.int .i64 k)) 11 (.bool (k == 1))) 10 (.bool (k == 1))) (by kernel_rfl) ?_
  refine op_nil ?_
  refine W_cond (k == 1) (by kernel_rfl) (by kernel_rfl) (fun hc1 => ?_) (fun hc1 => ?_)
  · replace hc1 : k = 1 := (eq_of_beq hc1)
    refine W_seq ?_
    refine W_region (by kernel_rfl) ?_
    refine seg2 (ρ' := upd (upd (upd (upd (upd (upd (ini [.int .i64 k, .bool a, .bool b, .bool c]) 8 (.bool false)) 9 (.int .i64 k)) 11 (.bool (k == 1))) 10 (.bool (k == 1))) 12 (.bool a)) 13 (.bool a)) (by kernel_rfl) ?_
    cases hb2 : a
    · replace hb2 : a = false := (hb2)
      refine seg3 (ρ' := upd (upd (upd (upd (upd (upd (upd (upd (upd (ini [.int .i64 k, .bool false, .bool b, .bool c]) 8 (.bool false)) 9 (.int .i64 k)) 11 (.bool (k == 1))) 10 (.bool (k == 1))) 12 (.bool false)) 13 (.bool false)) 14 (undef)) 15 (.bool false)) 8 (.bool false)) (by kernel_rfl) ?_
      refine op_nil ?_
      refine W_ret ?_
      exact ⟨_, Res_of (v := .bool false) (by kernel_rfl), ⟨congrArg Value.bool (by unfold saysF; simp_all; try (cases a <;> cases b <;> rfl)), Tch.refl _ _⟩⟩
    · replace hb2 : a = true := (hb2)
      refine seg3 (ρ' := upd (upd (upd (upd (upd (upd (upd (upd (upd (ini [.int .i64 k, .bool true, .bool b, .bool c]) 8 (.bool false)) 9 (.int .i64 k)) 11 (.bool (k == 1))) 10 (.bool (k == 1))) 12 (.bool true)) 13 (.bool true)) 14 (.bool b)) 15 (.bool b)) 8 (.bool b)) (by kernel_rfl) ?_
      refine op_nil ?_
      refine W_ret ?_
      exact ⟨_, Res_of (v := .bool b) (by kernel_rfl), ⟨congrArg Value.bool (by unfold saysF; simp_all; try (cases a <;> cases b <;> rfl)), Tch.refl _ _⟩⟩
  · replace hc1 : k ≠ 1 := (ne_of_beq_false hc1)
    refine W_seq ?_
    refine W_region (by kernel_rfl) ?_
    refine seg2 (ρ' := upd (upd (upd (upd (upd (upd (ini [.int .i64 k, .bool a, .bool b, .bool c]) 8 (.bool false)) 9 (.int .i64 k)) 11 (.bool (k == 1))) 10 (.bool (k == 1))) 17 (.bool (k == 2))) 16 (.bool (k == 2))) (by kernel_rfl) ?_
    refine op_nil ?_
    refine W_cond (k == 2) (by kernel_rfl) (by kernel_rfl) (fun hc3 => ?_) (fun hc3 => ?_)
    · replace hc3 : k = 2 := (eq_of_beq hc3)
      refine W_seq ?_
      refine W_region (by kernel_rfl) ?_
      refine seg2 (ρ' := upd (upd (upd (upd (upd (upd (upd (upd (ini [.int .i64 k, .bool a, .bool b, .bool c]) 8 (.bool false)) 9 (.int .i64 k)) 11 (.bool (k == 1))) 10 (.bool (k == 1))) 17 (.bool (k == 2))) 16 (.bool (k == 2))) 18 (.bool a)) 19 (.bool a)) (by kernel_rfl) ?_
      cases hb4 : a
      · replace hb4 : a = false := (hb4)
        refine seg3 (ρ' := upd (upd (upd (upd (upd (upd (upd (upd (upd (upd (upd (ini [.int .i64 k, .bool false, .bool b, .bool c]) 8 (.bool false)) 9 (.int .i64 k)) 11 (.bool (k == 1))) 10 (.bool (k == 1))) 17 (.bool (k == 2))) 16 (.bool (k == 2))) 18 (.bool false)) 19 (.bool false)) 20 (.bool b)) 21 (.bool b)) 8 (.bool b)) (by kernel_rfl) ?_
        refine op_nil ?_
        refine W_ret ?_
        exact ⟨_, Res_of (v := .bool b) (by kernel_rfl), ⟨congrArg Value.bool (by unfold saysF; simp_all; try (cases a <;> cases b <;> rfl)), Tch.refl _ _⟩⟩
      · replace hb4 : a = true := (hb4)
        refine seg3 (ρ' := upd (upd (upd (upd (upd (upd (upd (upd (upd (upd (upd (ini [.int .i64 k, .bool true, .bool b, .bool c]) 8 (.bool false)) 9 (.int .i64 k)) 11 (.bool (k == 1))) 10 (.bool (k == 1))) 17 (.bool (k == 2))) 16 (.bool (k == 2))) 18 (.bool true)) 19 (.bool true)) 20 (undef)) 21 (.bool true)) 8 (.bool true)) (by kernel_rfl) ?_
        refine op_nil ?_
        refine W_ret ?_
        exact ⟨_, Res_of (v := .bool true) (by kernel_rfl), ⟨congrArg Value.bool (by unfold saysF; simp_all; try (cases a <;> cases b <;> rfl)), Tch.refl _ _⟩⟩
    · replace hc3 : k ≠ 2 := (ne_of_beq_false hc3)
      refine W_seq ?_
      refine W_region (by kernel_rfl) ?_
      refine seg2 (ρ' := upd (upd (upd (upd (upd (upd (upd (upd (ini [.int .i64 k, .bool a, .bool b, .bool c]) 8 (.bool false)) 9 (.int .i64 k)) 11 (.bool (k == 1))) 10 (.bool (k == 1))) 17 (.bool (k == 2))) 16 (.bool (k == 2))) 23 (.bool (k == 3))) 22 (.bool (k == 3))) (by kernel_rfl) ?_
      refine op_nil ?_
      refine W_cond (k == 3) (by kernel_rfl) (by kernel_rfl) (fun hc5 => ?_) (fun hc5 => ?_)
      · replace hc5 : k = 3 := (eq_of_beq hc5)
        refine W_seq ?_
        refine W_fg [(0, .int .i64 k), (1, .bool a), (2, .bool b), (3, .bool c), (8, .bool false), (9, .int .i64 k), (10, .bool (k == 1)), (16, .bool (k == 2)), (22, .bool (k == 3))] (by kernel_rfl) fun ρ => ?_
        refine W_region (by kernel_rfl) ?_
        refine seg4 (ρ' := upd (upd (upd (upd (updL ρ [(0, .int .i64 k), (1, .bool a), (2, .bool b), (3, .bool c), (8, .bool false), (9, .int .i64 k), (10, .bool (k == 1)), (16, .bool (k == 2)), (22, .bool (k == 3))]) 24 (.bool a)) 25 (.bool b)) 26 (.bool (!(a == b)))) 8 (.bool (!(a == b)))) (by kernel_rfl) ?_
        refine op_nil ?_
        refine W_ret ?_
        exact ⟨_, Res_of (v := .bool (!(a == b))) (by kernel_rfl), ⟨congrArg Value.bool (by unfold saysF; simp_all; try (cases a <;> cases b <;> rfl)), Tch.refl _ _⟩⟩
      · replace hc5 : k ≠ 3 := (ne_of_beq_false hc5)
        refine W_seq ?_
        refine W_fg [(0, .int .i64 k), (1, .bool a), (2, .bool b), (3, .bool c), (8, .bool false), (9, .int .i64 k), (10, .bool (k == 1)), (16, .bool (k == 2)), (22, .bool (k == 3))] (by kernel_rfl) fun ρ => ?_
        refine W_region (by kernel_rfl) ?_
        refine seg2 (ρ' := upd (upd (updL ρ [(0, .int .i64 k), (1, .bool a), (2, .bool b), (3, .bool c), (8, .bool false), (9, .int .i64 k), (10, .bool (k == 1)), (16, .bool (k == 2)), (22, .bool (k == 3))]) 28 (.bool (k == 4))) 27 (.bool (k == 4))) (by kernel_rfl) ?_
        refine op_nil ?_
        refine W_cond (k == 4) (by kernel_rfl) (by kernel_rfl) (fun hc6 => ?_) (fun hc6 => ?_)
        · replace hc6 : k = 4 := (eq_of_beq hc6)
          refine W_seq ?_
          refine W_region (by kernel_rfl) ?_
          refine seg2 (ρ' := upd (upd (upd (upd (updL ρ [(0, .int .i64 k), (1, .bool a), (2, .bool b), (3, .bool c), (8, .bool false), (9, .int .i64 k), (10, .bool (k == 1)), (16, .bool (k == 2)), (22, .bool (k == 3))]) 28 (.bool (k == 4))) 27 (.bool (k == 4))) 29 (.bool a)) 30 (.bool a)) (by kernel_rfl) ?_
          cases hb7 : a
          · replace hb7 : a = false := (hb7)
            refine seg10 (ρ' := upd (upd (upd (upd (upd (upd (upd (upd (upd (upd (upd (upd (upd (upd (updL ρ [(0, .int .i64 k), (1, .bool false), (2, .bool b), (3, .bool c), (8, .bool false), (9, .int .i64 k), (10, .bool (k == 1)), (16, .bool (k == 2)), (22, .bool (k == 3))]) 28 (.bool (k == 4))) 27 (.bool (k == 4))) 29 (.bool false)) 30 (.bool false)) 31 (undef)) 32 (.bool false)) 33 (.bool false)) 34 (.bool false)) 35 (.bool true)) 36 (.bool true)) 37 (.bool c)) 38 (.bool c)) 39 (.bool c)) 8 (.bool c)) (by kernel_rfl) ?_
            refine op_nil ?_
            refine W_ret ?_
            exact ⟨_, Res_of (v := .bool c) (by kernel_rfl), ⟨congrArg Value.bool (by unfold saysF; simp_all; try (cases a <;> cases b <;> rfl)), Tch.refl _ _⟩⟩
          · replace hb7 : a = true := (hb7)
            refine seg3 (ρ' := upd (upd (upd (upd (upd (upd (upd (updL ρ [(0, .int .i64 k), (1, .bool true), (2, .bool b), (3, .bool c), (8, .bool false), (9, .int .i64 k), (10, .bool (k == 1)), (16, .bool (k == 2)), (22, .bool (k == 3))]) 28 (.bool (k == 4))) 27 (.bool (k == 4))) 29 (.bool true)) 30 (.bool true)) 31 (.bool b)) 32 (.bool b)) 33 (.bool b)) (by kernel_rfl) ?_
            cases hb8 : b
            · replace hb8 : b = false := (hb8)
              refine seg7 (ρ' := upd (upd (upd (upd (upd (upd (upd (upd (upd (upd (upd (upd (upd (upd (updL ρ [(0, .int .i64 k), (1, .bool true), (2, .bool false), (3, .bool c), (8, .bool false), (9, .int .i64 k), (10, .bool (k == 1)), (16, .bool (k == 2)), (22, .bool (k == 3))]) 28 (.bool (k == 4))) 27 (.bool (k == 4))) 29 (.bool true)) 30 (.bool true)) 31 (.bool false)) 32 (.bool false)) 33 (.bool false)) 34 (.bool true)) 35 (.bool false)) 36 (.bool false)) 37 (undef)) 38 (.bool false)) 39 (.bool false)) 8 (.bool false)) (by kernel_rfl) ?_
              refine op_nil ?_
              refine W_ret ?_
              exact ⟨_, Res_of (v := .bool false) (by kernel_rfl), ⟨congrArg Value.bool (by unfold saysF; simp_all; try (cases a <;> cases b <;> rfl)), Tch.refl _ _⟩⟩
            · replace hb8 : b = true := (hb8)
              refine seg7 (ρ' := upd (upd (upd (upd (upd (upd (upd (upd (upd (upd (upd (upd (upd (upd (updL ρ [(0, .int .i64 k), (1, .bool true), (2, .bool true), (3, .bool c), (8, .bool false), (9, .int .i64 k), (10, .bool (k == 1)), (16, .bool (k == 2)), (22, .bool (k == 3))]) 28 (.bool (k == 4))) 27 (.bool (k == 4))) 29 (.bool true)) 30 (.bool true)) 31 (.bool true)) 32 (.bool true)) 33 (.bool true)) 34 (undef)) 35 (undef)) 36 (undef)) 37 (undef)) 38 (undef)) 39 (.bool true)) 8 (.bool true)) (by kernel_rfl) ?_
              refine op_nil ?_
              refine W_ret ?_
              exact ⟨_, Res_of (v := .bool true) (by kernel_rfl), ⟨congrArg Value.bool (by unfold saysF; simp_all; try (cases a <;> cases b <;> rfl)), Tch.refl _ _⟩⟩
        · replace hc6 : k ≠ 4 := (ne_of_beq_false hc6)
          refine W_skip ?_
          refine W_seq ?_
          refine W_region (by kernel_rfl) ?_
          refine seg2 (ρ' := upd (upd (upd (upd (updL ρ [(0, .int .i64 k), (1, .bool a), (2, .bool b), (3, .bool c), (8, .bool false), (9, .int .i64 k), (10, .bool (k == 1)), (16, .bool (k == 2)), (22, .bool (k == 3))]) 28 (.bool (k == 4))) 27 (.bool (k == 4))) 40 (.bool a)) 41 (.bool a)) (by kernel_rfl) ?_
          cases hb9 : a
          · replace hb9 : a = false := (hb9)
            refine seg11 (ρ' := upd (upd (upd (upd (upd (upd (upd (upd (upd (upd (upd (upd (upd (upd (upd (updL ρ [(0, .int .i64 k), (1, .bool false), (2, .bool b), (3, .bool c), (8, .bool false), (9, .int .i64 k), (10, .bool (k == 1)), (16, .bool (k == 2)), (22, .bool (k == 3))]) 28 (.bool (k == 4))) 27 (.bool (k == 4))) 40 (.bool false)) 41 (.bool false)) 42 (undef)) 43 (.bool false)) 44 (.bool false)) 45 (.bool false)) 46 (.bool false)) 47 (undef)) 48 (.bool false)) 49 (.bool false)) 50 (.bool false)) 51 (.bool b)) 52 (.bool b)) (by kernel_rfl) ?_
            cases hb10 : b
            · replace hb10 : b = false := (hb10)
              refine seg4 (ρ' := upd (upd (upd (upd (upd (upd (upd (upd (upd (upd (upd (upd (upd (upd (upd (upd (upd (upd (upd (updL ρ [(0, .int .i64 k), (1, .bool false), (2, .bool false), (3, .bool c), (8, .bool false), (9, .int .i64 k), (10, .bool (k == 1)), (16, .bool (k == 2)), (22, .bool (k == 3))]) 28 (.bool (k == 4))) 27 (.bool (k == 4))) 40 (.bool false)) 41 (.bool false)) 42 (undef)) 43 (.bool false)) 44 (.bool false)) 45 (.bool false)) 46 (.bool false)) 47 (undef)) 48 (.bool false)) 49 (.bool false)) 50 (.bool false)) 51 (.bool false)) 52 (.bool false)) 53 (undef)) 54 (.bool false)) 55 (.bool false)) 8 (.bool false)) (by kernel_rfl) ?_
              refine op_nil ?_
              refine W_ret ?_
              exact ⟨_, Res_of (v := .bool false) (by kernel_rfl), ⟨congrArg Value.bool (by unfold saysF; simp_all; try (cases a <;> cases b <;> rfl)), Tch.refl _ _⟩⟩
            · replace hb10 : b = true := (hb10)
              refine seg4 (ρ' := upd (upd (upd (upd (upd (upd (upd (upd (upd (upd (upd (upd (upd (upd (upd (upd (upd (upd (upd (updL ρ [(0, .int .i64 k), (1, .bool false), (2, .bool true), (3, .bool c), (8, .bool false), (9, .int .i64 k), (10, .bool (k == 1)), (16, .bool (k == 2)), (22, .bool (k == 3))]) 28 (.bool (k == 4))) 27 (.bool (k == 4))) 40 (.bool false)) 41 (.bool false)) 42 (undef)) 43 (.bool false)) 44 (.bool false)) 45 (.bool false)) 46 (.bool false)) 47 (undef)) 48 (.bool false)) 49 (.bool false)) 50 (.bool false)) 51 (.bool true)) 52 (.bool true)) 53 (.bool c)) 54 (.bool c)) 55 (.bool c)) 8 (.bool c)) (by kernel_rfl) ?_
              refine op_nil ?_
              refine W_ret ?_
              exact ⟨_, Res_of (v := .bool c) (by kernel_rfl), ⟨congrArg Value.bool (by unfold saysF; simp_all; try (cases a <;> cases b <;> rfl)), Tch.refl _ _⟩⟩
          · replace hb9 : a = true := (hb9)
            refine seg3 (ρ' := upd (upd (upd (upd (upd (upd (upd (updL ρ [(0, .int .i64 k), (1, .bool true), (2, .bool b), (3, .bool c), (8, .bool false), (9, .int .i64 k), (10, .bool (k == 1)), (16, .bool (k == 2)), (22, .bool (k == 3))]) 28 (.bool (k == 4))) 27 (.bool (k == 4))) 40 (.bool true)) 41 (.bool true)) 42 (.bool b)) 43 (.bool b)) 44 (.bool b)) (by kernel_rfl) ?_
            cases hb11 : b
            · replace hb11 : b = false := (hb11)
              refine seg6 (ρ' := upd (upd (upd (upd (upd (upd (upd (upd (upd (upd (upd (upd (upd (updL ρ [(0, .int .i64 k), (1, .bool true), (2, .bool false), (3, .bool c), (8, .bool false), (9, .int .i64 k), (10, .bool (k == 1)), (16, .bool (k == 2)), (22, .bool (k == 3))]) 28 (.bool (k == 4))) 27 (.bool (k == 4))) 40 (.bool true)) 41 (.bool true)) 42 (.bool false)) 43 (.bool false)) 44 (.bool false)) 45 (.bool true)) 46 (.bool true)) 47 (.bool c)) 48 (.bool c)) 49 (.bool c)) 50 (.bool c)) (by kernel_rfl) ?_
              cases hb12 : c
              · replace hb12 : c = false := (hb12)
                refine seg6 (ρ' := upd (upd (upd (upd (upd (upd (upd (upd (upd (upd (upd (upd (upd (upd (upd (upd (upd (upd (upd (updL ρ [(0, .int .i64 k), (1, .bool true), (2, .bool false), (3, .bool false), (8, .bool false), (9, .int .i64 k), (10, .bool (k == 1)), (16, .bool (k == 2)), (22, .bool (k == 3))]) 28 (.bool (k == 4))) 27 (.bool (k == 4))) 40 (.bool true)) 41 (.bool true)) 42 (.bool false)) 43 (.bool false)) 44 (.bool false)) 45 (.bool true)) 46 (.bool true)) 47 (.bool false)) 48 (.bool false)) 49 (.bool false)) 50 (.bool false)) 51 (.bool false)) 52 (.bool false)) 53 (undef)) 54 (.bool false)) 55 (.bool false)) 8 (.bool false)) (by kernel_rfl) ?_
                refine op_nil ?_
                refine W_ret ?_
                exact ⟨_, Res_of (v := .bool false) (by kernel_rfl), ⟨congrArg Value.bool (by unfold saysF; simp_all; try (cases a <;> cases b <;> rfl)), Tch.refl _ _⟩⟩
              · replace hb12 : c = true := (hb12)
                refine seg6 (ρ' := upd (upd (upd (upd (upd (upd (upd (upd (upd (upd (upd (upd (upd (upd (upd (upd (upd (upd (upd (updL ρ [(0, .int .i64 k), (1, .bool true), (2, .bool false), (3, .bool true), (8, .bool false), (9, .int .i64 k), (10, .bool (k == 1)), (16, .bool (k == 2)), (22, .bool (k == 3))]) 28 (.bool (k == 4))) 27 (.bool (k == 4))) 40 (.bool true)) 41 (.bool true)) 42 (.bool false)) 43 (.bool false)) 44 (.bool false)) 45 (.bool true)) 46 (.bool true)) 47 (.bool true)) 48 (.bool true)) 49 (.bool true)) 50 (.bool true)) 51 (undef)) 52 (undef)) 53 (undef)) 54 (undef)) 55 (.bool true)) 8 (.bool true)) (by kernel_rfl) ?_
                refine op_nil ?_
                refine W_ret ?_
                exact ⟨_, Res_of (v := .bool true) (by kernel_rfl), ⟨congrArg Value.bool (by unfold saysF; simp_all; try (cases a <;> cases b <;> rfl)), Tch.refl _ _⟩⟩
            · replace hb11 : b = true := (hb11)
              refine seg12 (ρ' := upd (upd (upd (upd (upd (upd (upd (upd (upd (upd (upd (upd (upd (upd (upd (upd (upd (upd (upd (updL ρ [(0, .int .i64 k), (1, .bool true), (2, .bool true), (3, .bool c), (8, .bool false), (9, .int .i64 k), (10, .bool (k == 1)), (16, .bool (k == 2)), (22, .bool (k == 3))]) 28 (.bool (k == 4))) 27 (.bool (k == 4))) 40 (.bool true)) 41 (.bool true)) 42 (.bool true)) 43 (.bool true)) 44 (.bool true)) 45 (undef)) 46 (undef)) 47 (undef)) 48 (undef)) 49 (.bool true)) 50 (.bool true)) 51 (undef)) 52 (undef)) 53 (undef)) 54 (undef)) 55 (.bool true)) 8 (.bool true)) (by kernel_rfl) ?_
              refine op_nil ?_
              refine W_ret ?_
              exact ⟨_, Res_of (v := .bool true) (by kernel_rfl), ⟨congrArg Value.bool (by unfold saysF; simp_all; try (cases a <;> cases b <;> rfl)), Tch.refl _ _⟩⟩

set_option maxRecDepth 100000 in
theorem fits_neg (n : Nat) (K : Option Addr) (ck : Nat) (jv : Value) (x : Int) (w : World) (hx : x < 0) : Ret Try.prog 73 [.agg #[.slice K n ck, jv], .int .i64 x] w fun v w' => v = .bool false ∧ Tch N0 w w' := by
  refine enter Try.func73 rfl rfl ?_
  refine W_seq ?_
  refine W_region (by kernel_rfl) ?_
  refine st (by rfl) (S_new (v := .pointer (some ⟨w.heap.size, 0, none⟩)) (ob := .cells #[.slice K n ck, jv] 54) (by kernel_rfl) fun w1 hT2 hs3 hB4 => ?_)
  replace hB4 : Blk w1 (w.heap.size) 54 [.slice K n ck, jv] := hB4
  have hT0 := hT2
  refine seg1 (ρ' := upd (upd (ini [.agg #[.slice K n ck, jv], .int .i64 x]) 2 (.pointer (some ⟨w.heap.size, 0, none⟩))) 4 (.bool false)) (by kernel_rfl) ?_
  refine op_nil ?_
  refine W_seq ?_
  refine W_region (by kernel_rfl) ?_
  refine seg3 (ρ' := upd (upd (upd (upd (upd (ini [.agg #[.slice K n ck, jv], .int .i64 x]) 2 (.pointer (some ⟨w.heap.size, 0, none⟩))) 4 (.bool false)) 5 (.int .i64 x)) 6 (.bool (decide (x ≥ 0)))) 7 (.bool (decide (x ≥ 0)))) (by kernel_rfl) ?_
  cases hb5 : decide (x ≥ 0)
  · replace hb5 : x < 0 := (Int.not_le.1 (of_decide_eq_false hb5))
    refine seg8 (ρ' := upd (upd (upd (upd (upd (upd (upd (upd (upd (upd (upd (upd (upd (ini [.agg #[.slice K n ck, jv], .int .i64 x]) 2 (.pointer (some ⟨w.heap.size, 0, none⟩))) 4 (.bool false)) 5 (.int .i64 x)) 6 (.bool false)) 7 (.bool false)) 8 (undef)) 9 (undef)) 10 (undef)) 11 (undef)) 12 (undef)) 13 (undef)) 14 (.bool false)) 4 (.bool false)) (by kernel_rfl) ?_
    refine op_nil ?_
    refine W_ret ?_
    exact ⟨_, Res_of (v := .bool false) (by kernel_rfl), ⟨rfl, hT0⟩⟩
  · replace hb5 : 0 ≤ x := (of_decide_eq_true hb5)
    exfalso; omega

set_option maxRecDepth 100000 in
theorem holds_neg (n : Nat) (K J : Option Addr) (ck cj : Nat) (x : Int) (w : World) (hx : x < 0) : Ret Try.prog 50 [.agg #[.slice K n ck, .slice J n cj], .int .i64 x] w fun v w' => v = .tuple #[.bool false, .bool false] ∧ Tch N0 w w' := by
  refine enter Try.func50 rfl rfl ?_
  refine W_seq ?_
  refine W_region (by kernel_rfl) ?_
  refine st (by rfl) (S_new (v := .pointer (some ⟨w.heap.size, 0, none⟩)) (ob := .cells #[.slice K n ck, .slice J n cj] 54) (by kernel_rfl) fun w1 hT2 hs3 hB4 => ?_)
  replace hB4 : Blk w1 (w.heap.size) 54 [.slice K n ck, .slice J n cj] := hB4
  have hT0 := hT2
  refine seg2 (ρ' := upd (upd (upd (ini [.agg #[.slice K n ck, .slice J n cj], .int .i64 x]) 2 (.pointer (some ⟨w.heap.size, 0, none⟩))) 4 (.bool false)) 5 (.bool false)) (by kernel_rfl) ?_
  refine op_nil ?_
  refine W_seq ?_
  refine W_seq ?_
  refine W_region (by kernel_rfl) ?_
  refine st (by rfl) (S_val (v := .agg #[.slice K n ck, .slice J n cj]) (R_loadA [.slice K n ck, .slice J n cj] (by kernel_rfl) (by kernel_rfl) (by kernel_rfl) (fun k u hk => by rw [hB4.cell]; exact get_part _ 0 _ k u rfl hk)) ?_)
  refine seg1 (ρ' := upd (upd (upd (upd (upd (ini [.agg #[.slice K n ck, .slice J n cj], .int .i64 x]) 2 (.pointer (some ⟨w.heap.size, 0, none⟩))) 4 (.bool false)) 5 (.bool false)) 6 (.agg #[.slice K n ck, .slice J n cj])) 7 (.int .i64 x)) (by kernel_rfl) ?_
  refine st (by rfl) (S_call (args := [.agg #[.slice K n ck, .slice J n cj], .int .i64 x]) (by kernel_rfl) (fits_neg n K ck (.slice J n cj) x _ hx) ?_)
  rintro _ w5 ⟨rfl, hT6⟩
  have hT0 := hT0.t0 hT6
  have hB4 := hB4.tch0 hT6
  refine seg10 (ρ' := upd (upd (upd (upd (upd (upd (upd (upd (upd (upd (upd (upd (upd (upd (upd (upd (ini [.agg #[.slice K n ck, .slice J n cj], .int .i64 x]) 2 (.pointer (some ⟨w.heap.size, 0, none⟩))) 4 (.bool false)) 5 (.bool false)) 6 (.agg #[.slice K n ck, .slice J n cj])) 7 (.int .i64 x)) 8 (.bool false)) 9 (.bool true)) 10 (.bool true)) 11 (undef)) 12 (undef)) 13 (undef)) 14 (undef)) 15 (undef)) 16 (undef)) 17 (undef)) 18 (.bool true)) (by kernel_rfl) ?_
  refine op_nil ?_
  refine W_cond true (by kernel_rfl) (by kernel_rfl) (fun _ => ?_) (fun h => nomatch h)
  refine W_seq ?_
  refine W_fg [(0, .agg #[.slice K n ck, .slice J n cj]), (1, .int .i64 x), (2, .pointer (some ⟨w.heap.size, 0, none⟩)), (4, .bool false), (5, .bool false), (18, .bool true)] (by kernel_rfl) fun ρ => ?_
  refine W_region (by kernel_rfl) ?_
  refine seg2 (ρ' := upd (upd (updL ρ [(0, .agg #[.slice K n ck, .slice J n cj]), (1, .int .i64 x), (2, .pointer (some ⟨w.heap.size, 0, none⟩)), (4, .bool false), (5, .bool false), (18, .bool true)]) 4 (.bool false)) 5 (.bool false)) (by kernel_rfl) ?_
  refine op_nil ?_
  refine W_ret ?_
  exact ⟨_, Res_of (v := .tuple #[.bool false, .bool false]) (by kernel_rfl), ⟨rfl, hT0⟩⟩

theorem holds_any (n : Nat) (K J : Option Addr) (ck cj : Nat) (kn tr : List Bool) (b : Nat → Bool) (c : Int) (w : World) (hK : RdW w 1 n K (boolsV kn)) (hJ : RdW w 1 n J (boolsV tr)) (hn : n ≤ 68719476736) (hall : ∀ x, x / 2 < n → kn.getD (x / 2) false = true ∧ hIs kn tr x = lt_ b x) (hc : litF n c) :
    Ret Try.prog 50 [.agg #[.slice K n ck, .slice J n cj], .int .i64 c] w fun v w' => ∃ q, v = .tuple #[.bool (litV b c), .bool q] ∧ Tch N0 w w' := by
  by_cases h : c < 0
  · have e : litV b c = false := by unfold litV; rw [if_pos h]
    rw [e]
    exact (holds_neg n K J ck cj c w h).mono fun v w' ⟨e, T⟩ => ⟨_, e, T⟩
  · obtain ⟨x, rfl⟩ : ∃ x : Nat, c = x := ⟨c.toNat, by omega⟩
    have hx : x / 2 < n := by rcases hc with hc | hc <;> omega
    rw [litV_nat]
    exact (holds_is n K J ck cj kn tr x _ w hK hJ hn hx (hall x hx)).mono fun v w' ⟨e, T⟩ => ⟨_, e, T⟩

set_option maxRecDepth 100000 in
theorem means_ok (n : Nat) (K J : Option Addr) (ck cj : Nat) (kn tr : List Bool) (be : Nat → Bool) (k a b c : Int) (w : World) (hK : RdW w 1 n K (boolsV kn)) (hJ : RdW w 1 n J (boolsV tr)) (hn : n ≤ 68719476736) (hall : ∀ x, x / 2 < n → kn.getD (x / 2) false = true ∧ hIs kn tr x = lt_ be x) (ha : litF n a) (hb : litF n b) (hc : litF n c) : Ret Try.prog 52 [.agg #[.slice K n ck, .slice J n cj], .int .i64 k, .int .i64 a, .int .i64 b, .int .i64 c] w fun v w' => v = .bool (saysF k (litV be a) (litV be b) (litV be c)) ∧ Tch N0 w w' := by
  have hKc := hK
  have hJc := hJ
  refine enter Try.func52 rfl rfl ?_
  refine W_seq ?_
  refine W_region (by kernel_rfl) ?_
  refine st (by rfl) (S_new (v := .pointer (some ⟨w.heap.size, 0, none⟩)) (ob := .cells #[.slice K n ck, .slice J n cj] 54) (by kernel_rfl) fun w1 hT2 hs3 hB4 => ?_)
  replace hB4 : Blk w1 (w.heap.size) 54 [.slice K n ck, .slice J n cj] := hB4
  have hT0 := hT2
  have hKc := hK.tch0 hT0
  have hJc := hJ.tch0 hT0
  refine seg1 (ρ' := upd (upd (ini [.agg #[.slice K n ck, .slice J n cj], .int .i64 k, .int .i64 a, .int .i64 b, .int .i64 c]) 5 (.pointer (some ⟨w.heap.size, 0, none⟩))) 10 (.bool false)) (by kernel_rfl) ?_
  refine op_nil ?_
  refine W_seq ?_
  refine W_region (by kernel_rfl) ?_
  refine st (by rfl) (S_val (v := .agg #[.slice K n ck, .slice J n cj]) (R_loadA [.slice K n ck, .slice J n cj] (by kernel_rfl) (by kernel_rfl) (by kernel_rfl) (fun k u hk => by rw [hB4.cell]; exact get_part _ 0 _ k u rfl hk)) ?_)
  refine seg1 (ρ' := upd (upd (upd (upd (ini [.agg #[.slice K n ck, .slice J n cj], .int .i64 k, .int .i64 a, .int .i64 b, .int .i64 c]) 5 (.pointer (some ⟨w.heap.size, 0, none⟩))) 10 (.bool false)) 18 (.agg #[.slice K n ck, .slice J n cj])) 19 (.int .i64 a)) (by kernel_rfl) ?_
  refine st (by rfl) (S_call (args := [.agg #[.slice K n ck, .slice J n cj], .int .i64 a]) (by kernel_rfl) (holds_any n K J ck cj kn tr be a _ hKc hJc hn hall (by assumption)) ?_)
  rintro _ w5 ⟨q7, rfl, hT6⟩
  have hT0 := hT0.t0 hT6
  have hKc := hK.tch0 hT0
  have hJc := hJ.tch0 hT0
  have hB4 := hB4.tch0 hT6
  refine seg5 (ρ' := upd (upd (upd (upd (upd (upd (upd (upd (upd (upd (ini [.agg #[.slice K n ck, .slice J n cj], .int .i64 k, .int .i64 a, .int .i64 b, .int .i64 c]) 5 (.pointer (some ⟨w.heap.size, 0, none⟩))) 10 (.bool false)) 18 (.agg #[.slice K n ck, .slice J n cj])) 19 (.int .i64 a)) 20 (.tuple #[.bool (litV be a), .bool q7])) 17 (.tuple #[.bool (litV be a), .bool q7])) 21 (.bool (litV be a))) 22 (.bool q7)) 11 (.bool (litV be a))) 12 (.bool q7)) (by kernel_rfl) ?_
  refine op_nil ?_
  refine W_seq ?_
  refine W_fg [(0, .agg #[.slice K n ck, .slice J n cj]), (1, .int .i64 k), (2, .int .i64 a), (3, .int .i64 b), (4, .int .i64 c), (5, .pointer (some ⟨w.heap.size, 0, none⟩)), (10, .bool false), (11, .bool (litV be a))] (by kernel_rfl) fun ρ => ?_
  refine W_region (by kernel_rfl) ?_
  refine st (by rfl) (S_val (v := .agg #[.slice K n ck, .slice J n cj]) (R_loadA [.slice K n ck, .slice J n cj] (by kernel_rfl) (by kernel_rfl) (by kernel_rfl) (fun k u hk => by rw [hB4.cell]; exact get_part _ 0 _ k u rfl hk)) ?_)
  refine seg1 (ρ' := upd (upd (updL ρ [(0, .agg #[.slice K n ck, .slice J n cj]), (1, .int .i64 k), (2, .int .i64 a), (3, .int .i64 b), (4, .int .i64 c), (5, .pointer (some ⟨w.heap.size, 0, none⟩)), (10, .bool false), (11, .bool (litV be a))]) 24 (.agg #[.slice K n ck, .slice J n cj])) 25 (.int .i64 b)) (by kernel_rfl) ?_
  refine st (by rfl) (S_call (args := [.agg #[.slice K n ck, .slice J n cj], .int .i64 b]) (by kernel_rfl) (holds_any n K J ck cj kn tr be b _ hKc hJc hn hall (by assumption)) ?_)
  rintro _ w8 ⟨q10, rfl, hT9⟩
  have hT0 := hT0.t0 hT9
  have hKc := hK.tch0 hT0
  have hJc := hJ.tch0 hT0
  have hB4 := hB4.tch0 hT9
  refine seg5 (ρ' := upd (upd (upd (upd (upd (upd (upd (upd (updL ρ [(0, .agg #[.slice K n ck, .slice J n cj]), (1, .int .i64 k), (2, .int .i64 a), (3, .int .i64 b), (4, .int .i64 c), (5, .pointer (some ⟨w.heap.size, 0, none⟩)), (10, .bool false), (11, .bool (litV be a))]) 24 (.agg #[.slice K n ck, .slice J n cj])) 25 (.int .i64 b)) 26 (.tuple #[.bool (litV be b), .bool q10])) 23 (.tuple #[.bool (litV be b), .bool q10])) 27 (.bool (litV be b))) 28 (.bool q10)) 13 (.bool (litV be b))) 14 (.bool q10)) (by kernel_rfl) ?_
  refine op_nil ?_
  refine W_seq ?_
  refine W_fg [(0, .agg #[.slice K n ck, .slice J n cj]), (1, .int .i64 k), (2, .int .i64 a), (3, .int .i64 b), (4, .int .i64 c), (5, .pointer (some ⟨w.heap.size, 0, none⟩)), (10, .bool false), (11, .bool (litV be a)), (13, .bool (litV be b))] (by kernel_rfl) fun ρ => ?_
  refine W_region (by kernel_rfl) ?_
  refine st (by rfl) (S_val (v := .agg #[.slice K n ck, .slice J n cj]) (R_loadA [.slice K n ck, .slice J n cj] (by kernel_rfl) (by kernel_rfl) (by kernel_rfl) (fun k u hk => by rw [hB4.cell]; exact get_part _ 0 _ k u rfl hk)) ?_)
  refine seg1 (ρ' := upd (upd (updL ρ [(0, .agg #[.slice K n ck, .slice J n cj]), (1, .int .i64 k), (2, .int .i64 a), (3, .int .i64 b), (4, .int .i64 c), (5, .pointer (some ⟨w.heap.size, 0, none⟩)), (10, .bool false), (11, .bool (litV be a)), (13, .bool (litV be b))]) 30 (.agg #[.slice K n ck, .slice J n cj])) 31 (.int .i64 c)) (by kernel_rfl) ?_
  refine st (by rfl) (S_call (args := [.agg #[.slice K n ck, .slice J n cj], .int .i64 c]) (by kernel_rfl) (holds_any n K J ck cj kn tr be c _ hKc hJc hn hall (by assumption)) ?_)
  rintro _ w11 ⟨q13, rfl, hT12⟩
  have hT0 := hT0.t0 hT12
  have hKc := hK.tch0 hT0
  have hJc := hJ.tch0 hT0
  have hB4 := hB4.tch0 hT12
  refine seg5 (ρ' := upd (upd (upd (upd (upd (upd (upd (upd (updL ρ [(0, .agg #[.slice K n ck, .slice J n cj]), (1, .int .i64 k), (2, .int .i64 a), (3, .int .i64 b), (4, .int .i64 c), (5, .pointer (some ⟨w.heap.size, 0, none⟩)), (10, .bool false), (11, .bool (litV be a)), (13, .bool (litV be b))]) 30 (.agg #[.slice K n ck, .slice J n cj])) 31 (.int .i64 c)) 32 (.tuple #[.bool (litV be c), .bool q13])) 29 (.tuple #[.bool (litV be c), .bool q13])) 33 (.bool (litV be c))) 34 (.bool q13)) 15 (.bool (litV be c))) 16 (.bool q13)) (by kernel_rfl) ?_
  refine op_nil ?_
  refine W_seq ?_
  refine W_fg [(0, .agg #[.slice K n ck, .slice J n cj]), (1, .int .i64 k), (2, .int .i64 a), (3, .int .i64 b), (4, .int .i64 c), (5, .pointer (some ⟨w.heap.size, 0, none⟩)), (10, .bool false), (11, .bool (litV be a)), (13, .bool (litV be b)), (15, .bool (litV be c))] (by kernel_rfl) fun ρ => ?_
  refine W_region (by kernel_rfl) ?_
  refine seg4 (ρ' := upd (upd (upd (upd (updL ρ [(0, .agg #[.slice K n ck, .slice J n cj]), (1, .int .i64 k), (2, .int .i64 a), (3, .int .i64 b), (4, .int .i64 c), (5, .pointer (some ⟨w.heap.size, 0, none⟩)), (10, .bool false), (11, .bool (litV be a)), (13, .bool (litV be b)), (15, .bool (litV be c))]) 35 (.int .i64 k)) 36 (.bool (litV be a))) 37 (.bool (litV be b))) 38 (.bool (litV be c))) (by kernel_rfl) ?_
  refine st (by rfl) (S_call (args := [.int .i64 k, .bool (litV be a), .bool (litV be b), .bool (litV be c)]) (by kernel_rfl) (says_ok k (litV be a) (litV be b) (litV be c) _) ?_)
  rintro _ w14 ⟨rfl, hT15⟩
  have hT0 := hT0.t0 hT15
  have hKc := hK.tch0 hT0
  have hJc := hJ.tch0 hT0
  have hB4 := hB4.tch0 hT15
  refine seg1 (ρ' := upd (upd (upd (upd (upd (upd (updL ρ [(0, .agg #[.slice K n ck, .slice J n cj]), (1, .int .i64 k), (2, .int .i64 a), (3, .int .i64 b), (4, .int .i64 c), (5, .pointer (some ⟨w.heap.size, 0, none⟩)), (10, .bool false), (11, .bool (litV be a)), (13, .bool (litV be b)), (15, .bool (litV be c))]) 35 (.int .i64 k)) 36 (.bool (litV be a))) 37 (.bool (litV be b))) 38 (.bool (litV be c))) 39 (.bool (saysF k (litV be a) (litV be b) (litV be c)))) 10 (.bool (saysF k (litV be a) (litV be b) (litV be c)))) (by kernel_rfl) ?_
  refine op_nil ?_
  refine W_ret ?_
  exact ⟨_, Res_of (v := .bool (saysF k (litV be a) (litV be b) (litV be c))) (by kernel_rfl), ⟨rfl, hT0⟩⟩

end Go.Proofs.YtnlecdpiccgdpaaV
