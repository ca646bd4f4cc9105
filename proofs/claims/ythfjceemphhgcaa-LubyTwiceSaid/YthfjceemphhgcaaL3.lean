/- Walks of functions of the program and of the document's texts: each call returns what the plain function says, and turns nothing that lay. The conditions stand with each theorem. -/
import Derived.Test.YthfjceemphhgcaaProg
import Derived.Test.YthfjceemphhgcaaVx2
import Derived.Test.YthfjceemphhgcaaL2
set_option linter.unusedVariables false
set_option linter.unusedSimpArgs false
namespace Go.Proofs.YthfjceemphhgcaaV
open Go Go.RowKit Go.Proofs

theorem term_lit (i v : Int) (w : World) (h : LubyP.term i = v) : Ret Try.prog 9 [.int .i64 i] w fun x w' => x = .int .i64 v ∧ Tch N0 w w' := (lubyTerm_ok i w).mono fun _ _ ⟨a, b⟩ => ⟨by rw [a, h], b⟩
theorem row_lit (n : Int) (m : Nat) (xs : List Int) (w : World) (hn : n ≤ 9223372036854775806) (h : LubyP.many n = m) (hx : LubyP.row n = xs) : Ret Try.prog 13 [.int .i64 n] w fun x w' => ∃ A c, x = .slice A m c ∧ RdW w' 1 m A (ints .i64 xs) ∧ Tch N0 w w' :=
  (row_ok n w hn).mono fun _ _ ⟨a, b⟩ => by obtain ⟨A, c, e, r⟩ := a.rd; rw [h] at e r; rw [hx] at r; exact ⟨A, c, e, r, b⟩
theorem refRow_lit (n : Int) (m : Nat) (xs : List Int) (w : World) (hn : n ≤ 9223372036854775806) (h : LubyP.many n = m) (hx : LubyP.row n = xs) : Ret Try.prog 14 [.int .i64 n] w fun x w' => ∃ A c, x = .slice A m c ∧ RdW w' 1 m A (ints .i64 xs) ∧ Tch N0 w w' :=
  (refRow_ok n w hn).mono fun _ _ ⟨a, b⟩ => by obtain ⟨A, c, e, r⟩ := a.rd; rw [h] at e r; rw [hx] at r; exact ⟨A, c, e, r, b⟩
theorem same_eq (A B : Option Addr) (na nb ca cb : Nat) (xs : List Int) (w : World) (hA : RdW w 1 na A (ints .i64 xs)) (hB : RdW w 1 nb B (ints .i64 xs)) : Ret Try.prog 12 [.slice A na ca, .slice B nb cb] w fun v w' => v = .bool true ∧ Tch N0 w w' :=
  (same_ok A B na nb ca cb xs xs w hA hB).mono fun _ _ ⟨a, b⟩ => ⟨by rw [a]; simp, b⟩

set_option maxRecDepth 100000 in
theorem awake9_ok (w : World) : Ret Try.prog 11 [] w fun v w' => v = .bool true ∧ Tch N0 w w' := by
  refine enter Try.func11 rfl rfl ?_
  refine W_seq ?_
  refine W_region (by kernel_rfl) ?_
  refine seg1 (ρ' := upd (ini []) 0 (.bool false)) (by kernel_rfl) ?_
  refine op_nil ?_
  refine W_seq ?_
  refine W_region (by kernel_rfl) ?_
  refine st (by rfl) (S_call (args := [.int .i64 7]) (by kernel_rfl) (term_lit 7 4 _ (by decide)) ?_)
  rintro _ w1 ⟨rfl, hT2⟩
  have hT0 := hT2
  refine seg2 (ρ' := upd (upd (upd (upd (ini []) 0 (.bool false)) 1 (.int .i64 4)) 2 (.bool true)) 3 (.bool true)) (by kernel_rfl) ?_
  refine st (by kernel_rfl) (S_call (args := [.int .i64 3]) (by kernel_rfl) (row_lit 3 3 ([1, 1, 2]) _ (by omega) (by decide) (by decide)) ?_)
  rintro _ w3 ⟨A5, c6, rfl, hR7, hT4⟩
  have hT0 := hT0.t0 hT4
  refine st (by kernel_rfl) (S_new (v := .slice (some ⟨w3.heap.size, 0, none⟩) 3 3) (ob := .cells #[.int .i64 1, .int .i64 1, .int .i64 2] 3) (by kernel_rfl) fun w8 hT9 hs10 hB11 => ?_)
  replace hB11 : Blk w8 (w3.heap.size) 3 [.int .i64 1, .int .i64 1, .int .i64 2] := hB11
  have hT0 := hT0.t0 hT9
  have hR7 := hR7.tch0 hT9
  refine st (by kernel_rfl) (S_call (args := [.slice A5 3 c6, .slice (some ⟨w3.heap.size, 0, none⟩) 3 3]) (by kernel_rfl) (same_eq _ _ _ _ _ _ _ _ hR7 (hB11.rd 1 3 rfl (by omega))) ?_)
  rintro _ w12 ⟨rfl, hT13⟩
  have hT0 := hT0.t0 hT13
  have hR7 := hR7.tch0 hT13
  have hB11 := hB11.tch0 hT13
  refine seg2 (ρ' := upd (upd (upd (upd (upd (upd (upd (upd (upd (ini []) 0 (.bool false)) 1 (.int .i64 4)) 2 (.bool true)) 3 (.bool true)) 4 (.slice A5 3 c6)) 5 (.slice (some ⟨w3.heap.size, 0, none⟩) 3 3)) 6 (.bool true)) 7 (.bool true)) 8 (.bool true)) (by kernel_rfl) ?_
  refine st (by kernel_rfl) (S_call (args := [.int .i64 0]) (by kernel_rfl) (term_lit 0 0 _ (by decide)) ?_)
  rintro _ w14 ⟨rfl, hT15⟩
  have hT0 := hT0.t0 hT15
  have hR7 := hR7.tch0 hT15
  have hB11 := hB11.tch0 hT15
  refine seg3 (ρ' := upd (upd (upd (upd (upd (upd (upd (upd (upd (upd (upd (upd (upd (ini []) 0 (.bool false)) 1 (.int .i64 4)) 2 (.bool true)) 3 (.bool true)) 4 (.slice A5 3 c6)) 5 (.slice (some ⟨w3.heap.size, 0, none⟩) 3 3)) 6 (.bool true)) 7 (.bool true)) 8 (.bool true)) 9 (.int .i64 0)) 10 (.bool true)) 11 (.bool true)) 12 (.bool true)) (by kernel_rfl) ?_
  refine st (by kernel_rfl) (S_call (args := [.int .i64 (-1)]) (by kernel_rfl) (row_lit (-1) 0 ([]) _ (by omega) (by decide) (by decide)) ?_)
  rintro _ w16 ⟨A18, c19, rfl, hR20, hT17⟩
  have hT0 := hT0.t0 hT17
  have hR7 := hR7.tch0 hT17
  have hB11 := hB11.tch0 hT17
  refine seg4 (ρ' := upd (upd (upd (upd (upd (upd (upd (upd (upd (upd (upd (upd (upd (upd (upd (upd (upd (upd (ini []) 0 (.bool false)) 1 (.int .i64 4)) 2 (.bool true)) 3 (.bool true)) 4 (.slice A5 3 c6)) 5 (.slice (some ⟨w3.heap.size, 0, none⟩) 3 3)) 6 (.bool true)) 7 (.bool true)) 8 (.bool true)) 9 (.int .i64 0)) 10 (.bool true)) 11 (.bool true)) 12 (.bool true)) 13 (.slice A18 0 c19)) 14 (.int .i64 0)) 15 (.bool true)) 16 (.bool true)) 0 (.bool true)) (by kernel_rfl) ?_
  refine op_nil ?_
  refine W_ret ?_
  exact ⟨_, Res_of (v := .bool true) (by kernel_rfl), ⟨rfl, hT0⟩⟩

set_option maxRecDepth 100000 in
theorem LubyTerms_w (i : Int) (w : World) : Ret Try.prog 3 [.int .i64 i] w fun v w' => v = .bool true ∧ Tch N0 w w' := by
  refine enter Try.func3 rfl rfl ?_
  refine W_seq ?_
  refine W_region (by kernel_rfl) ?_
  refine seg1 (ρ' := upd (ini [.int .i64 i]) 2 (.bool false)) (by kernel_rfl) ?_
  refine op_nil ?_
  refine W_seq ?_
  refine W_rcut (C := fun ρ' w' => ∃  (ρ0 : Env), ρ' = updL ρ0 [(0, .int .i64 i), (2, .bool true)] ∧ Tch N0 w w') ?_ ?_
  · refine W_region (by kernel_rfl) ?_
    refine seg1 (ρ' := upd (upd (ini [.int .i64 i]) 2 (.bool false)) 3 (.int .i64 i)) (by kernel_rfl) ?_
    refine st (by rfl) (S_call (args := [.int .i64 i]) (by kernel_rfl) (lubyTerm_ok i _) ?_)
    rintro _ w1 ⟨rfl, hT2⟩
    have hT0 := hT2
    refine seg1 (ρ' := upd (upd (upd (upd (ini [.int .i64 i]) 2 (.bool false)) 3 (.int .i64 i)) 4 (.int .i64 (LubyP.term i))) 5 (.int .i64 i)) (by kernel_rfl) ?_
    refine st (by rfl) (S_call (args := [.int .i64 i]) (by kernel_rfl) (refTerm_ok i _) ?_)
    rintro _ w3 ⟨rfl, hT4⟩
    have hT0 := hT0.t0 hT4
    refine seg2 (ρ' := upd (upd (upd (upd (upd (upd (upd (ini [.int .i64 i]) 2 (.bool false)) 3 (.int .i64 i)) 4 (.int .i64 (LubyP.term i))) 5 (.int .i64 i)) 6 (.int .i64 (LubyP.term i))) 7 (.bool ((LubyP.term i) == (LubyP.term i)))) 8 (.bool ((LubyP.term i) == (LubyP.term i)))) (by kernel_rfl) ?_
    cases hb5 : (LubyP.term i) == (LubyP.term i)
    · replace hb5 : LubyP.term i ≠ LubyP.term i := (ne_of_beq_false hb5)
      exfalso; omega
    · replace hb5 : LubyP.term i = LubyP.term i := (eq_of_beq hb5)
      refine st (by kernel_rfl) (S_call (args := []) (by kernel_rfl) (awake9_ok _) ?_)
      rintro _ w6 ⟨rfl, hT7⟩
      have hT0 := hT0.t0 hT7
      refine seg2 (ρ' := upd (upd (upd (upd (upd (upd (upd (upd (upd (upd (ini [.int .i64 i]) 2 (.bool false)) 3 (.int .i64 i)) 4 (.int .i64 (LubyP.term i))) 5 (.int .i64 i)) 6 (.int .i64 (LubyP.term i))) 7 (.bool true)) 8 (.bool true)) 9 (.bool true)) 10 (.bool true)) 2 (.bool true)) (by kernel_rfl) ?_
      refine op_nil ?_
      exact ⟨_, updL_self (by kernel_rfl), ((hT2).t0 hT4).t0 hT7⟩
  · rintro _ w8 ⟨ρ, rfl, hT9⟩
    have hT0 := hT9
    refine W_ret ?_
    exact ⟨_, Res_of (v := .bool true) (by kernel_rfl), ⟨rfl, hT0⟩⟩

set_option maxRecDepth 100000 in
theorem LubyRows_w (n : Int) (w : World) : Ret Try.prog 4 [.int .i64 n] w fun v w' => v = .bool true ∧ Tch N0 w w' := by
  refine enter Try.func4 rfl rfl ?_
  refine W_seq ?_
  refine W_region (by kernel_rfl) ?_
  refine seg1 (ρ' := upd (ini [.int .i64 n]) 2 (.bool false)) (by kernel_rfl) ?_
  refine op_nil ?_
  refine W_seq ?_
  refine W_seq ?_
  refine W_region (by kernel_rfl) ?_
  refine seg2 (ρ' := upd (upd (upd (ini [.int .i64 n]) 2 (.bool false)) 3 (.int .i64 n)) 4 (.bool (decide (n > 3000)))) (by kernel_rfl) ?_
  refine op_nil ?_
  refine W_cond (decide (n > 3000)) (by kernel_rfl) (by kernel_rfl) (fun hc1 => ?_) (fun hc1 => ?_)
  · replace hc1 : 3000 < n := (of_decide_eq_true hc1)
    refine W_seq ?_
    refine W_region (by kernel_rfl) ?_
    refine st (by rfl) (S_call (args := []) (by kernel_rfl) (awake9_ok _) ?_)
    rintro _ w2 ⟨rfl, hT3⟩
    have hT0 := hT3
    refine seg1 (ρ' := upd (upd (upd (upd (upd (ini [.int .i64 n]) 2 (.bool false)) 3 (.int .i64 n)) 4 (.bool (decide (n > 3000)))) 5 (.bool true)) 2 (.bool true)) (by kernel_rfl) ?_
    refine op_nil ?_
    refine W_ret ?_
    exact ⟨_, Res_of (v := .bool true) (by kernel_rfl), ⟨rfl, hT0⟩⟩
  · replace hc1 : n ≤ 3000 := (Int.not_lt.1 (of_decide_eq_false hc1))
    refine W_skip ?_
    refine W_seq ?_
    refine W_region (by kernel_rfl) ?_
    refine seg1 (ρ' := upd (upd (upd (upd (ini [.int .i64 n]) 2 (.bool false)) 3 (.int .i64 n)) 4 (.bool (decide (n > 3000)))) 6 (.int .i64 n)) (by kernel_rfl) ?_
    refine st (by rfl) (S_call (args := [.int .i64 n]) (by kernel_rfl) (row_lit n (LubyP.many n) (LubyP.row n) _ (by omega) rfl rfl) ?_)
    rintro _ w4 ⟨A6, c7, rfl, hR8, hT5⟩
    have hT0 := hT5
    refine seg1 (ρ' := upd (upd (upd (upd (upd (upd (ini [.int .i64 n]) 2 (.bool false)) 3 (.int .i64 n)) 4 (.bool (decide (n > 3000)))) 6 (.int .i64 n)) 7 (.slice A6 (LubyP.many n) c7)) 8 (.int .i64 n)) (by kernel_rfl) ?_
    refine st (by rfl) (S_call (args := [.int .i64 n]) (by kernel_rfl) (refRow_lit n (LubyP.many n) (LubyP.row n) _ (by omega) rfl rfl) ?_)
    rintro _ w9 ⟨A11, c12, rfl, hR13, hT10⟩
    have hT0 := hT0.t0 hT10
    have hR8 := hR8.tch0 hT10
    refine st (by rfl) (S_call (args := [.slice A6 (LubyP.many n) c7, .slice A11 (LubyP.many n) c12]) (by kernel_rfl) (same_eq _ _ _ _ _ _ _ _ hR8 hR13) ?_)
    rintro _ w14 ⟨rfl, hT15⟩
    have hT0 := hT0.t0 hT15
    have hR8 := hR8.tch0 hT15
    have hR13 := hR13.tch0 hT15
    refine seg1 (ρ' := upd (upd (upd (upd (upd (upd (upd (upd (upd (ini [.int .i64 n]) 2 (.bool false)) 3 (.int .i64 n)) 4 (.bool (decide (n > 3000)))) 6 (.int .i64 n)) 7 (.slice A6 (LubyP.many n) c7)) 8 (.int .i64 n)) 9 (.slice A11 (LubyP.many n) c12)) 10 (.bool true)) 11 (.bool true)) (by kernel_rfl) ?_
    refine st (by kernel_rfl) (S_call (args := []) (by kernel_rfl) (awake9_ok _) ?_)
    rintro _ w16 ⟨rfl, hT17⟩
    have hT0 := hT0.t0 hT17
    have hR8 := hR8.tch0 hT17
    have hR13 := hR13.tch0 hT17
    refine seg2 (ρ' := upd (upd (upd (upd (upd (upd (upd (upd (upd (upd (upd (upd (ini [.int .i64 n]) 2 (.bool false)) 3 (.int .i64 n)) 4 (.bool (decide (n > 3000)))) 6 (.int .i64 n)) 7 (.slice A6 (LubyP.many n) c7)) 8 (.int .i64 n)) 9 (.slice A11 (LubyP.many n) c12)) 10 (.bool true)) 11 (.bool true)) 12 (.bool true)) 13 (.bool true)) 2 (.bool true)) (by kernel_rfl) ?_
    refine op_nil ?_
    refine W_ret ?_
    exact ⟨_, Res_of (v := .bool true) (by kernel_rfl), ⟨rfl, hT0⟩⟩

set_option maxRecDepth 100000 in
theorem LubyTwice_w (k i : Int) (w : World) (hk : 0 ≤ k ∧ k ≤ 255) (hi : 0 ≤ i ∧ i ≤ 65535) : Ret Try.prog 5 [.int .u8 k, .int .u16 i] w fun v w' => v = .bool true ∧ Tch N0 w w' := by
  have hp := LubyP.pw_bd hk.1
  refine enter Try.func5 rfl rfl ?_
  refine W_seq ?_
  refine W_region (by kernel_rfl) ?_
  refine seg1 (ρ' := upd (ini [.int .u8 k, .int .u16 i]) 4 (.bool false)) (by kernel_rfl) ?_
  refine op_nil ?_
  refine W_seq ?_
  refine W_region (by kernel_rfl) ?_
  refine seg2 (ρ' := upd (upd (upd (ini [.int .u8 k, .int .u16 i]) 4 (.bool false)) 7 (.int .u8 k)) 8 (.int .u8 (k.tmod 30))) (by kernel_rfl) ?_
  rw [show k.tmod 30 = k % 30 from Int.tmod_eq_emod_of_nonneg (by omega)]
  refine seg1 (ρ' := upd (upd (upd (upd (ini [.int .u8 k, .int .u16 i]) 4 (.bool false)) 7 (.int .u8 k)) 8 (.int .u8 (k % 30))) 9 (.int .u8 (IntKind.u8.wrap ((k % 30) + 1)))) (by kernel_rfl) ?_
  rw [show IntKind.u8.wrap ((k % 30) + 1) = (k % 30) + 1 from wrap_u8 (by omega) (by omega)]
  refine stv (v := .int .i64 (IntKind.i64.wrap (1 * 2 ^ (k % 30 + 1).toNat))) (by rfl) (R_shl (k := .i64) (k2 := .u8) (a := 1) (b := k % 30 + 1) (k % 30 + 1).toNat (by kernel_rfl) (by kernel_rfl) (by omega) (by show _ ≤ 64; omega)) ?_
  rw [LubyP.pw_wrap hk.1]
  refine seg1 (ρ' := upd (upd (upd (upd (upd (upd (ini [.int .u8 k, .int .u16 i]) 4 (.bool false)) 7 (.int .u8 k)) 8 (.int .u8 (k % 30))) 9 (.int .u8 ((k % 30) + 1))) 10 (.int .i64 (LubyP.pw k))) 11 (.int .i64 (IntKind.i64.wrap ((LubyP.pw k) - 1)))) (by kernel_rfl) ?_
  rw [show IntKind.i64.wrap ((LubyP.pw k) - 1) = (LubyP.pw k) - 1 from wrap_i64 (by omega) (by omega)]
  refine seg1 (ρ' := upd (upd (upd (upd (upd (upd (upd (ini [.int .u8 k, .int .u16 i]) 4 (.bool false)) 7 (.int .u8 k)) 8 (.int .u8 (k % 30))) 9 (.int .u8 ((k % 30) + 1))) 10 (.int .i64 (LubyP.pw k))) 11 (.int .i64 ((LubyP.pw k) - 1))) 5 (.int .i64 ((LubyP.pw k) - 1))) (by kernel_rfl) ?_
  refine op_nil ?_
  refine W_seq ?_
  refine W_region (by kernel_rfl) ?_
  refine seg2 (ρ' := upd (upd (upd (upd (upd (upd (upd (upd (upd (ini [.int .u8 k, .int .u16 i]) 4 (.bool false)) 7 (.int .u8 k)) 8 (.int .u8 (k % 30))) 9 (.int .u8 ((k % 30) + 1))) 10 (.int .i64 (LubyP.pw k))) 11 (.int .i64 ((LubyP.pw k) - 1))) 5 (.int .i64 ((LubyP.pw k) - 1))) 12 (.int .u16 i)) 13 (.int .i64 (IntKind.i64.wrap i))) (by kernel_rfl) ?_
  rw [show IntKind.i64.wrap i = i from wrap_i64 (by omega) (by omega)]
  refine seg1 (ρ' := upd (upd (upd (upd (upd (upd (upd (upd (upd (upd (ini [.int .u8 k, .int .u16 i]) 4 (.bool false)) 7 (.int .u8 k)) 8 (.int .u8 (k % 30))) 9 (.int .u8 ((k % 30) + 1))) 10 (.int .i64 (LubyP.pw k))) 11 (.int .i64 ((LubyP.pw k) - 1))) 5 (.int .i64 ((LubyP.pw k) - 1))) 12 (.int .u16 i)) 13 (.int .i64 i)) 14 (.int .i64 ((LubyP.pw k) - 1))) (by kernel_rfl) ?_
  refine stv (v := .int .i64 (i % (LubyP.pw k - 1))) (by rfl) (R_rem (k := .i64) (a := i) (b := LubyP.pw k - 1) (by kernel_rfl) (by kernel_rfl) (by omega) (by omega)) ?_
  have hm1 := Int.emod_nonneg i (show LubyP.pw k - 1 ≠ 0 by omega)
  have hm2 := Int.emod_lt_of_pos i (show 0 < LubyP.pw k - 1 by omega)
  generalize hat : i % (LubyP.pw k - 1) = a at hm1 hm2 ⊢
  refine seg1 (ρ' := upd (upd (upd (upd (upd (upd (upd (upd (upd (upd (upd (upd (ini [.int .u8 k, .int .u16 i]) 4 (.bool false)) 7 (.int .u8 k)) 8 (.int .u8 (k % 30))) 9 (.int .u8 ((k % 30) + 1))) 10 (.int .i64 (LubyP.pw k))) 11 (.int .i64 ((LubyP.pw k) - 1))) 5 (.int .i64 ((LubyP.pw k) - 1))) 12 (.int .u16 i)) 13 (.int .i64 i)) 14 (.int .i64 ((LubyP.pw k) - 1))) 15 (.int .i64 a)) 16 (.int .i64 (IntKind.i64.wrap (a + 1)))) (by kernel_rfl) ?_
  rw [show IntKind.i64.wrap (a + 1) = a + 1 from wrap_i64 (by omega) (by omega)]
  refine seg1 (ρ' := upd (upd (upd (upd (upd (upd (upd (upd (upd (upd (upd (upd (upd (ini [.int .u8 k, .int .u16 i]) 4 (.bool false)) 7 (.int .u8 k)) 8 (.int .u8 (k % 30))) 9 (.int .u8 ((k % 30) + 1))) 10 (.int .i64 (LubyP.pw k))) 11 (.int .i64 ((LubyP.pw k) - 1))) 5 (.int .i64 ((LubyP.pw k) - 1))) 12 (.int .u16 i)) 13 (.int .i64 i)) 14 (.int .i64 ((LubyP.pw k) - 1))) 15 (.int .i64 a)) 16 (.int .i64 (a + 1))) 6 (.int .i64 (a + 1))) (by kernel_rfl) ?_
  refine op_nil ?_
  refine W_seq ?_
  refine W_fg [(0, .int .u8 k), (1, .int .u16 i), (4, .bool false), (5, .int .i64 ((LubyP.pw k) - 1)), (6, .int .i64 (a + 1))] (by kernel_rfl) fun ρ => ?_
  refine W_rcut (C := fun ρ' w' => ∃  (ρ0 : Env), ρ' = updL ρ0 [(0, .int .u8 k), (1, .int .u16 i), (4, .bool true), (5, .int .i64 ((LubyP.pw k) - 1)), (6, .int .i64 (a + 1))] ∧ Tch N0 w w') ?_ ?_
  · refine W_region (by kernel_rfl) ?_
    refine seg1 (ρ' := upd (updL ρ [(0, .int .u8 k), (1, .int .u16 i), (4, .bool false), (5, .int .i64 ((LubyP.pw k) - 1)), (6, .int .i64 (a + 1))]) 17 (.int .i64 (a + 1))) (by kernel_rfl) ?_
    refine st (by rfl) (S_call (args := [.int .i64 (a + 1)]) (by kernel_rfl) (lubyTerm_ok (a + 1) _) ?_)
    rintro _ w1 ⟨rfl, hT2⟩
    have hT0 := hT2
    refine seg3 (ρ' := upd (upd (upd (upd (upd (updL ρ [(0, .int .u8 k), (1, .int .u16 i), (4, .bool false), (5, .int .i64 ((LubyP.pw k) - 1)), (6, .int .i64 (a + 1))]) 17 (.int .i64 (a + 1))) 18 (.int .i64 (LubyP.term (a + 1)))) 19 (.int .i64 (a + 1))) 20 (.int .i64 ((LubyP.pw k) - 1))) 21 (.int .i64 (IntKind.i64.wrap ((a + 1) + ((LubyP.pw k) - 1))))) (by kernel_rfl) ?_
    rw [show IntKind.i64.wrap ((a + 1) + ((LubyP.pw k) - 1)) = (a + 1) + ((LubyP.pw k) - 1) from wrap_i64 (by omega) (by omega)]
    refine st (by rfl) (S_call (args := [.int .i64 ((a + 1) + ((LubyP.pw k) - 1))]) (by kernel_rfl) (lubyTerm_ok ((a + 1) + ((LubyP.pw k) - 1)) _) ?_)
    rintro _ w3 ⟨rfl, hT4⟩
    have hT0 := hT0.t0 hT4
    refine seg2 (ρ' := upd (upd (upd (upd (upd (upd (upd (upd (updL ρ [(0, .int .u8 k), (1, .int .u16 i), (4, .bool false), (5, .int .i64 ((LubyP.pw k) - 1)), (6, .int .i64 (a + 1))]) 17 (.int .i64 (a + 1))) 18 (.int .i64 (LubyP.term (a + 1)))) 19 (.int .i64 (a + 1))) 20 (.int .i64 ((LubyP.pw k) - 1))) 21 (.int .i64 ((a + 1) + ((LubyP.pw k) - 1)))) 22 (.int .i64 (LubyP.term ((a + 1) + ((LubyP.pw k) - 1))))) 23 (.bool ((LubyP.term (a + 1)) == (LubyP.term ((a + 1) + ((LubyP.pw k) - 1)))))) 24 (.bool ((LubyP.term (a + 1)) == (LubyP.term ((a + 1) + ((LubyP.pw k) - 1)))))) (by kernel_rfl) ?_
    cases hb5 : (LubyP.term (a + 1)) == (LubyP.term ((a + 1) + ((LubyP.pw k) - 1)))
    · replace hb5 : LubyP.term (a + 1) ≠ LubyP.term ((a + 1) + ((LubyP.pw k) - 1)) := (ne_of_beq_false hb5)
      exact absurd (LubyP.tw1 hk.1 hm1 hm2) hb5
    · replace hb5 : LubyP.term (a + 1) = LubyP.term ((a + 1) + ((LubyP.pw k) - 1)) := (eq_of_beq hb5)
      refine seg2 (ρ' := upd (upd (upd (upd (upd (upd (upd (upd (upd (upd (updL ρ [(0, .int .u8 k), (1, .int .u16 i), (4, .bool false), (5, .int .i64 ((LubyP.pw k) - 1)), (6, .int .i64 (a + 1))]) 17 (.int .i64 (a + 1))) 18 (.int .i64 (LubyP.term (a + 1)))) 19 (.int .i64 (a + 1))) 20 (.int .i64 ((LubyP.pw k) - 1))) 21 (.int .i64 ((a + 1) + ((LubyP.pw k) - 1)))) 22 (.int .i64 (LubyP.term ((a + 1) + ((LubyP.pw k) - 1))))) 23 (.bool true)) 24 (.bool true)) 25 (.int .i64 ((LubyP.pw k) - 1))) 26 (.int .i64 (IntKind.i64.wrap (2 * ((LubyP.pw k) - 1))))) (by kernel_rfl) ?_
      rw [show IntKind.i64.wrap (2 * ((LubyP.pw k) - 1)) = 2 * ((LubyP.pw k) - 1) from wrap_i64 (by omega) (by omega)]
      refine seg1 (ρ' := upd (upd (upd (upd (upd (upd (upd (upd (upd (upd (upd (updL ρ [(0, .int .u8 k), (1, .int .u16 i), (4, .bool false), (5, .int .i64 ((LubyP.pw k) - 1)), (6, .int .i64 (a + 1))]) 17 (.int .i64 (a + 1))) 18 (.int .i64 (LubyP.term (a + 1)))) 19 (.int .i64 (a + 1))) 20 (.int .i64 ((LubyP.pw k) - 1))) 21 (.int .i64 ((a + 1) + ((LubyP.pw k) - 1)))) 22 (.int .i64 (LubyP.term ((a + 1) + ((LubyP.pw k) - 1))))) 23 (.bool true)) 24 (.bool true)) 25 (.int .i64 ((LubyP.pw k) - 1))) 26 (.int .i64 (2 * ((LubyP.pw k) - 1)))) 27 (.int .i64 (IntKind.i64.wrap ((2 * ((LubyP.pw k) - 1)) + 1)))) (by kernel_rfl) ?_
      rw [show IntKind.i64.wrap ((2 * ((LubyP.pw k) - 1)) + 1) = (2 * ((LubyP.pw k) - 1)) + 1 from wrap_i64 (by omega) (by omega)]
      refine st (by kernel_rfl) (S_call (args := [.int .i64 ((2 * ((LubyP.pw k) - 1)) + 1)]) (by kernel_rfl) (lubyTerm_ok ((2 * ((LubyP.pw k) - 1)) + 1) _) ?_)
      rintro _ w6 ⟨rfl, hT7⟩
      have hT0 := hT0.t0 hT7
      refine seg2 (ρ' := upd (upd (upd (upd (upd (upd (upd (upd (upd (upd (upd (upd (upd (upd (updL ρ [(0, .int .u8 k), (1, .int .u16 i), (4, .bool false), (5, .int .i64 ((LubyP.pw k) - 1)), (6, .int .i64 (a + 1))]) 17 (.int .i64 (a + 1))) 18 (.int .i64 (LubyP.term (a + 1)))) 19 (.int .i64 (a + 1))) 20 (.int .i64 ((LubyP.pw k) - 1))) 21 (.int .i64 ((a + 1) + ((LubyP.pw k) - 1)))) 22 (.int .i64 (LubyP.term ((a + 1) + ((LubyP.pw k) - 1))))) 23 (.bool true)) 24 (.bool true)) 25 (.int .i64 ((LubyP.pw k) - 1))) 26 (.int .i64 (2 * ((LubyP.pw k) - 1)))) 27 (.int .i64 ((2 * ((LubyP.pw k) - 1)) + 1))) 28 (.int .i64 (LubyP.term ((2 * ((LubyP.pw k) - 1)) + 1)))) 29 (.int .i64 ((LubyP.pw k) - 1))) 30 (.int .i64 (IntKind.i64.wrap (((LubyP.pw k) - 1) + 1)))) (by kernel_rfl) ?_
      rw [show IntKind.i64.wrap (((LubyP.pw k) - 1) + 1) = ((LubyP.pw k) - 1) + 1 from wrap_i64 (by omega) (by omega)]
      refine seg3 (ρ' := upd (upd (upd (upd (upd (upd (upd (upd (upd (upd (upd (upd (upd (upd (upd (upd (upd (updL ρ [(0, .int .u8 k), (1, .int .u16 i), (4, .bool false), (5, .int .i64 ((LubyP.pw k) - 1)), (6, .int .i64 (a + 1))]) 17 (.int .i64 (a + 1))) 18 (.int .i64 (LubyP.term (a + 1)))) 19 (.int .i64 (a + 1))) 20 (.int .i64 ((LubyP.pw k) - 1))) 21 (.int .i64 ((a + 1) + ((LubyP.pw k) - 1)))) 22 (.int .i64 (LubyP.term ((a + 1) + ((LubyP.pw k) - 1))))) 23 (.bool true)) 24 (.bool true)) 25 (.int .i64 ((LubyP.pw k) - 1))) 26 (.int .i64 (2 * ((LubyP.pw k) - 1)))) 27 (.int .i64 ((2 * ((LubyP.pw k) - 1)) + 1))) 28 (.int .i64 (LubyP.term ((2 * ((LubyP.pw k) - 1)) + 1)))) 29 (.int .i64 ((LubyP.pw k) - 1))) 30 (.int .i64 (((LubyP.pw k) - 1) + 1))) 31 (.bool ((LubyP.term ((2 * ((LubyP.pw k) - 1)) + 1)) == (((LubyP.pw k) - 1) + 1)))) 32 (.bool ((LubyP.term ((2 * ((LubyP.pw k) - 1)) + 1)) == (((LubyP.pw k) - 1) + 1)))) 33 (.bool ((LubyP.term ((2 * ((LubyP.pw k) - 1)) + 1)) == (((LubyP.pw k) - 1) + 1)))) (by kernel_rfl) ?_
      cases hb8 : (LubyP.term ((2 * ((LubyP.pw k) - 1)) + 1)) == (((LubyP.pw k) - 1) + 1)
      · replace hb8 : LubyP.term ((2 * ((LubyP.pw k) - 1)) + 1) ≠ ((LubyP.pw k) - 1) + 1 := (ne_of_beq_false hb8)
        exact absurd (LubyP.tw2 hk.1) hb8
      · replace hb8 : LubyP.term ((2 * ((LubyP.pw k) - 1)) + 1) = ((LubyP.pw k) - 1) + 1 := (eq_of_beq hb8)
        refine st (by kernel_rfl) (S_call (args := []) (by kernel_rfl) (awake9_ok _) ?_)
        rintro _ w9 ⟨rfl, hT10⟩
        have hT0 := hT0.t0 hT10
        refine seg2 (ρ' := upd (upd (upd (upd (upd (upd (upd (upd (upd (upd (upd (upd (upd (upd (upd (upd (upd (upd (upd (upd (updL ρ [(0, .int .u8 k), (1, .int .u16 i), (4, .bool false), (5, .int .i64 ((LubyP.pw k) - 1)), (6, .int .i64 (a + 1))]) 17 (.int .i64 (a + 1))) 18 (.int .i64 (LubyP.term (a + 1)))) 19 (.int .i64 (a + 1))) 20 (.int .i64 ((LubyP.pw k) - 1))) 21 (.int .i64 ((a + 1) + ((LubyP.pw k) - 1)))) 22 (.int .i64 (LubyP.term ((a + 1) + ((LubyP.pw k) - 1))))) 23 (.bool true)) 24 (.bool true)) 25 (.int .i64 ((LubyP.pw k) - 1))) 26 (.int .i64 (2 * ((LubyP.pw k) - 1)))) 27 (.int .i64 ((2 * ((LubyP.pw k) - 1)) + 1))) 28 (.int .i64 (LubyP.term ((2 * ((LubyP.pw k) - 1)) + 1)))) 29 (.int .i64 ((LubyP.pw k) - 1))) 30 (.int .i64 (((LubyP.pw k) - 1) + 1))) 31 (.bool true)) 32 (.bool true)) 33 (.bool true)) 34 (.bool true)) 35 (.bool true)) 4 (.bool true)) (by kernel_rfl) ?_
        refine op_nil ?_
        exact ⟨_, updL_self (by kernel_rfl), (((hT2).t0 hT4).t0 hT7).t0 hT10⟩
  · rintro _ w11 ⟨ρ, rfl, hT12⟩
    have hT0 := hT12
    refine W_ret ?_
    exact ⟨_, Res_of (v := .bool true) (by kernel_rfl), ⟨rfl, hT0⟩⟩

end Go.Proofs.YthfjceemphhgcaaV
