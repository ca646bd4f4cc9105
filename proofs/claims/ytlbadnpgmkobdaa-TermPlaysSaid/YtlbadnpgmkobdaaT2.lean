/- Walks of functions of the program and of the document's texts. The conditions stand with each theorem. -/
import Derived.Test.YtlbadnpgmkobdaaProg
import Derived.Test.YtlbadnpgmkobdaaTermF
set_option linter.unusedVariables false
set_option linter.unusedSimpArgs false
namespace Go.Proofs.YtlbadnpgmkobdaaV
open Go Go.RowKit Go.Proofs

set_option maxRecDepth 100000 in
theorem none_ok (F : Nat → Prop) (p : Nat) (most : Int) (N : List Nd) (W : Value → Value → Prop) (g mm : Nat) (l : List Int) (w : World) (hL : TLow F w p most N W) (hN : N.length ≤ 65536) (hG : Blk w g 3 (ints .i64 l)) (hm : l.length = mm) (hm2 : mm ≤ 1099511627776) : Ret Try.prog 44 [.pointer (some ⟨p, 0, none⟩), .slice (some ⟨g, 0, none⟩) mm mm] w fun v w' => v = .bool (badT N.length l) ∧ Tch N0 w w' := by
  obtain ⟨A, cp, ma, mw, hP, hO, _⟩ := id hL
  refine enter Try.func44 rfl rfl ?_
  refine W_seq ?_
  refine W_region (by kernel_rfl) ?_
  refine seg1 (ρ' := upd (ini [.pointer (some ⟨p, 0, none⟩), .slice (some ⟨g, 0, none⟩) mm mm]) 4 (.bool false)) (by kernel_rfl) ?_
  refine op_nil ?_
  refine W_seq ?_
  refine W_seq ?_
  refine W_region (by kernel_rfl) ?_
  refine seg3 (ρ' := upd (upd (upd (upd (ini [.pointer (some ⟨p, 0, none⟩), .slice (some ⟨g, 0, none⟩) mm mm]) 4 (.bool false)) 7 (.slice (some ⟨g, 0, none⟩) mm mm)) 8 (.int .i64 (mm : Int))) 9 (.int .i64 0)) (by kernel_rfl) ?_
  refine op_nil ?_
  refine W_block ?_
  refine W_loop (fun m ρ w' => ∃ (i : Nat) (ρ0 : Env), ρ = updL ρ0 [(0, .pointer (some ⟨p, 0, none⟩)), (7, .slice (some ⟨g, 0, none⟩) mm mm), (8, .int .i64 (mm : Int)), (9, .int .i64 ((i : Nat) : Int))] ∧ (i ≤ mm) ∧ (∀ j, j < i → ¬ (l.getD j 0 < 0 ∨ (N.length : Int) ≤ l.getD j 0)) ∧ Tch N0 w w' ∧ Blk w' p 74 [.slice A N.length cp, .map (some ma), .map (some mw), .int .i64 most] ∧ Blk w' (g) 3 (ints .i64 l) ∧ m = mm - i) (m := mm - 0) ?_ ?_
  · refine ⟨0, _, updL_self (by kernel_rfl), by omega, by intro j h; omega, Tch.refl _ _, hP, hG, rfl⟩
  · rintro m ρ w1 ⟨i, ρ, rfl, hi, hb, hT0, hP, hG, rfl⟩
    refine W_seq ?_
    refine W_region (by kernel_rfl) ?_
    refine seg1 (ρ' := upd (updL ρ [(0, .pointer (some ⟨p, 0, none⟩)), (7, .slice (some ⟨g, 0, none⟩) mm mm), (8, .int .i64 (mm : Int)), (9, .int .i64 ((i : Nat) : Int))]) 10 (.bool (decide (((i : Nat) : Int) < (mm : Int))))) (by kernel_rfl) ?_
    refine op_nil ?_
    refine W_seq ?_
    refine W_cond (decide (((i : Nat) : Int) < (mm : Int))) (by kernel_rfl) (by kernel_rfl) (fun hc2 => ?_) (fun hc2 => ?_)
    · replace hc2 : ((i : Nat) : Int) < (mm : Int) := (of_decide_eq_true hc2)
      refine W_skip ?_
      refine W_seq ?_
      refine W_block ?_
      refine W_seq ?_
      refine W_region (by kernel_rfl) ?_
      refine stv (v := .pointer (some ⟨g, i, none⟩)) (by rfl) (R_index0 (b := g) (len := mm) (cap := mm) (k := .i64) (i := ((i : Nat) : Int)) (e := 3) i (by kernel_rfl) (by kernel_rfl) (by kernel_rfl) (by kernel_rfl) rfl (by first | omega | (simp only [List.length_set, List.length_map]; omega))) ?_
      refine st (by rfl) (S_val (v := .int .i64 (l.getD i 0)) (R_load (v := .int .i64 (l.getD i 0)) (by kernel_rfl) (by kernel_rfl) ((hG.cell _).trans (ints_at .i64 _ (by first | omega | (simp only [List.length_set, List.length_map]; omega))))) ?_)
      refine seg1 (ρ' := upd (upd (upd (upd (updL ρ [(0, .pointer (some ⟨p, 0, none⟩)), (7, .slice (some ⟨g, 0, none⟩) mm mm), (8, .int .i64 (mm : Int)), (9, .int .i64 ((i : Nat) : Int))]) 10 (.bool (decide (((i : Nat) : Int) < (mm : Int))))) 11 (.pointer (some ⟨g, i, none⟩))) 12 (.int .i64 (l.getD i 0))) 6 (.int .i64 (l.getD i 0))) (by kernel_rfl) ?_
      refine op_nil ?_
      refine W_seq ?_
      refine W_region (by kernel_rfl) ?_
      refine seg3 (ρ' := upd (upd (upd (upd (upd (upd (upd (updL ρ [(0, .pointer (some ⟨p, 0, none⟩)), (7, .slice (some ⟨g, 0, none⟩) mm mm), (8, .int .i64 (mm : Int)), (9, .int .i64 ((i : Nat) : Int))]) 10 (.bool (decide (((i : Nat) : Int) < (mm : Int))))) 11 (.pointer (some ⟨g, i, none⟩))) 12 (.int .i64 (l.getD i 0))) 6 (.int .i64 (l.getD i 0))) 13 (.int .i64 (l.getD i 0))) 14 (.bool (decide (l.getD i 0 < 0)))) 15 (.bool (decide (l.getD i 0 < 0)))) (by kernel_rfl) ?_
      cases hb3 : decide (l.getD i 0 < 0)
      · replace hb3 : 0 ≤ l.getD i 0 := (Int.not_lt.1 (of_decide_eq_false hb3))
        refine seg4 (ρ' := upd (upd (upd (upd (upd (upd (upd (upd (upd (upd (upd (updL ρ [(0, .pointer (some ⟨p, 0, none⟩)), (7, .slice (some ⟨g, 0, none⟩) mm mm), (8, .int .i64 (mm : Int)), (9, .int .i64 ((i : Nat) : Int))]) 10 (.bool (decide (((i : Nat) : Int) < (mm : Int))))) 11 (.pointer (some ⟨g, i, none⟩))) 12 (.int .i64 (l.getD i 0))) 6 (.int .i64 (l.getD i 0))) 13 (.int .i64 (l.getD i 0))) 14 (.bool false)) 15 (.bool false)) 16 (.int .i64 (l.getD i 0))) 17 (.pointer (some ⟨p, 0, none⟩))) 18 (.pointer (some ⟨p, 0, none⟩))) 19 (.pointer (some ⟨p, 0, none⟩))) (by kernel_rfl) ?_
        refine st (by kernel_rfl) (S_val (v := .slice A N.length cp) (R_load (v := .slice A N.length cp) (by kernel_rfl) (by kernel_rfl) ((hP.cell 0).trans rfl)) ?_)
        refine seg3 (ρ' := upd (upd (upd (upd (upd (upd (upd (upd (upd (upd (upd (upd (upd (upd (upd (updL ρ [(0, .pointer (some ⟨p, 0, none⟩)), (7, .slice (some ⟨g, 0, none⟩) mm mm), (8, .int .i64 (mm : Int)), (9, .int .i64 ((i : Nat) : Int))]) 10 (.bool (decide (((i : Nat) : Int) < (mm : Int))))) 11 (.pointer (some ⟨g, i, none⟩))) 12 (.int .i64 (l.getD i 0))) 6 (.int .i64 (l.getD i 0))) 13 (.int .i64 (l.getD i 0))) 14 (.bool false)) 15 (.bool false)) 16 (.int .i64 (l.getD i 0))) 17 (.pointer (some ⟨p, 0, none⟩))) 18 (.pointer (some ⟨p, 0, none⟩))) 19 (.pointer (some ⟨p, 0, none⟩))) 20 (.slice A N.length cp)) 21 (.int .i64 (N.length : Int))) 22 (.bool (decide (l.getD i 0 ≥ (N.length : Int))))) 23 (.bool (decide (l.getD i 0 ≥ (N.length : Int))))) (by kernel_rfl) ?_
        refine op_nil ?_
        refine W_cond (decide (l.getD i 0 ≥ (N.length : Int))) (by kernel_rfl) (by kernel_rfl) (fun hc4 => ?_) (fun hc4 => ?_)
        · replace hc4 : (N.length : Int) ≤ l.getD i 0 := (of_decide_eq_true hc4)
          refine W_seq ?_
          refine W_fg [(0, .pointer (some ⟨p, 0, none⟩)), (6, .int .i64 (l.getD i 0)), (7, .slice (some ⟨g, 0, none⟩) mm mm), (8, .int .i64 (mm : Int)), (9, .int .i64 ((i : Nat) : Int)), (10, .bool (decide (((i : Nat) : Int) < (mm : Int)))), (23, .bool (decide (l.getD i 0 ≥ (N.length : Int))))] (by kernel_rfl) fun ρ => ?_
          refine W_region (by kernel_rfl) ?_
          refine seg1 (ρ' := upd (updL ρ [(0, .pointer (some ⟨p, 0, none⟩)), (6, .int .i64 (l.getD i 0)), (7, .slice (some ⟨g, 0, none⟩) mm mm), (8, .int .i64 (mm : Int)), (9, .int .i64 ((i : Nat) : Int)), (10, .bool (decide (((i : Nat) : Int) < (mm : Int)))), (23, .bool (decide (l.getD i 0 ≥ (N.length : Int))))]) 4 (.bool true)) (by kernel_rfl) ?_
          refine op_nil ?_
          refine W_ret ?_
          exact ⟨_, Res_of (v := .bool true) (by kernel_rfl), ⟨congrArg Value.bool (by first | exact badT_t (i := i) (by omega) (by omega) | exact badT_f (by omega) hb), hT0⟩⟩
        · replace hc4 : l.getD i 0 < (N.length : Int) := (Int.not_le.1 (of_decide_eq_false hc4))
          refine W_skip ?_
          refine W_fg [(0, .pointer (some ⟨p, 0, none⟩)), (6, .int .i64 (l.getD i 0)), (7, .slice (some ⟨g, 0, none⟩) mm mm), (8, .int .i64 (mm : Int)), (9, .int .i64 ((i : Nat) : Int)), (10, .bool (decide (((i : Nat) : Int) < (mm : Int)))), (23, .bool (decide (l.getD i 0 ≥ (N.length : Int))))] (by kernel_rfl) fun ρ => ?_
          refine W_region (by kernel_rfl) ?_
          refine seg1 (ρ' := upd (updL ρ [(0, .pointer (some ⟨p, 0, none⟩)), (6, .int .i64 (l.getD i 0)), (7, .slice (some ⟨g, 0, none⟩) mm mm), (8, .int .i64 (mm : Int)), (9, .int .i64 ((i : Nat) : Int)), (10, .bool (decide (((i : Nat) : Int) < (mm : Int)))), (23, .bool (decide (l.getD i 0 ≥ (N.length : Int))))]) 24 (.int .i64 (IntKind.i64.wrap (((i : Nat) : Int) + 1)))) (by kernel_rfl) ?_
          rw [show IntKind.i64.wrap (((i : Nat) : Int) + 1) = ((i : Nat) : Int) + 1 from wrap_i64 (by omega) (by omega)]
          refine seg1 (ρ' := upd (upd (updL ρ [(0, .pointer (some ⟨p, 0, none⟩)), (6, .int .i64 (l.getD i 0)), (7, .slice (some ⟨g, 0, none⟩) mm mm), (8, .int .i64 (mm : Int)), (9, .int .i64 ((i : Nat) : Int)), (10, .bool (decide (((i : Nat) : Int) < (mm : Int)))), (23, .bool (decide (l.getD i 0 ≥ (N.length : Int))))]) 24 (.int .i64 (((i : Nat) : Int) + 1))) 9 (.int .i64 (((i : Nat) : Int) + 1))) (by kernel_rfl) ?_
          refine op_nil ?_
          refine ⟨_, ?_, i + 1, _, updL_self (by kernel_rfl), ?_, ?_, hT0, hP, hG, rfl⟩
          · omega
          · omega
          · intro j hj; by_cases e : j = i; (subst e; omega); exact hb j (by omega)
      · replace hb3 : l.getD i 0 < 0 := (of_decide_eq_true hb3)
        refine seg8 (ρ' := upd (upd (upd (upd (upd (upd (upd (upd (upd (upd (upd (upd (upd (upd (upd (updL ρ [(0, .pointer (some ⟨p, 0, none⟩)), (7, .slice (some ⟨g, 0, none⟩) mm mm), (8, .int .i64 (mm : Int)), (9, .int .i64 ((i : Nat) : Int))]) 10 (.bool (decide (((i : Nat) : Int) < (mm : Int))))) 11 (.pointer (some ⟨g, i, none⟩))) 12 (.int .i64 (l.getD i 0))) 6 (.int .i64 (l.getD i 0))) 13 (.int .i64 (l.getD i 0))) 14 (.bool true)) 15 (.bool true)) 16 (undef)) 17 (undef)) 18 (undef)) 19 (undef)) 20 (undef)) 21 (undef)) 22 (undef)) 23 (.bool true)) (by kernel_rfl) ?_
        refine op_nil ?_
        refine W_cond true (by kernel_rfl) (by kernel_rfl) (fun _ => ?_) (fun h => nomatch h)
        refine W_seq ?_
        refine W_fg [(0, .pointer (some ⟨p, 0, none⟩)), (6, .int .i64 (l.getD i 0)), (7, .slice (some ⟨g, 0, none⟩) mm mm), (8, .int .i64 (mm : Int)), (9, .int .i64 ((i : Nat) : Int)), (10, .bool (decide (((i : Nat) : Int) < (mm : Int)))), (23, .bool true)] (by kernel_rfl) fun ρ => ?_
        refine W_region (by kernel_rfl) ?_
        refine seg1 (ρ' := upd (updL ρ [(0, .pointer (some ⟨p, 0, none⟩)), (6, .int .i64 (l.getD i 0)), (7, .slice (some ⟨g, 0, none⟩) mm mm), (8, .int .i64 (mm : Int)), (9, .int .i64 ((i : Nat) : Int)), (10, .bool (decide (((i : Nat) : Int) < (mm : Int)))), (23, .bool true)]) 4 (.bool true)) (by kernel_rfl) ?_
        refine op_nil ?_
        refine W_ret ?_
        exact ⟨_, Res_of (v := .bool true) (by kernel_rfl), ⟨congrArg Value.bool (by first | exact badT_t (i := i) (by omega) (by omega) | exact badT_f (by omega) hb), hT0⟩⟩
    · replace hc2 : (mm : Int) ≤ ((i : Nat) : Int) := (Int.not_lt.1 (of_decide_eq_false hc2))
      refine W_exit ?_
      refine X_hit ?_
      refine W_seq ?_
      refine W_region (by kernel_rfl) ?_
      refine seg1 (ρ' := upd (upd (updL ρ [(0, .pointer (some ⟨p, 0, none⟩)), (7, .slice (some ⟨g, 0, none⟩) mm mm), (8, .int .i64 (mm : Int)), (9, .int .i64 ((i : Nat) : Int))]) 10 (.bool (decide (((i : Nat) : Int) < (mm : Int))))) 4 (.bool false)) (by kernel_rfl) ?_
      refine op_nil ?_
      refine W_ret ?_
      exact ⟨_, Res_of (v := .bool false) (by kernel_rfl), ⟨congrArg Value.bool (by first | exact badT_t (i := i) (by omega) (by omega) | exact badT_f (by omega) hb), hT0⟩⟩

set_option maxRecDepth 100000 in
theorem node_in (F : Nat → Prop) (p : Nat) (most : Int) (N : List Nd) (W : Value → Value → Prop) (ix : Int) (w : World) (hL : TLow F w p most N W) (hN : N.length ≤ 65536) (h0 : 0 ≤ ix) (h1 : ix < (N.length : Int)) : Ret Try.prog 14 [.pointer (some ⟨p, 0, none⟩), .int .i64 ix] w fun v w' => v = .tuple #[.agg #[.int .i64 (nO (nth N ix.toNat)), .int .i64 (nW (nth N ix.toNat)), .int .i64 (nA (nth N ix.toNat)), .int .i64 (nB (nth N ix.toNat)), .int .i64 (nC (nth N ix.toNat)), .int .u64 (nV (nth N ix.toNat))], .bool true] ∧ Tch N0 w w' := by
  obtain ⟨A, cp, ma, mw, hP, hO, _⟩ := id hL
  have hR0 := hO.rdS
  have hR := hR0
  have hbad : badT N.length [ix] = false := bad1f.2 ⟨h0, h1⟩
  refine enter Try.func14 rfl rfl ?_
  refine W_seq ?_
  refine W_region (by kernel_rfl) ?_
  have hlt_ := hL.lt
  have lt5 := hP.lt
  have l6 := hP.lt
  refine st (by rfl) (S_new (v := .pointer (some ⟨w.heap.size, 0, none⟩)) (ob := .cells #[.int .i64 0, .int .i64 0, .int .i64 0, .int .i64 0, .int .i64 0, .int .u64 0] 32) (by kernel_rfl) fun w1 hT2 hs3 hB4 => ?_)
  replace hB4 : Blk w1 (w.heap.size) 32 [.int .i64 0, .int .i64 0, .int .i64 0, .int .i64 0, .int .i64 0, .int .u64 0] := hB4
  have hT0 := hT2
  have hL := hL.tch0 hT2
  have hP := hP.tch0 hT2
  have hR := hR0.tch0 hT0
  have nF_hB4 : ¬ F (w.heap.size) := fun e => by have := hlt_ _ e; omega
  refine seg1 (ρ' := upd (upd (ini [.pointer (some ⟨p, 0, none⟩), .int .i64 ix]) 4 (.pointer (some ⟨w.heap.size, 0, none⟩))) 5 (.bool false)) (by kernel_rfl) ?_
  refine op_nil ?_
  refine W_seq ?_
  refine W_seq ?_
  refine W_region (by kernel_rfl) ?_
  refine seg5 (ρ' := upd (upd (upd (upd (upd (upd (upd (ini [.pointer (some ⟨p, 0, none⟩), .int .i64 ix]) 4 (.pointer (some ⟨w.heap.size, 0, none⟩))) 5 (.bool false)) 6 (.pointer (some ⟨p, 0, none⟩))) 7 (.bool false)) 8 (.bool false)) 9 (.pointer (some ⟨p, 0, none⟩))) 10 (.int .i64 ix)) (by kernel_rfl) ?_
  have hlt_ := hL.lt
  have lt11 := hP.lt
  have lt12 := hB4.lt
  have z13 := hT0.size
  have l14 := hP.lt
  have l15 := hB4.lt
  refine st (by kernel_rfl) (S_new (v := .slice (some ⟨w1.heap.size, 0, none⟩) 1 1) (ob := .cells #[.int .i64 ix] 3) (by kernel_rfl) fun w7 hT8 hs9 hB10 => ?_)
  replace hB10 : Blk w7 (w1.heap.size) 3 [.int .i64 ix] := hB10
  have hT0 := hT0.t0 hT8
  have hL := hL.tch0 hT8
  have hP := hP.tch0 hT8
  have hR := hR0.tch0 hT0
  have hB4 := hB4.tch0 hT8
  have nF_hB10 : ¬ F (w1.heap.size) := fun e => by have := hlt_ _ e; omega
  refine st (by kernel_rfl) (S_call (args := [.pointer (some ⟨p, 0, none⟩), .slice (some ⟨w1.heap.size, 0, none⟩) 1 1]) (by kernel_rfl) (by have q := none_ok F p most N W (w1.heap.size) 1 [ix] _ hL (by omega) (show Blk _ _ 3 (ints .i64 [ix]) from hB10) rfl (by omega); rw [hbad] at q; exact q) ?_)
  rintro _ w16 ⟨rfl, hT17⟩
  have hT0 := hT0.t0 hT17
  have hL := hL.tch0 hT17
  have hP := hP.tch0 hT17
  have hR := hR0.tch0 hT0
  have hB4 := hB4.tch0 hT17
  have hB10 := hB10.tch0 hT17
  refine seg1 (ρ' := upd (upd (upd (upd (upd (upd (upd (upd (upd (upd (ini [.pointer (some ⟨p, 0, none⟩), .int .i64 ix]) 4 (.pointer (some ⟨w.heap.size, 0, none⟩))) 5 (.bool false)) 6 (.pointer (some ⟨p, 0, none⟩))) 7 (.bool false)) 8 (.bool false)) 9 (.pointer (some ⟨p, 0, none⟩))) 10 (.int .i64 ix)) 11 (.slice (some ⟨w1.heap.size, 0, none⟩) 1 1)) 12 (.bool false)) 13 (.bool false)) (by kernel_rfl) ?_
  refine op_nil ?_
  refine W_cond false (by kernel_rfl) (by kernel_rfl) (fun h => nomatch h) (fun _ => ?_)
  refine W_skip ?_
  refine W_seq ?_
  refine W_fg [(0, .pointer (some ⟨p, 0, none⟩)), (1, .int .i64 ix), (4, .pointer (some ⟨w.heap.size, 0, none⟩)), (5, .bool false), (13, .bool false)] (by kernel_rfl) fun ρ => ?_
  refine W_region (by kernel_rfl) ?_
  refine seg3 (ρ' := upd (upd (upd (updL ρ [(0, .pointer (some ⟨p, 0, none⟩)), (1, .int .i64 ix), (4, .pointer (some ⟨w.heap.size, 0, none⟩)), (5, .bool false), (13, .bool false)]) 15 (.pointer (some ⟨p, 0, none⟩))) 16 (.pointer (some ⟨p, 0, none⟩))) 17 (.pointer (some ⟨p, 0, none⟩))) (by kernel_rfl) ?_
  refine st (by rfl) (S_val (v := .slice A N.length cp) (R_load (v := .slice A N.length cp) (by kernel_rfl) (by kernel_rfl) ((hP.cell 0).trans rfl)) ?_)
  refine seg1 (ρ' := upd (upd (upd (upd (upd (updL ρ [(0, .pointer (some ⟨p, 0, none⟩)), (1, .int .i64 ix), (4, .pointer (some ⟨w.heap.size, 0, none⟩)), (5, .bool false), (13, .bool false)]) 15 (.pointer (some ⟨p, 0, none⟩))) 16 (.pointer (some ⟨p, 0, none⟩))) 17 (.pointer (some ⟨p, 0, none⟩))) 18 (.slice A N.length cp)) 19 (.int .i64 ix)) (by kernel_rfl) ?_
  refine stv (v := ptrAt A (ix.toNat * 6)) (by rfl) (R_indexRd (sz := 6) (len := N.length) (cap := cp) (k := .i64) (i := ix) (e := 32) ix.toNat hR (by kernel_rfl) (by kernel_rfl) (by kernel_rfl) (by kernel_rfl) (by omega) (by omega)) ?_
  refine stv (v := .agg #[.int .i64 (nO (nth N ix.toNat)), .int .i64 (nW (nth N ix.toNat)), .int .i64 (nA (nth N ix.toNat)), .int .i64 (nB (nth N ix.toNat)), .int .i64 (nC (nth N ix.toNat)), .int .u64 (nV (nth N ix.toNat))]) (by rfl) (R_loadRdA [.int .i64 (nO (nth N ix.toNat)), .int .i64 (nW (nth N ix.toNat)), .int .i64 (nA (nth N ix.toNat)), .int .i64 (nB (nth N ix.toNat)), .int .i64 (nC (nth N ix.toNat)), .int .u64 (nV (nth N ix.toNat))] hR (by omega) (by kernel_rfl) (by kernel_rfl) (by kernel_rfl) (ncs_part N (by omega))) ?_
  refine st (by rfl) (S_storeA (b := w.heap.size) (j := 0) (cs := [.int .i64 (nO (nth N ix.toNat)), .int .i64 (nW (nth N ix.toNat)), .int .i64 (nA (nth N ix.toNat)), .int .i64 (nB (nth N ix.toNat)), .int .i64 (nC (nth N ix.toNat)), .int .u64 (nV (nth N ix.toNat))]) (by kernel_rfl) (by kernel_rfl) (by kernel_rfl) (by simp [oneV]) hB4 (by simp) fun w18 hT19 hs20 hB4' => ?_)
  have hT0 := (hT0).then hT19 (fun c e => by have : c = w.heap.size := e; omega)
  have hL := hL.tchS hT19 (fun c e q => by cases e; exact nF_hB4 q)
  have hP := hP.tch hT19 (hP.ne hB4 (by decide))
  have hR := hR0.tch0 hT0
  have hB10 := hB10.tch hT19 (hB10.ne hB4 (by decide))
  replace hB4 : Blk w18 w.heap.size 32 [.int .i64 (nO (nth N ix.toNat)), .int .i64 (nW (nth N ix.toNat)), .int .i64 (nA (nth N ix.toNat)), .int .i64 (nB (nth N ix.toNat)), .int .i64 (nC (nth N ix.toNat)), .int .u64 (nV (nth N ix.toNat))] := hB4'
  refine seg1 (ρ' := upd (upd (upd (upd (upd (upd (upd (upd (updL ρ [(0, .pointer (some ⟨p, 0, none⟩)), (1, .int .i64 ix), (4, .pointer (some ⟨w.heap.size, 0, none⟩)), (5, .bool false), (13, .bool false)]) 15 (.pointer (some ⟨p, 0, none⟩))) 16 (.pointer (some ⟨p, 0, none⟩))) 17 (.pointer (some ⟨p, 0, none⟩))) 18 (.slice A N.length cp)) 19 (.int .i64 ix)) 20 (ptrAt A (ix.toNat * 6))) 21 (.agg #[.int .i64 (nO (nth N ix.toNat)), .int .i64 (nW (nth N ix.toNat)), .int .i64 (nA (nth N ix.toNat)), .int .i64 (nB (nth N ix.toNat)), .int .i64 (nC (nth N ix.toNat)), .int .u64 (nV (nth N ix.toNat))])) 5 (.bool true)) (by kernel_rfl) ?_
  refine op_nil ?_
  refine W_ret ?_
  exact ⟨_, Res_cell1 (b := w.heap.size) (cs := [.int .i64 (nO (nth N ix.toNat)), .int .i64 (nW (nth N ix.toNat)), .int .i64 (nA (nth N ix.toNat)), .int .i64 (nB (nth N ix.toNat)), .int .i64 (nC (nth N ix.toNat)), .int .u64 (nV (nth N ix.toNat))]) (by rfl) (by kernel_rfl) (by kernel_rfl) (by kernel_rfl) hB4 (by kernel_rfl) (by kernel_rfl), ⟨rfl, hT0⟩⟩

set_option maxRecDepth 100000 in
theorem node_out (F : Nat → Prop) (p : Nat) (most : Int) (N : List Nd) (W : Value → Value → Prop) (ix : Int) (w : World) (hL : TLow F w p most N W) (hN : N.length ≤ 65536) (hid : ¬ (0 ≤ ix ∧ ix < (N.length : Int))) : Ret Try.prog 14 [.pointer (some ⟨p, 0, none⟩), .int .i64 ix] w fun v w' => v = .tuple #[.agg #[.int .i64 0, .int .i64 0, .int .i64 0, .int .i64 0, .int .i64 0, .int .u64 0], .bool false] ∧ Tch N0 w w' := by
  obtain ⟨A, cp, ma, mw, hP, hO, _⟩ := id hL
  have hbad : badT N.length [ix] = true := bad1.2 (by omega)
  refine enter Try.func14 rfl rfl ?_
  refine W_seq ?_
  refine W_region (by kernel_rfl) ?_
  have hlt_ := hL.lt
  have lt5 := hP.lt
  have l6 := hP.lt
  refine st (by rfl) (S_new (v := .pointer (some ⟨w.heap.size, 0, none⟩)) (ob := .cells #[.int .i64 0, .int .i64 0, .int .i64 0, .int .i64 0, .int .i64 0, .int .u64 0] 32) (by kernel_rfl) fun w1 hT2 hs3 hB4 => ?_)
  replace hB4 : Blk w1 (w.heap.size) 32 [.int .i64 0, .int .i64 0, .int .i64 0, .int .i64 0, .int .i64 0, .int .u64 0] := hB4
  have hT0 := hT2
  have hL := hL.tch0 hT2
  have hP := hP.tch0 hT2
  have nF_hB4 : ¬ F (w.heap.size) := fun e => by have := hlt_ _ e; omega
  refine seg1 (ρ' := upd (upd (ini [.pointer (some ⟨p, 0, none⟩), .int .i64 ix]) 4 (.pointer (some ⟨w.heap.size, 0, none⟩))) 5 (.bool false)) (by kernel_rfl) ?_
  refine op_nil ?_
  refine W_seq ?_
  refine W_seq ?_
  refine W_region (by kernel_rfl) ?_
  refine seg5 (ρ' := upd (upd (upd (upd (upd (upd (upd (ini [.pointer (some ⟨p, 0, none⟩), .int .i64 ix]) 4 (.pointer (some ⟨w.heap.size, 0, none⟩))) 5 (.bool false)) 6 (.pointer (some ⟨p, 0, none⟩))) 7 (.bool false)) 8 (.bool false)) 9 (.pointer (some ⟨p, 0, none⟩))) 10 (.int .i64 ix)) (by kernel_rfl) ?_
  have hlt_ := hL.lt
  have lt11 := hP.lt
  have lt12 := hB4.lt
  have z13 := hT0.size
  have l14 := hP.lt
  have l15 := hB4.lt
  refine st (by kernel_rfl) (S_new (v := .slice (some ⟨w1.heap.size, 0, none⟩) 1 1) (ob := .cells #[.int .i64 ix] 3) (by kernel_rfl) fun w7 hT8 hs9 hB10 => ?_)
  replace hB10 : Blk w7 (w1.heap.size) 3 [.int .i64 ix] := hB10
  have hT0 := hT0.t0 hT8
  have hL := hL.tch0 hT8
  have hP := hP.tch0 hT8
  have hB4 := hB4.tch0 hT8
  have nF_hB10 : ¬ F (w1.heap.size) := fun e => by have := hlt_ _ e; omega
  refine st (by kernel_rfl) (S_call (args := [.pointer (some ⟨p, 0, none⟩), .slice (some ⟨w1.heap.size, 0, none⟩) 1 1]) (by kernel_rfl) (by have q := none_ok F p most N W (w1.heap.size) 1 [ix] _ hL (by omega) (show Blk _ _ 3 (ints .i64 [ix]) from hB10) rfl (by omega); rw [hbad] at q; exact q) ?_)
  rintro _ w16 ⟨rfl, hT17⟩
  have hT0 := hT0.t0 hT17
  have hL := hL.tch0 hT17
  have hP := hP.tch0 hT17
  have hB4 := hB4.tch0 hT17
  have hB10 := hB10.tch0 hT17
  refine seg1 (ρ' := upd (upd (upd (upd (upd (upd (upd (upd (upd (upd (ini [.pointer (some ⟨p, 0, none⟩), .int .i64 ix]) 4 (.pointer (some ⟨w.heap.size, 0, none⟩))) 5 (.bool false)) 6 (.pointer (some ⟨p, 0, none⟩))) 7 (.bool false)) 8 (.bool false)) 9 (.pointer (some ⟨p, 0, none⟩))) 10 (.int .i64 ix)) 11 (.slice (some ⟨w1.heap.size, 0, none⟩) 1 1)) 12 (.bool true)) 13 (.bool true)) (by kernel_rfl) ?_
  refine op_nil ?_
  refine W_cond true (by kernel_rfl) (by kernel_rfl) (fun _ => ?_) (fun h => nomatch h)
  refine W_seq ?_
  refine W_fg [(0, .pointer (some ⟨p, 0, none⟩)), (1, .int .i64 ix), (4, .pointer (some ⟨w.heap.size, 0, none⟩)), (5, .bool false), (13, .bool true)] (by kernel_rfl) fun ρ => ?_
  refine W_region (by kernel_rfl) ?_
  refine seg1 (ρ' := upd (updL ρ [(0, .pointer (some ⟨p, 0, none⟩)), (1, .int .i64 ix), (4, .pointer (some ⟨w.heap.size, 0, none⟩)), (5, .bool false), (13, .bool true)]) 14 (.agg #[.int .i64 0, .int .i64 0, .int .i64 0, .int .i64 0, .int .i64 0, .int .u64 0])) (by kernel_rfl) ?_
  refine st (by rfl) (S_storeA (b := w.heap.size) (j := 0) (cs := [.int .i64 0, .int .i64 0, .int .i64 0, .int .i64 0, .int .i64 0, .int .u64 0]) (by kernel_rfl) (by kernel_rfl) (by kernel_rfl) (by simp [oneV]) hB4 (by simp) fun w18 hT19 hs20 hB4' => ?_)
  have hT0 := (hT0).then hT19 (fun c e => by have : c = w.heap.size := e; omega)
  have hL := hL.tchS hT19 (fun c e q => by cases e; exact nF_hB4 q)
  have hP := hP.tch hT19 (hP.ne hB4 (by decide))
  have hB10 := hB10.tch hT19 (hB10.ne hB4 (by decide))
  replace hB4 : Blk w18 w.heap.size 32 [.int .i64 0, .int .i64 0, .int .i64 0, .int .i64 0, .int .i64 0, .int .u64 0] := hB4'
  refine seg1 (ρ' := upd (upd (updL ρ [(0, .pointer (some ⟨p, 0, none⟩)), (1, .int .i64 ix), (4, .pointer (some ⟨w.heap.size, 0, none⟩)), (5, .bool false), (13, .bool true)]) 14 (.agg #[.int .i64 0, .int .i64 0, .int .i64 0, .int .i64 0, .int .i64 0, .int .u64 0])) 5 (.bool false)) (by kernel_rfl) ?_
  refine op_nil ?_
  refine W_ret ?_
  exact ⟨_, Res_cell1 (b := w.heap.size) (cs := [.int .i64 0, .int .i64 0, .int .i64 0, .int .i64 0, .int .i64 0, .int .u64 0]) (by rfl) (by kernel_rfl) (by kernel_rfl) (by kernel_rfl) hB4 (by kernel_rfl) (by kernel_rfl), ⟨rfl, hT0⟩⟩

set_option maxRecDepth 100000 in
theorem node_nil (ix : Int) (w : World) : Ret Try.prog 14 [.pointer none, .int .i64 ix] w fun v w' => v = .tuple #[.agg #[.int .i64 0, .int .i64 0, .int .i64 0, .int .i64 0, .int .i64 0, .int .u64 0], .bool false] ∧ Tch N0 w w' := by
  refine enter Try.func14 rfl rfl ?_
  refine W_seq ?_
  refine W_region (by kernel_rfl) ?_
  refine st (by rfl) (S_new (v := .pointer (some ⟨w.heap.size, 0, none⟩)) (ob := .cells #[.int .i64 0, .int .i64 0, .int .i64 0, .int .i64 0, .int .i64 0, .int .u64 0] 32) (by kernel_rfl) fun w1 hT2 hs3 hB4 => ?_)
  replace hB4 : Blk w1 (w.heap.size) 32 [.int .i64 0, .int .i64 0, .int .i64 0, .int .i64 0, .int .i64 0, .int .u64 0] := hB4
  have hT0 := hT2
  refine seg1 (ρ' := upd (upd (ini [.pointer none, .int .i64 ix]) 4 (.pointer (some ⟨w.heap.size, 0, none⟩))) 5 (.bool false)) (by kernel_rfl) ?_
  refine op_nil ?_
  refine W_seq ?_
  refine W_seq ?_
  refine W_region (by kernel_rfl) ?_
  refine seg8 (ρ' := upd (upd (upd (upd (upd (upd (upd (upd (upd (upd (ini [.pointer none, .int .i64 ix]) 4 (.pointer (some ⟨w.heap.size, 0, none⟩))) 5 (.bool false)) 6 (.pointer none)) 7 (.bool true)) 8 (.bool true)) 9 (undef)) 10 (undef)) 11 (undef)) 12 (undef)) 13 (.bool true)) (by kernel_rfl) ?_
  refine op_nil ?_
  refine W_cond true (by kernel_rfl) (by kernel_rfl) (fun _ => ?_) (fun h => nomatch h)
  refine W_seq ?_
  refine W_fg [(0, .pointer none), (1, .int .i64 ix), (4, .pointer (some ⟨w.heap.size, 0, none⟩)), (5, .bool false), (13, .bool true)] (by kernel_rfl) fun ρ => ?_
  refine W_region (by kernel_rfl) ?_
  refine seg1 (ρ' := upd (updL ρ [(0, .pointer none), (1, .int .i64 ix), (4, .pointer (some ⟨w.heap.size, 0, none⟩)), (5, .bool false), (13, .bool true)]) 14 (.agg #[.int .i64 0, .int .i64 0, .int .i64 0, .int .i64 0, .int .i64 0, .int .u64 0])) (by kernel_rfl) ?_
  refine st (by rfl) (S_storeA (b := w.heap.size) (j := 0) (cs := [.int .i64 0, .int .i64 0, .int .i64 0, .int .i64 0, .int .i64 0, .int .u64 0]) (by kernel_rfl) (by kernel_rfl) (by kernel_rfl) (by simp [oneV]) hB4 (by simp) fun w5 hT6 hs7 hB4' => ?_)
  have hT0 := (hT0).then hT6 (fun c e => by have : c = w.heap.size := e; omega)
  replace hB4 : Blk w5 w.heap.size 32 [.int .i64 0, .int .i64 0, .int .i64 0, .int .i64 0, .int .i64 0, .int .u64 0] := hB4'
  refine seg1 (ρ' := upd (upd (updL ρ [(0, .pointer none), (1, .int .i64 ix), (4, .pointer (some ⟨w.heap.size, 0, none⟩)), (5, .bool false), (13, .bool true)]) 14 (.agg #[.int .i64 0, .int .i64 0, .int .i64 0, .int .i64 0, .int .i64 0, .int .u64 0])) 5 (.bool false)) (by kernel_rfl) ?_
  refine op_nil ?_
  refine W_ret ?_
  exact ⟨_, Res_cell1 (b := w.heap.size) (cs := [.int .i64 0, .int .i64 0, .int .i64 0, .int .i64 0, .int .i64 0, .int .u64 0]) (by rfl) (by kernel_rfl) (by kernel_rfl) (by kernel_rfl) hB4 (by kernel_rfl) (by kernel_rfl), ⟨rfl, hT0⟩⟩

set_option maxRecDepth 100000 in
theorem width_in (F : Nat → Prop) (p : Nat) (most : Int) (N : List Nd) (W : Value → Value → Prop) (ix : Int) (w : World) (hL : TLow F w p most N W) (hN : N.length ≤ 65536) (h0 : 0 ≤ ix) (h1 : ix < (N.length : Int)) : Ret Try.prog 15 [.pointer (some ⟨p, 0, none⟩), .int .i64 ix] w fun v w' => v = .int .i64 (nW (nth N ix.toNat)) ∧ Tch N0 w w' := by
  refine enter Try.func15 rfl rfl ?_
  refine W_seq ?_
  refine W_region (by kernel_rfl) ?_
  refine seg1 (ρ' := upd (ini [.pointer (some ⟨p, 0, none⟩), .int .i64 ix]) 4 (.int .i64 0)) (by kernel_rfl) ?_
  refine op_nil ?_
  refine W_seq ?_
  refine W_region (by kernel_rfl) ?_
  refine seg2 (ρ' := upd (upd (upd (ini [.pointer (some ⟨p, 0, none⟩), .int .i64 ix]) 4 (.int .i64 0)) 8 (.pointer (some ⟨p, 0, none⟩))) 9 (.int .i64 ix)) (by kernel_rfl) ?_
  refine st (by rfl) (S_call (args := [.pointer (some ⟨p, 0, none⟩), .int .i64 ix]) (by kernel_rfl) (node_in F p most N W ix _ hL (by omega) h0 h1) ?_)
  rintro _ w1 ⟨rfl, hT2⟩
  have hT0 := hT2
  have hL := hL.tch0 hT2
  refine seg3 (ρ' := upd (upd (upd (upd (upd (upd (upd (ini [.pointer (some ⟨p, 0, none⟩), .int .i64 ix]) 4 (.int .i64 0)) 8 (.pointer (some ⟨p, 0, none⟩))) 9 (.int .i64 ix)) 10 (.tuple #[.agg #[.int .i64 (nO (nth N ix.toNat)), .int .i64 (nW (nth N ix.toNat)), .int .i64 (nA (nth N ix.toNat)), .int .i64 (nB (nth N ix.toNat)), .int .i64 (nC (nth N ix.toNat)), .int .u64 (nV (nth N ix.toNat))], .bool true])) 7 (.tuple #[.agg #[.int .i64 (nO (nth N ix.toNat)), .int .i64 (nW (nth N ix.toNat)), .int .i64 (nA (nth N ix.toNat)), .int .i64 (nB (nth N ix.toNat)), .int .i64 (nC (nth N ix.toNat)), .int .u64 (nV (nth N ix.toNat))], .bool true])) 11 (.agg #[.int .i64 (nO (nth N ix.toNat)), .int .i64 (nW (nth N ix.toNat)), .int .i64 (nA (nth N ix.toNat)), .int .i64 (nB (nth N ix.toNat)), .int .i64 (nC (nth N ix.toNat)), .int .u64 (nV (nth N ix.toNat))])) 12 (.bool true)) (by kernel_rfl) ?_
  have hlt_ := hL.lt
  have z7 := hT0.size
  refine st (by rfl) (S_new (v := .pointer (some ⟨w1.heap.size, 0, none⟩)) (ob := .cells #[.int .i64 0, .int .i64 0, .int .i64 0, .int .i64 0, .int .i64 0, .int .u64 0] 32) (by kernel_rfl) fun w3 hT4 hs5 hB6 => ?_)
  replace hB6 : Blk w3 (w1.heap.size) 32 [.int .i64 0, .int .i64 0, .int .i64 0, .int .i64 0, .int .i64 0, .int .u64 0] := hB6
  have hT0 := hT0.t0 hT4
  have hL := hL.tch0 hT4
  have nF_hB6 : ¬ F (w1.heap.size) := fun e => by have := hlt_ _ e; omega
  refine st (by rfl) (S_storeA (b := w1.heap.size) (j := 0) (cs := [.int .i64 (nO (nth N ix.toNat)), .int .i64 (nW (nth N ix.toNat)), .int .i64 (nA (nth N ix.toNat)), .int .i64 (nB (nth N ix.toNat)), .int .i64 (nC (nth N ix.toNat)), .int .u64 (nV (nth N ix.toNat))]) (by kernel_rfl) (by kernel_rfl) (by kernel_rfl) (by simp [oneV]) hB6 (by simp) fun w8 hT9 hs10 hB6' => ?_)
  have hT0 := (hT0).then hT9 (fun c e => by have : c = w1.heap.size := e; omega)
  have hL := hL.tchS hT9 (fun c e q => by cases e; exact nF_hB6 q)
  replace hB6 : Blk w8 w1.heap.size 32 [.int .i64 (nO (nth N ix.toNat)), .int .i64 (nW (nth N ix.toNat)), .int .i64 (nA (nth N ix.toNat)), .int .i64 (nB (nth N ix.toNat)), .int .i64 (nC (nth N ix.toNat)), .int .u64 (nV (nth N ix.toNat))] := hB6'
  refine seg1 (ρ' := upd (upd (upd (upd (upd (upd (upd (upd (upd (ini [.pointer (some ⟨p, 0, none⟩), .int .i64 ix]) 4 (.int .i64 0)) 8 (.pointer (some ⟨p, 0, none⟩))) 9 (.int .i64 ix)) 10 (.tuple #[.agg #[.int .i64 (nO (nth N ix.toNat)), .int .i64 (nW (nth N ix.toNat)), .int .i64 (nA (nth N ix.toNat)), .int .i64 (nB (nth N ix.toNat)), .int .i64 (nC (nth N ix.toNat)), .int .u64 (nV (nth N ix.toNat))], .bool true])) 7 (.tuple #[.agg #[.int .i64 (nO (nth N ix.toNat)), .int .i64 (nW (nth N ix.toNat)), .int .i64 (nA (nth N ix.toNat)), .int .i64 (nB (nth N ix.toNat)), .int .i64 (nC (nth N ix.toNat)), .int .u64 (nV (nth N ix.toNat))], .bool true])) 11 (.agg #[.int .i64 (nO (nth N ix.toNat)), .int .i64 (nW (nth N ix.toNat)), .int .i64 (nA (nth N ix.toNat)), .int .i64 (nB (nth N ix.toNat)), .int .i64 (nC (nth N ix.toNat)), .int .u64 (nV (nth N ix.toNat))])) 12 (.bool true)) 5 (.pointer (some ⟨w1.heap.size, 0, none⟩))) 6 (.bool true)) (by kernel_rfl) ?_
  refine op_nil ?_
  refine W_seq ?_
  refine W_fg [(0, .pointer (some ⟨p, 0, none⟩)), (1, .int .i64 ix), (4, .int .i64 0), (5, .pointer (some ⟨w1.heap.size, 0, none⟩))] (by kernel_rfl) fun ρ => ?_
  refine W_region (by kernel_rfl) ?_
  refine seg1 (ρ' := upd (updL ρ [(0, .pointer (some ⟨p, 0, none⟩)), (1, .int .i64 ix), (4, .int .i64 0), (5, .pointer (some ⟨w1.heap.size, 0, none⟩))]) 13 (.pointer (some ⟨w1.heap.size, 1, none⟩))) (by kernel_rfl) ?_
  refine st (by rfl) (S_val (v := .int .i64 (nW (nth N ix.toNat))) (R_load (v := .int .i64 (nW (nth N ix.toNat))) (by kernel_rfl) (by kernel_rfl) ((hB6.cell 1).trans rfl)) ?_)
  refine seg1 (ρ' := upd (upd (upd (updL ρ [(0, .pointer (some ⟨p, 0, none⟩)), (1, .int .i64 ix), (4, .int .i64 0), (5, .pointer (some ⟨w1.heap.size, 0, none⟩))]) 13 (.pointer (some ⟨w1.heap.size, 1, none⟩))) 14 (.int .i64 (nW (nth N ix.toNat)))) 4 (.int .i64 (nW (nth N ix.toNat)))) (by kernel_rfl) ?_
  refine op_nil ?_
  refine W_ret ?_
  exact ⟨_, Res_of (v := .int .i64 (nW (nth N ix.toNat))) (by kernel_rfl), ⟨rfl, hT0⟩⟩

set_option maxRecDepth 100000 in
theorem width_out (F : Nat → Prop) (p : Nat) (most : Int) (N : List Nd) (W : Value → Value → Prop) (ix : Int) (w : World) (hL : TLow F w p most N W) (hN : N.length ≤ 65536) (hid : ¬ (0 ≤ ix ∧ ix < (N.length : Int))) : Ret Try.prog 15 [.pointer (some ⟨p, 0, none⟩), .int .i64 ix] w fun v w' => v = .int .i64 0 ∧ Tch N0 w w' := by
  refine enter Try.func15 rfl rfl ?_
  refine W_seq ?_
  refine W_region (by kernel_rfl) ?_
  refine seg1 (ρ' := upd (ini [.pointer (some ⟨p, 0, none⟩), .int .i64 ix]) 4 (.int .i64 0)) (by kernel_rfl) ?_
  refine op_nil ?_
  refine W_seq ?_
  refine W_region (by kernel_rfl) ?_
  refine seg2 (ρ' := upd (upd (upd (ini [.pointer (some ⟨p, 0, none⟩), .int .i64 ix]) 4 (.int .i64 0)) 8 (.pointer (some ⟨p, 0, none⟩))) 9 (.int .i64 ix)) (by kernel_rfl) ?_
  refine st (by rfl) (S_call (args := [.pointer (some ⟨p, 0, none⟩), .int .i64 ix]) (by kernel_rfl) (node_out F p most N W ix _ hL (by omega) hid) ?_)
  rintro _ w1 ⟨rfl, hT2⟩
  have hT0 := hT2
  have hL := hL.tch0 hT2
  refine seg3 (ρ' := upd (upd (upd (upd (upd (upd (upd (ini [.pointer (some ⟨p, 0, none⟩), .int .i64 ix]) 4 (.int .i64 0)) 8 (.pointer (some ⟨p, 0, none⟩))) 9 (.int .i64 ix)) 10 (.tuple #[.agg #[.int .i64 0, .int .i64 0, .int .i64 0, .int .i64 0, .int .i64 0, .int .u64 0], .bool false])) 7 (.tuple #[.agg #[.int .i64 0, .int .i64 0, .int .i64 0, .int .i64 0, .int .i64 0, .int .u64 0], .bool false])) 11 (.agg #[.int .i64 0, .int .i64 0, .int .i64 0, .int .i64 0, .int .i64 0, .int .u64 0])) 12 (.bool false)) (by kernel_rfl) ?_
  have hlt_ := hL.lt
  have z7 := hT0.size
  refine st (by rfl) (S_new (v := .pointer (some ⟨w1.heap.size, 0, none⟩)) (ob := .cells #[.int .i64 0, .int .i64 0, .int .i64 0, .int .i64 0, .int .i64 0, .int .u64 0] 32) (by kernel_rfl) fun w3 hT4 hs5 hB6 => ?_)
  replace hB6 : Blk w3 (w1.heap.size) 32 [.int .i64 0, .int .i64 0, .int .i64 0, .int .i64 0, .int .i64 0, .int .u64 0] := hB6
  have hT0 := hT0.t0 hT4
  have hL := hL.tch0 hT4
  have nF_hB6 : ¬ F (w1.heap.size) := fun e => by have := hlt_ _ e; omega
  refine st (by rfl) (S_storeA (b := w1.heap.size) (j := 0) (cs := [.int .i64 0, .int .i64 0, .int .i64 0, .int .i64 0, .int .i64 0, .int .u64 0]) (by kernel_rfl) (by kernel_rfl) (by kernel_rfl) (by simp [oneV]) hB6 (by simp) fun w8 hT9 hs10 hB6' => ?_)
  have hT0 := (hT0).then hT9 (fun c e => by have : c = w1.heap.size := e; omega)
  have hL := hL.tchS hT9 (fun c e q => by cases e; exact nF_hB6 q)
  replace hB6 : Blk w8 w1.heap.size 32 [.int .i64 0, .int .i64 0, .int .i64 0, .int .i64 0, .int .i64 0, .int .u64 0] := hB6'
  refine seg1 (ρ' := upd (upd (upd (upd (upd (upd (upd (upd (upd (ini [.pointer (some ⟨p, 0, none⟩), .int .i64 ix]) 4 (.int .i64 0)) 8 (.pointer (some ⟨p, 0, none⟩))) 9 (.int .i64 ix)) 10 (.tuple #[.agg #[.int .i64 0, .int .i64 0, .int .i64 0, .int .i64 0, .int .i64 0, .int .u64 0], .bool false])) 7 (.tuple #[.agg #[.int .i64 0, .int .i64 0, .int .i64 0, .int .i64 0, .int .i64 0, .int .u64 0], .bool false])) 11 (.agg #[.int .i64 0, .int .i64 0, .int .i64 0, .int .i64 0, .int .i64 0, .int .u64 0])) 12 (.bool false)) 5 (.pointer (some ⟨w1.heap.size, 0, none⟩))) 6 (.bool false)) (by kernel_rfl) ?_
  refine op_nil ?_
  refine W_seq ?_
  refine W_fg [(0, .pointer (some ⟨p, 0, none⟩)), (1, .int .i64 ix), (4, .int .i64 0), (5, .pointer (some ⟨w1.heap.size, 0, none⟩))] (by kernel_rfl) fun ρ => ?_
  refine W_region (by kernel_rfl) ?_
  refine seg1 (ρ' := upd (updL ρ [(0, .pointer (some ⟨p, 0, none⟩)), (1, .int .i64 ix), (4, .int .i64 0), (5, .pointer (some ⟨w1.heap.size, 0, none⟩))]) 13 (.pointer (some ⟨w1.heap.size, 1, none⟩))) (by kernel_rfl) ?_
  refine st (by rfl) (S_val (v := .int .i64 0) (R_load (v := .int .i64 0) (by kernel_rfl) (by kernel_rfl) ((hB6.cell 1).trans rfl)) ?_)
  refine seg1 (ρ' := upd (upd (upd (updL ρ [(0, .pointer (some ⟨p, 0, none⟩)), (1, .int .i64 ix), (4, .int .i64 0), (5, .pointer (some ⟨w1.heap.size, 0, none⟩))]) 13 (.pointer (some ⟨w1.heap.size, 1, none⟩))) 14 (.int .i64 0)) 4 (.int .i64 0)) (by kernel_rfl) ?_
  refine op_nil ?_
  refine W_ret ?_
  exact ⟨_, Res_of (v := .int .i64 0) (by kernel_rfl), ⟨rfl, hT0⟩⟩

set_option maxRecDepth 100000 in
theorem width_nil (ix : Int) (w : World) : Ret Try.prog 15 [.pointer none, .int .i64 ix] w fun v w' => v = .int .i64 0 ∧ Tch N0 w w' := by
  refine enter Try.func15 rfl rfl ?_
  refine W_seq ?_
  refine W_region (by kernel_rfl) ?_
  refine seg1 (ρ' := upd (ini [.pointer none, .int .i64 ix]) 4 (.int .i64 0)) (by kernel_rfl) ?_
  refine op_nil ?_
  refine W_seq ?_
  refine W_region (by kernel_rfl) ?_
  refine seg2 (ρ' := upd (upd (upd (ini [.pointer none, .int .i64 ix]) 4 (.int .i64 0)) 8 (.pointer none)) 9 (.int .i64 ix)) (by kernel_rfl) ?_
  refine st (by rfl) (S_call (args := [.pointer none, .int .i64 ix]) (by kernel_rfl) (node_nil  ix _ ) ?_)
  rintro _ w1 ⟨rfl, hT2⟩
  have hT0 := hT2
  refine seg3 (ρ' := upd (upd (upd (upd (upd (upd (upd (ini [.pointer none, .int .i64 ix]) 4 (.int .i64 0)) 8 (.pointer none)) 9 (.int .i64 ix)) 10 (.tuple #[.agg #[.int .i64 0, .int .i64 0, .int .i64 0, .int .i64 0, .int .i64 0, .int .u64 0], .bool false])) 7 (.tuple #[.agg #[.int .i64 0, .int .i64 0, .int .i64 0, .int .i64 0, .int .i64 0, .int .u64 0], .bool false])) 11 (.agg #[.int .i64 0, .int .i64 0, .int .i64 0, .int .i64 0, .int .i64 0, .int .u64 0])) 12 (.bool false)) (by kernel_rfl) ?_
  have z7 := hT0.size
  refine st (by rfl) (S_new (v := .pointer (some ⟨w1.heap.size, 0, none⟩)) (ob := .cells #[.int .i64 0, .int .i64 0, .int .i64 0, .int .i64 0, .int .i64 0, .int .u64 0] 32) (by kernel_rfl) fun w3 hT4 hs5 hB6 => ?_)
  replace hB6 : Blk w3 (w1.heap.size) 32 [.int .i64 0, .int .i64 0, .int .i64 0, .int .i64 0, .int .i64 0, .int .u64 0] := hB6
  have hT0 := hT0.t0 hT4
  refine st (by rfl) (S_storeA (b := w1.heap.size) (j := 0) (cs := [.int .i64 0, .int .i64 0, .int .i64 0, .int .i64 0, .int .i64 0, .int .u64 0]) (by kernel_rfl) (by kernel_rfl) (by kernel_rfl) (by simp [oneV]) hB6 (by simp) fun w8 hT9 hs10 hB6' => ?_)
  have hT0 := (hT0).then hT9 (fun c e => by have : c = w1.heap.size := e; omega)
  replace hB6 : Blk w8 w1.heap.size 32 [.int .i64 0, .int .i64 0, .int .i64 0, .int .i64 0, .int .i64 0, .int .u64 0] := hB6'
  refine seg1 (ρ' := upd (upd (upd (upd (upd (upd (upd (upd (upd (ini [.pointer none, .int .i64 ix]) 4 (.int .i64 0)) 8 (.pointer none)) 9 (.int .i64 ix)) 10 (.tuple #[.agg #[.int .i64 0, .int .i64 0, .int .i64 0, .int .i64 0, .int .i64 0, .int .u64 0], .bool false])) 7 (.tuple #[.agg #[.int .i64 0, .int .i64 0, .int .i64 0, .int .i64 0, .int .i64 0, .int .u64 0], .bool false])) 11 (.agg #[.int .i64 0, .int .i64 0, .int .i64 0, .int .i64 0, .int .i64 0, .int .u64 0])) 12 (.bool false)) 5 (.pointer (some ⟨w1.heap.size, 0, none⟩))) 6 (.bool false)) (by kernel_rfl) ?_
  refine op_nil ?_
  refine W_seq ?_
  refine W_fg [(0, .pointer none), (1, .int .i64 ix), (4, .int .i64 0), (5, .pointer (some ⟨w1.heap.size, 0, none⟩))] (by kernel_rfl) fun ρ => ?_
  refine W_region (by kernel_rfl) ?_
  refine seg1 (ρ' := upd (updL ρ [(0, .pointer none), (1, .int .i64 ix), (4, .int .i64 0), (5, .pointer (some ⟨w1.heap.size, 0, none⟩))]) 13 (.pointer (some ⟨w1.heap.size, 1, none⟩))) (by kernel_rfl) ?_
  refine st (by rfl) (S_val (v := .int .i64 0) (R_load (v := .int .i64 0) (by kernel_rfl) (by kernel_rfl) ((hB6.cell 1).trans rfl)) ?_)
  refine seg1 (ρ' := upd (upd (upd (updL ρ [(0, .pointer none), (1, .int .i64 ix), (4, .int .i64 0), (5, .pointer (some ⟨w1.heap.size, 0, none⟩))]) 13 (.pointer (some ⟨w1.heap.size, 1, none⟩))) 14 (.int .i64 0)) 4 (.int .i64 0)) (by kernel_rfl) ?_
  refine op_nil ?_
  refine W_ret ?_
  exact ⟨_, Res_of (v := .int .i64 0) (by kernel_rfl), ⟨rfl, hT0⟩⟩

theorem width_ok (F : Nat → Prop) (p : Nat) (most : Int) (N : List Nd) (W : Value → Value → Prop) (ix : Int) (w : World) (hL : TLow F w p most N W) (hN : N.length ≤ 65536) : Ret Try.prog 15 [.pointer (some ⟨p, 0, none⟩), .int .i64 ix] w fun v w' => v = .int .i64 (widF N ix) ∧ Tch N0 w w' := by
  unfold widF
  by_cases h : 0 ≤ ix ∧ ix < (N.length : Int)
  · rw [if_pos h]; exact width_in F p most N W ix w hL hN h.1 h.2
  · rw [if_neg h]; exact width_out F p most N W ix w hL hN h

set_option maxRecDepth 100000 in
theorem len_ok (F : Nat → Prop) (p : Nat) (most : Int) (N : List Nd) (W : Value → Value → Prop)  (w : World) (hL : TLow F w p most N W) (hN : N.length ≤ 65536) : Ret Try.prog 20 [.pointer (some ⟨p, 0, none⟩)] w fun v w' => v = .int .i64 (N.length : Int) ∧ Tch N0 w w' := by
  obtain ⟨A, cp, ma, mw, hP, hO, _⟩ := id hL
  refine enter Try.func20 rfl rfl ?_
  refine W_seq ?_
  refine W_region (by kernel_rfl) ?_
  refine seg1 (ρ' := upd (ini [.pointer (some ⟨p, 0, none⟩)]) 2 (.int .i64 0)) (by kernel_rfl) ?_
  refine op_nil ?_
  refine W_seq ?_
  refine W_seq ?_
  refine W_region (by kernel_rfl) ?_
  refine seg2 (ρ' := upd (upd (upd (ini [.pointer (some ⟨p, 0, none⟩)]) 2 (.int .i64 0)) 3 (.pointer (some ⟨p, 0, none⟩))) 4 (.bool false)) (by kernel_rfl) ?_
  refine op_nil ?_
  refine W_cond false (by kernel_rfl) (by kernel_rfl) (fun h => nomatch h) (fun _ => ?_)
  refine W_skip ?_
  refine W_seq ?_
  refine W_region (by kernel_rfl) ?_
  refine seg3 (ρ' := upd (upd (upd (upd (upd (upd (ini [.pointer (some ⟨p, 0, none⟩)]) 2 (.int .i64 0)) 3 (.pointer (some ⟨p, 0, none⟩))) 4 (.bool false)) 5 (.pointer (some ⟨p, 0, none⟩))) 6 (.pointer (some ⟨p, 0, none⟩))) 7 (.pointer (some ⟨p, 0, none⟩))) (by kernel_rfl) ?_
  refine st (by rfl) (S_val (v := .slice A N.length cp) (R_load (v := .slice A N.length cp) (by kernel_rfl) (by kernel_rfl) ((hP.cell 0).trans rfl)) ?_)
  refine seg2 (ρ' := upd (upd (upd (upd (upd (upd (upd (upd (upd (ini [.pointer (some ⟨p, 0, none⟩)]) 2 (.int .i64 0)) 3 (.pointer (some ⟨p, 0, none⟩))) 4 (.bool false)) 5 (.pointer (some ⟨p, 0, none⟩))) 6 (.pointer (some ⟨p, 0, none⟩))) 7 (.pointer (some ⟨p, 0, none⟩))) 8 (.slice A N.length cp)) 9 (.int .i64 (N.length : Int))) 2 (.int .i64 (N.length : Int))) (by kernel_rfl) ?_
  refine op_nil ?_
  refine W_ret ?_
  exact ⟨_, Res_of (v := .int .i64 (N.length : Int)) (by kernel_rfl), ⟨rfl, Tch.refl _ _⟩⟩

set_option maxRecDepth 100000 in
theorem len_nil (w : World) : Ret Try.prog 20 [.pointer none] w fun v w' => v = .int .i64 0 ∧ Tch N0 w w' := by
  refine enter Try.func20 rfl rfl ?_
  refine W_seq ?_
  refine W_region (by kernel_rfl) ?_
  refine seg1 (ρ' := upd (ini [.pointer none]) 2 (.int .i64 0)) (by kernel_rfl) ?_
  refine op_nil ?_
  refine W_seq ?_
  refine W_seq ?_
  refine W_region (by kernel_rfl) ?_
  refine seg2 (ρ' := upd (upd (upd (ini [.pointer none]) 2 (.int .i64 0)) 3 (.pointer none)) 4 (.bool true)) (by kernel_rfl) ?_
  refine op_nil ?_
  refine W_cond true (by kernel_rfl) (by kernel_rfl) (fun _ => ?_) (fun h => nomatch h)
  refine W_seq ?_
  refine W_region (by kernel_rfl) ?_
  refine seg1 (ρ' := upd (upd (upd (upd (ini [.pointer none]) 2 (.int .i64 0)) 3 (.pointer none)) 4 (.bool true)) 2 (.int .i64 0)) (by kernel_rfl) ?_
  refine op_nil ?_
  refine W_ret ?_
  exact ⟨_, Res_of (v := .int .i64 0) (by kernel_rfl), ⟨rfl, Tch.refl _ _⟩⟩

set_option maxRecDepth 100000 in
theorem fits_ok (x : Int) (w : World) : Ret Try.prog 96 [.int .i64 x] w fun v w' => v = .bool (fitsW x) ∧ Tch N0 w w' := by
  refine enter Try.func96 rfl rfl ?_
  refine W_seq ?_
  refine W_region (by kernel_rfl) ?_
  refine seg1 (ρ' := upd (ini [.int .i64 x]) 2 (.bool false)) (by kernel_rfl) ?_
  refine op_nil ?_
  refine W_seq ?_
  refine W_region (by kernel_rfl) ?_
  refine seg3 (ρ' := upd (upd (upd (upd (ini [.int .i64 x]) 2 (.bool false)) 3 (.int .i64 x)) 4 (.bool (decide (x ≥ 1)))) 5 (.bool (decide (x ≥ 1)))) (by kernel_rfl) ?_
  cases hb1 : decide (x ≥ 1)
  · replace hb1 : x < 1 := (Int.not_le.1 (of_decide_eq_false hb1))
    refine seg4 (ρ' := upd (upd (upd (upd (upd (upd (upd (upd (ini [.int .i64 x]) 2 (.bool false)) 3 (.int .i64 x)) 4 (.bool false)) 5 (.bool false)) 6 (undef)) 7 (undef)) 8 (.bool false)) 2 (.bool false)) (by kernel_rfl) ?_
    refine op_nil ?_
    refine W_ret ?_
    exact ⟨_, Res_of (v := .bool false) (by kernel_rfl), ⟨congrArg Value.bool (by unfold fitsW; simp; omega), Tch.refl _ _⟩⟩
  · replace hb1 : 1 ≤ x := (of_decide_eq_true hb1)
    refine seg4 (ρ' := upd (upd (upd (upd (upd (upd (upd (upd (ini [.int .i64 x]) 2 (.bool false)) 3 (.int .i64 x)) 4 (.bool true)) 5 (.bool true)) 6 (.int .i64 x)) 7 (.bool (decide (x ≤ 64)))) 8 (.bool (decide (x ≤ 64)))) 2 (.bool (decide (x ≤ 64)))) (by kernel_rfl) ?_
    refine op_nil ?_
    refine W_ret ?_
    exact ⟨_, Res_of (v := .bool (decide (x ≤ 64))) (by kernel_rfl), ⟨congrArg Value.bool (by unfold fitsW; simp; omega), Tch.refl _ _⟩⟩

set_option maxRecDepth 100000 in
theorem mask_ok (x : Int) (w : World) : Ret Try.prog 56 [.int .i64 x] w fun v w' => v = .int .u64 (maskF x) ∧ Tch N0 w w' := by
  refine enter Try.func56 rfl rfl ?_
  refine W_seq ?_
  refine W_region (by kernel_rfl) ?_
  refine seg1 (ρ' := upd (ini [.int .i64 x]) 2 (.int .u64 0)) (by kernel_rfl) ?_
  refine op_nil ?_
  refine W_seq ?_
  refine W_seq ?_
  refine W_region (by kernel_rfl) ?_
  refine seg1 (ρ' := upd (upd (ini [.int .i64 x]) 2 (.int .u64 0)) 3 (.int .i64 x)) (by kernel_rfl) ?_
  refine st (by rfl) (S_call (args := [.int .i64 x]) (by kernel_rfl) (fits_ok x _) ?_)
  rintro _ w1 ⟨rfl, hT2⟩
  have hT0 := hT2
  refine seg1 (ρ' := upd (upd (upd (upd (ini [.int .i64 x]) 2 (.int .u64 0)) 3 (.int .i64 x)) 4 (.bool (fitsW x))) 5 (.bool (!(fitsW x)))) (by kernel_rfl) ?_
  refine op_nil ?_
  refine W_cond (!(fitsW x)) (by kernel_rfl) (by kernel_rfl) (fun hc3 => ?_) (fun hc3 => ?_)
  · replace hc3 : ¬ (1 ≤ x ∧ x ≤ 64) := (of_decide_eq_false (not_t hc3))
    refine W_seq ?_
    refine W_region (by kernel_rfl) ?_
    refine seg1 (ρ' := upd (upd (upd (upd (upd (ini [.int .i64 x]) 2 (.int .u64 0)) 3 (.int .i64 x)) 4 (.bool (fitsW x))) 5 (.bool (!(fitsW x)))) 2 (.int .u64 0)) (by kernel_rfl) ?_
    refine op_nil ?_
    refine W_ret ?_
    exact ⟨_, Res_of (v := .int .u64 0) (by kernel_rfl), ⟨congrArg (Value.int .u64) (by unfold maskF; first | rw [if_pos (by omega)] | rw [if_neg (by omega)]), hT0⟩⟩
  · replace hc3 : 1 ≤ x ∧ x ≤ 64 := (of_decide_eq_true (not_f hc3))
    refine W_skip ?_
    refine W_seq ?_
    refine W_region (by kernel_rfl) ?_
    refine seg2 (ρ' := upd (upd (upd (upd (upd (upd (ini [.int .i64 x]) 2 (.int .u64 0)) 3 (.int .i64 x)) 4 (.bool (fitsW x))) 5 (.bool (!(fitsW x)))) 6 (.int .i64 x)) 7 (.int .i64 (IntKind.i64.wrap (64 - x)))) (by kernel_rfl) ?_
    rw [show IntKind.i64.wrap (64 - x) = 64 - x from wrap_i64 (by omega) (by omega)]
    refine stv (v := .int .u64 ((18446744073709551615 : Int).fdiv (2 ^ (64 - x.toNat)))) (by rfl) (R_shr (k := .u64) (k2 := .i64) (a := 18446744073709551615) (b := 64 - x) (64 - x.toNat) (by kernel_rfl) (by kernel_rfl) (by omega) (by show _ ≤ 64; omega)) ?_
    refine seg1 (ρ' := upd (upd (upd (upd (upd (upd (upd (upd (ini [.int .i64 x]) 2 (.int .u64 0)) 3 (.int .i64 x)) 4 (.bool (fitsW x))) 5 (.bool (!(fitsW x)))) 6 (.int .i64 x)) 7 (.int .i64 (64 - x))) 8 (.int .u64 ((18446744073709551615 : Int).fdiv (2 ^ (64 - x.toNat))))) 2 (.int .u64 ((18446744073709551615 : Int).fdiv (2 ^ (64 - x.toNat))))) (by kernel_rfl) ?_
    refine op_nil ?_
    refine W_ret ?_
    exact ⟨_, Res_of (v := .int .u64 ((18446744073709551615 : Int).fdiv (2 ^ (64 - x.toNat)))) (by kernel_rfl), ⟨congrArg (Value.int .u64) (by unfold maskF; first | rw [if_pos (by omega)] | rw [if_neg (by omega)]), hT0⟩⟩

set_option maxRecDepth 100000 in
theorem cut_ok (x y : Int) (w : World) : Ret Try.prog 58 [.int .i64 x, .int .u64 y] w fun v w' => v = .int .u64 (cutF x y) ∧ Tch N0 w w' := by
  refine enter Try.func58 rfl rfl ?_
  refine W_seq ?_
  refine W_region (by kernel_rfl) ?_
  refine seg1 (ρ' := upd (ini [.int .i64 x, .int .u64 y]) 4 (.int .u64 0)) (by kernel_rfl) ?_
  refine op_nil ?_
  refine W_seq ?_
  refine W_region (by kernel_rfl) ?_
  refine seg2 (ρ' := upd (upd (upd (ini [.int .i64 x, .int .u64 y]) 4 (.int .u64 0)) 5 (.int .u64 y)) 6 (.int .i64 x)) (by kernel_rfl) ?_
  refine st (by rfl) (S_call (args := [.int .i64 x]) (by kernel_rfl) (mask_ok x _) ?_)
  rintro _ w1 ⟨rfl, hT2⟩
  have hT0 := hT2
  refine seg2 (ρ' := upd (upd (upd (upd (upd (upd (ini [.int .i64 x, .int .u64 y]) 4 (.int .u64 0)) 5 (.int .u64 y)) 6 (.int .i64 x)) 7 (.int .u64 (maskF x))) 8 (.int .u64 (IntKind.u64.wrap (BitVec.ofInt 64 y &&& BitVec.ofInt 64 (maskF x)).toNat))) 4 (.int .u64 (IntKind.u64.wrap (BitVec.ofInt 64 y &&& BitVec.ofInt 64 (maskF x)).toNat))) (by kernel_rfl) ?_
  refine op_nil ?_
  refine W_ret ?_
  exact ⟨_, Res_of (v := .int .u64 (IntKind.u64.wrap (BitVec.ofInt 64 y &&& BitVec.ofInt 64 (maskF x)).toNat)) (by kernel_rfl), ⟨rfl, hT0⟩⟩

end Go.Proofs.YtlbadnpgmkobdaaV
