/- Walks of functions of the program and of the document's texts: each call returns what the plain function says, and turns nothing that lay. The conditions stand with each theorem. -/
import Derived.Test.YthfjceemphhgcaaProg
import Derived.Test.YthfjceemphhgcaaVx2
import Derived.Test.YthfjceemphhgcaaR2
set_option linter.unusedVariables false
set_option linter.unusedSimpArgs false
namespace Go.Proofs.YthfjceemphhgcaaV
open Go Go.RowKit Go.Proofs

set_option maxRecDepth 100000 in
theorem rpop_yes (n : Nat) (A B : Option Addr) (ca cb : Nat) (ac : List Int) (wt : List Bool) (x : Nat) (w : World) (hA : RdW w 1 n A (ints .i64 ac)) (hB : RdW w 1 n B (boolsV wt)) (hn : n ≤ 1048576) (hx : x < n) (hw : wt.getD x false = true) (hb : ∀ y, y < n → wt.getD y false = true → y ≠ x → HeapP.lt ac x y) : Ret Try.prog 30 [.agg #[.slice A n ca, .slice B n cb]] w fun v w' => ∃ g cp sp, v = .tuple #[.agg #[.slice A n ca, .slice (some ⟨g, 0, none⟩) n cp], .int .i64 (x : Int), .bool true] ∧ Blk w' g 4 (boolsV (wt.set x false) ++ sp) ∧ w.heap.size ≤ g ∧ Tch N0 w w' := by
  have la := hA.len
  have lb := hB.lenb
  refine enter Try.func30 rfl rfl ?_
  refine W_seq ?_
  refine W_region (by kernel_rfl) ?_
  refine st (by rfl) (S_new (v := .pointer (some ⟨w.heap.size, 0, none⟩)) (ob := .cells #[.slice A n ca, .slice B n cb] 35) (by kernel_rfl) fun w1 hT2 hs3 hB4 => ?_)
  replace hB4 : Blk w1 (w.heap.size) 35 [.slice A n ca, .slice B n cb] := hB4
  have hT0 := hT2
  refine st (by rfl) (S_new (v := .pointer (some ⟨w1.heap.size, 0, none⟩)) (ob := .cells #[.slice none 0 0, .slice none 0 0] 35) (by kernel_rfl) fun w5 hT6 hs7 hB8 => ?_)
  replace hB8 : Blk w5 (w1.heap.size) 35 [.slice none 0 0, .slice none 0 0] := hB8
  have hT0 := hT0.t0 hT6
  have hB4 := hB4.tch0 hT6
  refine seg2 (ρ' := upd (upd (upd (upd (ini [.agg #[.slice A n ca, .slice B n cb]]) 1 (.pointer (some ⟨w.heap.size, 0, none⟩))) 2 (.pointer (some ⟨w1.heap.size, 0, none⟩))) 3 (.int .i64 0)) 4 (.bool false)) (by kernel_rfl) ?_
  refine op_nil ?_
  refine W_seq ?_
  refine W_region (by kernel_rfl) ?_
  refine seg1 (ρ' := upd (upd (upd (upd (upd (ini [.agg #[.slice A n ca, .slice B n cb]]) 1 (.pointer (some ⟨w.heap.size, 0, none⟩))) 2 (.pointer (some ⟨w1.heap.size, 0, none⟩))) 3 (.int .i64 0)) 4 (.bool false)) 5 (.int .i64 (-1))) (by kernel_rfl) ?_
  refine op_nil ?_
  refine W_seq ?_
  refine W_seq ?_
  refine W_region (by kernel_rfl) ?_
  refine seg1 (ρ' := upd (upd (upd (upd (upd (upd (ini [.agg #[.slice A n ca, .slice B n cb]]) 1 (.pointer (some ⟨w.heap.size, 0, none⟩))) 2 (.pointer (some ⟨w1.heap.size, 0, none⟩))) 3 (.int .i64 0)) 4 (.bool false)) 5 (.int .i64 (-1))) 6 (.int .i64 0)) (by kernel_rfl) ?_
  refine op_nil ?_
  refine W_block ?_
  refine W_loop (fun m ρ w' => ∃ (a : Int) (v : Nat) (ρ0 : Env), ρ = updL ρ0 [(1, .pointer (some ⟨w.heap.size, 0, none⟩)), (2, .pointer (some ⟨w1.heap.size, 0, none⟩)), (3, .int .i64 0), (4, .bool false), (5, .int .i64 a), (6, .int .i64 ((v : Nat) : Int))] ∧ (BestB ac wt v a) ∧ (v ≤ n) ∧ (-1 ≤ a) ∧ (a < n) ∧ Tch N0 w w' ∧ Blk w' (w.heap.size) 35 [.slice A n ca, .slice B n cb] ∧ Blk w' (w1.heap.size) 35 [.slice none 0 0, .slice none 0 0] ∧ m = n - v) (m := n - 0) ?_ ?_
  · refine ⟨-1, 0, _, updL_self (by kernel_rfl), BestB.zero _ _, by omega, by omega, by omega, hT0, hB4, hB8, rfl⟩
  · rintro m ρ w9 ⟨a, v, ρ, rfl, h1, h2, h3, h4, hT0, hB4, hB8, rfl⟩
    refine W_seq ?_
    refine W_seq ?_
    refine W_region (by kernel_rfl) ?_
    refine seg2 (ρ' := upd (upd (updL ρ [(1, .pointer (some ⟨w.heap.size, 0, none⟩)), (2, .pointer (some ⟨w1.heap.size, 0, none⟩)), (3, .int .i64 0), (4, .bool false), (5, .int .i64 a), (6, .int .i64 ((v : Nat) : Int))]) 7 (.int .i64 ((v : Nat) : Int))) 8 (.pointer (some ⟨w.heap.size, 0, none⟩))) (by kernel_rfl) ?_
    refine st (by rfl) (S_val (v := .slice A n ca) (R_load (v := .slice A n ca) (by kernel_rfl) (by kernel_rfl) ((hB4.cell 0).trans rfl)) ?_)
    refine seg2 (ρ' := upd (upd (upd (upd (upd (updL ρ [(1, .pointer (some ⟨w.heap.size, 0, none⟩)), (2, .pointer (some ⟨w1.heap.size, 0, none⟩)), (3, .int .i64 0), (4, .bool false), (5, .int .i64 a), (6, .int .i64 ((v : Nat) : Int))]) 7 (.int .i64 ((v : Nat) : Int))) 8 (.pointer (some ⟨w.heap.size, 0, none⟩))) 9 (.slice A n ca)) 10 (.int .i64 (n : Int))) 11 (.bool (decide (((v : Nat) : Int) < (n : Int))))) (by kernel_rfl) ?_
    refine op_nil ?_
    refine W_cond (decide (((v : Nat) : Int) < (n : Int))) (by kernel_rfl) (by kernel_rfl) (fun hc10 => ?_) (fun hc10 => ?_)
    · replace hc10 : ((v : Nat) : Int) < (n : Int) := (of_decide_eq_true hc10)
      refine W_skip ?_
      refine W_seq ?_
      refine W_block ?_
      refine W_seq ?_
      refine W_still (by kernel_rfl) (by kernel_rfl) (by kernel_rfl) fun w11 hT12 hh13 => ?_
      have hT0 := hT0.t0 hT12
      have hB4 := hB4.tch0 hT12
      have hB8 := hB8.tch0 hT12
      refine qseg1 (ρ' := upd (upd (upd (upd (upd (upd (updL ρ [(1, .pointer (some ⟨w.heap.size, 0, none⟩)), (2, .pointer (some ⟨w1.heap.size, 0, none⟩)), (3, .int .i64 0), (4, .bool false), (5, .int .i64 a), (6, .int .i64 ((v : Nat) : Int))]) 7 (.int .i64 ((v : Nat) : Int))) 8 (.pointer (some ⟨w.heap.size, 0, none⟩))) 9 (.slice A n ca)) 10 (.int .i64 (n : Int))) 11 (.bool (decide (((v : Nat) : Int) < (n : Int))))) 14 (.pointer (some ⟨w.heap.size, 1, none⟩))) (by kernel_rfl) ?_
      refine q_val (v := .slice B n cb) (by rfl) (R_load (v := .slice B n cb) (by kernel_rfl) (by kernel_rfl) ((hB4.cell 1).trans rfl)) ?_
      refine qseg1 (ρ' := upd (upd (upd (upd (upd (upd (upd (upd (updL ρ [(1, .pointer (some ⟨w.heap.size, 0, none⟩)), (2, .pointer (some ⟨w1.heap.size, 0, none⟩)), (3, .int .i64 0), (4, .bool false), (5, .int .i64 a), (6, .int .i64 ((v : Nat) : Int))]) 7 (.int .i64 ((v : Nat) : Int))) 8 (.pointer (some ⟨w.heap.size, 0, none⟩))) 9 (.slice A n ca)) 10 (.int .i64 (n : Int))) 11 (.bool (decide (((v : Nat) : Int) < (n : Int))))) 14 (.pointer (some ⟨w.heap.size, 1, none⟩))) 15 (.slice B n cb)) 16 (.int .i64 ((v : Nat) : Int))) (by kernel_rfl) ?_
      refine q_val (v := ptrAt B v) (by rfl) (R_indexRd1 (len := n) (cap := cb) (k := .i64) (i := ((v : Nat) : Int)) (e := 4) v (hB.tch0 hT0) (by kernel_rfl) (by kernel_rfl) (by kernel_rfl) (by kernel_rfl) rfl (by omega)) ?_
      refine q_val (v := .bool (wt.getD v false)) (by rfl) (R_loadRd (v := .bool (wt.getD v false)) (hB.tch0 hT0) (by omega) (by kernel_rfl) (by kernel_rfl) (boolsV_at wt (by omega))) ?_
      refine qseg1 (ρ' := upd (upd (upd (upd (upd (upd (upd (upd (upd (upd (upd (updL ρ [(1, .pointer (some ⟨w.heap.size, 0, none⟩)), (2, .pointer (some ⟨w1.heap.size, 0, none⟩)), (3, .int .i64 0), (4, .bool false), (5, .int .i64 a), (6, .int .i64 ((v : Nat) : Int))]) 7 (.int .i64 ((v : Nat) : Int))) 8 (.pointer (some ⟨w.heap.size, 0, none⟩))) 9 (.slice A n ca)) 10 (.int .i64 (n : Int))) 11 (.bool (decide (((v : Nat) : Int) < (n : Int))))) 14 (.pointer (some ⟨w.heap.size, 1, none⟩))) 15 (.slice B n cb)) 16 (.int .i64 ((v : Nat) : Int))) 17 (ptrAt B v)) 18 (.bool (wt.getD v false))) 19 (.bool (wt.getD v false))) (by kernel_rfl) ?_
      cases hb14 : wt.getD v false
      · replace hb14 : wt.getD v false = false := (hb14)
        refine qseg16 (ρ' := upd (upd (upd (upd (upd (upd (upd (upd (upd (upd (upd (upd (upd (upd (upd (upd (upd (upd (upd (upd (upd (upd (upd (upd (upd (upd (upd (updL ρ [(1, .pointer (some ⟨w.heap.size, 0, none⟩)), (2, .pointer (some ⟨w1.heap.size, 0, none⟩)), (3, .int .i64 0), (4, .bool false), (5, .int .i64 a), (6, .int .i64 ((v : Nat) : Int))]) 7 (.int .i64 ((v : Nat) : Int))) 8 (.pointer (some ⟨w.heap.size, 0, none⟩))) 9 (.slice A n ca)) 10 (.int .i64 (n : Int))) 11 (.bool (decide (((v : Nat) : Int) < (n : Int))))) 14 (.pointer (some ⟨w.heap.size, 1, none⟩))) 15 (.slice B n cb)) 16 (.int .i64 ((v : Nat) : Int))) 17 (ptrAt B v)) 18 (.bool false)) 19 (.bool false)) 20 (undef)) 21 (undef)) 22 (undef)) 23 (undef)) 24 (undef)) 25 (undef)) 26 (undef)) 27 (undef)) 28 (undef)) 29 (undef)) 30 (undef)) 31 (undef)) 32 (undef)) 33 (undef)) 34 (undef)) 35 (.bool false)) (by kernel_rfl) ?_
        refine q_nil ?_
        refine W_cond false (by kernel_rfl) (by kernel_rfl) (fun h => nomatch h) (fun _ => ?_)
        refine W_skip ?_
        refine W_fg [(1, .pointer (some ⟨w.heap.size, 0, none⟩)), (2, .pointer (some ⟨w1.heap.size, 0, none⟩)), (3, .int .i64 0), (4, .bool false), (5, .int .i64 a), (6, .int .i64 ((v : Nat) : Int)), (11, .bool (decide (((v : Nat) : Int) < (n : Int)))), (35, .bool false)] (by kernel_rfl) fun ρ => ?_
        refine W_region (by kernel_rfl) ?_
        refine seg2 (ρ' := upd (upd (updL ρ [(1, .pointer (some ⟨w.heap.size, 0, none⟩)), (2, .pointer (some ⟨w1.heap.size, 0, none⟩)), (3, .int .i64 0), (4, .bool false), (5, .int .i64 a), (6, .int .i64 ((v : Nat) : Int)), (11, .bool (decide (((v : Nat) : Int) < (n : Int)))), (35, .bool false)]) 12 (.int .i64 ((v : Nat) : Int))) 13 (.int .i64 (IntKind.i64.wrap (((v : Nat) : Int) + 1)))) (by kernel_rfl) ?_
        rw [show IntKind.i64.wrap (((v : Nat) : Int) + 1) = ((v : Nat) : Int) + 1 from wrap_i64 (by omega) (by omega)]
        rw [show upd (upd (updL ρ [(1, .pointer (some ⟨w.heap.size, 0, none⟩)), (2, .pointer (some ⟨w1.heap.size, 0, none⟩)), (3, .int .i64 0), (4, .bool false), (5, .int .i64 a), (6, .int .i64 ((v : Nat) : Int)), (11, .bool (decide (((v : Nat) : Int) < (n : Int)))), (35, .bool false)]) 12 (.int .i64 ((v : Nat) : Int))) 13 (.int .i64 (((v : Nat) : Int) + 1)) = upd (upd (updL ρ [(1, .pointer (some ⟨w.heap.size, 0, none⟩)), (2, .pointer (some ⟨w1.heap.size, 0, none⟩)), (3, .int .i64 0), (4, .bool false), (5, .int .i64 a), (6, .int .i64 ((v : Nat) : Int)), (11, .bool (decide (((v : Nat) : Int) < (n : Int)))), (35, .bool false)]) 12 (.int .i64 ((v : Nat) : Int))) 13 (.int .i64 ((v + 1 : Nat) : Int)) from congrArg (fun z => upd (upd (updL ρ [(1, .pointer (some ⟨w.heap.size, 0, none⟩)), (2, .pointer (some ⟨w1.heap.size, 0, none⟩)), (3, .int .i64 0), (4, .bool false), (5, .int .i64 a), (6, .int .i64 ((v : Nat) : Int)), (11, .bool (decide (((v : Nat) : Int) < (n : Int)))), (35, .bool false)]) 12 (.int .i64 ((v : Nat) : Int))) 13 (.int .i64 z)) (by omega)]
        refine seg1 (ρ' := upd (upd (upd (updL ρ [(1, .pointer (some ⟨w.heap.size, 0, none⟩)), (2, .pointer (some ⟨w1.heap.size, 0, none⟩)), (3, .int .i64 0), (4, .bool false), (5, .int .i64 a), (6, .int .i64 ((v : Nat) : Int)), (11, .bool (decide (((v : Nat) : Int) < (n : Int)))), (35, .bool false)]) 12 (.int .i64 ((v : Nat) : Int))) 13 (.int .i64 ((v + 1 : Nat) : Int))) 6 (.int .i64 ((v + 1 : Nat) : Int))) (by kernel_rfl) ?_
        refine op_nil ?_
        refine ⟨_, ?_, a, v + 1, _, updL_self (by kernel_rfl), ?_, ?_, ?_, ?_, hT0, hB4, hB8, rfl⟩
        · omega
        · first | exact h1.skip (by assumption) | exact h1.first (by assumption) (by omega) | exact h1.take (by assumption) (by omega) (by omega) | exact h1.keep (by omega) (by omega)
        · omega
        · omega
        · omega
      · replace hb14 : wt.getD v false = true := (hb14)
        refine qseg3 (ρ' := upd (upd (upd (upd (upd (upd (upd (upd (upd (upd (upd (upd (upd (upd (updL ρ [(1, .pointer (some ⟨w.heap.size, 0, none⟩)), (2, .pointer (some ⟨w1.heap.size, 0, none⟩)), (3, .int .i64 0), (4, .bool false), (5, .int .i64 a), (6, .int .i64 ((v : Nat) : Int))]) 7 (.int .i64 ((v : Nat) : Int))) 8 (.pointer (some ⟨w.heap.size, 0, none⟩))) 9 (.slice A n ca)) 10 (.int .i64 (n : Int))) 11 (.bool (decide (((v : Nat) : Int) < (n : Int))))) 14 (.pointer (some ⟨w.heap.size, 1, none⟩))) 15 (.slice B n cb)) 16 (.int .i64 ((v : Nat) : Int))) 17 (ptrAt B v)) 18 (.bool true)) 19 (.bool true)) 20 (.int .i64 a)) 21 (.bool (decide (a < 0)))) 22 (.bool (decide (a < 0)))) (by kernel_rfl) ?_
        cases hb15 : decide (a < 0)
        · replace hb15 : 0 ≤ a := (Int.not_lt.1 (of_decide_eq_false hb15))
          refine qseg1 (ρ' := upd (upd (upd (upd (upd (upd (upd (upd (upd (upd (upd (upd (upd (upd (upd (updL ρ [(1, .pointer (some ⟨w.heap.size, 0, none⟩)), (2, .pointer (some ⟨w1.heap.size, 0, none⟩)), (3, .int .i64 0), (4, .bool false), (5, .int .i64 a), (6, .int .i64 ((v : Nat) : Int))]) 7 (.int .i64 ((v : Nat) : Int))) 8 (.pointer (some ⟨w.heap.size, 0, none⟩))) 9 (.slice A n ca)) 10 (.int .i64 (n : Int))) 11 (.bool (decide (((v : Nat) : Int) < (n : Int))))) 14 (.pointer (some ⟨w.heap.size, 1, none⟩))) 15 (.slice B n cb)) 16 (.int .i64 ((v : Nat) : Int))) 17 (ptrAt B v)) 18 (.bool true)) 19 (.bool true)) 20 (.int .i64 a)) 21 (.bool false)) 22 (.bool false)) 23 (.pointer (some ⟨w.heap.size, 0, none⟩))) (by kernel_rfl) ?_
          refine q_val (v := .slice A n ca) (by kernel_rfl) (R_load (v := .slice A n ca) (by kernel_rfl) (by kernel_rfl) ((hB4.cell 0).trans rfl)) ?_
          refine qseg1 (ρ' := upd (upd (upd (upd (upd (upd (upd (upd (upd (upd (upd (upd (upd (upd (upd (upd (upd (updL ρ [(1, .pointer (some ⟨w.heap.size, 0, none⟩)), (2, .pointer (some ⟨w1.heap.size, 0, none⟩)), (3, .int .i64 0), (4, .bool false), (5, .int .i64 a), (6, .int .i64 ((v : Nat) : Int))]) 7 (.int .i64 ((v : Nat) : Int))) 8 (.pointer (some ⟨w.heap.size, 0, none⟩))) 9 (.slice A n ca)) 10 (.int .i64 (n : Int))) 11 (.bool (decide (((v : Nat) : Int) < (n : Int))))) 14 (.pointer (some ⟨w.heap.size, 1, none⟩))) 15 (.slice B n cb)) 16 (.int .i64 ((v : Nat) : Int))) 17 (ptrAt B v)) 18 (.bool true)) 19 (.bool true)) 20 (.int .i64 a)) 21 (.bool false)) 22 (.bool false)) 23 (.pointer (some ⟨w.heap.size, 0, none⟩))) 24 (.slice A n ca)) 25 (.int .i64 ((v : Nat) : Int))) (by kernel_rfl) ?_
          refine q_val (v := ptrAt A v) (by kernel_rfl) (R_indexRd1 (len := n) (cap := ca) (k := .i64) (i := ((v : Nat) : Int)) (e := 3) v (hA.tch0 hT0) (by kernel_rfl) (by kernel_rfl) (by kernel_rfl) (by kernel_rfl) rfl (by omega)) ?_
          refine q_val (v := .int .i64 (ac.getD v 0)) (by kernel_rfl) (R_loadRd (v := .int .i64 (ac.getD v 0)) (hA.tch0 hT0) (by omega) (by kernel_rfl) (by kernel_rfl) (ints_at .i64 ac (by omega))) ?_
          refine qseg1 (ρ' := upd (upd (upd (upd (upd (upd (upd (upd (upd (upd (upd (upd (upd (upd (upd (upd (upd (upd (upd (upd (updL ρ [(1, .pointer (some ⟨w.heap.size, 0, none⟩)), (2, .pointer (some ⟨w1.heap.size, 0, none⟩)), (3, .int .i64 0), (4, .bool false), (5, .int .i64 a), (6, .int .i64 ((v : Nat) : Int))]) 7 (.int .i64 ((v : Nat) : Int))) 8 (.pointer (some ⟨w.heap.size, 0, none⟩))) 9 (.slice A n ca)) 10 (.int .i64 (n : Int))) 11 (.bool (decide (((v : Nat) : Int) < (n : Int))))) 14 (.pointer (some ⟨w.heap.size, 1, none⟩))) 15 (.slice B n cb)) 16 (.int .i64 ((v : Nat) : Int))) 17 (ptrAt B v)) 18 (.bool true)) 19 (.bool true)) 20 (.int .i64 a)) 21 (.bool false)) 22 (.bool false)) 23 (.pointer (some ⟨w.heap.size, 0, none⟩))) 24 (.slice A n ca)) 25 (.int .i64 ((v : Nat) : Int))) 26 (ptrAt A v)) 27 (.int .i64 (ac.getD v 0))) 28 (.pointer (some ⟨w.heap.size, 0, none⟩))) (by kernel_rfl) ?_
          refine q_val (v := .slice A n ca) (by kernel_rfl) (R_load (v := .slice A n ca) (by kernel_rfl) (by kernel_rfl) ((hB4.cell 0).trans rfl)) ?_
          refine qseg1 (ρ' := upd (upd (upd (upd (upd (upd (upd (upd (upd (upd (upd (upd (upd (upd (upd (upd (upd (upd (upd (upd (upd (upd (updL ρ [(1, .pointer (some ⟨w.heap.size, 0, none⟩)), (2, .pointer (some ⟨w1.heap.size, 0, none⟩)), (3, .int .i64 0), (4, .bool false), (5, .int .i64 a), (6, .int .i64 ((v : Nat) : Int))]) 7 (.int .i64 ((v : Nat) : Int))) 8 (.pointer (some ⟨w.heap.size, 0, none⟩))) 9 (.slice A n ca)) 10 (.int .i64 (n : Int))) 11 (.bool (decide (((v : Nat) : Int) < (n : Int))))) 14 (.pointer (some ⟨w.heap.size, 1, none⟩))) 15 (.slice B n cb)) 16 (.int .i64 ((v : Nat) : Int))) 17 (ptrAt B v)) 18 (.bool true)) 19 (.bool true)) 20 (.int .i64 a)) 21 (.bool false)) 22 (.bool false)) 23 (.pointer (some ⟨w.heap.size, 0, none⟩))) 24 (.slice A n ca)) 25 (.int .i64 ((v : Nat) : Int))) 26 (ptrAt A v)) 27 (.int .i64 (ac.getD v 0))) 28 (.pointer (some ⟨w.heap.size, 0, none⟩))) 29 (.slice A n ca)) 30 (.int .i64 a)) (by kernel_rfl) ?_
          refine q_val (v := ptrAt A a.toNat) (by kernel_rfl) (R_indexRd1 (len := n) (cap := ca) (k := .i64) (i := a) (e := 3) a.toNat (hA.tch0 hT0) (by kernel_rfl) (by kernel_rfl) (by kernel_rfl) (by kernel_rfl) (by omega) (by omega)) ?_
          refine q_val (v := .int .i64 (ac.getD a.toNat 0)) (by kernel_rfl) (R_loadRd (v := .int .i64 (ac.getD a.toNat 0)) (hA.tch0 hT0) (by omega) (by kernel_rfl) (by kernel_rfl) (ints_at .i64 ac (by omega))) ?_
          refine qseg3 (ρ' := upd (upd (upd (upd (upd (upd (upd (upd (upd (upd (upd (upd (upd (upd (upd (upd (upd (upd (upd (upd (upd (upd (upd (upd (upd (upd (upd (updL ρ [(1, .pointer (some ⟨w.heap.size, 0, none⟩)), (2, .pointer (some ⟨w1.heap.size, 0, none⟩)), (3, .int .i64 0), (4, .bool false), (5, .int .i64 a), (6, .int .i64 ((v : Nat) : Int))]) 7 (.int .i64 ((v : Nat) : Int))) 8 (.pointer (some ⟨w.heap.size, 0, none⟩))) 9 (.slice A n ca)) 10 (.int .i64 (n : Int))) 11 (.bool (decide (((v : Nat) : Int) < (n : Int))))) 14 (.pointer (some ⟨w.heap.size, 1, none⟩))) 15 (.slice B n cb)) 16 (.int .i64 ((v : Nat) : Int))) 17 (ptrAt B v)) 18 (.bool true)) 19 (.bool true)) 20 (.int .i64 a)) 21 (.bool false)) 22 (.bool false)) 23 (.pointer (some ⟨w.heap.size, 0, none⟩))) 24 (.slice A n ca)) 25 (.int .i64 ((v : Nat) : Int))) 26 (ptrAt A v)) 27 (.int .i64 (ac.getD v 0))) 28 (.pointer (some ⟨w.heap.size, 0, none⟩))) 29 (.slice A n ca)) 30 (.int .i64 a)) 31 (ptrAt A a.toNat)) 32 (.int .i64 (ac.getD a.toNat 0))) 33 (.bool (decide (ac.getD v 0 > ac.getD a.toNat 0)))) 34 (.bool (decide (ac.getD v 0 > ac.getD a.toNat 0)))) 35 (.bool (decide (ac.getD v 0 > ac.getD a.toNat 0)))) (by kernel_rfl) ?_
          refine q_nil ?_
          refine W_cond (decide (ac.getD v 0 > ac.getD a.toNat 0)) (by kernel_rfl) (by kernel_rfl) (fun hc16 => ?_) (fun hc16 => ?_)
          · replace hc16 : ac.getD a.toNat 0 < ac.getD v 0 := (of_decide_eq_true hc16)
            refine W_fg [(1, .pointer (some ⟨w.heap.size, 0, none⟩)), (2, .pointer (some ⟨w1.heap.size, 0, none⟩)), (3, .int .i64 0), (4, .bool false), (5, .int .i64 a), (6, .int .i64 ((v : Nat) : Int)), (11, .bool (decide (((v : Nat) : Int) < (n : Int)))), (35, .bool (decide (ac.getD v 0 > ac.getD a.toNat 0)))] (by kernel_rfl) fun ρ => ?_
            refine W_region (by kernel_rfl) ?_
            refine seg2 (ρ' := upd (upd (updL ρ [(1, .pointer (some ⟨w.heap.size, 0, none⟩)), (2, .pointer (some ⟨w1.heap.size, 0, none⟩)), (3, .int .i64 0), (4, .bool false), (5, .int .i64 a), (6, .int .i64 ((v : Nat) : Int)), (11, .bool (decide (((v : Nat) : Int) < (n : Int)))), (35, .bool (decide (ac.getD v 0 > ac.getD a.toNat 0)))]) 36 (.int .i64 ((v : Nat) : Int))) 5 (.int .i64 ((v : Nat) : Int))) (by kernel_rfl) ?_
            refine op_nil ?_
            refine W_region (by kernel_rfl) ?_
            refine seg2 (ρ' := upd (upd (upd (upd (updL ρ [(1, .pointer (some ⟨w.heap.size, 0, none⟩)), (2, .pointer (some ⟨w1.heap.size, 0, none⟩)), (3, .int .i64 0), (4, .bool false), (5, .int .i64 a), (6, .int .i64 ((v : Nat) : Int)), (11, .bool (decide (((v : Nat) : Int) < (n : Int)))), (35, .bool (decide (ac.getD v 0 > ac.getD a.toNat 0)))]) 36 (.int .i64 ((v : Nat) : Int))) 5 (.int .i64 ((v : Nat) : Int))) 12 (.int .i64 ((v : Nat) : Int))) 13 (.int .i64 (IntKind.i64.wrap (((v : Nat) : Int) + 1)))) (by kernel_rfl) ?_
            rw [show IntKind.i64.wrap (((v : Nat) : Int) + 1) = ((v : Nat) : Int) + 1 from wrap_i64 (by omega) (by omega)]
            rw [show upd (upd (upd (upd (updL ρ [(1, .pointer (some ⟨w.heap.size, 0, none⟩)), (2, .pointer (some ⟨w1.heap.size, 0, none⟩)), (3, .int .i64 0), (4, .bool false), (5, .int .i64 a), (6, .int .i64 ((v : Nat) : Int)), (11, .bool (decide (((v : Nat) : Int) < (n : Int)))), (35, .bool (decide (ac.getD v 0 > ac.getD a.toNat 0)))]) 36 (.int .i64 ((v : Nat) : Int))) 5 (.int .i64 ((v : Nat) : Int))) 12 (.int .i64 ((v : Nat) : Int))) 13 (.int .i64 (((v : Nat) : Int) + 1)) = upd (upd (upd (upd (updL ρ [(1, .pointer (some ⟨w.heap.size, 0, none⟩)), (2, .pointer (some ⟨w1.heap.size, 0, none⟩)), (3, .int .i64 0), (4, .bool false), (5, .int .i64 a), (6, .int .i64 ((v : Nat) : Int)), (11, .bool (decide (((v : Nat) : Int) < (n : Int)))), (35, .bool (decide (ac.getD v 0 > ac.getD a.toNat 0)))]) 36 (.int .i64 ((v : Nat) : Int))) 5 (.int .i64 ((v : Nat) : Int))) 12 (.int .i64 ((v : Nat) : Int))) 13 (.int .i64 ((v + 1 : Nat) : Int)) from congrArg (fun z => upd (upd (upd (upd (updL ρ [(1, .pointer (some ⟨w.heap.size, 0, none⟩)), (2, .pointer (some ⟨w1.heap.size, 0, none⟩)), (3, .int .i64 0), (4, .bool false), (5, .int .i64 a), (6, .int .i64 ((v : Nat) : Int)), (11, .bool (decide (((v : Nat) : Int) < (n : Int)))), (35, .bool (decide (ac.getD v 0 > ac.getD a.toNat 0)))]) 36 (.int .i64 ((v : Nat) : Int))) 5 (.int .i64 ((v : Nat) : Int))) 12 (.int .i64 ((v : Nat) : Int))) 13 (.int .i64 z)) (by omega)]
            refine seg1 (ρ' := upd (upd (upd (upd (upd (updL ρ [(1, .pointer (some ⟨w.heap.size, 0, none⟩)), (2, .pointer (some ⟨w1.heap.size, 0, none⟩)), (3, .int .i64 0), (4, .bool false), (5, .int .i64 a), (6, .int .i64 ((v : Nat) : Int)), (11, .bool (decide (((v : Nat) : Int) < (n : Int)))), (35, .bool (decide (ac.getD v 0 > ac.getD a.toNat 0)))]) 36 (.int .i64 ((v : Nat) : Int))) 5 (.int .i64 ((v : Nat) : Int))) 12 (.int .i64 ((v : Nat) : Int))) 13 (.int .i64 ((v + 1 : Nat) : Int))) 6 (.int .i64 ((v + 1 : Nat) : Int))) (by kernel_rfl) ?_
            refine op_nil ?_
            refine ⟨_, ?_, ((v : Nat) : Int), v + 1, _, updL_self (by kernel_rfl), ?_, ?_, ?_, ?_, hT0, hB4, hB8, rfl⟩
            · omega
            · first | exact h1.skip (by assumption) | exact h1.first (by assumption) (by omega) | exact h1.take (by assumption) (by omega) (by omega) | exact h1.keep (by omega) (by omega)
            · omega
            · omega
            · omega
          · replace hc16 : ac.getD v 0 ≤ ac.getD a.toNat 0 := (Int.not_lt.1 (of_decide_eq_false hc16))
            refine W_skip ?_
            refine W_fg [(1, .pointer (some ⟨w.heap.size, 0, none⟩)), (2, .pointer (some ⟨w1.heap.size, 0, none⟩)), (3, .int .i64 0), (4, .bool false), (5, .int .i64 a), (6, .int .i64 ((v : Nat) : Int)), (11, .bool (decide (((v : Nat) : Int) < (n : Int)))), (35, .bool (decide (ac.getD v 0 > ac.getD a.toNat 0)))] (by kernel_rfl) fun ρ => ?_
            refine W_region (by kernel_rfl) ?_
            refine seg2 (ρ' := upd (upd (updL ρ [(1, .pointer (some ⟨w.heap.size, 0, none⟩)), (2, .pointer (some ⟨w1.heap.size, 0, none⟩)), (3, .int .i64 0), (4, .bool false), (5, .int .i64 a), (6, .int .i64 ((v : Nat) : Int)), (11, .bool (decide (((v : Nat) : Int) < (n : Int)))), (35, .bool (decide (ac.getD v 0 > ac.getD a.toNat 0)))]) 12 (.int .i64 ((v : Nat) : Int))) 13 (.int .i64 (IntKind.i64.wrap (((v : Nat) : Int) + 1)))) (by kernel_rfl) ?_
            rw [show IntKind.i64.wrap (((v : Nat) : Int) + 1) = ((v : Nat) : Int) + 1 from wrap_i64 (by omega) (by omega)]
            rw [show upd (upd (updL ρ [(1, .pointer (some ⟨w.heap.size, 0, none⟩)), (2, .pointer (some ⟨w1.heap.size, 0, none⟩)), (3, .int .i64 0), (4, .bool false), (5, .int .i64 a), (6, .int .i64 ((v : Nat) : Int)), (11, .bool (decide (((v : Nat) : Int) < (n : Int)))), (35, .bool (decide (ac.getD v 0 > ac.getD a.toNat 0)))]) 12 (.int .i64 ((v : Nat) : Int))) 13 (.int .i64 (((v : Nat) : Int) + 1)) = upd (upd (updL ρ [(1, .pointer (some ⟨w.heap.size, 0, none⟩)), (2, .pointer (some ⟨w1.heap.size, 0, none⟩)), (3, .int .i64 0), (4, .bool false), (5, .int .i64 a), (6, .int .i64 ((v : Nat) : Int)), (11, .bool (decide (((v : Nat) : Int) < (n : Int)))), (35, .bool (decide (ac.getD v 0 > ac.getD a.toNat 0)))]) 12 (.int .i64 ((v : Nat) : Int))) 13 (.int .i64 ((v + 1 : Nat) : Int)) from congrArg (fun z => upd (upd (updL ρ [(1, .pointer (some ⟨w.heap.size, 0, none⟩)), (2, .pointer (some ⟨w1.heap.size, 0, none⟩)), (3, .int .i64 0), (4, .bool false), (5, .int .i64 a), (6, .int .i64 ((v : Nat) : Int)), (11, .bool (decide (((v : Nat) : Int) < (n : Int)))), (35, .bool (decide (ac.getD v 0 > ac.getD a.toNat 0)))]) 12 (.int .i64 ((v : Nat) : Int))) 13 (.int .i64 z)) (by omega)]
            refine seg1 (ρ' := upd (upd (upd (updL ρ [(1, .pointer (some ⟨w.heap.size, 0, none⟩)), (2, .pointer (some ⟨w1.heap.size, 0, none⟩)), (3, .int .i64 0), (4, .bool false), (5, .int .i64 a), (6, .int .i64 ((v : Nat) : Int)), (11, .bool (decide (((v : Nat) : Int) < (n : Int)))), (35, .bool (decide (ac.getD v 0 > ac.getD a.toNat 0)))]) 12 (.int .i64 ((v : Nat) : Int))) 13 (.int .i64 ((v + 1 : Nat) : Int))) 6 (.int .i64 ((v + 1 : Nat) : Int))) (by kernel_rfl) ?_
            refine op_nil ?_
            refine ⟨_, ?_, a, v + 1, _, updL_self (by kernel_rfl), ?_, ?_, ?_, ?_, hT0, hB4, hB8, rfl⟩
            · omega
            · first | exact h1.skip (by assumption) | exact h1.first (by assumption) (by omega) | exact h1.take (by assumption) (by omega) (by omega) | exact h1.keep (by omega) (by omega)
            · omega
            · omega
            · omega
        · replace hb15 : a < 0 := (of_decide_eq_true hb15)
          refine qseg13 (ρ' := upd (upd (upd (upd (upd (upd (upd (upd (upd (upd (upd (upd (upd (upd (upd (upd (upd (upd (upd (upd (upd (upd (upd (upd (upd (upd (upd (updL ρ [(1, .pointer (some ⟨w.heap.size, 0, none⟩)), (2, .pointer (some ⟨w1.heap.size, 0, none⟩)), (3, .int .i64 0), (4, .bool false), (5, .int .i64 a), (6, .int .i64 ((v : Nat) : Int))]) 7 (.int .i64 ((v : Nat) : Int))) 8 (.pointer (some ⟨w.heap.size, 0, none⟩))) 9 (.slice A n ca)) 10 (.int .i64 (n : Int))) 11 (.bool (decide (((v : Nat) : Int) < (n : Int))))) 14 (.pointer (some ⟨w.heap.size, 1, none⟩))) 15 (.slice B n cb)) 16 (.int .i64 ((v : Nat) : Int))) 17 (ptrAt B v)) 18 (.bool true)) 19 (.bool true)) 20 (.int .i64 a)) 21 (.bool true)) 22 (.bool true)) 23 (undef)) 24 (undef)) 25 (undef)) 26 (undef)) 27 (undef)) 28 (undef)) 29 (undef)) 30 (undef)) 31 (undef)) 32 (undef)) 33 (undef)) 34 (.bool true)) 35 (.bool true)) (by kernel_rfl) ?_
          refine q_nil ?_
          refine W_cond true (by kernel_rfl) (by kernel_rfl) (fun _ => ?_) (fun h => nomatch h)
          refine W_fg [(1, .pointer (some ⟨w.heap.size, 0, none⟩)), (2, .pointer (some ⟨w1.heap.size, 0, none⟩)), (3, .int .i64 0), (4, .bool false), (5, .int .i64 a), (6, .int .i64 ((v : Nat) : Int)), (11, .bool (decide (((v : Nat) : Int) < (n : Int)))), (35, .bool true)] (by kernel_rfl) fun ρ => ?_
          refine W_region (by kernel_rfl) ?_
          refine seg2 (ρ' := upd (upd (updL ρ [(1, .pointer (some ⟨w.heap.size, 0, none⟩)), (2, .pointer (some ⟨w1.heap.size, 0, none⟩)), (3, .int .i64 0), (4, .bool false), (5, .int .i64 a), (6, .int .i64 ((v : Nat) : Int)), (11, .bool (decide (((v : Nat) : Int) < (n : Int)))), (35, .bool true)]) 36 (.int .i64 ((v : Nat) : Int))) 5 (.int .i64 ((v : Nat) : Int))) (by kernel_rfl) ?_
          refine op_nil ?_
          refine W_region (by kernel_rfl) ?_
          refine seg2 (ρ' := upd (upd (upd (upd (updL ρ [(1, .pointer (some ⟨w.heap.size, 0, none⟩)), (2, .pointer (some ⟨w1.heap.size, 0, none⟩)), (3, .int .i64 0), (4, .bool false), (5, .int .i64 a), (6, .int .i64 ((v : Nat) : Int)), (11, .bool (decide (((v : Nat) : Int) < (n : Int)))), (35, .bool true)]) 36 (.int .i64 ((v : Nat) : Int))) 5 (.int .i64 ((v : Nat) : Int))) 12 (.int .i64 ((v : Nat) : Int))) 13 (.int .i64 (IntKind.i64.wrap (((v : Nat) : Int) + 1)))) (by kernel_rfl) ?_
          rw [show IntKind.i64.wrap (((v : Nat) : Int) + 1) = ((v : Nat) : Int) + 1 from wrap_i64 (by omega) (by omega)]
          rw [show upd (upd (upd (upd (updL ρ [(1, .pointer (some ⟨w.heap.size, 0, none⟩)), (2, .pointer (some ⟨w1.heap.size, 0, none⟩)), (3, .int .i64 0), (4, .bool false), (5, .int .i64 a), (6, .int .i64 ((v : Nat) : Int)), (11, .bool (decide (((v : Nat) : Int) < (n : Int)))), (35, .bool true)]) 36 (.int .i64 ((v : Nat) : Int))) 5 (.int .i64 ((v : Nat) : Int))) 12 (.int .i64 ((v : Nat) : Int))) 13 (.int .i64 (((v : Nat) : Int) + 1)) = upd (upd (upd (upd (updL ρ [(1, .pointer (some ⟨w.heap.size, 0, none⟩)), (2, .pointer (some ⟨w1.heap.size, 0, none⟩)), (3, .int .i64 0), (4, .bool false), (5, .int .i64 a), (6, .int .i64 ((v : Nat) : Int)), (11, .bool (decide (((v : Nat) : Int) < (n : Int)))), (35, .bool true)]) 36 (.int .i64 ((v : Nat) : Int))) 5 (.int .i64 ((v : Nat) : Int))) 12 (.int .i64 ((v : Nat) : Int))) 13 (.int .i64 ((v + 1 : Nat) : Int)) from congrArg (fun z => upd (upd (upd (upd (updL ρ [(1, .pointer (some ⟨w.heap.size, 0, none⟩)), (2, .pointer (some ⟨w1.heap.size, 0, none⟩)), (3, .int .i64 0), (4, .bool false), (5, .int .i64 a), (6, .int .i64 ((v : Nat) : Int)), (11, .bool (decide (((v : Nat) : Int) < (n : Int)))), (35, .bool true)]) 36 (.int .i64 ((v : Nat) : Int))) 5 (.int .i64 ((v : Nat) : Int))) 12 (.int .i64 ((v : Nat) : Int))) 13 (.int .i64 z)) (by omega)]
          refine seg1 (ρ' := upd (upd (upd (upd (upd (updL ρ [(1, .pointer (some ⟨w.heap.size, 0, none⟩)), (2, .pointer (some ⟨w1.heap.size, 0, none⟩)), (3, .int .i64 0), (4, .bool false), (5, .int .i64 a), (6, .int .i64 ((v : Nat) : Int)), (11, .bool (decide (((v : Nat) : Int) < (n : Int)))), (35, .bool true)]) 36 (.int .i64 ((v : Nat) : Int))) 5 (.int .i64 ((v : Nat) : Int))) 12 (.int .i64 ((v : Nat) : Int))) 13 (.int .i64 ((v + 1 : Nat) : Int))) 6 (.int .i64 ((v + 1 : Nat) : Int))) (by kernel_rfl) ?_
          refine op_nil ?_
          refine ⟨_, ?_, ((v : Nat) : Int), v + 1, _, updL_self (by kernel_rfl), ?_, ?_, ?_, ?_, hT0, hB4, hB8, rfl⟩
          · omega
          · first | exact h1.skip (by assumption) | exact h1.first (by assumption) (by omega) | exact h1.take (by assumption) (by omega) (by omega) | exact h1.keep (by omega) (by omega)
          · omega
          · omega
          · omega
    · replace hc10 : (n : Int) ≤ ((v : Nat) : Int) := (Int.not_lt.1 (of_decide_eq_false hc10))
      refine W_exit ?_
      refine X_hit ?_
      refine W_seq ?_
      refine W_seq ?_
      rw [show v = n by omega] at h1
      have ha := h1.some hx hw hb
      subst ha
      refine W_region (by kernel_rfl) ?_
      refine seg2 (ρ' := upd (upd (upd (upd (upd (upd (upd (updL ρ [(1, .pointer (some ⟨w.heap.size, 0, none⟩)), (2, .pointer (some ⟨w1.heap.size, 0, none⟩)), (3, .int .i64 0), (4, .bool false), (5, .int .i64 ((x : Nat) : Int)), (6, .int .i64 ((v : Nat) : Int))]) 7 (.int .i64 ((v : Nat) : Int))) 8 (.pointer (some ⟨w.heap.size, 0, none⟩))) 9 (.slice A n ca)) 10 (.int .i64 (n : Int))) 11 (.bool (decide (((v : Nat) : Int) < (n : Int))))) 37 (.int .i64 ((x : Nat) : Int))) 38 (.bool (decide (((x : Nat) : Int) < 0)))) (by kernel_rfl) ?_
      refine op_nil ?_
      refine W_cond (decide (((x : Nat) : Int) < 0)) (by kernel_rfl) (by kernel_rfl) (fun hc17 => ?_) (fun hc17 => ?_)
      · replace hc17 : ((x : Nat) : Int) < 0 := (of_decide_eq_true hc17)
        exfalso; omega
      · replace hc17 : 0 ≤ ((x : Nat) : Int) := (Int.not_lt.1 (of_decide_eq_false hc17))
        refine W_skip ?_
        refine W_seq ?_
        refine W_region (by kernel_rfl) ?_
        refine st (by rfl) (S_val (v := .agg #[.slice A n ca, .slice B n cb]) (R_loadA [.slice A n ca, .slice B n cb] (by kernel_rfl) (by kernel_rfl) (by kernel_rfl) (fun k u hk => by rw [hB4.cell]; exact get_part _ 0 _ k u rfl hk)) ?_)
        refine seg1 (ρ' := upd (upd (upd (upd (upd (upd (upd (upd (upd (updL ρ [(1, .pointer (some ⟨w.heap.size, 0, none⟩)), (2, .pointer (some ⟨w1.heap.size, 0, none⟩)), (3, .int .i64 0), (4, .bool false), (5, .int .i64 ((x : Nat) : Int)), (6, .int .i64 ((v : Nat) : Int))]) 7 (.int .i64 ((v : Nat) : Int))) 8 (.pointer (some ⟨w.heap.size, 0, none⟩))) 9 (.slice A n ca)) 10 (.int .i64 (n : Int))) 11 (.bool (decide (((v : Nat) : Int) < (n : Int))))) 37 (.int .i64 ((x : Nat) : Int))) 38 (.bool (decide (((x : Nat) : Int) < 0)))) 40 (.agg #[.slice A n ca, .slice B n cb])) 41 (.int .i64 ((x : Nat) : Int))) (by kernel_rfl) ?_
        have hz_ := hT0.size
        refine st (by rfl) (S_call (args := [.agg #[.slice A n ca, .slice B n cb], .int .i64 ((x : Nat) : Int), .bool false]) (by kernel_rfl) (rset_ok n A B ca cb ac wt x false _ (hA.tch0 hT0) (hB.tch0 hT0) hn (by omega)) ?_)
        rintro _ w18 ⟨g20, cp21, sp22, rfl, hN23, hg24, hT19⟩
        have hT0 := hT0.t0 hT19
        have hB4 := hB4.tch0 hT19
        have hB8 := hB8.tch0 hT19
        refine seg1 (ρ' := upd (upd (upd (upd (upd (upd (upd (upd (upd (upd (upd (updL ρ [(1, .pointer (some ⟨w.heap.size, 0, none⟩)), (2, .pointer (some ⟨w1.heap.size, 0, none⟩)), (3, .int .i64 0), (4, .bool false), (5, .int .i64 ((x : Nat) : Int)), (6, .int .i64 ((v : Nat) : Int))]) 7 (.int .i64 ((v : Nat) : Int))) 8 (.pointer (some ⟨w.heap.size, 0, none⟩))) 9 (.slice A n ca)) 10 (.int .i64 (n : Int))) 11 (.bool (decide (((v : Nat) : Int) < (n : Int))))) 37 (.int .i64 ((x : Nat) : Int))) 38 (.bool (decide (((x : Nat) : Int) < 0)))) 40 (.agg #[.slice A n ca, .slice B n cb])) 41 (.int .i64 ((x : Nat) : Int))) 42 (.agg #[.slice A n ca, .slice (some ⟨g20, 0, none⟩) n cp21])) 43 (.int .i64 ((x : Nat) : Int))) (by kernel_rfl) ?_
        refine st (by rfl) (S_storeA (b := w1.heap.size) (j := 0) (cs := [.slice A n ca, .slice (some ⟨g20, 0, none⟩) n cp21]) (by kernel_rfl) (by kernel_rfl) (by kernel_rfl) (by simp [oneV]) hB8 (by simp) fun w25 hT26 hs27 hB8' => ?_)
        have hT0 := (hT0).then hT26 (fun c e => by have : c = w1.heap.size := e; omega)
        have hB4 := hB4.tch hT26 (fun e => by have : w.heap.size = w1.heap.size := e; omega)
        have hN23 := hN23.tch hT26 (hN23.ne hB8 (by decide))
        replace hB8 : Blk w25 w1.heap.size 35 [.slice A n ca, .slice (some ⟨g20, 0, none⟩) n cp21] := hB8'
        refine seg2 (ρ' := upd (upd (upd (upd (upd (upd (upd (upd (upd (upd (upd (upd (upd (updL ρ [(1, .pointer (some ⟨w.heap.size, 0, none⟩)), (2, .pointer (some ⟨w1.heap.size, 0, none⟩)), (3, .int .i64 0), (4, .bool false), (5, .int .i64 ((x : Nat) : Int)), (6, .int .i64 ((v : Nat) : Int))]) 7 (.int .i64 ((v : Nat) : Int))) 8 (.pointer (some ⟨w.heap.size, 0, none⟩))) 9 (.slice A n ca)) 10 (.int .i64 (n : Int))) 11 (.bool (decide (((v : Nat) : Int) < (n : Int))))) 37 (.int .i64 ((x : Nat) : Int))) 38 (.bool (decide (((x : Nat) : Int) < 0)))) 40 (.agg #[.slice A n ca, .slice B n cb])) 41 (.int .i64 ((x : Nat) : Int))) 42 (.agg #[.slice A n ca, .slice (some ⟨g20, 0, none⟩) n cp21])) 43 (.int .i64 ((x : Nat) : Int))) 3 (.int .i64 ((x : Nat) : Int))) 4 (.bool true)) (by kernel_rfl) ?_
        refine op_nil ?_
        refine W_ret ?_
        exact ⟨_, Res_cell2 (b := w1.heap.size) (cs := [.slice A n ca, .slice (some ⟨g20, 0, none⟩) n cp21]) (by rfl) (by kernel_rfl) (by kernel_rfl) (by kernel_rfl) (by kernel_rfl) hB8 (by kernel_rfl) (by kernel_rfl), ⟨_, _, _, rfl, hN23, (by omega), hT0⟩⟩

set_option maxRecDepth 100000 in
theorem rpop_no (n : Nat) (A B : Option Addr) (ca cb : Nat) (ac : List Int) (wt : List Bool) (w : World) (hA : RdW w 1 n A (ints .i64 ac)) (hB : RdW w 1 n B (boolsV wt)) (hn : n ≤ 1048576) (hw : ∀ y, y < n → wt.getD y false = false) : Ret Try.prog 30 [.agg #[.slice A n ca, .slice B n cb]] w fun v w' => v = .tuple #[.agg #[.slice A n ca, .slice B n cb], .int .i64 (-1), .bool false] ∧ Tch N0 w w' := by
  have la := hA.len
  have lb := hB.lenb
  refine enter Try.func30 rfl rfl ?_
  refine W_seq ?_
  refine W_region (by kernel_rfl) ?_
  refine st (by rfl) (S_new (v := .pointer (some ⟨w.heap.size, 0, none⟩)) (ob := .cells #[.slice A n ca, .slice B n cb] 35) (by kernel_rfl) fun w1 hT2 hs3 hB4 => ?_)
  replace hB4 : Blk w1 (w.heap.size) 35 [.slice A n ca, .slice B n cb] := hB4
  have hT0 := hT2
  refine st (by rfl) (S_new (v := .pointer (some ⟨w1.heap.size, 0, none⟩)) (ob := .cells #[.slice none 0 0, .slice none 0 0] 35) (by kernel_rfl) fun w5 hT6 hs7 hB8 => ?_)
  replace hB8 : Blk w5 (w1.heap.size) 35 [.slice none 0 0, .slice none 0 0] := hB8
  have hT0 := hT0.t0 hT6
  have hB4 := hB4.tch0 hT6
  refine seg2 (ρ' := upd (upd (upd (upd (ini [.agg #[.slice A n ca, .slice B n cb]]) 1 (.pointer (some ⟨w.heap.size, 0, none⟩))) 2 (.pointer (some ⟨w1.heap.size, 0, none⟩))) 3 (.int .i64 0)) 4 (.bool false)) (by kernel_rfl) ?_
  refine op_nil ?_
  refine W_seq ?_
  refine W_region (by kernel_rfl) ?_
  refine seg1 (ρ' := upd (upd (upd (upd (upd (ini [.agg #[.slice A n ca, .slice B n cb]]) 1 (.pointer (some ⟨w.heap.size, 0, none⟩))) 2 (.pointer (some ⟨w1.heap.size, 0, none⟩))) 3 (.int .i64 0)) 4 (.bool false)) 5 (.int .i64 (-1))) (by kernel_rfl) ?_
  refine op_nil ?_
  refine W_seq ?_
  refine W_seq ?_
  refine W_region (by kernel_rfl) ?_
  refine seg1 (ρ' := upd (upd (upd (upd (upd (upd (ini [.agg #[.slice A n ca, .slice B n cb]]) 1 (.pointer (some ⟨w.heap.size, 0, none⟩))) 2 (.pointer (some ⟨w1.heap.size, 0, none⟩))) 3 (.int .i64 0)) 4 (.bool false)) 5 (.int .i64 (-1))) 6 (.int .i64 0)) (by kernel_rfl) ?_
  refine op_nil ?_
  refine W_block ?_
  refine W_loop (fun m ρ w' => ∃ (a : Int) (v : Nat) (ρ0 : Env), ρ = updL ρ0 [(1, .pointer (some ⟨w.heap.size, 0, none⟩)), (2, .pointer (some ⟨w1.heap.size, 0, none⟩)), (3, .int .i64 0), (4, .bool false), (5, .int .i64 a), (6, .int .i64 ((v : Nat) : Int))] ∧ (BestB ac wt v a) ∧ (v ≤ n) ∧ (-1 ≤ a) ∧ (a < n) ∧ Tch N0 w w' ∧ Blk w' (w.heap.size) 35 [.slice A n ca, .slice B n cb] ∧ Blk w' (w1.heap.size) 35 [.slice none 0 0, .slice none 0 0] ∧ m = n - v) (m := n - 0) ?_ ?_
  · refine ⟨-1, 0, _, updL_self (by kernel_rfl), BestB.zero _ _, by omega, by omega, by omega, hT0, hB4, hB8, rfl⟩
  · rintro m ρ w9 ⟨a, v, ρ, rfl, h1, h2, h3, h4, hT0, hB4, hB8, rfl⟩
    refine W_seq ?_
    refine W_seq ?_
    refine W_region (by kernel_rfl) ?_
    refine seg2 (ρ' := upd (upd (updL ρ [(1, .pointer (some ⟨w.heap.size, 0, none⟩)), (2, .pointer (some ⟨w1.heap.size, 0, none⟩)), (3, .int .i64 0), (4, .bool false), (5, .int .i64 a), (6, .int .i64 ((v : Nat) : Int))]) 7 (.int .i64 ((v : Nat) : Int))) 8 (.pointer (some ⟨w.heap.size, 0, none⟩))) (by kernel_rfl) ?_
    refine st (by rfl) (S_val (v := .slice A n ca) (R_load (v := .slice A n ca) (by kernel_rfl) (by kernel_rfl) ((hB4.cell 0).trans rfl)) ?_)
    refine seg2 (ρ' := upd (upd (upd (upd (upd (updL ρ [(1, .pointer (some ⟨w.heap.size, 0, none⟩)), (2, .pointer (some ⟨w1.heap.size, 0, none⟩)), (3, .int .i64 0), (4, .bool false), (5, .int .i64 a), (6, .int .i64 ((v : Nat) : Int))]) 7 (.int .i64 ((v : Nat) : Int))) 8 (.pointer (some ⟨w.heap.size, 0, none⟩))) 9 (.slice A n ca)) 10 (.int .i64 (n : Int))) 11 (.bool (decide (((v : Nat) : Int) < (n : Int))))) (by kernel_rfl) ?_
    refine op_nil ?_
    refine W_cond (decide (((v : Nat) : Int) < (n : Int))) (by kernel_rfl) (by kernel_rfl) (fun hc10 => ?_) (fun hc10 => ?_)
    · replace hc10 : ((v : Nat) : Int) < (n : Int) := (of_decide_eq_true hc10)
      refine W_skip ?_
      refine W_seq ?_
      refine W_block ?_
      refine W_seq ?_
      refine W_still (by kernel_rfl) (by kernel_rfl) (by kernel_rfl) fun w11 hT12 hh13 => ?_
      have hT0 := hT0.t0 hT12
      have hB4 := hB4.tch0 hT12
      have hB8 := hB8.tch0 hT12
      refine qseg1 (ρ' := upd (upd (upd (upd (upd (upd (updL ρ [(1, .pointer (some ⟨w.heap.size, 0, none⟩)), (2, .pointer (some ⟨w1.heap.size, 0, none⟩)), (3, .int .i64 0), (4, .bool false), (5, .int .i64 a), (6, .int .i64 ((v : Nat) : Int))]) 7 (.int .i64 ((v : Nat) : Int))) 8 (.pointer (some ⟨w.heap.size, 0, none⟩))) 9 (.slice A n ca)) 10 (.int .i64 (n : Int))) 11 (.bool (decide (((v : Nat) : Int) < (n : Int))))) 14 (.pointer (some ⟨w.heap.size, 1, none⟩))) (by kernel_rfl) ?_
      refine q_val (v := .slice B n cb) (by rfl) (R_load (v := .slice B n cb) (by kernel_rfl) (by kernel_rfl) ((hB4.cell 1).trans rfl)) ?_
      refine qseg1 (ρ' := upd (upd (upd (upd (upd (upd (upd (upd (updL ρ [(1, .pointer (some ⟨w.heap.size, 0, none⟩)), (2, .pointer (some ⟨w1.heap.size, 0, none⟩)), (3, .int .i64 0), (4, .bool false), (5, .int .i64 a), (6, .int .i64 ((v : Nat) : Int))]) 7 (.int .i64 ((v : Nat) : Int))) 8 (.pointer (some ⟨w.heap.size, 0, none⟩))) 9 (.slice A n ca)) 10 (.int .i64 (n : Int))) 11 (.bool (decide (((v : Nat) : Int) < (n : Int))))) 14 (.pointer (some ⟨w.heap.size, 1, none⟩))) 15 (.slice B n cb)) 16 (.int .i64 ((v : Nat) : Int))) (by kernel_rfl) ?_
      refine q_val (v := ptrAt B v) (by rfl) (R_indexRd1 (len := n) (cap := cb) (k := .i64) (i := ((v : Nat) : Int)) (e := 4) v (hB.tch0 hT0) (by kernel_rfl) (by kernel_rfl) (by kernel_rfl) (by kernel_rfl) rfl (by omega)) ?_
      refine q_val (v := .bool (wt.getD v false)) (by rfl) (R_loadRd (v := .bool (wt.getD v false)) (hB.tch0 hT0) (by omega) (by kernel_rfl) (by kernel_rfl) (boolsV_at wt (by omega))) ?_
      refine qseg1 (ρ' := upd (upd (upd (upd (upd (upd (upd (upd (upd (upd (upd (updL ρ [(1, .pointer (some ⟨w.heap.size, 0, none⟩)), (2, .pointer (some ⟨w1.heap.size, 0, none⟩)), (3, .int .i64 0), (4, .bool false), (5, .int .i64 a), (6, .int .i64 ((v : Nat) : Int))]) 7 (.int .i64 ((v : Nat) : Int))) 8 (.pointer (some ⟨w.heap.size, 0, none⟩))) 9 (.slice A n ca)) 10 (.int .i64 (n : Int))) 11 (.bool (decide (((v : Nat) : Int) < (n : Int))))) 14 (.pointer (some ⟨w.heap.size, 1, none⟩))) 15 (.slice B n cb)) 16 (.int .i64 ((v : Nat) : Int))) 17 (ptrAt B v)) 18 (.bool (wt.getD v false))) 19 (.bool (wt.getD v false))) (by kernel_rfl) ?_
      cases hb14 : wt.getD v false
      · replace hb14 : wt.getD v false = false := (hb14)
        refine qseg16 (ρ' := upd (upd (upd (upd (upd (upd (upd (upd (upd (upd (upd (upd (upd (upd (upd (upd (upd (upd (upd (upd (upd (upd (upd (upd (upd (upd (upd (updL ρ [(1, .pointer (some ⟨w.heap.size, 0, none⟩)), (2, .pointer (some ⟨w1.heap.size, 0, none⟩)), (3, .int .i64 0), (4, .bool false), (5, .int .i64 a), (6, .int .i64 ((v : Nat) : Int))]) 7 (.int .i64 ((v : Nat) : Int))) 8 (.pointer (some ⟨w.heap.size, 0, none⟩))) 9 (.slice A n ca)) 10 (.int .i64 (n : Int))) 11 (.bool (decide (((v : Nat) : Int) < (n : Int))))) 14 (.pointer (some ⟨w.heap.size, 1, none⟩))) 15 (.slice B n cb)) 16 (.int .i64 ((v : Nat) : Int))) 17 (ptrAt B v)) 18 (.bool false)) 19 (.bool false)) 20 (undef)) 21 (undef)) 22 (undef)) 23 (undef)) 24 (undef)) 25 (undef)) 26 (undef)) 27 (undef)) 28 (undef)) 29 (undef)) 30 (undef)) 31 (undef)) 32 (undef)) 33 (undef)) 34 (undef)) 35 (.bool false)) (by kernel_rfl) ?_
        refine q_nil ?_
        refine W_cond false (by kernel_rfl) (by kernel_rfl) (fun h => nomatch h) (fun _ => ?_)
        refine W_skip ?_
        refine W_fg [(1, .pointer (some ⟨w.heap.size, 0, none⟩)), (2, .pointer (some ⟨w1.heap.size, 0, none⟩)), (3, .int .i64 0), (4, .bool false), (5, .int .i64 a), (6, .int .i64 ((v : Nat) : Int)), (11, .bool (decide (((v : Nat) : Int) < (n : Int)))), (35, .bool false)] (by kernel_rfl) fun ρ => ?_
        refine W_region (by kernel_rfl) ?_
        refine seg2 (ρ' := upd (upd (updL ρ [(1, .pointer (some ⟨w.heap.size, 0, none⟩)), (2, .pointer (some ⟨w1.heap.size, 0, none⟩)), (3, .int .i64 0), (4, .bool false), (5, .int .i64 a), (6, .int .i64 ((v : Nat) : Int)), (11, .bool (decide (((v : Nat) : Int) < (n : Int)))), (35, .bool false)]) 12 (.int .i64 ((v : Nat) : Int))) 13 (.int .i64 (IntKind.i64.wrap (((v : Nat) : Int) + 1)))) (by kernel_rfl) ?_
        rw [show IntKind.i64.wrap (((v : Nat) : Int) + 1) = ((v : Nat) : Int) + 1 from wrap_i64 (by omega) (by omega)]
        rw [show upd (upd (updL ρ [(1, .pointer (some ⟨w.heap.size, 0, none⟩)), (2, .pointer (some ⟨w1.heap.size, 0, none⟩)), (3, .int .i64 0), (4, .bool false), (5, .int .i64 a), (6, .int .i64 ((v : Nat) : Int)), (11, .bool (decide (((v : Nat) : Int) < (n : Int)))), (35, .bool false)]) 12 (.int .i64 ((v : Nat) : Int))) 13 (.int .i64 (((v : Nat) : Int) + 1)) = upd (upd (updL ρ [(1, .pointer (some ⟨w.heap.size, 0, none⟩)), (2, .pointer (some ⟨w1.heap.size, 0, none⟩)), (3, .int .i64 0), (4, .bool false), (5, .int .i64 a), (6, .int .i64 ((v : Nat) : Int)), (11, .bool (decide (((v : Nat) : Int) < (n : Int)))), (35, .bool false)]) 12 (.int .i64 ((v : Nat) : Int))) 13 (.int .i64 ((v + 1 : Nat) : Int)) from congrArg (fun z => upd (upd (updL ρ [(1, .pointer (some ⟨w.heap.size, 0, none⟩)), (2, .pointer (some ⟨w1.heap.size, 0, none⟩)), (3, .int .i64 0), (4, .bool false), (5, .int .i64 a), (6, .int .i64 ((v : Nat) : Int)), (11, .bool (decide (((v : Nat) : Int) < (n : Int)))), (35, .bool false)]) 12 (.int .i64 ((v : Nat) : Int))) 13 (.int .i64 z)) (by omega)]
        refine seg1 (ρ' := upd (upd (upd (updL ρ [(1, .pointer (some ⟨w.heap.size, 0, none⟩)), (2, .pointer (some ⟨w1.heap.size, 0, none⟩)), (3, .int .i64 0), (4, .bool false), (5, .int .i64 a), (6, .int .i64 ((v : Nat) : Int)), (11, .bool (decide (((v : Nat) : Int) < (n : Int)))), (35, .bool false)]) 12 (.int .i64 ((v : Nat) : Int))) 13 (.int .i64 ((v + 1 : Nat) : Int))) 6 (.int .i64 ((v + 1 : Nat) : Int))) (by kernel_rfl) ?_
        refine op_nil ?_
        refine ⟨_, ?_, a, v + 1, _, updL_self (by kernel_rfl), ?_, ?_, ?_, ?_, hT0, hB4, hB8, rfl⟩
        · omega
        · first | exact h1.skip (by assumption) | exact h1.first (by assumption) (by omega) | exact h1.take (by assumption) (by omega) (by omega) | exact h1.keep (by omega) (by omega)
        · omega
        · omega
        · omega
      · replace hb14 : wt.getD v false = true := (hb14)
        refine qseg3 (ρ' := upd (upd (upd (upd (upd (upd (upd (upd (upd (upd (upd (upd (upd (upd (updL ρ [(1, .pointer (some ⟨w.heap.size, 0, none⟩)), (2, .pointer (some ⟨w1.heap.size, 0, none⟩)), (3, .int .i64 0), (4, .bool false), (5, .int .i64 a), (6, .int .i64 ((v : Nat) : Int))]) 7 (.int .i64 ((v : Nat) : Int))) 8 (.pointer (some ⟨w.heap.size, 0, none⟩))) 9 (.slice A n ca)) 10 (.int .i64 (n : Int))) 11 (.bool (decide (((v : Nat) : Int) < (n : Int))))) 14 (.pointer (some ⟨w.heap.size, 1, none⟩))) 15 (.slice B n cb)) 16 (.int .i64 ((v : Nat) : Int))) 17 (ptrAt B v)) 18 (.bool true)) 19 (.bool true)) 20 (.int .i64 a)) 21 (.bool (decide (a < 0)))) 22 (.bool (decide (a < 0)))) (by kernel_rfl) ?_
        cases hb15 : decide (a < 0)
        · replace hb15 : 0 ≤ a := (Int.not_lt.1 (of_decide_eq_false hb15))
          refine qseg1 (ρ' := upd (upd (upd (upd (upd (upd (upd (upd (upd (upd (upd (upd (upd (upd (upd (updL ρ [(1, .pointer (some ⟨w.heap.size, 0, none⟩)), (2, .pointer (some ⟨w1.heap.size, 0, none⟩)), (3, .int .i64 0), (4, .bool false), (5, .int .i64 a), (6, .int .i64 ((v : Nat) : Int))]) 7 (.int .i64 ((v : Nat) : Int))) 8 (.pointer (some ⟨w.heap.size, 0, none⟩))) 9 (.slice A n ca)) 10 (.int .i64 (n : Int))) 11 (.bool (decide (((v : Nat) : Int) < (n : Int))))) 14 (.pointer (some ⟨w.heap.size, 1, none⟩))) 15 (.slice B n cb)) 16 (.int .i64 ((v : Nat) : Int))) 17 (ptrAt B v)) 18 (.bool true)) 19 (.bool true)) 20 (.int .i64 a)) 21 (.bool false)) 22 (.bool false)) 23 (.pointer (some ⟨w.heap.size, 0, none⟩))) (by kernel_rfl) ?_
          refine q_val (v := .slice A n ca) (by kernel_rfl) (R_load (v := .slice A n ca) (by kernel_rfl) (by kernel_rfl) ((hB4.cell 0).trans rfl)) ?_
          refine qseg1 (ρ' := upd (upd (upd (upd (upd (upd (upd (upd (upd (upd (upd (upd (upd (upd (upd (upd (upd (updL ρ [(1, .pointer (some ⟨w.heap.size, 0, none⟩)), (2, .pointer (some ⟨w1.heap.size, 0, none⟩)), (3, .int .i64 0), (4, .bool false), (5, .int .i64 a), (6, .int .i64 ((v : Nat) : Int))]) 7 (.int .i64 ((v : Nat) : Int))) 8 (.pointer (some ⟨w.heap.size, 0, none⟩))) 9 (.slice A n ca)) 10 (.int .i64 (n : Int))) 11 (.bool (decide (((v : Nat) : Int) < (n : Int))))) 14 (.pointer (some ⟨w.heap.size, 1, none⟩))) 15 (.slice B n cb)) 16 (.int .i64 ((v : Nat) : Int))) 17 (ptrAt B v)) 18 (.bool true)) 19 (.bool true)) 20 (.int .i64 a)) 21 (.bool false)) 22 (.bool false)) 23 (.pointer (some ⟨w.heap.size, 0, none⟩))) 24 (.slice A n ca)) 25 (.int .i64 ((v : Nat) : Int))) (by kernel_rfl) ?_
          refine q_val (v := ptrAt A v) (by kernel_rfl) (R_indexRd1 (len := n) (cap := ca) (k := .i64) (i := ((v : Nat) : Int)) (e := 3) v (hA.tch0 hT0) (by kernel_rfl) (by kernel_rfl) (by kernel_rfl) (by kernel_rfl) rfl (by omega)) ?_
          refine q_val (v := .int .i64 (ac.getD v 0)) (by kernel_rfl) (R_loadRd (v := .int .i64 (ac.getD v 0)) (hA.tch0 hT0) (by omega) (by kernel_rfl) (by kernel_rfl) (ints_at .i64 ac (by omega))) ?_
          refine qseg1 (ρ' := upd (upd (upd (upd (upd (upd (upd (upd (upd (upd (upd (upd (upd (upd (upd (upd (upd (upd (upd (upd (updL ρ [(1, .pointer (some ⟨w.heap.size, 0, none⟩)), (2, .pointer (some ⟨w1.heap.size, 0, none⟩)), (3, .int .i64 0), (4, .bool false), (5, .int .i64 a), (6, .int .i64 ((v : Nat) : Int))]) 7 (.int .i64 ((v : Nat) : Int))) 8 (.pointer (some ⟨w.heap.size, 0, none⟩))) 9 (.slice A n ca)) 10 (.int .i64 (n : Int))) 11 (.bool (decide (((v : Nat) : Int) < (n : Int))))) 14 (.pointer (some ⟨w.heap.size, 1, none⟩))) 15 (.slice B n cb)) 16 (.int .i64 ((v : Nat) : Int))) 17 (ptrAt B v)) 18 (.bool true)) 19 (.bool true)) 20 (.int .i64 a)) 21 (.bool false)) 22 (.bool false)) 23 (.pointer (some ⟨w.heap.size, 0, none⟩))) 24 (.slice A n ca)) 25 (.int .i64 ((v : Nat) : Int))) 26 (ptrAt A v)) 27 (.int .i64 (ac.getD v 0))) 28 (.pointer (some ⟨w.heap.size, 0, none⟩))) (by kernel_rfl) ?_
          refine q_val (v := .slice A n ca) (by kernel_rfl) (R_load (v := .slice A n ca) (by kernel_rfl) (by kernel_rfl) ((hB4.cell 0).trans rfl)) ?_
          refine qseg1 (ρ' := upd (upd (upd (upd (upd (upd (upd (upd (upd (upd (upd (upd (upd (upd (upd (upd (upd (upd (upd (upd (upd (upd (updL ρ [(1, .pointer (some ⟨w.heap.size, 0, none⟩)), (2, .pointer (some ⟨w1.heap.size, 0, none⟩)), (3, .int .i64 0), (4, .bool false), (5, .int .i64 a), (6, .int .i64 ((v : Nat) : Int))]) 7 (.int .i64 ((v : Nat) : Int))) 8 (.pointer (some ⟨w.heap.size, 0, none⟩))) 9 (.slice A n ca)) 10 (.int .i64 (n : Int))) 11 (.bool (decide (((v : Nat) : Int) < (n : Int))))) 14 (.pointer (some ⟨w.heap.size, 1, none⟩))) 15 (.slice B n cb)) 16 (.int .i64 ((v : Nat) : Int))) 17 (ptrAt B v)) 18 (.bool true)) 19 (.bool true)) 20 (.int .i64 a)) 21 (.bool false)) 22 (.bool false)) 23 (.pointer (some ⟨w.heap.size, 0, none⟩))) 24 (.slice A n ca)) 25 (.int .i64 ((v : Nat) : Int))) 26 (ptrAt A v)) 27 (.int .i64 (ac.getD v 0))) 28 (.pointer (some ⟨w.heap.size, 0, none⟩))) 29 (.slice A n ca)) 30 (.int .i64 a)) (by kernel_rfl) ?_
          refine q_val (v := ptrAt A a.toNat) (by kernel_rfl) (R_indexRd1 (len := n) (cap := ca) (k := .i64) (i := a) (e := 3) a.toNat (hA.tch0 hT0) (by kernel_rfl) (by kernel_rfl) (by kernel_rfl) (by kernel_rfl) (by omega) (by omega)) ?_
          refine q_val (v := .int .i64 (ac.getD a.toNat 0)) (by kernel_rfl) (R_loadRd (v := .int .i64 (ac.getD a.toNat 0)) (hA.tch0 hT0) (by omega) (by kernel_rfl) (by kernel_rfl) (ints_at .i64 ac (by omega))) ?_
          refine qseg3 (ρ' := upd (upd (upd (upd (upd (upd (upd (upd (upd (upd (upd (upd (upd (upd (upd (upd (upd (upd (upd (upd (upd (upd (upd (upd (upd (upd (upd (updL ρ [(1, .pointer (some ⟨w.heap.size, 0, none⟩)), (2, .pointer (some ⟨w1.heap.size, 0, none⟩)), (3, .int .i64 0), (4, .bool false), (5, .int .i64 a), (6, .int .i64 ((v : Nat) : Int))]) 7 (.int .i64 ((v : Nat) : Int))) 8 (.pointer (some ⟨w.heap.size, 0, none⟩))) 9 (.slice A n ca)) 10 (.int .i64 (n : Int))) 11 (.bool (decide (((v : Nat) : Int) < (n : Int))))) 14 (.pointer (some ⟨w.heap.size, 1, none⟩))) 15 (.slice B n cb)) 16 (.int .i64 ((v : Nat) : Int))) 17 (ptrAt B v)) 18 (.bool true)) 19 (.bool true)) 20 (.int .i64 a)) 21 (.bool false)) 22 (.bool false)) 23 (.pointer (some ⟨w.heap.size, 0, none⟩))) 24 (.slice A n ca)) 25 (.int .i64 ((v : Nat) : Int))) 26 (ptrAt A v)) 27 (.int .i64 (ac.getD v 0))) 28 (.pointer (some ⟨w.heap.size, 0, none⟩))) 29 (.slice A n ca)) 30 (.int .i64 a)) 31 (ptrAt A a.toNat)) 32 (.int .i64 (ac.getD a.toNat 0))) 33 (.bool (decide (ac.getD v 0 > ac.getD a.toNat 0)))) 34 (.bool (decide (ac.getD v 0 > ac.getD a.toNat 0)))) 35 (.bool (decide (ac.getD v 0 > ac.getD a.toNat 0)))) (by kernel_rfl) ?_
          refine q_nil ?_
          refine W_cond (decide (ac.getD v 0 > ac.getD a.toNat 0)) (by kernel_rfl) (by kernel_rfl) (fun hc16 => ?_) (fun hc16 => ?_)
          · replace hc16 : ac.getD a.toNat 0 < ac.getD v 0 := (of_decide_eq_true hc16)
            refine W_fg [(1, .pointer (some ⟨w.heap.size, 0, none⟩)), (2, .pointer (some ⟨w1.heap.size, 0, none⟩)), (3, .int .i64 0), (4, .bool false), (5, .int .i64 a), (6, .int .i64 ((v : Nat) : Int)), (11, .bool (decide (((v : Nat) : Int) < (n : Int)))), (35, .bool (decide (ac.getD v 0 > ac.getD a.toNat 0)))] (by kernel_rfl) fun ρ => ?_
            refine W_region (by kernel_rfl) ?_
            refine seg2 (ρ' := upd (upd (updL ρ [(1, .pointer (some ⟨w.heap.size, 0, none⟩)), (2, .pointer (some ⟨w1.heap.size, 0, none⟩)), (3, .int .i64 0), (4, .bool false), (5, .int .i64 a), (6, .int .i64 ((v : Nat) : Int)), (11, .bool (decide (((v : Nat) : Int) < (n : Int)))), (35, .bool (decide (ac.getD v 0 > ac.getD a.toNat 0)))]) 36 (.int .i64 ((v : Nat) : Int))) 5 (.int .i64 ((v : Nat) : Int))) (by kernel_rfl) ?_
            refine op_nil ?_
            refine W_region (by kernel_rfl) ?_
            refine seg2 (ρ' := upd (upd (upd (upd (updL ρ [(1, .pointer (some ⟨w.heap.size, 0, none⟩)), (2, .pointer (some ⟨w1.heap.size, 0, none⟩)), (3, .int .i64 0), (4, .bool false), (5, .int .i64 a), (6, .int .i64 ((v : Nat) : Int)), (11, .bool (decide (((v : Nat) : Int) < (n : Int)))), (35, .bool (decide (ac.getD v 0 > ac.getD a.toNat 0)))]) 36 (.int .i64 ((v : Nat) : Int))) 5 (.int .i64 ((v : Nat) : Int))) 12 (.int .i64 ((v : Nat) : Int))) 13 (.int .i64 (IntKind.i64.wrap (((v : Nat) : Int) + 1)))) (by kernel_rfl) ?_
            rw [show IntKind.i64.wrap (((v : Nat) : Int) + 1) = ((v : Nat) : Int) + 1 from wrap_i64 (by omega) (by omega)]
            rw [show upd (upd (upd (upd (updL ρ [(1, .pointer (some ⟨w.heap.size, 0, none⟩)), (2, .pointer (some ⟨w1.heap.size, 0, none⟩)), (3, .int .i64 0), (4, .bool false), (5, .int .i64 a), (6, .int .i64 ((v : Nat) : Int)), (11, .bool (decide (((v : Nat) : Int) < (n : Int)))), (35, .bool (decide (ac.getD v 0 > ac.getD a.toNat 0)))]) 36 (.int .i64 ((v : Nat) : Int))) 5 (.int .i64 ((v : Nat) : Int))) 12 (.int .i64 ((v : Nat) : Int))) 13 (.int .i64 (((v : Nat) : Int) + 1)) = upd (upd (upd (upd (updL ρ [(1, .pointer (some ⟨w.heap.size, 0, none⟩)), (2, .pointer (some ⟨w1.heap.size, 0, none⟩)), (3, .int .i64 0), (4, .bool false), (5, .int .i64 a), (6, .int .i64 ((v : Nat) : Int)), (11, .bool (decide (((v : Nat) : Int) < (n : Int)))), (35, .bool (decide (ac.getD v 0 > ac.getD a.toNat 0)))]) 36 (.int .i64 ((v : Nat) : Int))) 5 (.int .i64 ((v : Nat) : Int))) 12 (.int .i64 ((v : Nat) : Int))) 13 (.int .i64 ((v + 1 : Nat) : Int)) from congrArg (fun z => upd (upd (upd (upd (updL ρ [(1, .pointer (some ⟨w.heap.size, 0, none⟩)), (2, .pointer (some ⟨w1.heap.size, 0, none⟩)), (3, .int .i64 0), (4, .bool false), (5, .int .i64 a), (6, .int .i64 ((v : Nat) : Int)), (11, .bool (decide (((v : Nat) : Int) < (n : Int)))), (35, .bool (decide (ac.getD v 0 > ac.getD a.toNat 0)))]) 36 (.int .i64 ((v : Nat) : Int))) 5 (.int .i64 ((v : Nat) : Int))) 12 (.int .i64 ((v : Nat) : Int))) 13 (.int .i64 z)) (by omega)]
            refine seg1 (ρ' := upd (upd (upd (upd (upd (updL ρ [(1, .pointer (some ⟨w.heap.size, 0, none⟩)), (2, .pointer (some ⟨w1.heap.size, 0, none⟩)), (3, .int .i64 0), (4, .bool false), (5, .int .i64 a), (6, .int .i64 ((v : Nat) : Int)), (11, .bool (decide (((v : Nat) : Int) < (n : Int)))), (35, .bool (decide (ac.getD v 0 > ac.getD a.toNat 0)))]) 36 (.int .i64 ((v : Nat) : Int))) 5 (.int .i64 ((v : Nat) : Int))) 12 (.int .i64 ((v : Nat) : Int))) 13 (.int .i64 ((v + 1 : Nat) : Int))) 6 (.int .i64 ((v + 1 : Nat) : Int))) (by kernel_rfl) ?_
            refine op_nil ?_
            refine ⟨_, ?_, ((v : Nat) : Int), v + 1, _, updL_self (by kernel_rfl), ?_, ?_, ?_, ?_, hT0, hB4, hB8, rfl⟩
            · omega
            · first | exact h1.skip (by assumption) | exact h1.first (by assumption) (by omega) | exact h1.take (by assumption) (by omega) (by omega) | exact h1.keep (by omega) (by omega)
            · omega
            · omega
            · omega
          · replace hc16 : ac.getD v 0 ≤ ac.getD a.toNat 0 := (Int.not_lt.1 (of_decide_eq_false hc16))
            refine W_skip ?_
            refine W_fg [(1, .pointer (some ⟨w.heap.size, 0, none⟩)), (2, .pointer (some ⟨w1.heap.size, 0, none⟩)), (3, .int .i64 0), (4, .bool false), (5, .int .i64 a), (6, .int .i64 ((v : Nat) : Int)), (11, .bool (decide (((v : Nat) : Int) < (n : Int)))), (35, .bool (decide (ac.getD v 0 > ac.getD a.toNat 0)))] (by kernel_rfl) fun ρ => ?_
            refine W_region (by kernel_rfl) ?_
            refine seg2 (ρ' := upd (upd (updL ρ [(1, .pointer (some ⟨w.heap.size, 0, none⟩)), (2, .pointer (some ⟨w1.heap.size, 0, none⟩)), (3, .int .i64 0), (4, .bool false), (5, .int .i64 a), (6, .int .i64 ((v : Nat) : Int)), (11, .bool (decide (((v : Nat) : Int) < (n : Int)))), (35, .bool (decide (ac.getD v 0 > ac.getD a.toNat 0)))]) 12 (.int .i64 ((v : Nat) : Int))) 13 (.int .i64 (IntKind.i64.wrap (((v : Nat) : Int) + 1)))) (by kernel_rfl) ?_
            rw [show IntKind.i64.wrap (((v : Nat) : Int) + 1) = ((v : Nat) : Int) + 1 from wrap_i64 (by omega) (by omega)]
            rw [show upd (upd (updL ρ [(1, .pointer (some ⟨w.heap.size, 0, none⟩)), (2, .pointer (some ⟨w1.heap.size, 0, none⟩)), (3, .int .i64 0), (4, .bool false), (5, .int .i64 a), (6, .int .i64 ((v : Nat) : Int)), (11, .bool (decide (((v : Nat) : Int) < (n : Int)))), (35, .bool (decide (ac.getD v 0 > ac.getD a.toNat 0)))]) 12 (.int .i64 ((v : Nat) : Int))) 13 (.int .i64 (((v : Nat) : Int) + 1)) = upd (upd (updL ρ [(1, .pointer (some ⟨w.heap.size, 0, none⟩)), (2, .pointer (some ⟨w1.heap.size, 0, none⟩)), (3, .int .i64 0), (4, .bool false), (5, .int .i64 a), (6, .int .i64 ((v : Nat) : Int)), (11, .bool (decide (((v : Nat) : Int) < (n : Int)))), (35, .bool (decide (ac.getD v 0 > ac.getD a.toNat 0)))]) 12 (.int .i64 ((v : Nat) : Int))) 13 (.int .i64 ((v + 1 : Nat) : Int)) from congrArg (fun z => upd (upd (updL ρ [(1, .pointer (some ⟨w.heap.size, 0, none⟩)), (2, .pointer (some ⟨w1.heap.size, 0, none⟩)), (3, .int .i64 0), (4, .bool false), (5, .int .i64 a), (6, .int .i64 ((v : Nat) : Int)), (11, .bool (decide (((v : Nat) : Int) < (n : Int)))), (35, .bool (decide (ac.getD v 0 > ac.getD a.toNat 0)))]) 12 (.int .i64 ((v : Nat) : Int))) 13 (.int .i64 z)) (by omega)]
            refine seg1 (ρ' := upd (upd (upd (updL ρ [(1, .pointer (some ⟨w.heap.size, 0, none⟩)), (2, .pointer (some ⟨w1.heap.size, 0, none⟩)), (3, .int .i64 0), (4, .bool false), (5, .int .i64 a), (6, .int .i64 ((v : Nat) : Int)), (11, .bool (decide (((v : Nat) : Int) < (n : Int)))), (35, .bool (decide (ac.getD v 0 > ac.getD a.toNat 0)))]) 12 (.int .i64 ((v : Nat) : Int))) 13 (.int .i64 ((v + 1 : Nat) : Int))) 6 (.int .i64 ((v + 1 : Nat) : Int))) (by kernel_rfl) ?_
            refine op_nil ?_
            refine ⟨_, ?_, a, v + 1, _, updL_self (by kernel_rfl), ?_, ?_, ?_, ?_, hT0, hB4, hB8, rfl⟩
            · omega
            · first | exact h1.skip (by assumption) | exact h1.first (by assumption) (by omega) | exact h1.take (by assumption) (by omega) (by omega) | exact h1.keep (by omega) (by omega)
            · omega
            · omega
            · omega
        · replace hb15 : a < 0 := (of_decide_eq_true hb15)
          refine qseg13 (ρ' := upd (upd (upd (upd (upd (upd (upd (upd (upd (upd (upd (upd (upd (upd (upd (upd (upd (upd (upd (upd (upd (upd (upd (upd (upd (upd (upd (updL ρ [(1, .pointer (some ⟨w.heap.size, 0, none⟩)), (2, .pointer (some ⟨w1.heap.size, 0, none⟩)), (3, .int .i64 0), (4, .bool false), (5, .int .i64 a), (6, .int .i64 ((v : Nat) : Int))]) 7 (.int .i64 ((v : Nat) : Int))) 8 (.pointer (some ⟨w.heap.size, 0, none⟩))) 9 (.slice A n ca)) 10 (.int .i64 (n : Int))) 11 (.bool (decide (((v : Nat) : Int) < (n : Int))))) 14 (.pointer (some ⟨w.heap.size, 1, none⟩))) 15 (.slice B n cb)) 16 (.int .i64 ((v : Nat) : Int))) 17 (ptrAt B v)) 18 (.bool true)) 19 (.bool true)) 20 (.int .i64 a)) 21 (.bool true)) 22 (.bool true)) 23 (undef)) 24 (undef)) 25 (undef)) 26 (undef)) 27 (undef)) 28 (undef)) 29 (undef)) 30 (undef)) 31 (undef)) 32 (undef)) 33 (undef)) 34 (.bool true)) 35 (.bool true)) (by kernel_rfl) ?_
          refine q_nil ?_
          refine W_cond true (by kernel_rfl) (by kernel_rfl) (fun _ => ?_) (fun h => nomatch h)
          refine W_fg [(1, .pointer (some ⟨w.heap.size, 0, none⟩)), (2, .pointer (some ⟨w1.heap.size, 0, none⟩)), (3, .int .i64 0), (4, .bool false), (5, .int .i64 a), (6, .int .i64 ((v : Nat) : Int)), (11, .bool (decide (((v : Nat) : Int) < (n : Int)))), (35, .bool true)] (by kernel_rfl) fun ρ => ?_
          refine W_region (by kernel_rfl) ?_
          refine seg2 (ρ' := upd (upd (updL ρ [(1, .pointer (some ⟨w.heap.size, 0, none⟩)), (2, .pointer (some ⟨w1.heap.size, 0, none⟩)), (3, .int .i64 0), (4, .bool false), (5, .int .i64 a), (6, .int .i64 ((v : Nat) : Int)), (11, .bool (decide (((v : Nat) : Int) < (n : Int)))), (35, .bool true)]) 36 (.int .i64 ((v : Nat) : Int))) 5 (.int .i64 ((v : Nat) : Int))) (by kernel_rfl) ?_
          refine op_nil ?_
          refine W_region (by kernel_rfl) ?_
          refine seg2 (ρ' := upd (upd (upd (upd (updL ρ [(1, .pointer (some ⟨w.heap.size, 0, none⟩)), (2, .pointer (some ⟨w1.heap.size, 0, none⟩)), (3, .int .i64 0), (4, .bool false), (5, .int .i64 a), (6, .int .i64 ((v : Nat) : Int)), (11, .bool (decide (((v : Nat) : Int) < (n : Int)))), (35, .bool true)]) 36 (.int .i64 ((v : Nat) : Int))) 5 (.int .i64 ((v : Nat) : Int))) 12 (.int .i64 ((v : Nat) : Int))) 13 (.int .i64 (IntKind.i64.wrap (((v : Nat) : Int) + 1)))) (by kernel_rfl) ?_
          rw [show IntKind.i64.wrap (((v : Nat) : Int) + 1) = ((v : Nat) : Int) + 1 from wrap_i64 (by omega) (by omega)]
          rw [show upd (upd (upd (upd (updL ρ [(1, .pointer (some ⟨w.heap.size, 0, none⟩)), (2, .pointer (some ⟨w1.heap.size, 0, none⟩)), (3, .int .i64 0), (4, .bool false), (5, .int .i64 a), (6, .int .i64 ((v : Nat) : Int)), (11, .bool (decide (((v : Nat) : Int) < (n : Int)))), (35, .bool true)]) 36 (.int .i64 ((v : Nat) : Int))) 5 (.int .i64 ((v : Nat) : Int))) 12 (.int .i64 ((v : Nat) : Int))) 13 (.int .i64 (((v : Nat) : Int) + 1)) = upd (upd (upd (upd (updL ρ [(1, .pointer (some ⟨w.heap.size, 0, none⟩)), (2, .pointer (some ⟨w1.heap.size, 0, none⟩)), (3, .int .i64 0), (4, .bool false), (5, .int .i64 a), (6, .int .i64 ((v : Nat) : Int)), (11, .bool (decide (((v : Nat) : Int) < (n : Int)))), (35, .bool true)]) 36 (.int .i64 ((v : Nat) : Int))) 5 (.int .i64 ((v : Nat) : Int))) 12 (.int .i64 ((v : Nat) : Int))) 13 (.int .i64 ((v + 1 : Nat) : Int)) from congrArg (fun z => upd (upd (upd (upd (updL ρ [(1, .pointer (some ⟨w.heap.size, 0, none⟩)), (2, .pointer (some ⟨w1.heap.size, 0, none⟩)), (3, .int .i64 0), (4, .bool false), (5, .int .i64 a), (6, .int .i64 ((v : Nat) : Int)), (11, .bool (decide (((v : Nat) : Int) < (n : Int)))), (35, .bool true)]) 36 (.int .i64 ((v : Nat) : Int))) 5 (.int .i64 ((v : Nat) : Int))) 12 (.int .i64 ((v : Nat) : Int))) 13 (.int .i64 z)) (by omega)]
          refine seg1 (ρ' := upd (upd (upd (upd (upd (updL ρ [(1, .pointer (some ⟨w.heap.size, 0, none⟩)), (2, .pointer (some ⟨w1.heap.size, 0, none⟩)), (3, .int .i64 0), (4, .bool false), (5, .int .i64 a), (6, .int .i64 ((v : Nat) : Int)), (11, .bool (decide (((v : Nat) : Int) < (n : Int)))), (35, .bool true)]) 36 (.int .i64 ((v : Nat) : Int))) 5 (.int .i64 ((v : Nat) : Int))) 12 (.int .i64 ((v : Nat) : Int))) 13 (.int .i64 ((v + 1 : Nat) : Int))) 6 (.int .i64 ((v + 1 : Nat) : Int))) (by kernel_rfl) ?_
          refine op_nil ?_
          refine ⟨_, ?_, ((v : Nat) : Int), v + 1, _, updL_self (by kernel_rfl), ?_, ?_, ?_, ?_, hT0, hB4, hB8, rfl⟩
          · omega
          · first | exact h1.skip (by assumption) | exact h1.first (by assumption) (by omega) | exact h1.take (by assumption) (by omega) (by omega) | exact h1.keep (by omega) (by omega)
          · omega
          · omega
          · omega
    · replace hc10 : (n : Int) ≤ ((v : Nat) : Int) := (Int.not_lt.1 (of_decide_eq_false hc10))
      refine W_exit ?_
      refine X_hit ?_
      refine W_seq ?_
      refine W_seq ?_
      rw [show v = n by omega] at h1
      have ha := h1.none hw
      subst ha
      refine W_region (by kernel_rfl) ?_
      refine seg2 (ρ' := upd (upd (upd (upd (upd (upd (upd (updL ρ [(1, .pointer (some ⟨w.heap.size, 0, none⟩)), (2, .pointer (some ⟨w1.heap.size, 0, none⟩)), (3, .int .i64 0), (4, .bool false), (5, .int .i64 (-1)), (6, .int .i64 ((v : Nat) : Int))]) 7 (.int .i64 ((v : Nat) : Int))) 8 (.pointer (some ⟨w.heap.size, 0, none⟩))) 9 (.slice A n ca)) 10 (.int .i64 (n : Int))) 11 (.bool (decide (((v : Nat) : Int) < (n : Int))))) 37 (.int .i64 (-1))) 38 (.bool true)) (by kernel_rfl) ?_
      refine op_nil ?_
      refine W_cond true (by kernel_rfl) (by kernel_rfl) (fun _ => ?_) (fun h => nomatch h)
      refine W_seq ?_
      refine W_region (by kernel_rfl) ?_
      refine st (by rfl) (S_val (v := .agg #[.slice A n ca, .slice B n cb]) (R_loadA [.slice A n ca, .slice B n cb] (by kernel_rfl) (by kernel_rfl) (by kernel_rfl) (fun k u hk => by rw [hB4.cell]; exact get_part _ 0 _ k u rfl hk)) ?_)
      refine st (by rfl) (S_storeA (b := w1.heap.size) (j := 0) (cs := [.slice A n ca, .slice B n cb]) (by kernel_rfl) (by kernel_rfl) (by kernel_rfl) (by simp [oneV]) hB8 (by simp) fun w17 hT18 hs19 hB8' => ?_)
      have hT0 := (hT0).then hT18 (fun c e => by have : c = w1.heap.size := e; omega)
      have hB4 := hB4.tch hT18 (fun e => by have : w.heap.size = w1.heap.size := e; omega)
      replace hB8 : Blk w17 w1.heap.size 35 [.slice A n ca, .slice B n cb] := hB8'
      refine seg2 (ρ' := upd (upd (upd (upd (upd (upd (upd (upd (upd (upd (updL ρ [(1, .pointer (some ⟨w.heap.size, 0, none⟩)), (2, .pointer (some ⟨w1.heap.size, 0, none⟩)), (3, .int .i64 0), (4, .bool false), (5, .int .i64 (-1)), (6, .int .i64 ((v : Nat) : Int))]) 7 (.int .i64 ((v : Nat) : Int))) 8 (.pointer (some ⟨w.heap.size, 0, none⟩))) 9 (.slice A n ca)) 10 (.int .i64 (n : Int))) 11 (.bool (decide (((v : Nat) : Int) < (n : Int))))) 37 (.int .i64 (-1))) 38 (.bool true)) 39 (.agg #[.slice A n ca, .slice B n cb])) 3 (.int .i64 (-1))) 4 (.bool false)) (by kernel_rfl) ?_
      refine op_nil ?_
      refine W_ret ?_
      exact ⟨_, Res_cell2 (b := w1.heap.size) (cs := [.slice A n ca, .slice B n cb]) (by rfl) (by kernel_rfl) (by kernel_rfl) (by kernel_rfl) (by kernel_rfl) hB8 (by kernel_rfl) (by kernel_rfl), ⟨rfl, hT0⟩⟩

end Go.Proofs.YthfjceemphhgcaaV
