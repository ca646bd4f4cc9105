/- Walks of functions of the program and of the document's texts: each call returns what the plain function says, and turns nothing that lay. The conditions stand with each theorem. -/
import Derived.Test.YthfjceemphhgcaaProg
import Derived.Test.YthfjceemphhgcaaVx2
import Derived.Test.YthfjceemphhgcaaO8
set_option linter.unusedVariables false
set_option linter.unusedSimpArgs false
namespace Go.Proofs.YthfjceemphhgcaaV
open Go Go.RowKit Go.Proofs

def isB (n : Nat) (v : Int) : Bool := decide (0 ≤ v ∧ v < (n : Int))

theorem cnt_step {wt : List Bool} {v : Nat} (h : v < wt.length) : (wt.take (v + 1)).countP id = (wt.take v).countP id + (if wt.getD v false = true then 1 else 0) := by
  rw [List.take_succ_eq_append_getElem h, List.countP_append]
  simp only [List.getD_eq_getElem?_getD, List.getElem?_eq_getElem h]
  simp [List.countP_cons]
theorem cnt_t {wt : List Bool} {v c : Nat} (h : v < wt.length) (hc : c = (wt.take v).countP id) (ht : wt.getD v false = true) : c + 1 = (wt.take (v + 1)).countP id := by rw [cnt_step h, ← hc, if_pos ht]
theorem cnt_f {wt : List Bool} {v c : Nat} (h : v < wt.length) (hc : c = (wt.take v).countP id) (ht : wt.getD v false = false) : c = (wt.take (v + 1)).countP id := by rw [cnt_step h, ← hc, if_neg (by rw [ht]; decide)]; rfl

set_option maxRecDepth 100000 in
theorem ris_ok (n : Nat) (A : Option Addr) (ca : Nat) (bv : Value) (v : Int) (w : World) : Ret Try.prog 19 [.agg #[.slice A n ca, bv], .int .i64 v] w fun x w' => x = .bool (isB n v) ∧ Tch N0 w w' := by
  refine enter Try.func19 rfl rfl ?_
  refine W_seq ?_
  refine W_region (by kernel_rfl) ?_
  refine st (by rfl) (S_new (v := .pointer (some ⟨w.heap.size, 0, none⟩)) (ob := .cells #[.slice A n ca, bv] 35) (by kernel_rfl) fun w1 hT2 hs3 hB4 => ?_)
  replace hB4 : Blk w1 (w.heap.size) 35 [.slice A n ca, bv] := hB4
  have hT0 := hT2
  refine seg1 (ρ' := upd (upd (ini [.agg #[.slice A n ca, bv], .int .i64 v]) 2 (.pointer (some ⟨w.heap.size, 0, none⟩))) 4 (.bool false)) (by kernel_rfl) ?_
  refine op_nil ?_
  refine W_seq ?_
  refine W_region (by kernel_rfl) ?_
  refine seg3 (ρ' := upd (upd (upd (upd (upd (ini [.agg #[.slice A n ca, bv], .int .i64 v]) 2 (.pointer (some ⟨w.heap.size, 0, none⟩))) 4 (.bool false)) 5 (.int .i64 v)) 6 (.bool (decide (v ≥ 0)))) 7 (.bool (decide (v ≥ 0)))) (by kernel_rfl) ?_
  cases hb5 : decide (v ≥ 0)
  · replace hb5 : v < 0 := (Int.not_le.1 (of_decide_eq_false hb5))
    refine seg7 (ρ' := upd (upd (upd (upd (upd (upd (upd (upd (upd (upd (upd (upd (ini [.agg #[.slice A n ca, bv], .int .i64 v]) 2 (.pointer (some ⟨w.heap.size, 0, none⟩))) 4 (.bool false)) 5 (.int .i64 v)) 6 (.bool false)) 7 (.bool false)) 8 (undef)) 9 (undef)) 10 (undef)) 11 (undef)) 12 (undef)) 13 (.bool false)) 4 (.bool false)) (by kernel_rfl) ?_
    refine op_nil ?_
    refine W_ret ?_
    exact ⟨_, Res_of (v := .bool false) (by kernel_rfl), ⟨congrArg Value.bool (by unfold isB; simp; omega), hT0⟩⟩
  · replace hb5 : 0 ≤ v := (of_decide_eq_true hb5)
    refine seg2 (ρ' := upd (upd (upd (upd (upd (upd (upd (ini [.agg #[.slice A n ca, bv], .int .i64 v]) 2 (.pointer (some ⟨w.heap.size, 0, none⟩))) 4 (.bool false)) 5 (.int .i64 v)) 6 (.bool true)) 7 (.bool true)) 8 (.int .i64 v)) 9 (.pointer (some ⟨w.heap.size, 0, none⟩))) (by kernel_rfl) ?_
    refine st (by kernel_rfl) (S_val (v := .slice A n ca) (R_load (v := .slice A n ca) (by kernel_rfl) (by kernel_rfl) ((hB4.cell 0).trans rfl)) ?_)
    refine seg4 (ρ' := upd (upd (upd (upd (upd (upd (upd (upd (upd (upd (upd (upd (ini [.agg #[.slice A n ca, bv], .int .i64 v]) 2 (.pointer (some ⟨w.heap.size, 0, none⟩))) 4 (.bool false)) 5 (.int .i64 v)) 6 (.bool true)) 7 (.bool true)) 8 (.int .i64 v)) 9 (.pointer (some ⟨w.heap.size, 0, none⟩))) 10 (.slice A n ca)) 11 (.int .i64 (n : Int))) 12 (.bool (decide (v < (n : Int))))) 13 (.bool (decide (v < (n : Int))))) 4 (.bool (decide (v < (n : Int))))) (by kernel_rfl) ?_
    refine op_nil ?_
    refine W_ret ?_
    exact ⟨_, Res_of (v := .bool (decide (v < (n : Int)))) (by kernel_rfl), ⟨congrArg Value.bool (by unfold isB; simp; omega), hT0⟩⟩

set_option maxRecDepth 100000 in
theorem rlen_ok (n : Nat) (A B : Option Addr) (ca cb : Nat) (ac : List Int) (wt : List Bool) (w : World) (hA : RdW w 1 n A (ints .i64 ac)) (hB : RdW w 1 n B (boolsV wt)) (hn : n ≤ 1048576) : Ret Try.prog 21 [.agg #[.slice A n ca, .slice B n cb]] w fun v w' => v = .int .i64 ((wt.take n).countP id : Nat) ∧ Tch N0 w w' := by
  have la := hA.len
  have lb := hB.lenb
  refine enter Try.func21 rfl rfl ?_
  refine W_seq ?_
  refine W_region (by kernel_rfl) ?_
  refine st (by rfl) (S_new (v := .pointer (some ⟨w.heap.size, 0, none⟩)) (ob := .cells #[.slice A n ca, .slice B n cb] 35) (by kernel_rfl) fun w1 hT2 hs3 hB4 => ?_)
  replace hB4 : Blk w1 (w.heap.size) 35 [.slice A n ca, .slice B n cb] := hB4
  have hT0 := hT2
  refine seg1 (ρ' := upd (upd (ini [.agg #[.slice A n ca, .slice B n cb]]) 1 (.pointer (some ⟨w.heap.size, 0, none⟩))) 2 (.int .i64 0)) (by kernel_rfl) ?_
  refine op_nil ?_
  refine W_seq ?_
  refine W_region (by kernel_rfl) ?_
  refine seg1 (ρ' := upd (upd (upd (ini [.agg #[.slice A n ca, .slice B n cb]]) 1 (.pointer (some ⟨w.heap.size, 0, none⟩))) 2 (.int .i64 0)) 3 (.int .i64 0)) (by kernel_rfl) ?_
  refine op_nil ?_
  refine W_seq ?_
  refine W_seq ?_
  refine W_region (by kernel_rfl) ?_
  refine seg1 (ρ' := upd (upd (upd (upd (ini [.agg #[.slice A n ca, .slice B n cb]]) 1 (.pointer (some ⟨w.heap.size, 0, none⟩))) 2 (.int .i64 0)) 3 (.int .i64 0)) 4 (.int .i64 0)) (by kernel_rfl) ?_
  refine op_nil ?_
  refine W_block ?_
  refine W_loop (fun m ρ w' => ∃ (v c : Nat) (ρ0 : Env), ρ = updL ρ0 [(1, .pointer (some ⟨w.heap.size, 0, none⟩)), (3, .int .i64 ((c : Nat) : Int)), (4, .int .i64 ((v : Nat) : Int))] ∧ (c = (wt.take v).countP id) ∧ (v ≤ n) ∧ (c ≤ v) ∧ Tch N0 w w' ∧ Blk w' (w.heap.size) 35 [.slice A n ca, .slice B n cb] ∧ m = n - v) (m := n - 0) ?_ ?_
  · refine ⟨0, 0, _, updL_self (by kernel_rfl), by simp, by omega, by omega, hT0, hB4, rfl⟩
  · rintro m ρ w5 ⟨v, c, ρ, rfl, h1, h2, h3, hT0, hB4, rfl⟩
    refine W_seq ?_
    refine W_seq ?_
    refine W_region (by kernel_rfl) ?_
    refine seg2 (ρ' := upd (upd (updL ρ [(1, .pointer (some ⟨w.heap.size, 0, none⟩)), (3, .int .i64 ((c : Nat) : Int)), (4, .int .i64 ((v : Nat) : Int))]) 5 (.int .i64 ((v : Nat) : Int))) 6 (.pointer (some ⟨w.heap.size, 1, none⟩))) (by kernel_rfl) ?_
    refine st (by rfl) (S_val (v := .slice B n cb) (R_load (v := .slice B n cb) (by kernel_rfl) (by kernel_rfl) ((hB4.cell 1).trans rfl)) ?_)
    refine seg2 (ρ' := upd (upd (upd (upd (upd (updL ρ [(1, .pointer (some ⟨w.heap.size, 0, none⟩)), (3, .int .i64 ((c : Nat) : Int)), (4, .int .i64 ((v : Nat) : Int))]) 5 (.int .i64 ((v : Nat) : Int))) 6 (.pointer (some ⟨w.heap.size, 1, none⟩))) 7 (.slice B n cb)) 8 (.int .i64 (n : Int))) 9 (.bool (decide (((v : Nat) : Int) < (n : Int))))) (by kernel_rfl) ?_
    refine op_nil ?_
    refine W_cond (decide (((v : Nat) : Int) < (n : Int))) (by kernel_rfl) (by kernel_rfl) (fun hc6 => ?_) (fun hc6 => ?_)
    · replace hc6 : ((v : Nat) : Int) < (n : Int) := (of_decide_eq_true hc6)
      refine W_skip ?_
      refine W_seq ?_
      refine W_block ?_
      refine W_seq ?_
      refine W_region (by kernel_rfl) ?_
      refine seg1 (ρ' := upd (upd (upd (upd (upd (upd (updL ρ [(1, .pointer (some ⟨w.heap.size, 0, none⟩)), (3, .int .i64 ((c : Nat) : Int)), (4, .int .i64 ((v : Nat) : Int))]) 5 (.int .i64 ((v : Nat) : Int))) 6 (.pointer (some ⟨w.heap.size, 1, none⟩))) 7 (.slice B n cb)) 8 (.int .i64 (n : Int))) 9 (.bool (decide (((v : Nat) : Int) < (n : Int))))) 12 (.pointer (some ⟨w.heap.size, 1, none⟩))) (by kernel_rfl) ?_
      refine st (by rfl) (S_val (v := .slice B n cb) (R_load (v := .slice B n cb) (by kernel_rfl) (by kernel_rfl) ((hB4.cell 1).trans rfl)) ?_)
      refine seg1 (ρ' := upd (upd (upd (upd (upd (upd (upd (upd (updL ρ [(1, .pointer (some ⟨w.heap.size, 0, none⟩)), (3, .int .i64 ((c : Nat) : Int)), (4, .int .i64 ((v : Nat) : Int))]) 5 (.int .i64 ((v : Nat) : Int))) 6 (.pointer (some ⟨w.heap.size, 1, none⟩))) 7 (.slice B n cb)) 8 (.int .i64 (n : Int))) 9 (.bool (decide (((v : Nat) : Int) < (n : Int))))) 12 (.pointer (some ⟨w.heap.size, 1, none⟩))) 13 (.slice B n cb)) 14 (.int .i64 ((v : Nat) : Int))) (by kernel_rfl) ?_
      refine stv (v := ptrAt B v) (by rfl) (R_indexRd1 (len := n) (cap := cb) (k := .i64) (i := ((v : Nat) : Int)) (e := 4) v (hB.tch0 hT0) (by kernel_rfl) (by kernel_rfl) (by kernel_rfl) (by kernel_rfl) rfl (by omega)) ?_
      refine stv (v := .bool (wt.getD v false)) (by rfl) (R_loadRd (v := .bool (wt.getD v false)) (hB.tch0 hT0) (by omega) (by kernel_rfl) (by kernel_rfl) (boolsV_at wt (by omega))) ?_
      refine op_nil ?_
      refine W_cond (wt.getD v false) (by kernel_rfl) (by kernel_rfl) (fun hc7 => ?_) (fun hc7 => ?_)
      · replace hc7 : wt.getD v false = true := (hc7)
        refine W_fg [(1, .pointer (some ⟨w.heap.size, 0, none⟩)), (3, .int .i64 ((c : Nat) : Int)), (4, .int .i64 ((v : Nat) : Int)), (9, .bool (decide (((v : Nat) : Int) < (n : Int)))), (16, .bool (wt.getD v false))] (by kernel_rfl) fun ρ => ?_
        refine W_region (by kernel_rfl) ?_
        refine seg2 (ρ' := upd (upd (updL ρ [(1, .pointer (some ⟨w.heap.size, 0, none⟩)), (3, .int .i64 ((c : Nat) : Int)), (4, .int .i64 ((v : Nat) : Int)), (9, .bool (decide (((v : Nat) : Int) < (n : Int)))), (16, .bool (wt.getD v false))]) 17 (.int .i64 ((c : Nat) : Int))) 18 (.int .i64 (IntKind.i64.wrap (((c : Nat) : Int) + 1)))) (by kernel_rfl) ?_
        rw [show IntKind.i64.wrap (((c : Nat) : Int) + 1) = ((c : Nat) : Int) + 1 from wrap_i64 (by omega) (by omega)]
        rw [show upd (upd (updL ρ [(1, .pointer (some ⟨w.heap.size, 0, none⟩)), (3, .int .i64 ((c : Nat) : Int)), (4, .int .i64 ((v : Nat) : Int)), (9, .bool (decide (((v : Nat) : Int) < (n : Int)))), (16, .bool (wt.getD v false))]) 17 (.int .i64 ((c : Nat) : Int))) 18 (.int .i64 (((c : Nat) : Int) + 1)) = upd (upd (updL ρ [(1, .pointer (some ⟨w.heap.size, 0, none⟩)), (3, .int .i64 ((c : Nat) : Int)), (4, .int .i64 ((v : Nat) : Int)), (9, .bool (decide (((v : Nat) : Int) < (n : Int)))), (16, .bool (wt.getD v false))]) 17 (.int .i64 ((c : Nat) : Int))) 18 (.int .i64 ((c + 1 : Nat) : Int)) from congrArg (fun z => upd (upd (updL ρ [(1, .pointer (some ⟨w.heap.size, 0, none⟩)), (3, .int .i64 ((c : Nat) : Int)), (4, .int .i64 ((v : Nat) : Int)), (9, .bool (decide (((v : Nat) : Int) < (n : Int)))), (16, .bool (wt.getD v false))]) 17 (.int .i64 ((c : Nat) : Int))) 18 (.int .i64 z)) (by omega)]
        refine seg1 (ρ' := upd (upd (upd (updL ρ [(1, .pointer (some ⟨w.heap.size, 0, none⟩)), (3, .int .i64 ((c : Nat) : Int)), (4, .int .i64 ((v : Nat) : Int)), (9, .bool (decide (((v : Nat) : Int) < (n : Int)))), (16, .bool (wt.getD v false))]) 17 (.int .i64 ((c : Nat) : Int))) 18 (.int .i64 ((c + 1 : Nat) : Int))) 3 (.int .i64 ((c + 1 : Nat) : Int))) (by kernel_rfl) ?_
        refine op_nil ?_
        refine W_region (by kernel_rfl) ?_
        refine seg2 (ρ' := upd (upd (upd (upd (upd (updL ρ [(1, .pointer (some ⟨w.heap.size, 0, none⟩)), (3, .int .i64 ((c : Nat) : Int)), (4, .int .i64 ((v : Nat) : Int)), (9, .bool (decide (((v : Nat) : Int) < (n : Int)))), (16, .bool (wt.getD v false))]) 17 (.int .i64 ((c : Nat) : Int))) 18 (.int .i64 ((c + 1 : Nat) : Int))) 3 (.int .i64 ((c + 1 : Nat) : Int))) 10 (.int .i64 ((v : Nat) : Int))) 11 (.int .i64 (IntKind.i64.wrap (((v : Nat) : Int) + 1)))) (by kernel_rfl) ?_
        rw [show IntKind.i64.wrap (((v : Nat) : Int) + 1) = ((v : Nat) : Int) + 1 from wrap_i64 (by omega) (by omega)]
        rw [show upd (upd (upd (upd (upd (updL ρ [(1, .pointer (some ⟨w.heap.size, 0, none⟩)), (3, .int .i64 ((c : Nat) : Int)), (4, .int .i64 ((v : Nat) : Int)), (9, .bool (decide (((v : Nat) : Int) < (n : Int)))), (16, .bool (wt.getD v false))]) 17 (.int .i64 ((c : Nat) : Int))) 18 (.int .i64 ((c + 1 : Nat) : Int))) 3 (.int .i64 ((c + 1 : Nat) : Int))) 10 (.int .i64 ((v : Nat) : Int))) 11 (.int .i64 (((v : Nat) : Int) + 1)) = upd (upd (upd (upd (upd (updL ρ [(1, .pointer (some ⟨w.heap.size, 0, none⟩)), (3, .int .i64 ((c : Nat) : Int)), (4, .int .i64 ((v : Nat) : Int)), (9, .bool (decide (((v : Nat) : Int) < (n : Int)))), (16, .bool (wt.getD v false))]) 17 (.int .i64 ((c : Nat) : Int))) 18 (.int .i64 ((c + 1 : Nat) : Int))) 3 (.int .i64 ((c + 1 : Nat) : Int))) 10 (.int .i64 ((v : Nat) : Int))) 11 (.int .i64 ((v + 1 : Nat) : Int)) from congrArg (fun z => upd (upd (upd (upd (upd (updL ρ [(1, .pointer (some ⟨w.heap.size, 0, none⟩)), (3, .int .i64 ((c : Nat) : Int)), (4, .int .i64 ((v : Nat) : Int)), (9, .bool (decide (((v : Nat) : Int) < (n : Int)))), (16, .bool (wt.getD v false))]) 17 (.int .i64 ((c : Nat) : Int))) 18 (.int .i64 ((c + 1 : Nat) : Int))) 3 (.int .i64 ((c + 1 : Nat) : Int))) 10 (.int .i64 ((v : Nat) : Int))) 11 (.int .i64 z)) (by omega)]
        refine seg1 (ρ' := upd (upd (upd (upd (upd (upd (updL ρ [(1, .pointer (some ⟨w.heap.size, 0, none⟩)), (3, .int .i64 ((c : Nat) : Int)), (4, .int .i64 ((v : Nat) : Int)), (9, .bool (decide (((v : Nat) : Int) < (n : Int)))), (16, .bool (wt.getD v false))]) 17 (.int .i64 ((c : Nat) : Int))) 18 (.int .i64 ((c + 1 : Nat) : Int))) 3 (.int .i64 ((c + 1 : Nat) : Int))) 10 (.int .i64 ((v : Nat) : Int))) 11 (.int .i64 ((v + 1 : Nat) : Int))) 4 (.int .i64 ((v + 1 : Nat) : Int))) (by kernel_rfl) ?_
        refine op_nil ?_
        refine ⟨_, ?_, v + 1, c + 1, _, updL_self (by kernel_rfl), ?_, ?_, ?_, hT0, hB4, rfl⟩
        · omega
        · first | exact cnt_t (by omega) h1 (by assumption) | exact cnt_f (by omega) h1 (by assumption)
        · omega
        · omega
      · replace hc7 : wt.getD v false = false := (hc7)
        refine W_skip ?_
        refine W_fg [(1, .pointer (some ⟨w.heap.size, 0, none⟩)), (3, .int .i64 ((c : Nat) : Int)), (4, .int .i64 ((v : Nat) : Int)), (9, .bool (decide (((v : Nat) : Int) < (n : Int)))), (16, .bool (wt.getD v false))] (by kernel_rfl) fun ρ => ?_
        refine W_region (by kernel_rfl) ?_
        refine seg2 (ρ' := upd (upd (updL ρ [(1, .pointer (some ⟨w.heap.size, 0, none⟩)), (3, .int .i64 ((c : Nat) : Int)), (4, .int .i64 ((v : Nat) : Int)), (9, .bool (decide (((v : Nat) : Int) < (n : Int)))), (16, .bool (wt.getD v false))]) 10 (.int .i64 ((v : Nat) : Int))) 11 (.int .i64 (IntKind.i64.wrap (((v : Nat) : Int) + 1)))) (by kernel_rfl) ?_
        rw [show IntKind.i64.wrap (((v : Nat) : Int) + 1) = ((v : Nat) : Int) + 1 from wrap_i64 (by omega) (by omega)]
        rw [show upd (upd (updL ρ [(1, .pointer (some ⟨w.heap.size, 0, none⟩)), (3, .int .i64 ((c : Nat) : Int)), (4, .int .i64 ((v : Nat) : Int)), (9, .bool (decide (((v : Nat) : Int) < (n : Int)))), (16, .bool (wt.getD v false))]) 10 (.int .i64 ((v : Nat) : Int))) 11 (.int .i64 (((v : Nat) : Int) + 1)) = upd (upd (updL ρ [(1, .pointer (some ⟨w.heap.size, 0, none⟩)), (3, .int .i64 ((c : Nat) : Int)), (4, .int .i64 ((v : Nat) : Int)), (9, .bool (decide (((v : Nat) : Int) < (n : Int)))), (16, .bool (wt.getD v false))]) 10 (.int .i64 ((v : Nat) : Int))) 11 (.int .i64 ((v + 1 : Nat) : Int)) from congrArg (fun z => upd (upd (updL ρ [(1, .pointer (some ⟨w.heap.size, 0, none⟩)), (3, .int .i64 ((c : Nat) : Int)), (4, .int .i64 ((v : Nat) : Int)), (9, .bool (decide (((v : Nat) : Int) < (n : Int)))), (16, .bool (wt.getD v false))]) 10 (.int .i64 ((v : Nat) : Int))) 11 (.int .i64 z)) (by omega)]
        refine seg1 (ρ' := upd (upd (upd (updL ρ [(1, .pointer (some ⟨w.heap.size, 0, none⟩)), (3, .int .i64 ((c : Nat) : Int)), (4, .int .i64 ((v : Nat) : Int)), (9, .bool (decide (((v : Nat) : Int) < (n : Int)))), (16, .bool (wt.getD v false))]) 10 (.int .i64 ((v : Nat) : Int))) 11 (.int .i64 ((v + 1 : Nat) : Int))) 4 (.int .i64 ((v + 1 : Nat) : Int))) (by kernel_rfl) ?_
        refine op_nil ?_
        refine ⟨_, ?_, v + 1, c, _, updL_self (by kernel_rfl), ?_, ?_, ?_, hT0, hB4, rfl⟩
        · omega
        · first | exact cnt_t (by omega) h1 (by assumption) | exact cnt_f (by omega) h1 (by assumption)
        · omega
        · omega
    · replace hc6 : (n : Int) ≤ ((v : Nat) : Int) := (Int.not_lt.1 (of_decide_eq_false hc6))
      refine W_exit ?_
      refine X_hit ?_
      refine W_seq ?_
      refine W_region (by kernel_rfl) ?_
      refine seg2 (ρ' := upd (upd (upd (upd (upd (upd (upd (updL ρ [(1, .pointer (some ⟨w.heap.size, 0, none⟩)), (3, .int .i64 ((c : Nat) : Int)), (4, .int .i64 ((v : Nat) : Int))]) 5 (.int .i64 ((v : Nat) : Int))) 6 (.pointer (some ⟨w.heap.size, 1, none⟩))) 7 (.slice B n cb)) 8 (.int .i64 (n : Int))) 9 (.bool (decide (((v : Nat) : Int) < (n : Int))))) 19 (.int .i64 ((c : Nat) : Int))) 2 (.int .i64 ((c : Nat) : Int))) (by kernel_rfl) ?_
      refine op_nil ?_
      refine W_ret ?_
      exact ⟨_, Res_of (v := .int .i64 ((c : Nat) : Int)) (by kernel_rfl), ⟨by rw [h1, show v = n by omega], hT0⟩⟩

set_option maxRecDepth 100000 in
theorem rset_ok (n : Nat) (A B : Option Addr) (ca cb : Nat) (ac : List Int) (wt : List Bool) (x : Nat) (b : Bool) (w : World) (hA : RdW w 1 n A (ints .i64 ac)) (hB : RdW w 1 n B (boolsV wt)) (hn : n ≤ 1048576) (hx : x < n) : Ret Try.prog 38 [.agg #[.slice A n ca, .slice B n cb], .int .i64 ((x : Nat) : Int), .bool b] w fun v w' => ∃ g cp sp, v = .agg #[.slice A n ca, .slice (some ⟨g, 0, none⟩) n cp] ∧ Blk w' g 4 (boolsV (wt.set x b) ++ sp) ∧ w.heap.size ≤ g ∧ Tch N0 w w' := by
  have la := hA.len
  have lb := hB.lenb
  refine enter Try.func38 rfl rfl ?_
  refine W_seq ?_
  refine W_region (by kernel_rfl) ?_
  refine st (by rfl) (S_new (v := .pointer (some ⟨w.heap.size, 0, none⟩)) (ob := .cells #[.slice A n ca, .slice B n cb] 35) (by kernel_rfl) fun w1 hT2 hs3 hB4 => ?_)
  replace hB4 : Blk w1 (w.heap.size) 35 [.slice A n ca, .slice B n cb] := hB4
  have hT0 := hT2
  refine st (by rfl) (S_new (v := .pointer (some ⟨w1.heap.size, 0, none⟩)) (ob := .cells #[.slice none 0 0, .slice none 0 0] 35) (by kernel_rfl) fun w5 hT6 hs7 hB8 => ?_)
  replace hB8 : Blk w5 (w1.heap.size) 35 [.slice none 0 0, .slice none 0 0] := hB8
  have hT0 := hT0.t0 hT6
  have hB4 := hB4.tch0 hT6
  refine op_nil ?_
  refine W_seq ?_
  refine W_region (by kernel_rfl) ?_
  refine seg1 (ρ' := upd (upd (upd (ini [.agg #[.slice A n ca, .slice B n cb], .int .i64 ((x : Nat) : Int), .bool b]) 3 (.pointer (some ⟨w.heap.size, 0, none⟩))) 6 (.pointer (some ⟨w1.heap.size, 0, none⟩))) 7 (.pointer (some ⟨w.heap.size, 1, none⟩))) (by kernel_rfl) ?_
  refine st (by rfl) (S_val (v := .slice B n cb) (R_load (v := .slice B n cb) (by kernel_rfl) (by kernel_rfl) ((hB4.cell 1).trans rfl)) ?_)
  refine st (by rfl) (S_append_nil 33 4 (.bool false) 1 (m := n) (news := boolsV wt) (A := B) (c := cb) (by kernel_rfl) (by rfl) (by kernel_rfl) (by kernel_rfl) (by kernel_rfl) (hB.tch0 hT0) (boolsV_one _) (by simp only [maxLen]; omega) (by omega) (by omega) fun cp sp w9 hN hT10 => ?_)
  have hT0 := hT0.t0 hT10
  have hB4 := hB4.tch0 hT10
  have hB8 := hB8.tch0 hT10
  have sz_ := hT10.size
  have lt_ := hN.lt
  refine seg1 (ρ' := upd (upd (upd (upd (upd (upd (ini [.agg #[.slice A n ca, .slice B n cb], .int .i64 ((x : Nat) : Int), .bool b]) 3 (.pointer (some ⟨w.heap.size, 0, none⟩))) 6 (.pointer (some ⟨w1.heap.size, 0, none⟩))) 7 (.pointer (some ⟨w.heap.size, 1, none⟩))) 8 (.slice B n cb)) 9 (.slice (some ⟨w5.heap.size, 0, none⟩) n cp)) 10 (.pointer (some ⟨w.heap.size, 1, none⟩))) (by kernel_rfl) ?_
  refine st (by rfl) (S_store (b := w.heap.size) (j := 1) (v := .slice (some ⟨w5.heap.size, 0, none⟩) n cp) (by kernel_rfl) (by kernel_rfl) (by kernel_rfl) (by rfl) hB4 (by simp) fun w11 hT12 hs13 hB4' => ?_)
  have hT0 := (hT0).then hT12 (fun c e => by have : c = w.heap.size := e; omega)
  have hB8 := hB8.tch hT12 (fun e => by have : w1.heap.size = w.heap.size := e; omega)
  have hN := hN.tch hT12 (hN.ne hB4 (by decide))
  replace hB4 : Blk w11 w.heap.size 35 [.slice A n ca, .slice (some ⟨w5.heap.size, 0, none⟩) n cp] := hB4'
  refine op_nil ?_
  refine W_seq ?_
  refine W_region (by kernel_rfl) ?_
  refine seg1 (ρ' := upd (upd (upd (upd (upd (upd (upd (ini [.agg #[.slice A n ca, .slice B n cb], .int .i64 ((x : Nat) : Int), .bool b]) 3 (.pointer (some ⟨w.heap.size, 0, none⟩))) 6 (.pointer (some ⟨w1.heap.size, 0, none⟩))) 7 (.pointer (some ⟨w.heap.size, 1, none⟩))) 8 (.slice B n cb)) 9 (.slice (some ⟨w5.heap.size, 0, none⟩) n cp)) 10 (.pointer (some ⟨w.heap.size, 1, none⟩))) 11 (.pointer (some ⟨w.heap.size, 1, none⟩))) (by kernel_rfl) ?_
  refine st (by rfl) (S_val (v := .slice (some ⟨w5.heap.size, 0, none⟩) n cp) (R_load (v := .slice (some ⟨w5.heap.size, 0, none⟩) n cp) (by kernel_rfl) (by kernel_rfl) ((hB4.cell 1).trans rfl)) ?_)
  refine seg2 (ρ' := upd (upd (upd (upd (upd (upd (upd (upd (upd (upd (ini [.agg #[.slice A n ca, .slice B n cb], .int .i64 ((x : Nat) : Int), .bool b]) 3 (.pointer (some ⟨w.heap.size, 0, none⟩))) 6 (.pointer (some ⟨w1.heap.size, 0, none⟩))) 7 (.pointer (some ⟨w.heap.size, 1, none⟩))) 8 (.slice B n cb)) 9 (.slice (some ⟨w5.heap.size, 0, none⟩) n cp)) 10 (.pointer (some ⟨w.heap.size, 1, none⟩))) 11 (.pointer (some ⟨w.heap.size, 1, none⟩))) 12 (.slice (some ⟨w5.heap.size, 0, none⟩) n cp)) 13 (.int .i64 ((x : Nat) : Int))) 14 (.bool b)) (by kernel_rfl) ?_
  refine stv (v := .pointer (some ⟨w5.heap.size, x, none⟩)) (by rfl) (R_index0 (b := w5.heap.size) (len := n) (cap := cp) (k := .i64) (i := ((x : Nat) : Int)) (e := 4) x (by kernel_rfl) (by kernel_rfl) (by kernel_rfl) (by kernel_rfl) rfl (by first | omega | (simp only [List.length_set, List.length_map]; omega))) ?_
  refine st (by rfl) (S_store (b := w5.heap.size) (j := x) (v := .bool b) (by kernel_rfl) (by kernel_rfl) (by kernel_rfl) (by rfl) hN (by (try rw [List.length_append]); rw [boolsV_length]; first | omega | (simp only [List.length_set, List.length_map]; omega)) fun w14 hT15 hs16 hN' => ?_)
  have hT0 := (hT0).then hT15 (fun c e => by have : c = w5.heap.size := e; omega)
  have hB4 := hB4.tch hT15 (hB4.ne hN (by decide))
  have hB8 := hB8.tch hT15 (hB8.ne hN (by decide))
  replace hN : Blk w14 (w5.heap.size) 4 (boolsV (wt.set x b) ++ sp) := (boolsV_setP (l := wt) (sp := sp) (i := x) b (by first | omega | (simp only [List.length_set, List.length_map]; omega))) ▸ hN'
  refine op_nil ?_
  refine W_seq ?_
  refine W_fg [(0, .agg #[.slice A n ca, .slice B n cb]), (1, .int .i64 ((x : Nat) : Int)), (2, .bool b), (3, .pointer (some ⟨w.heap.size, 0, none⟩)), (6, .pointer (some ⟨w1.heap.size, 0, none⟩))] (by kernel_rfl) fun ρ => ?_
  refine W_region (by kernel_rfl) ?_
  refine st (by rfl) (S_val (v := .agg #[.slice A n ca, .slice (some ⟨w5.heap.size, 0, none⟩) n cp]) (R_loadA [.slice A n ca, .slice (some ⟨w5.heap.size, 0, none⟩) n cp] (by kernel_rfl) (by kernel_rfl) (by kernel_rfl) (fun k u hk => by rw [hB4.cell]; exact get_part _ 0 _ k u rfl hk)) ?_)
  refine st (by rfl) (S_storeA (b := w1.heap.size) (j := 0) (cs := [.slice A n ca, .slice (some ⟨w5.heap.size, 0, none⟩) n cp]) (by kernel_rfl) (by kernel_rfl) (by kernel_rfl) (by simp [oneV]) hB8 (by simp) fun w17 hT18 hs19 hB8' => ?_)
  have hT0 := (hT0).then hT18 (fun c e => by have : c = w1.heap.size := e; omega)
  have hB4 := hB4.tch hT18 (fun e => by have : w.heap.size = w1.heap.size := e; omega)
  have hN := hN.tch hT18 (hN.ne hB8 (by decide))
  replace hB8 : Blk w17 w1.heap.size 35 [.slice A n ca, .slice (some ⟨w5.heap.size, 0, none⟩) n cp] := hB8'
  refine op_nil ?_
  refine W_ret ?_
  exact ⟨_, Res_cell (b := w1.heap.size) (cs := [.slice A n ca, .slice (some ⟨w5.heap.size, 0, none⟩) n cp]) (by rfl) (by kernel_rfl) (by kernel_rfl) hB8 (by kernel_rfl) (by kernel_rfl), ⟨_, _, _, rfl, hN, (by have := (show Tch N0 w w5 from by assumption).size; exact this), hT0⟩⟩

end Go.Proofs.YthfjceemphhgcaaV
