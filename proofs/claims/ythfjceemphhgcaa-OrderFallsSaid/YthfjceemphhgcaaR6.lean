/- Walks of functions of the program and of the document's texts: each call returns what the plain function says, and turns nothing that lay. The conditions stand with each theorem. -/
import Derived.Test.YthfjceemphhgcaaProg
import Derived.Test.YthfjceemphhgcaaVx2
import Derived.Test.YthfjceemphhgcaaR5
set_option linter.unusedVariables false
set_option linter.unusedSimpArgs false
namespace Go.Proofs.YthfjceemphhgcaaV
open Go Go.RowKit Go.Proofs

set_option maxRecDepth 100000 in
theorem rhalve_ok (n : Nat) (A B : Option Addr) (ca cb : Nat) (ac : List Int) (wt : List Bool) (w : World) (hA : RdW w 1 n A (ints .i64 ac)) (hB : RdW w 1 n B (boolsV wt)) (hn : n ≤ 1048576) (hac : okA ac) : Ret Try.prog 32 [.agg #[.slice A n ca, .slice B n cb]] w fun v w' => ∃ A' ca', v = .agg #[.slice A' n ca', .slice B n cb] ∧ Own w' w.heap.size 3 1 (.slice A' n ca') n (ints .i64 (HeapP.halveL ac)) ∧ Tch N0 w w' := by
  have la := hA.len
  have lb := hB.lenb
  refine enter Try.func32 rfl rfl ?_
  refine W_seq ?_
  refine W_region (by kernel_rfl) ?_
  refine st (by rfl) (S_new (v := .pointer (some ⟨w.heap.size, 0, none⟩)) (ob := .cells #[.slice A n ca, .slice B n cb] 35) (by kernel_rfl) fun w1 hT2 hs3 hB4 => ?_)
  replace hB4 : Blk w1 (w.heap.size) 35 [.slice A n ca, .slice B n cb] := hB4
  have hT0 := hT2
  refine st (by rfl) (S_new (v := .pointer (some ⟨w1.heap.size, 0, none⟩)) (ob := .cells #[.slice none 0 0, .slice none 0 0] 35) (by kernel_rfl) fun w5 hT6 hs7 hB8 => ?_)
  replace hB8 : Blk w5 (w1.heap.size) 35 [.slice none 0 0, .slice none 0 0] := hB8
  have hT0 := hT0.t0 hT6
  have hB4 := hB4.tch0 hT6
  refine op_nil ?_
  refine W_seq ?_
  refine W_region (by kernel_rfl) ?_
  refine seg1 (ρ' := upd (upd (upd (ini [.agg #[.slice A n ca, .slice B n cb]]) 1 (.pointer (some ⟨w.heap.size, 0, none⟩))) 2 (.pointer (some ⟨w1.heap.size, 0, none⟩))) 3 (.slice none 0 0)) (by kernel_rfl) ?_
  refine op_nil ?_
  refine W_seq ?_
  refine W_seq ?_
  refine W_region (by kernel_rfl) ?_
  refine seg1 (ρ' := upd (upd (upd (upd (ini [.agg #[.slice A n ca, .slice B n cb]]) 1 (.pointer (some ⟨w.heap.size, 0, none⟩))) 2 (.pointer (some ⟨w1.heap.size, 0, none⟩))) 3 (.slice none 0 0)) 4 (.int .i64 0)) (by kernel_rfl) ?_
  refine op_nil ?_
  refine W_block ?_
  refine W_loop (fun m ρ w' => ∃ (l : Value) (v : Nat) (ρ0 : Env), ρ = updL ρ0 [(1, .pointer (some ⟨w.heap.size, 0, none⟩)), (2, .pointer (some ⟨w1.heap.size, 0, none⟩)), (3, l), (4, .int .i64 ((v : Nat) : Int))] ∧ (v ≤ n) ∧ Tch N0 w w' ∧ Blk w' (w.heap.size) 35 [.slice A n ca, .slice B n cb] ∧ Blk w' (w1.heap.size) 35 [.slice none 0 0, .slice none 0 0] ∧ Own w' w.heap.size 3 1 l v (ints .i64 ((HeapP.halveL ac).take v)) ∧ m = n - v) (m := n - 0) ?_ ?_
  · refine ⟨.slice none 0 0, 0, _, updL_self (by kernel_rfl), by omega, hT0, hB4, hB8, Own.nil_ _ _ _ _, rfl⟩
  · rintro m ρ w9 ⟨l, v, ρ, rfl, h1, hT0, hB4, hB8, hO, rfl⟩
    have hb := hac v
    refine W_seq ?_
    refine W_seq ?_
    refine W_region (by kernel_rfl) ?_
    refine seg2 (ρ' := upd (upd (updL ρ [(1, .pointer (some ⟨w.heap.size, 0, none⟩)), (2, .pointer (some ⟨w1.heap.size, 0, none⟩)), (3, l), (4, .int .i64 ((v : Nat) : Int))]) 5 (.int .i64 ((v : Nat) : Int))) 6 (.pointer (some ⟨w.heap.size, 0, none⟩))) (by kernel_rfl) ?_
    refine st (by rfl) (S_val (v := .slice A n ca) (R_load (v := .slice A n ca) (by kernel_rfl) (by kernel_rfl) ((hB4.cell 0).trans rfl)) ?_)
    refine seg2 (ρ' := upd (upd (upd (upd (upd (updL ρ [(1, .pointer (some ⟨w.heap.size, 0, none⟩)), (2, .pointer (some ⟨w1.heap.size, 0, none⟩)), (3, l), (4, .int .i64 ((v : Nat) : Int))]) 5 (.int .i64 ((v : Nat) : Int))) 6 (.pointer (some ⟨w.heap.size, 0, none⟩))) 7 (.slice A n ca)) 8 (.int .i64 (n : Int))) 9 (.bool (decide (((v : Nat) : Int) < (n : Int))))) (by kernel_rfl) ?_
    refine op_nil ?_
    refine W_cond (decide (((v : Nat) : Int) < (n : Int))) (by kernel_rfl) (by kernel_rfl) (fun hc10 => ?_) (fun hc10 => ?_)
    · replace hc10 : ((v : Nat) : Int) < (n : Int) := (of_decide_eq_true hc10)
      refine W_skip ?_
      refine W_seq ?_
      refine W_block ?_
      refine W_region (by kernel_rfl) ?_
      refine seg2 (ρ' := upd (upd (upd (upd (upd (upd (upd (updL ρ [(1, .pointer (some ⟨w.heap.size, 0, none⟩)), (2, .pointer (some ⟨w1.heap.size, 0, none⟩)), (3, l), (4, .int .i64 ((v : Nat) : Int))]) 5 (.int .i64 ((v : Nat) : Int))) 6 (.pointer (some ⟨w.heap.size, 0, none⟩))) 7 (.slice A n ca)) 8 (.int .i64 (n : Int))) 9 (.bool (decide (((v : Nat) : Int) < (n : Int))))) 12 (l)) 13 (.pointer (some ⟨w.heap.size, 0, none⟩))) (by kernel_rfl) ?_
      refine st (by rfl) (S_val (v := .slice A n ca) (R_load (v := .slice A n ca) (by kernel_rfl) (by kernel_rfl) ((hB4.cell 0).trans rfl)) ?_)
      refine seg1 (ρ' := upd (upd (upd (upd (upd (upd (upd (upd (upd (updL ρ [(1, .pointer (some ⟨w.heap.size, 0, none⟩)), (2, .pointer (some ⟨w1.heap.size, 0, none⟩)), (3, l), (4, .int .i64 ((v : Nat) : Int))]) 5 (.int .i64 ((v : Nat) : Int))) 6 (.pointer (some ⟨w.heap.size, 0, none⟩))) 7 (.slice A n ca)) 8 (.int .i64 (n : Int))) 9 (.bool (decide (((v : Nat) : Int) < (n : Int))))) 12 (l)) 13 (.pointer (some ⟨w.heap.size, 0, none⟩))) 14 (.slice A n ca)) 15 (.int .i64 ((v : Nat) : Int))) (by kernel_rfl) ?_
      refine stv (v := ptrAt A v) (by rfl) (R_indexRd1 (len := n) (cap := ca) (k := .i64) (i := ((v : Nat) : Int)) (e := 3) v (hA.tch0 hT0) (by kernel_rfl) (by kernel_rfl) (by kernel_rfl) (by kernel_rfl) rfl (by omega)) ?_
      refine stv (v := .int .i64 (ac.getD v 0)) (by rfl) (R_loadRd (v := .int .i64 (ac.getD v 0)) (hA.tch0 hT0) (by omega) (by kernel_rfl) (by kernel_rfl) (ints_at .i64 ac (by omega))) ?_
      refine seg1 (ρ' := upd (upd (upd (upd (upd (upd (upd (upd (upd (upd (upd (upd (updL ρ [(1, .pointer (some ⟨w.heap.size, 0, none⟩)), (2, .pointer (some ⟨w1.heap.size, 0, none⟩)), (3, l), (4, .int .i64 ((v : Nat) : Int))]) 5 (.int .i64 ((v : Nat) : Int))) 6 (.pointer (some ⟨w.heap.size, 0, none⟩))) 7 (.slice A n ca)) 8 (.int .i64 (n : Int))) 9 (.bool (decide (((v : Nat) : Int) < (n : Int))))) 12 (l)) 13 (.pointer (some ⟨w.heap.size, 0, none⟩))) 14 (.slice A n ca)) 15 (.int .i64 ((v : Nat) : Int))) 16 (ptrAt A v)) 17 (.int .i64 (ac.getD v 0))) 18 (.int .i64 (IntKind.i64.wrap ((ac.getD v 0).tdiv 2)))) (by kernel_rfl) ?_
      rw [show IntKind.i64.wrap ((ac.getD v 0).tdiv 2) = (ac.getD v 0) / 2 from by rw [Int.tdiv_eq_ediv_of_nonneg (by omega)]; exact wrap_i64 (by omega) (by omega)]
      refine st (by rfl) (S_new (v := .slice (some ⟨w9.heap.size, 0, none⟩) 1 1) (ob := .cells #[.int .i64 ((ac.getD v 0) / 2)] 3) (by kernel_rfl) fun w11 hT12 hs13 hB14 => ?_)
      replace hB14 : Blk w11 (w9.heap.size) 3 [.int .i64 ((ac.getD v 0) / 2)] := hB14
      have hT0 := hT0.t0 hT12
      have hB4 := hB4.tch0 hT12
      have hB8 := hB8.tch0 hT12
      have hO := hO.tch0 hT12
      refine st (by rfl) (S_append 26 3 (.int .i64 0) 1 8 (base := w.heap.size) (n := v) (m := 1) (v := l) (cells := ints .i64 ((HeapP.halveL ac).take v)) (news := [.int .i64 ((ac.getD v 0) / 2)]) (b := w9.heap.size) (off := 0) (c := 1) (by kernel_rfl) (by kernel_rfl) (by decide) (by kernel_rfl) (by kernel_rfl) (by kernel_rfl) hO (by rfl) (fun k u hk => by rw [Nat.zero_add, hB14.cell]; exact hk) (by simp [oneV]) (by simp only [maxLen]; omega) (by omega) (hT0.size) fun v15 w16 hO' hT17 => ?_)
      have hT0 := (hT0).then hT17 hO.base_le
      have hB4 := hB4.tch hT17 (fun e => hO.blk_ne hB4 (by decide) _ e rfl)
      have hB8 := hB8.tch hT17 (fun e => hO.blk_ne hB8 (by decide) _ e rfl)
      have hO := hO'
      refine seg1 (ρ' := upd (upd (upd (upd (upd (upd (upd (upd (upd (upd (upd (upd (upd (upd (upd (updL ρ [(1, .pointer (some ⟨w.heap.size, 0, none⟩)), (2, .pointer (some ⟨w1.heap.size, 0, none⟩)), (3, l), (4, .int .i64 ((v : Nat) : Int))]) 5 (.int .i64 ((v : Nat) : Int))) 6 (.pointer (some ⟨w.heap.size, 0, none⟩))) 7 (.slice A n ca)) 8 (.int .i64 (n : Int))) 9 (.bool (decide (((v : Nat) : Int) < (n : Int))))) 12 (l)) 13 (.pointer (some ⟨w.heap.size, 0, none⟩))) 14 (.slice A n ca)) 15 (.int .i64 ((v : Nat) : Int))) 16 (ptrAt A v)) 17 (.int .i64 (ac.getD v 0))) 18 (.int .i64 ((ac.getD v 0) / 2))) 19 (.slice (some ⟨w9.heap.size, 0, none⟩) 1 1)) 20 (v15)) 3 (v15)) (by kernel_rfl) ?_
      refine op_nil ?_
      refine W_fg [(1, .pointer (some ⟨w.heap.size, 0, none⟩)), (2, .pointer (some ⟨w1.heap.size, 0, none⟩)), (3, v15), (4, .int .i64 ((v : Nat) : Int)), (9, .bool (decide (((v : Nat) : Int) < (n : Int))))] (by kernel_rfl) fun ρ => ?_
      refine W_region (by kernel_rfl) ?_
      refine seg2 (ρ' := upd (upd (updL ρ [(1, .pointer (some ⟨w.heap.size, 0, none⟩)), (2, .pointer (some ⟨w1.heap.size, 0, none⟩)), (3, v15), (4, .int .i64 ((v : Nat) : Int)), (9, .bool (decide (((v : Nat) : Int) < (n : Int))))]) 10 (.int .i64 ((v : Nat) : Int))) 11 (.int .i64 (IntKind.i64.wrap (((v : Nat) : Int) + 1)))) (by kernel_rfl) ?_
      rw [show IntKind.i64.wrap (((v : Nat) : Int) + 1) = ((v : Nat) : Int) + 1 from wrap_i64 (by omega) (by omega)]
      rw [show upd (upd (updL ρ [(1, .pointer (some ⟨w.heap.size, 0, none⟩)), (2, .pointer (some ⟨w1.heap.size, 0, none⟩)), (3, v15), (4, .int .i64 ((v : Nat) : Int)), (9, .bool (decide (((v : Nat) : Int) < (n : Int))))]) 10 (.int .i64 ((v : Nat) : Int))) 11 (.int .i64 (((v : Nat) : Int) + 1)) = upd (upd (updL ρ [(1, .pointer (some ⟨w.heap.size, 0, none⟩)), (2, .pointer (some ⟨w1.heap.size, 0, none⟩)), (3, v15), (4, .int .i64 ((v : Nat) : Int)), (9, .bool (decide (((v : Nat) : Int) < (n : Int))))]) 10 (.int .i64 ((v : Nat) : Int))) 11 (.int .i64 ((v + 1 : Nat) : Int)) from congrArg (fun z => upd (upd (updL ρ [(1, .pointer (some ⟨w.heap.size, 0, none⟩)), (2, .pointer (some ⟨w1.heap.size, 0, none⟩)), (3, v15), (4, .int .i64 ((v : Nat) : Int)), (9, .bool (decide (((v : Nat) : Int) < (n : Int))))]) 10 (.int .i64 ((v : Nat) : Int))) 11 (.int .i64 z)) (by omega)]
      refine seg1 (ρ' := upd (upd (upd (updL ρ [(1, .pointer (some ⟨w.heap.size, 0, none⟩)), (2, .pointer (some ⟨w1.heap.size, 0, none⟩)), (3, v15), (4, .int .i64 ((v : Nat) : Int)), (9, .bool (decide (((v : Nat) : Int) < (n : Int))))]) 10 (.int .i64 ((v : Nat) : Int))) 11 (.int .i64 ((v + 1 : Nat) : Int))) 4 (.int .i64 ((v + 1 : Nat) : Int))) (by kernel_rfl) ?_
      refine op_nil ?_
      refine ⟨_, ?_, v15, v + 1, _, updL_self (by kernel_rfl), ?_, hT0, hB4, hB8, ?_, rfl⟩
      · omega
      · omega
      · rw [half_snoc (by omega)] at hO; exact hO
    · replace hc10 : (n : Int) ≤ ((v : Nat) : Int) := (Int.not_lt.1 (of_decide_eq_false hc10))
      refine W_exit ?_
      refine X_hit ?_
      refine W_seq ?_
      rw [show v = n by omega, half_full la] at hO
      obtain ⟨A2, c2, rfl, hrd⟩ := hO.rd
      refine W_region (by kernel_rfl) ?_
      refine seg2 (ρ' := upd (upd (upd (upd (upd (upd (upd (updL ρ [(1, .pointer (some ⟨w.heap.size, 0, none⟩)), (2, .pointer (some ⟨w1.heap.size, 0, none⟩)), (3, .slice A2 n c2), (4, .int .i64 ((v : Nat) : Int))]) 5 (.int .i64 ((v : Nat) : Int))) 6 (.pointer (some ⟨w.heap.size, 0, none⟩))) 7 (.slice A n ca)) 8 (.int .i64 (n : Int))) 9 (.bool (decide (((v : Nat) : Int) < (n : Int))))) 21 (.slice A2 n c2)) 22 (.pointer (some ⟨w.heap.size, 0, none⟩))) (by kernel_rfl) ?_
      refine st (by rfl) (S_store (b := w.heap.size) (j := 0) (v := .slice A2 n c2) (by kernel_rfl) (by kernel_rfl) (by kernel_rfl) (by rfl) hB4 (by simp) fun w18 hT19 hs20 hB4' => ?_)
      have hT0 := (hT0).then hT19 (fun c e => by have : c = w.heap.size := e; omega)
      have hB8 := hB8.tch hT19 (fun e => by have : w1.heap.size = w.heap.size := e; omega)
      have hO := hO.tch hT19 (fun c hc e => hO.blk_ne hB4 (by decide) c hc e)
      replace hB4 : Blk w18 w.heap.size 35 [.slice A2 n c2, .slice B n cb] := hB4'
      refine op_nil ?_
      refine W_seq ?_
      refine W_region (by kernel_rfl) ?_
      refine st (by rfl) (S_val (v := .agg #[.slice A2 n c2, .slice B n cb]) (R_loadA [.slice A2 n c2, .slice B n cb] (by kernel_rfl) (by kernel_rfl) (by kernel_rfl) (fun k u hk => by rw [hB4.cell]; exact get_part _ 0 _ k u rfl hk)) ?_)
      refine st (by rfl) (S_storeA (b := w1.heap.size) (j := 0) (cs := [.slice A2 n c2, .slice B n cb]) (by kernel_rfl) (by kernel_rfl) (by kernel_rfl) (by simp [oneV]) hB8 (by simp) fun w21 hT22 hs23 hB8' => ?_)
      have hT0 := (hT0).then hT22 (fun c e => by have : c = w1.heap.size := e; omega)
      have hB4 := hB4.tch hT22 (fun e => by have : w.heap.size = w1.heap.size := e; omega)
      have hO := hO.tch hT22 (fun c hc e => hO.blk_ne hB8 (by decide) c hc e)
      replace hB8 : Blk w21 w1.heap.size 35 [.slice A2 n c2, .slice B n cb] := hB8'
      refine op_nil ?_
      refine W_ret ?_
      exact ⟨_, Res_cell (b := w1.heap.size) (cs := [.slice A2 n c2, .slice B n cb]) (by rfl) (by kernel_rfl) (by kernel_rfl) hB8 (by kernel_rfl) (by kernel_rfl), ⟨_, _, rfl, hO, hT0⟩⟩

end Go.Proofs.YthfjceemphhgcaaV
