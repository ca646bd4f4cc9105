/- Walks of functions of the program and of the document's texts: each call returns what the plain function says, and turns nothing that lay. The conditions stand with each theorem. -/
import Derived.Test.YthfjceemphhgcaaProg
import Derived.Test.YthfjceemphhgcaaVx2
import Derived.Test.YthfjceemphhgcaaO7
set_option linter.unusedVariables false
set_option linter.unusedSimpArgs false
namespace Go.Proofs.YthfjceemphhgcaaV
open Go Go.RowKit Go.Proofs

set_option maxRecDepth 100000 in
theorem new_in (u : Nat) (w : World) (hm : u ≤ 1048576) : Ret Try.prog 16 [.int .i64 ((u : Nat) : Int)] w fun v w' => ∃ F p, v = .pointer (some ⟨p, 0, none⟩) ∧ Ord F w' p u [] (List.replicate u 0) ∧ Tch N0 w w' ∧ ∀ b, F b → w.heap.size ≤ b := by
  refine enter Try.func16 rfl rfl ?_
  refine W_seq ?_
  refine W_region (by kernel_rfl) ?_
  refine seg1 (ρ' := upd (ini [.int .i64 ((u : Nat) : Int)]) 2 (.pointer none)) (by kernel_rfl) ?_
  refine op_nil ?_
  refine W_seq ?_
  refine W_seq ?_
  refine W_region (by kernel_rfl) ?_
  refine seg3 (ρ' := upd (upd (upd (upd (ini [.int .i64 ((u : Nat) : Int)]) 2 (.pointer none)) 5 (.int .i64 ((u : Nat) : Int))) 6 (.bool (decide (((u : Nat) : Int) < 0)))) 7 (.bool (decide (((u : Nat) : Int) < 0)))) (by kernel_rfl) ?_
  cases hb1 : decide (((u : Nat) : Int) < 0)
  · replace hb1 : 0 ≤ ((u : Nat) : Int) := (Int.not_lt.1 (of_decide_eq_false hb1))
    refine seg3 (ρ' := upd (upd (upd (upd (upd (upd (upd (ini [.int .i64 ((u : Nat) : Int)]) 2 (.pointer none)) 5 (.int .i64 ((u : Nat) : Int))) 6 (.bool false)) 7 (.bool false)) 8 (.int .i64 ((u : Nat) : Int))) 9 (.bool (decide (((u : Nat) : Int) > 1048576)))) 10 (.bool (decide (((u : Nat) : Int) > 1048576)))) (by kernel_rfl) ?_
    refine op_nil ?_
    refine W_cond (decide (((u : Nat) : Int) > 1048576)) (by kernel_rfl) (by kernel_rfl) (fun hc2 => ?_) (fun hc2 => ?_)
    · replace hc2 : 1048576 < ((u : Nat) : Int) := (of_decide_eq_true hc2)
      exfalso; omega
    · replace hc2 : ((u : Nat) : Int) ≤ 1048576 := (Int.not_lt.1 (of_decide_eq_false hc2))
      refine W_skip ?_
      refine W_seq ?_
      refine W_draw (fun w' => True) (by kernel_rfl) (by kernel_rfl) (by kernel_rfl) fun w3 hT4 hh5 => ?_
      have hT0 := hT4
      refine d_takes [0, 2] (listed' := #[true, false, true, false, false, false, false]) (ρ' := upd (upd (upd (upd (upd (upd (upd (upd (upd (ini [.int .i64 ((u : Nat) : Int)]) 2 (.pointer none)) 5 (.int .i64 ((u : Nat) : Int))) 6 (.bool false)) 7 (.bool false)) 8 (.int .i64 ((u : Nat) : Int))) 9 (.bool (decide (((u : Nat) : Int) > 1048576)))) 10 (.bool (decide (((u : Nat) : Int) > 1048576)))) 11 (.int .i64 ((u : Nat) : Int))) 13 (.int .i64 ((u : Nat) : Int))) trivial (by kernel_rfl) ?_
      refine d_two 1 3 (by kernel_rfl) (by rfl) (by rfl) (by kernel_rfl) (by kernel_rfl) ?_ ?_
      · refine (S_make 26 3 (.int .i64 0) 1 8 (k1 := .i64) (k2 := .i64) (l := ((u : Nat) : Int)) (c := ((u : Nat) : Int)) (by kernel_rfl) (by kernel_rfl) (by kernel_rfl) (by kernel_rfl) (by omega) (by omega) (by omega) (by omega) fun w6 hT7 hs8 hB9 => ?_)
        have hT0 := hT0.t0 hT7
        rw [madeOne _ rfl] at hB9
        rw [Nat.mul_one] at hB9
        replace hB9 : Blk w6 (w3.heap.size) 3 (ints .i64 (List.replicate u (0 : Int))) := by simpa [ints, boolsV] using hB9
        refine ⟨trivial, ?_⟩
        refine d_one 3 (by kernel_rfl) (by rfl) (by kernel_rfl) (S_make 26 3 (.int .i64 0) 1 8 (k1 := .i64) (k2 := .i64) (l := ((u : Nat) : Int)) (c := ((u : Nat) : Int)) (by kernel_rfl) (by kernel_rfl) (by kernel_rfl) (by kernel_rfl) (by omega) (by omega) (by omega) (by omega) fun w10 hT11 hs12 hB13 => ?_)
        have hT0 := hT0.t0 hT11
        have hB9 := hB9.tch0 hT11
        rw [madeOne _ rfl] at hB13
        rw [Nat.mul_one] at hB13
        replace hB13 : Blk w10 (w6.heap.size) 3 (ints .i64 (List.replicate u (0 : Int))) := by simpa [ints, boolsV] using hB13
        refine ⟨trivial, ?_⟩
        refine d_takes [4] (listed' := #[true, true, true, true, true, false, false]) (ρ' := upd (upd (upd (upd (upd (upd (upd (upd (upd (upd (upd (upd (ini [.int .i64 ((u : Nat) : Int)]) 2 (.pointer none)) 5 (.int .i64 ((u : Nat) : Int))) 6 (.bool false)) 7 (.bool false)) 8 (.int .i64 ((u : Nat) : Int))) 9 (.bool (decide (((u : Nat) : Int) > 1048576)))) 10 (.bool (decide (((u : Nat) : Int) > 1048576)))) 11 (.int .i64 ((u : Nat) : Int))) 13 (.int .i64 ((u : Nat) : Int))) 12 (.slice (some ⟨w3.heap.size, 0, none⟩) u u)) 14 (.slice (some ⟨w6.heap.size, 0, none⟩) u u)) 15 (.agg #[.slice none 0 0, .slice (some ⟨w3.heap.size, 0, none⟩) u u, .slice (some ⟨w6.heap.size, 0, none⟩) u u])) trivial (by kernel_rfl) ?_
        refine d_one 5 (by kernel_rfl) (by rfl) (by kernel_rfl) (S_new (v := .pointer (some ⟨w10.heap.size, 0, none⟩)) (ob := .cells #[.slice none 0 0, .slice (some ⟨w3.heap.size, 0, none⟩) u u, .slice (some ⟨w6.heap.size, 0, none⟩) u u] 53) (by kernel_rfl) fun w14 hT15 hs16 hB17 => ?_)
        replace hB17 : Blk w14 (w10.heap.size) 53 [.slice none 0 0, .slice (some ⟨w3.heap.size, 0, none⟩) u u, .slice (some ⟨w6.heap.size, 0, none⟩) u u] := hB17
        have hT0 := hT0.t0 hT15
        have hB9 := hB9.tch0 hT15
        have hB13 := hB13.tch0 hT15
        refine ⟨trivial, ?_⟩
        refine d_takes [6] (listed' := #[true, true, true, true, true, true, true]) (ρ' := upd (upd (upd (upd (upd (upd (upd (upd (upd (upd (upd (upd (upd (upd (ini [.int .i64 ((u : Nat) : Int)]) 2 (.pointer none)) 5 (.int .i64 ((u : Nat) : Int))) 6 (.bool false)) 7 (.bool false)) 8 (.int .i64 ((u : Nat) : Int))) 9 (.bool (decide (((u : Nat) : Int) > 1048576)))) 10 (.bool (decide (((u : Nat) : Int) > 1048576)))) 11 (.int .i64 ((u : Nat) : Int))) 13 (.int .i64 ((u : Nat) : Int))) 12 (.slice (some ⟨w3.heap.size, 0, none⟩) u u)) 14 (.slice (some ⟨w6.heap.size, 0, none⟩) u u)) 15 (.agg #[.slice none 0 0, .slice (some ⟨w3.heap.size, 0, none⟩) u u, .slice (some ⟨w6.heap.size, 0, none⟩) u u])) 16 (.pointer (some ⟨w10.heap.size, 0, none⟩))) 3 (.pointer (some ⟨w10.heap.size, 0, none⟩))) trivial (by kernel_rfl) ?_
        refine d_done (by kernel_rfl) ?_
        refine W_seq ?_
        refine W_seq ?_
        have hT := hB9
        have hC := hB13
        have hP := hB17
        have n2 : w10.heap.size ≠ w3.heap.size := hP.ne hT (by decide)
        have n3 : w10.heap.size ≠ w6.heap.size := hP.ne hC (by decide)
        have n6 : w3.heap.size ≠ w6.heap.size := by omega
        have q1 : w.heap.size ≤ w10.heap.size := (show Tch N0 w w10 from by assumption).size
        have q2 : w.heap.size ≤ w3.heap.size := (show Tch N0 w w3 from by assumption).size
        have q3 : w.heap.size ≤ w6.heap.size := (show Tch N0 w w6 from by assumption).size
        refine W_region (by kernel_rfl) ?_
        refine seg3 (ρ' := upd (upd (upd (upd (upd (upd (upd (upd (upd (upd (upd (upd (upd (upd (upd (upd (upd (ini [.int .i64 ((u : Nat) : Int)]) 2 (.pointer none)) 5 (.int .i64 ((u : Nat) : Int))) 6 (.bool false)) 7 (.bool false)) 8 (.int .i64 ((u : Nat) : Int))) 9 (.bool (decide (((u : Nat) : Int) > 1048576)))) 10 (.bool (decide (((u : Nat) : Int) > 1048576)))) 11 (.int .i64 ((u : Nat) : Int))) 13 (.int .i64 ((u : Nat) : Int))) 12 (.slice (some ⟨w3.heap.size, 0, none⟩) u u)) 14 (.slice (some ⟨w6.heap.size, 0, none⟩) u u)) 15 (.agg #[.slice none 0 0, .slice (some ⟨w3.heap.size, 0, none⟩) u u, .slice (some ⟨w6.heap.size, 0, none⟩) u u])) 16 (.pointer (some ⟨w10.heap.size, 0, none⟩))) 3 (.pointer (some ⟨w10.heap.size, 0, none⟩))) 17 (.pointer (some ⟨w10.heap.size, 0, none⟩))) 18 (.pointer (some ⟨w10.heap.size, 0, none⟩))) 19 (.pointer (some ⟨w10.heap.size, 1, none⟩))) (by kernel_rfl) ?_
        refine st (by rfl) (S_val (v := .slice (some ⟨w3.heap.size, 0, none⟩) u u) (R_load (v := .slice (some ⟨w3.heap.size, 0, none⟩) u u) (by kernel_rfl) (by kernel_rfl) ((hP.cell 1).trans rfl)) ?_)
        refine seg2 (ρ' := upd (upd (upd (upd (upd (upd (upd (upd (upd (upd (upd (upd (upd (upd (upd (upd (upd (upd (upd (upd (ini [.int .i64 ((u : Nat) : Int)]) 2 (.pointer none)) 5 (.int .i64 ((u : Nat) : Int))) 6 (.bool false)) 7 (.bool false)) 8 (.int .i64 ((u : Nat) : Int))) 9 (.bool (decide (((u : Nat) : Int) > 1048576)))) 10 (.bool (decide (((u : Nat) : Int) > 1048576)))) 11 (.int .i64 ((u : Nat) : Int))) 13 (.int .i64 ((u : Nat) : Int))) 12 (.slice (some ⟨w3.heap.size, 0, none⟩) u u)) 14 (.slice (some ⟨w6.heap.size, 0, none⟩) u u)) 15 (.agg #[.slice none 0 0, .slice (some ⟨w3.heap.size, 0, none⟩) u u, .slice (some ⟨w6.heap.size, 0, none⟩) u u])) 16 (.pointer (some ⟨w10.heap.size, 0, none⟩))) 3 (.pointer (some ⟨w10.heap.size, 0, none⟩))) 17 (.pointer (some ⟨w10.heap.size, 0, none⟩))) 18 (.pointer (some ⟨w10.heap.size, 0, none⟩))) 19 (.pointer (some ⟨w10.heap.size, 1, none⟩))) 20 (.slice (some ⟨w3.heap.size, 0, none⟩) u u)) 21 (.int .i64 (u : Int))) 22 (.int .i64 0)) (by kernel_rfl) ?_
        refine op_nil ?_
        refine W_block ?_
        refine W_loop (fun m ρ w' => ∃ (at2 : List Int) (v : Nat) (ρ0 : Env), ρ = updL ρ0 [(3, .pointer (some ⟨w10.heap.size, 0, none⟩)), (21, .int .i64 ((u : Nat) : Int)), (22, .int .i64 ((v : Nat) : Int))] ∧ (at2.length = u) ∧ (∀ j, j < v → j < u → at2.getD j 0 = -1) ∧ (v ≤ u) ∧ Tch N0 w w' ∧ Blk w' (w10.heap.size) 53 [.slice none 0 0, .slice (some ⟨w3.heap.size, 0, none⟩) u u, .slice (some ⟨w6.heap.size, 0, none⟩) u u] ∧ Blk w' (w3.heap.size) 3 (ints .i64 at2) ∧ Blk w' (w6.heap.size) 3 (ints .i64 (List.replicate u (0 : Int))) ∧ m = u - v) (m := u - 0) ?_ ?_
        · refine ⟨List.replicate u 0, 0, _, updL_self (by kernel_rfl), by simp, by intro j h; omega, by omega, hT0, hP, hT, hC, rfl⟩
        · rintro m ρ w18 ⟨at2, v, ρ, rfl, h1, h2, h3, hT0, hP, hT, hC, rfl⟩
          refine W_seq ?_
          refine W_region (by kernel_rfl) ?_
          refine seg1 (ρ' := upd (updL ρ [(3, .pointer (some ⟨w10.heap.size, 0, none⟩)), (21, .int .i64 ((u : Nat) : Int)), (22, .int .i64 ((v : Nat) : Int))]) 23 (.bool (decide (((v : Nat) : Int) < ((u : Nat) : Int))))) (by kernel_rfl) ?_
          refine op_nil ?_
          refine W_seq ?_
          refine W_cond (decide (((v : Nat) : Int) < ((u : Nat) : Int))) (by kernel_rfl) (by kernel_rfl) (fun hc19 => ?_) (fun hc19 => ?_)
          · replace hc19 : ((v : Nat) : Int) < ((u : Nat) : Int) := (of_decide_eq_true hc19)
            refine W_skip ?_
            refine W_seq ?_
            refine W_block ?_
            refine W_seq ?_
            refine W_region (by kernel_rfl) ?_
            refine seg2 (ρ' := upd (upd (upd (updL ρ [(3, .pointer (some ⟨w10.heap.size, 0, none⟩)), (21, .int .i64 ((u : Nat) : Int)), (22, .int .i64 ((v : Nat) : Int))]) 23 (.bool (decide (((v : Nat) : Int) < ((u : Nat) : Int))))) 24 (.int .i64 ((v : Nat) : Int))) 4 (.int .i64 ((v : Nat) : Int))) (by kernel_rfl) ?_
            refine op_nil ?_
            refine W_region (by kernel_rfl) ?_
            refine seg3 (ρ' := upd (upd (upd (upd (upd (upd (updL ρ [(3, .pointer (some ⟨w10.heap.size, 0, none⟩)), (21, .int .i64 ((u : Nat) : Int)), (22, .int .i64 ((v : Nat) : Int))]) 23 (.bool (decide (((v : Nat) : Int) < ((u : Nat) : Int))))) 24 (.int .i64 ((v : Nat) : Int))) 4 (.int .i64 ((v : Nat) : Int))) 25 (.pointer (some ⟨w10.heap.size, 0, none⟩))) 26 (.pointer (some ⟨w10.heap.size, 0, none⟩))) 27 (.pointer (some ⟨w10.heap.size, 1, none⟩))) (by kernel_rfl) ?_
            refine st (by rfl) (S_val (v := .slice (some ⟨w3.heap.size, 0, none⟩) u u) (R_load (v := .slice (some ⟨w3.heap.size, 0, none⟩) u u) (by kernel_rfl) (by kernel_rfl) ((hP.cell 1).trans rfl)) ?_)
            refine seg1 (ρ' := upd (upd (upd (upd (upd (upd (upd (upd (updL ρ [(3, .pointer (some ⟨w10.heap.size, 0, none⟩)), (21, .int .i64 ((u : Nat) : Int)), (22, .int .i64 ((v : Nat) : Int))]) 23 (.bool (decide (((v : Nat) : Int) < ((u : Nat) : Int))))) 24 (.int .i64 ((v : Nat) : Int))) 4 (.int .i64 ((v : Nat) : Int))) 25 (.pointer (some ⟨w10.heap.size, 0, none⟩))) 26 (.pointer (some ⟨w10.heap.size, 0, none⟩))) 27 (.pointer (some ⟨w10.heap.size, 1, none⟩))) 28 (.slice (some ⟨w3.heap.size, 0, none⟩) u u)) 29 (.int .i64 ((v : Nat) : Int))) (by kernel_rfl) ?_
            refine stv (v := .pointer (some ⟨w3.heap.size, v, none⟩)) (by rfl) (R_index0 (b := w3.heap.size) (len := u) (cap := u) (k := .i64) (i := ((v : Nat) : Int)) (e := 3) v (by kernel_rfl) (by kernel_rfl) (by kernel_rfl) (by kernel_rfl) rfl (by first | omega | (simp only [List.length_set, List.length_map]; omega))) ?_
            refine st (by rfl) (S_store (b := w3.heap.size) (j := v) (v := .int .i64 (-1)) (by kernel_rfl) (by kernel_rfl) (by kernel_rfl) (by rfl) hT (by rw [ints_length]; first | omega | (simp only [List.length_set, List.length_map]; omega)) fun w20 hT21 hs22 hT' => ?_)
            have hT0 := (hT0).then hT21 (fun c e => by have : c = w3.heap.size := e; omega)
            have hP := hP.tch hT21 (fun e => by have : w10.heap.size = w3.heap.size := e; omega)
            have hC := hC.tch hT21 (fun e => by have : w6.heap.size = w3.heap.size := e; omega)
            replace hT : Blk w20 (w3.heap.size) 3 (ints .i64 (at2.set v (-1))) := by rw [← ints_set]; exact hT'
            refine op_nil ?_
            refine W_region (by kernel_rfl) ?_
            refine seg1 (ρ' := upd (upd (upd (upd (upd (upd (upd (upd (upd (upd (updL ρ [(3, .pointer (some ⟨w10.heap.size, 0, none⟩)), (21, .int .i64 ((u : Nat) : Int)), (22, .int .i64 ((v : Nat) : Int))]) 23 (.bool (decide (((v : Nat) : Int) < ((u : Nat) : Int))))) 24 (.int .i64 ((v : Nat) : Int))) 4 (.int .i64 ((v : Nat) : Int))) 25 (.pointer (some ⟨w10.heap.size, 0, none⟩))) 26 (.pointer (some ⟨w10.heap.size, 0, none⟩))) 27 (.pointer (some ⟨w10.heap.size, 1, none⟩))) 28 (.slice (some ⟨w3.heap.size, 0, none⟩) u u)) 29 (.int .i64 ((v : Nat) : Int))) 30 (.pointer (some ⟨w3.heap.size, v, none⟩))) 31 (.int .i64 (IntKind.i64.wrap (((v : Nat) : Int) + 1)))) (by kernel_rfl) ?_
            rw [show IntKind.i64.wrap (((v : Nat) : Int) + 1) = ((v : Nat) : Int) + 1 from wrap_i64 (by omega) (by omega)]
            rw [show upd (upd (upd (upd (upd (upd (upd (upd (upd (upd (updL ρ [(3, .pointer (some ⟨w10.heap.size, 0, none⟩)), (21, .int .i64 ((u : Nat) : Int)), (22, .int .i64 ((v : Nat) : Int))]) 23 (.bool (decide (((v : Nat) : Int) < ((u : Nat) : Int))))) 24 (.int .i64 ((v : Nat) : Int))) 4 (.int .i64 ((v : Nat) : Int))) 25 (.pointer (some ⟨w10.heap.size, 0, none⟩))) 26 (.pointer (some ⟨w10.heap.size, 0, none⟩))) 27 (.pointer (some ⟨w10.heap.size, 1, none⟩))) 28 (.slice (some ⟨w3.heap.size, 0, none⟩) u u)) 29 (.int .i64 ((v : Nat) : Int))) 30 (.pointer (some ⟨w3.heap.size, v, none⟩))) 31 (.int .i64 (((v : Nat) : Int) + 1)) = upd (upd (upd (upd (upd (upd (upd (upd (upd (upd (updL ρ [(3, .pointer (some ⟨w10.heap.size, 0, none⟩)), (21, .int .i64 ((u : Nat) : Int)), (22, .int .i64 ((v : Nat) : Int))]) 23 (.bool (decide (((v : Nat) : Int) < ((u : Nat) : Int))))) 24 (.int .i64 ((v : Nat) : Int))) 4 (.int .i64 ((v : Nat) : Int))) 25 (.pointer (some ⟨w10.heap.size, 0, none⟩))) 26 (.pointer (some ⟨w10.heap.size, 0, none⟩))) 27 (.pointer (some ⟨w10.heap.size, 1, none⟩))) 28 (.slice (some ⟨w3.heap.size, 0, none⟩) u u)) 29 (.int .i64 ((v : Nat) : Int))) 30 (.pointer (some ⟨w3.heap.size, v, none⟩))) 31 (.int .i64 ((v + 1 : Nat) : Int)) from congrArg (fun z => upd (upd (upd (upd (upd (upd (upd (upd (upd (upd (updL ρ [(3, .pointer (some ⟨w10.heap.size, 0, none⟩)), (21, .int .i64 ((u : Nat) : Int)), (22, .int .i64 ((v : Nat) : Int))]) 23 (.bool (decide (((v : Nat) : Int) < ((u : Nat) : Int))))) 24 (.int .i64 ((v : Nat) : Int))) 4 (.int .i64 ((v : Nat) : Int))) 25 (.pointer (some ⟨w10.heap.size, 0, none⟩))) 26 (.pointer (some ⟨w10.heap.size, 0, none⟩))) 27 (.pointer (some ⟨w10.heap.size, 1, none⟩))) 28 (.slice (some ⟨w3.heap.size, 0, none⟩) u u)) 29 (.int .i64 ((v : Nat) : Int))) 30 (.pointer (some ⟨w3.heap.size, v, none⟩))) 31 (.int .i64 z)) (by omega)]
            refine seg1 (ρ' := upd (upd (upd (upd (upd (upd (upd (upd (upd (upd (upd (updL ρ [(3, .pointer (some ⟨w10.heap.size, 0, none⟩)), (21, .int .i64 ((u : Nat) : Int)), (22, .int .i64 ((v : Nat) : Int))]) 23 (.bool (decide (((v : Nat) : Int) < ((u : Nat) : Int))))) 24 (.int .i64 ((v : Nat) : Int))) 4 (.int .i64 ((v : Nat) : Int))) 25 (.pointer (some ⟨w10.heap.size, 0, none⟩))) 26 (.pointer (some ⟨w10.heap.size, 0, none⟩))) 27 (.pointer (some ⟨w10.heap.size, 1, none⟩))) 28 (.slice (some ⟨w3.heap.size, 0, none⟩) u u)) 29 (.int .i64 ((v : Nat) : Int))) 30 (.pointer (some ⟨w3.heap.size, v, none⟩))) 31 (.int .i64 ((v + 1 : Nat) : Int))) 22 (.int .i64 ((v + 1 : Nat) : Int))) (by kernel_rfl) ?_
            refine op_nil ?_
            refine ⟨_, ?_, at2.set v (-1), v + 1, _, updL_self (by kernel_rfl), ?_, ?_, ?_, hT0, hP, hT, hC, rfl⟩
            · omega
            · rw [List.length_set]; exact h1
            · exact HeapP.new_step h1 (by omega) h2
            · omega
          · replace hc19 : ((u : Nat) : Int) ≤ ((v : Nat) : Int) := (Int.not_lt.1 (of_decide_eq_false hc19))
            refine W_exit ?_
            refine X_hit ?_
            refine W_seq ?_
            refine W_region (by kernel_rfl) ?_
            refine seg2 (ρ' := upd (upd (upd (updL ρ [(3, .pointer (some ⟨w10.heap.size, 0, none⟩)), (21, .int .i64 ((u : Nat) : Int)), (22, .int .i64 ((v : Nat) : Int))]) 23 (.bool (decide (((v : Nat) : Int) < ((u : Nat) : Int))))) 32 (.pointer (some ⟨w10.heap.size, 0, none⟩))) 2 (.pointer (some ⟨w10.heap.size, 0, none⟩))) (by kernel_rfl) ?_
            refine op_nil ?_
            refine W_ret ?_
            refine ⟨_, Res_of (v := .pointer (some ⟨w10.heap.size, 0, none⟩)) (by kernel_rfl), ?_⟩
            refine ⟨fun b => b = w10.heap.size ∨ b = w3.heap.size ∨ b = w6.heap.size, _, rfl, ⟨none, 0, w3.heap.size, w6.heap.size, at2, hP, Own.nil_ _ _ _ _, hT, hC, (fun c e => by cases e), n6, .inl rfl, .inr (.inl rfl), .inr (.inr rfl), ?_, h1, by simp, by omega, (fun x hx => by simp at hx), HeapP.new_end h1 (by omega) h2, ?_, (fun j _ hj => by simp at hj)⟩, hT0, ?_⟩
            · rintro b (rfl | rfl | rfl)
              · exact hP.lt
              · exact hT.lt
              · exact hC.lt
            · intro j; simp only [List.getD_eq_getElem?_getD, List.getElem?_replicate]; split <;> simp
            · rintro b (rfl | rfl | rfl)
              · exact q1
              · exact q2
              · exact q3
      · refine (S_make 26 3 (.int .i64 0) 1 8 (k1 := .i64) (k2 := .i64) (l := ((u : Nat) : Int)) (c := ((u : Nat) : Int)) (by kernel_rfl) (by kernel_rfl) (by kernel_rfl) (by kernel_rfl) (by omega) (by omega) (by omega) (by omega) fun w23 hT24 hs25 hB26 => ?_)
        have hT0 := hT0.t0 hT24
        rw [madeOne _ rfl] at hB26
        rw [Nat.mul_one] at hB26
        replace hB26 : Blk w23 (w3.heap.size) 3 (ints .i64 (List.replicate u (0 : Int))) := by simpa [ints, boolsV] using hB26
        refine ⟨trivial, ?_⟩
        refine d_one 1 (by kernel_rfl) (by rfl) (by kernel_rfl) (S_make 26 3 (.int .i64 0) 1 8 (k1 := .i64) (k2 := .i64) (l := ((u : Nat) : Int)) (c := ((u : Nat) : Int)) (by kernel_rfl) (by kernel_rfl) (by kernel_rfl) (by kernel_rfl) (by omega) (by omega) (by omega) (by omega) fun w27 hT28 hs29 hB30 => ?_)
        have hT0 := hT0.t0 hT28
        have hB26 := hB26.tch0 hT28
        rw [madeOne _ rfl] at hB30
        rw [Nat.mul_one] at hB30
        replace hB30 : Blk w27 (w23.heap.size) 3 (ints .i64 (List.replicate u (0 : Int))) := by simpa [ints, boolsV] using hB30
        refine ⟨trivial, ?_⟩
        refine d_takes [4] (listed' := #[true, true, true, true, true, false, false]) (ρ' := upd (upd (upd (upd (upd (upd (upd (upd (upd (upd (upd (upd (ini [.int .i64 ((u : Nat) : Int)]) 2 (.pointer none)) 5 (.int .i64 ((u : Nat) : Int))) 6 (.bool false)) 7 (.bool false)) 8 (.int .i64 ((u : Nat) : Int))) 9 (.bool (decide (((u : Nat) : Int) > 1048576)))) 10 (.bool (decide (((u : Nat) : Int) > 1048576)))) 11 (.int .i64 ((u : Nat) : Int))) 13 (.int .i64 ((u : Nat) : Int))) 14 (.slice (some ⟨w3.heap.size, 0, none⟩) u u)) 12 (.slice (some ⟨w23.heap.size, 0, none⟩) u u)) 15 (.agg #[.slice none 0 0, .slice (some ⟨w23.heap.size, 0, none⟩) u u, .slice (some ⟨w3.heap.size, 0, none⟩) u u])) trivial (by kernel_rfl) ?_
        refine d_one 5 (by kernel_rfl) (by rfl) (by kernel_rfl) (S_new (v := .pointer (some ⟨w27.heap.size, 0, none⟩)) (ob := .cells #[.slice none 0 0, .slice (some ⟨w23.heap.size, 0, none⟩) u u, .slice (some ⟨w3.heap.size, 0, none⟩) u u] 53) (by kernel_rfl) fun w31 hT32 hs33 hB34 => ?_)
        replace hB34 : Blk w31 (w27.heap.size) 53 [.slice none 0 0, .slice (some ⟨w23.heap.size, 0, none⟩) u u, .slice (some ⟨w3.heap.size, 0, none⟩) u u] := hB34
        have hT0 := hT0.t0 hT32
        have hB26 := hB26.tch0 hT32
        have hB30 := hB30.tch0 hT32
        refine ⟨trivial, ?_⟩
        refine d_takes [6] (listed' := #[true, true, true, true, true, true, true]) (ρ' := upd (upd (upd (upd (upd (upd (upd (upd (upd (upd (upd (upd (upd (upd (ini [.int .i64 ((u : Nat) : Int)]) 2 (.pointer none)) 5 (.int .i64 ((u : Nat) : Int))) 6 (.bool false)) 7 (.bool false)) 8 (.int .i64 ((u : Nat) : Int))) 9 (.bool (decide (((u : Nat) : Int) > 1048576)))) 10 (.bool (decide (((u : Nat) : Int) > 1048576)))) 11 (.int .i64 ((u : Nat) : Int))) 13 (.int .i64 ((u : Nat) : Int))) 14 (.slice (some ⟨w3.heap.size, 0, none⟩) u u)) 12 (.slice (some ⟨w23.heap.size, 0, none⟩) u u)) 15 (.agg #[.slice none 0 0, .slice (some ⟨w23.heap.size, 0, none⟩) u u, .slice (some ⟨w3.heap.size, 0, none⟩) u u])) 16 (.pointer (some ⟨w27.heap.size, 0, none⟩))) 3 (.pointer (some ⟨w27.heap.size, 0, none⟩))) trivial (by kernel_rfl) ?_
        refine d_done (by kernel_rfl) ?_
        refine W_seq ?_
        refine W_seq ?_
        have hT := hB30
        have hC := hB26
        have hP := hB34
        have n2 : w27.heap.size ≠ w23.heap.size := hP.ne hT (by decide)
        have n3 : w27.heap.size ≠ w3.heap.size := hP.ne hC (by decide)
        have n6 : w23.heap.size ≠ w3.heap.size := by omega
        have q1 : w.heap.size ≤ w27.heap.size := (show Tch N0 w w27 from by assumption).size
        have q2 : w.heap.size ≤ w23.heap.size := (show Tch N0 w w23 from by assumption).size
        have q3 : w.heap.size ≤ w3.heap.size := (show Tch N0 w w3 from by assumption).size
        refine W_region (by kernel_rfl) ?_
        refine seg3 (ρ' := upd (upd (upd (upd (upd (upd (upd (upd (upd (upd (upd (upd (upd (upd (upd (upd (upd (ini [.int .i64 ((u : Nat) : Int)]) 2 (.pointer none)) 5 (.int .i64 ((u : Nat) : Int))) 6 (.bool false)) 7 (.bool false)) 8 (.int .i64 ((u : Nat) : Int))) 9 (.bool (decide (((u : Nat) : Int) > 1048576)))) 10 (.bool (decide (((u : Nat) : Int) > 1048576)))) 11 (.int .i64 ((u : Nat) : Int))) 13 (.int .i64 ((u : Nat) : Int))) 14 (.slice (some ⟨w3.heap.size, 0, none⟩) u u)) 12 (.slice (some ⟨w23.heap.size, 0, none⟩) u u)) 15 (.agg #[.slice none 0 0, .slice (some ⟨w23.heap.size, 0, none⟩) u u, .slice (some ⟨w3.heap.size, 0, none⟩) u u])) 16 (.pointer (some ⟨w27.heap.size, 0, none⟩))) 3 (.pointer (some ⟨w27.heap.size, 0, none⟩))) 17 (.pointer (some ⟨w27.heap.size, 0, none⟩))) 18 (.pointer (some ⟨w27.heap.size, 0, none⟩))) 19 (.pointer (some ⟨w27.heap.size, 1, none⟩))) (by kernel_rfl) ?_
        refine st (by rfl) (S_val (v := .slice (some ⟨w23.heap.size, 0, none⟩) u u) (R_load (v := .slice (some ⟨w23.heap.size, 0, none⟩) u u) (by kernel_rfl) (by kernel_rfl) ((hP.cell 1).trans rfl)) ?_)
        refine seg2 (ρ' := upd (upd (upd (upd (upd (upd (upd (upd (upd (upd (upd (upd (upd (upd (upd (upd (upd (upd (upd (upd (ini [.int .i64 ((u : Nat) : Int)]) 2 (.pointer none)) 5 (.int .i64 ((u : Nat) : Int))) 6 (.bool false)) 7 (.bool false)) 8 (.int .i64 ((u : Nat) : Int))) 9 (.bool (decide (((u : Nat) : Int) > 1048576)))) 10 (.bool (decide (((u : Nat) : Int) > 1048576)))) 11 (.int .i64 ((u : Nat) : Int))) 13 (.int .i64 ((u : Nat) : Int))) 14 (.slice (some ⟨w3.heap.size, 0, none⟩) u u)) 12 (.slice (some ⟨w23.heap.size, 0, none⟩) u u)) 15 (.agg #[.slice none 0 0, .slice (some ⟨w23.heap.size, 0, none⟩) u u, .slice (some ⟨w3.heap.size, 0, none⟩) u u])) 16 (.pointer (some ⟨w27.heap.size, 0, none⟩))) 3 (.pointer (some ⟨w27.heap.size, 0, none⟩))) 17 (.pointer (some ⟨w27.heap.size, 0, none⟩))) 18 (.pointer (some ⟨w27.heap.size, 0, none⟩))) 19 (.pointer (some ⟨w27.heap.size, 1, none⟩))) 20 (.slice (some ⟨w23.heap.size, 0, none⟩) u u)) 21 (.int .i64 (u : Int))) 22 (.int .i64 0)) (by kernel_rfl) ?_
        refine op_nil ?_
        refine W_block ?_
        refine W_loop (fun m ρ w' => ∃ (at2 : List Int) (v : Nat) (ρ0 : Env), ρ = updL ρ0 [(3, .pointer (some ⟨w27.heap.size, 0, none⟩)), (21, .int .i64 ((u : Nat) : Int)), (22, .int .i64 ((v : Nat) : Int))] ∧ (at2.length = u) ∧ (∀ j, j < v → j < u → at2.getD j 0 = -1) ∧ (v ≤ u) ∧ Tch N0 w w' ∧ Blk w' (w27.heap.size) 53 [.slice none 0 0, .slice (some ⟨w23.heap.size, 0, none⟩) u u, .slice (some ⟨w3.heap.size, 0, none⟩) u u] ∧ Blk w' (w23.heap.size) 3 (ints .i64 at2) ∧ Blk w' (w3.heap.size) 3 (ints .i64 (List.replicate u (0 : Int))) ∧ m = u - v) (m := u - 0) ?_ ?_
        · refine ⟨List.replicate u 0, 0, _, updL_self (by kernel_rfl), by simp, by intro j h; omega, by omega, hT0, hP, hT, hC, rfl⟩
        · rintro m ρ w35 ⟨at2, v, ρ, rfl, h1, h2, h3, hT0, hP, hT, hC, rfl⟩
          refine W_seq ?_
          refine W_region (by kernel_rfl) ?_
          refine seg1 (ρ' := upd (updL ρ [(3, .pointer (some ⟨w27.heap.size, 0, none⟩)), (21, .int .i64 ((u : Nat) : Int)), (22, .int .i64 ((v : Nat) : Int))]) 23 (.bool (decide (((v : Nat) : Int) < ((u : Nat) : Int))))) (by kernel_rfl) ?_
          refine op_nil ?_
          refine W_seq ?_
          refine W_cond (decide (((v : Nat) : Int) < ((u : Nat) : Int))) (by kernel_rfl) (by kernel_rfl) (fun hc36 => ?_) (fun hc36 => ?_)
          · replace hc36 : ((v : Nat) : Int) < ((u : Nat) : Int) := (of_decide_eq_true hc36)
            refine W_skip ?_
            refine W_seq ?_
            refine W_block ?_
            refine W_seq ?_
            refine W_region (by kernel_rfl) ?_
            refine seg2 (ρ' := upd (upd (upd (updL ρ [(3, .pointer (some ⟨w27.heap.size, 0, none⟩)), (21, .int .i64 ((u : Nat) : Int)), (22, .int .i64 ((v : Nat) : Int))]) 23 (.bool (decide (((v : Nat) : Int) < ((u : Nat) : Int))))) 24 (.int .i64 ((v : Nat) : Int))) 4 (.int .i64 ((v : Nat) : Int))) (by kernel_rfl) ?_
            refine op_nil ?_
            refine W_region (by kernel_rfl) ?_
            refine seg3 (ρ' := upd (upd (upd (upd (upd (upd (updL ρ [(3, .pointer (some ⟨w27.heap.size, 0, none⟩)), (21, .int .i64 ((u : Nat) : Int)), (22, .int .i64 ((v : Nat) : Int))]) 23 (.bool (decide (((v : Nat) : Int) < ((u : Nat) : Int))))) 24 (.int .i64 ((v : Nat) : Int))) 4 (.int .i64 ((v : Nat) : Int))) 25 (.pointer (some ⟨w27.heap.size, 0, none⟩))) 26 (.pointer (some ⟨w27.heap.size, 0, none⟩))) 27 (.pointer (some ⟨w27.heap.size, 1, none⟩))) (by kernel_rfl) ?_
            refine st (by rfl) (S_val (v := .slice (some ⟨w23.heap.size, 0, none⟩) u u) (R_load (v := .slice (some ⟨w23.heap.size, 0, none⟩) u u) (by kernel_rfl) (by kernel_rfl) ((hP.cell 1).trans rfl)) ?_)
            refine seg1 (ρ' := upd (upd (upd (upd (upd (upd (upd (upd (updL ρ [(3, .pointer (some ⟨w27.heap.size, 0, none⟩)), (21, .int .i64 ((u : Nat) : Int)), (22, .int .i64 ((v : Nat) : Int))]) 23 (.bool (decide (((v : Nat) : Int) < ((u : Nat) : Int))))) 24 (.int .i64 ((v : Nat) : Int))) 4 (.int .i64 ((v : Nat) : Int))) 25 (.pointer (some ⟨w27.heap.size, 0, none⟩))) 26 (.pointer (some ⟨w27.heap.size, 0, none⟩))) 27 (.pointer (some ⟨w27.heap.size, 1, none⟩))) 28 (.slice (some ⟨w23.heap.size, 0, none⟩) u u)) 29 (.int .i64 ((v : Nat) : Int))) (by kernel_rfl) ?_
            refine stv (v := .pointer (some ⟨w23.heap.size, v, none⟩)) (by rfl) (R_index0 (b := w23.heap.size) (len := u) (cap := u) (k := .i64) (i := ((v : Nat) : Int)) (e := 3) v (by kernel_rfl) (by kernel_rfl) (by kernel_rfl) (by kernel_rfl) rfl (by first | omega | (simp only [List.length_set, List.length_map]; omega))) ?_
            refine st (by rfl) (S_store (b := w23.heap.size) (j := v) (v := .int .i64 (-1)) (by kernel_rfl) (by kernel_rfl) (by kernel_rfl) (by rfl) hT (by rw [ints_length]; first | omega | (simp only [List.length_set, List.length_map]; omega)) fun w37 hT38 hs39 hT' => ?_)
            have hT0 := (hT0).then hT38 (fun c e => by have : c = w23.heap.size := e; omega)
            have hP := hP.tch hT38 (fun e => by have : w27.heap.size = w23.heap.size := e; omega)
            have hC := hC.tch hT38 (fun e => by have : w3.heap.size = w23.heap.size := e; omega)
            replace hT : Blk w37 (w23.heap.size) 3 (ints .i64 (at2.set v (-1))) := by rw [← ints_set]; exact hT'
            refine op_nil ?_
            refine W_region (by kernel_rfl) ?_
            refine seg1 (ρ' := upd (upd (upd (upd (upd (upd (upd (upd (upd (upd (updL ρ [(3, .pointer (some ⟨w27.heap.size, 0, none⟩)), (21, .int .i64 ((u : Nat) : Int)), (22, .int .i64 ((v : Nat) : Int))]) 23 (.bool (decide (((v : Nat) : Int) < ((u : Nat) : Int))))) 24 (.int .i64 ((v : Nat) : Int))) 4 (.int .i64 ((v : Nat) : Int))) 25 (.pointer (some ⟨w27.heap.size, 0, none⟩))) 26 (.pointer (some ⟨w27.heap.size, 0, none⟩))) 27 (.pointer (some ⟨w27.heap.size, 1, none⟩))) 28 (.slice (some ⟨w23.heap.size, 0, none⟩) u u)) 29 (.int .i64 ((v : Nat) : Int))) 30 (.pointer (some ⟨w23.heap.size, v, none⟩))) 31 (.int .i64 (IntKind.i64.wrap (((v : Nat) : Int) + 1)))) (by kernel_rfl) ?_
            rw [show IntKind.i64.wrap (((v : Nat) : Int) + 1) = ((v : Nat) : Int) + 1 from wrap_i64 (by omega) (by omega)]
            rw [show upd (upd (upd (upd (upd (upd (upd (upd (upd (upd (updL ρ [(3, .pointer (some ⟨w27.heap.size, 0, none⟩)), (21, .int .i64 ((u : Nat) : Int)), (22, .int .i64 ((v : Nat) : Int))]) 23 (.bool (decide (((v : Nat) : Int) < ((u : Nat) : Int))))) 24 (.int .i64 ((v : Nat) : Int))) 4 (.int .i64 ((v : Nat) : Int))) 25 (.pointer (some ⟨w27.heap.size, 0, none⟩))) 26 (.pointer (some ⟨w27.heap.size, 0, none⟩))) 27 (.pointer (some ⟨w27.heap.size, 1, none⟩))) 28 (.slice (some ⟨w23.heap.size, 0, none⟩) u u)) 29 (.int .i64 ((v : Nat) : Int))) 30 (.pointer (some ⟨w23.heap.size, v, none⟩))) 31 (.int .i64 (((v : Nat) : Int) + 1)) = upd (upd (upd (upd (upd (upd (upd (upd (upd (upd (updL ρ [(3, .pointer (some ⟨w27.heap.size, 0, none⟩)), (21, .int .i64 ((u : Nat) : Int)), (22, .int .i64 ((v : Nat) : Int))]) 23 (.bool (decide (((v : Nat) : Int) < ((u : Nat) : Int))))) 24 (.int .i64 ((v : Nat) : Int))) 4 (.int .i64 ((v : Nat) : Int))) 25 (.pointer (some ⟨w27.heap.size, 0, none⟩))) 26 (.pointer (some ⟨w27.heap.size, 0, none⟩))) 27 (.pointer (some ⟨w27.heap.size, 1, none⟩))) 28 (.slice (some ⟨w23.heap.size, 0, none⟩) u u)) 29 (.int .i64 ((v : Nat) : Int))) 30 (.pointer (some ⟨w23.heap.size, v, none⟩))) 31 (.int .i64 ((v + 1 : Nat) : Int)) from congrArg (fun z => upd (upd (upd (upd (upd (upd (upd (upd (upd (upd (updL ρ [(3, .pointer (some ⟨w27.heap.size, 0, none⟩)), (21, .int .i64 ((u : Nat) : Int)), (22, .int .i64 ((v : Nat) : Int))]) 23 (.bool (decide (((v : Nat) : Int) < ((u : Nat) : Int))))) 24 (.int .i64 ((v : Nat) : Int))) 4 (.int .i64 ((v : Nat) : Int))) 25 (.pointer (some ⟨w27.heap.size, 0, none⟩))) 26 (.pointer (some ⟨w27.heap.size, 0, none⟩))) 27 (.pointer (some ⟨w27.heap.size, 1, none⟩))) 28 (.slice (some ⟨w23.heap.size, 0, none⟩) u u)) 29 (.int .i64 ((v : Nat) : Int))) 30 (.pointer (some ⟨w23.heap.size, v, none⟩))) 31 (.int .i64 z)) (by omega)]
            refine seg1 (ρ' := upd (upd (upd (upd (upd (upd (upd (upd (upd (upd (upd (updL ρ [(3, .pointer (some ⟨w27.heap.size, 0, none⟩)), (21, .int .i64 ((u : Nat) : Int)), (22, .int .i64 ((v : Nat) : Int))]) 23 (.bool (decide (((v : Nat) : Int) < ((u : Nat) : Int))))) 24 (.int .i64 ((v : Nat) : Int))) 4 (.int .i64 ((v : Nat) : Int))) 25 (.pointer (some ⟨w27.heap.size, 0, none⟩))) 26 (.pointer (some ⟨w27.heap.size, 0, none⟩))) 27 (.pointer (some ⟨w27.heap.size, 1, none⟩))) 28 (.slice (some ⟨w23.heap.size, 0, none⟩) u u)) 29 (.int .i64 ((v : Nat) : Int))) 30 (.pointer (some ⟨w23.heap.size, v, none⟩))) 31 (.int .i64 ((v + 1 : Nat) : Int))) 22 (.int .i64 ((v + 1 : Nat) : Int))) (by kernel_rfl) ?_
            refine op_nil ?_
            refine ⟨_, ?_, at2.set v (-1), v + 1, _, updL_self (by kernel_rfl), ?_, ?_, ?_, hT0, hP, hT, hC, rfl⟩
            · omega
            · rw [List.length_set]; exact h1
            · exact HeapP.new_step h1 (by omega) h2
            · omega
          · replace hc36 : ((u : Nat) : Int) ≤ ((v : Nat) : Int) := (Int.not_lt.1 (of_decide_eq_false hc36))
            refine W_exit ?_
            refine X_hit ?_
            refine W_seq ?_
            refine W_region (by kernel_rfl) ?_
            refine seg2 (ρ' := upd (upd (upd (updL ρ [(3, .pointer (some ⟨w27.heap.size, 0, none⟩)), (21, .int .i64 ((u : Nat) : Int)), (22, .int .i64 ((v : Nat) : Int))]) 23 (.bool (decide (((v : Nat) : Int) < ((u : Nat) : Int))))) 32 (.pointer (some ⟨w27.heap.size, 0, none⟩))) 2 (.pointer (some ⟨w27.heap.size, 0, none⟩))) (by kernel_rfl) ?_
            refine op_nil ?_
            refine W_ret ?_
            refine ⟨_, Res_of (v := .pointer (some ⟨w27.heap.size, 0, none⟩)) (by kernel_rfl), ?_⟩
            refine ⟨fun b => b = w27.heap.size ∨ b = w23.heap.size ∨ b = w3.heap.size, _, rfl, ⟨none, 0, w23.heap.size, w3.heap.size, at2, hP, Own.nil_ _ _ _ _, hT, hC, (fun c e => by cases e), n6, .inl rfl, .inr (.inl rfl), .inr (.inr rfl), ?_, h1, by simp, by omega, (fun x hx => by simp at hx), HeapP.new_end h1 (by omega) h2, ?_, (fun j _ hj => by simp at hj)⟩, hT0, ?_⟩
            · rintro b (rfl | rfl | rfl)
              · exact hP.lt
              · exact hT.lt
              · exact hC.lt
            · intro j; simp only [List.getD_eq_getElem?_getD, List.getElem?_replicate]; split <;> simp
            · rintro b (rfl | rfl | rfl)
              · exact q1
              · exact q2
              · exact q3
  · replace hb1 : ((u : Nat) : Int) < 0 := (of_decide_eq_true hb1)
    exfalso; omega

set_option maxRecDepth 100000 in
theorem new_out (n : Int) (w : World) (hn : n < 0 ∨ 1048576 < n) : Ret Try.prog 16 [.int .i64 n] w fun v w' => ∃ F p, v = .pointer (some ⟨p, 0, none⟩) ∧ Ord F w' p 0 [] (List.replicate 0 0) ∧ Tch N0 w w' ∧ ∀ b, F b → w.heap.size ≤ b := by
  refine enter Try.func16 rfl rfl ?_
  refine W_seq ?_
  refine W_region (by kernel_rfl) ?_
  refine seg1 (ρ' := upd (ini [.int .i64 n]) 2 (.pointer none)) (by kernel_rfl) ?_
  refine op_nil ?_
  refine W_seq ?_
  refine W_seq ?_
  refine W_region (by kernel_rfl) ?_
  refine seg3 (ρ' := upd (upd (upd (upd (ini [.int .i64 n]) 2 (.pointer none)) 5 (.int .i64 n)) 6 (.bool (decide (n < 0)))) 7 (.bool (decide (n < 0)))) (by kernel_rfl) ?_
  cases hb1 : decide (n < 0)
  · replace hb1 : 0 ≤ n := (Int.not_lt.1 (of_decide_eq_false hb1))
    refine seg3 (ρ' := upd (upd (upd (upd (upd (upd (upd (ini [.int .i64 n]) 2 (.pointer none)) 5 (.int .i64 n)) 6 (.bool false)) 7 (.bool false)) 8 (.int .i64 n)) 9 (.bool (decide (n > 1048576)))) 10 (.bool (decide (n > 1048576)))) (by kernel_rfl) ?_
    refine op_nil ?_
    refine W_cond (decide (n > 1048576)) (by kernel_rfl) (by kernel_rfl) (fun hc2 => ?_) (fun hc2 => ?_)
    · replace hc2 : 1048576 < n := (of_decide_eq_true hc2)
      refine W_region (by kernel_rfl) ?_
      refine seg1 (ρ' := upd (upd (upd (upd (upd (upd (upd (upd (ini [.int .i64 n]) 2 (.pointer none)) 5 (.int .i64 n)) 6 (.bool false)) 7 (.bool false)) 8 (.int .i64 n)) 9 (.bool (decide (n > 1048576)))) 10 (.bool (decide (n > 1048576)))) 0 (.int .i64 0)) (by kernel_rfl) ?_
      refine op_nil ?_
      refine W_seq ?_
      refine W_draw (fun w' => True) (by kernel_rfl) (by kernel_rfl) (by kernel_rfl) fun w3 hT4 hh5 => ?_
      have hT0 := hT4
      refine d_takes [0, 2] (listed' := #[true, false, true, false, false, false, false]) (ρ' := upd (upd (upd (upd (upd (upd (upd (upd (upd (upd (ini [.int .i64 n]) 2 (.pointer none)) 5 (.int .i64 n)) 6 (.bool false)) 7 (.bool false)) 8 (.int .i64 n)) 9 (.bool (decide (n > 1048576)))) 10 (.bool (decide (n > 1048576)))) 0 (.int .i64 0)) 11 (.int .i64 0)) 13 (.int .i64 0)) trivial (by kernel_rfl) ?_
      refine d_two 1 3 (by kernel_rfl) (by rfl) (by rfl) (by kernel_rfl) (by kernel_rfl) ?_ ?_
      · refine (S_make 26 3 (.int .i64 0) 1 8 (k1 := .i64) (k2 := .i64) (l := 0) (c := 0) (by kernel_rfl) (by kernel_rfl) (by kernel_rfl) (by kernel_rfl) (by omega) (by omega) (by omega) (by omega) fun w6 hT7 hs8 hB9 => ?_)
        have hT0 := hT0.t0 hT7
        rw [madeOne _ rfl] at hB9
        rw [Nat.mul_one] at hB9
        replace hB9 : Blk w6 (w3.heap.size) 3 (ints .i64 (List.replicate 0 (0 : Int))) := by simpa [ints, boolsV] using hB9
        refine ⟨trivial, ?_⟩
        refine d_one 3 (by kernel_rfl) (by rfl) (by kernel_rfl) (S_make 26 3 (.int .i64 0) 1 8 (k1 := .i64) (k2 := .i64) (l := 0) (c := 0) (by kernel_rfl) (by kernel_rfl) (by kernel_rfl) (by kernel_rfl) (by omega) (by omega) (by omega) (by omega) fun w10 hT11 hs12 hB13 => ?_)
        have hT0 := hT0.t0 hT11
        have hB9 := hB9.tch0 hT11
        rw [madeOne _ rfl] at hB13
        rw [Nat.mul_one] at hB13
        replace hB13 : Blk w10 (w6.heap.size) 3 (ints .i64 (List.replicate 0 (0 : Int))) := by simpa [ints, boolsV] using hB13
        refine ⟨trivial, ?_⟩
        refine d_takes [4] (listed' := #[true, true, true, true, true, false, false]) (ρ' := upd (upd (upd (upd (upd (upd (upd (upd (upd (upd (upd (upd (upd (ini [.int .i64 n]) 2 (.pointer none)) 5 (.int .i64 n)) 6 (.bool false)) 7 (.bool false)) 8 (.int .i64 n)) 9 (.bool (decide (n > 1048576)))) 10 (.bool (decide (n > 1048576)))) 0 (.int .i64 0)) 11 (.int .i64 0)) 13 (.int .i64 0)) 12 (.slice (some ⟨w3.heap.size, 0, none⟩) 0 0)) 14 (.slice (some ⟨w6.heap.size, 0, none⟩) 0 0)) 15 (.agg #[.slice none 0 0, .slice (some ⟨w3.heap.size, 0, none⟩) 0 0, .slice (some ⟨w6.heap.size, 0, none⟩) 0 0])) trivial (by kernel_rfl) ?_
        refine d_one 5 (by kernel_rfl) (by rfl) (by kernel_rfl) (S_new (v := .pointer (some ⟨w10.heap.size, 0, none⟩)) (ob := .cells #[.slice none 0 0, .slice (some ⟨w3.heap.size, 0, none⟩) 0 0, .slice (some ⟨w6.heap.size, 0, none⟩) 0 0] 53) (by kernel_rfl) fun w14 hT15 hs16 hB17 => ?_)
        replace hB17 : Blk w14 (w10.heap.size) 53 [.slice none 0 0, .slice (some ⟨w3.heap.size, 0, none⟩) 0 0, .slice (some ⟨w6.heap.size, 0, none⟩) 0 0] := hB17
        have hT0 := hT0.t0 hT15
        have hB9 := hB9.tch0 hT15
        have hB13 := hB13.tch0 hT15
        refine ⟨trivial, ?_⟩
        refine d_takes [6] (listed' := #[true, true, true, true, true, true, true]) (ρ' := upd (upd (upd (upd (upd (upd (upd (upd (upd (upd (upd (upd (upd (upd (upd (ini [.int .i64 n]) 2 (.pointer none)) 5 (.int .i64 n)) 6 (.bool false)) 7 (.bool false)) 8 (.int .i64 n)) 9 (.bool (decide (n > 1048576)))) 10 (.bool (decide (n > 1048576)))) 0 (.int .i64 0)) 11 (.int .i64 0)) 13 (.int .i64 0)) 12 (.slice (some ⟨w3.heap.size, 0, none⟩) 0 0)) 14 (.slice (some ⟨w6.heap.size, 0, none⟩) 0 0)) 15 (.agg #[.slice none 0 0, .slice (some ⟨w3.heap.size, 0, none⟩) 0 0, .slice (some ⟨w6.heap.size, 0, none⟩) 0 0])) 16 (.pointer (some ⟨w10.heap.size, 0, none⟩))) 3 (.pointer (some ⟨w10.heap.size, 0, none⟩))) trivial (by kernel_rfl) ?_
        refine d_done (by kernel_rfl) ?_
        refine W_seq ?_
        refine W_seq ?_
        have hT := hB9
        have hC := hB13
        have hP := hB17
        have n2 : w10.heap.size ≠ w3.heap.size := hP.ne hT (by decide)
        have n3 : w10.heap.size ≠ w6.heap.size := hP.ne hC (by decide)
        have n6 : w3.heap.size ≠ w6.heap.size := by omega
        have q1 : w.heap.size ≤ w10.heap.size := (show Tch N0 w w10 from by assumption).size
        have q2 : w.heap.size ≤ w3.heap.size := (show Tch N0 w w3 from by assumption).size
        have q3 : w.heap.size ≤ w6.heap.size := (show Tch N0 w w6 from by assumption).size
        refine W_region (by kernel_rfl) ?_
        refine seg3 (ρ' := upd (upd (upd (upd (upd (upd (upd (upd (upd (upd (upd (upd (upd (upd (upd (upd (upd (upd (ini [.int .i64 n]) 2 (.pointer none)) 5 (.int .i64 n)) 6 (.bool false)) 7 (.bool false)) 8 (.int .i64 n)) 9 (.bool (decide (n > 1048576)))) 10 (.bool (decide (n > 1048576)))) 0 (.int .i64 0)) 11 (.int .i64 0)) 13 (.int .i64 0)) 12 (.slice (some ⟨w3.heap.size, 0, none⟩) 0 0)) 14 (.slice (some ⟨w6.heap.size, 0, none⟩) 0 0)) 15 (.agg #[.slice none 0 0, .slice (some ⟨w3.heap.size, 0, none⟩) 0 0, .slice (some ⟨w6.heap.size, 0, none⟩) 0 0])) 16 (.pointer (some ⟨w10.heap.size, 0, none⟩))) 3 (.pointer (some ⟨w10.heap.size, 0, none⟩))) 17 (.pointer (some ⟨w10.heap.size, 0, none⟩))) 18 (.pointer (some ⟨w10.heap.size, 0, none⟩))) 19 (.pointer (some ⟨w10.heap.size, 1, none⟩))) (by kernel_rfl) ?_
        refine st (by rfl) (S_val (v := .slice (some ⟨w3.heap.size, 0, none⟩) 0 0) (R_load (v := .slice (some ⟨w3.heap.size, 0, none⟩) 0 0) (by kernel_rfl) (by kernel_rfl) ((hP.cell 1).trans rfl)) ?_)
        refine seg2 (ρ' := upd (upd (upd (upd (upd (upd (upd (upd (upd (upd (upd (upd (upd (upd (upd (upd (upd (upd (upd (upd (upd (ini [.int .i64 n]) 2 (.pointer none)) 5 (.int .i64 n)) 6 (.bool false)) 7 (.bool false)) 8 (.int .i64 n)) 9 (.bool (decide (n > 1048576)))) 10 (.bool (decide (n > 1048576)))) 0 (.int .i64 0)) 11 (.int .i64 0)) 13 (.int .i64 0)) 12 (.slice (some ⟨w3.heap.size, 0, none⟩) 0 0)) 14 (.slice (some ⟨w6.heap.size, 0, none⟩) 0 0)) 15 (.agg #[.slice none 0 0, .slice (some ⟨w3.heap.size, 0, none⟩) 0 0, .slice (some ⟨w6.heap.size, 0, none⟩) 0 0])) 16 (.pointer (some ⟨w10.heap.size, 0, none⟩))) 3 (.pointer (some ⟨w10.heap.size, 0, none⟩))) 17 (.pointer (some ⟨w10.heap.size, 0, none⟩))) 18 (.pointer (some ⟨w10.heap.size, 0, none⟩))) 19 (.pointer (some ⟨w10.heap.size, 1, none⟩))) 20 (.slice (some ⟨w3.heap.size, 0, none⟩) 0 0)) 21 (.int .i64 0)) 22 (.int .i64 0)) (by kernel_rfl) ?_
        refine op_nil ?_
        refine W_block ?_
        refine W_loop (fun m ρ w' => ∃ (at2 : List Int) (v : Nat) (ρ0 : Env), ρ = updL ρ0 [(3, .pointer (some ⟨w10.heap.size, 0, none⟩)), (21, .int .i64 0), (22, .int .i64 ((v : Nat) : Int))] ∧ (at2.length = 0) ∧ (∀ j, j < v → j < 0 → at2.getD j 0 = -1) ∧ (v ≤ 0) ∧ Tch N0 w w' ∧ Blk w' (w10.heap.size) 53 [.slice none 0 0, .slice (some ⟨w3.heap.size, 0, none⟩) 0 0, .slice (some ⟨w6.heap.size, 0, none⟩) 0 0] ∧ Blk w' (w3.heap.size) 3 (ints .i64 at2) ∧ Blk w' (w6.heap.size) 3 (ints .i64 (List.replicate 0 (0 : Int))) ∧ m = 0 - v) (m := 0 - 0) ?_ ?_
        · refine ⟨List.replicate 0 0, 0, _, updL_self (by kernel_rfl), by simp, by intro j h; omega, by omega, hT0, hP, hT, hC, rfl⟩
        · rintro m ρ w18 ⟨at2, v, ρ, rfl, h1, h2, h3, hT0, hP, hT, hC, rfl⟩
          refine W_seq ?_
          refine W_region (by kernel_rfl) ?_
          refine seg1 (ρ' := upd (updL ρ [(3, .pointer (some ⟨w10.heap.size, 0, none⟩)), (21, .int .i64 0), (22, .int .i64 ((v : Nat) : Int))]) 23 (.bool (decide (((v : Nat) : Int) < 0)))) (by kernel_rfl) ?_
          refine op_nil ?_
          refine W_seq ?_
          refine W_cond (decide (((v : Nat) : Int) < 0)) (by kernel_rfl) (by kernel_rfl) (fun hc19 => ?_) (fun hc19 => ?_)
          · replace hc19 : ((v : Nat) : Int) < 0 := (of_decide_eq_true hc19)
            refine W_skip ?_
            refine W_seq ?_
            refine W_block ?_
            refine W_seq ?_
            refine W_region (by kernel_rfl) ?_
            refine seg2 (ρ' := upd (upd (upd (updL ρ [(3, .pointer (some ⟨w10.heap.size, 0, none⟩)), (21, .int .i64 0), (22, .int .i64 ((v : Nat) : Int))]) 23 (.bool (decide (((v : Nat) : Int) < 0)))) 24 (.int .i64 ((v : Nat) : Int))) 4 (.int .i64 ((v : Nat) : Int))) (by kernel_rfl) ?_
            refine op_nil ?_
            refine W_region (by kernel_rfl) ?_
            refine seg3 (ρ' := upd (upd (upd (upd (upd (upd (updL ρ [(3, .pointer (some ⟨w10.heap.size, 0, none⟩)), (21, .int .i64 0), (22, .int .i64 ((v : Nat) : Int))]) 23 (.bool (decide (((v : Nat) : Int) < 0)))) 24 (.int .i64 ((v : Nat) : Int))) 4 (.int .i64 ((v : Nat) : Int))) 25 (.pointer (some ⟨w10.heap.size, 0, none⟩))) 26 (.pointer (some ⟨w10.heap.size, 0, none⟩))) 27 (.pointer (some ⟨w10.heap.size, 1, none⟩))) (by kernel_rfl) ?_
            refine st (by rfl) (S_val (v := .slice (some ⟨w3.heap.size, 0, none⟩) 0 0) (R_load (v := .slice (some ⟨w3.heap.size, 0, none⟩) 0 0) (by kernel_rfl) (by kernel_rfl) ((hP.cell 1).trans rfl)) ?_)
            refine seg1 (ρ' := upd (upd (upd (upd (upd (upd (upd (upd (updL ρ [(3, .pointer (some ⟨w10.heap.size, 0, none⟩)), (21, .int .i64 0), (22, .int .i64 ((v : Nat) : Int))]) 23 (.bool (decide (((v : Nat) : Int) < 0)))) 24 (.int .i64 ((v : Nat) : Int))) 4 (.int .i64 ((v : Nat) : Int))) 25 (.pointer (some ⟨w10.heap.size, 0, none⟩))) 26 (.pointer (some ⟨w10.heap.size, 0, none⟩))) 27 (.pointer (some ⟨w10.heap.size, 1, none⟩))) 28 (.slice (some ⟨w3.heap.size, 0, none⟩) 0 0)) 29 (.int .i64 ((v : Nat) : Int))) (by kernel_rfl) ?_
            refine stv (v := .pointer (some ⟨w3.heap.size, v, none⟩)) (by rfl) (R_index0 (b := w3.heap.size) (len := 0) (cap := 0) (k := .i64) (i := ((v : Nat) : Int)) (e := 3) v (by kernel_rfl) (by kernel_rfl) (by kernel_rfl) (by kernel_rfl) rfl (by first | omega | (simp only [List.length_set, List.length_map]; omega))) ?_
            refine st (by rfl) (S_store (b := w3.heap.size) (j := v) (v := .int .i64 (-1)) (by kernel_rfl) (by kernel_rfl) (by kernel_rfl) (by rfl) hT (by rw [ints_length]; first | omega | (simp only [List.length_set, List.length_map]; omega)) fun w20 hT21 hs22 hT' => ?_)
            have hT0 := (hT0).then hT21 (fun c e => by have : c = w3.heap.size := e; omega)
            have hP := hP.tch hT21 (fun e => by have : w10.heap.size = w3.heap.size := e; omega)
            have hC := hC.tch hT21 (fun e => by have : w6.heap.size = w3.heap.size := e; omega)
            replace hT : Blk w20 (w3.heap.size) 3 (ints .i64 (at2.set v (-1))) := by rw [← ints_set]; exact hT'
            refine op_nil ?_
            refine W_region (by kernel_rfl) ?_
            refine seg1 (ρ' := upd (upd (upd (upd (upd (upd (upd (upd (upd (upd (updL ρ [(3, .pointer (some ⟨w10.heap.size, 0, none⟩)), (21, .int .i64 0), (22, .int .i64 ((v : Nat) : Int))]) 23 (.bool (decide (((v : Nat) : Int) < 0)))) 24 (.int .i64 ((v : Nat) : Int))) 4 (.int .i64 ((v : Nat) : Int))) 25 (.pointer (some ⟨w10.heap.size, 0, none⟩))) 26 (.pointer (some ⟨w10.heap.size, 0, none⟩))) 27 (.pointer (some ⟨w10.heap.size, 1, none⟩))) 28 (.slice (some ⟨w3.heap.size, 0, none⟩) 0 0)) 29 (.int .i64 ((v : Nat) : Int))) 30 (.pointer (some ⟨w3.heap.size, v, none⟩))) 31 (.int .i64 (IntKind.i64.wrap (((v : Nat) : Int) + 1)))) (by kernel_rfl) ?_
            rw [show IntKind.i64.wrap (((v : Nat) : Int) + 1) = ((v : Nat) : Int) + 1 from wrap_i64 (by omega) (by omega)]
            rw [show upd (upd (upd (upd (upd (upd (upd (upd (upd (upd (updL ρ [(3, .pointer (some ⟨w10.heap.size, 0, none⟩)), (21, .int .i64 0), (22, .int .i64 ((v : Nat) : Int))]) 23 (.bool (decide (((v : Nat) : Int) < 0)))) 24 (.int .i64 ((v : Nat) : Int))) 4 (.int .i64 ((v : Nat) : Int))) 25 (.pointer (some ⟨w10.heap.size, 0, none⟩))) 26 (.pointer (some ⟨w10.heap.size, 0, none⟩))) 27 (.pointer (some ⟨w10.heap.size, 1, none⟩))) 28 (.slice (some ⟨w3.heap.size, 0, none⟩) 0 0)) 29 (.int .i64 ((v : Nat) : Int))) 30 (.pointer (some ⟨w3.heap.size, v, none⟩))) 31 (.int .i64 (((v : Nat) : Int) + 1)) = upd (upd (upd (upd (upd (upd (upd (upd (upd (upd (updL ρ [(3, .pointer (some ⟨w10.heap.size, 0, none⟩)), (21, .int .i64 0), (22, .int .i64 ((v : Nat) : Int))]) 23 (.bool (decide (((v : Nat) : Int) < 0)))) 24 (.int .i64 ((v : Nat) : Int))) 4 (.int .i64 ((v : Nat) : Int))) 25 (.pointer (some ⟨w10.heap.size, 0, none⟩))) 26 (.pointer (some ⟨w10.heap.size, 0, none⟩))) 27 (.pointer (some ⟨w10.heap.size, 1, none⟩))) 28 (.slice (some ⟨w3.heap.size, 0, none⟩) 0 0)) 29 (.int .i64 ((v : Nat) : Int))) 30 (.pointer (some ⟨w3.heap.size, v, none⟩))) 31 (.int .i64 ((v + 1 : Nat) : Int)) from congrArg (fun z => upd (upd (upd (upd (upd (upd (upd (upd (upd (upd (updL ρ [(3, .pointer (some ⟨w10.heap.size, 0, none⟩)), (21, .int .i64 0), (22, .int .i64 ((v : Nat) : Int))]) 23 (.bool (decide (((v : Nat) : Int) < 0)))) 24 (.int .i64 ((v : Nat) : Int))) 4 (.int .i64 ((v : Nat) : Int))) 25 (.pointer (some ⟨w10.heap.size, 0, none⟩))) 26 (.pointer (some ⟨w10.heap.size, 0, none⟩))) 27 (.pointer (some ⟨w10.heap.size, 1, none⟩))) 28 (.slice (some ⟨w3.heap.size, 0, none⟩) 0 0)) 29 (.int .i64 ((v : Nat) : Int))) 30 (.pointer (some ⟨w3.heap.size, v, none⟩))) 31 (.int .i64 z)) (by omega)]
            refine seg1 (ρ' := upd (upd (upd (upd (upd (upd (upd (upd (upd (upd (upd (updL ρ [(3, .pointer (some ⟨w10.heap.size, 0, none⟩)), (21, .int .i64 0), (22, .int .i64 ((v : Nat) : Int))]) 23 (.bool (decide (((v : Nat) : Int) < 0)))) 24 (.int .i64 ((v : Nat) : Int))) 4 (.int .i64 ((v : Nat) : Int))) 25 (.pointer (some ⟨w10.heap.size, 0, none⟩))) 26 (.pointer (some ⟨w10.heap.size, 0, none⟩))) 27 (.pointer (some ⟨w10.heap.size, 1, none⟩))) 28 (.slice (some ⟨w3.heap.size, 0, none⟩) 0 0)) 29 (.int .i64 ((v : Nat) : Int))) 30 (.pointer (some ⟨w3.heap.size, v, none⟩))) 31 (.int .i64 ((v + 1 : Nat) : Int))) 22 (.int .i64 ((v + 1 : Nat) : Int))) (by kernel_rfl) ?_
            refine op_nil ?_
            refine ⟨_, ?_, at2.set v (-1), v + 1, _, updL_self (by kernel_rfl), ?_, ?_, ?_, hT0, hP, hT, hC, rfl⟩
            · omega
            · rw [List.length_set]; exact h1
            · exact HeapP.new_step h1 (by omega) h2
            · omega
          · replace hc19 : 0 ≤ ((v : Nat) : Int) := (Int.not_lt.1 (of_decide_eq_false hc19))
            refine W_exit ?_
            refine X_hit ?_
            refine W_seq ?_
            refine W_region (by kernel_rfl) ?_
            refine seg2 (ρ' := upd (upd (upd (updL ρ [(3, .pointer (some ⟨w10.heap.size, 0, none⟩)), (21, .int .i64 0), (22, .int .i64 ((v : Nat) : Int))]) 23 (.bool (decide (((v : Nat) : Int) < 0)))) 32 (.pointer (some ⟨w10.heap.size, 0, none⟩))) 2 (.pointer (some ⟨w10.heap.size, 0, none⟩))) (by kernel_rfl) ?_
            refine op_nil ?_
            refine W_ret ?_
            refine ⟨_, Res_of (v := .pointer (some ⟨w10.heap.size, 0, none⟩)) (by kernel_rfl), ?_⟩
            refine ⟨fun b => b = w10.heap.size ∨ b = w3.heap.size ∨ b = w6.heap.size, _, rfl, ⟨none, 0, w3.heap.size, w6.heap.size, at2, hP, Own.nil_ _ _ _ _, hT, hC, (fun c e => by cases e), n6, .inl rfl, .inr (.inl rfl), .inr (.inr rfl), ?_, h1, by simp, by omega, (fun x hx => by simp at hx), HeapP.new_end h1 (by omega) h2, ?_, (fun j _ hj => by simp at hj)⟩, hT0, ?_⟩
            · rintro b (rfl | rfl | rfl)
              · exact hP.lt
              · exact hT.lt
              · exact hC.lt
            · intro j; simp only [List.getD_eq_getElem?_getD, List.getElem?_replicate]; split <;> simp
            · rintro b (rfl | rfl | rfl)
              · exact q1
              · exact q2
              · exact q3
      · refine (S_make 26 3 (.int .i64 0) 1 8 (k1 := .i64) (k2 := .i64) (l := 0) (c := 0) (by kernel_rfl) (by kernel_rfl) (by kernel_rfl) (by kernel_rfl) (by omega) (by omega) (by omega) (by omega) fun w23 hT24 hs25 hB26 => ?_)
        have hT0 := hT0.t0 hT24
        rw [madeOne _ rfl] at hB26
        rw [Nat.mul_one] at hB26
        replace hB26 : Blk w23 (w3.heap.size) 3 (ints .i64 (List.replicate 0 (0 : Int))) := by simpa [ints, boolsV] using hB26
        refine ⟨trivial, ?_⟩
        refine d_one 1 (by kernel_rfl) (by rfl) (by kernel_rfl) (S_make 26 3 (.int .i64 0) 1 8 (k1 := .i64) (k2 := .i64) (l := 0) (c := 0) (by kernel_rfl) (by kernel_rfl) (by kernel_rfl) (by kernel_rfl) (by omega) (by omega) (by omega) (by omega) fun w27 hT28 hs29 hB30 => ?_)
        have hT0 := hT0.t0 hT28
        have hB26 := hB26.tch0 hT28
        rw [madeOne _ rfl] at hB30
        rw [Nat.mul_one] at hB30
        replace hB30 : Blk w27 (w23.heap.size) 3 (ints .i64 (List.replicate 0 (0 : Int))) := by simpa [ints, boolsV] using hB30
        refine ⟨trivial, ?_⟩
        refine d_takes [4] (listed' := #[true, true, true, true, true, false, false]) (ρ' := upd (upd (upd (upd (upd (upd (upd (upd (upd (upd (upd (upd (upd (ini [.int .i64 n]) 2 (.pointer none)) 5 (.int .i64 n)) 6 (.bool false)) 7 (.bool false)) 8 (.int .i64 n)) 9 (.bool (decide (n > 1048576)))) 10 (.bool (decide (n > 1048576)))) 0 (.int .i64 0)) 11 (.int .i64 0)) 13 (.int .i64 0)) 14 (.slice (some ⟨w3.heap.size, 0, none⟩) 0 0)) 12 (.slice (some ⟨w23.heap.size, 0, none⟩) 0 0)) 15 (.agg #[.slice none 0 0, .slice (some ⟨w23.heap.size, 0, none⟩) 0 0, .slice (some ⟨w3.heap.size, 0, none⟩) 0 0])) trivial (by kernel_rfl) ?_
        refine d_one 5 (by kernel_rfl) (by rfl) (by kernel_rfl) (S_new (v := .pointer (some ⟨w27.heap.size, 0, none⟩)) (ob := .cells #[.slice none 0 0, .slice (some ⟨w23.heap.size, 0, none⟩) 0 0, .slice (some ⟨w3.heap.size, 0, none⟩) 0 0] 53) (by kernel_rfl) fun w31 hT32 hs33 hB34 => ?_)
        replace hB34 : Blk w31 (w27.heap.size) 53 [.slice none 0 0, .slice (some ⟨w23.heap.size, 0, none⟩) 0 0, .slice (some ⟨w3.heap.size, 0, none⟩) 0 0] := hB34
        have hT0 := hT0.t0 hT32
        have hB26 := hB26.tch0 hT32
        have hB30 := hB30.tch0 hT32
        refine ⟨trivial, ?_⟩
        refine d_takes [6] (listed' := #[true, true, true, true, true, true, true]) (ρ' := upd (upd (upd (upd (upd (upd (upd (upd (upd (upd (upd (upd (upd (upd (upd (ini [.int .i64 n]) 2 (.pointer none)) 5 (.int .i64 n)) 6 (.bool false)) 7 (.bool false)) 8 (.int .i64 n)) 9 (.bool (decide (n > 1048576)))) 10 (.bool (decide (n > 1048576)))) 0 (.int .i64 0)) 11 (.int .i64 0)) 13 (.int .i64 0)) 14 (.slice (some ⟨w3.heap.size, 0, none⟩) 0 0)) 12 (.slice (some ⟨w23.heap.size, 0, none⟩) 0 0)) 15 (.agg #[.slice none 0 0, .slice (some ⟨w23.heap.size, 0, none⟩) 0 0, .slice (some ⟨w3.heap.size, 0, none⟩) 0 0])) 16 (.pointer (some ⟨w27.heap.size, 0, none⟩))) 3 (.pointer (some ⟨w27.heap.size, 0, none⟩))) trivial (by kernel_rfl) ?_
        refine d_done (by kernel_rfl) ?_
        refine W_seq ?_
        refine W_seq ?_
        have hT := hB30
        have hC := hB26
        have hP := hB34
        have n2 : w27.heap.size ≠ w23.heap.size := hP.ne hT (by decide)
        have n3 : w27.heap.size ≠ w3.heap.size := hP.ne hC (by decide)
        have n6 : w23.heap.size ≠ w3.heap.size := by omega
        have q1 : w.heap.size ≤ w27.heap.size := (show Tch N0 w w27 from by assumption).size
        have q2 : w.heap.size ≤ w23.heap.size := (show Tch N0 w w23 from by assumption).size
        have q3 : w.heap.size ≤ w3.heap.size := (show Tch N0 w w3 from by assumption).size
        refine W_region (by kernel_rfl) ?_
        refine seg3 (ρ' := upd (upd (upd (upd (upd (upd (upd (upd (upd (upd (upd (upd (upd (upd (upd (upd (upd (upd (ini [.int .i64 n]) 2 (.pointer none)) 5 (.int .i64 n)) 6 (.bool false)) 7 (.bool false)) 8 (.int .i64 n)) 9 (.bool (decide (n > 1048576)))) 10 (.bool (decide (n > 1048576)))) 0 (.int .i64 0)) 11 (.int .i64 0)) 13 (.int .i64 0)) 14 (.slice (some ⟨w3.heap.size, 0, none⟩) 0 0)) 12 (.slice (some ⟨w23.heap.size, 0, none⟩) 0 0)) 15 (.agg #[.slice none 0 0, .slice (some ⟨w23.heap.size, 0, none⟩) 0 0, .slice (some ⟨w3.heap.size, 0, none⟩) 0 0])) 16 (.pointer (some ⟨w27.heap.size, 0, none⟩))) 3 (.pointer (some ⟨w27.heap.size, 0, none⟩))) 17 (.pointer (some ⟨w27.heap.size, 0, none⟩))) 18 (.pointer (some ⟨w27.heap.size, 0, none⟩))) 19 (.pointer (some ⟨w27.heap.size, 1, none⟩))) (by kernel_rfl) ?_
        refine st (by rfl) (S_val (v := .slice (some ⟨w23.heap.size, 0, none⟩) 0 0) (R_load (v := .slice (some ⟨w23.heap.size, 0, none⟩) 0 0) (by kernel_rfl) (by kernel_rfl) ((hP.cell 1).trans rfl)) ?_)
        refine seg2 (ρ' := upd (upd (upd (upd (upd (upd (upd (upd (upd (upd (upd (upd (upd (upd (upd (upd (upd (upd (upd (upd (upd (ini [.int .i64 n]) 2 (.pointer none)) 5 (.int .i64 n)) 6 (.bool false)) 7 (.bool false)) 8 (.int .i64 n)) 9 (.bool (decide (n > 1048576)))) 10 (.bool (decide (n > 1048576)))) 0 (.int .i64 0)) 11 (.int .i64 0)) 13 (.int .i64 0)) 14 (.slice (some ⟨w3.heap.size, 0, none⟩) 0 0)) 12 (.slice (some ⟨w23.heap.size, 0, none⟩) 0 0)) 15 (.agg #[.slice none 0 0, .slice (some ⟨w23.heap.size, 0, none⟩) 0 0, .slice (some ⟨w3.heap.size, 0, none⟩) 0 0])) 16 (.pointer (some ⟨w27.heap.size, 0, none⟩))) 3 (.pointer (some ⟨w27.heap.size, 0, none⟩))) 17 (.pointer (some ⟨w27.heap.size, 0, none⟩))) 18 (.pointer (some ⟨w27.heap.size, 0, none⟩))) 19 (.pointer (some ⟨w27.heap.size, 1, none⟩))) 20 (.slice (some ⟨w23.heap.size, 0, none⟩) 0 0)) 21 (.int .i64 0)) 22 (.int .i64 0)) (by kernel_rfl) ?_
        refine op_nil ?_
        refine W_block ?_
        refine W_loop (fun m ρ w' => ∃ (at2 : List Int) (v : Nat) (ρ0 : Env), ρ = updL ρ0 [(3, .pointer (some ⟨w27.heap.size, 0, none⟩)), (21, .int .i64 0), (22, .int .i64 ((v : Nat) : Int))] ∧ (at2.length = 0) ∧ (∀ j, j < v → j < 0 → at2.getD j 0 = -1) ∧ (v ≤ 0) ∧ Tch N0 w w' ∧ Blk w' (w27.heap.size) 53 [.slice none 0 0, .slice (some ⟨w23.heap.size, 0, none⟩) 0 0, .slice (some ⟨w3.heap.size, 0, none⟩) 0 0] ∧ Blk w' (w23.heap.size) 3 (ints .i64 at2) ∧ Blk w' (w3.heap.size) 3 (ints .i64 (List.replicate 0 (0 : Int))) ∧ m = 0 - v) (m := 0 - 0) ?_ ?_
        · refine ⟨List.replicate 0 0, 0, _, updL_self (by kernel_rfl), by simp, by intro j h; omega, by omega, hT0, hP, hT, hC, rfl⟩
        · rintro m ρ w35 ⟨at2, v, ρ, rfl, h1, h2, h3, hT0, hP, hT, hC, rfl⟩
          refine W_seq ?_
          refine W_region (by kernel_rfl) ?_
          refine seg1 (ρ' := upd (updL ρ [(3, .pointer (some ⟨w27.heap.size, 0, none⟩)), (21, .int .i64 0), (22, .int .i64 ((v : Nat) : Int))]) 23 (.bool (decide (((v : Nat) : Int) < 0)))) (by kernel_rfl) ?_
          refine op_nil ?_
          refine W_seq ?_
          refine W_cond (decide (((v : Nat) : Int) < 0)) (by kernel_rfl) (by kernel_rfl) (fun hc36 => ?_) (fun hc36 => ?_)
          · replace hc36 : ((v : Nat) : Int) < 0 := (of_decide_eq_true hc36)
            refine W_skip ?_
            refine W_seq ?_
            refine W_block ?_
            refine W_seq ?_
            refine W_region (by kernel_rfl) ?_
            refine seg2 (ρ' := upd (upd (upd (updL ρ [(3, .pointer (some ⟨w27.heap.size, 0, none⟩)), (21, .int .i64 0), (22, .int .i64 ((v : Nat) : Int))]) 23 (.bool (decide (((v : Nat) : Int) < 0)))) 24 (.int .i64 ((v : Nat) : Int))) 4 (.int .i64 ((v : Nat) : Int))) (by kernel_rfl) ?_
            refine op_nil ?_
            refine W_region (by kernel_rfl) ?_
            refine seg3 (ρ' := upd (upd (upd (upd (upd (upd (updL ρ [(3, .pointer (some ⟨w27.heap.size, 0, none⟩)), (21, .int .i64 0), (22, .int .i64 ((v : Nat) : Int))]) 23 (.bool (decide (((v : Nat) : Int) < 0)))) 24 (.int .i64 ((v : Nat) : Int))) 4 (.int .i64 ((v : Nat) : Int))) 25 (.pointer (some ⟨w27.heap.size, 0, none⟩))) 26 (.pointer (some ⟨w27.heap.size, 0, none⟩))) 27 (.pointer (some ⟨w27.heap.size, 1, none⟩))) (by kernel_rfl) ?_
            refine st (by rfl) (S_val (v := .slice (some ⟨w23.heap.size, 0, none⟩) 0 0) (R_load (v := .slice (some ⟨w23.heap.size, 0, none⟩) 0 0) (by kernel_rfl) (by kernel_rfl) ((hP.cell 1).trans rfl)) ?_)
            refine seg1 (ρ' := upd (upd (upd (upd (upd (upd (upd (upd (updL ρ [(3, .pointer (some ⟨w27.heap.size, 0, none⟩)), (21, .int .i64 0), (22, .int .i64 ((v : Nat) : Int))]) 23 (.bool (decide (((v : Nat) : Int) < 0)))) 24 (.int .i64 ((v : Nat) : Int))) 4 (.int .i64 ((v : Nat) : Int))) 25 (.pointer (some ⟨w27.heap.size, 0, none⟩))) 26 (.pointer (some ⟨w27.heap.size, 0, none⟩))) 27 (.pointer (some ⟨w27.heap.size, 1, none⟩))) 28 (.slice (some ⟨w23.heap.size, 0, none⟩) 0 0)) 29 (.int .i64 ((v : Nat) : Int))) (by kernel_rfl) ?_
            refine stv (v := .pointer (some ⟨w23.heap.size, v, none⟩)) (by rfl) (R_index0 (b := w23.heap.size) (len := 0) (cap := 0) (k := .i64) (i := ((v : Nat) : Int)) (e := 3) v (by kernel_rfl) (by kernel_rfl) (by kernel_rfl) (by kernel_rfl) rfl (by first | omega | (simp only [List.length_set, List.length_map]; omega))) ?_
            refine st (by rfl) (S_store (b := w23.heap.size) (j := v) (v := .int .i64 (-1)) (by kernel_rfl) (by kernel_rfl) (by kernel_rfl) (by rfl) hT (by rw [ints_length]; first | omega | (simp only [List.length_set, List.length_map]; omega)) fun w37 hT38 hs39 hT' => ?_)
            have hT0 := (hT0).then hT38 (fun c e => by have : c = w23.heap.size := e; omega)
            have hP := hP.tch hT38 (fun e => by have : w27.heap.size = w23.heap.size := e; omega)
            have hC := hC.tch hT38 (fun e => by have : w3.heap.size = w23.heap.size := e; omega)
            replace hT : Blk w37 (w23.heap.size) 3 (ints .i64 (at2.set v (-1))) := by rw [← ints_set]; exact hT'
            refine op_nil ?_
            refine W_region (by kernel_rfl) ?_
            refine seg1 (ρ' := upd (upd (upd (upd (upd (upd (upd (upd (upd (upd (updL ρ [(3, .pointer (some ⟨w27.heap.size, 0, none⟩)), (21, .int .i64 0), (22, .int .i64 ((v : Nat) : Int))]) 23 (.bool (decide (((v : Nat) : Int) < 0)))) 24 (.int .i64 ((v : Nat) : Int))) 4 (.int .i64 ((v : Nat) : Int))) 25 (.pointer (some ⟨w27.heap.size, 0, none⟩))) 26 (.pointer (some ⟨w27.heap.size, 0, none⟩))) 27 (.pointer (some ⟨w27.heap.size, 1, none⟩))) 28 (.slice (some ⟨w23.heap.size, 0, none⟩) 0 0)) 29 (.int .i64 ((v : Nat) : Int))) 30 (.pointer (some ⟨w23.heap.size, v, none⟩))) 31 (.int .i64 (IntKind.i64.wrap (((v : Nat) : Int) + 1)))) (by kernel_rfl) ?_
            rw [show IntKind.i64.wrap (((v : Nat) : Int) + 1) = ((v : Nat) : Int) + 1 from wrap_i64 (by omega) (by omega)]
            rw [show upd (upd (upd (upd (upd (upd (upd (upd (upd (upd (updL ρ [(3, .pointer (some ⟨w27.heap.size, 0, none⟩)), (21, .int .i64 0), (22, .int .i64 ((v : Nat) : Int))]) 23 (.bool (decide (((v : Nat) : Int) < 0)))) 24 (.int .i64 ((v : Nat) : Int))) 4 (.int .i64 ((v : Nat) : Int))) 25 (.pointer (some ⟨w27.heap.size, 0, none⟩))) 26 (.pointer (some ⟨w27.heap.size, 0, none⟩))) 27 (.pointer (some ⟨w27.heap.size, 1, none⟩))) 28 (.slice (some ⟨w23.heap.size, 0, none⟩) 0 0)) 29 (.int .i64 ((v : Nat) : Int))) 30 (.pointer (some ⟨w23.heap.size, v, none⟩))) 31 (.int .i64 (((v : Nat) : Int) + 1)) = upd (upd (upd (upd (upd (upd (upd (upd (upd (upd (updL ρ [(3, .pointer (some ⟨w27.heap.size, 0, none⟩)), (21, .int .i64 0), (22, .int .i64 ((v : Nat) : Int))]) 23 (.bool (decide (((v : Nat) : Int) < 0)))) 24 (.int .i64 ((v : Nat) : Int))) 4 (.int .i64 ((v : Nat) : Int))) 25 (.pointer (some ⟨w27.heap.size, 0, none⟩))) 26 (.pointer (some ⟨w27.heap.size, 0, none⟩))) 27 (.pointer (some ⟨w27.heap.size, 1, none⟩))) 28 (.slice (some ⟨w23.heap.size, 0, none⟩) 0 0)) 29 (.int .i64 ((v : Nat) : Int))) 30 (.pointer (some ⟨w23.heap.size, v, none⟩))) 31 (.int .i64 ((v + 1 : Nat) : Int)) from congrArg (fun z => upd (upd (upd (upd (upd (upd (upd (upd (upd (upd (updL ρ [(3, .pointer (some ⟨w27.heap.size, 0, none⟩)), (21, .int .i64 0), (22, .int .i64 ((v : Nat) : Int))]) 23 (.bool (decide (((v : Nat) : Int) < 0)))) 24 (.int .i64 ((v : Nat) : Int))) 4 (.int .i64 ((v : Nat) : Int))) 25 (.pointer (some ⟨w27.heap.size, 0, none⟩))) 26 (.pointer (some ⟨w27.heap.size, 0, none⟩))) 27 (.pointer (some ⟨w27.heap.size, 1, none⟩))) 28 (.slice (some ⟨w23.heap.size, 0, none⟩) 0 0)) 29 (.int .i64 ((v : Nat) : Int))) 30 (.pointer (some ⟨w23.heap.size, v, none⟩))) 31 (.int .i64 z)) (by omega)]
            refine seg1 (ρ' := upd (upd (upd (upd (upd (upd (upd (upd (upd (upd (upd (updL ρ [(3, .pointer (some ⟨w27.heap.size, 0, none⟩)), (21, .int .i64 0), (22, .int .i64 ((v : Nat) : Int))]) 23 (.bool (decide (((v : Nat) : Int) < 0)))) 24 (.int .i64 ((v : Nat) : Int))) 4 (.int .i64 ((v : Nat) : Int))) 25 (.pointer (some ⟨w27.heap.size, 0, none⟩))) 26 (.pointer (some ⟨w27.heap.size, 0, none⟩))) 27 (.pointer (some ⟨w27.heap.size, 1, none⟩))) 28 (.slice (some ⟨w23.heap.size, 0, none⟩) 0 0)) 29 (.int .i64 ((v : Nat) : Int))) 30 (.pointer (some ⟨w23.heap.size, v, none⟩))) 31 (.int .i64 ((v + 1 : Nat) : Int))) 22 (.int .i64 ((v + 1 : Nat) : Int))) (by kernel_rfl) ?_
            refine op_nil ?_
            refine ⟨_, ?_, at2.set v (-1), v + 1, _, updL_self (by kernel_rfl), ?_, ?_, ?_, hT0, hP, hT, hC, rfl⟩
            · omega
            · rw [List.length_set]; exact h1
            · exact HeapP.new_step h1 (by omega) h2
            · omega
          · replace hc36 : 0 ≤ ((v : Nat) : Int) := (Int.not_lt.1 (of_decide_eq_false hc36))
            refine W_exit ?_
            refine X_hit ?_
            refine W_seq ?_
            refine W_region (by kernel_rfl) ?_
            refine seg2 (ρ' := upd (upd (upd (updL ρ [(3, .pointer (some ⟨w27.heap.size, 0, none⟩)), (21, .int .i64 0), (22, .int .i64 ((v : Nat) : Int))]) 23 (.bool (decide (((v : Nat) : Int) < 0)))) 32 (.pointer (some ⟨w27.heap.size, 0, none⟩))) 2 (.pointer (some ⟨w27.heap.size, 0, none⟩))) (by kernel_rfl) ?_
            refine op_nil ?_
            refine W_ret ?_
            refine ⟨_, Res_of (v := .pointer (some ⟨w27.heap.size, 0, none⟩)) (by kernel_rfl), ?_⟩
            refine ⟨fun b => b = w27.heap.size ∨ b = w23.heap.size ∨ b = w3.heap.size, _, rfl, ⟨none, 0, w23.heap.size, w3.heap.size, at2, hP, Own.nil_ _ _ _ _, hT, hC, (fun c e => by cases e), n6, .inl rfl, .inr (.inl rfl), .inr (.inr rfl), ?_, h1, by simp, by omega, (fun x hx => by simp at hx), HeapP.new_end h1 (by omega) h2, ?_, (fun j _ hj => by simp at hj)⟩, hT0, ?_⟩
            · rintro b (rfl | rfl | rfl)
              · exact hP.lt
              · exact hT.lt
              · exact hC.lt
            · intro j; simp only [List.getD_eq_getElem?_getD, List.getElem?_replicate]; split <;> simp
            · rintro b (rfl | rfl | rfl)
              · exact q1
              · exact q2
              · exact q3
    · replace hc2 : n ≤ 1048576 := (Int.not_lt.1 (of_decide_eq_false hc2))
      exfalso; omega
  · replace hb1 : n < 0 := (of_decide_eq_true hb1)
    refine seg3 (ρ' := upd (upd (upd (upd (upd (upd (upd (ini [.int .i64 n]) 2 (.pointer none)) 5 (.int .i64 n)) 6 (.bool true)) 7 (.bool true)) 8 (undef)) 9 (undef)) 10 (.bool true)) (by kernel_rfl) ?_
    refine op_nil ?_
    refine W_cond true (by kernel_rfl) (by kernel_rfl) (fun _ => ?_) (fun h => nomatch h)
    refine W_region (by kernel_rfl) ?_
    refine seg1 (ρ' := upd (upd (upd (upd (upd (upd (upd (upd (ini [.int .i64 n]) 2 (.pointer none)) 5 (.int .i64 n)) 6 (.bool true)) 7 (.bool true)) 8 (undef)) 9 (undef)) 10 (.bool true)) 0 (.int .i64 0)) (by kernel_rfl) ?_
    refine op_nil ?_
    refine W_seq ?_
    refine W_draw (fun w' => True) (by kernel_rfl) (by kernel_rfl) (by kernel_rfl) fun w40 hT41 hh42 => ?_
    have hT0 := hT41
    refine d_takes [0, 2] (listed' := #[true, false, true, false, false, false, false]) (ρ' := upd (upd (upd (upd (upd (upd (upd (upd (upd (upd (ini [.int .i64 n]) 2 (.pointer none)) 5 (.int .i64 n)) 6 (.bool true)) 7 (.bool true)) 8 (undef)) 9 (undef)) 10 (.bool true)) 0 (.int .i64 0)) 11 (.int .i64 0)) 13 (.int .i64 0)) trivial (by kernel_rfl) ?_
    refine d_two 1 3 (by kernel_rfl) (by rfl) (by rfl) (by kernel_rfl) (by kernel_rfl) ?_ ?_
    · refine (S_make 26 3 (.int .i64 0) 1 8 (k1 := .i64) (k2 := .i64) (l := 0) (c := 0) (by kernel_rfl) (by kernel_rfl) (by kernel_rfl) (by kernel_rfl) (by omega) (by omega) (by omega) (by omega) fun w43 hT44 hs45 hB46 => ?_)
      have hT0 := hT0.t0 hT44
      rw [madeOne _ rfl] at hB46
      rw [Nat.mul_one] at hB46
      replace hB46 : Blk w43 (w40.heap.size) 3 (ints .i64 (List.replicate 0 (0 : Int))) := by simpa [ints, boolsV] using hB46
      refine ⟨trivial, ?_⟩
      refine d_one 3 (by kernel_rfl) (by rfl) (by kernel_rfl) (S_make 26 3 (.int .i64 0) 1 8 (k1 := .i64) (k2 := .i64) (l := 0) (c := 0) (by kernel_rfl) (by kernel_rfl) (by kernel_rfl) (by kernel_rfl) (by omega) (by omega) (by omega) (by omega) fun w47 hT48 hs49 hB50 => ?_)
      have hT0 := hT0.t0 hT48
      have hB46 := hB46.tch0 hT48
      rw [madeOne _ rfl] at hB50
      rw [Nat.mul_one] at hB50
      replace hB50 : Blk w47 (w43.heap.size) 3 (ints .i64 (List.replicate 0 (0 : Int))) := by simpa [ints, boolsV] using hB50
      refine ⟨trivial, ?_⟩
      refine d_takes [4] (listed' := #[true, true, true, true, true, false, false]) (ρ' := upd (upd (upd (upd (upd (upd (upd (upd (upd (upd (upd (upd (upd (ini [.int .i64 n]) 2 (.pointer none)) 5 (.int .i64 n)) 6 (.bool true)) 7 (.bool true)) 8 (undef)) 9 (undef)) 10 (.bool true)) 0 (.int .i64 0)) 11 (.int .i64 0)) 13 (.int .i64 0)) 12 (.slice (some ⟨w40.heap.size, 0, none⟩) 0 0)) 14 (.slice (some ⟨w43.heap.size, 0, none⟩) 0 0)) 15 (.agg #[.slice none 0 0, .slice (some ⟨w40.heap.size, 0, none⟩) 0 0, .slice (some ⟨w43.heap.size, 0, none⟩) 0 0])) trivial (by kernel_rfl) ?_
      refine d_one 5 (by kernel_rfl) (by rfl) (by kernel_rfl) (S_new (v := .pointer (some ⟨w47.heap.size, 0, none⟩)) (ob := .cells #[.slice none 0 0, .slice (some ⟨w40.heap.size, 0, none⟩) 0 0, .slice (some ⟨w43.heap.size, 0, none⟩) 0 0] 53) (by kernel_rfl) fun w51 hT52 hs53 hB54 => ?_)
      replace hB54 : Blk w51 (w47.heap.size) 53 [.slice none 0 0, .slice (some ⟨w40.heap.size, 0, none⟩) 0 0, .slice (some ⟨w43.heap.size, 0, none⟩) 0 0] := hB54
      have hT0 := hT0.t0 hT52
      have hB46 := hB46.tch0 hT52
      have hB50 := hB50.tch0 hT52
      refine ⟨trivial, ?_⟩
      refine d_takes [6] (listed' := #[true, true, true, true, true, true, true]) (ρ' := upd (upd (upd (upd (upd (upd (upd (upd (upd (upd (upd (upd (upd (upd (upd (ini [.int .i64 n]) 2 (.pointer none)) 5 (.int .i64 n)) 6 (.bool true)) 7 (.bool true)) 8 (undef)) 9 (undef)) 10 (.bool true)) 0 (.int .i64 0)) 11 (.int .i64 0)) 13 (.int .i64 0)) 12 (.slice (some ⟨w40.heap.size, 0, none⟩) 0 0)) 14 (.slice (some ⟨w43.heap.size, 0, none⟩) 0 0)) 15 (.agg #[.slice none 0 0, .slice (some ⟨w40.heap.size, 0, none⟩) 0 0, .slice (some ⟨w43.heap.size, 0, none⟩) 0 0])) 16 (.pointer (some ⟨w47.heap.size, 0, none⟩))) 3 (.pointer (some ⟨w47.heap.size, 0, none⟩))) trivial (by kernel_rfl) ?_
      refine d_done (by kernel_rfl) ?_
      refine W_seq ?_
      refine W_seq ?_
      have hT := hB46
      have hC := hB50
      have hP := hB54
      have n2 : w47.heap.size ≠ w40.heap.size := hP.ne hT (by decide)
      have n3 : w47.heap.size ≠ w43.heap.size := hP.ne hC (by decide)
      have n6 : w40.heap.size ≠ w43.heap.size := by omega
      have q1 : w.heap.size ≤ w47.heap.size := (show Tch N0 w w47 from by assumption).size
      have q2 : w.heap.size ≤ w40.heap.size := (show Tch N0 w w40 from by assumption).size
      have q3 : w.heap.size ≤ w43.heap.size := (show Tch N0 w w43 from by assumption).size
      refine W_region (by kernel_rfl) ?_
      refine seg3 (ρ' := upd (upd (upd (upd (upd (upd (upd (upd (upd (upd (upd (upd (upd (upd (upd (upd (upd (upd (ini [.int .i64 n]) 2 (.pointer none)) 5 (.int .i64 n)) 6 (.bool true)) 7 (.bool true)) 8 (undef)) 9 (undef)) 10 (.bool true)) 0 (.int .i64 0)) 11 (.int .i64 0)) 13 (.int .i64 0)) 12 (.slice (some ⟨w40.heap.size, 0, none⟩) 0 0)) 14 (.slice (some ⟨w43.heap.size, 0, none⟩) 0 0)) 15 (.agg #[.slice none 0 0, .slice (some ⟨w40.heap.size, 0, none⟩) 0 0, .slice (some ⟨w43.heap.size, 0, none⟩) 0 0])) 16 (.pointer (some ⟨w47.heap.size, 0, none⟩))) 3 (.pointer (some ⟨w47.heap.size, 0, none⟩))) 17 (.pointer (some ⟨w47.heap.size, 0, none⟩))) 18 (.pointer (some ⟨w47.heap.size, 0, none⟩))) 19 (.pointer (some ⟨w47.heap.size, 1, none⟩))) (by kernel_rfl) ?_
      refine st (by rfl) (S_val (v := .slice (some ⟨w40.heap.size, 0, none⟩) 0 0) (R_load (v := .slice (some ⟨w40.heap.size, 0, none⟩) 0 0) (by kernel_rfl) (by kernel_rfl) ((hP.cell 1).trans rfl)) ?_)
      refine seg2 (ρ' := upd (upd (upd (upd (upd (upd (upd (upd (upd (upd (upd (upd (upd (upd (upd (upd (upd (upd (upd (upd (upd (ini [.int .i64 n]) 2 (.pointer none)) 5 (.int .i64 n)) 6 (.bool true)) 7 (.bool true)) 8 (undef)) 9 (undef)) 10 (.bool true)) 0 (.int .i64 0)) 11 (.int .i64 0)) 13 (.int .i64 0)) 12 (.slice (some ⟨w40.heap.size, 0, none⟩) 0 0)) 14 (.slice (some ⟨w43.heap.size, 0, none⟩) 0 0)) 15 (.agg #[.slice none 0 0, .slice (some ⟨w40.heap.size, 0, none⟩) 0 0, .slice (some ⟨w43.heap.size, 0, none⟩) 0 0])) 16 (.pointer (some ⟨w47.heap.size, 0, none⟩))) 3 (.pointer (some ⟨w47.heap.size, 0, none⟩))) 17 (.pointer (some ⟨w47.heap.size, 0, none⟩))) 18 (.pointer (some ⟨w47.heap.size, 0, none⟩))) 19 (.pointer (some ⟨w47.heap.size, 1, none⟩))) 20 (.slice (some ⟨w40.heap.size, 0, none⟩) 0 0)) 21 (.int .i64 0)) 22 (.int .i64 0)) (by kernel_rfl) ?_
      refine op_nil ?_
      refine W_block ?_
      refine W_loop (fun m ρ w' => ∃ (at2 : List Int) (v : Nat) (ρ0 : Env), ρ = updL ρ0 [(3, .pointer (some ⟨w47.heap.size, 0, none⟩)), (21, .int .i64 0), (22, .int .i64 ((v : Nat) : Int))] ∧ (at2.length = 0) ∧ (∀ j, j < v → j < 0 → at2.getD j 0 = -1) ∧ (v ≤ 0) ∧ Tch N0 w w' ∧ Blk w' (w47.heap.size) 53 [.slice none 0 0, .slice (some ⟨w40.heap.size, 0, none⟩) 0 0, .slice (some ⟨w43.heap.size, 0, none⟩) 0 0] ∧ Blk w' (w40.heap.size) 3 (ints .i64 at2) ∧ Blk w' (w43.heap.size) 3 (ints .i64 (List.replicate 0 (0 : Int))) ∧ m = 0 - v) (m := 0 - 0) ?_ ?_
      · refine ⟨List.replicate 0 0, 0, _, updL_self (by kernel_rfl), by simp, by intro j h; omega, by omega, hT0, hP, hT, hC, rfl⟩
      · rintro m ρ w55 ⟨at2, v, ρ, rfl, h1, h2, h3, hT0, hP, hT, hC, rfl⟩
        refine W_seq ?_
        refine W_region (by kernel_rfl) ?_
        refine seg1 (ρ' := upd (updL ρ [(3, .pointer (some ⟨w47.heap.size, 0, none⟩)), (21, .int .i64 0), (22, .int .i64 ((v : Nat) : Int))]) 23 (.bool (decide (((v : Nat) : Int) < 0)))) (by kernel_rfl) ?_
        refine op_nil ?_
        refine W_seq ?_
        refine W_cond (decide (((v : Nat) : Int) < 0)) (by kernel_rfl) (by kernel_rfl) (fun hc56 => ?_) (fun hc56 => ?_)
        · replace hc56 : ((v : Nat) : Int) < 0 := (of_decide_eq_true hc56)
          refine W_skip ?_
          refine W_seq ?_
          refine W_block ?_
          refine W_seq ?_
          refine W_region (by kernel_rfl) ?_
          refine seg2 (ρ' := upd (upd (upd (updL ρ [(3, .pointer (some ⟨w47.heap.size, 0, none⟩)), (21, .int .i64 0), (22, .int .i64 ((v : Nat) : Int))]) 23 (.bool (decide (((v : Nat) : Int) < 0)))) 24 (.int .i64 ((v : Nat) : Int))) 4 (.int .i64 ((v : Nat) : Int))) (by kernel_rfl) ?_
          refine op_nil ?_
          refine W_region (by kernel_rfl) ?_
          refine seg3 (ρ' := upd (upd (upd (upd (upd (upd (updL ρ [(3, .pointer (some ⟨w47.heap.size, 0, none⟩)), (21, .int .i64 0), (22, .int .i64 ((v : Nat) : Int))]) 23 (.bool (decide (((v : Nat) : Int) < 0)))) 24 (.int .i64 ((v : Nat) : Int))) 4 (.int .i64 ((v : Nat) : Int))) 25 (.pointer (some ⟨w47.heap.size, 0, none⟩))) 26 (.pointer (some ⟨w47.heap.size, 0, none⟩))) 27 (.pointer (some ⟨w47.heap.size, 1, none⟩))) (by kernel_rfl) ?_
          refine st (by rfl) (S_val (v := .slice (some ⟨w40.heap.size, 0, none⟩) 0 0) (R_load (v := .slice (some ⟨w40.heap.size, 0, none⟩) 0 0) (by kernel_rfl) (by kernel_rfl) ((hP.cell 1).trans rfl)) ?_)
          refine seg1 (ρ' := upd (upd (upd (upd (upd (upd (upd (upd (updL ρ [(3, .pointer (some ⟨w47.heap.size, 0, none⟩)), (21, .int .i64 0), (22, .int .i64 ((v : Nat) : Int))]) 23 (.bool (decide (((v : Nat) : Int) < 0)))) 24 (.int .i64 ((v : Nat) : Int))) 4 (.int .i64 ((v : Nat) : Int))) 25 (.pointer (some ⟨w47.heap.size, 0, none⟩))) 26 (.pointer (some ⟨w47.heap.size, 0, none⟩))) 27 (.pointer (some ⟨w47.heap.size, 1, none⟩))) 28 (.slice (some ⟨w40.heap.size, 0, none⟩) 0 0)) 29 (.int .i64 ((v : Nat) : Int))) (by kernel_rfl) ?_
          refine stv (v := .pointer (some ⟨w40.heap.size, v, none⟩)) (by rfl) (R_index0 (b := w40.heap.size) (len := 0) (cap := 0) (k := .i64) (i := ((v : Nat) : Int)) (e := 3) v (by kernel_rfl) (by kernel_rfl) (by kernel_rfl) (by kernel_rfl) rfl (by first | omega | (simp only [List.length_set, List.length_map]; omega))) ?_
          refine st (by rfl) (S_store (b := w40.heap.size) (j := v) (v := .int .i64 (-1)) (by kernel_rfl) (by kernel_rfl) (by kernel_rfl) (by rfl) hT (by rw [ints_length]; first | omega | (simp only [List.length_set, List.length_map]; omega)) fun w57 hT58 hs59 hT' => ?_)
          have hT0 := (hT0).then hT58 (fun c e => by have : c = w40.heap.size := e; omega)
          have hP := hP.tch hT58 (fun e => by have : w47.heap.size = w40.heap.size := e; omega)
          have hC := hC.tch hT58 (fun e => by have : w43.heap.size = w40.heap.size := e; omega)
          replace hT : Blk w57 (w40.heap.size) 3 (ints .i64 (at2.set v (-1))) := by rw [← ints_set]; exact hT'
          refine op_nil ?_
          refine W_region (by kernel_rfl) ?_
          refine seg1 (ρ' := upd (upd (upd (upd (upd (upd (upd (upd (upd (upd (updL ρ [(3, .pointer (some ⟨w47.heap.size, 0, none⟩)), (21, .int .i64 0), (22, .int .i64 ((v : Nat) : Int))]) 23 (.bool (decide (((v : Nat) : Int) < 0)))) 24 (.int .i64 ((v : Nat) : Int))) 4 (.int .i64 ((v : Nat) : Int))) 25 (.pointer (some ⟨w47.heap.size, 0, none⟩))) 26 (.pointer (some ⟨w47.heap.size, 0, none⟩))) 27 (.pointer (some ⟨w47.heap.size, 1, none⟩))) 28 (.slice (some ⟨w40.heap.size, 0, none⟩) 0 0)) 29 (.int .i64 ((v : Nat) : Int))) 30 (.pointer (some ⟨w40.heap.size, v, none⟩))) 31 (.int .i64 (IntKind.i64.wrap (((v : Nat) : Int) + 1)))) (by kernel_rfl) ?_
          rw [show IntKind.i64.wrap (((v : Nat) : Int) + 1) = ((v : Nat) : Int) + 1 from wrap_i64 (by omega) (by omega)]
          rw [show upd (upd (upd (upd (upd (upd (upd (upd (upd (upd (updL ρ [(3, .pointer (some ⟨w47.heap.size, 0, none⟩)), (21, .int .i64 0), (22, .int .i64 ((v : Nat) : Int))]) 23 (.bool (decide (((v : Nat) : Int) < 0)))) 24 (.int .i64 ((v : Nat) : Int))) 4 (.int .i64 ((v : Nat) : Int))) 25 (.pointer (some ⟨w47.heap.size, 0, none⟩))) 26 (.pointer (some ⟨w47.heap.size, 0, none⟩))) 27 (.pointer (some ⟨w47.heap.size, 1, none⟩))) 28 (.slice (some ⟨w40.heap.size, 0, none⟩) 0 0)) 29 (.int .i64 ((v : Nat) : Int))) 30 (.pointer (some ⟨w40.heap.size, v, none⟩))) 31 (.int .i64 (((v : Nat) : Int) + 1)) = upd (upd (upd (upd (upd (upd (upd (upd (upd (upd (updL ρ [(3, .pointer (some ⟨w47.heap.size, 0, none⟩)), (21, .int .i64 0), (22, .int .i64 ((v : Nat) : Int))]) 23 (.bool (decide (((v : Nat) : Int) < 0)))) 24 (.int .i64 ((v : Nat) : Int))) 4 (.int .i64 ((v : Nat) : Int))) 25 (.pointer (some ⟨w47.heap.size, 0, none⟩))) 26 (.pointer (some ⟨w47.heap.size, 0, none⟩))) 27 (.pointer (some ⟨w47.heap.size, 1, none⟩))) 28 (.slice (some ⟨w40.heap.size, 0, none⟩) 0 0)) 29 (.int .i64 ((v : Nat) : Int))) 30 (.pointer (some ⟨w40.heap.size, v, none⟩))) 31 (.int .i64 ((v + 1 : Nat) : Int)) from congrArg (fun z => upd (upd (upd (upd (upd (upd (upd (upd (upd (upd (updL ρ [(3, .pointer (some ⟨w47.heap.size, 0, none⟩)), (21, .int .i64 0), (22, .int .i64 ((v : Nat) : Int))]) 23 (.bool (decide (((v : Nat) : Int) < 0)))) 24 (.int .i64 ((v : Nat) : Int))) 4 (.int .i64 ((v : Nat) : Int))) 25 (.pointer (some ⟨w47.heap.size, 0, none⟩))) 26 (.pointer (some ⟨w47.heap.size, 0, none⟩))) 27 (.pointer (some ⟨w47.heap.size, 1, none⟩))) 28 (.slice (some ⟨w40.heap.size, 0, none⟩) 0 0)) 29 (.int .i64 ((v : Nat) : Int))) 30 (.pointer (some ⟨w40.heap.size, v, none⟩))) 31 (.int .i64 z)) (by omega)]
          refine seg1 (ρ' := upd (upd (upd (upd (upd (upd (upd (upd (upd (upd (upd (updL ρ [(3, .pointer (some ⟨w47.heap.size, 0, none⟩)), (21, .int .i64 0), (22, .int .i64 ((v : Nat) : Int))]) 23 (.bool (decide (((v : Nat) : Int) < 0)))) 24 (.int .i64 ((v : Nat) : Int))) 4 (.int .i64 ((v : Nat) : Int))) 25 (.pointer (some ⟨w47.heap.size, 0, none⟩))) 26 (.pointer (some ⟨w47.heap.size, 0, none⟩))) 27 (.pointer (some ⟨w47.heap.size, 1, none⟩))) 28 (.slice (some ⟨w40.heap.size, 0, none⟩) 0 0)) 29 (.int .i64 ((v : Nat) : Int))) 30 (.pointer (some ⟨w40.heap.size, v, none⟩))) 31 (.int .i64 ((v + 1 : Nat) : Int))) 22 (.int .i64 ((v + 1 : Nat) : Int))) (by kernel_rfl) ?_
          refine op_nil ?_
          refine ⟨_, ?_, at2.set v (-1), v + 1, _, updL_self (by kernel_rfl), ?_, ?_, ?_, hT0, hP, hT, hC, rfl⟩
          · omega
          · rw [List.length_set]; exact h1
          · exact HeapP.new_step h1 (by omega) h2
          · omega
        · replace hc56 : 0 ≤ ((v : Nat) : Int) := (Int.not_lt.1 (of_decide_eq_false hc56))
          refine W_exit ?_
          refine X_hit ?_
          refine W_seq ?_
          refine W_region (by kernel_rfl) ?_
          refine seg2 (ρ' := upd (upd (upd (updL ρ [(3, .pointer (some ⟨w47.heap.size, 0, none⟩)), (21, .int .i64 0), (22, .int .i64 ((v : Nat) : Int))]) 23 (.bool (decide (((v : Nat) : Int) < 0)))) 32 (.pointer (some ⟨w47.heap.size, 0, none⟩))) 2 (.pointer (some ⟨w47.heap.size, 0, none⟩))) (by kernel_rfl) ?_
          refine op_nil ?_
          refine W_ret ?_
          refine ⟨_, Res_of (v := .pointer (some ⟨w47.heap.size, 0, none⟩)) (by kernel_rfl), ?_⟩
          refine ⟨fun b => b = w47.heap.size ∨ b = w40.heap.size ∨ b = w43.heap.size, _, rfl, ⟨none, 0, w40.heap.size, w43.heap.size, at2, hP, Own.nil_ _ _ _ _, hT, hC, (fun c e => by cases e), n6, .inl rfl, .inr (.inl rfl), .inr (.inr rfl), ?_, h1, by simp, by omega, (fun x hx => by simp at hx), HeapP.new_end h1 (by omega) h2, ?_, (fun j _ hj => by simp at hj)⟩, hT0, ?_⟩
          · rintro b (rfl | rfl | rfl)
            · exact hP.lt
            · exact hT.lt
            · exact hC.lt
          · intro j; simp only [List.getD_eq_getElem?_getD, List.getElem?_replicate]; split <;> simp
          · rintro b (rfl | rfl | rfl)
            · exact q1
            · exact q2
            · exact q3
    · refine (S_make 26 3 (.int .i64 0) 1 8 (k1 := .i64) (k2 := .i64) (l := 0) (c := 0) (by kernel_rfl) (by kernel_rfl) (by kernel_rfl) (by kernel_rfl) (by omega) (by omega) (by omega) (by omega) fun w60 hT61 hs62 hB63 => ?_)
      have hT0 := hT0.t0 hT61
      rw [madeOne _ rfl] at hB63
      rw [Nat.mul_one] at hB63
      replace hB63 : Blk w60 (w40.heap.size) 3 (ints .i64 (List.replicate 0 (0 : Int))) := by simpa [ints, boolsV] using hB63
      refine ⟨trivial, ?_⟩
      refine d_one 1 (by kernel_rfl) (by rfl) (by kernel_rfl) (S_make 26 3 (.int .i64 0) 1 8 (k1 := .i64) (k2 := .i64) (l := 0) (c := 0) (by kernel_rfl) (by kernel_rfl) (by kernel_rfl) (by kernel_rfl) (by omega) (by omega) (by omega) (by omega) fun w64 hT65 hs66 hB67 => ?_)
      have hT0 := hT0.t0 hT65
      have hB63 := hB63.tch0 hT65
      rw [madeOne _ rfl] at hB67
      rw [Nat.mul_one] at hB67
      replace hB67 : Blk w64 (w60.heap.size) 3 (ints .i64 (List.replicate 0 (0 : Int))) := by simpa [ints, boolsV] using hB67
      refine ⟨trivial, ?_⟩
      refine d_takes [4] (listed' := #[true, true, true, true, true, false, false]) (ρ' := upd (upd (upd (upd (upd (upd (upd (upd (upd (upd (upd (upd (upd (ini [.int .i64 n]) 2 (.pointer none)) 5 (.int .i64 n)) 6 (.bool true)) 7 (.bool true)) 8 (undef)) 9 (undef)) 10 (.bool true)) 0 (.int .i64 0)) 11 (.int .i64 0)) 13 (.int .i64 0)) 14 (.slice (some ⟨w40.heap.size, 0, none⟩) 0 0)) 12 (.slice (some ⟨w60.heap.size, 0, none⟩) 0 0)) 15 (.agg #[.slice none 0 0, .slice (some ⟨w60.heap.size, 0, none⟩) 0 0, .slice (some ⟨w40.heap.size, 0, none⟩) 0 0])) trivial (by kernel_rfl) ?_
      refine d_one 5 (by kernel_rfl) (by rfl) (by kernel_rfl) (S_new (v := .pointer (some ⟨w64.heap.size, 0, none⟩)) (ob := .cells #[.slice none 0 0, .slice (some ⟨w60.heap.size, 0, none⟩) 0 0, .slice (some ⟨w40.heap.size, 0, none⟩) 0 0] 53) (by kernel_rfl) fun w68 hT69 hs70 hB71 => ?_)
      replace hB71 : Blk w68 (w64.heap.size) 53 [.slice none 0 0, .slice (some ⟨w60.heap.size, 0, none⟩) 0 0, .slice (some ⟨w40.heap.size, 0, none⟩) 0 0] := hB71
      have hT0 := hT0.t0 hT69
      have hB63 := hB63.tch0 hT69
      have hB67 := hB67.tch0 hT69
      refine ⟨trivial, ?_⟩
      refine d_takes [6] (listed' := #[true, true, true, true, true, true, true]) (ρ' := upd (upd (upd (upd (upd (upd (upd (upd (upd (upd (upd (upd (upd (upd (upd (ini [.int .i64 n]) 2 (.pointer none)) 5 (.int .i64 n)) 6 (.bool true)) 7 (.bool true)) 8 (undef)) 9 (undef)) 10 (.bool true)) 0 (.int .i64 0)) 11 (.int .i64 0)) 13 (.int .i64 0)) 14 (.slice (some ⟨w40.heap.size, 0, none⟩) 0 0)) 12 (.slice (some ⟨w60.heap.size, 0, none⟩) 0 0)) 15 (.agg #[.slice none 0 0, .slice (some ⟨w60.heap.size, 0, none⟩) 0 0, .slice (some ⟨w40.heap.size, 0, none⟩) 0 0])) 16 (.pointer (some ⟨w64.heap.size, 0, none⟩))) 3 (.pointer (some ⟨w64.heap.size, 0, none⟩))) trivial (by kernel_rfl) ?_
      refine d_done (by kernel_rfl) ?_
      refine W_seq ?_
      refine W_seq ?_
      have hT := hB67
      have hC := hB63
      have hP := hB71
      have n2 : w64.heap.size ≠ w60.heap.size := hP.ne hT (by decide)
      have n3 : w64.heap.size ≠ w40.heap.size := hP.ne hC (by decide)
      have n6 : w60.heap.size ≠ w40.heap.size := by omega
      have q1 : w.heap.size ≤ w64.heap.size := (show Tch N0 w w64 from by assumption).size
      have q2 : w.heap.size ≤ w60.heap.size := (show Tch N0 w w60 from by assumption).size
      have q3 : w.heap.size ≤ w40.heap.size := (show Tch N0 w w40 from by assumption).size
      refine W_region (by kernel_rfl) ?_
      refine seg3 (ρ' := upd (upd (upd (upd (upd (upd (upd (upd (upd (upd (upd (upd (upd (upd (upd (upd (upd (upd (ini [.int .i64 n]) 2 (.pointer none)) 5 (.int .i64 n)) 6 (.bool true)) 7 (.bool true)) 8 (undef)) 9 (undef)) 10 (.bool true)) 0 (.int .i64 0)) 11 (.int .i64 0)) 13 (.int .i64 0)) 14 (.slice (some ⟨w40.heap.size, 0, none⟩) 0 0)) 12 (.slice (some ⟨w60.heap.size, 0, none⟩) 0 0)) 15 (.agg #[.slice none 0 0, .slice (some ⟨w60.heap.size, 0, none⟩) 0 0, .slice (some ⟨w40.heap.size, 0, none⟩) 0 0])) 16 (.pointer (some ⟨w64.heap.size, 0, none⟩))) 3 (.pointer (some ⟨w64.heap.size, 0, none⟩))) 17 (.pointer (some ⟨w64.heap.size, 0, none⟩))) 18 (.pointer (some ⟨w64.heap.size, 0, none⟩))) 19 (.pointer (some ⟨w64.heap.size, 1, none⟩))) (by kernel_rfl) ?_
      refine st (by rfl) (S_val (v := .slice (some ⟨w60.heap.size, 0, none⟩) 0 0) (R_load (v := .slice (some ⟨w60.heap.size, 0, none⟩) 0 0) (by kernel_rfl) (by kernel_rfl) ((hP.cell 1).trans rfl)) ?_)
      refine seg2 (ρ' := upd (upd (upd (upd (upd (upd (upd (upd (upd (upd (upd (upd (upd (upd (upd (upd (upd (upd (upd (upd (upd (ini [.int .i64 n]) 2 (.pointer none)) 5 (.int .i64 n)) 6 (.bool true)) 7 (.bool true)) 8 (undef)) 9 (undef)) 10 (.bool true)) 0 (.int .i64 0)) 11 (.int .i64 0)) 13 (.int .i64 0)) 14 (.slice (some ⟨w40.heap.size, 0, none⟩) 0 0)) 12 (.slice (some ⟨w60.heap.size, 0, none⟩) 0 0)) 15 (.agg #[.slice none 0 0, .slice (some ⟨w60.heap.size, 0, none⟩) 0 0, .slice (some ⟨w40.heap.size, 0, none⟩) 0 0])) 16 (.pointer (some ⟨w64.heap.size, 0, none⟩))) 3 (.pointer (some ⟨w64.heap.size, 0, none⟩))) 17 (.pointer (some ⟨w64.heap.size, 0, none⟩))) 18 (.pointer (some ⟨w64.heap.size, 0, none⟩))) 19 (.pointer (some ⟨w64.heap.size, 1, none⟩))) 20 (.slice (some ⟨w60.heap.size, 0, none⟩) 0 0)) 21 (.int .i64 0)) 22 (.int .i64 0)) (by kernel_rfl) ?_
      refine op_nil ?_
      refine W_block ?_
      refine W_loop (fun m ρ w' => ∃ (at2 : List Int) (v : Nat) (ρ0 : Env), ρ = updL ρ0 [(3, .pointer (some ⟨w64.heap.size, 0, none⟩)), (21, .int .i64 0), (22, .int .i64 ((v : Nat) : Int))] ∧ (at2.length = 0) ∧ (∀ j, j < v → j < 0 → at2.getD j 0 = -1) ∧ (v ≤ 0) ∧ Tch N0 w w' ∧ Blk w' (w64.heap.size) 53 [.slice none 0 0, .slice (some ⟨w60.heap.size, 0, none⟩) 0 0, .slice (some ⟨w40.heap.size, 0, none⟩) 0 0] ∧ Blk w' (w60.heap.size) 3 (ints .i64 at2) ∧ Blk w' (w40.heap.size) 3 (ints .i64 (List.replicate 0 (0 : Int))) ∧ m = 0 - v) (m := 0 - 0) ?_ ?_
      · refine ⟨List.replicate 0 0, 0, _, updL_self (by kernel_rfl), by simp, by intro j h; omega, by omega, hT0, hP, hT, hC, rfl⟩
      · rintro m ρ w72 ⟨at2, v, ρ, rfl, h1, h2, h3, hT0, hP, hT, hC, rfl⟩
        refine W_seq ?_
        refine W_region (by kernel_rfl) ?_
        refine seg1 (ρ' := upd (updL ρ [(3, .pointer (some ⟨w64.heap.size, 0, none⟩)), (21, .int .i64 0), (22, .int .i64 ((v : Nat) : Int))]) 23 (.bool (decide (((v : Nat) : Int) < 0)))) (by kernel_rfl) ?_
        refine op_nil ?_
        refine W_seq ?_
        refine W_cond (decide (((v : Nat) : Int) < 0)) (by kernel_rfl) (by kernel_rfl) (fun hc73 => ?_) (fun hc73 => ?_)
        · replace hc73 : ((v : Nat) : Int) < 0 := (of_decide_eq_true hc73)
          refine W_skip ?_
          refine W_seq ?_
          refine W_block ?_
          refine W_seq ?_
          refine W_region (by kernel_rfl) ?_
          refine seg2 (ρ' := upd (upd (upd (updL ρ [(3, .pointer (some ⟨w64.heap.size, 0, none⟩)), (21, .int .i64 0), (22, .int .i64 ((v : Nat) : Int))]) 23 (.bool (decide (((v : Nat) : Int) < 0)))) 24 (.int .i64 ((v : Nat) : Int))) 4 (.int .i64 ((v : Nat) : Int))) (by kernel_rfl) ?_
          refine op_nil ?_
          refine W_region (by kernel_rfl) ?_
          refine seg3 (ρ' := upd (upd (upd (upd (upd (upd (updL ρ [(3, .pointer (some ⟨w64.heap.size, 0, none⟩)), (21, .int .i64 0), (22, .int .i64 ((v : Nat) : Int))]) 23 (.bool (decide (((v : Nat) : Int) < 0)))) 24 (.int .i64 ((v : Nat) : Int))) 4 (.int .i64 ((v : Nat) : Int))) 25 (.pointer (some ⟨w64.heap.size, 0, none⟩))) 26 (.pointer (some ⟨w64.heap.size, 0, none⟩))) 27 (.pointer (some ⟨w64.heap.size, 1, none⟩))) (by kernel_rfl) ?_
          refine st (by rfl) (S_val (v := .slice (some ⟨w60.heap.size, 0, none⟩) 0 0) (R_load (v := .slice (some ⟨w60.heap.size, 0, none⟩) 0 0) (by kernel_rfl) (by kernel_rfl) ((hP.cell 1).trans rfl)) ?_)
          refine seg1 (ρ' := upd (upd (upd (upd (upd (upd (upd (upd (updL ρ [(3, .pointer (some ⟨w64.heap.size, 0, none⟩)), (21, .int .i64 0), (22, .int .i64 ((v : Nat) : Int))]) 23 (.bool (decide (((v : Nat) : Int) < 0)))) 24 (.int .i64 ((v : Nat) : Int))) 4 (.int .i64 ((v : Nat) : Int))) 25 (.pointer (some ⟨w64.heap.size, 0, none⟩))) 26 (.pointer (some ⟨w64.heap.size, 0, none⟩))) 27 (.pointer (some ⟨w64.heap.size, 1, none⟩))) 28 (.slice (some ⟨w60.heap.size, 0, none⟩) 0 0)) 29 (.int .i64 ((v : Nat) : Int))) (by kernel_rfl) ?_
          refine stv (v := .pointer (some ⟨w60.heap.size, v, none⟩)) (by rfl) (R_index0 (b := w60.heap.size) (len := 0) (cap := 0) (k := .i64) (i := ((v : Nat) : Int)) (e := 3) v (by kernel_rfl) (by kernel_rfl) (by kernel_rfl) (by kernel_rfl) rfl (by first | omega | (simp only [List.length_set, List.length_map]; omega))) ?_
          refine st (by rfl) (S_store (b := w60.heap.size) (j := v) (v := .int .i64 (-1)) (by kernel_rfl) (by kernel_rfl) (by kernel_rfl) (by rfl) hT (by rw [ints_length]; first | omega | (simp only [List.length_set, List.length_map]; omega)) fun w74 hT75 hs76 hT' => ?_)
          have hT0 := (hT0).then hT75 (fun c e => by have : c = w60.heap.size := e; omega)
          have hP := hP.tch hT75 (fun e => by have : w64.heap.size = w60.heap.size := e; omega)
          have hC := hC.tch hT75 (fun e => by have : w40.heap.size = w60.heap.size := e; omega)
          replace hT : Blk w74 (w60.heap.size) 3 (ints .i64 (at2.set v (-1))) := by rw [← ints_set]; exact hT'
          refine op_nil ?_
          refine W_region (by kernel_rfl) ?_
          refine seg1 (ρ' := upd (upd (upd (upd (upd (upd (upd (upd (upd (upd (updL ρ [(3, .pointer (some ⟨w64.heap.size, 0, none⟩)), (21, .int .i64 0), (22, .int .i64 ((v : Nat) : Int))]) 23 (.bool (decide (((v : Nat) : Int) < 0)))) 24 (.int .i64 ((v : Nat) : Int))) 4 (.int .i64 ((v : Nat) : Int))) 25 (.pointer (some ⟨w64.heap.size, 0, none⟩))) 26 (.pointer (some ⟨w64.heap.size, 0, none⟩))) 27 (.pointer (some ⟨w64.heap.size, 1, none⟩))) 28 (.slice (some ⟨w60.heap.size, 0, none⟩) 0 0)) 29 (.int .i64 ((v : Nat) : Int))) 30 (.pointer (some ⟨w60.heap.size, v, none⟩))) 31 (.int .i64 (IntKind.i64.wrap (((v : Nat) : Int) + 1)))) (by kernel_rfl) ?_
          rw [show IntKind.i64.wrap (((v : Nat) : Int) + 1) = ((v : Nat) : Int) + 1 from wrap_i64 (by omega) (by omega)]
          rw [show upd (upd (upd (upd (upd (upd (upd (upd (upd (upd (updL ρ [(3, .pointer (some ⟨w64.heap.size, 0, none⟩)), (21, .int .i64 0), (22, .int .i64 ((v : Nat) : Int))]) 23 (.bool (decide (((v : Nat) : Int) < 0)))) 24 (.int .i64 ((v : Nat) : Int))) 4 (.int .i64 ((v : Nat) : Int))) 25 (.pointer (some ⟨w64.heap.size, 0, none⟩))) 26 (.pointer (some ⟨w64.heap.size, 0, none⟩))) 27 (.pointer (some ⟨w64.heap.size, 1, none⟩))) 28 (.slice (some ⟨w60.heap.size, 0, none⟩) 0 0)) 29 (.int .i64 ((v : Nat) : Int))) 30 (.pointer (some ⟨w60.heap.size, v, none⟩))) 31 (.int .i64 (((v : Nat) : Int) + 1)) = upd (upd (upd (upd (upd (upd (upd (upd (upd (upd (updL ρ [(3, .pointer (some ⟨w64.heap.size, 0, none⟩)), (21, .int .i64 0), (22, .int .i64 ((v : Nat) : Int))]) 23 (.bool (decide (((v : Nat) : Int) < 0)))) 24 (.int .i64 ((v : Nat) : Int))) 4 (.int .i64 ((v : Nat) : Int))) 25 (.pointer (some ⟨w64.heap.size, 0, none⟩))) 26 (.pointer (some ⟨w64.heap.size, 0, none⟩))) 27 (.pointer (some ⟨w64.heap.size, 1, none⟩))) 28 (.slice (some ⟨w60.heap.size, 0, none⟩) 0 0)) 29 (.int .i64 ((v : Nat) : Int))) 30 (.pointer (some ⟨w60.heap.size, v, none⟩))) 31 (.int .i64 ((v + 1 : Nat) : Int)) from congrArg (fun z => upd (upd (upd (upd (upd (upd (upd (upd (upd (upd (updL ρ [(3, .pointer (some ⟨w64.heap.size, 0, none⟩)), (21, .int .i64 0), (22, .int .i64 ((v : Nat) : Int))]) 23 (.bool (decide (((v : Nat) : Int) < 0)))) 24 (.int .i64 ((v : Nat) : Int))) 4 (.int .i64 ((v : Nat) : Int))) 25 (.pointer (some ⟨w64.heap.size, 0, none⟩))) 26 (.pointer (some ⟨w64.heap.size, 0, none⟩))) 27 (.pointer (some ⟨w64.heap.size, 1, none⟩))) 28 (.slice (some ⟨w60.heap.size, 0, none⟩) 0 0)) 29 (.int .i64 ((v : Nat) : Int))) 30 (.pointer (some ⟨w60.heap.size, v, none⟩))) 31 (.int .i64 z)) (by omega)]
          refine seg1 (ρ' := upd (upd (upd (upd (upd (upd (upd (upd (upd (upd (upd (updL ρ [(3, .pointer (some ⟨w64.heap.size, 0, none⟩)), (21, .int .i64 0), (22, .int .i64 ((v : Nat) : Int))]) 23 (.bool (decide (((v : Nat) : Int) < 0)))) 24 (.int .i64 ((v : Nat) : Int))) 4 (.int .i64 ((v : Nat) : Int))) 25 (.pointer (some ⟨w64.heap.size, 0, none⟩))) 26 (.pointer (some ⟨w64.heap.size, 0, none⟩))) 27 (.pointer (some ⟨w64.heap.size, 1, none⟩))) 28 (.slice (some ⟨w60.heap.size, 0, none⟩) 0 0)) 29 (.int .i64 ((v : Nat) : Int))) 30 (.pointer (some ⟨w60.heap.size, v, none⟩))) 31 (.int .i64 ((v + 1 : Nat) : Int))) 22 (.int .i64 ((v + 1 : Nat) : Int))) (by kernel_rfl) ?_
          refine op_nil ?_
          refine ⟨_, ?_, at2.set v (-1), v + 1, _, updL_self (by kernel_rfl), ?_, ?_, ?_, hT0, hP, hT, hC, rfl⟩
          · omega
          · rw [List.length_set]; exact h1
          · exact HeapP.new_step h1 (by omega) h2
          · omega
        · replace hc73 : 0 ≤ ((v : Nat) : Int) := (Int.not_lt.1 (of_decide_eq_false hc73))
          refine W_exit ?_
          refine X_hit ?_
          refine W_seq ?_
          refine W_region (by kernel_rfl) ?_
          refine seg2 (ρ' := upd (upd (upd (updL ρ [(3, .pointer (some ⟨w64.heap.size, 0, none⟩)), (21, .int .i64 0), (22, .int .i64 ((v : Nat) : Int))]) 23 (.bool (decide (((v : Nat) : Int) < 0)))) 32 (.pointer (some ⟨w64.heap.size, 0, none⟩))) 2 (.pointer (some ⟨w64.heap.size, 0, none⟩))) (by kernel_rfl) ?_
          refine op_nil ?_
          refine W_ret ?_
          refine ⟨_, Res_of (v := .pointer (some ⟨w64.heap.size, 0, none⟩)) (by kernel_rfl), ?_⟩
          refine ⟨fun b => b = w64.heap.size ∨ b = w60.heap.size ∨ b = w40.heap.size, _, rfl, ⟨none, 0, w60.heap.size, w40.heap.size, at2, hP, Own.nil_ _ _ _ _, hT, hC, (fun c e => by cases e), n6, .inl rfl, .inr (.inl rfl), .inr (.inr rfl), ?_, h1, by simp, by omega, (fun x hx => by simp at hx), HeapP.new_end h1 (by omega) h2, ?_, (fun j _ hj => by simp at hj)⟩, hT0, ?_⟩
          · rintro b (rfl | rfl | rfl)
            · exact hP.lt
            · exact hT.lt
            · exact hC.lt
          · intro j; simp only [List.getD_eq_getElem?_getD, List.getElem?_replicate]; split <;> simp
          · rintro b (rfl | rfl | rfl)
            · exact q1
            · exact q2
            · exact q3

end Go.Proofs.YthfjceemphhgcaaV
