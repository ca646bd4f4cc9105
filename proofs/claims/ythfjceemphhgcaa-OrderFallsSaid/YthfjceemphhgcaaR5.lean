/- Walks of functions of the program and of the document's texts: each call returns what the plain function says, and turns nothing that lay. The conditions stand with each theorem. -/
import Derived.Test.YthfjceemphhgcaaProg
import Derived.Test.YthfjceemphhgcaaVx2
import Derived.Test.YthfjceemphhgcaaR4
set_option linter.unusedVariables false
set_option linter.unusedSimpArgs false
namespace Go.Proofs.YthfjceemphhgcaaV
open Go Go.RowKit Go.Proofs

set_option maxRecDepth 100000 in
theorem rnew_in (u : Nat) (w : World) (hm : u ≤ 1048576) : Ret Try.prog 17 [.int .i64 ((u : Nat) : Int)] w fun v w' => ∃ gA gB, v = .agg #[.slice (some ⟨gA, 0, none⟩) u u, .slice (some ⟨gB, 0, none⟩) u u] ∧ Blk w' gA 3 (ints .i64 (List.replicate u 0)) ∧ Blk w' gB 4 (boolsV (List.replicate u false)) ∧ w.heap.size ≤ gA ∧ w.heap.size ≤ gB ∧ Tch N0 w w' := by
  refine enter Try.func17 rfl rfl ?_
  refine W_seq ?_
  refine W_region (by kernel_rfl) ?_
  refine st (by rfl) (S_new (v := .pointer (some ⟨w.heap.size, 0, none⟩)) (ob := .cells #[.slice none 0 0, .slice none 0 0] 35) (by kernel_rfl) fun w1 hT2 hs3 hB4 => ?_)
  replace hB4 : Blk w1 (w.heap.size) 35 [.slice none 0 0, .slice none 0 0] := hB4
  have hT0 := hT2
  refine op_nil ?_
  refine W_seq ?_
  refine W_seq ?_
  refine W_region (by kernel_rfl) ?_
  refine seg3 (ρ' := upd (upd (upd (upd (ini [.int .i64 ((u : Nat) : Int)]) 2 (.pointer (some ⟨w.heap.size, 0, none⟩))) 3 (.int .i64 ((u : Nat) : Int))) 4 (.bool (decide (((u : Nat) : Int) < 0)))) 5 (.bool (decide (((u : Nat) : Int) < 0)))) (by kernel_rfl) ?_
  cases hb5 : decide (((u : Nat) : Int) < 0)
  · replace hb5 : 0 ≤ ((u : Nat) : Int) := (Int.not_lt.1 (of_decide_eq_false hb5))
    refine seg3 (ρ' := upd (upd (upd (upd (upd (upd (upd (ini [.int .i64 ((u : Nat) : Int)]) 2 (.pointer (some ⟨w.heap.size, 0, none⟩))) 3 (.int .i64 ((u : Nat) : Int))) 4 (.bool false)) 5 (.bool false)) 6 (.int .i64 ((u : Nat) : Int))) 7 (.bool (decide (((u : Nat) : Int) > 1048576)))) 8 (.bool (decide (((u : Nat) : Int) > 1048576)))) (by kernel_rfl) ?_
    refine op_nil ?_
    refine W_cond (decide (((u : Nat) : Int) > 1048576)) (by kernel_rfl) (by kernel_rfl) (fun hc6 => ?_) (fun hc6 => ?_)
    · replace hc6 : 1048576 < ((u : Nat) : Int) := (of_decide_eq_true hc6)
      exfalso; omega
    · replace hc6 : ((u : Nat) : Int) ≤ 1048576 := (Int.not_lt.1 (of_decide_eq_false hc6))
      refine W_skip ?_
      refine W_seq ?_
      refine W_draw (fun w' => True) (by kernel_rfl) (by kernel_rfl) (by kernel_rfl) fun w7 hT8 hh9 => ?_
      have hT0 := hT0.t0 hT8
      have hB4 := hB4.tch0 hT8
      refine d_takes [0, 2] (listed' := #[true, false, true, false, false, false]) (ρ' := upd (upd (upd (upd (upd (upd (upd (upd (upd (ini [.int .i64 ((u : Nat) : Int)]) 2 (.pointer (some ⟨w.heap.size, 0, none⟩))) 3 (.int .i64 ((u : Nat) : Int))) 4 (.bool false)) 5 (.bool false)) 6 (.int .i64 ((u : Nat) : Int))) 7 (.bool (decide (((u : Nat) : Int) > 1048576)))) 8 (.bool (decide (((u : Nat) : Int) > 1048576)))) 9 (.int .i64 ((u : Nat) : Int))) 11 (.int .i64 ((u : Nat) : Int))) trivial (by kernel_rfl) ?_
      refine d_two 1 3 (by kernel_rfl) (by rfl) (by rfl) (by kernel_rfl) (by kernel_rfl) ?_ ?_
      · refine (S_make 26 3 (.int .i64 0) 1 8 (k1 := .i64) (k2 := .i64) (l := ((u : Nat) : Int)) (c := ((u : Nat) : Int)) (by kernel_rfl) (by kernel_rfl) (by kernel_rfl) (by kernel_rfl) (by omega) (by omega) (by omega) (by omega) fun w10 hT11 hs12 hB13 => ?_)
        have hT0 := hT0.t0 hT11
        have hB4 := hB4.tch0 hT11
        rw [madeOne _ rfl] at hB13
        rw [Nat.mul_one] at hB13
        replace hB13 : Blk w10 (w7.heap.size) 3 (ints .i64 (List.replicate u (0 : Int))) := by simpa [ints, boolsV] using hB13
        refine ⟨trivial, ?_⟩
        refine d_one 3 (by kernel_rfl) (by rfl) (by kernel_rfl) (S_make 33 4 (.bool false) 1 1 (k1 := .i64) (k2 := .i64) (l := ((u : Nat) : Int)) (c := ((u : Nat) : Int)) (by kernel_rfl) (by kernel_rfl) (by kernel_rfl) (by kernel_rfl) (by omega) (by omega) (by omega) (by omega) fun w14 hT15 hs16 hB17 => ?_)
        have hT0 := hT0.t0 hT15
        have hB4 := hB4.tch0 hT15
        have hB13 := hB13.tch0 hT15
        rw [madeOne _ rfl] at hB17
        rw [Nat.mul_one] at hB17
        replace hB17 : Blk w14 (w10.heap.size) 4 (boolsV (List.replicate u false)) := by simpa [ints, boolsV] using hB17
        refine ⟨trivial, ?_⟩
        refine d_takes [4] (listed' := #[true, true, true, true, true, false]) (ρ' := upd (upd (upd (upd (upd (upd (upd (upd (upd (upd (upd (upd (ini [.int .i64 ((u : Nat) : Int)]) 2 (.pointer (some ⟨w.heap.size, 0, none⟩))) 3 (.int .i64 ((u : Nat) : Int))) 4 (.bool false)) 5 (.bool false)) 6 (.int .i64 ((u : Nat) : Int))) 7 (.bool (decide (((u : Nat) : Int) > 1048576)))) 8 (.bool (decide (((u : Nat) : Int) > 1048576)))) 9 (.int .i64 ((u : Nat) : Int))) 11 (.int .i64 ((u : Nat) : Int))) 10 (.slice (some ⟨w7.heap.size, 0, none⟩) u u)) 12 (.slice (some ⟨w10.heap.size, 0, none⟩) u u)) 13 (.agg #[.slice (some ⟨w7.heap.size, 0, none⟩) u u, .slice (some ⟨w10.heap.size, 0, none⟩) u u])) trivial (by kernel_rfl) ?_
        refine d_one 5 (by kernel_rfl) (by rfl) (by kernel_rfl) (S_storeA (b := w.heap.size) (j := 0) (cs := [.slice (some ⟨w7.heap.size, 0, none⟩) u u, .slice (some ⟨w10.heap.size, 0, none⟩) u u]) (by kernel_rfl) (by kernel_rfl) (by kernel_rfl) (by simp [oneV]) hB4 (by simp) fun w18 hT19 hs20 hB4' => ?_)
        have hT0 := (hT0).then hT19 (fun c e => by have : c = w.heap.size := e; omega)
        have hB13 := hB13.tch hT19 (hB13.ne hB4 (by decide))
        have hB17 := hB17.tch hT19 (hB17.ne hB4 (by decide))
        replace hB4 : Blk w18 w.heap.size 35 [.slice (some ⟨w7.heap.size, 0, none⟩) u u, .slice (some ⟨w10.heap.size, 0, none⟩) u u] := hB4'
        refine ⟨trivial, ?_⟩
        refine d_done (by kernel_rfl) ?_
        refine W_ret ?_
        exact ⟨_, Res_cell (b := w.heap.size) (cs := [.slice (some ⟨w7.heap.size, 0, none⟩) u u, .slice (some ⟨w10.heap.size, 0, none⟩) u u]) (by rfl) (by kernel_rfl) (by kernel_rfl) hB4 (by kernel_rfl) (by kernel_rfl), ⟨_, _, rfl, hB13, hB17, (show Tch N0 w w7 from by assumption).size, (show Tch N0 w w10 from by assumption).size, hT0⟩⟩
      · refine (S_make 33 4 (.bool false) 1 1 (k1 := .i64) (k2 := .i64) (l := ((u : Nat) : Int)) (c := ((u : Nat) : Int)) (by kernel_rfl) (by kernel_rfl) (by kernel_rfl) (by kernel_rfl) (by omega) (by omega) (by omega) (by omega) fun w21 hT22 hs23 hB24 => ?_)
        have hT0 := hT0.t0 hT22
        have hB4 := hB4.tch0 hT22
        rw [madeOne _ rfl] at hB24
        rw [Nat.mul_one] at hB24
        replace hB24 : Blk w21 (w7.heap.size) 4 (boolsV (List.replicate u false)) := by simpa [ints, boolsV] using hB24
        refine ⟨trivial, ?_⟩
        refine d_one 1 (by kernel_rfl) (by rfl) (by kernel_rfl) (S_make 26 3 (.int .i64 0) 1 8 (k1 := .i64) (k2 := .i64) (l := ((u : Nat) : Int)) (c := ((u : Nat) : Int)) (by kernel_rfl) (by kernel_rfl) (by kernel_rfl) (by kernel_rfl) (by omega) (by omega) (by omega) (by omega) fun w25 hT26 hs27 hB28 => ?_)
        have hT0 := hT0.t0 hT26
        have hB4 := hB4.tch0 hT26
        have hB24 := hB24.tch0 hT26
        rw [madeOne _ rfl] at hB28
        rw [Nat.mul_one] at hB28
        replace hB28 : Blk w25 (w21.heap.size) 3 (ints .i64 (List.replicate u (0 : Int))) := by simpa [ints, boolsV] using hB28
        refine ⟨trivial, ?_⟩
        refine d_takes [4] (listed' := #[true, true, true, true, true, false]) (ρ' := upd (upd (upd (upd (upd (upd (upd (upd (upd (upd (upd (upd (ini [.int .i64 ((u : Nat) : Int)]) 2 (.pointer (some ⟨w.heap.size, 0, none⟩))) 3 (.int .i64 ((u : Nat) : Int))) 4 (.bool false)) 5 (.bool false)) 6 (.int .i64 ((u : Nat) : Int))) 7 (.bool (decide (((u : Nat) : Int) > 1048576)))) 8 (.bool (decide (((u : Nat) : Int) > 1048576)))) 9 (.int .i64 ((u : Nat) : Int))) 11 (.int .i64 ((u : Nat) : Int))) 12 (.slice (some ⟨w7.heap.size, 0, none⟩) u u)) 10 (.slice (some ⟨w21.heap.size, 0, none⟩) u u)) 13 (.agg #[.slice (some ⟨w21.heap.size, 0, none⟩) u u, .slice (some ⟨w7.heap.size, 0, none⟩) u u])) trivial (by kernel_rfl) ?_
        refine d_one 5 (by kernel_rfl) (by rfl) (by kernel_rfl) (S_storeA (b := w.heap.size) (j := 0) (cs := [.slice (some ⟨w21.heap.size, 0, none⟩) u u, .slice (some ⟨w7.heap.size, 0, none⟩) u u]) (by kernel_rfl) (by kernel_rfl) (by kernel_rfl) (by simp [oneV]) hB4 (by simp) fun w29 hT30 hs31 hB4' => ?_)
        have hT0 := (hT0).then hT30 (fun c e => by have : c = w.heap.size := e; omega)
        have hB24 := hB24.tch hT30 (hB24.ne hB4 (by decide))
        have hB28 := hB28.tch hT30 (hB28.ne hB4 (by decide))
        replace hB4 : Blk w29 w.heap.size 35 [.slice (some ⟨w21.heap.size, 0, none⟩) u u, .slice (some ⟨w7.heap.size, 0, none⟩) u u] := hB4'
        refine ⟨trivial, ?_⟩
        refine d_done (by kernel_rfl) ?_
        refine W_ret ?_
        exact ⟨_, Res_cell (b := w.heap.size) (cs := [.slice (some ⟨w21.heap.size, 0, none⟩) u u, .slice (some ⟨w7.heap.size, 0, none⟩) u u]) (by rfl) (by kernel_rfl) (by kernel_rfl) hB4 (by kernel_rfl) (by kernel_rfl), ⟨_, _, rfl, hB28, hB24, (show Tch N0 w w21 from by assumption).size, (show Tch N0 w w7 from by assumption).size, hT0⟩⟩
  · replace hb5 : ((u : Nat) : Int) < 0 := (of_decide_eq_true hb5)
    exfalso; omega

set_option maxRecDepth 100000 in
theorem rnew_out (n : Int) (w : World) (hn : n < 0 ∨ 1048576 < n) : Ret Try.prog 17 [.int .i64 n] w fun v w' => ∃ gA gB, v = .agg #[.slice (some ⟨gA, 0, none⟩) 0 0, .slice (some ⟨gB, 0, none⟩) 0 0] ∧ Blk w' gA 3 (ints .i64 (List.replicate 0 0)) ∧ Blk w' gB 4 (boolsV (List.replicate 0 false)) ∧ w.heap.size ≤ gA ∧ w.heap.size ≤ gB ∧ Tch N0 w w' := by
  refine enter Try.func17 rfl rfl ?_
  refine W_seq ?_
  refine W_region (by kernel_rfl) ?_
  refine st (by rfl) (S_new (v := .pointer (some ⟨w.heap.size, 0, none⟩)) (ob := .cells #[.slice none 0 0, .slice none 0 0] 35) (by kernel_rfl) fun w1 hT2 hs3 hB4 => ?_)
  replace hB4 : Blk w1 (w.heap.size) 35 [.slice none 0 0, .slice none 0 0] := hB4
  have hT0 := hT2
  refine op_nil ?_
  refine W_seq ?_
  refine W_seq ?_
  refine W_region (by kernel_rfl) ?_
  refine seg3 (ρ' := upd (upd (upd (upd (ini [.int .i64 n]) 2 (.pointer (some ⟨w.heap.size, 0, none⟩))) 3 (.int .i64 n)) 4 (.bool (decide (n < 0)))) 5 (.bool (decide (n < 0)))) (by kernel_rfl) ?_
  cases hb5 : decide (n < 0)
  · replace hb5 : 0 ≤ n := (Int.not_lt.1 (of_decide_eq_false hb5))
    refine seg3 (ρ' := upd (upd (upd (upd (upd (upd (upd (ini [.int .i64 n]) 2 (.pointer (some ⟨w.heap.size, 0, none⟩))) 3 (.int .i64 n)) 4 (.bool false)) 5 (.bool false)) 6 (.int .i64 n)) 7 (.bool (decide (n > 1048576)))) 8 (.bool (decide (n > 1048576)))) (by kernel_rfl) ?_
    refine op_nil ?_
    refine W_cond (decide (n > 1048576)) (by kernel_rfl) (by kernel_rfl) (fun hc6 => ?_) (fun hc6 => ?_)
    · replace hc6 : 1048576 < n := (of_decide_eq_true hc6)
      refine W_region (by kernel_rfl) ?_
      refine seg1 (ρ' := upd (upd (upd (upd (upd (upd (upd (upd (ini [.int .i64 n]) 2 (.pointer (some ⟨w.heap.size, 0, none⟩))) 3 (.int .i64 n)) 4 (.bool false)) 5 (.bool false)) 6 (.int .i64 n)) 7 (.bool (decide (n > 1048576)))) 8 (.bool (decide (n > 1048576)))) 0 (.int .i64 0)) (by kernel_rfl) ?_
      refine op_nil ?_
      refine W_seq ?_
      refine W_draw (fun w' => True) (by kernel_rfl) (by kernel_rfl) (by kernel_rfl) fun w7 hT8 hh9 => ?_
      have hT0 := hT0.t0 hT8
      have hB4 := hB4.tch0 hT8
      refine d_takes [0, 2] (listed' := #[true, false, true, false, false, false]) (ρ' := upd (upd (upd (upd (upd (upd (upd (upd (upd (upd (ini [.int .i64 n]) 2 (.pointer (some ⟨w.heap.size, 0, none⟩))) 3 (.int .i64 n)) 4 (.bool false)) 5 (.bool false)) 6 (.int .i64 n)) 7 (.bool (decide (n > 1048576)))) 8 (.bool (decide (n > 1048576)))) 0 (.int .i64 0)) 9 (.int .i64 0)) 11 (.int .i64 0)) trivial (by kernel_rfl) ?_
      refine d_two 1 3 (by kernel_rfl) (by rfl) (by rfl) (by kernel_rfl) (by kernel_rfl) ?_ ?_
      · refine (S_make 26 3 (.int .i64 0) 1 8 (k1 := .i64) (k2 := .i64) (l := 0) (c := 0) (by kernel_rfl) (by kernel_rfl) (by kernel_rfl) (by kernel_rfl) (by omega) (by omega) (by omega) (by omega) fun w10 hT11 hs12 hB13 => ?_)
        have hT0 := hT0.t0 hT11
        have hB4 := hB4.tch0 hT11
        rw [madeOne _ rfl] at hB13
        rw [Nat.mul_one] at hB13
        replace hB13 : Blk w10 (w7.heap.size) 3 (ints .i64 (List.replicate 0 (0 : Int))) := by simpa [ints, boolsV] using hB13
        refine ⟨trivial, ?_⟩
        refine d_one 3 (by kernel_rfl) (by rfl) (by kernel_rfl) (S_make 33 4 (.bool false) 1 1 (k1 := .i64) (k2 := .i64) (l := 0) (c := 0) (by kernel_rfl) (by kernel_rfl) (by kernel_rfl) (by kernel_rfl) (by omega) (by omega) (by omega) (by omega) fun w14 hT15 hs16 hB17 => ?_)
        have hT0 := hT0.t0 hT15
        have hB4 := hB4.tch0 hT15
        have hB13 := hB13.tch0 hT15
        rw [madeOne _ rfl] at hB17
        rw [Nat.mul_one] at hB17
        replace hB17 : Blk w14 (w10.heap.size) 4 (boolsV (List.replicate 0 false)) := by simpa [ints, boolsV] using hB17
        refine ⟨trivial, ?_⟩
        refine d_takes [4] (listed' := #[true, true, true, true, true, false]) (ρ' := upd (upd (upd (upd (upd (upd (upd (upd (upd (upd (upd (upd (upd (ini [.int .i64 n]) 2 (.pointer (some ⟨w.heap.size, 0, none⟩))) 3 (.int .i64 n)) 4 (.bool false)) 5 (.bool false)) 6 (.int .i64 n)) 7 (.bool (decide (n > 1048576)))) 8 (.bool (decide (n > 1048576)))) 0 (.int .i64 0)) 9 (.int .i64 0)) 11 (.int .i64 0)) 10 (.slice (some ⟨w7.heap.size, 0, none⟩) 0 0)) 12 (.slice (some ⟨w10.heap.size, 0, none⟩) 0 0)) 13 (.agg #[.slice (some ⟨w7.heap.size, 0, none⟩) 0 0, .slice (some ⟨w10.heap.size, 0, none⟩) 0 0])) trivial (by kernel_rfl) ?_
        refine d_one 5 (by kernel_rfl) (by rfl) (by kernel_rfl) (S_storeA (b := w.heap.size) (j := 0) (cs := [.slice (some ⟨w7.heap.size, 0, none⟩) 0 0, .slice (some ⟨w10.heap.size, 0, none⟩) 0 0]) (by kernel_rfl) (by kernel_rfl) (by kernel_rfl) (by simp [oneV]) hB4 (by simp) fun w18 hT19 hs20 hB4' => ?_)
        have hT0 := (hT0).then hT19 (fun c e => by have : c = w.heap.size := e; omega)
        have hB13 := hB13.tch hT19 (hB13.ne hB4 (by decide))
        have hB17 := hB17.tch hT19 (hB17.ne hB4 (by decide))
        replace hB4 : Blk w18 w.heap.size 35 [.slice (some ⟨w7.heap.size, 0, none⟩) 0 0, .slice (some ⟨w10.heap.size, 0, none⟩) 0 0] := hB4'
        refine ⟨trivial, ?_⟩
        refine d_done (by kernel_rfl) ?_
        refine W_ret ?_
        exact ⟨_, Res_cell (b := w.heap.size) (cs := [.slice (some ⟨w7.heap.size, 0, none⟩) 0 0, .slice (some ⟨w10.heap.size, 0, none⟩) 0 0]) (by rfl) (by kernel_rfl) (by kernel_rfl) hB4 (by kernel_rfl) (by kernel_rfl), ⟨_, _, rfl, hB13, hB17, (show Tch N0 w w7 from by assumption).size, (show Tch N0 w w10 from by assumption).size, hT0⟩⟩
      · refine (S_make 33 4 (.bool false) 1 1 (k1 := .i64) (k2 := .i64) (l := 0) (c := 0) (by kernel_rfl) (by kernel_rfl) (by kernel_rfl) (by kernel_rfl) (by omega) (by omega) (by omega) (by omega) fun w21 hT22 hs23 hB24 => ?_)
        have hT0 := hT0.t0 hT22
        have hB4 := hB4.tch0 hT22
        rw [madeOne _ rfl] at hB24
        rw [Nat.mul_one] at hB24
        replace hB24 : Blk w21 (w7.heap.size) 4 (boolsV (List.replicate 0 false)) := by simpa [ints, boolsV] using hB24
        refine ⟨trivial, ?_⟩
        refine d_one 1 (by kernel_rfl) (by rfl) (by kernel_rfl) (S_make 26 3 (.int .i64 0) 1 8 (k1 := .i64) (k2 := .i64) (l := 0) (c := 0) (by kernel_rfl) (by kernel_rfl) (by kernel_rfl) (by kernel_rfl) (by omega) (by omega) (by omega) (by omega) fun w25 hT26 hs27 hB28 => ?_)
        have hT0 := hT0.t0 hT26
        have hB4 := hB4.tch0 hT26
        have hB24 := hB24.tch0 hT26
        rw [madeOne _ rfl] at hB28
        rw [Nat.mul_one] at hB28
        replace hB28 : Blk w25 (w21.heap.size) 3 (ints .i64 (List.replicate 0 (0 : Int))) := by simpa [ints, boolsV] using hB28
        refine ⟨trivial, ?_⟩
        refine d_takes [4] (listed' := #[true, true, true, true, true, false]) (ρ' := upd (upd (upd (upd (upd (upd (upd (upd (upd (upd (upd (upd (upd (ini [.int .i64 n]) 2 (.pointer (some ⟨w.heap.size, 0, none⟩))) 3 (.int .i64 n)) 4 (.bool false)) 5 (.bool false)) 6 (.int .i64 n)) 7 (.bool (decide (n > 1048576)))) 8 (.bool (decide (n > 1048576)))) 0 (.int .i64 0)) 9 (.int .i64 0)) 11 (.int .i64 0)) 12 (.slice (some ⟨w7.heap.size, 0, none⟩) 0 0)) 10 (.slice (some ⟨w21.heap.size, 0, none⟩) 0 0)) 13 (.agg #[.slice (some ⟨w21.heap.size, 0, none⟩) 0 0, .slice (some ⟨w7.heap.size, 0, none⟩) 0 0])) trivial (by kernel_rfl) ?_
        refine d_one 5 (by kernel_rfl) (by rfl) (by kernel_rfl) (S_storeA (b := w.heap.size) (j := 0) (cs := [.slice (some ⟨w21.heap.size, 0, none⟩) 0 0, .slice (some ⟨w7.heap.size, 0, none⟩) 0 0]) (by kernel_rfl) (by kernel_rfl) (by kernel_rfl) (by simp [oneV]) hB4 (by simp) fun w29 hT30 hs31 hB4' => ?_)
        have hT0 := (hT0).then hT30 (fun c e => by have : c = w.heap.size := e; omega)
        have hB24 := hB24.tch hT30 (hB24.ne hB4 (by decide))
        have hB28 := hB28.tch hT30 (hB28.ne hB4 (by decide))
        replace hB4 : Blk w29 w.heap.size 35 [.slice (some ⟨w21.heap.size, 0, none⟩) 0 0, .slice (some ⟨w7.heap.size, 0, none⟩) 0 0] := hB4'
        refine ⟨trivial, ?_⟩
        refine d_done (by kernel_rfl) ?_
        refine W_ret ?_
        exact ⟨_, Res_cell (b := w.heap.size) (cs := [.slice (some ⟨w21.heap.size, 0, none⟩) 0 0, .slice (some ⟨w7.heap.size, 0, none⟩) 0 0]) (by rfl) (by kernel_rfl) (by kernel_rfl) hB4 (by kernel_rfl) (by kernel_rfl), ⟨_, _, rfl, hB28, hB24, (show Tch N0 w w21 from by assumption).size, (show Tch N0 w w7 from by assumption).size, hT0⟩⟩
    · replace hc6 : n ≤ 1048576 := (Int.not_lt.1 (of_decide_eq_false hc6))
      exfalso; omega
  · replace hb5 : n < 0 := (of_decide_eq_true hb5)
    refine seg3 (ρ' := upd (upd (upd (upd (upd (upd (upd (ini [.int .i64 n]) 2 (.pointer (some ⟨w.heap.size, 0, none⟩))) 3 (.int .i64 n)) 4 (.bool true)) 5 (.bool true)) 6 (undef)) 7 (undef)) 8 (.bool true)) (by kernel_rfl) ?_
    refine op_nil ?_
    refine W_cond true (by kernel_rfl) (by kernel_rfl) (fun _ => ?_) (fun h => nomatch h)
    refine W_region (by kernel_rfl) ?_
    refine seg1 (ρ' := upd (upd (upd (upd (upd (upd (upd (upd (ini [.int .i64 n]) 2 (.pointer (some ⟨w.heap.size, 0, none⟩))) 3 (.int .i64 n)) 4 (.bool true)) 5 (.bool true)) 6 (undef)) 7 (undef)) 8 (.bool true)) 0 (.int .i64 0)) (by kernel_rfl) ?_
    refine op_nil ?_
    refine W_seq ?_
    refine W_draw (fun w' => True) (by kernel_rfl) (by kernel_rfl) (by kernel_rfl) fun w32 hT33 hh34 => ?_
    have hT0 := hT0.t0 hT33
    have hB4 := hB4.tch0 hT33
    refine d_takes [0, 2] (listed' := #[true, false, true, false, false, false]) (ρ' := upd (upd (upd (upd (upd (upd (upd (upd (upd (upd (ini [.int .i64 n]) 2 (.pointer (some ⟨w.heap.size, 0, none⟩))) 3 (.int .i64 n)) 4 (.bool true)) 5 (.bool true)) 6 (undef)) 7 (undef)) 8 (.bool true)) 0 (.int .i64 0)) 9 (.int .i64 0)) 11 (.int .i64 0)) trivial (by kernel_rfl) ?_
    refine d_two 1 3 (by kernel_rfl) (by rfl) (by rfl) (by kernel_rfl) (by kernel_rfl) ?_ ?_
    · refine (S_make 26 3 (.int .i64 0) 1 8 (k1 := .i64) (k2 := .i64) (l := 0) (c := 0) (by kernel_rfl) (by kernel_rfl) (by kernel_rfl) (by kernel_rfl) (by omega) (by omega) (by omega) (by omega) fun w35 hT36 hs37 hB38 => ?_)
      have hT0 := hT0.t0 hT36
      have hB4 := hB4.tch0 hT36
      rw [madeOne _ rfl] at hB38
      rw [Nat.mul_one] at hB38
      replace hB38 : Blk w35 (w32.heap.size) 3 (ints .i64 (List.replicate 0 (0 : Int))) := by simpa [ints, boolsV] using hB38
      refine ⟨trivial, ?_⟩
      refine d_one 3 (by kernel_rfl) (by rfl) (by kernel_rfl) (S_make 33 4 (.bool false) 1 1 (k1 := .i64) (k2 := .i64) (l := 0) (c := 0) (by kernel_rfl) (by kernel_rfl) (by kernel_rfl) (by kernel_rfl) (by omega) (by omega) (by omega) (by omega) fun w39 hT40 hs41 hB42 => ?_)
      have hT0 := hT0.t0 hT40
      have hB4 := hB4.tch0 hT40
      have hB38 := hB38.tch0 hT40
      rw [madeOne _ rfl] at hB42
      rw [Nat.mul_one] at hB42
      replace hB42 : Blk w39 (w35.heap.size) 4 (boolsV (List.replicate 0 false)) := by simpa [ints, boolsV] using hB42
      refine ⟨trivial, ?_⟩
      refine d_takes [4] (listed' := #[true, true, true, true, true, false]) (ρ' := upd (upd (upd (upd (upd (upd (upd (upd (upd (upd (upd (upd (upd (ini [.int .i64 n]) 2 (.pointer (some ⟨w.heap.size, 0, none⟩))) 3 (.int .i64 n)) 4 (.bool true)) 5 (.bool true)) 6 (undef)) 7 (undef)) 8 (.bool true)) 0 (.int .i64 0)) 9 (.int .i64 0)) 11 (.int .i64 0)) 10 (.slice (some ⟨w32.heap.size, 0, none⟩) 0 0)) 12 (.slice (some ⟨w35.heap.size, 0, none⟩) 0 0)) 13 (.agg #[.slice (some ⟨w32.heap.size, 0, none⟩) 0 0, .slice (some ⟨w35.heap.size, 0, none⟩) 0 0])) trivial (by kernel_rfl) ?_
      refine d_one 5 (by kernel_rfl) (by rfl) (by kernel_rfl) (S_storeA (b := w.heap.size) (j := 0) (cs := [.slice (some ⟨w32.heap.size, 0, none⟩) 0 0, .slice (some ⟨w35.heap.size, 0, none⟩) 0 0]) (by kernel_rfl) (by kernel_rfl) (by kernel_rfl) (by simp [oneV]) hB4 (by simp) fun w43 hT44 hs45 hB4' => ?_)
      have hT0 := (hT0).then hT44 (fun c e => by have : c = w.heap.size := e; omega)
      have hB38 := hB38.tch hT44 (hB38.ne hB4 (by decide))
      have hB42 := hB42.tch hT44 (hB42.ne hB4 (by decide))
      replace hB4 : Blk w43 w.heap.size 35 [.slice (some ⟨w32.heap.size, 0, none⟩) 0 0, .slice (some ⟨w35.heap.size, 0, none⟩) 0 0] := hB4'
      refine ⟨trivial, ?_⟩
      refine d_done (by kernel_rfl) ?_
      refine W_ret ?_
      exact ⟨_, Res_cell (b := w.heap.size) (cs := [.slice (some ⟨w32.heap.size, 0, none⟩) 0 0, .slice (some ⟨w35.heap.size, 0, none⟩) 0 0]) (by rfl) (by kernel_rfl) (by kernel_rfl) hB4 (by kernel_rfl) (by kernel_rfl), ⟨_, _, rfl, hB38, hB42, (show Tch N0 w w32 from by assumption).size, (show Tch N0 w w35 from by assumption).size, hT0⟩⟩
    · refine (S_make 33 4 (.bool false) 1 1 (k1 := .i64) (k2 := .i64) (l := 0) (c := 0) (by kernel_rfl) (by kernel_rfl) (by kernel_rfl) (by kernel_rfl) (by omega) (by omega) (by omega) (by omega) fun w46 hT47 hs48 hB49 => ?_)
      have hT0 := hT0.t0 hT47
      have hB4 := hB4.tch0 hT47
      rw [madeOne _ rfl] at hB49
      rw [Nat.mul_one] at hB49
      replace hB49 : Blk w46 (w32.heap.size) 4 (boolsV (List.replicate 0 false)) := by simpa [ints, boolsV] using hB49
      refine ⟨trivial, ?_⟩
      refine d_one 1 (by kernel_rfl) (by rfl) (by kernel_rfl) (S_make 26 3 (.int .i64 0) 1 8 (k1 := .i64) (k2 := .i64) (l := 0) (c := 0) (by kernel_rfl) (by kernel_rfl) (by kernel_rfl) (by kernel_rfl) (by omega) (by omega) (by omega) (by omega) fun w50 hT51 hs52 hB53 => ?_)
      have hT0 := hT0.t0 hT51
      have hB4 := hB4.tch0 hT51
      have hB49 := hB49.tch0 hT51
      rw [madeOne _ rfl] at hB53
      rw [Nat.mul_one] at hB53
      replace hB53 : Blk w50 (w46.heap.size) 3 (ints .i64 (List.replicate 0 (0 : Int))) := by simpa [ints, boolsV] using hB53
      refine ⟨trivial, ?_⟩
      refine d_takes [4] (listed' := #[true, true, true, true, true, false]) (ρ' := upd (upd (upd (upd (upd (upd (upd (upd (upd (upd (upd (upd (upd (ini [.int .i64 n]) 2 (.pointer (some ⟨w.heap.size, 0, none⟩))) 3 (.int .i64 n)) 4 (.bool true)) 5 (.bool true)) 6 (undef)) 7 (undef)) 8 (.bool true)) 0 (.int .i64 0)) 9 (.int .i64 0)) 11 (.int .i64 0)) 12 (.slice (some ⟨w32.heap.size, 0, none⟩) 0 0)) 10 (.slice (some ⟨w46.heap.size, 0, none⟩) 0 0)) 13 (.agg #[.slice (some ⟨w46.heap.size, 0, none⟩) 0 0, .slice (some ⟨w32.heap.size, 0, none⟩) 0 0])) trivial (by kernel_rfl) ?_
      refine d_one 5 (by kernel_rfl) (by rfl) (by kernel_rfl) (S_storeA (b := w.heap.size) (j := 0) (cs := [.slice (some ⟨w46.heap.size, 0, none⟩) 0 0, .slice (some ⟨w32.heap.size, 0, none⟩) 0 0]) (by kernel_rfl) (by kernel_rfl) (by kernel_rfl) (by simp [oneV]) hB4 (by simp) fun w54 hT55 hs56 hB4' => ?_)
      have hT0 := (hT0).then hT55 (fun c e => by have : c = w.heap.size := e; omega)
      have hB49 := hB49.tch hT55 (hB49.ne hB4 (by decide))
      have hB53 := hB53.tch hT55 (hB53.ne hB4 (by decide))
      replace hB4 : Blk w54 w.heap.size 35 [.slice (some ⟨w46.heap.size, 0, none⟩) 0 0, .slice (some ⟨w32.heap.size, 0, none⟩) 0 0] := hB4'
      refine ⟨trivial, ?_⟩
      refine d_done (by kernel_rfl) ?_
      refine W_ret ?_
      exact ⟨_, Res_cell (b := w.heap.size) (cs := [.slice (some ⟨w46.heap.size, 0, none⟩) 0 0, .slice (some ⟨w32.heap.size, 0, none⟩) 0 0]) (by rfl) (by kernel_rfl) (by kernel_rfl) hB4 (by kernel_rfl) (by kernel_rfl), ⟨_, _, rfl, hB53, hB49, (show Tch N0 w w46 from by assumption).size, (show Tch N0 w w32 from by assumption).size, hT0⟩⟩

end Go.Proofs.YthfjceemphhgcaaV
