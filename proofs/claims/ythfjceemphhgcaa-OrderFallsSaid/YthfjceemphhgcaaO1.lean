/- Walks of functions of the program and of the document's texts: each call returns what the plain function says, and turns nothing that lay. The conditions stand with each theorem. -/
import Derived.Test.YthfjceemphhgcaaProg
import Derived.Test.YthfjceemphhgcaaVx2
import Derived.Test.YthfjceemphhgcaaOrdP
set_option linter.unusedVariables false
set_option linter.unusedSimpArgs false
namespace Go.Proofs.YthfjceemphhgcaaV
open Go Go.RowKit Go.Proofs

/-- An order in memory, whose row of those that wait is there. -/
def Obj (w : World) (p g cp bat bac n : Nat) (hp : List Nat) (sp : List Value) (at_ ac : List Int) : Prop :=
  Blk w p 53 [.slice (some ⟨g, 0, none⟩) hp.length cp, .slice (some ⟨bat, 0, none⟩) n n, .slice (some ⟨bac, 0, none⟩) n n] ∧ Blk w g 3 (nats hp ++ sp) ∧ Blk w bat 3 (ints .i64 at_) ∧ Blk w bac 3 (ints .i64 ac)
def foot (p g bat bac : Nat) : Nat → Prop := fun b => b = p ∨ b = g ∨ b = bat ∨ b = bac
theorem Obj.tch0 {w w' : World} {p g cp bat bac n : Nat} {hp : List Nat} {sp : List Value} {at_ ac : List Int} (h : Obj w p g cp bat bac n hp sp at_ ac) (k : Tch N0 w w') : Obj w' p g cp bat bac n hp sp at_ ac :=
  ⟨h.1.tch0 k, h.2.1.tch0 k, h.2.2.1.tch0 k, h.2.2.2.tch0 k⟩

set_option maxRecDepth 100000 in
theorem ahead_ok (p g cp bat bac n : Nat) (hp : List Nat) (sp : List Value) (at_ ac : List Int) (a b : Nat) (w : World) (ho : Obj w p g cp bat bac n hp sp at_ ac) (hq : HeapP.Pur p g bat bac n hp at_ ac) (ha : a < n) (hb : b < n) : Ret Try.prog 39 [.pointer (some ⟨p, 0, none⟩), .int .i64 ((a : Nat) : Int), .int .i64 ((b : Nat) : Int)] w fun v w' => v = .bool (HeapP.aheadB ac a b) ∧ Tch N0 w w' := by
  obtain ⟨hP, hH, hT, hC⟩ := ho
  have hq0 := hq
  obtain ⟨⟨n1, n2, n3, n4, n5, n6⟩, la, lc, hn, hm, hlt, hat⟩ := hq
  refine enter Try.func39 rfl rfl ?_
  refine W_seq ?_
  refine W_region (by kernel_rfl) ?_
  refine seg1 (ρ' := upd (ini [.pointer (some ⟨p, 0, none⟩), .int .i64 ((a : Nat) : Int), .int .i64 ((b : Nat) : Int)]) 6 (.bool false)) (by kernel_rfl) ?_
  refine op_nil ?_
  refine W_seq ?_
  refine W_seq ?_
  refine W_still (by kernel_rfl) (by kernel_rfl) (by kernel_rfl) fun w1 hT2 hh3 => ?_
  have hT0 := hT2
  have hP := hP.tch0 hT2
  have hC := hC.tch0 hT2
  refine qseg3 (ρ' := upd (upd (upd (upd (ini [.pointer (some ⟨p, 0, none⟩), .int .i64 ((a : Nat) : Int), .int .i64 ((b : Nat) : Int)]) 6 (.bool false)) 7 (.pointer (some ⟨p, 0, none⟩))) 8 (.pointer (some ⟨p, 0, none⟩))) 9 (.pointer (some ⟨p, 2, none⟩))) (by kernel_rfl) ?_
  refine q_val (v := .slice (some ⟨bac, 0, none⟩) n n) (by rfl) (R_load (v := .slice (some ⟨bac, 0, none⟩) n n) (by kernel_rfl) (by kernel_rfl) ((hP.cell 2).trans rfl)) ?_
  refine qseg1 (ρ' := upd (upd (upd (upd (upd (upd (ini [.pointer (some ⟨p, 0, none⟩), .int .i64 ((a : Nat) : Int), .int .i64 ((b : Nat) : Int)]) 6 (.bool false)) 7 (.pointer (some ⟨p, 0, none⟩))) 8 (.pointer (some ⟨p, 0, none⟩))) 9 (.pointer (some ⟨p, 2, none⟩))) 10 (.slice (some ⟨bac, 0, none⟩) n n)) 11 (.int .i64 ((a : Nat) : Int))) (by kernel_rfl) ?_
  refine q_val (v := .pointer (some ⟨bac, a, none⟩)) (by rfl) (R_index0 (b := bac) (len := n) (cap := n) (k := .i64) (i := ((a : Nat) : Int)) (e := 3) a (by kernel_rfl) (by kernel_rfl) (by kernel_rfl) (by kernel_rfl) rfl (by first | omega | (simp only [List.length_set, List.length_map]; omega))) ?_
  refine q_val (v := .int .i64 (ac.getD a 0)) (by rfl) (R_load (v := .int .i64 (ac.getD a 0)) (by kernel_rfl) (by kernel_rfl) ((hC.cell _).trans (ints_at .i64 _ (by first | omega | (simp only [List.length_set, List.length_map]; omega))))) ?_
  refine qseg3 (ρ' := upd (upd (upd (upd (upd (upd (upd (upd (upd (upd (upd (ini [.pointer (some ⟨p, 0, none⟩), .int .i64 ((a : Nat) : Int), .int .i64 ((b : Nat) : Int)]) 6 (.bool false)) 7 (.pointer (some ⟨p, 0, none⟩))) 8 (.pointer (some ⟨p, 0, none⟩))) 9 (.pointer (some ⟨p, 2, none⟩))) 10 (.slice (some ⟨bac, 0, none⟩) n n)) 11 (.int .i64 ((a : Nat) : Int))) 12 (.pointer (some ⟨bac, a, none⟩))) 13 (.int .i64 (ac.getD a 0))) 14 (.pointer (some ⟨p, 0, none⟩))) 15 (.pointer (some ⟨p, 0, none⟩))) 16 (.pointer (some ⟨p, 2, none⟩))) (by kernel_rfl) ?_
  refine q_val (v := .slice (some ⟨bac, 0, none⟩) n n) (by rfl) (R_load (v := .slice (some ⟨bac, 0, none⟩) n n) (by kernel_rfl) (by kernel_rfl) ((hP.cell 2).trans rfl)) ?_
  refine qseg1 (ρ' := upd (upd (upd (upd (upd (upd (upd (upd (upd (upd (upd (upd (upd (ini [.pointer (some ⟨p, 0, none⟩), .int .i64 ((a : Nat) : Int), .int .i64 ((b : Nat) : Int)]) 6 (.bool false)) 7 (.pointer (some ⟨p, 0, none⟩))) 8 (.pointer (some ⟨p, 0, none⟩))) 9 (.pointer (some ⟨p, 2, none⟩))) 10 (.slice (some ⟨bac, 0, none⟩) n n)) 11 (.int .i64 ((a : Nat) : Int))) 12 (.pointer (some ⟨bac, a, none⟩))) 13 (.int .i64 (ac.getD a 0))) 14 (.pointer (some ⟨p, 0, none⟩))) 15 (.pointer (some ⟨p, 0, none⟩))) 16 (.pointer (some ⟨p, 2, none⟩))) 17 (.slice (some ⟨bac, 0, none⟩) n n)) 18 (.int .i64 ((b : Nat) : Int))) (by kernel_rfl) ?_
  refine q_val (v := .pointer (some ⟨bac, b, none⟩)) (by rfl) (R_index0 (b := bac) (len := n) (cap := n) (k := .i64) (i := ((b : Nat) : Int)) (e := 3) b (by kernel_rfl) (by kernel_rfl) (by kernel_rfl) (by kernel_rfl) rfl (by first | omega | (simp only [List.length_set, List.length_map]; omega))) ?_
  refine q_val (v := .int .i64 (ac.getD b 0)) (by rfl) (R_load (v := .int .i64 (ac.getD b 0)) (by kernel_rfl) (by kernel_rfl) ((hC.cell _).trans (ints_at .i64 _ (by first | omega | (simp only [List.length_set, List.length_map]; omega))))) ?_
  refine qseg1 (ρ' := upd (upd (upd (upd (upd (upd (upd (upd (upd (upd (upd (upd (upd (upd (upd (upd (ini [.pointer (some ⟨p, 0, none⟩), .int .i64 ((a : Nat) : Int), .int .i64 ((b : Nat) : Int)]) 6 (.bool false)) 7 (.pointer (some ⟨p, 0, none⟩))) 8 (.pointer (some ⟨p, 0, none⟩))) 9 (.pointer (some ⟨p, 2, none⟩))) 10 (.slice (some ⟨bac, 0, none⟩) n n)) 11 (.int .i64 ((a : Nat) : Int))) 12 (.pointer (some ⟨bac, a, none⟩))) 13 (.int .i64 (ac.getD a 0))) 14 (.pointer (some ⟨p, 0, none⟩))) 15 (.pointer (some ⟨p, 0, none⟩))) 16 (.pointer (some ⟨p, 2, none⟩))) 17 (.slice (some ⟨bac, 0, none⟩) n n)) 18 (.int .i64 ((b : Nat) : Int))) 19 (.pointer (some ⟨bac, b, none⟩))) 20 (.int .i64 (ac.getD b 0))) 21 (.bool ((ac.getD a 0) != (ac.getD b 0)))) (by kernel_rfl) ?_
  refine q_nil ?_
  refine W_cond ((ac.getD a 0) != (ac.getD b 0)) (by kernel_rfl) (by kernel_rfl) (fun hc4 => ?_) (fun hc4 => ?_)
  · replace hc4 : ac.getD a 0 ≠ ac.getD b 0 := (bne_iff_ne.1 hc4)
    refine W_seq ?_
    refine W_fg [(0, .pointer (some ⟨p, 0, none⟩)), (1, .int .i64 ((a : Nat) : Int)), (2, .int .i64 ((b : Nat) : Int)), (6, .bool false), (21, .bool ((ac.getD a 0) != (ac.getD b 0)))] (by kernel_rfl) fun ρ => ?_
    refine W_still (by kernel_rfl) (by kernel_rfl) (by kernel_rfl) fun w5 hT6 hh7 => ?_
    have hT0 := hT0.t0 hT6
    have hP := hP.tch0 hT6
    have hC := hC.tch0 hT6
    refine qseg3 (ρ' := upd (upd (upd (updL ρ [(0, .pointer (some ⟨p, 0, none⟩)), (1, .int .i64 ((a : Nat) : Int)), (2, .int .i64 ((b : Nat) : Int)), (6, .bool false), (21, .bool ((ac.getD a 0) != (ac.getD b 0)))]) 22 (.pointer (some ⟨p, 0, none⟩))) 23 (.pointer (some ⟨p, 0, none⟩))) 24 (.pointer (some ⟨p, 2, none⟩))) (by kernel_rfl) ?_
    refine q_val (v := .slice (some ⟨bac, 0, none⟩) n n) (by rfl) (R_load (v := .slice (some ⟨bac, 0, none⟩) n n) (by kernel_rfl) (by kernel_rfl) ((hP.cell 2).trans rfl)) ?_
    refine qseg1 (ρ' := upd (upd (upd (upd (upd (updL ρ [(0, .pointer (some ⟨p, 0, none⟩)), (1, .int .i64 ((a : Nat) : Int)), (2, .int .i64 ((b : Nat) : Int)), (6, .bool false), (21, .bool ((ac.getD a 0) != (ac.getD b 0)))]) 22 (.pointer (some ⟨p, 0, none⟩))) 23 (.pointer (some ⟨p, 0, none⟩))) 24 (.pointer (some ⟨p, 2, none⟩))) 25 (.slice (some ⟨bac, 0, none⟩) n n)) 26 (.int .i64 ((a : Nat) : Int))) (by kernel_rfl) ?_
    refine q_val (v := .pointer (some ⟨bac, a, none⟩)) (by rfl) (R_index0 (b := bac) (len := n) (cap := n) (k := .i64) (i := ((a : Nat) : Int)) (e := 3) a (by kernel_rfl) (by kernel_rfl) (by kernel_rfl) (by kernel_rfl) rfl (by first | omega | (simp only [List.length_set, List.length_map]; omega))) ?_
    refine q_val (v := .int .i64 (ac.getD a 0)) (by rfl) (R_load (v := .int .i64 (ac.getD a 0)) (by kernel_rfl) (by kernel_rfl) ((hC.cell _).trans (ints_at .i64 _ (by first | omega | (simp only [List.length_set, List.length_map]; omega))))) ?_
    refine qseg3 (ρ' := upd (upd (upd (upd (upd (upd (upd (upd (upd (upd (updL ρ [(0, .pointer (some ⟨p, 0, none⟩)), (1, .int .i64 ((a : Nat) : Int)), (2, .int .i64 ((b : Nat) : Int)), (6, .bool false), (21, .bool ((ac.getD a 0) != (ac.getD b 0)))]) 22 (.pointer (some ⟨p, 0, none⟩))) 23 (.pointer (some ⟨p, 0, none⟩))) 24 (.pointer (some ⟨p, 2, none⟩))) 25 (.slice (some ⟨bac, 0, none⟩) n n)) 26 (.int .i64 ((a : Nat) : Int))) 27 (.pointer (some ⟨bac, a, none⟩))) 28 (.int .i64 (ac.getD a 0))) 29 (.pointer (some ⟨p, 0, none⟩))) 30 (.pointer (some ⟨p, 0, none⟩))) 31 (.pointer (some ⟨p, 2, none⟩))) (by kernel_rfl) ?_
    refine q_val (v := .slice (some ⟨bac, 0, none⟩) n n) (by rfl) (R_load (v := .slice (some ⟨bac, 0, none⟩) n n) (by kernel_rfl) (by kernel_rfl) ((hP.cell 2).trans rfl)) ?_
    refine qseg1 (ρ' := upd (upd (upd (upd (upd (upd (upd (upd (upd (upd (upd (upd (updL ρ [(0, .pointer (some ⟨p, 0, none⟩)), (1, .int .i64 ((a : Nat) : Int)), (2, .int .i64 ((b : Nat) : Int)), (6, .bool false), (21, .bool ((ac.getD a 0) != (ac.getD b 0)))]) 22 (.pointer (some ⟨p, 0, none⟩))) 23 (.pointer (some ⟨p, 0, none⟩))) 24 (.pointer (some ⟨p, 2, none⟩))) 25 (.slice (some ⟨bac, 0, none⟩) n n)) 26 (.int .i64 ((a : Nat) : Int))) 27 (.pointer (some ⟨bac, a, none⟩))) 28 (.int .i64 (ac.getD a 0))) 29 (.pointer (some ⟨p, 0, none⟩))) 30 (.pointer (some ⟨p, 0, none⟩))) 31 (.pointer (some ⟨p, 2, none⟩))) 32 (.slice (some ⟨bac, 0, none⟩) n n)) 33 (.int .i64 ((b : Nat) : Int))) (by kernel_rfl) ?_
    refine q_val (v := .pointer (some ⟨bac, b, none⟩)) (by rfl) (R_index0 (b := bac) (len := n) (cap := n) (k := .i64) (i := ((b : Nat) : Int)) (e := 3) b (by kernel_rfl) (by kernel_rfl) (by kernel_rfl) (by kernel_rfl) rfl (by first | omega | (simp only [List.length_set, List.length_map]; omega))) ?_
    refine q_val (v := .int .i64 (ac.getD b 0)) (by rfl) (R_load (v := .int .i64 (ac.getD b 0)) (by kernel_rfl) (by kernel_rfl) ((hC.cell _).trans (ints_at .i64 _ (by first | omega | (simp only [List.length_set, List.length_map]; omega))))) ?_
    refine qseg2 (ρ' := upd (upd (upd (upd (upd (upd (upd (upd (upd (upd (upd (upd (upd (upd (upd (upd (updL ρ [(0, .pointer (some ⟨p, 0, none⟩)), (1, .int .i64 ((a : Nat) : Int)), (2, .int .i64 ((b : Nat) : Int)), (6, .bool false), (21, .bool ((ac.getD a 0) != (ac.getD b 0)))]) 22 (.pointer (some ⟨p, 0, none⟩))) 23 (.pointer (some ⟨p, 0, none⟩))) 24 (.pointer (some ⟨p, 2, none⟩))) 25 (.slice (some ⟨bac, 0, none⟩) n n)) 26 (.int .i64 ((a : Nat) : Int))) 27 (.pointer (some ⟨bac, a, none⟩))) 28 (.int .i64 (ac.getD a 0))) 29 (.pointer (some ⟨p, 0, none⟩))) 30 (.pointer (some ⟨p, 0, none⟩))) 31 (.pointer (some ⟨p, 2, none⟩))) 32 (.slice (some ⟨bac, 0, none⟩) n n)) 33 (.int .i64 ((b : Nat) : Int))) 34 (.pointer (some ⟨bac, b, none⟩))) 35 (.int .i64 (ac.getD b 0))) 36 (.bool (decide (ac.getD a 0 > ac.getD b 0)))) 6 (.bool (decide (ac.getD a 0 > ac.getD b 0)))) (by kernel_rfl) ?_
    refine q_nil ?_
    refine W_ret ?_
    exact ⟨_, Res_of (v := .bool (decide (ac.getD a 0 > ac.getD b 0))) (by kernel_rfl), ⟨congrArg Value.bool (by unfold HeapP.aheadB; rw [if_neg (by omega)]), hT0⟩⟩
  · replace hc4 : ac.getD a 0 = ac.getD b 0 := (bne_eq_false_iff_eq.1 hc4)
    refine W_skip ?_
    refine W_seq ?_
    refine W_fg [(0, .pointer (some ⟨p, 0, none⟩)), (1, .int .i64 ((a : Nat) : Int)), (2, .int .i64 ((b : Nat) : Int)), (6, .bool false), (21, .bool ((ac.getD a 0) != (ac.getD b 0)))] (by kernel_rfl) fun ρ => ?_
    refine W_region (by kernel_rfl) ?_
    refine seg4 (ρ' := upd (upd (upd (upd (updL ρ [(0, .pointer (some ⟨p, 0, none⟩)), (1, .int .i64 ((a : Nat) : Int)), (2, .int .i64 ((b : Nat) : Int)), (6, .bool false), (21, .bool ((ac.getD a 0) != (ac.getD b 0)))]) 37 (.int .i64 ((a : Nat) : Int))) 38 (.int .i64 ((b : Nat) : Int))) 39 (.bool (decide (((a : Nat) : Int) < ((b : Nat) : Int))))) 6 (.bool (decide (((a : Nat) : Int) < ((b : Nat) : Int))))) (by kernel_rfl) ?_
    refine op_nil ?_
    refine W_ret ?_
    exact ⟨_, Res_of (v := .bool (decide (((a : Nat) : Int) < ((b : Nat) : Int)))) (by kernel_rfl), ⟨congrArg Value.bool (by unfold HeapP.aheadB; rw [if_pos (by omega)]; simp), hT0⟩⟩

def noneB (n : Nat) (v : Int) : Bool := decide (v < 0 ∨ (n : Int) ≤ v)
theorem noneB_t {n : Nat} {v : Int} (h : noneB n v = true) : v < 0 ∨ (n : Int) ≤ v := of_decide_eq_true h
theorem noneB_f {n : Nat} {v : Int} (h : noneB n v = false) : 0 ≤ v ∧ v < (n : Int) := by have := of_decide_eq_false h; omega

set_option maxRecDepth 100000 in
theorem none_ok (p bat n : Nat) (hv cv : Value) (v : Int) (w : World) (hP : Blk w p 53 [hv, .slice (some ⟨bat, 0, none⟩) n n, cv]) : Ret Try.prog 33 [.pointer (some ⟨p, 0, none⟩), .int .i64 v] w fun x w' => x = .bool (noneB n v) ∧ Tch N0 w w' := by
  refine enter Try.func33 rfl rfl ?_
  refine W_seq ?_
  refine W_region (by kernel_rfl) ?_
  refine seg1 (ρ' := upd (ini [.pointer (some ⟨p, 0, none⟩), .int .i64 v]) 4 (.bool false)) (by kernel_rfl) ?_
  refine op_nil ?_
  refine W_seq ?_
  refine W_region (by kernel_rfl) ?_
  refine seg7 (ρ' := upd (upd (upd (upd (upd (upd (upd (upd (ini [.pointer (some ⟨p, 0, none⟩), .int .i64 v]) 4 (.bool false)) 5 (.pointer (some ⟨p, 0, none⟩))) 6 (.bool false)) 7 (.bool false)) 8 (.int .i64 v)) 9 (.bool (decide (v < 0)))) 10 (.bool (decide (v < 0)))) 11 (.bool (decide (v < 0)))) (by kernel_rfl) ?_
  cases hb1 : decide (v < 0)
  · replace hb1 : 0 ≤ v := (Int.not_lt.1 (of_decide_eq_false hb1))
    refine seg4 (ρ' := upd (upd (upd (upd (upd (upd (upd (upd (upd (upd (upd (upd (ini [.pointer (some ⟨p, 0, none⟩), .int .i64 v]) 4 (.bool false)) 5 (.pointer (some ⟨p, 0, none⟩))) 6 (.bool false)) 7 (.bool false)) 8 (.int .i64 v)) 9 (.bool false)) 10 (.bool false)) 11 (.bool false)) 12 (.int .i64 v)) 13 (.pointer (some ⟨p, 0, none⟩))) 14 (.pointer (some ⟨p, 0, none⟩))) 15 (.pointer (some ⟨p, 1, none⟩))) (by kernel_rfl) ?_
    refine st (by kernel_rfl) (S_val (v := .slice (some ⟨bat, 0, none⟩) n n) (R_load (v := .slice (some ⟨bat, 0, none⟩) n n) (by kernel_rfl) (by kernel_rfl) ((hP.cell 1).trans rfl)) ?_)
    refine seg4 (ρ' := upd (upd (upd (upd (upd (upd (upd (upd (upd (upd (upd (upd (upd (upd (upd (upd (upd (ini [.pointer (some ⟨p, 0, none⟩), .int .i64 v]) 4 (.bool false)) 5 (.pointer (some ⟨p, 0, none⟩))) 6 (.bool false)) 7 (.bool false)) 8 (.int .i64 v)) 9 (.bool false)) 10 (.bool false)) 11 (.bool false)) 12 (.int .i64 v)) 13 (.pointer (some ⟨p, 0, none⟩))) 14 (.pointer (some ⟨p, 0, none⟩))) 15 (.pointer (some ⟨p, 1, none⟩))) 16 (.slice (some ⟨bat, 0, none⟩) n n)) 17 (.int .i64 (n : Int))) 18 (.bool (decide (v ≥ (n : Int))))) 19 (.bool (decide (v ≥ (n : Int))))) 4 (.bool (decide (v ≥ (n : Int))))) (by kernel_rfl) ?_
    refine op_nil ?_
    refine W_ret ?_
    exact ⟨_, Res_of (v := .bool (decide (v ≥ (n : Int)))) (by kernel_rfl), ⟨congrArg Value.bool (by unfold noneB; simp; omega), Tch.refl _ _⟩⟩
  · replace hb1 : v < 0 := (of_decide_eq_true hb1)
    refine seg9 (ρ' := upd (upd (upd (upd (upd (upd (upd (upd (upd (upd (upd (upd (upd (upd (upd (upd (upd (ini [.pointer (some ⟨p, 0, none⟩), .int .i64 v]) 4 (.bool false)) 5 (.pointer (some ⟨p, 0, none⟩))) 6 (.bool false)) 7 (.bool false)) 8 (.int .i64 v)) 9 (.bool true)) 10 (.bool true)) 11 (.bool true)) 12 (undef)) 13 (undef)) 14 (undef)) 15 (undef)) 16 (undef)) 17 (undef)) 18 (undef)) 19 (.bool true)) 4 (.bool true)) (by kernel_rfl) ?_
    refine op_nil ?_
    refine W_ret ?_
    exact ⟨_, Res_of (v := .bool true) (by kernel_rfl), ⟨congrArg Value.bool (by unfold noneB; simp; omega), Tch.refl _ _⟩⟩

set_option maxRecDepth 100000 in
theorem none_nil (v : Int) (w : World) : Ret Try.prog 33 [.pointer none, .int .i64 v] w fun x w' => x = .bool true ∧ Tch N0 w w' := by
  refine enter Try.func33 rfl rfl ?_
  refine W_seq ?_
  refine W_region (by kernel_rfl) ?_
  refine seg1 (ρ' := upd (ini [.pointer none, .int .i64 v]) 4 (.bool false)) (by kernel_rfl) ?_
  refine op_nil ?_
  refine W_seq ?_
  refine W_region (by kernel_rfl) ?_
  refine seg16 (ρ' := upd (upd (upd (upd (upd (upd (upd (upd (upd (upd (upd (upd (upd (upd (upd (upd (upd (ini [.pointer none, .int .i64 v]) 4 (.bool false)) 5 (.pointer none)) 6 (.bool true)) 7 (.bool true)) 8 (undef)) 9 (undef)) 10 (.bool true)) 11 (.bool true)) 12 (undef)) 13 (undef)) 14 (undef)) 15 (undef)) 16 (undef)) 17 (undef)) 18 (undef)) 19 (.bool true)) 4 (.bool true)) (by kernel_rfl) ?_
  refine op_nil ?_
  refine W_ret ?_
  exact ⟨_, Res_of (v := .bool true) (by kernel_rfl), ⟨rfl, Tch.refl _ _⟩⟩

set_option maxRecDepth 100000 in
theorem swap_ok (p g cp bat bac n : Nat) (hp : List Nat) (sp : List Value) (at_ ac : List Int) (i k : Nat) (w : World) (ho : Obj w p g cp bat bac n hp sp at_ ac) (hq : HeapP.Pur p g bat bac n hp at_ ac) (hi : i < hp.length) (hk : k < hp.length) : Ret Try.prog 34 [.pointer (some ⟨p, 0, none⟩), .int .i64 ((i : Nat) : Int), .int .i64 ((k : Nat) : Int)] w fun v w' => ∃ at', Obj w' p g cp bat bac n (HeapP.swp hp i k) sp at' ac ∧ HeapP.Pur p g bat bac n (HeapP.swp hp i k) at' ac ∧ Tch (foot p g bat bac) w w' := by
  obtain ⟨hP, hH, hT, hC⟩ := ho
  have hq0 := hq
  obtain ⟨⟨n1, n2, n3, n4, n5, n6⟩, la, lc, hn, hm, hlt, hat⟩ := hq
  have hF : Tch (foot p g bat bac) w w := Tch.refl _ _
  refine enter Try.func34 rfl rfl ?_
  refine W_seq ?_
  refine W_draw (fun w' => Blk w' p 53 [.slice (some ⟨g, 0, none⟩) hp.length cp, .slice (some ⟨bat, 0, none⟩) n n, .slice (some ⟨bac, 0, none⟩) n n]) (by kernel_rfl) (by kernel_rfl) (by kernel_rfl) fun w1 hT2 hh3 => ?_
  have hP := hP.tch0 hT2
  have hH := hH.tch0 hT2
  have hT := hT.tch0 hT2
  have hC := hC.tch0 hT2
  have hF := hF.then0 hT2
  refine d_takes [0, 4, 5, 9, 10, 14, 17, 21, 1, 6, 11, 18, 2, 7, 12, 19] (listed' := #[true, true, true, false, true, true, true, true, false, true, true, true, true, false, true, false, false, true, true, true, false, true, false, false, false, false, false, false]) (ρ' := upd (upd (upd (upd (upd (upd (upd (upd (upd (upd (upd (upd (upd (upd (upd (upd (ini [.pointer (some ⟨p, 0, none⟩), .int .i64 ((i : Nat) : Int), .int .i64 ((k : Nat) : Int)]) 6 (.pointer (some ⟨p, 0, none⟩))) 10 (.int .i64 ((i : Nat) : Int))) 11 (.pointer (some ⟨p, 0, none⟩))) 15 (.int .i64 ((k : Nat) : Int))) 16 (.pointer (some ⟨p, 0, none⟩))) 20 (.int .i64 ((k : Nat) : Int))) 23 (.pointer (some ⟨p, 0, none⟩))) 27 (.int .i64 ((i : Nat) : Int))) 7 (.pointer (some ⟨p, 0, none⟩))) 12 (.pointer (some ⟨p, 0, none⟩))) 17 (.pointer (some ⟨p, 0, none⟩))) 24 (.pointer (some ⟨p, 0, none⟩))) 8 (.pointer (some ⟨p, 0, none⟩))) 13 (.pointer (some ⟨p, 0, none⟩))) 18 (.pointer (some ⟨p, 0, none⟩))) 25 (.pointer (some ⟨p, 0, none⟩))) hP (by kernel_rfl) ?_
  refine d_val (v := .slice (some ⟨g, 0, none⟩) hp.length cp) 3 (by rfl) (by kernel_rfl) (by kernel_rfl) (by kernel_rfl) (fun w' hs => by have hP := hs; exact R_load (v := .slice (some ⟨g, 0, none⟩) hp.length cp) (by kernel_rfl) (by kernel_rfl) ((hP.cell 0).trans rfl)) hP ?_
  refine d_val (v := .slice (some ⟨g, 0, none⟩) hp.length cp) 8 (by rfl) (by kernel_rfl) (by kernel_rfl) (by kernel_rfl) (fun w' hs => by have hP := hs; exact R_load (v := .slice (some ⟨g, 0, none⟩) hp.length cp) (by kernel_rfl) (by kernel_rfl) ((hP.cell 0).trans rfl)) hP ?_
  refine d_val (v := .slice (some ⟨g, 0, none⟩) hp.length cp) 13 (by rfl) (by kernel_rfl) (by kernel_rfl) (by kernel_rfl) (fun w' hs => by have hP := hs; exact R_load (v := .slice (some ⟨g, 0, none⟩) hp.length cp) (by kernel_rfl) (by kernel_rfl) ((hP.cell 0).trans rfl)) hP ?_
  refine d_val (v := .pointer (some ⟨g, k, none⟩)) 15 (by rfl) (by kernel_rfl) (by kernel_rfl) (by kernel_rfl) (fun w' hs => by have hP := hs; exact R_index0 (b := g) (len := hp.length) (cap := cp) (k := .i64) (i := ((k : Nat) : Int)) (e := 3) k (by kernel_rfl) (by kernel_rfl) (by kernel_rfl) (by kernel_rfl) rfl (by first | omega | (simp only [List.length_set, List.length_map]; omega))) hP ?_
  refine d_val (v := .slice (some ⟨g, 0, none⟩) hp.length cp) 20 (by rfl) (by kernel_rfl) (by kernel_rfl) (by kernel_rfl) (fun w' hs => by have hP := hs; exact R_load (v := .slice (some ⟨g, 0, none⟩) hp.length cp) (by kernel_rfl) (by kernel_rfl) ((hP.cell 0).trans rfl)) hP ?_
  refine d_val (v := .pointer (some ⟨g, i, none⟩)) 22 (by rfl) (by kernel_rfl) (by kernel_rfl) (by kernel_rfl) (fun w' hs => by have hP := hs; exact R_index0 (b := g) (len := hp.length) (cap := cp) (k := .i64) (i := ((i : Nat) : Int)) (e := 3) i (by kernel_rfl) (by kernel_rfl) (by kernel_rfl) (by kernel_rfl) rfl (by first | omega | (simp only [List.length_set, List.length_map]; omega))) hP ?_
  refine d_two 16 23 (by kernel_rfl) (by rfl) (by rfl) (by kernel_rfl) (by kernel_rfl) ?_ ?_
  · refine (S_val (v := .int .i64 ((hp.getD k 0 : Nat) : Int)) (R_load (v := .int .i64 ((hp.getD k 0 : Nat) : Int)) (by kernel_rfl) (by kernel_rfl) ((hH.cell _).trans (nats_atP (by first | omega | (simp only [List.length_set, List.length_map]; omega))))) ?_)
    refine ⟨hP, ?_⟩
    refine d_one 23 (by kernel_rfl) (by rfl) (by kernel_rfl) (S_val (v := .int .i64 ((hp.getD i 0 : Nat) : Int)) (R_load (v := .int .i64 ((hp.getD i 0 : Nat) : Int)) (by kernel_rfl) (by kernel_rfl) ((hH.cell _).trans (nats_atP (by first | omega | (simp only [List.length_set, List.length_map]; omega))))) ?_)
    refine ⟨hP, ?_⟩
    refine d_val (v := .pointer (some ⟨g, i, none⟩)) 24 (by rfl) (by kernel_rfl) (by kernel_rfl) (by kernel_rfl) (fun w' hs => by have hP := hs; exact R_index0 (b := g) (len := hp.length) (cap := cp) (k := .i64) (i := ((i : Nat) : Int)) (e := 3) i (by kernel_rfl) (by kernel_rfl) (by kernel_rfl) (by kernel_rfl) rfl (by first | omega | (simp only [List.length_set, List.length_map]; omega))) hP ?_
    refine d_one 25 (by kernel_rfl) (by rfl) (by kernel_rfl) (S_store (b := g) (j := i) (v := .int .i64 ((hp.getD k 0 : Nat) : Int)) (by kernel_rfl) (by kernel_rfl) (by kernel_rfl) (by rfl) hH (by rw [List.length_append, nats_length]; (first | omega | (simp only [List.length_set, List.length_map]; omega))) fun w4 hT5 hs6 hH' => ?_)
    have hP := hP.tch hT5 (fun e => by have : p = g := e; omega)
    have hT := hT.tch hT5 (fun e => by have : bat = g := e; omega)
    have hC := hC.tch hT5 (fun e => by have : bac = g := e; omega)
    have hF := Tch.trans hF hT5 (fun _ _ e => e) (fun _ _ e => .inr (.inl e))
    replace hH : Blk w4 (g) 3 (nats (hp.set i (hp.getD k 0)) ++ sp) := (nats_setP (l := hp) (sp := sp) (i := i) (hp.getD k 0) (by first | omega | (simp only [List.length_set, List.length_map]; omega))) ▸ hH'
    refine ⟨hP, ?_⟩
    refine d_val (v := .pointer (some ⟨g, k, none⟩)) 26 (by rfl) (by kernel_rfl) (by kernel_rfl) (by kernel_rfl) (fun w' hs => by have hP := hs; exact R_index0 (b := g) (len := hp.length) (cap := cp) (k := .i64) (i := ((k : Nat) : Int)) (e := 3) k (by kernel_rfl) (by kernel_rfl) (by kernel_rfl) (by kernel_rfl) rfl (by first | omega | (simp only [List.length_set, List.length_map]; omega))) hP ?_
    refine d_one 27 (by kernel_rfl) (by rfl) (by kernel_rfl) (S_store (b := g) (j := k) (v := .int .i64 ((hp.getD i 0 : Nat) : Int)) (by kernel_rfl) (by kernel_rfl) (by kernel_rfl) (by rfl) hH (by rw [List.length_append, nats_length]; (first | omega | (simp only [List.length_set, List.length_map]; omega))) fun w7 hT8 hs9 hH' => ?_)
    have hP := hP.tch hT8 (fun e => by have : p = g := e; omega)
    have hT := hT.tch hT8 (fun e => by have : bat = g := e; omega)
    have hC := hC.tch hT8 (fun e => by have : bac = g := e; omega)
    have hF := Tch.trans hF hT8 (fun _ _ e => e) (fun _ _ e => .inr (.inl e))
    replace hH : Blk w7 (g) 3 (nats ((hp.set i (hp.getD k 0)).set k (hp.getD i 0)) ++ sp) := (nats_setP (l := hp.set i (hp.getD k 0)) (sp := sp) (i := k) (hp.getD i 0) (by first | omega | (simp only [List.length_set, List.length_map]; omega))) ▸ hH'
    refine ⟨hP, ?_⟩
    refine d_done (by kernel_rfl) ?_
    refine W_fg [(0, .pointer (some ⟨p, 0, none⟩)), (1, .int .i64 ((i : Nat) : Int)), (2, .int .i64 ((k : Nat) : Int))] (by kernel_rfl) fun ρ => ?_
    have q1 := getD_lt (fun x hx => hlt x ((HeapP.swp_perm hp i k hi hk).mem_iff.1 hx)) (i := i) (by rw [HeapP.swp_length]; exact hi)
    have q2 := getD_lt (fun x hx => hlt x ((HeapP.swp_perm hp i k hi hk).mem_iff.1 hx)) (i := k) (by rw [HeapP.swp_length]; exact hk)
    have q3 : (HeapP.swp hp i k).length = hp.length := HeapP.swp_length _ _ _
    replace hH : Blk w7 g 3 (nats (HeapP.swp hp i k) ++ sp) := hH
    refine W_draw (fun w' => Blk w' p 53 [.slice (some ⟨g, 0, none⟩) hp.length cp, .slice (some ⟨bat, 0, none⟩) n n, .slice (some ⟨bac, 0, none⟩) n n] ∧ Blk w' g 3 (nats (HeapP.swp hp i k) ++ sp)) (by kernel_rfl) (by kernel_rfl) (by kernel_rfl) fun w10 hT11 hh12 => ?_
    have hP := hP.tch0 hT11
    have hH := hH.tch0 hT11
    have hT := hT.tch0 hT11
    have hC := hC.tch0 hT11
    have hF := hF.then0 hT11
    refine d_takes [0, 4, 8, 11, 15, 19, 22, 23, 1, 5, 12, 16, 2, 6, 13, 17] (listed' := #[true, true, true, false, true, true, true, false, true, false, false, true, true, true, false, true, true, true, false, true, false, false, true, true, false, false, false, false]) (ρ' := upd (upd (upd (upd (upd (upd (upd (upd (upd (upd (upd (upd (upd (upd (upd (upd (updL ρ [(0, .pointer (some ⟨p, 0, none⟩)), (1, .int .i64 ((i : Nat) : Int)), (2, .int .i64 ((k : Nat) : Int))]) 32 (.pointer (some ⟨p, 0, none⟩))) 36 (.pointer (some ⟨p, 0, none⟩))) 40 (.int .i64 ((i : Nat) : Int))) 43 (.pointer (some ⟨p, 0, none⟩))) 47 (.pointer (some ⟨p, 0, none⟩))) 51 (.int .i64 ((k : Nat) : Int))) 54 (.int .i64 ((i : Nat) : Int))) 55 (.int .i64 ((k : Nat) : Int))) 33 (.pointer (some ⟨p, 0, none⟩))) 37 (.pointer (some ⟨p, 0, none⟩))) 44 (.pointer (some ⟨p, 0, none⟩))) 48 (.pointer (some ⟨p, 0, none⟩))) 34 (.pointer (some ⟨p, 1, none⟩))) 38 (.pointer (some ⟨p, 0, none⟩))) 45 (.pointer (some ⟨p, 1, none⟩))) 49 (.pointer (some ⟨p, 0, none⟩))) ⟨hP, hH⟩ (by kernel_rfl) ?_
    refine d_val (v := .slice (some ⟨bat, 0, none⟩) n n) 3 (by rfl) (by kernel_rfl) (by kernel_rfl) (by kernel_rfl) (fun w' hs => by obtain ⟨hP, hH⟩ := hs; exact R_load (v := .slice (some ⟨bat, 0, none⟩) n n) (by kernel_rfl) (by kernel_rfl) ((hP.cell 1).trans rfl)) ⟨hP, hH⟩ ?_
    refine d_val (v := .slice (some ⟨g, 0, none⟩) hp.length cp) 7 (by rfl) (by kernel_rfl) (by kernel_rfl) (by kernel_rfl) (fun w' hs => by obtain ⟨hP, hH⟩ := hs; exact R_load (v := .slice (some ⟨g, 0, none⟩) hp.length cp) (by kernel_rfl) (by kernel_rfl) ((hP.cell 0).trans rfl)) ⟨hP, hH⟩ ?_
    refine d_val (v := .pointer (some ⟨g, i, none⟩)) 9 (by rfl) (by kernel_rfl) (by kernel_rfl) (by kernel_rfl) (fun w' hs => by obtain ⟨hP, hH⟩ := hs; exact R_index0 (b := g) (len := hp.length) (cap := cp) (k := .i64) (i := ((i : Nat) : Int)) (e := 3) i (by kernel_rfl) (by kernel_rfl) (by kernel_rfl) (by kernel_rfl) rfl (by first | omega | (simp only [List.length_set, List.length_map]; omega))) ⟨hP, hH⟩ ?_
    refine d_val (v := .int .i64 (((HeapP.swp hp i k).getD i 0 : Nat) : Int)) 10 (by rfl) (by kernel_rfl) (by kernel_rfl) (by kernel_rfl) (fun w' hs => by obtain ⟨hP, hH⟩ := hs; exact R_load (v := .int .i64 (((HeapP.swp hp i k).getD i 0 : Nat) : Int)) (by kernel_rfl) (by kernel_rfl) ((hH.cell _).trans (nats_atP (by first | omega | (simp only [List.length_set, List.length_map]; omega))))) ⟨hP, hH⟩ ?_
    refine d_val (v := .slice (some ⟨bat, 0, none⟩) n n) 14 (by rfl) (by kernel_rfl) (by kernel_rfl) (by kernel_rfl) (fun w' hs => by obtain ⟨hP, hH⟩ := hs; exact R_load (v := .slice (some ⟨bat, 0, none⟩) n n) (by kernel_rfl) (by kernel_rfl) ((hP.cell 1).trans rfl)) ⟨hP, hH⟩ ?_
    refine d_val (v := .slice (some ⟨g, 0, none⟩) hp.length cp) 18 (by rfl) (by kernel_rfl) (by kernel_rfl) (by kernel_rfl) (fun w' hs => by obtain ⟨hP, hH⟩ := hs; exact R_load (v := .slice (some ⟨g, 0, none⟩) hp.length cp) (by kernel_rfl) (by kernel_rfl) ((hP.cell 0).trans rfl)) ⟨hP, hH⟩ ?_
    refine d_val (v := .pointer (some ⟨g, k, none⟩)) 20 (by rfl) (by kernel_rfl) (by kernel_rfl) (by kernel_rfl) (fun w' hs => by obtain ⟨hP, hH⟩ := hs; exact R_index0 (b := g) (len := hp.length) (cap := cp) (k := .i64) (i := ((k : Nat) : Int)) (e := 3) k (by kernel_rfl) (by kernel_rfl) (by kernel_rfl) (by kernel_rfl) rfl (by first | omega | (simp only [List.length_set, List.length_map]; omega))) ⟨hP, hH⟩ ?_
    refine d_val (v := .int .i64 (((HeapP.swp hp i k).getD k 0 : Nat) : Int)) 21 (by rfl) (by kernel_rfl) (by kernel_rfl) (by kernel_rfl) (fun w' hs => by obtain ⟨hP, hH⟩ := hs; exact R_load (v := .int .i64 (((HeapP.swp hp i k).getD k 0 : Nat) : Int)) (by kernel_rfl) (by kernel_rfl) ((hH.cell _).trans (nats_atP (by first | omega | (simp only [List.length_set, List.length_map]; omega))))) ⟨hP, hH⟩ ?_
    refine d_val (v := .pointer (some ⟨bat, (HeapP.swp hp i k).getD i 0, none⟩)) 24 (by rfl) (by kernel_rfl) (by kernel_rfl) (by kernel_rfl) (fun w' hs => by obtain ⟨hP, hH⟩ := hs; exact R_index0 (b := bat) (len := n) (cap := n) (k := .i64) (i := (((HeapP.swp hp i k).getD i 0 : Nat) : Int)) (e := 3) ((HeapP.swp hp i k).getD i 0) (by kernel_rfl) (by kernel_rfl) (by kernel_rfl) (by kernel_rfl) rfl (by first | omega | (simp only [List.length_set, List.length_map]; omega))) ⟨hP, hH⟩ ?_
    refine d_one 25 (by kernel_rfl) (by rfl) (by kernel_rfl) (S_store (b := bat) (j := (HeapP.swp hp i k).getD i 0) (v := .int .i64 ((i : Nat) : Int)) (by kernel_rfl) (by kernel_rfl) (by kernel_rfl) (by rfl) hT (by rw [ints_length]; first | omega | (simp only [List.length_set, List.length_map]; omega)) fun w13 hT14 hs15 hT' => ?_)
    have hP := hP.tch hT14 (fun e => by have : p = bat := e; omega)
    have hH := hH.tch hT14 (fun e => by have : g = bat := e; omega)
    have hC := hC.tch hT14 (fun e => by have : bac = bat := e; omega)
    have hF := Tch.trans hF hT14 (fun _ _ e => e) (fun _ _ e => .inr (.inr (.inl e)))
    replace hT : Blk w13 (bat) 3 (ints .i64 (at_.set ((HeapP.swp hp i k).getD i 0) ((i : Nat) : Int))) := by rw [← ints_set]; exact hT'
    refine ⟨⟨hP, hH⟩, ?_⟩
    refine d_val (v := .pointer (some ⟨bat, (HeapP.swp hp i k).getD k 0, none⟩)) 26 (by rfl) (by kernel_rfl) (by kernel_rfl) (by kernel_rfl) (fun w' hs => by obtain ⟨hP, hH⟩ := hs; exact R_index0 (b := bat) (len := n) (cap := n) (k := .i64) (i := (((HeapP.swp hp i k).getD k 0 : Nat) : Int)) (e := 3) ((HeapP.swp hp i k).getD k 0) (by kernel_rfl) (by kernel_rfl) (by kernel_rfl) (by kernel_rfl) rfl (by first | omega | (simp only [List.length_set, List.length_map]; omega))) ⟨hP, hH⟩ ?_
    refine d_one 27 (by kernel_rfl) (by rfl) (by kernel_rfl) (S_store (b := bat) (j := (HeapP.swp hp i k).getD k 0) (v := .int .i64 ((k : Nat) : Int)) (by kernel_rfl) (by kernel_rfl) (by kernel_rfl) (by rfl) hT (by rw [ints_length]; first | omega | (simp only [List.length_set, List.length_map]; omega)) fun w16 hT17 hs18 hT' => ?_)
    have hP := hP.tch hT17 (fun e => by have : p = bat := e; omega)
    have hH := hH.tch hT17 (fun e => by have : g = bat := e; omega)
    have hC := hC.tch hT17 (fun e => by have : bac = bat := e; omega)
    have hF := Tch.trans hF hT17 (fun _ _ e => e) (fun _ _ e => .inr (.inr (.inl e)))
    replace hT : Blk w16 (bat) 3 (ints .i64 ((at_.set ((HeapP.swp hp i k).getD i 0) ((i : Nat) : Int)).set ((HeapP.swp hp i k).getD k 0) ((k : Nat) : Int))) := by rw [← ints_set]; exact hT'
    refine ⟨⟨hP, hH⟩, ?_⟩
    refine d_done (by kernel_rfl) ?_
    exact ⟨_, Res_of (v := .tuple #[]) (by kernel_rfl), ⟨_, ⟨by rw [HeapP.swp_length]; exact hP, hH, hT, hC⟩, hq0.swap hi hk, hF⟩⟩
  · refine (S_val (v := .int .i64 ((hp.getD i 0 : Nat) : Int)) (R_load (v := .int .i64 ((hp.getD i 0 : Nat) : Int)) (by kernel_rfl) (by kernel_rfl) ((hH.cell _).trans (nats_atP (by first | omega | (simp only [List.length_set, List.length_map]; omega))))) ?_)
    refine ⟨hP, ?_⟩
    refine d_one 16 (by kernel_rfl) (by rfl) (by kernel_rfl) (S_val (v := .int .i64 ((hp.getD k 0 : Nat) : Int)) (R_load (v := .int .i64 ((hp.getD k 0 : Nat) : Int)) (by kernel_rfl) (by kernel_rfl) ((hH.cell _).trans (nats_atP (by first | omega | (simp only [List.length_set, List.length_map]; omega))))) ?_)
    refine ⟨hP, ?_⟩
    refine d_val (v := .pointer (some ⟨g, i, none⟩)) 24 (by rfl) (by kernel_rfl) (by kernel_rfl) (by kernel_rfl) (fun w' hs => by have hP := hs; exact R_index0 (b := g) (len := hp.length) (cap := cp) (k := .i64) (i := ((i : Nat) : Int)) (e := 3) i (by kernel_rfl) (by kernel_rfl) (by kernel_rfl) (by kernel_rfl) rfl (by first | omega | (simp only [List.length_set, List.length_map]; omega))) hP ?_
    refine d_one 25 (by kernel_rfl) (by rfl) (by kernel_rfl) (S_store (b := g) (j := i) (v := .int .i64 ((hp.getD k 0 : Nat) : Int)) (by kernel_rfl) (by kernel_rfl) (by kernel_rfl) (by rfl) hH (by rw [List.length_append, nats_length]; (first | omega | (simp only [List.length_set, List.length_map]; omega))) fun w19 hT20 hs21 hH' => ?_)
    have hP := hP.tch hT20 (fun e => by have : p = g := e; omega)
    have hT := hT.tch hT20 (fun e => by have : bat = g := e; omega)
    have hC := hC.tch hT20 (fun e => by have : bac = g := e; omega)
    have hF := Tch.trans hF hT20 (fun _ _ e => e) (fun _ _ e => .inr (.inl e))
    replace hH : Blk w19 (g) 3 (nats (hp.set i (hp.getD k 0)) ++ sp) := (nats_setP (l := hp) (sp := sp) (i := i) (hp.getD k 0) (by first | omega | (simp only [List.length_set, List.length_map]; omega))) ▸ hH'
    refine ⟨hP, ?_⟩
    refine d_val (v := .pointer (some ⟨g, k, none⟩)) 26 (by rfl) (by kernel_rfl) (by kernel_rfl) (by kernel_rfl) (fun w' hs => by have hP := hs; exact R_index0 (b := g) (len := hp.length) (cap := cp) (k := .i64) (i := ((k : Nat) : Int)) (e := 3) k (by kernel_rfl) (by kernel_rfl) (by kernel_rfl) (by kernel_rfl) rfl (by first | omega | (simp only [List.length_set, List.length_map]; omega))) hP ?_
    refine d_one 27 (by kernel_rfl) (by rfl) (by kernel_rfl) (S_store (b := g) (j := k) (v := .int .i64 ((hp.getD i 0 : Nat) : Int)) (by kernel_rfl) (by kernel_rfl) (by kernel_rfl) (by rfl) hH (by rw [List.length_append, nats_length]; (first | omega | (simp only [List.length_set, List.length_map]; omega))) fun w22 hT23 hs24 hH' => ?_)
    have hP := hP.tch hT23 (fun e => by have : p = g := e; omega)
    have hT := hT.tch hT23 (fun e => by have : bat = g := e; omega)
    have hC := hC.tch hT23 (fun e => by have : bac = g := e; omega)
    have hF := Tch.trans hF hT23 (fun _ _ e => e) (fun _ _ e => .inr (.inl e))
    replace hH : Blk w22 (g) 3 (nats ((hp.set i (hp.getD k 0)).set k (hp.getD i 0)) ++ sp) := (nats_setP (l := hp.set i (hp.getD k 0)) (sp := sp) (i := k) (hp.getD i 0) (by first | omega | (simp only [List.length_set, List.length_map]; omega))) ▸ hH'
    refine ⟨hP, ?_⟩
    refine d_done (by kernel_rfl) ?_
    refine W_fg [(0, .pointer (some ⟨p, 0, none⟩)), (1, .int .i64 ((i : Nat) : Int)), (2, .int .i64 ((k : Nat) : Int))] (by kernel_rfl) fun ρ => ?_
    have q1 := getD_lt (fun x hx => hlt x ((HeapP.swp_perm hp i k hi hk).mem_iff.1 hx)) (i := i) (by rw [HeapP.swp_length]; exact hi)
    have q2 := getD_lt (fun x hx => hlt x ((HeapP.swp_perm hp i k hi hk).mem_iff.1 hx)) (i := k) (by rw [HeapP.swp_length]; exact hk)
    have q3 : (HeapP.swp hp i k).length = hp.length := HeapP.swp_length _ _ _
    replace hH : Blk w22 g 3 (nats (HeapP.swp hp i k) ++ sp) := hH
    refine W_draw (fun w' => Blk w' p 53 [.slice (some ⟨g, 0, none⟩) hp.length cp, .slice (some ⟨bat, 0, none⟩) n n, .slice (some ⟨bac, 0, none⟩) n n] ∧ Blk w' g 3 (nats (HeapP.swp hp i k) ++ sp)) (by kernel_rfl) (by kernel_rfl) (by kernel_rfl) fun w25 hT26 hh27 => ?_
    have hP := hP.tch0 hT26
    have hH := hH.tch0 hT26
    have hT := hT.tch0 hT26
    have hC := hC.tch0 hT26
    have hF := hF.then0 hT26
    refine d_takes [0, 4, 8, 11, 15, 19, 22, 23, 1, 5, 12, 16, 2, 6, 13, 17] (listed' := #[true, true, true, false, true, true, true, false, true, false, false, true, true, true, false, true, true, true, false, true, false, false, true, true, false, false, false, false]) (ρ' := upd (upd (upd (upd (upd (upd (upd (upd (upd (upd (upd (upd (upd (upd (upd (upd (updL ρ [(0, .pointer (some ⟨p, 0, none⟩)), (1, .int .i64 ((i : Nat) : Int)), (2, .int .i64 ((k : Nat) : Int))]) 32 (.pointer (some ⟨p, 0, none⟩))) 36 (.pointer (some ⟨p, 0, none⟩))) 40 (.int .i64 ((i : Nat) : Int))) 43 (.pointer (some ⟨p, 0, none⟩))) 47 (.pointer (some ⟨p, 0, none⟩))) 51 (.int .i64 ((k : Nat) : Int))) 54 (.int .i64 ((i : Nat) : Int))) 55 (.int .i64 ((k : Nat) : Int))) 33 (.pointer (some ⟨p, 0, none⟩))) 37 (.pointer (some ⟨p, 0, none⟩))) 44 (.pointer (some ⟨p, 0, none⟩))) 48 (.pointer (some ⟨p, 0, none⟩))) 34 (.pointer (some ⟨p, 1, none⟩))) 38 (.pointer (some ⟨p, 0, none⟩))) 45 (.pointer (some ⟨p, 1, none⟩))) 49 (.pointer (some ⟨p, 0, none⟩))) ⟨hP, hH⟩ (by kernel_rfl) ?_
    refine d_val (v := .slice (some ⟨bat, 0, none⟩) n n) 3 (by rfl) (by kernel_rfl) (by kernel_rfl) (by kernel_rfl) (fun w' hs => by obtain ⟨hP, hH⟩ := hs; exact R_load (v := .slice (some ⟨bat, 0, none⟩) n n) (by kernel_rfl) (by kernel_rfl) ((hP.cell 1).trans rfl)) ⟨hP, hH⟩ ?_
    refine d_val (v := .slice (some ⟨g, 0, none⟩) hp.length cp) 7 (by rfl) (by kernel_rfl) (by kernel_rfl) (by kernel_rfl) (fun w' hs => by obtain ⟨hP, hH⟩ := hs; exact R_load (v := .slice (some ⟨g, 0, none⟩) hp.length cp) (by kernel_rfl) (by kernel_rfl) ((hP.cell 0).trans rfl)) ⟨hP, hH⟩ ?_
    refine d_val (v := .pointer (some ⟨g, i, none⟩)) 9 (by rfl) (by kernel_rfl) (by kernel_rfl) (by kernel_rfl) (fun w' hs => by obtain ⟨hP, hH⟩ := hs; exact R_index0 (b := g) (len := hp.length) (cap := cp) (k := .i64) (i := ((i : Nat) : Int)) (e := 3) i (by kernel_rfl) (by kernel_rfl) (by kernel_rfl) (by kernel_rfl) rfl (by first | omega | (simp only [List.length_set, List.length_map]; omega))) ⟨hP, hH⟩ ?_
    refine d_val (v := .int .i64 (((HeapP.swp hp i k).getD i 0 : Nat) : Int)) 10 (by rfl) (by kernel_rfl) (by kernel_rfl) (by kernel_rfl) (fun w' hs => by obtain ⟨hP, hH⟩ := hs; exact R_load (v := .int .i64 (((HeapP.swp hp i k).getD i 0 : Nat) : Int)) (by kernel_rfl) (by kernel_rfl) ((hH.cell _).trans (nats_atP (by first | omega | (simp only [List.length_set, List.length_map]; omega))))) ⟨hP, hH⟩ ?_
    refine d_val (v := .slice (some ⟨bat, 0, none⟩) n n) 14 (by rfl) (by kernel_rfl) (by kernel_rfl) (by kernel_rfl) (fun w' hs => by obtain ⟨hP, hH⟩ := hs; exact R_load (v := .slice (some ⟨bat, 0, none⟩) n n) (by kernel_rfl) (by kernel_rfl) ((hP.cell 1).trans rfl)) ⟨hP, hH⟩ ?_
    refine d_val (v := .slice (some ⟨g, 0, none⟩) hp.length cp) 18 (by rfl) (by kernel_rfl) (by kernel_rfl) (by kernel_rfl) (fun w' hs => by obtain ⟨hP, hH⟩ := hs; exact R_load (v := .slice (some ⟨g, 0, none⟩) hp.length cp) (by kernel_rfl) (by kernel_rfl) ((hP.cell 0).trans rfl)) ⟨hP, hH⟩ ?_
    refine d_val (v := .pointer (some ⟨g, k, none⟩)) 20 (by rfl) (by kernel_rfl) (by kernel_rfl) (by kernel_rfl) (fun w' hs => by obtain ⟨hP, hH⟩ := hs; exact R_index0 (b := g) (len := hp.length) (cap := cp) (k := .i64) (i := ((k : Nat) : Int)) (e := 3) k (by kernel_rfl) (by kernel_rfl) (by kernel_rfl) (by kernel_rfl) rfl (by first | omega | (simp only [List.length_set, List.length_map]; omega))) ⟨hP, hH⟩ ?_
    refine d_val (v := .int .i64 (((HeapP.swp hp i k).getD k 0 : Nat) : Int)) 21 (by rfl) (by kernel_rfl) (by kernel_rfl) (by kernel_rfl) (fun w' hs => by obtain ⟨hP, hH⟩ := hs; exact R_load (v := .int .i64 (((HeapP.swp hp i k).getD k 0 : Nat) : Int)) (by kernel_rfl) (by kernel_rfl) ((hH.cell _).trans (nats_atP (by first | omega | (simp only [List.length_set, List.length_map]; omega))))) ⟨hP, hH⟩ ?_
    refine d_val (v := .pointer (some ⟨bat, (HeapP.swp hp i k).getD i 0, none⟩)) 24 (by rfl) (by kernel_rfl) (by kernel_rfl) (by kernel_rfl) (fun w' hs => by obtain ⟨hP, hH⟩ := hs; exact R_index0 (b := bat) (len := n) (cap := n) (k := .i64) (i := (((HeapP.swp hp i k).getD i 0 : Nat) : Int)) (e := 3) ((HeapP.swp hp i k).getD i 0) (by kernel_rfl) (by kernel_rfl) (by kernel_rfl) (by kernel_rfl) rfl (by first | omega | (simp only [List.length_set, List.length_map]; omega))) ⟨hP, hH⟩ ?_
    refine d_one 25 (by kernel_rfl) (by rfl) (by kernel_rfl) (S_store (b := bat) (j := (HeapP.swp hp i k).getD i 0) (v := .int .i64 ((i : Nat) : Int)) (by kernel_rfl) (by kernel_rfl) (by kernel_rfl) (by rfl) hT (by rw [ints_length]; first | omega | (simp only [List.length_set, List.length_map]; omega)) fun w28 hT29 hs30 hT' => ?_)
    have hP := hP.tch hT29 (fun e => by have : p = bat := e; omega)
    have hH := hH.tch hT29 (fun e => by have : g = bat := e; omega)
    have hC := hC.tch hT29 (fun e => by have : bac = bat := e; omega)
    have hF := Tch.trans hF hT29 (fun _ _ e => e) (fun _ _ e => .inr (.inr (.inl e)))
    replace hT : Blk w28 (bat) 3 (ints .i64 (at_.set ((HeapP.swp hp i k).getD i 0) ((i : Nat) : Int))) := by rw [← ints_set]; exact hT'
    refine ⟨⟨hP, hH⟩, ?_⟩
    refine d_val (v := .pointer (some ⟨bat, (HeapP.swp hp i k).getD k 0, none⟩)) 26 (by rfl) (by kernel_rfl) (by kernel_rfl) (by kernel_rfl) (fun w' hs => by obtain ⟨hP, hH⟩ := hs; exact R_index0 (b := bat) (len := n) (cap := n) (k := .i64) (i := (((HeapP.swp hp i k).getD k 0 : Nat) : Int)) (e := 3) ((HeapP.swp hp i k).getD k 0) (by kernel_rfl) (by kernel_rfl) (by kernel_rfl) (by kernel_rfl) rfl (by first | omega | (simp only [List.length_set, List.length_map]; omega))) ⟨hP, hH⟩ ?_
    refine d_one 27 (by kernel_rfl) (by rfl) (by kernel_rfl) (S_store (b := bat) (j := (HeapP.swp hp i k).getD k 0) (v := .int .i64 ((k : Nat) : Int)) (by kernel_rfl) (by kernel_rfl) (by kernel_rfl) (by rfl) hT (by rw [ints_length]; first | omega | (simp only [List.length_set, List.length_map]; omega)) fun w31 hT32 hs33 hT' => ?_)
    have hP := hP.tch hT32 (fun e => by have : p = bat := e; omega)
    have hH := hH.tch hT32 (fun e => by have : g = bat := e; omega)
    have hC := hC.tch hT32 (fun e => by have : bac = bat := e; omega)
    have hF := Tch.trans hF hT32 (fun _ _ e => e) (fun _ _ e => .inr (.inr (.inl e)))
    replace hT : Blk w31 (bat) 3 (ints .i64 ((at_.set ((HeapP.swp hp i k).getD i 0) ((i : Nat) : Int)).set ((HeapP.swp hp i k).getD k 0) ((k : Nat) : Int))) := by rw [← ints_set]; exact hT'
    refine ⟨⟨hP, hH⟩, ?_⟩
    refine d_done (by kernel_rfl) ?_
    exact ⟨_, Res_of (v := .tuple #[]) (by kernel_rfl), ⟨_, ⟨by rw [HeapP.swp_length]; exact hP, hH, hT, hC⟩, hq0.swap hi hk, hF⟩⟩

end Go.Proofs.YthfjceemphhgcaaV
