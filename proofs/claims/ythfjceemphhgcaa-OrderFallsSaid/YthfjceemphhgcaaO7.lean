/- Walks of functions of the program and of the document's texts: each call returns what the plain function says, and turns nothing that lay. The conditions stand with each theorem. -/
import Derived.Test.YthfjceemphhgcaaProg
import Derived.Test.YthfjceemphhgcaaVx2
import Derived.Test.YthfjceemphhgcaaO6
set_option linter.unusedVariables false
set_option linter.unusedSimpArgs false
namespace Go.Proofs.YthfjceemphhgcaaV
open Go Go.RowKit Go.Proofs

set_option maxRecDepth 100000 in
theorem halve_in (F : Nat → Prop) (p n : Nat) (hp : List Nat) (ac : List Int) (w : World) (h : Ord F w p n hp ac) (h0 : 0 < hp.length) : Ret Try.prog 25 [.pointer (some ⟨p, 0, none⟩)] w fun v w' => ∃ hp', Ord F w' p n hp' (HeapP.halveL ac) ∧ hp'.Perm hp ∧ Tch F w w' := by
  obtain ⟨g, cp, bat, bac, sp, at_, ho, hq, hl2, hcp, fp, fg, ft, fc, hF, hac, hfn⟩ := h.to_obj h0
  have hF0 := hF
  obtain ⟨hP, hH, hT, hC⟩ := ho
  have hq0 := hq
  obtain ⟨⟨n1, n2, n3, n4, n5, n6⟩, la, lc, hn, hm, hlt, hat⟩ := hq
  have hcl : hp.length ≤ cp := by rw [← hl2, List.length_append, nats_length]; omega
  have hFt : Tch F w w := Tch.refl _ _
  have hq := hq0
  refine enter Try.func25 rfl rfl ?_
  refine W_seq ?_
  refine W_seq ?_
  refine W_region (by kernel_rfl) ?_
  refine seg2 (ρ' := upd (upd (ini [.pointer (some ⟨p, 0, none⟩)]) 4 (.pointer (some ⟨p, 0, none⟩))) 5 (.bool false)) (by kernel_rfl) ?_
  refine op_nil ?_
  refine W_cond false (by kernel_rfl) (by kernel_rfl) (fun h => nomatch h) (fun _ => ?_)
  refine W_skip ?_
  refine W_seq ?_
  refine W_seq ?_
  refine W_region (by kernel_rfl) ?_
  refine seg3 (ρ' := upd (upd (upd (upd (upd (ini [.pointer (some ⟨p, 0, none⟩)]) 4 (.pointer (some ⟨p, 0, none⟩))) 5 (.bool false)) 6 (.pointer (some ⟨p, 0, none⟩))) 7 (.pointer (some ⟨p, 0, none⟩))) 8 (.pointer (some ⟨p, 2, none⟩))) (by kernel_rfl) ?_
  refine st (by rfl) (S_val (v := .slice (some ⟨bac, 0, none⟩) n n) (R_load (v := .slice (some ⟨bac, 0, none⟩) n n) (by kernel_rfl) (by kernel_rfl) ((hP.cell 2).trans rfl)) ?_)
  refine seg2 (ρ' := upd (upd (upd (upd (upd (upd (upd (upd (ini [.pointer (some ⟨p, 0, none⟩)]) 4 (.pointer (some ⟨p, 0, none⟩))) 5 (.bool false)) 6 (.pointer (some ⟨p, 0, none⟩))) 7 (.pointer (some ⟨p, 0, none⟩))) 8 (.pointer (some ⟨p, 2, none⟩))) 9 (.slice (some ⟨bac, 0, none⟩) n n)) 10 (.int .i64 (n : Int))) 11 (.int .i64 0)) (by kernel_rfl) ?_
  refine op_nil ?_
  refine W_block ?_
  refine W_loop (fun m ρ w' => ∃ (ac2 : List Int) (v : Nat) (ρ0 : Env), ρ = updL ρ0 [(0, .pointer (some ⟨p, 0, none⟩)), (10, .int .i64 (n : Int)), (11, .int .i64 ((v : Nat) : Int))] ∧ (ac2.length = n) ∧ (∀ j, ac2.getD j 0 = if j < v then ac.getD j 0 / 2 else ac.getD j 0) ∧ (v ≤ n) ∧ Blk w' p 53 [.slice (some ⟨g, 0, none⟩) hp.length cp, .slice (some ⟨bat, 0, none⟩) n n, .slice (some ⟨bac, 0, none⟩) n n] ∧ Blk w' g 3 (nats hp ++ sp) ∧ Blk w' bat 3 (ints .i64 at_) ∧ Blk w' bac 3 (ints .i64 ac2) ∧ Tch F w w' ∧ m = n - v) (m := n - 0) ?_ ?_
  · refine ⟨ac, 0, _, updL_self (by kernel_rfl), lc, by intro j; rw [if_neg (by omega)], by omega, hP, hH, hT, hC, hFt, rfl⟩
  · rintro m ρ w1 ⟨ac2, v, ρ, rfl, h1, h2, h3, hP, hH, hT, hC, hFt, rfl⟩
    have hv2 : ac2.getD v 0 = ac.getD v 0 := by rw [h2 v, if_neg (by omega)]
    have hb := hac v
    refine W_seq ?_
    refine W_region (by kernel_rfl) ?_
    refine seg1 (ρ' := upd (updL ρ [(0, .pointer (some ⟨p, 0, none⟩)), (10, .int .i64 (n : Int)), (11, .int .i64 ((v : Nat) : Int))]) 12 (.bool (decide (((v : Nat) : Int) < (n : Int))))) (by kernel_rfl) ?_
    refine op_nil ?_
    refine W_seq ?_
    refine W_cond (decide (((v : Nat) : Int) < (n : Int))) (by kernel_rfl) (by kernel_rfl) (fun hc2 => ?_) (fun hc2 => ?_)
    · replace hc2 : ((v : Nat) : Int) < (n : Int) := (of_decide_eq_true hc2)
      refine W_skip ?_
      refine W_seq ?_
      refine W_block ?_
      refine W_seq ?_
      refine W_region (by kernel_rfl) ?_
      refine seg2 (ρ' := upd (upd (upd (updL ρ [(0, .pointer (some ⟨p, 0, none⟩)), (10, .int .i64 (n : Int)), (11, .int .i64 ((v : Nat) : Int))]) 12 (.bool (decide (((v : Nat) : Int) < (n : Int))))) 13 (.int .i64 ((v : Nat) : Int))) 2 (.int .i64 ((v : Nat) : Int))) (by kernel_rfl) ?_
      refine op_nil ?_
      refine W_region (by kernel_rfl) ?_
      refine seg3 (ρ' := upd (upd (upd (upd (upd (upd (updL ρ [(0, .pointer (some ⟨p, 0, none⟩)), (10, .int .i64 (n : Int)), (11, .int .i64 ((v : Nat) : Int))]) 12 (.bool (decide (((v : Nat) : Int) < (n : Int))))) 13 (.int .i64 ((v : Nat) : Int))) 2 (.int .i64 ((v : Nat) : Int))) 14 (.pointer (some ⟨p, 0, none⟩))) 15 (.pointer (some ⟨p, 0, none⟩))) 16 (.pointer (some ⟨p, 2, none⟩))) (by kernel_rfl) ?_
      refine st (by rfl) (S_val (v := .slice (some ⟨bac, 0, none⟩) n n) (R_load (v := .slice (some ⟨bac, 0, none⟩) n n) (by kernel_rfl) (by kernel_rfl) ((hP.cell 2).trans rfl)) ?_)
      refine seg1 (ρ' := upd (upd (upd (upd (upd (upd (upd (upd (updL ρ [(0, .pointer (some ⟨p, 0, none⟩)), (10, .int .i64 (n : Int)), (11, .int .i64 ((v : Nat) : Int))]) 12 (.bool (decide (((v : Nat) : Int) < (n : Int))))) 13 (.int .i64 ((v : Nat) : Int))) 2 (.int .i64 ((v : Nat) : Int))) 14 (.pointer (some ⟨p, 0, none⟩))) 15 (.pointer (some ⟨p, 0, none⟩))) 16 (.pointer (some ⟨p, 2, none⟩))) 17 (.slice (some ⟨bac, 0, none⟩) n n)) 18 (.int .i64 ((v : Nat) : Int))) (by kernel_rfl) ?_
      refine stv (v := .pointer (some ⟨bac, v, none⟩)) (by rfl) (R_index0 (b := bac) (len := n) (cap := n) (k := .i64) (i := ((v : Nat) : Int)) (e := 3) v (by kernel_rfl) (by kernel_rfl) (by kernel_rfl) (by kernel_rfl) rfl (by first | omega | (simp only [List.length_set, List.length_map]; omega))) ?_
      refine st (by rfl) (S_val (v := .int .i64 (ac2.getD v 0)) (R_load (v := .int .i64 (ac2.getD v 0)) (by kernel_rfl) (by kernel_rfl) ((hC.cell _).trans (ints_at .i64 _ (by first | omega | (simp only [List.length_set, List.length_map]; omega))))) ?_)
      refine seg1 (ρ' := upd (upd (upd (upd (upd (upd (upd (upd (upd (upd (upd (updL ρ [(0, .pointer (some ⟨p, 0, none⟩)), (10, .int .i64 (n : Int)), (11, .int .i64 ((v : Nat) : Int))]) 12 (.bool (decide (((v : Nat) : Int) < (n : Int))))) 13 (.int .i64 ((v : Nat) : Int))) 2 (.int .i64 ((v : Nat) : Int))) 14 (.pointer (some ⟨p, 0, none⟩))) 15 (.pointer (some ⟨p, 0, none⟩))) 16 (.pointer (some ⟨p, 2, none⟩))) 17 (.slice (some ⟨bac, 0, none⟩) n n)) 18 (.int .i64 ((v : Nat) : Int))) 19 (.pointer (some ⟨bac, v, none⟩))) 20 (.int .i64 (ac2.getD v 0))) 21 (.int .i64 (IntKind.i64.wrap ((ac2.getD v 0).tdiv 2)))) (by kernel_rfl) ?_
      rw [show IntKind.i64.wrap ((ac2.getD v 0).tdiv 2) = (ac2.getD v 0) / 2 from by rw [Int.tdiv_eq_ediv_of_nonneg (by omega)]; exact wrap_i64 (by omega) (by omega)]
      refine stv (v := .pointer (some ⟨bac, v, none⟩)) (by rfl) (R_index0 (b := bac) (len := n) (cap := n) (k := .i64) (i := ((v : Nat) : Int)) (e := 3) v (by kernel_rfl) (by kernel_rfl) (by kernel_rfl) (by kernel_rfl) rfl (by first | omega | (simp only [List.length_set, List.length_map]; omega))) ?_
      refine st (by rfl) (S_store (b := bac) (j := v) (v := .int .i64 ((ac2.getD v 0) / 2)) (by kernel_rfl) (by kernel_rfl) (by kernel_rfl) (by rfl) hC (by rw [ints_length]; first | omega | (simp only [List.length_set, List.length_map]; omega)) fun w3 hT4 hs5 hC' => ?_)
      have hP := hP.tch hT4 (fun e => by have : p = bac := e; omega)
      have hH := hH.tch hT4 (fun e => by have : g = bac := e; omega)
      have hT := hT.tch hT4 (fun e => by have : bat = bac := e; omega)
      have hFt := Tch.trans hFt hT4 (fun _ _ e => e) (fun c hcl e => by cases e; exact fc)
      replace hC : Blk w3 (bac) 3 (ints .i64 (ac2.set v ((ac2.getD v 0) / 2))) := by rw [← ints_set]; exact hC'
      refine op_nil ?_
      refine W_fg [(0, .pointer (some ⟨p, 0, none⟩)), (2, .int .i64 ((v : Nat) : Int)), (10, .int .i64 (n : Int)), (11, .int .i64 ((v : Nat) : Int)), (12, .bool (decide (((v : Nat) : Int) < (n : Int))))] (by kernel_rfl) fun ρ => ?_
      refine W_region (by kernel_rfl) ?_
      refine seg1 (ρ' := upd (updL ρ [(0, .pointer (some ⟨p, 0, none⟩)), (2, .int .i64 ((v : Nat) : Int)), (10, .int .i64 (n : Int)), (11, .int .i64 ((v : Nat) : Int)), (12, .bool (decide (((v : Nat) : Int) < (n : Int))))]) 23 (.int .i64 (IntKind.i64.wrap (((v : Nat) : Int) + 1)))) (by kernel_rfl) ?_
      rw [show IntKind.i64.wrap (((v : Nat) : Int) + 1) = ((v : Nat) : Int) + 1 from wrap_i64 (by omega) (by omega)]
      rw [show upd (updL ρ [(0, .pointer (some ⟨p, 0, none⟩)), (2, .int .i64 ((v : Nat) : Int)), (10, .int .i64 (n : Int)), (11, .int .i64 ((v : Nat) : Int)), (12, .bool (decide (((v : Nat) : Int) < (n : Int))))]) 23 (.int .i64 (((v : Nat) : Int) + 1)) = upd (updL ρ [(0, .pointer (some ⟨p, 0, none⟩)), (2, .int .i64 ((v : Nat) : Int)), (10, .int .i64 (n : Int)), (11, .int .i64 ((v : Nat) : Int)), (12, .bool (decide (((v : Nat) : Int) < (n : Int))))]) 23 (.int .i64 ((v + 1 : Nat) : Int)) from congrArg (fun z => upd (updL ρ [(0, .pointer (some ⟨p, 0, none⟩)), (2, .int .i64 ((v : Nat) : Int)), (10, .int .i64 (n : Int)), (11, .int .i64 ((v : Nat) : Int)), (12, .bool (decide (((v : Nat) : Int) < (n : Int))))]) 23 (.int .i64 z)) (by omega)]
      refine seg1 (ρ' := upd (upd (updL ρ [(0, .pointer (some ⟨p, 0, none⟩)), (2, .int .i64 ((v : Nat) : Int)), (10, .int .i64 (n : Int)), (11, .int .i64 ((v : Nat) : Int)), (12, .bool (decide (((v : Nat) : Int) < (n : Int))))]) 23 (.int .i64 ((v + 1 : Nat) : Int))) 11 (.int .i64 ((v + 1 : Nat) : Int))) (by kernel_rfl) ?_
      refine op_nil ?_
      refine ⟨_, ?_, ac2.set v ((ac2.getD v 0) / 2), v + 1, _, updL_self (by kernel_rfl), ?_, ?_, ?_, hP, hH, hT, hC, hFt, rfl⟩
      · omega
      · rw [List.length_set]; exact h1
      · exact HeapP.halve_step (by omega) (by omega) h2
      · omega
    · replace hc2 : (n : Int) ≤ ((v : Nat) : Int) := (Int.not_lt.1 (of_decide_eq_false hc2))
      refine W_exit ?_
      refine X_hit ?_
      refine W_seq ?_
      obtain rfl : ac2 = HeapP.halveL ac := HeapP.halve_end (by omega) (by omega) h2
      have hq := HeapP.Pur.setL hq0 (h1.trans lc.symm)
      refine W_region (by kernel_rfl) ?_
      refine seg3 (ρ' := upd (upd (upd (upd (updL ρ [(0, .pointer (some ⟨p, 0, none⟩)), (10, .int .i64 (n : Int)), (11, .int .i64 ((v : Nat) : Int))]) 12 (.bool (decide (((v : Nat) : Int) < (n : Int))))) 24 (.pointer (some ⟨p, 0, none⟩))) 25 (.pointer (some ⟨p, 0, none⟩))) 26 (.pointer (some ⟨p, 0, none⟩))) (by kernel_rfl) ?_
      refine st (by rfl) (S_val (v := .slice (some ⟨g, 0, none⟩) hp.length cp) (R_load (v := .slice (some ⟨g, 0, none⟩) hp.length cp) (by kernel_rfl) (by kernel_rfl) ((hP.cell 0).trans rfl)) ?_)
      refine seg2 (ρ' := upd (upd (upd (upd (upd (upd (upd (updL ρ [(0, .pointer (some ⟨p, 0, none⟩)), (10, .int .i64 (n : Int)), (11, .int .i64 ((v : Nat) : Int))]) 12 (.bool (decide (((v : Nat) : Int) < (n : Int))))) 24 (.pointer (some ⟨p, 0, none⟩))) 25 (.pointer (some ⟨p, 0, none⟩))) 26 (.pointer (some ⟨p, 0, none⟩))) 27 (.slice (some ⟨g, 0, none⟩) hp.length cp)) 28 (.int .i64 (hp.length : Int))) 29 (.int .i64 (IntKind.i64.wrap ((hp.length : Int) - 1)))) (by kernel_rfl) ?_
      rw [show IntKind.i64.wrap ((hp.length : Int) - 1) = (hp.length : Int) - 1 from wrap_i64 (by omega) (by omega)]
      refine seg1 (ρ' := upd (upd (upd (upd (upd (upd (upd (upd (updL ρ [(0, .pointer (some ⟨p, 0, none⟩)), (10, .int .i64 (n : Int)), (11, .int .i64 ((v : Nat) : Int))]) 12 (.bool (decide (((v : Nat) : Int) < (n : Int))))) 24 (.pointer (some ⟨p, 0, none⟩))) 25 (.pointer (some ⟨p, 0, none⟩))) 26 (.pointer (some ⟨p, 0, none⟩))) 27 (.slice (some ⟨g, 0, none⟩) hp.length cp)) 28 (.int .i64 (hp.length : Int))) 29 (.int .i64 ((hp.length : Int) - 1))) 3 (.int .i64 ((hp.length : Int) - 1))) (by kernel_rfl) ?_
      refine op_nil ?_
      refine W_block ?_
      refine W_loop (fun m ρ w' => ∃ (hp2 : List Nat) (at2 : List Int) (k : Nat) (ρ0 : Env), ρ = updL ρ0 [(0, .pointer (some ⟨p, 0, none⟩)), (3, .int .i64 (((k : Nat) : Int) - 1))] ∧ (HeapP.Pur p g bat bac n hp2 at2 (HeapP.halveL ac)) ∧ (hp2.Perm hp) ∧ (k ≤ hp2.length) ∧ (HeapP.FineFrom (HeapP.lt (HeapP.halveL ac)) k hp2) ∧ Blk w' p 53 [.slice (some ⟨g, 0, none⟩) hp2.length cp, .slice (some ⟨bat, 0, none⟩) n n, .slice (some ⟨bac, 0, none⟩) n n] ∧ Blk w' g 3 (nats hp2 ++ sp) ∧ Blk w' bat 3 (ints .i64 at2) ∧ Blk w' bac 3 (ints .i64 (HeapP.halveL ac)) ∧ Tch F w w' ∧ m = k + 1) (m := hp.length + 1) ?_ ?_
      · refine ⟨hp, at_, hp.length, _, updL_self (by kernel_rfl), hq, List.Perm.refl _, Nat.le_refl _, HeapP.FineFrom.len _, hP, hH, hT, hC, hFt, rfl⟩
      · rintro m ρ w6 ⟨hp2, at2, k, ρ, rfl, hq, k1, k2, k3, hP, hH, hT, hC, hFt, rfl⟩
        have k4 := k1.length_eq
        refine W_seq ?_
        refine W_seq ?_
        refine W_region (by kernel_rfl) ?_
        refine seg2 (ρ' := upd (upd (updL ρ [(0, .pointer (some ⟨p, 0, none⟩)), (3, .int .i64 (((k : Nat) : Int) - 1))]) 30 (.int .i64 (((k : Nat) : Int) - 1))) 31 (.bool (decide (((k : Nat) : Int) - 1 ≥ 0)))) (by kernel_rfl) ?_
        refine op_nil ?_
        refine W_cond (decide (((k : Nat) : Int) - 1 ≥ 0)) (by kernel_rfl) (by kernel_rfl) (fun hc7 => ?_) (fun hc7 => ?_)
        · replace hc7 : 0 ≤ ((k : Nat) : Int) - 1 := (of_decide_eq_true hc7)
          refine W_skip ?_
          refine W_seq ?_
          refine W_block ?_
          refine W_region (by kernel_rfl) ?_
          refine seg2 (ρ' := upd (upd (upd (upd (updL ρ [(0, .pointer (some ⟨p, 0, none⟩)), (3, .int .i64 (((k : Nat) : Int) - 1))]) 30 (.int .i64 (((k : Nat) : Int) - 1))) 31 (.bool (decide (((k : Nat) : Int) - 1 ≥ 0)))) 34 (.pointer (some ⟨p, 0, none⟩))) 35 (.int .i64 (((k : Nat) : Int) - 1))) (by kernel_rfl) ?_
          rw [show upd (upd (upd (upd (updL ρ [(0, .pointer (some ⟨p, 0, none⟩)), (3, .int .i64 (((k : Nat) : Int) - 1))]) 30 (.int .i64 (((k : Nat) : Int) - 1))) 31 (.bool (decide (((k : Nat) : Int) - 1 ≥ 0)))) 34 (.pointer (some ⟨p, 0, none⟩))) 35 (.int .i64 (((k : Nat) : Int) - 1)) = upd (upd (upd (upd (updL ρ [(0, .pointer (some ⟨p, 0, none⟩)), (3, .int .i64 (((k : Nat) : Int) - 1))]) 30 (.int .i64 (((k : Nat) : Int) - 1))) 31 (.bool (decide (((k : Nat) : Int) - 1 ≥ 0)))) 34 (.pointer (some ⟨p, 0, none⟩))) 35 (.int .i64 ((k - 1 : Nat) : Int)) from congrArg (fun z => upd (upd (upd (upd (updL ρ [(0, .pointer (some ⟨p, 0, none⟩)), (3, .int .i64 (((k : Nat) : Int) - 1))]) 30 (.int .i64 (((k : Nat) : Int) - 1))) 31 (.bool (decide (((k : Nat) : Int) - 1 ≥ 0)))) 34 (.pointer (some ⟨p, 0, none⟩))) 35 (.int .i64 z)) (by omega)]
          refine st (by rfl) (S_call (args := [.pointer (some ⟨p, 0, none⟩), .int .i64 ((k - 1 : Nat) : Int)]) (by kernel_rfl) (down_ok p g cp bat bac n hp2 sp at2 (HeapP.halveL ac) (k - 1) hp2.length _ ⟨hP, hH, hT, hC⟩ hq (by omega) (by omega)) ?_)
          rintro v11 w8 ⟨at10, ⟨hP, hH, hT, hC⟩, hq, hT9⟩
          have hFt := Tch.trans hFt hT9 (fun _ _ e => e) (fun c hcl e => foot_F fp (.inl fg) ft fc c hcl e)
          refine op_nil ?_
          refine W_region (by kernel_rfl) ?_
          refine seg2 (ρ' := upd (upd (upd (upd (upd (upd (upd (updL ρ [(0, .pointer (some ⟨p, 0, none⟩)), (3, .int .i64 (((k : Nat) : Int) - 1))]) 30 (.int .i64 (((k : Nat) : Int) - 1))) 31 (.bool (decide (((k : Nat) : Int) - 1 ≥ 0)))) 34 (.pointer (some ⟨p, 0, none⟩))) 35 (.int .i64 ((k - 1 : Nat) : Int))) 36 (v11)) 32 (.int .i64 (((k : Nat) : Int) - 1))) 33 (.int .i64 (IntKind.i64.wrap ((((k : Nat) : Int) - 1) - 1)))) (by kernel_rfl) ?_
          rw [show IntKind.i64.wrap ((((k : Nat) : Int) - 1) - 1) = (((k : Nat) : Int) - 1) - 1 from wrap_i64 (by omega) (by omega)]
          rw [show upd (upd (upd (upd (upd (upd (upd (updL ρ [(0, .pointer (some ⟨p, 0, none⟩)), (3, .int .i64 (((k : Nat) : Int) - 1))]) 30 (.int .i64 (((k : Nat) : Int) - 1))) 31 (.bool (decide (((k : Nat) : Int) - 1 ≥ 0)))) 34 (.pointer (some ⟨p, 0, none⟩))) 35 (.int .i64 ((k - 1 : Nat) : Int))) 36 (v11)) 32 (.int .i64 (((k : Nat) : Int) - 1))) 33 (.int .i64 ((((k : Nat) : Int) - 1) - 1)) = upd (upd (upd (upd (upd (upd (upd (updL ρ [(0, .pointer (some ⟨p, 0, none⟩)), (3, .int .i64 (((k : Nat) : Int) - 1))]) 30 (.int .i64 (((k : Nat) : Int) - 1))) 31 (.bool (decide (((k : Nat) : Int) - 1 ≥ 0)))) 34 (.pointer (some ⟨p, 0, none⟩))) 35 (.int .i64 ((k - 1 : Nat) : Int))) 36 (v11)) 32 (.int .i64 (((k : Nat) : Int) - 1))) 33 (.int .i64 (((k - 1 : Nat) : Int) - 1)) from congrArg (fun z => upd (upd (upd (upd (upd (upd (upd (updL ρ [(0, .pointer (some ⟨p, 0, none⟩)), (3, .int .i64 (((k : Nat) : Int) - 1))]) 30 (.int .i64 (((k : Nat) : Int) - 1))) 31 (.bool (decide (((k : Nat) : Int) - 1 ≥ 0)))) 34 (.pointer (some ⟨p, 0, none⟩))) 35 (.int .i64 ((k - 1 : Nat) : Int))) 36 (v11)) 32 (.int .i64 (((k : Nat) : Int) - 1))) 33 (.int .i64 z)) (by omega)]
          refine seg1 (ρ' := upd (upd (upd (upd (upd (upd (upd (upd (updL ρ [(0, .pointer (some ⟨p, 0, none⟩)), (3, .int .i64 (((k : Nat) : Int) - 1))]) 30 (.int .i64 (((k : Nat) : Int) - 1))) 31 (.bool (decide (((k : Nat) : Int) - 1 ≥ 0)))) 34 (.pointer (some ⟨p, 0, none⟩))) 35 (.int .i64 ((k - 1 : Nat) : Int))) 36 (v11)) 32 (.int .i64 (((k : Nat) : Int) - 1))) 33 (.int .i64 (((k - 1 : Nat) : Int) - 1))) 3 (.int .i64 (((k - 1 : Nat) : Int) - 1))) (by kernel_rfl) ?_
          refine op_nil ?_
          refine ⟨_, ?_, HeapP.down (HeapP.lt (HeapP.halveL ac)) hp2.length hp2 (k - 1), at10, k - 1, _, updL_self (by kernel_rfl), hq, ?_, ?_, ?_, hP, hH, hT, hC, hFt, rfl⟩
          · omega
          · exact (HeapP.down_perm _ _ _ (by omega)).trans k1
          · rw [(HeapP.down_perm (lt := HeapP.lt (HeapP.halveL ac)) hp2.length hp2 (k - 1) (by omega)).length_eq]; omega
          · refine HeapP.FineFrom.down (HeapP.lt_strict _) ?_ (by omega) _ (by omega); rw [show k - 1 + 1 = k by omega]; exact k3
        · replace hc7 : ((k : Nat) : Int) - 1 < 0 := (Int.not_le.1 (of_decide_eq_false hc7))
          refine W_exit ?_
          refine X_hit ?_
          refine ⟨_, Res_of (v := .tuple #[]) (by kernel_rfl), ?_⟩
          obtain rfl : k = 0 := by omega
          refine ⟨_, Ord.of_obj ⟨hP, hH, hT, hC⟩ hq ?_ hcp fp fg ft fc (fun b hb => Nat.lt_of_lt_of_le (hF b hb) hFt.size) hac.half k3.zero, k1, hFt⟩
          rw [← hl2]; simp only [List.length_append, nats_length, k4]

set_option maxRecDepth 100000 in
theorem halve_out (F : Nat → Prop) (p n : Nat) (hp : List Nat) (ac : List Int) (w : World) (h : Ord F w p n hp ac) (h0 : hp.length = 0) : Ret Try.prog 25 [.pointer (some ⟨p, 0, none⟩)] w fun v w' => ∃ hp', Ord F w' p n hp' (HeapP.halveL ac) ∧ hp'.Perm hp ∧ Tch F w w' := by
  obtain ⟨A, cp, bat, bac, at_, hP, hO, hT, hC, hAF, n6, fp, ft, fc, hF, la, lc, hn, hlt, hat, hac, hfn⟩ := h
  have n2 : p ≠ bat := hP.ne hT (by decide)
  have n3 : p ≠ bac := hP.ne hC (by decide)
  have hm := HeapP.nodup_le n hp hat.nodup hlt
  have hFt : Tch F w w := Tch.refl _ _
  refine enter Try.func25 rfl rfl ?_
  refine W_seq ?_
  refine W_seq ?_
  refine W_region (by kernel_rfl) ?_
  refine seg2 (ρ' := upd (upd (ini [.pointer (some ⟨p, 0, none⟩)]) 4 (.pointer (some ⟨p, 0, none⟩))) 5 (.bool false)) (by kernel_rfl) ?_
  refine op_nil ?_
  refine W_cond false (by kernel_rfl) (by kernel_rfl) (fun h => nomatch h) (fun _ => ?_)
  refine W_skip ?_
  refine W_seq ?_
  refine W_seq ?_
  refine W_region (by kernel_rfl) ?_
  refine seg3 (ρ' := upd (upd (upd (upd (upd (ini [.pointer (some ⟨p, 0, none⟩)]) 4 (.pointer (some ⟨p, 0, none⟩))) 5 (.bool false)) 6 (.pointer (some ⟨p, 0, none⟩))) 7 (.pointer (some ⟨p, 0, none⟩))) 8 (.pointer (some ⟨p, 2, none⟩))) (by kernel_rfl) ?_
  refine st (by rfl) (S_val (v := .slice (some ⟨bac, 0, none⟩) n n) (R_load (v := .slice (some ⟨bac, 0, none⟩) n n) (by kernel_rfl) (by kernel_rfl) ((hP.cell 2).trans rfl)) ?_)
  refine seg2 (ρ' := upd (upd (upd (upd (upd (upd (upd (upd (ini [.pointer (some ⟨p, 0, none⟩)]) 4 (.pointer (some ⟨p, 0, none⟩))) 5 (.bool false)) 6 (.pointer (some ⟨p, 0, none⟩))) 7 (.pointer (some ⟨p, 0, none⟩))) 8 (.pointer (some ⟨p, 2, none⟩))) 9 (.slice (some ⟨bac, 0, none⟩) n n)) 10 (.int .i64 (n : Int))) 11 (.int .i64 0)) (by kernel_rfl) ?_
  refine op_nil ?_
  refine W_block ?_
  refine W_loop (fun m ρ w' => ∃ (ac2 : List Int) (v : Nat) (ρ0 : Env), ρ = updL ρ0 [(0, .pointer (some ⟨p, 0, none⟩)), (10, .int .i64 (n : Int)), (11, .int .i64 ((v : Nat) : Int))] ∧ (ac2.length = n) ∧ (∀ j, ac2.getD j 0 = if j < v then ac.getD j 0 / 2 else ac.getD j 0) ∧ (v ≤ n) ∧ Blk w' p 53 [.slice A hp.length cp, .slice (some ⟨bat, 0, none⟩) n n, .slice (some ⟨bac, 0, none⟩) n n] ∧ Blk w' bat 3 (ints .i64 at_) ∧ Blk w' bac 3 (ints .i64 ac2) ∧ Tch F w w' ∧ Own w' 0 3 1 (.slice A hp.length cp) hp.length (nats hp) ∧ m = n - v) (m := n - 0) ?_ ?_
  · refine ⟨ac, 0, _, updL_self (by kernel_rfl), lc, by intro j; rw [if_neg (by omega)], by omega, hP, hT, hC, hFt, hO, rfl⟩
  · rintro m ρ w1 ⟨ac2, v, ρ, rfl, h1, h2, h3, hP, hT, hC, hFt, hO, rfl⟩
    have hv2 : ac2.getD v 0 = ac.getD v 0 := by rw [h2 v, if_neg (by omega)]
    have hb := hac v
    refine W_seq ?_
    refine W_region (by kernel_rfl) ?_
    refine seg1 (ρ' := upd (updL ρ [(0, .pointer (some ⟨p, 0, none⟩)), (10, .int .i64 (n : Int)), (11, .int .i64 ((v : Nat) : Int))]) 12 (.bool (decide (((v : Nat) : Int) < (n : Int))))) (by kernel_rfl) ?_
    refine op_nil ?_
    refine W_seq ?_
    refine W_cond (decide (((v : Nat) : Int) < (n : Int))) (by kernel_rfl) (by kernel_rfl) (fun hc2 => ?_) (fun hc2 => ?_)
    · replace hc2 : ((v : Nat) : Int) < (n : Int) := (of_decide_eq_true hc2)
      refine W_skip ?_
      refine W_seq ?_
      refine W_block ?_
      refine W_seq ?_
      refine W_region (by kernel_rfl) ?_
      refine seg2 (ρ' := upd (upd (upd (updL ρ [(0, .pointer (some ⟨p, 0, none⟩)), (10, .int .i64 (n : Int)), (11, .int .i64 ((v : Nat) : Int))]) 12 (.bool (decide (((v : Nat) : Int) < (n : Int))))) 13 (.int .i64 ((v : Nat) : Int))) 2 (.int .i64 ((v : Nat) : Int))) (by kernel_rfl) ?_
      refine op_nil ?_
      refine W_region (by kernel_rfl) ?_
      refine seg3 (ρ' := upd (upd (upd (upd (upd (upd (updL ρ [(0, .pointer (some ⟨p, 0, none⟩)), (10, .int .i64 (n : Int)), (11, .int .i64 ((v : Nat) : Int))]) 12 (.bool (decide (((v : Nat) : Int) < (n : Int))))) 13 (.int .i64 ((v : Nat) : Int))) 2 (.int .i64 ((v : Nat) : Int))) 14 (.pointer (some ⟨p, 0, none⟩))) 15 (.pointer (some ⟨p, 0, none⟩))) 16 (.pointer (some ⟨p, 2, none⟩))) (by kernel_rfl) ?_
      refine st (by rfl) (S_val (v := .slice (some ⟨bac, 0, none⟩) n n) (R_load (v := .slice (some ⟨bac, 0, none⟩) n n) (by kernel_rfl) (by kernel_rfl) ((hP.cell 2).trans rfl)) ?_)
      refine seg1 (ρ' := upd (upd (upd (upd (upd (upd (upd (upd (updL ρ [(0, .pointer (some ⟨p, 0, none⟩)), (10, .int .i64 (n : Int)), (11, .int .i64 ((v : Nat) : Int))]) 12 (.bool (decide (((v : Nat) : Int) < (n : Int))))) 13 (.int .i64 ((v : Nat) : Int))) 2 (.int .i64 ((v : Nat) : Int))) 14 (.pointer (some ⟨p, 0, none⟩))) 15 (.pointer (some ⟨p, 0, none⟩))) 16 (.pointer (some ⟨p, 2, none⟩))) 17 (.slice (some ⟨bac, 0, none⟩) n n)) 18 (.int .i64 ((v : Nat) : Int))) (by kernel_rfl) ?_
      refine stv (v := .pointer (some ⟨bac, v, none⟩)) (by rfl) (R_index0 (b := bac) (len := n) (cap := n) (k := .i64) (i := ((v : Nat) : Int)) (e := 3) v (by kernel_rfl) (by kernel_rfl) (by kernel_rfl) (by kernel_rfl) rfl (by first | omega | (simp only [List.length_set, List.length_map]; omega))) ?_
      refine st (by rfl) (S_val (v := .int .i64 (ac2.getD v 0)) (R_load (v := .int .i64 (ac2.getD v 0)) (by kernel_rfl) (by kernel_rfl) ((hC.cell _).trans (ints_at .i64 _ (by first | omega | (simp only [List.length_set, List.length_map]; omega))))) ?_)
      refine seg1 (ρ' := upd (upd (upd (upd (upd (upd (upd (upd (upd (upd (upd (updL ρ [(0, .pointer (some ⟨p, 0, none⟩)), (10, .int .i64 (n : Int)), (11, .int .i64 ((v : Nat) : Int))]) 12 (.bool (decide (((v : Nat) : Int) < (n : Int))))) 13 (.int .i64 ((v : Nat) : Int))) 2 (.int .i64 ((v : Nat) : Int))) 14 (.pointer (some ⟨p, 0, none⟩))) 15 (.pointer (some ⟨p, 0, none⟩))) 16 (.pointer (some ⟨p, 2, none⟩))) 17 (.slice (some ⟨bac, 0, none⟩) n n)) 18 (.int .i64 ((v : Nat) : Int))) 19 (.pointer (some ⟨bac, v, none⟩))) 20 (.int .i64 (ac2.getD v 0))) 21 (.int .i64 (IntKind.i64.wrap ((ac2.getD v 0).tdiv 2)))) (by kernel_rfl) ?_
      rw [show IntKind.i64.wrap ((ac2.getD v 0).tdiv 2) = (ac2.getD v 0) / 2 from by rw [Int.tdiv_eq_ediv_of_nonneg (by omega)]; exact wrap_i64 (by omega) (by omega)]
      refine stv (v := .pointer (some ⟨bac, v, none⟩)) (by rfl) (R_index0 (b := bac) (len := n) (cap := n) (k := .i64) (i := ((v : Nat) : Int)) (e := 3) v (by kernel_rfl) (by kernel_rfl) (by kernel_rfl) (by kernel_rfl) rfl (by first | omega | (simp only [List.length_set, List.length_map]; omega))) ?_
      refine st (by rfl) (S_store (b := bac) (j := v) (v := .int .i64 ((ac2.getD v 0) / 2)) (by kernel_rfl) (by kernel_rfl) (by kernel_rfl) (by rfl) hC (by rw [ints_length]; first | omega | (simp only [List.length_set, List.length_map]; omega)) fun w3 hT4 hs5 hC' => ?_)
      have hP := hP.tch hT4 (fun e => by have : p = bac := e; omega)
      have hT := hT.tch hT4 (fun e => by have : bat = bac := e; omega)
      have hFt := Tch.trans hFt hT4 (fun _ _ e => e) (fun c hcl e => by cases e; exact fc)
      have hO := hO.tch hT4 (fun c e1 e2 => by cases e2; first | exact (hAF _ e1).1 rfl | exact (hAF _ e1).2.1 rfl | exact hO.blk_ne hP (by decide) _ e1 rfl)
      replace hC : Blk w3 (bac) 3 (ints .i64 (ac2.set v ((ac2.getD v 0) / 2))) := by rw [← ints_set]; exact hC'
      refine op_nil ?_
      refine W_fg [(0, .pointer (some ⟨p, 0, none⟩)), (2, .int .i64 ((v : Nat) : Int)), (10, .int .i64 (n : Int)), (11, .int .i64 ((v : Nat) : Int)), (12, .bool (decide (((v : Nat) : Int) < (n : Int))))] (by kernel_rfl) fun ρ => ?_
      refine W_region (by kernel_rfl) ?_
      refine seg1 (ρ' := upd (updL ρ [(0, .pointer (some ⟨p, 0, none⟩)), (2, .int .i64 ((v : Nat) : Int)), (10, .int .i64 (n : Int)), (11, .int .i64 ((v : Nat) : Int)), (12, .bool (decide (((v : Nat) : Int) < (n : Int))))]) 23 (.int .i64 (IntKind.i64.wrap (((v : Nat) : Int) + 1)))) (by kernel_rfl) ?_
      rw [show IntKind.i64.wrap (((v : Nat) : Int) + 1) = ((v : Nat) : Int) + 1 from wrap_i64 (by omega) (by omega)]
      rw [show upd (updL ρ [(0, .pointer (some ⟨p, 0, none⟩)), (2, .int .i64 ((v : Nat) : Int)), (10, .int .i64 (n : Int)), (11, .int .i64 ((v : Nat) : Int)), (12, .bool (decide (((v : Nat) : Int) < (n : Int))))]) 23 (.int .i64 (((v : Nat) : Int) + 1)) = upd (updL ρ [(0, .pointer (some ⟨p, 0, none⟩)), (2, .int .i64 ((v : Nat) : Int)), (10, .int .i64 (n : Int)), (11, .int .i64 ((v : Nat) : Int)), (12, .bool (decide (((v : Nat) : Int) < (n : Int))))]) 23 (.int .i64 ((v + 1 : Nat) : Int)) from congrArg (fun z => upd (updL ρ [(0, .pointer (some ⟨p, 0, none⟩)), (2, .int .i64 ((v : Nat) : Int)), (10, .int .i64 (n : Int)), (11, .int .i64 ((v : Nat) : Int)), (12, .bool (decide (((v : Nat) : Int) < (n : Int))))]) 23 (.int .i64 z)) (by omega)]
      refine seg1 (ρ' := upd (upd (updL ρ [(0, .pointer (some ⟨p, 0, none⟩)), (2, .int .i64 ((v : Nat) : Int)), (10, .int .i64 (n : Int)), (11, .int .i64 ((v : Nat) : Int)), (12, .bool (decide (((v : Nat) : Int) < (n : Int))))]) 23 (.int .i64 ((v + 1 : Nat) : Int))) 11 (.int .i64 ((v + 1 : Nat) : Int))) (by kernel_rfl) ?_
      refine op_nil ?_
      refine ⟨_, ?_, ac2.set v ((ac2.getD v 0) / 2), v + 1, _, updL_self (by kernel_rfl), ?_, ?_, ?_, hP, hT, hC, hFt, hO, rfl⟩
      · omega
      · rw [List.length_set]; exact h1
      · exact HeapP.halve_step (by omega) (by omega) h2
      · omega
    · replace hc2 : (n : Int) ≤ ((v : Nat) : Int) := (Int.not_lt.1 (of_decide_eq_false hc2))
      refine W_exit ?_
      refine X_hit ?_
      refine W_seq ?_
      obtain rfl : ac2 = HeapP.halveL ac := HeapP.halve_end (by omega) (by omega) h2
      refine W_region (by kernel_rfl) ?_
      refine seg3 (ρ' := upd (upd (upd (upd (updL ρ [(0, .pointer (some ⟨p, 0, none⟩)), (10, .int .i64 (n : Int)), (11, .int .i64 ((v : Nat) : Int))]) 12 (.bool (decide (((v : Nat) : Int) < (n : Int))))) 24 (.pointer (some ⟨p, 0, none⟩))) 25 (.pointer (some ⟨p, 0, none⟩))) 26 (.pointer (some ⟨p, 0, none⟩))) (by kernel_rfl) ?_
      refine st (by rfl) (S_val (v := .slice A hp.length cp) (R_load (v := .slice A hp.length cp) (by kernel_rfl) (by kernel_rfl) ((hP.cell 0).trans rfl)) ?_)
      refine seg2 (ρ' := upd (upd (upd (upd (upd (upd (upd (updL ρ [(0, .pointer (some ⟨p, 0, none⟩)), (10, .int .i64 (n : Int)), (11, .int .i64 ((v : Nat) : Int))]) 12 (.bool (decide (((v : Nat) : Int) < (n : Int))))) 24 (.pointer (some ⟨p, 0, none⟩))) 25 (.pointer (some ⟨p, 0, none⟩))) 26 (.pointer (some ⟨p, 0, none⟩))) 27 (.slice A hp.length cp)) 28 (.int .i64 (hp.length : Int))) 29 (.int .i64 (IntKind.i64.wrap ((hp.length : Int) - 1)))) (by kernel_rfl) ?_
      rw [show IntKind.i64.wrap ((hp.length : Int) - 1) = (hp.length : Int) - 1 from wrap_i64 (by omega) (by omega)]
      refine seg1 (ρ' := upd (upd (upd (upd (upd (upd (upd (upd (updL ρ [(0, .pointer (some ⟨p, 0, none⟩)), (10, .int .i64 (n : Int)), (11, .int .i64 ((v : Nat) : Int))]) 12 (.bool (decide (((v : Nat) : Int) < (n : Int))))) 24 (.pointer (some ⟨p, 0, none⟩))) 25 (.pointer (some ⟨p, 0, none⟩))) 26 (.pointer (some ⟨p, 0, none⟩))) 27 (.slice A hp.length cp)) 28 (.int .i64 (hp.length : Int))) 29 (.int .i64 ((hp.length : Int) - 1))) 3 (.int .i64 ((hp.length : Int) - 1))) (by kernel_rfl) ?_
      refine op_nil ?_
      refine W_block ?_
      refine W_loop (fun m ρ w' => ∃  (ρ0 : Env), ρ = updL ρ0 [(0, .pointer (some ⟨p, 0, none⟩)), (3, .int .i64 (((hp.length : Nat) : Int) - 1))] ∧ Blk w' p 53 [.slice A hp.length cp, .slice (some ⟨bat, 0, none⟩) n n, .slice (some ⟨bac, 0, none⟩) n n] ∧ Blk w' bat 3 (ints .i64 at_) ∧ Blk w' (bac) 3 (ints .i64 (HeapP.halveL ac)) ∧ Tch F w w' ∧ Own w' 0 3 1 (.slice A hp.length cp) hp.length (nats hp) ∧ m = 0) (m := 0) ?_ ?_
      · refine ⟨_, updL_self (by kernel_rfl), hP, hT, hC, hFt, hO, rfl⟩
      · rintro m ρ w6 ⟨ρ, rfl, hP, hT, hC, hFt, hO, rfl⟩
        refine W_seq ?_
        refine W_seq ?_
        refine W_region (by kernel_rfl) ?_
        refine seg2 (ρ' := upd (upd (updL ρ [(0, .pointer (some ⟨p, 0, none⟩)), (3, .int .i64 (((hp.length : Nat) : Int) - 1))]) 30 (.int .i64 (((hp.length : Nat) : Int) - 1))) 31 (.bool (decide (((hp.length : Nat) : Int) - 1 ≥ 0)))) (by kernel_rfl) ?_
        refine op_nil ?_
        refine W_cond (decide (((hp.length : Nat) : Int) - 1 ≥ 0)) (by kernel_rfl) (by kernel_rfl) (fun hc7 => ?_) (fun hc7 => ?_)
        · replace hc7 : 0 ≤ ((hp.length : Nat) : Int) - 1 := (of_decide_eq_true hc7)
          exfalso; omega
        · replace hc7 : ((hp.length : Nat) : Int) - 1 < 0 := (Int.not_le.1 (of_decide_eq_false hc7))
          refine W_exit ?_
          refine X_hit ?_
          refine ⟨_, Res_of (v := .tuple #[]) (by kernel_rfl), ?_⟩
          exact ⟨hp, ⟨A, cp, bat, bac, at_, hP, hO, hT, hC, hAF, n6, fp, ft, fc, fun b hb => Nat.lt_of_lt_of_le (hF b hb) hFt.size, la, h1, hn, hlt, hat, hac.half, fun j _ hj => by omega⟩, List.Perm.refl _, hFt⟩

set_option maxRecDepth 100000 in
theorem halve_nil (w : World) : Ret Try.prog 25 [.pointer none] w fun v w' => Tch N0 w w' := by
  refine enter Try.func25 rfl rfl ?_
  refine W_seq ?_
  refine W_seq ?_
  refine W_region (by kernel_rfl) ?_
  refine seg2 (ρ' := upd (upd (ini [.pointer none]) 4 (.pointer none)) 5 (.bool true)) (by kernel_rfl) ?_
  refine op_nil ?_
  refine W_cond true (by kernel_rfl) (by kernel_rfl) (fun _ => ?_) (fun h => nomatch h)
  refine W_ret ?_
  exact ⟨_, Res_of (v := .tuple #[]) (by kernel_rfl), Tch.refl _ _⟩

end Go.Proofs.YthfjceemphhgcaaV
