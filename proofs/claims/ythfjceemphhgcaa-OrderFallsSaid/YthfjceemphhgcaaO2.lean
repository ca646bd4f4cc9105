/- Walks of functions of the program and of the document's texts: each call returns what the plain function says, and turns nothing that lay. The conditions stand with each theorem. -/
import Derived.Test.YthfjceemphhgcaaProg
import Derived.Test.YthfjceemphhgcaaVx2
import Derived.Test.YthfjceemphhgcaaO1
set_option linter.unusedVariables false
set_option linter.unusedSimpArgs false
namespace Go.Proofs.YthfjceemphhgcaaV
open Go Go.RowKit Go.Proofs

set_option maxRecDepth 100000 in
theorem up_ok (p g cp bat bac n : Nat) (hp : List Nat) (sp : List Value) (at_ ac : List Int) (i f : Nat) (w : World) (ho : Obj w p g cp bat bac n hp sp at_ ac) (hq : HeapP.Pur p g bat bac n hp at_ ac) (hi : i < hp.length) (hf : i ≤ f) : Ret Try.prog 36 [.pointer (some ⟨p, 0, none⟩), .int .i64 ((i : Nat) : Int)] w fun v w' => ∃ at', Obj w' p g cp bat bac n (HeapP.up (HeapP.lt ac) f hp i) sp at' ac ∧ HeapP.Pur p g bat bac n (HeapP.up (HeapP.lt ac) f hp i) at' ac ∧ Tch (foot p g bat bac) w w' := by
  obtain ⟨hP, hH, hT, hC⟩ := ho
  have hq0 := hq
  obtain ⟨⟨n1, n2, n3, n4, n5, n6⟩, la, lc, hn, hm, hlt, hat⟩ := hq
  have hF : Tch (foot p g bat bac) w w := Tch.refl _ _
  clear hat hlt la lc hm
  refine enter Try.func36 rfl rfl ?_
  refine W_seq ?_
  refine W_region (by kernel_rfl) ?_
  refine seg3 (ρ' := upd (upd (upd (ini [.pointer (some ⟨p, 0, none⟩), .int .i64 ((i : Nat) : Int)]) 5 (.pointer (some ⟨p, 0, none⟩))) 6 (.func (.func 39) #[.pointer (some ⟨p, 0, none⟩)] #[])) 4 (.func (.func 39) #[.pointer (some ⟨p, 0, none⟩)] #[])) (by kernel_rfl) ?_
  refine op_nil ?_
  refine W_block ?_
  refine W_loop (fun m ρ w' => ∃ (hp2 : List Nat) (at2 : List Int) (j f2 : Nat) (ρ0 : Env), ρ = updL ρ0 [(0, .pointer (some ⟨p, 0, none⟩)), (1, .int .i64 ((j : Nat) : Int)), (4, .func (.func 39) #[.pointer (some ⟨p, 0, none⟩)] #[])] ∧ (HeapP.Pur p g bat bac n hp2 at2 ac) ∧ (j < hp2.length) ∧ (j ≤ f2) ∧ (HeapP.up (HeapP.lt ac) f2 hp2 j = HeapP.up (HeapP.lt ac) f hp i) ∧ Blk w' p 53 [.slice (some ⟨g, 0, none⟩) hp2.length cp, .slice (some ⟨bat, 0, none⟩) n n, .slice (some ⟨bac, 0, none⟩) n n] ∧ Blk w' g 3 (nats hp2 ++ sp) ∧ Blk w' bat 3 (ints .i64 at2) ∧ Blk w' bac 3 (ints .i64 ac) ∧ Tch (foot p g bat bac) w w' ∧ m = j + 1) (m := i + 1) ?_ ?_
  · refine ⟨hp, at_, i, f, _, updL_self (by kernel_rfl), hq0, hi, hf, rfl, hP, hH, hT, hC, hF, rfl⟩
  · rintro m ρ w1 ⟨hp2, at2, j, f2, ρ, rfl, hq, h1, h2, h3, hP, hH, hT, hC, hF, rfl⟩
    obtain ⟨_, la, lc, _, hm, hlt, hat⟩ := id hq
    refine W_seq ?_
    refine W_seq ?_
    refine W_tail 20 (by kernel_rfl) (by kernel_rfl) (by kernel_rfl) fun w2 hT3 hh4 => ?_
    have hP := hP.tch0 hT3
    have hH := hH.tch0 hT3
    have hT := hT.tch0 hT3
    have hC := hC.tch0 hT3
    have hF := hF.then0 hT3
    refine qseg3 (ρ' := upd (upd (upd (updL ρ [(0, .pointer (some ⟨p, 0, none⟩)), (1, .int .i64 ((j : Nat) : Int)), (4, .func (.func 39) #[.pointer (some ⟨p, 0, none⟩)] #[])]) 7 (.int .i64 ((j : Nat) : Int))) 8 (.bool (decide (((j : Nat) : Int) > 0)))) 9 (.bool (decide (((j : Nat) : Int) > 0)))) (by kernel_rfl) ?_
    cases hb5 : decide (((j : Nat) : Int) > 0)
    · replace hb5 : ((j : Nat) : Int) ≤ 0 := (Int.not_lt.1 (of_decide_eq_false hb5))
      refine qseg17 (ρ' := upd (upd (upd (upd (upd (upd (upd (upd (upd (upd (upd (upd (upd (upd (upd (upd (upd (upd (upd (upd (updL ρ [(0, .pointer (some ⟨p, 0, none⟩)), (1, .int .i64 ((j : Nat) : Int)), (4, .func (.func 39) #[.pointer (some ⟨p, 0, none⟩)] #[])]) 7 (.int .i64 ((j : Nat) : Int))) 8 (.bool false)) 9 (.bool false)) 10 (undef)) 11 (undef)) 12 (undef)) 13 (undef)) 14 (undef)) 15 (undef)) 16 (undef)) 17 (undef)) 18 (undef)) 19 (undef)) 20 (undef)) 21 (undef)) 22 (undef)) 23 (undef)) 24 (undef)) 25 (undef)) 26 (undef)) (by kernel_rfl) ?_
      refine q_nil ?_
      refine seg2 (ρ' := upd (upd (upd (upd (upd (upd (upd (upd (upd (upd (upd (upd (upd (upd (upd (upd (upd (upd (upd (upd (upd (upd (updL ρ [(0, .pointer (some ⟨p, 0, none⟩)), (1, .int .i64 ((j : Nat) : Int)), (4, .func (.func 39) #[.pointer (some ⟨p, 0, none⟩)] #[])]) 7 (.int .i64 ((j : Nat) : Int))) 8 (.bool false)) 9 (.bool false)) 10 (undef)) 11 (undef)) 12 (undef)) 13 (undef)) 14 (undef)) 15 (undef)) 16 (undef)) 17 (undef)) 18 (undef)) 19 (undef)) 20 (undef)) 21 (undef)) 22 (undef)) 23 (undef)) 24 (undef)) 25 (undef)) 26 (undef)) 27 (undef)) 28 (.bool false)) (by kernel_rfl) ?_
      refine op_nil ?_
      refine W_cond false (by kernel_rfl) (by kernel_rfl) (fun h => nomatch h) (fun _ => ?_)
      refine W_exit ?_
      refine X_hit ?_
      exact ⟨_, Res_of (v := .tuple #[]) (by kernel_rfl), (by rw [← h3, HeapP.up_stop f2 hp2 j (by first | exact fun h => absurd h.1 (by omega) | exact fun h => absurd h.2 (by assumption))]; exact ⟨at2, ⟨hP, hH, hT, hC⟩, hq, hF⟩)⟩
    · replace hb5 : 0 < ((j : Nat) : Int) := (of_decide_eq_true hb5)
      refine qseg4 (ρ' := upd (upd (upd (upd (upd (upd (upd (updL ρ [(0, .pointer (some ⟨p, 0, none⟩)), (1, .int .i64 ((j : Nat) : Int)), (4, .func (.func 39) #[.pointer (some ⟨p, 0, none⟩)] #[])]) 7 (.int .i64 ((j : Nat) : Int))) 8 (.bool true)) 9 (.bool true)) 10 (.func (.func 39) #[.pointer (some ⟨p, 0, none⟩)] #[])) 11 (.pointer (some ⟨p, 0, none⟩))) 12 (.pointer (some ⟨p, 0, none⟩))) 13 (.pointer (some ⟨p, 0, none⟩))) (by kernel_rfl) ?_
      refine q_val (v := .slice (some ⟨g, 0, none⟩) hp2.length cp) (by kernel_rfl) (R_load (v := .slice (some ⟨g, 0, none⟩) hp2.length cp) (by kernel_rfl) (by kernel_rfl) ((hP.cell 0).trans rfl)) ?_
      refine qseg1 (ρ' := upd (upd (upd (upd (upd (upd (upd (upd (upd (updL ρ [(0, .pointer (some ⟨p, 0, none⟩)), (1, .int .i64 ((j : Nat) : Int)), (4, .func (.func 39) #[.pointer (some ⟨p, 0, none⟩)] #[])]) 7 (.int .i64 ((j : Nat) : Int))) 8 (.bool true)) 9 (.bool true)) 10 (.func (.func 39) #[.pointer (some ⟨p, 0, none⟩)] #[])) 11 (.pointer (some ⟨p, 0, none⟩))) 12 (.pointer (some ⟨p, 0, none⟩))) 13 (.pointer (some ⟨p, 0, none⟩))) 14 (.slice (some ⟨g, 0, none⟩) hp2.length cp)) 15 (.int .i64 ((j : Nat) : Int))) (by kernel_rfl) ?_
      refine q_val (v := .pointer (some ⟨g, j, none⟩)) (by kernel_rfl) (R_index0 (b := g) (len := hp2.length) (cap := cp) (k := .i64) (i := ((j : Nat) : Int)) (e := 3) j (by kernel_rfl) (by kernel_rfl) (by kernel_rfl) (by kernel_rfl) rfl (by first | omega | (simp only [List.length_set, List.length_map]; omega))) ?_
      refine q_val (v := .int .i64 ((hp2.getD j 0 : Nat) : Int)) (by kernel_rfl) (R_load (v := .int .i64 ((hp2.getD j 0 : Nat) : Int)) (by kernel_rfl) (by kernel_rfl) ((hH.cell _).trans (nats_atP (by first | omega | (simp only [List.length_set, List.length_map]; omega))))) ?_
      refine qseg3 (ρ' := upd (upd (upd (upd (upd (upd (upd (upd (upd (upd (upd (upd (upd (upd (updL ρ [(0, .pointer (some ⟨p, 0, none⟩)), (1, .int .i64 ((j : Nat) : Int)), (4, .func (.func 39) #[.pointer (some ⟨p, 0, none⟩)] #[])]) 7 (.int .i64 ((j : Nat) : Int))) 8 (.bool true)) 9 (.bool true)) 10 (.func (.func 39) #[.pointer (some ⟨p, 0, none⟩)] #[])) 11 (.pointer (some ⟨p, 0, none⟩))) 12 (.pointer (some ⟨p, 0, none⟩))) 13 (.pointer (some ⟨p, 0, none⟩))) 14 (.slice (some ⟨g, 0, none⟩) hp2.length cp)) 15 (.int .i64 ((j : Nat) : Int))) 16 (.pointer (some ⟨g, j, none⟩))) 17 (.int .i64 ((hp2.getD j 0 : Nat) : Int))) 18 (.pointer (some ⟨p, 0, none⟩))) 19 (.pointer (some ⟨p, 0, none⟩))) 20 (.pointer (some ⟨p, 0, none⟩))) (by kernel_rfl) ?_
      refine q_val (v := .slice (some ⟨g, 0, none⟩) hp2.length cp) (by kernel_rfl) (R_load (v := .slice (some ⟨g, 0, none⟩) hp2.length cp) (by kernel_rfl) (by kernel_rfl) ((hP.cell 0).trans rfl)) ?_
      refine qseg2 (ρ' := upd (upd (upd (upd (upd (upd (upd (upd (upd (upd (upd (upd (upd (upd (upd (upd (upd (updL ρ [(0, .pointer (some ⟨p, 0, none⟩)), (1, .int .i64 ((j : Nat) : Int)), (4, .func (.func 39) #[.pointer (some ⟨p, 0, none⟩)] #[])]) 7 (.int .i64 ((j : Nat) : Int))) 8 (.bool true)) 9 (.bool true)) 10 (.func (.func 39) #[.pointer (some ⟨p, 0, none⟩)] #[])) 11 (.pointer (some ⟨p, 0, none⟩))) 12 (.pointer (some ⟨p, 0, none⟩))) 13 (.pointer (some ⟨p, 0, none⟩))) 14 (.slice (some ⟨g, 0, none⟩) hp2.length cp)) 15 (.int .i64 ((j : Nat) : Int))) 16 (.pointer (some ⟨g, j, none⟩))) 17 (.int .i64 ((hp2.getD j 0 : Nat) : Int))) 18 (.pointer (some ⟨p, 0, none⟩))) 19 (.pointer (some ⟨p, 0, none⟩))) 20 (.pointer (some ⟨p, 0, none⟩))) 21 (.slice (some ⟨g, 0, none⟩) hp2.length cp)) 22 (.int .i64 ((j : Nat) : Int))) 23 (.int .i64 (IntKind.i64.wrap (((j : Nat) : Int) - 1)))) (by kernel_rfl) ?_
      rw [show IntKind.i64.wrap (((j : Nat) : Int) - 1) = ((j : Nat) : Int) - 1 from wrap_i64 (by omega) (by omega)]
      refine qseg1 (ρ' := upd (upd (upd (upd (upd (upd (upd (upd (upd (upd (upd (upd (upd (upd (upd (upd (upd (upd (updL ρ [(0, .pointer (some ⟨p, 0, none⟩)), (1, .int .i64 ((j : Nat) : Int)), (4, .func (.func 39) #[.pointer (some ⟨p, 0, none⟩)] #[])]) 7 (.int .i64 ((j : Nat) : Int))) 8 (.bool true)) 9 (.bool true)) 10 (.func (.func 39) #[.pointer (some ⟨p, 0, none⟩)] #[])) 11 (.pointer (some ⟨p, 0, none⟩))) 12 (.pointer (some ⟨p, 0, none⟩))) 13 (.pointer (some ⟨p, 0, none⟩))) 14 (.slice (some ⟨g, 0, none⟩) hp2.length cp)) 15 (.int .i64 ((j : Nat) : Int))) 16 (.pointer (some ⟨g, j, none⟩))) 17 (.int .i64 ((hp2.getD j 0 : Nat) : Int))) 18 (.pointer (some ⟨p, 0, none⟩))) 19 (.pointer (some ⟨p, 0, none⟩))) 20 (.pointer (some ⟨p, 0, none⟩))) 21 (.slice (some ⟨g, 0, none⟩) hp2.length cp)) 22 (.int .i64 ((j : Nat) : Int))) 23 (.int .i64 (((j : Nat) : Int) - 1))) 24 (.int .i64 (IntKind.i64.wrap ((((j : Nat) : Int) - 1).tdiv 2)))) (by kernel_rfl) ?_
      rw [show IntKind.i64.wrap ((((j : Nat) : Int) - 1).tdiv 2) = (((j : Nat) : Int) - 1) / 2 from by rw [Int.tdiv_eq_ediv_of_nonneg (by omega)]; exact wrap_i64 (by omega) (by omega)]
      rw [show upd (upd (upd (upd (upd (upd (upd (upd (upd (upd (upd (upd (upd (upd (upd (upd (upd (upd (updL ρ [(0, .pointer (some ⟨p, 0, none⟩)), (1, .int .i64 ((j : Nat) : Int)), (4, .func (.func 39) #[.pointer (some ⟨p, 0, none⟩)] #[])]) 7 (.int .i64 ((j : Nat) : Int))) 8 (.bool true)) 9 (.bool true)) 10 (.func (.func 39) #[.pointer (some ⟨p, 0, none⟩)] #[])) 11 (.pointer (some ⟨p, 0, none⟩))) 12 (.pointer (some ⟨p, 0, none⟩))) 13 (.pointer (some ⟨p, 0, none⟩))) 14 (.slice (some ⟨g, 0, none⟩) hp2.length cp)) 15 (.int .i64 ((j : Nat) : Int))) 16 (.pointer (some ⟨g, j, none⟩))) 17 (.int .i64 ((hp2.getD j 0 : Nat) : Int))) 18 (.pointer (some ⟨p, 0, none⟩))) 19 (.pointer (some ⟨p, 0, none⟩))) 20 (.pointer (some ⟨p, 0, none⟩))) 21 (.slice (some ⟨g, 0, none⟩) hp2.length cp)) 22 (.int .i64 ((j : Nat) : Int))) 23 (.int .i64 (((j : Nat) : Int) - 1))) 24 (.int .i64 ((((j : Nat) : Int) - 1) / 2)) = upd (upd (upd (upd (upd (upd (upd (upd (upd (upd (upd (upd (upd (upd (upd (upd (upd (upd (updL ρ [(0, .pointer (some ⟨p, 0, none⟩)), (1, .int .i64 ((j : Nat) : Int)), (4, .func (.func 39) #[.pointer (some ⟨p, 0, none⟩)] #[])]) 7 (.int .i64 ((j : Nat) : Int))) 8 (.bool true)) 9 (.bool true)) 10 (.func (.func 39) #[.pointer (some ⟨p, 0, none⟩)] #[])) 11 (.pointer (some ⟨p, 0, none⟩))) 12 (.pointer (some ⟨p, 0, none⟩))) 13 (.pointer (some ⟨p, 0, none⟩))) 14 (.slice (some ⟨g, 0, none⟩) hp2.length cp)) 15 (.int .i64 ((j : Nat) : Int))) 16 (.pointer (some ⟨g, j, none⟩))) 17 (.int .i64 ((hp2.getD j 0 : Nat) : Int))) 18 (.pointer (some ⟨p, 0, none⟩))) 19 (.pointer (some ⟨p, 0, none⟩))) 20 (.pointer (some ⟨p, 0, none⟩))) 21 (.slice (some ⟨g, 0, none⟩) hp2.length cp)) 22 (.int .i64 ((j : Nat) : Int))) 23 (.int .i64 (((j : Nat) : Int) - 1))) 24 (.int .i64 (((j - 1) / 2 : Nat) : Int)) from congrArg (fun z => upd (upd (upd (upd (upd (upd (upd (upd (upd (upd (upd (upd (upd (upd (upd (upd (upd (upd (updL ρ [(0, .pointer (some ⟨p, 0, none⟩)), (1, .int .i64 ((j : Nat) : Int)), (4, .func (.func 39) #[.pointer (some ⟨p, 0, none⟩)] #[])]) 7 (.int .i64 ((j : Nat) : Int))) 8 (.bool true)) 9 (.bool true)) 10 (.func (.func 39) #[.pointer (some ⟨p, 0, none⟩)] #[])) 11 (.pointer (some ⟨p, 0, none⟩))) 12 (.pointer (some ⟨p, 0, none⟩))) 13 (.pointer (some ⟨p, 0, none⟩))) 14 (.slice (some ⟨g, 0, none⟩) hp2.length cp)) 15 (.int .i64 ((j : Nat) : Int))) 16 (.pointer (some ⟨g, j, none⟩))) 17 (.int .i64 ((hp2.getD j 0 : Nat) : Int))) 18 (.pointer (some ⟨p, 0, none⟩))) 19 (.pointer (some ⟨p, 0, none⟩))) 20 (.pointer (some ⟨p, 0, none⟩))) 21 (.slice (some ⟨g, 0, none⟩) hp2.length cp)) 22 (.int .i64 ((j : Nat) : Int))) 23 (.int .i64 (((j : Nat) : Int) - 1))) 24 (.int .i64 z)) (by omega)]
      refine q_val (v := .pointer (some ⟨g, (j - 1) / 2, none⟩)) (by kernel_rfl) (R_index0 (b := g) (len := hp2.length) (cap := cp) (k := .i64) (i := (((j - 1) / 2 : Nat) : Int)) (e := 3) ((j - 1) / 2) (by kernel_rfl) (by kernel_rfl) (by kernel_rfl) (by kernel_rfl) rfl (by first | omega | (simp only [List.length_set, List.length_map]; omega))) ?_
      refine q_val (v := .int .i64 ((hp2.getD ((j - 1) / 2) 0 : Nat) : Int)) (by kernel_rfl) (R_load (v := .int .i64 ((hp2.getD ((j - 1) / 2) 0 : Nat) : Int)) (by kernel_rfl) (by kernel_rfl) ((hH.cell _).trans (nats_atP (by first | omega | (simp only [List.length_set, List.length_map]; omega))))) ?_
      refine q_nil ?_
      refine st (by kernel_rfl) (S_call (args := [.pointer (some ⟨p, 0, none⟩), .int .i64 ((hp2.getD j 0 : Nat) : Int), .int .i64 ((hp2.getD ((j - 1) / 2) 0 : Nat) : Int)]) (by kernel_rfl) (ahead_ok p g cp bat bac n hp2 sp at2 ac (hp2.getD j 0) (hp2.getD ((j - 1) / 2) 0) _ ⟨hP, hH, hT, hC⟩ hq (by first | omega | exact getD_lt hlt (by omega)) (by first | omega | exact getD_lt hlt (by omega))) ?_)
      rintro _ w6 ⟨rfl, hT7⟩
      have hP := hP.tch0 hT7
      have hH := hH.tch0 hT7
      have hT := hT.tch0 hT7
      have hC := hC.tch0 hT7
      have hF := hF.then0 hT7
      refine seg1 (ρ' := upd (upd (upd (upd (upd (upd (upd (upd (upd (upd (upd (upd (upd (upd (upd (upd (upd (upd (upd (upd (upd (upd (updL ρ [(0, .pointer (some ⟨p, 0, none⟩)), (1, .int .i64 ((j : Nat) : Int)), (4, .func (.func 39) #[.pointer (some ⟨p, 0, none⟩)] #[])]) 7 (.int .i64 ((j : Nat) : Int))) 8 (.bool true)) 9 (.bool true)) 10 (.func (.func 39) #[.pointer (some ⟨p, 0, none⟩)] #[])) 11 (.pointer (some ⟨p, 0, none⟩))) 12 (.pointer (some ⟨p, 0, none⟩))) 13 (.pointer (some ⟨p, 0, none⟩))) 14 (.slice (some ⟨g, 0, none⟩) hp2.length cp)) 15 (.int .i64 ((j : Nat) : Int))) 16 (.pointer (some ⟨g, j, none⟩))) 17 (.int .i64 ((hp2.getD j 0 : Nat) : Int))) 18 (.pointer (some ⟨p, 0, none⟩))) 19 (.pointer (some ⟨p, 0, none⟩))) 20 (.pointer (some ⟨p, 0, none⟩))) 21 (.slice (some ⟨g, 0, none⟩) hp2.length cp)) 22 (.int .i64 ((j : Nat) : Int))) 23 (.int .i64 (((j : Nat) : Int) - 1))) 24 (.int .i64 (((j - 1) / 2 : Nat) : Int))) 25 (.pointer (some ⟨g, (j - 1) / 2, none⟩))) 26 (.int .i64 ((hp2.getD ((j - 1) / 2) 0 : Nat) : Int))) 27 (.bool (HeapP.aheadB ac (hp2.getD j 0) (hp2.getD ((j - 1) / 2) 0)))) 28 (.bool (HeapP.aheadB ac (hp2.getD j 0) (hp2.getD ((j - 1) / 2) 0)))) (by kernel_rfl) ?_
      refine op_nil ?_
      refine W_cond (HeapP.aheadB ac (hp2.getD j 0) (hp2.getD ((j - 1) / 2) 0)) (by kernel_rfl) (by kernel_rfl) (fun hc8 => ?_) (fun hc8 => ?_)
      · replace hc8 : HeapP.lt ac (hp2.getD j 0) (hp2.getD ((j - 1) / 2) 0) := (hc8)
        refine W_skip ?_
        refine W_block ?_
        refine W_seq ?_
        refine W_fg [(0, .pointer (some ⟨p, 0, none⟩)), (1, .int .i64 ((j : Nat) : Int)), (4, .func (.func 39) #[.pointer (some ⟨p, 0, none⟩)] #[]), (28, .bool (HeapP.aheadB ac (hp2.getD j 0) (hp2.getD ((j - 1) / 2) 0)))] (by kernel_rfl) fun ρ => ?_
        refine W_region (by kernel_rfl) ?_
        refine seg4 (ρ' := upd (upd (upd (upd (updL ρ [(0, .pointer (some ⟨p, 0, none⟩)), (1, .int .i64 ((j : Nat) : Int)), (4, .func (.func 39) #[.pointer (some ⟨p, 0, none⟩)] #[]), (28, .bool (HeapP.aheadB ac (hp2.getD j 0) (hp2.getD ((j - 1) / 2) 0)))]) 29 (.pointer (some ⟨p, 0, none⟩))) 30 (.int .i64 ((j : Nat) : Int))) 31 (.int .i64 ((j : Nat) : Int))) 32 (.int .i64 (IntKind.i64.wrap (((j : Nat) : Int) - 1)))) (by kernel_rfl) ?_
        rw [show IntKind.i64.wrap (((j : Nat) : Int) - 1) = ((j : Nat) : Int) - 1 from wrap_i64 (by omega) (by omega)]
        refine seg1 (ρ' := upd (upd (upd (upd (upd (updL ρ [(0, .pointer (some ⟨p, 0, none⟩)), (1, .int .i64 ((j : Nat) : Int)), (4, .func (.func 39) #[.pointer (some ⟨p, 0, none⟩)] #[]), (28, .bool (HeapP.aheadB ac (hp2.getD j 0) (hp2.getD ((j - 1) / 2) 0)))]) 29 (.pointer (some ⟨p, 0, none⟩))) 30 (.int .i64 ((j : Nat) : Int))) 31 (.int .i64 ((j : Nat) : Int))) 32 (.int .i64 (((j : Nat) : Int) - 1))) 33 (.int .i64 (IntKind.i64.wrap ((((j : Nat) : Int) - 1).tdiv 2)))) (by kernel_rfl) ?_
        rw [show IntKind.i64.wrap ((((j : Nat) : Int) - 1).tdiv 2) = (((j : Nat) : Int) - 1) / 2 from by rw [Int.tdiv_eq_ediv_of_nonneg (by omega)]; exact wrap_i64 (by omega) (by omega)]
        rw [show upd (upd (upd (upd (upd (updL ρ [(0, .pointer (some ⟨p, 0, none⟩)), (1, .int .i64 ((j : Nat) : Int)), (4, .func (.func 39) #[.pointer (some ⟨p, 0, none⟩)] #[]), (28, .bool (HeapP.aheadB ac (hp2.getD j 0) (hp2.getD ((j - 1) / 2) 0)))]) 29 (.pointer (some ⟨p, 0, none⟩))) 30 (.int .i64 ((j : Nat) : Int))) 31 (.int .i64 ((j : Nat) : Int))) 32 (.int .i64 (((j : Nat) : Int) - 1))) 33 (.int .i64 ((((j : Nat) : Int) - 1) / 2)) = upd (upd (upd (upd (upd (updL ρ [(0, .pointer (some ⟨p, 0, none⟩)), (1, .int .i64 ((j : Nat) : Int)), (4, .func (.func 39) #[.pointer (some ⟨p, 0, none⟩)] #[]), (28, .bool (HeapP.aheadB ac (hp2.getD j 0) (hp2.getD ((j - 1) / 2) 0)))]) 29 (.pointer (some ⟨p, 0, none⟩))) 30 (.int .i64 ((j : Nat) : Int))) 31 (.int .i64 ((j : Nat) : Int))) 32 (.int .i64 (((j : Nat) : Int) - 1))) 33 (.int .i64 (((j - 1) / 2 : Nat) : Int)) from congrArg (fun z => upd (upd (upd (upd (upd (updL ρ [(0, .pointer (some ⟨p, 0, none⟩)), (1, .int .i64 ((j : Nat) : Int)), (4, .func (.func 39) #[.pointer (some ⟨p, 0, none⟩)] #[]), (28, .bool (HeapP.aheadB ac (hp2.getD j 0) (hp2.getD ((j - 1) / 2) 0)))]) 29 (.pointer (some ⟨p, 0, none⟩))) 30 (.int .i64 ((j : Nat) : Int))) 31 (.int .i64 ((j : Nat) : Int))) 32 (.int .i64 (((j : Nat) : Int) - 1))) 33 (.int .i64 z)) (by omega)]
        refine st (by rfl) (S_call (args := [.pointer (some ⟨p, 0, none⟩), .int .i64 ((j : Nat) : Int), .int .i64 (((j - 1) / 2 : Nat) : Int)]) (by kernel_rfl) (swap_ok p g cp bat bac n hp2 sp at2 ac j ((j - 1) / 2) _ ⟨hP, hH, hT, hC⟩ hq (by omega) (by omega)) ?_)
        rintro v12 w9 ⟨at11, ⟨hP, hH, hT, hC⟩, hq, hT10⟩
        have hF := Tch.trans hF hT10 (fun _ _ e => e) (fun _ _ e => e)
        refine op_nil ?_
        refine W_region (by kernel_rfl) ?_
        refine seg2 (ρ' := upd (upd (upd (upd (upd (upd (upd (upd (updL ρ [(0, .pointer (some ⟨p, 0, none⟩)), (1, .int .i64 ((j : Nat) : Int)), (4, .func (.func 39) #[.pointer (some ⟨p, 0, none⟩)] #[]), (28, .bool (HeapP.aheadB ac (hp2.getD j 0) (hp2.getD ((j - 1) / 2) 0)))]) 29 (.pointer (some ⟨p, 0, none⟩))) 30 (.int .i64 ((j : Nat) : Int))) 31 (.int .i64 ((j : Nat) : Int))) 32 (.int .i64 (((j : Nat) : Int) - 1))) 33 (.int .i64 (((j - 1) / 2 : Nat) : Int))) 34 (v12)) 35 (.int .i64 ((j : Nat) : Int))) 36 (.int .i64 (IntKind.i64.wrap (((j : Nat) : Int) - 1)))) (by kernel_rfl) ?_
        rw [show IntKind.i64.wrap (((j : Nat) : Int) - 1) = ((j : Nat) : Int) - 1 from wrap_i64 (by omega) (by omega)]
        refine seg1 (ρ' := upd (upd (upd (upd (upd (upd (upd (upd (upd (updL ρ [(0, .pointer (some ⟨p, 0, none⟩)), (1, .int .i64 ((j : Nat) : Int)), (4, .func (.func 39) #[.pointer (some ⟨p, 0, none⟩)] #[]), (28, .bool (HeapP.aheadB ac (hp2.getD j 0) (hp2.getD ((j - 1) / 2) 0)))]) 29 (.pointer (some ⟨p, 0, none⟩))) 30 (.int .i64 ((j : Nat) : Int))) 31 (.int .i64 ((j : Nat) : Int))) 32 (.int .i64 (((j : Nat) : Int) - 1))) 33 (.int .i64 (((j - 1) / 2 : Nat) : Int))) 34 (v12)) 35 (.int .i64 ((j : Nat) : Int))) 36 (.int .i64 (((j : Nat) : Int) - 1))) 37 (.int .i64 (IntKind.i64.wrap ((((j : Nat) : Int) - 1).tdiv 2)))) (by kernel_rfl) ?_
        rw [show IntKind.i64.wrap ((((j : Nat) : Int) - 1).tdiv 2) = (((j : Nat) : Int) - 1) / 2 from by rw [Int.tdiv_eq_ediv_of_nonneg (by omega)]; exact wrap_i64 (by omega) (by omega)]
        rw [show upd (upd (upd (upd (upd (upd (upd (upd (upd (updL ρ [(0, .pointer (some ⟨p, 0, none⟩)), (1, .int .i64 ((j : Nat) : Int)), (4, .func (.func 39) #[.pointer (some ⟨p, 0, none⟩)] #[]), (28, .bool (HeapP.aheadB ac (hp2.getD j 0) (hp2.getD ((j - 1) / 2) 0)))]) 29 (.pointer (some ⟨p, 0, none⟩))) 30 (.int .i64 ((j : Nat) : Int))) 31 (.int .i64 ((j : Nat) : Int))) 32 (.int .i64 (((j : Nat) : Int) - 1))) 33 (.int .i64 (((j - 1) / 2 : Nat) : Int))) 34 (v12)) 35 (.int .i64 ((j : Nat) : Int))) 36 (.int .i64 (((j : Nat) : Int) - 1))) 37 (.int .i64 ((((j : Nat) : Int) - 1) / 2)) = upd (upd (upd (upd (upd (upd (upd (upd (upd (updL ρ [(0, .pointer (some ⟨p, 0, none⟩)), (1, .int .i64 ((j : Nat) : Int)), (4, .func (.func 39) #[.pointer (some ⟨p, 0, none⟩)] #[]), (28, .bool (HeapP.aheadB ac (hp2.getD j 0) (hp2.getD ((j - 1) / 2) 0)))]) 29 (.pointer (some ⟨p, 0, none⟩))) 30 (.int .i64 ((j : Nat) : Int))) 31 (.int .i64 ((j : Nat) : Int))) 32 (.int .i64 (((j : Nat) : Int) - 1))) 33 (.int .i64 (((j - 1) / 2 : Nat) : Int))) 34 (v12)) 35 (.int .i64 ((j : Nat) : Int))) 36 (.int .i64 (((j : Nat) : Int) - 1))) 37 (.int .i64 (((j - 1) / 2 : Nat) : Int)) from congrArg (fun z => upd (upd (upd (upd (upd (upd (upd (upd (upd (updL ρ [(0, .pointer (some ⟨p, 0, none⟩)), (1, .int .i64 ((j : Nat) : Int)), (4, .func (.func 39) #[.pointer (some ⟨p, 0, none⟩)] #[]), (28, .bool (HeapP.aheadB ac (hp2.getD j 0) (hp2.getD ((j - 1) / 2) 0)))]) 29 (.pointer (some ⟨p, 0, none⟩))) 30 (.int .i64 ((j : Nat) : Int))) 31 (.int .i64 ((j : Nat) : Int))) 32 (.int .i64 (((j : Nat) : Int) - 1))) 33 (.int .i64 (((j - 1) / 2 : Nat) : Int))) 34 (v12)) 35 (.int .i64 ((j : Nat) : Int))) 36 (.int .i64 (((j : Nat) : Int) - 1))) 37 (.int .i64 z)) (by omega)]
        refine seg1 (ρ' := upd (upd (upd (upd (upd (upd (upd (upd (upd (upd (updL ρ [(0, .pointer (some ⟨p, 0, none⟩)), (1, .int .i64 ((j : Nat) : Int)), (4, .func (.func 39) #[.pointer (some ⟨p, 0, none⟩)] #[]), (28, .bool (HeapP.aheadB ac (hp2.getD j 0) (hp2.getD ((j - 1) / 2) 0)))]) 29 (.pointer (some ⟨p, 0, none⟩))) 30 (.int .i64 ((j : Nat) : Int))) 31 (.int .i64 ((j : Nat) : Int))) 32 (.int .i64 (((j : Nat) : Int) - 1))) 33 (.int .i64 (((j - 1) / 2 : Nat) : Int))) 34 (v12)) 35 (.int .i64 ((j : Nat) : Int))) 36 (.int .i64 (((j : Nat) : Int) - 1))) 37 (.int .i64 (((j - 1) / 2 : Nat) : Int))) 1 (.int .i64 (((j - 1) / 2 : Nat) : Int))) (by kernel_rfl) ?_
        refine op_nil ?_
        refine ⟨_, ?_, HeapP.swp hp2 j ((j - 1) / 2), at11, (j - 1) / 2, f2 - 1, _, updL_self (by kernel_rfl), hq, ?_, ?_, ?_, hP, hH, hT, hC, hF, rfl⟩
        · omega
        · rw [HeapP.swp_length]; omega
        · omega
        · rw [← h3, HeapP.up_go f2 hp2 j h2 (by omega) (by assumption)]
      · replace hc8 : ¬ HeapP.lt ac (hp2.getD j 0) (hp2.getD ((j - 1) / 2) 0) := (HeapP.lt_f hc8)
        refine W_exit ?_
        refine X_hit ?_
        exact ⟨_, Res_of (v := .tuple #[]) (by kernel_rfl), (by rw [← h3, HeapP.up_stop f2 hp2 j (by first | exact fun h => absurd h.1 (by omega) | exact fun h => absurd h.2 (by assumption))]; exact ⟨at2, ⟨hP, hH, hT, hC⟩, hq, hF⟩)⟩

set_option maxRecDepth 100000 in
theorem down_ok (p g cp bat bac n : Nat) (hp : List Nat) (sp : List Value) (at_ ac : List Int) (i f : Nat) (w : World) (ho : Obj w p g cp bat bac n hp sp at_ ac) (hq : HeapP.Pur p g bat bac n hp at_ ac) (hi : i < hp.length) (hf : hp.length ≤ i + f) : Ret Try.prog 35 [.pointer (some ⟨p, 0, none⟩), .int .i64 ((i : Nat) : Int)] w fun v w' => ∃ at', Obj w' p g cp bat bac n (HeapP.down (HeapP.lt ac) f hp i) sp at' ac ∧ HeapP.Pur p g bat bac n (HeapP.down (HeapP.lt ac) f hp i) at' ac ∧ Tch (foot p g bat bac) w w' := by
  obtain ⟨hP, hH, hT, hC⟩ := ho
  have hq0 := hq
  obtain ⟨⟨n1, n2, n3, n4, n5, n6⟩, la, lc, hn, hm, hlt, hat⟩ := hq
  have hF : Tch (foot p g bat bac) w w := Tch.refl _ _
  clear hat hlt la lc hm
  refine enter Try.func35 rfl rfl ?_
  refine W_seq ?_
  refine W_region (by kernel_rfl) ?_
  refine seg3 (ρ' := upd (upd (upd (ini [.pointer (some ⟨p, 0, none⟩), .int .i64 ((i : Nat) : Int)]) 7 (.pointer (some ⟨p, 0, none⟩))) 8 (.func (.func 39) #[.pointer (some ⟨p, 0, none⟩)] #[])) 4 (.func (.func 39) #[.pointer (some ⟨p, 0, none⟩)] #[])) (by kernel_rfl) ?_
  refine op_nil ?_
  refine W_block ?_
  refine W_loop (fun m ρ w' => ∃ (hp2 : List Nat) (at2 : List Int) (j f2 : Nat) (ρ0 : Env), ρ = updL ρ0 [(0, .pointer (some ⟨p, 0, none⟩)), (1, .int .i64 ((j : Nat) : Int)), (4, .func (.func 39) #[.pointer (some ⟨p, 0, none⟩)] #[])] ∧ (HeapP.Pur p g bat bac n hp2 at2 ac) ∧ (j < hp2.length) ∧ (hp2.length ≤ j + f2) ∧ (HeapP.down (HeapP.lt ac) f2 hp2 j = HeapP.down (HeapP.lt ac) f hp i) ∧ Blk w' p 53 [.slice (some ⟨g, 0, none⟩) hp2.length cp, .slice (some ⟨bat, 0, none⟩) n n, .slice (some ⟨bac, 0, none⟩) n n] ∧ Blk w' g 3 (nats hp2 ++ sp) ∧ Blk w' bat 3 (ints .i64 at2) ∧ Blk w' bac 3 (ints .i64 ac) ∧ Tch (foot p g bat bac) w w' ∧ m = hp2.length - j) (m := hp.length - i) ?_ ?_
  · refine ⟨hp, at_, i, f, _, updL_self (by kernel_rfl), hq0, hi, hf, rfl, hP, hH, hT, hC, hF, rfl⟩
  · rintro m ρ w1 ⟨hp2, at2, j, f2, ρ, rfl, hq, h1, h2, h3, hP, hH, hT, hC, hF, rfl⟩
    obtain ⟨_, la, lc, _, hm, hlt, hat⟩ := id hq
    refine W_block ?_
    refine W_seq ?_
    refine W_region (by kernel_rfl) ?_
    refine seg2 (ρ' := upd (upd (updL ρ [(0, .pointer (some ⟨p, 0, none⟩)), (1, .int .i64 ((j : Nat) : Int)), (4, .func (.func 39) #[.pointer (some ⟨p, 0, none⟩)] #[])]) 9 (.int .i64 ((j : Nat) : Int))) 5 (.int .i64 ((j : Nat) : Int))) (by kernel_rfl) ?_
    refine op_nil ?_
    refine W_seq ?_
    refine W_seq ?_
    refine W_region (by kernel_rfl) ?_
    refine seg2 (ρ' := upd (upd (upd (upd (updL ρ [(0, .pointer (some ⟨p, 0, none⟩)), (1, .int .i64 ((j : Nat) : Int)), (4, .func (.func 39) #[.pointer (some ⟨p, 0, none⟩)] #[])]) 9 (.int .i64 ((j : Nat) : Int))) 5 (.int .i64 ((j : Nat) : Int))) 10 (.int .i64 ((j : Nat) : Int))) 11 (.int .i64 (IntKind.i64.wrap (2 * ((j : Nat) : Int))))) (by kernel_rfl) ?_
    rw [show IntKind.i64.wrap (2 * ((j : Nat) : Int)) = 2 * ((j : Nat) : Int) from wrap_i64 (by omega) (by omega)]
    refine seg1 (ρ' := upd (upd (upd (upd (upd (updL ρ [(0, .pointer (some ⟨p, 0, none⟩)), (1, .int .i64 ((j : Nat) : Int)), (4, .func (.func 39) #[.pointer (some ⟨p, 0, none⟩)] #[])]) 9 (.int .i64 ((j : Nat) : Int))) 5 (.int .i64 ((j : Nat) : Int))) 10 (.int .i64 ((j : Nat) : Int))) 11 (.int .i64 (2 * ((j : Nat) : Int)))) 12 (.int .i64 (IntKind.i64.wrap ((2 * ((j : Nat) : Int)) + 1)))) (by kernel_rfl) ?_
    rw [show IntKind.i64.wrap ((2 * ((j : Nat) : Int)) + 1) = (2 * ((j : Nat) : Int)) + 1 from wrap_i64 (by omega) (by omega)]
    rw [show upd (upd (upd (upd (upd (updL ρ [(0, .pointer (some ⟨p, 0, none⟩)), (1, .int .i64 ((j : Nat) : Int)), (4, .func (.func 39) #[.pointer (some ⟨p, 0, none⟩)] #[])]) 9 (.int .i64 ((j : Nat) : Int))) 5 (.int .i64 ((j : Nat) : Int))) 10 (.int .i64 ((j : Nat) : Int))) 11 (.int .i64 (2 * ((j : Nat) : Int)))) 12 (.int .i64 ((2 * ((j : Nat) : Int)) + 1)) = upd (upd (upd (upd (upd (updL ρ [(0, .pointer (some ⟨p, 0, none⟩)), (1, .int .i64 ((j : Nat) : Int)), (4, .func (.func 39) #[.pointer (some ⟨p, 0, none⟩)] #[])]) 9 (.int .i64 ((j : Nat) : Int))) 5 (.int .i64 ((j : Nat) : Int))) 10 (.int .i64 ((j : Nat) : Int))) 11 (.int .i64 (2 * ((j : Nat) : Int)))) 12 (.int .i64 ((2 * j + 1 : Nat) : Int)) from congrArg (fun z => upd (upd (upd (upd (upd (updL ρ [(0, .pointer (some ⟨p, 0, none⟩)), (1, .int .i64 ((j : Nat) : Int)), (4, .func (.func 39) #[.pointer (some ⟨p, 0, none⟩)] #[])]) 9 (.int .i64 ((j : Nat) : Int))) 5 (.int .i64 ((j : Nat) : Int))) 10 (.int .i64 ((j : Nat) : Int))) 11 (.int .i64 (2 * ((j : Nat) : Int)))) 12 (.int .i64 z)) (by omega)]
    refine seg1 (ρ' := upd (upd (upd (upd (upd (upd (updL ρ [(0, .pointer (some ⟨p, 0, none⟩)), (1, .int .i64 ((j : Nat) : Int)), (4, .func (.func 39) #[.pointer (some ⟨p, 0, none⟩)] #[])]) 9 (.int .i64 ((j : Nat) : Int))) 5 (.int .i64 ((j : Nat) : Int))) 10 (.int .i64 ((j : Nat) : Int))) 11 (.int .i64 (2 * ((j : Nat) : Int)))) 12 (.int .i64 ((2 * j + 1 : Nat) : Int))) 6 (.int .i64 ((2 * j + 1 : Nat) : Int))) (by kernel_rfl) ?_
    refine op_nil ?_
    refine W_block ?_
    refine W_loop (fun m ρ w' => ∃ (k b : Nat) (ρ0 : Env), ρ = updL ρ0 [(0, .pointer (some ⟨p, 0, none⟩)), (1, .int .i64 ((j : Nat) : Int)), (4, .func (.func 39) #[.pointer (some ⟨p, 0, none⟩)] #[]), (5, .int .i64 ((b : Nat) : Int)), (6, .int .i64 ((k : Nat) : Int))] ∧ (HeapP.BInv (HeapP.lt ac) hp2 j k b) ∧ (b < hp2.length) ∧ Blk w' p 53 [.slice (some ⟨g, 0, none⟩) hp2.length cp, .slice (some ⟨bat, 0, none⟩) n n, .slice (some ⟨bac, 0, none⟩) n n] ∧ Blk w' g 3 (nats hp2 ++ sp) ∧ Blk w' bat 3 (ints .i64 at2) ∧ Blk w' bac 3 (ints .i64 ac) ∧ Tch (foot p g bat bac) w w' ∧ m = 2 * j + 3 - k) (m := 2 * j + 3 - (2 * j + 1)) ?_ ?_
    · refine ⟨2 * j + 1, j, _, updL_self (by kernel_rfl), .inl ⟨rfl, rfl⟩, h1, hP, hH, hT, hC, hF, rfl⟩
    · rintro m ρ w2 ⟨k, b, ρ, rfl, g1, g2, hP, hH, hT, hC, hF, rfl⟩
      refine W_seq ?_
      refine W_seq ?_
      refine W_region (by kernel_rfl) ?_
      refine seg3 (ρ' := upd (upd (upd (updL ρ [(0, .pointer (some ⟨p, 0, none⟩)), (1, .int .i64 ((j : Nat) : Int)), (4, .func (.func 39) #[.pointer (some ⟨p, 0, none⟩)] #[]), (5, .int .i64 ((b : Nat) : Int)), (6, .int .i64 ((k : Nat) : Int))]) 13 (.int .i64 ((k : Nat) : Int))) 14 (.int .i64 ((j : Nat) : Int))) 15 (.int .i64 (IntKind.i64.wrap (2 * ((j : Nat) : Int))))) (by kernel_rfl) ?_
      rw [show IntKind.i64.wrap (2 * ((j : Nat) : Int)) = 2 * ((j : Nat) : Int) from wrap_i64 (by omega) (by omega)]
      refine seg1 (ρ' := upd (upd (upd (upd (updL ρ [(0, .pointer (some ⟨p, 0, none⟩)), (1, .int .i64 ((j : Nat) : Int)), (4, .func (.func 39) #[.pointer (some ⟨p, 0, none⟩)] #[]), (5, .int .i64 ((b : Nat) : Int)), (6, .int .i64 ((k : Nat) : Int))]) 13 (.int .i64 ((k : Nat) : Int))) 14 (.int .i64 ((j : Nat) : Int))) 15 (.int .i64 (2 * ((j : Nat) : Int)))) 16 (.int .i64 (IntKind.i64.wrap ((2 * ((j : Nat) : Int)) + 2)))) (by kernel_rfl) ?_
      rw [show IntKind.i64.wrap ((2 * ((j : Nat) : Int)) + 2) = (2 * ((j : Nat) : Int)) + 2 from wrap_i64 (by omega) (by omega)]
      refine seg2 (ρ' := upd (upd (upd (upd (upd (upd (updL ρ [(0, .pointer (some ⟨p, 0, none⟩)), (1, .int .i64 ((j : Nat) : Int)), (4, .func (.func 39) #[.pointer (some ⟨p, 0, none⟩)] #[]), (5, .int .i64 ((b : Nat) : Int)), (6, .int .i64 ((k : Nat) : Int))]) 13 (.int .i64 ((k : Nat) : Int))) 14 (.int .i64 ((j : Nat) : Int))) 15 (.int .i64 (2 * ((j : Nat) : Int)))) 16 (.int .i64 ((2 * ((j : Nat) : Int)) + 2))) 17 (.bool (decide (((k : Nat) : Int) ≤ (2 * ((j : Nat) : Int)) + 2)))) 18 (.bool (decide (((k : Nat) : Int) ≤ (2 * ((j : Nat) : Int)) + 2)))) (by kernel_rfl) ?_
      cases hb3 : decide (((k : Nat) : Int) ≤ (2 * ((j : Nat) : Int)) + 2)
      · replace hb3 : (2 * ((j : Nat) : Int)) + 2 < ((k : Nat) : Int) := (Int.not_le.1 (of_decide_eq_false hb3))
        refine seg8 (ρ' := upd (upd (upd (upd (upd (upd (upd (upd (upd (upd (upd (upd (upd (upd (updL ρ [(0, .pointer (some ⟨p, 0, none⟩)), (1, .int .i64 ((j : Nat) : Int)), (4, .func (.func 39) #[.pointer (some ⟨p, 0, none⟩)] #[]), (5, .int .i64 ((b : Nat) : Int)), (6, .int .i64 ((k : Nat) : Int))]) 13 (.int .i64 ((k : Nat) : Int))) 14 (.int .i64 ((j : Nat) : Int))) 15 (.int .i64 (2 * ((j : Nat) : Int)))) 16 (.int .i64 ((2 * ((j : Nat) : Int)) + 2))) 17 (.bool false)) 18 (.bool false)) 19 (undef)) 20 (undef)) 21 (undef)) 22 (undef)) 23 (undef)) 24 (undef)) 25 (undef)) 26 (.bool false)) (by kernel_rfl) ?_
        refine op_nil ?_
        refine W_cond false (by kernel_rfl) (by kernel_rfl) (fun h => nomatch h) (fun _ => ?_)
        refine W_exit ?_
        refine X_hit ?_
        refine W_seq ?_
        refine W_seq ?_
        refine W_fg [(0, .pointer (some ⟨p, 0, none⟩)), (1, .int .i64 ((j : Nat) : Int)), (4, .func (.func 39) #[.pointer (some ⟨p, 0, none⟩)] #[]), (5, .int .i64 ((b : Nat) : Int)), (6, .int .i64 ((k : Nat) : Int)), (26, .bool false)] (by kernel_rfl) fun ρ => ?_
        have hbb := g1.fin (by omega)
        refine W_region (by kernel_rfl) ?_
        refine seg3 (ρ' := upd (upd (upd (updL ρ [(0, .pointer (some ⟨p, 0, none⟩)), (1, .int .i64 ((j : Nat) : Int)), (4, .func (.func 39) #[.pointer (some ⟨p, 0, none⟩)] #[]), (5, .int .i64 ((b : Nat) : Int)), (6, .int .i64 ((k : Nat) : Int)), (26, .bool false)]) 46 (.int .i64 ((b : Nat) : Int))) 47 (.int .i64 ((j : Nat) : Int))) 48 (.bool (((b : Nat) : Int) == ((j : Nat) : Int)))) (by kernel_rfl) ?_
        refine op_nil ?_
        refine W_cond (((b : Nat) : Int) == ((j : Nat) : Int)) (by kernel_rfl) (by kernel_rfl) (fun hc4 => ?_) (fun hc4 => ?_)
        · replace hc4 : ((b : Nat) : Int) = ((j : Nat) : Int) := (eq_of_beq hc4)
          refine W_ret ?_
          exact ⟨_, Res_of (v := .tuple #[]) (by kernel_rfl), (by rw [← h3, HeapP.down_stop f2 hp2 j (by omega)]; exact ⟨at2, ⟨hP, hH, hT, hC⟩, hq, hF⟩)⟩
        · replace hc4 : ((b : Nat) : Int) ≠ ((j : Nat) : Int) := (ne_of_beq_false hc4)
          refine W_skip ?_
          refine W_seq ?_
          refine W_region (by kernel_rfl) ?_
          refine seg3 (ρ' := upd (upd (upd (upd (upd (upd (updL ρ [(0, .pointer (some ⟨p, 0, none⟩)), (1, .int .i64 ((j : Nat) : Int)), (4, .func (.func 39) #[.pointer (some ⟨p, 0, none⟩)] #[]), (5, .int .i64 ((b : Nat) : Int)), (6, .int .i64 ((k : Nat) : Int)), (26, .bool false)]) 46 (.int .i64 ((b : Nat) : Int))) 47 (.int .i64 ((j : Nat) : Int))) 48 (.bool (((b : Nat) : Int) == ((j : Nat) : Int)))) 49 (.pointer (some ⟨p, 0, none⟩))) 50 (.int .i64 ((j : Nat) : Int))) 51 (.int .i64 ((b : Nat) : Int))) (by kernel_rfl) ?_
          refine st (by rfl) (S_call (args := [.pointer (some ⟨p, 0, none⟩), .int .i64 ((j : Nat) : Int), .int .i64 ((b : Nat) : Int)]) (by kernel_rfl) (swap_ok p g cp bat bac n hp2 sp at2 ac j b _ ⟨hP, hH, hT, hC⟩ hq (by omega) (by omega)) ?_)
          rintro v8 w5 ⟨at7, ⟨hP, hH, hT, hC⟩, hq, hT6⟩
          have hF := Tch.trans hF hT6 (fun _ _ e => e) (fun _ _ e => e)
          refine op_nil ?_
          refine W_region (by kernel_rfl) ?_
          refine seg2 (ρ' := upd (upd (upd (upd (upd (upd (upd (upd (upd (updL ρ [(0, .pointer (some ⟨p, 0, none⟩)), (1, .int .i64 ((j : Nat) : Int)), (4, .func (.func 39) #[.pointer (some ⟨p, 0, none⟩)] #[]), (5, .int .i64 ((b : Nat) : Int)), (6, .int .i64 ((k : Nat) : Int)), (26, .bool false)]) 46 (.int .i64 ((b : Nat) : Int))) 47 (.int .i64 ((j : Nat) : Int))) 48 (.bool (((b : Nat) : Int) == ((j : Nat) : Int)))) 49 (.pointer (some ⟨p, 0, none⟩))) 50 (.int .i64 ((j : Nat) : Int))) 51 (.int .i64 ((b : Nat) : Int))) 52 (v8)) 53 (.int .i64 ((b : Nat) : Int))) 1 (.int .i64 ((b : Nat) : Int))) (by kernel_rfl) ?_
          refine op_nil ?_
          refine ⟨_, ?_, HeapP.swp hp2 j b, at7, b, f2 - 1, _, updL_self (by kernel_rfl), hq, ?_, ?_, ?_, hP, hH, hT, hC, hF, rfl⟩
          · rw [HeapP.swp_length]; have := HeapP.best_cases (lt := HeapP.lt ac) hp2 j; omega
          · rw [HeapP.swp_length]; omega
          · rw [HeapP.swp_length]; have := HeapP.best_cases (lt := HeapP.lt ac) hp2 j; omega
          · rw [← h3, HeapP.down_go f2 hp2 j h2 h1 (by omega), ← hbb]
      · replace hb3 : ((k : Nat) : Int) ≤ (2 * ((j : Nat) : Int)) + 2 := (of_decide_eq_true hb3)
        refine seg4 (ρ' := upd (upd (upd (upd (upd (upd (upd (upd (upd (upd (updL ρ [(0, .pointer (some ⟨p, 0, none⟩)), (1, .int .i64 ((j : Nat) : Int)), (4, .func (.func 39) #[.pointer (some ⟨p, 0, none⟩)] #[]), (5, .int .i64 ((b : Nat) : Int)), (6, .int .i64 ((k : Nat) : Int))]) 13 (.int .i64 ((k : Nat) : Int))) 14 (.int .i64 ((j : Nat) : Int))) 15 (.int .i64 (2 * ((j : Nat) : Int)))) 16 (.int .i64 ((2 * ((j : Nat) : Int)) + 2))) 17 (.bool true)) 18 (.bool true)) 19 (.int .i64 ((k : Nat) : Int))) 20 (.pointer (some ⟨p, 0, none⟩))) 21 (.pointer (some ⟨p, 0, none⟩))) 22 (.pointer (some ⟨p, 0, none⟩))) (by kernel_rfl) ?_
        refine st (by kernel_rfl) (S_val (v := .slice (some ⟨g, 0, none⟩) hp2.length cp) (R_load (v := .slice (some ⟨g, 0, none⟩) hp2.length cp) (by kernel_rfl) (by kernel_rfl) ((hP.cell 0).trans rfl)) ?_)
        refine seg3 (ρ' := upd (upd (upd (upd (upd (upd (upd (upd (upd (upd (upd (upd (upd (upd (updL ρ [(0, .pointer (some ⟨p, 0, none⟩)), (1, .int .i64 ((j : Nat) : Int)), (4, .func (.func 39) #[.pointer (some ⟨p, 0, none⟩)] #[]), (5, .int .i64 ((b : Nat) : Int)), (6, .int .i64 ((k : Nat) : Int))]) 13 (.int .i64 ((k : Nat) : Int))) 14 (.int .i64 ((j : Nat) : Int))) 15 (.int .i64 (2 * ((j : Nat) : Int)))) 16 (.int .i64 ((2 * ((j : Nat) : Int)) + 2))) 17 (.bool true)) 18 (.bool true)) 19 (.int .i64 ((k : Nat) : Int))) 20 (.pointer (some ⟨p, 0, none⟩))) 21 (.pointer (some ⟨p, 0, none⟩))) 22 (.pointer (some ⟨p, 0, none⟩))) 23 (.slice (some ⟨g, 0, none⟩) hp2.length cp)) 24 (.int .i64 (hp2.length : Int))) 25 (.bool (decide (((k : Nat) : Int) < (hp2.length : Int))))) 26 (.bool (decide (((k : Nat) : Int) < (hp2.length : Int))))) (by kernel_rfl) ?_
        refine op_nil ?_
        refine W_cond (decide (((k : Nat) : Int) < (hp2.length : Int))) (by kernel_rfl) (by kernel_rfl) (fun hc9 => ?_) (fun hc9 => ?_)
        · replace hc9 : ((k : Nat) : Int) < (hp2.length : Int) := (of_decide_eq_true hc9)
          refine W_skip ?_
          refine W_seq ?_
          refine W_block ?_
          refine W_seq ?_
          refine W_fg [(0, .pointer (some ⟨p, 0, none⟩)), (1, .int .i64 ((j : Nat) : Int)), (4, .func (.func 39) #[.pointer (some ⟨p, 0, none⟩)] #[]), (5, .int .i64 ((b : Nat) : Int)), (6, .int .i64 ((k : Nat) : Int)), (26, .bool (decide (((k : Nat) : Int) < (hp2.length : Int))))] (by kernel_rfl) fun ρ => ?_
          refine W_tail 15 (by kernel_rfl) (by kernel_rfl) (by kernel_rfl) fun w10 hT11 hh12 => ?_
          have hP := hP.tch0 hT11
          have hH := hH.tch0 hT11
          have hT := hT.tch0 hT11
          have hC := hC.tch0 hT11
          have hF := hF.then0 hT11
          refine qseg4 (ρ' := upd (upd (upd (upd (updL ρ [(0, .pointer (some ⟨p, 0, none⟩)), (1, .int .i64 ((j : Nat) : Int)), (4, .func (.func 39) #[.pointer (some ⟨p, 0, none⟩)] #[]), (5, .int .i64 ((b : Nat) : Int)), (6, .int .i64 ((k : Nat) : Int)), (26, .bool (decide (((k : Nat) : Int) < (hp2.length : Int))))]) 29 (.func (.func 39) #[.pointer (some ⟨p, 0, none⟩)] #[])) 30 (.pointer (some ⟨p, 0, none⟩))) 31 (.pointer (some ⟨p, 0, none⟩))) 32 (.pointer (some ⟨p, 0, none⟩))) (by kernel_rfl) ?_
          refine q_val (v := .slice (some ⟨g, 0, none⟩) hp2.length cp) (by rfl) (R_load (v := .slice (some ⟨g, 0, none⟩) hp2.length cp) (by kernel_rfl) (by kernel_rfl) ((hP.cell 0).trans rfl)) ?_
          refine qseg1 (ρ' := upd (upd (upd (upd (upd (upd (updL ρ [(0, .pointer (some ⟨p, 0, none⟩)), (1, .int .i64 ((j : Nat) : Int)), (4, .func (.func 39) #[.pointer (some ⟨p, 0, none⟩)] #[]), (5, .int .i64 ((b : Nat) : Int)), (6, .int .i64 ((k : Nat) : Int)), (26, .bool (decide (((k : Nat) : Int) < (hp2.length : Int))))]) 29 (.func (.func 39) #[.pointer (some ⟨p, 0, none⟩)] #[])) 30 (.pointer (some ⟨p, 0, none⟩))) 31 (.pointer (some ⟨p, 0, none⟩))) 32 (.pointer (some ⟨p, 0, none⟩))) 33 (.slice (some ⟨g, 0, none⟩) hp2.length cp)) 34 (.int .i64 ((k : Nat) : Int))) (by kernel_rfl) ?_
          refine q_val (v := .pointer (some ⟨g, k, none⟩)) (by rfl) (R_index0 (b := g) (len := hp2.length) (cap := cp) (k := .i64) (i := ((k : Nat) : Int)) (e := 3) k (by kernel_rfl) (by kernel_rfl) (by kernel_rfl) (by kernel_rfl) rfl (by first | omega | (simp only [List.length_set, List.length_map]; omega))) ?_
          refine q_val (v := .int .i64 ((hp2.getD k 0 : Nat) : Int)) (by rfl) (R_load (v := .int .i64 ((hp2.getD k 0 : Nat) : Int)) (by kernel_rfl) (by kernel_rfl) ((hH.cell _).trans (nats_atP (by first | omega | (simp only [List.length_set, List.length_map]; omega))))) ?_
          refine qseg3 (ρ' := upd (upd (upd (upd (upd (upd (upd (upd (upd (upd (upd (updL ρ [(0, .pointer (some ⟨p, 0, none⟩)), (1, .int .i64 ((j : Nat) : Int)), (4, .func (.func 39) #[.pointer (some ⟨p, 0, none⟩)] #[]), (5, .int .i64 ((b : Nat) : Int)), (6, .int .i64 ((k : Nat) : Int)), (26, .bool (decide (((k : Nat) : Int) < (hp2.length : Int))))]) 29 (.func (.func 39) #[.pointer (some ⟨p, 0, none⟩)] #[])) 30 (.pointer (some ⟨p, 0, none⟩))) 31 (.pointer (some ⟨p, 0, none⟩))) 32 (.pointer (some ⟨p, 0, none⟩))) 33 (.slice (some ⟨g, 0, none⟩) hp2.length cp)) 34 (.int .i64 ((k : Nat) : Int))) 35 (.pointer (some ⟨g, k, none⟩))) 36 (.int .i64 ((hp2.getD k 0 : Nat) : Int))) 37 (.pointer (some ⟨p, 0, none⟩))) 38 (.pointer (some ⟨p, 0, none⟩))) 39 (.pointer (some ⟨p, 0, none⟩))) (by kernel_rfl) ?_
          refine q_val (v := .slice (some ⟨g, 0, none⟩) hp2.length cp) (by rfl) (R_load (v := .slice (some ⟨g, 0, none⟩) hp2.length cp) (by kernel_rfl) (by kernel_rfl) ((hP.cell 0).trans rfl)) ?_
          refine qseg1 (ρ' := upd (upd (upd (upd (upd (upd (upd (upd (upd (upd (upd (upd (upd (updL ρ [(0, .pointer (some ⟨p, 0, none⟩)), (1, .int .i64 ((j : Nat) : Int)), (4, .func (.func 39) #[.pointer (some ⟨p, 0, none⟩)] #[]), (5, .int .i64 ((b : Nat) : Int)), (6, .int .i64 ((k : Nat) : Int)), (26, .bool (decide (((k : Nat) : Int) < (hp2.length : Int))))]) 29 (.func (.func 39) #[.pointer (some ⟨p, 0, none⟩)] #[])) 30 (.pointer (some ⟨p, 0, none⟩))) 31 (.pointer (some ⟨p, 0, none⟩))) 32 (.pointer (some ⟨p, 0, none⟩))) 33 (.slice (some ⟨g, 0, none⟩) hp2.length cp)) 34 (.int .i64 ((k : Nat) : Int))) 35 (.pointer (some ⟨g, k, none⟩))) 36 (.int .i64 ((hp2.getD k 0 : Nat) : Int))) 37 (.pointer (some ⟨p, 0, none⟩))) 38 (.pointer (some ⟨p, 0, none⟩))) 39 (.pointer (some ⟨p, 0, none⟩))) 40 (.slice (some ⟨g, 0, none⟩) hp2.length cp)) 41 (.int .i64 ((b : Nat) : Int))) (by kernel_rfl) ?_
          refine q_val (v := .pointer (some ⟨g, b, none⟩)) (by rfl) (R_index0 (b := g) (len := hp2.length) (cap := cp) (k := .i64) (i := ((b : Nat) : Int)) (e := 3) b (by kernel_rfl) (by kernel_rfl) (by kernel_rfl) (by kernel_rfl) rfl (by first | omega | (simp only [List.length_set, List.length_map]; omega))) ?_
          refine q_val (v := .int .i64 ((hp2.getD b 0 : Nat) : Int)) (by rfl) (R_load (v := .int .i64 ((hp2.getD b 0 : Nat) : Int)) (by kernel_rfl) (by kernel_rfl) ((hH.cell _).trans (nats_atP (by first | omega | (simp only [List.length_set, List.length_map]; omega))))) ?_
          refine q_nil ?_
          refine st (by rfl) (S_call (args := [.pointer (some ⟨p, 0, none⟩), .int .i64 ((hp2.getD k 0 : Nat) : Int), .int .i64 ((hp2.getD b 0 : Nat) : Int)]) (by kernel_rfl) (ahead_ok p g cp bat bac n hp2 sp at2 ac (hp2.getD k 0) (hp2.getD b 0) _ ⟨hP, hH, hT, hC⟩ hq (by first | omega | exact getD_lt hlt (by omega)) (by first | omega | exact getD_lt hlt (by omega))) ?_)
          rintro _ w13 ⟨rfl, hT14⟩
          have hP := hP.tch0 hT14
          have hH := hH.tch0 hT14
          have hT := hT.tch0 hT14
          have hC := hC.tch0 hT14
          have hF := hF.then0 hT14
          refine op_nil ?_
          refine W_cond (HeapP.aheadB ac (hp2.getD k 0) (hp2.getD b 0)) (by kernel_rfl) (by kernel_rfl) (fun hc15 => ?_) (fun hc15 => ?_)
          · replace hc15 : HeapP.lt ac (hp2.getD k 0) (hp2.getD b 0) := (hc15)
            refine W_fg [(0, .pointer (some ⟨p, 0, none⟩)), (1, .int .i64 ((j : Nat) : Int)), (4, .func (.func 39) #[.pointer (some ⟨p, 0, none⟩)] #[]), (5, .int .i64 ((b : Nat) : Int)), (6, .int .i64 ((k : Nat) : Int)), (26, .bool (decide (((k : Nat) : Int) < (hp2.length : Int)))), (44, .bool (HeapP.aheadB ac (hp2.getD k 0) (hp2.getD b 0)))] (by kernel_rfl) fun ρ => ?_
            refine W_region (by kernel_rfl) ?_
            refine seg2 (ρ' := upd (upd (updL ρ [(0, .pointer (some ⟨p, 0, none⟩)), (1, .int .i64 ((j : Nat) : Int)), (4, .func (.func 39) #[.pointer (some ⟨p, 0, none⟩)] #[]), (5, .int .i64 ((b : Nat) : Int)), (6, .int .i64 ((k : Nat) : Int)), (26, .bool (decide (((k : Nat) : Int) < (hp2.length : Int)))), (44, .bool (HeapP.aheadB ac (hp2.getD k 0) (hp2.getD b 0)))]) 45 (.int .i64 ((k : Nat) : Int))) 5 (.int .i64 ((k : Nat) : Int))) (by kernel_rfl) ?_
            refine op_nil ?_
            refine W_region (by kernel_rfl) ?_
            refine seg2 (ρ' := upd (upd (upd (upd (updL ρ [(0, .pointer (some ⟨p, 0, none⟩)), (1, .int .i64 ((j : Nat) : Int)), (4, .func (.func 39) #[.pointer (some ⟨p, 0, none⟩)] #[]), (5, .int .i64 ((b : Nat) : Int)), (6, .int .i64 ((k : Nat) : Int)), (26, .bool (decide (((k : Nat) : Int) < (hp2.length : Int)))), (44, .bool (HeapP.aheadB ac (hp2.getD k 0) (hp2.getD b 0)))]) 45 (.int .i64 ((k : Nat) : Int))) 5 (.int .i64 ((k : Nat) : Int))) 27 (.int .i64 ((k : Nat) : Int))) 28 (.int .i64 (IntKind.i64.wrap (((k : Nat) : Int) + 1)))) (by kernel_rfl) ?_
            rw [show IntKind.i64.wrap (((k : Nat) : Int) + 1) = ((k : Nat) : Int) + 1 from wrap_i64 (by omega) (by omega)]
            rw [show upd (upd (upd (upd (updL ρ [(0, .pointer (some ⟨p, 0, none⟩)), (1, .int .i64 ((j : Nat) : Int)), (4, .func (.func 39) #[.pointer (some ⟨p, 0, none⟩)] #[]), (5, .int .i64 ((b : Nat) : Int)), (6, .int .i64 ((k : Nat) : Int)), (26, .bool (decide (((k : Nat) : Int) < (hp2.length : Int)))), (44, .bool (HeapP.aheadB ac (hp2.getD k 0) (hp2.getD b 0)))]) 45 (.int .i64 ((k : Nat) : Int))) 5 (.int .i64 ((k : Nat) : Int))) 27 (.int .i64 ((k : Nat) : Int))) 28 (.int .i64 (((k : Nat) : Int) + 1)) = upd (upd (upd (upd (updL ρ [(0, .pointer (some ⟨p, 0, none⟩)), (1, .int .i64 ((j : Nat) : Int)), (4, .func (.func 39) #[.pointer (some ⟨p, 0, none⟩)] #[]), (5, .int .i64 ((b : Nat) : Int)), (6, .int .i64 ((k : Nat) : Int)), (26, .bool (decide (((k : Nat) : Int) < (hp2.length : Int)))), (44, .bool (HeapP.aheadB ac (hp2.getD k 0) (hp2.getD b 0)))]) 45 (.int .i64 ((k : Nat) : Int))) 5 (.int .i64 ((k : Nat) : Int))) 27 (.int .i64 ((k : Nat) : Int))) 28 (.int .i64 ((k + 1 : Nat) : Int)) from congrArg (fun z => upd (upd (upd (upd (updL ρ [(0, .pointer (some ⟨p, 0, none⟩)), (1, .int .i64 ((j : Nat) : Int)), (4, .func (.func 39) #[.pointer (some ⟨p, 0, none⟩)] #[]), (5, .int .i64 ((b : Nat) : Int)), (6, .int .i64 ((k : Nat) : Int)), (26, .bool (decide (((k : Nat) : Int) < (hp2.length : Int)))), (44, .bool (HeapP.aheadB ac (hp2.getD k 0) (hp2.getD b 0)))]) 45 (.int .i64 ((k : Nat) : Int))) 5 (.int .i64 ((k : Nat) : Int))) 27 (.int .i64 ((k : Nat) : Int))) 28 (.int .i64 z)) (by omega)]
            refine seg1 (ρ' := upd (upd (upd (upd (upd (updL ρ [(0, .pointer (some ⟨p, 0, none⟩)), (1, .int .i64 ((j : Nat) : Int)), (4, .func (.func 39) #[.pointer (some ⟨p, 0, none⟩)] #[]), (5, .int .i64 ((b : Nat) : Int)), (6, .int .i64 ((k : Nat) : Int)), (26, .bool (decide (((k : Nat) : Int) < (hp2.length : Int)))), (44, .bool (HeapP.aheadB ac (hp2.getD k 0) (hp2.getD b 0)))]) 45 (.int .i64 ((k : Nat) : Int))) 5 (.int .i64 ((k : Nat) : Int))) 27 (.int .i64 ((k : Nat) : Int))) 28 (.int .i64 ((k + 1 : Nat) : Int))) 6 (.int .i64 ((k + 1 : Nat) : Int))) (by kernel_rfl) ?_
            refine op_nil ?_
            refine ⟨_, ?_, k + 1, k, _, updL_self (by kernel_rfl), ?_, ?_, hP, hH, hT, hC, hF, rfl⟩
            · omega
            · first | exact g1.t (by omega) (by omega) (by assumption) | exact g1.f (by omega) (by assumption)
            · omega
          · replace hc15 : ¬ HeapP.lt ac (hp2.getD k 0) (hp2.getD b 0) := (HeapP.lt_f hc15)
            refine W_skip ?_
            refine W_fg [(0, .pointer (some ⟨p, 0, none⟩)), (1, .int .i64 ((j : Nat) : Int)), (4, .func (.func 39) #[.pointer (some ⟨p, 0, none⟩)] #[]), (5, .int .i64 ((b : Nat) : Int)), (6, .int .i64 ((k : Nat) : Int)), (26, .bool (decide (((k : Nat) : Int) < (hp2.length : Int)))), (44, .bool (HeapP.aheadB ac (hp2.getD k 0) (hp2.getD b 0)))] (by kernel_rfl) fun ρ => ?_
            refine W_region (by kernel_rfl) ?_
            refine seg2 (ρ' := upd (upd (updL ρ [(0, .pointer (some ⟨p, 0, none⟩)), (1, .int .i64 ((j : Nat) : Int)), (4, .func (.func 39) #[.pointer (some ⟨p, 0, none⟩)] #[]), (5, .int .i64 ((b : Nat) : Int)), (6, .int .i64 ((k : Nat) : Int)), (26, .bool (decide (((k : Nat) : Int) < (hp2.length : Int)))), (44, .bool (HeapP.aheadB ac (hp2.getD k 0) (hp2.getD b 0)))]) 27 (.int .i64 ((k : Nat) : Int))) 28 (.int .i64 (IntKind.i64.wrap (((k : Nat) : Int) + 1)))) (by kernel_rfl) ?_
            rw [show IntKind.i64.wrap (((k : Nat) : Int) + 1) = ((k : Nat) : Int) + 1 from wrap_i64 (by omega) (by omega)]
            rw [show upd (upd (updL ρ [(0, .pointer (some ⟨p, 0, none⟩)), (1, .int .i64 ((j : Nat) : Int)), (4, .func (.func 39) #[.pointer (some ⟨p, 0, none⟩)] #[]), (5, .int .i64 ((b : Nat) : Int)), (6, .int .i64 ((k : Nat) : Int)), (26, .bool (decide (((k : Nat) : Int) < (hp2.length : Int)))), (44, .bool (HeapP.aheadB ac (hp2.getD k 0) (hp2.getD b 0)))]) 27 (.int .i64 ((k : Nat) : Int))) 28 (.int .i64 (((k : Nat) : Int) + 1)) = upd (upd (updL ρ [(0, .pointer (some ⟨p, 0, none⟩)), (1, .int .i64 ((j : Nat) : Int)), (4, .func (.func 39) #[.pointer (some ⟨p, 0, none⟩)] #[]), (5, .int .i64 ((b : Nat) : Int)), (6, .int .i64 ((k : Nat) : Int)), (26, .bool (decide (((k : Nat) : Int) < (hp2.length : Int)))), (44, .bool (HeapP.aheadB ac (hp2.getD k 0) (hp2.getD b 0)))]) 27 (.int .i64 ((k : Nat) : Int))) 28 (.int .i64 ((k + 1 : Nat) : Int)) from congrArg (fun z => upd (upd (updL ρ [(0, .pointer (some ⟨p, 0, none⟩)), (1, .int .i64 ((j : Nat) : Int)), (4, .func (.func 39) #[.pointer (some ⟨p, 0, none⟩)] #[]), (5, .int .i64 ((b : Nat) : Int)), (6, .int .i64 ((k : Nat) : Int)), (26, .bool (decide (((k : Nat) : Int) < (hp2.length : Int)))), (44, .bool (HeapP.aheadB ac (hp2.getD k 0) (hp2.getD b 0)))]) 27 (.int .i64 ((k : Nat) : Int))) 28 (.int .i64 z)) (by omega)]
            refine seg1 (ρ' := upd (upd (upd (updL ρ [(0, .pointer (some ⟨p, 0, none⟩)), (1, .int .i64 ((j : Nat) : Int)), (4, .func (.func 39) #[.pointer (some ⟨p, 0, none⟩)] #[]), (5, .int .i64 ((b : Nat) : Int)), (6, .int .i64 ((k : Nat) : Int)), (26, .bool (decide (((k : Nat) : Int) < (hp2.length : Int)))), (44, .bool (HeapP.aheadB ac (hp2.getD k 0) (hp2.getD b 0)))]) 27 (.int .i64 ((k : Nat) : Int))) 28 (.int .i64 ((k + 1 : Nat) : Int))) 6 (.int .i64 ((k + 1 : Nat) : Int))) (by kernel_rfl) ?_
            refine op_nil ?_
            refine ⟨_, ?_, k + 1, b, _, updL_self (by kernel_rfl), ?_, ?_, hP, hH, hT, hC, hF, rfl⟩
            · omega
            · first | exact g1.t (by omega) (by omega) (by assumption) | exact g1.f (by omega) (by assumption)
            · omega
        · replace hc9 : (hp2.length : Int) ≤ ((k : Nat) : Int) := (Int.not_lt.1 (of_decide_eq_false hc9))
          refine W_exit ?_
          refine X_hit ?_
          refine W_seq ?_
          refine W_seq ?_
          refine W_fg [(0, .pointer (some ⟨p, 0, none⟩)), (1, .int .i64 ((j : Nat) : Int)), (4, .func (.func 39) #[.pointer (some ⟨p, 0, none⟩)] #[]), (5, .int .i64 ((b : Nat) : Int)), (6, .int .i64 ((k : Nat) : Int)), (26, .bool (decide (((k : Nat) : Int) < (hp2.length : Int))))] (by kernel_rfl) fun ρ => ?_
          have hbb := g1.fin (by omega)
          refine W_region (by kernel_rfl) ?_
          refine seg3 (ρ' := upd (upd (upd (updL ρ [(0, .pointer (some ⟨p, 0, none⟩)), (1, .int .i64 ((j : Nat) : Int)), (4, .func (.func 39) #[.pointer (some ⟨p, 0, none⟩)] #[]), (5, .int .i64 ((b : Nat) : Int)), (6, .int .i64 ((k : Nat) : Int)), (26, .bool (decide (((k : Nat) : Int) < (hp2.length : Int))))]) 46 (.int .i64 ((b : Nat) : Int))) 47 (.int .i64 ((j : Nat) : Int))) 48 (.bool (((b : Nat) : Int) == ((j : Nat) : Int)))) (by kernel_rfl) ?_
          refine op_nil ?_
          refine W_cond (((b : Nat) : Int) == ((j : Nat) : Int)) (by kernel_rfl) (by kernel_rfl) (fun hc16 => ?_) (fun hc16 => ?_)
          · replace hc16 : ((b : Nat) : Int) = ((j : Nat) : Int) := (eq_of_beq hc16)
            refine W_ret ?_
            exact ⟨_, Res_of (v := .tuple #[]) (by kernel_rfl), (by rw [← h3, HeapP.down_stop f2 hp2 j (by omega)]; exact ⟨at2, ⟨hP, hH, hT, hC⟩, hq, hF⟩)⟩
          · replace hc16 : ((b : Nat) : Int) ≠ ((j : Nat) : Int) := (ne_of_beq_false hc16)
            refine W_skip ?_
            refine W_seq ?_
            refine W_region (by kernel_rfl) ?_
            refine seg3 (ρ' := upd (upd (upd (upd (upd (upd (updL ρ [(0, .pointer (some ⟨p, 0, none⟩)), (1, .int .i64 ((j : Nat) : Int)), (4, .func (.func 39) #[.pointer (some ⟨p, 0, none⟩)] #[]), (5, .int .i64 ((b : Nat) : Int)), (6, .int .i64 ((k : Nat) : Int)), (26, .bool (decide (((k : Nat) : Int) < (hp2.length : Int))))]) 46 (.int .i64 ((b : Nat) : Int))) 47 (.int .i64 ((j : Nat) : Int))) 48 (.bool (((b : Nat) : Int) == ((j : Nat) : Int)))) 49 (.pointer (some ⟨p, 0, none⟩))) 50 (.int .i64 ((j : Nat) : Int))) 51 (.int .i64 ((b : Nat) : Int))) (by kernel_rfl) ?_
            refine st (by rfl) (S_call (args := [.pointer (some ⟨p, 0, none⟩), .int .i64 ((j : Nat) : Int), .int .i64 ((b : Nat) : Int)]) (by kernel_rfl) (swap_ok p g cp bat bac n hp2 sp at2 ac j b _ ⟨hP, hH, hT, hC⟩ hq (by omega) (by omega)) ?_)
            rintro v20 w17 ⟨at19, ⟨hP, hH, hT, hC⟩, hq, hT18⟩
            have hF := Tch.trans hF hT18 (fun _ _ e => e) (fun _ _ e => e)
            refine op_nil ?_
            refine W_region (by kernel_rfl) ?_
            refine seg2 (ρ' := upd (upd (upd (upd (upd (upd (upd (upd (upd (updL ρ [(0, .pointer (some ⟨p, 0, none⟩)), (1, .int .i64 ((j : Nat) : Int)), (4, .func (.func 39) #[.pointer (some ⟨p, 0, none⟩)] #[]), (5, .int .i64 ((b : Nat) : Int)), (6, .int .i64 ((k : Nat) : Int)), (26, .bool (decide (((k : Nat) : Int) < (hp2.length : Int))))]) 46 (.int .i64 ((b : Nat) : Int))) 47 (.int .i64 ((j : Nat) : Int))) 48 (.bool (((b : Nat) : Int) == ((j : Nat) : Int)))) 49 (.pointer (some ⟨p, 0, none⟩))) 50 (.int .i64 ((j : Nat) : Int))) 51 (.int .i64 ((b : Nat) : Int))) 52 (v20)) 53 (.int .i64 ((b : Nat) : Int))) 1 (.int .i64 ((b : Nat) : Int))) (by kernel_rfl) ?_
            refine op_nil ?_
            refine ⟨_, ?_, HeapP.swp hp2 j b, at19, b, f2 - 1, _, updL_self (by kernel_rfl), hq, ?_, ?_, ?_, hP, hH, hT, hC, hF, rfl⟩
            · rw [HeapP.swp_length]; have := HeapP.best_cases (lt := HeapP.lt ac) hp2 j; omega
            · rw [HeapP.swp_length]; omega
            · rw [HeapP.swp_length]; have := HeapP.best_cases (lt := HeapP.lt ac) hp2 j; omega
            · rw [← h3, HeapP.down_go f2 hp2 j h2 h1 (by omega), ← hbb]

end Go.Proofs.YthfjceemphhgcaaV
