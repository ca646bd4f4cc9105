/- Walks of functions of the program and of the document's texts: each call returns what the plain function says, and turns nothing that lay. The conditions stand with each theorem. -/
import Derived.Test.YthfjceemphhgcaaProg
import Derived.Test.YthfjceemphhgcaaVx2
import Derived.Test.YthfjceemphhgcaaO3
set_option linter.unusedVariables false
set_option linter.unusedSimpArgs false
namespace Go.Proofs.YthfjceemphhgcaaV
open Go Go.RowKit Go.Proofs

set_option maxRecDepth 100000 in
theorem push_yes (F : Nat → Prop) (p n : Nat) (hp : List Nat) (ac : List Int) (x : Nat) (w : World) (h : Ord F w p n hp ac) (hx : x < n) (hxn : x ∉ hp) : Ret Try.prog 26 [.pointer (some ⟨p, 0, none⟩), .int .i64 ((x : Nat) : Int)] w fun v w' => v = .bool true ∧ ∃ F' hp', Ord F' w' p n hp' ac ∧ hp'.Perm (x :: hp) ∧ Mv F F' w w' := by
  obtain ⟨A, cp, bat, bac, at_, hP, hO, hT, hC, hAF, n6, fp, ft, fc, hF, la, lc, hn, hlt, hat, hac, hfn⟩ := h
  have n2 : p ≠ bat := hP.ne hT (by decide)
  have n3 : p ≠ bac := hP.ne hC (by decide)
  have hm := HeapP.nodup_le n hp hat.nodup hlt
  have hFt : Tch F w w := Tch.refl _ _
  have hax : at_.getD x 0 = -1 := hat.2 x hx hxn
  refine enter Try.func26 rfl rfl ?_
  refine W_seq ?_
  refine W_region (by kernel_rfl) ?_
  refine seg1 (ρ' := upd (ini [.pointer (some ⟨p, 0, none⟩), .int .i64 ((x : Nat) : Int)]) 4 (.bool false)) (by kernel_rfl) ?_
  refine op_nil ?_
  refine W_seq ?_
  refine W_seq ?_
  refine W_region (by kernel_rfl) ?_
  refine seg2 (ρ' := upd (upd (upd (ini [.pointer (some ⟨p, 0, none⟩), .int .i64 ((x : Nat) : Int)]) 4 (.bool false)) 5 (.pointer (some ⟨p, 0, none⟩))) 6 (.int .i64 ((x : Nat) : Int))) (by kernel_rfl) ?_
  refine st (by rfl) (S_call (args := [.pointer (some ⟨p, 0, none⟩), .int .i64 ((x : Nat) : Int)]) (by kernel_rfl) (none_ok p bat n (.slice A hp.length cp) (.slice (some ⟨bac, 0, none⟩) n n) ((x : Nat) : Int) _ hP) ?_)
  rintro _ w1 ⟨rfl, hT2⟩
  have hP := hP.tch0 hT2
  have hT := hT.tch0 hT2
  have hC := hC.tch0 hT2
  have hFt := hFt.then0 hT2
  have hO := hO.tch0 hT2
  refine seg1 (ρ' := upd (upd (upd (upd (upd (ini [.pointer (some ⟨p, 0, none⟩), .int .i64 ((x : Nat) : Int)]) 4 (.bool false)) 5 (.pointer (some ⟨p, 0, none⟩))) 6 (.int .i64 ((x : Nat) : Int))) 7 (.bool (noneB n ((x : Nat) : Int)))) 8 (.bool (noneB n ((x : Nat) : Int)))) (by kernel_rfl) ?_
  cases hb3 : noneB n ((x : Nat) : Int)
  · replace hb3 : 0 ≤ ((x : Nat) : Int) ∧ ((x : Nat) : Int) < (n : Int) := (noneB_f hb3)
    refine seg3 (ρ' := upd (upd (upd (upd (upd (upd (upd (upd (ini [.pointer (some ⟨p, 0, none⟩), .int .i64 ((x : Nat) : Int)]) 4 (.bool false)) 5 (.pointer (some ⟨p, 0, none⟩))) 6 (.int .i64 ((x : Nat) : Int))) 7 (.bool false)) 8 (.bool false)) 9 (.pointer (some ⟨p, 0, none⟩))) 10 (.pointer (some ⟨p, 0, none⟩))) 11 (.pointer (some ⟨p, 1, none⟩))) (by kernel_rfl) ?_
    refine st (by kernel_rfl) (S_val (v := .slice (some ⟨bat, 0, none⟩) n n) (R_load (v := .slice (some ⟨bat, 0, none⟩) n n) (by kernel_rfl) (by kernel_rfl) ((hP.cell 1).trans rfl)) ?_)
    refine seg1 (ρ' := upd (upd (upd (upd (upd (upd (upd (upd (upd (upd (ini [.pointer (some ⟨p, 0, none⟩), .int .i64 ((x : Nat) : Int)]) 4 (.bool false)) 5 (.pointer (some ⟨p, 0, none⟩))) 6 (.int .i64 ((x : Nat) : Int))) 7 (.bool false)) 8 (.bool false)) 9 (.pointer (some ⟨p, 0, none⟩))) 10 (.pointer (some ⟨p, 0, none⟩))) 11 (.pointer (some ⟨p, 1, none⟩))) 12 (.slice (some ⟨bat, 0, none⟩) n n)) 13 (.int .i64 ((x : Nat) : Int))) (by kernel_rfl) ?_
    refine stv (v := .pointer (some ⟨bat, x, none⟩)) (by kernel_rfl) (R_index0 (b := bat) (len := n) (cap := n) (k := .i64) (i := ((x : Nat) : Int)) (e := 3) x (by kernel_rfl) (by kernel_rfl) (by kernel_rfl) (by kernel_rfl) rfl (by first | omega | (simp only [List.length_set, List.length_map]; omega))) ?_
    refine st (by kernel_rfl) (S_val (v := .int .i64 (at_.getD x 0)) (R_load (v := .int .i64 (at_.getD x 0)) (by kernel_rfl) (by kernel_rfl) ((hT.cell _).trans (ints_at .i64 _ (by omega)))) ?_)
    refine seg2 (ρ' := upd (upd (upd (upd (upd (upd (upd (upd (upd (upd (upd (upd (upd (upd (ini [.pointer (some ⟨p, 0, none⟩), .int .i64 ((x : Nat) : Int)]) 4 (.bool false)) 5 (.pointer (some ⟨p, 0, none⟩))) 6 (.int .i64 ((x : Nat) : Int))) 7 (.bool false)) 8 (.bool false)) 9 (.pointer (some ⟨p, 0, none⟩))) 10 (.pointer (some ⟨p, 0, none⟩))) 11 (.pointer (some ⟨p, 1, none⟩))) 12 (.slice (some ⟨bat, 0, none⟩) n n)) 13 (.int .i64 ((x : Nat) : Int))) 14 (.pointer (some ⟨bat, x, none⟩))) 15 (.int .i64 (at_.getD x 0))) 16 (.bool (decide (at_.getD x 0 ≥ 0)))) 17 (.bool (decide (at_.getD x 0 ≥ 0)))) (by kernel_rfl) ?_
    refine op_nil ?_
    refine W_cond (decide (at_.getD x 0 ≥ 0)) (by kernel_rfl) (by kernel_rfl) (fun hc4 => ?_) (fun hc4 => ?_)
    · replace hc4 : 0 ≤ at_.getD x 0 := (of_decide_eq_true hc4)
      exfalso; omega
    · replace hc4 : at_.getD x 0 < 0 := (Int.not_le.1 (of_decide_eq_false hc4))
      refine W_skip ?_
      refine W_seq ?_
      refine W_fg [(0, .pointer (some ⟨p, 0, none⟩)), (1, .int .i64 ((x : Nat) : Int)), (4, .bool false), (17, .bool (decide (at_.getD x 0 ≥ 0)))] (by kernel_rfl) fun ρ => ?_
      refine W_tail 10 (by kernel_rfl) (by kernel_rfl) (by kernel_rfl) fun w5 hT6 hh7 => ?_
      have hP := hP.tch0 hT6
      have hT := hT.tch0 hT6
      have hC := hC.tch0 hT6
      have hFt := hFt.then0 hT6
      have hO := hO.tch0 hT6
      refine qseg3 (ρ' := upd (upd (upd (updL ρ [(0, .pointer (some ⟨p, 0, none⟩)), (1, .int .i64 ((x : Nat) : Int)), (4, .bool false), (17, .bool (decide (at_.getD x 0 ≥ 0)))]) 18 (.pointer (some ⟨p, 0, none⟩))) 19 (.pointer (some ⟨p, 0, none⟩))) 20 (.pointer (some ⟨p, 1, none⟩))) (by kernel_rfl) ?_
      refine q_val (v := .slice (some ⟨bat, 0, none⟩) n n) (by rfl) (R_load (v := .slice (some ⟨bat, 0, none⟩) n n) (by kernel_rfl) (by kernel_rfl) ((hP.cell 1).trans rfl)) ?_
      refine qseg4 (ρ' := upd (upd (upd (upd (upd (upd (upd (upd (updL ρ [(0, .pointer (some ⟨p, 0, none⟩)), (1, .int .i64 ((x : Nat) : Int)), (4, .bool false), (17, .bool (decide (at_.getD x 0 ≥ 0)))]) 18 (.pointer (some ⟨p, 0, none⟩))) 19 (.pointer (some ⟨p, 0, none⟩))) 20 (.pointer (some ⟨p, 1, none⟩))) 21 (.slice (some ⟨bat, 0, none⟩) n n)) 22 (.int .i64 ((x : Nat) : Int))) 23 (.pointer (some ⟨p, 0, none⟩))) 24 (.pointer (some ⟨p, 0, none⟩))) 25 (.pointer (some ⟨p, 0, none⟩))) (by kernel_rfl) ?_
      refine q_val (v := .slice A hp.length cp) (by rfl) (R_load (v := .slice A hp.length cp) (by kernel_rfl) (by kernel_rfl) ((hP.cell 0).trans rfl)) ?_
      refine qseg1 (ρ' := upd (upd (upd (upd (upd (upd (upd (upd (upd (upd (updL ρ [(0, .pointer (some ⟨p, 0, none⟩)), (1, .int .i64 ((x : Nat) : Int)), (4, .bool false), (17, .bool (decide (at_.getD x 0 ≥ 0)))]) 18 (.pointer (some ⟨p, 0, none⟩))) 19 (.pointer (some ⟨p, 0, none⟩))) 20 (.pointer (some ⟨p, 1, none⟩))) 21 (.slice (some ⟨bat, 0, none⟩) n n)) 22 (.int .i64 ((x : Nat) : Int))) 23 (.pointer (some ⟨p, 0, none⟩))) 24 (.pointer (some ⟨p, 0, none⟩))) 25 (.pointer (some ⟨p, 0, none⟩))) 26 (.slice A hp.length cp)) 27 (.int .i64 (hp.length : Int))) (by kernel_rfl) ?_
      refine q_nil ?_
      refine stv (v := .pointer (some ⟨bat, x, none⟩)) (by rfl) (R_index0 (b := bat) (len := n) (cap := n) (k := .i64) (i := ((x : Nat) : Int)) (e := 3) x (by kernel_rfl) (by kernel_rfl) (by kernel_rfl) (by kernel_rfl) rfl (by first | omega | (simp only [List.length_set, List.length_map]; omega))) ?_
      refine st (by rfl) (S_store (b := bat) (j := x) (v := .int .i64 (hp.length : Int)) (by kernel_rfl) (by kernel_rfl) (by kernel_rfl) (by rfl) hT (by rw [ints_length]; first | omega | (simp only [List.length_set, List.length_map]; omega)) fun w8 hT9 hs10 hT' => ?_)
      have hP := hP.tch hT9 (fun e => by have : p = bat := e; omega)
      have hC := hC.tch hT9 (fun e => by have : bac = bat := e; omega)
      have hFt := Tch.trans hFt hT9 (fun _ _ e => e) (fun c hcl e => by cases e; exact ft)
      have hO := hO.tch hT9 (fun c e1 e2 => by cases e2; first | exact (hAF _ e1).1 rfl | exact hO.blk_ne hP (by decide) _ e1 rfl)
      replace hT : Blk w8 (bat) 3 (ints .i64 (at_.set x (hp.length : Int))) := by rw [← ints_set]; exact hT'
      refine op_nil ?_
      refine W_seq ?_
      refine W_fg [(0, .pointer (some ⟨p, 0, none⟩)), (1, .int .i64 ((x : Nat) : Int)), (4, .bool false), (17, .bool (decide (at_.getD x 0 ≥ 0)))] (by kernel_rfl) fun ρ => ?_
      refine W_region (by kernel_rfl) ?_
      refine seg4 (ρ' := upd (upd (upd (upd (updL ρ [(0, .pointer (some ⟨p, 0, none⟩)), (1, .int .i64 ((x : Nat) : Int)), (4, .bool false), (17, .bool (decide (at_.getD x 0 ≥ 0)))]) 29 (.pointer (some ⟨p, 0, none⟩))) 30 (.pointer (some ⟨p, 0, none⟩))) 31 (.pointer (some ⟨p, 0, none⟩))) 32 (.pointer (some ⟨p, 0, none⟩))) (by kernel_rfl) ?_
      refine st (by rfl) (S_val (v := .slice A hp.length cp) (R_load (v := .slice A hp.length cp) (by kernel_rfl) (by kernel_rfl) ((hP.cell 0).trans rfl)) ?_)
      refine seg1 (ρ' := upd (upd (upd (upd (upd (upd (updL ρ [(0, .pointer (some ⟨p, 0, none⟩)), (1, .int .i64 ((x : Nat) : Int)), (4, .bool false), (17, .bool (decide (at_.getD x 0 ≥ 0)))]) 29 (.pointer (some ⟨p, 0, none⟩))) 30 (.pointer (some ⟨p, 0, none⟩))) 31 (.pointer (some ⟨p, 0, none⟩))) 32 (.pointer (some ⟨p, 0, none⟩))) 33 (.slice A hp.length cp)) 34 (.int .i64 ((x : Nat) : Int))) (by kernel_rfl) ?_
      refine st (by rfl) (S_new (v := .slice (some ⟨w8.heap.size, 0, none⟩) 1 1) (ob := .cells #[.int .i64 ((x : Nat) : Int)] 3) (by kernel_rfl) fun w11 hT12 hs13 hB14 => ?_)
      replace hB14 : Blk w11 (w8.heap.size) 3 [.int .i64 ((x : Nat) : Int)] := hB14
      have hP := hP.tch0 hT12
      have hT := hT.tch0 hT12
      have hC := hC.tch0 hT12
      have hFt := hFt.then0 hT12
      have hO := hO.tch0 hT12
      have l1 := hT.lt
      have l2 := hC.lt
      have l3 := hP.lt
      refine st (by rfl) (S_append_at 26 3 (.int .i64 0) 8 (n := hp.length) (m := 1) (v := .slice A hp.length cp) (cells := nats hp) (news := [.int .i64 ((x : Nat) : Int)]) (b := w8.heap.size) (off := 0) (c := 1) (by kernel_rfl) (by rfl) (by kernel_rfl) (by kernel_rfl) (by kernel_rfl) hO (by rfl) (fun k u hk => by rw [Nat.zero_add, hB14.cell]; exact hk) (by simp [oneV]) (by simp only [maxLen]; omega) (by omega) (by omega) fun g2 cp2 sp2 w16 hH hl2 hc1 hc2 hg2 hT15 => ?_)
      have ng : g2 ≠ bat ∧ g2 ≠ bac ∧ p ≠ g2 := by
        rcases hg2 with e | e
        · exact ⟨(hAF _ e).1, (hAF _ e).2.1, fun e2 => hO.blk_ne hP (by decide) _ e e2.symm⟩
        · omega
      have fg : F g2 ∨ w.heap.size ≤ g2 := hg2.imp (fun e => (hAF _ e).2.2) (fun e => by have := hFt.size; omega)
      replace hP := hP.tch hT15 (fun e => hO.blk_ne hP (by decide) _ e rfl)
      replace hT := hT.tch hT15 (fun e => (hAF _ e).1 rfl)
      replace hC := hC.tch hT15 (fun e => (hAF _ e).2.1 rfl)
      replace hFt := Tch.trans hFt hT15 (fun _ _ e => e) (fun c _ e => (hAF c e).2.2)
      replace hH : Blk w16 g2 3 (nats (hp ++ [x]) ++ sp2) := by rw [nats_append]; exact hH
      have hll : (hp ++ [x]).length = hp.length + 1 := by simp
      rw [show hp.length + 1 = (hp ++ [x]).length from hll.symm]
      have hq := HeapP.Pur.push (p := p) (g := g2) (g' := g2) (bac := bac) (ac := ac) ⟨ng.2.2, n2, n3, ng.1, ng.2.1, n6⟩ la lc hn hlt hat hx hxn
      clear hO
      have hn1 := ng.2.2
      refine seg2 (ρ' := upd (upd (upd (upd (upd (upd (upd (upd (upd (upd (updL ρ [(0, .pointer (some ⟨p, 0, none⟩)), (1, .int .i64 ((x : Nat) : Int)), (4, .bool false), (17, .bool (decide (at_.getD x 0 ≥ 0)))]) 29 (.pointer (some ⟨p, 0, none⟩))) 30 (.pointer (some ⟨p, 0, none⟩))) 31 (.pointer (some ⟨p, 0, none⟩))) 32 (.pointer (some ⟨p, 0, none⟩))) 33 (.slice A hp.length cp)) 34 (.int .i64 ((x : Nat) : Int))) 35 (.slice (some ⟨w8.heap.size, 0, none⟩) 1 1)) 36 (.slice (some ⟨g2, 0, none⟩) ((hp ++ [x]).length) cp2)) 37 (.pointer (some ⟨p, 0, none⟩))) 38 (.pointer (some ⟨p, 0, none⟩))) (by kernel_rfl) ?_
      refine st (by rfl) (S_store (b := p) (j := 0) (v := .slice (some ⟨g2, 0, none⟩) ((hp ++ [x]).length) cp2) (by kernel_rfl) (by kernel_rfl) (by kernel_rfl) (by rfl) hP (by simp) fun w18 hT19 hs20 hP' => ?_)
      have hT := hT.tch hT19 (fun e => by have : bat = p := e; omega)
      have hC := hC.tch hT19 (fun e => by have : bac = p := e; omega)
      have hFt := Tch.trans hFt hT19 (fun _ _ e => e) (fun c hcl e => by cases e; exact fp)
      have hH := hH.tch hT19 (fun e => by have : g2 = p := e; omega)
      replace hP : Blk w18 p 53 [.slice (some ⟨g2, 0, none⟩) ((hp ++ [x]).length) cp2, .slice (some ⟨bat, 0, none⟩) n n, .slice (some ⟨bac, 0, none⟩) n n] := hP'
      refine op_nil ?_
      refine W_seq ?_
      refine W_fg [(0, .pointer (some ⟨p, 0, none⟩)), (1, .int .i64 ((x : Nat) : Int)), (4, .bool false), (17, .bool (decide (at_.getD x 0 ≥ 0)))] (by kernel_rfl) fun ρ => ?_
      refine W_region (by kernel_rfl) ?_
      refine seg4 (ρ' := upd (upd (upd (upd (updL ρ [(0, .pointer (some ⟨p, 0, none⟩)), (1, .int .i64 ((x : Nat) : Int)), (4, .bool false), (17, .bool (decide (at_.getD x 0 ≥ 0)))]) 39 (.pointer (some ⟨p, 0, none⟩))) 40 (.pointer (some ⟨p, 0, none⟩))) 41 (.pointer (some ⟨p, 0, none⟩))) 42 (.pointer (some ⟨p, 1, none⟩))) (by kernel_rfl) ?_
      refine st (by rfl) (S_val (v := .slice (some ⟨bat, 0, none⟩) n n) (R_load (v := .slice (some ⟨bat, 0, none⟩) n n) (by kernel_rfl) (by kernel_rfl) ((hP.cell 1).trans rfl)) ?_)
      refine seg1 (ρ' := upd (upd (upd (upd (upd (upd (updL ρ [(0, .pointer (some ⟨p, 0, none⟩)), (1, .int .i64 ((x : Nat) : Int)), (4, .bool false), (17, .bool (decide (at_.getD x 0 ≥ 0)))]) 39 (.pointer (some ⟨p, 0, none⟩))) 40 (.pointer (some ⟨p, 0, none⟩))) 41 (.pointer (some ⟨p, 0, none⟩))) 42 (.pointer (some ⟨p, 1, none⟩))) 43 (.slice (some ⟨bat, 0, none⟩) n n)) 44 (.int .i64 ((x : Nat) : Int))) (by kernel_rfl) ?_
      refine stv (v := .pointer (some ⟨bat, x, none⟩)) (by rfl) (R_index0 (b := bat) (len := n) (cap := n) (k := .i64) (i := ((x : Nat) : Int)) (e := 3) x (by kernel_rfl) (by kernel_rfl) (by kernel_rfl) (by kernel_rfl) rfl (by first | omega | (simp only [List.length_set, List.length_map]; omega))) ?_
      refine st (by rfl) (S_val (v := .int .i64 ((hp.length : Nat) : Int)) (R_load (v := .int .i64 ((hp.length : Nat) : Int)) (by kernel_rfl) (by kernel_rfl) ((hT.cell _).trans (by rw [ints_at .i64 (at_.set x (hp.length : Int)) (i := x) (by rw [List.length_set]; omega), HeapP.setD at_ x x _ (by omega), if_pos rfl]))) ?_)
      refine st (by rfl) (S_call (args := [.pointer (some ⟨p, 0, none⟩), .int .i64 ((hp.length : Nat) : Int)]) (by kernel_rfl) (up_ok p g2 cp2 bat bac n (hp ++ [x]) sp2 (at_.set x (hp.length : Int)) ac hp.length hp.length _ ⟨hP, hH, hT, hC⟩ hq (by omega) (Nat.le_refl _)) ?_)
      rintro v24 w21 ⟨at23, ⟨hP, hH, hT, hC⟩, hq, hT22⟩
      have hFt := Tch.trans hFt hT22 (fun _ _ e => e) (fun c hcl e => foot_F fp fg ft fc c hcl e)
      refine op_nil ?_
      refine W_seq ?_
      refine W_fg [(0, .pointer (some ⟨p, 0, none⟩)), (1, .int .i64 ((x : Nat) : Int)), (4, .bool false), (17, .bool (decide (at_.getD x 0 ≥ 0)))] (by kernel_rfl) fun ρ => ?_
      refine W_region (by kernel_rfl) ?_
      refine seg1 (ρ' := upd (updL ρ [(0, .pointer (some ⟨p, 0, none⟩)), (1, .int .i64 ((x : Nat) : Int)), (4, .bool false), (17, .bool (decide (at_.getD x 0 ≥ 0)))]) 4 (.bool true)) (by kernel_rfl) ?_
      refine op_nil ?_
      refine W_ret ?_
      refine ⟨_, Res_of (v := .bool true) (by kernel_rfl), ?_⟩
      have hpm := HeapP.up_perm (lt := HeapP.lt ac) hp.length (hp ++ [x]) hp.length (by omega)
      refine ⟨rfl, fun b => F b ∨ b = g2, _, Ord.of_obj ⟨hP, hH, hT, hC⟩ hq ?_ hc2 (.inl fp) (.inr rfl) (.inl ft) (.inl fc) ?_ hac (HeapP.push_fine (HeapP.lt_strict ac) hfn x), hpm.trans (List.perm_append_singleton _ _), hFt, ?_⟩
      · rw [← hl2]; simp only [List.length_append, nats_length, hpm.length_eq]; simp
      · rintro b (hb | rfl)
        · exact Nat.lt_of_lt_of_le (hF b hb) hFt.size
        · exact hH.lt
      · rintro b (hb | rfl)
        · exact .inl hb
        · exact fg
  · replace hb3 : ((x : Nat) : Int) < 0 ∨ (n : Int) ≤ ((x : Nat) : Int) := (noneB_t hb3)
    exfalso; omega

set_option maxRecDepth 100000 in
theorem push_no (F : Nat → Prop) (p n : Nat) (hp : List Nat) (ac : List Int) (v : Int) (w : World) (h : Ord F w p n hp ac) (hx : (v < 0 ∨ (n : Int) ≤ v) ∨ v.toNat ∈ hp) : Ret Try.prog 26 [.pointer (some ⟨p, 0, none⟩), .int .i64 v] w fun x w' => x = .bool false ∧ Tch N0 w w' := by
  obtain ⟨A, cp, bat, bac, at_, hP, hO, hT, hC, hAF, n6, fp, ft, fc, hF, la, lc, hn, hlt, hat, hac, hfn⟩ := h
  have n2 : p ≠ bat := hP.ne hT (by decide)
  have n3 : p ≠ bac := hP.ne hC (by decide)
  have hm := HeapP.nodup_le n hp hat.nodup hlt
  refine enter Try.func26 rfl rfl ?_
  refine W_seq ?_
  refine W_region (by kernel_rfl) ?_
  refine seg1 (ρ' := upd (ini [.pointer (some ⟨p, 0, none⟩), .int .i64 v]) 4 (.bool false)) (by kernel_rfl) ?_
  refine op_nil ?_
  refine W_seq ?_
  refine W_seq ?_
  refine W_region (by kernel_rfl) ?_
  refine seg2 (ρ' := upd (upd (upd (ini [.pointer (some ⟨p, 0, none⟩), .int .i64 v]) 4 (.bool false)) 5 (.pointer (some ⟨p, 0, none⟩))) 6 (.int .i64 v)) (by kernel_rfl) ?_
  refine st (by rfl) (S_call (args := [.pointer (some ⟨p, 0, none⟩), .int .i64 v]) (by kernel_rfl) (none_ok p bat n (.slice A hp.length cp) (.slice (some ⟨bac, 0, none⟩) n n) v _ hP) ?_)
  rintro _ w1 ⟨rfl, hT2⟩
  have hT0 := hT2
  have hP := hP.tch0 hT2
  have hT := hT.tch0 hT2
  have hC := hC.tch0 hT2
  refine seg1 (ρ' := upd (upd (upd (upd (upd (ini [.pointer (some ⟨p, 0, none⟩), .int .i64 v]) 4 (.bool false)) 5 (.pointer (some ⟨p, 0, none⟩))) 6 (.int .i64 v)) 7 (.bool (noneB n v))) 8 (.bool (noneB n v))) (by kernel_rfl) ?_
  cases hb3 : noneB n v
  · replace hb3 : 0 ≤ v ∧ v < (n : Int) := (noneB_f hb3)
    refine seg3 (ρ' := upd (upd (upd (upd (upd (upd (upd (upd (ini [.pointer (some ⟨p, 0, none⟩), .int .i64 v]) 4 (.bool false)) 5 (.pointer (some ⟨p, 0, none⟩))) 6 (.int .i64 v)) 7 (.bool false)) 8 (.bool false)) 9 (.pointer (some ⟨p, 0, none⟩))) 10 (.pointer (some ⟨p, 0, none⟩))) 11 (.pointer (some ⟨p, 1, none⟩))) (by kernel_rfl) ?_
    refine st (by kernel_rfl) (S_val (v := .slice (some ⟨bat, 0, none⟩) n n) (R_load (v := .slice (some ⟨bat, 0, none⟩) n n) (by kernel_rfl) (by kernel_rfl) ((hP.cell 1).trans rfl)) ?_)
    refine seg1 (ρ' := upd (upd (upd (upd (upd (upd (upd (upd (upd (upd (ini [.pointer (some ⟨p, 0, none⟩), .int .i64 v]) 4 (.bool false)) 5 (.pointer (some ⟨p, 0, none⟩))) 6 (.int .i64 v)) 7 (.bool false)) 8 (.bool false)) 9 (.pointer (some ⟨p, 0, none⟩))) 10 (.pointer (some ⟨p, 0, none⟩))) 11 (.pointer (some ⟨p, 1, none⟩))) 12 (.slice (some ⟨bat, 0, none⟩) n n)) 13 (.int .i64 v)) (by kernel_rfl) ?_
    refine stv (v := .pointer (some ⟨bat, v.toNat, none⟩)) (by kernel_rfl) (R_index0 (b := bat) (len := n) (cap := n) (k := .i64) (i := v) (e := 3) v.toNat (by kernel_rfl) (by kernel_rfl) (by kernel_rfl) (by kernel_rfl) (by omega) (by first | omega | (simp only [List.length_set, List.length_map]; omega))) ?_
    refine st (by kernel_rfl) (S_val (v := .int .i64 (at_.getD v.toNat 0)) (R_load (v := .int .i64 (at_.getD v.toNat 0)) (by kernel_rfl) (by kernel_rfl) ((hT.cell _).trans (ints_at .i64 _ (by first | omega | (simp only [List.length_set, List.length_map]; omega))))) ?_)
    refine seg2 (ρ' := upd (upd (upd (upd (upd (upd (upd (upd (upd (upd (upd (upd (upd (upd (ini [.pointer (some ⟨p, 0, none⟩), .int .i64 v]) 4 (.bool false)) 5 (.pointer (some ⟨p, 0, none⟩))) 6 (.int .i64 v)) 7 (.bool false)) 8 (.bool false)) 9 (.pointer (some ⟨p, 0, none⟩))) 10 (.pointer (some ⟨p, 0, none⟩))) 11 (.pointer (some ⟨p, 1, none⟩))) 12 (.slice (some ⟨bat, 0, none⟩) n n)) 13 (.int .i64 v)) 14 (.pointer (some ⟨bat, v.toNat, none⟩))) 15 (.int .i64 (at_.getD v.toNat 0))) 16 (.bool (decide (at_.getD v.toNat 0 ≥ 0)))) 17 (.bool (decide (at_.getD v.toNat 0 ≥ 0)))) (by kernel_rfl) ?_
    refine op_nil ?_
    refine W_cond (decide (at_.getD v.toNat 0 ≥ 0)) (by kernel_rfl) (by kernel_rfl) (fun hc4 => ?_) (fun hc4 => ?_)
    · replace hc4 : 0 ≤ at_.getD v.toNat 0 := (of_decide_eq_true hc4)
      refine W_seq ?_
      refine W_fg [(0, .pointer (some ⟨p, 0, none⟩)), (1, .int .i64 v), (4, .bool false), (17, .bool (decide (at_.getD v.toNat 0 ≥ 0)))] (by kernel_rfl) fun ρ => ?_
      refine W_region (by kernel_rfl) ?_
      refine seg1 (ρ' := upd (updL ρ [(0, .pointer (some ⟨p, 0, none⟩)), (1, .int .i64 v), (4, .bool false), (17, .bool (decide (at_.getD v.toNat 0 ≥ 0)))]) 4 (.bool false)) (by kernel_rfl) ?_
      refine op_nil ?_
      refine W_ret ?_
      exact ⟨_, Res_of (v := .bool false) (by kernel_rfl), ⟨rfl, hT0⟩⟩
    · replace hc4 : at_.getD v.toNat 0 < 0 := (Int.not_le.1 (of_decide_eq_false hc4))
      exfalso; have := (HeapP.at_pos hat (x := v.toNat) (by omega)).2 (hx.resolve_left (by omega)); omega
  · replace hb3 : v < 0 ∨ (n : Int) ≤ v := (noneB_t hb3)
    refine seg9 (ρ' := upd (upd (upd (upd (upd (upd (upd (upd (upd (upd (upd (upd (upd (upd (ini [.pointer (some ⟨p, 0, none⟩), .int .i64 v]) 4 (.bool false)) 5 (.pointer (some ⟨p, 0, none⟩))) 6 (.int .i64 v)) 7 (.bool true)) 8 (.bool true)) 9 (undef)) 10 (undef)) 11 (undef)) 12 (undef)) 13 (undef)) 14 (undef)) 15 (undef)) 16 (undef)) 17 (.bool true)) (by kernel_rfl) ?_
    refine op_nil ?_
    refine W_cond true (by kernel_rfl) (by kernel_rfl) (fun _ => ?_) (fun h => nomatch h)
    refine W_seq ?_
    refine W_fg [(0, .pointer (some ⟨p, 0, none⟩)), (1, .int .i64 v), (4, .bool false), (17, .bool true)] (by kernel_rfl) fun ρ => ?_
    refine W_region (by kernel_rfl) ?_
    refine seg1 (ρ' := upd (updL ρ [(0, .pointer (some ⟨p, 0, none⟩)), (1, .int .i64 v), (4, .bool false), (17, .bool true)]) 4 (.bool false)) (by kernel_rfl) ?_
    refine op_nil ?_
    refine W_ret ?_
    exact ⟨_, Res_of (v := .bool false) (by kernel_rfl), ⟨rfl, hT0⟩⟩

set_option maxRecDepth 100000 in
theorem push_nil (v : Int) (w : World) : Ret Try.prog 26 [.pointer none, .int .i64 v] w fun x w' => x = .bool false ∧ Tch N0 w w' := by
  refine enter Try.func26 rfl rfl ?_
  refine W_seq ?_
  refine W_region (by kernel_rfl) ?_
  refine seg1 (ρ' := upd (ini [.pointer none, .int .i64 v]) 4 (.bool false)) (by kernel_rfl) ?_
  refine op_nil ?_
  refine W_seq ?_
  refine W_seq ?_
  refine W_region (by kernel_rfl) ?_
  refine seg2 (ρ' := upd (upd (upd (ini [.pointer none, .int .i64 v]) 4 (.bool false)) 5 (.pointer none)) 6 (.int .i64 v)) (by kernel_rfl) ?_
  refine st (by rfl) (S_call (args := [.pointer none, .int .i64 v]) (by kernel_rfl) (none_nil v _) ?_)
  rintro _ w1 ⟨rfl, hT2⟩
  have hT0 := hT2
  refine seg10 (ρ' := upd (upd (upd (upd (upd (upd (upd (upd (upd (upd (upd (upd (upd (upd (ini [.pointer none, .int .i64 v]) 4 (.bool false)) 5 (.pointer none)) 6 (.int .i64 v)) 7 (.bool true)) 8 (.bool true)) 9 (undef)) 10 (undef)) 11 (undef)) 12 (undef)) 13 (undef)) 14 (undef)) 15 (undef)) 16 (undef)) 17 (.bool true)) (by kernel_rfl) ?_
  refine op_nil ?_
  refine W_cond true (by kernel_rfl) (by kernel_rfl) (fun _ => ?_) (fun h => nomatch h)
  refine W_seq ?_
  refine W_fg [(0, .pointer none), (1, .int .i64 v), (4, .bool false), (17, .bool true)] (by kernel_rfl) fun ρ => ?_
  refine W_region (by kernel_rfl) ?_
  refine seg1 (ρ' := upd (updL ρ [(0, .pointer none), (1, .int .i64 v), (4, .bool false), (17, .bool true)]) 4 (.bool false)) (by kernel_rfl) ?_
  refine op_nil ?_
  refine W_ret ?_
  exact ⟨_, Res_of (v := .bool false) (by kernel_rfl), ⟨rfl, hT0⟩⟩

end Go.Proofs.YthfjceemphhgcaaV
