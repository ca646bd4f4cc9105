/- Walks of functions of the program and of the document's texts. The conditions stand with each theorem. -/
import Derived.Test.YtlbadnpgmkobdaaProg
import Derived.Test.YtlbadnpgmkobdaaTermO
set_option linter.unusedVariables false
set_option linter.unusedSimpArgs false
namespace Go.Proofs.YtlbadnpgmkobdaaV
open Go Go.RowKit Go.Proofs

set_option maxRecDepth 100000 in
theorem make_ok (F : Nat → Prop) (p : Nat) (most : Int) (N : List Nd) (W : Value → Value → Prop) (n : Nd) (w : World) (hL : TLow F w p most N W) (hI : TI N most) (hwf : nwf n) : Ret Try.prog 57 [.pointer (some ⟨p, 0, none⟩), .agg #[.int .i64 (nO n), .int .i64 (nW n), .int .i64 (nA n), .int .i64 (nB n), .int .i64 (nC n), .int .u64 (nV n)]] w fun v w' => v = .tuple #[.int .i64 (mk N most n).1, .int .i64 (mk N most n).2.1] ∧ ∃ F', TLow F' w' p most (mk N most n).2.2 W ∧ Mv F F' w w' := by
  obtain ⟨A, cp, ma, mw, hP, hO, hM, hW, hne, fp, fa, fw, fA, hlt⟩ := id hL
  have hMv := Mv.refl F w
  have hF0 := hlt
  have hlen := hI.len
  have hmost := hI.most
  refine enter Try.func57 rfl rfl ?_
  refine W_seq ?_
  refine W_region (by kernel_rfl) ?_
  have hlt_ := hL.lt
  have hz5 := hMv.1.size
  have lt6 := hP.lt
  refine st (by rfl) (S_new (v := .pointer (some ⟨w.heap.size, 0, none⟩)) (ob := .cells #[.int .i64 (nO n), .int .i64 (nW n), .int .i64 (nA n), .int .i64 (nB n), .int .i64 (nC n), .int .u64 (nV n)] 32) (by kernel_rfl) fun w1 hT2 hs3 hB4 => ?_)
  replace hB4 : Blk w1 (w.heap.size) 32 [.int .i64 (nO n), .int .i64 (nW n), .int .i64 (nA n), .int .i64 (nB n), .int .i64 (nC n), .int .u64 (nV n)] := hB4
  have hL := hL.tch0 hT2
  have hP := hP.tch0 hT2
  have hO := hO.tch0 hT2
  have hM := hM.tch0 hT2
  have hW := hW.tch0 hT2
  have hlt := (fun b hb => Nat.lt_of_lt_of_le (hlt b hb) (hT2).size)
  have hMv := hMv.then0 hT2
  have nF_hB4 : ¬ F (w.heap.size) := fun e => by have := hlt_ _ e; omega
  refine seg2 (ρ' := upd (upd (upd (ini [.pointer (some ⟨p, 0, none⟩), .agg #[.int .i64 (nO n), .int .i64 (nW n), .int .i64 (nA n), .int .i64 (nB n), .int .i64 (nC n), .int .u64 (nV n)]]) 3 (.pointer (some ⟨w.heap.size, 0, none⟩))) 4 (.int .i64 0)) 5 (.int .i64 0)) (by kernel_rfl) ?_
  refine op_nil ?_
  refine W_seq ?_
  refine W_seq ?_
  refine W_draw (fun w' => Blk w' p 74 [.slice A N.length cp, .map (some ma), .map (some mw), .int .i64 most] ∧ Blk w' (w.heap.size) 32 [.int .i64 (nO n), .int .i64 (nW n), .int .i64 (nA n), .int .i64 (nB n), .int .i64 (nC n), .int .u64 (nV n)]) (by kernel_rfl) (by kernel_rfl) (by kernel_rfl) fun w7 hT8 hh9 => ?_
  have hL := hL.tch0 hT8
  have hP := hP.tch0 hT8
  have hO := hO.tch0 hT8
  have hM := hM.tch0 hT8
  have hW := hW.tch0 hT8
  have hlt := (fun b hb => Nat.lt_of_lt_of_le (hlt b hb) (hT8).size)
  have hMv := hMv.then0 hT8
  have hB4 := hB4.tch0 hT8
  refine d_takes [0, 1, 2] (listed' := #[true, true, true, false, false, false, false, false, false, false, false]) (ρ' := upd (upd (upd (upd (upd (upd (ini [.pointer (some ⟨p, 0, none⟩), .agg #[.int .i64 (nO n), .int .i64 (nW n), .int .i64 (nA n), .int .i64 (nB n), .int .i64 (nC n), .int .u64 (nV n)]]) 3 (.pointer (some ⟨w.heap.size, 0, none⟩))) 4 (.int .i64 0)) 5 (.int .i64 0)) 9 (.pointer (some ⟨p, 0, none⟩))) 10 (.pointer (some ⟨p, 0, none⟩))) 11 (.pointer (some ⟨p, 1, none⟩))) ⟨hP, hB4⟩ (by kernel_rfl) ?_
  refine d_val (v := .map (some ma)) 3 (by rfl) (by kernel_rfl) (by kernel_rfl) (by kernel_rfl) (fun w' hs => by obtain ⟨hP, hB4⟩ := hs; exact R_load (v := .map (some ma)) (by kernel_rfl) (by kernel_rfl) ((hP.cell 1).trans rfl)) ⟨hP, hB4⟩ ?_
  refine d_val (v := .agg #[.int .i64 (nO n), .int .i64 (nW n), .int .i64 (nA n), .int .i64 (nB n), .int .i64 (nC n), .int .u64 (nV n)]) 4 (by rfl) (by kernel_rfl) (by kernel_rfl) (by kernel_rfl) (fun w' hs => by obtain ⟨hP, hB4⟩ := hs; exact R_loadA [.int .i64 (nO n), .int .i64 (nW n), .int .i64 (nA n), .int .i64 (nB n), .int .i64 (nC n), .int .u64 (nV n)] (by kernel_rfl) (by kernel_rfl) (by kernel_rfl) (fun k u hk => by rw [hB4.cell]; exact get_part _ 0 _ k u rfl hk)) ⟨hP, hB4⟩ ?_
  refine d_one 5 (by kernel_rfl) (by rfl) (by kernel_rfl) (S_lookT true n hI.nd hwf (by kernel_rfl) (by kernel_rfl) hM fun i10 ok11 h112 h213 => ?_)
  refine ⟨⟨hP, hB4⟩, ?_⟩
  refine d_takes [6, 7, 8, 9, 10] (listed' := #[true, true, true, true, true, true, true, true, true, true, true]) (ρ' := upd (upd (upd (upd (upd (upd (upd (upd (upd (upd (upd (upd (upd (upd (ini [.pointer (some ⟨p, 0, none⟩), .agg #[.int .i64 (nO n), .int .i64 (nW n), .int .i64 (nA n), .int .i64 (nB n), .int .i64 (nC n), .int .u64 (nV n)]]) 3 (.pointer (some ⟨w.heap.size, 0, none⟩))) 4 (.int .i64 0)) 5 (.int .i64 0)) 9 (.pointer (some ⟨p, 0, none⟩))) 10 (.pointer (some ⟨p, 0, none⟩))) 11 (.pointer (some ⟨p, 1, none⟩))) 12 (.map (some ma))) 13 (.agg #[.int .i64 (nO n), .int .i64 (nW n), .int .i64 (nA n), .int .i64 (nB n), .int .i64 (nC n), .int .u64 (nV n)])) 14 (.tuple #[.int .i64 ((i10 : Nat) : Int), .bool ok11])) 8 (.tuple #[.int .i64 ((i10 : Nat) : Int), .bool ok11])) 15 (.int .i64 ((i10 : Nat) : Int))) 16 (.bool ok11)) 6 (.int .i64 ((i10 : Nat) : Int))) 7 (.bool ok11)) ⟨hP, hB4⟩ (by kernel_rfl) ?_
  refine d_done (by kernel_rfl) ?_
  refine W_seq ?_
  refine W_fg [(0, .pointer (some ⟨p, 0, none⟩)), (1, .agg #[.int .i64 (nO n), .int .i64 (nW n), .int .i64 (nA n), .int .i64 (nB n), .int .i64 (nC n), .int .u64 (nV n)]), (3, .pointer (some ⟨w.heap.size, 0, none⟩)), (4, .int .i64 0), (5, .int .i64 0), (6, .int .i64 ((i10 : Nat) : Int)), (7, .bool ok11)] (by kernel_rfl) fun ρ => ?_
  refine W_region (by kernel_rfl) ?_
  refine seg1 (ρ' := upd (updL ρ [(0, .pointer (some ⟨p, 0, none⟩)), (1, .agg #[.int .i64 (nO n), .int .i64 (nW n), .int .i64 (nA n), .int .i64 (nB n), .int .i64 (nC n), .int .u64 (nV n)]), (3, .pointer (some ⟨w.heap.size, 0, none⟩)), (4, .int .i64 0), (5, .int .i64 0), (6, .int .i64 ((i10 : Nat) : Int)), (7, .bool ok11)]) 17 (.bool ok11)) (by kernel_rfl) ?_
  refine op_nil ?_
  refine W_cond (ok11) (by kernel_rfl) (by kernel_rfl) (fun hc14 => ?_) (fun hc14 => ?_)
  · replace hc14 : ok11 = true := (hc14)
    refine W_seq ?_
    refine W_region (by kernel_rfl) ?_
    refine seg3 (ρ' := upd (upd (upd (upd (updL ρ [(0, .pointer (some ⟨p, 0, none⟩)), (1, .agg #[.int .i64 (nO n), .int .i64 (nW n), .int .i64 (nA n), .int .i64 (nB n), .int .i64 (nC n), .int .u64 (nV n)]), (3, .pointer (some ⟨w.heap.size, 0, none⟩)), (4, .int .i64 0), (5, .int .i64 0), (6, .int .i64 ((i10 : Nat) : Int)), (7, .bool ok11)]) 17 (.bool ok11)) 18 (.int .i64 ((i10 : Nat) : Int))) 4 (.int .i64 ((i10 : Nat) : Int))) 5 (.int .i64 0)) (by kernel_rfl) ?_
    refine op_nil ?_
    refine W_ret ?_
    exact ⟨_, Res_of (v := .tuple #[.int .i64 ((i10 : Nat) : Int), .int .i64 0]) (by kernel_rfl), (by rw [mk_in hI.nd (h112 (by assumption))]; exact ⟨rfl, F, hL, hMv⟩)⟩
  · replace hc14 : ok11 = false := (hc14)
    refine W_skip ?_
    refine W_seq ?_
    refine W_seq ?_
    refine W_draw (fun w' => Blk w' p 74 [.slice A N.length cp, .map (some ma), .map (some mw), .int .i64 most] ∧ Blk w' (w.heap.size) 32 [.int .i64 (nO n), .int .i64 (nW n), .int .i64 (nA n), .int .i64 (nB n), .int .i64 (nC n), .int .u64 (nV n)]) (by kernel_rfl) (by kernel_rfl) (by kernel_rfl) fun w15 hT16 hh17 => ?_
    have hL := hL.tch0 hT16
    have hP := hP.tch0 hT16
    have hO := hO.tch0 hT16
    have hM := hM.tch0 hT16
    have hW := hW.tch0 hT16
    have hlt := (fun b hb => Nat.lt_of_lt_of_le (hlt b hb) (hT16).size)
    have hMv := hMv.then0 hT16
    have hB4 := hB4.tch0 hT16
    refine d_takes [0, 5, 1, 6, 2, 7] (listed' := #[true, true, true, false, false, true, true, true, false, false]) (ρ' := upd (upd (upd (upd (upd (upd (upd (updL ρ [(0, .pointer (some ⟨p, 0, none⟩)), (1, .agg #[.int .i64 (nO n), .int .i64 (nW n), .int .i64 (nA n), .int .i64 (nB n), .int .i64 (nC n), .int .u64 (nV n)]), (3, .pointer (some ⟨w.heap.size, 0, none⟩)), (4, .int .i64 0), (5, .int .i64 0), (6, .int .i64 ((i10 : Nat) : Int)), (7, .bool ok11)]) 17 (.bool ok11)) 19 (.pointer (some ⟨p, 0, none⟩))) 24 (.pointer (some ⟨p, 0, none⟩))) 20 (.pointer (some ⟨p, 0, none⟩))) 25 (.pointer (some ⟨p, 0, none⟩))) 21 (.pointer (some ⟨p, 0, none⟩))) 26 (.pointer (some ⟨p, 3, none⟩))) ⟨hP, hB4⟩ (by kernel_rfl) ?_
    refine d_val (v := .slice A N.length cp) 3 (by rfl) (by kernel_rfl) (by kernel_rfl) (by kernel_rfl) (fun w' hs => by obtain ⟨hP, hB4⟩ := hs; exact R_load (v := .slice A N.length cp) (by kernel_rfl) (by kernel_rfl) ((hP.cell 0).trans rfl)) ⟨hP, hB4⟩ ?_
    refine d_takes [4] (listed' := #[true, true, true, true, true, true, true, true, false, false]) (ρ' := upd (upd (upd (upd (upd (upd (upd (upd (upd (updL ρ [(0, .pointer (some ⟨p, 0, none⟩)), (1, .agg #[.int .i64 (nO n), .int .i64 (nW n), .int .i64 (nA n), .int .i64 (nB n), .int .i64 (nC n), .int .u64 (nV n)]), (3, .pointer (some ⟨w.heap.size, 0, none⟩)), (4, .int .i64 0), (5, .int .i64 0), (6, .int .i64 ((i10 : Nat) : Int)), (7, .bool ok11)]) 17 (.bool ok11)) 19 (.pointer (some ⟨p, 0, none⟩))) 24 (.pointer (some ⟨p, 0, none⟩))) 20 (.pointer (some ⟨p, 0, none⟩))) 25 (.pointer (some ⟨p, 0, none⟩))) 21 (.pointer (some ⟨p, 0, none⟩))) 26 (.pointer (some ⟨p, 3, none⟩))) 22 (.slice A N.length cp)) 23 (.int .i64 (N.length : Int))) ⟨hP, hB4⟩ (by kernel_rfl) ?_
    refine d_val (v := .int .i64 most) 8 (by rfl) (by kernel_rfl) (by kernel_rfl) (by kernel_rfl) (fun w' hs => by obtain ⟨hP, hB4⟩ := hs; exact R_load (v := .int .i64 most) (by kernel_rfl) (by kernel_rfl) ((hP.cell 3).trans rfl)) ⟨hP, hB4⟩ ?_
    refine d_takes [9] (listed' := #[true, true, true, true, true, true, true, true, true, true]) (ρ' := upd (upd (upd (upd (upd (upd (upd (upd (upd (upd (upd (updL ρ [(0, .pointer (some ⟨p, 0, none⟩)), (1, .agg #[.int .i64 (nO n), .int .i64 (nW n), .int .i64 (nA n), .int .i64 (nB n), .int .i64 (nC n), .int .u64 (nV n)]), (3, .pointer (some ⟨w.heap.size, 0, none⟩)), (4, .int .i64 0), (5, .int .i64 0), (6, .int .i64 ((i10 : Nat) : Int)), (7, .bool ok11)]) 17 (.bool ok11)) 19 (.pointer (some ⟨p, 0, none⟩))) 24 (.pointer (some ⟨p, 0, none⟩))) 20 (.pointer (some ⟨p, 0, none⟩))) 25 (.pointer (some ⟨p, 0, none⟩))) 21 (.pointer (some ⟨p, 0, none⟩))) 26 (.pointer (some ⟨p, 3, none⟩))) 22 (.slice A N.length cp)) 23 (.int .i64 (N.length : Int))) 27 (.int .i64 most)) 28 (.bool (decide ((N.length : Int) ≥ most)))) ⟨hP, hB4⟩ (by kernel_rfl) ?_
    refine d_done (by kernel_rfl) ?_
    refine W_cond (decide ((N.length : Int) ≥ most)) (by kernel_rfl) (by kernel_rfl) (fun hc18 => ?_) (fun hc18 => ?_)
    · replace hc18 : most ≤ (N.length : Int) := (of_decide_eq_true hc18)
      refine W_seq ?_
      refine W_fg [(0, .pointer (some ⟨p, 0, none⟩)), (1, .agg #[.int .i64 (nO n), .int .i64 (nW n), .int .i64 (nA n), .int .i64 (nB n), .int .i64 (nC n), .int .u64 (nV n)]), (3, .pointer (some ⟨w.heap.size, 0, none⟩)), (4, .int .i64 0), (5, .int .i64 0), (6, .int .i64 ((i10 : Nat) : Int)), (7, .bool ok11), (17, .bool ok11), (28, .bool (decide ((N.length : Int) ≥ most)))] (by kernel_rfl) fun ρ => ?_
      refine W_region (by kernel_rfl) ?_
      refine seg2 (ρ' := upd (upd (updL ρ [(0, .pointer (some ⟨p, 0, none⟩)), (1, .agg #[.int .i64 (nO n), .int .i64 (nW n), .int .i64 (nA n), .int .i64 (nB n), .int .i64 (nC n), .int .u64 (nV n)]), (3, .pointer (some ⟨w.heap.size, 0, none⟩)), (4, .int .i64 0), (5, .int .i64 0), (6, .int .i64 ((i10 : Nat) : Int)), (7, .bool ok11), (17, .bool ok11), (28, .bool (decide ((N.length : Int) ≥ most)))]) 4 (.int .i64 0)) 5 (.int .i64 8)) (by kernel_rfl) ?_
      refine op_nil ?_
      refine W_ret ?_
      exact ⟨_, Res_of (v := .tuple #[.int .i64 0, .int .i64 8]) (by kernel_rfl), (by rw [mk_full (h213 (by assumption)) (by omega)]; exact ⟨rfl, F, hL, hMv⟩)⟩
    · replace hc18 : (N.length : Int) < most := (Int.not_le.1 (of_decide_eq_false hc18))
      refine W_skip ?_
      refine W_seq ?_
      refine W_fg [(0, .pointer (some ⟨p, 0, none⟩)), (1, .agg #[.int .i64 (nO n), .int .i64 (nW n), .int .i64 (nA n), .int .i64 (nB n), .int .i64 (nC n), .int .u64 (nV n)]), (3, .pointer (some ⟨w.heap.size, 0, none⟩)), (4, .int .i64 0), (5, .int .i64 0), (6, .int .i64 ((i10 : Nat) : Int)), (7, .bool ok11), (17, .bool ok11), (28, .bool (decide ((N.length : Int) ≥ most)))] (by kernel_rfl) fun ρ => ?_
      refine W_drawT (fun w' => Blk w' p 74 [.slice A N.length cp, .map (some ma), .map (some mw), .int .i64 most] ∧ Blk w' (w.heap.size) 32 [.int .i64 (nO n), .int .i64 (nW n), .int .i64 (nA n), .int .i64 (nB n), .int .i64 (nC n), .int .u64 (nV n)]) 10 (by kernel_rfl) (by kernel_rfl) (by kernel_rfl) fun w19 hT20 hh21 => ?_
      have hL := hL.tch0 hT20
      have hP := hP.tch0 hT20
      have hO := hO.tch0 hT20
      have hM := hM.tch0 hT20
      have hW := hW.tch0 hT20
      have hlt := (fun b hb => Nat.lt_of_lt_of_le (hlt b hb) (hT20).size)
      have hMv := hMv.then0 hT20
      have hB4 := hB4.tch0 hT20
      refine t_takes [0, 5, 1, 6, 2, 7] (listed' := #[true, true, true, false, false, true, true, true, false, false, false]) (ρ' := upd (upd (upd (upd (upd (upd (updL ρ [(0, .pointer (some ⟨p, 0, none⟩)), (1, .agg #[.int .i64 (nO n), .int .i64 (nW n), .int .i64 (nA n), .int .i64 (nB n), .int .i64 (nC n), .int .u64 (nV n)]), (3, .pointer (some ⟨w.heap.size, 0, none⟩)), (4, .int .i64 0), (5, .int .i64 0), (6, .int .i64 ((i10 : Nat) : Int)), (7, .bool ok11), (17, .bool ok11), (28, .bool (decide ((N.length : Int) ≥ most)))]) 29 (.pointer (some ⟨p, 0, none⟩))) 34 (.pointer (some ⟨p, 0, none⟩))) 30 (.pointer (some ⟨p, 0, none⟩))) 35 (.pointer (some ⟨p, 0, none⟩))) 31 (.pointer (some ⟨p, 1, none⟩))) 36 (.pointer (some ⟨p, 0, none⟩))) ⟨hP, hB4⟩ (by kernel_rfl) ?_
      refine t_val (v := .map (some ma)) 3 (by kernel_rfl) (by rfl) (by kernel_rfl) (by kernel_rfl) (by kernel_rfl) (fun w' hs => by obtain ⟨hP, hB4⟩ := hs; exact R_load (v := .map (some ma)) (by kernel_rfl) (by kernel_rfl) ((hP.cell 1).trans rfl)) ⟨hP, hB4⟩ ?_
      refine t_val (v := .agg #[.int .i64 (nO n), .int .i64 (nW n), .int .i64 (nA n), .int .i64 (nB n), .int .i64 (nC n), .int .u64 (nV n)]) 4 (by kernel_rfl) (by rfl) (by kernel_rfl) (by kernel_rfl) (by kernel_rfl) (fun w' hs => by obtain ⟨hP, hB4⟩ := hs; exact R_loadA [.int .i64 (nO n), .int .i64 (nW n), .int .i64 (nA n), .int .i64 (nB n), .int .i64 (nC n), .int .u64 (nV n)] (by kernel_rfl) (by kernel_rfl) (by kernel_rfl) (fun k u hk => by rw [hB4.cell]; exact get_part _ 0 _ k u rfl hk)) ⟨hP, hB4⟩ ?_
      refine t_val (v := .slice A N.length cp) 8 (by kernel_rfl) (by rfl) (by kernel_rfl) (by kernel_rfl) (by kernel_rfl) (fun w' hs => by obtain ⟨hP, hB4⟩ := hs; exact R_load (v := .slice A N.length cp) (by kernel_rfl) (by kernel_rfl) ((hP.cell 0).trans rfl)) ⟨hP, hB4⟩ ?_
      refine t_takes [9] (listed' := #[true, true, true, true, true, true, true, true, true, true, false]) (ρ' := upd (upd (upd (upd (upd (upd (upd (upd (upd (upd (updL ρ [(0, .pointer (some ⟨p, 0, none⟩)), (1, .agg #[.int .i64 (nO n), .int .i64 (nW n), .int .i64 (nA n), .int .i64 (nB n), .int .i64 (nC n), .int .u64 (nV n)]), (3, .pointer (some ⟨w.heap.size, 0, none⟩)), (4, .int .i64 0), (5, .int .i64 0), (6, .int .i64 ((i10 : Nat) : Int)), (7, .bool ok11), (17, .bool ok11), (28, .bool (decide ((N.length : Int) ≥ most)))]) 29 (.pointer (some ⟨p, 0, none⟩))) 34 (.pointer (some ⟨p, 0, none⟩))) 30 (.pointer (some ⟨p, 0, none⟩))) 35 (.pointer (some ⟨p, 0, none⟩))) 31 (.pointer (some ⟨p, 1, none⟩))) 36 (.pointer (some ⟨p, 0, none⟩))) 32 (.map (some ma))) 33 (.agg #[.int .i64 (nO n), .int .i64 (nW n), .int .i64 (nA n), .int .i64 (nB n), .int .i64 (nC n), .int .u64 (nV n)])) 37 (.slice A N.length cp)) 38 (.int .i64 (N.length : Int))) ⟨hP, hB4⟩ (by kernel_rfl) ?_
      have hnn := h213 (by assumption)
      refine t_one 10 (by kernel_rfl) (by rfl) (by kernel_rfl) (S_updT n hnn hwf (by kernel_rfl) (by kernel_rfl) (by kernel_rfl) hM fun w22 hT23 hs24 hM1 => ?_)
      have hP := hP.tch hT23 (fun e => hM.ne hP (Eq.symm e))
      have hO := hO.tch hT23 (fun c hc e => hO.ne_mapE hM c hc e)
      have hW := hW.tch hT23 (fun e => hne (Eq.symm e))
      have hB4 := hB4.tch hT23 (fun e => hM.ne hB4 (Eq.symm e))
      have hMv := hMv.trans (.same (hT23.weaken (fun b _ e => by have : b = ma := e; rw [this]; exact fa)))
      have hM := hM1
      have hlt : ∀ b, F b → b < w22.heap.size := fun b hb => by rw [hs24]; exact hlt b hb
      have hN2 : (N ++ [n]).Nodup := List.nodup_append.2 ⟨hI.nd, by simp, fun a ha b hb => by simp at hb; rw [hb]; exact fun e => hnn (e ▸ ha)⟩
      refine ⟨fun h => absurd h (by decide), ?_⟩
      refine t_done (by kernel_rfl) ?_
      refine W_seq ?_
      refine W_fg [(0, .pointer (some ⟨p, 0, none⟩)), (1, .agg #[.int .i64 (nO n), .int .i64 (nW n), .int .i64 (nA n), .int .i64 (nB n), .int .i64 (nC n), .int .u64 (nV n)]), (3, .pointer (some ⟨w.heap.size, 0, none⟩)), (4, .int .i64 0), (5, .int .i64 0), (6, .int .i64 ((i10 : Nat) : Int)), (7, .bool ok11), (17, .bool ok11), (28, .bool (decide ((N.length : Int) ≥ most)))] (by kernel_rfl) fun ρ => ?_
      refine W_drawT (fun w' => Blk w' (w.heap.size) 32 [.int .i64 (nO n), .int .i64 (nW n), .int .i64 (nA n), .int .i64 (nB n), .int .i64 (nC n), .int .u64 (nV n)]) 10 (by kernel_rfl) (by kernel_rfl) (by kernel_rfl) fun w25 hT26 hh27 => ?_
      have hP := hP.tch0 hT26
      have hO := hO.tch0 hT26
      have hM := hM.tch0 hT26
      have hW := hW.tch0 hT26
      have hlt := (fun b hb => Nat.lt_of_lt_of_le (hlt b hb) (hT26).size)
      have hMv := hMv.then0 hT26
      have hB4 := hB4.tch0 hT26
      refine t_takes [0, 1, 2, 3] (listed' := #[true, true, true, true, false, false, false, false, false, false, false]) (ρ' := upd (upd (upd (upd (updL ρ [(0, .pointer (some ⟨p, 0, none⟩)), (1, .agg #[.int .i64 (nO n), .int .i64 (nW n), .int .i64 (nA n), .int .i64 (nB n), .int .i64 (nC n), .int .u64 (nV n)]), (3, .pointer (some ⟨w.heap.size, 0, none⟩)), (4, .int .i64 0), (5, .int .i64 0), (6, .int .i64 ((i10 : Nat) : Int)), (7, .bool ok11), (17, .bool ok11), (28, .bool (decide ((N.length : Int) ≥ most)))]) 39 (.pointer (some ⟨p, 0, none⟩))) 40 (.pointer (some ⟨p, 0, none⟩))) 41 (.pointer (some ⟨p, 0, none⟩))) 42 (.pointer (some ⟨p, 0, none⟩))) hB4 (by kernel_rfl) ?_
      refine t_val (v := .agg #[.int .i64 (nO n), .int .i64 (nW n), .int .i64 (nA n), .int .i64 (nB n), .int .i64 (nC n), .int .u64 (nV n)]) 5 (by kernel_rfl) (by rfl) (by kernel_rfl) (by kernel_rfl) (by kernel_rfl) (fun w' hs => by have hB4 := hs; exact R_loadA [.int .i64 (nO n), .int .i64 (nW n), .int .i64 (nA n), .int .i64 (nB n), .int .i64 (nC n), .int .u64 (nV n)] (by kernel_rfl) (by kernel_rfl) (by kernel_rfl) (fun k u hk => by rw [hB4.cell]; exact get_part _ 0 _ k u rfl hk)) hB4 ?_
      refine t_two 4 6 (by kernel_rfl) (by rfl) (by rfl) (by kernel_rfl) (by kernel_rfl) ?_ ?_
      · refine (S_val (v := .slice A N.length cp) (R_load (v := .slice A N.length cp) (by kernel_rfl) (by kernel_rfl) ((hP.cell 0).trans rfl)) ?_)
        refine ⟨fun _ => hB4, ?_⟩
        have hz32 := hMv.1.size
        have lt33 := hP.lt
        have lt34 := hB4.lt
        refine t_one 6 (by kernel_rfl) (by rfl) (by kernel_rfl) (S_new (v := .slice (some ⟨w25.heap.size, 0, none⟩) 1 1) (ob := .cells #[.int .i64 (nO n), .int .i64 (nW n), .int .i64 (nA n), .int .i64 (nB n), .int .i64 (nC n), .int .u64 (nV n)] 32) (by kernel_rfl) fun w28 hT29 hs30 hB31 => ?_)
        replace hB31 : Blk w28 (w25.heap.size) 32 [.int .i64 (nO n), .int .i64 (nW n), .int .i64 (nA n), .int .i64 (nB n), .int .i64 (nC n), .int .u64 (nV n)] := hB31
        have hP := hP.tch0 hT29
        have hO := hO.tch0 hT29
        have hM := hM.tch0 hT29
        have hW := hW.tch0 hT29
        have hlt := (fun b hb => Nat.lt_of_lt_of_le (hlt b hb) (hT29).size)
        have hMv := hMv.then0 hT29
        have hB4 := hB4.tch0 hT29
        refine ⟨fun _ => hB4, ?_⟩
        have lO := hO.lt
        refine t_one 7 (by kernel_rfl) (by rfl) (by kernel_rfl) (S_appendR 25 32 (.agg #[.int .i64 0, .int .i64 0, .int .i64 0, .int .i64 0, .int .i64 0, .int .u64 0]) 6 48 (n := N.length) (m := 1) (A := A) (cp := cp) (cells := ncs N) (news := ncl n) (b := w25.heap.size) (off := 0) (c := 1) (by kernel_rfl) (by kernel_rfl) (by decide) (by kernel_rfl) (by kernel_rfl) (by kernel_rfl) hO (by rfl) (fun k u hk => by rw [Nat.zero_add, hB31.cell]; exact hk) (by simp [oneV, ncl]) (by simp only [maxLen]; omega) (by omega) fun A2 cp2 w35 hO2 hw2 hT36 => ?_)
        have fg : ∀ c, (Value.slice A2 (N.length + 1) cp2).ownBlock = some c → F c ∨ w.heap.size ≤ c := fun c hc => (hw2 c hc).imp (fA c) (fun e => by have := hMv.1.size; omega)
        have hP := hP.tch hT36 (fun e => hO.blk_ne hP (by decide) _ e rfl)
        have hM := hM.tch hT36 (fun e => hO.ne_mapE hM _ e rfl)
        have hW := hW.tch hT36 (fun e => hO.ne_mapE hW _ e rfl)
        have hB4 := hB4.tch hT36 (fun e => nF_hB4 (fA _ e))
        have hMv := hMv.trans (.same (hT36.weaken (fun b _ e => fA b e)))
        have hO : Own w35 0 32 6 (.slice A2 (N.length + 1) cp2) (N.length + 1) (ncs (N ++ [n])) := by rw [ncs_app]; exact hO2
        refine ⟨fun _ => hB4, ?_⟩
        refine t_one 8 (by kernel_rfl) (by rfl) (by kernel_rfl) (S_val (v := .pointer (some ⟨p, 0, none⟩)) (plainV_run (by kernel_rfl) _) ?_)
        refine ⟨fun _ => hB4, ?_⟩
        refine t_takes [9] (listed' := #[true, true, true, true, true, true, true, true, true, true, false]) (ρ' := upd (upd (upd (upd (upd (upd (upd (upd (upd (upd (updL ρ [(0, .pointer (some ⟨p, 0, none⟩)), (1, .agg #[.int .i64 (nO n), .int .i64 (nW n), .int .i64 (nA n), .int .i64 (nB n), .int .i64 (nC n), .int .u64 (nV n)]), (3, .pointer (some ⟨w.heap.size, 0, none⟩)), (4, .int .i64 0), (5, .int .i64 0), (6, .int .i64 ((i10 : Nat) : Int)), (7, .bool ok11), (17, .bool ok11), (28, .bool (decide ((N.length : Int) ≥ most)))]) 39 (.pointer (some ⟨p, 0, none⟩))) 40 (.pointer (some ⟨p, 0, none⟩))) 41 (.pointer (some ⟨p, 0, none⟩))) 42 (.pointer (some ⟨p, 0, none⟩))) 44 (.agg #[.int .i64 (nO n), .int .i64 (nW n), .int .i64 (nA n), .int .i64 (nB n), .int .i64 (nC n), .int .u64 (nV n)])) 43 (.slice A N.length cp)) 45 (.slice (some ⟨w25.heap.size, 0, none⟩) 1 1)) 46 (.slice A2 (N.length + 1) cp2)) 47 (.pointer (some ⟨p, 0, none⟩))) 48 (.pointer (some ⟨p, 0, none⟩))) hB4 (by kernel_rfl) ?_
        refine t_one 10 (by kernel_rfl) (by rfl) (by kernel_rfl) (S_store (b := p) (j := 0) (v := .slice A2 (N.length + 1) cp2) (by kernel_rfl) (by kernel_rfl) (by kernel_rfl) (by rfl) hP (by simp) fun w37 hT38 hs39 hP' => ?_)
        have hO := hO.tch hT38 (fun c hc e => hO.blk_ne hP (by decide) c hc e)
        have hM := hM.tch hT38 (fun e => hM.ne hP e)
        have hW := hW.tch hT38 (fun e => hW.ne hP e)
        have hMv := hMv.trans (.same ((hT38).weaken (fun b _ e => by have : b = p := e; rw [this]; exact fp)))
        have hB4 := hB4.tch hT38 (hB4.ne hP (by decide))
        replace hP : Blk w37 p 74 [.slice A2 (N.length + 1) cp2, .map (some ma), .map (some mw), .int .i64 most] := hP'
        refine ⟨fun h => absurd h (by decide), ?_⟩
        refine t_done (by kernel_rfl) ?_
        refine W_seq ?_
        refine W_fg [(0, .pointer (some ⟨p, 0, none⟩)), (1, .agg #[.int .i64 (nO n), .int .i64 (nW n), .int .i64 (nA n), .int .i64 (nB n), .int .i64 (nC n), .int .u64 (nV n)]), (3, .pointer (some ⟨w.heap.size, 0, none⟩)), (4, .int .i64 0), (5, .int .i64 0), (6, .int .i64 ((i10 : Nat) : Int)), (7, .bool ok11), (17, .bool ok11), (28, .bool (decide ((N.length : Int) ≥ most)))] (by kernel_rfl) fun ρ => ?_
        refine W_draw (fun w' => Blk w' (p) 74 [.slice A2 (N.length + 1) cp2, .map (some ma), .map (some mw), .int .i64 most] ∧ Blk w' (w.heap.size) 32 [.int .i64 (nO n), .int .i64 (nW n), .int .i64 (nA n), .int .i64 (nB n), .int .i64 (nC n), .int .u64 (nV n)]) (by kernel_rfl) (by kernel_rfl) (by kernel_rfl) fun w40 hT41 hh42 => ?_
        have hP := hP.tch0 hT41
        have hO := hO.tch0 hT41
        have hM := hM.tch0 hT41
        have hW := hW.tch0 hT41
        have hMv := hMv.then0 hT41
        have hB4 := hB4.tch0 hT41
        refine d_takes [0, 1, 2] (listed' := #[true, true, true, false, false, false, false, false]) (ρ' := upd (upd (upd (updL ρ [(0, .pointer (some ⟨p, 0, none⟩)), (1, .agg #[.int .i64 (nO n), .int .i64 (nW n), .int .i64 (nA n), .int .i64 (nB n), .int .i64 (nC n), .int .u64 (nV n)]), (3, .pointer (some ⟨w.heap.size, 0, none⟩)), (4, .int .i64 0), (5, .int .i64 0), (6, .int .i64 ((i10 : Nat) : Int)), (7, .bool ok11), (17, .bool ok11), (28, .bool (decide ((N.length : Int) ≥ most)))]) 49 (.pointer (some ⟨p, 0, none⟩))) 50 (.pointer (some ⟨p, 0, none⟩))) 51 (.pointer (some ⟨p, 1, none⟩))) ⟨hP, hB4⟩ (by kernel_rfl) ?_
        refine d_val (v := .map (some ma)) 3 (by rfl) (by kernel_rfl) (by kernel_rfl) (by kernel_rfl) (fun w' hs => by obtain ⟨hP, hB4⟩ := hs; exact R_load (v := .map (some ma)) (by kernel_rfl) (by kernel_rfl) ((hP.cell 1).trans rfl)) ⟨hP, hB4⟩ ?_
        refine d_val (v := .agg #[.int .i64 (nO n), .int .i64 (nW n), .int .i64 (nA n), .int .i64 (nB n), .int .i64 (nC n), .int .u64 (nV n)]) 4 (by rfl) (by kernel_rfl) (by kernel_rfl) (by kernel_rfl) (fun w' hs => by obtain ⟨hP, hB4⟩ := hs; exact R_loadA [.int .i64 (nO n), .int .i64 (nW n), .int .i64 (nA n), .int .i64 (nB n), .int .i64 (nC n), .int .u64 (nV n)] (by kernel_rfl) (by kernel_rfl) (by kernel_rfl) (fun k u hk => by rw [hB4.cell]; exact get_part _ 0 _ k u rfl hk)) ⟨hP, hB4⟩ ?_
        refine d_one 5 (by kernel_rfl) (by rfl) (by kernel_rfl) (S_lookT false n hN2 hwf (by kernel_rfl) (by kernel_rfl) hM fun i43 ok44 h145 h246 => ?_)
        have hi9 : i43 = N.length := by cases ok44 with
            | true => exact (idx_of hN2 (h145 rfl)).symm.trans (idx_of hN2 (show (N ++ [n])[N.length]? = some n by simp))
            | false => exact absurd (List.mem_append.2 (.inr (List.mem_singleton.2 rfl))) (h246 rfl)
        subst hi9
        refine ⟨⟨hP, hB4⟩, ?_⟩
        refine d_takes [6, 7] (listed' := #[true, true, true, true, true, true, true, true]) (ρ' := upd (upd (upd (upd (upd (upd (upd (upd (updL ρ [(0, .pointer (some ⟨p, 0, none⟩)), (1, .agg #[.int .i64 (nO n), .int .i64 (nW n), .int .i64 (nA n), .int .i64 (nB n), .int .i64 (nC n), .int .u64 (nV n)]), (3, .pointer (some ⟨w.heap.size, 0, none⟩)), (4, .int .i64 0), (5, .int .i64 0), (6, .int .i64 ((i10 : Nat) : Int)), (7, .bool ok11), (17, .bool ok11), (28, .bool (decide ((N.length : Int) ≥ most)))]) 49 (.pointer (some ⟨p, 0, none⟩))) 50 (.pointer (some ⟨p, 0, none⟩))) 51 (.pointer (some ⟨p, 1, none⟩))) 52 (.map (some ma))) 53 (.agg #[.int .i64 (nO n), .int .i64 (nW n), .int .i64 (nA n), .int .i64 (nB n), .int .i64 (nC n), .int .u64 (nV n)])) 54 (.int .i64 ((N.length : Nat) : Int))) 4 (.int .i64 ((N.length : Nat) : Int))) 5 (.int .i64 0)) ⟨hP, hB4⟩ (by kernel_rfl) ?_
        refine d_done (by kernel_rfl) ?_
        refine W_ret ?_
        refine ⟨_, Res_of (v := .tuple #[.int .i64 ((N.length : Nat) : Int), .int .i64 0]) (by kernel_rfl), ?_⟩
        rw [mk_new hnn (by omega)]
        refine ⟨rfl, fun b => F b ∨ (Value.slice A2 (N.length + 1) cp2).ownBlock = some b, ⟨A2, cp2, ma, mw, ?_, ?_, hM, hW, hne, .inl fp, .inl fa, .inl fw, ?_, ?_⟩, ⟨hMv.1, ?_⟩⟩
        · rw [List.length_append]; exact hP
        · rw [List.length_append]; exact hO
        · rw [List.length_append]; exact fun c hc => .inr hc
        · rintro b (hb | hb)
          · exact Nat.lt_of_lt_of_le (hF0 b hb) hMv.1.size
          · exact hO.lt b hb
        · rintro b (hb | hb)
          · exact .inl hb
          · exact fg b hb
      · have hz51 := hMv.1.size
        have lt52 := hP.lt
        have lt53 := hB4.lt
        refine (S_new (v := .slice (some ⟨w25.heap.size, 0, none⟩) 1 1) (ob := .cells #[.int .i64 (nO n), .int .i64 (nW n), .int .i64 (nA n), .int .i64 (nB n), .int .i64 (nC n), .int .u64 (nV n)] 32) (by kernel_rfl) fun w47 hT48 hs49 hB50 => ?_)
        replace hB50 : Blk w47 (w25.heap.size) 32 [.int .i64 (nO n), .int .i64 (nW n), .int .i64 (nA n), .int .i64 (nB n), .int .i64 (nC n), .int .u64 (nV n)] := hB50
        have hP := hP.tch0 hT48
        have hO := hO.tch0 hT48
        have hM := hM.tch0 hT48
        have hW := hW.tch0 hT48
        have hlt := (fun b hb => Nat.lt_of_lt_of_le (hlt b hb) (hT48).size)
        have hMv := hMv.then0 hT48
        have hB4 := hB4.tch0 hT48
        refine ⟨fun _ => hB4, ?_⟩
        refine t_one 4 (by kernel_rfl) (by rfl) (by kernel_rfl) (S_val (v := .slice A N.length cp) (R_load (v := .slice A N.length cp) (by kernel_rfl) (by kernel_rfl) ((hP.cell 0).trans rfl)) ?_)
        refine ⟨fun _ => hB4, ?_⟩
        have lO := hO.lt
        refine t_one 7 (by kernel_rfl) (by rfl) (by kernel_rfl) (S_appendR 25 32 (.agg #[.int .i64 0, .int .i64 0, .int .i64 0, .int .i64 0, .int .i64 0, .int .u64 0]) 6 48 (n := N.length) (m := 1) (A := A) (cp := cp) (cells := ncs N) (news := ncl n) (b := w25.heap.size) (off := 0) (c := 1) (by kernel_rfl) (by kernel_rfl) (by decide) (by kernel_rfl) (by kernel_rfl) (by kernel_rfl) hO (by rfl) (fun k u hk => by rw [Nat.zero_add, hB50.cell]; exact hk) (by simp [oneV, ncl]) (by simp only [maxLen]; omega) (by omega) fun A2 cp2 w54 hO2 hw2 hT55 => ?_)
        have fg : ∀ c, (Value.slice A2 (N.length + 1) cp2).ownBlock = some c → F c ∨ w.heap.size ≤ c := fun c hc => (hw2 c hc).imp (fA c) (fun e => by have := hMv.1.size; omega)
        have hP := hP.tch hT55 (fun e => hO.blk_ne hP (by decide) _ e rfl)
        have hM := hM.tch hT55 (fun e => hO.ne_mapE hM _ e rfl)
        have hW := hW.tch hT55 (fun e => hO.ne_mapE hW _ e rfl)
        have hB4 := hB4.tch hT55 (fun e => nF_hB4 (fA _ e))
        have hMv := hMv.trans (.same (hT55.weaken (fun b _ e => fA b e)))
        have hO : Own w54 0 32 6 (.slice A2 (N.length + 1) cp2) (N.length + 1) (ncs (N ++ [n])) := by rw [ncs_app]; exact hO2
        refine ⟨fun _ => hB4, ?_⟩
        refine t_one 8 (by kernel_rfl) (by rfl) (by kernel_rfl) (S_val (v := .pointer (some ⟨p, 0, none⟩)) (plainV_run (by kernel_rfl) _) ?_)
        refine ⟨fun _ => hB4, ?_⟩
        refine t_takes [9] (listed' := #[true, true, true, true, true, true, true, true, true, true, false]) (ρ' := upd (upd (upd (upd (upd (upd (upd (upd (upd (upd (updL ρ [(0, .pointer (some ⟨p, 0, none⟩)), (1, .agg #[.int .i64 (nO n), .int .i64 (nW n), .int .i64 (nA n), .int .i64 (nB n), .int .i64 (nC n), .int .u64 (nV n)]), (3, .pointer (some ⟨w.heap.size, 0, none⟩)), (4, .int .i64 0), (5, .int .i64 0), (6, .int .i64 ((i10 : Nat) : Int)), (7, .bool ok11), (17, .bool ok11), (28, .bool (decide ((N.length : Int) ≥ most)))]) 39 (.pointer (some ⟨p, 0, none⟩))) 40 (.pointer (some ⟨p, 0, none⟩))) 41 (.pointer (some ⟨p, 0, none⟩))) 42 (.pointer (some ⟨p, 0, none⟩))) 44 (.agg #[.int .i64 (nO n), .int .i64 (nW n), .int .i64 (nA n), .int .i64 (nB n), .int .i64 (nC n), .int .u64 (nV n)])) 45 (.slice (some ⟨w25.heap.size, 0, none⟩) 1 1)) 43 (.slice A N.length cp)) 46 (.slice A2 (N.length + 1) cp2)) 47 (.pointer (some ⟨p, 0, none⟩))) 48 (.pointer (some ⟨p, 0, none⟩))) hB4 (by kernel_rfl) ?_
        refine t_one 10 (by kernel_rfl) (by rfl) (by kernel_rfl) (S_store (b := p) (j := 0) (v := .slice A2 (N.length + 1) cp2) (by kernel_rfl) (by kernel_rfl) (by kernel_rfl) (by rfl) hP (by simp) fun w56 hT57 hs58 hP' => ?_)
        have hO := hO.tch hT57 (fun c hc e => hO.blk_ne hP (by decide) c hc e)
        have hM := hM.tch hT57 (fun e => hM.ne hP e)
        have hW := hW.tch hT57 (fun e => hW.ne hP e)
        have hMv := hMv.trans (.same ((hT57).weaken (fun b _ e => by have : b = p := e; rw [this]; exact fp)))
        have hB4 := hB4.tch hT57 (hB4.ne hP (by decide))
        replace hP : Blk w56 p 74 [.slice A2 (N.length + 1) cp2, .map (some ma), .map (some mw), .int .i64 most] := hP'
        refine ⟨fun h => absurd h (by decide), ?_⟩
        refine t_done (by kernel_rfl) ?_
        refine W_seq ?_
        refine W_fg [(0, .pointer (some ⟨p, 0, none⟩)), (1, .agg #[.int .i64 (nO n), .int .i64 (nW n), .int .i64 (nA n), .int .i64 (nB n), .int .i64 (nC n), .int .u64 (nV n)]), (3, .pointer (some ⟨w.heap.size, 0, none⟩)), (4, .int .i64 0), (5, .int .i64 0), (6, .int .i64 ((i10 : Nat) : Int)), (7, .bool ok11), (17, .bool ok11), (28, .bool (decide ((N.length : Int) ≥ most)))] (by kernel_rfl) fun ρ => ?_
        refine W_draw (fun w' => Blk w' (p) 74 [.slice A2 (N.length + 1) cp2, .map (some ma), .map (some mw), .int .i64 most] ∧ Blk w' (w.heap.size) 32 [.int .i64 (nO n), .int .i64 (nW n), .int .i64 (nA n), .int .i64 (nB n), .int .i64 (nC n), .int .u64 (nV n)]) (by kernel_rfl) (by kernel_rfl) (by kernel_rfl) fun w59 hT60 hh61 => ?_
        have hP := hP.tch0 hT60
        have hO := hO.tch0 hT60
        have hM := hM.tch0 hT60
        have hW := hW.tch0 hT60
        have hMv := hMv.then0 hT60
        have hB4 := hB4.tch0 hT60
        refine d_takes [0, 1, 2] (listed' := #[true, true, true, false, false, false, false, false]) (ρ' := upd (upd (upd (updL ρ [(0, .pointer (some ⟨p, 0, none⟩)), (1, .agg #[.int .i64 (nO n), .int .i64 (nW n), .int .i64 (nA n), .int .i64 (nB n), .int .i64 (nC n), .int .u64 (nV n)]), (3, .pointer (some ⟨w.heap.size, 0, none⟩)), (4, .int .i64 0), (5, .int .i64 0), (6, .int .i64 ((i10 : Nat) : Int)), (7, .bool ok11), (17, .bool ok11), (28, .bool (decide ((N.length : Int) ≥ most)))]) 49 (.pointer (some ⟨p, 0, none⟩))) 50 (.pointer (some ⟨p, 0, none⟩))) 51 (.pointer (some ⟨p, 1, none⟩))) ⟨hP, hB4⟩ (by kernel_rfl) ?_
        refine d_val (v := .map (some ma)) 3 (by rfl) (by kernel_rfl) (by kernel_rfl) (by kernel_rfl) (fun w' hs => by obtain ⟨hP, hB4⟩ := hs; exact R_load (v := .map (some ma)) (by kernel_rfl) (by kernel_rfl) ((hP.cell 1).trans rfl)) ⟨hP, hB4⟩ ?_
        refine d_val (v := .agg #[.int .i64 (nO n), .int .i64 (nW n), .int .i64 (nA n), .int .i64 (nB n), .int .i64 (nC n), .int .u64 (nV n)]) 4 (by rfl) (by kernel_rfl) (by kernel_rfl) (by kernel_rfl) (fun w' hs => by obtain ⟨hP, hB4⟩ := hs; exact R_loadA [.int .i64 (nO n), .int .i64 (nW n), .int .i64 (nA n), .int .i64 (nB n), .int .i64 (nC n), .int .u64 (nV n)] (by kernel_rfl) (by kernel_rfl) (by kernel_rfl) (fun k u hk => by rw [hB4.cell]; exact get_part _ 0 _ k u rfl hk)) ⟨hP, hB4⟩ ?_
        refine d_one 5 (by kernel_rfl) (by rfl) (by kernel_rfl) (S_lookT false n hN2 hwf (by kernel_rfl) (by kernel_rfl) hM fun i62 ok63 h164 h265 => ?_)
        have hi9 : i62 = N.length := by cases ok63 with
            | true => exact (idx_of hN2 (h164 rfl)).symm.trans (idx_of hN2 (show (N ++ [n])[N.length]? = some n by simp))
            | false => exact absurd (List.mem_append.2 (.inr (List.mem_singleton.2 rfl))) (h265 rfl)
        subst hi9
        refine ⟨⟨hP, hB4⟩, ?_⟩
        refine d_takes [6, 7] (listed' := #[true, true, true, true, true, true, true, true]) (ρ' := upd (upd (upd (upd (upd (upd (upd (upd (updL ρ [(0, .pointer (some ⟨p, 0, none⟩)), (1, .agg #[.int .i64 (nO n), .int .i64 (nW n), .int .i64 (nA n), .int .i64 (nB n), .int .i64 (nC n), .int .u64 (nV n)]), (3, .pointer (some ⟨w.heap.size, 0, none⟩)), (4, .int .i64 0), (5, .int .i64 0), (6, .int .i64 ((i10 : Nat) : Int)), (7, .bool ok11), (17, .bool ok11), (28, .bool (decide ((N.length : Int) ≥ most)))]) 49 (.pointer (some ⟨p, 0, none⟩))) 50 (.pointer (some ⟨p, 0, none⟩))) 51 (.pointer (some ⟨p, 1, none⟩))) 52 (.map (some ma))) 53 (.agg #[.int .i64 (nO n), .int .i64 (nW n), .int .i64 (nA n), .int .i64 (nB n), .int .i64 (nC n), .int .u64 (nV n)])) 54 (.int .i64 ((N.length : Nat) : Int))) 4 (.int .i64 ((N.length : Nat) : Int))) 5 (.int .i64 0)) ⟨hP, hB4⟩ (by kernel_rfl) ?_
        refine d_done (by kernel_rfl) ?_
        refine W_ret ?_
        refine ⟨_, Res_of (v := .tuple #[.int .i64 ((N.length : Nat) : Int), .int .i64 0]) (by kernel_rfl), ?_⟩
        rw [mk_new hnn (by omega)]
        refine ⟨rfl, fun b => F b ∨ (Value.slice A2 (N.length + 1) cp2).ownBlock = some b, ⟨A2, cp2, ma, mw, ?_, ?_, hM, hW, hne, .inl fp, .inl fa, .inl fw, ?_, ?_⟩, ⟨hMv.1, ?_⟩⟩
        · rw [List.length_append]; exact hP
        · rw [List.length_append]; exact hO
        · rw [List.length_append]; exact fun c hc => .inr hc
        · rintro b (hb | hb)
          · exact Nat.lt_of_lt_of_le (hF0 b hb) hMv.1.size
          · exact hO.lt b hb
        · rintro b (hb | hb)
          · exact .inl hb
          · exact fg b hb

end Go.Proofs.YtlbadnpgmkobdaaV
