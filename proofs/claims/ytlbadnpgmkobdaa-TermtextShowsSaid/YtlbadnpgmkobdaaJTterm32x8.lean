/- Texts laid together: Walks of functions of the program and of the document's texts. The conditions stand with each theorem. Walks of functions of the program and of the document's texts. The conditions stand with each theorem. -/
import Derived.Test.YtlbadnpgmkobdaaJTterm32x1
import Derived.Test.YtlbadnpgmkobdaaProg
import Derived.Test.YtlbadnpgmkobdaaJTterm32x7
import Derived.Test.YtlbadnpgmkobdaaJTterm32x6
set_option linter.unusedVariables false
set_option linter.unusedSimpArgs false
namespace Go.Proofs.YtlbadnpgmkobdaaV
open Go Go.RowKit Go.Proofs

set_option maxRecDepth 100000 in
set_option maxHeartbeats 2000000 in
theorem rshow_ok (N : List Nd) (i cA cB : Nat) (n : Nd) (A B : Option Addr) (w : World) (hni : nth N i = n) (hn : NdW N i n) (hw : 1 ≤ nW n ∧ nW n ≤ 64) (hf : nwf n) (hA : RdW w 1 i A (txs (rl N i))) (hF : RdW w 1 i B (boolsV (fl N i))) : Ret Try.prog 48 [.agg #[.int .i64 (nO n), .int .i64 (nW n), .int .i64 (nA n), .int .i64 (nB n), .int .i64 (nC n), .int .u64 (nV n)], .slice A i cA, .slice B i cB] w fun v w' => ∃ s, v = .tuple #[.string (bsT s), .bool (fitB N i)] ∧ (fitB N i = true → s = txt N i) ∧ Tch N0 w w' := by
 have hk3 := kids_len n
 obtain ⟨_, _, fA, fB, _, hV⟩ := hf
 unfold b64 at fA fB
 refine enter Try.func48 rfl rfl ?_
 refine zQ ?_
 refine st (by rfl) (S_new (v := .pointer (some ⟨w.heap.size, 0, none⟩)) (ob := .cells #[.int .i64 (nO n), .int .i64 (nW n), .int .i64 (nA n), .int .i64 (nB n), .int .i64 (nC n), .int .u64 (nV n)] 32) (by kernel_rfl) fun w1 hT2 hs3 hB4 => ?_)
 replace hB4 : Blk w1 (w.heap.size) 32 [.int .i64 (nO n), .int .i64 (nW n), .int .i64 (nA n), .int .i64 (nB n), .int .i64 (nC n), .int .u64 (nV n)] := hB4
 have hT0 := hT2
 have hAr := hA.tch0 hT0
 have hFr := hF.tch0 hT0
 refine zS [(6, .string (bsT ([]))), (7, .bool false)] ?_
 refine op_nil ?_
 refine W_seq ?_
 refine zQ ?_
 refine zS [(12, .pointer (some ⟨w.heap.size, 0, none⟩))] ?_
 refine zL (.int .i64 (nO n)) ((hB4.cell 0).trans rfl) ?_
 refine op_nil ?_
 refine W_block ?_
 refine zQ ?_
 refine zS [(15, .bool ((nO n) == 20)), (14, .bool ((nO n) == 20))] ?_
 refine zO ((nO n) == 20) (fun hc5 => ?_) (fun hc5 => ?_)
 ·
  replace hc5 : nO n = 20 := (eq_of_beq hc5)
  refine W_seq ?_
  refine W_draw (fun w' => Blk w' (w.heap.size) 32 [.int .i64 (nO n), .int .i64 (nW n), .int .i64 (nA n), .int .i64 (nB n), .int .i64 (nC n), .int .u64 (nV n)]) (by kernel_rfl) (by kernel_rfl) (by kernel_rfl) fun w6 hT7 hh8 => ?_
  have hT0 := hT0.t0 hT7
  have hAr := hA.tch0 hT0
  have hFr := hF.tch0 hT0
  have hB4 := hB4.tch0 hT7
  refine zK [0, 4] #[true, false, false, false, true, false, false, false, false, false] [(16, .pointer (some ⟨w.heap.size, 5, none⟩)), (20, .pointer (some ⟨w.heap.size, 1, none⟩))] hB4 ?_
  refine zV 1 rfl (.int .u64 (nV n)) (fun _ hB4 => R_load (v := .int .u64 (nV n)) (by kernel_rfl) (by kernel_rfl) ((hB4.cell 5).trans rfl)) hB4 ?_
  refine zV 5 rfl (.int .i64 (nW n)) (fun _ hB4 => R_load (v := .int .i64 (nW n)) (by kernel_rfl) (by kernel_rfl) ((hB4.cell 1).trans rfl)) hB4 ?_
  refine zD 2 rfl (S_call (args := [.int .u64 (nV n)]) (by kernel_rfl) (rdigitsI_ok (nV n) _ hV) ?_)
  rintro _ w9 ⟨rfl, hT10⟩
  have hT0 := hT0.t0 hT10
  have hAr := hA.tch0 hT0
  have hFr := hF.tch0 hT0
  have hB4 := hB4.tch0 hT10
  refine ⟨hB4, ?_⟩
  refine zV 3 rfl (.string (bsT ((dgs (nV n).toNat) ++ ([58])))) (fun _ hB4 => R_sadd (a := dgs (nV n).toNat) (b := [58]) (by kernel_rfl) (by kernel_rfl) (by first | omega | (simp only [List.length_append, List.length_cons, List.length_nil]; have := wordT_len (nO n).toNat; have := @dgs_20 (nB n).toNat; have := @dgs_20 (nW n).toNat; have := @dgs_20 (nA n).toNat; have := @dgs_20 (nV n).toNat; unfold u64 at hV; omega))) hB4 ?_
  refine zD 6 rfl (S_call (args := [.int .i64 (nW n)]) (by kernel_rfl) (rnumberI_ok (nW n) _ (by omega) (by omega)) ?_)
  rintro _ w11 ⟨rfl, hT12⟩
  have hT0 := hT0.t0 hT12
  have hAr := hA.tch0 hT0
  have hFr := hF.tch0 hT0
  have hB4 := hB4.tch0 hT12
  refine ⟨hB4, ?_⟩
  refine zV 7 rfl (.string (bsT (((dgs (nV n).toNat) ++ ([58])) ++ (dgs (nW n).toNat)))) (fun _ hB4 => R_sadd (a := (dgs (nV n).toNat) ++ ([58])) (b := dgs (nW n).toNat) (by kernel_rfl) (by kernel_rfl) (by first | omega | (simp only [List.length_append, List.length_cons, List.length_nil]; have := wordT_len (nO n).toNat; have := @dgs_20 (nB n).toNat; have := @dgs_20 (nW n).toNat; have := @dgs_20 (nA n).toNat; have := @dgs_20 (nV n).toNat; unfold u64 at hV; omega))) hB4 ?_
  refine zK [8, 9] #[true, true, true, true, true, true, true, true, true, true] [(6, .string (bsT (((dgs (nV n).toNat) ++ ([58])) ++ (dgs (nW n).toNat)))), (7, .bool true)] hB4 ?_
  refine d_done (by kernel_rfl) ?_
  refine W_ret ?_
  refine ⟨_, Res_of (v := .tuple #[.string (bsT (((dgs (nV n).toNat) ++ ([58])) ++ (dgs (nW n).toNat))), .bool true]) (by kernel_rfl), ?_⟩
  have hl : (txt N i).length ≤ 50 := by first | exact len20 hni (by omega) hV hw | exact len21 hni (by omega) hn hw
  rw [fit_le (N := N) (i := i) (by omega)]
  exact ⟨_, rfl, fun _ => by first | exact (txt20 hni (by omega)).symm | exact (txt21 hni (by omega)).symm, hT0⟩
 ·
  replace hc5 : nO n ≠ 20 := (ne_of_beq_false hc5)
  refine zQ ?_
  refine zS [(25, .bool ((nO n) == 21)), (24, .bool ((nO n) == 21))] ?_
  refine zO ((nO n) == 21) (fun hc13 => ?_) (fun hc13 => ?_)
  ·
   replace hc13 : nO n = 21 := (eq_of_beq hc13)
   refine W_seq ?_
   refine zF [(0, .agg #[.int .i64 (nO n), .int .i64 (nW n), .int .i64 (nA n), .int .i64 (nB n), .int .i64 (nC n), .int .u64 (nV n)]), (1, .slice A i cA), (2, .slice B i cB), (3, .pointer (some ⟨w.heap.size, 0, none⟩)), (6, .string (bsT ([]))), (7, .bool false), (13, .int .i64 (nO n)), (14, .bool ((nO n) == 20)), (24, .bool ((nO n) == 21))] fun ρ => ?_
   have hA0 := hn.varA (by omega)
   refine W_draw (fun w' => Blk w' (w.heap.size) 32 [.int .i64 (nO n), .int .i64 (nW n), .int .i64 (nA n), .int .i64 (nB n), .int .i64 (nC n), .int .u64 (nV n)]) (by kernel_rfl) (by kernel_rfl) (by kernel_rfl) fun w14 hT15 hh16 => ?_
   have hT0 := hT0.t0 hT15
   have hAr := hA.tch0 hT0
   have hFr := hF.tch0 hT0
   have hB4 := hB4.tch0 hT15
   refine zK [0, 5] #[true, false, false, false, false, true, false, false, false, false, false] [(26, .pointer (some ⟨w.heap.size, 2, none⟩)), (31, .pointer (some ⟨w.heap.size, 1, none⟩))] hB4 ?_
   refine zV 1 rfl (.int .i64 (nA n)) (fun _ hB4 => R_load (v := .int .i64 (nA n)) (by kernel_rfl) (by kernel_rfl) ((hB4.cell 2).trans rfl)) hB4 ?_
   refine zV 6 rfl (.int .i64 (nW n)) (fun _ hB4 => R_load (v := .int .i64 (nW n)) (by kernel_rfl) (by kernel_rfl) ((hB4.cell 1).trans rfl)) hB4 ?_
   refine zD 2 rfl (S_call (args := [.int .i64 (nA n)]) (by kernel_rfl) (rnumberI_ok (nA n) _ (by omega) (by omega)) ?_)
   rintro _ w17 ⟨rfl, hT18⟩
   have hT0 := hT0.t0 hT18
   have hAr := hA.tch0 hT0
   have hFr := hF.tch0 hT0
   have hB4 := hB4.tch0 hT18
   refine ⟨hB4, ?_⟩
   refine zV 3 rfl (.string (bsT (([120]) ++ (dgs (nA n).toNat)))) (fun _ hB4 => R_sadd (a := [120]) (b := dgs (nA n).toNat) (by kernel_rfl) (by kernel_rfl) (by first | omega | (simp only [List.length_append, List.length_cons, List.length_nil]; have := wordT_len (nO n).toNat; have := @dgs_20 (nB n).toNat; have := @dgs_20 (nW n).toNat; have := @dgs_20 (nA n).toNat; have := @dgs_20 (nV n).toNat; unfold u64 at hV; omega))) hB4 ?_
   refine zV 4 rfl (.string (bsT ((([120]) ++ (dgs (nA n).toNat)) ++ ([58])))) (fun _ hB4 => R_sadd (a := ([120]) ++ (dgs (nA n).toNat)) (b := [58]) (by kernel_rfl) (by kernel_rfl) (by first | omega | (simp only [List.length_append, List.length_cons, List.length_nil]; have := wordT_len (nO n).toNat; have := @dgs_20 (nB n).toNat; have := @dgs_20 (nW n).toNat; have := @dgs_20 (nA n).toNat; have := @dgs_20 (nV n).toNat; unfold u64 at hV; omega))) hB4 ?_
   refine zD 7 rfl (S_call (args := [.int .i64 (nW n)]) (by kernel_rfl) (rnumberI_ok (nW n) _ (by omega) (by omega)) ?_)
   rintro _ w19 ⟨rfl, hT20⟩
   have hT0 := hT0.t0 hT20
   have hAr := hA.tch0 hT0
   have hFr := hF.tch0 hT0
   have hB4 := hB4.tch0 hT20
   refine ⟨hB4, ?_⟩
   refine zV 8 rfl (.string (bsT (((([120]) ++ (dgs (nA n).toNat)) ++ ([58])) ++ (dgs (nW n).toNat)))) (fun _ hB4 => R_sadd (a := (([120]) ++ (dgs (nA n).toNat)) ++ ([58])) (b := dgs (nW n).toNat) (by kernel_rfl) (by kernel_rfl) (by first | omega | (simp only [List.length_append, List.length_cons, List.length_nil]; have := wordT_len (nO n).toNat; have := @dgs_20 (nB n).toNat; have := @dgs_20 (nW n).toNat; have := @dgs_20 (nA n).toNat; have := @dgs_20 (nV n).toNat; unfold u64 at hV; omega))) hB4 ?_
   refine zK [9, 10] #[true, true, true, true, true, true, true, true, true, true, true] [(6, .string (bsT (((([120]) ++ (dgs (nA n).toNat)) ++ ([58])) ++ (dgs (nW n).toNat)))), (7, .bool true)] hB4 ?_
   refine d_done (by kernel_rfl) ?_
   refine W_ret ?_
   refine ⟨_, Res_of (v := .tuple #[.string (bsT (((([120]) ++ (dgs (nA n).toNat)) ++ ([58])) ++ (dgs (nW n).toNat))), .bool true]) (by kernel_rfl), ?_⟩
   have hl : (txt N i).length ≤ 50 := by first | exact len20 hni (by omega) hV hw | exact len21 hni (by omega) hn hw
   rw [fit_le (N := N) (i := i) (by omega)]
   exact ⟨_, rfl, fun _ => by first | exact (txt20 hni (by omega)).symm | exact (txt21 hni (by omega)).symm, hT0⟩
  ·
   replace hc13 : nO n ≠ 21 := (ne_of_beq_false hc13)
   refine W_skip ?_
   refine W_seq ?_
   refine zF [(0, .agg #[.int .i64 (nO n), .int .i64 (nW n), .int .i64 (nA n), .int .i64 (nB n), .int .i64 (nC n), .int .u64 (nV n)]), (1, .slice A i cA), (2, .slice B i cB), (3, .pointer (some ⟨w.heap.size, 0, none⟩)), (6, .string (bsT ([]))), (7, .bool false), (13, .int .i64 (nO n)), (14, .bool ((nO n) == 20)), (24, .bool ((nO n) == 21))] fun ρ => ?_
   refine zR ?_
   refine zS [(35, .pointer (some ⟨w.heap.size, 0, none⟩))] ?_
   refine zL (.int .i64 (nO n)) ((hB4.cell 0).trans rfl) ?_
   have hO1 := (hn.pos (by omega) (by omega)).2.2.2.1
   refine st (by rfl) (S_call (args := [.int .i64 (nO n)]) (by kernel_rfl) ((by have q := rword_ok (nO n) w1; rw [wdF_at (n := (nO n).toNat) (by omega)] at q; exact q)) ?_)
   rintro _ w21 ⟨rfl, hT22⟩
   have hT0 := hT0.t0 hT22
   have hAr := hA.tch0 hT0
   have hFr := hF.tch0 hT0
   have hB4 := hB4.tch0 hT22
   refine stv (v := .string (bsT (([40]) ++ (wordT (nO n).toNat)))) (by rfl) (R_sadd (a := [40]) (b := wordT (nO n).toNat) (by kernel_rfl) (by kernel_rfl) (by first | omega | (simp only [List.length_append, List.length_cons, List.length_nil]; have := wordT_len (nO n).toNat; have := @dgs_20 (nB n).toNat; have := @dgs_20 (nW n).toNat; have := @dgs_20 (nA n).toNat; have := @dgs_20 (nV n).toNat; unfold u64 at hV; omega))) ?_
   refine zS [(8, .string (bsT (([40]) ++ (wordT (nO n).toNat))))] ?_
   refine op_nil ?_
   refine W_seq ?_
   refine zQ ?_
   refine zS [(39, .pointer (some ⟨w.heap.size, 0, none⟩))] ?_
   refine zL (.int .i64 (nO n)) ((hB4.cell 0).trans rfl) ?_
   refine zS [(41, .bool ((nO n) == 23))] ?_
   refine zO ((nO n) == 23) (fun hc23 => ?_) (fun hc23 => ?_)
   ·
    replace hc23 : nO n = 23 := (eq_of_beq hc23)
    refine zF [(0, .agg #[.int .i64 (nO n), .int .i64 (nW n), .int .i64 (nA n), .int .i64 (nB n), .int .i64 (nC n), .int .u64 (nV n)]), (1, .slice A i cA), (2, .slice B i cB), (3, .pointer (some ⟨w.heap.size, 0, none⟩)), (6, .string (bsT ([]))), (7, .bool false), (8, .string (bsT (([40]) ++ (wordT (nO n).toNat)))), (13, .int .i64 (nO n)), (14, .bool ((nO n) == 20)), (24, .bool ((nO n) == 21)), (41, .bool ((nO n) == 23))] fun ρ => ?_
    have hB0 := (hn.pos (by omega) (by omega)).2.1 (by omega)
    refine zR ?_
    refine zS [(42, .string (bsT (([40]) ++ (wordT (nO n).toNat))))] ?_
    refine stv (v := .string (bsT ((([40]) ++ (wordT (nO n).toNat)) ++ ([32])))) (by rfl) (R_sadd (a := ([40]) ++ (wordT (nO n).toNat)) (b := [32]) (by kernel_rfl) (by kernel_rfl) (by first | omega | (simp only [List.length_append, List.length_cons, List.length_nil]; have := wordT_len (nO n).toNat; have := @dgs_20 (nB n).toNat; have := @dgs_20 (nW n).toNat; have := @dgs_20 (nA n).toNat; have := @dgs_20 (nV n).toNat; unfold u64 at hV; omega))) ?_
    refine zS [(44, .pointer (some ⟨w.heap.size, 3, none⟩))] ?_
    refine zL (.int .i64 (nB n)) ((hB4.cell 3).trans rfl) ?_
    refine zC (rnumberI_ok (nB n) _ (by omega) (by omega)) ?_
    rintro _ w24 ⟨rfl, hT25⟩
    have hT0 := hT0.t0 hT25
    have hAr := hA.tch0 hT0
    have hFr := hF.tch0 hT0
    have hB4 := hB4.tch0 hT25
    refine stv (v := .string (bsT (((([40]) ++ (wordT (nO n).toNat)) ++ ([32])) ++ (dgs (nB n).toNat)))) (by rfl) (R_sadd (a := (([40]) ++ (wordT (nO n).toNat)) ++ ([32])) (b := dgs (nB n).toNat) (by kernel_rfl) (by kernel_rfl) (by first | omega | (simp only [List.length_append, List.length_cons, List.length_nil]; have := wordT_len (nO n).toNat; have := @dgs_20 (nB n).toNat; have := @dgs_20 (nW n).toNat; have := @dgs_20 (nA n).toNat; have := @dgs_20 (nV n).toNat; unfold u64 at hV; omega))) ?_
    refine zS [(8, .string (bsT (((([40]) ++ (wordT (nO n).toNat)) ++ ([32])) ++ (dgs (nB n).toNat))))] ?_
    refine op_nil ?_
    refine W_seq ?_
    refine zQ ?_
    refine zS [(48, .pointer (some ⟨w.heap.size, 0, none⟩))] ?_
    refine zL (.int .i64 (nO n)) ((hB4.cell 0).trans rfl) ?_
    refine zS [(50, .bool ((nO n) == 23)), (51, .bool ((nO n) == 23))] ?_
    cases hb26 : (nO n) == 23
    ·
     replace hb26 : nO n ≠ 23 := (ne_of_beq_false hb26)
     exfalso; omega
    ·
     replace hb26 : nO n = 23 := (eq_of_beq hb26)
     refine zS [(52, undef), (53, undef), (54, undef), (55, .bool true), (56, .bool true), (57, undef), (58, undef), (59, undef), (60, .bool true)] ?_
     refine zO true (fun _ => ?_) (fun h => nomatch h)
     refine zF [(0, .agg #[.int .i64 (nO n), .int .i64 (nW n), .int .i64 (nA n), .int .i64 (nB n), .int .i64 (nC n), .int .u64 (nV n)]), (1, .slice A i cA), (2, .slice B i cB), (3, .pointer (some ⟨w.heap.size, 0, none⟩)), (6, .string (bsT ([]))), (7, .bool false), (8, .string (bsT (((([40]) ++ (wordT (nO n).toNat)) ++ ([32])) ++ (dgs (nB n).toNat)))), (13, .int .i64 (nO n)), (14, .bool ((nO n) == 20)), (24, .bool ((nO n) == 21)), (41, .bool true), (60, .bool true)] fun ρ => ?_
     refine zR ?_
     refine zS [(61, .string (bsT (((([40]) ++ (wordT (nO n).toNat)) ++ ([32])) ++ (dgs (nB n).toNat))))] ?_
     refine stv (v := .string (bsT ((((([40]) ++ (wordT (nO n).toNat)) ++ ([32])) ++ (dgs (nB n).toNat)) ++ ([32])))) (by rfl) (R_sadd (a := ((([40]) ++ (wordT (nO n).toNat)) ++ ([32])) ++ (dgs (nB n).toNat)) (b := [32]) (by kernel_rfl) (by kernel_rfl) (by first | omega | (simp only [List.length_append, List.length_cons, List.length_nil]; have := wordT_len (nO n).toNat; have := @dgs_20 (nB n).toNat; have := @dgs_20 (nW n).toNat; have := @dgs_20 (nA n).toNat; have := @dgs_20 (nV n).toNat; unfold u64 at hV; omega))) ?_
     refine zS [(63, .pointer (some ⟨w.heap.size, 1, none⟩))] ?_
     refine zL (.int .i64 (nW n)) ((hB4.cell 1).trans rfl) ?_
     refine zC (rnumberI_ok (nW n) _ (by omega) (by omega)) ?_
     rintro _ w27 ⟨rfl, hT28⟩
     have hT0 := hT0.t0 hT28
     have hAr := hA.tch0 hT0
     have hFr := hF.tch0 hT0
     have hB4 := hB4.tch0 hT28
     refine stv (v := .string (bsT (((((([40]) ++ (wordT (nO n).toNat)) ++ ([32])) ++ (dgs (nB n).toNat)) ++ ([32])) ++ (dgs (nW n).toNat)))) (by rfl) (R_sadd (a := (((([40]) ++ (wordT (nO n).toNat)) ++ ([32])) ++ (dgs (nB n).toNat)) ++ ([32])) (b := dgs (nW n).toNat) (by kernel_rfl) (by kernel_rfl) (by first | omega | (simp only [List.length_append, List.length_cons, List.length_nil]; have := wordT_len (nO n).toNat; have := @dgs_20 (nB n).toNat; have := @dgs_20 (nW n).toNat; have := @dgs_20 (nA n).toNat; have := @dgs_20 (nV n).toNat; unfold u64 at hV; omega))) ?_
     refine zS [(8, .string (bsT (((((([40]) ++ (wordT (nO n).toNat)) ++ ([32])) ++ (dgs (nB n).toNat)) ++ ([32])) ++ (dgs (nW n).toNat))))] ?_
     refine op_nil ?_
     refine zQ ?_
     refine st (by rfl) (S_val (v := .agg #[.int .i64 (nO n), .int .i64 (nW n), .int .i64 (nA n), .int .i64 (nB n), .int .i64 (nC n), .int .u64 (nV n)]) (R_loadA [.int .i64 (nO n), .int .i64 (nW n), .int .i64 (nA n), .int .i64 (nB n), .int .i64 (nC n), .int .u64 (nV n)] (by kernel_rfl) (by kernel_rfl) (by kernel_rfl) (fun k u hk => by rw [hB4.cell]; exact get_part _ 0 _ k u rfl hk)) ?_)
     refine zC (parts_ok N i n _ hn (by omega) (by omega)) ?_
     rintro _ w29 ⟨x, y, z, k, rfl, hk, hxyz, hT30⟩
     have hT0 := hT0.t0 hT30
     have hAr := hA.tch0 hT0
     have hFr := hF.tch0 hT0
     have hB4 := hB4.tch0 hT30
     refine zS [(67, .tuple #[.agg #[.int .i64 x, .int .i64 y, .int .i64 z], .int .i64 ((k : Nat) : Int)]), (70, .agg #[.int .i64 x, .int .i64 y, .int .i64 z]), (71, .int .i64 ((k : Nat) : Int))] ?_
     have z35 := hT0.size
     have l36 := hB4.lt
     refine st (by rfl) (S_new (v := .pointer (some ⟨w29.heap.size, 0, none⟩)) (ob := .cells #[.int .i64 0, .int .i64 0, .int .i64 0] 134) (by kernel_rfl) fun w31 hT32 hs33 hB34 => ?_)
     replace hB34 : Blk w31 (w29.heap.size) 134 [.int .i64 0, .int .i64 0, .int .i64 0] := hB34
     have hT0 := hT0.t0 hT32
     have hAr := hA.tch0 hT0
     have hFr := hF.tch0 hT0
     have hB4 := hB4.tch0 hT32
     refine st (by rfl) (S_storeA (b := w29.heap.size) (j := 0) (cs := [.int .i64 x, .int .i64 y, .int .i64 z]) (by kernel_rfl) (by kernel_rfl) (by kernel_rfl) (by simp [oneV]) hB34 (by simp) fun w37 hT38 hs39 hB34' => ?_)
     have hT0 := (hT0).then hT38 (fun c e => by have : c = w29.heap.size := e; omega)
     have hAr := hA.tch0 hT0
     have hFr := hF.tch0 hT0
     have hB4 := hB4.tch hT38 (hB4.ne hB34 (by decide))
     replace hB34 : Blk w37 w29.heap.size 134 [.int .i64 x, .int .i64 y, .int .i64 z] := hB34'
     refine zS [(10, .int .i64 ((k : Nat) : Int))] ?_
     refine op_nil ?_
     refine W_seq ?_
     refine W_seq ?_
     refine zF [(0, .agg #[.int .i64 (nO n), .int .i64 (nW n), .int .i64 (nA n), .int .i64 (nB n), .int .i64 (nC n), .int .u64 (nV n)]), (1, .slice A i cA), (2, .slice B i cB), (3, .pointer (some ⟨w.heap.size, 0, none⟩)), (6, .string (bsT ([]))), (7, .bool false), (8, .string (bsT (((((([40]) ++ (wordT (nO n).toNat)) ++ ([32])) ++ (dgs (nB n).toNat)) ++ ([32])) ++ (dgs (nW n).toNat)))), (9, .pointer (some ⟨w29.heap.size, 0, none⟩)), (10, .int .i64 ((k : Nat) : Int)), (13, .int .i64 (nO n)), (14, .bool ((nO n) == 20)), (24, .bool ((nO n) == 21)), (41, .bool true), (60, .bool true)] fun ρ => ?_
     refine zR ?_
     refine zS [(11, .int .i64 0)] ?_
     refine op_nil ?_
     refine W_block ?_
     subst hk
     rw [hxyz] at hB34
     have hhd : ((((([40]) ++ (wordT (nO n).toNat)) ++ ([32])) ++ (dgs (nB n).toNat)) ++ ([32])) ++ (dgs (nW n).toNat) = hdT n := by unfold hdT; first | (rw [mid23 (by omega)]; simp only [List.append_assoc]) | (rw [mid25 (by omega)]; simp only [List.append_assoc]) | (rw [mid0 (by omega) (by omega)]; simp only [List.append_assoc, List.append_nil])
     have hhl := hd_len (fun e => (hn.pos (by omega) (by omega)).2.1 (by omega)) (by omega) hw
     refine W_loop (fun m ρ w' => ∃ (sx : Tx) (j : Nat) (ρ0 : Env), ρ = updL ρ0 [(1, .slice A i cA), (2, .slice B i cB), (8, .string (bsT sx)), (9, .pointer (some ⟨w29.heap.size, 0, none⟩)), (10, .int .i64 (((kidsN n).length : Nat) : Int)), (11, .int .i64 ((j : Nat) : Int))] ∧ (j ≤ (kidsN n).length) ∧ (sx = preT N n j) ∧ (sx.length ≤ 200 + 4097 * j) ∧ Tch N0 w w' ∧ Blk w' (w29.heap.size) 134 (nats (kidsN n) ++ pdN n) ∧ RdW w' 1 i A (txs (rl N i)) ∧ RdW w' 1 i B (boolsV (fl N i)) ∧ m = (kidsN n).length - j) (m := (kidsN n).length - 0) ?_ ?_
     ·
      refine ⟨((((([40]) ++ (wordT (nO n).toNat)) ++ ([32])) ++ (dgs (nB n).toNat)) ++ ([32])) ++ (dgs (nW n).toNat), 0, _, updL_self (by kernel_rfl), by omega, (by rw [preT_0]; exact hhd), (by rw [hhd]; omega), hT0, hB34, hAr, hFr, rfl⟩
     ·
      rintro m ρ w40 ⟨sx, j, ρ, rfl, hj, hs, hsl, hT0, hP9, hAr, hFr, rfl⟩
      refine W_seq ?_
      refine zQ ?_
      refine zS [(72, .int .i64 ((j : Nat) : Int)), (73, .int .i64 (((kidsN n).length : Nat) : Int)), (74, .bool (decide (((j : Nat) : Int) < (((kidsN n).length : Nat) : Int))))] ?_
      refine zO (decide (((j : Nat) : Int) < (((kidsN n).length : Nat) : Int))) (fun hc41 => ?_) (fun hc41 => ?_)
      ·
       replace hc41 : ((j : Nat) : Int) < (((kidsN n).length : Nat) : Int) := (of_decide_eq_true hc41)
       refine W_skip ?_
       refine W_seq ?_
       refine W_block ?_
       refine W_seq ?_
       refine W_seq ?_
       have hkj := kid_lt hn (j := j) (by omega)
       have hdl := dtx_le N ((kidsN n).getD j 0)
       refine zR ?_
       refine zS [(77, .slice B i cB), (78, .int .i64 ((j : Nat) : Int))] ?_
       refine stv (v := .pointer (some ⟨w29.heap.size, j, none⟩)) (by rfl) (R_idxP0 (k := .i64) (len := 3) (e := 3) j (by kernel_rfl) (by kernel_rfl) (by kernel_rfl) (by kernel_rfl) rfl (by have := kids_len n; omega)) ?_
       refine zL (.int .i64 (((kidsN n).getD j 0 : Nat) : Int)) ((hP9.cell _).trans (nats_atP (by first | omega | (simp only [List.length_set, List.length_map]; omega)))) ?_
       refine stv (v := ptrAt B ((kidsN n).getD j 0)) (by rfl) (R_indexRd1 (len := i) (cap := cB) (k := .i64) (i := (((kidsN n).getD j 0 : Nat) : Int)) (e := 4) ((kidsN n).getD j 0) hFr (by kernel_rfl) (by kernel_rfl) (by kernel_rfl) (by kernel_rfl) rfl (by omega)) ?_
       refine stv (v := .bool (fitB N ((kidsN n).getD j 0))) (by rfl) (R_loadRd (v := .bool (fitB N ((kidsN n).getD j 0))) hFr (by omega) (by kernel_rfl) (by kernel_rfl) (fl_at hkj)) ?_
       refine zS [(83, .bool (!(fitB N ((kidsN n).getD j 0))))] ?_
       refine zO (!(fitB N ((kidsN n).getD j 0))) (fun hc42 => ?_) (fun hc42 => ?_)
       ·
        replace hc42 : fitB N ((kidsN n).getD j 0) = false := ((not_t hc42))
        refine W_seq ?_
        refine zF [(1, .slice A i cA), (2, .slice B i cB), (8, .string (bsT sx)), (9, .pointer (some ⟨w29.heap.size, 0, none⟩)), (10, .int .i64 (((kidsN n).length : Nat) : Int)), (11, .int .i64 ((j : Nat) : Int)), (74, .bool (decide (((j : Nat) : Int) < (((kidsN n).length : Nat) : Int)))), (83, .bool (!(fitB N ((kidsN n).getD j 0))))] fun ρ => ?_
        refine zR ?_
        refine zS [(6, .string (bsT ([]))), (7, .bool false)] ?_
        refine op_nil ?_
        refine W_ret ?_
        refine ⟨_, Res_of (v := .tuple #[.string (bsT ([])), .bool false]) (by kernel_rfl), ?_⟩
        have hl := txt_kid hni hn (by omega) (by omega) (j := j) (by omega)
        have hk9 := fit_ex (by assumption)
        rw [fit_gt (N := N) (i := i) (by omega)]
        exact ⟨_, rfl, fun h => by simp at h, hT0⟩
       ·
        replace hc42 : fitB N ((kidsN n).getD j 0) = true := ((not_f hc42))
        refine W_skip ?_
        refine zF [(1, .slice A i cA), (2, .slice B i cB), (8, .string (bsT sx)), (9, .pointer (some ⟨w29.heap.size, 0, none⟩)), (10, .int .i64 (((kidsN n).length : Nat) : Int)), (11, .int .i64 ((j : Nat) : Int)), (74, .bool (decide (((j : Nat) : Int) < (((kidsN n).length : Nat) : Int)))), (83, .bool (!(fitB N ((kidsN n).getD j 0))))] fun ρ => ?_
        refine zR ?_
        refine zS [(84, .string (bsT sx))] ?_
        refine stv (v := .string (bsT (sx ++ ([32])))) (by rfl) (R_sadd (a := sx) (b := [32]) (by kernel_rfl) (by kernel_rfl) (by first | omega | (simp only [List.length_append, List.length_cons, List.length_nil]; have := wordT_len (nO n).toNat; have := @dgs_20 (nB n).toNat; have := @dgs_20 (nW n).toNat; have := @dgs_20 (nA n).toNat; have := @dgs_20 (nV n).toNat; unfold u64 at hV; omega))) ?_
        refine zS [(86, .slice A i cA), (87, .int .i64 ((j : Nat) : Int))] ?_
        refine stv (v := .pointer (some ⟨w29.heap.size, j, none⟩)) (by rfl) (R_idxP0 (k := .i64) (len := 3) (e := 3) j (by kernel_rfl) (by kernel_rfl) (by kernel_rfl) (by kernel_rfl) rfl (by have := kids_len n; omega)) ?_
        refine zL (.int .i64 (((kidsN n).getD j 0 : Nat) : Int)) ((hP9.cell _).trans (nats_atP (by first | omega | (simp only [List.length_set, List.length_map]; omega)))) ?_
        refine stv (v := ptrAt A ((kidsN n).getD j 0)) (by rfl) (R_indexRd1 (len := i) (cap := cA) (k := .i64) (i := (((kidsN n).getD j 0 : Nat) : Int)) (e := 9) ((kidsN n).getD j 0) hAr (by kernel_rfl) (by kernel_rfl) (by kernel_rfl) (by kernel_rfl) rfl (by omega)) ?_
        refine stv (v := .string (bsT (dtx N ((kidsN n).getD j 0)))) (by rfl) (R_loadRd (v := .string (bsT (dtx N ((kidsN n).getD j 0)))) hAr (by omega) (by kernel_rfl) (by kernel_rfl) (rl_at hkj)) ?_
        refine stv (v := .string (bsT ((sx ++ ([32])) ++ (dtx N ((kidsN n).getD j 0))))) (by rfl) (R_sadd (a := sx ++ ([32])) (b := dtx N ((kidsN n).getD j 0)) (by kernel_rfl) (by kernel_rfl) (by first | omega | (simp only [List.length_append, List.length_cons, List.length_nil]; have := wordT_len (nO n).toNat; have := @dgs_20 (nB n).toNat; have := @dgs_20 (nW n).toNat; have := @dgs_20 (nA n).toNat; have := @dgs_20 (nV n).toNat; unfold u64 at hV; omega))) ?_
        refine zS [(8, .string (bsT ((sx ++ ([32])) ++ (dtx N ((kidsN n).getD j 0)))))] ?_
        refine op_nil ?_
        refine zF [(1, .slice A i cA), (2, .slice B i cB), (8, .string (bsT ((sx ++ ([32])) ++ (dtx N ((kidsN n).getD j 0))))), (9, .pointer (some ⟨w29.heap.size, 0, none⟩)), (10, .int .i64 (((kidsN n).length : Nat) : Int)), (11, .int .i64 ((j : Nat) : Int)), (74, .bool (decide (((j : Nat) : Int) < (((kidsN n).length : Nat) : Int)))), (83, .bool (!(fitB N ((kidsN n).getD j 0))))] fun ρ => ?_
        refine zR ?_
        refine zS [(75, .int .i64 ((j : Nat) : Int)), (76, .int .i64 (IntKind.i64.wrap (((j : Nat) : Int) + 1)))] ?_
        rw [show IntKind.i64.wrap (((j : Nat) : Int) + 1) = ((j : Nat) : Int) + 1 from wrap_i64 (by omega) (by omega)]
        refine fixR (y := ((j + 1 : Nat) : Int)) (by omega) ?_
        refine zS [(11, .int .i64 ((j + 1 : Nat) : Int))] ?_
        refine op_nil ?_
        refine ⟨_, (by omega), (sx ++ ([32])) ++ (dtx N ((kidsN n).getD j 0)), j + 1, _, updL_self (by kernel_rfl), (by omega), (by rw [preT_step (by omega), ← hs, dtx_t (by assumption)]), (by simp only [List.length_append, List.length_cons, List.length_nil]; omega), hT0, hP9, hAr, hFr, rfl⟩
      ·
       replace hc41 : (((kidsN n).length : Nat) : Int) ≤ ((j : Nat) : Int) := (Int.not_lt.1 (of_decide_eq_false hc41))
       refine W_exit ?_
       refine X_hit ?_
       refine zQ ?_
       refine zS [(93, .string (bsT sx))] ?_
       refine stv (v := .string (bsT (sx ++ ([41])))) (by rfl) (R_sadd (a := sx) (b := [41]) (by kernel_rfl) (by kernel_rfl) (by first | omega | (simp only [List.length_append, List.length_cons, List.length_nil]; have := wordT_len (nO n).toNat; have := @dgs_20 (nB n).toNat; have := @dgs_20 (nW n).toNat; have := @dgs_20 (nA n).toNat; have := @dgs_20 (nV n).toNat; unfold u64 at hV; omega))) ?_
       refine zS [(8, .string (bsT (sx ++ ([41]))))] ?_
       refine op_nil ?_
       refine zQ ?_
       refine zS [(95, .string (bsT (sx ++ ([41])))), (96, .string (bsT (sx ++ ([41])))), (97, .int .i64 (((sx ++ ([41])).length : Nat) : Int)), (98, .bool (decide ((((sx ++ ([41])).length : Nat) : Int) ≤ 4096))), (6, .string (bsT (sx ++ ([41])))), (7, .bool (decide ((((sx ++ ([41])).length : Nat) : Int) ≤ 4096)))] ?_
       refine op_nil ?_
       refine W_ret ?_
       refine ⟨_, Res_of (v := .tuple #[.string (bsT (sx ++ ([41]))), .bool (decide ((((sx ++ ([41])).length : Nat) : Int) ≤ 4096))]) (by kernel_rfl), ?_⟩
       have e := preT_all hni hn (by omega) (by omega)
       rw [show (kidsN n).length = j by omega, ← hs] at e
       refine ⟨_, congrArg (fun z => Value.tuple #[.string (bsT (sx ++ [41])), .bool z]) ?_, fun _ => e.symm, hT0⟩
       unfold fitB; rw [e]; exact decide_eq_decide.2 (by omega)
   ·
    replace hc23 : nO n ≠ 23 := (ne_of_beq_false hc23)
    refine W_skip ?_
    refine W_seq ?_
    refine W_seq ?_
    refine zF [(0, .agg #[.int .i64 (nO n), .int .i64 (nW n), .int .i64 (nA n), .int .i64 (nB n), .int .i64 (nC n), .int .u64 (nV n)]), (1, .slice A i cA), (2, .slice B i cB), (3, .pointer (some ⟨w.heap.size, 0, none⟩)), (6, .string (bsT ([]))), (7, .bool false), (8, .string (bsT (([40]) ++ (wordT (nO n).toNat)))), (13, .int .i64 (nO n)), (14, .bool ((nO n) == 20)), (24, .bool ((nO n) == 21)), (41, .bool ((nO n) == 23))] fun ρ => ?_
    refine zR ?_
    refine zS [(48, .pointer (some ⟨w.heap.size, 0, none⟩))] ?_
    refine zL (.int .i64 (nO n)) ((hB4.cell 0).trans rfl) ?_
    refine zS [(50, .bool ((nO n) == 23)), (51, .bool ((nO n) == 23))] ?_
    cases hb43 : (nO n) == 23
    ·
     replace hb43 : nO n ≠ 23 := (ne_of_beq_false hb43)
     refine zS [(52, .pointer (some ⟨w.heap.size, 0, none⟩))] ?_
     refine zL (.int .i64 (nO n)) ((hB4.cell 0).trans rfl) ?_
     refine zS [(54, .bool ((nO n) == 25)), (55, .bool ((nO n) == 25)), (56, .bool ((nO n) == 25))] ?_
     cases hb44 : (nO n) == 25
     ·
      replace hb44 : nO n ≠ 25 := (ne_of_beq_false hb44)
      refine zS [(57, .pointer (some ⟨w.heap.size, 0, none⟩))] ?_
      refine zL (.int .i64 (nO n)) ((hB4.cell 0).trans rfl) ?_
      refine zS [(59, .bool ((nO n) == 26)), (60, .bool ((nO n) == 26))] ?_
      refine zO ((nO n) == 26) (fun hc45 => ?_) (fun hc45 => ?_)
      ·
       replace hc45 : nO n = 26 := (eq_of_beq hc45)
       refine zF [(0, .agg #[.int .i64 (nO n), .int .i64 (nW n), .int .i64 (nA n), .int .i64 (nB n), .int .i64 (nC n), .int .u64 (nV n)]), (1, .slice A i cA), (2, .slice B i cB), (3, .pointer (some ⟨w.heap.size, 0, none⟩)), (6, .string (bsT ([]))), (7, .bool false), (8, .string (bsT (([40]) ++ (wordT (nO n).toNat)))), (13, .int .i64 (nO n)), (14, .bool ((nO n) == 20)), (24, .bool ((nO n) == 21)), (41, .bool false), (60, .bool ((nO n) == 26))] fun ρ => ?_
       refine zR ?_
       refine zS [(61, .string (bsT (([40]) ++ (wordT (nO n).toNat))))] ?_
       refine stv (v := .string (bsT ((([40]) ++ (wordT (nO n).toNat)) ++ ([32])))) (by rfl) (R_sadd (a := ([40]) ++ (wordT (nO n).toNat)) (b := [32]) (by kernel_rfl) (by kernel_rfl) (by first | omega | (simp only [List.length_append, List.length_cons, List.length_nil]; have := wordT_len (nO n).toNat; have := @dgs_20 (nB n).toNat; have := @dgs_20 (nW n).toNat; have := @dgs_20 (nA n).toNat; have := @dgs_20 (nV n).toNat; unfold u64 at hV; omega))) ?_
       refine zS [(63, .pointer (some ⟨w.heap.size, 1, none⟩))] ?_
       refine zL (.int .i64 (nW n)) ((hB4.cell 1).trans rfl) ?_
       refine zC (rnumberI_ok (nW n) _ (by omega) (by omega)) ?_
       rintro _ w46 ⟨rfl, hT47⟩
       have hT0 := hT0.t0 hT47
       have hAr := hA.tch0 hT0
       have hFr := hF.tch0 hT0
       have hB4 := hB4.tch0 hT47
       refine stv (v := .string (bsT (((([40]) ++ (wordT (nO n).toNat)) ++ ([32])) ++ (dgs (nW n).toNat)))) (by rfl) (R_sadd (a := (([40]) ++ (wordT (nO n).toNat)) ++ ([32])) (b := dgs (nW n).toNat) (by kernel_rfl) (by kernel_rfl) (by first | omega | (simp only [List.length_append, List.length_cons, List.length_nil]; have := wordT_len (nO n).toNat; have := @dgs_20 (nB n).toNat; have := @dgs_20 (nW n).toNat; have := @dgs_20 (nA n).toNat; have := @dgs_20 (nV n).toNat; unfold u64 at hV; omega))) ?_
       refine zS [(8, .string (bsT (((([40]) ++ (wordT (nO n).toNat)) ++ ([32])) ++ (dgs (nW n).toNat))))] ?_
       refine op_nil ?_
       refine zQ ?_
       refine st (by rfl) (S_val (v := .agg #[.int .i64 (nO n), .int .i64 (nW n), .int .i64 (nA n), .int .i64 (nB n), .int .i64 (nC n), .int .u64 (nV n)]) (R_loadA [.int .i64 (nO n), .int .i64 (nW n), .int .i64 (nA n), .int .i64 (nB n), .int .i64 (nC n), .int .u64 (nV n)] (by kernel_rfl) (by kernel_rfl) (by kernel_rfl) (fun k u hk => by rw [hB4.cell]; exact get_part _ 0 _ k u rfl hk)) ?_)
       refine zC (parts_ok N i n _ hn (by omega) (by omega)) ?_
       rintro _ w48 ⟨x, y, z, k, rfl, hk, hxyz, hT49⟩
       have hT0 := hT0.t0 hT49
       have hAr := hA.tch0 hT0
       have hFr := hF.tch0 hT0
       have hB4 := hB4.tch0 hT49
       refine zS [(67, .tuple #[.agg #[.int .i64 x, .int .i64 y, .int .i64 z], .int .i64 ((k : Nat) : Int)]), (70, .agg #[.int .i64 x, .int .i64 y, .int .i64 z]), (71, .int .i64 ((k : Nat) : Int))] ?_
       have z54 := hT0.size
       have l55 := hB4.lt
       refine st (by rfl) (S_new (v := .pointer (some ⟨w48.heap.size, 0, none⟩)) (ob := .cells #[.int .i64 0, .int .i64 0, .int .i64 0] 134) (by kernel_rfl) fun w50 hT51 hs52 hB53 => ?_)
       replace hB53 : Blk w50 (w48.heap.size) 134 [.int .i64 0, .int .i64 0, .int .i64 0] := hB53
       have hT0 := hT0.t0 hT51
       have hAr := hA.tch0 hT0
       have hFr := hF.tch0 hT0
       have hB4 := hB4.tch0 hT51
       refine st (by rfl) (S_storeA (b := w48.heap.size) (j := 0) (cs := [.int .i64 x, .int .i64 y, .int .i64 z]) (by kernel_rfl) (by kernel_rfl) (by kernel_rfl) (by simp [oneV]) hB53 (by simp) fun w56 hT57 hs58 hB53' => ?_)
       have hT0 := (hT0).then hT57 (fun c e => by have : c = w48.heap.size := e; omega)
       have hAr := hA.tch0 hT0
       have hFr := hF.tch0 hT0
       have hB4 := hB4.tch hT57 (hB4.ne hB53 (by decide))
       replace hB53 : Blk w56 w48.heap.size 134 [.int .i64 x, .int .i64 y, .int .i64 z] := hB53'
       refine zS [(10, .int .i64 ((k : Nat) : Int))] ?_
       refine op_nil ?_
       refine W_seq ?_
       refine W_seq ?_
       refine zF [(0, .agg #[.int .i64 (nO n), .int .i64 (nW n), .int .i64 (nA n), .int .i64 (nB n), .int .i64 (nC n), .int .u64 (nV n)]), (1, .slice A i cA), (2, .slice B i cB), (3, .pointer (some ⟨w.heap.size, 0, none⟩)), (6, .string (bsT ([]))), (7, .bool false), (8, .string (bsT (((([40]) ++ (wordT (nO n).toNat)) ++ ([32])) ++ (dgs (nW n).toNat)))), (9, .pointer (some ⟨w48.heap.size, 0, none⟩)), (10, .int .i64 ((k : Nat) : Int)), (13, .int .i64 (nO n)), (14, .bool ((nO n) == 20)), (24, .bool ((nO n) == 21)), (41, .bool false), (60, .bool ((nO n) == 26))] fun ρ => ?_
       refine zR ?_
       refine zS [(11, .int .i64 0)] ?_
       refine op_nil ?_
       refine W_block ?_
       subst hk
       rw [hxyz] at hB53
       have hhd : ((([40]) ++ (wordT (nO n).toNat)) ++ ([32])) ++ (dgs (nW n).toNat) = hdT n := by unfold hdT; first | (rw [mid23 (by omega)]; simp only [List.append_assoc]) | (rw [mid25 (by omega)]; simp only [List.append_assoc]) | (rw [mid0 (by omega) (by omega)]; simp only [List.append_assoc, List.append_nil])
       have hhl := hd_len (fun e => (hn.pos (by omega) (by omega)).2.1 (by omega)) (by omega) hw
       refine W_loop (fun m ρ w' => ∃ (sx : Tx) (j : Nat) (ρ0 : Env), ρ = updL ρ0 [(1, .slice A i cA), (2, .slice B i cB), (8, .string (bsT sx)), (9, .pointer (some ⟨w48.heap.size, 0, none⟩)), (10, .int .i64 (((kidsN n).length : Nat) : Int)), (11, .int .i64 ((j : Nat) : Int))] ∧ (j ≤ (kidsN n).length) ∧ (sx = preT N n j) ∧ (sx.length ≤ 200 + 4097 * j) ∧ Tch N0 w w' ∧ Blk w' (w48.heap.size) 134 (nats (kidsN n) ++ pdN n) ∧ RdW w' 1 i A (txs (rl N i)) ∧ RdW w' 1 i B (boolsV (fl N i)) ∧ m = (kidsN n).length - j) (m := (kidsN n).length - 0) ?_ ?_
       ·
        refine ⟨((([40]) ++ (wordT (nO n).toNat)) ++ ([32])) ++ (dgs (nW n).toNat), 0, _, updL_self (by kernel_rfl), by omega, (by rw [preT_0]; exact hhd), (by rw [hhd]; omega), hT0, hB53, hAr, hFr, rfl⟩
       ·
        rintro m ρ w59 ⟨sx, j, ρ, rfl, hj, hs, hsl, hT0, hP9, hAr, hFr, rfl⟩
        refine W_seq ?_
        refine zQ ?_
        refine zS [(72, .int .i64 ((j : Nat) : Int)), (73, .int .i64 (((kidsN n).length : Nat) : Int)), (74, .bool (decide (((j : Nat) : Int) < (((kidsN n).length : Nat) : Int))))] ?_
        refine zO (decide (((j : Nat) : Int) < (((kidsN n).length : Nat) : Int))) (fun hc60 => ?_) (fun hc60 => ?_)
        ·
         replace hc60 : ((j : Nat) : Int) < (((kidsN n).length : Nat) : Int) := (of_decide_eq_true hc60)
         refine W_skip ?_
         refine W_seq ?_
         refine W_block ?_
         refine W_seq ?_
         refine W_seq ?_
         have hkj := kid_lt hn (j := j) (by omega)
         have hdl := dtx_le N ((kidsN n).getD j 0)
         refine zR ?_
         refine zS [(77, .slice B i cB), (78, .int .i64 ((j : Nat) : Int))] ?_
         refine stv (v := .pointer (some ⟨w48.heap.size, j, none⟩)) (by rfl) (R_idxP0 (k := .i64) (len := 3) (e := 3) j (by kernel_rfl) (by kernel_rfl) (by kernel_rfl) (by kernel_rfl) rfl (by have := kids_len n; omega)) ?_
         refine zL (.int .i64 (((kidsN n).getD j 0 : Nat) : Int)) ((hP9.cell _).trans (nats_atP (by first | omega | (simp only [List.length_set, List.length_map]; omega)))) ?_
         refine stv (v := ptrAt B ((kidsN n).getD j 0)) (by rfl) (R_indexRd1 (len := i) (cap := cB) (k := .i64) (i := (((kidsN n).getD j 0 : Nat) : Int)) (e := 4) ((kidsN n).getD j 0) hFr (by kernel_rfl) (by kernel_rfl) (by kernel_rfl) (by kernel_rfl) rfl (by omega)) ?_
         refine stv (v := .bool (fitB N ((kidsN n).getD j 0))) (by rfl) (R_loadRd (v := .bool (fitB N ((kidsN n).getD j 0))) hFr (by omega) (by kernel_rfl) (by kernel_rfl) (fl_at hkj)) ?_
         refine zS [(83, .bool (!(fitB N ((kidsN n).getD j 0))))] ?_
         refine zO (!(fitB N ((kidsN n).getD j 0))) (fun hc61 => ?_) (fun hc61 => ?_)
         ·
          replace hc61 : fitB N ((kidsN n).getD j 0) = false := ((not_t hc61))
          refine W_seq ?_
          refine zF [(1, .slice A i cA), (2, .slice B i cB), (8, .string (bsT sx)), (9, .pointer (some ⟨w48.heap.size, 0, none⟩)), (10, .int .i64 (((kidsN n).length : Nat) : Int)), (11, .int .i64 ((j : Nat) : Int)), (74, .bool (decide (((j : Nat) : Int) < (((kidsN n).length : Nat) : Int)))), (83, .bool (!(fitB N ((kidsN n).getD j 0))))] fun ρ => ?_
          refine zR ?_
          refine zS [(6, .string (bsT ([]))), (7, .bool false)] ?_
          refine op_nil ?_
          refine W_ret ?_
          refine ⟨_, Res_of (v := .tuple #[.string (bsT ([])), .bool false]) (by kernel_rfl), ?_⟩
          have hl := txt_kid hni hn (by omega) (by omega) (j := j) (by omega)
          have hk9 := fit_ex (by assumption)
          rw [fit_gt (N := N) (i := i) (by omega)]
          exact ⟨_, rfl, fun h => by simp at h, hT0⟩
         ·
          replace hc61 : fitB N ((kidsN n).getD j 0) = true := ((not_f hc61))
          refine W_skip ?_
          refine zF [(1, .slice A i cA), (2, .slice B i cB), (8, .string (bsT sx)), (9, .pointer (some ⟨w48.heap.size, 0, none⟩)), (10, .int .i64 (((kidsN n).length : Nat) : Int)), (11, .int .i64 ((j : Nat) : Int)), (74, .bool (decide (((j : Nat) : Int) < (((kidsN n).length : Nat) : Int)))), (83, .bool (!(fitB N ((kidsN n).getD j 0))))] fun ρ => ?_
          refine zR ?_
          refine zS [(84, .string (bsT sx))] ?_
          refine stv (v := .string (bsT (sx ++ ([32])))) (by rfl) (R_sadd (a := sx) (b := [32]) (by kernel_rfl) (by kernel_rfl) (by first | omega | (simp only [List.length_append, List.length_cons, List.length_nil]; have := wordT_len (nO n).toNat; have := @dgs_20 (nB n).toNat; have := @dgs_20 (nW n).toNat; have := @dgs_20 (nA n).toNat; have := @dgs_20 (nV n).toNat; unfold u64 at hV; omega))) ?_
          refine zS [(86, .slice A i cA), (87, .int .i64 ((j : Nat) : Int))] ?_
          refine stv (v := .pointer (some ⟨w48.heap.size, j, none⟩)) (by rfl) (R_idxP0 (k := .i64) (len := 3) (e := 3) j (by kernel_rfl) (by kernel_rfl) (by kernel_rfl) (by kernel_rfl) rfl (by have := kids_len n; omega)) ?_
          refine zL (.int .i64 (((kidsN n).getD j 0 : Nat) : Int)) ((hP9.cell _).trans (nats_atP (by first | omega | (simp only [List.length_set, List.length_map]; omega)))) ?_
          refine stv (v := ptrAt A ((kidsN n).getD j 0)) (by rfl) (R_indexRd1 (len := i) (cap := cA) (k := .i64) (i := (((kidsN n).getD j 0 : Nat) : Int)) (e := 9) ((kidsN n).getD j 0) hAr (by kernel_rfl) (by kernel_rfl) (by kernel_rfl) (by kernel_rfl) rfl (by omega)) ?_
          refine stv (v := .string (bsT (dtx N ((kidsN n).getD j 0)))) (by rfl) (R_loadRd (v := .string (bsT (dtx N ((kidsN n).getD j 0)))) hAr (by omega) (by kernel_rfl) (by kernel_rfl) (rl_at hkj)) ?_
          refine stv (v := .string (bsT ((sx ++ ([32])) ++ (dtx N ((kidsN n).getD j 0))))) (by rfl) (R_sadd (a := sx ++ ([32])) (b := dtx N ((kidsN n).getD j 0)) (by kernel_rfl) (by kernel_rfl) (by first | omega | (simp only [List.length_append, List.length_cons, List.length_nil]; have := wordT_len (nO n).toNat; have := @dgs_20 (nB n).toNat; have := @dgs_20 (nW n).toNat; have := @dgs_20 (nA n).toNat; have := @dgs_20 (nV n).toNat; unfold u64 at hV; omega))) ?_
          refine zS [(8, .string (bsT ((sx ++ ([32])) ++ (dtx N ((kidsN n).getD j 0)))))] ?_
          refine op_nil ?_
          refine zF [(1, .slice A i cA), (2, .slice B i cB), (8, .string (bsT ((sx ++ ([32])) ++ (dtx N ((kidsN n).getD j 0))))), (9, .pointer (some ⟨w48.heap.size, 0, none⟩)), (10, .int .i64 (((kidsN n).length : Nat) : Int)), (11, .int .i64 ((j : Nat) : Int)), (74, .bool (decide (((j : Nat) : Int) < (((kidsN n).length : Nat) : Int)))), (83, .bool (!(fitB N ((kidsN n).getD j 0))))] fun ρ => ?_
          refine zR ?_
          refine zS [(75, .int .i64 ((j : Nat) : Int)), (76, .int .i64 (IntKind.i64.wrap (((j : Nat) : Int) + 1)))] ?_
          rw [show IntKind.i64.wrap (((j : Nat) : Int) + 1) = ((j : Nat) : Int) + 1 from wrap_i64 (by omega) (by omega)]
          refine fixR (y := ((j + 1 : Nat) : Int)) (by omega) ?_
          refine zS [(11, .int .i64 ((j + 1 : Nat) : Int))] ?_
          refine op_nil ?_
          refine ⟨_, (by omega), (sx ++ ([32])) ++ (dtx N ((kidsN n).getD j 0)), j + 1, _, updL_self (by kernel_rfl), (by omega), (by rw [preT_step (by omega), ← hs, dtx_t (by assumption)]), (by simp only [List.length_append, List.length_cons, List.length_nil]; omega), hT0, hP9, hAr, hFr, rfl⟩
        ·
         replace hc60 : (((kidsN n).length : Nat) : Int) ≤ ((j : Nat) : Int) := (Int.not_lt.1 (of_decide_eq_false hc60))
         refine W_exit ?_
         refine X_hit ?_
         refine zQ ?_
         refine zS [(93, .string (bsT sx))] ?_
         refine stv (v := .string (bsT (sx ++ ([41])))) (by rfl) (R_sadd (a := sx) (b := [41]) (by kernel_rfl) (by kernel_rfl) (by first | omega | (simp only [List.length_append, List.length_cons, List.length_nil]; have := wordT_len (nO n).toNat; have := @dgs_20 (nB n).toNat; have := @dgs_20 (nW n).toNat; have := @dgs_20 (nA n).toNat; have := @dgs_20 (nV n).toNat; unfold u64 at hV; omega))) ?_
         refine zS [(8, .string (bsT (sx ++ ([41]))))] ?_
         refine op_nil ?_
         refine zQ ?_
         refine zS [(95, .string (bsT (sx ++ ([41])))), (96, .string (bsT (sx ++ ([41])))), (97, .int .i64 (((sx ++ ([41])).length : Nat) : Int)), (98, .bool (decide ((((sx ++ ([41])).length : Nat) : Int) ≤ 4096))), (6, .string (bsT (sx ++ ([41])))), (7, .bool (decide ((((sx ++ ([41])).length : Nat) : Int) ≤ 4096)))] ?_
         refine op_nil ?_
         refine W_ret ?_
         refine ⟨_, Res_of (v := .tuple #[.string (bsT (sx ++ ([41]))), .bool (decide ((((sx ++ ([41])).length : Nat) : Int) ≤ 4096))]) (by kernel_rfl), ?_⟩
         have e := preT_all hni hn (by omega) (by omega)
         rw [show (kidsN n).length = j by omega, ← hs] at e
         refine ⟨_, congrArg (fun z => Value.tuple #[.string (bsT (sx ++ [41])), .bool z]) ?_, fun _ => e.symm, hT0⟩
         unfold fitB; rw [e]; exact decide_eq_decide.2 (by omega)
      ·
       replace hc45 : nO n ≠ 26 := (ne_of_beq_false hc45)
       refine W_skip ?_
       refine W_seq ?_
       refine zF [(0, .agg #[.int .i64 (nO n), .int .i64 (nW n), .int .i64 (nA n), .int .i64 (nB n), .int .i64 (nC n), .int .u64 (nV n)]), (1, .slice A i cA), (2, .slice B i cB), (3, .pointer (some ⟨w.heap.size, 0, none⟩)), (6, .string (bsT ([]))), (7, .bool false), (8, .string (bsT (([40]) ++ (wordT (nO n).toNat)))), (13, .int .i64 (nO n)), (14, .bool ((nO n) == 20)), (24, .bool ((nO n) == 21)), (41, .bool false), (60, .bool ((nO n) == 26))] fun ρ => ?_
       refine zR ?_
       refine st (by rfl) (S_val (v := .agg #[.int .i64 (nO n), .int .i64 (nW n), .int .i64 (nA n), .int .i64 (nB n), .int .i64 (nC n), .int .u64 (nV n)]) (R_loadA [.int .i64 (nO n), .int .i64 (nW n), .int .i64 (nA n), .int .i64 (nB n), .int .i64 (nC n), .int .u64 (nV n)] (by kernel_rfl) (by kernel_rfl) (by kernel_rfl) (fun k u hk => by rw [hB4.cell]; exact get_part _ 0 _ k u rfl hk)) ?_)
       refine zC (parts_ok N i n _ hn (by omega) (by omega)) ?_
       rintro _ w62 ⟨x, y, z, k, rfl, hk, hxyz, hT63⟩
       have hT0 := hT0.t0 hT63
       have hAr := hA.tch0 hT0
       have hFr := hF.tch0 hT0
       have hB4 := hB4.tch0 hT63
       refine zS [(67, .tuple #[.agg #[.int .i64 x, .int .i64 y, .int .i64 z], .int .i64 ((k : Nat) : Int)]), (70, .agg #[.int .i64 x, .int .i64 y, .int .i64 z]), (71, .int .i64 ((k : Nat) : Int))] ?_
       have z68 := hT0.size
       have l69 := hB4.lt
       refine st (by rfl) (S_new (v := .pointer (some ⟨w62.heap.size, 0, none⟩)) (ob := .cells #[.int .i64 0, .int .i64 0, .int .i64 0] 134) (by kernel_rfl) fun w64 hT65 hs66 hB67 => ?_)
       replace hB67 : Blk w64 (w62.heap.size) 134 [.int .i64 0, .int .i64 0, .int .i64 0] := hB67
       have hT0 := hT0.t0 hT65
       have hAr := hA.tch0 hT0
       have hFr := hF.tch0 hT0
       have hB4 := hB4.tch0 hT65
       refine st (by rfl) (S_storeA (b := w62.heap.size) (j := 0) (cs := [.int .i64 x, .int .i64 y, .int .i64 z]) (by kernel_rfl) (by kernel_rfl) (by kernel_rfl) (by simp [oneV]) hB67 (by simp) fun w70 hT71 hs72 hB67' => ?_)
       have hT0 := (hT0).then hT71 (fun c e => by have : c = w62.heap.size := e; omega)
       have hAr := hA.tch0 hT0
       have hFr := hF.tch0 hT0
       have hB4 := hB4.tch hT71 (hB4.ne hB67 (by decide))
       replace hB67 : Blk w70 w62.heap.size 134 [.int .i64 x, .int .i64 y, .int .i64 z] := hB67'
       refine zS [(10, .int .i64 ((k : Nat) : Int))] ?_
       refine op_nil ?_
       refine W_seq ?_
       refine zQ ?_
       refine zS [(11, .int .i64 0)] ?_
       refine op_nil ?_
       refine W_block ?_
       subst hk
       rw [hxyz] at hB67
       have hhd : ([40]) ++ (wordT (nO n).toNat) = hdT n := by unfold hdT; first | (rw [mid23 (by omega)]; simp only [List.append_assoc]) | (rw [mid25 (by omega)]; simp only [List.append_assoc]) | (rw [mid0 (by omega) (by omega)]; simp only [List.append_assoc, List.append_nil])
       have hhl := hd_len (fun e => (hn.pos (by omega) (by omega)).2.1 (by omega)) (by omega) hw
       refine W_loop (fun m ρ w' => ∃ (sx : Tx) (j : Nat) (ρ0 : Env), ρ = updL ρ0 [(1, .slice A i cA), (2, .slice B i cB), (8, .string (bsT sx)), (9, .pointer (some ⟨w62.heap.size, 0, none⟩)), (10, .int .i64 (((kidsN n).length : Nat) : Int)), (11, .int .i64 ((j : Nat) : Int))] ∧ (j ≤ (kidsN n).length) ∧ (sx = preT N n j) ∧ (sx.length ≤ 200 + 4097 * j) ∧ Tch N0 w w' ∧ Blk w' (w62.heap.size) 134 (nats (kidsN n) ++ pdN n) ∧ RdW w' 1 i A (txs (rl N i)) ∧ RdW w' 1 i B (boolsV (fl N i)) ∧ m = (kidsN n).length - j) (m := (kidsN n).length - 0) ?_ ?_
       ·
        refine ⟨([40]) ++ (wordT (nO n).toNat), 0, _, updL_self (by kernel_rfl), by omega, (by rw [preT_0]; exact hhd), (by rw [hhd]; omega), hT0, hB67, hAr, hFr, rfl⟩
       ·
        rintro m ρ w73 ⟨sx, j, ρ, rfl, hj, hs, hsl, hT0, hP9, hAr, hFr, rfl⟩
        refine W_seq ?_
        refine zQ ?_
        refine zS [(72, .int .i64 ((j : Nat) : Int)), (73, .int .i64 (((kidsN n).length : Nat) : Int)), (74, .bool (decide (((j : Nat) : Int) < (((kidsN n).length : Nat) : Int))))] ?_
        refine zO (decide (((j : Nat) : Int) < (((kidsN n).length : Nat) : Int))) (fun hc74 => ?_) (fun hc74 => ?_)
        ·
         replace hc74 : ((j : Nat) : Int) < (((kidsN n).length : Nat) : Int) := (of_decide_eq_true hc74)
         refine W_skip ?_
         refine W_seq ?_
         refine W_block ?_
         refine W_seq ?_
         refine W_seq ?_
         have hkj := kid_lt hn (j := j) (by omega)
         have hdl := dtx_le N ((kidsN n).getD j 0)
         refine zR ?_
         refine zS [(77, .slice B i cB), (78, .int .i64 ((j : Nat) : Int))] ?_
         refine stv (v := .pointer (some ⟨w62.heap.size, j, none⟩)) (by rfl) (R_idxP0 (k := .i64) (len := 3) (e := 3) j (by kernel_rfl) (by kernel_rfl) (by kernel_rfl) (by kernel_rfl) rfl (by have := kids_len n; omega)) ?_
         refine zL (.int .i64 (((kidsN n).getD j 0 : Nat) : Int)) ((hP9.cell _).trans (nats_atP (by first | omega | (simp only [List.length_set, List.length_map]; omega)))) ?_
         refine stv (v := ptrAt B ((kidsN n).getD j 0)) (by rfl) (R_indexRd1 (len := i) (cap := cB) (k := .i64) (i := (((kidsN n).getD j 0 : Nat) : Int)) (e := 4) ((kidsN n).getD j 0) hFr (by kernel_rfl) (by kernel_rfl) (by kernel_rfl) (by kernel_rfl) rfl (by omega)) ?_
         refine stv (v := .bool (fitB N ((kidsN n).getD j 0))) (by rfl) (R_loadRd (v := .bool (fitB N ((kidsN n).getD j 0))) hFr (by omega) (by kernel_rfl) (by kernel_rfl) (fl_at hkj)) ?_
         refine zS [(83, .bool (!(fitB N ((kidsN n).getD j 0))))] ?_
         refine zO (!(fitB N ((kidsN n).getD j 0))) (fun hc75 => ?_) (fun hc75 => ?_)
         ·
          replace hc75 : fitB N ((kidsN n).getD j 0) = false := ((not_t hc75))
          refine W_seq ?_
          refine zF [(1, .slice A i cA), (2, .slice B i cB), (8, .string (bsT sx)), (9, .pointer (some ⟨w62.heap.size, 0, none⟩)), (10, .int .i64 (((kidsN n).length : Nat) : Int)), (11, .int .i64 ((j : Nat) : Int)), (74, .bool (decide (((j : Nat) : Int) < (((kidsN n).length : Nat) : Int)))), (83, .bool (!(fitB N ((kidsN n).getD j 0))))] fun ρ => ?_
          refine zR ?_
          refine zS [(6, .string (bsT ([]))), (7, .bool false)] ?_
          refine op_nil ?_
          refine W_ret ?_
          refine ⟨_, Res_of (v := .tuple #[.string (bsT ([])), .bool false]) (by kernel_rfl), ?_⟩
          have hl := txt_kid hni hn (by omega) (by omega) (j := j) (by omega)
          have hk9 := fit_ex (by assumption)
          rw [fit_gt (N := N) (i := i) (by omega)]
          exact ⟨_, rfl, fun h => by simp at h, hT0⟩
         ·
          replace hc75 : fitB N ((kidsN n).getD j 0) = true := ((not_f hc75))
          refine W_skip ?_
          refine zF [(1, .slice A i cA), (2, .slice B i cB), (8, .string (bsT sx)), (9, .pointer (some ⟨w62.heap.size, 0, none⟩)), (10, .int .i64 (((kidsN n).length : Nat) : Int)), (11, .int .i64 ((j : Nat) : Int)), (74, .bool (decide (((j : Nat) : Int) < (((kidsN n).length : Nat) : Int)))), (83, .bool (!(fitB N ((kidsN n).getD j 0))))] fun ρ => ?_
          refine zR ?_
          refine zS [(84, .string (bsT sx))] ?_
          refine stv (v := .string (bsT (sx ++ ([32])))) (by rfl) (R_sadd (a := sx) (b := [32]) (by kernel_rfl) (by kernel_rfl) (by first | omega | (simp only [List.length_append, List.length_cons, List.length_nil]; have := wordT_len (nO n).toNat; have := @dgs_20 (nB n).toNat; have := @dgs_20 (nW n).toNat; have := @dgs_20 (nA n).toNat; have := @dgs_20 (nV n).toNat; unfold u64 at hV; omega))) ?_
          refine zS [(86, .slice A i cA), (87, .int .i64 ((j : Nat) : Int))] ?_
          refine stv (v := .pointer (some ⟨w62.heap.size, j, none⟩)) (by rfl) (R_idxP0 (k := .i64) (len := 3) (e := 3) j (by kernel_rfl) (by kernel_rfl) (by kernel_rfl) (by kernel_rfl) rfl (by have := kids_len n; omega)) ?_
          refine zL (.int .i64 (((kidsN n).getD j 0 : Nat) : Int)) ((hP9.cell _).trans (nats_atP (by first | omega | (simp only [List.length_set, List.length_map]; omega)))) ?_
          refine stv (v := ptrAt A ((kidsN n).getD j 0)) (by rfl) (R_indexRd1 (len := i) (cap := cA) (k := .i64) (i := (((kidsN n).getD j 0 : Nat) : Int)) (e := 9) ((kidsN n).getD j 0) hAr (by kernel_rfl) (by kernel_rfl) (by kernel_rfl) (by kernel_rfl) rfl (by omega)) ?_
          refine stv (v := .string (bsT (dtx N ((kidsN n).getD j 0)))) (by rfl) (R_loadRd (v := .string (bsT (dtx N ((kidsN n).getD j 0)))) hAr (by omega) (by kernel_rfl) (by kernel_rfl) (rl_at hkj)) ?_
          refine stv (v := .string (bsT ((sx ++ ([32])) ++ (dtx N ((kidsN n).getD j 0))))) (by rfl) (R_sadd (a := sx ++ ([32])) (b := dtx N ((kidsN n).getD j 0)) (by kernel_rfl) (by kernel_rfl) (by first | omega | (simp only [List.length_append, List.length_cons, List.length_nil]; have := wordT_len (nO n).toNat; have := @dgs_20 (nB n).toNat; have := @dgs_20 (nW n).toNat; have := @dgs_20 (nA n).toNat; have := @dgs_20 (nV n).toNat; unfold u64 at hV; omega))) ?_
          refine zS [(8, .string (bsT ((sx ++ ([32])) ++ (dtx N ((kidsN n).getD j 0)))))] ?_
          refine op_nil ?_
          refine zF [(1, .slice A i cA), (2, .slice B i cB), (8, .string (bsT ((sx ++ ([32])) ++ (dtx N ((kidsN n).getD j 0))))), (9, .pointer (some ⟨w62.heap.size, 0, none⟩)), (10, .int .i64 (((kidsN n).length : Nat) : Int)), (11, .int .i64 ((j : Nat) : Int)), (74, .bool (decide (((j : Nat) : Int) < (((kidsN n).length : Nat) : Int)))), (83, .bool (!(fitB N ((kidsN n).getD j 0))))] fun ρ => ?_
          refine zR ?_
          refine zS [(75, .int .i64 ((j : Nat) : Int)), (76, .int .i64 (IntKind.i64.wrap (((j : Nat) : Int) + 1)))] ?_
          rw [show IntKind.i64.wrap (((j : Nat) : Int) + 1) = ((j : Nat) : Int) + 1 from wrap_i64 (by omega) (by omega)]
          refine fixR (y := ((j + 1 : Nat) : Int)) (by omega) ?_
          refine zS [(11, .int .i64 ((j + 1 : Nat) : Int))] ?_
          refine op_nil ?_
          refine ⟨_, (by omega), (sx ++ ([32])) ++ (dtx N ((kidsN n).getD j 0)), j + 1, _, updL_self (by kernel_rfl), (by omega), (by rw [preT_step (by omega), ← hs, dtx_t (by assumption)]), (by simp only [List.length_append, List.length_cons, List.length_nil]; omega), hT0, hP9, hAr, hFr, rfl⟩
        ·
         replace hc74 : (((kidsN n).length : Nat) : Int) ≤ ((j : Nat) : Int) := (Int.not_lt.1 (of_decide_eq_false hc74))
         refine W_exit ?_
         refine X_hit ?_
         refine zQ ?_
         refine zS [(93, .string (bsT sx))] ?_
         refine stv (v := .string (bsT (sx ++ ([41])))) (by rfl) (R_sadd (a := sx) (b := [41]) (by kernel_rfl) (by kernel_rfl) (by first | omega | (simp only [List.length_append, List.length_cons, List.length_nil]; have := wordT_len (nO n).toNat; have := @dgs_20 (nB n).toNat; have := @dgs_20 (nW n).toNat; have := @dgs_20 (nA n).toNat; have := @dgs_20 (nV n).toNat; unfold u64 at hV; omega))) ?_
         refine zS [(8, .string (bsT (sx ++ ([41]))))] ?_
         refine op_nil ?_
         refine zQ ?_
         refine zS [(95, .string (bsT (sx ++ ([41])))), (96, .string (bsT (sx ++ ([41])))), (97, .int .i64 (((sx ++ ([41])).length : Nat) : Int)), (98, .bool (decide ((((sx ++ ([41])).length : Nat) : Int) ≤ 4096))), (6, .string (bsT (sx ++ ([41])))), (7, .bool (decide ((((sx ++ ([41])).length : Nat) : Int) ≤ 4096)))] ?_
         refine op_nil ?_
         refine W_ret ?_
         refine ⟨_, Res_of (v := .tuple #[.string (bsT (sx ++ ([41]))), .bool (decide ((((sx ++ ([41])).length : Nat) : Int) ≤ 4096))]) (by kernel_rfl), ?_⟩
         have e := preT_all hni hn (by omega) (by omega)
         rw [show (kidsN n).length = j by omega, ← hs] at e
         refine ⟨_, congrArg (fun z => Value.tuple #[.string (bsT (sx ++ [41])), .bool z]) ?_, fun _ => e.symm, hT0⟩
         unfold fitB; rw [e]; exact decide_eq_decide.2 (by omega)
     ·
      replace hb44 : nO n = 25 := (eq_of_beq hb44)
      refine zS [(57, undef), (58, undef), (59, undef), (60, .bool true)] ?_
      refine zO true (fun _ => ?_) (fun h => nomatch h)
      refine zF [(0, .agg #[.int .i64 (nO n), .int .i64 (nW n), .int .i64 (nA n), .int .i64 (nB n), .int .i64 (nC n), .int .u64 (nV n)]), (1, .slice A i cA), (2, .slice B i cB), (3, .pointer (some ⟨w.heap.size, 0, none⟩)), (6, .string (bsT ([]))), (7, .bool false), (8, .string (bsT (([40]) ++ (wordT (nO n).toNat)))), (13, .int .i64 (nO n)), (14, .bool ((nO n) == 20)), (24, .bool ((nO n) == 21)), (41, .bool false), (60, .bool true)] fun ρ => ?_
      refine zR ?_
      refine zS [(61, .string (bsT (([40]) ++ (wordT (nO n).toNat))))] ?_
      refine stv (v := .string (bsT ((([40]) ++ (wordT (nO n).toNat)) ++ ([32])))) (by rfl) (R_sadd (a := ([40]) ++ (wordT (nO n).toNat)) (b := [32]) (by kernel_rfl) (by kernel_rfl) (by first | omega | (simp only [List.length_append, List.length_cons, List.length_nil]; have := wordT_len (nO n).toNat; have := @dgs_20 (nB n).toNat; have := @dgs_20 (nW n).toNat; have := @dgs_20 (nA n).toNat; have := @dgs_20 (nV n).toNat; unfold u64 at hV; omega))) ?_
      refine zS [(63, .pointer (some ⟨w.heap.size, 1, none⟩))] ?_
      refine zL (.int .i64 (nW n)) ((hB4.cell 1).trans rfl) ?_
      refine zC (rnumberI_ok (nW n) _ (by omega) (by omega)) ?_
      rintro _ w76 ⟨rfl, hT77⟩
      have hT0 := hT0.t0 hT77
      have hAr := hA.tch0 hT0
      have hFr := hF.tch0 hT0
      have hB4 := hB4.tch0 hT77
      refine stv (v := .string (bsT (((([40]) ++ (wordT (nO n).toNat)) ++ ([32])) ++ (dgs (nW n).toNat)))) (by rfl) (R_sadd (a := (([40]) ++ (wordT (nO n).toNat)) ++ ([32])) (b := dgs (nW n).toNat) (by kernel_rfl) (by kernel_rfl) (by first | omega | (simp only [List.length_append, List.length_cons, List.length_nil]; have := wordT_len (nO n).toNat; have := @dgs_20 (nB n).toNat; have := @dgs_20 (nW n).toNat; have := @dgs_20 (nA n).toNat; have := @dgs_20 (nV n).toNat; unfold u64 at hV; omega))) ?_
      refine zS [(8, .string (bsT (((([40]) ++ (wordT (nO n).toNat)) ++ ([32])) ++ (dgs (nW n).toNat))))] ?_
      refine op_nil ?_
      refine zQ ?_
      refine st (by rfl) (S_val (v := .agg #[.int .i64 (nO n), .int .i64 (nW n), .int .i64 (nA n), .int .i64 (nB n), .int .i64 (nC n), .int .u64 (nV n)]) (R_loadA [.int .i64 (nO n), .int .i64 (nW n), .int .i64 (nA n), .int .i64 (nB n), .int .i64 (nC n), .int .u64 (nV n)] (by kernel_rfl) (by kernel_rfl) (by kernel_rfl) (fun k u hk => by rw [hB4.cell]; exact get_part _ 0 _ k u rfl hk)) ?_)
      refine zC (parts_ok N i n _ hn (by omega) (by omega)) ?_
      rintro _ w78 ⟨x, y, z, k, rfl, hk, hxyz, hT79⟩
      have hT0 := hT0.t0 hT79
      have hAr := hA.tch0 hT0
      have hFr := hF.tch0 hT0
      have hB4 := hB4.tch0 hT79
      refine zS [(67, .tuple #[.agg #[.int .i64 x, .int .i64 y, .int .i64 z], .int .i64 ((k : Nat) : Int)]), (70, .agg #[.int .i64 x, .int .i64 y, .int .i64 z]), (71, .int .i64 ((k : Nat) : Int))] ?_
      have z84 := hT0.size
      have l85 := hB4.lt
      refine st (by rfl) (S_new (v := .pointer (some ⟨w78.heap.size, 0, none⟩)) (ob := .cells #[.int .i64 0, .int .i64 0, .int .i64 0] 134) (by kernel_rfl) fun w80 hT81 hs82 hB83 => ?_)
      replace hB83 : Blk w80 (w78.heap.size) 134 [.int .i64 0, .int .i64 0, .int .i64 0] := hB83
      have hT0 := hT0.t0 hT81
      have hAr := hA.tch0 hT0
      have hFr := hF.tch0 hT0
      have hB4 := hB4.tch0 hT81
      refine st (by rfl) (S_storeA (b := w78.heap.size) (j := 0) (cs := [.int .i64 x, .int .i64 y, .int .i64 z]) (by kernel_rfl) (by kernel_rfl) (by kernel_rfl) (by simp [oneV]) hB83 (by simp) fun w86 hT87 hs88 hB83' => ?_)
      have hT0 := (hT0).then hT87 (fun c e => by have : c = w78.heap.size := e; omega)
      have hAr := hA.tch0 hT0
      have hFr := hF.tch0 hT0
      have hB4 := hB4.tch hT87 (hB4.ne hB83 (by decide))
      replace hB83 : Blk w86 w78.heap.size 134 [.int .i64 x, .int .i64 y, .int .i64 z] := hB83'
      refine zS [(10, .int .i64 ((k : Nat) : Int))] ?_
      refine op_nil ?_
      refine W_seq ?_
      refine W_seq ?_
      refine zF [(0, .agg #[.int .i64 (nO n), .int .i64 (nW n), .int .i64 (nA n), .int .i64 (nB n), .int .i64 (nC n), .int .u64 (nV n)]), (1, .slice A i cA), (2, .slice B i cB), (3, .pointer (some ⟨w.heap.size, 0, none⟩)), (6, .string (bsT ([]))), (7, .bool false), (8, .string (bsT (((([40]) ++ (wordT (nO n).toNat)) ++ ([32])) ++ (dgs (nW n).toNat)))), (9, .pointer (some ⟨w78.heap.size, 0, none⟩)), (10, .int .i64 ((k : Nat) : Int)), (13, .int .i64 (nO n)), (14, .bool ((nO n) == 20)), (24, .bool ((nO n) == 21)), (41, .bool false), (60, .bool true)] fun ρ => ?_
      refine zR ?_
      refine zS [(11, .int .i64 0)] ?_
      refine op_nil ?_
      refine W_block ?_
      subst hk
      rw [hxyz] at hB83
      have hhd : ((([40]) ++ (wordT (nO n).toNat)) ++ ([32])) ++ (dgs (nW n).toNat) = hdT n := by unfold hdT; first | (rw [mid23 (by omega)]; simp only [List.append_assoc]) | (rw [mid25 (by omega)]; simp only [List.append_assoc]) | (rw [mid0 (by omega) (by omega)]; simp only [List.append_assoc, List.append_nil])
      have hhl := hd_len (fun e => (hn.pos (by omega) (by omega)).2.1 (by omega)) (by omega) hw
      refine W_loop (fun m ρ w' => ∃ (sx : Tx) (j : Nat) (ρ0 : Env), ρ = updL ρ0 [(1, .slice A i cA), (2, .slice B i cB), (8, .string (bsT sx)), (9, .pointer (some ⟨w78.heap.size, 0, none⟩)), (10, .int .i64 (((kidsN n).length : Nat) : Int)), (11, .int .i64 ((j : Nat) : Int))] ∧ (j ≤ (kidsN n).length) ∧ (sx = preT N n j) ∧ (sx.length ≤ 200 + 4097 * j) ∧ Tch N0 w w' ∧ Blk w' (w78.heap.size) 134 (nats (kidsN n) ++ pdN n) ∧ RdW w' 1 i A (txs (rl N i)) ∧ RdW w' 1 i B (boolsV (fl N i)) ∧ m = (kidsN n).length - j) (m := (kidsN n).length - 0) ?_ ?_
      ·
       refine ⟨((([40]) ++ (wordT (nO n).toNat)) ++ ([32])) ++ (dgs (nW n).toNat), 0, _, updL_self (by kernel_rfl), by omega, (by rw [preT_0]; exact hhd), (by rw [hhd]; omega), hT0, hB83, hAr, hFr, rfl⟩
      ·
       rintro m ρ w89 ⟨sx, j, ρ, rfl, hj, hs, hsl, hT0, hP9, hAr, hFr, rfl⟩
       refine W_seq ?_
       refine zQ ?_
       refine zS [(72, .int .i64 ((j : Nat) : Int)), (73, .int .i64 (((kidsN n).length : Nat) : Int)), (74, .bool (decide (((j : Nat) : Int) < (((kidsN n).length : Nat) : Int))))] ?_
       refine zO (decide (((j : Nat) : Int) < (((kidsN n).length : Nat) : Int))) (fun hc90 => ?_) (fun hc90 => ?_)
       ·
        replace hc90 : ((j : Nat) : Int) < (((kidsN n).length : Nat) : Int) := (of_decide_eq_true hc90)
        refine W_skip ?_
        refine W_seq ?_
        refine W_block ?_
        refine W_seq ?_
        refine W_seq ?_
        have hkj := kid_lt hn (j := j) (by omega)
        have hdl := dtx_le N ((kidsN n).getD j 0)
        refine zR ?_
        refine zS [(77, .slice B i cB), (78, .int .i64 ((j : Nat) : Int))] ?_
        refine stv (v := .pointer (some ⟨w78.heap.size, j, none⟩)) (by rfl) (R_idxP0 (k := .i64) (len := 3) (e := 3) j (by kernel_rfl) (by kernel_rfl) (by kernel_rfl) (by kernel_rfl) rfl (by have := kids_len n; omega)) ?_
        refine zL (.int .i64 (((kidsN n).getD j 0 : Nat) : Int)) ((hP9.cell _).trans (nats_atP (by first | omega | (simp only [List.length_set, List.length_map]; omega)))) ?_
        refine stv (v := ptrAt B ((kidsN n).getD j 0)) (by rfl) (R_indexRd1 (len := i) (cap := cB) (k := .i64) (i := (((kidsN n).getD j 0 : Nat) : Int)) (e := 4) ((kidsN n).getD j 0) hFr (by kernel_rfl) (by kernel_rfl) (by kernel_rfl) (by kernel_rfl) rfl (by omega)) ?_
        refine stv (v := .bool (fitB N ((kidsN n).getD j 0))) (by rfl) (R_loadRd (v := .bool (fitB N ((kidsN n).getD j 0))) hFr (by omega) (by kernel_rfl) (by kernel_rfl) (fl_at hkj)) ?_
        refine zS [(83, .bool (!(fitB N ((kidsN n).getD j 0))))] ?_
        refine zO (!(fitB N ((kidsN n).getD j 0))) (fun hc91 => ?_) (fun hc91 => ?_)
        ·
         replace hc91 : fitB N ((kidsN n).getD j 0) = false := ((not_t hc91))
         refine W_seq ?_
         refine zF [(1, .slice A i cA), (2, .slice B i cB), (8, .string (bsT sx)), (9, .pointer (some ⟨w78.heap.size, 0, none⟩)), (10, .int .i64 (((kidsN n).length : Nat) : Int)), (11, .int .i64 ((j : Nat) : Int)), (74, .bool (decide (((j : Nat) : Int) < (((kidsN n).length : Nat) : Int)))), (83, .bool (!(fitB N ((kidsN n).getD j 0))))] fun ρ => ?_
         refine zR ?_
         refine zS [(6, .string (bsT ([]))), (7, .bool false)] ?_
         refine op_nil ?_
         refine W_ret ?_
         refine ⟨_, Res_of (v := .tuple #[.string (bsT ([])), .bool false]) (by kernel_rfl), ?_⟩
         have hl := txt_kid hni hn (by omega) (by omega) (j := j) (by omega)
         have hk9 := fit_ex (by assumption)
         rw [fit_gt (N := N) (i := i) (by omega)]
         exact ⟨_, rfl, fun h => by simp at h, hT0⟩
        ·
         replace hc91 : fitB N ((kidsN n).getD j 0) = true := ((not_f hc91))
         refine W_skip ?_
         refine zF [(1, .slice A i cA), (2, .slice B i cB), (8, .string (bsT sx)), (9, .pointer (some ⟨w78.heap.size, 0, none⟩)), (10, .int .i64 (((kidsN n).length : Nat) : Int)), (11, .int .i64 ((j : Nat) : Int)), (74, .bool (decide (((j : Nat) : Int) < (((kidsN n).length : Nat) : Int)))), (83, .bool (!(fitB N ((kidsN n).getD j 0))))] fun ρ => ?_
         refine zR ?_
         refine zS [(84, .string (bsT sx))] ?_
         refine stv (v := .string (bsT (sx ++ ([32])))) (by rfl) (R_sadd (a := sx) (b := [32]) (by kernel_rfl) (by kernel_rfl) (by first | omega | (simp only [List.length_append, List.length_cons, List.length_nil]; have := wordT_len (nO n).toNat; have := @dgs_20 (nB n).toNat; have := @dgs_20 (nW n).toNat; have := @dgs_20 (nA n).toNat; have := @dgs_20 (nV n).toNat; unfold u64 at hV; omega))) ?_
         refine zS [(86, .slice A i cA), (87, .int .i64 ((j : Nat) : Int))] ?_
         refine stv (v := .pointer (some ⟨w78.heap.size, j, none⟩)) (by rfl) (R_idxP0 (k := .i64) (len := 3) (e := 3) j (by kernel_rfl) (by kernel_rfl) (by kernel_rfl) (by kernel_rfl) rfl (by have := kids_len n; omega)) ?_
         refine zL (.int .i64 (((kidsN n).getD j 0 : Nat) : Int)) ((hP9.cell _).trans (nats_atP (by first | omega | (simp only [List.length_set, List.length_map]; omega)))) ?_
         refine stv (v := ptrAt A ((kidsN n).getD j 0)) (by rfl) (R_indexRd1 (len := i) (cap := cA) (k := .i64) (i := (((kidsN n).getD j 0 : Nat) : Int)) (e := 9) ((kidsN n).getD j 0) hAr (by kernel_rfl) (by kernel_rfl) (by kernel_rfl) (by kernel_rfl) rfl (by omega)) ?_
         refine stv (v := .string (bsT (dtx N ((kidsN n).getD j 0)))) (by rfl) (R_loadRd (v := .string (bsT (dtx N ((kidsN n).getD j 0)))) hAr (by omega) (by kernel_rfl) (by kernel_rfl) (rl_at hkj)) ?_
         refine stv (v := .string (bsT ((sx ++ ([32])) ++ (dtx N ((kidsN n).getD j 0))))) (by rfl) (R_sadd (a := sx ++ ([32])) (b := dtx N ((kidsN n).getD j 0)) (by kernel_rfl) (by kernel_rfl) (by first | omega | (simp only [List.length_append, List.length_cons, List.length_nil]; have := wordT_len (nO n).toNat; have := @dgs_20 (nB n).toNat; have := @dgs_20 (nW n).toNat; have := @dgs_20 (nA n).toNat; have := @dgs_20 (nV n).toNat; unfold u64 at hV; omega))) ?_
         refine zS [(8, .string (bsT ((sx ++ ([32])) ++ (dtx N ((kidsN n).getD j 0)))))] ?_
         refine op_nil ?_
         refine zF [(1, .slice A i cA), (2, .slice B i cB), (8, .string (bsT ((sx ++ ([32])) ++ (dtx N ((kidsN n).getD j 0))))), (9, .pointer (some ⟨w78.heap.size, 0, none⟩)), (10, .int .i64 (((kidsN n).length : Nat) : Int)), (11, .int .i64 ((j : Nat) : Int)), (74, .bool (decide (((j : Nat) : Int) < (((kidsN n).length : Nat) : Int)))), (83, .bool (!(fitB N ((kidsN n).getD j 0))))] fun ρ => ?_
         refine zR ?_
         refine zS [(75, .int .i64 ((j : Nat) : Int)), (76, .int .i64 (IntKind.i64.wrap (((j : Nat) : Int) + 1)))] ?_
         rw [show IntKind.i64.wrap (((j : Nat) : Int) + 1) = ((j : Nat) : Int) + 1 from wrap_i64 (by omega) (by omega)]
         refine fixR (y := ((j + 1 : Nat) : Int)) (by omega) ?_
         refine zS [(11, .int .i64 ((j + 1 : Nat) : Int))] ?_
         refine op_nil ?_
         refine ⟨_, (by omega), (sx ++ ([32])) ++ (dtx N ((kidsN n).getD j 0)), j + 1, _, updL_self (by kernel_rfl), (by omega), (by rw [preT_step (by omega), ← hs, dtx_t (by assumption)]), (by simp only [List.length_append, List.length_cons, List.length_nil]; omega), hT0, hP9, hAr, hFr, rfl⟩
       ·
        replace hc90 : (((kidsN n).length : Nat) : Int) ≤ ((j : Nat) : Int) := (Int.not_lt.1 (of_decide_eq_false hc90))
        refine W_exit ?_
        refine X_hit ?_
        refine zQ ?_
        refine zS [(93, .string (bsT sx))] ?_
        refine stv (v := .string (bsT (sx ++ ([41])))) (by rfl) (R_sadd (a := sx) (b := [41]) (by kernel_rfl) (by kernel_rfl) (by first | omega | (simp only [List.length_append, List.length_cons, List.length_nil]; have := wordT_len (nO n).toNat; have := @dgs_20 (nB n).toNat; have := @dgs_20 (nW n).toNat; have := @dgs_20 (nA n).toNat; have := @dgs_20 (nV n).toNat; unfold u64 at hV; omega))) ?_
        refine zS [(8, .string (bsT (sx ++ ([41]))))] ?_
        refine op_nil ?_
        refine zQ ?_
        refine zS [(95, .string (bsT (sx ++ ([41])))), (96, .string (bsT (sx ++ ([41])))), (97, .int .i64 (((sx ++ ([41])).length : Nat) : Int)), (98, .bool (decide ((((sx ++ ([41])).length : Nat) : Int) ≤ 4096))), (6, .string (bsT (sx ++ ([41])))), (7, .bool (decide ((((sx ++ ([41])).length : Nat) : Int) ≤ 4096)))] ?_
        refine op_nil ?_
        refine W_ret ?_
        refine ⟨_, Res_of (v := .tuple #[.string (bsT (sx ++ ([41]))), .bool (decide ((((sx ++ ([41])).length : Nat) : Int) ≤ 4096))]) (by kernel_rfl), ?_⟩
        have e := preT_all hni hn (by omega) (by omega)
        rw [show (kidsN n).length = j by omega, ← hs] at e
        refine ⟨_, congrArg (fun z => Value.tuple #[.string (bsT (sx ++ [41])), .bool z]) ?_, fun _ => e.symm, hT0⟩
        unfold fitB; rw [e]; exact decide_eq_decide.2 (by omega)
    ·
     replace hb43 : nO n = 23 := (eq_of_beq hb43)
     exfalso; omega

end Go.Proofs.YtlbadnpgmkobdaaV

set_option linter.unusedVariables false
set_option linter.unusedSimpArgs false
namespace Go.Proofs.YtlbadnpgmkobdaaV
open Go Go.RowKit Go.Proofs

set_option maxRecDepth 100000 in
set_option maxHeartbeats 1000000 in
theorem rShow_ok (A : Option Addr) (cp : Nat) (most m2 : Int) (N : List Nd) (ix : Int) (w : World) (hD : Own w 0 32 6 (.slice A N.length cp) N.length (ncs N)) (hN : N.length ≤ 65536) (hJ : TJ N m2) (hB : TB N) : Ret Try.prog 23 [.agg #[.slice A N.length cp, .int .i64 most], .int .i64 ix] w fun v w' => v = .tuple #[.string (bsT (shF N ix)), .int .i64 (seF N ix)] ∧ Tch N0 w w' := by
 refine enter Try.func23 rfl rfl ?_
 refine zQ ?_
 have lR_hD := hD.lt
 refine st (by rfl) (S_new (v := .pointer (some ⟨w.heap.size, 0, none⟩)) (ob := .cells #[.slice A N.length cp, .int .i64 most] 27) (by kernel_rfl) fun w1 hT2 hs3 hB4 => ?_)
 replace hB4 : Blk w1 (w.heap.size) 27 [.slice A N.length cp, .int .i64 most] := hB4
 have hT0 := hT2
 have hD := hD.tch0 hT2
 refine zS [(4, .string (bsT ([]))), (5, .int .i64 0)] ?_
 refine op_nil ?_
 refine W_seq ?_
 refine zQ ?_
 refine st (by rfl) (S_val (v := .agg #[.slice A N.length cp, .int .i64 most]) (R_loadA [.slice A N.length cp, .int .i64 most] (by kernel_rfl) (by kernel_rfl) (by kernel_rfl) (fun k u hk => by rw [hB4.cell]; exact get_part _ 0 _ k u rfl hk)) ?_)
 refine zS [(12, .int .i64 ix)] ?_
 refine zC (ris_ok A cp most N ix _ hD) ?_
 rintro _ w5 ⟨rfl, hT6⟩
 have hT0 := hT0.t0 hT6
 have hD := hD.tch0 hT6
 have hB4 := hB4.tch0 hT6
 refine zS [(14, .bool (!(isT N ix)))] ?_
 refine zO (!(isT N ix)) (fun hc7 => ?_) (fun hc7 => ?_)
 ·
  replace hc7 : ¬ (0 ≤ ix ∧ ix < (N.length : Int)) := (of_decide_eq_false (not_t hc7))
  refine zQ ?_
  refine zS [(4, .string (bsT ([]))), (5, .int .i64 11)] ?_
  refine op_nil ?_
  refine W_ret ?_
  refine ⟨_, Res_of (v := .tuple #[.string (bsT ([])), .int .i64 11]) (by kernel_rfl), ?_⟩
  rw [(sh_out (by first | assumption | (unfold isT; exact decide_eq_false (by omega)))).1, (sh_out (N := N) (x := ix) (by first | assumption | (unfold isT; exact decide_eq_false (by omega)))).2]
  exact ⟨rfl, hT0⟩
 ·
  replace hc7 : 0 ≤ ix ∧ ix < (N.length : Int) := (of_decide_eq_true (not_f hc7))
  refine W_skip ?_
  refine zQ ?_
  refine zS [(6, .slice none 0 0)] ?_
  refine op_nil ?_
  refine W_seq ?_
  refine zF [(0, .agg #[.slice A N.length cp, .int .i64 most]), (1, .int .i64 ix), (2, .pointer (some ⟨w.heap.size, 0, none⟩)), (4, .string (bsT ([]))), (5, .int .i64 0), (6, .slice none 0 0), (14, .bool (!(isT N ix)))] fun ρ => ?_
  refine zR ?_
  refine zS [(7, .slice none 0 0)] ?_
  refine op_nil ?_
  refine W_seq ?_
  refine zQ ?_
  refine zS [(8, .int .i64 0)] ?_
  refine op_nil ?_
  refine W_block ?_
  have hgQ : w.heap.size ≤ w.heap.size := by omega
  refine W_loop (fun m ρ w' => ∃ (B : Option Addr) (cb : Nat) (C : Option Addr) (cc i : Nat) (ρ0 : Env), ρ = updL ρ0 [(1, .int .i64 ix), (2, .pointer (some ⟨w.heap.size, 0, none⟩)), (6, .slice B i cb), (7, .slice C i cc), (8, .int .i64 ((i : Nat) : Int))] ∧ ((i : Int) ≤ ix + 1) ∧ (∀ c, (Value.slice B i cb).ownBlock = some c → w.heap.size ≤ c) ∧ (∀ c, (Value.slice C i cc).ownBlock = some c → w.heap.size ≤ c) ∧ Tch N0 w w' ∧ Own w' 0 32 6 (.slice A N.length cp) N.length (ncs N) ∧ Blk w' (w.heap.size) 27 [.slice A N.length cp, .int .i64 most] ∧ Own w' 0 9 1 (.slice B i cb) i (txs (rl N i)) ∧ Own w' 0 4 1 (.slice C i cc) i (boolsV (fl N i)) ∧ m = (ix + 1).toNat - i) (m := (ix + 1).toNat - 0) ?_ ?_
  ·
   refine ⟨none, 0, none, 0, 0, _, updL_self (by kernel_rfl), by omega, (fun c h => by cases h), (fun c h => by cases h), hT0, hD, hB4, (Own.nil_ _ _ _ _), (Own.nil_ _ _ _ _), rfl⟩
  ·
   rintro m ρ w8 ⟨B, cb, C, cc, i, ρ, rfl, hi, nB_hS, nB_hF, hT0, hD, hQ, hS, hF, rfl⟩
   refine W_seq ?_
   refine zQ ?_
   refine zS [(15, .int .i64 ((i : Nat) : Int)), (16, .int .i64 ix), (17, .bool (decide (((i : Nat) : Int) ≤ ix)))] ?_
   refine zO (decide (((i : Nat) : Int) ≤ ix)) (fun hc9 => ?_) (fun hc9 => ?_)
   ·
    replace hc9 : ((i : Nat) : Int) ≤ ix := (of_decide_eq_true hc9)
    refine W_skip ?_
    refine W_seq ?_
    refine W_block ?_
    refine zQ ?_
    refine zS [(21, .pointer (some ⟨w.heap.size, 0, none⟩))] ?_
    refine zL (.slice A N.length cp) ((hQ.cell 0).trans rfl) ?_
    refine zS [(23, .int .i64 ((i : Nat) : Int))] ?_
    refine stv (v := ptrAt A (i * 6)) (by rfl) (R_indexRd (sz := 6) (len := N.length) (cap := cp) (k := .i64) (i := ((i : Nat) : Int)) (e := 32) i hD.rdS (by kernel_rfl) (by kernel_rfl) (by kernel_rfl) (by kernel_rfl) rfl (by omega)) ?_
    refine stv (v := .agg #[.int .i64 (nO (nth N i)), .int .i64 (nW (nth N i)), .int .i64 (nA (nth N i)), .int .i64 (nB (nth N i)), .int .i64 (nC (nth N i)), .int .u64 (nV (nth N i))]) (by rfl) (R_loadRdA [.int .i64 (nO (nth N i)), .int .i64 (nW (nth N i)), .int .i64 (nA (nth N i)), .int .i64 (nB (nth N i)), .int .i64 (nC (nth N i)), .int .u64 (nV (nth N i))] hD.rdS (by omega) (by kernel_rfl) (by kernel_rfl) (by kernel_rfl) (ncs_part N (by omega))) ?_
    refine zS [(26, .slice B i cb), (27, .slice C i cc)] ?_
    refine zC (rshow_ok N i cb cc _ B C _ rfl (hB i (by omega)) (hJ.wr _ (nth_mem (by omega))) (hJ.ti.wf _ (nth_mem (by omega))) hS.rdS hF.rdS) ?_
    rintro _ w10 ⟨s1, rfl, he1, hT11⟩
    have hT0 := hT0.t0 hT11
    have hD := hD.tch0 hT11
    have hQ := hQ.tch0 hT11
    have hS := hS.tch0 hT11
    have hF := hF.tch0 hT11
    refine zS [(20, .tuple #[.string (bsT s1), .bool (fitB N i)]), (29, .string (bsT s1)), (30, .bool (fitB N i)), (9, .string (bsT s1)), (10, .bool (fitB N i))] ?_
    refine op_nil ?_
    refine W_seq ?_
    refine W_seq ?_
    refine zF [(1, .int .i64 ix), (2, .pointer (some ⟨w.heap.size, 0, none⟩)), (6, .slice B i cb), (7, .slice C i cc), (8, .int .i64 ((i : Nat) : Int)), (9, .string (bsT s1)), (10, .bool (fitB N i)), (17, .bool (decide (((i : Nat) : Int) ≤ ix)))] fun ρ => ?_
    refine zR ?_
    refine zS [(31, .bool (fitB N i)), (32, .bool (!(fitB N i)))] ?_
    refine zO (!(fitB N i)) (fun hc12 => ?_) (fun hc12 => ?_)
    ·
     replace hc12 : fitB N i = false := ((not_t hc12))
     refine zR ?_
     refine zS [(9, .string (bsT ([])))] ?_
     refine op_nil ?_
     refine zQ ?_
     refine zS [(33, .slice B i cb), (34, .string (bsT ([])))] ?_
     have hz17 := hT0.size
     have lR_hD := hD.lt
     have lt18 := hQ.lt
     have lR_hS := hS.lt
     have lR_hF := hF.lt
     have z19 := hT0.size
     have l20 := hQ.lt
     refine st (by rfl) (S_new (v := .slice (some ⟨w10.heap.size, 0, none⟩) 1 1) (ob := .cells #[.string (bsT ([]))] 9) (by kernel_rfl) fun w13 hT14 hs15 hB16 => ?_)
     replace hB16 : Blk w13 (w10.heap.size) 9 [.string (bsT ([]))] := hB16
     have hT0 := hT0.t0 hT14
     have hD := hD.tch0 hT14
     have hQ := hQ.tch0 hT14
     have hS := hS.tch0 hT14
     have hF := hF.tch0 hT14
     have hz_ := hT0.size
     have lR_hD := hD.lt
     have lR_hS := hS.lt
     have lR_hF := hF.lt
     refine st (by rfl) (S_appendR 88 9 (.string (bsT ([]))) 1 16 (n := i) (m := 1) (A := B) (cp := cb) (cells := txs (rl N i)) (news := [.string (bsT ([]))]) (b := w10.heap.size) (off := 0) (c := 1) (by kernel_rfl) (by kernel_rfl) (by decide) (by kernel_rfl) (by kernel_rfl) (by kernel_rfl) hS (by rfl) (fun k u hk => by rw [Nat.zero_add, hB16.cell]; exact hk) (by simp [oneV]) (by simp only [maxLen]; omega) (by omega) fun A21 cp22 w23 hO24 hw25 hT26 => ?_)
     have hT0 := (hT0).then hT26 nB_hS
     have hD := hD.tch hT26 (fun c hc e => Own.ne_own hD hS (by decide) c hc e)
     have hQ := hQ.tch hT26 (fun e => hS.blk_ne hQ (by decide) _ e rfl)
     have hF := hF.tch hT26 (fun c hc e => Own.ne_own hF hS (by decide) c hc e)
     have hS : Own w23 0 9 1 (.slice A21 (i + 1) cp22) (i + 1) (txs (rl N i) ++ [.string (bsT ([]))]) := hO24
     have nB_hS : ∀ c, (Value.slice A21 (i + 1) cp22).ownBlock = some c → w.heap.size ≤ c := fun c hc => (hw25 c hc).elim (nB_hS c) (fun q => by omega)
     refine zS [(6, .slice A21 (i + 1) cp22)] ?_
     refine op_nil ?_
     refine zF [(1, .int .i64 ix), (2, .pointer (some ⟨w.heap.size, 0, none⟩)), (6, .slice A21 (i + 1) cp22), (7, .slice C i cc), (8, .int .i64 ((i : Nat) : Int)), (9, .string (bsT ([]))), (10, .bool (fitB N i)), (17, .bool (decide (((i : Nat) : Int) ≤ ix))), (32, .bool (!(fitB N i)))] fun ρ => ?_
     refine zR ?_
     refine zS [(37, .slice C i cc), (38, .bool (fitB N i))] ?_
     have hz31 := hT0.size
     have lR_hD := hD.lt
     have lt32 := hQ.lt
     have lR_hS := hS.lt
     have lR_hF := hF.lt
     have z33 := hT0.size
     have l34 := hQ.lt
     refine st (by rfl) (S_new (v := .slice (some ⟨w23.heap.size, 0, none⟩) 1 1) (ob := .cells #[.bool (fitB N i)] 4) (by kernel_rfl) fun w27 hT28 hs29 hB30 => ?_)
     replace hB30 : Blk w27 (w23.heap.size) 4 [.bool (fitB N i)] := hB30
     have hT0 := hT0.t0 hT28
     have hD := hD.tch0 hT28
     have hQ := hQ.tch0 hT28
     have hS := hS.tch0 hT28
     have hF := hF.tch0 hT28
     have hz_ := hT0.size
     have lR_hD := hD.lt
     have lR_hS := hS.lt
     have lR_hF := hF.lt
     refine st (by rfl) (S_appendR 89 4 (.bool false) 1 1 (n := i) (m := 1) (A := C) (cp := cc) (cells := boolsV (fl N i)) (news := [.bool (fitB N i)]) (b := w23.heap.size) (off := 0) (c := 1) (by kernel_rfl) (by kernel_rfl) (by decide) (by kernel_rfl) (by kernel_rfl) (by kernel_rfl) hF (by rfl) (fun k u hk => by rw [Nat.zero_add, hB30.cell]; exact hk) (by simp [oneV]) (by simp only [maxLen]; omega) (by omega) fun A35 cp36 w37 hO38 hw39 hT40 => ?_)
     have hT0 := (hT0).then hT40 nB_hF
     have hD := hD.tch hT40 (fun c hc e => Own.ne_own hD hF (by decide) c hc e)
     have hQ := hQ.tch hT40 (fun e => hF.blk_ne hQ (by decide) _ e rfl)
     have hS := hS.tch hT40 (fun c hc e => Own.ne_own hS hF (by decide) c hc e)
     have hF : Own w37 0 4 1 (.slice A35 (i + 1) cp36) (i + 1) (boolsV (fl N i) ++ [.bool (fitB N i)]) := hO38
     have nB_hF : ∀ c, (Value.slice A35 (i + 1) cp36).ownBlock = some c → w.heap.size ≤ c := fun c hc => (hw39 c hc).elim (nB_hF c) (fun q => by omega)
     refine zS [(7, .slice A35 (i + 1) cp36)] ?_
     refine op_nil ?_
     refine zR ?_
     refine zS [(18, .int .i64 ((i : Nat) : Int)), (19, .int .i64 (IntKind.i64.wrap (((i : Nat) : Int) + 1)))] ?_
     rw [show IntKind.i64.wrap (((i : Nat) : Int) + 1) = ((i : Nat) : Int) + 1 from wrap_i64 (by omega) (by omega)]
     refine fixR (y := ((i + 1 : Nat) : Int)) (by omega) ?_
     refine zS [(8, .int .i64 ((i + 1 : Nat) : Int))] ?_
     refine op_nil ?_
     refine ⟨_, ?_, A21, cp22, A35, cp36, i + 1, _, updL_self (by kernel_rfl), ?_, nB_hS, nB_hF, hT0, hD, hQ, (by rw [rl_succ, txs_app, dtx_f (by assumption)]; exact hS), (by rw [fl_succ, boolsV_append]; exact hF), rfl⟩
     ·
      omega
     ·
      omega
    ·
     replace hc12 : fitB N i = true := ((not_f hc12))
     refine W_skip ?_
     refine zQ ?_
     refine zS [(33, .slice B i cb), (34, .string (bsT s1))] ?_
     have hz45 := hT0.size
     have lR_hD := hD.lt
     have lt46 := hQ.lt
     have lR_hS := hS.lt
     have lR_hF := hF.lt
     have z47 := hT0.size
     have l48 := hQ.lt
     refine st (by rfl) (S_new (v := .slice (some ⟨w10.heap.size, 0, none⟩) 1 1) (ob := .cells #[.string (bsT s1)] 9) (by kernel_rfl) fun w41 hT42 hs43 hB44 => ?_)
     replace hB44 : Blk w41 (w10.heap.size) 9 [.string (bsT s1)] := hB44
     have hT0 := hT0.t0 hT42
     have hD := hD.tch0 hT42
     have hQ := hQ.tch0 hT42
     have hS := hS.tch0 hT42
     have hF := hF.tch0 hT42
     have hz_ := hT0.size
     have lR_hD := hD.lt
     have lR_hS := hS.lt
     have lR_hF := hF.lt
     refine st (by rfl) (S_appendR 88 9 (.string (bsT ([]))) 1 16 (n := i) (m := 1) (A := B) (cp := cb) (cells := txs (rl N i)) (news := [.string (bsT s1)]) (b := w10.heap.size) (off := 0) (c := 1) (by kernel_rfl) (by kernel_rfl) (by decide) (by kernel_rfl) (by kernel_rfl) (by kernel_rfl) hS (by rfl) (fun k u hk => by rw [Nat.zero_add, hB44.cell]; exact hk) (by simp [oneV]) (by simp only [maxLen]; omega) (by omega) fun A49 cp50 w51 hO52 hw53 hT54 => ?_)
     have hT0 := (hT0).then hT54 nB_hS
     have hD := hD.tch hT54 (fun c hc e => Own.ne_own hD hS (by decide) c hc e)
     have hQ := hQ.tch hT54 (fun e => hS.blk_ne hQ (by decide) _ e rfl)
     have hF := hF.tch hT54 (fun c hc e => Own.ne_own hF hS (by decide) c hc e)
     have hS : Own w51 0 9 1 (.slice A49 (i + 1) cp50) (i + 1) (txs (rl N i) ++ [.string (bsT s1)]) := hO52
     have nB_hS : ∀ c, (Value.slice A49 (i + 1) cp50).ownBlock = some c → w.heap.size ≤ c := fun c hc => (hw53 c hc).elim (nB_hS c) (fun q => by omega)
     refine zS [(6, .slice A49 (i + 1) cp50)] ?_
     refine op_nil ?_
     refine zR ?_
     refine zS [(37, .slice C i cc), (38, .bool (fitB N i))] ?_
     have hz59 := hT0.size
     have lR_hD := hD.lt
     have lt60 := hQ.lt
     have lR_hS := hS.lt
     have lR_hF := hF.lt
     have z61 := hT0.size
     have l62 := hQ.lt
     refine st (by rfl) (S_new (v := .slice (some ⟨w51.heap.size, 0, none⟩) 1 1) (ob := .cells #[.bool (fitB N i)] 4) (by kernel_rfl) fun w55 hT56 hs57 hB58 => ?_)
     replace hB58 : Blk w55 (w51.heap.size) 4 [.bool (fitB N i)] := hB58
     have hT0 := hT0.t0 hT56
     have hD := hD.tch0 hT56
     have hQ := hQ.tch0 hT56
     have hS := hS.tch0 hT56
     have hF := hF.tch0 hT56
     have hz_ := hT0.size
     have lR_hD := hD.lt
     have lR_hS := hS.lt
     have lR_hF := hF.lt
     refine st (by rfl) (S_appendR 89 4 (.bool false) 1 1 (n := i) (m := 1) (A := C) (cp := cc) (cells := boolsV (fl N i)) (news := [.bool (fitB N i)]) (b := w51.heap.size) (off := 0) (c := 1) (by kernel_rfl) (by kernel_rfl) (by decide) (by kernel_rfl) (by kernel_rfl) (by kernel_rfl) hF (by rfl) (fun k u hk => by rw [Nat.zero_add, hB58.cell]; exact hk) (by simp [oneV]) (by simp only [maxLen]; omega) (by omega) fun A63 cp64 w65 hO66 hw67 hT68 => ?_)
     have hT0 := (hT0).then hT68 nB_hF
     have hD := hD.tch hT68 (fun c hc e => Own.ne_own hD hF (by decide) c hc e)
     have hQ := hQ.tch hT68 (fun e => hF.blk_ne hQ (by decide) _ e rfl)
     have hS := hS.tch hT68 (fun c hc e => Own.ne_own hS hF (by decide) c hc e)
     have hF : Own w65 0 4 1 (.slice A63 (i + 1) cp64) (i + 1) (boolsV (fl N i) ++ [.bool (fitB N i)]) := hO66
     have nB_hF : ∀ c, (Value.slice A63 (i + 1) cp64).ownBlock = some c → w.heap.size ≤ c := fun c hc => (hw67 c hc).elim (nB_hF c) (fun q => by omega)
     refine zS [(7, .slice A63 (i + 1) cp64)] ?_
     refine op_nil ?_
     refine zF [(1, .int .i64 ix), (2, .pointer (some ⟨w.heap.size, 0, none⟩)), (6, .slice A49 (i + 1) cp50), (7, .slice A63 (i + 1) cp64), (8, .int .i64 ((i : Nat) : Int)), (9, .string (bsT s1)), (10, .bool (fitB N i)), (17, .bool (decide (((i : Nat) : Int) ≤ ix))), (32, .bool (!(fitB N i)))] fun ρ => ?_
     refine zR ?_
     refine zS [(18, .int .i64 ((i : Nat) : Int)), (19, .int .i64 (IntKind.i64.wrap (((i : Nat) : Int) + 1)))] ?_
     rw [show IntKind.i64.wrap (((i : Nat) : Int) + 1) = ((i : Nat) : Int) + 1 from wrap_i64 (by omega) (by omega)]
     refine fixR (y := ((i + 1 : Nat) : Int)) (by omega) ?_
     refine zS [(8, .int .i64 ((i + 1 : Nat) : Int))] ?_
     refine op_nil ?_
     refine ⟨_, ?_, A49, cp50, A63, cp64, i + 1, _, updL_self (by kernel_rfl), ?_, nB_hS, nB_hF, hT0, hD, hQ, (by rw [rl_succ, txs_app, dtx_t (by assumption), ← he1 (by assumption)]; exact hS), (by rw [fl_succ, boolsV_append]; exact hF), rfl⟩
     ·
      omega
     ·
      omega
   ·
    replace hc9 : ix < ((i : Nat) : Int) := (Int.not_le.1 (of_decide_eq_false hc9))
    refine W_exit ?_
    refine X_hit ?_
    refine W_seq ?_
    refine zQ ?_
    refine zS [(41, .slice C i cc), (42, .int .i64 ix)] ?_
    refine stv (v := ptrAt C ix.toNat) (by rfl) (R_indexRd1 (len := i) (cap := cc) (k := .i64) (i := ix) (e := 4) ix.toNat hF.rdS (by kernel_rfl) (by kernel_rfl) (by kernel_rfl) (by kernel_rfl) (by omega) (by omega)) ?_
    refine stv (v := .bool (fitB N ix.toNat)) (by rfl) (R_loadRd (v := .bool (fitB N ix.toNat)) hF.rdS (by omega) (by kernel_rfl) (by kernel_rfl) (fl_at (by omega))) ?_
    refine zS [(45, .bool (!(fitB N ix.toNat)))] ?_
    refine zO (!(fitB N ix.toNat)) (fun hc69 => ?_) (fun hc69 => ?_)
    ·
     replace hc69 : fitB N ix.toNat = false := ((not_t hc69))
     refine W_seq ?_
     refine zF [(1, .int .i64 ix), (2, .pointer (some ⟨w.heap.size, 0, none⟩)), (6, .slice B i cb), (7, .slice C i cc), (8, .int .i64 ((i : Nat) : Int)), (17, .bool (decide (((i : Nat) : Int) ≤ ix))), (45, .bool (!(fitB N ix.toNat)))] fun ρ => ?_
     refine zR ?_
     refine zS [(4, .string (bsT ([]))), (5, .int .i64 8)] ?_
     refine op_nil ?_
     refine W_ret ?_
     refine ⟨_, Res_of (v := .tuple #[.string (bsT ([])), .int .i64 8]) (by kernel_rfl), ?_⟩
     have hq := sh_big (N := N) (x := ix) (isT_t (by omega)) (by assumption)
     rw [hq.1, hq.2]
     exact ⟨rfl, hT0⟩
    ·
     replace hc69 : fitB N ix.toNat = true := ((not_f hc69))
     refine W_skip ?_
     refine W_seq ?_
     refine zF [(1, .int .i64 ix), (2, .pointer (some ⟨w.heap.size, 0, none⟩)), (6, .slice B i cb), (7, .slice C i cc), (8, .int .i64 ((i : Nat) : Int)), (17, .bool (decide (((i : Nat) : Int) ≤ ix))), (45, .bool (!(fitB N ix.toNat)))] fun ρ => ?_
     refine zR ?_
     refine zS [(46, .slice B i cb), (47, .int .i64 ix)] ?_
     refine stv (v := ptrAt B ix.toNat) (by rfl) (R_indexRd1 (len := i) (cap := cb) (k := .i64) (i := ix) (e := 9) ix.toNat hS.rdS (by kernel_rfl) (by kernel_rfl) (by kernel_rfl) (by kernel_rfl) (by omega) (by omega)) ?_
     refine stv (v := .string (bsT (dtx N ix.toNat))) (by rfl) (R_loadRd (v := .string (bsT (dtx N ix.toNat))) hS.rdS (by omega) (by kernel_rfl) (by kernel_rfl) (rl_at (by omega))) ?_
     refine zS [(4, .string (bsT (dtx N ix.toNat))), (5, .int .i64 0)] ?_
     refine op_nil ?_
     refine W_ret ?_
     refine ⟨_, Res_of (v := .tuple #[.string (bsT (dtx N ix.toNat)), .int .i64 0]) (by kernel_rfl), ?_⟩
     have hq := sh_in (N := N) (x := ix) (isT_t (by omega)) (by assumption)
     rw [hq.1, hq.2, dtx_t (by assumption)]
     exact ⟨rfl, hT0⟩

end Go.Proofs.YtlbadnpgmkobdaaV
