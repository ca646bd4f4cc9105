/- Texts laid together: Walks of functions of the program and of the document's texts. The conditions stand with each theorem. Walks of functions of the program and of the document's texts. The conditions stand with each theorem. Walks of functions of the program and of the document's texts. The conditions stand with each theorem. Walks of functions of the program and of the document's texts. The conditions stand with each theorem. Walks of functions of the program and of the document's texts. The conditions stand with each theorem. -/
import Derived.Test.YtlkjhkennbdbnaaJRrepo91x1
import Derived.Test.YtlkjhkennbdbnaaProg
import Derived.Test.YtlkjhkennbdbnaaJRrepo91x5
set_option linter.unusedVariables false
set_option linter.unusedSimpArgs false
namespace Go.Proofs.YtlkjhkennbdbnaaV
open Go Go.RowKit Go.Proofs

theorem rsignedN_ok (n : Nat) (w : World) (hn : n ≤ 9223372036854775807) : Ret Try.prog 29 [.int .i64 ((n : Nat) : Int)] w fun v w' => v = .string (bsT (dgs n)) ∧ Tch N0 w w' := by
 rw [← sgn_nat]; exact rsigned_ok _ w (by omega) (by omega)
theorem hdX_ok {V E S U : Int} {t : Tx} (h : (V = 0 ∧ t = nameT V ++ [32] ++ sgn E ++ [32] ++ sgn S ++ [32] ++ sgn U ++ [10]) ∨ (V ≠ 0 ∧ t = nameT V ++ [32] ++ sgn S ++ [32] ++ sgn U ++ [10])) : t = hdX V E S U := by
 unfold hdX
 rcases h with ⟨h, rfl⟩ | ⟨h, rfl⟩
 ·
  rw [if_pos h]; simp
 ·
  rw [if_neg h]; simp

set_option maxRecDepth 100000 in
set_option maxHeartbeats 8000000 in
theorem rtext_ok (V E S U : Int) (A : Option Addr) (c : Nat) (l : List T6) (w : World) (hR : TsW w A l) (hF : fewP l) (hb : b64 E ∧ b64 S ∧ b64 U)  : Ret Try.prog 11 [.agg #[.int .i64 V, .int .i64 E, .slice A l.length c, .int .i64 S, .int .i64 U]] w fun v w' => v = .string (bsT (textR V E S U (cores l))) ∧ Tch N0 w w' := by
 have hXm := hR.rd.2.1
 have hnl := nameT_len V
 have hsE := sgn_le hb.1
 have hsS := sgn_le hb.2.1
 have hsU := sgn_le hb.2.2
 have hb2 := hb
 unfold b64 at hb2
 refine enter Try.func11 rfl rfl ?_
 refine zQ ?_
 refine st (by rfl) (S_new (v := .pointer (some ⟨w.heap.size, 0, none⟩)) (ob := .cells #[.int .i64 V, .int .i64 E, .slice A l.length c, .int .i64 S, .int .i64 U] 25) (by kernel_rfl) fun w1 hT2 hs3 hB4 => ?_)
 replace hB4 : Blk w1 (w.heap.size) 25 [.int .i64 V, .int .i64 E, .slice A l.length c, .int .i64 S, .int .i64 U] := hB4
 have hT0 := hT2
 refine zS [(2, .string (bsT ([])))] ?_
 refine op_nil ?_
 refine zQ ?_
 refine zS [(8, .pointer (some ⟨w.heap.size, 0, none⟩))] ?_
 refine zL (.int .i64 V) ((hB4.cell 0).trans rfl) ?_
 refine zC (name28_ok V _) ?_
 rintro _ w5 ⟨rfl, hT6⟩
 have hT0 := hT0.t0 hT6
 have hB4 := hB4.tch0 hT6
 refine zS [(3, .string (bsT (nameT V)))] ?_
 refine op_nil ?_
 refine W_seq ?_
 refine zQ ?_
 refine zS [(11, .pointer (some ⟨w.heap.size, 0, none⟩))] ?_
 refine zL (.int .i64 V) ((hB4.cell 0).trans rfl) ?_
 refine zS [(13, .bool (V == 0))] ?_
 refine zO (V == 0) (fun hc7 => ?_) (fun hc7 => ?_)
 ·
  replace hc7 : V = 0 := (eq_of_beq hc7)
  refine zF [(0, .agg #[.int .i64 V, .int .i64 E, .slice A l.length c, .int .i64 S, .int .i64 U]), (1, .pointer (some ⟨w.heap.size, 0, none⟩)), (2, .string (bsT ([]))), (3, .string (bsT (nameT V))), (13, .bool (V == 0))] fun ρ => ?_
  refine zR ?_
  refine zS [(14, .string (bsT (nameT V)))] ?_
  refine stv (v := .string (bsT ((nameT V) ++ ([32])))) (by rfl) (R_sadd (a := nameT V) (b := [32]) (by kernel_rfl) (by kernel_rfl) (by first | omega | (simp only [List.length_append, List.length_cons, List.length_nil]; omega))) ?_
  refine zS [(16, .pointer (some ⟨w.heap.size, 1, none⟩))] ?_
  refine zL (.int .i64 E) ((hB4.cell 1).trans rfl) ?_
  refine zC (rsigned_ok E _ (by omega) (by omega)) ?_
  rintro _ w8 ⟨rfl, hT9⟩
  have hT0 := hT0.t0 hT9
  have hB4 := hB4.tch0 hT9
  refine stv (v := .string (bsT (((nameT V) ++ ([32])) ++ (sgn E)))) (by rfl) (R_sadd (a := (nameT V) ++ ([32])) (b := sgn E) (by kernel_rfl) (by kernel_rfl) (by first | omega | (simp only [List.length_append, List.length_cons, List.length_nil]; omega))) ?_
  refine zS [(3, .string (bsT (((nameT V) ++ ([32])) ++ (sgn E))))] ?_
  refine op_nil ?_
  refine W_seq ?_
  refine W_draw (fun w' => Blk w' (w.heap.size) 25 [.int .i64 V, .int .i64 E, .slice A l.length c, .int .i64 S, .int .i64 U]) (by kernel_rfl) (by kernel_rfl) (by kernel_rfl) fun w10 hT11 hh12 => ?_
  have hT0 := hT0.t0 hT11
  have hB4 := hB4.tch0 hT11
  refine zK [0, 2, 7] #[true, false, true, false, false, false, false, true, false, false, false, false, false] [(20, .string (bsT (((nameT V) ++ ([32])) ++ (sgn E)))), (22, .pointer (some ⟨w.heap.size, 3, none⟩)), (27, .pointer (some ⟨w.heap.size, 4, none⟩))] hB4 ?_
  refine zV 1 rfl (.string (bsT ((((nameT V) ++ ([32])) ++ (sgn E)) ++ ([32])))) (fun _ hB4 => R_sadd (a := ((nameT V) ++ ([32])) ++ (sgn E)) (b := [32]) (by kernel_rfl) (by kernel_rfl) (by first | omega | (simp only [List.length_append, List.length_cons, List.length_nil]; omega))) hB4 ?_
  refine zV 3 rfl (.int .i64 S) (fun _ hB4 => R_load (v := .int .i64 S) (by kernel_rfl) (by kernel_rfl) ((hB4.cell 3).trans rfl)) hB4 ?_
  refine zV 8 rfl (.int .i64 U) (fun _ hB4 => R_load (v := .int .i64 U) (by kernel_rfl) (by kernel_rfl) ((hB4.cell 4).trans rfl)) hB4 ?_
  refine zD 4 rfl (S_call (args := [.int .i64 S]) (by kernel_rfl) (rsigned_ok S _ (by omega) (by omega)) ?_)
  rintro _ w13 ⟨rfl, hT14⟩
  have hT0 := hT0.t0 hT14
  have hB4 := hB4.tch0 hT14
  refine ⟨hB4, ?_⟩
  refine zV 5 rfl (.string (bsT (((((nameT V) ++ ([32])) ++ (sgn E)) ++ ([32])) ++ (sgn S)))) (fun _ hB4 => R_sadd (a := (((nameT V) ++ ([32])) ++ (sgn E)) ++ ([32])) (b := sgn S) (by kernel_rfl) (by kernel_rfl) (by first | omega | (simp only [List.length_append, List.length_cons, List.length_nil]; omega))) hB4 ?_
  refine zV 6 rfl (.string (bsT ((((((nameT V) ++ ([32])) ++ (sgn E)) ++ ([32])) ++ (sgn S)) ++ ([32])))) (fun _ hB4 => R_sadd (a := ((((nameT V) ++ ([32])) ++ (sgn E)) ++ ([32])) ++ (sgn S)) (b := [32]) (by kernel_rfl) (by kernel_rfl) (by first | omega | (simp only [List.length_append, List.length_cons, List.length_nil]; omega))) hB4 ?_
  refine zD 9 rfl (S_call (args := [.int .i64 U]) (by kernel_rfl) (rsigned_ok U _ (by omega) (by omega)) ?_)
  rintro _ w15 ⟨rfl, hT16⟩
  have hT0 := hT0.t0 hT16
  have hB4 := hB4.tch0 hT16
  refine ⟨hB4, ?_⟩
  refine zV 10 rfl (.string (bsT (((((((nameT V) ++ ([32])) ++ (sgn E)) ++ ([32])) ++ (sgn S)) ++ ([32])) ++ (sgn U)))) (fun _ hB4 => R_sadd (a := (((((nameT V) ++ ([32])) ++ (sgn E)) ++ ([32])) ++ (sgn S)) ++ ([32])) (b := sgn U) (by kernel_rfl) (by kernel_rfl) (by first | omega | (simp only [List.length_append, List.length_cons, List.length_nil]; omega))) hB4 ?_
  refine zV 11 rfl (.string (bsT ((((((((nameT V) ++ ([32])) ++ (sgn E)) ++ ([32])) ++ (sgn S)) ++ ([32])) ++ (sgn U)) ++ ([10])))) (fun _ hB4 => R_sadd (a := ((((((nameT V) ++ ([32])) ++ (sgn E)) ++ ([32])) ++ (sgn S)) ++ ([32])) ++ (sgn U)) (b := [10]) (by kernel_rfl) (by kernel_rfl) (by first | omega | (simp only [List.length_append, List.length_cons, List.length_nil]; omega))) hB4 ?_
  refine zK [12] #[true, true, true, true, true, true, true, true, true, true, true, true, true] [(3, .string (bsT ((((((((nameT V) ++ ([32])) ++ (sgn E)) ++ ([32])) ++ (sgn S)) ++ ([32])) ++ (sgn U)) ++ ([10]))))] hB4 ?_
  refine d_done (by kernel_rfl) ?_
  refine W_seq ?_
  refine W_seq ?_
  refine zF [(0, .agg #[.int .i64 V, .int .i64 E, .slice A l.length c, .int .i64 S, .int .i64 U]), (1, .pointer (some ⟨w.heap.size, 0, none⟩)), (2, .string (bsT ([]))), (3, .string (bsT ((((((((nameT V) ++ ([32])) ++ (sgn E)) ++ ([32])) ++ (sgn S)) ++ ([32])) ++ (sgn U)) ++ ([10])))), (13, .bool (V == 0))] fun ρ => ?_
  refine zR ?_
  refine zS [(4, .int .i64 0)] ?_
  refine op_nil ?_
  refine W_block ?_
  refine W_loop (fun m ρ w' => ∃ (sx : Tx) (j : Nat) (ρ0 : Env), ρ = updL ρ0 [(1, .pointer (some ⟨w.heap.size, 0, none⟩)), (3, .string (bsT sx)), (4, .int .i64 ((j : Nat) : Int))] ∧ (j ≤ l.length) ∧ (sx = textP V E S U l j) ∧ Tch N0 w w' ∧ Blk w' (w.heap.size) 25 [.int .i64 V, .int .i64 E, .slice A l.length c, .int .i64 S, .int .i64 U] ∧ m = l.length + 1 - j) (m := l.length + 1 - 0) ?_ ?_
  ·
   refine ⟨(((((((nameT V) ++ ([32])) ++ (sgn E)) ++ ([32])) ++ (sgn S)) ++ ([32])) ++ (sgn U)) ++ ([10]), 0, _, updL_self (by kernel_rfl), by omega, (by rw [textP_0]; exact hdX_ok (by first | exact .inl ⟨by omega, rfl⟩ | exact .inr ⟨by omega, rfl⟩)), hT0, hB4, rfl⟩
  ·
   rintro m ρ w17 ⟨sx, j, ρ, rfl, hj, hsx, hT0, hQ, rfl⟩
   have hsl : sx.length ≤ 1000000 := by rw [hsx]; exact textP_le hR hF hb j
   refine W_seq ?_
   refine zQ ?_
   refine zS [(32, .int .i64 ((j : Nat) : Int)), (33, .pointer (some ⟨w.heap.size, 2, none⟩))] ?_
   refine zL (.slice A l.length c) ((hQ.cell 2).trans rfl) ?_
   refine zS [(35, .int .i64 (l.length : Int)), (36, .bool (decide (((j : Nat) : Int) < (l.length : Int))))] ?_
   refine zO (decide (((j : Nat) : Int) < (l.length : Int))) (fun hc18 => ?_) (fun hc18 => ?_)
   ·
    replace hc18 : ((j : Nat) : Int) < (l.length : Int) := (of_decide_eq_true hc18)
    refine W_skip ?_
    refine W_seq ?_
    refine W_block ?_
    refine zQ ?_
    refine zS [(39, .pointer (some ⟨w.heap.size, 2, none⟩))] ?_
    refine zL (.slice A l.length c) ((hQ.cell 2).trans rfl) ?_
    refine zS [(41, .int .i64 ((j : Nat) : Int))] ?_
    refine stv (v := ptrAt A (j * 6)) (by rfl) (R_indexRd (sz := 6) (len := l.length) (cap := c) (k := .i64) (i := ((j : Nat) : Int)) (e := 43) j (hR.rd.tch0 hT0) (by kernel_rfl) (by kernel_rfl) (by kernel_rfl) (by kernel_rfl) rfl (by omega)) ?_
    refine stv (v := .agg #[.slice ((tq l j).iA) ((tq l j).inp.length) ((tq l j).iC), .int .i64 ((tq l j).pt), .int .i64 ((tq l j).ms), .slice ((tq l j).gA) ((tq l j).img.length) ((tq l j).gC), .int .i64 ((tq l j).kd), .int .i64 ((tq l j).cd)]) (by rfl) (R_loadRdA [.slice ((tq l j).iA) ((tq l j).inp.length) ((tq l j).iC), .int .i64 ((tq l j).pt), .int .i64 ((tq l j).ms), .slice ((tq l j).gA) ((tq l j).img.length) ((tq l j).gC), .int .i64 ((tq l j).kd), .int .i64 ((tq l j).cd)] (hR.rd.tch0 hT0) (by omega) (by kernel_rfl) (by kernel_rfl) (by kernel_rfl) (tcs_part l (by omega))) ?_
    have hz23 := hT0.size
    have lt24 := hQ.lt
    refine st (by rfl) (S_new (v := .pointer (some ⟨w17.heap.size, 0, none⟩)) (ob := .cells #[.slice none 0 0, .int .i64 0, .int .i64 0, .slice none 0 0, .int .i64 0, .int .i64 0] 43) (by kernel_rfl) fun w19 hT20 hs21 hB22 => ?_)
    replace hB22 : Blk w19 (w17.heap.size) 43 [.slice none 0 0, .int .i64 0, .int .i64 0, .slice none 0 0, .int .i64 0, .int .i64 0] := hB22
    have hT0 := hT0.t0 hT20
    have hQ := hQ.tch0 hT20
    refine st (by rfl) (S_storeA (b := w17.heap.size) (j := 0) (cs := [.slice ((tq l j).iA) ((tq l j).inp.length) ((tq l j).iC), .int .i64 ((tq l j).pt), .int .i64 ((tq l j).ms), .slice ((tq l j).gA) ((tq l j).img.length) ((tq l j).gC), .int .i64 ((tq l j).kd), .int .i64 ((tq l j).cd)]) (by kernel_rfl) (by kernel_rfl) (by kernel_rfl) (by simp [oneV]) hB22 (by simp) fun w25 hT26 hs27 hB22' => ?_)
    have hT0 := (hT0).then hT26 (fun c e => by have : c = w17.heap.size := e; omega)
    have hQ := hQ.tch hT26 (hQ.ne hB22 (by decide))
    replace hB22 : Blk w25 w17.heap.size 43 [.slice ((tq l j).iA) ((tq l j).inp.length) ((tq l j).iC), .int .i64 ((tq l j).pt), .int .i64 ((tq l j).ms), .slice ((tq l j).gA) ((tq l j).img.length) ((tq l j).gC), .int .i64 ((tq l j).kd), .int .i64 ((tq l j).cd)] := hB22'
    refine op_nil ?_
    refine W_seq ?_
    refine zF [(1, .pointer (some ⟨w.heap.size, 0, none⟩)), (3, .string (bsT sx)), (4, .int .i64 ((j : Nat) : Int)), (5, .pointer (some ⟨w17.heap.size, 0, none⟩)), (36, .bool (decide (((j : Nat) : Int) < (l.length : Int))))] fun ρ => ?_
    have hm_ := tq_mem (l := l) (i := j) (by omega)
    have hwT := (hR.el _ hm_).wf
    obtain ⟨hw1, hw2, hw3, hw4, hw5⟩ := hwT
    have hs1 := sgn_le hw1
    have hs2 := sgn_le hw2
    have hs3 := sgn_le hw3
    have hs4 := sgn_le hw4
    unfold b64 at hw1 hw2 hw3 hw4
    have hmF := hF.2 _ hm_
    refine W_draw (fun w' => Blk w' (w17.heap.size) 43 [.slice ((tq l j).iA) ((tq l j).inp.length) ((tq l j).iC), .int .i64 ((tq l j).pt), .int .i64 ((tq l j).ms), .slice ((tq l j).gA) ((tq l j).img.length) ((tq l j).gC), .int .i64 ((tq l j).kd), .int .i64 ((tq l j).cd)]) (by kernel_rfl) (by kernel_rfl) (by kernel_rfl) fun w28 hT29 hh30 => ?_
    have hT0 := hT0.t0 hT29
    have hQ := hQ.tch0 hT29
    have hB22 := hB22.tch0 hT29
    refine zK [0, 2, 7, 12, 17] #[true, false, true, false, false, false, false, true, false, false, false, false, true, false, false, false, false, true, false, false, false, false, false] [(44, .string (bsT sx)), (46, .pointer (some ⟨w17.heap.size, 1, none⟩)), (51, .pointer (some ⟨w17.heap.size, 2, none⟩)), (56, .pointer (some ⟨w17.heap.size, 4, none⟩)), (61, .pointer (some ⟨w17.heap.size, 5, none⟩))] hB22 ?_
    refine zV 1 rfl (.string (bsT (sx ++ ([112, 111, 105, 110, 116, 32])))) (fun _ hB22 => R_sadd (a := sx) (b := [112, 111, 105, 110, 116, 32]) (by kernel_rfl) (by kernel_rfl) (by first | omega | (simp only [List.length_append, List.length_cons, List.length_nil]; omega))) hB22 ?_
    refine zV 3 rfl (.int .i64 ((tq l j).pt)) (fun _ hB22 => R_load (v := .int .i64 ((tq l j).pt)) (by kernel_rfl) (by kernel_rfl) ((hB22.cell 1).trans rfl)) hB22 ?_
    refine zV 8 rfl (.int .i64 ((tq l j).ms)) (fun _ hB22 => R_load (v := .int .i64 ((tq l j).ms)) (by kernel_rfl) (by kernel_rfl) ((hB22.cell 2).trans rfl)) hB22 ?_
    refine zV 13 rfl (.int .i64 ((tq l j).kd)) (fun _ hB22 => R_load (v := .int .i64 ((tq l j).kd)) (by kernel_rfl) (by kernel_rfl) ((hB22.cell 4).trans rfl)) hB22 ?_
    refine zV 18 rfl (.int .i64 ((tq l j).cd)) (fun _ hB22 => R_load (v := .int .i64 ((tq l j).cd)) (by kernel_rfl) (by kernel_rfl) ((hB22.cell 5).trans rfl)) hB22 ?_
    refine zD 4 rfl (S_call (args := [.int .i64 ((tq l j).pt)]) (by kernel_rfl) (rsigned_ok ((tq l j).pt) _ (by omega) (by omega)) ?_)
    rintro _ w31 ⟨rfl, hT32⟩
    have hT0 := hT0.t0 hT32
    have hQ := hQ.tch0 hT32
    have hB22 := hB22.tch0 hT32
    refine ⟨hB22, ?_⟩
    refine zV 5 rfl (.string (bsT ((sx ++ ([112, 111, 105, 110, 116, 32])) ++ (sgn ((tq l j).pt))))) (fun _ hB22 => R_sadd (a := sx ++ ([112, 111, 105, 110, 116, 32])) (b := sgn ((tq l j).pt)) (by kernel_rfl) (by kernel_rfl) (by first | omega | (simp only [List.length_append, List.length_cons, List.length_nil]; omega))) hB22 ?_
    refine zV 6 rfl (.string (bsT (((sx ++ ([112, 111, 105, 110, 116, 32])) ++ (sgn ((tq l j).pt))) ++ ([32, 109, 97, 115, 107, 32])))) (fun _ hB22 => R_sadd (a := (sx ++ ([112, 111, 105, 110, 116, 32])) ++ (sgn ((tq l j).pt))) (b := [32, 109, 97, 115, 107, 32]) (by kernel_rfl) (by kernel_rfl) (by first | omega | (simp only [List.length_append, List.length_cons, List.length_nil]; omega))) hB22 ?_
    refine zD 9 rfl (S_call (args := [.int .i64 ((tq l j).ms)]) (by kernel_rfl) (rsigned_ok ((tq l j).ms) _ (by omega) (by omega)) ?_)
    rintro _ w33 ⟨rfl, hT34⟩
    have hT0 := hT0.t0 hT34
    have hQ := hQ.tch0 hT34
    have hB22 := hB22.tch0 hT34
    refine ⟨hB22, ?_⟩
    refine zV 10 rfl (.string (bsT ((((sx ++ ([112, 111, 105, 110, 116, 32])) ++ (sgn ((tq l j).pt))) ++ ([32, 109, 97, 115, 107, 32])) ++ (sgn ((tq l j).ms))))) (fun _ hB22 => R_sadd (a := ((sx ++ ([112, 111, 105, 110, 116, 32])) ++ (sgn ((tq l j).pt))) ++ ([32, 109, 97, 115, 107, 32])) (b := sgn ((tq l j).ms)) (by kernel_rfl) (by kernel_rfl) (by first | omega | (simp only [List.length_append, List.length_cons, List.length_nil]; omega))) hB22 ?_
    refine zV 11 rfl (.string (bsT (((((sx ++ ([112, 111, 105, 110, 116, 32])) ++ (sgn ((tq l j).pt))) ++ ([32, 109, 97, 115, 107, 32])) ++ (sgn ((tq l j).ms))) ++ ([32, 107, 105, 110, 100, 32])))) (fun _ hB22 => R_sadd (a := (((sx ++ ([112, 111, 105, 110, 116, 32])) ++ (sgn ((tq l j).pt))) ++ ([32, 109, 97, 115, 107, 32])) ++ (sgn ((tq l j).ms))) (b := [32, 107, 105, 110, 100, 32]) (by kernel_rfl) (by kernel_rfl) (by first | omega | (simp only [List.length_append, List.length_cons, List.length_nil]; omega))) hB22 ?_
    refine zD 14 rfl (S_call (args := [.int .i64 ((tq l j).kd)]) (by kernel_rfl) (rsigned_ok ((tq l j).kd) _ (by omega) (by omega)) ?_)
    rintro _ w35 ⟨rfl, hT36⟩
    have hT0 := hT0.t0 hT36
    have hQ := hQ.tch0 hT36
    have hB22 := hB22.tch0 hT36
    refine ⟨hB22, ?_⟩
    refine zV 15 rfl (.string (bsT ((((((sx ++ ([112, 111, 105, 110, 116, 32])) ++ (sgn ((tq l j).pt))) ++ ([32, 109, 97, 115, 107, 32])) ++ (sgn ((tq l j).ms))) ++ ([32, 107, 105, 110, 100, 32])) ++ (sgn ((tq l j).kd))))) (fun _ hB22 => R_sadd (a := ((((sx ++ ([112, 111, 105, 110, 116, 32])) ++ (sgn ((tq l j).pt))) ++ ([32, 109, 97, 115, 107, 32])) ++ (sgn ((tq l j).ms))) ++ ([32, 107, 105, 110, 100, 32])) (b := sgn ((tq l j).kd)) (by kernel_rfl) (by kernel_rfl) (by first | omega | (simp only [List.length_append, List.length_cons, List.length_nil]; omega))) hB22 ?_
    refine zV 16 rfl (.string (bsT (((((((sx ++ ([112, 111, 105, 110, 116, 32])) ++ (sgn ((tq l j).pt))) ++ ([32, 109, 97, 115, 107, 32])) ++ (sgn ((tq l j).ms))) ++ ([32, 107, 105, 110, 100, 32])) ++ (sgn ((tq l j).kd))) ++ ([32, 99, 111, 100, 101, 32])))) (fun _ hB22 => R_sadd (a := (((((sx ++ ([112, 111, 105, 110, 116, 32])) ++ (sgn ((tq l j).pt))) ++ ([32, 109, 97, 115, 107, 32])) ++ (sgn ((tq l j).ms))) ++ ([32, 107, 105, 110, 100, 32])) ++ (sgn ((tq l j).kd))) (b := [32, 99, 111, 100, 101, 32]) (by kernel_rfl) (by kernel_rfl) (by first | omega | (simp only [List.length_append, List.length_cons, List.length_nil]; omega))) hB22 ?_
    refine zD 19 rfl (S_call (args := [.int .i64 ((tq l j).cd)]) (by kernel_rfl) (rsigned_ok ((tq l j).cd) _ (by omega) (by omega)) ?_)
    rintro _ w37 ⟨rfl, hT38⟩
    have hT0 := hT0.t0 hT38
    have hQ := hQ.tch0 hT38
    have hB22 := hB22.tch0 hT38
    refine ⟨hB22, ?_⟩
    refine zV 20 rfl (.string (bsT ((((((((sx ++ ([112, 111, 105, 110, 116, 32])) ++ (sgn ((tq l j).pt))) ++ ([32, 109, 97, 115, 107, 32])) ++ (sgn ((tq l j).ms))) ++ ([32, 107, 105, 110, 100, 32])) ++ (sgn ((tq l j).kd))) ++ ([32, 99, 111, 100, 101, 32])) ++ (sgn ((tq l j).cd))))) (fun _ hB22 => R_sadd (a := ((((((sx ++ ([112, 111, 105, 110, 116, 32])) ++ (sgn ((tq l j).pt))) ++ ([32, 109, 97, 115, 107, 32])) ++ (sgn ((tq l j).ms))) ++ ([32, 107, 105, 110, 100, 32])) ++ (sgn ((tq l j).kd))) ++ ([32, 99, 111, 100, 101, 32])) (b := sgn ((tq l j).cd)) (by kernel_rfl) (by kernel_rfl) (by first | omega | (simp only [List.length_append, List.length_cons, List.length_nil]; omega))) hB22 ?_
    refine zV 21 rfl (.string (bsT (((((((((sx ++ ([112, 111, 105, 110, 116, 32])) ++ (sgn ((tq l j).pt))) ++ ([32, 109, 97, 115, 107, 32])) ++ (sgn ((tq l j).ms))) ++ ([32, 107, 105, 110, 100, 32])) ++ (sgn ((tq l j).kd))) ++ ([32, 99, 111, 100, 101, 32])) ++ (sgn ((tq l j).cd))) ++ ([32, 105, 110, 112, 117, 116])))) (fun _ hB22 => R_sadd (a := (((((((sx ++ ([112, 111, 105, 110, 116, 32])) ++ (sgn ((tq l j).pt))) ++ ([32, 109, 97, 115, 107, 32])) ++ (sgn ((tq l j).ms))) ++ ([32, 107, 105, 110, 100, 32])) ++ (sgn ((tq l j).kd))) ++ ([32, 99, 111, 100, 101, 32])) ++ (sgn ((tq l j).cd))) (b := [32, 105, 110, 112, 117, 116]) (by kernel_rfl) (by kernel_rfl) (by first | omega | (simp only [List.length_append, List.length_cons, List.length_nil]; omega))) hB22 ?_
    refine zK [22] #[true, true, true, true, true, true, true, true, true, true, true, true, true, true, true, true, true, true, true, true, true, true, true] [(3, .string (bsT (((((((((sx ++ ([112, 111, 105, 110, 116, 32])) ++ (sgn ((tq l j).pt))) ++ ([32, 109, 97, 115, 107, 32])) ++ (sgn ((tq l j).ms))) ++ ([32, 107, 105, 110, 100, 32])) ++ (sgn ((tq l j).kd))) ++ ([32, 99, 111, 100, 101, 32])) ++ (sgn ((tq l j).cd))) ++ ([32, 105, 110, 112, 117, 116]))))] hB22 ?_
    refine d_done (by kernel_rfl) ?_
    refine W_seq ?_
    refine W_seq ?_
    refine zF [(1, .pointer (some ⟨w.heap.size, 0, none⟩)), (3, .string (bsT (((((((((sx ++ ([112, 111, 105, 110, 116, 32])) ++ (sgn ((tq l j).pt))) ++ ([32, 109, 97, 115, 107, 32])) ++ (sgn ((tq l j).ms))) ++ ([32, 107, 105, 110, 100, 32])) ++ (sgn ((tq l j).kd))) ++ ([32, 99, 111, 100, 101, 32])) ++ (sgn ((tq l j).cd))) ++ ([32, 105, 110, 112, 117, 116])))), (4, .int .i64 ((j : Nat) : Int)), (5, .pointer (some ⟨w17.heap.size, 0, none⟩)), (36, .bool (decide (((j : Nat) : Int) < (l.length : Int))))] fun ρ => ?_
    refine zR ?_
    refine zS [(6, .int .i64 0)] ?_
    refine op_nil ?_
    refine W_block ?_
    refine W_loop (fun m ρ w' => ∃ (sy : Tx) (i2 : Nat) (ρ0 : Env), ρ = updL ρ0 [(1, .pointer (some ⟨w.heap.size, 0, none⟩)), (3, .string (bsT sy)), (4, .int .i64 ((j : Nat) : Int)), (5, .pointer (some ⟨w17.heap.size, 0, none⟩)), (6, .int .i64 ((i2 : Nat) : Int))] ∧ (i2 ≤ (tq l j).inp.length) ∧ (sy = textP V E S U l j ++ lineA (core (tq l j)) i2) ∧ Tch N0 w w' ∧ Blk w' (w.heap.size) 25 [.int .i64 V, .int .i64 E, .slice A l.length c, .int .i64 S, .int .i64 U] ∧ Blk w' (w17.heap.size) 43 [.slice ((tq l j).iA) ((tq l j).inp.length) ((tq l j).iC), .int .i64 ((tq l j).pt), .int .i64 ((tq l j).ms), .slice ((tq l j).gA) ((tq l j).img.length) ((tq l j).gC), .int .i64 ((tq l j).kd), .int .i64 ((tq l j).cd)] ∧ m = (tq l j).inp.length + 1 - i2) (m := (tq l j).inp.length + 1 - 0) ?_ ?_
    ·
     refine ⟨((((((((sx ++ ([112, 111, 105, 110, 116, 32])) ++ (sgn ((tq l j).pt))) ++ ([32, 109, 97, 115, 107, 32])) ++ (sgn ((tq l j).ms))) ++ ([32, 107, 105, 110, 100, 32])) ++ (sgn ((tq l j).kd))) ++ ([32, 99, 111, 100, 101, 32])) ++ (sgn ((tq l j).cd))) ++ ([32, 105, 110, 112, 117, 116]), 0, _, updL_self (by kernel_rfl), by omega, (by rw [hsx]; unfold lineA core; simp), hT0, hQ, hB22, rfl⟩
    ·
     rintro m ρ w39 ⟨sy, i2, ρ, rfl, hi2, hsy, hT0, hQ, hT7, rfl⟩
     have hsyl : sy.length ≤ 1100000 := by have h1 := textP_le (V := V) hR hF hb j; have h2 := lineA_le (hR.el _ hm_).wf (hF.2 _ hm_).1 i2; rw [hsy, List.length_append]; omega
     refine W_seq ?_
     refine zQ ?_
     refine zS [(66, .int .i64 ((i2 : Nat) : Int)), (67, .pointer (some ⟨w17.heap.size, 0, none⟩))] ?_
     refine zL (.slice ((tq l j).iA) ((tq l j).inp.length) ((tq l j).iC)) ((hT7.cell 0).trans rfl) ?_
     refine zS [(69, .int .i64 ((tq l j).inp.length : Int)), (70, .bool (decide (((i2 : Nat) : Int) < ((tq l j).inp.length : Int))))] ?_
     refine zO (decide (((i2 : Nat) : Int) < ((tq l j).inp.length : Int))) (fun hc40 => ?_) (fun hc40 => ?_)
     ·
      replace hc40 : ((i2 : Nat) : Int) < ((tq l j).inp.length : Int) := (of_decide_eq_true hc40)
      refine W_skip ?_
      refine W_seq ?_
      refine W_block ?_
      have hb8 := ((tq l j).inp.getD i2 0).toNat_lt
      have hd8 := @dgs_20 ((tq l j).inp.getD i2 0).toNat (by omega)
      refine zR ?_
      refine zS [(73, .string (bsT sy))] ?_
      refine stv (v := .string (bsT (sy ++ ([32])))) (by rfl) (R_sadd (a := sy) (b := [32]) (by kernel_rfl) (by kernel_rfl) (by first | omega | (simp only [List.length_append, List.length_cons, List.length_nil]; omega))) ?_
      refine zS [(75, .pointer (some ⟨w17.heap.size, 0, none⟩))] ?_
      refine zL (.slice ((tq l j).iA) ((tq l j).inp.length) ((tq l j).iC)) ((hT7.cell 0).trans rfl) ?_
      refine zS [(77, .int .i64 ((i2 : Nat) : Int))] ?_
      refine stv (v := ptrAt ((tq l j).iA) i2) (by rfl) (R_indexRd1 (len := (tq l j).inp.length) (cap := (tq l j).iC) (k := .i64) (i := ((i2 : Nat) : Int)) (e := 5) i2 ((hR.ri (by omega)).tch0 hT0) (by kernel_rfl) (by kernel_rfl) (by kernel_rfl) (by kernel_rfl) rfl (by omega)) ?_
      refine stv (v := .int .u8 ((((tq l j).inp.getD i2 0).toNat : Nat) : Int)) (by rfl) (R_loadRd (v := .int .u8 ((((tq l j).inp.getD i2 0).toNat : Nat) : Int)) ((hR.ri (by omega)).tch0 hT0) (by omega) (by kernel_rfl) (by kernel_rfl) (u8s_at (by omega))) ?_
      refine zS [(80, .int .i64 (IntKind.i64.wrap ((((tq l j).inp.getD i2 0).toNat : Nat) : Int)))] ?_
      rw [show IntKind.i64.wrap ((((tq l j).inp.getD i2 0).toNat : Nat) : Int) = ((((tq l j).inp.getD i2 0).toNat : Nat) : Int) from wrap_i64 (by omega) (by omega)]
      refine zC (rsignedN_ok (((tq l j).inp.getD i2 0).toNat) _ (by omega)) ?_
      rintro _ w41 ⟨rfl, hT42⟩
      have hT0 := hT0.t0 hT42
      have hQ := hQ.tch0 hT42
      have hT7 := hT7.tch0 hT42
      refine stv (v := .string (bsT ((sy ++ ([32])) ++ (dgs (((tq l j).inp.getD i2 0).toNat))))) (by rfl) (R_sadd (a := sy ++ ([32])) (b := dgs (((tq l j).inp.getD i2 0).toNat)) (by kernel_rfl) (by kernel_rfl) (by first | omega | (simp only [List.length_append, List.length_cons, List.length_nil]; omega))) ?_
      refine zS [(3, .string (bsT ((sy ++ ([32])) ++ (dgs (((tq l j).inp.getD i2 0).toNat)))))] ?_
      refine op_nil ?_
      refine zF [(1, .pointer (some ⟨w.heap.size, 0, none⟩)), (3, .string (bsT ((sy ++ ([32])) ++ (dgs (((tq l j).inp.getD i2 0).toNat))))), (4, .int .i64 ((j : Nat) : Int)), (5, .pointer (some ⟨w17.heap.size, 0, none⟩)), (6, .int .i64 ((i2 : Nat) : Int)), (70, .bool (decide (((i2 : Nat) : Int) < ((tq l j).inp.length : Int))))] fun ρ => ?_
      refine zR ?_
      refine zS [(71, .int .i64 ((i2 : Nat) : Int)), (72, .int .i64 (IntKind.i64.wrap (((i2 : Nat) : Int) + 1)))] ?_
      rw [show IntKind.i64.wrap (((i2 : Nat) : Int) + 1) = ((i2 : Nat) : Int) + 1 from wrap_i64 (by omega) (by omega)]
      refine fixR (y := ((i2 + 1 : Nat) : Int)) (by omega) ?_
      refine zS [(6, .int .i64 ((i2 + 1 : Nat) : Int))] ?_
      refine op_nil ?_
      refine ⟨_, (by omega), (sy ++ ([32])) ++ (dgs (((tq l j).inp.getD i2 0).toNat)), i2 + 1, _, updL_self (by kernel_rfl), (by omega), (by rw [hsy, lineA_step (by show i2 < (tq l j).inp.length; omega)]; simp only [List.append_assoc, core]), hT0, hQ, hT7, rfl⟩
     ·
      replace hc40 : ((tq l j).inp.length : Int) ≤ ((i2 : Nat) : Int) := (Int.not_lt.1 (of_decide_eq_false hc40))
      refine W_exit ?_
      refine X_hit ?_
      refine zQ ?_
      refine zS [(83, .string (bsT sy))] ?_
      refine stv (v := .string (bsT (sy ++ ([32, 105, 109, 97, 103, 101])))) (by rfl) (R_sadd (a := sy) (b := [32, 105, 109, 97, 103, 101]) (by kernel_rfl) (by kernel_rfl) (by first | omega | (simp only [List.length_append, List.length_cons, List.length_nil]; omega))) ?_
      refine zS [(3, .string (bsT (sy ++ ([32, 105, 109, 97, 103, 101]))))] ?_
      refine op_nil ?_
      refine W_seq ?_
      refine W_seq ?_
      refine zF [(1, .pointer (some ⟨w.heap.size, 0, none⟩)), (3, .string (bsT (sy ++ ([32, 105, 109, 97, 103, 101])))), (4, .int .i64 ((j : Nat) : Int)), (5, .pointer (some ⟨w17.heap.size, 0, none⟩)), (6, .int .i64 ((i2 : Nat) : Int)), (70, .bool (decide (((i2 : Nat) : Int) < ((tq l j).inp.length : Int))))] fun ρ => ?_
      refine zR ?_
      refine zS [(7, .int .i64 0)] ?_
      refine op_nil ?_
      refine W_block ?_
      refine W_loop (fun m ρ w' => ∃ (sz : Tx) (i3 : Nat) (ρ0 : Env), ρ = updL ρ0 [(1, .pointer (some ⟨w.heap.size, 0, none⟩)), (3, .string (bsT sz)), (4, .int .i64 ((j : Nat) : Int)), (5, .pointer (some ⟨w17.heap.size, 0, none⟩)), (7, .int .i64 ((i3 : Nat) : Int))] ∧ (i3 ≤ (tq l j).img.length) ∧ (sz = textP V E S U l j ++ lineB (core (tq l j)) i3) ∧ Tch N0 w w' ∧ Blk w' (w.heap.size) 25 [.int .i64 V, .int .i64 E, .slice A l.length c, .int .i64 S, .int .i64 U] ∧ Blk w' (w17.heap.size) 43 [.slice ((tq l j).iA) ((tq l j).inp.length) ((tq l j).iC), .int .i64 ((tq l j).pt), .int .i64 ((tq l j).ms), .slice ((tq l j).gA) ((tq l j).img.length) ((tq l j).gC), .int .i64 ((tq l j).kd), .int .i64 ((tq l j).cd)] ∧ m = (tq l j).img.length + 1 - i3) (m := (tq l j).img.length + 1 - 0) ?_ ?_
      ·
       refine ⟨sy ++ ([32, 105, 109, 97, 103, 101]), 0, _, updL_self (by kernel_rfl), by omega, (by rw [hsy]; unfold lineB; rw [show (core (tq l j)).1.length = i2 from by show (tq l j).inp.length = i2; omega]; simp), hT0, hQ, hT7, rfl⟩
      ·
       rintro m ρ w43 ⟨sz, i3, ρ, rfl, hi3, hsz, hT0, hQ, hT7, rfl⟩
       have hszl : sz.length ≤ 1100000 := by have h1 := textP_le (V := V) hR hF hb j; have h2 := lineB_le (hR.el _ hm_).wf (hF.2 _ hm_).1 (hF.2 _ hm_).2 i3; rw [hsz, List.length_append]; omega
       refine W_seq ?_
       refine zQ ?_
       refine zS [(85, .int .i64 ((i3 : Nat) : Int)), (86, .pointer (some ⟨w17.heap.size, 3, none⟩))] ?_
       refine zL (.slice ((tq l j).gA) ((tq l j).img.length) ((tq l j).gC)) ((hT7.cell 3).trans rfl) ?_
       refine zS [(88, .int .i64 ((tq l j).img.length : Int)), (89, .bool (decide (((i3 : Nat) : Int) < ((tq l j).img.length : Int))))] ?_
       refine zO (decide (((i3 : Nat) : Int) < ((tq l j).img.length : Int))) (fun hc44 => ?_) (fun hc44 => ?_)
       ·
        replace hc44 : ((i3 : Nat) : Int) < ((tq l j).img.length : Int) := (of_decide_eq_true hc44)
        refine W_skip ?_
        refine W_seq ?_
        refine W_block ?_
        have hil := img_ltT (hR.el _ hm_).wf (i := i3) (by omega)
        have hd8 := @dgs_20 ((tq l j).img.getD i3 0) hil
        refine zR ?_
        refine zS [(92, .string (bsT sz))] ?_
        refine stv (v := .string (bsT (sz ++ ([32])))) (by rfl) (R_sadd (a := sz) (b := [32]) (by kernel_rfl) (by kernel_rfl) (by first | omega | (simp only [List.length_append, List.length_cons, List.length_nil]; omega))) ?_
        refine zS [(94, .pointer (some ⟨w17.heap.size, 3, none⟩))] ?_
        refine zL (.slice ((tq l j).gA) ((tq l j).img.length) ((tq l j).gC)) ((hT7.cell 3).trans rfl) ?_
        refine zS [(96, .int .i64 ((i3 : Nat) : Int))] ?_
        refine stv (v := ptrAt ((tq l j).gA) i3) (by rfl) (R_indexRd1 (len := (tq l j).img.length) (cap := (tq l j).gC) (k := .i64) (i := ((i3 : Nat) : Int)) (e := 44) i3 ((hR.rg (by omega)).tch0 hT0) (by kernel_rfl) (by kernel_rfl) (by kernel_rfl) (by kernel_rfl) rfl (by omega)) ?_
        refine stv (v := .int .u64 (((tq l j).img.getD i3 0 : Nat) : Int)) (by rfl) (R_loadRd (v := .int .u64 (((tq l j).img.getD i3 0 : Nat) : Int)) ((hR.rg (by omega)).tch0 hT0) (by omega) (by kernel_rfl) (by kernel_rfl) (u64s_at (by omega))) ?_
        refine zC (rdigits_ok ((tq l j).img.getD i3 0) _ (by omega)) ?_
        rintro _ w45 ⟨rfl, hT46⟩
        have hT0 := hT0.t0 hT46
        have hQ := hQ.tch0 hT46
        have hT7 := hT7.tch0 hT46
        refine stv (v := .string (bsT ((sz ++ ([32])) ++ (dgs ((tq l j).img.getD i3 0))))) (by rfl) (R_sadd (a := sz ++ ([32])) (b := dgs ((tq l j).img.getD i3 0)) (by kernel_rfl) (by kernel_rfl) (by first | omega | (simp only [List.length_append, List.length_cons, List.length_nil]; omega))) ?_
        refine zS [(3, .string (bsT ((sz ++ ([32])) ++ (dgs ((tq l j).img.getD i3 0)))))] ?_
        refine op_nil ?_
        refine zF [(1, .pointer (some ⟨w.heap.size, 0, none⟩)), (3, .string (bsT ((sz ++ ([32])) ++ (dgs ((tq l j).img.getD i3 0))))), (4, .int .i64 ((j : Nat) : Int)), (5, .pointer (some ⟨w17.heap.size, 0, none⟩)), (7, .int .i64 ((i3 : Nat) : Int)), (89, .bool (decide (((i3 : Nat) : Int) < ((tq l j).img.length : Int))))] fun ρ => ?_
        refine zR ?_
        refine zS [(90, .int .i64 ((i3 : Nat) : Int)), (91, .int .i64 (IntKind.i64.wrap (((i3 : Nat) : Int) + 1)))] ?_
        rw [show IntKind.i64.wrap (((i3 : Nat) : Int) + 1) = ((i3 : Nat) : Int) + 1 from wrap_i64 (by omega) (by omega)]
        refine fixR (y := ((i3 + 1 : Nat) : Int)) (by omega) ?_
        refine zS [(7, .int .i64 ((i3 + 1 : Nat) : Int))] ?_
        refine op_nil ?_
        refine ⟨_, (by omega), (sz ++ ([32])) ++ (dgs ((tq l j).img.getD i3 0)), i3 + 1, _, updL_self (by kernel_rfl), (by omega), (by rw [hsz, lineB_step (by show i3 < (tq l j).img.length; omega)]; simp only [List.append_assoc, core]), hT0, hQ, hT7, rfl⟩
       ·
        replace hc44 : ((tq l j).img.length : Int) ≤ ((i3 : Nat) : Int) := (Int.not_lt.1 (of_decide_eq_false hc44))
        refine W_exit ?_
        refine X_hit ?_
        refine zR ?_
        refine zS [(101, .string (bsT sz))] ?_
        refine stv (v := .string (bsT (sz ++ ([10])))) (by rfl) (R_sadd (a := sz) (b := [10]) (by kernel_rfl) (by kernel_rfl) (by first | omega | (simp only [List.length_append, List.length_cons, List.length_nil]; omega))) ?_
        refine zS [(3, .string (bsT (sz ++ ([10]))))] ?_
        refine op_nil ?_
        refine zF [(1, .pointer (some ⟨w.heap.size, 0, none⟩)), (3, .string (bsT (sz ++ ([10])))), (4, .int .i64 ((j : Nat) : Int)), (5, .pointer (some ⟨w17.heap.size, 0, none⟩)), (7, .int .i64 ((i3 : Nat) : Int)), (89, .bool (decide (((i3 : Nat) : Int) < ((tq l j).img.length : Int))))] fun ρ => ?_
        refine zR ?_
        refine zS [(37, .int .i64 ((j : Nat) : Int)), (38, .int .i64 (IntKind.i64.wrap (((j : Nat) : Int) + 1)))] ?_
        rw [show IntKind.i64.wrap (((j : Nat) : Int) + 1) = ((j : Nat) : Int) + 1 from wrap_i64 (by omega) (by omega)]
        refine fixR (y := ((j + 1 : Nat) : Int)) (by omega) ?_
        refine zS [(4, .int .i64 ((j + 1 : Nat) : Int))] ?_
        refine op_nil ?_
        refine ⟨_, (by omega), sz ++ ([10]), j + 1, _, updL_self (by kernel_rfl), (by omega), (by rw [hsz, textP_step (by omega), lineT, show (core (tq l j)).2.2.2.1.length = i3 from by show (tq l j).img.length = i3; omega]; simp only [List.append_assoc]), hT0, hQ, rfl⟩
   ·
    replace hc18 : (l.length : Int) ≤ ((j : Nat) : Int) := (Int.not_lt.1 (of_decide_eq_false hc18))
    refine W_exit ?_
    refine X_hit ?_
    refine zQ ?_
    refine zS [(103, .string (bsT sx)), (2, .string (bsT sx))] ?_
    refine op_nil ?_
    refine W_ret ?_
    exact ⟨_, Res_of (v := .string (bsT sx)) (by kernel_rfl), ⟨by rw [hsx, show j = l.length from by omega, textP_all], hT0⟩⟩
 ·
  replace hc7 : V ≠ 0 := (ne_of_beq_false hc7)
  refine W_skip ?_
  refine W_seq ?_
  refine zF [(0, .agg #[.int .i64 V, .int .i64 E, .slice A l.length c, .int .i64 S, .int .i64 U]), (1, .pointer (some ⟨w.heap.size, 0, none⟩)), (2, .string (bsT ([]))), (3, .string (bsT (nameT V))), (13, .bool (V == 0))] fun ρ => ?_
  refine W_draw (fun w' => Blk w' (w.heap.size) 25 [.int .i64 V, .int .i64 E, .slice A l.length c, .int .i64 S, .int .i64 U]) (by kernel_rfl) (by kernel_rfl) (by kernel_rfl) fun w47 hT48 hh49 => ?_
  have hT0 := hT0.t0 hT48
  have hB4 := hB4.tch0 hT48
  refine zK [0, 2, 7] #[true, false, true, false, false, false, false, true, false, false, false, false, false] [(20, .string (bsT (nameT V))), (22, .pointer (some ⟨w.heap.size, 3, none⟩)), (27, .pointer (some ⟨w.heap.size, 4, none⟩))] hB4 ?_
  refine zV 1 rfl (.string (bsT ((nameT V) ++ ([32])))) (fun _ hB4 => R_sadd (a := nameT V) (b := [32]) (by kernel_rfl) (by kernel_rfl) (by first | omega | (simp only [List.length_append, List.length_cons, List.length_nil]; omega))) hB4 ?_
  refine zV 3 rfl (.int .i64 S) (fun _ hB4 => R_load (v := .int .i64 S) (by kernel_rfl) (by kernel_rfl) ((hB4.cell 3).trans rfl)) hB4 ?_
  refine zV 8 rfl (.int .i64 U) (fun _ hB4 => R_load (v := .int .i64 U) (by kernel_rfl) (by kernel_rfl) ((hB4.cell 4).trans rfl)) hB4 ?_
  refine zD 4 rfl (S_call (args := [.int .i64 S]) (by kernel_rfl) (rsigned_ok S _ (by omega) (by omega)) ?_)
  rintro _ w50 ⟨rfl, hT51⟩
  have hT0 := hT0.t0 hT51
  have hB4 := hB4.tch0 hT51
  refine ⟨hB4, ?_⟩
  refine zV 5 rfl (.string (bsT (((nameT V) ++ ([32])) ++ (sgn S)))) (fun _ hB4 => R_sadd (a := (nameT V) ++ ([32])) (b := sgn S) (by kernel_rfl) (by kernel_rfl) (by first | omega | (simp only [List.length_append, List.length_cons, List.length_nil]; omega))) hB4 ?_
  refine zV 6 rfl (.string (bsT ((((nameT V) ++ ([32])) ++ (sgn S)) ++ ([32])))) (fun _ hB4 => R_sadd (a := ((nameT V) ++ ([32])) ++ (sgn S)) (b := [32]) (by kernel_rfl) (by kernel_rfl) (by first | omega | (simp only [List.length_append, List.length_cons, List.length_nil]; omega))) hB4 ?_
  refine zD 9 rfl (S_call (args := [.int .i64 U]) (by kernel_rfl) (rsigned_ok U _ (by omega) (by omega)) ?_)
  rintro _ w52 ⟨rfl, hT53⟩
  have hT0 := hT0.t0 hT53
  have hB4 := hB4.tch0 hT53
  refine ⟨hB4, ?_⟩
  refine zV 10 rfl (.string (bsT (((((nameT V) ++ ([32])) ++ (sgn S)) ++ ([32])) ++ (sgn U)))) (fun _ hB4 => R_sadd (a := (((nameT V) ++ ([32])) ++ (sgn S)) ++ ([32])) (b := sgn U) (by kernel_rfl) (by kernel_rfl) (by first | omega | (simp only [List.length_append, List.length_cons, List.length_nil]; omega))) hB4 ?_
  refine zV 11 rfl (.string (bsT ((((((nameT V) ++ ([32])) ++ (sgn S)) ++ ([32])) ++ (sgn U)) ++ ([10])))) (fun _ hB4 => R_sadd (a := ((((nameT V) ++ ([32])) ++ (sgn S)) ++ ([32])) ++ (sgn U)) (b := [10]) (by kernel_rfl) (by kernel_rfl) (by first | omega | (simp only [List.length_append, List.length_cons, List.length_nil]; omega))) hB4 ?_
  refine zK [12] #[true, true, true, true, true, true, true, true, true, true, true, true, true] [(3, .string (bsT ((((((nameT V) ++ ([32])) ++ (sgn S)) ++ ([32])) ++ (sgn U)) ++ ([10]))))] hB4 ?_
  refine d_done (by kernel_rfl) ?_
  refine W_seq ?_
  refine W_seq ?_
  refine zF [(0, .agg #[.int .i64 V, .int .i64 E, .slice A l.length c, .int .i64 S, .int .i64 U]), (1, .pointer (some ⟨w.heap.size, 0, none⟩)), (2, .string (bsT ([]))), (3, .string (bsT ((((((nameT V) ++ ([32])) ++ (sgn S)) ++ ([32])) ++ (sgn U)) ++ ([10])))), (13, .bool (V == 0))] fun ρ => ?_
  refine zR ?_
  refine zS [(4, .int .i64 0)] ?_
  refine op_nil ?_
  refine W_block ?_
  refine W_loop (fun m ρ w' => ∃ (sx : Tx) (j : Nat) (ρ0 : Env), ρ = updL ρ0 [(1, .pointer (some ⟨w.heap.size, 0, none⟩)), (3, .string (bsT sx)), (4, .int .i64 ((j : Nat) : Int))] ∧ (j ≤ l.length) ∧ (sx = textP V E S U l j) ∧ Tch N0 w w' ∧ Blk w' (w.heap.size) 25 [.int .i64 V, .int .i64 E, .slice A l.length c, .int .i64 S, .int .i64 U] ∧ m = l.length + 1 - j) (m := l.length + 1 - 0) ?_ ?_
  ·
   refine ⟨(((((nameT V) ++ ([32])) ++ (sgn S)) ++ ([32])) ++ (sgn U)) ++ ([10]), 0, _, updL_self (by kernel_rfl), by omega, (by rw [textP_0]; exact hdX_ok (by first | exact .inl ⟨by omega, rfl⟩ | exact .inr ⟨by omega, rfl⟩)), hT0, hB4, rfl⟩
  ·
   rintro m ρ w54 ⟨sx, j, ρ, rfl, hj, hsx, hT0, hQ, rfl⟩
   have hsl : sx.length ≤ 1000000 := by rw [hsx]; exact textP_le hR hF hb j
   refine W_seq ?_
   refine zQ ?_
   refine zS [(32, .int .i64 ((j : Nat) : Int)), (33, .pointer (some ⟨w.heap.size, 2, none⟩))] ?_
   refine zL (.slice A l.length c) ((hQ.cell 2).trans rfl) ?_
   refine zS [(35, .int .i64 (l.length : Int)), (36, .bool (decide (((j : Nat) : Int) < (l.length : Int))))] ?_
   refine zO (decide (((j : Nat) : Int) < (l.length : Int))) (fun hc55 => ?_) (fun hc55 => ?_)
   ·
    replace hc55 : ((j : Nat) : Int) < (l.length : Int) := (of_decide_eq_true hc55)
    refine W_skip ?_
    refine W_seq ?_
    refine W_block ?_
    refine zQ ?_
    refine zS [(39, .pointer (some ⟨w.heap.size, 2, none⟩))] ?_
    refine zL (.slice A l.length c) ((hQ.cell 2).trans rfl) ?_
    refine zS [(41, .int .i64 ((j : Nat) : Int))] ?_
    refine stv (v := ptrAt A (j * 6)) (by rfl) (R_indexRd (sz := 6) (len := l.length) (cap := c) (k := .i64) (i := ((j : Nat) : Int)) (e := 43) j (hR.rd.tch0 hT0) (by kernel_rfl) (by kernel_rfl) (by kernel_rfl) (by kernel_rfl) rfl (by omega)) ?_
    refine stv (v := .agg #[.slice ((tq l j).iA) ((tq l j).inp.length) ((tq l j).iC), .int .i64 ((tq l j).pt), .int .i64 ((tq l j).ms), .slice ((tq l j).gA) ((tq l j).img.length) ((tq l j).gC), .int .i64 ((tq l j).kd), .int .i64 ((tq l j).cd)]) (by rfl) (R_loadRdA [.slice ((tq l j).iA) ((tq l j).inp.length) ((tq l j).iC), .int .i64 ((tq l j).pt), .int .i64 ((tq l j).ms), .slice ((tq l j).gA) ((tq l j).img.length) ((tq l j).gC), .int .i64 ((tq l j).kd), .int .i64 ((tq l j).cd)] (hR.rd.tch0 hT0) (by omega) (by kernel_rfl) (by kernel_rfl) (by kernel_rfl) (tcs_part l (by omega))) ?_
    have hz60 := hT0.size
    have lt61 := hQ.lt
    refine st (by rfl) (S_new (v := .pointer (some ⟨w54.heap.size, 0, none⟩)) (ob := .cells #[.slice none 0 0, .int .i64 0, .int .i64 0, .slice none 0 0, .int .i64 0, .int .i64 0] 43) (by kernel_rfl) fun w56 hT57 hs58 hB59 => ?_)
    replace hB59 : Blk w56 (w54.heap.size) 43 [.slice none 0 0, .int .i64 0, .int .i64 0, .slice none 0 0, .int .i64 0, .int .i64 0] := hB59
    have hT0 := hT0.t0 hT57
    have hQ := hQ.tch0 hT57
    refine st (by rfl) (S_storeA (b := w54.heap.size) (j := 0) (cs := [.slice ((tq l j).iA) ((tq l j).inp.length) ((tq l j).iC), .int .i64 ((tq l j).pt), .int .i64 ((tq l j).ms), .slice ((tq l j).gA) ((tq l j).img.length) ((tq l j).gC), .int .i64 ((tq l j).kd), .int .i64 ((tq l j).cd)]) (by kernel_rfl) (by kernel_rfl) (by kernel_rfl) (by simp [oneV]) hB59 (by simp) fun w62 hT63 hs64 hB59' => ?_)
    have hT0 := (hT0).then hT63 (fun c e => by have : c = w54.heap.size := e; omega)
    have hQ := hQ.tch hT63 (hQ.ne hB59 (by decide))
    replace hB59 : Blk w62 w54.heap.size 43 [.slice ((tq l j).iA) ((tq l j).inp.length) ((tq l j).iC), .int .i64 ((tq l j).pt), .int .i64 ((tq l j).ms), .slice ((tq l j).gA) ((tq l j).img.length) ((tq l j).gC), .int .i64 ((tq l j).kd), .int .i64 ((tq l j).cd)] := hB59'
    refine op_nil ?_
    refine W_seq ?_
    refine zF [(1, .pointer (some ⟨w.heap.size, 0, none⟩)), (3, .string (bsT sx)), (4, .int .i64 ((j : Nat) : Int)), (5, .pointer (some ⟨w54.heap.size, 0, none⟩)), (36, .bool (decide (((j : Nat) : Int) < (l.length : Int))))] fun ρ => ?_
    have hm_ := tq_mem (l := l) (i := j) (by omega)
    have hwT := (hR.el _ hm_).wf
    obtain ⟨hw1, hw2, hw3, hw4, hw5⟩ := hwT
    have hs1 := sgn_le hw1
    have hs2 := sgn_le hw2
    have hs3 := sgn_le hw3
    have hs4 := sgn_le hw4
    unfold b64 at hw1 hw2 hw3 hw4
    have hmF := hF.2 _ hm_
    refine W_draw (fun w' => Blk w' (w54.heap.size) 43 [.slice ((tq l j).iA) ((tq l j).inp.length) ((tq l j).iC), .int .i64 ((tq l j).pt), .int .i64 ((tq l j).ms), .slice ((tq l j).gA) ((tq l j).img.length) ((tq l j).gC), .int .i64 ((tq l j).kd), .int .i64 ((tq l j).cd)]) (by kernel_rfl) (by kernel_rfl) (by kernel_rfl) fun w65 hT66 hh67 => ?_
    have hT0 := hT0.t0 hT66
    have hQ := hQ.tch0 hT66
    have hB59 := hB59.tch0 hT66
    refine zK [0, 2, 7, 12, 17] #[true, false, true, false, false, false, false, true, false, false, false, false, true, false, false, false, false, true, false, false, false, false, false] [(44, .string (bsT sx)), (46, .pointer (some ⟨w54.heap.size, 1, none⟩)), (51, .pointer (some ⟨w54.heap.size, 2, none⟩)), (56, .pointer (some ⟨w54.heap.size, 4, none⟩)), (61, .pointer (some ⟨w54.heap.size, 5, none⟩))] hB59 ?_
    refine zV 1 rfl (.string (bsT (sx ++ ([112, 111, 105, 110, 116, 32])))) (fun _ hB59 => R_sadd (a := sx) (b := [112, 111, 105, 110, 116, 32]) (by kernel_rfl) (by kernel_rfl) (by first | omega | (simp only [List.length_append, List.length_cons, List.length_nil]; omega))) hB59 ?_
    refine zV 3 rfl (.int .i64 ((tq l j).pt)) (fun _ hB59 => R_load (v := .int .i64 ((tq l j).pt)) (by kernel_rfl) (by kernel_rfl) ((hB59.cell 1).trans rfl)) hB59 ?_
    refine zV 8 rfl (.int .i64 ((tq l j).ms)) (fun _ hB59 => R_load (v := .int .i64 ((tq l j).ms)) (by kernel_rfl) (by kernel_rfl) ((hB59.cell 2).trans rfl)) hB59 ?_
    refine zV 13 rfl (.int .i64 ((tq l j).kd)) (fun _ hB59 => R_load (v := .int .i64 ((tq l j).kd)) (by kernel_rfl) (by kernel_rfl) ((hB59.cell 4).trans rfl)) hB59 ?_
    refine zV 18 rfl (.int .i64 ((tq l j).cd)) (fun _ hB59 => R_load (v := .int .i64 ((tq l j).cd)) (by kernel_rfl) (by kernel_rfl) ((hB59.cell 5).trans rfl)) hB59 ?_
    refine zD 4 rfl (S_call (args := [.int .i64 ((tq l j).pt)]) (by kernel_rfl) (rsigned_ok ((tq l j).pt) _ (by omega) (by omega)) ?_)
    rintro _ w68 ⟨rfl, hT69⟩
    have hT0 := hT0.t0 hT69
    have hQ := hQ.tch0 hT69
    have hB59 := hB59.tch0 hT69
    refine ⟨hB59, ?_⟩
    refine zV 5 rfl (.string (bsT ((sx ++ ([112, 111, 105, 110, 116, 32])) ++ (sgn ((tq l j).pt))))) (fun _ hB59 => R_sadd (a := sx ++ ([112, 111, 105, 110, 116, 32])) (b := sgn ((tq l j).pt)) (by kernel_rfl) (by kernel_rfl) (by first | omega | (simp only [List.length_append, List.length_cons, List.length_nil]; omega))) hB59 ?_
    refine zV 6 rfl (.string (bsT (((sx ++ ([112, 111, 105, 110, 116, 32])) ++ (sgn ((tq l j).pt))) ++ ([32, 109, 97, 115, 107, 32])))) (fun _ hB59 => R_sadd (a := (sx ++ ([112, 111, 105, 110, 116, 32])) ++ (sgn ((tq l j).pt))) (b := [32, 109, 97, 115, 107, 32]) (by kernel_rfl) (by kernel_rfl) (by first | omega | (simp only [List.length_append, List.length_cons, List.length_nil]; omega))) hB59 ?_
    refine zD 9 rfl (S_call (args := [.int .i64 ((tq l j).ms)]) (by kernel_rfl) (rsigned_ok ((tq l j).ms) _ (by omega) (by omega)) ?_)
    rintro _ w70 ⟨rfl, hT71⟩
    have hT0 := hT0.t0 hT71
    have hQ := hQ.tch0 hT71
    have hB59 := hB59.tch0 hT71
    refine ⟨hB59, ?_⟩
    refine zV 10 rfl (.string (bsT ((((sx ++ ([112, 111, 105, 110, 116, 32])) ++ (sgn ((tq l j).pt))) ++ ([32, 109, 97, 115, 107, 32])) ++ (sgn ((tq l j).ms))))) (fun _ hB59 => R_sadd (a := ((sx ++ ([112, 111, 105, 110, 116, 32])) ++ (sgn ((tq l j).pt))) ++ ([32, 109, 97, 115, 107, 32])) (b := sgn ((tq l j).ms)) (by kernel_rfl) (by kernel_rfl) (by first | omega | (simp only [List.length_append, List.length_cons, List.length_nil]; omega))) hB59 ?_
    refine zV 11 rfl (.string (bsT (((((sx ++ ([112, 111, 105, 110, 116, 32])) ++ (sgn ((tq l j).pt))) ++ ([32, 109, 97, 115, 107, 32])) ++ (sgn ((tq l j).ms))) ++ ([32, 107, 105, 110, 100, 32])))) (fun _ hB59 => R_sadd (a := (((sx ++ ([112, 111, 105, 110, 116, 32])) ++ (sgn ((tq l j).pt))) ++ ([32, 109, 97, 115, 107, 32])) ++ (sgn ((tq l j).ms))) (b := [32, 107, 105, 110, 100, 32]) (by kernel_rfl) (by kernel_rfl) (by first | omega | (simp only [List.length_append, List.length_cons, List.length_nil]; omega))) hB59 ?_
    refine zD 14 rfl (S_call (args := [.int .i64 ((tq l j).kd)]) (by kernel_rfl) (rsigned_ok ((tq l j).kd) _ (by omega) (by omega)) ?_)
    rintro _ w72 ⟨rfl, hT73⟩
    have hT0 := hT0.t0 hT73
    have hQ := hQ.tch0 hT73
    have hB59 := hB59.tch0 hT73
    refine ⟨hB59, ?_⟩
    refine zV 15 rfl (.string (bsT ((((((sx ++ ([112, 111, 105, 110, 116, 32])) ++ (sgn ((tq l j).pt))) ++ ([32, 109, 97, 115, 107, 32])) ++ (sgn ((tq l j).ms))) ++ ([32, 107, 105, 110, 100, 32])) ++ (sgn ((tq l j).kd))))) (fun _ hB59 => R_sadd (a := ((((sx ++ ([112, 111, 105, 110, 116, 32])) ++ (sgn ((tq l j).pt))) ++ ([32, 109, 97, 115, 107, 32])) ++ (sgn ((tq l j).ms))) ++ ([32, 107, 105, 110, 100, 32])) (b := sgn ((tq l j).kd)) (by kernel_rfl) (by kernel_rfl) (by first | omega | (simp only [List.length_append, List.length_cons, List.length_nil]; omega))) hB59 ?_
    refine zV 16 rfl (.string (bsT (((((((sx ++ ([112, 111, 105, 110, 116, 32])) ++ (sgn ((tq l j).pt))) ++ ([32, 109, 97, 115, 107, 32])) ++ (sgn ((tq l j).ms))) ++ ([32, 107, 105, 110, 100, 32])) ++ (sgn ((tq l j).kd))) ++ ([32, 99, 111, 100, 101, 32])))) (fun _ hB59 => R_sadd (a := (((((sx ++ ([112, 111, 105, 110, 116, 32])) ++ (sgn ((tq l j).pt))) ++ ([32, 109, 97, 115, 107, 32])) ++ (sgn ((tq l j).ms))) ++ ([32, 107, 105, 110, 100, 32])) ++ (sgn ((tq l j).kd))) (b := [32, 99, 111, 100, 101, 32]) (by kernel_rfl) (by kernel_rfl) (by first | omega | (simp only [List.length_append, List.length_cons, List.length_nil]; omega))) hB59 ?_
    refine zD 19 rfl (S_call (args := [.int .i64 ((tq l j).cd)]) (by kernel_rfl) (rsigned_ok ((tq l j).cd) _ (by omega) (by omega)) ?_)
    rintro _ w74 ⟨rfl, hT75⟩
    have hT0 := hT0.t0 hT75
    have hQ := hQ.tch0 hT75
    have hB59 := hB59.tch0 hT75
    refine ⟨hB59, ?_⟩
    refine zV 20 rfl (.string (bsT ((((((((sx ++ ([112, 111, 105, 110, 116, 32])) ++ (sgn ((tq l j).pt))) ++ ([32, 109, 97, 115, 107, 32])) ++ (sgn ((tq l j).ms))) ++ ([32, 107, 105, 110, 100, 32])) ++ (sgn ((tq l j).kd))) ++ ([32, 99, 111, 100, 101, 32])) ++ (sgn ((tq l j).cd))))) (fun _ hB59 => R_sadd (a := ((((((sx ++ ([112, 111, 105, 110, 116, 32])) ++ (sgn ((tq l j).pt))) ++ ([32, 109, 97, 115, 107, 32])) ++ (sgn ((tq l j).ms))) ++ ([32, 107, 105, 110, 100, 32])) ++ (sgn ((tq l j).kd))) ++ ([32, 99, 111, 100, 101, 32])) (b := sgn ((tq l j).cd)) (by kernel_rfl) (by kernel_rfl) (by first | omega | (simp only [List.length_append, List.length_cons, List.length_nil]; omega))) hB59 ?_
    refine zV 21 rfl (.string (bsT (((((((((sx ++ ([112, 111, 105, 110, 116, 32])) ++ (sgn ((tq l j).pt))) ++ ([32, 109, 97, 115, 107, 32])) ++ (sgn ((tq l j).ms))) ++ ([32, 107, 105, 110, 100, 32])) ++ (sgn ((tq l j).kd))) ++ ([32, 99, 111, 100, 101, 32])) ++ (sgn ((tq l j).cd))) ++ ([32, 105, 110, 112, 117, 116])))) (fun _ hB59 => R_sadd (a := (((((((sx ++ ([112, 111, 105, 110, 116, 32])) ++ (sgn ((tq l j).pt))) ++ ([32, 109, 97, 115, 107, 32])) ++ (sgn ((tq l j).ms))) ++ ([32, 107, 105, 110, 100, 32])) ++ (sgn ((tq l j).kd))) ++ ([32, 99, 111, 100, 101, 32])) ++ (sgn ((tq l j).cd))) (b := [32, 105, 110, 112, 117, 116]) (by kernel_rfl) (by kernel_rfl) (by first | omega | (simp only [List.length_append, List.length_cons, List.length_nil]; omega))) hB59 ?_
    refine zK [22] #[true, true, true, true, true, true, true, true, true, true, true, true, true, true, true, true, true, true, true, true, true, true, true] [(3, .string (bsT (((((((((sx ++ ([112, 111, 105, 110, 116, 32])) ++ (sgn ((tq l j).pt))) ++ ([32, 109, 97, 115, 107, 32])) ++ (sgn ((tq l j).ms))) ++ ([32, 107, 105, 110, 100, 32])) ++ (sgn ((tq l j).kd))) ++ ([32, 99, 111, 100, 101, 32])) ++ (sgn ((tq l j).cd))) ++ ([32, 105, 110, 112, 117, 116]))))] hB59 ?_
    refine d_done (by kernel_rfl) ?_
    refine W_seq ?_
    refine W_seq ?_
    refine zF [(1, .pointer (some ⟨w.heap.size, 0, none⟩)), (3, .string (bsT (((((((((sx ++ ([112, 111, 105, 110, 116, 32])) ++ (sgn ((tq l j).pt))) ++ ([32, 109, 97, 115, 107, 32])) ++ (sgn ((tq l j).ms))) ++ ([32, 107, 105, 110, 100, 32])) ++ (sgn ((tq l j).kd))) ++ ([32, 99, 111, 100, 101, 32])) ++ (sgn ((tq l j).cd))) ++ ([32, 105, 110, 112, 117, 116])))), (4, .int .i64 ((j : Nat) : Int)), (5, .pointer (some ⟨w54.heap.size, 0, none⟩)), (36, .bool (decide (((j : Nat) : Int) < (l.length : Int))))] fun ρ => ?_
    refine zR ?_
    refine zS [(6, .int .i64 0)] ?_
    refine op_nil ?_
    refine W_block ?_
    refine W_loop (fun m ρ w' => ∃ (sy : Tx) (i2 : Nat) (ρ0 : Env), ρ = updL ρ0 [(1, .pointer (some ⟨w.heap.size, 0, none⟩)), (3, .string (bsT sy)), (4, .int .i64 ((j : Nat) : Int)), (5, .pointer (some ⟨w54.heap.size, 0, none⟩)), (6, .int .i64 ((i2 : Nat) : Int))] ∧ (i2 ≤ (tq l j).inp.length) ∧ (sy = textP V E S U l j ++ lineA (core (tq l j)) i2) ∧ Tch N0 w w' ∧ Blk w' (w.heap.size) 25 [.int .i64 V, .int .i64 E, .slice A l.length c, .int .i64 S, .int .i64 U] ∧ Blk w' (w54.heap.size) 43 [.slice ((tq l j).iA) ((tq l j).inp.length) ((tq l j).iC), .int .i64 ((tq l j).pt), .int .i64 ((tq l j).ms), .slice ((tq l j).gA) ((tq l j).img.length) ((tq l j).gC), .int .i64 ((tq l j).kd), .int .i64 ((tq l j).cd)] ∧ m = (tq l j).inp.length + 1 - i2) (m := (tq l j).inp.length + 1 - 0) ?_ ?_
    ·
     refine ⟨((((((((sx ++ ([112, 111, 105, 110, 116, 32])) ++ (sgn ((tq l j).pt))) ++ ([32, 109, 97, 115, 107, 32])) ++ (sgn ((tq l j).ms))) ++ ([32, 107, 105, 110, 100, 32])) ++ (sgn ((tq l j).kd))) ++ ([32, 99, 111, 100, 101, 32])) ++ (sgn ((tq l j).cd))) ++ ([32, 105, 110, 112, 117, 116]), 0, _, updL_self (by kernel_rfl), by omega, (by rw [hsx]; unfold lineA core; simp), hT0, hQ, hB59, rfl⟩
    ·
     rintro m ρ w76 ⟨sy, i2, ρ, rfl, hi2, hsy, hT0, hQ, hT7, rfl⟩
     have hsyl : sy.length ≤ 1100000 := by have h1 := textP_le (V := V) hR hF hb j; have h2 := lineA_le (hR.el _ hm_).wf (hF.2 _ hm_).1 i2; rw [hsy, List.length_append]; omega
     refine W_seq ?_
     refine zQ ?_
     refine zS [(66, .int .i64 ((i2 : Nat) : Int)), (67, .pointer (some ⟨w54.heap.size, 0, none⟩))] ?_
     refine zL (.slice ((tq l j).iA) ((tq l j).inp.length) ((tq l j).iC)) ((hT7.cell 0).trans rfl) ?_
     refine zS [(69, .int .i64 ((tq l j).inp.length : Int)), (70, .bool (decide (((i2 : Nat) : Int) < ((tq l j).inp.length : Int))))] ?_
     refine zO (decide (((i2 : Nat) : Int) < ((tq l j).inp.length : Int))) (fun hc77 => ?_) (fun hc77 => ?_)
     ·
      replace hc77 : ((i2 : Nat) : Int) < ((tq l j).inp.length : Int) := (of_decide_eq_true hc77)
      refine W_skip ?_
      refine W_seq ?_
      refine W_block ?_
      have hb8 := ((tq l j).inp.getD i2 0).toNat_lt
      have hd8 := @dgs_20 ((tq l j).inp.getD i2 0).toNat (by omega)
      refine zR ?_
      refine zS [(73, .string (bsT sy))] ?_
      refine stv (v := .string (bsT (sy ++ ([32])))) (by rfl) (R_sadd (a := sy) (b := [32]) (by kernel_rfl) (by kernel_rfl) (by first | omega | (simp only [List.length_append, List.length_cons, List.length_nil]; omega))) ?_
      refine zS [(75, .pointer (some ⟨w54.heap.size, 0, none⟩))] ?_
      refine zL (.slice ((tq l j).iA) ((tq l j).inp.length) ((tq l j).iC)) ((hT7.cell 0).trans rfl) ?_
      refine zS [(77, .int .i64 ((i2 : Nat) : Int))] ?_
      refine stv (v := ptrAt ((tq l j).iA) i2) (by rfl) (R_indexRd1 (len := (tq l j).inp.length) (cap := (tq l j).iC) (k := .i64) (i := ((i2 : Nat) : Int)) (e := 5) i2 ((hR.ri (by omega)).tch0 hT0) (by kernel_rfl) (by kernel_rfl) (by kernel_rfl) (by kernel_rfl) rfl (by omega)) ?_
      refine stv (v := .int .u8 ((((tq l j).inp.getD i2 0).toNat : Nat) : Int)) (by rfl) (R_loadRd (v := .int .u8 ((((tq l j).inp.getD i2 0).toNat : Nat) : Int)) ((hR.ri (by omega)).tch0 hT0) (by omega) (by kernel_rfl) (by kernel_rfl) (u8s_at (by omega))) ?_
      refine zS [(80, .int .i64 (IntKind.i64.wrap ((((tq l j).inp.getD i2 0).toNat : Nat) : Int)))] ?_
      rw [show IntKind.i64.wrap ((((tq l j).inp.getD i2 0).toNat : Nat) : Int) = ((((tq l j).inp.getD i2 0).toNat : Nat) : Int) from wrap_i64 (by omega) (by omega)]
      refine zC (rsignedN_ok (((tq l j).inp.getD i2 0).toNat) _ (by omega)) ?_
      rintro _ w78 ⟨rfl, hT79⟩
      have hT0 := hT0.t0 hT79
      have hQ := hQ.tch0 hT79
      have hT7 := hT7.tch0 hT79
      refine stv (v := .string (bsT ((sy ++ ([32])) ++ (dgs (((tq l j).inp.getD i2 0).toNat))))) (by rfl) (R_sadd (a := sy ++ ([32])) (b := dgs (((tq l j).inp.getD i2 0).toNat)) (by kernel_rfl) (by kernel_rfl) (by first | omega | (simp only [List.length_append, List.length_cons, List.length_nil]; omega))) ?_
      refine zS [(3, .string (bsT ((sy ++ ([32])) ++ (dgs (((tq l j).inp.getD i2 0).toNat)))))] ?_
      refine op_nil ?_
      refine zF [(1, .pointer (some ⟨w.heap.size, 0, none⟩)), (3, .string (bsT ((sy ++ ([32])) ++ (dgs (((tq l j).inp.getD i2 0).toNat))))), (4, .int .i64 ((j : Nat) : Int)), (5, .pointer (some ⟨w54.heap.size, 0, none⟩)), (6, .int .i64 ((i2 : Nat) : Int)), (70, .bool (decide (((i2 : Nat) : Int) < ((tq l j).inp.length : Int))))] fun ρ => ?_
      refine zR ?_
      refine zS [(71, .int .i64 ((i2 : Nat) : Int)), (72, .int .i64 (IntKind.i64.wrap (((i2 : Nat) : Int) + 1)))] ?_
      rw [show IntKind.i64.wrap (((i2 : Nat) : Int) + 1) = ((i2 : Nat) : Int) + 1 from wrap_i64 (by omega) (by omega)]
      refine fixR (y := ((i2 + 1 : Nat) : Int)) (by omega) ?_
      refine zS [(6, .int .i64 ((i2 + 1 : Nat) : Int))] ?_
      refine op_nil ?_
      refine ⟨_, (by omega), (sy ++ ([32])) ++ (dgs (((tq l j).inp.getD i2 0).toNat)), i2 + 1, _, updL_self (by kernel_rfl), (by omega), (by rw [hsy, lineA_step (by show i2 < (tq l j).inp.length; omega)]; simp only [List.append_assoc, core]), hT0, hQ, hT7, rfl⟩
     ·
      replace hc77 : ((tq l j).inp.length : Int) ≤ ((i2 : Nat) : Int) := (Int.not_lt.1 (of_decide_eq_false hc77))
      refine W_exit ?_
      refine X_hit ?_
      refine zQ ?_
      refine zS [(83, .string (bsT sy))] ?_
      refine stv (v := .string (bsT (sy ++ ([32, 105, 109, 97, 103, 101])))) (by rfl) (R_sadd (a := sy) (b := [32, 105, 109, 97, 103, 101]) (by kernel_rfl) (by kernel_rfl) (by first | omega | (simp only [List.length_append, List.length_cons, List.length_nil]; omega))) ?_
      refine zS [(3, .string (bsT (sy ++ ([32, 105, 109, 97, 103, 101]))))] ?_
      refine op_nil ?_
      refine W_seq ?_
      refine W_seq ?_
      refine zF [(1, .pointer (some ⟨w.heap.size, 0, none⟩)), (3, .string (bsT (sy ++ ([32, 105, 109, 97, 103, 101])))), (4, .int .i64 ((j : Nat) : Int)), (5, .pointer (some ⟨w54.heap.size, 0, none⟩)), (6, .int .i64 ((i2 : Nat) : Int)), (70, .bool (decide (((i2 : Nat) : Int) < ((tq l j).inp.length : Int))))] fun ρ => ?_
      refine zR ?_
      refine zS [(7, .int .i64 0)] ?_
      refine op_nil ?_
      refine W_block ?_
      refine W_loop (fun m ρ w' => ∃ (sz : Tx) (i3 : Nat) (ρ0 : Env), ρ = updL ρ0 [(1, .pointer (some ⟨w.heap.size, 0, none⟩)), (3, .string (bsT sz)), (4, .int .i64 ((j : Nat) : Int)), (5, .pointer (some ⟨w54.heap.size, 0, none⟩)), (7, .int .i64 ((i3 : Nat) : Int))] ∧ (i3 ≤ (tq l j).img.length) ∧ (sz = textP V E S U l j ++ lineB (core (tq l j)) i3) ∧ Tch N0 w w' ∧ Blk w' (w.heap.size) 25 [.int .i64 V, .int .i64 E, .slice A l.length c, .int .i64 S, .int .i64 U] ∧ Blk w' (w54.heap.size) 43 [.slice ((tq l j).iA) ((tq l j).inp.length) ((tq l j).iC), .int .i64 ((tq l j).pt), .int .i64 ((tq l j).ms), .slice ((tq l j).gA) ((tq l j).img.length) ((tq l j).gC), .int .i64 ((tq l j).kd), .int .i64 ((tq l j).cd)] ∧ m = (tq l j).img.length + 1 - i3) (m := (tq l j).img.length + 1 - 0) ?_ ?_
      ·
       refine ⟨sy ++ ([32, 105, 109, 97, 103, 101]), 0, _, updL_self (by kernel_rfl), by omega, (by rw [hsy]; unfold lineB; rw [show (core (tq l j)).1.length = i2 from by show (tq l j).inp.length = i2; omega]; simp), hT0, hQ, hT7, rfl⟩
      ·
       rintro m ρ w80 ⟨sz, i3, ρ, rfl, hi3, hsz, hT0, hQ, hT7, rfl⟩
       have hszl : sz.length ≤ 1100000 := by have h1 := textP_le (V := V) hR hF hb j; have h2 := lineB_le (hR.el _ hm_).wf (hF.2 _ hm_).1 (hF.2 _ hm_).2 i3; rw [hsz, List.length_append]; omega
       refine W_seq ?_
       refine zQ ?_
       refine zS [(85, .int .i64 ((i3 : Nat) : Int)), (86, .pointer (some ⟨w54.heap.size, 3, none⟩))] ?_
       refine zL (.slice ((tq l j).gA) ((tq l j).img.length) ((tq l j).gC)) ((hT7.cell 3).trans rfl) ?_
       refine zS [(88, .int .i64 ((tq l j).img.length : Int)), (89, .bool (decide (((i3 : Nat) : Int) < ((tq l j).img.length : Int))))] ?_
       refine zO (decide (((i3 : Nat) : Int) < ((tq l j).img.length : Int))) (fun hc81 => ?_) (fun hc81 => ?_)
       ·
        replace hc81 : ((i3 : Nat) : Int) < ((tq l j).img.length : Int) := (of_decide_eq_true hc81)
        refine W_skip ?_
        refine W_seq ?_
        refine W_block ?_
        have hil := img_ltT (hR.el _ hm_).wf (i := i3) (by omega)
        have hd8 := @dgs_20 ((tq l j).img.getD i3 0) hil
        refine zR ?_
        refine zS [(92, .string (bsT sz))] ?_
        refine stv (v := .string (bsT (sz ++ ([32])))) (by rfl) (R_sadd (a := sz) (b := [32]) (by kernel_rfl) (by kernel_rfl) (by first | omega | (simp only [List.length_append, List.length_cons, List.length_nil]; omega))) ?_
        refine zS [(94, .pointer (some ⟨w54.heap.size, 3, none⟩))] ?_
        refine zL (.slice ((tq l j).gA) ((tq l j).img.length) ((tq l j).gC)) ((hT7.cell 3).trans rfl) ?_
        refine zS [(96, .int .i64 ((i3 : Nat) : Int))] ?_
        refine stv (v := ptrAt ((tq l j).gA) i3) (by rfl) (R_indexRd1 (len := (tq l j).img.length) (cap := (tq l j).gC) (k := .i64) (i := ((i3 : Nat) : Int)) (e := 44) i3 ((hR.rg (by omega)).tch0 hT0) (by kernel_rfl) (by kernel_rfl) (by kernel_rfl) (by kernel_rfl) rfl (by omega)) ?_
        refine stv (v := .int .u64 (((tq l j).img.getD i3 0 : Nat) : Int)) (by rfl) (R_loadRd (v := .int .u64 (((tq l j).img.getD i3 0 : Nat) : Int)) ((hR.rg (by omega)).tch0 hT0) (by omega) (by kernel_rfl) (by kernel_rfl) (u64s_at (by omega))) ?_
        refine zC (rdigits_ok ((tq l j).img.getD i3 0) _ (by omega)) ?_
        rintro _ w82 ⟨rfl, hT83⟩
        have hT0 := hT0.t0 hT83
        have hQ := hQ.tch0 hT83
        have hT7 := hT7.tch0 hT83
        refine stv (v := .string (bsT ((sz ++ ([32])) ++ (dgs ((tq l j).img.getD i3 0))))) (by rfl) (R_sadd (a := sz ++ ([32])) (b := dgs ((tq l j).img.getD i3 0)) (by kernel_rfl) (by kernel_rfl) (by first | omega | (simp only [List.length_append, List.length_cons, List.length_nil]; omega))) ?_
        refine zS [(3, .string (bsT ((sz ++ ([32])) ++ (dgs ((tq l j).img.getD i3 0)))))] ?_
        refine op_nil ?_
        refine zF [(1, .pointer (some ⟨w.heap.size, 0, none⟩)), (3, .string (bsT ((sz ++ ([32])) ++ (dgs ((tq l j).img.getD i3 0))))), (4, .int .i64 ((j : Nat) : Int)), (5, .pointer (some ⟨w54.heap.size, 0, none⟩)), (7, .int .i64 ((i3 : Nat) : Int)), (89, .bool (decide (((i3 : Nat) : Int) < ((tq l j).img.length : Int))))] fun ρ => ?_
        refine zR ?_
        refine zS [(90, .int .i64 ((i3 : Nat) : Int)), (91, .int .i64 (IntKind.i64.wrap (((i3 : Nat) : Int) + 1)))] ?_
        rw [show IntKind.i64.wrap (((i3 : Nat) : Int) + 1) = ((i3 : Nat) : Int) + 1 from wrap_i64 (by omega) (by omega)]
        refine fixR (y := ((i3 + 1 : Nat) : Int)) (by omega) ?_
        refine zS [(7, .int .i64 ((i3 + 1 : Nat) : Int))] ?_
        refine op_nil ?_
        refine ⟨_, (by omega), (sz ++ ([32])) ++ (dgs ((tq l j).img.getD i3 0)), i3 + 1, _, updL_self (by kernel_rfl), (by omega), (by rw [hsz, lineB_step (by show i3 < (tq l j).img.length; omega)]; simp only [List.append_assoc, core]), hT0, hQ, hT7, rfl⟩
       ·
        replace hc81 : ((tq l j).img.length : Int) ≤ ((i3 : Nat) : Int) := (Int.not_lt.1 (of_decide_eq_false hc81))
        refine W_exit ?_
        refine X_hit ?_
        refine zR ?_
        refine zS [(101, .string (bsT sz))] ?_
        refine stv (v := .string (bsT (sz ++ ([10])))) (by rfl) (R_sadd (a := sz) (b := [10]) (by kernel_rfl) (by kernel_rfl) (by first | omega | (simp only [List.length_append, List.length_cons, List.length_nil]; omega))) ?_
        refine zS [(3, .string (bsT (sz ++ ([10]))))] ?_
        refine op_nil ?_
        refine zF [(1, .pointer (some ⟨w.heap.size, 0, none⟩)), (3, .string (bsT (sz ++ ([10])))), (4, .int .i64 ((j : Nat) : Int)), (5, .pointer (some ⟨w54.heap.size, 0, none⟩)), (7, .int .i64 ((i3 : Nat) : Int)), (89, .bool (decide (((i3 : Nat) : Int) < ((tq l j).img.length : Int))))] fun ρ => ?_
        refine zR ?_
        refine zS [(37, .int .i64 ((j : Nat) : Int)), (38, .int .i64 (IntKind.i64.wrap (((j : Nat) : Int) + 1)))] ?_
        rw [show IntKind.i64.wrap (((j : Nat) : Int) + 1) = ((j : Nat) : Int) + 1 from wrap_i64 (by omega) (by omega)]
        refine fixR (y := ((j + 1 : Nat) : Int)) (by omega) ?_
        refine zS [(4, .int .i64 ((j + 1 : Nat) : Int))] ?_
        refine op_nil ?_
        refine ⟨_, (by omega), sz ++ ([10]), j + 1, _, updL_self (by kernel_rfl), (by omega), (by rw [hsz, textP_step (by omega), lineT, show (core (tq l j)).2.2.2.1.length = i3 from by show (tq l j).img.length = i3; omega]; simp only [List.append_assoc]), hT0, hQ, rfl⟩
   ·
    replace hc55 : (l.length : Int) ≤ ((j : Nat) : Int) := (Int.not_lt.1 (of_decide_eq_false hc55))
    refine W_exit ?_
    refine X_hit ?_
    refine zQ ?_
    refine zS [(103, .string (bsT sx)), (2, .string (bsT sx))] ?_
    refine op_nil ?_
    refine W_ret ?_
    exact ⟨_, Res_of (v := .string (bsT sx)) (by kernel_rfl), ⟨by rw [hsx, show j = l.length from by omega, textP_all], hT0⟩⟩

end Go.Proofs.YtlkjhkennbdbnaaV

set_option linter.unusedVariables false
set_option linter.unusedSimpArgs false
namespace Go.Proofs.YtlkjhkennbdbnaaV
open Go Go.RowKit Go.Proofs

/-! ### Numbers of bytes -/
def vl (t : Tx) : Nat := t.foldl (fun a b => a * 256 + b.toNat) 0
theorem vl_snoc (t : Tx) (b : UInt8) : vl (t ++ [b]) = vl t * 256 + b.toNat := by simp [vl]
theorem vl_nil : vl [] = 0 := rfl
theorem pow256 (k : Nat) : 256 ^ (k + 1) = 256 ^ k * 256 := Nat.pow_succ 256 k
theorem vl_gen : ∀ (t : Tx) (i : Nat), t.foldl (fun a b => a * 256 + b.toNat) i = i * 256 ^ t.length + vl t
  | [], i => by simp [vl]
  | b :: t, i => by
    have h1 := vl_gen t (i * 256 + b.toNat)
    have h2 := vl_gen t (0 * 256 + b.toNat)
    show t.foldl _ (i * 256 + b.toNat) = i * 256 ^ (t.length + 1) + t.foldl _ (0 * 256 + b.toNat)
    rw [h1, h2, pow256, Nat.add_mul, Nat.mul_assoc, Nat.mul_comm 256, Nat.zero_mul, Nat.zero_add]; omega
theorem vl_cons (b : UInt8) (t : Tx) : vl (b :: t) = b.toNat * 256 ^ t.length + vl t := by
 have h := vl_gen t (0 * 256 + b.toNat)
 rw [Nat.zero_mul, Nat.zero_add] at h
 rw [← h]
 unfold vl
 rw [List.foldl_cons, Nat.zero_mul, Nat.zero_add]
theorem vl_lt : ∀ (t : Tx), vl t < 256 ^ t.length
 | [] => by simp [vl_nil]
 | b :: t => by
  have h := vl_lt t
  have hb := b.toNat_lt
  rw [vl_cons, List.length_cons, pow256]
  have : b.toNat * 256 ^ t.length ≤ 255 * 256 ^ t.length := Nat.mul_le_mul_right _ (by omega)
  omega
theorem vl_take {t : Tx} {j : Nat} (h : j < t.length) : vl (t.take (j + 1)) = vl (t.take j) * 256 + (t.getD j 0).toNat := by
 rw [List.take_succ_eq_append_getElem h, vl_snoc, List.getD_eq_getElem?_getD, List.getElem?_eq_getElem h]; rfl
theorem vl_small {t : Tx} (h : t.length ≤ 7) : vl t < 72057594037927936 := Nat.lt_of_lt_of_le (vl_lt t) (Nat.le_trans (Nat.pow_le_pow_right (by decide) h) (by decide))
theorem vl_tk {t : Tx} {j : Nat} (h : t.length ≤ 8) (hj : j < t.length) : vl (t.take j) < 72057594037927936 := vl_small (by rw [List.length_take]; omega)
theorem or_by (a b : Nat) (hb : b < 256) : (a * 256) ||| b = a * 256 + b := by
 have := Nat.two_pow_add_eq_or_of_lt (i := 8) (b := b) hb a
 rw [show (2 : Nat) ^ 8 = 256 from rfl, Nat.mul_comm] at this
 exact this.symm

theorem or_raw {a b : Nat} {x y : Int} (hx : x = ((a * 256 : Nat) : Int)) (hy : y = ((b : Nat) : Int)) (ha : a < 72057594037927936) (hb : b < 256) : (((BitVec.ofInt 64 x ||| BitVec.ofInt 64 y).toNat : Nat) : Int) = ((a * 256 + b : Nat) : Int) := by
 subst hx hy
 rw [← or_by a b hb]
 have h : (BitVec.ofInt 64 ((a * 256 : Nat) : Int) ||| BitVec.ofInt 64 ((b : Nat) : Int)).toNat = (a * 256) ||| b := by
  rw [BitVec.toNat_or, BitVec.toNat_ofInt, BitVec.toNat_ofInt]
  have e1 : (((a * 256 : Nat) : Int) % ((2 ^ 64 : Nat) : Int)).toNat = a * 256 := by omega
  have e2 : (((b : Nat) : Int) % ((2 ^ 64 : Nat) : Int)).toNat = b := by omega
  rw [e1, e2]
 rw [h]

end Go.Proofs.YtlkjhkennbdbnaaV

set_option linter.unusedVariables false
set_option linter.unusedSimpArgs false
namespace Go.Proofs.YtlkjhkennbdbnaaV
open Go Go.RowKit Go.Proofs

def rn (k : Nat) (t : Tx) : Nat := if t.length < k then 0 else vl (t.take k)
def rr (k : Nat) (t : Tx) : Tx := if t.length < k then [] else t.drop k
theorem rn_t {k : Nat} {t : Tx} (h : k ≤ t.length) : rn k t = vl (t.take k) ∧ rr k t = t.drop k := by unfold rn rr; rw [if_neg (by omega), if_neg (by omega)]; exact ⟨rfl, rfl⟩
theorem vl_le {t : Tx} (k : Nat) (h : t.length ≤ k) : vl t < 256 ^ k := Nat.lt_of_lt_of_le (vl_lt t) (Nat.pow_le_pow_right (by decide) h)
/-! a test parsed -/
def p1k (t : Tx) : Nat := rn 1 t
def p1a (t : Tx) : Tx := rr 1 t
def p1d (t : Tx) : Tx := (p1a t).drop (p1k t)
def p1n (t : Tx) : Nat := ((p1d t).getD 7 0).toNat
def p1e (t : Tx) : Tx := (p1d t).drop 8
def im8 (e : Tx) (i : Nat) : Nat := vl ((e.drop (8 * i)).take 8)
def ims (e : Tx) (n : Nat) : List Nat := (List.range n).map (im8 e)
theorem ims_len (e : Tx) (n : Nat) : (ims e n).length = n := by simp [ims]
def p1b (t : Tx) : Bool := decide (1 ≤ t.length ∧ p1k t ≤ (p1a t).length ∧ 8 ≤ (p1d t).length ∧ 8 * p1n t ≤ (p1e t).length)
def p1c (t : Tx) : Co := ((p1a t).take (p1k t), ((vl ((p1d t).take 2) : Nat) : Int), ((vl (((p1d t).drop 2).take 2) : Nat) : Int), ims (p1e t) (p1n t), ((((p1d t).getD 6 0).toNat : Nat) : Int), ((vl (((p1d t).drop 4).take 2) : Nat) : Int))
def p1r (t : Tx) : Tx := if p1b t = true then (p1e t).drop (8 * p1n t) else []
theorem p1_t {t : Tx} (h : p1b t = true) : p1r t = (p1e t).drop (8 * p1n t) := by unfold p1r; rw [if_pos h]
def RdN (w : World) (n b : Nat) (cells : List Value) : Prop := RdW w 1 n (some ⟨b, 0, none⟩) cells
theorem RdN.st {S : Nat → Prop} {w w' : World} {n b : Nat} {cells : List Value} (h : RdN w n b cells) (k : Tch S w w') (hs : ¬ S b) : RdN w' n b cells :=
 RdW.tchB h k (fun _ b' o s e => by injection e with e; injection e with e; rw [← e]; exact hs)
theorem RdN.tch0 {w w' : World} {n b : Nat} {cells : List Value} (h : RdN w n b cells) (k : Tch N0 w w') : RdN w' n b cells := RdW.tch0 h k
/-- what a test read lies in -/
def Fresh (u : T6) (k : Nat) : Prop := ∀ b, u.has b → k ≤ b
theorem fresh_mk {i ic : Nat} {inp : Tx} {pt ms : Int} {gA : Option Addr} {gC : Nat} {img : List Nat} {kd cd : Int} {k : Nat} (hi : k ≤ i) (hg : ∀ c, (Value.slice gA img.length gC).ownBlock = some c → k ≤ c) : Fresh ⟨some ⟨i, 0, none⟩, ic, inp, pt, ms, gA, gC, img, kd, cd⟩ k := by
 rintro b (⟨_, o, s, e⟩ | ⟨_, o, s, e⟩)
 ·
  injection e with e; injection e with e; omega
 ·
  refine hg b ?_
  have e : gA = some ⟨b, o, s⟩ := e
  rw [e]; rfl
theorem wf_mk {iA gA : Option Addr} {iC gC : Nat} {inp : Tx} {a b c d : Nat} {img : List Nat} (ha : a < 65536) (hb : b < 65536) (hc : c < 65536) (hd : d < 65536) (hi : ∀ x, x ∈ img → x < 18446744073709551616) : wfT ⟨iA, iC, inp, ((a : Nat) : Int), ((b : Nat) : Int), gA, gC, img, ((c : Nat) : Int), ((d : Nat) : Int)⟩ := by
 refine ⟨?_, ?_, ?_, ?_, hi⟩ <;> (unfold b64; simp only; omega)

end Go.Proofs.YtlkjhkennbdbnaaV

set_option linter.unusedVariables false
set_option linter.unusedSimpArgs false
namespace Go.Proofs.YtlkjhkennbdbnaaV
open Go Go.RowKit Go.Proofs

def pl : Nat → Tx → Tx
 | 0, t => t
 | j + 1, t => p1r (pl j t)
def pc (j : Nat) (t : Tx) : List Co := (List.range j).map (fun i => p1c (pl i t))
theorem pc_step (j : Nat) (t : Tx) : pc (j + 1) t = pc j t ++ [p1c (pl j t)] := by simp [pc, List.range_succ]
def okN (n : Nat) (t : Tx) : Bool := (List.range n).all (fun i => p1b (pl i t))
theorem okN_f {n j : Nat} {t : Tx} (hj : j < n) (h : p1b (pl j t) = false) : okN n t = false := by
 unfold okN
 rw [List.all_eq_false]
 exact ⟨j, List.mem_range.2 hj, by rw [h]; decide⟩
theorem okN_t {n : Nat} {t : Tx} (h : ∀ i, i < n → p1b (pl i t) = true) : ¬ okN n t = false := by
 unfold okN
 rw [List.all_eq_false]
 rintro ⟨i, hi, h2⟩
 exact h2 (h i (List.mem_range.1 hi))
def hV (s : Tx) : Nat := (s.getD 0 0).toNat
def hE (s : Tx) : Nat := (s.getD 1 0).toNat
def hS (s : Tx) : Nat := vl ((s.drop 2).take 4)
def hU (s : Tx) : Nat := rn 4 (s.drop 6)
def hR (s : Tx) : Tx := rr 4 (s.drop 6)
def hN (s : Tx) : Nat := rn 2 (hR s)
def hT (s : Tx) : Tx := rr 2 (hR s)
def code (s : Tx) : Int := if 0 < s.length ∧ 3 < hV s then 4 else if s.length < 6 then 6 else if 1073741824 < hS s then 4 else if s.length - 6 < 4 then 6 else if 1073741824 < hU s then 4 else if (hR s).length < 2 then 6 else if okN (hN s) (hT s) = false then 6 else if 0 < (pl (hN s) (hT s)).length then 5 else 0
def rV (s : Tx) : Int := if code s = 0 then ((hV s : Nat) : Int) else 0
def rE (s : Tx) : Int := if code s = 0 then ((hE s : Nat) : Int) else 0
def rS (s : Tx) : Int := if code s = 0 then ((hS s : Nat) : Int) else 0
def rU (s : Tx) : Int := if code s = 0 then ((hU s : Nat) : Int) else 0
def rL (s : Tx) : List Co := if code s = 0 then pc (hN s) (hT s) else []
theorem rep_f {s : Tx} (h : code s ≠ 0) : rV s = 0 ∧ rE s = 0 ∧ rS s = 0 ∧ rU s = 0 ∧ rL s = [] := by
 unfold rV rE rS rU rL
 rw [if_neg h, if_neg h, if_neg h, if_neg h, if_neg h]; exact ⟨rfl, rfl, rfl, rfl, rfl⟩
theorem rep_t {s : Tx} (h : code s = 0) : rV s = ((hV s : Nat) : Int) ∧ rE s = ((hE s : Nat) : Int) ∧ rS s = ((hS s : Nat) : Int) ∧ rU s = ((hU s : Nat) : Int) ∧ rL s = pc (hN s) (hT s) := by
 unfold rV rE rS rU rL
 rw [if_pos h, if_pos h, if_pos h, if_pos h, if_pos h]; exact ⟨rfl, rfl, rfl, rfl, rfl⟩
/-- Tests in a row that grows: each reads, and lies apart from the row. -/
def TsE (w : World) (L : List T6) (Y : Value) (base : Nat) : Prop := ∀ t, t ∈ L → TmW w t ∧ ∀ b, t.has b → base ≤ b ∧ Y.ownBlock ≠ some b
theorem TsE.tch0 {w w' : World} {L : List T6} {Y : Value} {base : Nat} (h : TsE w L Y base) (k : Tch N0 w w') : TsE w' L Y base := fun t ht => ⟨(h t ht).1.tch0 k, (h t ht).2⟩
theorem TsE.st {S : Nat → Prop} {w w' : World} {L : List T6} {Y : Value} {base : Nat} (h : TsE w L Y base) (k : Tch S w w') (hs : ∀ b, base ≤ b → ¬ S b) : TsE w' L Y base :=
 fun t ht => ⟨(h t ht).1.tch k (fun b hb => hs b ((h t ht).2 b hb).1), (h t ht).2⟩
theorem TsE.st2 {S : Nat → Prop} {w w' : World} {L : List T6} {Y : Value} {base : Nat} (h : TsE w L Y base) (k : Tch S w w') (hs : ∀ t, t ∈ L → ∀ b, t.has b → ¬ S b) : TsE w' L Y base :=
 fun t ht => ⟨(h t ht).1.tch k (fun b hb => hs t ht b hb), (h t ht).2⟩
theorem TsE.app {w w' : World} {L : List T6} {A A2 : Option Addr} {n n2 cp cp2 base : Nat} {u : T6} (h : TsE w L (.slice A n cp) base) (k : Tch (ownS (.slice A n cp)) w w') (hw : ∀ c, (Value.slice A2 n2 cp2).ownBlock = some c → (Value.slice A n cp).ownBlock = some c ∨ c = w.heap.size)
  (hu : TmW w u) (hf : ∀ b, u.has b → base ≤ b ∧ (Value.slice A n cp).ownBlock ≠ some b) : TsE w' (L ++ [u]) (.slice A2 n2 cp2) base := by
 have key : ∀ t, TmW w t → (∀ b, t.has b → base ≤ b ∧ (Value.slice A n cp).ownBlock ≠ some b) → TmW w' t ∧ ∀ b, t.has b → base ≤ b ∧ (Value.slice A2 n2 cp2).ownBlock ≠ some b := fun t h1 h2 =>
  ⟨h1.tch k (fun b hb e => (h2 b hb).2 e), fun b hb => ⟨(h2 b hb).1, fun e => (hw b e).elim (h2 b hb).2 (fun q => by have := h1.lt b hb; omega)⟩⟩
 intro t ht
 rcases List.mem_append.1 ht with q | q
 ·
  exact key t (h t q).1 (h t q).2
 ·
  rw [List.mem_singleton] at q
  subst q; exact key t hu hf
/-- The blocks of a row of tests lie between. -/
def TsB (A : Option Addr) (l : List T6) (k m : Nat) : Prop := (0 < l.length → ∀ b o s, A = some ⟨b, o, s⟩ → k ≤ b ∧ b < m) ∧ ∀ t, t ∈ l → ∀ b, t.has b → k ≤ b ∧ b < m
theorem TsB.nil_ (A : Option Addr) (k m : Nat) : TsB A [] k m := ⟨fun h => absurd h (by decide), fun t h => by cases h⟩
theorem TsB.of {w : World} {A : Option Addr} {n cp base k : Nat} {cells : List Value} {L : List T6} {Y : Value} (hO : Own w 0 43 6 (.slice A n cp) n cells) (hE : TsE w L Y base) (nB : ∀ c, (Value.slice A n cp).ownBlock = some c → base ≤ c) (hk : k ≤ base) : TsB A L k w.heap.size := by
 refine ⟨fun h b o s e => ?_, fun t ht b hb => ⟨Nat.le_trans hk ((hE t ht).2 b hb).1, (hE t ht).1.lt b hb⟩⟩
 subst e
 exact ⟨Nat.le_trans hk (nB b rfl), hO.lt b rfl⟩
theorem TsW.tchB {S : Nat → Prop} {w w' : World} {A : Option Addr} {l : List T6} {k m : Nat} (h : TsW w A l) (hb : TsB A l k m) (T : Tch S w w') (hs : ∀ b, k ≤ b → b < m → ¬ S b) : TsW w' A l :=
 ⟨h.rd.tchB T (fun hn b o s e => hs b (hb.1 hn b o s e).1 (hb.1 hn b o s e).2), fun t ht => (h.el t ht).tch T (fun b hx => hs b (hb.2 t ht b hx).1 (hb.2 t ht b hx).2)⟩
theorem TsB.up {A : Option Addr} {l : List T6} {k k2 m m2 : Nat} (h : TsB A l k m) (h1 : k2 ≤ k) (h2 : m ≤ m2) : TsB A l k2 m2 :=
 ⟨fun hn b o s e => ⟨Nat.le_trans h1 (h.1 hn b o s e).1, Nat.lt_of_lt_of_le (h.1 hn b o s e).2 h2⟩, fun t ht b hb => ⟨Nat.le_trans h1 (h.2 t ht b hb).1, Nat.lt_of_lt_of_le (h.2 t ht b hb).2 h2⟩⟩
theorem tcs_snoc (L : List T6) (u : T6) : tcs (L ++ [u]) = tcs L ++ tc u := by rw [tcs_app]; simp [tcs]
theorem cores_snoc (L : List T6) (u : T6) : cores (L ++ [u]) = cores L ++ [core u] := by simp [cores]
end Go.Proofs.YtlkjhkennbdbnaaV

set_option linter.unusedVariables false
set_option linter.unusedSimpArgs false
namespace Go.Proofs.YtlkjhkennbdbnaaV
open Go Go.RowKit Go.Proofs

def shT : Tx := [116, 111, 111, 32, 115, 104, 111, 114, 116]
def rgT : Tx := [111, 117, 116, 32, 111, 102, 32, 114, 97, 110, 103, 101]
def fmT : Tx := [98, 121, 116, 101, 115, 32, 108, 101, 102, 116]
def evO : Option Tx → Value
 | none => .nilIface
 | some e => .iface 72 (.string (bsT e))
abbrev St := Tx × Option Tx
def tk (x : St) (k : Nat) : Tx := if x.2.isSome = true ∨ x.1.length < k then [] else x.1.take k
def nx (x : St) (k : Nat) : St := if x.2.isSome = true then x else if x.1.length < k then (x.1, some shT) else (x.1.drop k, none)
def nu (x : St) (k : Nat) : Nat := vl (tk x k)
def bl (x : St) (k m : Nat) : St := if (nx x k).2.isSome = false ∧ m < nu x k then ((nx x k).1, some rgT) else nx x k
theorem tk_le (x : St) (k : Nat) : (tk x k).length ≤ k := by
 unfold tk; split
 ·
  simp
 ·
  rw [List.length_take]; omega
theorem nu_lt (x : St) (k : Nat) : nu x k < 256 ^ k := vl_le k (tk_le x k)
theorem nu_1 (x : St) : nu x 1 < 256 := nu_lt x 1
theorem nu_2 (x : St) : nu x 2 < 65536 := nu_lt x 2
theorem nu_4 (x : St) : nu x 4 < 4294967296 := nu_lt x 4
theorem nu_8 (x : St) : nu x 8 < 18446744073709551616 := nu_lt x 8
theorem R_evEql {ρ : Env} {w : World} {d : Option Tmp} {u : TypeId} {r : Tmp} {ty : TypeId} {pos : String} {af : Array Edge} {g : Option (Nat × Bool)} {E : Option Tx} (hx : evR ρ (.tmp r) = evO E) :
  (execOp (evR ρ) ⟨d, .binOp .eql 57 (.tmp r) (.const .nilIface) u, ty, pos, af, g⟩).run Try.prog w = .ok (.value (.bool (!E.isSome))) w := by
 refine pureR_run ?_
 simp only [execOp, hx]
 cases E <;> kernel_rfl

set_option maxRecDepth 100000 in
theorem take_n (q k : Nat) (s : Tx) (w : World) (hQ : Blk w q 69 [.string (bsT s), .nilIface]) : Ret Try.prog 60 [.pointer (some ⟨q, 0, none⟩), .int .i64 ((k : Nat) : Int)] w fun v w' => v = .string (bsT (tk (s, none) k)) ∧ Blk w' q 69 [.string (bsT (nx (s, none) k).1), evO (nx (s, none) k).2] ∧ Tch (one q) w w' := by
 have hTq := Tch.refl (one q) w
 refine enter Try.func60 rfl rfl ?_
 refine zQ ?_
 refine zS [(4, .string (bsT ([])))] ?_
 refine op_nil ?_
 refine W_seq ?_
 refine zQ ?_
 refine zS [(6, .pointer (some ⟨q, 0, none⟩)), (7, .pointer (some ⟨q, 0, none⟩)), (8, .pointer (some ⟨q, 1, none⟩))] ?_
 refine zL .nilIface ((hQ.cell 1).trans rfl) ?_
 refine zS [(10, .bool false)] ?_
 refine zO false (fun h => nomatch h) (fun _ => ?_)
 refine W_skip ?_
 refine W_seq ?_
 refine zQ ?_
 refine zS [(11, .pointer (some ⟨q, 0, none⟩)), (12, .pointer (some ⟨q, 0, none⟩)), (13, .pointer (some ⟨q, 0, none⟩))] ?_
 refine zL (.string (bsT s)) ((hQ.cell 0).trans rfl) ?_
 refine zS [(15, .int .i64 ((s.length : Nat) : Int)), (16, .int .i64 ((k : Nat) : Int)), (17, .bool (decide (((s.length : Nat) : Int) < ((k : Nat) : Int))))] ?_
 refine zO (decide (((s.length : Nat) : Int) < ((k : Nat) : Int))) (fun hc1 => ?_) (fun hc1 => ?_)
 ·
  replace hc1 : ((s.length : Nat) : Int) < ((k : Nat) : Int) := (of_decide_eq_true hc1)
  refine W_seq ?_
  refine zF [(0, .pointer (some ⟨q, 0, none⟩)), (1, .int .i64 ((k : Nat) : Int)), (4, .string (bsT ([]))), (10, .bool false), (17, .bool (decide (((s.length : Nat) : Int) < ((k : Nat) : Int))))] fun ρ => ?_
  refine zR ?_
  refine zS [(18, .pointer (some ⟨q, 0, none⟩)), (19, .iface 72 (.string (bsT ([116, 111, 111, 32, 115, 104, 111, 114, 116])))), (20, .pointer (some ⟨q, 0, none⟩)), (21, .pointer (some ⟨q, 1, none⟩))] ?_
  refine st (by rfl) (S_store (b := q) (j := 1) (v := .iface 72 (.string (bsT ([116, 111, 111, 32, 115, 104, 111, 114, 116])))) (by kernel_rfl) (by kernel_rfl) (by kernel_rfl) (by rfl) hQ (by simp) fun w2 hT3 hs4 hQ' => ?_)
  have hTq := hTq.trans hT3 (fun _ _ e => e) (fun b hb e => by first | exact e | (have e : b = q := e; omega))
  replace hQ : Blk w2 q 69 [.string (bsT s), .iface 72 (.string (bsT ([116, 111, 111, 32, 115, 104, 111, 114, 116])))] := hQ'
  refine op_nil ?_
  refine zQ ?_
  refine zS [(4, .string (bsT ([])))] ?_
  refine op_nil ?_
  refine W_ret ?_
  refine ⟨_, Res_of (v := .string (bsT ([]))) (by kernel_rfl), ?_⟩
  have e1 : tk (s, none) k = [] := by unfold tk; rw [if_pos (.inr (by show s.length < k; omega))]
  have e2 : nx (s, none) k = (s, some shT) := by unfold nx; rw [if_neg (by show ¬ (false = true); decide), if_pos (by show s.length < k; omega)]
  rw [e1, e2]
  exact ⟨rfl, hQ, hTq⟩
 ·
  replace hc1 : ((k : Nat) : Int) ≤ ((s.length : Nat) : Int) := (Int.not_lt.1 (of_decide_eq_false hc1))
  refine W_skip ?_
  refine W_seq ?_
  refine zF [(0, .pointer (some ⟨q, 0, none⟩)), (1, .int .i64 ((k : Nat) : Int)), (4, .string (bsT ([]))), (10, .bool false), (17, .bool (decide (((s.length : Nat) : Int) < ((k : Nat) : Int))))] fun ρ => ?_
  refine zR ?_
  refine zS [(22, .pointer (some ⟨q, 0, none⟩)), (23, .pointer (some ⟨q, 0, none⟩)), (24, .pointer (some ⟨q, 0, none⟩))] ?_
  refine zL (.string (bsT s)) ((hQ.cell 0).trans rfl) ?_
  refine zS [(26, .int .i64 ((k : Nat) : Int))] ?_
  refine stv (v := .string (bsT (s.take k))) (by rfl) (R_sslH (a := s) (i := ((k : Nat) : Int)) k (by kernel_rfl) (by kernel_rfl) (by kernel_rfl) rfl (by omega)) ?_
  refine zS [(5, .string (bsT (s.take k)))] ?_
  refine op_nil ?_
  refine zQ ?_
  refine zS [(28, .pointer (some ⟨q, 0, none⟩)), (29, .pointer (some ⟨q, 0, none⟩)), (30, .pointer (some ⟨q, 0, none⟩)), (31, .pointer (some ⟨q, 0, none⟩))] ?_
  refine zL (.string (bsT s)) ((hQ.cell 0).trans rfl) ?_
  refine zS [(33, .int .i64 ((k : Nat) : Int))] ?_
  refine stv (v := .string (bsT (s.drop k))) (by rfl) (R_sslL (a := s) (i := ((k : Nat) : Int)) k (by kernel_rfl) (by kernel_rfl) (by kernel_rfl) rfl (by omega)) ?_
  refine zS [(35, .pointer (some ⟨q, 0, none⟩)), (36, .pointer (some ⟨q, 0, none⟩))] ?_
  refine st (by rfl) (S_store (b := q) (j := 0) (v := .string (bsT (s.drop k))) (by kernel_rfl) (by kernel_rfl) (by kernel_rfl) (by rfl) hQ (by simp) fun w5 hT6 hs7 hQ' => ?_)
  have hTq := hTq.trans hT6 (fun _ _ e => e) (fun b hb e => by first | exact e | (have e : b = q := e; omega))
  replace hQ : Blk w5 q 69 [.string (bsT (s.drop k)), .nilIface] := hQ'
  refine op_nil ?_
  refine W_seq ?_
  refine zF [(0, .pointer (some ⟨q, 0, none⟩)), (1, .int .i64 ((k : Nat) : Int)), (4, .string (bsT ([]))), (5, .string (bsT (s.take k))), (10, .bool false), (17, .bool (decide (((s.length : Nat) : Int) < ((k : Nat) : Int))))] fun ρ => ?_
  refine zR ?_
  refine zS [(37, .string (bsT (s.take k))), (4, .string (bsT (s.take k)))] ?_
  refine op_nil ?_
  refine W_ret ?_
  refine ⟨_, Res_of (v := .string (bsT (s.take k))) (by kernel_rfl), ?_⟩
  have e1 : tk (s, none) k = s.take k := by unfold tk; rw [if_neg (by rintro (h | h); exact absurd h (by show ¬ (false = true); decide); have h : s.length < k := h; omega)]
  have e2 : nx (s, none) k = (s.drop k, none) := by unfold nx; rw [if_neg (by show ¬ (false = true); decide), if_neg (by show ¬ s.length < k; omega)]
  rw [e1, e2]
  exact ⟨rfl, hQ, hTq⟩

set_option maxRecDepth 100000 in
theorem take_e (q k : Nat) (s : Tx) (e : Tx) (w : World) (hQ : Blk w q 69 [.string (bsT s), .iface 72 (.string (bsT e))]) : Ret Try.prog 60 [.pointer (some ⟨q, 0, none⟩), .int .i64 ((k : Nat) : Int)] w fun v w' => v = .string (bsT (tk (s, some e) k)) ∧ Blk w' q 69 [.string (bsT (nx (s, some e) k).1), evO (nx (s, some e) k).2] ∧ Tch (one q) w w' := by
 have hTq := Tch.refl (one q) w
 refine enter Try.func60 rfl rfl ?_
 refine zQ ?_
 refine zS [(4, .string (bsT ([])))] ?_
 refine op_nil ?_
 refine W_seq ?_
 refine zQ ?_
 refine zS [(6, .pointer (some ⟨q, 0, none⟩)), (7, .pointer (some ⟨q, 0, none⟩)), (8, .pointer (some ⟨q, 1, none⟩))] ?_
 refine zL (.iface 72 (.string (bsT e))) ((hQ.cell 1).trans rfl) ?_
 refine zS [(10, .bool true)] ?_
 refine zO true (fun _ => ?_) (fun h => nomatch h)
 refine zQ ?_
 refine zS [(4, .string (bsT ([])))] ?_
 refine op_nil ?_
 refine W_ret ?_
 exact ⟨_, Res_of (v := .string (bsT ([]))) (by kernel_rfl), ⟨rfl, hQ, hTq⟩⟩

theorem take_ok (q k : Nat) (x : St) (w : World) (hQ : Blk w q 69 [.string (bsT x.1), evO x.2]) : Ret Try.prog 60 [.pointer (some ⟨q, 0, none⟩), .int .i64 ((k : Nat) : Int)] w fun v w' => v = .string (bsT (tk x k)) ∧ Blk w' q 69 [.string (bsT (nx x k).1), evO (nx x k).2] ∧ Tch (one q) w w' := by
 obtain ⟨s, e⟩ := x
 cases e with
 | none => exact take_n q k s w hQ
 | some e => exact take_e q k s e w hQ

set_option maxRecDepth 100000 in
theorem num_ok (q k : Nat) (x : St) (w : World) (hQ : Blk w q 69 [.string (bsT x.1), evO x.2]) (hk : k ≤ 8) : Ret Try.prog 50 [.pointer (some ⟨q, 0, none⟩), .int .i64 ((k : Nat) : Int)] w fun v w' => v = .int .u64 ((nu x k : Nat) : Int) ∧ Blk w' q 69 [.string (bsT (nx x k).1), evO (nx x k).2] ∧ Tch (one q) w w' := by
 have hTq := Tch.refl (one q) w
 have hkl := tk_le x k
 refine enter Try.func50 rfl rfl ?_
 refine zQ ?_
 refine zS [(4, .int .u64 0)] ?_
 refine op_nil ?_
 refine zQ ?_
 refine zS [(5, .int .u64 0)] ?_
 refine op_nil ?_
 refine W_seq ?_
 refine zQ ?_
 refine zS [(8, .pointer (some ⟨q, 0, none⟩)), (9, .int .i64 ((k : Nat) : Int))] ?_
 refine zC (take_ok (q) k x _ hQ) ?_
 rintro _ w1 ⟨rfl, hQn, hT2⟩
 have hTq := hTq.trans hT2 (fun _ _ e => e) (fun b hb e => by first | exact e | (have e : b = q := e; omega))
 have hQ : Blk w1 (q) 69 [.string (bsT ((nx x k).1)), (evO (nx x k).2)] := hQn
 have hkl := tk_le x k
 refine st (by rfl) (S_s2b (src := 9) (dst := 39) (e := 5) (a := tk x k) (by kernel_rfl) (by kernel_rfl) (by kernel_rfl) (by kernel_rfl) (by omega) fun cp3 w3 hT3 hs3 hI => ?_)
 have hTq := hTq.then0 hT3
 have hQ := hQ.tch0 hT3
 refine zS [(12, .int .i64 (List.length (tk x k) : Int)), (13, .int .i64 0)] ?_
 refine op_nil ?_
 refine W_block ?_
 refine W_loop (fun m ρ w' => ∃ (j : Nat) (ρ0 : Env), ρ = updL ρ0 [(5, .int .u64 ((vl ((tk x k).take j) : Nat) : Int)), (11, .slice (some ⟨w1.heap.size, 0, none⟩) (List.length (tk x k)) cp3), (12, .int .i64 (List.length (tk x k) : Int)), (13, .int .i64 ((j : Nat) : Int))] ∧ (j ≤ (tk x k).length) ∧ Blk w' (q) 69 [.string (bsT ((nx x k).1)), (evO (nx x k).2)] ∧ RdW w' 1 (List.length (tk x k)) (some ⟨w1.heap.size, 0, none⟩) (u8s (tk x k)) ∧ Tch (one q) w w' ∧ m = (tk x k).length + 1 - j) (m := (tk x k).length + 1 - 0) ?_ ?_
 ·
  refine ⟨0, _, updL_self (by kernel_rfl), by omega, hQ, hI, hTq, rfl⟩
 ·
  rintro m ρ w4 ⟨j, ρ, rfl, hj, hQ, hI, hTq, rfl⟩
  refine zQ ?_
  refine zS [(14, .bool (decide (((j : Nat) : Int) < (List.length (tk x k) : Int))))] ?_
  refine op_nil ?_
  refine W_seq ?_
  refine zW (decide (((j : Nat) : Int) < (List.length (tk x k) : Int))) (fun hc5 => ?_) (fun hc5 => ?_)
  ·
   replace hc5 : ((j : Nat) : Int) < (List.length (tk x k) : Int) := (of_decide_eq_true hc5)
   refine W_skip ?_
   refine W_seq ?_
   refine W_block ?_
   refine zQ ?_
   refine stv (v := ptrAt (some ⟨w1.heap.size, 0, none⟩) j) (by rfl) (R_indexRd1 (len := List.length (tk x k)) (cap := cp3) (k := .i64) (i := ((j : Nat) : Int)) (e := 5) j hI (by kernel_rfl) (by kernel_rfl) (by kernel_rfl) (by kernel_rfl) rfl (by omega)) ?_
   refine stv (v := .int .u8 ((((tk x k).getD j 0).toNat : Nat) : Int)) (by rfl) (R_loadRd (v := .int .u8 ((((tk x k).getD j 0).toNat : Nat) : Int)) hI (by omega) (by kernel_rfl) (by kernel_rfl) (u8s_at (by omega))) ?_
   refine zS [(7, .int .u8 ((((tk x k).getD j 0).toNat : Nat) : Int))] ?_
   refine op_nil ?_
   have hvt := vl_tk (t := tk x k) (by omega) (j := j) (by omega)
   have hb8 := ((tk x k).getD j 0).toNat_lt
   refine zR ?_
   refine zS [(17, .int .u64 ((vl ((tk x k).take j) : Nat) : Int)), (18, .int .u64 (IntKind.u64.wrap (((vl ((tk x k).take j) : Nat) : Int) * 2 ^ 8)))] ?_
   rw [show IntKind.u64.wrap (((vl ((tk x k).take j) : Nat) : Int) * 2 ^ 8) = ((vl ((tk x k).take j) : Nat) : Int) * 2 ^ 8 from wrap_u64 (by omega) (by omega)]
   refine fixR (y := ((vl ((tk x k).take j) * 256 : Nat) : Int)) (by omega) ?_
   refine zS [(19, .int .u8 ((((tk x k).getD j 0).toNat : Nat) : Int)), (20, .int .u64 (IntKind.u64.wrap ((((tk x k).getD j 0).toNat : Nat) : Int)))] ?_
   rw [show IntKind.u64.wrap ((((tk x k).getD j 0).toNat : Nat) : Int) = ((((tk x k).getD j 0).toNat : Nat) : Int) from wrap_u64 (by omega) (by omega)]
   refine zS [(21, .int .u64 (IntKind.u64.wrap (BitVec.ofInt 64 ((vl ((tk x k).take j) * 256 : Nat) : Int) ||| BitVec.ofInt 64 ((((tk x k).getD j 0).toNat : Nat) : Int)).toNat))] ?_
   rw [show IntKind.u64.wrap (BitVec.ofInt 64 ((vl ((tk x k).take j) * 256 : Nat) : Int) ||| BitVec.ofInt 64 ((((tk x k).getD j 0).toNat : Nat) : Int)).toNat = (BitVec.ofInt 64 ((vl ((tk x k).take j) * 256 : Nat) : Int) ||| BitVec.ofInt 64 ((((tk x k).getD j 0).toNat : Nat) : Int)).toNat from wrap_u64 (by omega) (by omega)]
   refine fixR (y := ((vl ((tk x k).take (j + 1)) : Nat) : Int)) (by rw [vl_take (by omega)]; exact or_raw (a := vl ((tk x k).take j)) (b := ((tk x k).getD j 0).toNat) (by first | rfl | omega) rfl hvt (UInt8.toNat_lt _)) ?_
   refine zS [(5, .int .u64 ((vl ((tk x k).take (j + 1)) : Nat) : Int))] ?_
   refine op_nil ?_
   refine zF [(5, .int .u64 ((vl ((tk x k).take (j + 1)) : Nat) : Int)), (7, .int .u8 ((((tk x k).getD j 0).toNat : Nat) : Int)), (11, .slice (some ⟨w1.heap.size, 0, none⟩) (List.length (tk x k)) cp3), (12, .int .i64 (List.length (tk x k) : Int)), (13, .int .i64 ((j : Nat) : Int)), (14, .bool (decide (((j : Nat) : Int) < (List.length (tk x k) : Int))))] fun ρ => ?_
   refine zR ?_
   refine zS [(22, .int .i64 (IntKind.i64.wrap (((j : Nat) : Int) + 1)))] ?_
   rw [show IntKind.i64.wrap (((j : Nat) : Int) + 1) = ((j : Nat) : Int) + 1 from wrap_i64 (by omega) (by omega)]
   refine fixR (y := ((j + 1 : Nat) : Int)) (by omega) ?_
   refine zS [(13, .int .i64 ((j + 1 : Nat) : Int))] ?_
   refine op_nil ?_
   refine ⟨_, (by omega), j + 1, _, updL_self (by kernel_rfl), (by omega), hQ, hI, hTq, rfl⟩
  ·
   replace hc5 : (List.length (tk x k) : Int) ≤ ((j : Nat) : Int) := (Int.not_lt.1 (of_decide_eq_false hc5))
   refine W_exit ?_
   refine X_hit ?_
   refine zQ ?_
   refine zS [(23, .int .u64 ((vl ((tk x k).take j) : Nat) : Int)), (4, .int .u64 ((vl ((tk x k).take j) : Nat) : Int))] ?_
   refine op_nil ?_
   refine W_ret ?_
   exact ⟨_, Res_of (v := .int .u64 ((vl ((tk x k).take j) : Nat) : Int)) (by kernel_rfl), ⟨by rw [List.take_of_length_le (by omega)]; rfl, hQ, hTq⟩⟩

set_option maxRecDepth 100000 in
theorem below_ok (q k m : Nat) (x : St) (w : World) (hQ : Blk w q 69 [.string (bsT x.1), evO x.2]) (hk : k ≤ 4) : Ret Try.prog 49 [.pointer (some ⟨q, 0, none⟩), .int .i64 ((k : Nat) : Int), .int .i64 ((m : Nat) : Int)] w fun v w' => v = .int .i64 ((nu x k : Nat) : Int) ∧ Blk w' q 69 [.string (bsT (bl x k m).1), evO (bl x k m).2] ∧ Tch (one q) w w' := by
  have hTq := Tch.refl (one q) w
  have hnu := nu_lt x k
  have hp4 : 256 ^ k ≤ 256 ^ 4 := Nat.pow_le_pow_right (by decide) hk
  have hp5 : (256 : Nat) ^ 4 = 4294967296 := by decide
  refine enter Try.func49 rfl rfl ?_
  refine zQ ?_
  refine zS [(6, .int .i64 0)] ?_
  refine op_nil ?_
  refine zQ ?_
  refine zS [(8, .pointer (some ⟨q, 0, none⟩)), (9, .int .i64 ((k : Nat) : Int))] ?_
  refine zC (num_ok (q) k x _ hQ (by omega)) ?_
  rintro _ w1 ⟨rfl, hQn, hT2⟩
  have hTq := hTq.trans hT2 (fun _ _ e => e) (fun b hb e => by first | exact e | (have e : b = q := e; omega))
  have hQ : Blk w1 (q) 69 [.string (bsT ((nx x k).1)), (evO (nx x k).2)] := hQn
  refine zS [(11, .int .i64 (IntKind.i64.wrap ((nu x k : Nat) : Int)))] ?_
  rw [show IntKind.i64.wrap ((nu x k : Nat) : Int) = ((nu x k : Nat) : Int) from wrap_i64 (by omega) (by omega)]
  refine zS [(7, .int .i64 ((nu x k : Nat) : Int))] ?_
  refine op_nil ?_
  refine W_seq ?_
  refine zQ ?_
  refine zS [(12, .pointer (some ⟨q, 0, none⟩)), (13, .pointer (some ⟨q, 0, none⟩)), (14, .pointer (some ⟨q, 1, none⟩))] ?_
  refine zL ((evO (nx x k).2)) ((hQ.cell 1).trans rfl) ?_
  refine stv (v := .bool (!((nx x k).2).isSome)) (by rfl) (R_evEql (E := (nx x k).2) (by kernel_rfl)) ?_
  refine zS [(17, .bool (!((nx x k).2).isSome))] ?_
  cases hb3 : (!((nx x k).2).isSome)
  · replace hb3 : ((nx x k).2).isSome = true := ((by simpa using hb3))
    refine zS [(18, undef), (19, undef), (20, undef), (21, .bool false)] ?_
    refine zO false (fun h => nomatch h) (fun _ => ?_)
    refine W_skip ?_
    refine W_seq ?_
    refine zF [(0, .pointer (some ⟨q, 0, none⟩)), (1, .int .i64 ((k : Nat) : Int)), (2, .int .i64 ((m : Nat) : Int)), (6, .int .i64 0), (7, .int .i64 ((nu x k : Nat) : Int)), (21, .bool false)] fun ρ => ?_
    refine zR ?_
    refine zS [(26, .int .i64 ((nu x k : Nat) : Int)), (6, .int .i64 ((nu x k : Nat) : Int))] ?_
    refine op_nil ?_
    refine W_ret ?_
    refine ⟨_, Res_of (v := .int .i64 ((nu x k : Nat) : Int)) (by kernel_rfl), ?_⟩
    have e1 : bl x k m = nx x k := by unfold bl; rw [if_neg (by rintro ⟨h1, h2⟩; first | omega | (have h3 : (nx x k).2.isSome = true := by assumption
                                                                                                  rw [h1] at h3; cases h3))]
    rw [e1]
    exact ⟨rfl, hQ, hTq⟩
  · replace hb3 : ((nx x k).2).isSome = false := ((by simpa using hb3))
    refine zS [(18, .int .i64 ((nu x k : Nat) : Int)), (19, .int .i64 ((m : Nat) : Int)), (20, .bool (decide (((nu x k : Nat) : Int) > ((m : Nat) : Int)))), (21, .bool (decide (((nu x k : Nat) : Int) > ((m : Nat) : Int))))] ?_
    refine zO (decide (((nu x k : Nat) : Int) > ((m : Nat) : Int))) (fun hc4 => ?_) (fun hc4 => ?_)
    · replace hc4 : ((m : Nat) : Int) < ((nu x k : Nat) : Int) := (of_decide_eq_true hc4)
      refine zF [(0, .pointer (some ⟨q, 0, none⟩)), (1, .int .i64 ((k : Nat) : Int)), (2, .int .i64 ((m : Nat) : Int)), (6, .int .i64 0), (7, .int .i64 ((nu x k : Nat) : Int)), (21, .bool (decide (((nu x k : Nat) : Int) > ((m : Nat) : Int))))] fun ρ => ?_
      refine zR ?_
      refine zS [(22, .pointer (some ⟨q, 0, none⟩)), (23, .iface 72 (.string (bsT ([111, 117, 116, 32, 111, 102, 32, 114, 97, 110, 103, 101])))), (24, .pointer (some ⟨q, 0, none⟩)), (25, .pointer (some ⟨q, 1, none⟩))] ?_
      refine st (by rfl) (S_store (b := q) (j := 1) (v := .iface 72 (.string (bsT ([111, 117, 116, 32, 111, 102, 32, 114, 97, 110, 103, 101])))) (by kernel_rfl) (by kernel_rfl) (by kernel_rfl) (by rfl) hQ (by simp) fun w5 hT6 hs7 hQ' => ?_)
      have hTq := hTq.trans hT6 (fun _ _ e => e) (fun b hb e => by first | exact e | (have e : b = q := e; omega))
      replace hQ : Blk w5 q 69 [.string (bsT ((nx x k).1)), .iface 72 (.string (bsT ([111, 117, 116, 32, 111, 102, 32, 114, 97, 110, 103, 101])))] := hQ'
      refine op_nil ?_
      refine zQ ?_
      refine zS [(26, .int .i64 ((nu x k : Nat) : Int)), (6, .int .i64 ((nu x k : Nat) : Int))] ?_
      refine op_nil ?_
      refine W_ret ?_
      refine ⟨_, Res_of (v := .int .i64 ((nu x k : Nat) : Int)) (by kernel_rfl), ?_⟩
      have e1 : bl x k m = ((nx x k).1, some rgT) := by unfold bl; rw [if_pos ⟨by assumption, by omega⟩]
      rw [e1]
      exact ⟨rfl, hQ, hTq⟩
    · replace hc4 : ((nu x k : Nat) : Int) ≤ ((m : Nat) : Int) := (Int.not_lt.1 (of_decide_eq_false hc4))
      refine W_skip ?_
      refine W_seq ?_
      refine zF [(0, .pointer (some ⟨q, 0, none⟩)), (1, .int .i64 ((k : Nat) : Int)), (2, .int .i64 ((m : Nat) : Int)), (6, .int .i64 0), (7, .int .i64 ((nu x k : Nat) : Int)), (21, .bool (decide (((nu x k : Nat) : Int) > ((m : Nat) : Int))))] fun ρ => ?_
      refine zR ?_
      refine zS [(26, .int .i64 ((nu x k : Nat) : Int)), (6, .int .i64 ((nu x k : Nat) : Int))] ?_
      refine op_nil ?_
      refine W_ret ?_
      refine ⟨_, Res_of (v := .int .i64 ((nu x k : Nat) : Int)) (by kernel_rfl), ?_⟩
      have e1 : bl x k m = nx x k := by unfold bl; rw [if_neg (by rintro ⟨h1, h2⟩; first | omega | (have h3 : (nx x k).2.isSome = true := by assumption
                                                                                                    rw [h1] at h3; cases h3))]
      rw [e1]
      exact ⟨rfl, hQ, hTq⟩

end Go.Proofs.YtlkjhkennbdbnaaV
