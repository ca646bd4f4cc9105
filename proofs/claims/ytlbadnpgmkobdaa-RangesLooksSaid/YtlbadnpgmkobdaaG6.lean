/- Walks of functions of the program and of the document's texts. The conditions stand with each theorem. -/
import Derived.Test.YtlbadnpgmkobdaaJRrang58x1
import Derived.Test.YtlbadnpgmkobdaaJRrang58x1
import Derived.Test.YtlbadnpgmkobdaaProg
import Derived.Test.YtlbadnpgmkobdaaJRrang58x10
set_option linter.unusedVariables false
set_option linter.unusedSimpArgs false
namespace Go.Proofs.YtlbadnpgmkobdaaV
open Go Go.RowKit Go.Proofs

set_option maxRecDepth 100000 in
theorem sd20_ok (A : Option Addr) (cp : Nat) (most : Int) (N : List Nd) (B : Option Addr) (k cb : Nat) (l : List K) (nw wd up : Nat) (xa xb xc : Int) (x y z : K) (lo V : Nat) (w : World) (hD : Own w 0 32 6 (.slice A N.length cp) N.length (ncs N)) (hH : RdW w 2 k B (kcs l)) (hV : V < 18446744073709551616) : Ret Try.prog 55 [.agg #[.slice A N.length cp, .int .i64 most], .agg #[.int .i64 20, .int .i64 ((nw : Nat) : Int), .int .i64 xa, .int .i64 xb, .int .i64 xc, .int .u64 ((V : Nat) : Int)], .slice B k cb] w fun v w' => v = .agg #[.int .u64 (((rone 20 nw wd up x y z lo V).1 : Nat) : Int), .int .u64 (((rone 20 nw wd up x y z lo V).2 : Nat) : Int)] ∧ Tch N0 w w' := by
 have hll : l.length = k := by have := hH.1; rw [kcs_length] at this; omega
 refine enter Try.func55 rfl rfl ?_
 refine zQ ?_
 refine st (by rfl) (S_new (v := .pointer (some ⟨w.heap.size, 0, none⟩)) (ob := .cells #[.slice A N.length cp, .int .i64 most] 27) (by kernel_rfl) fun w1 hT2 hs3 hB4 => ?_)
 replace hB4 : Blk w1 (w.heap.size) 27 [.slice A N.length cp, .int .i64 most] := hB4
 have hT0 := hT2
 have hD := hD.tch0 hT2
 have hHr := hH.tch0 hT0
 have z9 := hT0.size
 have l10 := hB4.lt
 refine st (by rfl) (S_new (v := .pointer (some ⟨w1.heap.size, 0, none⟩)) (ob := .cells #[.int .i64 20, .int .i64 ((nw : Nat) : Int), .int .i64 xa, .int .i64 xb, .int .i64 xc, .int .u64 ((V : Nat) : Int)] 32) (by kernel_rfl) fun w5 hT6 hs7 hB8 => ?_)
 replace hB8 : Blk w5 (w1.heap.size) 32 [.int .i64 20, .int .i64 ((nw : Nat) : Int), .int .i64 xa, .int .i64 xb, .int .i64 xc, .int .u64 ((V : Nat) : Int)] := hB8
 have hT0 := hT0.t0 hT6
 have hD := hD.tch0 hT6
 have hHr := hH.tch0 hT0
 have hB4 := hB4.tch0 hT6
 have z15 := hT0.size
 have l16 := hB4.lt
 have l17 := hB8.lt
 refine st (by rfl) (S_new (v := .pointer (some ⟨w5.heap.size, 0, none⟩)) (ob := .cells #[.int .u64 0, .int .u64 0] 117) (by kernel_rfl) fun w11 hT12 hs13 hB14 => ?_)
 replace hB14 : Blk w11 (w5.heap.size) 117 [.int .u64 0, .int .u64 0] := hB14
 have hT0 := hT0.t0 hT12
 have hD := hD.tch0 hT12
 have hHr := hH.tch0 hT0
 have hB4 := hB4.tch0 hT12
 have hB8 := hB8.tch0 hT12
 refine op_nil ?_
 refine W_seq ?_
 refine W_block ?_
 refine zQ ?_
 refine zS [(10, .pointer (some ⟨w1.heap.size, 0, none⟩))] ?_
 refine zL (.int .i64 20) ((hB8.cell 0).trans rfl) ?_
 refine zS [(12, .bool true), (9, .bool true)] ?_
 refine zO true (fun _ => ?_) (fun h => nomatch h)
 refine zQ ?_
 refine zS [(13, .pointer (some ⟨w1.heap.size, 5, none⟩))] ?_
 refine zL (.int .u64 ((V : Nat) : Int)) ((hB8.cell 5).trans rfl) ?_
 refine zS [(15, .pointer (some ⟨w1.heap.size, 5, none⟩))] ?_
 refine zL (.int .u64 ((V : Nat) : Int)) ((hB8.cell 5).trans rfl) ?_
 refine zS [(17, .agg #[.int .u64 ((V : Nat) : Int), .int .u64 ((V : Nat) : Int)])] ?_
 refine st (by rfl) (S_storeA (b := w5.heap.size) (j := 0) (cs := [.int .u64 ((V : Nat) : Int), .int .u64 ((V : Nat) : Int)]) (by kernel_rfl) (by kernel_rfl) (by kernel_rfl) (by simp [oneV]) hB14 (by simp) fun w18 hT19 hs20 hB14' => ?_)
 have hT0 := (hT0).then hT19 (fun c e => by have : c = w5.heap.size := e; omega)
 have hD := hD.tch hT19 (fun c hc e => hD.blk_ne hB14 (by decide) c hc e)
 have hHr := hH.tch0 hT0
 have hB4 := hB4.tch hT19 (hB4.ne hB14 (by decide))
 have hB8 := hB8.tch hT19 (hB8.ne hB14 (by decide))
 replace hB14 : Blk w18 w5.heap.size 117 [.int .u64 ((V : Nat) : Int), .int .u64 ((V : Nat) : Int)] := hB14'
 refine op_nil ?_
 refine W_ret ?_
 exact ⟨_, Res_cell (b := w5.heap.size) (cs := [.int .u64 ((V : Nat) : Int), .int .u64 ((V : Nat) : Int)]) (by rfl) (by kernel_rfl) (by kernel_rfl) hB14 (by kernel_rfl) (by kernel_rfl), ⟨by kernel_rfl, hT0⟩⟩

set_option maxRecDepth 100000 in
theorem sd21_ok (A : Option Addr) (cp : Nat) (most : Int) (N : List Nd) (B : Option Addr) (k cb : Nat) (l : List K) (nw wd up : Nat) (xa xb xc xv : Int) (x y z : K) (lo V : Nat) (w : World) (hD : Own w 0 32 6 (.slice A N.length cp) N.length (ncs N)) (hH : RdW w 2 k B (kcs l)) (hnw : nw ≤ 64) : Ret Try.prog 55 [.agg #[.slice A N.length cp, .int .i64 most], .agg #[.int .i64 21, .int .i64 ((nw : Nat) : Int), .int .i64 xa, .int .i64 xb, .int .i64 xc, .int .u64 xv], .slice B k cb] w fun v w' => v = .agg #[.int .u64 (((rone 21 nw wd up x y z lo V).1 : Nat) : Int), .int .u64 (((rone 21 nw wd up x y z lo V).2 : Nat) : Int)] ∧ Tch N0 w w' := by
 have hll : l.length = k := by have := hH.1; rw [kcs_length] at this; omega
 refine enter Try.func55 rfl rfl ?_
 refine zQ ?_
 refine st (by rfl) (S_new (v := .pointer (some ⟨w.heap.size, 0, none⟩)) (ob := .cells #[.slice A N.length cp, .int .i64 most] 27) (by kernel_rfl) fun w1 hT2 hs3 hB4 => ?_)
 replace hB4 : Blk w1 (w.heap.size) 27 [.slice A N.length cp, .int .i64 most] := hB4
 have hT0 := hT2
 have hD := hD.tch0 hT2
 have hHr := hH.tch0 hT0
 have z9 := hT0.size
 have l10 := hB4.lt
 refine st (by rfl) (S_new (v := .pointer (some ⟨w1.heap.size, 0, none⟩)) (ob := .cells #[.int .i64 21, .int .i64 ((nw : Nat) : Int), .int .i64 xa, .int .i64 xb, .int .i64 xc, .int .u64 xv] 32) (by kernel_rfl) fun w5 hT6 hs7 hB8 => ?_)
 replace hB8 : Blk w5 (w1.heap.size) 32 [.int .i64 21, .int .i64 ((nw : Nat) : Int), .int .i64 xa, .int .i64 xb, .int .i64 xc, .int .u64 xv] := hB8
 have hT0 := hT0.t0 hT6
 have hD := hD.tch0 hT6
 have hHr := hH.tch0 hT0
 have hB4 := hB4.tch0 hT6
 have z15 := hT0.size
 have l16 := hB4.lt
 have l17 := hB8.lt
 refine st (by rfl) (S_new (v := .pointer (some ⟨w5.heap.size, 0, none⟩)) (ob := .cells #[.int .u64 0, .int .u64 0] 117) (by kernel_rfl) fun w11 hT12 hs13 hB14 => ?_)
 replace hB14 : Blk w11 (w5.heap.size) 117 [.int .u64 0, .int .u64 0] := hB14
 have hT0 := hT0.t0 hT12
 have hD := hD.tch0 hT12
 have hHr := hH.tch0 hT0
 have hB4 := hB4.tch0 hT12
 have hB8 := hB8.tch0 hT12
 refine op_nil ?_
 refine W_seq ?_
 refine W_block ?_
 refine zQ ?_
 refine zS [(10, .pointer (some ⟨w1.heap.size, 0, none⟩))] ?_
 refine zL (.int .i64 21) ((hB8.cell 0).trans rfl) ?_
 refine zS [(12, .bool false), (9, .bool false)] ?_
 refine zO false (fun h => nomatch h) (fun _ => ?_)
 refine zQ ?_
 refine zS [(19, .pointer (some ⟨w1.heap.size, 0, none⟩))] ?_
 refine zL (.int .i64 21) ((hB8.cell 0).trans rfl) ?_
 refine zS [(21, .bool false), (18, .bool false)] ?_
 refine zO false (fun h => nomatch h) (fun _ => ?_)
 refine zQ ?_
 refine zS [(40, .pointer (some ⟨w1.heap.size, 0, none⟩))] ?_
 refine zL (.int .i64 21) ((hB8.cell 0).trans rfl) ?_
 refine zS [(42, .bool false), (39, .bool false)] ?_
 refine zO false (fun h => nomatch h) (fun _ => ?_)
 refine zQ ?_
 refine zS [(64, .pointer (some ⟨w1.heap.size, 0, none⟩))] ?_
 refine zL (.int .i64 21) ((hB8.cell 0).trans rfl) ?_
 refine zS [(66, .bool false), (67, .bool false), (68, undef), (69, undef), (70, undef), (71, undef), (72, undef), (73, undef), (74, undef), (75, .bool false), (63, .bool false)] ?_
 refine zO false (fun h => nomatch h) (fun _ => ?_)
 refine zQ ?_
 refine zS [(82, .pointer (some ⟨w1.heap.size, 0, none⟩))] ?_
 refine zL (.int .i64 21) ((hB8.cell 0).trans rfl) ?_
 refine zS [(84, .bool false), (85, .bool false), (86, undef), (87, undef), (88, undef), (89, undef), (90, undef), (91, undef), (92, undef), (93, .bool false), (81, .bool false)] ?_
 refine zO false (fun h => nomatch h) (fun _ => ?_)
 refine zQ ?_
 refine zS [(100, .pointer (some ⟨w1.heap.size, 0, none⟩))] ?_
 refine zL (.int .i64 21) ((hB8.cell 0).trans rfl) ?_
 refine zS [(102, .bool false), (99, .bool false)] ?_
 refine zO false (fun h => nomatch h) (fun _ => ?_)
 refine W_seq ?_
 refine W_draw (fun w' => RdW w' 2 k B (kcs l) ∧ Blk w' (w.heap.size) 27 [.slice A N.length cp, .int .i64 most] ∧ Blk w' (w1.heap.size) 32 [.int .i64 21, .int .i64 ((nw : Nat) : Int), .int .i64 xa, .int .i64 xb, .int .i64 xc, .int .u64 xv]) (by kernel_rfl) (by kernel_rfl) (by kernel_rfl) fun w18 hT19 hh20 => ?_
 have hT0 := hT0.t0 hT19
 have hD := hD.tch0 hT19
 have hHr := hH.tch0 hT0
 have hB4 := hB4.tch0 hT19
 have hB8 := hB8.tch0 hT19
 have hB14 := hB14.tch0 hT19
 refine zK [0] #[true, false, false, false, false, false, false, false, false, false, false, false, false, false, false, false, false, false, false, false, false] [(131, .pointer (some ⟨w1.heap.size, 0, none⟩))] ⟨hHr, hB4, hB8⟩ ?_
 refine zV 1 rfl (.int .i64 21) (fun _ ⟨hHr, hB4, hB8⟩ => R_load (v := .int .i64 21) (by kernel_rfl) (by kernel_rfl) ((hB8.cell 0).trans rfl)) ⟨hHr, hB4, hB8⟩ ?_
 refine zK [2, 3, 4, 5, 6, 7, 8, 9, 10, 15, 11, 16, 12, 17, 13, 14, 18, 19, 20] #[true, true, true, true, true, true, true, true, true, true, true, true, true, true, true, true, true, true, true, true, true] [(133, .bool false), (134, .bool false), (135, undef), (136, undef), (137, undef), (138, .bool false), (139, .bool false), (140, undef), (141, undef), (146, undef), (142, undef), (147, undef), (143, undef), (148, undef), (144, undef), (145, undef), (149, undef), (150, .bool false), (130, .bool false)] ⟨hHr, hB4, hB8⟩ ?_
 refine d_done (by kernel_rfl) ?_
 refine zW false (fun h => nomatch h) (fun _ => ?_)
 refine zQ ?_
 refine zS [(157, .pointer (some ⟨w1.heap.size, 0, none⟩))] ?_
 refine zL (.int .i64 21) ((hB8.cell 0).trans rfl) ?_
 refine zS [(159, .bool false), (156, .bool false)] ?_
 refine zO false (fun h => nomatch h) (fun _ => ?_)
 refine zQ ?_
 refine zS [(197, .pointer (some ⟨w1.heap.size, 0, none⟩))] ?_
 refine zL (.int .i64 21) ((hB8.cell 0).trans rfl) ?_
 refine zS [(199, .bool false), (196, .bool false)] ?_
 refine zO false (fun h => nomatch h) (fun _ => ?_)
 refine W_seq ?_
 refine W_draw (fun w' => RdW w' 2 k B (kcs l) ∧ Blk w' (w.heap.size) 27 [.slice A N.length cp, .int .i64 most] ∧ Blk w' (w1.heap.size) 32 [.int .i64 21, .int .i64 ((nw : Nat) : Int), .int .i64 xa, .int .i64 xb, .int .i64 xc, .int .u64 xv]) (by kernel_rfl) (by kernel_rfl) (by kernel_rfl) fun w21 hT22 hh23 => ?_
 have hT0 := hT0.t0 hT22
 have hD := hD.tch0 hT22
 have hHr := hH.tch0 hT0
 have hB4 := hB4.tch0 hT22
 have hB8 := hB8.tch0 hT22
 have hB14 := hB14.tch0 hT22
 refine zK [0] #[true, false, false, false, false, false, false, false, false, false, false, false, false, false, false, false, false, false, false] [(206, .pointer (some ⟨w1.heap.size, 0, none⟩))] ⟨hHr, hB4, hB8⟩ ?_
 refine zV 1 rfl (.int .i64 21) (fun _ ⟨hHr, hB4, hB8⟩ => R_load (v := .int .i64 21) (by kernel_rfl) (by kernel_rfl) ((hB8.cell 0).trans rfl)) ⟨hHr, hB4, hB8⟩ ?_
 refine zK [2, 3, 4, 5, 10, 11, 6, 12, 7, 13, 8, 14, 9, 15, 16, 17, 18] #[true, true, true, true, true, true, true, true, true, true, true, true, true, true, true, true, true, true, true] [(208, .bool false), (209, .bool false), (210, undef), (211, undef), (216, undef), (217, undef), (212, undef), (218, undef), (213, undef), (219, undef), (214, undef), (220, undef), (215, undef), (221, undef), (222, undef), (223, .bool false), (205, .bool false)] ⟨hHr, hB4, hB8⟩ ?_
 refine d_done (by kernel_rfl) ?_
 refine zW false (fun h => nomatch h) (fun _ => ?_)
 refine W_skip ?_
 refine zQ ?_
 refine zS [(229, .pointer (some ⟨w1.heap.size, 1, none⟩))] ?_
 refine zL (.int .i64 ((nw : Nat) : Int)) ((hB8.cell 1).trans rfl) ?_
 refine zC (rall_ok nw _ (by omega)) ?_
 rintro _ w24 ⟨rfl, hT25⟩
 have hT0 := hT0.t0 hT25
 have hD := hD.tch0 hT25
 have hHr := hH.tch0 hT0
 have hB4 := hB4.tch0 hT25
 have hB8 := hB8.tch0 hT25
 have hB14 := hB14.tch0 hT25
 refine st (by rfl) (S_storeA (b := w5.heap.size) (j := 0) (cs := [.int .u64 (((rall nw).1 : Nat) : Int), .int .u64 (((rall nw).2 : Nat) : Int)]) (by kernel_rfl) (by kernel_rfl) (by kernel_rfl) (by simp [oneV]) hB14 (by simp) fun w26 hT27 hs28 hB14' => ?_)
 have hT0 := (hT0).then hT27 (fun c e => by have : c = w5.heap.size := e; omega)
 have hD := hD.tch hT27 (fun c hc e => hD.blk_ne hB14 (by decide) c hc e)
 have hHr := hH.tch0 hT0
 have hB4 := hB4.tch hT27 (hB4.ne hB14 (by decide))
 have hB8 := hB8.tch hT27 (hB8.ne hB14 (by decide))
 replace hB14 : Blk w26 w5.heap.size 117 [.int .u64 (((rall nw).1 : Nat) : Int), .int .u64 (((rall nw).2 : Nat) : Int)] := hB14'
 refine op_nil ?_
 refine W_ret ?_
 exact ⟨_, Res_cell (b := w5.heap.size) (cs := [.int .u64 (((rall nw).1 : Nat) : Int), .int .u64 (((rall nw).2 : Nat) : Int)]) (by rfl) (by kernel_rfl) (by kernel_rfl) hB14 (by kernel_rfl) (by kernel_rfl), ⟨by kernel_rfl, hT0⟩⟩

set_option maxRecDepth 100000 in
theorem sd16_ok (A : Option Addr) (cp : Nat) (most : Int) (N : List Nd) (B : Option Addr) (k cb : Nat) (l : List K) (nw wd up a : Nat) (xb xc xv : Int) (y z : K) (lo V : Nat) (w : World) (hD : Own w 0 32 6 (.slice A N.length cp) N.length (ncs N)) (hH : RdW w 2 k B (kcs l)) (ha : a < k) (hwa : widF N ((a : Nat) : Int) = ((wd : Nat) : Int)) (hxa : RI wd (kg l a)) (hw : wd ≤ 64) (hnw : nw ≤ 64) : Ret Try.prog 55 [.agg #[.slice A N.length cp, .int .i64 most], .agg #[.int .i64 16, .int .i64 ((nw : Nat) : Int), .int .i64 ((a : Nat) : Int), .int .i64 xb, .int .i64 xc, .int .u64 xv], .slice B k cb] w fun v w' => v = .agg #[.int .u64 (((rone 16 nw wd up (kg l a) y z lo V).1 : Nat) : Int), .int .u64 (((rone 16 nw wd up (kg l a) y z lo V).2 : Nat) : Int)] ∧ Tch N0 w w' := by
 have hll : l.length = k := by have := hH.1; rw [kcs_length] at this; omega
 have hla1 := hxa.1
 have hla2 := hxa.2
 have ua1 := hxa.u1 (show wd ≤ 64 by omega)
 have ua2 := hxa.u2 (show wd ≤ 64 by omega)
 refine enter Try.func55 rfl rfl ?_
 refine zQ ?_
 refine st (by rfl) (S_new (v := .pointer (some ⟨w.heap.size, 0, none⟩)) (ob := .cells #[.slice A N.length cp, .int .i64 most] 27) (by kernel_rfl) fun w1 hT2 hs3 hB4 => ?_)
 replace hB4 : Blk w1 (w.heap.size) 27 [.slice A N.length cp, .int .i64 most] := hB4
 have hT0 := hT2
 have hD := hD.tch0 hT2
 have hHr := hH.tch0 hT0
 have z9 := hT0.size
 have l10 := hB4.lt
 refine st (by rfl) (S_new (v := .pointer (some ⟨w1.heap.size, 0, none⟩)) (ob := .cells #[.int .i64 16, .int .i64 ((nw : Nat) : Int), .int .i64 ((a : Nat) : Int), .int .i64 xb, .int .i64 xc, .int .u64 xv] 32) (by kernel_rfl) fun w5 hT6 hs7 hB8 => ?_)
 replace hB8 : Blk w5 (w1.heap.size) 32 [.int .i64 16, .int .i64 ((nw : Nat) : Int), .int .i64 ((a : Nat) : Int), .int .i64 xb, .int .i64 xc, .int .u64 xv] := hB8
 have hT0 := hT0.t0 hT6
 have hD := hD.tch0 hT6
 have hHr := hH.tch0 hT0
 have hB4 := hB4.tch0 hT6
 have z15 := hT0.size
 have l16 := hB4.lt
 have l17 := hB8.lt
 refine st (by rfl) (S_new (v := .pointer (some ⟨w5.heap.size, 0, none⟩)) (ob := .cells #[.int .u64 0, .int .u64 0] 117) (by kernel_rfl) fun w11 hT12 hs13 hB14 => ?_)
 replace hB14 : Blk w11 (w5.heap.size) 117 [.int .u64 0, .int .u64 0] := hB14
 have hT0 := hT0.t0 hT12
 have hD := hD.tch0 hT12
 have hHr := hH.tch0 hT0
 have hB4 := hB4.tch0 hT12
 have hB8 := hB8.tch0 hT12
 refine op_nil ?_
 refine W_seq ?_
 refine W_block ?_
 refine zQ ?_
 refine zS [(10, .pointer (some ⟨w1.heap.size, 0, none⟩))] ?_
 refine zL (.int .i64 16) ((hB8.cell 0).trans rfl) ?_
 refine zS [(12, .bool false), (9, .bool false)] ?_
 refine zO false (fun h => nomatch h) (fun _ => ?_)
 refine zQ ?_
 refine zS [(19, .pointer (some ⟨w1.heap.size, 0, none⟩))] ?_
 refine zL (.int .i64 16) ((hB8.cell 0).trans rfl) ?_
 refine zS [(21, .bool false), (18, .bool false)] ?_
 refine zO false (fun h => nomatch h) (fun _ => ?_)
 refine zQ ?_
 refine zS [(40, .pointer (some ⟨w1.heap.size, 0, none⟩))] ?_
 refine zL (.int .i64 16) ((hB8.cell 0).trans rfl) ?_
 refine zS [(42, .bool false), (39, .bool false)] ?_
 refine zO false (fun h => nomatch h) (fun _ => ?_)
 refine zQ ?_
 refine zS [(64, .pointer (some ⟨w1.heap.size, 0, none⟩))] ?_
 refine zL (.int .i64 16) ((hB8.cell 0).trans rfl) ?_
 refine zS [(66, .bool false), (67, .bool false), (68, undef), (69, undef), (70, undef), (71, undef), (72, undef), (73, undef), (74, undef), (75, .bool false), (63, .bool false)] ?_
 refine zO false (fun h => nomatch h) (fun _ => ?_)
 refine zQ ?_
 refine zS [(82, .pointer (some ⟨w1.heap.size, 0, none⟩))] ?_
 refine zL (.int .i64 16) ((hB8.cell 0).trans rfl) ?_
 refine zS [(84, .bool false), (85, .bool false), (86, undef), (87, undef), (88, undef), (89, undef), (90, undef), (91, undef), (92, undef), (93, .bool false), (81, .bool false)] ?_
 refine zO false (fun h => nomatch h) (fun _ => ?_)
 refine zQ ?_
 refine zS [(100, .pointer (some ⟨w1.heap.size, 0, none⟩))] ?_
 refine zL (.int .i64 16) ((hB8.cell 0).trans rfl) ?_
 refine zS [(102, .bool false), (99, .bool false)] ?_
 refine zO false (fun h => nomatch h) (fun _ => ?_)
 refine W_seq ?_
 refine W_draw (fun w' => RdW w' 2 k B (kcs l) ∧ Blk w' (w.heap.size) 27 [.slice A N.length cp, .int .i64 most] ∧ Blk w' (w1.heap.size) 32 [.int .i64 16, .int .i64 ((nw : Nat) : Int), .int .i64 ((a : Nat) : Int), .int .i64 xb, .int .i64 xc, .int .u64 xv]) (by kernel_rfl) (by kernel_rfl) (by kernel_rfl) fun w18 hT19 hh20 => ?_
 have hT0 := hT0.t0 hT19
 have hD := hD.tch0 hT19
 have hHr := hH.tch0 hT0
 have hB4 := hB4.tch0 hT19
 have hB8 := hB8.tch0 hT19
 have hB14 := hB14.tch0 hT19
 refine zK [0] #[true, false, false, false, false, false, false, false, false, false, false, false, false, false, false, false, false, false, false, false, false] [(131, .pointer (some ⟨w1.heap.size, 0, none⟩))] ⟨hHr, hB4, hB8⟩ ?_
 refine zV 1 rfl (.int .i64 16) (fun _ ⟨hHr, hB4, hB8⟩ => R_load (v := .int .i64 16) (by kernel_rfl) (by kernel_rfl) ((hB8.cell 0).trans rfl)) ⟨hHr, hB4, hB8⟩ ?_
 refine zK [2, 3, 4, 5, 6, 7, 8, 9, 10, 15, 11, 16, 12, 17, 13, 14, 18, 19, 20] #[true, true, true, true, true, true, true, true, true, true, true, true, true, true, true, true, true, true, true, true, true] [(133, .bool false), (134, .bool false), (135, undef), (136, undef), (137, undef), (138, .bool false), (139, .bool false), (140, undef), (141, undef), (146, undef), (142, undef), (147, undef), (143, undef), (148, undef), (144, undef), (145, undef), (149, undef), (150, .bool false), (130, .bool false)] ⟨hHr, hB4, hB8⟩ ?_
 refine d_done (by kernel_rfl) ?_
 refine zW false (fun h => nomatch h) (fun _ => ?_)
 refine zQ ?_
 refine zS [(157, .pointer (some ⟨w1.heap.size, 0, none⟩))] ?_
 refine zL (.int .i64 16) ((hB8.cell 0).trans rfl) ?_
 refine zS [(159, .bool false), (156, .bool false)] ?_
 refine zO false (fun h => nomatch h) (fun _ => ?_)
 refine zQ ?_
 refine zS [(197, .pointer (some ⟨w1.heap.size, 0, none⟩))] ?_
 refine zL (.int .i64 16) ((hB8.cell 0).trans rfl) ?_
 refine zS [(199, .bool false), (196, .bool false)] ?_
 refine zO false (fun h => nomatch h) (fun _ => ?_)
 refine W_seq ?_
 refine W_draw (fun w' => RdW w' 2 k B (kcs l) ∧ Blk w' (w.heap.size) 27 [.slice A N.length cp, .int .i64 most] ∧ Blk w' (w1.heap.size) 32 [.int .i64 16, .int .i64 ((nw : Nat) : Int), .int .i64 ((a : Nat) : Int), .int .i64 xb, .int .i64 xc, .int .u64 xv]) (by kernel_rfl) (by kernel_rfl) (by kernel_rfl) fun w21 hT22 hh23 => ?_
 have hT0 := hT0.t0 hT22
 have hD := hD.tch0 hT22
 have hHr := hH.tch0 hT0
 have hB4 := hB4.tch0 hT22
 have hB8 := hB8.tch0 hT22
 have hB14 := hB14.tch0 hT22
 refine zK [0] #[true, false, false, false, false, false, false, false, false, false, false, false, false, false, false, false, false, false, false] [(206, .pointer (some ⟨w1.heap.size, 0, none⟩))] ⟨hHr, hB4, hB8⟩ ?_
 refine zV 1 rfl (.int .i64 16) (fun _ ⟨hHr, hB4, hB8⟩ => R_load (v := .int .i64 16) (by kernel_rfl) (by kernel_rfl) ((hB8.cell 0).trans rfl)) ⟨hHr, hB4, hB8⟩ ?_
 refine zK [2, 3, 4, 5, 10, 11, 6, 12, 7, 13, 8, 14, 9, 15, 16, 17, 18] #[true, true, true, true, true, true, true, true, true, true, true, true, true, true, true, true, true, true, true] [(208, .bool false), (209, .bool false), (210, undef), (211, undef), (216, undef), (217, undef), (212, undef), (218, undef), (213, undef), (219, undef), (214, undef), (220, undef), (215, undef), (221, undef), (222, undef), (223, .bool false), (205, .bool false)] ⟨hHr, hB4, hB8⟩ ?_
 refine d_done (by kernel_rfl) ?_
 refine zW false (fun h => nomatch h) (fun _ => ?_)
 refine W_skip ?_
 refine zQ ?_
 refine zS [(229, .pointer (some ⟨w1.heap.size, 1, none⟩))] ?_
 refine zL (.int .i64 ((nw : Nat) : Int)) ((hB8.cell 1).trans rfl) ?_
 refine zC (rall_ok nw _ (by omega)) ?_
 rintro _ w24 ⟨rfl, hT25⟩
 have hT0 := hT0.t0 hT25
 have hD := hD.tch0 hT25
 have hHr := hH.tch0 hT0
 have hB4 := hB4.tch0 hT25
 have hB8 := hB8.tch0 hT25
 have hB14 := hB14.tch0 hT25
 refine st (by rfl) (S_storeA (b := w5.heap.size) (j := 0) (cs := [.int .u64 (((rall nw).1 : Nat) : Int), .int .u64 (((rall nw).2 : Nat) : Int)]) (by kernel_rfl) (by kernel_rfl) (by kernel_rfl) (by simp [oneV]) hB14 (by simp) fun w26 hT27 hs28 hB14' => ?_)
 have hT0 := (hT0).then hT27 (fun c e => by have : c = w5.heap.size := e; omega)
 have hD := hD.tch hT27 (fun c hc e => hD.blk_ne hB14 (by decide) c hc e)
 have hHr := hH.tch0 hT0
 have hB4 := hB4.tch hT27 (hB4.ne hB14 (by decide))
 have hB8 := hB8.tch hT27 (hB8.ne hB14 (by decide))
 replace hB14 : Blk w26 w5.heap.size 117 [.int .u64 (((rall nw).1 : Nat) : Int), .int .u64 (((rall nw).2 : Nat) : Int)] := hB14'
 refine op_nil ?_
 refine W_ret ?_
 exact ⟨_, Res_cell (b := w5.heap.size) (cs := [.int .u64 (((rall nw).1 : Nat) : Int), .int .u64 (((rall nw).2 : Nat) : Int)]) (by rfl) (by kernel_rfl) (by kernel_rfl) hB14 (by kernel_rfl) (by kernel_rfl), ⟨by kernel_rfl, hT0⟩⟩

set_option maxRecDepth 100000 in
theorem sd15_ok (A : Option Addr) (cp : Nat) (most : Int) (N : List Nd) (B : Option Addr) (k cb : Nat) (l : List K) (wd up a : Nat) (xb xc xv : Int) (y z : K) (lo V : Nat) (w : World) (hD : Own w 0 32 6 (.slice A N.length cp) N.length (ncs N)) (hH : RdW w 2 k B (kcs l)) (ha : a < k) (hwa : widF N ((a : Nat) : Int) = ((wd : Nat) : Int)) (hxa : RI wd (kg l a)) (hw : wd ≤ 64) : Ret Try.prog 55 [.agg #[.slice A N.length cp, .int .i64 most], .agg #[.int .i64 15, .int .i64 ((wd : Nat) : Int), .int .i64 ((a : Nat) : Int), .int .i64 xb, .int .i64 xc, .int .u64 xv], .slice B k cb] w fun v w' => v = .agg #[.int .u64 (((rone 15 wd wd up (kg l a) y z lo V).1 : Nat) : Int), .int .u64 (((rone 15 wd wd up (kg l a) y z lo V).2 : Nat) : Int)] ∧ Tch N0 w w' := by
 have hll : l.length = k := by have := hH.1; rw [kcs_length] at this; omega
 have hla1 := hxa.1
 have hla2 := hxa.2
 have ua1 := hxa.u1 (show wd ≤ 64 by omega)
 have ua2 := hxa.u2 (show wd ≤ 64 by omega)
 have hp64 := pw64 (w := wd) hw
 refine enter Try.func55 rfl rfl ?_
 refine zQ ?_
 refine st (by rfl) (S_new (v := .pointer (some ⟨w.heap.size, 0, none⟩)) (ob := .cells #[.slice A N.length cp, .int .i64 most] 27) (by kernel_rfl) fun w1 hT2 hs3 hB4 => ?_)
 replace hB4 : Blk w1 (w.heap.size) 27 [.slice A N.length cp, .int .i64 most] := hB4
 have hT0 := hT2
 have hD := hD.tch0 hT2
 have hHr := hH.tch0 hT0
 have z9 := hT0.size
 have l10 := hB4.lt
 refine st (by rfl) (S_new (v := .pointer (some ⟨w1.heap.size, 0, none⟩)) (ob := .cells #[.int .i64 15, .int .i64 ((wd : Nat) : Int), .int .i64 ((a : Nat) : Int), .int .i64 xb, .int .i64 xc, .int .u64 xv] 32) (by kernel_rfl) fun w5 hT6 hs7 hB8 => ?_)
 replace hB8 : Blk w5 (w1.heap.size) 32 [.int .i64 15, .int .i64 ((wd : Nat) : Int), .int .i64 ((a : Nat) : Int), .int .i64 xb, .int .i64 xc, .int .u64 xv] := hB8
 have hT0 := hT0.t0 hT6
 have hD := hD.tch0 hT6
 have hHr := hH.tch0 hT0
 have hB4 := hB4.tch0 hT6
 have z15 := hT0.size
 have l16 := hB4.lt
 have l17 := hB8.lt
 refine st (by rfl) (S_new (v := .pointer (some ⟨w5.heap.size, 0, none⟩)) (ob := .cells #[.int .u64 0, .int .u64 0] 117) (by kernel_rfl) fun w11 hT12 hs13 hB14 => ?_)
 replace hB14 : Blk w11 (w5.heap.size) 117 [.int .u64 0, .int .u64 0] := hB14
 have hT0 := hT0.t0 hT12
 have hD := hD.tch0 hT12
 have hHr := hH.tch0 hT0
 have hB4 := hB4.tch0 hT12
 have hB8 := hB8.tch0 hT12
 refine op_nil ?_
 refine W_seq ?_
 refine W_block ?_
 refine zQ ?_
 refine zS [(10, .pointer (some ⟨w1.heap.size, 0, none⟩))] ?_
 refine zL (.int .i64 15) ((hB8.cell 0).trans rfl) ?_
 refine zS [(12, .bool false), (9, .bool false)] ?_
 refine zO false (fun h => nomatch h) (fun _ => ?_)
 refine zQ ?_
 refine zS [(19, .pointer (some ⟨w1.heap.size, 0, none⟩))] ?_
 refine zL (.int .i64 15) ((hB8.cell 0).trans rfl) ?_
 refine zS [(21, .bool false), (18, .bool false)] ?_
 refine zO false (fun h => nomatch h) (fun _ => ?_)
 refine zQ ?_
 refine zS [(40, .pointer (some ⟨w1.heap.size, 0, none⟩))] ?_
 refine zL (.int .i64 15) ((hB8.cell 0).trans rfl) ?_
 refine zS [(42, .bool true), (39, .bool true)] ?_
 refine zO true (fun _ => ?_) (fun h => nomatch h)
 refine zQ ?_
 refine zS [(43, .pointer (some ⟨w1.heap.size, 1, none⟩))] ?_
 refine zL (.int .i64 ((wd : Nat) : Int)) ((hB8.cell 1).trans rfl) ?_
 refine zC (rmask_okN wd _ (by omega)) ?_
 rintro _ w18 ⟨rfl, hT19⟩
 have hT0 := hT0.t0 hT19
 have hD := hD.tch0 hT19
 have hHr := hH.tch0 hT0
 have hB4 := hB4.tch0 hT19
 have hB8 := hB8.tch0 hT19
 have hB14 := hB14.tch0 hT19
 have hu20 := pwm_lt (x := wd) (by omega)
 refine zS [(7, .int .u64 ((pw wd - 1 : Nat) : Int))] ?_
 refine op_nil ?_
 refine W_seq ?_
 refine W_draw (fun w' => RdW w' 2 k B (kcs l) ∧ Blk w' (w.heap.size) 27 [.slice A N.length cp, .int .i64 most] ∧ Blk w' (w1.heap.size) 32 [.int .i64 15, .int .i64 ((wd : Nat) : Int), .int .i64 ((a : Nat) : Int), .int .i64 xb, .int .i64 xc, .int .u64 xv]) (by kernel_rfl) (by kernel_rfl) (by kernel_rfl) fun w21 hT22 hh23 => ?_
 have hT0 := hT0.t0 hT22
 have hD := hD.tch0 hT22
 have hHr := hH.tch0 hT0
 have hB4 := hB4.tch0 hT22
 have hB8 := hB8.tch0 hT22
 have hB14 := hB14.tch0 hT22
 refine zK [0, 1, 2, 8, 9, 10] #[true, true, true, false, false, false, false, false, true, true, true, false, false, false, false, false, false, false] [(46, .int .u64 ((pw wd - 1 : Nat) : Int)), (47, .slice B k cb), (48, .pointer (some ⟨w1.heap.size, 2, none⟩)), (54, .int .u64 ((pw wd - 1 : Nat) : Int)), (55, .slice B k cb), (56, .pointer (some ⟨w1.heap.size, 2, none⟩))] ⟨hHr, hB4, hB8⟩ ?_
 refine zV 3 rfl (.int .i64 ((a : Nat) : Int)) (fun _ ⟨hHr, hB4, hB8⟩ => R_load (v := .int .i64 ((a : Nat) : Int)) (by kernel_rfl) (by kernel_rfl) ((hB8.cell 2).trans rfl)) ⟨hHr, hB4, hB8⟩ ?_
 refine zV 4 rfl (ptrAt B (a * 2)) (fun _ ⟨hHr, hB4, hB8⟩ => R_indexRd (sz := 2) (len := k) (cap := cb) (k := .i64) (i := ((a : Nat) : Int)) (e := 117) a hHr (by kernel_rfl) (by kernel_rfl) (by kernel_rfl) (by kernel_rfl) rfl (by omega)) ⟨hHr, hB4, hB8⟩ ?_
 refine zV 5 rfl (ptrAt B (a * 2 + 1)) (fun _ ⟨hHr, hB4, hB8⟩ => R_fieldRd (m := 1) hHr (by omega) (by kernel_rfl) (fun _ _ => by rfl)) ⟨hHr, hB4, hB8⟩ ?_
 refine zV 6 rfl (.int .u64 (((kg l a).2 : Nat) : Int)) (fun _ ⟨hHr, hB4, hB8⟩ => R_loadRd (v := .int .u64 (((kg l a).2 : Nat) : Int)) hHr (by omega) (by kernel_rfl) (by kernel_rfl) ((kcs_part l (by omega) 1 _ rfl))) ⟨hHr, hB4, hB8⟩ ?_
 refine zK [7] #[true, true, true, true, true, true, true, true, true, true, true, false, false, false, false, false, false, false] [(53, .int .u64 (IntKind.u64.wrap (((pw wd - 1 : Nat) : Int) - (((kg l a).2 : Nat) : Int))))] ⟨hHr, hB4, hB8⟩ ?_
 rw [show IntKind.u64.wrap (((pw wd - 1 : Nat) : Int) - (((kg l a).2 : Nat) : Int)) = ((((pw wd - 1) + (18446744073709551616 - ((kg l a).2))) % 18446744073709551616 : Nat) : Int) from u64_sub (pw wd - 1) ((kg l a).2) hu20 ua2]
 have hu24 : ((pw wd - 1) + (18446744073709551616 - ((kg l a).2))) % 18446744073709551616 < 18446744073709551616 := mod_lt64 _
 refine fixD (y := ((pw wd - 1 - (kg l a).2 : Nat) : Int)) (by omega) ?_
 refine zV 11 rfl (.int .i64 ((a : Nat) : Int)) (fun _ ⟨hHr, hB4, hB8⟩ => R_load (v := .int .i64 ((a : Nat) : Int)) (by kernel_rfl) (by kernel_rfl) ((hB8.cell 2).trans rfl)) ⟨hHr, hB4, hB8⟩ ?_
 refine zV 12 rfl (ptrAt B (a * 2)) (fun _ ⟨hHr, hB4, hB8⟩ => R_indexRd (sz := 2) (len := k) (cap := cb) (k := .i64) (i := ((a : Nat) : Int)) (e := 117) a hHr (by kernel_rfl) (by kernel_rfl) (by kernel_rfl) (by kernel_rfl) rfl (by omega)) ⟨hHr, hB4, hB8⟩ ?_
 refine zV 13 rfl (ptrAt B (a * 2)) (fun _ ⟨hHr, hB4, hB8⟩ => R_fieldRd (m := 0) hHr (by omega) (by kernel_rfl) (fun _ _ => by rfl)) ⟨hHr, hB4, hB8⟩ ?_
 refine zV 14 rfl (.int .u64 (((kg l a).1 : Nat) : Int)) (fun _ ⟨hHr, hB4, hB8⟩ => R_loadRd (v := .int .u64 (((kg l a).1 : Nat) : Int)) hHr (by omega) (by kernel_rfl) (by kernel_rfl) ((kcs_part l (by omega) 0 _ rfl))) ⟨hHr, hB4, hB8⟩ ?_
 refine zK [15] #[true, true, true, true, true, true, true, true, true, true, true, true, true, true, true, true, false, false] [(61, .int .u64 (IntKind.u64.wrap (((pw wd - 1 : Nat) : Int) - (((kg l a).1 : Nat) : Int))))] ⟨hHr, hB4, hB8⟩ ?_
 rw [show IntKind.u64.wrap (((pw wd - 1 : Nat) : Int) - (((kg l a).1 : Nat) : Int)) = ((((pw wd - 1) + (18446744073709551616 - ((kg l a).1))) % 18446744073709551616 : Nat) : Int) from u64_sub (pw wd - 1) ((kg l a).1) hu20 ua1]
 have hu25 : ((pw wd - 1) + (18446744073709551616 - ((kg l a).1))) % 18446744073709551616 < 18446744073709551616 := mod_lt64 _
 refine fixD (y := ((pw wd - 1 - (kg l a).1 : Nat) : Int)) (by omega) ?_
 refine zK [16] #[true, true, true, true, true, true, true, true, true, true, true, true, true, true, true, true, true, false] [(62, .agg #[.int .u64 ((pw wd - 1 - (kg l a).2 : Nat) : Int), .int .u64 ((pw wd - 1 - (kg l a).1 : Nat) : Int)])] ⟨hHr, hB4, hB8⟩ ?_
 refine zD 17 rfl (S_storeA (b := w5.heap.size) (j := 0) (cs := [.int .u64 ((pw wd - 1 - (kg l a).2 : Nat) : Int), .int .u64 ((pw wd - 1 - (kg l a).1 : Nat) : Int)]) (by kernel_rfl) (by kernel_rfl) (by kernel_rfl) (by simp [oneV]) hB14 (by simp) fun w26 hT27 hs28 hB14' => ?_)
 have hT0 := (hT0).then hT27 (fun c e => by have : c = w5.heap.size := e; omega)
 have hD := hD.tch hT27 (fun c hc e => hD.blk_ne hB14 (by decide) c hc e)
 have hHr := hH.tch0 hT0
 have hB4 := hB4.tch hT27 (hB4.ne hB14 (by decide))
 have hB8 := hB8.tch hT27 (hB8.ne hB14 (by decide))
 replace hB14 : Blk w26 w5.heap.size 117 [.int .u64 ((pw wd - 1 - (kg l a).2 : Nat) : Int), .int .u64 ((pw wd - 1 - (kg l a).1 : Nat) : Int)] := hB14'
 refine ⟨⟨hHr, hB4, hB8⟩, ?_⟩
 refine d_done (by kernel_rfl) ?_
 refine W_ret ?_
 exact ⟨_, Res_cell (b := w5.heap.size) (cs := [.int .u64 ((pw wd - 1 - (kg l a).2 : Nat) : Int), .int .u64 ((pw wd - 1 - (kg l a).1 : Nat) : Int)]) (by rfl) (by kernel_rfl) (by kernel_rfl) hB14 (by kernel_rfl) (by kernel_rfl), ⟨by kernel_rfl, hT0⟩⟩

set_option maxRecDepth 100000 in
theorem sdO_ok (A : Option Addr) (cp : Nat) (most : Int) (N : List Nd) (B : Option Addr) (k cb : Nat) (l : List K) (nw wd up a b : Nat) (xc xv : Int) (z : K) (lo V O : Nat) (w : World) (hD : Own w 0 32 6 (.slice A N.length cp) N.length (ncs N)) (hH : RdW w 2 k B (kcs l)) (ha : a < k) (hb : b < k) (hwa : widF N ((a : Nat) : Int) = ((wd : Nat) : Int)) (hxa : RI wd (kg l a)) (hxb : RI wd (kg l b)) (h1 : 1 ≤ wd) (hw : wd ≤ 64) (hO : 1 ≤ O ∧ O ≤ 14) : Ret Try.prog 55 [.agg #[.slice A N.length cp, .int .i64 most], .agg #[.int .i64 ((O : Nat) : Int), .int .i64 ((nw : Nat) : Int), .int .i64 ((a : Nat) : Int), .int .i64 ((b : Nat) : Int), .int .i64 xc, .int .u64 xv], .slice B k cb] w fun v w' => v = .agg #[.int .u64 (((rone O nw wd up (kg l a) (kg l b) z lo V).1 : Nat) : Int), .int .u64 (((rone O nw wd up (kg l a) (kg l b) z lo V).2 : Nat) : Int)] ∧ Tch N0 w w' := by
 have hll : l.length = k := by have := hH.1; rw [kcs_length] at this; omega
 have hla1 := hxa.1
 have hla2 := hxa.2
 have ua1 := hxa.u1 (show wd ≤ 64 by omega)
 have ua2 := hxa.u2 (show wd ≤ 64 by omega)
 have hlb1 := hxb.1
 have hlb2 := hxb.2
 have ub1 := hxb.u1 (show wd ≤ 64 by omega)
 have ub2 := hxb.u2 (show wd ≤ 64 by omega)
 refine enter Try.func55 rfl rfl ?_
 refine zQ ?_
 refine st (by rfl) (S_new (v := .pointer (some ⟨w.heap.size, 0, none⟩)) (ob := .cells #[.slice A N.length cp, .int .i64 most] 27) (by kernel_rfl) fun w1 hT2 hs3 hB4 => ?_)
 replace hB4 : Blk w1 (w.heap.size) 27 [.slice A N.length cp, .int .i64 most] := hB4
 have hT0 := hT2
 have hD := hD.tch0 hT2
 have hHr := hH.tch0 hT0
 have z9 := hT0.size
 have l10 := hB4.lt
 refine st (by rfl) (S_new (v := .pointer (some ⟨w1.heap.size, 0, none⟩)) (ob := .cells #[.int .i64 ((O : Nat) : Int), .int .i64 ((nw : Nat) : Int), .int .i64 ((a : Nat) : Int), .int .i64 ((b : Nat) : Int), .int .i64 xc, .int .u64 xv] 32) (by kernel_rfl) fun w5 hT6 hs7 hB8 => ?_)
 replace hB8 : Blk w5 (w1.heap.size) 32 [.int .i64 ((O : Nat) : Int), .int .i64 ((nw : Nat) : Int), .int .i64 ((a : Nat) : Int), .int .i64 ((b : Nat) : Int), .int .i64 xc, .int .u64 xv] := hB8
 have hT0 := hT0.t0 hT6
 have hD := hD.tch0 hT6
 have hHr := hH.tch0 hT0
 have hB4 := hB4.tch0 hT6
 have z15 := hT0.size
 have l16 := hB4.lt
 have l17 := hB8.lt
 refine st (by rfl) (S_new (v := .pointer (some ⟨w5.heap.size, 0, none⟩)) (ob := .cells #[.int .u64 0, .int .u64 0] 117) (by kernel_rfl) fun w11 hT12 hs13 hB14 => ?_)
 replace hB14 : Blk w11 (w5.heap.size) 117 [.int .u64 0, .int .u64 0] := hB14
 have hT0 := hT0.t0 hT12
 have hD := hD.tch0 hT12
 have hHr := hH.tch0 hT0
 have hB4 := hB4.tch0 hT12
 have hB8 := hB8.tch0 hT12
 refine op_nil ?_
 refine W_seq ?_
 refine W_block ?_
 refine zQ ?_
 refine zS [(10, .pointer (some ⟨w1.heap.size, 0, none⟩))] ?_
 refine zL (.int .i64 ((O : Nat) : Int)) ((hB8.cell 0).trans rfl) ?_
 refine zS [(12, .bool (((O : Nat) : Int) == 20)), (9, .bool (((O : Nat) : Int) == 20))] ?_
 refine zO (((O : Nat) : Int) == 20) (fun hc18 => ?_) (fun hc18 => ?_)
 ·
  replace hc18 : ((O : Nat) : Int) = 20 := (eq_of_beq hc18)
  exfalso; omega
 ·
  replace hc18 : ((O : Nat) : Int) ≠ 20 := (ne_of_beq_false hc18)
  refine zQ ?_
  refine zS [(19, .pointer (some ⟨w1.heap.size, 0, none⟩))] ?_
  refine zL (.int .i64 ((O : Nat) : Int)) ((hB8.cell 0).trans rfl) ?_
  refine zS [(21, .bool (decide (((O : Nat) : Int) ≤ 14))), (18, .bool (decide (((O : Nat) : Int) ≤ 14)))] ?_
  refine zO (decide (((O : Nat) : Int) ≤ 14)) (fun hc19 => ?_) (fun hc19 => ?_)
  ·
   replace hc19 : ((O : Nat) : Int) ≤ 14 := (of_decide_eq_true hc19)
   refine W_seq ?_
   refine W_draw (fun w' => RdW w' 2 k B (kcs l) ∧ Blk w' (w.heap.size) 27 [.slice A N.length cp, .int .i64 most] ∧ Blk w' (w1.heap.size) 32 [.int .i64 ((O : Nat) : Int), .int .i64 ((nw : Nat) : Int), .int .i64 ((a : Nat) : Int), .int .i64 ((b : Nat) : Int), .int .i64 xc, .int .u64 xv]) (by kernel_rfl) (by kernel_rfl) (by kernel_rfl) fun w20 hT21 hh22 => ?_
   have hT0 := hT0.t0 hT21
   have hD := hD.tch0 hT21
   have hHr := hH.tch0 hT0
   have hB4 := hB4.tch0 hT21
   have hB8 := hB8.tch0 hT21
   have hB14 := hB14.tch0 hT21
   refine zK [0, 3, 6, 7, 11, 12] #[true, false, false, true, false, false, true, true, false, false, false, true, true, false, false, false, false, false] [(22, .pointer (some ⟨w1.heap.size, 0, none⟩)), (25, .pointer (some ⟨w1.heap.size, 2, none⟩)), (28, .slice B k cb), (29, .pointer (some ⟨w1.heap.size, 2, none⟩)), (33, .slice B k cb), (34, .pointer (some ⟨w1.heap.size, 3, none⟩))] ⟨hHr, hB4, hB8⟩ ?_
   refine zV 1 rfl (.int .i64 ((O : Nat) : Int)) (fun _ ⟨hHr, hB4, hB8⟩ => R_load (v := .int .i64 ((O : Nat) : Int)) (by kernel_rfl) (by kernel_rfl) ((hB8.cell 0).trans rfl)) ⟨hHr, hB4, hB8⟩ ?_
   refine zV 2 rfl (.agg #[.slice A N.length cp, .int .i64 most]) (fun _ ⟨hHr, hB4, hB8⟩ => R_loadA [.slice A N.length cp, .int .i64 most] (by kernel_rfl) (by kernel_rfl) (by kernel_rfl) (fun k u hk => by rw [hB4.cell]; exact get_part _ 0 _ k u rfl hk)) ⟨hHr, hB4, hB8⟩ ?_
   refine zV 4 rfl (.int .i64 ((a : Nat) : Int)) (fun _ ⟨hHr, hB4, hB8⟩ => R_load (v := .int .i64 ((a : Nat) : Int)) (by kernel_rfl) (by kernel_rfl) ((hB8.cell 2).trans rfl)) ⟨hHr, hB4, hB8⟩ ?_
   refine zV 8 rfl (.int .i64 ((a : Nat) : Int)) (fun _ ⟨hHr, hB4, hB8⟩ => R_load (v := .int .i64 ((a : Nat) : Int)) (by kernel_rfl) (by kernel_rfl) ((hB8.cell 2).trans rfl)) ⟨hHr, hB4, hB8⟩ ?_
   refine zV 9 rfl (ptrAt B (a * 2)) (fun _ ⟨hHr, hB4, hB8⟩ => R_indexRd (sz := 2) (len := k) (cap := cb) (k := .i64) (i := ((a : Nat) : Int)) (e := 117) a hHr (by kernel_rfl) (by kernel_rfl) (by kernel_rfl) (by kernel_rfl) rfl (by omega)) ⟨hHr, hB4, hB8⟩ ?_
   refine zV 10 rfl (.agg #[.int .u64 (((kg l a).1 : Nat) : Int), .int .u64 (((kg l a).2 : Nat) : Int)]) (fun _ ⟨hHr, hB4, hB8⟩ => R_loadRdA [.int .u64 (((kg l a).1 : Nat) : Int), .int .u64 (((kg l a).2 : Nat) : Int)] hHr (by omega) (by kernel_rfl) (by kernel_rfl) (by kernel_rfl) (kcs_part l (by omega))) ⟨hHr, hB4, hB8⟩ ?_
   refine zV 13 rfl (.int .i64 ((b : Nat) : Int)) (fun _ ⟨hHr, hB4, hB8⟩ => R_load (v := .int .i64 ((b : Nat) : Int)) (by kernel_rfl) (by kernel_rfl) ((hB8.cell 3).trans rfl)) ⟨hHr, hB4, hB8⟩ ?_
   refine zV 14 rfl (ptrAt B (b * 2)) (fun _ ⟨hHr, hB4, hB8⟩ => R_indexRd (sz := 2) (len := k) (cap := cb) (k := .i64) (i := ((b : Nat) : Int)) (e := 117) b hHr (by kernel_rfl) (by kernel_rfl) (by kernel_rfl) (by kernel_rfl) rfl (by omega)) ⟨hHr, hB4, hB8⟩ ?_
   refine zV 15 rfl (.agg #[.int .u64 (((kg l b).1 : Nat) : Int), .int .u64 (((kg l b).2 : Nat) : Int)]) (fun _ ⟨hHr, hB4, hB8⟩ => R_loadRdA [.int .u64 (((kg l b).1 : Nat) : Int), .int .u64 (((kg l b).2 : Nat) : Int)] hHr (by omega) (by kernel_rfl) (by kernel_rfl) (by kernel_rfl) (kcs_part l (by omega))) ⟨hHr, hB4, hB8⟩ ?_
   refine zD 5 rfl (S_call (args := [.agg #[.slice A N.length cp, .int .i64 most], .int .i64 ((a : Nat) : Int)]) (by kernel_rfl) ((by have q := rwid_ok A cp most N ((a : Nat) : Int) _ hD; rw [hwa] at q; exact q)) ?_)
   rintro _ w23 ⟨rfl, hT24⟩
   have hT0 := hT0.t0 hT24
   have hD := hD.tch0 hT24
   have hHr := hH.tch0 hT0
   have hB4 := hB4.tch0 hT24
   have hB8 := hB8.tch0 hT24
   have hB14 := hB14.tch0 hT24
   refine ⟨⟨hHr, hB4, hB8⟩, ?_⟩
   refine zD 16 rfl (S_call (args := [.int .i64 ((O : Nat) : Int), .int .i64 ((wd : Nat) : Int), .agg #[.int .u64 (((kg l a).1 : Nat) : Int), .int .u64 (((kg l a).2 : Nat) : Int)], .agg #[.int .u64 (((kg l b).1 : Nat) : Int), .int .u64 (((kg l b).2 : Nat) : Int)]]) (by kernel_rfl) (sbin_ok O wd (kg l a) (kg l b) _ hxa hxb h1 hw hO) ?_)
   rintro _ w25 ⟨rfl, hT26⟩
   have hT0 := hT0.t0 hT26
   have hD := hD.tch0 hT26
   have hHr := hH.tch0 hT0
   have hB4 := hB4.tch0 hT26
   have hB8 := hB8.tch0 hT26
   have hB14 := hB14.tch0 hT26
   refine ⟨⟨hHr, hB4, hB8⟩, ?_⟩
   refine zD 17 rfl (S_storeA (b := w5.heap.size) (j := 0) (cs := [.int .u64 (((rbin O wd (kg l a) (kg l b)).1 : Nat) : Int), .int .u64 (((rbin O wd (kg l a) (kg l b)).2 : Nat) : Int)]) (by kernel_rfl) (by kernel_rfl) (by kernel_rfl) (by simp [oneV]) hB14 (by simp) fun w27 hT28 hs29 hB14' => ?_)
   have hT0 := (hT0).then hT28 (fun c e => by have : c = w5.heap.size := e; omega)
   have hD := hD.tch hT28 (fun c hc e => hD.blk_ne hB14 (by decide) c hc e)
   have hHr := hH.tch0 hT0
   have hB4 := hB4.tch hT28 (hB4.ne hB14 (by decide))
   have hB8 := hB8.tch hT28 (hB8.ne hB14 (by decide))
   replace hB14 : Blk w27 w5.heap.size 117 [.int .u64 (((rbin O wd (kg l a) (kg l b)).1 : Nat) : Int), .int .u64 (((rbin O wd (kg l a) (kg l b)).2 : Nat) : Int)] := hB14'
   refine ⟨⟨hHr, hB4, hB8⟩, ?_⟩
   refine d_done (by kernel_rfl) ?_
   refine W_ret ?_
   refine ⟨_, Res_cell (b := w5.heap.size) (cs := [.int .u64 (((rbin O wd (kg l a) (kg l b)).1 : Nat) : Int), .int .u64 (((rbin O wd (kg l a) (kg l b)).2 : Nat) : Int)]) (by rfl) (by kernel_rfl) (by kernel_rfl) hB14 (by kernel_rfl) (by kernel_rfl), ?_⟩
   have e : rone O nw wd up (kg l a) (kg l b) z lo V = rbin O wd (kg l a) (kg l b) := by unfold rone; (repeat (first | rw [if_pos (by omega)] | rw [if_neg (by omega)]))
   rw [e]
   exact ⟨rfl, hT0⟩
  ·
   replace hc19 : 14 < ((O : Nat) : Int) := (Int.not_le.1 (of_decide_eq_false hc19))
   exfalso; omega

set_option maxRecDepth 100000 in
theorem sd22_ok (A : Option Addr) (cp : Nat) (most : Int) (N : List Nd) (B : Option Addr) (k cb : Nat) (l : List K) (nw wd up a b c : Nat) (xv : Int) (lo V : Nat) (w : World) (hD : Own w 0 32 6 (.slice A N.length cp) N.length (ncs N)) (hH : RdW w 2 k B (kcs l)) (ha : a < k) (hb : b < k) (hc : c < k) (hwa : widF N ((a : Nat) : Int) = ((wd : Nat) : Int)) (hxa : RI 1 (kg l a)) (hxb : RI nw (kg l b)) (hxc : RI nw (kg l c)) (hw : nw ≤ 64) : Ret Try.prog 55 [.agg #[.slice A N.length cp, .int .i64 most], .agg #[.int .i64 22, .int .i64 ((nw : Nat) : Int), .int .i64 ((a : Nat) : Int), .int .i64 ((b : Nat) : Int), .int .i64 ((c : Nat) : Int), .int .u64 xv], .slice B k cb] w fun v w' => v = .agg #[.int .u64 (((rone 22 nw wd up (kg l a) (kg l b) (kg l c) lo V).1 : Nat) : Int), .int .u64 (((rone 22 nw wd up (kg l a) (kg l b) (kg l c) lo V).2 : Nat) : Int)] ∧ Tch N0 w w' := by
 have hll : l.length = k := by have := hH.1; rw [kcs_length] at this; omega
 have hla1 := hxa.1
 have hla2 := hxa.2
 have ua1 := hxa.u1 (show 1 ≤ 64 by omega)
 have ua2 := hxa.u2 (show 1 ≤ 64 by omega)
 have hlb1 := hxb.1
 have hlb2 := hxb.2
 have ub1 := hxb.u1 (show nw ≤ 64 by omega)
 have ub2 := hxb.u2 (show nw ≤ 64 by omega)
 have hlc1 := hxc.1
 have hlc2 := hxc.2
 have uc1 := hxc.u1 (show nw ≤ 64 by omega)
 have uc2 := hxc.u2 (show nw ≤ 64 by omega)
 refine enter Try.func55 rfl rfl ?_
 refine zQ ?_
 refine st (by rfl) (S_new (v := .pointer (some ⟨w.heap.size, 0, none⟩)) (ob := .cells #[.slice A N.length cp, .int .i64 most] 27) (by kernel_rfl) fun w1 hT2 hs3 hB4 => ?_)
 replace hB4 : Blk w1 (w.heap.size) 27 [.slice A N.length cp, .int .i64 most] := hB4
 have hT0 := hT2
 have hD := hD.tch0 hT2
 have hHr := hH.tch0 hT0
 have z9 := hT0.size
 have l10 := hB4.lt
 refine st (by rfl) (S_new (v := .pointer (some ⟨w1.heap.size, 0, none⟩)) (ob := .cells #[.int .i64 22, .int .i64 ((nw : Nat) : Int), .int .i64 ((a : Nat) : Int), .int .i64 ((b : Nat) : Int), .int .i64 ((c : Nat) : Int), .int .u64 xv] 32) (by kernel_rfl) fun w5 hT6 hs7 hB8 => ?_)
 replace hB8 : Blk w5 (w1.heap.size) 32 [.int .i64 22, .int .i64 ((nw : Nat) : Int), .int .i64 ((a : Nat) : Int), .int .i64 ((b : Nat) : Int), .int .i64 ((c : Nat) : Int), .int .u64 xv] := hB8
 have hT0 := hT0.t0 hT6
 have hD := hD.tch0 hT6
 have hHr := hH.tch0 hT0
 have hB4 := hB4.tch0 hT6
 have z15 := hT0.size
 have l16 := hB4.lt
 have l17 := hB8.lt
 refine st (by rfl) (S_new (v := .pointer (some ⟨w5.heap.size, 0, none⟩)) (ob := .cells #[.int .u64 0, .int .u64 0] 117) (by kernel_rfl) fun w11 hT12 hs13 hB14 => ?_)
 replace hB14 : Blk w11 (w5.heap.size) 117 [.int .u64 0, .int .u64 0] := hB14
 have hT0 := hT0.t0 hT12
 have hD := hD.tch0 hT12
 have hHr := hH.tch0 hT0
 have hB4 := hB4.tch0 hT12
 have hB8 := hB8.tch0 hT12
 refine op_nil ?_
 refine W_seq ?_
 refine W_block ?_
 refine zQ ?_
 refine zS [(10, .pointer (some ⟨w1.heap.size, 0, none⟩))] ?_
 refine zL (.int .i64 22) ((hB8.cell 0).trans rfl) ?_
 refine zS [(12, .bool false), (9, .bool false)] ?_
 refine zO false (fun h => nomatch h) (fun _ => ?_)
 refine zQ ?_
 refine zS [(19, .pointer (some ⟨w1.heap.size, 0, none⟩))] ?_
 refine zL (.int .i64 22) ((hB8.cell 0).trans rfl) ?_
 refine zS [(21, .bool false), (18, .bool false)] ?_
 refine zO false (fun h => nomatch h) (fun _ => ?_)
 refine zQ ?_
 refine zS [(40, .pointer (some ⟨w1.heap.size, 0, none⟩))] ?_
 refine zL (.int .i64 22) ((hB8.cell 0).trans rfl) ?_
 refine zS [(42, .bool false), (39, .bool false)] ?_
 refine zO false (fun h => nomatch h) (fun _ => ?_)
 refine zQ ?_
 refine zS [(64, .pointer (some ⟨w1.heap.size, 0, none⟩))] ?_
 refine zL (.int .i64 22) ((hB8.cell 0).trans rfl) ?_
 refine zS [(66, .bool true), (67, .bool true), (68, .slice B k cb), (69, .pointer (some ⟨w1.heap.size, 2, none⟩))] ?_
 refine zL (.int .i64 ((a : Nat) : Int)) ((hB8.cell 2).trans rfl) ?_
 refine stv (v := ptrAt B (a * 2)) (by kernel_rfl) (R_indexRd (sz := 2) (len := k) (cap := cb) (k := .i64) (i := ((a : Nat) : Int)) (e := 117) a hHr (by kernel_rfl) (by kernel_rfl) (by kernel_rfl) (by kernel_rfl) rfl (by omega)) ?_
 refine stv (v := ptrAt B (a * 2)) (by kernel_rfl) (R_fieldRd (m := 0) hHr (by omega) (by kernel_rfl) (fun _ _ => by rfl)) ?_
 refine stv (v := .int .u64 (((kg l a).1 : Nat) : Int)) (by kernel_rfl) (R_loadRd (v := .int .u64 (((kg l a).1 : Nat) : Int)) hHr (by omega) (by kernel_rfl) (by kernel_rfl) ((kcs_part l (by omega) 0 _ rfl))) ?_
 refine zS [(74, .bool ((((kg l a).1 : Nat) : Int) == 1)), (75, .bool ((((kg l a).1 : Nat) : Int) == 1)), (63, .bool ((((kg l a).1 : Nat) : Int) == 1))] ?_
 refine zO ((((kg l a).1 : Nat) : Int) == 1) (fun hc18 => ?_) (fun hc18 => ?_)
 ·
  replace hc18 : (((kg l a).1 : Nat) : Int) = 1 := (eq_of_beq hc18)
  refine zQ ?_
  refine zS [(76, .slice B k cb), (77, .pointer (some ⟨w1.heap.size, 3, none⟩))] ?_
  refine zL (.int .i64 ((b : Nat) : Int)) ((hB8.cell 3).trans rfl) ?_
  refine stv (v := ptrAt B (b * 2)) (by rfl) (R_indexRd (sz := 2) (len := k) (cap := cb) (k := .i64) (i := ((b : Nat) : Int)) (e := 117) b hHr (by kernel_rfl) (by kernel_rfl) (by kernel_rfl) (by kernel_rfl) rfl (by omega)) ?_
  refine stv (v := .agg #[.int .u64 (((kg l b).1 : Nat) : Int), .int .u64 (((kg l b).2 : Nat) : Int)]) (by rfl) (R_loadRdA [.int .u64 (((kg l b).1 : Nat) : Int), .int .u64 (((kg l b).2 : Nat) : Int)] hHr (by omega) (by kernel_rfl) (by kernel_rfl) (by kernel_rfl) (kcs_part l (by omega))) ?_
  refine st (by rfl) (S_storeA (b := w5.heap.size) (j := 0) (cs := [.int .u64 (((kg l b).1 : Nat) : Int), .int .u64 (((kg l b).2 : Nat) : Int)]) (by kernel_rfl) (by kernel_rfl) (by kernel_rfl) (by simp [oneV]) hB14 (by simp) fun w19 hT20 hs21 hB14' => ?_)
  have hT0 := (hT0).then hT20 (fun c e => by have : c = w5.heap.size := e; omega)
  have hD := hD.tch hT20 (fun c hc e => hD.blk_ne hB14 (by decide) c hc e)
  have hHr := hH.tch0 hT0
  have hB4 := hB4.tch hT20 (hB4.ne hB14 (by decide))
  have hB8 := hB8.tch hT20 (hB8.ne hB14 (by decide))
  replace hB14 : Blk w19 w5.heap.size 117 [.int .u64 (((kg l b).1 : Nat) : Int), .int .u64 (((kg l b).2 : Nat) : Int)] := hB14'
  refine op_nil ?_
  refine W_ret ?_
  refine ⟨_, Res_cell (b := w5.heap.size) (cs := [.int .u64 (((kg l b).1 : Nat) : Int), .int .u64 (((kg l b).2 : Nat) : Int)]) (by rfl) (by kernel_rfl) (by kernel_rfl) hB14 (by kernel_rfl) (by kernel_rfl), ?_⟩
  have e : rone 22 nw wd up (kg l a) (kg l b) (kg l c) lo V = kg l b := by show (if (kg l a).1 = 1 then _ else if (kg l a).2 = 0 then _ else _) = _; (repeat (first | rw [if_pos (by omega)] | rw [if_neg (by omega)]))
  rw [e]
  exact ⟨rfl, hT0⟩
 ·
  replace hc18 : (((kg l a).1 : Nat) : Int) ≠ 1 := (ne_of_beq_false hc18)
  refine zQ ?_
  refine zS [(82, .pointer (some ⟨w1.heap.size, 0, none⟩))] ?_
  refine zL (.int .i64 22) ((hB8.cell 0).trans rfl) ?_
  refine zS [(84, .bool true), (85, .bool true), (86, .slice B k cb), (87, .pointer (some ⟨w1.heap.size, 2, none⟩))] ?_
  refine zL (.int .i64 ((a : Nat) : Int)) ((hB8.cell 2).trans rfl) ?_
  refine stv (v := ptrAt B (a * 2)) (by kernel_rfl) (R_indexRd (sz := 2) (len := k) (cap := cb) (k := .i64) (i := ((a : Nat) : Int)) (e := 117) a hHr (by kernel_rfl) (by kernel_rfl) (by kernel_rfl) (by kernel_rfl) rfl (by omega)) ?_
  refine stv (v := ptrAt B (a * 2 + 1)) (by kernel_rfl) (R_fieldRd (m := 1) hHr (by omega) (by kernel_rfl) (fun _ _ => by rfl)) ?_
  refine stv (v := .int .u64 (((kg l a).2 : Nat) : Int)) (by kernel_rfl) (R_loadRd (v := .int .u64 (((kg l a).2 : Nat) : Int)) hHr (by omega) (by kernel_rfl) (by kernel_rfl) ((kcs_part l (by omega) 1 _ rfl))) ?_
  refine zS [(92, .bool ((((kg l a).2 : Nat) : Int) == 0)), (93, .bool ((((kg l a).2 : Nat) : Int) == 0)), (81, .bool ((((kg l a).2 : Nat) : Int) == 0))] ?_
  refine zO ((((kg l a).2 : Nat) : Int) == 0) (fun hc22 => ?_) (fun hc22 => ?_)
  ·
   replace hc22 : (((kg l a).2 : Nat) : Int) = 0 := (eq_of_beq hc22)
   refine zQ ?_
   refine zS [(94, .slice B k cb), (95, .pointer (some ⟨w1.heap.size, 4, none⟩))] ?_
   refine zL (.int .i64 ((c : Nat) : Int)) ((hB8.cell 4).trans rfl) ?_
   refine stv (v := ptrAt B (c * 2)) (by rfl) (R_indexRd (sz := 2) (len := k) (cap := cb) (k := .i64) (i := ((c : Nat) : Int)) (e := 117) c hHr (by kernel_rfl) (by kernel_rfl) (by kernel_rfl) (by kernel_rfl) rfl (by omega)) ?_
   refine stv (v := .agg #[.int .u64 (((kg l c).1 : Nat) : Int), .int .u64 (((kg l c).2 : Nat) : Int)]) (by rfl) (R_loadRdA [.int .u64 (((kg l c).1 : Nat) : Int), .int .u64 (((kg l c).2 : Nat) : Int)] hHr (by omega) (by kernel_rfl) (by kernel_rfl) (by kernel_rfl) (kcs_part l (by omega))) ?_
   refine st (by rfl) (S_storeA (b := w5.heap.size) (j := 0) (cs := [.int .u64 (((kg l c).1 : Nat) : Int), .int .u64 (((kg l c).2 : Nat) : Int)]) (by kernel_rfl) (by kernel_rfl) (by kernel_rfl) (by simp [oneV]) hB14 (by simp) fun w23 hT24 hs25 hB14' => ?_)
   have hT0 := (hT0).then hT24 (fun c e => by have : c = w5.heap.size := e; omega)
   have hD := hD.tch hT24 (fun c hc e => hD.blk_ne hB14 (by decide) c hc e)
   have hHr := hH.tch0 hT0
   have hB4 := hB4.tch hT24 (hB4.ne hB14 (by decide))
   have hB8 := hB8.tch hT24 (hB8.ne hB14 (by decide))
   replace hB14 : Blk w23 w5.heap.size 117 [.int .u64 (((kg l c).1 : Nat) : Int), .int .u64 (((kg l c).2 : Nat) : Int)] := hB14'
   refine op_nil ?_
   refine W_ret ?_
   refine ⟨_, Res_cell (b := w5.heap.size) (cs := [.int .u64 (((kg l c).1 : Nat) : Int), .int .u64 (((kg l c).2 : Nat) : Int)]) (by rfl) (by kernel_rfl) (by kernel_rfl) hB14 (by kernel_rfl) (by kernel_rfl), ?_⟩
   have e : rone 22 nw wd up (kg l a) (kg l b) (kg l c) lo V = kg l c := by show (if (kg l a).1 = 1 then _ else if (kg l a).2 = 0 then _ else _) = _; (repeat (first | rw [if_pos (by omega)] | rw [if_neg (by omega)]))
   rw [e]
   exact ⟨rfl, hT0⟩
  ·
   replace hc22 : (((kg l a).2 : Nat) : Int) ≠ 0 := (ne_of_beq_false hc22)
   refine zQ ?_
   refine zS [(100, .pointer (some ⟨w1.heap.size, 0, none⟩))] ?_
   refine zL (.int .i64 22) ((hB8.cell 0).trans rfl) ?_
   refine zS [(102, .bool true), (99, .bool true)] ?_
   refine zO true (fun _ => ?_) (fun h => nomatch h)
   refine W_seq ?_
   refine W_draw (fun w' => RdW w' 2 k B (kcs l) ∧ Blk w' (w.heap.size) 27 [.slice A N.length cp, .int .i64 most] ∧ Blk w' (w1.heap.size) 32 [.int .i64 22, .int .i64 ((nw : Nat) : Int), .int .i64 ((a : Nat) : Int), .int .i64 ((b : Nat) : Int), .int .i64 ((c : Nat) : Int), .int .u64 xv]) (by kernel_rfl) (by kernel_rfl) (by kernel_rfl) fun w26 hT27 hh28 => ?_
   have hT0 := hT0.t0 hT27
   have hD := hD.tch0 hT27
   have hHr := hH.tch0 hT0
   have hB4 := hB4.tch0 hT27
   have hB8 := hB8.tch0 hT27
   have hB14 := hB14.tch0 hT27
   refine zK [0, 1, 6, 7, 13, 14, 19, 20] #[true, true, false, false, false, false, true, true, false, false, false, false, false, true, true, false, false, false, false, true, true, false, false, false, false, false, false, false] [(103, .slice B k cb), (104, .pointer (some ⟨w1.heap.size, 3, none⟩)), (109, .slice B k cb), (110, .pointer (some ⟨w1.heap.size, 4, none⟩)), (116, .slice B k cb), (117, .pointer (some ⟨w1.heap.size, 3, none⟩)), (122, .slice B k cb), (123, .pointer (some ⟨w1.heap.size, 4, none⟩))] ⟨hHr, hB4, hB8⟩ ?_
   refine zV 2 rfl (.int .i64 ((b : Nat) : Int)) (fun _ ⟨hHr, hB4, hB8⟩ => R_load (v := .int .i64 ((b : Nat) : Int)) (by kernel_rfl) (by kernel_rfl) ((hB8.cell 3).trans rfl)) ⟨hHr, hB4, hB8⟩ ?_
   refine zV 3 rfl (ptrAt B (b * 2)) (fun _ ⟨hHr, hB4, hB8⟩ => R_indexRd (sz := 2) (len := k) (cap := cb) (k := .i64) (i := ((b : Nat) : Int)) (e := 117) b hHr (by kernel_rfl) (by kernel_rfl) (by kernel_rfl) (by kernel_rfl) rfl (by omega)) ⟨hHr, hB4, hB8⟩ ?_
   refine zV 4 rfl (ptrAt B (b * 2)) (fun _ ⟨hHr, hB4, hB8⟩ => R_fieldRd (m := 0) hHr (by omega) (by kernel_rfl) (fun _ _ => by rfl)) ⟨hHr, hB4, hB8⟩ ?_
   refine zV 5 rfl (.int .u64 (((kg l b).1 : Nat) : Int)) (fun _ ⟨hHr, hB4, hB8⟩ => R_loadRd (v := .int .u64 (((kg l b).1 : Nat) : Int)) hHr (by omega) (by kernel_rfl) (by kernel_rfl) ((kcs_part l (by omega) 0 _ rfl))) ⟨hHr, hB4, hB8⟩ ?_
   refine zV 8 rfl (.int .i64 ((c : Nat) : Int)) (fun _ ⟨hHr, hB4, hB8⟩ => R_load (v := .int .i64 ((c : Nat) : Int)) (by kernel_rfl) (by kernel_rfl) ((hB8.cell 4).trans rfl)) ⟨hHr, hB4, hB8⟩ ?_
   refine zV 9 rfl (ptrAt B (c * 2)) (fun _ ⟨hHr, hB4, hB8⟩ => R_indexRd (sz := 2) (len := k) (cap := cb) (k := .i64) (i := ((c : Nat) : Int)) (e := 117) c hHr (by kernel_rfl) (by kernel_rfl) (by kernel_rfl) (by kernel_rfl) rfl (by omega)) ⟨hHr, hB4, hB8⟩ ?_
   refine zV 10 rfl (ptrAt B (c * 2)) (fun _ ⟨hHr, hB4, hB8⟩ => R_fieldRd (m := 0) hHr (by omega) (by kernel_rfl) (fun _ _ => by rfl)) ⟨hHr, hB4, hB8⟩ ?_
   refine zV 11 rfl (.int .u64 (((kg l c).1 : Nat) : Int)) (fun _ ⟨hHr, hB4, hB8⟩ => R_loadRd (v := .int .u64 (((kg l c).1 : Nat) : Int)) hHr (by omega) (by kernel_rfl) (by kernel_rfl) ((kcs_part l (by omega) 0 _ rfl))) ⟨hHr, hB4, hB8⟩ ?_
   refine zK [12] #[true, true, true, true, true, true, true, true, true, true, true, true, true, true, true, false, false, false, false, true, true, false, false, false, false, false, false, false] [(115, .int .u64 (if (((kg l c).1 : Nat) : Int) < (((kg l b).1 : Nat) : Int) then (((kg l c).1 : Nat) : Int) else (((kg l b).1 : Nat) : Int)))] ⟨hHr, hB4, hB8⟩ ?_
   rw [show (if (((kg l c).1 : Nat) : Int) < (((kg l b).1 : Nat) : Int) then (((kg l c).1 : Nat) : Int) else (((kg l b).1 : Nat) : Int)) = ((min ((kg l b).1) ((kg l c).1) : Nat) : Int) from min_u ((kg l b).1) ((kg l c).1)]
   have hu29 : min ((kg l b).1) ((kg l c).1) < 18446744073709551616 := min_lt64 ub1
   refine zV 15 rfl (.int .i64 ((b : Nat) : Int)) (fun _ ⟨hHr, hB4, hB8⟩ => R_load (v := .int .i64 ((b : Nat) : Int)) (by kernel_rfl) (by kernel_rfl) ((hB8.cell 3).trans rfl)) ⟨hHr, hB4, hB8⟩ ?_
   refine zV 16 rfl (ptrAt B (b * 2)) (fun _ ⟨hHr, hB4, hB8⟩ => R_indexRd (sz := 2) (len := k) (cap := cb) (k := .i64) (i := ((b : Nat) : Int)) (e := 117) b hHr (by kernel_rfl) (by kernel_rfl) (by kernel_rfl) (by kernel_rfl) rfl (by omega)) ⟨hHr, hB4, hB8⟩ ?_
   refine zV 17 rfl (ptrAt B (b * 2 + 1)) (fun _ ⟨hHr, hB4, hB8⟩ => R_fieldRd (m := 1) hHr (by omega) (by kernel_rfl) (fun _ _ => by rfl)) ⟨hHr, hB4, hB8⟩ ?_
   refine zV 18 rfl (.int .u64 (((kg l b).2 : Nat) : Int)) (fun _ ⟨hHr, hB4, hB8⟩ => R_loadRd (v := .int .u64 (((kg l b).2 : Nat) : Int)) hHr (by omega) (by kernel_rfl) (by kernel_rfl) ((kcs_part l (by omega) 1 _ rfl))) ⟨hHr, hB4, hB8⟩ ?_
   refine zV 21 rfl (.int .i64 ((c : Nat) : Int)) (fun _ ⟨hHr, hB4, hB8⟩ => R_load (v := .int .i64 ((c : Nat) : Int)) (by kernel_rfl) (by kernel_rfl) ((hB8.cell 4).trans rfl)) ⟨hHr, hB4, hB8⟩ ?_
   refine zV 22 rfl (ptrAt B (c * 2)) (fun _ ⟨hHr, hB4, hB8⟩ => R_indexRd (sz := 2) (len := k) (cap := cb) (k := .i64) (i := ((c : Nat) : Int)) (e := 117) c hHr (by kernel_rfl) (by kernel_rfl) (by kernel_rfl) (by kernel_rfl) rfl (by omega)) ⟨hHr, hB4, hB8⟩ ?_
   refine zV 23 rfl (ptrAt B (c * 2 + 1)) (fun _ ⟨hHr, hB4, hB8⟩ => R_fieldRd (m := 1) hHr (by omega) (by kernel_rfl) (fun _ _ => by rfl)) ⟨hHr, hB4, hB8⟩ ?_
   refine zV 24 rfl (.int .u64 (((kg l c).2 : Nat) : Int)) (fun _ ⟨hHr, hB4, hB8⟩ => R_loadRd (v := .int .u64 (((kg l c).2 : Nat) : Int)) hHr (by omega) (by kernel_rfl) (by kernel_rfl) ((kcs_part l (by omega) 1 _ rfl))) ⟨hHr, hB4, hB8⟩ ?_
   refine zK [25] #[true, true, true, true, true, true, true, true, true, true, true, true, true, true, true, true, true, true, true, true, true, true, true, true, true, true, false, false] [(128, .int .u64 (if (((kg l b).2 : Nat) : Int) < (((kg l c).2 : Nat) : Int) then (((kg l c).2 : Nat) : Int) else (((kg l b).2 : Nat) : Int)))] ⟨hHr, hB4, hB8⟩ ?_
   rw [show (if (((kg l b).2 : Nat) : Int) < (((kg l c).2 : Nat) : Int) then (((kg l c).2 : Nat) : Int) else (((kg l b).2 : Nat) : Int)) = ((max ((kg l b).2) ((kg l c).2) : Nat) : Int) from max_u ((kg l b).2) ((kg l c).2)]
   have hu30 : max ((kg l b).2) ((kg l c).2) < 18446744073709551616 := max_lt64 ub2 uc2
   refine zK [26] #[true, true, true, true, true, true, true, true, true, true, true, true, true, true, true, true, true, true, true, true, true, true, true, true, true, true, true, false] [(129, .agg #[.int .u64 ((min ((kg l b).1) ((kg l c).1) : Nat) : Int), .int .u64 ((max ((kg l b).2) ((kg l c).2) : Nat) : Int)])] ⟨hHr, hB4, hB8⟩ ?_
   refine zD 27 rfl (S_storeA (b := w5.heap.size) (j := 0) (cs := [.int .u64 ((min ((kg l b).1) ((kg l c).1) : Nat) : Int), .int .u64 ((max ((kg l b).2) ((kg l c).2) : Nat) : Int)]) (by kernel_rfl) (by kernel_rfl) (by kernel_rfl) (by simp [oneV]) hB14 (by simp) fun w31 hT32 hs33 hB14' => ?_)
   have hT0 := (hT0).then hT32 (fun c e => by have : c = w5.heap.size := e; omega)
   have hD := hD.tch hT32 (fun c hc e => hD.blk_ne hB14 (by decide) c hc e)
   have hHr := hH.tch0 hT0
   have hB4 := hB4.tch hT32 (hB4.ne hB14 (by decide))
   have hB8 := hB8.tch hT32 (hB8.ne hB14 (by decide))
   replace hB14 : Blk w31 w5.heap.size 117 [.int .u64 ((min ((kg l b).1) ((kg l c).1) : Nat) : Int), .int .u64 ((max ((kg l b).2) ((kg l c).2) : Nat) : Int)] := hB14'
   refine ⟨⟨hHr, hB4, hB8⟩, ?_⟩
   refine d_done (by kernel_rfl) ?_
   refine W_ret ?_
   refine ⟨_, Res_cell (b := w5.heap.size) (cs := [.int .u64 ((min ((kg l b).1) ((kg l c).1) : Nat) : Int), .int .u64 ((max ((kg l b).2) ((kg l c).2) : Nat) : Int)]) (by rfl) (by kernel_rfl) (by kernel_rfl) hB14 (by kernel_rfl) (by kernel_rfl), ?_⟩
   have e : rone 22 nw wd up (kg l a) (kg l b) (kg l c) lo V = (min ((kg l b).1) ((kg l c).1), max ((kg l b).2) ((kg l c).2)) := by show (if (kg l a).1 = 1 then _ else if (kg l a).2 = 0 then _ else _) = _; (repeat (first | rw [if_pos (by omega)] | rw [if_neg (by omega)]))
   rw [e]
   exact ⟨rfl, hT0⟩

set_option maxRecDepth 100000 in
theorem sd23_ok (A : Option Addr) (cp : Nat) (most : Int) (N : List Nd) (B : Option Addr) (k cb : Nat) (l : List K) (nw wd up a lo : Nat) (xc xv : Int) (y z : K) (V : Nat) (w : World) (hD : Own w 0 32 6 (.slice A N.length cp) N.length (ncs N)) (hH : RdW w 2 k B (kcs l)) (ha : a < k) (hwa : widF N ((a : Nat) : Int) = ((wd : Nat) : Int)) (hxa : RI wd (kg l a)) (hw : wd ≤ 64) (hnw : nw ≤ 64) : Ret Try.prog 55 [.agg #[.slice A N.length cp, .int .i64 most], .agg #[.int .i64 23, .int .i64 ((nw : Nat) : Int), .int .i64 ((a : Nat) : Int), .int .i64 ((lo : Nat) : Int), .int .i64 xc, .int .u64 xv], .slice B k cb] w fun v w' => v = .agg #[.int .u64 (((rone 23 nw wd up (kg l a) y z lo V).1 : Nat) : Int), .int .u64 (((rone 23 nw wd up (kg l a) y z lo V).2 : Nat) : Int)] ∧ Tch N0 w w' := by
 have hll : l.length = k := by have := hH.1; rw [kcs_length] at this; omega
 have hla1 := hxa.1
 have hla2 := hxa.2
 have ua1 := hxa.u1 (show wd ≤ 64 by omega)
 have ua2 := hxa.u2 (show wd ≤ 64 by omega)
 refine enter Try.func55 rfl rfl ?_
 refine zQ ?_
 refine st (by rfl) (S_new (v := .pointer (some ⟨w.heap.size, 0, none⟩)) (ob := .cells #[.slice A N.length cp, .int .i64 most] 27) (by kernel_rfl) fun w1 hT2 hs3 hB4 => ?_)
 replace hB4 : Blk w1 (w.heap.size) 27 [.slice A N.length cp, .int .i64 most] := hB4
 have hT0 := hT2
 have hD := hD.tch0 hT2
 have hHr := hH.tch0 hT0
 have z9 := hT0.size
 have l10 := hB4.lt
 refine st (by rfl) (S_new (v := .pointer (some ⟨w1.heap.size, 0, none⟩)) (ob := .cells #[.int .i64 23, .int .i64 ((nw : Nat) : Int), .int .i64 ((a : Nat) : Int), .int .i64 ((lo : Nat) : Int), .int .i64 xc, .int .u64 xv] 32) (by kernel_rfl) fun w5 hT6 hs7 hB8 => ?_)
 replace hB8 : Blk w5 (w1.heap.size) 32 [.int .i64 23, .int .i64 ((nw : Nat) : Int), .int .i64 ((a : Nat) : Int), .int .i64 ((lo : Nat) : Int), .int .i64 xc, .int .u64 xv] := hB8
 have hT0 := hT0.t0 hT6
 have hD := hD.tch0 hT6
 have hHr := hH.tch0 hT0
 have hB4 := hB4.tch0 hT6
 have z15 := hT0.size
 have l16 := hB4.lt
 have l17 := hB8.lt
 refine st (by rfl) (S_new (v := .pointer (some ⟨w5.heap.size, 0, none⟩)) (ob := .cells #[.int .u64 0, .int .u64 0] 117) (by kernel_rfl) fun w11 hT12 hs13 hB14 => ?_)
 replace hB14 : Blk w11 (w5.heap.size) 117 [.int .u64 0, .int .u64 0] := hB14
 have hT0 := hT0.t0 hT12
 have hD := hD.tch0 hT12
 have hHr := hH.tch0 hT0
 have hB4 := hB4.tch0 hT12
 have hB8 := hB8.tch0 hT12
 refine op_nil ?_
 refine W_seq ?_
 refine W_block ?_
 refine zQ ?_
 refine zS [(10, .pointer (some ⟨w1.heap.size, 0, none⟩))] ?_
 refine zL (.int .i64 23) ((hB8.cell 0).trans rfl) ?_
 refine zS [(12, .bool false), (9, .bool false)] ?_
 refine zO false (fun h => nomatch h) (fun _ => ?_)
 refine zQ ?_
 refine zS [(19, .pointer (some ⟨w1.heap.size, 0, none⟩))] ?_
 refine zL (.int .i64 23) ((hB8.cell 0).trans rfl) ?_
 refine zS [(21, .bool false), (18, .bool false)] ?_
 refine zO false (fun h => nomatch h) (fun _ => ?_)
 refine zQ ?_
 refine zS [(40, .pointer (some ⟨w1.heap.size, 0, none⟩))] ?_
 refine zL (.int .i64 23) ((hB8.cell 0).trans rfl) ?_
 refine zS [(42, .bool false), (39, .bool false)] ?_
 refine zO false (fun h => nomatch h) (fun _ => ?_)
 refine zQ ?_
 refine zS [(64, .pointer (some ⟨w1.heap.size, 0, none⟩))] ?_
 refine zL (.int .i64 23) ((hB8.cell 0).trans rfl) ?_
 refine zS [(66, .bool false), (67, .bool false), (68, undef), (69, undef), (70, undef), (71, undef), (72, undef), (73, undef), (74, undef), (75, .bool false), (63, .bool false)] ?_
 refine zO false (fun h => nomatch h) (fun _ => ?_)
 refine zQ ?_
 refine zS [(82, .pointer (some ⟨w1.heap.size, 0, none⟩))] ?_
 refine zL (.int .i64 23) ((hB8.cell 0).trans rfl) ?_
 refine zS [(84, .bool false), (85, .bool false), (86, undef), (87, undef), (88, undef), (89, undef), (90, undef), (91, undef), (92, undef), (93, .bool false), (81, .bool false)] ?_
 refine zO false (fun h => nomatch h) (fun _ => ?_)
 refine zQ ?_
 refine zS [(100, .pointer (some ⟨w1.heap.size, 0, none⟩))] ?_
 refine zL (.int .i64 23) ((hB8.cell 0).trans rfl) ?_
 refine zS [(102, .bool false), (99, .bool false)] ?_
 refine zO false (fun h => nomatch h) (fun _ => ?_)
 refine W_seq ?_
 refine W_draw (fun w' => RdW w' 2 k B (kcs l) ∧ Blk w' (w.heap.size) 27 [.slice A N.length cp, .int .i64 most] ∧ Blk w' (w1.heap.size) 32 [.int .i64 23, .int .i64 ((nw : Nat) : Int), .int .i64 ((a : Nat) : Int), .int .i64 ((lo : Nat) : Int), .int .i64 xc, .int .u64 xv]) (by kernel_rfl) (by kernel_rfl) (by kernel_rfl) fun w18 hT19 hh20 => ?_
 have hT0 := hT0.t0 hT19
 have hD := hD.tch0 hT19
 have hHr := hH.tch0 hT0
 have hB4 := hB4.tch0 hT19
 have hB8 := hB8.tch0 hT19
 have hB14 := hB14.tch0 hT19
 refine zK [0] #[true, false, false, false, false, false, false, false, false, false, false, false, false, false, false, false, false, false, false, false, false] [(131, .pointer (some ⟨w1.heap.size, 0, none⟩))] ⟨hHr, hB4, hB8⟩ ?_
 refine zV 1 rfl (.int .i64 23) (fun _ ⟨hHr, hB4, hB8⟩ => R_load (v := .int .i64 23) (by kernel_rfl) (by kernel_rfl) ((hB8.cell 0).trans rfl)) ⟨hHr, hB4, hB8⟩ ?_
 refine zK [2, 3, 4] #[true, true, true, true, true, false, false, false, false, false, false, false, false, false, false, false, false, false, false, false, false] [(133, .bool true), (134, .bool true), (135, .pointer (some ⟨w1.heap.size, 3, none⟩))] ⟨hHr, hB4, hB8⟩ ?_
 refine zV 5 rfl (.int .i64 ((lo : Nat) : Int)) (fun _ ⟨hHr, hB4, hB8⟩ => R_load (v := .int .i64 ((lo : Nat) : Int)) (by kernel_rfl) (by kernel_rfl) ((hB8.cell 3).trans rfl)) ⟨hHr, hB4, hB8⟩ ?_
 refine zK [6, 7, 8] #[true, true, true, true, true, true, true, true, true, false, false, false, false, false, false, false, false, false, false, false, false] [(137, .bool (((lo : Nat) : Int) == 0)), (138, .bool (((lo : Nat) : Int) == 0)), (139, .bool (((lo : Nat) : Int) == 0))] ⟨hHr, hB4, hB8⟩ ?_
 cases hb21 : ((lo : Nat) : Int) == 0
 ·
  replace hb21 : ((lo : Nat) : Int) ≠ 0 := (ne_of_beq_false hb21)
  refine zK [9, 10, 15, 11, 16, 12, 17, 13, 14, 18, 19, 20] #[true, true, true, true, true, true, true, true, true, true, true, true, true, true, true, true, true, true, true, true, true] [(140, undef), (141, undef), (146, undef), (142, undef), (147, undef), (143, undef), (148, undef), (144, undef), (145, undef), (149, undef), (150, .bool false), (130, .bool false)] ⟨hHr, hB4, hB8⟩ ?_
  refine d_done (by kernel_rfl) ?_
  refine zW false (fun h => nomatch h) (fun _ => ?_)
  refine zQ ?_
  refine zS [(157, .pointer (some ⟨w1.heap.size, 0, none⟩))] ?_
  refine zL (.int .i64 23) ((hB8.cell 0).trans rfl) ?_
  refine zS [(159, .bool false), (156, .bool false)] ?_
  refine zO false (fun h => nomatch h) (fun _ => ?_)
  refine zQ ?_
  refine zS [(197, .pointer (some ⟨w1.heap.size, 0, none⟩))] ?_
  refine zL (.int .i64 23) ((hB8.cell 0).trans rfl) ?_
  refine zS [(199, .bool false), (196, .bool false)] ?_
  refine zO false (fun h => nomatch h) (fun _ => ?_)
  refine W_seq ?_
  refine W_draw (fun w' => RdW w' 2 k B (kcs l) ∧ Blk w' (w.heap.size) 27 [.slice A N.length cp, .int .i64 most] ∧ Blk w' (w1.heap.size) 32 [.int .i64 23, .int .i64 ((nw : Nat) : Int), .int .i64 ((a : Nat) : Int), .int .i64 ((lo : Nat) : Int), .int .i64 xc, .int .u64 xv]) (by kernel_rfl) (by kernel_rfl) (by kernel_rfl) fun w22 hT23 hh24 => ?_
  have hT0 := hT0.t0 hT23
  have hD := hD.tch0 hT23
  have hHr := hH.tch0 hT0
  have hB4 := hB4.tch0 hT23
  have hB8 := hB8.tch0 hT23
  have hB14 := hB14.tch0 hT23
  refine zK [0] #[true, false, false, false, false, false, false, false, false, false, false, false, false, false, false, false, false, false, false] [(206, .pointer (some ⟨w1.heap.size, 0, none⟩))] ⟨hHr, hB4, hB8⟩ ?_
  refine zV 1 rfl (.int .i64 23) (fun _ ⟨hHr, hB4, hB8⟩ => R_load (v := .int .i64 23) (by kernel_rfl) (by kernel_rfl) ((hB8.cell 0).trans rfl)) ⟨hHr, hB4, hB8⟩ ?_
  refine zK [2, 3, 4, 5, 10, 11, 6, 12, 7, 13, 8, 14, 9, 15, 16, 17, 18] #[true, true, true, true, true, true, true, true, true, true, true, true, true, true, true, true, true, true, true] [(208, .bool false), (209, .bool false), (210, undef), (211, undef), (216, undef), (217, undef), (212, undef), (218, undef), (213, undef), (219, undef), (214, undef), (220, undef), (215, undef), (221, undef), (222, undef), (223, .bool false), (205, .bool false)] ⟨hHr, hB4, hB8⟩ ?_
  refine d_done (by kernel_rfl) ?_
  refine zW false (fun h => nomatch h) (fun _ => ?_)
  refine W_skip ?_
  refine zQ ?_
  refine zS [(229, .pointer (some ⟨w1.heap.size, 1, none⟩))] ?_
  refine zL (.int .i64 ((nw : Nat) : Int)) ((hB8.cell 1).trans rfl) ?_
  refine zC (rall_ok nw _ (by omega)) ?_
  rintro _ w25 ⟨rfl, hT26⟩
  have hT0 := hT0.t0 hT26
  have hD := hD.tch0 hT26
  have hHr := hH.tch0 hT0
  have hB4 := hB4.tch0 hT26
  have hB8 := hB8.tch0 hT26
  have hB14 := hB14.tch0 hT26
  refine st (by rfl) (S_storeA (b := w5.heap.size) (j := 0) (cs := [.int .u64 (((rall nw).1 : Nat) : Int), .int .u64 (((rall nw).2 : Nat) : Int)]) (by kernel_rfl) (by kernel_rfl) (by kernel_rfl) (by simp [oneV]) hB14 (by simp) fun w27 hT28 hs29 hB14' => ?_)
  have hT0 := (hT0).then hT28 (fun c e => by have : c = w5.heap.size := e; omega)
  have hD := hD.tch hT28 (fun c hc e => hD.blk_ne hB14 (by decide) c hc e)
  have hHr := hH.tch0 hT0
  have hB4 := hB4.tch hT28 (hB4.ne hB14 (by decide))
  have hB8 := hB8.tch hT28 (hB8.ne hB14 (by decide))
  replace hB14 : Blk w27 w5.heap.size 117 [.int .u64 (((rall nw).1 : Nat) : Int), .int .u64 (((rall nw).2 : Nat) : Int)] := hB14'
  refine op_nil ?_
  refine W_ret ?_
  refine ⟨_, Res_cell (b := w5.heap.size) (cs := [.int .u64 (((rall nw).1 : Nat) : Int), .int .u64 (((rall nw).2 : Nat) : Int)]) (by rfl) (by kernel_rfl) (by kernel_rfl) hB14 (by kernel_rfl) (by kernel_rfl), ?_⟩
  have e : rone 23 nw wd up (kg l a) y z lo V = rall nw := by show (if lo = 0 ∧ (kg l a).2 ≤ pw nw - 1 then _ else rall nw) = _; first | rw [if_pos ⟨by omega, by omega⟩] | rw [if_neg (fun q => by omega)]
  rw [e]
  exact ⟨rfl, hT0⟩
 ·
  replace hb21 : ((lo : Nat) : Int) = 0 := (eq_of_beq hb21)
  refine zK [9, 10, 15] #[true, true, true, true, true, true, true, true, true, true, true, false, false, false, false, true, false, false, false, false, false] [(140, .slice B k cb), (141, .pointer (some ⟨w1.heap.size, 2, none⟩)), (146, .pointer (some ⟨w1.heap.size, 1, none⟩))] ⟨hHr, hB4, hB8⟩ ?_
  refine zV 11 rfl (.int .i64 ((a : Nat) : Int)) (fun _ ⟨hHr, hB4, hB8⟩ => R_load (v := .int .i64 ((a : Nat) : Int)) (by kernel_rfl) (by kernel_rfl) ((hB8.cell 2).trans rfl)) ⟨hHr, hB4, hB8⟩ ?_
  refine zV 12 rfl (ptrAt B (a * 2)) (fun _ ⟨hHr, hB4, hB8⟩ => R_indexRd (sz := 2) (len := k) (cap := cb) (k := .i64) (i := ((a : Nat) : Int)) (e := 117) a hHr (by kernel_rfl) (by kernel_rfl) (by kernel_rfl) (by kernel_rfl) rfl (by omega)) ⟨hHr, hB4, hB8⟩ ?_
  refine zV 13 rfl (ptrAt B (a * 2 + 1)) (fun _ ⟨hHr, hB4, hB8⟩ => R_fieldRd (m := 1) hHr (by omega) (by kernel_rfl) (fun _ _ => by rfl)) ⟨hHr, hB4, hB8⟩ ?_
  refine zV 14 rfl (.int .u64 (((kg l a).2 : Nat) : Int)) (fun _ ⟨hHr, hB4, hB8⟩ => R_loadRd (v := .int .u64 (((kg l a).2 : Nat) : Int)) hHr (by omega) (by kernel_rfl) (by kernel_rfl) ((kcs_part l (by omega) 1 _ rfl))) ⟨hHr, hB4, hB8⟩ ?_
  refine zV 16 rfl (.int .i64 ((nw : Nat) : Int)) (fun _ ⟨hHr, hB4, hB8⟩ => R_load (v := .int .i64 ((nw : Nat) : Int)) (by kernel_rfl) (by kernel_rfl) ((hB8.cell 1).trans rfl)) ⟨hHr, hB4, hB8⟩ ?_
  refine zD 17 rfl (S_call (args := [.int .i64 ((nw : Nat) : Int)]) (by kernel_rfl) (rmask_okN nw _ (by omega)) ?_)
  rintro _ w30 ⟨rfl, hT31⟩
  have hT0 := hT0.t0 hT31
  have hD := hD.tch0 hT31
  have hHr := hH.tch0 hT0
  have hB4 := hB4.tch0 hT31
  have hB8 := hB8.tch0 hT31
  have hB14 := hB14.tch0 hT31
  have hu32 := pwm_lt (x := nw) (by omega)
  refine ⟨⟨hHr, hB4, hB8⟩, ?_⟩
  refine zK [18, 19, 20] #[true, true, true, true, true, true, true, true, true, true, true, true, true, true, true, true, true, true, true, true, true] [(149, .bool (decide ((((kg l a).2 : Nat) : Int) ≤ ((pw nw - 1 : Nat) : Int)))), (150, .bool (decide ((((kg l a).2 : Nat) : Int) ≤ ((pw nw - 1 : Nat) : Int)))), (130, .bool (decide ((((kg l a).2 : Nat) : Int) ≤ ((pw nw - 1 : Nat) : Int))))] ⟨hHr, hB4, hB8⟩ ?_
  refine d_done (by kernel_rfl) ?_
  refine zW (decide ((((kg l a).2 : Nat) : Int) ≤ ((pw nw - 1 : Nat) : Int))) (fun hc33 => ?_) (fun hc33 => ?_)
  ·
   replace hc33 : (((kg l a).2 : Nat) : Int) ≤ ((pw nw - 1 : Nat) : Int) := (of_decide_eq_true hc33)
   refine zQ ?_
   refine zS [(151, .slice B k cb), (152, .pointer (some ⟨w1.heap.size, 2, none⟩))] ?_
   refine zL (.int .i64 ((a : Nat) : Int)) ((hB8.cell 2).trans rfl) ?_
   refine stv (v := ptrAt B (a * 2)) (by rfl) (R_indexRd (sz := 2) (len := k) (cap := cb) (k := .i64) (i := ((a : Nat) : Int)) (e := 117) a hHr (by kernel_rfl) (by kernel_rfl) (by kernel_rfl) (by kernel_rfl) rfl (by omega)) ?_
   refine stv (v := .agg #[.int .u64 (((kg l a).1 : Nat) : Int), .int .u64 (((kg l a).2 : Nat) : Int)]) (by rfl) (R_loadRdA [.int .u64 (((kg l a).1 : Nat) : Int), .int .u64 (((kg l a).2 : Nat) : Int)] hHr (by omega) (by kernel_rfl) (by kernel_rfl) (by kernel_rfl) (kcs_part l (by omega))) ?_
   refine st (by rfl) (S_storeA (b := w5.heap.size) (j := 0) (cs := [.int .u64 (((kg l a).1 : Nat) : Int), .int .u64 (((kg l a).2 : Nat) : Int)]) (by kernel_rfl) (by kernel_rfl) (by kernel_rfl) (by simp [oneV]) hB14 (by simp) fun w34 hT35 hs36 hB14' => ?_)
   have hT0 := (hT0).then hT35 (fun c e => by have : c = w5.heap.size := e; omega)
   have hD := hD.tch hT35 (fun c hc e => hD.blk_ne hB14 (by decide) c hc e)
   have hHr := hH.tch0 hT0
   have hB4 := hB4.tch hT35 (hB4.ne hB14 (by decide))
   have hB8 := hB8.tch hT35 (hB8.ne hB14 (by decide))
   replace hB14 : Blk w34 w5.heap.size 117 [.int .u64 (((kg l a).1 : Nat) : Int), .int .u64 (((kg l a).2 : Nat) : Int)] := hB14'
   refine op_nil ?_
   refine W_ret ?_
   refine ⟨_, Res_cell (b := w5.heap.size) (cs := [.int .u64 (((kg l a).1 : Nat) : Int), .int .u64 (((kg l a).2 : Nat) : Int)]) (by rfl) (by kernel_rfl) (by kernel_rfl) hB14 (by kernel_rfl) (by kernel_rfl), ?_⟩
   have e : rone 23 nw wd up (kg l a) y z lo V = kg l a := by show (if lo = 0 ∧ (kg l a).2 ≤ pw nw - 1 then _ else rall nw) = _; first | rw [if_pos ⟨by omega, by omega⟩] | rw [if_neg (fun q => by omega)]
   rw [e]
   exact ⟨rfl, hT0⟩
  ·
   replace hc33 : ((pw nw - 1 : Nat) : Int) < (((kg l a).2 : Nat) : Int) := (Int.not_le.1 (of_decide_eq_false hc33))
   refine zQ ?_
   refine zS [(157, .pointer (some ⟨w1.heap.size, 0, none⟩))] ?_
   refine zL (.int .i64 23) ((hB8.cell 0).trans rfl) ?_
   refine zS [(159, .bool false), (156, .bool false)] ?_
   refine zO false (fun h => nomatch h) (fun _ => ?_)
   refine zQ ?_
   refine zS [(197, .pointer (some ⟨w1.heap.size, 0, none⟩))] ?_
   refine zL (.int .i64 23) ((hB8.cell 0).trans rfl) ?_
   refine zS [(199, .bool false), (196, .bool false)] ?_
   refine zO false (fun h => nomatch h) (fun _ => ?_)
   refine W_seq ?_
   refine W_draw (fun w' => RdW w' 2 k B (kcs l) ∧ Blk w' (w.heap.size) 27 [.slice A N.length cp, .int .i64 most] ∧ Blk w' (w1.heap.size) 32 [.int .i64 23, .int .i64 ((nw : Nat) : Int), .int .i64 ((a : Nat) : Int), .int .i64 ((lo : Nat) : Int), .int .i64 xc, .int .u64 xv]) (by kernel_rfl) (by kernel_rfl) (by kernel_rfl) fun w37 hT38 hh39 => ?_
   have hT0 := hT0.t0 hT38
   have hD := hD.tch0 hT38
   have hHr := hH.tch0 hT0
   have hB4 := hB4.tch0 hT38
   have hB8 := hB8.tch0 hT38
   have hB14 := hB14.tch0 hT38
   refine zK [0] #[true, false, false, false, false, false, false, false, false, false, false, false, false, false, false, false, false, false, false] [(206, .pointer (some ⟨w1.heap.size, 0, none⟩))] ⟨hHr, hB4, hB8⟩ ?_
   refine zV 1 rfl (.int .i64 23) (fun _ ⟨hHr, hB4, hB8⟩ => R_load (v := .int .i64 23) (by kernel_rfl) (by kernel_rfl) ((hB8.cell 0).trans rfl)) ⟨hHr, hB4, hB8⟩ ?_
   refine zK [2, 3, 4, 5, 10, 11, 6, 12, 7, 13, 8, 14, 9, 15, 16, 17, 18] #[true, true, true, true, true, true, true, true, true, true, true, true, true, true, true, true, true, true, true] [(208, .bool false), (209, .bool false), (210, undef), (211, undef), (216, undef), (217, undef), (212, undef), (218, undef), (213, undef), (219, undef), (214, undef), (220, undef), (215, undef), (221, undef), (222, undef), (223, .bool false), (205, .bool false)] ⟨hHr, hB4, hB8⟩ ?_
   refine d_done (by kernel_rfl) ?_
   refine zW false (fun h => nomatch h) (fun _ => ?_)
   refine W_skip ?_
   refine zQ ?_
   refine zS [(229, .pointer (some ⟨w1.heap.size, 1, none⟩))] ?_
   refine zL (.int .i64 ((nw : Nat) : Int)) ((hB8.cell 1).trans rfl) ?_
   refine zC (rall_ok nw _ (by omega)) ?_
   rintro _ w40 ⟨rfl, hT41⟩
   have hT0 := hT0.t0 hT41
   have hD := hD.tch0 hT41
   have hHr := hH.tch0 hT0
   have hB4 := hB4.tch0 hT41
   have hB8 := hB8.tch0 hT41
   have hB14 := hB14.tch0 hT41
   refine st (by rfl) (S_storeA (b := w5.heap.size) (j := 0) (cs := [.int .u64 (((rall nw).1 : Nat) : Int), .int .u64 (((rall nw).2 : Nat) : Int)]) (by kernel_rfl) (by kernel_rfl) (by kernel_rfl) (by simp [oneV]) hB14 (by simp) fun w42 hT43 hs44 hB14' => ?_)
   have hT0 := (hT0).then hT43 (fun c e => by have : c = w5.heap.size := e; omega)
   have hD := hD.tch hT43 (fun c hc e => hD.blk_ne hB14 (by decide) c hc e)
   have hHr := hH.tch0 hT0
   have hB4 := hB4.tch hT43 (hB4.ne hB14 (by decide))
   have hB8 := hB8.tch hT43 (hB8.ne hB14 (by decide))
   replace hB14 : Blk w42 w5.heap.size 117 [.int .u64 (((rall nw).1 : Nat) : Int), .int .u64 (((rall nw).2 : Nat) : Int)] := hB14'
   refine op_nil ?_
   refine W_ret ?_
   refine ⟨_, Res_cell (b := w5.heap.size) (cs := [.int .u64 (((rall nw).1 : Nat) : Int), .int .u64 (((rall nw).2 : Nat) : Int)]) (by rfl) (by kernel_rfl) (by kernel_rfl) hB14 (by kernel_rfl) (by kernel_rfl), ?_⟩
   have e : rone 23 nw wd up (kg l a) y z lo V = rall nw := by show (if lo = 0 ∧ (kg l a).2 ≤ pw nw - 1 then _ else rall nw) = _; first | rw [if_pos ⟨by omega, by omega⟩] | rw [if_neg (fun q => by omega)]
   rw [e]
   exact ⟨rfl, hT0⟩

set_option maxRecDepth 100000 in
theorem sd24_ok (A : Option Addr) (cp : Nat) (most : Int) (N : List Nd) (B : Option Addr) (k cb : Nat) (l : List K) (nw wd up a b : Nat) (xc xv : Int) (z : K) (lo V : Nat) (w : World) (hD : Own w 0 32 6 (.slice A N.length cp) N.length (ncs N)) (hH : RdW w 2 k B (kcs l)) (ha : a < k) (hb : b < k) (hwa : widF N ((a : Nat) : Int) = ((wd : Nat) : Int)) (hwb : widF N ((b : Nat) : Int) = ((up : Nat) : Int)) (hxa : RI wd (kg l a)) (hxb : RI up (kg l b)) (hw : wd + up ≤ 64) : Ret Try.prog 55 [.agg #[.slice A N.length cp, .int .i64 most], .agg #[.int .i64 24, .int .i64 ((nw : Nat) : Int), .int .i64 ((a : Nat) : Int), .int .i64 ((b : Nat) : Int), .int .i64 xc, .int .u64 xv], .slice B k cb] w fun v w' => v = .agg #[.int .u64 (((rone 24 nw wd up (kg l a) (kg l b) z lo V).1 : Nat) : Int), .int .u64 (((rone 24 nw wd up (kg l a) (kg l b) z lo V).2 : Nat) : Int)] ∧ Tch N0 w w' := by
 have hll : l.length = k := by have := hH.1; rw [kcs_length] at this; omega
 have hla1 := hxa.1
 have hla2 := hxa.2
 have ua1 := hxa.u1 (show wd ≤ 64 by omega)
 have ua2 := hxa.u2 (show wd ≤ 64 by omega)
 have hlb1 := hxb.1
 have hlb2 := hxb.2
 have ub1 := hxb.u1 (show up ≤ 64 by omega)
 have ub2 := hxb.u2 (show up ≤ 64 by omega)
 refine enter Try.func55 rfl rfl ?_
 refine zQ ?_
 refine st (by rfl) (S_new (v := .pointer (some ⟨w.heap.size, 0, none⟩)) (ob := .cells #[.slice A N.length cp, .int .i64 most] 27) (by kernel_rfl) fun w1 hT2 hs3 hB4 => ?_)
 replace hB4 : Blk w1 (w.heap.size) 27 [.slice A N.length cp, .int .i64 most] := hB4
 have hT0 := hT2
 have hD := hD.tch0 hT2
 have hHr := hH.tch0 hT0
 have z9 := hT0.size
 have l10 := hB4.lt
 refine st (by rfl) (S_new (v := .pointer (some ⟨w1.heap.size, 0, none⟩)) (ob := .cells #[.int .i64 24, .int .i64 ((nw : Nat) : Int), .int .i64 ((a : Nat) : Int), .int .i64 ((b : Nat) : Int), .int .i64 xc, .int .u64 xv] 32) (by kernel_rfl) fun w5 hT6 hs7 hB8 => ?_)
 replace hB8 : Blk w5 (w1.heap.size) 32 [.int .i64 24, .int .i64 ((nw : Nat) : Int), .int .i64 ((a : Nat) : Int), .int .i64 ((b : Nat) : Int), .int .i64 xc, .int .u64 xv] := hB8
 have hT0 := hT0.t0 hT6
 have hD := hD.tch0 hT6
 have hHr := hH.tch0 hT0
 have hB4 := hB4.tch0 hT6
 have z15 := hT0.size
 have l16 := hB4.lt
 have l17 := hB8.lt
 refine st (by rfl) (S_new (v := .pointer (some ⟨w5.heap.size, 0, none⟩)) (ob := .cells #[.int .u64 0, .int .u64 0] 117) (by kernel_rfl) fun w11 hT12 hs13 hB14 => ?_)
 replace hB14 : Blk w11 (w5.heap.size) 117 [.int .u64 0, .int .u64 0] := hB14
 have hT0 := hT0.t0 hT12
 have hD := hD.tch0 hT12
 have hHr := hH.tch0 hT0
 have hB4 := hB4.tch0 hT12
 have hB8 := hB8.tch0 hT12
 refine op_nil ?_
 refine W_seq ?_
 refine W_block ?_
 refine zQ ?_
 refine zS [(10, .pointer (some ⟨w1.heap.size, 0, none⟩))] ?_
 refine zL (.int .i64 24) ((hB8.cell 0).trans rfl) ?_
 refine zS [(12, .bool false), (9, .bool false)] ?_
 refine zO false (fun h => nomatch h) (fun _ => ?_)
 refine zQ ?_
 refine zS [(19, .pointer (some ⟨w1.heap.size, 0, none⟩))] ?_
 refine zL (.int .i64 24) ((hB8.cell 0).trans rfl) ?_
 refine zS [(21, .bool false), (18, .bool false)] ?_
 refine zO false (fun h => nomatch h) (fun _ => ?_)
 refine zQ ?_
 refine zS [(40, .pointer (some ⟨w1.heap.size, 0, none⟩))] ?_
 refine zL (.int .i64 24) ((hB8.cell 0).trans rfl) ?_
 refine zS [(42, .bool false), (39, .bool false)] ?_
 refine zO false (fun h => nomatch h) (fun _ => ?_)
 refine zQ ?_
 refine zS [(64, .pointer (some ⟨w1.heap.size, 0, none⟩))] ?_
 refine zL (.int .i64 24) ((hB8.cell 0).trans rfl) ?_
 refine zS [(66, .bool false), (67, .bool false), (68, undef), (69, undef), (70, undef), (71, undef), (72, undef), (73, undef), (74, undef), (75, .bool false), (63, .bool false)] ?_
 refine zO false (fun h => nomatch h) (fun _ => ?_)
 refine zQ ?_
 refine zS [(82, .pointer (some ⟨w1.heap.size, 0, none⟩))] ?_
 refine zL (.int .i64 24) ((hB8.cell 0).trans rfl) ?_
 refine zS [(84, .bool false), (85, .bool false), (86, undef), (87, undef), (88, undef), (89, undef), (90, undef), (91, undef), (92, undef), (93, .bool false), (81, .bool false)] ?_
 refine zO false (fun h => nomatch h) (fun _ => ?_)
 refine zQ ?_
 refine zS [(100, .pointer (some ⟨w1.heap.size, 0, none⟩))] ?_
 refine zL (.int .i64 24) ((hB8.cell 0).trans rfl) ?_
 refine zS [(102, .bool false), (99, .bool false)] ?_
 refine zO false (fun h => nomatch h) (fun _ => ?_)
 refine W_seq ?_
 refine W_draw (fun w' => RdW w' 2 k B (kcs l) ∧ Blk w' (w.heap.size) 27 [.slice A N.length cp, .int .i64 most] ∧ Blk w' (w1.heap.size) 32 [.int .i64 24, .int .i64 ((nw : Nat) : Int), .int .i64 ((a : Nat) : Int), .int .i64 ((b : Nat) : Int), .int .i64 xc, .int .u64 xv]) (by kernel_rfl) (by kernel_rfl) (by kernel_rfl) fun w18 hT19 hh20 => ?_
 have hT0 := hT0.t0 hT19
 have hD := hD.tch0 hT19
 have hHr := hH.tch0 hT0
 have hB4 := hB4.tch0 hT19
 have hB8 := hB8.tch0 hT19
 have hB14 := hB14.tch0 hT19
 refine zK [0] #[true, false, false, false, false, false, false, false, false, false, false, false, false, false, false, false, false, false, false, false, false] [(131, .pointer (some ⟨w1.heap.size, 0, none⟩))] ⟨hHr, hB4, hB8⟩ ?_
 refine zV 1 rfl (.int .i64 24) (fun _ ⟨hHr, hB4, hB8⟩ => R_load (v := .int .i64 24) (by kernel_rfl) (by kernel_rfl) ((hB8.cell 0).trans rfl)) ⟨hHr, hB4, hB8⟩ ?_
 refine zK [2, 3, 4, 5, 6, 7, 8, 9, 10, 15, 11, 16, 12, 17, 13, 14, 18, 19, 20] #[true, true, true, true, true, true, true, true, true, true, true, true, true, true, true, true, true, true, true, true, true] [(133, .bool false), (134, .bool false), (135, undef), (136, undef), (137, undef), (138, .bool false), (139, .bool false), (140, undef), (141, undef), (146, undef), (142, undef), (147, undef), (143, undef), (148, undef), (144, undef), (145, undef), (149, undef), (150, .bool false), (130, .bool false)] ⟨hHr, hB4, hB8⟩ ?_
 refine d_done (by kernel_rfl) ?_
 refine zW false (fun h => nomatch h) (fun _ => ?_)
 refine zQ ?_
 refine zS [(157, .pointer (some ⟨w1.heap.size, 0, none⟩))] ?_
 refine zL (.int .i64 24) ((hB8.cell 0).trans rfl) ?_
 refine zS [(159, .bool true), (156, .bool true)] ?_
 refine zO true (fun _ => ?_) (fun h => nomatch h)
 refine zQ ?_
 refine st (by rfl) (S_val (v := .agg #[.slice A N.length cp, .int .i64 most]) (R_loadA [.slice A N.length cp, .int .i64 most] (by kernel_rfl) (by kernel_rfl) (by kernel_rfl) (fun k u hk => by rw [hB4.cell]; exact get_part _ 0 _ k u rfl hk)) ?_)
 refine zS [(161, .pointer (some ⟨w1.heap.size, 3, none⟩))] ?_
 refine zL (.int .i64 ((b : Nat) : Int)) ((hB8.cell 3).trans rfl) ?_
 refine st (by rfl) (S_call (args := [.agg #[.slice A N.length cp, .int .i64 most], .int .i64 ((b : Nat) : Int)]) (by kernel_rfl) ((by have q := rwid_ok A cp most N ((b : Nat) : Int) _ hD; rw [hwb] at q; exact q)) ?_)
 rintro _ w21 ⟨rfl, hT22⟩
 have hT0 := hT0.t0 hT22
 have hD := hD.tch0 hT22
 have hHr := hH.tch0 hT0
 have hB4 := hB4.tch0 hT22
 have hB8 := hB8.tch0 hT22
 have hB14 := hB14.tch0 hT22
 refine zS [(164, .int .u64 (IntKind.u64.wrap ((up : Nat) : Int)))] ?_
 rw [show IntKind.u64.wrap ((up : Nat) : Int) = ((up : Nat) : Int) from wrap_u64 (by omega) (by omega)]
 refine zS [(8, .int .u64 ((up : Nat) : Int))] ?_
 refine op_nil ?_
 refine W_seq ?_
 refine W_draw (fun w' => RdW w' 2 k B (kcs l) ∧ Blk w' (w.heap.size) 27 [.slice A N.length cp, .int .i64 most] ∧ Blk w' (w1.heap.size) 32 [.int .i64 24, .int .i64 ((nw : Nat) : Int), .int .i64 ((a : Nat) : Int), .int .i64 ((b : Nat) : Int), .int .i64 xc, .int .u64 xv]) (by kernel_rfl) (by kernel_rfl) (by kernel_rfl) fun w23 hT24 hh25 => ?_
 have hT0 := hT0.t0 hT24
 have hD := hD.tch0 hT24
 have hHr := hH.tch0 hT0
 have hB4 := hB4.tch0 hT24
 have hB8 := hB8.tch0 hT24
 have hB14 := hB14.tch0 hT24
 refine zK [0, 1, 6, 8, 9, 15, 16, 21, 23, 24] #[true, true, false, false, false, false, true, false, true, true, false, false, false, false, false, true, true, false, false, false, false, true, false, true, true, false, false, false, false, false, false, false] [(165, .slice B k cb), (166, .pointer (some ⟨w1.heap.size, 2, none⟩)), (171, .int .u64 ((up : Nat) : Int)), (173, .slice B k cb), (174, .pointer (some ⟨w1.heap.size, 3, none⟩)), (180, .slice B k cb), (181, .pointer (some ⟨w1.heap.size, 2, none⟩)), (186, .int .u64 ((up : Nat) : Int)), (188, .slice B k cb), (189, .pointer (some ⟨w1.heap.size, 3, none⟩))] ⟨hHr, hB4, hB8⟩ ?_
 refine zV 2 rfl (.int .i64 ((a : Nat) : Int)) (fun _ ⟨hHr, hB4, hB8⟩ => R_load (v := .int .i64 ((a : Nat) : Int)) (by kernel_rfl) (by kernel_rfl) ((hB8.cell 2).trans rfl)) ⟨hHr, hB4, hB8⟩ ?_
 refine zV 3 rfl (ptrAt B (a * 2)) (fun _ ⟨hHr, hB4, hB8⟩ => R_indexRd (sz := 2) (len := k) (cap := cb) (k := .i64) (i := ((a : Nat) : Int)) (e := 117) a hHr (by kernel_rfl) (by kernel_rfl) (by kernel_rfl) (by kernel_rfl) rfl (by omega)) ⟨hHr, hB4, hB8⟩ ?_
 refine zV 4 rfl (ptrAt B (a * 2)) (fun _ ⟨hHr, hB4, hB8⟩ => R_fieldRd (m := 0) hHr (by omega) (by kernel_rfl) (fun _ _ => by rfl)) ⟨hHr, hB4, hB8⟩ ?_
 refine zV 5 rfl (.int .u64 (((kg l a).1 : Nat) : Int)) (fun _ ⟨hHr, hB4, hB8⟩ => R_loadRd (v := .int .u64 (((kg l a).1 : Nat) : Int)) hHr (by omega) (by kernel_rfl) (by kernel_rfl) ((kcs_part l (by omega) 0 _ rfl))) ⟨hHr, hB4, hB8⟩ ?_
 refine zV 7 rfl (.int .u64 ((((kg l a).1) * pw up % 18446744073709551616 : Nat) : Int)) (fun _ ⟨hHr, hB4, hB8⟩ => R_shlP (k2 := .u64) ((kg l a).1) up (by kernel_rfl) (by kernel_rfl) (by omega)) ⟨hHr, hB4, hB8⟩ ?_
 have hu26 : ((kg l a).1) * pw up % 18446744073709551616 < 18446744073709551616 := mod_lt64 _
 refine zV 10 rfl (.int .i64 ((b : Nat) : Int)) (fun _ ⟨hHr, hB4, hB8⟩ => R_load (v := .int .i64 ((b : Nat) : Int)) (by kernel_rfl) (by kernel_rfl) ((hB8.cell 3).trans rfl)) ⟨hHr, hB4, hB8⟩ ?_
 refine zV 11 rfl (ptrAt B (b * 2)) (fun _ ⟨hHr, hB4, hB8⟩ => R_indexRd (sz := 2) (len := k) (cap := cb) (k := .i64) (i := ((b : Nat) : Int)) (e := 117) b hHr (by kernel_rfl) (by kernel_rfl) (by kernel_rfl) (by kernel_rfl) rfl (by omega)) ⟨hHr, hB4, hB8⟩ ?_
 refine zV 12 rfl (ptrAt B (b * 2)) (fun _ ⟨hHr, hB4, hB8⟩ => R_fieldRd (m := 0) hHr (by omega) (by kernel_rfl) (fun _ _ => by rfl)) ⟨hHr, hB4, hB8⟩ ?_
 refine zV 13 rfl (.int .u64 (((kg l b).1 : Nat) : Int)) (fun _ ⟨hHr, hB4, hB8⟩ => R_loadRd (v := .int .u64 (((kg l b).1 : Nat) : Int)) hHr (by omega) (by kernel_rfl) (by kernel_rfl) ((kcs_part l (by omega) 0 _ rfl))) ⟨hHr, hB4, hB8⟩ ?_
 refine zK [14] #[true, true, true, true, true, true, true, true, true, true, true, true, true, true, true, true, true, false, false, false, false, true, false, true, true, false, false, false, false, false, false, false] [(179, .int .u64 (IntKind.u64.wrap (BitVec.ofInt 64 ((((kg l a).1) * pw up % 18446744073709551616 : Nat) : Int) ||| BitVec.ofInt 64 (((kg l b).1 : Nat) : Int)).toNat))] ⟨hHr, hB4, hB8⟩ ?_
 rw [show IntKind.u64.wrap (BitVec.ofInt 64 ((((kg l a).1) * pw up % 18446744073709551616 : Nat) : Int) ||| BitVec.ofInt 64 (((kg l b).1 : Nat) : Int)).toNat = (((((kg l a).1) * pw up % 18446744073709551616) ||| ((kg l b).1) : Nat) : Int) from or_u (((kg l a).1) * pw up % 18446744073709551616) ((kg l b).1) hu26 ub1]
 have hu27 : (((kg l a).1) * pw up % 18446744073709551616) ||| ((kg l b).1) < 18446744073709551616 := or_lt hu26 ub1
 refine zV 17 rfl (.int .i64 ((a : Nat) : Int)) (fun _ ⟨hHr, hB4, hB8⟩ => R_load (v := .int .i64 ((a : Nat) : Int)) (by kernel_rfl) (by kernel_rfl) ((hB8.cell 2).trans rfl)) ⟨hHr, hB4, hB8⟩ ?_
 refine zV 18 rfl (ptrAt B (a * 2)) (fun _ ⟨hHr, hB4, hB8⟩ => R_indexRd (sz := 2) (len := k) (cap := cb) (k := .i64) (i := ((a : Nat) : Int)) (e := 117) a hHr (by kernel_rfl) (by kernel_rfl) (by kernel_rfl) (by kernel_rfl) rfl (by omega)) ⟨hHr, hB4, hB8⟩ ?_
 refine zV 19 rfl (ptrAt B (a * 2 + 1)) (fun _ ⟨hHr, hB4, hB8⟩ => R_fieldRd (m := 1) hHr (by omega) (by kernel_rfl) (fun _ _ => by rfl)) ⟨hHr, hB4, hB8⟩ ?_
 refine zV 20 rfl (.int .u64 (((kg l a).2 : Nat) : Int)) (fun _ ⟨hHr, hB4, hB8⟩ => R_loadRd (v := .int .u64 (((kg l a).2 : Nat) : Int)) hHr (by omega) (by kernel_rfl) (by kernel_rfl) ((kcs_part l (by omega) 1 _ rfl))) ⟨hHr, hB4, hB8⟩ ?_
 refine zV 22 rfl (.int .u64 ((((kg l a).2) * pw up % 18446744073709551616 : Nat) : Int)) (fun _ ⟨hHr, hB4, hB8⟩ => R_shlP (k2 := .u64) ((kg l a).2) up (by kernel_rfl) (by kernel_rfl) (by omega)) ⟨hHr, hB4, hB8⟩ ?_
 have hu28 : ((kg l a).2) * pw up % 18446744073709551616 < 18446744073709551616 := mod_lt64 _
 refine zV 25 rfl (.int .i64 ((b : Nat) : Int)) (fun _ ⟨hHr, hB4, hB8⟩ => R_load (v := .int .i64 ((b : Nat) : Int)) (by kernel_rfl) (by kernel_rfl) ((hB8.cell 3).trans rfl)) ⟨hHr, hB4, hB8⟩ ?_
 refine zV 26 rfl (ptrAt B (b * 2)) (fun _ ⟨hHr, hB4, hB8⟩ => R_indexRd (sz := 2) (len := k) (cap := cb) (k := .i64) (i := ((b : Nat) : Int)) (e := 117) b hHr (by kernel_rfl) (by kernel_rfl) (by kernel_rfl) (by kernel_rfl) rfl (by omega)) ⟨hHr, hB4, hB8⟩ ?_
 refine zV 27 rfl (ptrAt B (b * 2 + 1)) (fun _ ⟨hHr, hB4, hB8⟩ => R_fieldRd (m := 1) hHr (by omega) (by kernel_rfl) (fun _ _ => by rfl)) ⟨hHr, hB4, hB8⟩ ?_
 refine zV 28 rfl (.int .u64 (((kg l b).2 : Nat) : Int)) (fun _ ⟨hHr, hB4, hB8⟩ => R_loadRd (v := .int .u64 (((kg l b).2 : Nat) : Int)) hHr (by omega) (by kernel_rfl) (by kernel_rfl) ((kcs_part l (by omega) 1 _ rfl))) ⟨hHr, hB4, hB8⟩ ?_
 refine zK [29] #[true, true, true, true, true, true, true, true, true, true, true, true, true, true, true, true, true, true, true, true, true, true, true, true, true, true, true, true, true, true, false, false] [(194, .int .u64 (IntKind.u64.wrap (BitVec.ofInt 64 ((((kg l a).2) * pw up % 18446744073709551616 : Nat) : Int) ||| BitVec.ofInt 64 (((kg l b).2 : Nat) : Int)).toNat))] ⟨hHr, hB4, hB8⟩ ?_
 rw [show IntKind.u64.wrap (BitVec.ofInt 64 ((((kg l a).2) * pw up % 18446744073709551616 : Nat) : Int) ||| BitVec.ofInt 64 (((kg l b).2 : Nat) : Int)).toNat = (((((kg l a).2) * pw up % 18446744073709551616) ||| ((kg l b).2) : Nat) : Int) from or_u (((kg l a).2) * pw up % 18446744073709551616) ((kg l b).2) hu28 ub2]
 have hu29 : (((kg l a).2) * pw up % 18446744073709551616) ||| ((kg l b).2) < 18446744073709551616 := or_lt hu28 ub2
 refine zK [30] #[true, true, true, true, true, true, true, true, true, true, true, true, true, true, true, true, true, true, true, true, true, true, true, true, true, true, true, true, true, true, true, false] [(195, .agg #[.int .u64 (((((kg l a).1) * pw up % 18446744073709551616) ||| ((kg l b).1) : Nat) : Int), .int .u64 (((((kg l a).2) * pw up % 18446744073709551616) ||| ((kg l b).2) : Nat) : Int)])] ⟨hHr, hB4, hB8⟩ ?_
 refine zD 31 rfl (S_storeA (b := w5.heap.size) (j := 0) (cs := [.int .u64 (((((kg l a).1) * pw up % 18446744073709551616) ||| ((kg l b).1) : Nat) : Int), .int .u64 (((((kg l a).2) * pw up % 18446744073709551616) ||| ((kg l b).2) : Nat) : Int)]) (by kernel_rfl) (by kernel_rfl) (by kernel_rfl) (by simp [oneV]) hB14 (by simp) fun w30 hT31 hs32 hB14' => ?_)
 have hT0 := (hT0).then hT31 (fun c e => by have : c = w5.heap.size := e; omega)
 have hD := hD.tch hT31 (fun c hc e => hD.blk_ne hB14 (by decide) c hc e)
 have hHr := hH.tch0 hT0
 have hB4 := hB4.tch hT31 (hB4.ne hB14 (by decide))
 have hB8 := hB8.tch hT31 (hB8.ne hB14 (by decide))
 replace hB14 : Blk w30 w5.heap.size 117 [.int .u64 (((((kg l a).1) * pw up % 18446744073709551616) ||| ((kg l b).1) : Nat) : Int), .int .u64 (((((kg l a).2) * pw up % 18446744073709551616) ||| ((kg l b).2) : Nat) : Int)] := hB14'
 refine ⟨⟨hHr, hB4, hB8⟩, ?_⟩
 refine d_done (by kernel_rfl) ?_
 refine W_ret ?_
 exact ⟨_, Res_cell (b := w5.heap.size) (cs := [.int .u64 (((((kg l a).1) * pw up % 18446744073709551616) ||| ((kg l b).1) : Nat) : Int), .int .u64 (((((kg l a).2) * pw up % 18446744073709551616) ||| ((kg l b).2) : Nat) : Int)]) (by rfl) (by kernel_rfl) (by kernel_rfl) hB14 (by kernel_rfl) (by kernel_rfl), ⟨by kernel_rfl, hT0⟩⟩

set_option maxRecDepth 100000 in
theorem sd25_ok (A : Option Addr) (cp : Nat) (most : Int) (N : List Nd) (B : Option Addr) (k cb : Nat) (l : List K) (nw wd up a : Nat) (xb xc xv : Int) (y z : K) (lo V : Nat) (w : World) (hD : Own w 0 32 6 (.slice A N.length cp) N.length (ncs N)) (hH : RdW w 2 k B (kcs l)) (ha : a < k) (hwa : widF N ((a : Nat) : Int) = ((wd : Nat) : Int)) (hxa : RI wd (kg l a)) (hw : wd ≤ 64) : Ret Try.prog 55 [.agg #[.slice A N.length cp, .int .i64 most], .agg #[.int .i64 25, .int .i64 ((nw : Nat) : Int), .int .i64 ((a : Nat) : Int), .int .i64 xb, .int .i64 xc, .int .u64 xv], .slice B k cb] w fun v w' => v = .agg #[.int .u64 (((rone 25 nw wd up (kg l a) y z lo V).1 : Nat) : Int), .int .u64 (((rone 25 nw wd up (kg l a) y z lo V).2 : Nat) : Int)] ∧ Tch N0 w w' := by
 have hll : l.length = k := by have := hH.1; rw [kcs_length] at this; omega
 have hla1 := hxa.1
 have hla2 := hxa.2
 have ua1 := hxa.u1 (show wd ≤ 64 by omega)
 have ua2 := hxa.u2 (show wd ≤ 64 by omega)
 refine enter Try.func55 rfl rfl ?_
 refine zQ ?_
 refine st (by rfl) (S_new (v := .pointer (some ⟨w.heap.size, 0, none⟩)) (ob := .cells #[.slice A N.length cp, .int .i64 most] 27) (by kernel_rfl) fun w1 hT2 hs3 hB4 => ?_)
 replace hB4 : Blk w1 (w.heap.size) 27 [.slice A N.length cp, .int .i64 most] := hB4
 have hT0 := hT2
 have hD := hD.tch0 hT2
 have hHr := hH.tch0 hT0
 have z9 := hT0.size
 have l10 := hB4.lt
 refine st (by rfl) (S_new (v := .pointer (some ⟨w1.heap.size, 0, none⟩)) (ob := .cells #[.int .i64 25, .int .i64 ((nw : Nat) : Int), .int .i64 ((a : Nat) : Int), .int .i64 xb, .int .i64 xc, .int .u64 xv] 32) (by kernel_rfl) fun w5 hT6 hs7 hB8 => ?_)
 replace hB8 : Blk w5 (w1.heap.size) 32 [.int .i64 25, .int .i64 ((nw : Nat) : Int), .int .i64 ((a : Nat) : Int), .int .i64 xb, .int .i64 xc, .int .u64 xv] := hB8
 have hT0 := hT0.t0 hT6
 have hD := hD.tch0 hT6
 have hHr := hH.tch0 hT0
 have hB4 := hB4.tch0 hT6
 have z15 := hT0.size
 have l16 := hB4.lt
 have l17 := hB8.lt
 refine st (by rfl) (S_new (v := .pointer (some ⟨w5.heap.size, 0, none⟩)) (ob := .cells #[.int .u64 0, .int .u64 0] 117) (by kernel_rfl) fun w11 hT12 hs13 hB14 => ?_)
 replace hB14 : Blk w11 (w5.heap.size) 117 [.int .u64 0, .int .u64 0] := hB14
 have hT0 := hT0.t0 hT12
 have hD := hD.tch0 hT12
 have hHr := hH.tch0 hT0
 have hB4 := hB4.tch0 hT12
 have hB8 := hB8.tch0 hT12
 refine op_nil ?_
 refine W_seq ?_
 refine W_block ?_
 refine zQ ?_
 refine zS [(10, .pointer (some ⟨w1.heap.size, 0, none⟩))] ?_
 refine zL (.int .i64 25) ((hB8.cell 0).trans rfl) ?_
 refine zS [(12, .bool false), (9, .bool false)] ?_
 refine zO false (fun h => nomatch h) (fun _ => ?_)
 refine zQ ?_
 refine zS [(19, .pointer (some ⟨w1.heap.size, 0, none⟩))] ?_
 refine zL (.int .i64 25) ((hB8.cell 0).trans rfl) ?_
 refine zS [(21, .bool false), (18, .bool false)] ?_
 refine zO false (fun h => nomatch h) (fun _ => ?_)
 refine zQ ?_
 refine zS [(40, .pointer (some ⟨w1.heap.size, 0, none⟩))] ?_
 refine zL (.int .i64 25) ((hB8.cell 0).trans rfl) ?_
 refine zS [(42, .bool false), (39, .bool false)] ?_
 refine zO false (fun h => nomatch h) (fun _ => ?_)
 refine zQ ?_
 refine zS [(64, .pointer (some ⟨w1.heap.size, 0, none⟩))] ?_
 refine zL (.int .i64 25) ((hB8.cell 0).trans rfl) ?_
 refine zS [(66, .bool false), (67, .bool false), (68, undef), (69, undef), (70, undef), (71, undef), (72, undef), (73, undef), (74, undef), (75, .bool false), (63, .bool false)] ?_
 refine zO false (fun h => nomatch h) (fun _ => ?_)
 refine zQ ?_
 refine zS [(82, .pointer (some ⟨w1.heap.size, 0, none⟩))] ?_
 refine zL (.int .i64 25) ((hB8.cell 0).trans rfl) ?_
 refine zS [(84, .bool false), (85, .bool false), (86, undef), (87, undef), (88, undef), (89, undef), (90, undef), (91, undef), (92, undef), (93, .bool false), (81, .bool false)] ?_
 refine zO false (fun h => nomatch h) (fun _ => ?_)
 refine zQ ?_
 refine zS [(100, .pointer (some ⟨w1.heap.size, 0, none⟩))] ?_
 refine zL (.int .i64 25) ((hB8.cell 0).trans rfl) ?_
 refine zS [(102, .bool false), (99, .bool false)] ?_
 refine zO false (fun h => nomatch h) (fun _ => ?_)
 refine W_seq ?_
 refine W_draw (fun w' => RdW w' 2 k B (kcs l) ∧ Blk w' (w.heap.size) 27 [.slice A N.length cp, .int .i64 most] ∧ Blk w' (w1.heap.size) 32 [.int .i64 25, .int .i64 ((nw : Nat) : Int), .int .i64 ((a : Nat) : Int), .int .i64 xb, .int .i64 xc, .int .u64 xv]) (by kernel_rfl) (by kernel_rfl) (by kernel_rfl) fun w18 hT19 hh20 => ?_
 have hT0 := hT0.t0 hT19
 have hD := hD.tch0 hT19
 have hHr := hH.tch0 hT0
 have hB4 := hB4.tch0 hT19
 have hB8 := hB8.tch0 hT19
 have hB14 := hB14.tch0 hT19
 refine zK [0] #[true, false, false, false, false, false, false, false, false, false, false, false, false, false, false, false, false, false, false, false, false] [(131, .pointer (some ⟨w1.heap.size, 0, none⟩))] ⟨hHr, hB4, hB8⟩ ?_
 refine zV 1 rfl (.int .i64 25) (fun _ ⟨hHr, hB4, hB8⟩ => R_load (v := .int .i64 25) (by kernel_rfl) (by kernel_rfl) ((hB8.cell 0).trans rfl)) ⟨hHr, hB4, hB8⟩ ?_
 refine zK [2, 3, 4, 5, 6, 7, 8, 9, 10, 15, 11, 16, 12, 17, 13, 14, 18, 19, 20] #[true, true, true, true, true, true, true, true, true, true, true, true, true, true, true, true, true, true, true, true, true] [(133, .bool false), (134, .bool false), (135, undef), (136, undef), (137, undef), (138, .bool false), (139, .bool false), (140, undef), (141, undef), (146, undef), (142, undef), (147, undef), (143, undef), (148, undef), (144, undef), (145, undef), (149, undef), (150, .bool false), (130, .bool false)] ⟨hHr, hB4, hB8⟩ ?_
 refine d_done (by kernel_rfl) ?_
 refine zW false (fun h => nomatch h) (fun _ => ?_)
 refine zQ ?_
 refine zS [(157, .pointer (some ⟨w1.heap.size, 0, none⟩))] ?_
 refine zL (.int .i64 25) ((hB8.cell 0).trans rfl) ?_
 refine zS [(159, .bool false), (156, .bool false)] ?_
 refine zO false (fun h => nomatch h) (fun _ => ?_)
 refine zQ ?_
 refine zS [(197, .pointer (some ⟨w1.heap.size, 0, none⟩))] ?_
 refine zL (.int .i64 25) ((hB8.cell 0).trans rfl) ?_
 refine zS [(199, .bool true), (196, .bool true)] ?_
 refine zO true (fun _ => ?_) (fun h => nomatch h)
 refine zQ ?_
 refine zS [(200, .slice B k cb), (201, .pointer (some ⟨w1.heap.size, 2, none⟩))] ?_
 refine zL (.int .i64 ((a : Nat) : Int)) ((hB8.cell 2).trans rfl) ?_
 refine stv (v := ptrAt B (a * 2)) (by rfl) (R_indexRd (sz := 2) (len := k) (cap := cb) (k := .i64) (i := ((a : Nat) : Int)) (e := 117) a hHr (by kernel_rfl) (by kernel_rfl) (by kernel_rfl) (by kernel_rfl) rfl (by omega)) ?_
 refine stv (v := .agg #[.int .u64 (((kg l a).1 : Nat) : Int), .int .u64 (((kg l a).2 : Nat) : Int)]) (by rfl) (R_loadRdA [.int .u64 (((kg l a).1 : Nat) : Int), .int .u64 (((kg l a).2 : Nat) : Int)] hHr (by omega) (by kernel_rfl) (by kernel_rfl) (by kernel_rfl) (kcs_part l (by omega))) ?_
 refine st (by rfl) (S_storeA (b := w5.heap.size) (j := 0) (cs := [.int .u64 (((kg l a).1 : Nat) : Int), .int .u64 (((kg l a).2 : Nat) : Int)]) (by kernel_rfl) (by kernel_rfl) (by kernel_rfl) (by simp [oneV]) hB14 (by simp) fun w21 hT22 hs23 hB14' => ?_)
 have hT0 := (hT0).then hT22 (fun c e => by have : c = w5.heap.size := e; omega)
 have hD := hD.tch hT22 (fun c hc e => hD.blk_ne hB14 (by decide) c hc e)
 have hHr := hH.tch0 hT0
 have hB4 := hB4.tch hT22 (hB4.ne hB14 (by decide))
 have hB8 := hB8.tch hT22 (hB8.ne hB14 (by decide))
 replace hB14 : Blk w21 w5.heap.size 117 [.int .u64 (((kg l a).1 : Nat) : Int), .int .u64 (((kg l a).2 : Nat) : Int)] := hB14'
 refine op_nil ?_
 refine W_ret ?_
 exact ⟨_, Res_cell (b := w5.heap.size) (cs := [.int .u64 (((kg l a).1 : Nat) : Int), .int .u64 (((kg l a).2 : Nat) : Int)]) (by rfl) (by kernel_rfl) (by kernel_rfl) hB14 (by kernel_rfl) (by kernel_rfl), ⟨by kernel_rfl, hT0⟩⟩

set_option maxRecDepth 100000 in
theorem sd26_ok (A : Option Addr) (cp : Nat) (most : Int) (N : List Nd) (B : Option Addr) (k cb : Nat) (l : List K) (nw wd up a : Nat) (xb xc xv : Int) (y z : K) (lo V : Nat) (w : World) (hD : Own w 0 32 6 (.slice A N.length cp) N.length (ncs N)) (hH : RdW w 2 k B (kcs l)) (ha : a < k) (hwa : widF N ((a : Nat) : Int) = ((wd : Nat) : Int)) (hxa : RI wd (kg l a)) (hw : wd ≤ 64) (h1 : 1 ≤ wd) (hnw : nw ≤ 64) : Ret Try.prog 55 [.agg #[.slice A N.length cp, .int .i64 most], .agg #[.int .i64 26, .int .i64 ((nw : Nat) : Int), .int .i64 ((a : Nat) : Int), .int .i64 xb, .int .i64 xc, .int .u64 xv], .slice B k cb] w fun v w' => v = .agg #[.int .u64 (((rone 26 nw wd up (kg l a) y z lo V).1 : Nat) : Int), .int .u64 (((rone 26 nw wd up (kg l a) y z lo V).2 : Nat) : Int)] ∧ Tch N0 w w' := by
 have hll : l.length = k := by have := hH.1; rw [kcs_length] at this; omega
 have hla1 := hxa.1
 have hla2 := hxa.2
 have ua1 := hxa.u1 (show wd ≤ 64 by omega)
 have ua2 := hxa.u2 (show wd ≤ 64 by omega)
 refine enter Try.func55 rfl rfl ?_
 refine zQ ?_
 refine st (by rfl) (S_new (v := .pointer (some ⟨w.heap.size, 0, none⟩)) (ob := .cells #[.slice A N.length cp, .int .i64 most] 27) (by kernel_rfl) fun w1 hT2 hs3 hB4 => ?_)
 replace hB4 : Blk w1 (w.heap.size) 27 [.slice A N.length cp, .int .i64 most] := hB4
 have hT0 := hT2
 have hD := hD.tch0 hT2
 have hHr := hH.tch0 hT0
 have z9 := hT0.size
 have l10 := hB4.lt
 refine st (by rfl) (S_new (v := .pointer (some ⟨w1.heap.size, 0, none⟩)) (ob := .cells #[.int .i64 26, .int .i64 ((nw : Nat) : Int), .int .i64 ((a : Nat) : Int), .int .i64 xb, .int .i64 xc, .int .u64 xv] 32) (by kernel_rfl) fun w5 hT6 hs7 hB8 => ?_)
 replace hB8 : Blk w5 (w1.heap.size) 32 [.int .i64 26, .int .i64 ((nw : Nat) : Int), .int .i64 ((a : Nat) : Int), .int .i64 xb, .int .i64 xc, .int .u64 xv] := hB8
 have hT0 := hT0.t0 hT6
 have hD := hD.tch0 hT6
 have hHr := hH.tch0 hT0
 have hB4 := hB4.tch0 hT6
 have z15 := hT0.size
 have l16 := hB4.lt
 have l17 := hB8.lt
 refine st (by rfl) (S_new (v := .pointer (some ⟨w5.heap.size, 0, none⟩)) (ob := .cells #[.int .u64 0, .int .u64 0] 117) (by kernel_rfl) fun w11 hT12 hs13 hB14 => ?_)
 replace hB14 : Blk w11 (w5.heap.size) 117 [.int .u64 0, .int .u64 0] := hB14
 have hT0 := hT0.t0 hT12
 have hD := hD.tch0 hT12
 have hHr := hH.tch0 hT0
 have hB4 := hB4.tch0 hT12
 have hB8 := hB8.tch0 hT12
 refine op_nil ?_
 refine W_seq ?_
 refine W_block ?_
 refine zQ ?_
 refine zS [(10, .pointer (some ⟨w1.heap.size, 0, none⟩))] ?_
 refine zL (.int .i64 26) ((hB8.cell 0).trans rfl) ?_
 refine zS [(12, .bool false), (9, .bool false)] ?_
 refine zO false (fun h => nomatch h) (fun _ => ?_)
 refine zQ ?_
 refine zS [(19, .pointer (some ⟨w1.heap.size, 0, none⟩))] ?_
 refine zL (.int .i64 26) ((hB8.cell 0).trans rfl) ?_
 refine zS [(21, .bool false), (18, .bool false)] ?_
 refine zO false (fun h => nomatch h) (fun _ => ?_)
 refine zQ ?_
 refine zS [(40, .pointer (some ⟨w1.heap.size, 0, none⟩))] ?_
 refine zL (.int .i64 26) ((hB8.cell 0).trans rfl) ?_
 refine zS [(42, .bool false), (39, .bool false)] ?_
 refine zO false (fun h => nomatch h) (fun _ => ?_)
 refine zQ ?_
 refine zS [(64, .pointer (some ⟨w1.heap.size, 0, none⟩))] ?_
 refine zL (.int .i64 26) ((hB8.cell 0).trans rfl) ?_
 refine zS [(66, .bool false), (67, .bool false), (68, undef), (69, undef), (70, undef), (71, undef), (72, undef), (73, undef), (74, undef), (75, .bool false), (63, .bool false)] ?_
 refine zO false (fun h => nomatch h) (fun _ => ?_)
 refine zQ ?_
 refine zS [(82, .pointer (some ⟨w1.heap.size, 0, none⟩))] ?_
 refine zL (.int .i64 26) ((hB8.cell 0).trans rfl) ?_
 refine zS [(84, .bool false), (85, .bool false), (86, undef), (87, undef), (88, undef), (89, undef), (90, undef), (91, undef), (92, undef), (93, .bool false), (81, .bool false)] ?_
 refine zO false (fun h => nomatch h) (fun _ => ?_)
 refine zQ ?_
 refine zS [(100, .pointer (some ⟨w1.heap.size, 0, none⟩))] ?_
 refine zL (.int .i64 26) ((hB8.cell 0).trans rfl) ?_
 refine zS [(102, .bool false), (99, .bool false)] ?_
 refine zO false (fun h => nomatch h) (fun _ => ?_)
 refine W_seq ?_
 refine W_draw (fun w' => RdW w' 2 k B (kcs l) ∧ Blk w' (w.heap.size) 27 [.slice A N.length cp, .int .i64 most] ∧ Blk w' (w1.heap.size) 32 [.int .i64 26, .int .i64 ((nw : Nat) : Int), .int .i64 ((a : Nat) : Int), .int .i64 xb, .int .i64 xc, .int .u64 xv]) (by kernel_rfl) (by kernel_rfl) (by kernel_rfl) fun w18 hT19 hh20 => ?_
 have hT0 := hT0.t0 hT19
 have hD := hD.tch0 hT19
 have hHr := hH.tch0 hT0
 have hB4 := hB4.tch0 hT19
 have hB8 := hB8.tch0 hT19
 have hB14 := hB14.tch0 hT19
 refine zK [0] #[true, false, false, false, false, false, false, false, false, false, false, false, false, false, false, false, false, false, false, false, false] [(131, .pointer (some ⟨w1.heap.size, 0, none⟩))] ⟨hHr, hB4, hB8⟩ ?_
 refine zV 1 rfl (.int .i64 26) (fun _ ⟨hHr, hB4, hB8⟩ => R_load (v := .int .i64 26) (by kernel_rfl) (by kernel_rfl) ((hB8.cell 0).trans rfl)) ⟨hHr, hB4, hB8⟩ ?_
 refine zK [2, 3, 4, 5, 6, 7, 8, 9, 10, 15, 11, 16, 12, 17, 13, 14, 18, 19, 20] #[true, true, true, true, true, true, true, true, true, true, true, true, true, true, true, true, true, true, true, true, true] [(133, .bool false), (134, .bool false), (135, undef), (136, undef), (137, undef), (138, .bool false), (139, .bool false), (140, undef), (141, undef), (146, undef), (142, undef), (147, undef), (143, undef), (148, undef), (144, undef), (145, undef), (149, undef), (150, .bool false), (130, .bool false)] ⟨hHr, hB4, hB8⟩ ?_
 refine d_done (by kernel_rfl) ?_
 refine zW false (fun h => nomatch h) (fun _ => ?_)
 refine zQ ?_
 refine zS [(157, .pointer (some ⟨w1.heap.size, 0, none⟩))] ?_
 refine zL (.int .i64 26) ((hB8.cell 0).trans rfl) ?_
 refine zS [(159, .bool false), (156, .bool false)] ?_
 refine zO false (fun h => nomatch h) (fun _ => ?_)
 refine zQ ?_
 refine zS [(197, .pointer (some ⟨w1.heap.size, 0, none⟩))] ?_
 refine zL (.int .i64 26) ((hB8.cell 0).trans rfl) ?_
 refine zS [(199, .bool false), (196, .bool false)] ?_
 refine zO false (fun h => nomatch h) (fun _ => ?_)
 refine W_seq ?_
 refine W_draw (fun w' => RdW w' 2 k B (kcs l) ∧ Blk w' (w.heap.size) 27 [.slice A N.length cp, .int .i64 most] ∧ Blk w' (w1.heap.size) 32 [.int .i64 26, .int .i64 ((nw : Nat) : Int), .int .i64 ((a : Nat) : Int), .int .i64 xb, .int .i64 xc, .int .u64 xv]) (by kernel_rfl) (by kernel_rfl) (by kernel_rfl) fun w21 hT22 hh23 => ?_
 have hT0 := hT0.t0 hT22
 have hD := hD.tch0 hT22
 have hHr := hH.tch0 hT0
 have hB4 := hB4.tch0 hT22
 have hB8 := hB8.tch0 hT22
 have hB14 := hB14.tch0 hT22
 refine zK [0] #[true, false, false, false, false, false, false, false, false, false, false, false, false, false, false, false, false, false, false] [(206, .pointer (some ⟨w1.heap.size, 0, none⟩))] ⟨hHr, hB4, hB8⟩ ?_
 refine zV 1 rfl (.int .i64 26) (fun _ ⟨hHr, hB4, hB8⟩ => R_load (v := .int .i64 26) (by kernel_rfl) (by kernel_rfl) ((hB8.cell 0).trans rfl)) ⟨hHr, hB4, hB8⟩ ?_
 refine zK [2, 3, 4, 5, 11] #[true, true, true, true, true, true, false, false, false, false, false, true, false, false, false, false, false, false, false] [(208, .bool true), (209, .bool true), (210, .slice B k cb), (211, .pointer (some ⟨w1.heap.size, 2, none⟩)), (217, .pointer (some ⟨w1.heap.size, 2, none⟩))] ⟨hHr, hB4, hB8⟩ ?_
 refine zV 6 rfl (.int .i64 ((a : Nat) : Int)) (fun _ ⟨hHr, hB4, hB8⟩ => R_load (v := .int .i64 ((a : Nat) : Int)) (by kernel_rfl) (by kernel_rfl) ((hB8.cell 2).trans rfl)) ⟨hHr, hB4, hB8⟩ ?_
 refine zV 7 rfl (ptrAt B (a * 2)) (fun _ ⟨hHr, hB4, hB8⟩ => R_indexRd (sz := 2) (len := k) (cap := cb) (k := .i64) (i := ((a : Nat) : Int)) (e := 117) a hHr (by kernel_rfl) (by kernel_rfl) (by kernel_rfl) (by kernel_rfl) rfl (by omega)) ⟨hHr, hB4, hB8⟩ ?_
 refine zV 8 rfl (ptrAt B (a * 2 + 1)) (fun _ ⟨hHr, hB4, hB8⟩ => R_fieldRd (m := 1) hHr (by omega) (by kernel_rfl) (fun _ _ => by rfl)) ⟨hHr, hB4, hB8⟩ ?_
 refine zV 9 rfl (.int .u64 (((kg l a).2 : Nat) : Int)) (fun _ ⟨hHr, hB4, hB8⟩ => R_loadRd (v := .int .u64 (((kg l a).2 : Nat) : Int)) hHr (by omega) (by kernel_rfl) (by kernel_rfl) ((kcs_part l (by omega) 1 _ rfl))) ⟨hHr, hB4, hB8⟩ ?_
 refine zV 10 rfl (.agg #[.slice A N.length cp, .int .i64 most]) (fun _ ⟨hHr, hB4, hB8⟩ => R_loadA [.slice A N.length cp, .int .i64 most] (by kernel_rfl) (by kernel_rfl) (by kernel_rfl) (fun k u hk => by rw [hB4.cell]; exact get_part _ 0 _ k u rfl hk)) ⟨hHr, hB4, hB8⟩ ?_
 refine zV 12 rfl (.int .i64 ((a : Nat) : Int)) (fun _ ⟨hHr, hB4, hB8⟩ => R_load (v := .int .i64 ((a : Nat) : Int)) (by kernel_rfl) (by kernel_rfl) ((hB8.cell 2).trans rfl)) ⟨hHr, hB4, hB8⟩ ?_
 refine zD 13 rfl (S_call (args := [.agg #[.slice A N.length cp, .int .i64 most], .int .i64 ((a : Nat) : Int)]) (by kernel_rfl) ((by have q := rwid_ok A cp most N ((a : Nat) : Int) _ hD; rw [hwa] at q; exact q)) ?_)
 rintro _ w24 ⟨rfl, hT25⟩
 have hT0 := hT0.t0 hT25
 have hD := hD.tch0 hT25
 have hHr := hH.tch0 hT0
 have hB4 := hB4.tch0 hT25
 have hB8 := hB8.tch0 hT25
 have hB14 := hB14.tch0 hT25
 refine ⟨⟨hHr, hB4, hB8⟩, ?_⟩
 refine zK [14] #[true, true, true, true, true, true, true, true, true, true, true, true, true, true, true, false, false, false, false] [(220, .int .i64 (IntKind.i64.wrap (((wd : Nat) : Int) - 1)))] ⟨hHr, hB4, hB8⟩ ?_
 rw [show IntKind.i64.wrap (((wd : Nat) : Int) - 1) = ((wd : Nat) : Int) - 1 from wrap_i64 (by omega) (by omega)]
 refine fixD (y := ((wd - 1 : Nat) : Int)) (by omega) ?_
 refine zD 15 rfl (S_call (args := [.int .u64 (((kg l a).2 : Nat) : Int), .int .i64 ((wd - 1 : Nat) : Int)]) (by kernel_rfl) (rBit_ok ((kg l a).2) (wd - 1) _ (by omega) ua2) ?_)
 rintro _ w26 ⟨rfl, hT27⟩
 have hT0 := hT0.t0 hT27
 have hD := hD.tch0 hT27
 have hHr := hH.tch0 hT0
 have hB4 := hB4.tch0 hT27
 have hB8 := hB8.tch0 hT27
 have hB14 := hB14.tch0 hT27
 refine ⟨⟨hHr, hB4, hB8⟩, ?_⟩
 refine zK [16, 17, 18] #[true, true, true, true, true, true, true, true, true, true, true, true, true, true, true, true, true, true, true] [(222, .bool (!(((kg l a).2).testBit (wd - 1)))), (223, .bool (!(((kg l a).2).testBit (wd - 1)))), (205, .bool (!(((kg l a).2).testBit (wd - 1))))] ⟨hHr, hB4, hB8⟩ ?_
 refine d_done (by kernel_rfl) ?_
 refine zW (!(((kg l a).2).testBit (wd - 1))) (fun hc28 => ?_) (fun hc28 => ?_)
 ·
  replace hc28 : ((kg l a).2).testBit (wd - 1) = false := ((not_t hc28))
  refine zQ ?_
  refine zS [(224, .slice B k cb), (225, .pointer (some ⟨w1.heap.size, 2, none⟩))] ?_
  refine zL (.int .i64 ((a : Nat) : Int)) ((hB8.cell 2).trans rfl) ?_
  refine stv (v := ptrAt B (a * 2)) (by rfl) (R_indexRd (sz := 2) (len := k) (cap := cb) (k := .i64) (i := ((a : Nat) : Int)) (e := 117) a hHr (by kernel_rfl) (by kernel_rfl) (by kernel_rfl) (by kernel_rfl) rfl (by omega)) ?_
  refine stv (v := .agg #[.int .u64 (((kg l a).1 : Nat) : Int), .int .u64 (((kg l a).2 : Nat) : Int)]) (by rfl) (R_loadRdA [.int .u64 (((kg l a).1 : Nat) : Int), .int .u64 (((kg l a).2 : Nat) : Int)] hHr (by omega) (by kernel_rfl) (by kernel_rfl) (by kernel_rfl) (kcs_part l (by omega))) ?_
  refine st (by rfl) (S_storeA (b := w5.heap.size) (j := 0) (cs := [.int .u64 (((kg l a).1 : Nat) : Int), .int .u64 (((kg l a).2 : Nat) : Int)]) (by kernel_rfl) (by kernel_rfl) (by kernel_rfl) (by simp [oneV]) hB14 (by simp) fun w29 hT30 hs31 hB14' => ?_)
  have hT0 := (hT0).then hT30 (fun c e => by have : c = w5.heap.size := e; omega)
  have hD := hD.tch hT30 (fun c hc e => hD.blk_ne hB14 (by decide) c hc e)
  have hHr := hH.tch0 hT0
  have hB4 := hB4.tch hT30 (hB4.ne hB14 (by decide))
  have hB8 := hB8.tch hT30 (hB8.ne hB14 (by decide))
  replace hB14 : Blk w29 w5.heap.size 117 [.int .u64 (((kg l a).1 : Nat) : Int), .int .u64 (((kg l a).2 : Nat) : Int)] := hB14'
  refine op_nil ?_
  refine W_ret ?_
  refine ⟨_, Res_cell (b := w5.heap.size) (cs := [.int .u64 (((kg l a).1 : Nat) : Int), .int .u64 (((kg l a).2 : Nat) : Int)]) (by rfl) (by kernel_rfl) (by kernel_rfl) hB14 (by kernel_rfl) (by kernel_rfl), ?_⟩
  have e : rone 26 nw wd up (kg l a) y z lo V = kg l a := by show (if (kg l a).2.testBit (wd - 1) = true then rall nw else kg l a) = _; first | rw [if_pos (by assumption)] | rw [if_neg (by simp_all)]
  rw [e]
  exact ⟨rfl, hT0⟩
 ·
  replace hc28 : ((kg l a).2).testBit (wd - 1) = true := ((not_f hc28))
  refine W_skip ?_
  refine zQ ?_
  refine zS [(229, .pointer (some ⟨w1.heap.size, 1, none⟩))] ?_
  refine zL (.int .i64 ((nw : Nat) : Int)) ((hB8.cell 1).trans rfl) ?_
  refine zC (rall_ok nw _ (by omega)) ?_
  rintro _ w32 ⟨rfl, hT33⟩
  have hT0 := hT0.t0 hT33
  have hD := hD.tch0 hT33
  have hHr := hH.tch0 hT0
  have hB4 := hB4.tch0 hT33
  have hB8 := hB8.tch0 hT33
  have hB14 := hB14.tch0 hT33
  refine st (by rfl) (S_storeA (b := w5.heap.size) (j := 0) (cs := [.int .u64 (((rall nw).1 : Nat) : Int), .int .u64 (((rall nw).2 : Nat) : Int)]) (by kernel_rfl) (by kernel_rfl) (by kernel_rfl) (by simp [oneV]) hB14 (by simp) fun w34 hT35 hs36 hB14' => ?_)
  have hT0 := (hT0).then hT35 (fun c e => by have : c = w5.heap.size := e; omega)
  have hD := hD.tch hT35 (fun c hc e => hD.blk_ne hB14 (by decide) c hc e)
  have hHr := hH.tch0 hT0
  have hB4 := hB4.tch hT35 (hB4.ne hB14 (by decide))
  have hB8 := hB8.tch hT35 (hB8.ne hB14 (by decide))
  replace hB14 : Blk w34 w5.heap.size 117 [.int .u64 (((rall nw).1 : Nat) : Int), .int .u64 (((rall nw).2 : Nat) : Int)] := hB14'
  refine op_nil ?_
  refine W_ret ?_
  refine ⟨_, Res_cell (b := w5.heap.size) (cs := [.int .u64 (((rall nw).1 : Nat) : Int), .int .u64 (((rall nw).2 : Nat) : Int)]) (by rfl) (by kernel_rfl) (by kernel_rfl) hB14 (by kernel_rfl) (by kernel_rfl), ?_⟩
  have e : rone 26 nw wd up (kg l a) y z lo V = rall nw := by show (if (kg l a).2.testBit (wd - 1) = true then rall nw else kg l a) = _; first | rw [if_pos (by assumption)] | rw [if_neg (by simp_all)]
  rw [e]
  exact ⟨rfl, hT0⟩

end Go.Proofs.YtlbadnpgmkobdaaV
