/- Texts laid together: Walks of functions of the program and of the document's texts. The conditions stand with each theorem. One node's known bits, whatever it is: both sides. -/
import Derived.Test.YtlbadnpgmkobdaaJKkbit56x1
import Derived.Test.YtlbadnpgmkobdaaProg
import Derived.Test.YtlbadnpgmkobdaaK6
import Derived.Test.YtlbadnpgmkobdaaK5
set_option linter.unusedVariables false
set_option linter.unusedSimpArgs false
namespace Go.Proofs.YtlbadnpgmkobdaaV
open Go Go.RowKit Go.Proofs

set_option maxRecDepth 100000 in
theorem rone20_ok (A : Option Addr) (cp : Nat) (most : Int) (N : List Nd) (B : Option Addr) (k cb : Nat) (l : List K) (nw wd up : Nat) (xa xb xc : Int) (x y z : K) (lo V : Nat) (cst : Option Nat) (w : World) (hD : Own w 0 32 6 (.slice A N.length cp) N.length (ncs N)) (hH : RdW w 2 k B (kcs l)) (hnw : nw ≤ 64) (hV : V < 18446744073709551616) : Ret Try.prog 51 [.agg #[.slice A N.length cp, .int .i64 most], .agg #[.int .i64 20, .int .i64 ((nw : Nat) : Int), .int .i64 xa, .int .i64 xb, .int .i64 xc, .int .u64 ((V : Nat) : Int)], .slice B k cb] w fun v w' => v = .agg #[.int .u64 (((kone 20 nw wd up x y z lo V cst).1 : Nat) : Int), .int .u64 (((kone 20 nw wd up x y z lo V cst).2 : Nat) : Int)] ∧ Tch N0 w w' := by
 have hll : l.length = k := by have := hH.1; rw [kcs_length] at this; omega
 refine enter Try.func51 rfl rfl ?_
 refine zQ ?_
 refine st (by rfl) (S_new (v := .pointer (some ⟨w.heap.size, 0, none⟩)) (ob := .cells #[.slice A N.length cp, .int .i64 most] 27) (by kernel_rfl) fun w1 hT2 hs3 hB4 => ?_)
 replace hB4 : Blk w1 (w.heap.size) 27 [.slice A N.length cp, .int .i64 most] := hB4
 have hT0 := hT2
 have hD := hD.tch0 hT2
 have hHr := hH.tch0 hT0
 have z9 := hT0.size
 have l10 := hB4.lt
 refine st (by rfl) (S_new (v := .pointer (some ⟨w1.heap.size, 0, none⟩)) (ob := .cells #[.int .i64 20, .int .i64 ((nw : Nat) : Int), .int .i64 xa, .int .i64 xb, .int .i64 xc, .int .u64 ((V : Nat) : Int)] 32) (by kernel_rfl) fun w5 hT6 hs7 hB8 => ?_)
 replace hB8 : Blk w5 (w1.heap.size) 32 [.int .i64 20, .int .i64 ((nw : Nat) : Int), .int .i64 xa, .int .i64 xb, .int .i64 xc, .int .u64 ((V : Nat) : Int)] := hB8
 have hT0 := hT0.t0 hT6
 have hD := hD.tch0 hT6
 have hHr := hH.tch0 hT0
 have hB4 := hB4.tch0 hT6
 have z15 := hT0.size
 have l16 := hB4.lt
 have l17 := hB8.lt
 refine st (by rfl) (S_new (v := .pointer (some ⟨w5.heap.size, 0, none⟩)) (ob := .cells #[.int .u64 0, .int .u64 0] 104) (by kernel_rfl) fun w11 hT12 hs13 hB14 => ?_)
 replace hB14 : Blk w11 (w5.heap.size) 104 [.int .u64 0, .int .u64 0] := hB14
 have hT0 := hT0.t0 hT12
 have hD := hD.tch0 hT12
 have hHr := hH.tch0 hT0
 have hB4 := hB4.tch0 hT12
 have hB8 := hB8.tch0 hT12
 refine op_nil ?_
 refine zQ ?_
 refine st (by rfl) (S_val (v := .agg #[.slice A N.length cp, .int .i64 most]) (R_loadA [.slice A N.length cp, .int .i64 most] (by kernel_rfl) (by kernel_rfl) (by kernel_rfl) (fun k u hk => by rw [hB4.cell]; exact get_part _ 0 _ k u rfl hk)) ?_)
 refine zS [(14, .pointer (some ⟨w1.heap.size, 2, none⟩))] ?_
 refine zL (.int .i64 xa) ((hB8.cell 2).trans rfl) ?_
 refine zC (rwid_ok A cp most N xa _ hD) ?_
 rintro _ w18 ⟨rfl, hT19⟩
 have hT0 := hT0.t0 hT19
 have hD := hD.tch0 hT19
 have hHr := hH.tch0 hT0
 have hB4 := hB4.tch0 hT19
 have hB8 := hB8.tch0 hT19
 have hB14 := hB14.tch0 hT19
 refine zS [(7, .int .i64 (widF N xa))] ?_
 refine op_nil ?_
 refine W_seq ?_
 refine zQ ?_
 refine zS [(17, .pointer (some ⟨w1.heap.size, 0, none⟩))] ?_
 refine zL (.int .i64 20) ((hB8.cell 0).trans rfl) ?_
 refine op_nil ?_
 refine W_block ?_
 refine zQ ?_
 refine zS [(20, .bool true), (19, .bool true)] ?_
 refine zO true (fun _ => ?_) (fun h => nomatch h)
 refine W_seq ?_
 refine W_draw (fun w' => RdW w' 2 k B (kcs l) ∧ Blk w' (w1.heap.size) 32 [.int .i64 20, .int .i64 ((nw : Nat) : Int), .int .i64 xa, .int .i64 xb, .int .i64 xc, .int .u64 ((V : Nat) : Int)]) (by kernel_rfl) (by kernel_rfl) (by kernel_rfl) fun w20 hT21 hh22 => ?_
 have hT0 := hT0.t0 hT21
 have hD := hD.tch0 hT21
 have hHr := hH.tch0 hT0
 have hB4 := hB4.tch0 hT21
 have hB8 := hB8.tch0 hT21
 have hB14 := hB14.tch0 hT21
 refine zK [0, 3] #[true, false, false, true, false, false, false] [(21, .pointer (some ⟨w1.heap.size, 1, none⟩)), (24, .pointer (some ⟨w1.heap.size, 5, none⟩))] ⟨hHr, hB8⟩ ?_
 refine zV 1 rfl (.int .i64 ((nw : Nat) : Int)) (fun _ ⟨hHr, hB8⟩ => R_load (v := .int .i64 ((nw : Nat) : Int)) (by kernel_rfl) (by kernel_rfl) ((hB8.cell 1).trans rfl)) ⟨hHr, hB8⟩ ?_
 refine zV 4 rfl (.int .u64 ((V : Nat) : Int)) (fun _ ⟨hHr, hB8⟩ => R_load (v := .int .u64 ((V : Nat) : Int)) (by kernel_rfl) (by kernel_rfl) ((hB8.cell 5).trans rfl)) ⟨hHr, hB8⟩ ?_
 refine zD 2 rfl (S_call (args := [.int .i64 ((nw : Nat) : Int)]) (by kernel_rfl) (rmask_okN nw _ (by omega)) ?_)
 rintro _ w23 ⟨rfl, hT24⟩
 have hT0 := hT0.t0 hT24
 have hD := hD.tch0 hT24
 have hHr := hH.tch0 hT0
 have hB4 := hB4.tch0 hT24
 have hB8 := hB8.tch0 hT24
 have hB14 := hB14.tch0 hT24
 have hu25 := pwm_lt (x := nw) (by omega)
 refine ⟨⟨hHr, hB8⟩, ?_⟩
 refine zK [5] #[true, true, true, true, true, true, false] [(26, .agg #[.int .u64 ((pw nw - 1 : Nat) : Int), .int .u64 ((V : Nat) : Int)])] ⟨hHr, hB8⟩ ?_
 refine zD 6 rfl (S_storeA (b := w5.heap.size) (j := 0) (cs := [.int .u64 ((pw nw - 1 : Nat) : Int), .int .u64 ((V : Nat) : Int)]) (by kernel_rfl) (by kernel_rfl) (by kernel_rfl) (by simp [oneV]) hB14 (by simp) fun w26 hT27 hs28 hB14' => ?_)
 have hT0 := (hT0).then hT27 (fun c e => by have : c = w5.heap.size := e; omega)
 have hD := hD.tch hT27 (fun c hc e => hD.blk_ne hB14 (by decide) c hc e)
 have hHr := hH.tch0 hT0
 have hB4 := hB4.tch hT27 (hB4.ne hB14 (by decide))
 have hB8 := hB8.tch hT27 (hB8.ne hB14 (by decide))
 replace hB14 : Blk w26 w5.heap.size 104 [.int .u64 ((pw nw - 1 : Nat) : Int), .int .u64 ((V : Nat) : Int)] := hB14'
 refine ⟨⟨hHr, hB8⟩, ?_⟩
 refine d_done (by kernel_rfl) ?_
 refine W_ret ?_
 exact ⟨_, Res_cell (b := w5.heap.size) (cs := [.int .u64 ((pw nw - 1 : Nat) : Int), .int .u64 ((V : Nat) : Int)]) (by rfl) (by kernel_rfl) (by kernel_rfl) hB14 (by kernel_rfl) (by kernel_rfl), ⟨by kernel_rfl, hT0⟩⟩

set_option maxRecDepth 100000 in
theorem rone21_ok (A : Option Addr) (cp : Nat) (most : Int) (N : List Nd) (B : Option Addr) (k cb : Nat) (l : List K) (nw wd up : Nat) (xa xb xc xv : Int) (x y z : K) (lo V : Nat) (cst : Option Nat) (w : World) (hD : Own w 0 32 6 (.slice A N.length cp) N.length (ncs N)) (hH : RdW w 2 k B (kcs l)) : Ret Try.prog 51 [.agg #[.slice A N.length cp, .int .i64 most], .agg #[.int .i64 21, .int .i64 ((nw : Nat) : Int), .int .i64 xa, .int .i64 xb, .int .i64 xc, .int .u64 xv], .slice B k cb] w fun v w' => v = .agg #[.int .u64 (((kone 21 nw wd up x y z lo V cst).1 : Nat) : Int), .int .u64 (((kone 21 nw wd up x y z lo V cst).2 : Nat) : Int)] ∧ Tch N0 w w' := by
 have hll : l.length = k := by have := hH.1; rw [kcs_length] at this; omega
 refine enter Try.func51 rfl rfl ?_
 refine zQ ?_
 refine st (by rfl) (S_new (v := .pointer (some ⟨w.heap.size, 0, none⟩)) (ob := .cells #[.slice A N.length cp, .int .i64 most] 27) (by kernel_rfl) fun w1 hT2 hs3 hB4 => ?_)
 replace hB4 : Blk w1 (w.heap.size) 27 [.slice A N.length cp, .int .i64 most] := hB4
 have hT0 := hT2
 have hD := hD.tch0 hT2
 have hHr := hH.tch0 hT0
 have z9 := hT0.size
 have l10 := hB4.lt
 refine st (by rfl) (S_new (v := .pointer (some ⟨w1.heap.size, 0, none⟩)) (ob := .cells #[.int .i64 21, .int .i64 ((nw : Nat) : Int), .int .i64 xa, .int .i64 xb, .int .i64 xc, .int .u64 xv] 32) (by kernel_rfl) fun w5 hT6 hs7 hB8 => ?_)
 replace hB8 : Blk w5 (w1.heap.size) 32 [.int .i64 21, .int .i64 ((nw : Nat) : Int), .int .i64 xa, .int .i64 xb, .int .i64 xc, .int .u64 xv] := hB8
 have hT0 := hT0.t0 hT6
 have hD := hD.tch0 hT6
 have hHr := hH.tch0 hT0
 have hB4 := hB4.tch0 hT6
 have z15 := hT0.size
 have l16 := hB4.lt
 have l17 := hB8.lt
 refine st (by rfl) (S_new (v := .pointer (some ⟨w5.heap.size, 0, none⟩)) (ob := .cells #[.int .u64 0, .int .u64 0] 104) (by kernel_rfl) fun w11 hT12 hs13 hB14 => ?_)
 replace hB14 : Blk w11 (w5.heap.size) 104 [.int .u64 0, .int .u64 0] := hB14
 have hT0 := hT0.t0 hT12
 have hD := hD.tch0 hT12
 have hHr := hH.tch0 hT0
 have hB4 := hB4.tch0 hT12
 have hB8 := hB8.tch0 hT12
 refine op_nil ?_
 refine zQ ?_
 refine st (by rfl) (S_val (v := .agg #[.slice A N.length cp, .int .i64 most]) (R_loadA [.slice A N.length cp, .int .i64 most] (by kernel_rfl) (by kernel_rfl) (by kernel_rfl) (fun k u hk => by rw [hB4.cell]; exact get_part _ 0 _ k u rfl hk)) ?_)
 refine zS [(14, .pointer (some ⟨w1.heap.size, 2, none⟩))] ?_
 refine zL (.int .i64 xa) ((hB8.cell 2).trans rfl) ?_
 refine zC (rwid_ok A cp most N xa _ hD) ?_
 rintro _ w18 ⟨rfl, hT19⟩
 have hT0 := hT0.t0 hT19
 have hD := hD.tch0 hT19
 have hHr := hH.tch0 hT0
 have hB4 := hB4.tch0 hT19
 have hB8 := hB8.tch0 hT19
 have hB14 := hB14.tch0 hT19
 refine zS [(7, .int .i64 (widF N xa))] ?_
 refine op_nil ?_
 refine W_seq ?_
 refine zQ ?_
 refine zS [(17, .pointer (some ⟨w1.heap.size, 0, none⟩))] ?_
 refine zL (.int .i64 21) ((hB8.cell 0).trans rfl) ?_
 refine op_nil ?_
 refine W_block ?_
 refine zQ ?_
 refine zS [(20, .bool false), (19, .bool false)] ?_
 refine zO false (fun h => nomatch h) (fun _ => ?_)
 refine W_seq ?_
 refine zQ ?_
 refine zS [(28, .bool true), (27, .bool true)] ?_
 refine zO true (fun _ => ?_) (fun h => nomatch h)
 refine W_skip ?_
 refine zW true (fun _ => ?_) (fun h => nomatch h)
 refine zQ ?_
 refine zS [(30, .agg #[.int .u64 0, .int .u64 0])] ?_
 refine st (by rfl) (S_storeA (b := w5.heap.size) (j := 0) (cs := [.int .u64 0, .int .u64 0]) (by kernel_rfl) (by kernel_rfl) (by kernel_rfl) (by simp [oneV]) hB14 (by simp) fun w20 hT21 hs22 hB14' => ?_)
 have hT0 := (hT0).then hT21 (fun c e => by have : c = w5.heap.size := e; omega)
 have hD := hD.tch hT21 (fun c hc e => hD.blk_ne hB14 (by decide) c hc e)
 have hHr := hH.tch0 hT0
 have hB4 := hB4.tch hT21 (hB4.ne hB14 (by decide))
 have hB8 := hB8.tch hT21 (hB8.ne hB14 (by decide))
 replace hB14 : Blk w20 w5.heap.size 104 [.int .u64 0, .int .u64 0] := hB14'
 refine op_nil ?_
 refine W_ret ?_
 exact ⟨_, Res_cell (b := w5.heap.size) (cs := [.int .u64 0, .int .u64 0]) (by rfl) (by kernel_rfl) (by kernel_rfl) hB14 (by kernel_rfl) (by kernel_rfl), ⟨by kernel_rfl, hT0⟩⟩

set_option maxRecDepth 100000 in
theorem rone15_ok (A : Option Addr) (cp : Nat) (most : Int) (N : List Nd) (B : Option Addr) (k cb : Nat) (l : List K) (nw wd up a : Nat) (xb xc xv : Int) (y z : K) (lo V : Nat) (cst : Option Nat) (w : World) (hD : Own w 0 32 6 (.slice A N.length cp) N.length (ncs N)) (hH : RdW w 2 k B (kcs l)) (ha : a < k) (hwa : widF N ((a : Nat) : Int) = ((wd : Nat) : Int)) (hxa : KI wd (kg l a)) (hw : wd ≤ 64) : Ret Try.prog 51 [.agg #[.slice A N.length cp, .int .i64 most], .agg #[.int .i64 15, .int .i64 ((nw : Nat) : Int), .int .i64 ((a : Nat) : Int), .int .i64 xb, .int .i64 xc, .int .u64 xv], .slice B k cb] w fun v w' => v = .agg #[.int .u64 (((kone 15 nw wd up (kg l a) y z lo V cst).1 : Nat) : Int), .int .u64 (((kone 15 nw wd up (kg l a) y z lo V cst).2 : Nat) : Int)] ∧ Tch N0 w w' := by
 have hll : l.length = k := by have := hH.1; rw [kcs_length] at this; omega
 have ua1 := hxa.u1 (show wd ≤ 64 by omega)
 have ua2 := hxa.u2 (show wd ≤ 64 by omega)
 refine enter Try.func51 rfl rfl ?_
 refine zQ ?_
 refine st (by rfl) (S_new (v := .pointer (some ⟨w.heap.size, 0, none⟩)) (ob := .cells #[.slice A N.length cp, .int .i64 most] 27) (by kernel_rfl) fun w1 hT2 hs3 hB4 => ?_)
 replace hB4 : Blk w1 (w.heap.size) 27 [.slice A N.length cp, .int .i64 most] := hB4
 have hT0 := hT2
 have hD := hD.tch0 hT2
 have hHr := hH.tch0 hT0
 have z9 := hT0.size
 have l10 := hB4.lt
 refine st (by rfl) (S_new (v := .pointer (some ⟨w1.heap.size, 0, none⟩)) (ob := .cells #[.int .i64 15, .int .i64 ((nw : Nat) : Int), .int .i64 ((a : Nat) : Int), .int .i64 xb, .int .i64 xc, .int .u64 xv] 32) (by kernel_rfl) fun w5 hT6 hs7 hB8 => ?_)
 replace hB8 : Blk w5 (w1.heap.size) 32 [.int .i64 15, .int .i64 ((nw : Nat) : Int), .int .i64 ((a : Nat) : Int), .int .i64 xb, .int .i64 xc, .int .u64 xv] := hB8
 have hT0 := hT0.t0 hT6
 have hD := hD.tch0 hT6
 have hHr := hH.tch0 hT0
 have hB4 := hB4.tch0 hT6
 have z15 := hT0.size
 have l16 := hB4.lt
 have l17 := hB8.lt
 refine st (by rfl) (S_new (v := .pointer (some ⟨w5.heap.size, 0, none⟩)) (ob := .cells #[.int .u64 0, .int .u64 0] 104) (by kernel_rfl) fun w11 hT12 hs13 hB14 => ?_)
 replace hB14 : Blk w11 (w5.heap.size) 104 [.int .u64 0, .int .u64 0] := hB14
 have hT0 := hT0.t0 hT12
 have hD := hD.tch0 hT12
 have hHr := hH.tch0 hT0
 have hB4 := hB4.tch0 hT12
 have hB8 := hB8.tch0 hT12
 refine op_nil ?_
 refine zQ ?_
 refine st (by rfl) (S_val (v := .agg #[.slice A N.length cp, .int .i64 most]) (R_loadA [.slice A N.length cp, .int .i64 most] (by kernel_rfl) (by kernel_rfl) (by kernel_rfl) (fun k u hk => by rw [hB4.cell]; exact get_part _ 0 _ k u rfl hk)) ?_)
 refine zS [(14, .pointer (some ⟨w1.heap.size, 2, none⟩))] ?_
 refine zL (.int .i64 ((a : Nat) : Int)) ((hB8.cell 2).trans rfl) ?_
 refine st (by rfl) (S_call (args := [.agg #[.slice A N.length cp, .int .i64 most], .int .i64 ((a : Nat) : Int)]) (by kernel_rfl) ((by have q := rwid_ok A cp most N ((a : Nat) : Int) _ hD; rw [hwa] at q; exact q)) ?_)
 rintro _ w18 ⟨rfl, hT19⟩
 have hT0 := hT0.t0 hT19
 have hD := hD.tch0 hT19
 have hHr := hH.tch0 hT0
 have hB4 := hB4.tch0 hT19
 have hB8 := hB8.tch0 hT19
 have hB14 := hB14.tch0 hT19
 refine zS [(7, .int .i64 ((wd : Nat) : Int))] ?_
 refine op_nil ?_
 refine W_seq ?_
 refine zQ ?_
 refine zS [(17, .pointer (some ⟨w1.heap.size, 0, none⟩))] ?_
 refine zL (.int .i64 15) ((hB8.cell 0).trans rfl) ?_
 refine op_nil ?_
 refine W_block ?_
 refine zQ ?_
 refine zS [(20, .bool false), (19, .bool false)] ?_
 refine zO false (fun h => nomatch h) (fun _ => ?_)
 refine W_seq ?_
 refine zQ ?_
 refine zS [(28, .bool false), (27, .bool false)] ?_
 refine zO false (fun h => nomatch h) (fun _ => ?_)
 refine zR ?_
 refine zS [(29, .bool false), (27, .bool false)] ?_
 refine zO false (fun h => nomatch h) (fun _ => ?_)
 refine zQ ?_
 refine zS [(32, .bool true), (31, .bool true)] ?_
 refine zO true (fun _ => ?_) (fun h => nomatch h)
 refine W_seq ?_
 refine W_draw (fun w' => RdW w' 2 k B (kcs l) ∧ Blk w' (w1.heap.size) 32 [.int .i64 15, .int .i64 ((nw : Nat) : Int), .int .i64 ((a : Nat) : Int), .int .i64 xb, .int .i64 xc, .int .u64 xv]) (by kernel_rfl) (by kernel_rfl) (by kernel_rfl) fun w20 hT21 hh22 => ?_
 have hT0 := hT0.t0 hT21
 have hD := hD.tch0 hT21
 have hHr := hH.tch0 hT0
 have hB4 := hB4.tch0 hT21
 have hB8 := hB8.tch0 hT21
 have hB14 := hB14.tch0 hT21
 refine zK [0, 1, 6, 7, 12, 13] #[true, true, false, false, false, false, true, true, false, false, false, false, true, true, false, false, false, false, false, false, false] [(33, .slice B k cb), (34, .pointer (some ⟨w1.heap.size, 2, none⟩)), (39, .slice B k cb), (40, .pointer (some ⟨w1.heap.size, 2, none⟩)), (45, .slice B k cb), (46, .pointer (some ⟨w1.heap.size, 2, none⟩))] ⟨hHr, hB8⟩ ?_
 refine zV 2 rfl (.int .i64 ((a : Nat) : Int)) (fun _ ⟨hHr, hB8⟩ => R_load (v := .int .i64 ((a : Nat) : Int)) (by kernel_rfl) (by kernel_rfl) ((hB8.cell 2).trans rfl)) ⟨hHr, hB8⟩ ?_
 refine zV 3 rfl (ptrAt B (a * 2)) (fun _ ⟨hHr, hB8⟩ => R_indexRd (sz := 2) (len := k) (cap := cb) (k := .i64) (i := ((a : Nat) : Int)) (e := 104) a hHr (by kernel_rfl) (by kernel_rfl) (by kernel_rfl) (by kernel_rfl) rfl (by omega)) ⟨hHr, hB8⟩ ?_
 refine zV 4 rfl (ptrAt B (a * 2)) (fun _ ⟨hHr, hB8⟩ => R_fieldRd (m := 0) hHr (by omega) (by kernel_rfl) (fun _ _ => by rfl)) ⟨hHr, hB8⟩ ?_
 refine zV 5 rfl (.int .u64 (((kg l a).1 : Nat) : Int)) (fun _ ⟨hHr, hB8⟩ => R_loadRd (v := .int .u64 (((kg l a).1 : Nat) : Int)) hHr (by omega) (by kernel_rfl) (by kernel_rfl) ((kcs_part l (by omega) 0 _ rfl))) ⟨hHr, hB8⟩ ?_
 refine zV 8 rfl (.int .i64 ((a : Nat) : Int)) (fun _ ⟨hHr, hB8⟩ => R_load (v := .int .i64 ((a : Nat) : Int)) (by kernel_rfl) (by kernel_rfl) ((hB8.cell 2).trans rfl)) ⟨hHr, hB8⟩ ?_
 refine zV 9 rfl (ptrAt B (a * 2)) (fun _ ⟨hHr, hB8⟩ => R_indexRd (sz := 2) (len := k) (cap := cb) (k := .i64) (i := ((a : Nat) : Int)) (e := 104) a hHr (by kernel_rfl) (by kernel_rfl) (by kernel_rfl) (by kernel_rfl) rfl (by omega)) ⟨hHr, hB8⟩ ?_
 refine zV 10 rfl (ptrAt B (a * 2)) (fun _ ⟨hHr, hB8⟩ => R_fieldRd (m := 0) hHr (by omega) (by kernel_rfl) (fun _ _ => by rfl)) ⟨hHr, hB8⟩ ?_
 refine zV 11 rfl (.int .u64 (((kg l a).1 : Nat) : Int)) (fun _ ⟨hHr, hB8⟩ => R_loadRd (v := .int .u64 (((kg l a).1 : Nat) : Int)) hHr (by omega) (by kernel_rfl) (by kernel_rfl) ((kcs_part l (by omega) 0 _ rfl))) ⟨hHr, hB8⟩ ?_
 refine zV 14 rfl (.int .i64 ((a : Nat) : Int)) (fun _ ⟨hHr, hB8⟩ => R_load (v := .int .i64 ((a : Nat) : Int)) (by kernel_rfl) (by kernel_rfl) ((hB8.cell 2).trans rfl)) ⟨hHr, hB8⟩ ?_
 refine zV 15 rfl (ptrAt B (a * 2)) (fun _ ⟨hHr, hB8⟩ => R_indexRd (sz := 2) (len := k) (cap := cb) (k := .i64) (i := ((a : Nat) : Int)) (e := 104) a hHr (by kernel_rfl) (by kernel_rfl) (by kernel_rfl) (by kernel_rfl) rfl (by omega)) ⟨hHr, hB8⟩ ?_
 refine zV 16 rfl (ptrAt B (a * 2 + 1)) (fun _ ⟨hHr, hB8⟩ => R_fieldRd (m := 1) hHr (by omega) (by kernel_rfl) (fun _ _ => by rfl)) ⟨hHr, hB8⟩ ?_
 refine zV 17 rfl (.int .u64 (((kg l a).2 : Nat) : Int)) (fun _ ⟨hHr, hB8⟩ => R_loadRd (v := .int .u64 (((kg l a).2 : Nat) : Int)) hHr (by omega) (by kernel_rfl) (by kernel_rfl) ((kcs_part l (by omega) 1 _ rfl))) ⟨hHr, hB8⟩ ?_
 refine zK [18] #[true, true, true, true, true, true, true, true, true, true, true, true, true, true, true, true, true, true, true, false, false] [(51, .int .u64 (IntKind.u64.wrap (BitVec.ofInt 64 (((kg l a).1 : Nat) : Int) &&& ~~~BitVec.ofInt 64 (((kg l a).2 : Nat) : Int)).toNat))] ⟨hHr, hB8⟩ ?_
 rw [show IntKind.u64.wrap (BitVec.ofInt 64 (((kg l a).1 : Nat) : Int) &&& ~~~BitVec.ofInt 64 (((kg l a).2 : Nat) : Int)).toNat = ((andn ((kg l a).1) ((kg l a).2) : Nat) : Int) from andn_u ((kg l a).1) ((kg l a).2) ua1 ua2]
 have hu23 : andn ((kg l a).1) ((kg l a).2) < 18446744073709551616 := andn_lt ua1
 refine zK [19] #[true, true, true, true, true, true, true, true, true, true, true, true, true, true, true, true, true, true, true, true, false] [(52, .agg #[.int .u64 (((kg l a).1 : Nat) : Int), .int .u64 ((andn ((kg l a).1) ((kg l a).2) : Nat) : Int)])] ⟨hHr, hB8⟩ ?_
 refine zD 20 rfl (S_storeA (b := w5.heap.size) (j := 0) (cs := [.int .u64 (((kg l a).1 : Nat) : Int), .int .u64 ((andn ((kg l a).1) ((kg l a).2) : Nat) : Int)]) (by kernel_rfl) (by kernel_rfl) (by kernel_rfl) (by simp [oneV]) hB14 (by simp) fun w24 hT25 hs26 hB14' => ?_)
 have hT0 := (hT0).then hT25 (fun c e => by have : c = w5.heap.size := e; omega)
 have hD := hD.tch hT25 (fun c hc e => hD.blk_ne hB14 (by decide) c hc e)
 have hHr := hH.tch0 hT0
 have hB4 := hB4.tch hT25 (hB4.ne hB14 (by decide))
 have hB8 := hB8.tch hT25 (hB8.ne hB14 (by decide))
 replace hB14 : Blk w24 w5.heap.size 104 [.int .u64 (((kg l a).1 : Nat) : Int), .int .u64 ((andn ((kg l a).1) ((kg l a).2) : Nat) : Int)] := hB14'
 refine ⟨⟨hHr, hB8⟩, ?_⟩
 refine d_done (by kernel_rfl) ?_
 refine W_ret ?_
 exact ⟨_, Res_cell (b := w5.heap.size) (cs := [.int .u64 (((kg l a).1 : Nat) : Int), .int .u64 ((andn ((kg l a).1) ((kg l a).2) : Nat) : Int)]) (by rfl) (by kernel_rfl) (by kernel_rfl) hB14 (by kernel_rfl) (by kernel_rfl), ⟨by kernel_rfl, hT0⟩⟩

set_option maxRecDepth 100000 in
theorem rone16_ok (A : Option Addr) (cp : Nat) (most : Int) (N : List Nd) (B : Option Addr) (k cb : Nat) (l : List K) (nw wd up a : Nat) (xb xc xv : Int) (y z : K) (lo V : Nat) (cst : Option Nat) (w : World) (hD : Own w 0 32 6 (.slice A N.length cp) N.length (ncs N)) (hH : RdW w 2 k B (kcs l)) (ha : a < k) (hwa : widF N ((a : Nat) : Int) = ((wd : Nat) : Int)) (hxa : KI wd (kg l a)) (hw : wd ≤ 64) : Ret Try.prog 51 [.agg #[.slice A N.length cp, .int .i64 most], .agg #[.int .i64 16, .int .i64 ((nw : Nat) : Int), .int .i64 ((a : Nat) : Int), .int .i64 xb, .int .i64 xc, .int .u64 xv], .slice B k cb] w fun v w' => v = .agg #[.int .u64 (((kone 16 nw wd up (kg l a) y z lo V cst).1 : Nat) : Int), .int .u64 (((kone 16 nw wd up (kg l a) y z lo V cst).2 : Nat) : Int)] ∧ Tch N0 w w' := by
 have hll : l.length = k := by have := hH.1; rw [kcs_length] at this; omega
 have ua1 := hxa.u1 (show wd ≤ 64 by omega)
 have ua2 := hxa.u2 (show wd ≤ 64 by omega)
 refine enter Try.func51 rfl rfl ?_
 refine zQ ?_
 refine st (by rfl) (S_new (v := .pointer (some ⟨w.heap.size, 0, none⟩)) (ob := .cells #[.slice A N.length cp, .int .i64 most] 27) (by kernel_rfl) fun w1 hT2 hs3 hB4 => ?_)
 replace hB4 : Blk w1 (w.heap.size) 27 [.slice A N.length cp, .int .i64 most] := hB4
 have hT0 := hT2
 have hD := hD.tch0 hT2
 have hHr := hH.tch0 hT0
 have z9 := hT0.size
 have l10 := hB4.lt
 refine st (by rfl) (S_new (v := .pointer (some ⟨w1.heap.size, 0, none⟩)) (ob := .cells #[.int .i64 16, .int .i64 ((nw : Nat) : Int), .int .i64 ((a : Nat) : Int), .int .i64 xb, .int .i64 xc, .int .u64 xv] 32) (by kernel_rfl) fun w5 hT6 hs7 hB8 => ?_)
 replace hB8 : Blk w5 (w1.heap.size) 32 [.int .i64 16, .int .i64 ((nw : Nat) : Int), .int .i64 ((a : Nat) : Int), .int .i64 xb, .int .i64 xc, .int .u64 xv] := hB8
 have hT0 := hT0.t0 hT6
 have hD := hD.tch0 hT6
 have hHr := hH.tch0 hT0
 have hB4 := hB4.tch0 hT6
 have z15 := hT0.size
 have l16 := hB4.lt
 have l17 := hB8.lt
 refine st (by rfl) (S_new (v := .pointer (some ⟨w5.heap.size, 0, none⟩)) (ob := .cells #[.int .u64 0, .int .u64 0] 104) (by kernel_rfl) fun w11 hT12 hs13 hB14 => ?_)
 replace hB14 : Blk w11 (w5.heap.size) 104 [.int .u64 0, .int .u64 0] := hB14
 have hT0 := hT0.t0 hT12
 have hD := hD.tch0 hT12
 have hHr := hH.tch0 hT0
 have hB4 := hB4.tch0 hT12
 have hB8 := hB8.tch0 hT12
 refine op_nil ?_
 refine zQ ?_
 refine st (by rfl) (S_val (v := .agg #[.slice A N.length cp, .int .i64 most]) (R_loadA [.slice A N.length cp, .int .i64 most] (by kernel_rfl) (by kernel_rfl) (by kernel_rfl) (fun k u hk => by rw [hB4.cell]; exact get_part _ 0 _ k u rfl hk)) ?_)
 refine zS [(14, .pointer (some ⟨w1.heap.size, 2, none⟩))] ?_
 refine zL (.int .i64 ((a : Nat) : Int)) ((hB8.cell 2).trans rfl) ?_
 refine st (by rfl) (S_call (args := [.agg #[.slice A N.length cp, .int .i64 most], .int .i64 ((a : Nat) : Int)]) (by kernel_rfl) ((by have q := rwid_ok A cp most N ((a : Nat) : Int) _ hD; rw [hwa] at q; exact q)) ?_)
 rintro _ w18 ⟨rfl, hT19⟩
 have hT0 := hT0.t0 hT19
 have hD := hD.tch0 hT19
 have hHr := hH.tch0 hT0
 have hB4 := hB4.tch0 hT19
 have hB8 := hB8.tch0 hT19
 have hB14 := hB14.tch0 hT19
 refine zS [(7, .int .i64 ((wd : Nat) : Int))] ?_
 refine op_nil ?_
 refine W_seq ?_
 refine zQ ?_
 refine zS [(17, .pointer (some ⟨w1.heap.size, 0, none⟩))] ?_
 refine zL (.int .i64 16) ((hB8.cell 0).trans rfl) ?_
 refine op_nil ?_
 refine W_block ?_
 refine zQ ?_
 refine zS [(20, .bool false), (19, .bool false)] ?_
 refine zO false (fun h => nomatch h) (fun _ => ?_)
 refine W_seq ?_
 refine zQ ?_
 refine zS [(28, .bool false), (27, .bool false)] ?_
 refine zO false (fun h => nomatch h) (fun _ => ?_)
 refine zR ?_
 refine zS [(29, .bool true), (27, .bool true)] ?_
 refine zO true (fun _ => ?_) (fun h => nomatch h)
 refine zQ ?_
 refine zS [(30, .agg #[.int .u64 0, .int .u64 0])] ?_
 refine st (by rfl) (S_storeA (b := w5.heap.size) (j := 0) (cs := [.int .u64 0, .int .u64 0]) (by kernel_rfl) (by kernel_rfl) (by kernel_rfl) (by simp [oneV]) hB14 (by simp) fun w20 hT21 hs22 hB14' => ?_)
 have hT0 := (hT0).then hT21 (fun c e => by have : c = w5.heap.size := e; omega)
 have hD := hD.tch hT21 (fun c hc e => hD.blk_ne hB14 (by decide) c hc e)
 have hHr := hH.tch0 hT0
 have hB4 := hB4.tch hT21 (hB4.ne hB14 (by decide))
 have hB8 := hB8.tch hT21 (hB8.ne hB14 (by decide))
 replace hB14 : Blk w20 w5.heap.size 104 [.int .u64 0, .int .u64 0] := hB14'
 refine op_nil ?_
 refine W_ret ?_
 exact ⟨_, Res_cell (b := w5.heap.size) (cs := [.int .u64 0, .int .u64 0]) (by rfl) (by kernel_rfl) (by kernel_rfl) hB14 (by kernel_rfl) (by kernel_rfl), ⟨by kernel_rfl, hT0⟩⟩

set_option maxRecDepth 100000 in
theorem rone2_ok (A : Option Addr) (cp : Nat) (most : Int) (N : List Nd) (B : Option Addr) (k cb : Nat) (l : List K) (nw wd up a b : Nat) (xc xv : Int) (z : K) (lo V : Nat) (by_ O : Nat) (w : World) (hD : Own w 0 32 6 (.slice A N.length cp) N.length (ncs N)) (hH : RdW w 2 k B (kcs l)) (ha : a < k) (hb : b < k) (hwa : widF N ((a : Nat) : Int) = ((wd : Nat) : Int)) (hxa : KI wd (kg l a)) (hxb : KI wd (kg l b)) (hw : wd ≤ 64) (hO : 1 ≤ O ∧ O ≤ 14) (hbN : b < N.length) (hv : nV (nth N b) = ((by_ : Nat) : Int)) (hby : by_ < 18446744073709551616) : Ret Try.prog 51 [.agg #[.slice A N.length cp, .int .i64 most], .agg #[.int .i64 ((O : Nat) : Int), .int .i64 ((nw : Nat) : Int), .int .i64 ((a : Nat) : Int), .int .i64 ((b : Nat) : Int), .int .i64 xc, .int .u64 xv], .slice B k cb] w fun v w' => v = .agg #[.int .u64 (((kone O nw wd up (kg l a) (kg l b) z lo V (if nO (nth N b) = 20 then some by_ else none)).1 : Nat) : Int), .int .u64 (((kone O nw wd up (kg l a) (kg l b) z lo V (if nO (nth N b) = 20 then some by_ else none)).2 : Nat) : Int)] ∧ Tch N0 w w' := by
 have hll : l.length = k := by have := hH.1; rw [kcs_length] at this; omega
 have ua1 := hxa.u1 (show wd ≤ 64 by omega)
 have ua2 := hxa.u2 (show wd ≤ 64 by omega)
 have ub1 := hxb.u1 (show wd ≤ 64 by omega)
 have ub2 := hxb.u2 (show wd ≤ 64 by omega)
 refine enter Try.func51 rfl rfl ?_
 refine zQ ?_
 refine st (by rfl) (S_new (v := .pointer (some ⟨w.heap.size, 0, none⟩)) (ob := .cells #[.slice A N.length cp, .int .i64 most] 27) (by kernel_rfl) fun w1 hT2 hs3 hB4 => ?_)
 replace hB4 : Blk w1 (w.heap.size) 27 [.slice A N.length cp, .int .i64 most] := hB4
 have hT0 := hT2
 have hD := hD.tch0 hT2
 have hHr := hH.tch0 hT0
 have z9 := hT0.size
 have l10 := hB4.lt
 refine st (by rfl) (S_new (v := .pointer (some ⟨w1.heap.size, 0, none⟩)) (ob := .cells #[.int .i64 ((O : Nat) : Int), .int .i64 ((nw : Nat) : Int), .int .i64 ((a : Nat) : Int), .int .i64 ((b : Nat) : Int), .int .i64 xc, .int .u64 xv] 32) (by kernel_rfl) fun w5 hT6 hs7 hB8 => ?_)
 replace hB8 : Blk w5 (w1.heap.size) 32 [.int .i64 ((O : Nat) : Int), .int .i64 ((nw : Nat) : Int), .int .i64 ((a : Nat) : Int), .int .i64 ((b : Nat) : Int), .int .i64 xc, .int .u64 xv] := hB8
 have hT0 := hT0.t0 hT6
 have hD := hD.tch0 hT6
 have hHr := hH.tch0 hT0
 have hB4 := hB4.tch0 hT6
 have z15 := hT0.size
 have l16 := hB4.lt
 have l17 := hB8.lt
 refine st (by rfl) (S_new (v := .pointer (some ⟨w5.heap.size, 0, none⟩)) (ob := .cells #[.int .u64 0, .int .u64 0] 104) (by kernel_rfl) fun w11 hT12 hs13 hB14 => ?_)
 replace hB14 : Blk w11 (w5.heap.size) 104 [.int .u64 0, .int .u64 0] := hB14
 have hT0 := hT0.t0 hT12
 have hD := hD.tch0 hT12
 have hHr := hH.tch0 hT0
 have hB4 := hB4.tch0 hT12
 have hB8 := hB8.tch0 hT12
 refine op_nil ?_
 refine zQ ?_
 refine st (by rfl) (S_val (v := .agg #[.slice A N.length cp, .int .i64 most]) (R_loadA [.slice A N.length cp, .int .i64 most] (by kernel_rfl) (by kernel_rfl) (by kernel_rfl) (fun k u hk => by rw [hB4.cell]; exact get_part _ 0 _ k u rfl hk)) ?_)
 refine zS [(14, .pointer (some ⟨w1.heap.size, 2, none⟩))] ?_
 refine zL (.int .i64 ((a : Nat) : Int)) ((hB8.cell 2).trans rfl) ?_
 refine st (by rfl) (S_call (args := [.agg #[.slice A N.length cp, .int .i64 most], .int .i64 ((a : Nat) : Int)]) (by kernel_rfl) ((by have q := rwid_ok A cp most N ((a : Nat) : Int) _ hD; rw [hwa] at q; exact q)) ?_)
 rintro _ w18 ⟨rfl, hT19⟩
 have hT0 := hT0.t0 hT19
 have hD := hD.tch0 hT19
 have hHr := hH.tch0 hT0
 have hB4 := hB4.tch0 hT19
 have hB8 := hB8.tch0 hT19
 have hB14 := hB14.tch0 hT19
 refine zS [(7, .int .i64 ((wd : Nat) : Int))] ?_
 refine op_nil ?_
 refine W_seq ?_
 refine zQ ?_
 refine zS [(17, .pointer (some ⟨w1.heap.size, 0, none⟩))] ?_
 refine zL (.int .i64 ((O : Nat) : Int)) ((hB8.cell 0).trans rfl) ?_
 refine op_nil ?_
 refine W_block ?_
 refine zQ ?_
 refine zS [(20, .bool (((O : Nat) : Int) == 20)), (19, .bool (((O : Nat) : Int) == 20))] ?_
 refine zO (((O : Nat) : Int) == 20) (fun hc20 => ?_) (fun hc20 => ?_)
 ·
  replace hc20 : ((O : Nat) : Int) = 20 := (eq_of_beq hc20)
  exfalso; omega
 ·
  replace hc20 : ((O : Nat) : Int) ≠ 20 := (ne_of_beq_false hc20)
  refine W_seq ?_
  refine zQ ?_
  refine zS [(28, .bool (((O : Nat) : Int) == 21)), (27, .bool (((O : Nat) : Int) == 21))] ?_
  refine zO (((O : Nat) : Int) == 21) (fun hc21 => ?_) (fun hc21 => ?_)
  ·
   replace hc21 : ((O : Nat) : Int) = 21 := (eq_of_beq hc21)
   exfalso; omega
  ·
   replace hc21 : ((O : Nat) : Int) ≠ 21 := (ne_of_beq_false hc21)
   refine zR ?_
   refine zS [(29, .bool (((O : Nat) : Int) == 16)), (27, .bool (((O : Nat) : Int) == 16))] ?_
   refine zO (((O : Nat) : Int) == 16) (fun hc22 => ?_) (fun hc22 => ?_)
   ·
    replace hc22 : ((O : Nat) : Int) = 16 := (eq_of_beq hc22)
    exfalso; omega
   ·
    replace hc22 : ((O : Nat) : Int) ≠ 16 := (ne_of_beq_false hc22)
    refine zQ ?_
    refine zS [(32, .bool (((O : Nat) : Int) == 15)), (31, .bool (((O : Nat) : Int) == 15))] ?_
    refine zO (((O : Nat) : Int) == 15) (fun hc23 => ?_) (fun hc23 => ?_)
    ·
     replace hc23 : ((O : Nat) : Int) = 15 := (eq_of_beq hc23)
     exfalso; omega
    ·
     replace hc23 : ((O : Nat) : Int) ≠ 15 := (ne_of_beq_false hc23)
     refine zQ ?_
     refine zS [(54, .bool (((O : Nat) : Int) == 22)), (53, .bool (((O : Nat) : Int) == 22))] ?_
     refine zO (((O : Nat) : Int) == 22) (fun hc24 => ?_) (fun hc24 => ?_)
     ·
      replace hc24 : ((O : Nat) : Int) = 22 := (eq_of_beq hc24)
      exfalso; omega
     ·
      replace hc24 : ((O : Nat) : Int) ≠ 22 := (ne_of_beq_false hc24)
      refine zQ ?_
      refine zS [(93, .bool (((O : Nat) : Int) == 23)), (92, .bool (((O : Nat) : Int) == 23))] ?_
      refine zO (((O : Nat) : Int) == 23) (fun hc25 => ?_) (fun hc25 => ?_)
      ·
       replace hc25 : ((O : Nat) : Int) = 23 := (eq_of_beq hc25)
       exfalso; omega
      ·
       replace hc25 : ((O : Nat) : Int) ≠ 23 := (ne_of_beq_false hc25)
       refine zQ ?_
       refine zS [(106, .bool (((O : Nat) : Int) == 25)), (105, .bool (((O : Nat) : Int) == 25))] ?_
       refine zO (((O : Nat) : Int) == 25) (fun hc26 => ?_) (fun hc26 => ?_)
       ·
        replace hc26 : ((O : Nat) : Int) = 25 := (eq_of_beq hc26)
        exfalso; omega
       ·
        replace hc26 : ((O : Nat) : Int) ≠ 25 := (ne_of_beq_false hc26)
        refine zQ ?_
        refine zS [(117, .bool (((O : Nat) : Int) == 26)), (116, .bool (((O : Nat) : Int) == 26))] ?_
        refine zO (((O : Nat) : Int) == 26) (fun hc27 => ?_) (fun hc27 => ?_)
        ·
         replace hc27 : ((O : Nat) : Int) = 26 := (eq_of_beq hc27)
         exfalso; omega
        ·
         replace hc27 : ((O : Nat) : Int) ≠ 26 := (ne_of_beq_false hc27)
         refine zQ ?_
         refine zS [(141, .bool (((O : Nat) : Int) == 24)), (140, .bool (((O : Nat) : Int) == 24))] ?_
         refine zO (((O : Nat) : Int) == 24) (fun hc28 => ?_) (fun hc28 => ?_)
         ·
          replace hc28 : ((O : Nat) : Int) = 24 := (eq_of_beq hc28)
          exfalso; omega
         ·
          replace hc28 : ((O : Nat) : Int) ≠ 24 := (ne_of_beq_false hc28)
          refine W_skip ?_
          refine zQ ?_
          refine st (by rfl) (S_val (v := .agg #[.slice A N.length cp, .int .i64 most]) (R_loadA [.slice A N.length cp, .int .i64 most] (by kernel_rfl) (by kernel_rfl) (by kernel_rfl) (fun k u hk => by rw [hB4.cell]; exact get_part _ 0 _ k u rfl hk)) ?_)
          refine st (by rfl) (S_val (v := .agg #[.int .i64 ((O : Nat) : Int), .int .i64 ((nw : Nat) : Int), .int .i64 ((a : Nat) : Int), .int .i64 ((b : Nat) : Int), .int .i64 xc, .int .u64 xv]) (R_loadA [.int .i64 ((O : Nat) : Int), .int .i64 ((nw : Nat) : Int), .int .i64 ((a : Nat) : Int), .int .i64 ((b : Nat) : Int), .int .i64 xc, .int .u64 xv] (by kernel_rfl) (by kernel_rfl) (by kernel_rfl) (fun k u hk => by rw [hB8.cell]; exact get_part _ 0 _ k u rfl hk)) ?_)
          refine zS [(180, .slice B k cb)] ?_
          refine zC (rbinary_ok A cp most N B k cb l nw wd up a b xc xv z lo V by_ O _ hD hHr ha hb hwa hxa hxb hw hO hbN hv hby) ?_
          rintro _ w29 ⟨rfl, hT30⟩
          have hT0 := hT0.t0 hT30
          have hD := hD.tch0 hT30
          have hHr := hH.tch0 hT0
          have hB4 := hB4.tch0 hT30
          have hB8 := hB8.tch0 hT30
          have hB14 := hB14.tch0 hT30
          refine st (by rfl) (S_storeA (b := w5.heap.size) (j := 0) (cs := [.int .u64 (((kone O nw wd up (kg l a) (kg l b) z lo V (if nO (nth N b) = 20 then some by_ else none)).1 : Nat) : Int), .int .u64 (((kone O nw wd up (kg l a) (kg l b) z lo V (if nO (nth N b) = 20 then some by_ else none)).2 : Nat) : Int)]) (by kernel_rfl) (by kernel_rfl) (by kernel_rfl) (by simp [oneV]) hB14 (by simp) fun w31 hT32 hs33 hB14' => ?_)
          have hT0 := (hT0).then hT32 (fun c e => by have : c = w5.heap.size := e; omega)
          have hD := hD.tch hT32 (fun c hc e => hD.blk_ne hB14 (by decide) c hc e)
          have hHr := hH.tch0 hT0
          have hB4 := hB4.tch hT32 (hB4.ne hB14 (by decide))
          have hB8 := hB8.tch hT32 (hB8.ne hB14 (by decide))
          replace hB14 : Blk w31 w5.heap.size 104 [.int .u64 (((kone O nw wd up (kg l a) (kg l b) z lo V (if nO (nth N b) = 20 then some by_ else none)).1 : Nat) : Int), .int .u64 (((kone O nw wd up (kg l a) (kg l b) z lo V (if nO (nth N b) = 20 then some by_ else none)).2 : Nat) : Int)] := hB14'
          refine op_nil ?_
          refine W_ret ?_
          exact ⟨_, Res_cell (b := w5.heap.size) (cs := [.int .u64 (((kone O nw wd up (kg l a) (kg l b) z lo V (if nO (nth N b) = 20 then some by_ else none)).1 : Nat) : Int), .int .u64 (((kone O nw wd up (kg l a) (kg l b) z lo V (if nO (nth N b) = 20 then some by_ else none)).2 : Nat) : Int)]) (by rfl) (by kernel_rfl) (by kernel_rfl) hB14 (by kernel_rfl) (by kernel_rfl), ⟨rfl, hT0⟩⟩

set_option maxRecDepth 100000 in
theorem rone22_ok (A : Option Addr) (cp : Nat) (most : Int) (N : List Nd) (B : Option Addr) (k cb : Nat) (l : List K) (nw wd up a b c : Nat) (xv : Int) (lo V : Nat) (cst : Option Nat) (w : World) (hD : Own w 0 32 6 (.slice A N.length cp) N.length (ncs N)) (hH : RdW w 2 k B (kcs l)) (ha : a < k) (hb : b < k) (hc : c < k) (hwa : widF N ((a : Nat) : Int) = ((wd : Nat) : Int)) (hxa : KI 1 (kg l a)) (hxb : KI nw (kg l b)) (hxc : KI nw (kg l c)) (hw : nw ≤ 64) : Ret Try.prog 51 [.agg #[.slice A N.length cp, .int .i64 most], .agg #[.int .i64 22, .int .i64 ((nw : Nat) : Int), .int .i64 ((a : Nat) : Int), .int .i64 ((b : Nat) : Int), .int .i64 ((c : Nat) : Int), .int .u64 xv], .slice B k cb] w fun v w' => v = .agg #[.int .u64 (((kone 22 nw wd up (kg l a) (kg l b) (kg l c) lo V cst).1 : Nat) : Int), .int .u64 (((kone 22 nw wd up (kg l a) (kg l b) (kg l c) lo V cst).2 : Nat) : Int)] ∧ Tch N0 w w' := by
 have hll : l.length = k := by have := hH.1; rw [kcs_length] at this; omega
 have ua1 := hxa.u1 (show 1 ≤ 64 by omega)
 have ua2 := hxa.u2 (show 1 ≤ 64 by omega)
 have ub1 := hxb.u1 (show nw ≤ 64 by omega)
 have ub2 := hxb.u2 (show nw ≤ 64 by omega)
 have uc1 := hxc.u1 (show nw ≤ 64 by omega)
 have uc2 := hxc.u2 (show nw ≤ 64 by omega)
 refine enter Try.func51 rfl rfl ?_
 refine zQ ?_
 refine st (by rfl) (S_new (v := .pointer (some ⟨w.heap.size, 0, none⟩)) (ob := .cells #[.slice A N.length cp, .int .i64 most] 27) (by kernel_rfl) fun w1 hT2 hs3 hB4 => ?_)
 replace hB4 : Blk w1 (w.heap.size) 27 [.slice A N.length cp, .int .i64 most] := hB4
 have hT0 := hT2
 have hD := hD.tch0 hT2
 have hHr := hH.tch0 hT0
 have z9 := hT0.size
 have l10 := hB4.lt
 refine st (by rfl) (S_new (v := .pointer (some ⟨w1.heap.size, 0, none⟩)) (ob := .cells #[.int .i64 22, .int .i64 ((nw : Nat) : Int), .int .i64 ((a : Nat) : Int), .int .i64 ((b : Nat) : Int), .int .i64 ((c : Nat) : Int), .int .u64 xv] 32) (by kernel_rfl) fun w5 hT6 hs7 hB8 => ?_)
 replace hB8 : Blk w5 (w1.heap.size) 32 [.int .i64 22, .int .i64 ((nw : Nat) : Int), .int .i64 ((a : Nat) : Int), .int .i64 ((b : Nat) : Int), .int .i64 ((c : Nat) : Int), .int .u64 xv] := hB8
 have hT0 := hT0.t0 hT6
 have hD := hD.tch0 hT6
 have hHr := hH.tch0 hT0
 have hB4 := hB4.tch0 hT6
 have z15 := hT0.size
 have l16 := hB4.lt
 have l17 := hB8.lt
 refine st (by rfl) (S_new (v := .pointer (some ⟨w5.heap.size, 0, none⟩)) (ob := .cells #[.int .u64 0, .int .u64 0] 104) (by kernel_rfl) fun w11 hT12 hs13 hB14 => ?_)
 replace hB14 : Blk w11 (w5.heap.size) 104 [.int .u64 0, .int .u64 0] := hB14
 have hT0 := hT0.t0 hT12
 have hD := hD.tch0 hT12
 have hHr := hH.tch0 hT0
 have hB4 := hB4.tch0 hT12
 have hB8 := hB8.tch0 hT12
 refine op_nil ?_
 refine zQ ?_
 refine st (by rfl) (S_val (v := .agg #[.slice A N.length cp, .int .i64 most]) (R_loadA [.slice A N.length cp, .int .i64 most] (by kernel_rfl) (by kernel_rfl) (by kernel_rfl) (fun k u hk => by rw [hB4.cell]; exact get_part _ 0 _ k u rfl hk)) ?_)
 refine zS [(14, .pointer (some ⟨w1.heap.size, 2, none⟩))] ?_
 refine zL (.int .i64 ((a : Nat) : Int)) ((hB8.cell 2).trans rfl) ?_
 refine st (by rfl) (S_call (args := [.agg #[.slice A N.length cp, .int .i64 most], .int .i64 ((a : Nat) : Int)]) (by kernel_rfl) ((by have q := rwid_ok A cp most N ((a : Nat) : Int) _ hD; rw [hwa] at q; exact q)) ?_)
 rintro _ w18 ⟨rfl, hT19⟩
 have hT0 := hT0.t0 hT19
 have hD := hD.tch0 hT19
 have hHr := hH.tch0 hT0
 have hB4 := hB4.tch0 hT19
 have hB8 := hB8.tch0 hT19
 have hB14 := hB14.tch0 hT19
 refine zS [(7, .int .i64 ((wd : Nat) : Int))] ?_
 refine op_nil ?_
 refine W_seq ?_
 refine zQ ?_
 refine zS [(17, .pointer (some ⟨w1.heap.size, 0, none⟩))] ?_
 refine zL (.int .i64 22) ((hB8.cell 0).trans rfl) ?_
 refine op_nil ?_
 refine W_block ?_
 refine zQ ?_
 refine zS [(20, .bool false), (19, .bool false)] ?_
 refine zO false (fun h => nomatch h) (fun _ => ?_)
 refine W_seq ?_
 refine zQ ?_
 refine zS [(28, .bool false), (27, .bool false)] ?_
 refine zO false (fun h => nomatch h) (fun _ => ?_)
 refine zR ?_
 refine zS [(29, .bool false), (27, .bool false)] ?_
 refine zO false (fun h => nomatch h) (fun _ => ?_)
 refine zQ ?_
 refine zS [(32, .bool false), (31, .bool false)] ?_
 refine zO false (fun h => nomatch h) (fun _ => ?_)
 refine zQ ?_
 refine zS [(54, .bool true), (53, .bool true)] ?_
 refine zO true (fun _ => ?_) (fun h => nomatch h)
 refine zQ ?_
 refine zS [(56, .slice B k cb), (57, .pointer (some ⟨w1.heap.size, 2, none⟩))] ?_
 refine zL (.int .i64 ((a : Nat) : Int)) ((hB8.cell 2).trans rfl) ?_
 refine stv (v := ptrAt B (a * 2)) (by rfl) (R_indexRd (sz := 2) (len := k) (cap := cb) (k := .i64) (i := ((a : Nat) : Int)) (e := 104) a hHr (by kernel_rfl) (by kernel_rfl) (by kernel_rfl) (by kernel_rfl) rfl (by omega)) ?_
 refine stv (v := .agg #[.int .u64 (((kg l a).1 : Nat) : Int), .int .u64 (((kg l a).2 : Nat) : Int)]) (by rfl) (R_loadRdA [.int .u64 (((kg l a).1 : Nat) : Int), .int .u64 (((kg l a).2 : Nat) : Int)] hHr (by omega) (by kernel_rfl) (by kernel_rfl) (by kernel_rfl) (kcs_part l (by omega))) ?_
 refine zC (rbit2_ok ((kg l a).1) ((kg l a).2) 0 _ (by omega) ua1 ua2) ?_
 rintro _ w20 ⟨rfl, hT21⟩
 have hT0 := hT0.t0 hT21
 have hD := hD.tch0 hT21
 have hHr := hH.tch0 hT0
 have hB4 := hB4.tch0 hT21
 have hB8 := hB8.tch0 hT21
 have hB14 := hB14.tch0 hT21
 refine zS [(55, .tuple #[.bool (((kg l a).1).testBit 0), .bool (((kg l a).2).testBit 0)]), (62, .bool (((kg l a).1).testBit 0)), (63, .bool (((kg l a).2).testBit 0)), (8, .bool (((kg l a).1).testBit 0)), (9, .bool (((kg l a).2).testBit 0))] ?_
 refine op_nil ?_
 refine W_seq ?_
 refine zQ ?_
 refine zS [(64, .bool (((kg l a).1).testBit 0)), (65, .bool (((kg l a).1).testBit 0))] ?_
 cases hb22 : ((kg l a).1).testBit 0
 ·
  replace hb22 : ((kg l a).1).testBit 0 = false := (hb22)
  refine zS [(66, undef), (67, .bool false)] ?_
  refine zO false (fun h => nomatch h) (fun _ => ?_)
  refine W_skip ?_
  refine W_seq ?_
  refine zQ ?_
  refine zS [(73, .bool false)] ?_
  refine zO false (fun h => nomatch h) (fun _ => ?_)
  refine W_skip ?_
  refine W_seq ?_
  refine W_draw (fun w' => RdW w' 2 k B (kcs l) ∧ Blk w' (w1.heap.size) 32 [.int .i64 22, .int .i64 ((nw : Nat) : Int), .int .i64 ((a : Nat) : Int), .int .i64 ((b : Nat) : Int), .int .i64 ((c : Nat) : Int), .int .u64 xv]) (by kernel_rfl) (by kernel_rfl) (by kernel_rfl) fun w23 hT24 hh25 => ?_
  have hT0 := hT0.t0 hT24
  have hD := hD.tch0 hT24
  have hHr := hH.tch0 hT0
  have hB4 := hB4.tch0 hT24
  have hB8 := hB8.tch0 hT24
  have hB14 := hB14.tch0 hT24
  refine zK [0, 2, 3, 7, 8] #[true, false, true, true, false, false, false, true, true, false, false, false, false, false] [(79, .pointer (some ⟨w1.heap.size, 1, none⟩)), (81, .slice B k cb), (82, .pointer (some ⟨w1.heap.size, 3, none⟩)), (86, .slice B k cb), (87, .pointer (some ⟨w1.heap.size, 4, none⟩))] ⟨hHr, hB8⟩ ?_
  refine zV 1 rfl (.int .i64 ((nw : Nat) : Int)) (fun _ ⟨hHr, hB8⟩ => R_load (v := .int .i64 ((nw : Nat) : Int)) (by kernel_rfl) (by kernel_rfl) ((hB8.cell 1).trans rfl)) ⟨hHr, hB8⟩ ?_
  refine zV 4 rfl (.int .i64 ((b : Nat) : Int)) (fun _ ⟨hHr, hB8⟩ => R_load (v := .int .i64 ((b : Nat) : Int)) (by kernel_rfl) (by kernel_rfl) ((hB8.cell 3).trans rfl)) ⟨hHr, hB8⟩ ?_
  refine zV 5 rfl (ptrAt B (b * 2)) (fun _ ⟨hHr, hB8⟩ => R_indexRd (sz := 2) (len := k) (cap := cb) (k := .i64) (i := ((b : Nat) : Int)) (e := 104) b hHr (by kernel_rfl) (by kernel_rfl) (by kernel_rfl) (by kernel_rfl) rfl (by omega)) ⟨hHr, hB8⟩ ?_
  refine zV 6 rfl (.agg #[.int .u64 (((kg l b).1 : Nat) : Int), .int .u64 (((kg l b).2 : Nat) : Int)]) (fun _ ⟨hHr, hB8⟩ => R_loadRdA [.int .u64 (((kg l b).1 : Nat) : Int), .int .u64 (((kg l b).2 : Nat) : Int)] hHr (by omega) (by kernel_rfl) (by kernel_rfl) (by kernel_rfl) (kcs_part l (by omega))) ⟨hHr, hB8⟩ ?_
  refine zV 9 rfl (.int .i64 ((c : Nat) : Int)) (fun _ ⟨hHr, hB8⟩ => R_load (v := .int .i64 ((c : Nat) : Int)) (by kernel_rfl) (by kernel_rfl) ((hB8.cell 4).trans rfl)) ⟨hHr, hB8⟩ ?_
  refine zV 10 rfl (ptrAt B (c * 2)) (fun _ ⟨hHr, hB8⟩ => R_indexRd (sz := 2) (len := k) (cap := cb) (k := .i64) (i := ((c : Nat) : Int)) (e := 104) c hHr (by kernel_rfl) (by kernel_rfl) (by kernel_rfl) (by kernel_rfl) rfl (by omega)) ⟨hHr, hB8⟩ ?_
  refine zV 11 rfl (.agg #[.int .u64 (((kg l c).1 : Nat) : Int), .int .u64 (((kg l c).2 : Nat) : Int)]) (fun _ ⟨hHr, hB8⟩ => R_loadRdA [.int .u64 (((kg l c).1 : Nat) : Int), .int .u64 (((kg l c).2 : Nat) : Int)] hHr (by omega) (by kernel_rfl) (by kernel_rfl) (by kernel_rfl) (kcs_part l (by omega))) ⟨hHr, hB8⟩ ?_
  refine zD 12 rfl (S_call (args := [.int .i64 ((nw : Nat) : Int), .agg #[.int .u64 (((kg l b).1 : Nat) : Int), .int .u64 (((kg l b).2 : Nat) : Int)], .agg #[.int .u64 (((kg l c).1 : Nat) : Int), .int .u64 (((kg l c).2 : Nat) : Int)]]) (by kernel_rfl) (rsame_ok nw (kg l b) (kg l c) _ hxb hxc hw) ?_)
  rintro _ w26 ⟨rfl, hT27⟩
  have hT0 := hT0.t0 hT27
  have hD := hD.tch0 hT27
  have hHr := hH.tch0 hT0
  have hB4 := hB4.tch0 hT27
  have hB8 := hB8.tch0 hT27
  have hB14 := hB14.tch0 hT27
  refine ⟨⟨hHr, hB8⟩, ?_⟩
  refine zD 13 rfl (S_storeA (b := w5.heap.size) (j := 0) (cs := [.int .u64 (((ksame nw (kg l b) (kg l c)).1 : Nat) : Int), .int .u64 (((ksame nw (kg l b) (kg l c)).2 : Nat) : Int)]) (by kernel_rfl) (by kernel_rfl) (by kernel_rfl) (by simp [oneV]) hB14 (by simp) fun w28 hT29 hs30 hB14' => ?_)
  have hT0 := (hT0).then hT29 (fun c e => by have : c = w5.heap.size := e; omega)
  have hD := hD.tch hT29 (fun c hc e => hD.blk_ne hB14 (by decide) c hc e)
  have hHr := hH.tch0 hT0
  have hB4 := hB4.tch hT29 (hB4.ne hB14 (by decide))
  have hB8 := hB8.tch hT29 (hB8.ne hB14 (by decide))
  replace hB14 : Blk w28 w5.heap.size 104 [.int .u64 (((ksame nw (kg l b) (kg l c)).1 : Nat) : Int), .int .u64 (((ksame nw (kg l b) (kg l c)).2 : Nat) : Int)] := hB14'
  refine ⟨⟨hHr, hB8⟩, ?_⟩
  refine d_done (by kernel_rfl) ?_
  refine W_ret ?_
  exact ⟨_, Res_cell (b := w5.heap.size) (cs := [.int .u64 (((ksame nw (kg l b) (kg l c)).1 : Nat) : Int), .int .u64 (((ksame nw (kg l b) (kg l c)).2 : Nat) : Int)]) (by rfl) (by kernel_rfl) (by kernel_rfl) hB14 (by kernel_rfl) (by kernel_rfl), ⟨by show _ = kV (kite nw (kg l a) (kg l b) (kg l c)); unfold kite; rw [if_neg (fun q => by have := q.1; simp_all), if_neg (fun q => by simp_all)]; rfl, hT0⟩⟩
 ·
  replace hb22 : ((kg l a).1).testBit 0 = true := (hb22)
  refine zS [(66, .bool (((kg l a).2).testBit 0)), (67, .bool (((kg l a).2).testBit 0))] ?_
  refine zO (((kg l a).2).testBit 0) (fun hc31 => ?_) (fun hc31 => ?_)
  ·
   replace hc31 : ((kg l a).2).testBit 0 = true := (hc31)
   refine zQ ?_
   refine zS [(68, .slice B k cb), (69, .pointer (some ⟨w1.heap.size, 3, none⟩))] ?_
   refine zL (.int .i64 ((b : Nat) : Int)) ((hB8.cell 3).trans rfl) ?_
   refine stv (v := ptrAt B (b * 2)) (by rfl) (R_indexRd (sz := 2) (len := k) (cap := cb) (k := .i64) (i := ((b : Nat) : Int)) (e := 104) b hHr (by kernel_rfl) (by kernel_rfl) (by kernel_rfl) (by kernel_rfl) rfl (by omega)) ?_
   refine stv (v := .agg #[.int .u64 (((kg l b).1 : Nat) : Int), .int .u64 (((kg l b).2 : Nat) : Int)]) (by rfl) (R_loadRdA [.int .u64 (((kg l b).1 : Nat) : Int), .int .u64 (((kg l b).2 : Nat) : Int)] hHr (by omega) (by kernel_rfl) (by kernel_rfl) (by kernel_rfl) (kcs_part l (by omega))) ?_
   refine st (by rfl) (S_storeA (b := w5.heap.size) (j := 0) (cs := [.int .u64 (((kg l b).1 : Nat) : Int), .int .u64 (((kg l b).2 : Nat) : Int)]) (by kernel_rfl) (by kernel_rfl) (by kernel_rfl) (by simp [oneV]) hB14 (by simp) fun w32 hT33 hs34 hB14' => ?_)
   have hT0 := (hT0).then hT33 (fun c e => by have : c = w5.heap.size := e; omega)
   have hD := hD.tch hT33 (fun c hc e => hD.blk_ne hB14 (by decide) c hc e)
   have hHr := hH.tch0 hT0
   have hB4 := hB4.tch hT33 (hB4.ne hB14 (by decide))
   have hB8 := hB8.tch hT33 (hB8.ne hB14 (by decide))
   replace hB14 : Blk w32 w5.heap.size 104 [.int .u64 (((kg l b).1 : Nat) : Int), .int .u64 (((kg l b).2 : Nat) : Int)] := hB14'
   refine op_nil ?_
   refine W_ret ?_
   exact ⟨_, Res_cell (b := w5.heap.size) (cs := [.int .u64 (((kg l b).1 : Nat) : Int), .int .u64 (((kg l b).2 : Nat) : Int)]) (by rfl) (by kernel_rfl) (by kernel_rfl) hB14 (by kernel_rfl) (by kernel_rfl), ⟨by show _ = kV (kite nw (kg l a) (kg l b) (kg l c)); unfold kite; rw [if_pos ⟨by assumption, by assumption⟩]; rfl, hT0⟩⟩
  ·
   replace hc31 : ((kg l a).2).testBit 0 = false := (hc31)
   refine W_skip ?_
   refine W_seq ?_
   refine zQ ?_
   refine zS [(73, .bool true)] ?_
   refine zO true (fun _ => ?_) (fun h => nomatch h)
   refine zQ ?_
   refine zS [(74, .slice B k cb), (75, .pointer (some ⟨w1.heap.size, 4, none⟩))] ?_
   refine zL (.int .i64 ((c : Nat) : Int)) ((hB8.cell 4).trans rfl) ?_
   refine stv (v := ptrAt B (c * 2)) (by rfl) (R_indexRd (sz := 2) (len := k) (cap := cb) (k := .i64) (i := ((c : Nat) : Int)) (e := 104) c hHr (by kernel_rfl) (by kernel_rfl) (by kernel_rfl) (by kernel_rfl) rfl (by omega)) ?_
   refine stv (v := .agg #[.int .u64 (((kg l c).1 : Nat) : Int), .int .u64 (((kg l c).2 : Nat) : Int)]) (by rfl) (R_loadRdA [.int .u64 (((kg l c).1 : Nat) : Int), .int .u64 (((kg l c).2 : Nat) : Int)] hHr (by omega) (by kernel_rfl) (by kernel_rfl) (by kernel_rfl) (kcs_part l (by omega))) ?_
   refine st (by rfl) (S_storeA (b := w5.heap.size) (j := 0) (cs := [.int .u64 (((kg l c).1 : Nat) : Int), .int .u64 (((kg l c).2 : Nat) : Int)]) (by kernel_rfl) (by kernel_rfl) (by kernel_rfl) (by simp [oneV]) hB14 (by simp) fun w35 hT36 hs37 hB14' => ?_)
   have hT0 := (hT0).then hT36 (fun c e => by have : c = w5.heap.size := e; omega)
   have hD := hD.tch hT36 (fun c hc e => hD.blk_ne hB14 (by decide) c hc e)
   have hHr := hH.tch0 hT0
   have hB4 := hB4.tch hT36 (hB4.ne hB14 (by decide))
   have hB8 := hB8.tch hT36 (hB8.ne hB14 (by decide))
   replace hB14 : Blk w35 w5.heap.size 104 [.int .u64 (((kg l c).1 : Nat) : Int), .int .u64 (((kg l c).2 : Nat) : Int)] := hB14'
   refine op_nil ?_
   refine W_ret ?_
   exact ⟨_, Res_cell (b := w5.heap.size) (cs := [.int .u64 (((kg l c).1 : Nat) : Int), .int .u64 (((kg l c).2 : Nat) : Int)]) (by rfl) (by kernel_rfl) (by kernel_rfl) hB14 (by kernel_rfl) (by kernel_rfl), ⟨by show _ = kV (kite nw (kg l a) (kg l b) (kg l c)); unfold kite; rw [if_neg (fun q => by have := q.2; simp_all), if_pos (by assumption)]; rfl, hT0⟩⟩

set_option maxRecDepth 100000 in
theorem rone23_ok (A : Option Addr) (cp : Nat) (most : Int) (N : List Nd) (B : Option Addr) (k cb : Nat) (l : List K) (nw wd up a lo : Nat) (xc xv : Int) (y z : K) (V : Nat) (cst : Option Nat) (w : World) (hD : Own w 0 32 6 (.slice A N.length cp) N.length (ncs N)) (hH : RdW w 2 k B (kcs l)) (ha : a < k) (hwa : widF N ((a : Nat) : Int) = ((wd : Nat) : Int)) (hxa : KI wd (kg l a)) (hw : wd ≤ 64) (hlo : lo + nw ≤ wd) : Ret Try.prog 51 [.agg #[.slice A N.length cp, .int .i64 most], .agg #[.int .i64 23, .int .i64 ((nw : Nat) : Int), .int .i64 ((a : Nat) : Int), .int .i64 ((lo : Nat) : Int), .int .i64 xc, .int .u64 xv], .slice B k cb] w fun v w' => v = .agg #[.int .u64 (((kone 23 nw wd up (kg l a) y z lo V cst).1 : Nat) : Int), .int .u64 (((kone 23 nw wd up (kg l a) y z lo V cst).2 : Nat) : Int)] ∧ Tch N0 w w' := by
 have hll : l.length = k := by have := hH.1; rw [kcs_length] at this; omega
 have ua1 := hxa.u1 (show wd ≤ 64 by omega)
 have ua2 := hxa.u2 (show wd ≤ 64 by omega)
 refine enter Try.func51 rfl rfl ?_
 refine zQ ?_
 refine st (by rfl) (S_new (v := .pointer (some ⟨w.heap.size, 0, none⟩)) (ob := .cells #[.slice A N.length cp, .int .i64 most] 27) (by kernel_rfl) fun w1 hT2 hs3 hB4 => ?_)
 replace hB4 : Blk w1 (w.heap.size) 27 [.slice A N.length cp, .int .i64 most] := hB4
 have hT0 := hT2
 have hD := hD.tch0 hT2
 have hHr := hH.tch0 hT0
 have z9 := hT0.size
 have l10 := hB4.lt
 refine st (by rfl) (S_new (v := .pointer (some ⟨w1.heap.size, 0, none⟩)) (ob := .cells #[.int .i64 23, .int .i64 ((nw : Nat) : Int), .int .i64 ((a : Nat) : Int), .int .i64 ((lo : Nat) : Int), .int .i64 xc, .int .u64 xv] 32) (by kernel_rfl) fun w5 hT6 hs7 hB8 => ?_)
 replace hB8 : Blk w5 (w1.heap.size) 32 [.int .i64 23, .int .i64 ((nw : Nat) : Int), .int .i64 ((a : Nat) : Int), .int .i64 ((lo : Nat) : Int), .int .i64 xc, .int .u64 xv] := hB8
 have hT0 := hT0.t0 hT6
 have hD := hD.tch0 hT6
 have hHr := hH.tch0 hT0
 have hB4 := hB4.tch0 hT6
 have z15 := hT0.size
 have l16 := hB4.lt
 have l17 := hB8.lt
 refine st (by rfl) (S_new (v := .pointer (some ⟨w5.heap.size, 0, none⟩)) (ob := .cells #[.int .u64 0, .int .u64 0] 104) (by kernel_rfl) fun w11 hT12 hs13 hB14 => ?_)
 replace hB14 : Blk w11 (w5.heap.size) 104 [.int .u64 0, .int .u64 0] := hB14
 have hT0 := hT0.t0 hT12
 have hD := hD.tch0 hT12
 have hHr := hH.tch0 hT0
 have hB4 := hB4.tch0 hT12
 have hB8 := hB8.tch0 hT12
 refine op_nil ?_
 refine zQ ?_
 refine st (by rfl) (S_val (v := .agg #[.slice A N.length cp, .int .i64 most]) (R_loadA [.slice A N.length cp, .int .i64 most] (by kernel_rfl) (by kernel_rfl) (by kernel_rfl) (fun k u hk => by rw [hB4.cell]; exact get_part _ 0 _ k u rfl hk)) ?_)
 refine zS [(14, .pointer (some ⟨w1.heap.size, 2, none⟩))] ?_
 refine zL (.int .i64 ((a : Nat) : Int)) ((hB8.cell 2).trans rfl) ?_
 refine st (by rfl) (S_call (args := [.agg #[.slice A N.length cp, .int .i64 most], .int .i64 ((a : Nat) : Int)]) (by kernel_rfl) ((by have q := rwid_ok A cp most N ((a : Nat) : Int) _ hD; rw [hwa] at q; exact q)) ?_)
 rintro _ w18 ⟨rfl, hT19⟩
 have hT0 := hT0.t0 hT19
 have hD := hD.tch0 hT19
 have hHr := hH.tch0 hT0
 have hB4 := hB4.tch0 hT19
 have hB8 := hB8.tch0 hT19
 have hB14 := hB14.tch0 hT19
 refine zS [(7, .int .i64 ((wd : Nat) : Int))] ?_
 refine op_nil ?_
 refine W_seq ?_
 refine zQ ?_
 refine zS [(17, .pointer (some ⟨w1.heap.size, 0, none⟩))] ?_
 refine zL (.int .i64 23) ((hB8.cell 0).trans rfl) ?_
 refine op_nil ?_
 refine W_block ?_
 refine zQ ?_
 refine zS [(20, .bool false), (19, .bool false)] ?_
 refine zO false (fun h => nomatch h) (fun _ => ?_)
 refine W_seq ?_
 refine zQ ?_
 refine zS [(28, .bool false), (27, .bool false)] ?_
 refine zO false (fun h => nomatch h) (fun _ => ?_)
 refine zR ?_
 refine zS [(29, .bool false), (27, .bool false)] ?_
 refine zO false (fun h => nomatch h) (fun _ => ?_)
 refine zQ ?_
 refine zS [(32, .bool false), (31, .bool false)] ?_
 refine zO false (fun h => nomatch h) (fun _ => ?_)
 refine zQ ?_
 refine zS [(54, .bool false), (53, .bool false)] ?_
 refine zO false (fun h => nomatch h) (fun _ => ?_)
 refine zQ ?_
 refine zS [(93, .bool true), (92, .bool true)] ?_
 refine zO true (fun _ => ?_) (fun h => nomatch h)
 refine W_seq ?_
 refine W_draw (fun w' => RdW w' 2 k B (kcs l) ∧ Blk w' (w1.heap.size) 32 [.int .i64 23, .int .i64 ((nw : Nat) : Int), .int .i64 ((a : Nat) : Int), .int .i64 ((lo : Nat) : Int), .int .i64 xc, .int .u64 xv]) (by kernel_rfl) (by kernel_rfl) (by kernel_rfl) fun w20 hT21 hh22 => ?_
 have hT0 := hT0.t0 hT21
 have hD := hD.tch0 hT21
 have hHr := hH.tch0 hT0
 have hB4 := hB4.tch0 hT21
 have hB8 := hB8.tch0 hT21
 have hB14 := hB14.tch0 hT21
 refine zK [0, 2, 4, 5, 6] #[true, false, true, false, true, true, true, false, false, false, false, false] [(94, .pointer (some ⟨w1.heap.size, 1, none⟩)), (96, .pointer (some ⟨w1.heap.size, 3, none⟩)), (98, .int .i64 ((wd : Nat) : Int)), (99, .slice B k cb), (100, .pointer (some ⟨w1.heap.size, 2, none⟩))] ⟨hHr, hB8⟩ ?_
 refine zV 1 rfl (.int .i64 ((nw : Nat) : Int)) (fun _ ⟨hHr, hB8⟩ => R_load (v := .int .i64 ((nw : Nat) : Int)) (by kernel_rfl) (by kernel_rfl) ((hB8.cell 1).trans rfl)) ⟨hHr, hB8⟩ ?_
 refine zV 3 rfl (.int .i64 ((lo : Nat) : Int)) (fun _ ⟨hHr, hB8⟩ => R_load (v := .int .i64 ((lo : Nat) : Int)) (by kernel_rfl) (by kernel_rfl) ((hB8.cell 3).trans rfl)) ⟨hHr, hB8⟩ ?_
 refine zV 7 rfl (.int .i64 ((a : Nat) : Int)) (fun _ ⟨hHr, hB8⟩ => R_load (v := .int .i64 ((a : Nat) : Int)) (by kernel_rfl) (by kernel_rfl) ((hB8.cell 2).trans rfl)) ⟨hHr, hB8⟩ ?_
 refine zV 8 rfl (ptrAt B (a * 2)) (fun _ ⟨hHr, hB8⟩ => R_indexRd (sz := 2) (len := k) (cap := cb) (k := .i64) (i := ((a : Nat) : Int)) (e := 104) a hHr (by kernel_rfl) (by kernel_rfl) (by kernel_rfl) (by kernel_rfl) rfl (by omega)) ⟨hHr, hB8⟩ ?_
 refine zV 9 rfl (.agg #[.int .u64 (((kg l a).1 : Nat) : Int), .int .u64 (((kg l a).2 : Nat) : Int)]) (fun _ ⟨hHr, hB8⟩ => R_loadRdA [.int .u64 (((kg l a).1 : Nat) : Int), .int .u64 (((kg l a).2 : Nat) : Int)] hHr (by omega) (by kernel_rfl) (by kernel_rfl) (by kernel_rfl) (kcs_part l (by omega))) ⟨hHr, hB8⟩ ?_
 refine zD 10 rfl (S_call (args := [.int .i64 ((nw : Nat) : Int), .int .i64 ((lo : Nat) : Int), .int .i64 ((wd : Nat) : Int), .agg #[.int .u64 (((kg l a).1 : Nat) : Int), .int .u64 (((kg l a).2 : Nat) : Int)], .bool false, .bool false]) (by kernel_rfl) (rpart_ok nw lo wd (kg l a) false false _ hxa hw (by omega)) ?_)
 rintro _ w23 ⟨rfl, hT24⟩
 have hT0 := hT0.t0 hT24
 have hD := hD.tch0 hT24
 have hHr := hH.tch0 hT0
 have hB4 := hB4.tch0 hT24
 have hB8 := hB8.tch0 hT24
 have hB14 := hB14.tch0 hT24
 refine ⟨⟨hHr, hB8⟩, ?_⟩
 refine zD 11 rfl (S_storeA (b := w5.heap.size) (j := 0) (cs := [.int .u64 (((kpart nw lo wd (kg l a) false false).1 : Nat) : Int), .int .u64 (((kpart nw lo wd (kg l a) false false).2 : Nat) : Int)]) (by kernel_rfl) (by kernel_rfl) (by kernel_rfl) (by simp [oneV]) hB14 (by simp) fun w25 hT26 hs27 hB14' => ?_)
 have hT0 := (hT0).then hT26 (fun c e => by have : c = w5.heap.size := e; omega)
 have hD := hD.tch hT26 (fun c hc e => hD.blk_ne hB14 (by decide) c hc e)
 have hHr := hH.tch0 hT0
 have hB4 := hB4.tch hT26 (hB4.ne hB14 (by decide))
 have hB8 := hB8.tch hT26 (hB8.ne hB14 (by decide))
 replace hB14 : Blk w25 w5.heap.size 104 [.int .u64 (((kpart nw lo wd (kg l a) false false).1 : Nat) : Int), .int .u64 (((kpart nw lo wd (kg l a) false false).2 : Nat) : Int)] := hB14'
 refine ⟨⟨hHr, hB8⟩, ?_⟩
 refine d_done (by kernel_rfl) ?_
 refine W_ret ?_
 exact ⟨_, Res_cell (b := w5.heap.size) (cs := [.int .u64 (((kpart nw lo wd (kg l a) false false).1 : Nat) : Int), .int .u64 (((kpart nw lo wd (kg l a) false false).2 : Nat) : Int)]) (by rfl) (by kernel_rfl) (by kernel_rfl) hB14 (by kernel_rfl) (by kernel_rfl), ⟨by kernel_rfl, hT0⟩⟩

set_option maxRecDepth 100000 in
theorem rone24_ok (A : Option Addr) (cp : Nat) (most : Int) (N : List Nd) (B : Option Addr) (k cb : Nat) (l : List K) (nw wd up a b : Nat) (xc xv : Int) (z : K) (lo V : Nat) (cst : Option Nat) (w : World) (hD : Own w 0 32 6 (.slice A N.length cp) N.length (ncs N)) (hH : RdW w 2 k B (kcs l)) (ha : a < k) (hb : b < k) (hwa : widF N ((a : Nat) : Int) = ((wd : Nat) : Int)) (hwb : widF N ((b : Nat) : Int) = ((up : Nat) : Int)) (hxa : KI wd (kg l a)) (hxb : KI up (kg l b)) (hw : wd + up ≤ 64) : Ret Try.prog 51 [.agg #[.slice A N.length cp, .int .i64 most], .agg #[.int .i64 24, .int .i64 ((nw : Nat) : Int), .int .i64 ((a : Nat) : Int), .int .i64 ((b : Nat) : Int), .int .i64 xc, .int .u64 xv], .slice B k cb] w fun v w' => v = .agg #[.int .u64 (((kone 24 nw wd up (kg l a) (kg l b) z lo V cst).1 : Nat) : Int), .int .u64 (((kone 24 nw wd up (kg l a) (kg l b) z lo V cst).2 : Nat) : Int)] ∧ Tch N0 w w' := by
 have hll : l.length = k := by have := hH.1; rw [kcs_length] at this; omega
 have ua1 := hxa.u1 (show wd ≤ 64 by omega)
 have ua2 := hxa.u2 (show wd ≤ 64 by omega)
 have ub1 := hxb.u1 (show up ≤ 64 by omega)
 have ub2 := hxb.u2 (show up ≤ 64 by omega)
 refine enter Try.func51 rfl rfl ?_
 refine zQ ?_
 refine st (by rfl) (S_new (v := .pointer (some ⟨w.heap.size, 0, none⟩)) (ob := .cells #[.slice A N.length cp, .int .i64 most] 27) (by kernel_rfl) fun w1 hT2 hs3 hB4 => ?_)
 replace hB4 : Blk w1 (w.heap.size) 27 [.slice A N.length cp, .int .i64 most] := hB4
 have hT0 := hT2
 have hD := hD.tch0 hT2
 have hHr := hH.tch0 hT0
 have z9 := hT0.size
 have l10 := hB4.lt
 refine st (by rfl) (S_new (v := .pointer (some ⟨w1.heap.size, 0, none⟩)) (ob := .cells #[.int .i64 24, .int .i64 ((nw : Nat) : Int), .int .i64 ((a : Nat) : Int), .int .i64 ((b : Nat) : Int), .int .i64 xc, .int .u64 xv] 32) (by kernel_rfl) fun w5 hT6 hs7 hB8 => ?_)
 replace hB8 : Blk w5 (w1.heap.size) 32 [.int .i64 24, .int .i64 ((nw : Nat) : Int), .int .i64 ((a : Nat) : Int), .int .i64 ((b : Nat) : Int), .int .i64 xc, .int .u64 xv] := hB8
 have hT0 := hT0.t0 hT6
 have hD := hD.tch0 hT6
 have hHr := hH.tch0 hT0
 have hB4 := hB4.tch0 hT6
 have z15 := hT0.size
 have l16 := hB4.lt
 have l17 := hB8.lt
 refine st (by rfl) (S_new (v := .pointer (some ⟨w5.heap.size, 0, none⟩)) (ob := .cells #[.int .u64 0, .int .u64 0] 104) (by kernel_rfl) fun w11 hT12 hs13 hB14 => ?_)
 replace hB14 : Blk w11 (w5.heap.size) 104 [.int .u64 0, .int .u64 0] := hB14
 have hT0 := hT0.t0 hT12
 have hD := hD.tch0 hT12
 have hHr := hH.tch0 hT0
 have hB4 := hB4.tch0 hT12
 have hB8 := hB8.tch0 hT12
 refine op_nil ?_
 refine zQ ?_
 refine st (by rfl) (S_val (v := .agg #[.slice A N.length cp, .int .i64 most]) (R_loadA [.slice A N.length cp, .int .i64 most] (by kernel_rfl) (by kernel_rfl) (by kernel_rfl) (fun k u hk => by rw [hB4.cell]; exact get_part _ 0 _ k u rfl hk)) ?_)
 refine zS [(14, .pointer (some ⟨w1.heap.size, 2, none⟩))] ?_
 refine zL (.int .i64 ((a : Nat) : Int)) ((hB8.cell 2).trans rfl) ?_
 refine st (by rfl) (S_call (args := [.agg #[.slice A N.length cp, .int .i64 most], .int .i64 ((a : Nat) : Int)]) (by kernel_rfl) ((by have q := rwid_ok A cp most N ((a : Nat) : Int) _ hD; rw [hwa] at q; exact q)) ?_)
 rintro _ w18 ⟨rfl, hT19⟩
 have hT0 := hT0.t0 hT19
 have hD := hD.tch0 hT19
 have hHr := hH.tch0 hT0
 have hB4 := hB4.tch0 hT19
 have hB8 := hB8.tch0 hT19
 have hB14 := hB14.tch0 hT19
 refine zS [(7, .int .i64 ((wd : Nat) : Int))] ?_
 refine op_nil ?_
 refine W_seq ?_
 refine zQ ?_
 refine zS [(17, .pointer (some ⟨w1.heap.size, 0, none⟩))] ?_
 refine zL (.int .i64 24) ((hB8.cell 0).trans rfl) ?_
 refine op_nil ?_
 refine W_block ?_
 refine zQ ?_
 refine zS [(20, .bool false), (19, .bool false)] ?_
 refine zO false (fun h => nomatch h) (fun _ => ?_)
 refine W_seq ?_
 refine zQ ?_
 refine zS [(28, .bool false), (27, .bool false)] ?_
 refine zO false (fun h => nomatch h) (fun _ => ?_)
 refine zR ?_
 refine zS [(29, .bool false), (27, .bool false)] ?_
 refine zO false (fun h => nomatch h) (fun _ => ?_)
 refine zQ ?_
 refine zS [(32, .bool false), (31, .bool false)] ?_
 refine zO false (fun h => nomatch h) (fun _ => ?_)
 refine zQ ?_
 refine zS [(54, .bool false), (53, .bool false)] ?_
 refine zO false (fun h => nomatch h) (fun _ => ?_)
 refine zQ ?_
 refine zS [(93, .bool false), (92, .bool false)] ?_
 refine zO false (fun h => nomatch h) (fun _ => ?_)
 refine zQ ?_
 refine zS [(106, .bool false), (105, .bool false)] ?_
 refine zO false (fun h => nomatch h) (fun _ => ?_)
 refine zQ ?_
 refine zS [(117, .bool false), (116, .bool false)] ?_
 refine zO false (fun h => nomatch h) (fun _ => ?_)
 refine zQ ?_
 refine zS [(141, .bool true), (140, .bool true)] ?_
 refine zO true (fun _ => ?_) (fun h => nomatch h)
 refine zQ ?_
 refine st (by rfl) (S_val (v := .agg #[.slice A N.length cp, .int .i64 most]) (R_loadA [.slice A N.length cp, .int .i64 most] (by kernel_rfl) (by kernel_rfl) (by kernel_rfl) (fun k u hk => by rw [hB4.cell]; exact get_part _ 0 _ k u rfl hk)) ?_)
 refine zS [(143, .pointer (some ⟨w1.heap.size, 3, none⟩))] ?_
 refine zL (.int .i64 ((b : Nat) : Int)) ((hB8.cell 3).trans rfl) ?_
 refine st (by rfl) (S_call (args := [.agg #[.slice A N.length cp, .int .i64 most], .int .i64 ((b : Nat) : Int)]) (by kernel_rfl) ((by have q := rwid_ok A cp most N ((b : Nat) : Int) _ hD; rw [hwb] at q; exact q)) ?_)
 rintro _ w20 ⟨rfl, hT21⟩
 have hT0 := hT0.t0 hT21
 have hD := hD.tch0 hT21
 have hHr := hH.tch0 hT0
 have hB4 := hB4.tch0 hT21
 have hB8 := hB8.tch0 hT21
 have hB14 := hB14.tch0 hT21
 refine zS [(146, .int .u64 (IntKind.u64.wrap ((up : Nat) : Int)))] ?_
 rw [show IntKind.u64.wrap ((up : Nat) : Int) = ((up : Nat) : Int) from wrap_u64 (by omega) (by omega)]
 refine zS [(12, .int .u64 ((up : Nat) : Int))] ?_
 refine op_nil ?_
 refine W_seq ?_
 refine W_draw (fun w' => RdW w' 2 k B (kcs l) ∧ Blk w' (w1.heap.size) 32 [.int .i64 24, .int .i64 ((nw : Nat) : Int), .int .i64 ((a : Nat) : Int), .int .i64 ((b : Nat) : Int), .int .i64 xc, .int .u64 xv]) (by kernel_rfl) (by kernel_rfl) (by kernel_rfl) fun w22 hT23 hh24 => ?_
 have hT0 := hT0.t0 hT23
 have hD := hD.tch0 hT23
 have hHr := hH.tch0 hT0
 have hB4 := hB4.tch0 hT23
 have hB8 := hB8.tch0 hT23
 have hB14 := hB14.tch0 hT23
 refine zK [0, 1, 6, 8, 9, 15, 16, 21, 23, 24] #[true, true, false, false, false, false, true, false, true, true, false, false, false, false, false, true, true, false, false, false, false, true, false, true, true, false, false, false, false, false, false, false] [(147, .slice B k cb), (148, .pointer (some ⟨w1.heap.size, 2, none⟩)), (153, .int .u64 ((up : Nat) : Int)), (155, .slice B k cb), (156, .pointer (some ⟨w1.heap.size, 3, none⟩)), (162, .slice B k cb), (163, .pointer (some ⟨w1.heap.size, 2, none⟩)), (168, .int .u64 ((up : Nat) : Int)), (170, .slice B k cb), (171, .pointer (some ⟨w1.heap.size, 3, none⟩))] ⟨hHr, hB8⟩ ?_
 refine zV 2 rfl (.int .i64 ((a : Nat) : Int)) (fun _ ⟨hHr, hB8⟩ => R_load (v := .int .i64 ((a : Nat) : Int)) (by kernel_rfl) (by kernel_rfl) ((hB8.cell 2).trans rfl)) ⟨hHr, hB8⟩ ?_
 refine zV 3 rfl (ptrAt B (a * 2)) (fun _ ⟨hHr, hB8⟩ => R_indexRd (sz := 2) (len := k) (cap := cb) (k := .i64) (i := ((a : Nat) : Int)) (e := 104) a hHr (by kernel_rfl) (by kernel_rfl) (by kernel_rfl) (by kernel_rfl) rfl (by omega)) ⟨hHr, hB8⟩ ?_
 refine zV 4 rfl (ptrAt B (a * 2)) (fun _ ⟨hHr, hB8⟩ => R_fieldRd (m := 0) hHr (by omega) (by kernel_rfl) (fun _ _ => by rfl)) ⟨hHr, hB8⟩ ?_
 refine zV 5 rfl (.int .u64 (((kg l a).1 : Nat) : Int)) (fun _ ⟨hHr, hB8⟩ => R_loadRd (v := .int .u64 (((kg l a).1 : Nat) : Int)) hHr (by omega) (by kernel_rfl) (by kernel_rfl) ((kcs_part l (by omega) 0 _ rfl))) ⟨hHr, hB8⟩ ?_
 refine zV 7 rfl (.int .u64 ((((kg l a).1) * pw up % 18446744073709551616 : Nat) : Int)) (fun _ ⟨hHr, hB8⟩ => R_shlP (k2 := .u64) ((kg l a).1) up (by kernel_rfl) (by kernel_rfl) (by omega)) ⟨hHr, hB8⟩ ?_
 have hu25 : ((kg l a).1) * pw up % 18446744073709551616 < 18446744073709551616 := mod_lt64 _
 refine zV 10 rfl (.int .i64 ((b : Nat) : Int)) (fun _ ⟨hHr, hB8⟩ => R_load (v := .int .i64 ((b : Nat) : Int)) (by kernel_rfl) (by kernel_rfl) ((hB8.cell 3).trans rfl)) ⟨hHr, hB8⟩ ?_
 refine zV 11 rfl (ptrAt B (b * 2)) (fun _ ⟨hHr, hB8⟩ => R_indexRd (sz := 2) (len := k) (cap := cb) (k := .i64) (i := ((b : Nat) : Int)) (e := 104) b hHr (by kernel_rfl) (by kernel_rfl) (by kernel_rfl) (by kernel_rfl) rfl (by omega)) ⟨hHr, hB8⟩ ?_
 refine zV 12 rfl (ptrAt B (b * 2)) (fun _ ⟨hHr, hB8⟩ => R_fieldRd (m := 0) hHr (by omega) (by kernel_rfl) (fun _ _ => by rfl)) ⟨hHr, hB8⟩ ?_
 refine zV 13 rfl (.int .u64 (((kg l b).1 : Nat) : Int)) (fun _ ⟨hHr, hB8⟩ => R_loadRd (v := .int .u64 (((kg l b).1 : Nat) : Int)) hHr (by omega) (by kernel_rfl) (by kernel_rfl) ((kcs_part l (by omega) 0 _ rfl))) ⟨hHr, hB8⟩ ?_
 refine zK [14] #[true, true, true, true, true, true, true, true, true, true, true, true, true, true, true, true, true, false, false, false, false, true, false, true, true, false, false, false, false, false, false, false] [(161, .int .u64 (IntKind.u64.wrap (BitVec.ofInt 64 ((((kg l a).1) * pw up % 18446744073709551616 : Nat) : Int) ||| BitVec.ofInt 64 (((kg l b).1 : Nat) : Int)).toNat))] ⟨hHr, hB8⟩ ?_
 rw [show IntKind.u64.wrap (BitVec.ofInt 64 ((((kg l a).1) * pw up % 18446744073709551616 : Nat) : Int) ||| BitVec.ofInt 64 (((kg l b).1 : Nat) : Int)).toNat = (((((kg l a).1) * pw up % 18446744073709551616) ||| ((kg l b).1) : Nat) : Int) from or_u (((kg l a).1) * pw up % 18446744073709551616) ((kg l b).1) hu25 ub1]
 have hu26 : (((kg l a).1) * pw up % 18446744073709551616) ||| ((kg l b).1) < 18446744073709551616 := or_lt hu25 ub1
 refine zV 17 rfl (.int .i64 ((a : Nat) : Int)) (fun _ ⟨hHr, hB8⟩ => R_load (v := .int .i64 ((a : Nat) : Int)) (by kernel_rfl) (by kernel_rfl) ((hB8.cell 2).trans rfl)) ⟨hHr, hB8⟩ ?_
 refine zV 18 rfl (ptrAt B (a * 2)) (fun _ ⟨hHr, hB8⟩ => R_indexRd (sz := 2) (len := k) (cap := cb) (k := .i64) (i := ((a : Nat) : Int)) (e := 104) a hHr (by kernel_rfl) (by kernel_rfl) (by kernel_rfl) (by kernel_rfl) rfl (by omega)) ⟨hHr, hB8⟩ ?_
 refine zV 19 rfl (ptrAt B (a * 2 + 1)) (fun _ ⟨hHr, hB8⟩ => R_fieldRd (m := 1) hHr (by omega) (by kernel_rfl) (fun _ _ => by rfl)) ⟨hHr, hB8⟩ ?_
 refine zV 20 rfl (.int .u64 (((kg l a).2 : Nat) : Int)) (fun _ ⟨hHr, hB8⟩ => R_loadRd (v := .int .u64 (((kg l a).2 : Nat) : Int)) hHr (by omega) (by kernel_rfl) (by kernel_rfl) ((kcs_part l (by omega) 1 _ rfl))) ⟨hHr, hB8⟩ ?_
 refine zV 22 rfl (.int .u64 ((((kg l a).2) * pw up % 18446744073709551616 : Nat) : Int)) (fun _ ⟨hHr, hB8⟩ => R_shlP (k2 := .u64) ((kg l a).2) up (by kernel_rfl) (by kernel_rfl) (by omega)) ⟨hHr, hB8⟩ ?_
 have hu27 : ((kg l a).2) * pw up % 18446744073709551616 < 18446744073709551616 := mod_lt64 _
 refine zV 25 rfl (.int .i64 ((b : Nat) : Int)) (fun _ ⟨hHr, hB8⟩ => R_load (v := .int .i64 ((b : Nat) : Int)) (by kernel_rfl) (by kernel_rfl) ((hB8.cell 3).trans rfl)) ⟨hHr, hB8⟩ ?_
 refine zV 26 rfl (ptrAt B (b * 2)) (fun _ ⟨hHr, hB8⟩ => R_indexRd (sz := 2) (len := k) (cap := cb) (k := .i64) (i := ((b : Nat) : Int)) (e := 104) b hHr (by kernel_rfl) (by kernel_rfl) (by kernel_rfl) (by kernel_rfl) rfl (by omega)) ⟨hHr, hB8⟩ ?_
 refine zV 27 rfl (ptrAt B (b * 2 + 1)) (fun _ ⟨hHr, hB8⟩ => R_fieldRd (m := 1) hHr (by omega) (by kernel_rfl) (fun _ _ => by rfl)) ⟨hHr, hB8⟩ ?_
 refine zV 28 rfl (.int .u64 (((kg l b).2 : Nat) : Int)) (fun _ ⟨hHr, hB8⟩ => R_loadRd (v := .int .u64 (((kg l b).2 : Nat) : Int)) hHr (by omega) (by kernel_rfl) (by kernel_rfl) ((kcs_part l (by omega) 1 _ rfl))) ⟨hHr, hB8⟩ ?_
 refine zK [29] #[true, true, true, true, true, true, true, true, true, true, true, true, true, true, true, true, true, true, true, true, true, true, true, true, true, true, true, true, true, true, false, false] [(176, .int .u64 (IntKind.u64.wrap (BitVec.ofInt 64 ((((kg l a).2) * pw up % 18446744073709551616 : Nat) : Int) ||| BitVec.ofInt 64 (((kg l b).2 : Nat) : Int)).toNat))] ⟨hHr, hB8⟩ ?_
 rw [show IntKind.u64.wrap (BitVec.ofInt 64 ((((kg l a).2) * pw up % 18446744073709551616 : Nat) : Int) ||| BitVec.ofInt 64 (((kg l b).2 : Nat) : Int)).toNat = (((((kg l a).2) * pw up % 18446744073709551616) ||| ((kg l b).2) : Nat) : Int) from or_u (((kg l a).2) * pw up % 18446744073709551616) ((kg l b).2) hu27 ub2]
 have hu28 : (((kg l a).2) * pw up % 18446744073709551616) ||| ((kg l b).2) < 18446744073709551616 := or_lt hu27 ub2
 refine zK [30] #[true, true, true, true, true, true, true, true, true, true, true, true, true, true, true, true, true, true, true, true, true, true, true, true, true, true, true, true, true, true, true, false] [(177, .agg #[.int .u64 (((((kg l a).1) * pw up % 18446744073709551616) ||| ((kg l b).1) : Nat) : Int), .int .u64 (((((kg l a).2) * pw up % 18446744073709551616) ||| ((kg l b).2) : Nat) : Int)])] ⟨hHr, hB8⟩ ?_
 refine zD 31 rfl (S_storeA (b := w5.heap.size) (j := 0) (cs := [.int .u64 (((((kg l a).1) * pw up % 18446744073709551616) ||| ((kg l b).1) : Nat) : Int), .int .u64 (((((kg l a).2) * pw up % 18446744073709551616) ||| ((kg l b).2) : Nat) : Int)]) (by kernel_rfl) (by kernel_rfl) (by kernel_rfl) (by simp [oneV]) hB14 (by simp) fun w29 hT30 hs31 hB14' => ?_)
 have hT0 := (hT0).then hT30 (fun c e => by have : c = w5.heap.size := e; omega)
 have hD := hD.tch hT30 (fun c hc e => hD.blk_ne hB14 (by decide) c hc e)
 have hHr := hH.tch0 hT0
 have hB4 := hB4.tch hT30 (hB4.ne hB14 (by decide))
 have hB8 := hB8.tch hT30 (hB8.ne hB14 (by decide))
 replace hB14 : Blk w29 w5.heap.size 104 [.int .u64 (((((kg l a).1) * pw up % 18446744073709551616) ||| ((kg l b).1) : Nat) : Int), .int .u64 (((((kg l a).2) * pw up % 18446744073709551616) ||| ((kg l b).2) : Nat) : Int)] := hB14'
 refine ⟨⟨hHr, hB8⟩, ?_⟩
 refine d_done (by kernel_rfl) ?_
 refine W_ret ?_
 exact ⟨_, Res_cell (b := w5.heap.size) (cs := [.int .u64 (((((kg l a).1) * pw up % 18446744073709551616) ||| ((kg l b).1) : Nat) : Int), .int .u64 (((((kg l a).2) * pw up % 18446744073709551616) ||| ((kg l b).2) : Nat) : Int)]) (by rfl) (by kernel_rfl) (by kernel_rfl) hB14 (by kernel_rfl) (by kernel_rfl), ⟨by kernel_rfl, hT0⟩⟩

set_option maxRecDepth 100000 in
theorem rone25_ok (A : Option Addr) (cp : Nat) (most : Int) (N : List Nd) (B : Option Addr) (k cb : Nat) (l : List K) (nw wd up a : Nat) (xb xc xv : Int) (y z : K) (lo V : Nat) (cst : Option Nat) (w : World) (hD : Own w 0 32 6 (.slice A N.length cp) N.length (ncs N)) (hH : RdW w 2 k B (kcs l)) (ha : a < k) (hwa : widF N ((a : Nat) : Int) = ((wd : Nat) : Int)) (hxa : KI wd (kg l a)) (hw : wd ≤ 64) (h1 : 1 ≤ wd) (hlt : wd ≤ nw) (hnw : nw ≤ 64) : Ret Try.prog 51 [.agg #[.slice A N.length cp, .int .i64 most], .agg #[.int .i64 25, .int .i64 ((nw : Nat) : Int), .int .i64 ((a : Nat) : Int), .int .i64 xb, .int .i64 xc, .int .u64 xv], .slice B k cb] w fun v w' => v = .agg #[.int .u64 (((kone 25 nw wd up (kg l a) y z lo V cst).1 : Nat) : Int), .int .u64 (((kone 25 nw wd up (kg l a) y z lo V cst).2 : Nat) : Int)] ∧ Tch N0 w w' := by
 have hll : l.length = k := by have := hH.1; rw [kcs_length] at this; omega
 have ua1 := hxa.u1 (show wd ≤ 64 by omega)
 have ua2 := hxa.u2 (show wd ≤ 64 by omega)
 refine enter Try.func51 rfl rfl ?_
 refine zQ ?_
 refine st (by rfl) (S_new (v := .pointer (some ⟨w.heap.size, 0, none⟩)) (ob := .cells #[.slice A N.length cp, .int .i64 most] 27) (by kernel_rfl) fun w1 hT2 hs3 hB4 => ?_)
 replace hB4 : Blk w1 (w.heap.size) 27 [.slice A N.length cp, .int .i64 most] := hB4
 have hT0 := hT2
 have hD := hD.tch0 hT2
 have hHr := hH.tch0 hT0
 have z9 := hT0.size
 have l10 := hB4.lt
 refine st (by rfl) (S_new (v := .pointer (some ⟨w1.heap.size, 0, none⟩)) (ob := .cells #[.int .i64 25, .int .i64 ((nw : Nat) : Int), .int .i64 ((a : Nat) : Int), .int .i64 xb, .int .i64 xc, .int .u64 xv] 32) (by kernel_rfl) fun w5 hT6 hs7 hB8 => ?_)
 replace hB8 : Blk w5 (w1.heap.size) 32 [.int .i64 25, .int .i64 ((nw : Nat) : Int), .int .i64 ((a : Nat) : Int), .int .i64 xb, .int .i64 xc, .int .u64 xv] := hB8
 have hT0 := hT0.t0 hT6
 have hD := hD.tch0 hT6
 have hHr := hH.tch0 hT0
 have hB4 := hB4.tch0 hT6
 have z15 := hT0.size
 have l16 := hB4.lt
 have l17 := hB8.lt
 refine st (by rfl) (S_new (v := .pointer (some ⟨w5.heap.size, 0, none⟩)) (ob := .cells #[.int .u64 0, .int .u64 0] 104) (by kernel_rfl) fun w11 hT12 hs13 hB14 => ?_)
 replace hB14 : Blk w11 (w5.heap.size) 104 [.int .u64 0, .int .u64 0] := hB14
 have hT0 := hT0.t0 hT12
 have hD := hD.tch0 hT12
 have hHr := hH.tch0 hT0
 have hB4 := hB4.tch0 hT12
 have hB8 := hB8.tch0 hT12
 refine op_nil ?_
 refine zQ ?_
 refine st (by rfl) (S_val (v := .agg #[.slice A N.length cp, .int .i64 most]) (R_loadA [.slice A N.length cp, .int .i64 most] (by kernel_rfl) (by kernel_rfl) (by kernel_rfl) (fun k u hk => by rw [hB4.cell]; exact get_part _ 0 _ k u rfl hk)) ?_)
 refine zS [(14, .pointer (some ⟨w1.heap.size, 2, none⟩))] ?_
 refine zL (.int .i64 ((a : Nat) : Int)) ((hB8.cell 2).trans rfl) ?_
 refine st (by rfl) (S_call (args := [.agg #[.slice A N.length cp, .int .i64 most], .int .i64 ((a : Nat) : Int)]) (by kernel_rfl) ((by have q := rwid_ok A cp most N ((a : Nat) : Int) _ hD; rw [hwa] at q; exact q)) ?_)
 rintro _ w18 ⟨rfl, hT19⟩
 have hT0 := hT0.t0 hT19
 have hD := hD.tch0 hT19
 have hHr := hH.tch0 hT0
 have hB4 := hB4.tch0 hT19
 have hB8 := hB8.tch0 hT19
 have hB14 := hB14.tch0 hT19
 refine zS [(7, .int .i64 ((wd : Nat) : Int))] ?_
 refine op_nil ?_
 refine W_seq ?_
 refine zQ ?_
 refine zS [(17, .pointer (some ⟨w1.heap.size, 0, none⟩))] ?_
 refine zL (.int .i64 25) ((hB8.cell 0).trans rfl) ?_
 refine op_nil ?_
 refine W_block ?_
 refine zQ ?_
 refine zS [(20, .bool false), (19, .bool false)] ?_
 refine zO false (fun h => nomatch h) (fun _ => ?_)
 refine W_seq ?_
 refine zQ ?_
 refine zS [(28, .bool false), (27, .bool false)] ?_
 refine zO false (fun h => nomatch h) (fun _ => ?_)
 refine zR ?_
 refine zS [(29, .bool false), (27, .bool false)] ?_
 refine zO false (fun h => nomatch h) (fun _ => ?_)
 refine zQ ?_
 refine zS [(32, .bool false), (31, .bool false)] ?_
 refine zO false (fun h => nomatch h) (fun _ => ?_)
 refine zQ ?_
 refine zS [(54, .bool false), (53, .bool false)] ?_
 refine zO false (fun h => nomatch h) (fun _ => ?_)
 refine zQ ?_
 refine zS [(93, .bool false), (92, .bool false)] ?_
 refine zO false (fun h => nomatch h) (fun _ => ?_)
 refine zQ ?_
 refine zS [(106, .bool true), (105, .bool true)] ?_
 refine zO true (fun _ => ?_) (fun h => nomatch h)
 refine W_seq ?_
 refine W_draw (fun w' => RdW w' 2 k B (kcs l) ∧ Blk w' (w1.heap.size) 32 [.int .i64 25, .int .i64 ((nw : Nat) : Int), .int .i64 ((a : Nat) : Int), .int .i64 xb, .int .i64 xc, .int .u64 xv]) (by kernel_rfl) (by kernel_rfl) (by kernel_rfl) fun w20 hT21 hh22 => ?_
 have hT0 := hT0.t0 hT21
 have hD := hD.tch0 hT21
 have hHr := hH.tch0 hT0
 have hB4 := hB4.tch0 hT21
 have hB8 := hB8.tch0 hT21
 have hB14 := hB14.tch0 hT21
 refine zK [0, 2, 3, 4] #[true, false, true, true, true, false, false, false, false, false] [(107, .pointer (some ⟨w1.heap.size, 1, none⟩)), (109, .int .i64 ((wd : Nat) : Int)), (110, .slice B k cb), (111, .pointer (some ⟨w1.heap.size, 2, none⟩))] ⟨hHr, hB8⟩ ?_
 refine zV 1 rfl (.int .i64 ((nw : Nat) : Int)) (fun _ ⟨hHr, hB8⟩ => R_load (v := .int .i64 ((nw : Nat) : Int)) (by kernel_rfl) (by kernel_rfl) ((hB8.cell 1).trans rfl)) ⟨hHr, hB8⟩ ?_
 refine zV 5 rfl (.int .i64 ((a : Nat) : Int)) (fun _ ⟨hHr, hB8⟩ => R_load (v := .int .i64 ((a : Nat) : Int)) (by kernel_rfl) (by kernel_rfl) ((hB8.cell 2).trans rfl)) ⟨hHr, hB8⟩ ?_
 refine zV 6 rfl (ptrAt B (a * 2)) (fun _ ⟨hHr, hB8⟩ => R_indexRd (sz := 2) (len := k) (cap := cb) (k := .i64) (i := ((a : Nat) : Int)) (e := 104) a hHr (by kernel_rfl) (by kernel_rfl) (by kernel_rfl) (by kernel_rfl) rfl (by omega)) ⟨hHr, hB8⟩ ?_
 refine zV 7 rfl (.agg #[.int .u64 (((kg l a).1 : Nat) : Int), .int .u64 (((kg l a).2 : Nat) : Int)]) (fun _ ⟨hHr, hB8⟩ => R_loadRdA [.int .u64 (((kg l a).1 : Nat) : Int), .int .u64 (((kg l a).2 : Nat) : Int)] hHr (by omega) (by kernel_rfl) (by kernel_rfl) (by kernel_rfl) (kcs_part l (by omega))) ⟨hHr, hB8⟩ ?_
 refine zD 8 rfl (S_call (args := [.int .i64 ((nw : Nat) : Int), .int .i64 0, .int .i64 ((wd : Nat) : Int), .agg #[.int .u64 (((kg l a).1 : Nat) : Int), .int .u64 (((kg l a).2 : Nat) : Int)], .bool true, .bool false]) (by kernel_rfl) (rpart_ok nw 0 wd (kg l a) true false _ hxa hw (by omega)) ?_)
 rintro _ w23 ⟨rfl, hT24⟩
 have hT0 := hT0.t0 hT24
 have hD := hD.tch0 hT24
 have hHr := hH.tch0 hT0
 have hB4 := hB4.tch0 hT24
 have hB8 := hB8.tch0 hT24
 have hB14 := hB14.tch0 hT24
 refine ⟨⟨hHr, hB8⟩, ?_⟩
 refine zD 9 rfl (S_storeA (b := w5.heap.size) (j := 0) (cs := [.int .u64 (((kpart nw 0 wd (kg l a) true false).1 : Nat) : Int), .int .u64 (((kpart nw 0 wd (kg l a) true false).2 : Nat) : Int)]) (by kernel_rfl) (by kernel_rfl) (by kernel_rfl) (by simp [oneV]) hB14 (by simp) fun w25 hT26 hs27 hB14' => ?_)
 have hT0 := (hT0).then hT26 (fun c e => by have : c = w5.heap.size := e; omega)
 have hD := hD.tch hT26 (fun c hc e => hD.blk_ne hB14 (by decide) c hc e)
 have hHr := hH.tch0 hT0
 have hB4 := hB4.tch hT26 (hB4.ne hB14 (by decide))
 have hB8 := hB8.tch hT26 (hB8.ne hB14 (by decide))
 replace hB14 : Blk w25 w5.heap.size 104 [.int .u64 (((kpart nw 0 wd (kg l a) true false).1 : Nat) : Int), .int .u64 (((kpart nw 0 wd (kg l a) true false).2 : Nat) : Int)] := hB14'
 refine ⟨⟨hHr, hB8⟩, ?_⟩
 refine d_done (by kernel_rfl) ?_
 refine W_ret ?_
 exact ⟨_, Res_cell (b := w5.heap.size) (cs := [.int .u64 (((kpart nw 0 wd (kg l a) true false).1 : Nat) : Int), .int .u64 (((kpart nw 0 wd (kg l a) true false).2 : Nat) : Int)]) (by rfl) (by kernel_rfl) (by kernel_rfl) hB14 (by kernel_rfl) (by kernel_rfl), ⟨by kernel_rfl, hT0⟩⟩

set_option maxRecDepth 100000 in
theorem rone26_ok (A : Option Addr) (cp : Nat) (most : Int) (N : List Nd) (B : Option Addr) (k cb : Nat) (l : List K) (nw wd up a : Nat) (xb xc xv : Int) (y z : K) (lo V : Nat) (cst : Option Nat) (w : World) (hD : Own w 0 32 6 (.slice A N.length cp) N.length (ncs N)) (hH : RdW w 2 k B (kcs l)) (ha : a < k) (hwa : widF N ((a : Nat) : Int) = ((wd : Nat) : Int)) (hxa : KI wd (kg l a)) (hw : wd ≤ 64) (h1 : 1 ≤ wd) (hlt : wd ≤ nw) (hnw : nw ≤ 64) : Ret Try.prog 51 [.agg #[.slice A N.length cp, .int .i64 most], .agg #[.int .i64 26, .int .i64 ((nw : Nat) : Int), .int .i64 ((a : Nat) : Int), .int .i64 xb, .int .i64 xc, .int .u64 xv], .slice B k cb] w fun v w' => v = .agg #[.int .u64 (((kone 26 nw wd up (kg l a) y z lo V cst).1 : Nat) : Int), .int .u64 (((kone 26 nw wd up (kg l a) y z lo V cst).2 : Nat) : Int)] ∧ Tch N0 w w' := by
 have hll : l.length = k := by have := hH.1; rw [kcs_length] at this; omega
 have ua1 := hxa.u1 (show wd ≤ 64 by omega)
 have ua2 := hxa.u2 (show wd ≤ 64 by omega)
 refine enter Try.func51 rfl rfl ?_
 refine zQ ?_
 refine st (by rfl) (S_new (v := .pointer (some ⟨w.heap.size, 0, none⟩)) (ob := .cells #[.slice A N.length cp, .int .i64 most] 27) (by kernel_rfl) fun w1 hT2 hs3 hB4 => ?_)
 replace hB4 : Blk w1 (w.heap.size) 27 [.slice A N.length cp, .int .i64 most] := hB4
 have hT0 := hT2
 have hD := hD.tch0 hT2
 have hHr := hH.tch0 hT0
 have z9 := hT0.size
 have l10 := hB4.lt
 refine st (by rfl) (S_new (v := .pointer (some ⟨w1.heap.size, 0, none⟩)) (ob := .cells #[.int .i64 26, .int .i64 ((nw : Nat) : Int), .int .i64 ((a : Nat) : Int), .int .i64 xb, .int .i64 xc, .int .u64 xv] 32) (by kernel_rfl) fun w5 hT6 hs7 hB8 => ?_)
 replace hB8 : Blk w5 (w1.heap.size) 32 [.int .i64 26, .int .i64 ((nw : Nat) : Int), .int .i64 ((a : Nat) : Int), .int .i64 xb, .int .i64 xc, .int .u64 xv] := hB8
 have hT0 := hT0.t0 hT6
 have hD := hD.tch0 hT6
 have hHr := hH.tch0 hT0
 have hB4 := hB4.tch0 hT6
 have z15 := hT0.size
 have l16 := hB4.lt
 have l17 := hB8.lt
 refine st (by rfl) (S_new (v := .pointer (some ⟨w5.heap.size, 0, none⟩)) (ob := .cells #[.int .u64 0, .int .u64 0] 104) (by kernel_rfl) fun w11 hT12 hs13 hB14 => ?_)
 replace hB14 : Blk w11 (w5.heap.size) 104 [.int .u64 0, .int .u64 0] := hB14
 have hT0 := hT0.t0 hT12
 have hD := hD.tch0 hT12
 have hHr := hH.tch0 hT0
 have hB4 := hB4.tch0 hT12
 have hB8 := hB8.tch0 hT12
 refine op_nil ?_
 refine zQ ?_
 refine st (by rfl) (S_val (v := .agg #[.slice A N.length cp, .int .i64 most]) (R_loadA [.slice A N.length cp, .int .i64 most] (by kernel_rfl) (by kernel_rfl) (by kernel_rfl) (fun k u hk => by rw [hB4.cell]; exact get_part _ 0 _ k u rfl hk)) ?_)
 refine zS [(14, .pointer (some ⟨w1.heap.size, 2, none⟩))] ?_
 refine zL (.int .i64 ((a : Nat) : Int)) ((hB8.cell 2).trans rfl) ?_
 refine st (by rfl) (S_call (args := [.agg #[.slice A N.length cp, .int .i64 most], .int .i64 ((a : Nat) : Int)]) (by kernel_rfl) ((by have q := rwid_ok A cp most N ((a : Nat) : Int) _ hD; rw [hwa] at q; exact q)) ?_)
 rintro _ w18 ⟨rfl, hT19⟩
 have hT0 := hT0.t0 hT19
 have hD := hD.tch0 hT19
 have hHr := hH.tch0 hT0
 have hB4 := hB4.tch0 hT19
 have hB8 := hB8.tch0 hT19
 have hB14 := hB14.tch0 hT19
 refine zS [(7, .int .i64 ((wd : Nat) : Int))] ?_
 refine op_nil ?_
 refine W_seq ?_
 refine zQ ?_
 refine zS [(17, .pointer (some ⟨w1.heap.size, 0, none⟩))] ?_
 refine zL (.int .i64 26) ((hB8.cell 0).trans rfl) ?_
 refine op_nil ?_
 refine W_block ?_
 refine zQ ?_
 refine zS [(20, .bool false), (19, .bool false)] ?_
 refine zO false (fun h => nomatch h) (fun _ => ?_)
 refine W_seq ?_
 refine zQ ?_
 refine zS [(28, .bool false), (27, .bool false)] ?_
 refine zO false (fun h => nomatch h) (fun _ => ?_)
 refine zR ?_
 refine zS [(29, .bool false), (27, .bool false)] ?_
 refine zO false (fun h => nomatch h) (fun _ => ?_)
 refine zQ ?_
 refine zS [(32, .bool false), (31, .bool false)] ?_
 refine zO false (fun h => nomatch h) (fun _ => ?_)
 refine zQ ?_
 refine zS [(54, .bool false), (53, .bool false)] ?_
 refine zO false (fun h => nomatch h) (fun _ => ?_)
 refine zQ ?_
 refine zS [(93, .bool false), (92, .bool false)] ?_
 refine zO false (fun h => nomatch h) (fun _ => ?_)
 refine zQ ?_
 refine zS [(106, .bool false), (105, .bool false)] ?_
 refine zO false (fun h => nomatch h) (fun _ => ?_)
 refine zQ ?_
 refine zS [(117, .bool true), (116, .bool true)] ?_
 refine zO true (fun _ => ?_) (fun h => nomatch h)
 refine zQ ?_
 refine zS [(119, .slice B k cb), (120, .pointer (some ⟨w1.heap.size, 2, none⟩))] ?_
 refine zL (.int .i64 ((a : Nat) : Int)) ((hB8.cell 2).trans rfl) ?_
 refine stv (v := ptrAt B (a * 2)) (by rfl) (R_indexRd (sz := 2) (len := k) (cap := cb) (k := .i64) (i := ((a : Nat) : Int)) (e := 104) a hHr (by kernel_rfl) (by kernel_rfl) (by kernel_rfl) (by kernel_rfl) rfl (by omega)) ?_
 refine stv (v := .agg #[.int .u64 (((kg l a).1 : Nat) : Int), .int .u64 (((kg l a).2 : Nat) : Int)]) (by rfl) (R_loadRdA [.int .u64 (((kg l a).1 : Nat) : Int), .int .u64 (((kg l a).2 : Nat) : Int)] hHr (by omega) (by kernel_rfl) (by kernel_rfl) (by kernel_rfl) (kcs_part l (by omega))) ?_
 refine zS [(124, .int .i64 ((wd : Nat) : Int)), (125, .int .i64 (IntKind.i64.wrap (((wd : Nat) : Int) - 1)))] ?_
 rw [show IntKind.i64.wrap (((wd : Nat) : Int) - 1) = ((wd : Nat) : Int) - 1 from wrap_i64 (by omega) (by omega)]
 refine fixR (y := ((wd - 1 : Nat) : Int)) (by omega) ?_
 refine zC (rbit2_ok ((kg l a).1) ((kg l a).2) (wd - 1) _ (by omega) ua1 ua2) ?_
 rintro _ w20 ⟨rfl, hT21⟩
 have hT0 := hT0.t0 hT21
 have hD := hD.tch0 hT21
 have hHr := hH.tch0 hT0
 have hB4 := hB4.tch0 hT21
 have hB8 := hB8.tch0 hT21
 have hB14 := hB14.tch0 hT21
 refine zS [(118, .tuple #[.bool (((kg l a).1).testBit (wd - 1)), .bool (((kg l a).2).testBit (wd - 1))]), (127, .bool (((kg l a).1).testBit (wd - 1))), (128, .bool (((kg l a).2).testBit (wd - 1))), (10, .bool (((kg l a).1).testBit (wd - 1))), (11, .bool (((kg l a).2).testBit (wd - 1)))] ?_
 refine op_nil ?_
 refine W_seq ?_
 refine W_draw (fun w' => RdW w' 2 k B (kcs l) ∧ Blk w' (w1.heap.size) 32 [.int .i64 26, .int .i64 ((nw : Nat) : Int), .int .i64 ((a : Nat) : Int), .int .i64 xb, .int .i64 xc, .int .u64 xv]) (by kernel_rfl) (by kernel_rfl) (by kernel_rfl) fun w22 hT23 hh24 => ?_
 have hT0 := hT0.t0 hT23
 have hD := hD.tch0 hT23
 have hHr := hH.tch0 hT0
 have hB4 := hB4.tch0 hT23
 have hB8 := hB8.tch0 hT23
 have hB14 := hB14.tch0 hT23
 refine zK [0, 2, 3, 4, 8, 9] #[true, false, true, true, true, false, false, false, true, true, false, false] [(129, .pointer (some ⟨w1.heap.size, 1, none⟩)), (131, .int .i64 ((wd : Nat) : Int)), (132, .slice B k cb), (133, .pointer (some ⟨w1.heap.size, 2, none⟩)), (137, .bool (((kg l a).1).testBit (wd - 1))), (138, .bool (((kg l a).2).testBit (wd - 1)))] ⟨hHr, hB8⟩ ?_
 refine zV 1 rfl (.int .i64 ((nw : Nat) : Int)) (fun _ ⟨hHr, hB8⟩ => R_load (v := .int .i64 ((nw : Nat) : Int)) (by kernel_rfl) (by kernel_rfl) ((hB8.cell 1).trans rfl)) ⟨hHr, hB8⟩ ?_
 refine zV 5 rfl (.int .i64 ((a : Nat) : Int)) (fun _ ⟨hHr, hB8⟩ => R_load (v := .int .i64 ((a : Nat) : Int)) (by kernel_rfl) (by kernel_rfl) ((hB8.cell 2).trans rfl)) ⟨hHr, hB8⟩ ?_
 refine zV 6 rfl (ptrAt B (a * 2)) (fun _ ⟨hHr, hB8⟩ => R_indexRd (sz := 2) (len := k) (cap := cb) (k := .i64) (i := ((a : Nat) : Int)) (e := 104) a hHr (by kernel_rfl) (by kernel_rfl) (by kernel_rfl) (by kernel_rfl) rfl (by omega)) ⟨hHr, hB8⟩ ?_
 refine zV 7 rfl (.agg #[.int .u64 (((kg l a).1 : Nat) : Int), .int .u64 (((kg l a).2 : Nat) : Int)]) (fun _ ⟨hHr, hB8⟩ => R_loadRdA [.int .u64 (((kg l a).1 : Nat) : Int), .int .u64 (((kg l a).2 : Nat) : Int)] hHr (by omega) (by kernel_rfl) (by kernel_rfl) (by kernel_rfl) (kcs_part l (by omega))) ⟨hHr, hB8⟩ ?_
 refine zD 10 rfl (S_call (args := [.int .i64 ((nw : Nat) : Int), .int .i64 0, .int .i64 ((wd : Nat) : Int), .agg #[.int .u64 (((kg l a).1 : Nat) : Int), .int .u64 (((kg l a).2 : Nat) : Int)], .bool (((kg l a).1).testBit (wd - 1)), .bool (((kg l a).2).testBit (wd - 1))]) (by kernel_rfl) (rpart_ok nw 0 wd (kg l a) (((kg l a).1).testBit (wd - 1)) (((kg l a).2).testBit (wd - 1)) _ hxa hw (by omega)) ?_)
 rintro _ w25 ⟨rfl, hT26⟩
 have hT0 := hT0.t0 hT26
 have hD := hD.tch0 hT26
 have hHr := hH.tch0 hT0
 have hB4 := hB4.tch0 hT26
 have hB8 := hB8.tch0 hT26
 have hB14 := hB14.tch0 hT26
 refine ⟨⟨hHr, hB8⟩, ?_⟩
 refine zD 11 rfl (S_storeA (b := w5.heap.size) (j := 0) (cs := [.int .u64 (((kpart nw 0 wd (kg l a) (((kg l a).1).testBit (wd - 1)) (((kg l a).2).testBit (wd - 1))).1 : Nat) : Int), .int .u64 (((kpart nw 0 wd (kg l a) (((kg l a).1).testBit (wd - 1)) (((kg l a).2).testBit (wd - 1))).2 : Nat) : Int)]) (by kernel_rfl) (by kernel_rfl) (by kernel_rfl) (by simp [oneV]) hB14 (by simp) fun w27 hT28 hs29 hB14' => ?_)
 have hT0 := (hT0).then hT28 (fun c e => by have : c = w5.heap.size := e; omega)
 have hD := hD.tch hT28 (fun c hc e => hD.blk_ne hB14 (by decide) c hc e)
 have hHr := hH.tch0 hT0
 have hB4 := hB4.tch hT28 (hB4.ne hB14 (by decide))
 have hB8 := hB8.tch hT28 (hB8.ne hB14 (by decide))
 replace hB14 : Blk w27 w5.heap.size 104 [.int .u64 (((kpart nw 0 wd (kg l a) (((kg l a).1).testBit (wd - 1)) (((kg l a).2).testBit (wd - 1))).1 : Nat) : Int), .int .u64 (((kpart nw 0 wd (kg l a) (((kg l a).1).testBit (wd - 1)) (((kg l a).2).testBit (wd - 1))).2 : Nat) : Int)] := hB14'
 refine ⟨⟨hHr, hB8⟩, ?_⟩
 refine d_done (by kernel_rfl) ?_
 refine W_ret ?_
 exact ⟨_, Res_cell (b := w5.heap.size) (cs := [.int .u64 (((kpart nw 0 wd (kg l a) (((kg l a).1).testBit (wd - 1)) (((kg l a).2).testBit (wd - 1))).1 : Nat) : Int), .int .u64 (((kpart nw 0 wd (kg l a) (((kg l a).1).testBit (wd - 1)) (((kg l a).2).testBit (wd - 1))).2 : Nat) : Int)]) (by rfl) (by kernel_rfl) (by kernel_rfl) hB14 (by kernel_rfl) (by kernel_rfl), ⟨by kernel_rfl, hT0⟩⟩

end Go.Proofs.YtlbadnpgmkobdaaV

set_option linter.unusedVariables false
set_option linter.unusedSimpArgs false
namespace Go.Proofs.YtlbadnpgmkobdaaV
open Go Go.RowKit Go.Proofs
theorem node_cases {N : List Nd} {most : Int} {i : Nat} (hJ : TJ N most) (hB : TB N) (hi : i < N.length) (P : Int → Int → Int → Int → Int → Int → K → Prop)
  (h20 : ∀ (nw wd up : Nat) (xa xb xc : Int) (x y z : K) (lo V : Nat) (cst : Option Nat), nw ≤ 64 → V < 18446744073709551616 → P 20 nw xa xb xc V (kone 20 nw wd up x y z lo V cst))
  (h21 : ∀ (nw wd up : Nat) (xa xb xc xv : Int) (x y z : K) (lo V : Nat) (cst : Option Nat), P 21 nw xa xb xc xv (kone 21 nw wd up x y z lo V cst))
  (h15 : ∀ (nw wd up a : Nat) (xb xc xv : Int) (y z : K) (lo V : Nat) (cst : Option Nat), a < i → widF N ((a : Nat) : Int) = ((wd : Nat) : Int) → KI wd (kg (kl N i) a) → wd ≤ 64 → P 15 nw a xb xc xv (kone 15 nw wd up (kg (kl N i) a) y z lo V cst))
  (h16 : ∀ (nw wd up a : Nat) (xb xc xv : Int) (y z : K) (lo V : Nat) (cst : Option Nat), a < i → widF N ((a : Nat) : Int) = ((wd : Nat) : Int) → KI wd (kg (kl N i) a) → wd ≤ 64 → P 16 nw a xb xc xv (kone 16 nw wd up (kg (kl N i) a) y z lo V cst))
  (h2 : ∀ (nw wd up a b : Nat) (xc xv : Int) (z : K) (lo V : Nat) (by_ O : Nat), a < i → b < i → widF N ((a : Nat) : Int) = ((wd : Nat) : Int) → KI wd (kg (kl N i) a) → KI wd (kg (kl N i) b) → wd ≤ 64 → (1 ≤ O ∧ O ≤ 14) → b < N.length → nV (nth N b) = ((by_ : Nat) : Int) → by_ < 18446744073709551616 → P O nw a b xc xv (kone O nw wd up (kg (kl N i) a) (kg (kl N i) b) z lo V (if nO (nth N b) = 20 then some by_ else none)))
  (h22 : ∀ (nw wd up a b c : Nat) (xv : Int) (lo V : Nat) (cst : Option Nat), a < i → b < i → c < i → widF N ((a : Nat) : Int) = ((wd : Nat) : Int) → KI 1 (kg (kl N i) a) → KI nw (kg (kl N i) b) → KI nw (kg (kl N i) c) → nw ≤ 64 → P 22 nw a b c xv (kone 22 nw wd up (kg (kl N i) a) (kg (kl N i) b) (kg (kl N i) c) lo V cst))
  (h23 : ∀ (nw wd up a lo : Nat) (xc xv : Int) (y z : K) (V : Nat) (cst : Option Nat), a < i → widF N ((a : Nat) : Int) = ((wd : Nat) : Int) → KI wd (kg (kl N i) a) → wd ≤ 64 → lo + nw ≤ wd → P 23 nw a lo xc xv (kone 23 nw wd up (kg (kl N i) a) y z lo V cst))
  (h24 : ∀ (nw wd up a b : Nat) (xc xv : Int) (z : K) (lo V : Nat) (cst : Option Nat), a < i → b < i → widF N ((a : Nat) : Int) = ((wd : Nat) : Int) → widF N ((b : Nat) : Int) = ((up : Nat) : Int) → KI wd (kg (kl N i) a) → KI up (kg (kl N i) b) → wd + up ≤ 64 → P 24 nw a b xc xv (kone 24 nw wd up (kg (kl N i) a) (kg (kl N i) b) z lo V cst))
  (h25 : ∀ (nw wd up a : Nat) (xb xc xv : Int) (y z : K) (lo V : Nat) (cst : Option Nat), a < i → widF N ((a : Nat) : Int) = ((wd : Nat) : Int) → KI wd (kg (kl N i) a) → wd ≤ 64 → 1 ≤ wd → wd ≤ nw → nw ≤ 64 → P 25 nw a xb xc xv (kone 25 nw wd up (kg (kl N i) a) y z lo V cst))
  (h26 : ∀ (nw wd up a : Nat) (xb xc xv : Int) (y z : K) (lo V : Nat) (cst : Option Nat), a < i → widF N ((a : Nat) : Int) = ((wd : Nat) : Int) → KI wd (kg (kl N i) a) → wd ≤ 64 → 1 ≤ wd → wd ≤ nw → nw ≤ 64 → P 26 nw a xb xc xv (kone 26 nw wd up (kg (kl N i) a) y z lo V cst)) :
  P (nO (nth N i)) (nW (nth N i)) (nA (nth N i)) (nB (nth N i)) (nC (nth N i)) (nV (nth N i)) (konN N (kl N i) (nth N i)) := by
 have hn := hB i hi
 have hwr := hJ.wr _ (nth_mem hi)
 have hwf := hJ.ti.wf _ (nth_mem hi)
 have hu := hwf.2.2.2.2.2
 unfold u64 at hu
 generalize nth N i = n at hn hwr hwf hu ⊢
 have key : ∀ (o w a b c v : Int) (x : K), nO n = o → nW n = w → nA n = a → nB n = b → nC n = c → nV n = v → konN N (kl N i) n = x → P o w a b c v x → P (nO n) (nW n) (nA n) (nB n) (nC n) (nV n) (konN N (kl N i) n) := by
  rintro o w a b c v x rfl rfl rfl rfl rfl rfl rfl h; exact h
 have tn : ∀ {x : Int}, 0 ≤ x → x = ((x.toNat : Nat) : Int) := fun h => (Int.toNat_of_nonneg h).symm
 have lt : ∀ {x : Int}, pt i x → x.toNat < i := fun p => by have := p.1; have := p.2; omega
 have arg : ∀ {x : Int}, pt i x → KI (widF N x).toNat (kg (kl N i) x.toNat) := fun p => by
  rw [wid_nth p (by omega)]; exact kl_KI hJ hB _ _ (lt p) (by have := lt p; omega)
 have wd : ∀ {x : Int}, pt i x → 1 ≤ widF N x ∧ widF N x ≤ 64 := fun p => hJ.wid p.1 (by have := p.2; omega)
 have we : ∀ {x : Int}, pt i x → widF N ((x.toNat : Nat) : Int) = (((widF N x).toNat : Nat) : Int) := fun p => by
  rw [Int.toNat_of_nonneg p.1, Int.toNat_of_nonneg (by have := (wd p).1; omega)]
 have hwn : nW n = (((nW n).toNat : Nat) : Int) := tn (by omega)
 rcases hn with h | h | ⟨h, a, e⟩ | ⟨h, a, b, e, e2⟩ | ⟨h, a, b, c, e, e2, e3⟩ | ⟨h, a, b, e⟩ | ⟨h, a, b, e⟩ | ⟨h, a, e⟩
 ·
  refine key _ _ _ _ _ _ _ h.1 hwn rfl rfl rfl (tn hu.1) ?_ (h20 (nW n).toNat (widF N (nA n)).toNat (widF N (nB n)).toNat (nA n) (nB n) (nC n) (kg (kl N i) (nA n).toNat) (kg (kl N i) (nB n).toNat) (kg (kl N i) (nC n).toNat) (nB n).toNat (nV n).toNat (cstN N n) (by omega) (by omega))
  unfold konN; rw [show (nO n).toNat = 20 by omega]
 ·
  refine key _ _ _ _ _ _ _ h.1 hwn rfl rfl rfl rfl ?_ (h21 (nW n).toNat (widF N (nA n)).toNat (widF N (nB n)).toNat (nA n) (nB n) (nC n) (nV n) (kg (kl N i) (nA n).toNat) (kg (kl N i) (nB n).toNat) (kg (kl N i) (nC n).toNat) (nB n).toNat (nV n).toNat (cstN N n))
  unfold konN; rw [show (nO n).toNat = 21 by omega]
 ·
  have w1 := wd a
  rcases h with h | h
  ·
   refine key _ _ _ _ _ _ _ h hwn (tn a.1) rfl rfl rfl ?_ (h15 (nW n).toNat (widF N (nA n)).toNat (widF N (nB n)).toNat (nA n).toNat (nB n) (nC n) (nV n) (kg (kl N i) (nB n).toNat) (kg (kl N i) (nC n).toNat) (nB n).toNat (nV n).toNat (cstN N n) (lt a) (we a) (arg a) (by omega))
   unfold konN; rw [show (nO n).toNat = 15 by omega]
  ·
   refine key _ _ _ _ _ _ _ h hwn (tn a.1) rfl rfl rfl ?_ (h16 (nW n).toNat (widF N (nA n)).toNat (widF N (nB n)).toNat (nA n).toNat (nB n) (nC n) (nV n) (kg (kl N i) (nB n).toNat) (kg (kl N i) (nC n).toNat) (nB n).toNat (nV n).toNat (cstN N n) (lt a) (we a) (arg a) (by omega))
   unfold konN; rw [show (nO n).toNat = 16 by omega]
 ·
  have w1 := wd a
  have lb := lt b
  have hy := arg b
  rw [← e] at hy
  have hvb := (hJ.ti.wf _ (nth_mem (show (nB n).toNat < N.length by omega))).2.2.2.2.2
  unfold u64 at hvb
  refine key _ _ _ _ _ _ _ (tn (by omega)) hwn (tn a.1) (tn b.1) rfl rfl ?_ (h2 (nW n).toNat (widF N (nA n)).toNat (widF N (nB n)).toNat (nA n).toNat (nB n).toNat (nC n) (nV n) (kg (kl N i) (nC n).toNat) (nB n).toNat (nV n).toNat (nV (nth N (nB n).toNat)).toNat (nO n).toNat (lt a) lb (we a) (arg a) hy (by omega) (by omega) (by omega) (tn hvb.1) (by omega))
  rfl
 ·
  have w1 := wd a
  have w2 := wd b
  have hx := arg a
  have hy := arg b
  have hz := arg c
  rw [e] at hx
  rw [← e2] at hz
  rw [← e3] at hy hz
  refine key _ _ _ _ _ _ _ h hwn (tn a.1) (tn b.1) (tn c.1) rfl ?_ (h22 (nW n).toNat (widF N (nA n)).toNat (widF N (nB n)).toNat (nA n).toNat (nB n).toNat (nC n).toNat (nV n) (nB n).toNat (nV n).toNat (cstN N n) (lt a) (lt b) (lt c) (we a) hx hy hz (by omega))
  unfold konN; rw [show (nO n).toNat = 22 by omega]
 ·
  have w1 := wd a
  refine key _ _ _ _ _ _ _ h hwn (tn a.1) (tn b) rfl rfl ?_ (h23 (nW n).toNat (widF N (nA n)).toNat (widF N (nB n)).toNat (nA n).toNat (nB n).toNat (nC n) (nV n) (kg (kl N i) (nB n).toNat) (kg (kl N i) (nC n).toNat) (nV n).toNat (cstN N n) (lt a) (we a) (arg a) (by omega) (by omega))
  unfold konN; rw [show (nO n).toNat = 23 by omega]
 ·
  have w1 := wd a
  have w2 := wd b
  refine key _ _ _ _ _ _ _ h hwn (tn a.1) (tn b.1) rfl rfl ?_ (h24 (nW n).toNat (widF N (nA n)).toNat (widF N (nB n)).toNat (nA n).toNat (nB n).toNat (nC n) (nV n) (kg (kl N i) (nC n).toNat) (nB n).toNat (nV n).toNat (cstN N n) (lt a) (lt b) (we a) (we b) (arg a) (arg b) (by omega))
  unfold konN; rw [show (nO n).toNat = 24 by omega]
 ·
  have w1 := wd a
  rcases h with h | h
  ·
   refine key _ _ _ _ _ _ _ h hwn (tn a.1) rfl rfl rfl ?_ (h25 (nW n).toNat (widF N (nA n)).toNat (widF N (nB n)).toNat (nA n).toNat (nB n) (nC n) (nV n) (kg (kl N i) (nB n).toNat) (kg (kl N i) (nC n).toNat) (nB n).toNat (nV n).toNat (cstN N n) (lt a) (we a) (arg a) (by omega) (by omega) (by omega) (by omega))
   unfold konN; rw [show (nO n).toNat = 25 by omega]
  ·
   refine key _ _ _ _ _ _ _ h hwn (tn a.1) rfl rfl rfl ?_ (h26 (nW n).toNat (widF N (nA n)).toNat (widF N (nB n)).toNat (nA n).toNat (nB n) (nC n) (nV n) (kg (kl N i) (nB n).toNat) (kg (kl N i) (nC n).toNat) (nB n).toNat (nV n).toNat (cstN N n) (lt a) (we a) (arg a) (by omega) (by omega) (by omega) (by omega))
   unfold konN; rw [show (nO n).toNat = 26 by omega]
theorem of_all (F : Nat → Prop) (p : Nat) (most : Int) (N : List Nd) (W : Value → Value → Prop) (f cp : Nat) (A : Option Addr) (i : Nat) (w : World) (hL : TLow F w p most N W) (hJ : TJ N most) (hB : TB N) (hN : N.length ≤ 65536) (hi : i < N.length) (hP : Blk w f 98 [.pointer (some ⟨p, 0, none⟩), .slice A i cp]) (hH : RdW w 2 i A (kcs (kl N i))) : Ret Try.prog 50 [.pointer (some ⟨f, 0, none⟩), .agg #[.int .i64 (nO (nth N i)), .int .i64 (nW (nth N i)), .int .i64 (nA (nth N i)), .int .i64 (nB (nth N i)), .int .i64 (nC (nth N i)), .int .u64 (nV (nth N i))]] w fun v w' => v = .agg #[.int .u64 (((konN N (kl N i) (nth N i)).1 : Nat) : Int), .int .u64 (((konN N (kl N i) (nth N i)).2 : Nat) : Int)] ∧ Tch N0 w w' :=
  node_cases hJ hB hi (fun o wd a b c v x => Ret Try.prog 50 [.pointer (some ⟨f, 0, none⟩), .agg #[.int .i64 o, .int .i64 wd, .int .i64 a, .int .i64 b, .int .i64 c, .int .u64 v]] w fun r w' => r = .agg #[.int .u64 ((x.1 : Nat) : Int), .int .u64 ((x.2 : Nat) : Int)] ∧ Tch N0 w w')
    (fun nw wd up xa xb xc x y z lo V cst h1 h2 => of20_ok F p most N W f i cp A (kl N i) nw wd up xa xb xc x y z lo V cst w hL hN hP hH h1 h2)
    (fun nw wd up xa xb xc xv x y z lo V cst => of21_ok F p most N W f i cp A (kl N i) nw wd up xa xb xc xv x y z lo V cst w hL hN hP hH)
    (fun nw wd up a xb xc xv y z lo V cst h1 h2 h3 h4 => of15_ok F p most N W f i cp A (kl N i) nw wd up a xb xc xv y z lo V cst w hL hN hP hH h1 h2 h3 h4)
    (fun nw wd up a xb xc xv y z lo V cst h1 h2 h3 h4 => of16_ok F p most N W f i cp A (kl N i) nw wd up a xb xc xv y z lo V cst w hL hN hP hH h1 h2 h3 h4)
    (fun nw wd up a b xc xv z lo V by_ O h1 h2 h3 h4 h5 h6 h7 h8 h9 h10 => of2_ok F p most N W f i cp A (kl N i) nw wd up a b xc xv z lo V by_ O w hL hN hP hH h1 h2 h3 h4 h5 h6 h7 h8 h9 h10)
    (fun nw wd up a b c xv lo V cst h1 h2 h3 h4 h5 h6 h7 h8 => of22_ok F p most N W f i cp A (kl N i) nw wd up a b c xv lo V cst w hL hN hP hH h1 h2 h3 h4 h5 h6 h7 h8)
    (fun nw wd up a lo xc xv y z V cst h1 h2 h3 h4 h5 => of23_ok F p most N W f i cp A (kl N i) nw wd up a lo xc xv y z V cst w hL hN hP hH h1 h2 h3 h4 h5)
    (fun nw wd up a b xc xv z lo V cst h1 h2 h3 h4 h5 h6 h7 => of24_ok F p most N W f i cp A (kl N i) nw wd up a b xc xv z lo V cst w hL hN hP hH h1 h2 h3 h4 h5 h6 h7)
    (fun nw wd up a xb xc xv y z lo V cst h1 h2 h3 h4 h5 h6 h7 => of25_ok F p most N W f i cp A (kl N i) nw wd up a xb xc xv y z lo V cst w hL hN hP hH h1 h2 h3 h4 h5 h6 h7)
    (fun nw wd up a xb xc xv y z lo V cst h1 h2 h3 h4 h5 h6 h7 => of26_ok F p most N W f i cp A (kl N i) nw wd up a xb xc xv y z lo V cst w hL hN hP hH h1 h2 h3 h4 h5 h6 h7)
theorem rone_all (A : Option Addr) (cp : Nat) (most m2 : Int) (N : List Nd) (B : Option Addr) (cb i : Nat) (w : World) (hD : Own w 0 32 6 (.slice A N.length cp) N.length (ncs N)) (hJ : TJ N m2) (hB : TB N) (hi : i < N.length) (hH : RdW w 2 i B (kcs (kl N i))) : Ret Try.prog 51 [.agg #[.slice A N.length cp, .int .i64 most], .agg #[.int .i64 (nO (nth N i)), .int .i64 (nW (nth N i)), .int .i64 (nA (nth N i)), .int .i64 (nB (nth N i)), .int .i64 (nC (nth N i)), .int .u64 (nV (nth N i))], .slice B i cb] w fun v w' => v = .agg #[.int .u64 (((konN N (kl N i) (nth N i)).1 : Nat) : Int), .int .u64 (((konN N (kl N i) (nth N i)).2 : Nat) : Int)] ∧ Tch N0 w w' :=
  node_cases hJ hB hi (fun o wd a b c v x => Ret Try.prog 51 [.agg #[.slice A N.length cp, .int .i64 most], .agg #[.int .i64 o, .int .i64 wd, .int .i64 a, .int .i64 b, .int .i64 c, .int .u64 v], .slice B i cb] w fun r w' => r = .agg #[.int .u64 ((x.1 : Nat) : Int), .int .u64 ((x.2 : Nat) : Int)] ∧ Tch N0 w w')
    (fun nw wd up xa xb xc x y z lo V cst h1 h2 => rone20_ok A cp most N B i cb (kl N i) nw wd up xa xb xc x y z lo V cst w hD hH h1 h2)
    (fun nw wd up xa xb xc xv x y z lo V cst => rone21_ok A cp most N B i cb (kl N i) nw wd up xa xb xc xv x y z lo V cst w hD hH)
    (fun nw wd up a xb xc xv y z lo V cst h1 h2 h3 h4 => rone15_ok A cp most N B i cb (kl N i) nw wd up a xb xc xv y z lo V cst w hD hH h1 h2 h3 h4)
    (fun nw wd up a xb xc xv y z lo V cst h1 h2 h3 h4 => rone16_ok A cp most N B i cb (kl N i) nw wd up a xb xc xv y z lo V cst w hD hH h1 h2 h3 h4)
    (fun nw wd up a b xc xv z lo V by_ O h1 h2 h3 h4 h5 h6 h7 h8 h9 h10 => rone2_ok A cp most N B i cb (kl N i) nw wd up a b xc xv z lo V by_ O w hD hH h1 h2 h3 h4 h5 h6 h7 h8 h9 h10)
    (fun nw wd up a b c xv lo V cst h1 h2 h3 h4 h5 h6 h7 h8 => rone22_ok A cp most N B i cb (kl N i) nw wd up a b c xv lo V cst w hD hH h1 h2 h3 h4 h5 h6 h7 h8)
    (fun nw wd up a lo xc xv y z V cst h1 h2 h3 h4 h5 => rone23_ok A cp most N B i cb (kl N i) nw wd up a lo xc xv y z V cst w hD hH h1 h2 h3 h4 h5)
    (fun nw wd up a b xc xv z lo V cst h1 h2 h3 h4 h5 h6 h7 => rone24_ok A cp most N B i cb (kl N i) nw wd up a b xc xv z lo V cst w hD hH h1 h2 h3 h4 h5 h6 h7)
    (fun nw wd up a xb xc xv y z lo V cst h1 h2 h3 h4 h5 h6 h7 => rone25_ok A cp most N B i cb (kl N i) nw wd up a xb xc xv y z lo V cst w hD hH h1 h2 h3 h4 h5 h6 h7)
    (fun nw wd up a xb xc xv y z lo V cst h1 h2 h3 h4 h5 h6 h7 => rone26_ok A cp most N B i cb (kl N i) nw wd up a xb xc xv y z lo V cst w hD hH h1 h2 h3 h4 h5 h6 h7)
end Go.Proofs.YtlbadnpgmkobdaaV
