/- Walks of functions of the program and of the document's texts. The conditions stand with each theorem. -/
import Derived.Test.YtlbadnpgmkobdaaJKkbit24x1
import Derived.Test.YtlbadnpgmkobdaaJKkbit24x1
import Derived.Test.YtlbadnpgmkobdaaProg
import Derived.Test.YtlbadnpgmkobdaaK4
set_option linter.unusedVariables false
set_option linter.unusedSimpArgs false
namespace Go.Proofs.YtlbadnpgmkobdaaV
open Go Go.RowKit Go.Proofs

theorem kgate_ok (O wd : Nat) (x y : K) (w : World) (hO : O = 6 ∨ O = 7 ∨ O = 8) (hx : KI wd x) (hy : KI wd y) (hw : wd ≤ 64) : Ret Try.prog 77 [.int .i64 ((O : Nat) : Int), .agg #[.int .u64 ((x.1 : Nat) : Int), .int .u64 ((x.2 : Nat) : Int)], .agg #[.int .u64 ((y.1 : Nat) : Int), .int .u64 ((y.2 : Nat) : Int)]] w fun v w' => v = .agg #[.int .u64 (((kgate O wd x y).1 : Nat) : Int), .int .u64 (((kgate O wd x y).2 : Nat) : Int)] ∧ Tch N0 w w' := by
 rcases hO with rfl | rfl | rfl
 ·
  exact kgate6_ok wd x y w hx hy hw
 ·
  exact kgate7_ok wd x y w hx hy hw
 ·
  exact kgate8_ok wd x y w hx hy hw
theorem kmv_ok (O wd : Nat) (x : K) (by_ : Nat) (w : World) (hO : O = 9 ∨ O = 10) (hx : KI wd x) (hw : wd ≤ 64) (hb : by_ < 18446744073709551616) : Ret Try.prog 80 [.int .i64 ((O : Nat) : Int), .int .i64 ((wd : Nat) : Int), .agg #[.int .u64 ((x.1 : Nat) : Int), .int .u64 ((x.2 : Nat) : Int)], .int .u64 ((by_ : Nat) : Int)] w fun v w' => v = .agg #[.int .u64 (((kmv O wd x by_).1 : Nat) : Int), .int .u64 (((kmv O wd x by_).2 : Nat) : Int)] ∧ Tch N0 w w' := by
 rcases hO with rfl | rfl
 ·
  exact kmv9_ok wd x by_ w hx hw hb
 ·
  exact kmv10_ok wd x by_ w hx hw hb

set_option maxRecDepth 100000 in
theorem of20_ok (F : Nat → Prop) (p : Nat) (most : Int) (N : List Nd) (W : Value → Value → Prop) (f k cp : Nat) (A : Option Addr) (l : List K) (nw wd up : Nat) (xa xb xc : Int) (x y z : K) (lo V : Nat) (cst : Option Nat) (w : World) (hL : TLow F w p most N W) (hN : N.length ≤ 65536) (hP : Blk w f 98 [.pointer (some ⟨p, 0, none⟩), .slice A k cp]) (hH : RdW w 2 k A (kcs l)) (hnw : nw ≤ 64) (hV : V < 18446744073709551616) : Ret Try.prog 50 [.pointer (some ⟨f, 0, none⟩), .agg #[.int .i64 20, .int .i64 ((nw : Nat) : Int), .int .i64 xa, .int .i64 xb, .int .i64 xc, .int .u64 ((V : Nat) : Int)]] w fun v w' => v = .agg #[.int .u64 (((kone 20 nw wd up x y z lo V cst).1 : Nat) : Int), .int .u64 (((kone 20 nw wd up x y z lo V cst).2 : Nat) : Int)] ∧ Tch N0 w w' := by
 have hll : l.length = k := by have := hH.1; rw [kcs_length] at this; omega
 refine enter Try.func50 rfl rfl ?_
 refine zQ ?_
 have hlt_ := hL.lt
 have lt5 := hP.lt
 have l6 := hP.lt
 refine st (by rfl) (S_new (v := .pointer (some ⟨w.heap.size, 0, none⟩)) (ob := .cells #[.int .i64 20, .int .i64 ((nw : Nat) : Int), .int .i64 xa, .int .i64 xb, .int .i64 xc, .int .u64 ((V : Nat) : Int)] 32) (by kernel_rfl) fun w1 hT2 hs3 hB4 => ?_)
 replace hB4 : Blk w1 (w.heap.size) 32 [.int .i64 20, .int .i64 ((nw : Nat) : Int), .int .i64 xa, .int .i64 xb, .int .i64 xc, .int .u64 ((V : Nat) : Int)] := hB4
 have hT0 := hT2
 have hL := hL.tch0 hT2
 have hP := hP.tch0 hT2
 have hHr := hH.tch0 hT0
 have nF_hB4 : ¬ F (w.heap.size) := fun e => by have := hlt_ _ e; omega
 have hlt_ := hL.lt
 have lt11 := hP.lt
 have lt12 := hB4.lt
 have z13 := hT0.size
 have l14 := hP.lt
 have l15 := hB4.lt
 refine st (by rfl) (S_new (v := .pointer (some ⟨w1.heap.size, 0, none⟩)) (ob := .cells #[.int .u64 0, .int .u64 0] 100) (by kernel_rfl) fun w7 hT8 hs9 hB10 => ?_)
 replace hB10 : Blk w7 (w1.heap.size) 100 [.int .u64 0, .int .u64 0] := hB10
 have hT0 := hT0.t0 hT8
 have hL := hL.tch0 hT8
 have hP := hP.tch0 hT8
 have hHr := hH.tch0 hT0
 have hB4 := hB4.tch0 hT8
 have nF_hB10 : ¬ F (w1.heap.size) := fun e => by have := hlt_ _ e; omega
 refine op_nil ?_
 refine zQ ?_
 have hlt_ := hL.lt
 have lt20 := hP.lt
 have lt21 := hB4.lt
 have lt22 := hB10.lt
 have z23 := hT0.size
 have l24 := hP.lt
 have l25 := hB4.lt
 have l26 := hB10.lt
 refine st (by rfl) (S_new (v := .pointer (some ⟨w7.heap.size, 0, none⟩)) (ob := .cells #[.int .u64 0, .int .u64 0] 100) (by kernel_rfl) fun w16 hT17 hs18 hB19 => ?_)
 replace hB19 : Blk w16 (w7.heap.size) 100 [.int .u64 0, .int .u64 0] := hB19
 have hT0 := hT0.t0 hT17
 have hL := hL.tch0 hT17
 have hP := hP.tch0 hT17
 have hHr := hH.tch0 hT0
 have hB4 := hB4.tch0 hT17
 have hB10 := hB10.tch0 hT17
 have nF_hB19 : ¬ F (w7.heap.size) := fun e => by have := hlt_ _ e; omega
 have hlt_ := hL.lt
 have lt31 := hP.lt
 have lt32 := hB4.lt
 have lt33 := hB10.lt
 have lt34 := hB19.lt
 have z35 := hT0.size
 have l36 := hP.lt
 have l37 := hB4.lt
 have l38 := hB10.lt
 have l39 := hB19.lt
 refine st (by rfl) (S_new (v := .pointer (some ⟨w16.heap.size, 0, none⟩)) (ob := .cells #[.int .u64 0, .int .u64 0] 100) (by kernel_rfl) fun w27 hT28 hs29 hB30 => ?_)
 replace hB30 : Blk w27 (w16.heap.size) 100 [.int .u64 0, .int .u64 0] := hB30
 have hT0 := hT0.t0 hT28
 have hL := hL.tch0 hT28
 have hP := hP.tch0 hT28
 have hHr := hH.tch0 hT0
 have hB4 := hB4.tch0 hT28
 have hB10 := hB10.tch0 hT28
 have hB19 := hB19.tch0 hT28
 have nF_hB30 : ¬ F (w16.heap.size) := fun e => by have := hlt_ _ e; omega
 refine op_nil ?_
 refine W_seq ?_
 refine W_draw (fun w' => Blk w' (f) 98 [.pointer (some ⟨p, 0, none⟩), .slice A k cp] ∧ Blk w' (w.heap.size) 32 [.int .i64 20, .int .i64 ((nw : Nat) : Int), .int .i64 xa, .int .i64 xb, .int .i64 xc, .int .u64 ((V : Nat) : Int)]) (by kernel_rfl) (by kernel_rfl) (by kernel_rfl) fun w40 hT41 hh42 => ?_
 have hT0 := hT0.t0 hT41
 have hL := hL.tch0 hT41
 have hP := hP.tch0 hT41
 have hHr := hH.tch0 hT0
 have hB4 := hB4.tch0 hT41
 have hB10 := hB10.tch0 hT41
 have hB19 := hB19.tch0 hT41
 have hB30 := hB30.tch0 hT41
 refine zK [0, 4, 1, 2] #[true, true, true, false, true, false, false, false] [(12, .pointer (some ⟨f, 0, none⟩)), (16, .pointer (some ⟨w.heap.size, 2, none⟩)), (13, .pointer (some ⟨f, 0, none⟩)), (14, .pointer (some ⟨f, 0, none⟩))] ⟨hP, hB4⟩ ?_
 refine zV 3 rfl (.pointer (some ⟨p, 0, none⟩)) (fun _ ⟨hP, hB4⟩ => R_load (v := .pointer (some ⟨p, 0, none⟩)) (by kernel_rfl) (by kernel_rfl) ((hP.cell 0).trans rfl)) ⟨hP, hB4⟩ ?_
 refine zV 5 rfl (.int .i64 xa) (fun _ ⟨hP, hB4⟩ => R_load (v := .int .i64 xa) (by kernel_rfl) (by kernel_rfl) ((hB4.cell 2).trans rfl)) ⟨hP, hB4⟩ ?_
 refine zD 6 rfl (S_call (args := [.pointer (some ⟨p, 0, none⟩), .int .i64 xa]) (by kernel_rfl) (width_ok F p most N W xa _ hL hN) ?_)
 rintro _ w43 ⟨rfl, hT44⟩
 have hT0 := hT0.t0 hT44
 have hL := hL.tch0 hT44
 have hP := hP.tch0 hT44
 have hHr := hH.tch0 hT0
 have hB4 := hB4.tch0 hT44
 have hB10 := hB10.tch0 hT44
 have hB19 := hB19.tch0 hT44
 have hB30 := hB30.tch0 hT44
 refine ⟨⟨hP, hB4⟩, ?_⟩
 refine zK [7] #[true, true, true, true, true, true, true, true] [(7, .int .i64 (widF N xa))] ⟨hP, hB4⟩ ?_
 refine d_done (by kernel_rfl) ?_
 refine W_seq ?_
 refine zQ ?_
 refine zS [(19, .pointer (some ⟨w.heap.size, 0, none⟩))] ?_
 refine zL (.int .i64 20) ((hB4.cell 0).trans rfl) ?_
 refine zS [(21, .bool false), (22, .bool false), (23, undef), (24, undef), (25, undef), (26, .bool false)] ?_
 refine zO false (fun h => nomatch h) (fun _ => ?_)
 refine W_skip ?_
 refine W_seq ?_
 refine zQ ?_
 refine zS [(35, .pointer (some ⟨w.heap.size, 0, none⟩))] ?_
 refine zL (.int .i64 20) ((hB4.cell 0).trans rfl) ?_
 refine zS [(37, .bool false), (38, .bool false), (39, .pointer (some ⟨w.heap.size, 0, none⟩))] ?_
 refine zL (.int .i64 20) ((hB4.cell 0).trans rfl) ?_
 refine zS [(41, .bool false), (42, .bool false)] ?_
 refine zO false (fun h => nomatch h) (fun _ => ?_)
 refine W_skip ?_
 refine W_seq ?_
 refine zQ ?_
 refine zS [(51, .pointer (some ⟨w.heap.size, 0, none⟩))] ?_
 refine zL (.int .i64 20) ((hB4.cell 0).trans rfl) ?_
 refine op_nil ?_
 refine W_block ?_
 refine zQ ?_
 refine zS [(54, .bool true), (53, .bool true)] ?_
 refine zO true (fun _ => ?_) (fun h => nomatch h)
 refine W_seq ?_
 refine W_draw (fun w' => Blk w' (w.heap.size) 32 [.int .i64 20, .int .i64 ((nw : Nat) : Int), .int .i64 xa, .int .i64 xb, .int .i64 xc, .int .u64 ((V : Nat) : Int)]) (by kernel_rfl) (by kernel_rfl) (by kernel_rfl) fun w45 hT46 hh47 => ?_
 have hT0 := hT0.t0 hT46
 have hL := hL.tch0 hT46
 have hP := hP.tch0 hT46
 have hHr := hH.tch0 hT0
 have hB4 := hB4.tch0 hT46
 have hB10 := hB10.tch0 hT46
 have hB19 := hB19.tch0 hT46
 have hB30 := hB30.tch0 hT46
 refine zK [0, 3] #[true, false, false, true, false, false, false] [(55, .pointer (some ⟨w.heap.size, 1, none⟩)), (58, .pointer (some ⟨w.heap.size, 5, none⟩))] hB4 ?_
 refine zV 1 rfl (.int .i64 ((nw : Nat) : Int)) (fun _ hB4 => R_load (v := .int .i64 ((nw : Nat) : Int)) (by kernel_rfl) (by kernel_rfl) ((hB4.cell 1).trans rfl)) hB4 ?_
 refine zV 4 rfl (.int .u64 ((V : Nat) : Int)) (fun _ hB4 => R_load (v := .int .u64 ((V : Nat) : Int)) (by kernel_rfl) (by kernel_rfl) ((hB4.cell 5).trans rfl)) hB4 ?_
 refine zD 2 rfl (S_call (args := [.int .i64 ((nw : Nat) : Int)]) (by kernel_rfl) (mask_okN nw _ (by omega)) ?_)
 rintro _ w48 ⟨rfl, hT49⟩
 have hT0 := hT0.t0 hT49
 have hL := hL.tch0 hT49
 have hP := hP.tch0 hT49
 have hHr := hH.tch0 hT0
 have hB4 := hB4.tch0 hT49
 have hB10 := hB10.tch0 hT49
 have hB19 := hB19.tch0 hT49
 have hB30 := hB30.tch0 hT49
 have hu50 := pwm_lt (x := nw) (by omega)
 refine ⟨hB4, ?_⟩
 refine zK [5] #[true, true, true, true, true, true, false] [(60, .agg #[.int .u64 ((pw nw - 1 : Nat) : Int), .int .u64 ((V : Nat) : Int)])] hB4 ?_
 refine zD 6 rfl (S_storeA (b := w1.heap.size) (j := 0) (cs := [.int .u64 ((pw nw - 1 : Nat) : Int), .int .u64 ((V : Nat) : Int)]) (by kernel_rfl) (by kernel_rfl) (by kernel_rfl) (by simp [oneV]) hB10 (by simp) fun w51 hT52 hs53 hB10' => ?_)
 have hT0 := (hT0).then hT52 (fun c e => by have : c = w1.heap.size := e; omega)
 have hL := hL.tchS hT52 (fun c e q => by cases e; exact nF_hB10 q)
 have hP := hP.tch hT52 (hP.ne hB10 (by decide))
 have hHr := hH.tch0 hT0
 have hB4 := hB4.tch hT52 (hB4.ne hB10 (by decide))
 have hB19 := hB19.tch hT52 (fun e => by have : w7.heap.size = w1.heap.size := e; omega)
 have hB30 := hB30.tch hT52 (fun e => by have : w16.heap.size = w1.heap.size := e; omega)
 replace hB10 : Blk w51 w1.heap.size 100 [.int .u64 ((pw nw - 1 : Nat) : Int), .int .u64 ((V : Nat) : Int)] := hB10'
 refine ⟨hB4, ?_⟩
 refine d_done (by kernel_rfl) ?_
 refine W_ret ?_
 exact ⟨_, Res_cell (b := w1.heap.size) (cs := [.int .u64 ((pw nw - 1 : Nat) : Int), .int .u64 ((V : Nat) : Int)]) (by rfl) (by kernel_rfl) (by kernel_rfl) hB10 (by kernel_rfl) (by kernel_rfl), ⟨by kernel_rfl, hT0⟩⟩

set_option maxRecDepth 100000 in
theorem of21_ok (F : Nat → Prop) (p : Nat) (most : Int) (N : List Nd) (W : Value → Value → Prop) (f k cp : Nat) (A : Option Addr) (l : List K) (nw wd up : Nat) (xa xb xc xv : Int) (x y z : K) (lo V : Nat) (cst : Option Nat) (w : World) (hL : TLow F w p most N W) (hN : N.length ≤ 65536) (hP : Blk w f 98 [.pointer (some ⟨p, 0, none⟩), .slice A k cp]) (hH : RdW w 2 k A (kcs l)) : Ret Try.prog 50 [.pointer (some ⟨f, 0, none⟩), .agg #[.int .i64 21, .int .i64 ((nw : Nat) : Int), .int .i64 xa, .int .i64 xb, .int .i64 xc, .int .u64 xv]] w fun v w' => v = .agg #[.int .u64 (((kone 21 nw wd up x y z lo V cst).1 : Nat) : Int), .int .u64 (((kone 21 nw wd up x y z lo V cst).2 : Nat) : Int)] ∧ Tch N0 w w' := by
 have hll : l.length = k := by have := hH.1; rw [kcs_length] at this; omega
 refine enter Try.func50 rfl rfl ?_
 refine zQ ?_
 have hlt_ := hL.lt
 have lt5 := hP.lt
 have l6 := hP.lt
 refine st (by rfl) (S_new (v := .pointer (some ⟨w.heap.size, 0, none⟩)) (ob := .cells #[.int .i64 21, .int .i64 ((nw : Nat) : Int), .int .i64 xa, .int .i64 xb, .int .i64 xc, .int .u64 xv] 32) (by kernel_rfl) fun w1 hT2 hs3 hB4 => ?_)
 replace hB4 : Blk w1 (w.heap.size) 32 [.int .i64 21, .int .i64 ((nw : Nat) : Int), .int .i64 xa, .int .i64 xb, .int .i64 xc, .int .u64 xv] := hB4
 have hT0 := hT2
 have hL := hL.tch0 hT2
 have hP := hP.tch0 hT2
 have hHr := hH.tch0 hT0
 have nF_hB4 : ¬ F (w.heap.size) := fun e => by have := hlt_ _ e; omega
 have hlt_ := hL.lt
 have lt11 := hP.lt
 have lt12 := hB4.lt
 have z13 := hT0.size
 have l14 := hP.lt
 have l15 := hB4.lt
 refine st (by rfl) (S_new (v := .pointer (some ⟨w1.heap.size, 0, none⟩)) (ob := .cells #[.int .u64 0, .int .u64 0] 100) (by kernel_rfl) fun w7 hT8 hs9 hB10 => ?_)
 replace hB10 : Blk w7 (w1.heap.size) 100 [.int .u64 0, .int .u64 0] := hB10
 have hT0 := hT0.t0 hT8
 have hL := hL.tch0 hT8
 have hP := hP.tch0 hT8
 have hHr := hH.tch0 hT0
 have hB4 := hB4.tch0 hT8
 have nF_hB10 : ¬ F (w1.heap.size) := fun e => by have := hlt_ _ e; omega
 refine op_nil ?_
 refine zQ ?_
 have hlt_ := hL.lt
 have lt20 := hP.lt
 have lt21 := hB4.lt
 have lt22 := hB10.lt
 have z23 := hT0.size
 have l24 := hP.lt
 have l25 := hB4.lt
 have l26 := hB10.lt
 refine st (by rfl) (S_new (v := .pointer (some ⟨w7.heap.size, 0, none⟩)) (ob := .cells #[.int .u64 0, .int .u64 0] 100) (by kernel_rfl) fun w16 hT17 hs18 hB19 => ?_)
 replace hB19 : Blk w16 (w7.heap.size) 100 [.int .u64 0, .int .u64 0] := hB19
 have hT0 := hT0.t0 hT17
 have hL := hL.tch0 hT17
 have hP := hP.tch0 hT17
 have hHr := hH.tch0 hT0
 have hB4 := hB4.tch0 hT17
 have hB10 := hB10.tch0 hT17
 have nF_hB19 : ¬ F (w7.heap.size) := fun e => by have := hlt_ _ e; omega
 have hlt_ := hL.lt
 have lt31 := hP.lt
 have lt32 := hB4.lt
 have lt33 := hB10.lt
 have lt34 := hB19.lt
 have z35 := hT0.size
 have l36 := hP.lt
 have l37 := hB4.lt
 have l38 := hB10.lt
 have l39 := hB19.lt
 refine st (by rfl) (S_new (v := .pointer (some ⟨w16.heap.size, 0, none⟩)) (ob := .cells #[.int .u64 0, .int .u64 0] 100) (by kernel_rfl) fun w27 hT28 hs29 hB30 => ?_)
 replace hB30 : Blk w27 (w16.heap.size) 100 [.int .u64 0, .int .u64 0] := hB30
 have hT0 := hT0.t0 hT28
 have hL := hL.tch0 hT28
 have hP := hP.tch0 hT28
 have hHr := hH.tch0 hT0
 have hB4 := hB4.tch0 hT28
 have hB10 := hB10.tch0 hT28
 have hB19 := hB19.tch0 hT28
 have nF_hB30 : ¬ F (w16.heap.size) := fun e => by have := hlt_ _ e; omega
 refine op_nil ?_
 refine W_seq ?_
 refine W_draw (fun w' => Blk w' (f) 98 [.pointer (some ⟨p, 0, none⟩), .slice A k cp] ∧ Blk w' (w.heap.size) 32 [.int .i64 21, .int .i64 ((nw : Nat) : Int), .int .i64 xa, .int .i64 xb, .int .i64 xc, .int .u64 xv]) (by kernel_rfl) (by kernel_rfl) (by kernel_rfl) fun w40 hT41 hh42 => ?_
 have hT0 := hT0.t0 hT41
 have hL := hL.tch0 hT41
 have hP := hP.tch0 hT41
 have hHr := hH.tch0 hT0
 have hB4 := hB4.tch0 hT41
 have hB10 := hB10.tch0 hT41
 have hB19 := hB19.tch0 hT41
 have hB30 := hB30.tch0 hT41
 refine zK [0, 4, 1, 2] #[true, true, true, false, true, false, false, false] [(12, .pointer (some ⟨f, 0, none⟩)), (16, .pointer (some ⟨w.heap.size, 2, none⟩)), (13, .pointer (some ⟨f, 0, none⟩)), (14, .pointer (some ⟨f, 0, none⟩))] ⟨hP, hB4⟩ ?_
 refine zV 3 rfl (.pointer (some ⟨p, 0, none⟩)) (fun _ ⟨hP, hB4⟩ => R_load (v := .pointer (some ⟨p, 0, none⟩)) (by kernel_rfl) (by kernel_rfl) ((hP.cell 0).trans rfl)) ⟨hP, hB4⟩ ?_
 refine zV 5 rfl (.int .i64 xa) (fun _ ⟨hP, hB4⟩ => R_load (v := .int .i64 xa) (by kernel_rfl) (by kernel_rfl) ((hB4.cell 2).trans rfl)) ⟨hP, hB4⟩ ?_
 refine zD 6 rfl (S_call (args := [.pointer (some ⟨p, 0, none⟩), .int .i64 xa]) (by kernel_rfl) (width_ok F p most N W xa _ hL hN) ?_)
 rintro _ w43 ⟨rfl, hT44⟩
 have hT0 := hT0.t0 hT44
 have hL := hL.tch0 hT44
 have hP := hP.tch0 hT44
 have hHr := hH.tch0 hT0
 have hB4 := hB4.tch0 hT44
 have hB10 := hB10.tch0 hT44
 have hB19 := hB19.tch0 hT44
 have hB30 := hB30.tch0 hT44
 refine ⟨⟨hP, hB4⟩, ?_⟩
 refine zK [7] #[true, true, true, true, true, true, true, true] [(7, .int .i64 (widF N xa))] ⟨hP, hB4⟩ ?_
 refine d_done (by kernel_rfl) ?_
 refine W_seq ?_
 refine zQ ?_
 refine zS [(19, .pointer (some ⟨w.heap.size, 0, none⟩))] ?_
 refine zL (.int .i64 21) ((hB4.cell 0).trans rfl) ?_
 refine zS [(21, .bool true), (22, .bool true), (23, .pointer (some ⟨w.heap.size, 0, none⟩))] ?_
 refine zL (.int .i64 21) ((hB4.cell 0).trans rfl) ?_
 refine zS [(25, .bool false), (26, .bool false)] ?_
 refine zO false (fun h => nomatch h) (fun _ => ?_)
 refine W_skip ?_
 refine W_seq ?_
 refine zQ ?_
 refine zS [(35, .pointer (some ⟨w.heap.size, 0, none⟩))] ?_
 refine zL (.int .i64 21) ((hB4.cell 0).trans rfl) ?_
 refine zS [(37, .bool false), (38, .bool false), (39, .pointer (some ⟨w.heap.size, 0, none⟩))] ?_
 refine zL (.int .i64 21) ((hB4.cell 0).trans rfl) ?_
 refine zS [(41, .bool false), (42, .bool false)] ?_
 refine zO false (fun h => nomatch h) (fun _ => ?_)
 refine W_skip ?_
 refine W_seq ?_
 refine zQ ?_
 refine zS [(51, .pointer (some ⟨w.heap.size, 0, none⟩))] ?_
 refine zL (.int .i64 21) ((hB4.cell 0).trans rfl) ?_
 refine op_nil ?_
 refine W_block ?_
 refine zQ ?_
 refine zS [(54, .bool false), (53, .bool false)] ?_
 refine zO false (fun h => nomatch h) (fun _ => ?_)
 refine zQ ?_
 refine zS [(62, .bool false), (61, .bool false)] ?_
 refine zO false (fun h => nomatch h) (fun _ => ?_)
 refine W_seq ?_
 refine zQ ?_
 refine zS [(69, .bool false), (68, .bool false)] ?_
 refine zO false (fun h => nomatch h) (fun _ => ?_)
 refine zQ ?_
 refine zS [(70, .bool false), (68, .bool false)] ?_
 refine zO false (fun h => nomatch h) (fun _ => ?_)
 refine zR ?_
 refine zS [(71, .bool false), (68, .bool false)] ?_
 refine zO false (fun h => nomatch h) (fun _ => ?_)
 refine zQ ?_
 refine zS [(78, .bool false), (77, .bool false)] ?_
 refine zO false (fun h => nomatch h) (fun _ => ?_)
 refine zQ ?_
 refine zS [(84, .bool false), (83, .bool false)] ?_
 refine zO false (fun h => nomatch h) (fun _ => ?_)
 refine W_seq ?_
 refine zQ ?_
 refine zS [(90, .bool false), (89, .bool false)] ?_
 refine zO false (fun h => nomatch h) (fun _ => ?_)
 refine zR ?_
 refine zS [(91, .bool false), (89, .bool false)] ?_
 refine zO false (fun h => nomatch h) (fun _ => ?_)
 refine zQ ?_
 refine zS [(113, .bool false), (112, .bool false)] ?_
 refine zO false (fun h => nomatch h) (fun _ => ?_)
 refine zQ ?_
 refine zS [(118, .bool false), (117, .bool false)] ?_
 refine zO false (fun h => nomatch h) (fun _ => ?_)
 refine zQ ?_
 refine zS [(138, .bool false), (137, .bool false)] ?_
 refine zO false (fun h => nomatch h) (fun _ => ?_)
 refine W_seq ?_
 refine zQ ?_
 refine zS [(162, .bool false), (161, .bool false)] ?_
 refine zO false (fun h => nomatch h) (fun _ => ?_)
 refine zR ?_
 refine zS [(163, .bool false), (161, .bool false)] ?_
 refine zO false (fun h => nomatch h) (fun _ => ?_)
 refine W_skip ?_
 refine zQ ?_
 refine zS [(168, .agg #[.int .u64 0, .int .u64 0])] ?_
 refine st (by rfl) (S_storeA (b := w1.heap.size) (j := 0) (cs := [.int .u64 0, .int .u64 0]) (by kernel_rfl) (by kernel_rfl) (by kernel_rfl) (by simp [oneV]) hB10 (by simp) fun w45 hT46 hs47 hB10' => ?_)
 have hT0 := (hT0).then hT46 (fun c e => by have : c = w1.heap.size := e; omega)
 have hL := hL.tchS hT46 (fun c e q => by cases e; exact nF_hB10 q)
 have hP := hP.tch hT46 (hP.ne hB10 (by decide))
 have hHr := hH.tch0 hT0
 have hB4 := hB4.tch hT46 (hB4.ne hB10 (by decide))
 have hB19 := hB19.tch hT46 (fun e => by have : w7.heap.size = w1.heap.size := e; omega)
 have hB30 := hB30.tch hT46 (fun e => by have : w16.heap.size = w1.heap.size := e; omega)
 replace hB10 : Blk w45 w1.heap.size 100 [.int .u64 0, .int .u64 0] := hB10'
 refine op_nil ?_
 refine W_ret ?_
 exact ⟨_, Res_cell (b := w1.heap.size) (cs := [.int .u64 0, .int .u64 0]) (by rfl) (by kernel_rfl) (by kernel_rfl) hB10 (by kernel_rfl) (by kernel_rfl), ⟨by kernel_rfl, hT0⟩⟩

set_option maxRecDepth 100000 in
theorem of15_ok (F : Nat → Prop) (p : Nat) (most : Int) (N : List Nd) (W : Value → Value → Prop) (f k cp : Nat) (A : Option Addr) (l : List K) (nw wd up a : Nat) (xb xc xv : Int) (y z : K) (lo V : Nat) (cst : Option Nat) (w : World) (hL : TLow F w p most N W) (hN : N.length ≤ 65536) (hP : Blk w f 98 [.pointer (some ⟨p, 0, none⟩), .slice A k cp]) (hH : RdW w 2 k A (kcs l)) (ha : a < k) (hwa : widF N ((a : Nat) : Int) = ((wd : Nat) : Int)) (hxa : KI wd (kg l a)) (hw : wd ≤ 64) : Ret Try.prog 50 [.pointer (some ⟨f, 0, none⟩), .agg #[.int .i64 15, .int .i64 ((nw : Nat) : Int), .int .i64 ((a : Nat) : Int), .int .i64 xb, .int .i64 xc, .int .u64 xv]] w fun v w' => v = .agg #[.int .u64 (((kone 15 nw wd up (kg l a) y z lo V cst).1 : Nat) : Int), .int .u64 (((kone 15 nw wd up (kg l a) y z lo V cst).2 : Nat) : Int)] ∧ Tch N0 w w' := by
 have hll : l.length = k := by have := hH.1; rw [kcs_length] at this; omega
 have ua1 := hxa.u1 (show wd ≤ 64 by omega)
 have ua2 := hxa.u2 (show wd ≤ 64 by omega)
 refine enter Try.func50 rfl rfl ?_
 refine zQ ?_
 have hlt_ := hL.lt
 have lt5 := hP.lt
 have l6 := hP.lt
 refine st (by rfl) (S_new (v := .pointer (some ⟨w.heap.size, 0, none⟩)) (ob := .cells #[.int .i64 15, .int .i64 ((nw : Nat) : Int), .int .i64 ((a : Nat) : Int), .int .i64 xb, .int .i64 xc, .int .u64 xv] 32) (by kernel_rfl) fun w1 hT2 hs3 hB4 => ?_)
 replace hB4 : Blk w1 (w.heap.size) 32 [.int .i64 15, .int .i64 ((nw : Nat) : Int), .int .i64 ((a : Nat) : Int), .int .i64 xb, .int .i64 xc, .int .u64 xv] := hB4
 have hT0 := hT2
 have hL := hL.tch0 hT2
 have hP := hP.tch0 hT2
 have hHr := hH.tch0 hT0
 have nF_hB4 : ¬ F (w.heap.size) := fun e => by have := hlt_ _ e; omega
 have hlt_ := hL.lt
 have lt11 := hP.lt
 have lt12 := hB4.lt
 have z13 := hT0.size
 have l14 := hP.lt
 have l15 := hB4.lt
 refine st (by rfl) (S_new (v := .pointer (some ⟨w1.heap.size, 0, none⟩)) (ob := .cells #[.int .u64 0, .int .u64 0] 100) (by kernel_rfl) fun w7 hT8 hs9 hB10 => ?_)
 replace hB10 : Blk w7 (w1.heap.size) 100 [.int .u64 0, .int .u64 0] := hB10
 have hT0 := hT0.t0 hT8
 have hL := hL.tch0 hT8
 have hP := hP.tch0 hT8
 have hHr := hH.tch0 hT0
 have hB4 := hB4.tch0 hT8
 have nF_hB10 : ¬ F (w1.heap.size) := fun e => by have := hlt_ _ e; omega
 refine op_nil ?_
 refine zQ ?_
 have hlt_ := hL.lt
 have lt20 := hP.lt
 have lt21 := hB4.lt
 have lt22 := hB10.lt
 have z23 := hT0.size
 have l24 := hP.lt
 have l25 := hB4.lt
 have l26 := hB10.lt
 refine st (by rfl) (S_new (v := .pointer (some ⟨w7.heap.size, 0, none⟩)) (ob := .cells #[.int .u64 0, .int .u64 0] 100) (by kernel_rfl) fun w16 hT17 hs18 hB19 => ?_)
 replace hB19 : Blk w16 (w7.heap.size) 100 [.int .u64 0, .int .u64 0] := hB19
 have hT0 := hT0.t0 hT17
 have hL := hL.tch0 hT17
 have hP := hP.tch0 hT17
 have hHr := hH.tch0 hT0
 have hB4 := hB4.tch0 hT17
 have hB10 := hB10.tch0 hT17
 have nF_hB19 : ¬ F (w7.heap.size) := fun e => by have := hlt_ _ e; omega
 have hlt_ := hL.lt
 have lt31 := hP.lt
 have lt32 := hB4.lt
 have lt33 := hB10.lt
 have lt34 := hB19.lt
 have z35 := hT0.size
 have l36 := hP.lt
 have l37 := hB4.lt
 have l38 := hB10.lt
 have l39 := hB19.lt
 refine st (by rfl) (S_new (v := .pointer (some ⟨w16.heap.size, 0, none⟩)) (ob := .cells #[.int .u64 0, .int .u64 0] 100) (by kernel_rfl) fun w27 hT28 hs29 hB30 => ?_)
 replace hB30 : Blk w27 (w16.heap.size) 100 [.int .u64 0, .int .u64 0] := hB30
 have hT0 := hT0.t0 hT28
 have hL := hL.tch0 hT28
 have hP := hP.tch0 hT28
 have hHr := hH.tch0 hT0
 have hB4 := hB4.tch0 hT28
 have hB10 := hB10.tch0 hT28
 have hB19 := hB19.tch0 hT28
 have nF_hB30 : ¬ F (w16.heap.size) := fun e => by have := hlt_ _ e; omega
 refine op_nil ?_
 refine W_seq ?_
 refine W_draw (fun w' => Blk w' (f) 98 [.pointer (some ⟨p, 0, none⟩), .slice A k cp] ∧ Blk w' (w.heap.size) 32 [.int .i64 15, .int .i64 ((nw : Nat) : Int), .int .i64 ((a : Nat) : Int), .int .i64 xb, .int .i64 xc, .int .u64 xv]) (by kernel_rfl) (by kernel_rfl) (by kernel_rfl) fun w40 hT41 hh42 => ?_
 have hT0 := hT0.t0 hT41
 have hL := hL.tch0 hT41
 have hP := hP.tch0 hT41
 have hHr := hH.tch0 hT0
 have hB4 := hB4.tch0 hT41
 have hB10 := hB10.tch0 hT41
 have hB19 := hB19.tch0 hT41
 have hB30 := hB30.tch0 hT41
 refine zK [0, 4, 1, 2] #[true, true, true, false, true, false, false, false] [(12, .pointer (some ⟨f, 0, none⟩)), (16, .pointer (some ⟨w.heap.size, 2, none⟩)), (13, .pointer (some ⟨f, 0, none⟩)), (14, .pointer (some ⟨f, 0, none⟩))] ⟨hP, hB4⟩ ?_
 refine zV 3 rfl (.pointer (some ⟨p, 0, none⟩)) (fun _ ⟨hP, hB4⟩ => R_load (v := .pointer (some ⟨p, 0, none⟩)) (by kernel_rfl) (by kernel_rfl) ((hP.cell 0).trans rfl)) ⟨hP, hB4⟩ ?_
 refine zV 5 rfl (.int .i64 ((a : Nat) : Int)) (fun _ ⟨hP, hB4⟩ => R_load (v := .int .i64 ((a : Nat) : Int)) (by kernel_rfl) (by kernel_rfl) ((hB4.cell 2).trans rfl)) ⟨hP, hB4⟩ ?_
 refine zD 6 rfl (S_call (args := [.pointer (some ⟨p, 0, none⟩), .int .i64 ((a : Nat) : Int)]) (by kernel_rfl) ((by have q := width_ok F p most N W ((a : Nat) : Int) _ hL hN; rw [hwa] at q; exact q)) ?_)
 rintro _ w43 ⟨rfl, hT44⟩
 have hT0 := hT0.t0 hT44
 have hL := hL.tch0 hT44
 have hP := hP.tch0 hT44
 have hHr := hH.tch0 hT0
 have hB4 := hB4.tch0 hT44
 have hB10 := hB10.tch0 hT44
 have hB19 := hB19.tch0 hT44
 have hB30 := hB30.tch0 hT44
 refine ⟨⟨hP, hB4⟩, ?_⟩
 refine zK [7] #[true, true, true, true, true, true, true, true] [(7, .int .i64 ((wd : Nat) : Int))] ⟨hP, hB4⟩ ?_
 refine d_done (by kernel_rfl) ?_
 refine W_seq ?_
 refine zQ ?_
 refine zS [(19, .pointer (some ⟨w.heap.size, 0, none⟩))] ?_
 refine zL (.int .i64 15) ((hB4.cell 0).trans rfl) ?_
 refine zS [(21, .bool true), (22, .bool true), (23, .pointer (some ⟨w.heap.size, 0, none⟩))] ?_
 refine zL (.int .i64 15) ((hB4.cell 0).trans rfl) ?_
 refine zS [(25, .bool true), (26, .bool true)] ?_
 refine zO true (fun _ => ?_) (fun h => nomatch h)
 refine W_draw (fun w' => RdW w' 2 k A (kcs l) ∧ Blk w' (f) 98 [.pointer (some ⟨p, 0, none⟩), .slice A k cp] ∧ Blk w' (w.heap.size) 32 [.int .i64 15, .int .i64 ((nw : Nat) : Int), .int .i64 ((a : Nat) : Int), .int .i64 xb, .int .i64 xc, .int .u64 xv]) (by kernel_rfl) (by kernel_rfl) (by kernel_rfl) fun w45 hT46 hh47 => ?_
 have hT0 := hT0.t0 hT46
 have hL := hL.tch0 hT46
 have hP := hP.tch0 hT46
 have hHr := hH.tch0 hT0
 have hB4 := hB4.tch0 hT46
 have hB10 := hB10.tch0 hT46
 have hB19 := hB19.tch0 hT46
 have hB30 := hB30.tch0 hT46
 refine zK [0, 4, 1, 2] #[true, true, true, false, true, false, false, false, false] [(27, .pointer (some ⟨f, 0, none⟩)), (31, .pointer (some ⟨w.heap.size, 2, none⟩)), (28, .pointer (some ⟨f, 0, none⟩)), (29, .pointer (some ⟨f, 1, none⟩))] ⟨hHr, hP, hB4⟩ ?_
 refine zV 3 rfl (.slice A k cp) (fun _ ⟨hHr, hP, hB4⟩ => R_load (v := .slice A k cp) (by kernel_rfl) (by kernel_rfl) ((hP.cell 1).trans rfl)) ⟨hHr, hP, hB4⟩ ?_
 refine zV 5 rfl (.int .i64 ((a : Nat) : Int)) (fun _ ⟨hHr, hP, hB4⟩ => R_load (v := .int .i64 ((a : Nat) : Int)) (by kernel_rfl) (by kernel_rfl) ((hB4.cell 2).trans rfl)) ⟨hHr, hP, hB4⟩ ?_
 refine zV 6 rfl (ptrAt A (a * 2)) (fun _ ⟨hHr, hP, hB4⟩ => R_indexRd (sz := 2) (len := k) (cap := cp) (k := .i64) (i := ((a : Nat) : Int)) (e := 100) a hHr (by kernel_rfl) (by kernel_rfl) (by kernel_rfl) (by kernel_rfl) rfl (by omega)) ⟨hHr, hP, hB4⟩ ?_
 refine zV 7 rfl (.agg #[.int .u64 (((kg l a).1 : Nat) : Int), .int .u64 (((kg l a).2 : Nat) : Int)]) (fun _ ⟨hHr, hP, hB4⟩ => R_loadRdA [.int .u64 (((kg l a).1 : Nat) : Int), .int .u64 (((kg l a).2 : Nat) : Int)] hHr (by omega) (by kernel_rfl) (by kernel_rfl) (by kernel_rfl) (kcs_part l (by omega))) ⟨hHr, hP, hB4⟩ ?_
 refine zD 8 rfl (S_storeA (b := w7.heap.size) (j := 0) (cs := [.int .u64 (((kg l a).1 : Nat) : Int), .int .u64 (((kg l a).2 : Nat) : Int)]) (by kernel_rfl) (by kernel_rfl) (by kernel_rfl) (by simp [oneV]) hB19 (by simp) fun w48 hT49 hs50 hB19' => ?_)
 have hT0 := (hT0).then hT49 (fun c e => by have : c = w7.heap.size := e; omega)
 have hL := hL.tchS hT49 (fun c e q => by cases e; exact nF_hB19 q)
 have hP := hP.tch hT49 (hP.ne hB19 (by decide))
 have hHr := hH.tch0 hT0
 have hB4 := hB4.tch hT49 (hB4.ne hB19 (by decide))
 have hB10 := hB10.tch hT49 (fun e => by have : w1.heap.size = w7.heap.size := e; omega)
 have hB30 := hB30.tch hT49 (fun e => by have : w16.heap.size = w7.heap.size := e; omega)
 replace hB19 : Blk w48 w7.heap.size 100 [.int .u64 (((kg l a).1 : Nat) : Int), .int .u64 (((kg l a).2 : Nat) : Int)] := hB19'
 refine ⟨⟨hHr, hP, hB4⟩, ?_⟩
 refine d_done (by kernel_rfl) ?_
 refine W_seq ?_
 refine zQ ?_
 refine zS [(35, .pointer (some ⟨w.heap.size, 0, none⟩))] ?_
 refine zL (.int .i64 15) ((hB4.cell 0).trans rfl) ?_
 refine zS [(37, .bool false), (38, .bool false), (39, .pointer (some ⟨w.heap.size, 0, none⟩))] ?_
 refine zL (.int .i64 15) ((hB4.cell 0).trans rfl) ?_
 refine zS [(41, .bool false), (42, .bool false)] ?_
 refine zO false (fun h => nomatch h) (fun _ => ?_)
 refine W_skip ?_
 refine W_seq ?_
 refine zQ ?_
 refine zS [(51, .pointer (some ⟨w.heap.size, 0, none⟩))] ?_
 refine zL (.int .i64 15) ((hB4.cell 0).trans rfl) ?_
 refine op_nil ?_
 refine W_block ?_
 refine zQ ?_
 refine zS [(54, .bool false), (53, .bool false)] ?_
 refine zO false (fun h => nomatch h) (fun _ => ?_)
 refine zQ ?_
 refine zS [(62, .bool true), (61, .bool true)] ?_
 refine zO true (fun _ => ?_) (fun h => nomatch h)
 refine W_seq ?_
 refine W_draw (fun w' => Blk w' (w7.heap.size) 100 [.int .u64 (((kg l a).1 : Nat) : Int), .int .u64 (((kg l a).2 : Nat) : Int)]) (by kernel_rfl) (by kernel_rfl) (by kernel_rfl) fun w51 hT52 hh53 => ?_
 have hT0 := hT0.t0 hT52
 have hL := hL.tch0 hT52
 have hP := hP.tch0 hT52
 have hHr := hH.tch0 hT0
 have hB4 := hB4.tch0 hT52
 have hB10 := hB10.tch0 hT52
 have hB19 := hB19.tch0 hT52
 have hB30 := hB30.tch0 hT52
 refine zK [0] #[true, false, false, false, false, false] [(63, .pointer (some ⟨w7.heap.size, 0, none⟩))] hB19 ?_
 refine zV 1 rfl (.int .u64 (((kg l a).1 : Nat) : Int)) (fun _ hB19 => R_load (v := .int .u64 (((kg l a).1 : Nat) : Int)) (by kernel_rfl) (by kernel_rfl) ((hB19.cell 0).trans rfl)) hB19 ?_
 refine zV 2 rfl (.agg #[.int .u64 (((kg l a).1 : Nat) : Int), .int .u64 (((kg l a).2 : Nat) : Int)]) (fun _ hB19 => R_loadA [.int .u64 (((kg l a).1 : Nat) : Int), .int .u64 (((kg l a).2 : Nat) : Int)] (by kernel_rfl) (by kernel_rfl) (by kernel_rfl) (fun k u hk => by rw [hB19.cell]; exact get_part _ 0 _ k u rfl hk)) hB19 ?_
 refine zD 3 rfl (S_call (args := [.agg #[.int .u64 (((kg l a).1 : Nat) : Int), .int .u64 (((kg l a).2 : Nat) : Int)]]) (by kernel_rfl) (zeros_ok ((kg l a).1) ((kg l a).2) _ ua1 ua2) ?_)
 rintro _ w54 ⟨rfl, hT55⟩
 have hT0 := hT0.t0 hT55
 have hL := hL.tch0 hT55
 have hP := hP.tch0 hT55
 have hHr := hH.tch0 hT0
 have hB4 := hB4.tch0 hT55
 have hB10 := hB10.tch0 hT55
 have hB19 := hB19.tch0 hT55
 have hB30 := hB30.tch0 hT55
 have hu56 : andn ((kg l a).1) ((kg l a).2) < 18446744073709551616 := andn_lt ua1
 refine ⟨hB19, ?_⟩
 refine zK [4] #[true, true, true, true, true, false] [(67, .agg #[.int .u64 (((kg l a).1 : Nat) : Int), .int .u64 ((andn ((kg l a).1) ((kg l a).2) : Nat) : Int)])] hB19 ?_
 refine zD 5 rfl (S_storeA (b := w1.heap.size) (j := 0) (cs := [.int .u64 (((kg l a).1 : Nat) : Int), .int .u64 ((andn ((kg l a).1) ((kg l a).2) : Nat) : Int)]) (by kernel_rfl) (by kernel_rfl) (by kernel_rfl) (by simp [oneV]) hB10 (by simp) fun w57 hT58 hs59 hB10' => ?_)
 have hT0 := (hT0).then hT58 (fun c e => by have : c = w1.heap.size := e; omega)
 have hL := hL.tchS hT58 (fun c e q => by cases e; exact nF_hB10 q)
 have hP := hP.tch hT58 (hP.ne hB10 (by decide))
 have hHr := hH.tch0 hT0
 have hB4 := hB4.tch hT58 (hB4.ne hB10 (by decide))
 have hB19 := hB19.tch hT58 (fun e => by have : w7.heap.size = w1.heap.size := e; omega)
 have hB30 := hB30.tch hT58 (fun e => by have : w16.heap.size = w1.heap.size := e; omega)
 replace hB10 : Blk w57 w1.heap.size 100 [.int .u64 (((kg l a).1 : Nat) : Int), .int .u64 ((andn ((kg l a).1) ((kg l a).2) : Nat) : Int)] := hB10'
 refine ⟨hB19, ?_⟩
 refine d_done (by kernel_rfl) ?_
 refine W_ret ?_
 exact ⟨_, Res_cell (b := w1.heap.size) (cs := [.int .u64 (((kg l a).1 : Nat) : Int), .int .u64 ((andn ((kg l a).1) ((kg l a).2) : Nat) : Int)]) (by rfl) (by kernel_rfl) (by kernel_rfl) hB10 (by kernel_rfl) (by kernel_rfl), ⟨by kernel_rfl, hT0⟩⟩

set_option maxRecDepth 100000 in
theorem of16_ok (F : Nat → Prop) (p : Nat) (most : Int) (N : List Nd) (W : Value → Value → Prop) (f k cp : Nat) (A : Option Addr) (l : List K) (nw wd up a : Nat) (xb xc xv : Int) (y z : K) (lo V : Nat) (cst : Option Nat) (w : World) (hL : TLow F w p most N W) (hN : N.length ≤ 65536) (hP : Blk w f 98 [.pointer (some ⟨p, 0, none⟩), .slice A k cp]) (hH : RdW w 2 k A (kcs l)) (ha : a < k) (hwa : widF N ((a : Nat) : Int) = ((wd : Nat) : Int)) (hxa : KI wd (kg l a)) (hw : wd ≤ 64) : Ret Try.prog 50 [.pointer (some ⟨f, 0, none⟩), .agg #[.int .i64 16, .int .i64 ((nw : Nat) : Int), .int .i64 ((a : Nat) : Int), .int .i64 xb, .int .i64 xc, .int .u64 xv]] w fun v w' => v = .agg #[.int .u64 (((kone 16 nw wd up (kg l a) y z lo V cst).1 : Nat) : Int), .int .u64 (((kone 16 nw wd up (kg l a) y z lo V cst).2 : Nat) : Int)] ∧ Tch N0 w w' := by
 have hll : l.length = k := by have := hH.1; rw [kcs_length] at this; omega
 have ua1 := hxa.u1 (show wd ≤ 64 by omega)
 have ua2 := hxa.u2 (show wd ≤ 64 by omega)
 refine enter Try.func50 rfl rfl ?_
 refine zQ ?_
 have hlt_ := hL.lt
 have lt5 := hP.lt
 have l6 := hP.lt
 refine st (by rfl) (S_new (v := .pointer (some ⟨w.heap.size, 0, none⟩)) (ob := .cells #[.int .i64 16, .int .i64 ((nw : Nat) : Int), .int .i64 ((a : Nat) : Int), .int .i64 xb, .int .i64 xc, .int .u64 xv] 32) (by kernel_rfl) fun w1 hT2 hs3 hB4 => ?_)
 replace hB4 : Blk w1 (w.heap.size) 32 [.int .i64 16, .int .i64 ((nw : Nat) : Int), .int .i64 ((a : Nat) : Int), .int .i64 xb, .int .i64 xc, .int .u64 xv] := hB4
 have hT0 := hT2
 have hL := hL.tch0 hT2
 have hP := hP.tch0 hT2
 have hHr := hH.tch0 hT0
 have nF_hB4 : ¬ F (w.heap.size) := fun e => by have := hlt_ _ e; omega
 have hlt_ := hL.lt
 have lt11 := hP.lt
 have lt12 := hB4.lt
 have z13 := hT0.size
 have l14 := hP.lt
 have l15 := hB4.lt
 refine st (by rfl) (S_new (v := .pointer (some ⟨w1.heap.size, 0, none⟩)) (ob := .cells #[.int .u64 0, .int .u64 0] 100) (by kernel_rfl) fun w7 hT8 hs9 hB10 => ?_)
 replace hB10 : Blk w7 (w1.heap.size) 100 [.int .u64 0, .int .u64 0] := hB10
 have hT0 := hT0.t0 hT8
 have hL := hL.tch0 hT8
 have hP := hP.tch0 hT8
 have hHr := hH.tch0 hT0
 have hB4 := hB4.tch0 hT8
 have nF_hB10 : ¬ F (w1.heap.size) := fun e => by have := hlt_ _ e; omega
 refine op_nil ?_
 refine zQ ?_
 have hlt_ := hL.lt
 have lt20 := hP.lt
 have lt21 := hB4.lt
 have lt22 := hB10.lt
 have z23 := hT0.size
 have l24 := hP.lt
 have l25 := hB4.lt
 have l26 := hB10.lt
 refine st (by rfl) (S_new (v := .pointer (some ⟨w7.heap.size, 0, none⟩)) (ob := .cells #[.int .u64 0, .int .u64 0] 100) (by kernel_rfl) fun w16 hT17 hs18 hB19 => ?_)
 replace hB19 : Blk w16 (w7.heap.size) 100 [.int .u64 0, .int .u64 0] := hB19
 have hT0 := hT0.t0 hT17
 have hL := hL.tch0 hT17
 have hP := hP.tch0 hT17
 have hHr := hH.tch0 hT0
 have hB4 := hB4.tch0 hT17
 have hB10 := hB10.tch0 hT17
 have nF_hB19 : ¬ F (w7.heap.size) := fun e => by have := hlt_ _ e; omega
 have hlt_ := hL.lt
 have lt31 := hP.lt
 have lt32 := hB4.lt
 have lt33 := hB10.lt
 have lt34 := hB19.lt
 have z35 := hT0.size
 have l36 := hP.lt
 have l37 := hB4.lt
 have l38 := hB10.lt
 have l39 := hB19.lt
 refine st (by rfl) (S_new (v := .pointer (some ⟨w16.heap.size, 0, none⟩)) (ob := .cells #[.int .u64 0, .int .u64 0] 100) (by kernel_rfl) fun w27 hT28 hs29 hB30 => ?_)
 replace hB30 : Blk w27 (w16.heap.size) 100 [.int .u64 0, .int .u64 0] := hB30
 have hT0 := hT0.t0 hT28
 have hL := hL.tch0 hT28
 have hP := hP.tch0 hT28
 have hHr := hH.tch0 hT0
 have hB4 := hB4.tch0 hT28
 have hB10 := hB10.tch0 hT28
 have hB19 := hB19.tch0 hT28
 have nF_hB30 : ¬ F (w16.heap.size) := fun e => by have := hlt_ _ e; omega
 refine op_nil ?_
 refine W_seq ?_
 refine W_draw (fun w' => Blk w' (f) 98 [.pointer (some ⟨p, 0, none⟩), .slice A k cp] ∧ Blk w' (w.heap.size) 32 [.int .i64 16, .int .i64 ((nw : Nat) : Int), .int .i64 ((a : Nat) : Int), .int .i64 xb, .int .i64 xc, .int .u64 xv]) (by kernel_rfl) (by kernel_rfl) (by kernel_rfl) fun w40 hT41 hh42 => ?_
 have hT0 := hT0.t0 hT41
 have hL := hL.tch0 hT41
 have hP := hP.tch0 hT41
 have hHr := hH.tch0 hT0
 have hB4 := hB4.tch0 hT41
 have hB10 := hB10.tch0 hT41
 have hB19 := hB19.tch0 hT41
 have hB30 := hB30.tch0 hT41
 refine zK [0, 4, 1, 2] #[true, true, true, false, true, false, false, false] [(12, .pointer (some ⟨f, 0, none⟩)), (16, .pointer (some ⟨w.heap.size, 2, none⟩)), (13, .pointer (some ⟨f, 0, none⟩)), (14, .pointer (some ⟨f, 0, none⟩))] ⟨hP, hB4⟩ ?_
 refine zV 3 rfl (.pointer (some ⟨p, 0, none⟩)) (fun _ ⟨hP, hB4⟩ => R_load (v := .pointer (some ⟨p, 0, none⟩)) (by kernel_rfl) (by kernel_rfl) ((hP.cell 0).trans rfl)) ⟨hP, hB4⟩ ?_
 refine zV 5 rfl (.int .i64 ((a : Nat) : Int)) (fun _ ⟨hP, hB4⟩ => R_load (v := .int .i64 ((a : Nat) : Int)) (by kernel_rfl) (by kernel_rfl) ((hB4.cell 2).trans rfl)) ⟨hP, hB4⟩ ?_
 refine zD 6 rfl (S_call (args := [.pointer (some ⟨p, 0, none⟩), .int .i64 ((a : Nat) : Int)]) (by kernel_rfl) ((by have q := width_ok F p most N W ((a : Nat) : Int) _ hL hN; rw [hwa] at q; exact q)) ?_)
 rintro _ w43 ⟨rfl, hT44⟩
 have hT0 := hT0.t0 hT44
 have hL := hL.tch0 hT44
 have hP := hP.tch0 hT44
 have hHr := hH.tch0 hT0
 have hB4 := hB4.tch0 hT44
 have hB10 := hB10.tch0 hT44
 have hB19 := hB19.tch0 hT44
 have hB30 := hB30.tch0 hT44
 refine ⟨⟨hP, hB4⟩, ?_⟩
 refine zK [7] #[true, true, true, true, true, true, true, true] [(7, .int .i64 ((wd : Nat) : Int))] ⟨hP, hB4⟩ ?_
 refine d_done (by kernel_rfl) ?_
 refine W_seq ?_
 refine zQ ?_
 refine zS [(19, .pointer (some ⟨w.heap.size, 0, none⟩))] ?_
 refine zL (.int .i64 16) ((hB4.cell 0).trans rfl) ?_
 refine zS [(21, .bool true), (22, .bool true), (23, .pointer (some ⟨w.heap.size, 0, none⟩))] ?_
 refine zL (.int .i64 16) ((hB4.cell 0).trans rfl) ?_
 refine zS [(25, .bool true), (26, .bool true)] ?_
 refine zO true (fun _ => ?_) (fun h => nomatch h)
 refine W_draw (fun w' => RdW w' 2 k A (kcs l) ∧ Blk w' (f) 98 [.pointer (some ⟨p, 0, none⟩), .slice A k cp] ∧ Blk w' (w.heap.size) 32 [.int .i64 16, .int .i64 ((nw : Nat) : Int), .int .i64 ((a : Nat) : Int), .int .i64 xb, .int .i64 xc, .int .u64 xv]) (by kernel_rfl) (by kernel_rfl) (by kernel_rfl) fun w45 hT46 hh47 => ?_
 have hT0 := hT0.t0 hT46
 have hL := hL.tch0 hT46
 have hP := hP.tch0 hT46
 have hHr := hH.tch0 hT0
 have hB4 := hB4.tch0 hT46
 have hB10 := hB10.tch0 hT46
 have hB19 := hB19.tch0 hT46
 have hB30 := hB30.tch0 hT46
 refine zK [0, 4, 1, 2] #[true, true, true, false, true, false, false, false, false] [(27, .pointer (some ⟨f, 0, none⟩)), (31, .pointer (some ⟨w.heap.size, 2, none⟩)), (28, .pointer (some ⟨f, 0, none⟩)), (29, .pointer (some ⟨f, 1, none⟩))] ⟨hHr, hP, hB4⟩ ?_
 refine zV 3 rfl (.slice A k cp) (fun _ ⟨hHr, hP, hB4⟩ => R_load (v := .slice A k cp) (by kernel_rfl) (by kernel_rfl) ((hP.cell 1).trans rfl)) ⟨hHr, hP, hB4⟩ ?_
 refine zV 5 rfl (.int .i64 ((a : Nat) : Int)) (fun _ ⟨hHr, hP, hB4⟩ => R_load (v := .int .i64 ((a : Nat) : Int)) (by kernel_rfl) (by kernel_rfl) ((hB4.cell 2).trans rfl)) ⟨hHr, hP, hB4⟩ ?_
 refine zV 6 rfl (ptrAt A (a * 2)) (fun _ ⟨hHr, hP, hB4⟩ => R_indexRd (sz := 2) (len := k) (cap := cp) (k := .i64) (i := ((a : Nat) : Int)) (e := 100) a hHr (by kernel_rfl) (by kernel_rfl) (by kernel_rfl) (by kernel_rfl) rfl (by omega)) ⟨hHr, hP, hB4⟩ ?_
 refine zV 7 rfl (.agg #[.int .u64 (((kg l a).1 : Nat) : Int), .int .u64 (((kg l a).2 : Nat) : Int)]) (fun _ ⟨hHr, hP, hB4⟩ => R_loadRdA [.int .u64 (((kg l a).1 : Nat) : Int), .int .u64 (((kg l a).2 : Nat) : Int)] hHr (by omega) (by kernel_rfl) (by kernel_rfl) (by kernel_rfl) (kcs_part l (by omega))) ⟨hHr, hP, hB4⟩ ?_
 refine zD 8 rfl (S_storeA (b := w7.heap.size) (j := 0) (cs := [.int .u64 (((kg l a).1 : Nat) : Int), .int .u64 (((kg l a).2 : Nat) : Int)]) (by kernel_rfl) (by kernel_rfl) (by kernel_rfl) (by simp [oneV]) hB19 (by simp) fun w48 hT49 hs50 hB19' => ?_)
 have hT0 := (hT0).then hT49 (fun c e => by have : c = w7.heap.size := e; omega)
 have hL := hL.tchS hT49 (fun c e q => by cases e; exact nF_hB19 q)
 have hP := hP.tch hT49 (hP.ne hB19 (by decide))
 have hHr := hH.tch0 hT0
 have hB4 := hB4.tch hT49 (hB4.ne hB19 (by decide))
 have hB10 := hB10.tch hT49 (fun e => by have : w1.heap.size = w7.heap.size := e; omega)
 have hB30 := hB30.tch hT49 (fun e => by have : w16.heap.size = w7.heap.size := e; omega)
 replace hB19 : Blk w48 w7.heap.size 100 [.int .u64 (((kg l a).1 : Nat) : Int), .int .u64 (((kg l a).2 : Nat) : Int)] := hB19'
 refine ⟨⟨hHr, hP, hB4⟩, ?_⟩
 refine d_done (by kernel_rfl) ?_
 refine W_seq ?_
 refine zQ ?_
 refine zS [(35, .pointer (some ⟨w.heap.size, 0, none⟩))] ?_
 refine zL (.int .i64 16) ((hB4.cell 0).trans rfl) ?_
 refine zS [(37, .bool false), (38, .bool false), (39, .pointer (some ⟨w.heap.size, 0, none⟩))] ?_
 refine zL (.int .i64 16) ((hB4.cell 0).trans rfl) ?_
 refine zS [(41, .bool false), (42, .bool false)] ?_
 refine zO false (fun h => nomatch h) (fun _ => ?_)
 refine W_skip ?_
 refine W_seq ?_
 refine zQ ?_
 refine zS [(51, .pointer (some ⟨w.heap.size, 0, none⟩))] ?_
 refine zL (.int .i64 16) ((hB4.cell 0).trans rfl) ?_
 refine op_nil ?_
 refine W_block ?_
 refine zQ ?_
 refine zS [(54, .bool false), (53, .bool false)] ?_
 refine zO false (fun h => nomatch h) (fun _ => ?_)
 refine zQ ?_
 refine zS [(62, .bool false), (61, .bool false)] ?_
 refine zO false (fun h => nomatch h) (fun _ => ?_)
 refine W_seq ?_
 refine zQ ?_
 refine zS [(69, .bool false), (68, .bool false)] ?_
 refine zO false (fun h => nomatch h) (fun _ => ?_)
 refine zQ ?_
 refine zS [(70, .bool false), (68, .bool false)] ?_
 refine zO false (fun h => nomatch h) (fun _ => ?_)
 refine zR ?_
 refine zS [(71, .bool false), (68, .bool false)] ?_
 refine zO false (fun h => nomatch h) (fun _ => ?_)
 refine zQ ?_
 refine zS [(78, .bool false), (77, .bool false)] ?_
 refine zO false (fun h => nomatch h) (fun _ => ?_)
 refine zQ ?_
 refine zS [(84, .bool false), (83, .bool false)] ?_
 refine zO false (fun h => nomatch h) (fun _ => ?_)
 refine W_seq ?_
 refine zQ ?_
 refine zS [(90, .bool false), (89, .bool false)] ?_
 refine zO false (fun h => nomatch h) (fun _ => ?_)
 refine zR ?_
 refine zS [(91, .bool false), (89, .bool false)] ?_
 refine zO false (fun h => nomatch h) (fun _ => ?_)
 refine zQ ?_
 refine zS [(113, .bool false), (112, .bool false)] ?_
 refine zO false (fun h => nomatch h) (fun _ => ?_)
 refine zQ ?_
 refine zS [(118, .bool false), (117, .bool false)] ?_
 refine zO false (fun h => nomatch h) (fun _ => ?_)
 refine zQ ?_
 refine zS [(138, .bool false), (137, .bool false)] ?_
 refine zO false (fun h => nomatch h) (fun _ => ?_)
 refine W_seq ?_
 refine zQ ?_
 refine zS [(162, .bool false), (161, .bool false)] ?_
 refine zO false (fun h => nomatch h) (fun _ => ?_)
 refine zR ?_
 refine zS [(163, .bool false), (161, .bool false)] ?_
 refine zO false (fun h => nomatch h) (fun _ => ?_)
 refine W_skip ?_
 refine zQ ?_
 refine zS [(168, .agg #[.int .u64 0, .int .u64 0])] ?_
 refine st (by rfl) (S_storeA (b := w1.heap.size) (j := 0) (cs := [.int .u64 0, .int .u64 0]) (by kernel_rfl) (by kernel_rfl) (by kernel_rfl) (by simp [oneV]) hB10 (by simp) fun w51 hT52 hs53 hB10' => ?_)
 have hT0 := (hT0).then hT52 (fun c e => by have : c = w1.heap.size := e; omega)
 have hL := hL.tchS hT52 (fun c e q => by cases e; exact nF_hB10 q)
 have hP := hP.tch hT52 (hP.ne hB10 (by decide))
 have hHr := hH.tch0 hT0
 have hB4 := hB4.tch hT52 (hB4.ne hB10 (by decide))
 have hB19 := hB19.tch hT52 (fun e => by have : w7.heap.size = w1.heap.size := e; omega)
 have hB30 := hB30.tch hT52 (fun e => by have : w16.heap.size = w1.heap.size := e; omega)
 replace hB10 : Blk w51 w1.heap.size 100 [.int .u64 0, .int .u64 0] := hB10'
 refine op_nil ?_
 refine W_ret ?_
 exact ⟨_, Res_cell (b := w1.heap.size) (cs := [.int .u64 0, .int .u64 0]) (by rfl) (by kernel_rfl) (by kernel_rfl) hB10 (by kernel_rfl) (by kernel_rfl), ⟨by kernel_rfl, hT0⟩⟩

set_option maxRecDepth 100000 in
set_option maxHeartbeats 1000000 in
theorem of2_ok (F : Nat → Prop) (p : Nat) (most : Int) (N : List Nd) (W : Value → Value → Prop) (f k cp : Nat) (A : Option Addr) (l : List K) (nw wd up a b : Nat) (xc xv : Int) (z : K) (lo V : Nat) (by_ O : Nat) (w : World) (hL : TLow F w p most N W) (hN : N.length ≤ 65536) (hP : Blk w f 98 [.pointer (some ⟨p, 0, none⟩), .slice A k cp]) (hH : RdW w 2 k A (kcs l)) (ha : a < k) (hb : b < k) (hwa : widF N ((a : Nat) : Int) = ((wd : Nat) : Int)) (hxa : KI wd (kg l a)) (hxb : KI wd (kg l b)) (hw : wd ≤ 64) (hO : 1 ≤ O ∧ O ≤ 14) (hbN : b < N.length) (hv : nV (nth N b) = ((by_ : Nat) : Int)) (hby : by_ < 18446744073709551616) : Ret Try.prog 50 [.pointer (some ⟨f, 0, none⟩), .agg #[.int .i64 ((O : Nat) : Int), .int .i64 ((nw : Nat) : Int), .int .i64 ((a : Nat) : Int), .int .i64 ((b : Nat) : Int), .int .i64 xc, .int .u64 xv]] w fun v w' => v = .agg #[.int .u64 (((kone O nw wd up (kg l a) (kg l b) z lo V (if nO (nth N b) = 20 then some by_ else none)).1 : Nat) : Int), .int .u64 (((kone O nw wd up (kg l a) (kg l b) z lo V (if nO (nth N b) = 20 then some by_ else none)).2 : Nat) : Int)] ∧ Tch N0 w w' := by
 have hll : l.length = k := by have := hH.1; rw [kcs_length] at this; omega
 have ua1 := hxa.u1 (show wd ≤ 64 by omega)
 have ua2 := hxa.u2 (show wd ≤ 64 by omega)
 have ub1 := hxb.u1 (show wd ≤ 64 by omega)
 have ub2 := hxb.u2 (show wd ≤ 64 by omega)
 refine enter Try.func50 rfl rfl ?_
 refine zQ ?_
 have hlt_ := hL.lt
 have lt5 := hP.lt
 have l6 := hP.lt
 refine st (by rfl) (S_new (v := .pointer (some ⟨w.heap.size, 0, none⟩)) (ob := .cells #[.int .i64 ((O : Nat) : Int), .int .i64 ((nw : Nat) : Int), .int .i64 ((a : Nat) : Int), .int .i64 ((b : Nat) : Int), .int .i64 xc, .int .u64 xv] 32) (by kernel_rfl) fun w1 hT2 hs3 hB4 => ?_)
 replace hB4 : Blk w1 (w.heap.size) 32 [.int .i64 ((O : Nat) : Int), .int .i64 ((nw : Nat) : Int), .int .i64 ((a : Nat) : Int), .int .i64 ((b : Nat) : Int), .int .i64 xc, .int .u64 xv] := hB4
 have hT0 := hT2
 have hL := hL.tch0 hT2
 have hP := hP.tch0 hT2
 have hHr := hH.tch0 hT0
 have nF_hB4 : ¬ F (w.heap.size) := fun e => by have := hlt_ _ e; omega
 have hlt_ := hL.lt
 have lt11 := hP.lt
 have lt12 := hB4.lt
 have z13 := hT0.size
 have l14 := hP.lt
 have l15 := hB4.lt
 refine st (by rfl) (S_new (v := .pointer (some ⟨w1.heap.size, 0, none⟩)) (ob := .cells #[.int .u64 0, .int .u64 0] 100) (by kernel_rfl) fun w7 hT8 hs9 hB10 => ?_)
 replace hB10 : Blk w7 (w1.heap.size) 100 [.int .u64 0, .int .u64 0] := hB10
 have hT0 := hT0.t0 hT8
 have hL := hL.tch0 hT8
 have hP := hP.tch0 hT8
 have hHr := hH.tch0 hT0
 have hB4 := hB4.tch0 hT8
 have nF_hB10 : ¬ F (w1.heap.size) := fun e => by have := hlt_ _ e; omega
 refine op_nil ?_
 refine zQ ?_
 have hlt_ := hL.lt
 have lt20 := hP.lt
 have lt21 := hB4.lt
 have lt22 := hB10.lt
 have z23 := hT0.size
 have l24 := hP.lt
 have l25 := hB4.lt
 have l26 := hB10.lt
 refine st (by rfl) (S_new (v := .pointer (some ⟨w7.heap.size, 0, none⟩)) (ob := .cells #[.int .u64 0, .int .u64 0] 100) (by kernel_rfl) fun w16 hT17 hs18 hB19 => ?_)
 replace hB19 : Blk w16 (w7.heap.size) 100 [.int .u64 0, .int .u64 0] := hB19
 have hT0 := hT0.t0 hT17
 have hL := hL.tch0 hT17
 have hP := hP.tch0 hT17
 have hHr := hH.tch0 hT0
 have hB4 := hB4.tch0 hT17
 have hB10 := hB10.tch0 hT17
 have nF_hB19 : ¬ F (w7.heap.size) := fun e => by have := hlt_ _ e; omega
 have hlt_ := hL.lt
 have lt31 := hP.lt
 have lt32 := hB4.lt
 have lt33 := hB10.lt
 have lt34 := hB19.lt
 have z35 := hT0.size
 have l36 := hP.lt
 have l37 := hB4.lt
 have l38 := hB10.lt
 have l39 := hB19.lt
 refine st (by rfl) (S_new (v := .pointer (some ⟨w16.heap.size, 0, none⟩)) (ob := .cells #[.int .u64 0, .int .u64 0] 100) (by kernel_rfl) fun w27 hT28 hs29 hB30 => ?_)
 replace hB30 : Blk w27 (w16.heap.size) 100 [.int .u64 0, .int .u64 0] := hB30
 have hT0 := hT0.t0 hT28
 have hL := hL.tch0 hT28
 have hP := hP.tch0 hT28
 have hHr := hH.tch0 hT0
 have hB4 := hB4.tch0 hT28
 have hB10 := hB10.tch0 hT28
 have hB19 := hB19.tch0 hT28
 have nF_hB30 : ¬ F (w16.heap.size) := fun e => by have := hlt_ _ e; omega
 refine op_nil ?_
 refine W_seq ?_
 refine W_draw (fun w' => Blk w' (f) 98 [.pointer (some ⟨p, 0, none⟩), .slice A k cp] ∧ Blk w' (w.heap.size) 32 [.int .i64 ((O : Nat) : Int), .int .i64 ((nw : Nat) : Int), .int .i64 ((a : Nat) : Int), .int .i64 ((b : Nat) : Int), .int .i64 xc, .int .u64 xv]) (by kernel_rfl) (by kernel_rfl) (by kernel_rfl) fun w40 hT41 hh42 => ?_
 have hT0 := hT0.t0 hT41
 have hL := hL.tch0 hT41
 have hP := hP.tch0 hT41
 have hHr := hH.tch0 hT0
 have hB4 := hB4.tch0 hT41
 have hB10 := hB10.tch0 hT41
 have hB19 := hB19.tch0 hT41
 have hB30 := hB30.tch0 hT41
 refine zK [0, 4, 1, 2] #[true, true, true, false, true, false, false, false] [(12, .pointer (some ⟨f, 0, none⟩)), (16, .pointer (some ⟨w.heap.size, 2, none⟩)), (13, .pointer (some ⟨f, 0, none⟩)), (14, .pointer (some ⟨f, 0, none⟩))] ⟨hP, hB4⟩ ?_
 refine zV 3 rfl (.pointer (some ⟨p, 0, none⟩)) (fun _ ⟨hP, hB4⟩ => R_load (v := .pointer (some ⟨p, 0, none⟩)) (by kernel_rfl) (by kernel_rfl) ((hP.cell 0).trans rfl)) ⟨hP, hB4⟩ ?_
 refine zV 5 rfl (.int .i64 ((a : Nat) : Int)) (fun _ ⟨hP, hB4⟩ => R_load (v := .int .i64 ((a : Nat) : Int)) (by kernel_rfl) (by kernel_rfl) ((hB4.cell 2).trans rfl)) ⟨hP, hB4⟩ ?_
 refine zD 6 rfl (S_call (args := [.pointer (some ⟨p, 0, none⟩), .int .i64 ((a : Nat) : Int)]) (by kernel_rfl) ((by have q := width_ok F p most N W ((a : Nat) : Int) _ hL hN; rw [hwa] at q; exact q)) ?_)
 rintro _ w43 ⟨rfl, hT44⟩
 have hT0 := hT0.t0 hT44
 have hL := hL.tch0 hT44
 have hP := hP.tch0 hT44
 have hHr := hH.tch0 hT0
 have hB4 := hB4.tch0 hT44
 have hB10 := hB10.tch0 hT44
 have hB19 := hB19.tch0 hT44
 have hB30 := hB30.tch0 hT44
 refine ⟨⟨hP, hB4⟩, ?_⟩
 refine zK [7] #[true, true, true, true, true, true, true, true] [(7, .int .i64 ((wd : Nat) : Int))] ⟨hP, hB4⟩ ?_
 refine d_done (by kernel_rfl) ?_
 refine W_seq ?_
 refine zQ ?_
 refine zS [(19, .pointer (some ⟨w.heap.size, 0, none⟩))] ?_
 refine zL (.int .i64 ((O : Nat) : Int)) ((hB4.cell 0).trans rfl) ?_
 refine zS [(21, .bool (((O : Nat) : Int) != 20)), (22, .bool (((O : Nat) : Int) != 20))] ?_
 cases hb45 : ((O : Nat) : Int) != 20
 ·
  replace hb45 : ((O : Nat) : Int) = 20 := (bne_eq_false_iff_eq.1 hb45)
  exfalso; omega
 ·
  replace hb45 : ((O : Nat) : Int) ≠ 20 := (bne_iff_ne.1 hb45)
  refine zS [(23, .pointer (some ⟨w.heap.size, 0, none⟩))] ?_
  refine zL (.int .i64 ((O : Nat) : Int)) ((hB4.cell 0).trans rfl) ?_
  refine zS [(25, .bool (((O : Nat) : Int) != 21)), (26, .bool (((O : Nat) : Int) != 21))] ?_
  refine zO (((O : Nat) : Int) != 21) (fun hc46 => ?_) (fun hc46 => ?_)
  ·
   replace hc46 : ((O : Nat) : Int) ≠ 21 := (bne_iff_ne.1 hc46)
   refine W_draw (fun w' => RdW w' 2 k A (kcs l) ∧ Blk w' (f) 98 [.pointer (some ⟨p, 0, none⟩), .slice A k cp] ∧ Blk w' (w.heap.size) 32 [.int .i64 ((O : Nat) : Int), .int .i64 ((nw : Nat) : Int), .int .i64 ((a : Nat) : Int), .int .i64 ((b : Nat) : Int), .int .i64 xc, .int .u64 xv]) (by kernel_rfl) (by kernel_rfl) (by kernel_rfl) fun w47 hT48 hh49 => ?_
   have hT0 := hT0.t0 hT48
   have hL := hL.tch0 hT48
   have hP := hP.tch0 hT48
   have hHr := hH.tch0 hT0
   have hB4 := hB4.tch0 hT48
   have hB10 := hB10.tch0 hT48
   have hB19 := hB19.tch0 hT48
   have hB30 := hB30.tch0 hT48
   refine zK [0, 4, 1, 2] #[true, true, true, false, true, false, false, false, false] [(27, .pointer (some ⟨f, 0, none⟩)), (31, .pointer (some ⟨w.heap.size, 2, none⟩)), (28, .pointer (some ⟨f, 0, none⟩)), (29, .pointer (some ⟨f, 1, none⟩))] ⟨hHr, hP, hB4⟩ ?_
   refine zV 3 rfl (.slice A k cp) (fun _ ⟨hHr, hP, hB4⟩ => R_load (v := .slice A k cp) (by kernel_rfl) (by kernel_rfl) ((hP.cell 1).trans rfl)) ⟨hHr, hP, hB4⟩ ?_
   refine zV 5 rfl (.int .i64 ((a : Nat) : Int)) (fun _ ⟨hHr, hP, hB4⟩ => R_load (v := .int .i64 ((a : Nat) : Int)) (by kernel_rfl) (by kernel_rfl) ((hB4.cell 2).trans rfl)) ⟨hHr, hP, hB4⟩ ?_
   refine zV 6 rfl (ptrAt A (a * 2)) (fun _ ⟨hHr, hP, hB4⟩ => R_indexRd (sz := 2) (len := k) (cap := cp) (k := .i64) (i := ((a : Nat) : Int)) (e := 100) a hHr (by kernel_rfl) (by kernel_rfl) (by kernel_rfl) (by kernel_rfl) rfl (by omega)) ⟨hHr, hP, hB4⟩ ?_
   refine zV 7 rfl (.agg #[.int .u64 (((kg l a).1 : Nat) : Int), .int .u64 (((kg l a).2 : Nat) : Int)]) (fun _ ⟨hHr, hP, hB4⟩ => R_loadRdA [.int .u64 (((kg l a).1 : Nat) : Int), .int .u64 (((kg l a).2 : Nat) : Int)] hHr (by omega) (by kernel_rfl) (by kernel_rfl) (by kernel_rfl) (kcs_part l (by omega))) ⟨hHr, hP, hB4⟩ ?_
   refine zD 8 rfl (S_storeA (b := w7.heap.size) (j := 0) (cs := [.int .u64 (((kg l a).1 : Nat) : Int), .int .u64 (((kg l a).2 : Nat) : Int)]) (by kernel_rfl) (by kernel_rfl) (by kernel_rfl) (by simp [oneV]) hB19 (by simp) fun w50 hT51 hs52 hB19' => ?_)
   have hT0 := (hT0).then hT51 (fun c e => by have : c = w7.heap.size := e; omega)
   have hL := hL.tchS hT51 (fun c e q => by cases e; exact nF_hB19 q)
   have hP := hP.tch hT51 (hP.ne hB19 (by decide))
   have hHr := hH.tch0 hT0
   have hB4 := hB4.tch hT51 (hB4.ne hB19 (by decide))
   have hB10 := hB10.tch hT51 (fun e => by have : w1.heap.size = w7.heap.size := e; omega)
   have hB30 := hB30.tch hT51 (fun e => by have : w16.heap.size = w7.heap.size := e; omega)
   replace hB19 : Blk w50 w7.heap.size 100 [.int .u64 (((kg l a).1 : Nat) : Int), .int .u64 (((kg l a).2 : Nat) : Int)] := hB19'
   refine ⟨⟨hHr, hP, hB4⟩, ?_⟩
   refine d_done (by kernel_rfl) ?_
   refine W_seq ?_
   refine zQ ?_
   refine zS [(35, .pointer (some ⟨w.heap.size, 0, none⟩))] ?_
   refine zL (.int .i64 ((O : Nat) : Int)) ((hB4.cell 0).trans rfl) ?_
   refine zS [(37, .bool (decide (((O : Nat) : Int) ≤ 14))), (38, .bool (decide (((O : Nat) : Int) ≤ 14)))] ?_
   cases hb53 : decide (((O : Nat) : Int) ≤ 14)
   ·
    replace hb53 : 14 < ((O : Nat) : Int) := (Int.not_le.1 (of_decide_eq_false hb53))
    exfalso; omega
   ·
    replace hb53 : ((O : Nat) : Int) ≤ 14 := (of_decide_eq_true hb53)
    refine zS [(39, undef), (40, undef), (41, undef), (42, .bool true)] ?_
    refine zO true (fun _ => ?_) (fun h => nomatch h)
    refine W_draw (fun w' => RdW w' 2 k A (kcs l) ∧ Blk w' (f) 98 [.pointer (some ⟨p, 0, none⟩), .slice A k cp] ∧ Blk w' (w.heap.size) 32 [.int .i64 ((O : Nat) : Int), .int .i64 ((nw : Nat) : Int), .int .i64 ((a : Nat) : Int), .int .i64 ((b : Nat) : Int), .int .i64 xc, .int .u64 xv]) (by kernel_rfl) (by kernel_rfl) (by kernel_rfl) fun w54 hT55 hh56 => ?_
    have hT0 := hT0.t0 hT55
    have hL := hL.tch0 hT55
    have hP := hP.tch0 hT55
    have hHr := hH.tch0 hT0
    have hB4 := hB4.tch0 hT55
    have hB10 := hB10.tch0 hT55
    have hB19 := hB19.tch0 hT55
    have hB30 := hB30.tch0 hT55
    refine zK [0, 4, 1, 2] #[true, true, true, false, true, false, false, false, false] [(43, .pointer (some ⟨f, 0, none⟩)), (47, .pointer (some ⟨w.heap.size, 3, none⟩)), (44, .pointer (some ⟨f, 0, none⟩)), (45, .pointer (some ⟨f, 1, none⟩))] ⟨hHr, hP, hB4⟩ ?_
    refine zV 3 rfl (.slice A k cp) (fun _ ⟨hHr, hP, hB4⟩ => R_load (v := .slice A k cp) (by kernel_rfl) (by kernel_rfl) ((hP.cell 1).trans rfl)) ⟨hHr, hP, hB4⟩ ?_
    refine zV 5 rfl (.int .i64 ((b : Nat) : Int)) (fun _ ⟨hHr, hP, hB4⟩ => R_load (v := .int .i64 ((b : Nat) : Int)) (by kernel_rfl) (by kernel_rfl) ((hB4.cell 3).trans rfl)) ⟨hHr, hP, hB4⟩ ?_
    refine zV 6 rfl (ptrAt A (b * 2)) (fun _ ⟨hHr, hP, hB4⟩ => R_indexRd (sz := 2) (len := k) (cap := cp) (k := .i64) (i := ((b : Nat) : Int)) (e := 100) b hHr (by kernel_rfl) (by kernel_rfl) (by kernel_rfl) (by kernel_rfl) rfl (by omega)) ⟨hHr, hP, hB4⟩ ?_
    refine zV 7 rfl (.agg #[.int .u64 (((kg l b).1 : Nat) : Int), .int .u64 (((kg l b).2 : Nat) : Int)]) (fun _ ⟨hHr, hP, hB4⟩ => R_loadRdA [.int .u64 (((kg l b).1 : Nat) : Int), .int .u64 (((kg l b).2 : Nat) : Int)] hHr (by omega) (by kernel_rfl) (by kernel_rfl) (by kernel_rfl) (kcs_part l (by omega))) ⟨hHr, hP, hB4⟩ ?_
    refine zD 8 rfl (S_storeA (b := w16.heap.size) (j := 0) (cs := [.int .u64 (((kg l b).1 : Nat) : Int), .int .u64 (((kg l b).2 : Nat) : Int)]) (by kernel_rfl) (by kernel_rfl) (by kernel_rfl) (by simp [oneV]) hB30 (by simp) fun w57 hT58 hs59 hB30' => ?_)
    have hT0 := (hT0).then hT58 (fun c e => by have : c = w16.heap.size := e; omega)
    have hL := hL.tchS hT58 (fun c e q => by cases e; exact nF_hB30 q)
    have hP := hP.tch hT58 (hP.ne hB30 (by decide))
    have hHr := hH.tch0 hT0
    have hB4 := hB4.tch hT58 (hB4.ne hB30 (by decide))
    have hB10 := hB10.tch hT58 (fun e => by have : w1.heap.size = w16.heap.size := e; omega)
    have hB19 := hB19.tch hT58 (fun e => by have : w7.heap.size = w16.heap.size := e; omega)
    replace hB30 : Blk w57 w16.heap.size 100 [.int .u64 (((kg l b).1 : Nat) : Int), .int .u64 (((kg l b).2 : Nat) : Int)] := hB30'
    refine ⟨⟨hHr, hP, hB4⟩, ?_⟩
    refine d_done (by kernel_rfl) ?_
    refine W_seq ?_
    refine zQ ?_
    refine zS [(51, .pointer (some ⟨w.heap.size, 0, none⟩))] ?_
    refine zL (.int .i64 ((O : Nat) : Int)) ((hB4.cell 0).trans rfl) ?_
    refine op_nil ?_
    refine W_block ?_
    refine zQ ?_
    refine zS [(54, .bool (((O : Nat) : Int) == 20)), (53, .bool (((O : Nat) : Int) == 20))] ?_
    refine zO (((O : Nat) : Int) == 20) (fun hc60 => ?_) (fun hc60 => ?_)
    ·
     replace hc60 : ((O : Nat) : Int) = 20 := (eq_of_beq hc60)
     exfalso; omega
    ·
     replace hc60 : ((O : Nat) : Int) ≠ 20 := (ne_of_beq_false hc60)
     refine zQ ?_
     refine zS [(62, .bool (((O : Nat) : Int) == 15)), (61, .bool (((O : Nat) : Int) == 15))] ?_
     refine zO (((O : Nat) : Int) == 15) (fun hc61 => ?_) (fun hc61 => ?_)
     ·
      replace hc61 : ((O : Nat) : Int) = 15 := (eq_of_beq hc61)
      exfalso; omega
     ·
      replace hc61 : ((O : Nat) : Int) ≠ 15 := (ne_of_beq_false hc61)
      refine W_seq ?_
      refine zQ ?_
      refine zS [(69, .bool (((O : Nat) : Int) == 6)), (68, .bool (((O : Nat) : Int) == 6))] ?_
      refine zO (((O : Nat) : Int) == 6) (fun hc62 => ?_) (fun hc62 => ?_)
      ·
       replace hc62 : ((O : Nat) : Int) = 6 := (eq_of_beq hc62)
       refine W_skip ?_
       refine zW (((O : Nat) : Int) == 6) (fun hc63 => ?_) (fun hc63 => ?_)
       ·
        replace hc63 : ((O : Nat) : Int) = 6 := (eq_of_beq hc63)
        refine zQ ?_
        refine zS [(72, .pointer (some ⟨w.heap.size, 0, none⟩))] ?_
        refine zL (.int .i64 ((O : Nat) : Int)) ((hB4.cell 0).trans rfl) ?_
        refine st (by rfl) (S_val (v := .agg #[.int .u64 (((kg l a).1 : Nat) : Int), .int .u64 (((kg l a).2 : Nat) : Int)]) (R_loadA [.int .u64 (((kg l a).1 : Nat) : Int), .int .u64 (((kg l a).2 : Nat) : Int)] (by kernel_rfl) (by kernel_rfl) (by kernel_rfl) (fun k u hk => by rw [hB19.cell]; exact get_part _ 0 _ k u rfl hk)) ?_)
        refine st (by rfl) (S_val (v := .agg #[.int .u64 (((kg l b).1 : Nat) : Int), .int .u64 (((kg l b).2 : Nat) : Int)]) (R_loadA [.int .u64 (((kg l b).1 : Nat) : Int), .int .u64 (((kg l b).2 : Nat) : Int)] (by kernel_rfl) (by kernel_rfl) (by kernel_rfl) (fun k u hk => by rw [hB30.cell]; exact get_part _ 0 _ k u rfl hk)) ?_)
        refine zC (kgate_ok O wd (kg l a) (kg l b) _ (by omega) hxa hxb hw) ?_
        rintro _ w64 ⟨rfl, hT65⟩
        have hT0 := hT0.t0 hT65
        have hL := hL.tch0 hT65
        have hP := hP.tch0 hT65
        have hHr := hH.tch0 hT0
        have hB4 := hB4.tch0 hT65
        have hB10 := hB10.tch0 hT65
        have hB19 := hB19.tch0 hT65
        have hB30 := hB30.tch0 hT65
        refine st (by rfl) (S_storeA (b := w1.heap.size) (j := 0) (cs := [.int .u64 (((kgate O wd (kg l a) (kg l b)).1 : Nat) : Int), .int .u64 (((kgate O wd (kg l a) (kg l b)).2 : Nat) : Int)]) (by kernel_rfl) (by kernel_rfl) (by kernel_rfl) (by simp [oneV]) hB10 (by simp) fun w66 hT67 hs68 hB10' => ?_)
        have hT0 := (hT0).then hT67 (fun c e => by have : c = w1.heap.size := e; omega)
        have hL := hL.tchS hT67 (fun c e q => by cases e; exact nF_hB10 q)
        have hP := hP.tch hT67 (hP.ne hB10 (by decide))
        have hHr := hH.tch0 hT0
        have hB4 := hB4.tch hT67 (hB4.ne hB10 (by decide))
        have hB19 := hB19.tch hT67 (fun e => by have : w7.heap.size = w1.heap.size := e; omega)
        have hB30 := hB30.tch hT67 (fun e => by have : w16.heap.size = w1.heap.size := e; omega)
        replace hB10 : Blk w66 w1.heap.size 100 [.int .u64 (((kgate O wd (kg l a) (kg l b)).1 : Nat) : Int), .int .u64 (((kgate O wd (kg l a) (kg l b)).2 : Nat) : Int)] := hB10'
        refine op_nil ?_
        refine W_ret ?_
        exact ⟨_, Res_cell (b := w1.heap.size) (cs := [.int .u64 (((kgate O wd (kg l a) (kg l b)).1 : Nat) : Int), .int .u64 (((kgate O wd (kg l a) (kg l b)).2 : Nat) : Int)]) (by rfl) (by kernel_rfl) (by kernel_rfl) hB10 (by kernel_rfl) (by kernel_rfl), ⟨by unfold kone; rw [if_neg (show ¬ O = 20 by omega), if_neg (show ¬ O = 15 by omega), if_pos (show O = 6 ∨ O = 7 ∨ O = 8 by omega)], hT0⟩⟩
       ·
        replace hc63 : ((O : Nat) : Int) ≠ 6 := (ne_of_beq_false hc63)
        exfalso; omega
      ·
       replace hc62 : ((O : Nat) : Int) ≠ 6 := (ne_of_beq_false hc62)
       refine zQ ?_
       refine zS [(70, .bool (((O : Nat) : Int) == 7)), (68, .bool (((O : Nat) : Int) == 7))] ?_
       refine zO (((O : Nat) : Int) == 7) (fun hc69 => ?_) (fun hc69 => ?_)
       ·
        replace hc69 : ((O : Nat) : Int) = 7 := (eq_of_beq hc69)
        refine W_skip ?_
        refine zW (((O : Nat) : Int) == 7) (fun hc70 => ?_) (fun hc70 => ?_)
        ·
         replace hc70 : ((O : Nat) : Int) = 7 := (eq_of_beq hc70)
         refine zQ ?_
         refine zS [(72, .pointer (some ⟨w.heap.size, 0, none⟩))] ?_
         refine zL (.int .i64 ((O : Nat) : Int)) ((hB4.cell 0).trans rfl) ?_
         refine st (by rfl) (S_val (v := .agg #[.int .u64 (((kg l a).1 : Nat) : Int), .int .u64 (((kg l a).2 : Nat) : Int)]) (R_loadA [.int .u64 (((kg l a).1 : Nat) : Int), .int .u64 (((kg l a).2 : Nat) : Int)] (by kernel_rfl) (by kernel_rfl) (by kernel_rfl) (fun k u hk => by rw [hB19.cell]; exact get_part _ 0 _ k u rfl hk)) ?_)
         refine st (by rfl) (S_val (v := .agg #[.int .u64 (((kg l b).1 : Nat) : Int), .int .u64 (((kg l b).2 : Nat) : Int)]) (R_loadA [.int .u64 (((kg l b).1 : Nat) : Int), .int .u64 (((kg l b).2 : Nat) : Int)] (by kernel_rfl) (by kernel_rfl) (by kernel_rfl) (fun k u hk => by rw [hB30.cell]; exact get_part _ 0 _ k u rfl hk)) ?_)
         refine zC (kgate_ok O wd (kg l a) (kg l b) _ (by omega) hxa hxb hw) ?_
         rintro _ w71 ⟨rfl, hT72⟩
         have hT0 := hT0.t0 hT72
         have hL := hL.tch0 hT72
         have hP := hP.tch0 hT72
         have hHr := hH.tch0 hT0
         have hB4 := hB4.tch0 hT72
         have hB10 := hB10.tch0 hT72
         have hB19 := hB19.tch0 hT72
         have hB30 := hB30.tch0 hT72
         refine st (by rfl) (S_storeA (b := w1.heap.size) (j := 0) (cs := [.int .u64 (((kgate O wd (kg l a) (kg l b)).1 : Nat) : Int), .int .u64 (((kgate O wd (kg l a) (kg l b)).2 : Nat) : Int)]) (by kernel_rfl) (by kernel_rfl) (by kernel_rfl) (by simp [oneV]) hB10 (by simp) fun w73 hT74 hs75 hB10' => ?_)
         have hT0 := (hT0).then hT74 (fun c e => by have : c = w1.heap.size := e; omega)
         have hL := hL.tchS hT74 (fun c e q => by cases e; exact nF_hB10 q)
         have hP := hP.tch hT74 (hP.ne hB10 (by decide))
         have hHr := hH.tch0 hT0
         have hB4 := hB4.tch hT74 (hB4.ne hB10 (by decide))
         have hB19 := hB19.tch hT74 (fun e => by have : w7.heap.size = w1.heap.size := e; omega)
         have hB30 := hB30.tch hT74 (fun e => by have : w16.heap.size = w1.heap.size := e; omega)
         replace hB10 : Blk w73 w1.heap.size 100 [.int .u64 (((kgate O wd (kg l a) (kg l b)).1 : Nat) : Int), .int .u64 (((kgate O wd (kg l a) (kg l b)).2 : Nat) : Int)] := hB10'
         refine op_nil ?_
         refine W_ret ?_
         exact ⟨_, Res_cell (b := w1.heap.size) (cs := [.int .u64 (((kgate O wd (kg l a) (kg l b)).1 : Nat) : Int), .int .u64 (((kgate O wd (kg l a) (kg l b)).2 : Nat) : Int)]) (by rfl) (by kernel_rfl) (by kernel_rfl) hB10 (by kernel_rfl) (by kernel_rfl), ⟨by unfold kone; rw [if_neg (show ¬ O = 20 by omega), if_neg (show ¬ O = 15 by omega), if_pos (show O = 6 ∨ O = 7 ∨ O = 8 by omega)], hT0⟩⟩
        ·
         replace hc70 : ((O : Nat) : Int) ≠ 7 := (ne_of_beq_false hc70)
         exfalso; omega
       ·
        replace hc69 : ((O : Nat) : Int) ≠ 7 := (ne_of_beq_false hc69)
        refine zR ?_
        refine zS [(71, .bool (((O : Nat) : Int) == 8)), (68, .bool (((O : Nat) : Int) == 8))] ?_
        refine zO (((O : Nat) : Int) == 8) (fun hc76 => ?_) (fun hc76 => ?_)
        ·
         replace hc76 : ((O : Nat) : Int) = 8 := (eq_of_beq hc76)
         refine zQ ?_
         refine zS [(72, .pointer (some ⟨w.heap.size, 0, none⟩))] ?_
         refine zL (.int .i64 ((O : Nat) : Int)) ((hB4.cell 0).trans rfl) ?_
         refine st (by rfl) (S_val (v := .agg #[.int .u64 (((kg l a).1 : Nat) : Int), .int .u64 (((kg l a).2 : Nat) : Int)]) (R_loadA [.int .u64 (((kg l a).1 : Nat) : Int), .int .u64 (((kg l a).2 : Nat) : Int)] (by kernel_rfl) (by kernel_rfl) (by kernel_rfl) (fun k u hk => by rw [hB19.cell]; exact get_part _ 0 _ k u rfl hk)) ?_)
         refine st (by rfl) (S_val (v := .agg #[.int .u64 (((kg l b).1 : Nat) : Int), .int .u64 (((kg l b).2 : Nat) : Int)]) (R_loadA [.int .u64 (((kg l b).1 : Nat) : Int), .int .u64 (((kg l b).2 : Nat) : Int)] (by kernel_rfl) (by kernel_rfl) (by kernel_rfl) (fun k u hk => by rw [hB30.cell]; exact get_part _ 0 _ k u rfl hk)) ?_)
         refine zC (kgate_ok O wd (kg l a) (kg l b) _ (by omega) hxa hxb hw) ?_
         rintro _ w77 ⟨rfl, hT78⟩
         have hT0 := hT0.t0 hT78
         have hL := hL.tch0 hT78
         have hP := hP.tch0 hT78
         have hHr := hH.tch0 hT0
         have hB4 := hB4.tch0 hT78
         have hB10 := hB10.tch0 hT78
         have hB19 := hB19.tch0 hT78
         have hB30 := hB30.tch0 hT78
         refine st (by rfl) (S_storeA (b := w1.heap.size) (j := 0) (cs := [.int .u64 (((kgate O wd (kg l a) (kg l b)).1 : Nat) : Int), .int .u64 (((kgate O wd (kg l a) (kg l b)).2 : Nat) : Int)]) (by kernel_rfl) (by kernel_rfl) (by kernel_rfl) (by simp [oneV]) hB10 (by simp) fun w79 hT80 hs81 hB10' => ?_)
         have hT0 := (hT0).then hT80 (fun c e => by have : c = w1.heap.size := e; omega)
         have hL := hL.tchS hT80 (fun c e q => by cases e; exact nF_hB10 q)
         have hP := hP.tch hT80 (hP.ne hB10 (by decide))
         have hHr := hH.tch0 hT0
         have hB4 := hB4.tch hT80 (hB4.ne hB10 (by decide))
         have hB19 := hB19.tch hT80 (fun e => by have : w7.heap.size = w1.heap.size := e; omega)
         have hB30 := hB30.tch hT80 (fun e => by have : w16.heap.size = w1.heap.size := e; omega)
         replace hB10 : Blk w79 w1.heap.size 100 [.int .u64 (((kgate O wd (kg l a) (kg l b)).1 : Nat) : Int), .int .u64 (((kgate O wd (kg l a) (kg l b)).2 : Nat) : Int)] := hB10'
         refine op_nil ?_
         refine W_ret ?_
         exact ⟨_, Res_cell (b := w1.heap.size) (cs := [.int .u64 (((kgate O wd (kg l a) (kg l b)).1 : Nat) : Int), .int .u64 (((kgate O wd (kg l a) (kg l b)).2 : Nat) : Int)]) (by rfl) (by kernel_rfl) (by kernel_rfl) hB10 (by kernel_rfl) (by kernel_rfl), ⟨by unfold kone; rw [if_neg (show ¬ O = 20 by omega), if_neg (show ¬ O = 15 by omega), if_pos (show O = 6 ∨ O = 7 ∨ O = 8 by omega)], hT0⟩⟩
        ·
         replace hc76 : ((O : Nat) : Int) ≠ 8 := (ne_of_beq_false hc76)
         refine zQ ?_
         refine zS [(78, .bool (((O : Nat) : Int) == 1)), (77, .bool (((O : Nat) : Int) == 1))] ?_
         refine zO (((O : Nat) : Int) == 1) (fun hc82 => ?_) (fun hc82 => ?_)
         ·
          replace hc82 : ((O : Nat) : Int) = 1 := (eq_of_beq hc82)
          refine zQ ?_
          refine zS [(79, .int .i64 ((wd : Nat) : Int))] ?_
          refine st (by rfl) (S_val (v := .agg #[.int .u64 (((kg l a).1 : Nat) : Int), .int .u64 (((kg l a).2 : Nat) : Int)]) (R_loadA [.int .u64 (((kg l a).1 : Nat) : Int), .int .u64 (((kg l a).2 : Nat) : Int)] (by kernel_rfl) (by kernel_rfl) (by kernel_rfl) (fun k u hk => by rw [hB19.cell]; exact get_part _ 0 _ k u rfl hk)) ?_)
          refine st (by rfl) (S_val (v := .agg #[.int .u64 (((kg l b).1 : Nat) : Int), .int .u64 (((kg l b).2 : Nat) : Int)]) (R_loadA [.int .u64 (((kg l b).1 : Nat) : Int), .int .u64 (((kg l b).2 : Nat) : Int)] (by kernel_rfl) (by kernel_rfl) (by kernel_rfl) (fun k u hk => by rw [hB30.cell]; exact get_part _ 0 _ k u rfl hk)) ?_)
          refine zC (ksum_ok wd (kg l a) (kg l b) _ hxa hxb hw) ?_
          rintro _ w83 ⟨rfl, hT84⟩
          have hT0 := hT0.t0 hT84
          have hL := hL.tch0 hT84
          have hP := hP.tch0 hT84
          have hHr := hH.tch0 hT0
          have hB4 := hB4.tch0 hT84
          have hB10 := hB10.tch0 hT84
          have hB19 := hB19.tch0 hT84
          have hB30 := hB30.tch0 hT84
          refine st (by rfl) (S_storeA (b := w1.heap.size) (j := 0) (cs := [.int .u64 (((ksum wd (kg l a) (kg l b)).1 : Nat) : Int), .int .u64 (((ksum wd (kg l a) (kg l b)).2 : Nat) : Int)]) (by kernel_rfl) (by kernel_rfl) (by kernel_rfl) (by simp [oneV]) hB10 (by simp) fun w85 hT86 hs87 hB10' => ?_)
          have hT0 := (hT0).then hT86 (fun c e => by have : c = w1.heap.size := e; omega)
          have hL := hL.tchS hT86 (fun c e q => by cases e; exact nF_hB10 q)
          have hP := hP.tch hT86 (hP.ne hB10 (by decide))
          have hHr := hH.tch0 hT0
          have hB4 := hB4.tch hT86 (hB4.ne hB10 (by decide))
          have hB19 := hB19.tch hT86 (fun e => by have : w7.heap.size = w1.heap.size := e; omega)
          have hB30 := hB30.tch hT86 (fun e => by have : w16.heap.size = w1.heap.size := e; omega)
          replace hB10 : Blk w85 w1.heap.size 100 [.int .u64 (((ksum wd (kg l a) (kg l b)).1 : Nat) : Int), .int .u64 (((ksum wd (kg l a) (kg l b)).2 : Nat) : Int)] := hB10'
          refine op_nil ?_
          refine W_ret ?_
          exact ⟨_, Res_cell (b := w1.heap.size) (cs := [.int .u64 (((ksum wd (kg l a) (kg l b)).1 : Nat) : Int), .int .u64 (((ksum wd (kg l a) (kg l b)).2 : Nat) : Int)]) (by rfl) (by kernel_rfl) (by kernel_rfl) hB10 (by kernel_rfl) (by kernel_rfl), ⟨by unfold kone; rw [if_neg (show ¬ O = 20 by omega), if_neg (show ¬ O = 15 by omega), if_neg (show ¬ (O = 6 ∨ O = 7 ∨ O = 8) by omega), if_pos (show O = 1 by omega)], hT0⟩⟩
         ·
          replace hc82 : ((O : Nat) : Int) ≠ 1 := (ne_of_beq_false hc82)
          refine zQ ?_
          refine zS [(84, .bool (((O : Nat) : Int) == 12)), (83, .bool (((O : Nat) : Int) == 12))] ?_
          refine zO (((O : Nat) : Int) == 12) (fun hc88 => ?_) (fun hc88 => ?_)
          ·
           replace hc88 : ((O : Nat) : Int) = 12 := (eq_of_beq hc88)
           refine zQ ?_
           refine zS [(85, .int .i64 ((wd : Nat) : Int))] ?_
           refine st (by rfl) (S_val (v := .agg #[.int .u64 (((kg l a).1 : Nat) : Int), .int .u64 (((kg l a).2 : Nat) : Int)]) (R_loadA [.int .u64 (((kg l a).1 : Nat) : Int), .int .u64 (((kg l a).2 : Nat) : Int)] (by kernel_rfl) (by kernel_rfl) (by kernel_rfl) (fun k u hk => by rw [hB19.cell]; exact get_part _ 0 _ k u rfl hk)) ?_)
           refine st (by rfl) (S_val (v := .agg #[.int .u64 (((kg l b).1 : Nat) : Int), .int .u64 (((kg l b).2 : Nat) : Int)]) (R_loadA [.int .u64 (((kg l b).1 : Nat) : Int), .int .u64 (((kg l b).2 : Nat) : Int)] (by kernel_rfl) (by kernel_rfl) (by kernel_rfl) (fun k u hk => by rw [hB30.cell]; exact get_part _ 0 _ k u rfl hk)) ?_)
           refine zC (keq_ok wd (kg l a) (kg l b) _ hxa hxb hw) ?_
           rintro _ w89 ⟨rfl, hT90⟩
           have hT0 := hT0.t0 hT90
           have hL := hL.tch0 hT90
           have hP := hP.tch0 hT90
           have hHr := hH.tch0 hT0
           have hB4 := hB4.tch0 hT90
           have hB10 := hB10.tch0 hT90
           have hB19 := hB19.tch0 hT90
           have hB30 := hB30.tch0 hT90
           refine st (by rfl) (S_storeA (b := w1.heap.size) (j := 0) (cs := [.int .u64 (((keq wd (kg l a) (kg l b)).1 : Nat) : Int), .int .u64 (((keq wd (kg l a) (kg l b)).2 : Nat) : Int)]) (by kernel_rfl) (by kernel_rfl) (by kernel_rfl) (by simp [oneV]) hB10 (by simp) fun w91 hT92 hs93 hB10' => ?_)
           have hT0 := (hT0).then hT92 (fun c e => by have : c = w1.heap.size := e; omega)
           have hL := hL.tchS hT92 (fun c e q => by cases e; exact nF_hB10 q)
           have hP := hP.tch hT92 (hP.ne hB10 (by decide))
           have hHr := hH.tch0 hT0
           have hB4 := hB4.tch hT92 (hB4.ne hB10 (by decide))
           have hB19 := hB19.tch hT92 (fun e => by have : w7.heap.size = w1.heap.size := e; omega)
           have hB30 := hB30.tch hT92 (fun e => by have : w16.heap.size = w1.heap.size := e; omega)
           replace hB10 : Blk w91 w1.heap.size 100 [.int .u64 (((keq wd (kg l a) (kg l b)).1 : Nat) : Int), .int .u64 (((keq wd (kg l a) (kg l b)).2 : Nat) : Int)] := hB10'
           refine op_nil ?_
           refine W_ret ?_
           exact ⟨_, Res_cell (b := w1.heap.size) (cs := [.int .u64 (((keq wd (kg l a) (kg l b)).1 : Nat) : Int), .int .u64 (((keq wd (kg l a) (kg l b)).2 : Nat) : Int)]) (by rfl) (by kernel_rfl) (by kernel_rfl) hB10 (by kernel_rfl) (by kernel_rfl), ⟨by unfold kone; rw [if_neg (show ¬ O = 20 by omega), if_neg (show ¬ O = 15 by omega), if_neg (show ¬ (O = 6 ∨ O = 7 ∨ O = 8) by omega), if_neg (show ¬ O = 1 by omega), if_pos (show O = 12 by omega)], hT0⟩⟩
          ·
           replace hc88 : ((O : Nat) : Int) ≠ 12 := (ne_of_beq_false hc88)
           refine W_seq ?_
           refine zQ ?_
           refine zS [(90, .bool (((O : Nat) : Int) == 9)), (89, .bool (((O : Nat) : Int) == 9))] ?_
           refine zO (((O : Nat) : Int) == 9) (fun hc94 => ?_) (fun hc94 => ?_)
           ·
            replace hc94 : ((O : Nat) : Int) = 9 := (eq_of_beq hc94)
            refine W_skip ?_
            refine zW (((O : Nat) : Int) == 9) (fun hc95 => ?_) (fun hc95 => ?_)
            ·
             replace hc95 : ((O : Nat) : Int) = 9 := (eq_of_beq hc95)
             refine W_seq ?_
             refine W_draw (fun w' => Blk w' (f) 98 [.pointer (some ⟨p, 0, none⟩), .slice A k cp] ∧ Blk w' (w.heap.size) 32 [.int .i64 ((O : Nat) : Int), .int .i64 ((nw : Nat) : Int), .int .i64 ((a : Nat) : Int), .int .i64 ((b : Nat) : Int), .int .i64 xc, .int .u64 xv]) (by kernel_rfl) (by kernel_rfl) (by kernel_rfl) fun w96 hT97 hh98 => ?_
             have hT0 := hT0.t0 hT97
             have hL := hL.tch0 hT97
             have hP := hP.tch0 hT97
             have hHr := hH.tch0 hT0
             have hB4 := hB4.tch0 hT97
             have hB10 := hB10.tch0 hT97
             have hB19 := hB19.tch0 hT97
             have hB30 := hB30.tch0 hT97
             refine zK [0, 4, 1, 2] #[true, true, true, false, true, false, false, false, false, false, false, false, false] [(93, .pointer (some ⟨f, 0, none⟩)), (97, .pointer (some ⟨w.heap.size, 3, none⟩)), (94, .pointer (some ⟨f, 0, none⟩)), (95, .pointer (some ⟨f, 0, none⟩))] ⟨hP, hB4⟩ ?_
             refine zV 3 rfl (.pointer (some ⟨p, 0, none⟩)) (fun _ ⟨hP, hB4⟩ => R_load (v := .pointer (some ⟨p, 0, none⟩)) (by kernel_rfl) (by kernel_rfl) ((hP.cell 0).trans rfl)) ⟨hP, hB4⟩ ?_
             refine zV 5 rfl (.int .i64 ((b : Nat) : Int)) (fun _ ⟨hP, hB4⟩ => R_load (v := .int .i64 ((b : Nat) : Int)) (by kernel_rfl) (by kernel_rfl) ((hB4.cell 3).trans rfl)) ⟨hP, hB4⟩ ?_
             refine d_two 6 10 (by kernel_rfl) (by rfl) (by rfl) (by kernel_rfl) (by kernel_rfl) ?_ ?_
             ·
              refine (S_call (args := [.pointer (some ⟨p, 0, none⟩), .int .i64 ((b : Nat) : Int)]) (by kernel_rfl) (node_at F p most N W b _ hL hN hbN) ?_)
              rintro _ w99 ⟨rfl, hT100⟩
              have hT0 := hT0.t0 hT100
              have hL := hL.tch0 hT100
              have hP := hP.tch0 hT100
              have hHr := hH.tch0 hT0
              have hB4 := hB4.tch0 hT100
              have hB10 := hB10.tch0 hT100
              have hB19 := hB19.tch0 hT100
              have hB30 := hB30.tch0 hT100
              refine ⟨⟨hP, hB4⟩, ?_⟩
              refine zK [7, 8, 9] #[true, true, true, true, true, true, true, true, true, true, false, false, false] [(92, .tuple #[.agg #[.int .i64 (nO (nth N b)), .int .i64 (nW (nth N b)), .int .i64 (nA (nth N b)), .int .i64 (nB (nth N b)), .int .i64 (nC (nth N b)), .int .u64 (nV (nth N b))], .bool true]), (100, .agg #[.int .i64 (nO (nth N b)), .int .i64 (nW (nth N b)), .int .i64 (nA (nth N b)), .int .i64 (nB (nth N b)), .int .i64 (nC (nth N b)), .int .u64 (nV (nth N b))]), (101, .bool true)] ⟨hP, hB4⟩ ?_
              have hlt_ := hL.lt
              have lt105 := hP.lt
              have lt106 := hB4.lt
              have lt107 := hB10.lt
              have lt108 := hB19.lt
              have lt109 := hB30.lt
              have z110 := hT0.size
              have l111 := hP.lt
              have l112 := hB4.lt
              have l113 := hB10.lt
              have l114 := hB19.lt
              have l115 := hB30.lt
              refine zD 10 rfl (S_new (v := .pointer (some ⟨w99.heap.size, 0, none⟩)) (ob := .cells #[.int .i64 0, .int .i64 0, .int .i64 0, .int .i64 0, .int .i64 0, .int .u64 0] 32) (by kernel_rfl) fun w101 hT102 hs103 hB104 => ?_)
              replace hB104 : Blk w101 (w99.heap.size) 32 [.int .i64 0, .int .i64 0, .int .i64 0, .int .i64 0, .int .i64 0, .int .u64 0] := hB104
              have hT0 := hT0.t0 hT102
              have hL := hL.tch0 hT102
              have hP := hP.tch0 hT102
              have hHr := hH.tch0 hT0
              have hB4 := hB4.tch0 hT102
              have hB10 := hB10.tch0 hT102
              have hB19 := hB19.tch0 hT102
              have hB30 := hB30.tch0 hT102
              have nF_hB104 : ¬ F (w99.heap.size) := fun e => by have := hlt_ _ e; omega
              refine ⟨⟨hP, hB4⟩, ?_⟩
              refine zD 11 rfl (S_storeA (b := w99.heap.size) (j := 0) (cs := [.int .i64 (nO (nth N b)), .int .i64 (nW (nth N b)), .int .i64 (nA (nth N b)), .int .i64 (nB (nth N b)), .int .i64 (nC (nth N b)), .int .u64 (nV (nth N b))]) (by kernel_rfl) (by kernel_rfl) (by kernel_rfl) (by simp [oneV]) hB104 (by simp) fun w116 hT117 hs118 hB104' => ?_)
              have hT0 := (hT0).then hT117 (fun c e => by have : c = w99.heap.size := e; omega)
              have hL := hL.tchS hT117 (fun c e q => by cases e; exact nF_hB104 q)
              have hP := hP.tch hT117 (hP.ne hB104 (by decide))
              have hHr := hH.tch0 hT0
              have hB4 := hB4.tch hT117 (fun e => by have : w.heap.size = w99.heap.size := e; omega)
              have hB10 := hB10.tch hT117 (hB10.ne hB104 (by decide))
              have hB19 := hB19.tch hT117 (hB19.ne hB104 (by decide))
              have hB30 := hB30.tch hT117 (hB30.ne hB104 (by decide))
              replace hB104 : Blk w116 w99.heap.size 32 [.int .i64 (nO (nth N b)), .int .i64 (nW (nth N b)), .int .i64 (nA (nth N b)), .int .i64 (nB (nth N b)), .int .i64 (nC (nth N b)), .int .u64 (nV (nth N b))] := hB104'
              refine ⟨⟨hP, hB4⟩, ?_⟩
              refine zK [12] #[true, true, true, true, true, true, true, true, true, true, true, true, true] [(9, .bool true)] ⟨hP, hB4⟩ ?_
              refine d_done (by kernel_rfl) ?_
              refine zQ ?_
              refine zS [(102, .pointer (some ⟨w99.heap.size, 0, none⟩))] ?_
              refine zL (.int .i64 (nO (nth N b))) ((hB104.cell 0).trans rfl) ?_
              refine zS [(104, .bool ((nO (nth N b)) == 20))] ?_
              refine zO ((nO (nth N b)) == 20) (fun hc119 => ?_) (fun hc119 => ?_)
              ·
               replace hc119 : nO (nth N b) = 20 := (eq_of_beq hc119)
               refine zQ ?_
               refine zS [(105, .pointer (some ⟨w.heap.size, 0, none⟩))] ?_
               refine zL (.int .i64 ((O : Nat) : Int)) ((hB4.cell 0).trans rfl) ?_
               refine zS [(107, .int .i64 ((wd : Nat) : Int))] ?_
               refine st (by rfl) (S_val (v := .agg #[.int .u64 (((kg l a).1 : Nat) : Int), .int .u64 (((kg l a).2 : Nat) : Int)]) (R_loadA [.int .u64 (((kg l a).1 : Nat) : Int), .int .u64 (((kg l a).2 : Nat) : Int)] (by kernel_rfl) (by kernel_rfl) (by kernel_rfl) (fun k u hk => by rw [hB19.cell]; exact get_part _ 0 _ k u rfl hk)) ?_)
               refine zS [(109, .pointer (some ⟨w99.heap.size, 5, none⟩))] ?_
               refine zL (.int .u64 (nV (nth N b))) ((hB104.cell 5).trans rfl) ?_
               rw [hv]
               refine zC (kmv_ok O wd (kg l a) by_ _ (by omega) hxa hw hby) ?_
               rintro _ w120 ⟨rfl, hT121⟩
               have hT0 := hT0.t0 hT121
               have hL := hL.tch0 hT121
               have hP := hP.tch0 hT121
               have hHr := hH.tch0 hT0
               have hB4 := hB4.tch0 hT121
               have hB10 := hB10.tch0 hT121
               have hB19 := hB19.tch0 hT121
               have hB30 := hB30.tch0 hT121
               have hB104 := hB104.tch0 hT121
               refine st (by rfl) (S_storeA (b := w1.heap.size) (j := 0) (cs := [.int .u64 (((kmv O wd (kg l a) by_).1 : Nat) : Int), .int .u64 (((kmv O wd (kg l a) by_).2 : Nat) : Int)]) (by kernel_rfl) (by kernel_rfl) (by kernel_rfl) (by simp [oneV]) hB10 (by simp) fun w122 hT123 hs124 hB10' => ?_)
               have hT0 := (hT0).then hT123 (fun c e => by have : c = w1.heap.size := e; omega)
               have hL := hL.tchS hT123 (fun c e q => by cases e; exact nF_hB10 q)
               have hP := hP.tch hT123 (hP.ne hB10 (by decide))
               have hHr := hH.tch0 hT0
               have hB4 := hB4.tch hT123 (hB4.ne hB10 (by decide))
               have hB19 := hB19.tch hT123 (fun e => by have : w7.heap.size = w1.heap.size := e; omega)
               have hB30 := hB30.tch hT123 (fun e => by have : w16.heap.size = w1.heap.size := e; omega)
               have hB104 := hB104.tch hT123 (hB104.ne hB10 (by decide))
               replace hB10 : Blk w122 w1.heap.size 100 [.int .u64 (((kmv O wd (kg l a) by_).1 : Nat) : Int), .int .u64 (((kmv O wd (kg l a) by_).2 : Nat) : Int)] := hB10'
               refine op_nil ?_
               refine W_ret ?_
               exact ⟨_, Res_cell (b := w1.heap.size) (cs := [.int .u64 (((kmv O wd (kg l a) by_).1 : Nat) : Int), .int .u64 (((kmv O wd (kg l a) by_).2 : Nat) : Int)]) (by rfl) (by kernel_rfl) (by kernel_rfl) hB10 (by kernel_rfl) (by kernel_rfl), ⟨by unfold kone; rw [if_neg (show ¬ O = 20 by omega), if_neg (show ¬ O = 15 by omega), if_neg (show ¬ (O = 6 ∨ O = 7 ∨ O = 8) by omega), if_neg (show ¬ O = 1 by omega), if_neg (show ¬ O = 12 by omega), if_pos (show O = 9 ∨ O = 10 by omega), if_pos (by assumption)], hT0⟩⟩
              ·
               replace hc119 : nO (nth N b) ≠ 20 := (ne_of_beq_false hc119)
               refine W_skip ?_
               refine zQ ?_
               refine zS [(168, .agg #[.int .u64 0, .int .u64 0])] ?_
               refine st (by rfl) (S_storeA (b := w1.heap.size) (j := 0) (cs := [.int .u64 0, .int .u64 0]) (by kernel_rfl) (by kernel_rfl) (by kernel_rfl) (by simp [oneV]) hB10 (by simp) fun w125 hT126 hs127 hB10' => ?_)
               have hT0 := (hT0).then hT126 (fun c e => by have : c = w1.heap.size := e; omega)
               have hL := hL.tchS hT126 (fun c e q => by cases e; exact nF_hB10 q)
               have hP := hP.tch hT126 (hP.ne hB10 (by decide))
               have hHr := hH.tch0 hT0
               have hB4 := hB4.tch hT126 (hB4.ne hB10 (by decide))
               have hB19 := hB19.tch hT126 (fun e => by have : w7.heap.size = w1.heap.size := e; omega)
               have hB30 := hB30.tch hT126 (fun e => by have : w16.heap.size = w1.heap.size := e; omega)
               have hB104 := hB104.tch hT126 (hB104.ne hB10 (by decide))
               replace hB10 : Blk w125 w1.heap.size 100 [.int .u64 0, .int .u64 0] := hB10'
               refine op_nil ?_
               refine W_ret ?_
               exact ⟨_, Res_cell (b := w1.heap.size) (cs := [.int .u64 0, .int .u64 0]) (by rfl) (by kernel_rfl) (by kernel_rfl) hB10 (by kernel_rfl) (by kernel_rfl), ⟨by unfold kone; rw [if_neg (show ¬ O = 20 by omega), if_neg (show ¬ O = 15 by omega), if_neg (show ¬ (O = 6 ∨ O = 7 ∨ O = 8) by omega), if_neg (show ¬ O = 1 by omega), if_neg (show ¬ O = 12 by omega), if_pos (show O = 9 ∨ O = 10 by omega), if_neg (by assumption)]; exact rfl, hT0⟩⟩
             ·
              have hlt_ := hL.lt
              have lt132 := hP.lt
              have lt133 := hB4.lt
              have lt134 := hB10.lt
              have lt135 := hB19.lt
              have lt136 := hB30.lt
              have z137 := hT0.size
              have l138 := hP.lt
              have l139 := hB4.lt
              have l140 := hB10.lt
              have l141 := hB19.lt
              have l142 := hB30.lt
              refine (S_new (v := .pointer (some ⟨w96.heap.size, 0, none⟩)) (ob := .cells #[.int .i64 0, .int .i64 0, .int .i64 0, .int .i64 0, .int .i64 0, .int .u64 0] 32) (by kernel_rfl) fun w128 hT129 hs130 hB131 => ?_)
              replace hB131 : Blk w128 (w96.heap.size) 32 [.int .i64 0, .int .i64 0, .int .i64 0, .int .i64 0, .int .i64 0, .int .u64 0] := hB131
              have hT0 := hT0.t0 hT129
              have hL := hL.tch0 hT129
              have hP := hP.tch0 hT129
              have hHr := hH.tch0 hT0
              have hB4 := hB4.tch0 hT129
              have hB10 := hB10.tch0 hT129
              have hB19 := hB19.tch0 hT129
              have hB30 := hB30.tch0 hT129
              have nF_hB131 : ¬ F (w96.heap.size) := fun e => by have := hlt_ _ e; omega
              refine ⟨⟨hP, hB4⟩, ?_⟩
              refine zD 6 rfl (S_call (args := [.pointer (some ⟨p, 0, none⟩), .int .i64 ((b : Nat) : Int)]) (by kernel_rfl) (node_at F p most N W b _ hL hN hbN) ?_)
              rintro _ w143 ⟨rfl, hT144⟩
              have hT0 := hT0.t0 hT144
              have hL := hL.tch0 hT144
              have hP := hP.tch0 hT144
              have hHr := hH.tch0 hT0
              have hB4 := hB4.tch0 hT144
              have hB10 := hB10.tch0 hT144
              have hB19 := hB19.tch0 hT144
              have hB30 := hB30.tch0 hT144
              have hB131 := hB131.tch0 hT144
              refine ⟨⟨hP, hB4⟩, ?_⟩
              refine zK [7, 8, 9] #[true, true, true, true, true, true, true, true, true, true, true, false, false] [(92, .tuple #[.agg #[.int .i64 (nO (nth N b)), .int .i64 (nW (nth N b)), .int .i64 (nA (nth N b)), .int .i64 (nB (nth N b)), .int .i64 (nC (nth N b)), .int .u64 (nV (nth N b))], .bool true]), (100, .agg #[.int .i64 (nO (nth N b)), .int .i64 (nW (nth N b)), .int .i64 (nA (nth N b)), .int .i64 (nB (nth N b)), .int .i64 (nC (nth N b)), .int .u64 (nV (nth N b))]), (101, .bool true)] ⟨hP, hB4⟩ ?_
              refine zD 11 rfl (S_storeA (b := w96.heap.size) (j := 0) (cs := [.int .i64 (nO (nth N b)), .int .i64 (nW (nth N b)), .int .i64 (nA (nth N b)), .int .i64 (nB (nth N b)), .int .i64 (nC (nth N b)), .int .u64 (nV (nth N b))]) (by kernel_rfl) (by kernel_rfl) (by kernel_rfl) (by simp [oneV]) hB131 (by simp) fun w145 hT146 hs147 hB131' => ?_)
              have hT0 := (hT0).then hT146 (fun c e => by have : c = w96.heap.size := e; omega)
              have hL := hL.tchS hT146 (fun c e q => by cases e; exact nF_hB131 q)
              have hP := hP.tch hT146 (hP.ne hB131 (by decide))
              have hHr := hH.tch0 hT0
              have hB4 := hB4.tch hT146 (fun e => by have : w.heap.size = w96.heap.size := e; omega)
              have hB10 := hB10.tch hT146 (hB10.ne hB131 (by decide))
              have hB19 := hB19.tch hT146 (hB19.ne hB131 (by decide))
              have hB30 := hB30.tch hT146 (hB30.ne hB131 (by decide))
              replace hB131 : Blk w145 w96.heap.size 32 [.int .i64 (nO (nth N b)), .int .i64 (nW (nth N b)), .int .i64 (nA (nth N b)), .int .i64 (nB (nth N b)), .int .i64 (nC (nth N b)), .int .u64 (nV (nth N b))] := hB131'
              refine ⟨⟨hP, hB4⟩, ?_⟩
              refine zK [12] #[true, true, true, true, true, true, true, true, true, true, true, true, true] [(9, .bool true)] ⟨hP, hB4⟩ ?_
              refine d_done (by kernel_rfl) ?_
              refine zQ ?_
              refine zS [(102, .pointer (some ⟨w96.heap.size, 0, none⟩))] ?_
              refine zL (.int .i64 (nO (nth N b))) ((hB131.cell 0).trans rfl) ?_
              refine zS [(104, .bool ((nO (nth N b)) == 20))] ?_
              refine zO ((nO (nth N b)) == 20) (fun hc148 => ?_) (fun hc148 => ?_)
              ·
               replace hc148 : nO (nth N b) = 20 := (eq_of_beq hc148)
               refine zQ ?_
               refine zS [(105, .pointer (some ⟨w.heap.size, 0, none⟩))] ?_
               refine zL (.int .i64 ((O : Nat) : Int)) ((hB4.cell 0).trans rfl) ?_
               refine zS [(107, .int .i64 ((wd : Nat) : Int))] ?_
               refine st (by rfl) (S_val (v := .agg #[.int .u64 (((kg l a).1 : Nat) : Int), .int .u64 (((kg l a).2 : Nat) : Int)]) (R_loadA [.int .u64 (((kg l a).1 : Nat) : Int), .int .u64 (((kg l a).2 : Nat) : Int)] (by kernel_rfl) (by kernel_rfl) (by kernel_rfl) (fun k u hk => by rw [hB19.cell]; exact get_part _ 0 _ k u rfl hk)) ?_)
               refine zS [(109, .pointer (some ⟨w96.heap.size, 5, none⟩))] ?_
               refine zL (.int .u64 (nV (nth N b))) ((hB131.cell 5).trans rfl) ?_
               rw [hv]
               refine zC (kmv_ok O wd (kg l a) by_ _ (by omega) hxa hw hby) ?_
               rintro _ w149 ⟨rfl, hT150⟩
               have hT0 := hT0.t0 hT150
               have hL := hL.tch0 hT150
               have hP := hP.tch0 hT150
               have hHr := hH.tch0 hT0
               have hB4 := hB4.tch0 hT150
               have hB10 := hB10.tch0 hT150
               have hB19 := hB19.tch0 hT150
               have hB30 := hB30.tch0 hT150
               have hB131 := hB131.tch0 hT150
               refine st (by rfl) (S_storeA (b := w1.heap.size) (j := 0) (cs := [.int .u64 (((kmv O wd (kg l a) by_).1 : Nat) : Int), .int .u64 (((kmv O wd (kg l a) by_).2 : Nat) : Int)]) (by kernel_rfl) (by kernel_rfl) (by kernel_rfl) (by simp [oneV]) hB10 (by simp) fun w151 hT152 hs153 hB10' => ?_)
               have hT0 := (hT0).then hT152 (fun c e => by have : c = w1.heap.size := e; omega)
               have hL := hL.tchS hT152 (fun c e q => by cases e; exact nF_hB10 q)
               have hP := hP.tch hT152 (hP.ne hB10 (by decide))
               have hHr := hH.tch0 hT0
               have hB4 := hB4.tch hT152 (hB4.ne hB10 (by decide))
               have hB19 := hB19.tch hT152 (fun e => by have : w7.heap.size = w1.heap.size := e; omega)
               have hB30 := hB30.tch hT152 (fun e => by have : w16.heap.size = w1.heap.size := e; omega)
               have hB131 := hB131.tch hT152 (hB131.ne hB10 (by decide))
               replace hB10 : Blk w151 w1.heap.size 100 [.int .u64 (((kmv O wd (kg l a) by_).1 : Nat) : Int), .int .u64 (((kmv O wd (kg l a) by_).2 : Nat) : Int)] := hB10'
               refine op_nil ?_
               refine W_ret ?_
               exact ⟨_, Res_cell (b := w1.heap.size) (cs := [.int .u64 (((kmv O wd (kg l a) by_).1 : Nat) : Int), .int .u64 (((kmv O wd (kg l a) by_).2 : Nat) : Int)]) (by rfl) (by kernel_rfl) (by kernel_rfl) hB10 (by kernel_rfl) (by kernel_rfl), ⟨by unfold kone; rw [if_neg (show ¬ O = 20 by omega), if_neg (show ¬ O = 15 by omega), if_neg (show ¬ (O = 6 ∨ O = 7 ∨ O = 8) by omega), if_neg (show ¬ O = 1 by omega), if_neg (show ¬ O = 12 by omega), if_pos (show O = 9 ∨ O = 10 by omega), if_pos (by assumption)], hT0⟩⟩
              ·
               replace hc148 : nO (nth N b) ≠ 20 := (ne_of_beq_false hc148)
               refine W_skip ?_
               refine zQ ?_
               refine zS [(168, .agg #[.int .u64 0, .int .u64 0])] ?_
               refine st (by rfl) (S_storeA (b := w1.heap.size) (j := 0) (cs := [.int .u64 0, .int .u64 0]) (by kernel_rfl) (by kernel_rfl) (by kernel_rfl) (by simp [oneV]) hB10 (by simp) fun w154 hT155 hs156 hB10' => ?_)
               have hT0 := (hT0).then hT155 (fun c e => by have : c = w1.heap.size := e; omega)
               have hL := hL.tchS hT155 (fun c e q => by cases e; exact nF_hB10 q)
               have hP := hP.tch hT155 (hP.ne hB10 (by decide))
               have hHr := hH.tch0 hT0
               have hB4 := hB4.tch hT155 (hB4.ne hB10 (by decide))
               have hB19 := hB19.tch hT155 (fun e => by have : w7.heap.size = w1.heap.size := e; omega)
               have hB30 := hB30.tch hT155 (fun e => by have : w16.heap.size = w1.heap.size := e; omega)
               have hB131 := hB131.tch hT155 (hB131.ne hB10 (by decide))
               replace hB10 : Blk w154 w1.heap.size 100 [.int .u64 0, .int .u64 0] := hB10'
               refine op_nil ?_
               refine W_ret ?_
               exact ⟨_, Res_cell (b := w1.heap.size) (cs := [.int .u64 0, .int .u64 0]) (by rfl) (by kernel_rfl) (by kernel_rfl) hB10 (by kernel_rfl) (by kernel_rfl), ⟨by unfold kone; rw [if_neg (show ¬ O = 20 by omega), if_neg (show ¬ O = 15 by omega), if_neg (show ¬ (O = 6 ∨ O = 7 ∨ O = 8) by omega), if_neg (show ¬ O = 1 by omega), if_neg (show ¬ O = 12 by omega), if_pos (show O = 9 ∨ O = 10 by omega), if_neg (by assumption)]; exact rfl, hT0⟩⟩
            ·
             replace hc95 : ((O : Nat) : Int) ≠ 9 := (ne_of_beq_false hc95)
             exfalso; omega
           ·
            replace hc94 : ((O : Nat) : Int) ≠ 9 := (ne_of_beq_false hc94)
            refine zR ?_
            refine zS [(91, .bool (((O : Nat) : Int) == 10)), (89, .bool (((O : Nat) : Int) == 10))] ?_
            refine zO (((O : Nat) : Int) == 10) (fun hc157 => ?_) (fun hc157 => ?_)
            ·
             replace hc157 : ((O : Nat) : Int) = 10 := (eq_of_beq hc157)
             refine W_seq ?_
             refine W_draw (fun w' => Blk w' (f) 98 [.pointer (some ⟨p, 0, none⟩), .slice A k cp] ∧ Blk w' (w.heap.size) 32 [.int .i64 ((O : Nat) : Int), .int .i64 ((nw : Nat) : Int), .int .i64 ((a : Nat) : Int), .int .i64 ((b : Nat) : Int), .int .i64 xc, .int .u64 xv]) (by kernel_rfl) (by kernel_rfl) (by kernel_rfl) fun w158 hT159 hh160 => ?_
             have hT0 := hT0.t0 hT159
             have hL := hL.tch0 hT159
             have hP := hP.tch0 hT159
             have hHr := hH.tch0 hT0
             have hB4 := hB4.tch0 hT159
             have hB10 := hB10.tch0 hT159
             have hB19 := hB19.tch0 hT159
             have hB30 := hB30.tch0 hT159
             refine zK [0, 4, 1, 2] #[true, true, true, false, true, false, false, false, false, false, false, false, false] [(93, .pointer (some ⟨f, 0, none⟩)), (97, .pointer (some ⟨w.heap.size, 3, none⟩)), (94, .pointer (some ⟨f, 0, none⟩)), (95, .pointer (some ⟨f, 0, none⟩))] ⟨hP, hB4⟩ ?_
             refine zV 3 rfl (.pointer (some ⟨p, 0, none⟩)) (fun _ ⟨hP, hB4⟩ => R_load (v := .pointer (some ⟨p, 0, none⟩)) (by kernel_rfl) (by kernel_rfl) ((hP.cell 0).trans rfl)) ⟨hP, hB4⟩ ?_
             refine zV 5 rfl (.int .i64 ((b : Nat) : Int)) (fun _ ⟨hP, hB4⟩ => R_load (v := .int .i64 ((b : Nat) : Int)) (by kernel_rfl) (by kernel_rfl) ((hB4.cell 3).trans rfl)) ⟨hP, hB4⟩ ?_
             refine d_two 6 10 (by kernel_rfl) (by rfl) (by rfl) (by kernel_rfl) (by kernel_rfl) ?_ ?_
             ·
              refine (S_call (args := [.pointer (some ⟨p, 0, none⟩), .int .i64 ((b : Nat) : Int)]) (by kernel_rfl) (node_at F p most N W b _ hL hN hbN) ?_)
              rintro _ w161 ⟨rfl, hT162⟩
              have hT0 := hT0.t0 hT162
              have hL := hL.tch0 hT162
              have hP := hP.tch0 hT162
              have hHr := hH.tch0 hT0
              have hB4 := hB4.tch0 hT162
              have hB10 := hB10.tch0 hT162
              have hB19 := hB19.tch0 hT162
              have hB30 := hB30.tch0 hT162
              refine ⟨⟨hP, hB4⟩, ?_⟩
              refine zK [7, 8, 9] #[true, true, true, true, true, true, true, true, true, true, false, false, false] [(92, .tuple #[.agg #[.int .i64 (nO (nth N b)), .int .i64 (nW (nth N b)), .int .i64 (nA (nth N b)), .int .i64 (nB (nth N b)), .int .i64 (nC (nth N b)), .int .u64 (nV (nth N b))], .bool true]), (100, .agg #[.int .i64 (nO (nth N b)), .int .i64 (nW (nth N b)), .int .i64 (nA (nth N b)), .int .i64 (nB (nth N b)), .int .i64 (nC (nth N b)), .int .u64 (nV (nth N b))]), (101, .bool true)] ⟨hP, hB4⟩ ?_
              have hlt_ := hL.lt
              have lt167 := hP.lt
              have lt168 := hB4.lt
              have lt169 := hB10.lt
              have lt170 := hB19.lt
              have lt171 := hB30.lt
              have z172 := hT0.size
              have l173 := hP.lt
              have l174 := hB4.lt
              have l175 := hB10.lt
              have l176 := hB19.lt
              have l177 := hB30.lt
              refine zD 10 rfl (S_new (v := .pointer (some ⟨w161.heap.size, 0, none⟩)) (ob := .cells #[.int .i64 0, .int .i64 0, .int .i64 0, .int .i64 0, .int .i64 0, .int .u64 0] 32) (by kernel_rfl) fun w163 hT164 hs165 hB166 => ?_)
              replace hB166 : Blk w163 (w161.heap.size) 32 [.int .i64 0, .int .i64 0, .int .i64 0, .int .i64 0, .int .i64 0, .int .u64 0] := hB166
              have hT0 := hT0.t0 hT164
              have hL := hL.tch0 hT164
              have hP := hP.tch0 hT164
              have hHr := hH.tch0 hT0
              have hB4 := hB4.tch0 hT164
              have hB10 := hB10.tch0 hT164
              have hB19 := hB19.tch0 hT164
              have hB30 := hB30.tch0 hT164
              have nF_hB166 : ¬ F (w161.heap.size) := fun e => by have := hlt_ _ e; omega
              refine ⟨⟨hP, hB4⟩, ?_⟩
              refine zD 11 rfl (S_storeA (b := w161.heap.size) (j := 0) (cs := [.int .i64 (nO (nth N b)), .int .i64 (nW (nth N b)), .int .i64 (nA (nth N b)), .int .i64 (nB (nth N b)), .int .i64 (nC (nth N b)), .int .u64 (nV (nth N b))]) (by kernel_rfl) (by kernel_rfl) (by kernel_rfl) (by simp [oneV]) hB166 (by simp) fun w178 hT179 hs180 hB166' => ?_)
              have hT0 := (hT0).then hT179 (fun c e => by have : c = w161.heap.size := e; omega)
              have hL := hL.tchS hT179 (fun c e q => by cases e; exact nF_hB166 q)
              have hP := hP.tch hT179 (hP.ne hB166 (by decide))
              have hHr := hH.tch0 hT0
              have hB4 := hB4.tch hT179 (fun e => by have : w.heap.size = w161.heap.size := e; omega)
              have hB10 := hB10.tch hT179 (hB10.ne hB166 (by decide))
              have hB19 := hB19.tch hT179 (hB19.ne hB166 (by decide))
              have hB30 := hB30.tch hT179 (hB30.ne hB166 (by decide))
              replace hB166 : Blk w178 w161.heap.size 32 [.int .i64 (nO (nth N b)), .int .i64 (nW (nth N b)), .int .i64 (nA (nth N b)), .int .i64 (nB (nth N b)), .int .i64 (nC (nth N b)), .int .u64 (nV (nth N b))] := hB166'
              refine ⟨⟨hP, hB4⟩, ?_⟩
              refine zK [12] #[true, true, true, true, true, true, true, true, true, true, true, true, true] [(9, .bool true)] ⟨hP, hB4⟩ ?_
              refine d_done (by kernel_rfl) ?_
              refine zQ ?_
              refine zS [(102, .pointer (some ⟨w161.heap.size, 0, none⟩))] ?_
              refine zL (.int .i64 (nO (nth N b))) ((hB166.cell 0).trans rfl) ?_
              refine zS [(104, .bool ((nO (nth N b)) == 20))] ?_
              refine zO ((nO (nth N b)) == 20) (fun hc181 => ?_) (fun hc181 => ?_)
              ·
               replace hc181 : nO (nth N b) = 20 := (eq_of_beq hc181)
               refine zQ ?_
               refine zS [(105, .pointer (some ⟨w.heap.size, 0, none⟩))] ?_
               refine zL (.int .i64 ((O : Nat) : Int)) ((hB4.cell 0).trans rfl) ?_
               refine zS [(107, .int .i64 ((wd : Nat) : Int))] ?_
               refine st (by rfl) (S_val (v := .agg #[.int .u64 (((kg l a).1 : Nat) : Int), .int .u64 (((kg l a).2 : Nat) : Int)]) (R_loadA [.int .u64 (((kg l a).1 : Nat) : Int), .int .u64 (((kg l a).2 : Nat) : Int)] (by kernel_rfl) (by kernel_rfl) (by kernel_rfl) (fun k u hk => by rw [hB19.cell]; exact get_part _ 0 _ k u rfl hk)) ?_)
               refine zS [(109, .pointer (some ⟨w161.heap.size, 5, none⟩))] ?_
               refine zL (.int .u64 (nV (nth N b))) ((hB166.cell 5).trans rfl) ?_
               rw [hv]
               refine zC (kmv_ok O wd (kg l a) by_ _ (by omega) hxa hw hby) ?_
               rintro _ w182 ⟨rfl, hT183⟩
               have hT0 := hT0.t0 hT183
               have hL := hL.tch0 hT183
               have hP := hP.tch0 hT183
               have hHr := hH.tch0 hT0
               have hB4 := hB4.tch0 hT183
               have hB10 := hB10.tch0 hT183
               have hB19 := hB19.tch0 hT183
               have hB30 := hB30.tch0 hT183
               have hB166 := hB166.tch0 hT183
               refine st (by rfl) (S_storeA (b := w1.heap.size) (j := 0) (cs := [.int .u64 (((kmv O wd (kg l a) by_).1 : Nat) : Int), .int .u64 (((kmv O wd (kg l a) by_).2 : Nat) : Int)]) (by kernel_rfl) (by kernel_rfl) (by kernel_rfl) (by simp [oneV]) hB10 (by simp) fun w184 hT185 hs186 hB10' => ?_)
               have hT0 := (hT0).then hT185 (fun c e => by have : c = w1.heap.size := e; omega)
               have hL := hL.tchS hT185 (fun c e q => by cases e; exact nF_hB10 q)
               have hP := hP.tch hT185 (hP.ne hB10 (by decide))
               have hHr := hH.tch0 hT0
               have hB4 := hB4.tch hT185 (hB4.ne hB10 (by decide))
               have hB19 := hB19.tch hT185 (fun e => by have : w7.heap.size = w1.heap.size := e; omega)
               have hB30 := hB30.tch hT185 (fun e => by have : w16.heap.size = w1.heap.size := e; omega)
               have hB166 := hB166.tch hT185 (hB166.ne hB10 (by decide))
               replace hB10 : Blk w184 w1.heap.size 100 [.int .u64 (((kmv O wd (kg l a) by_).1 : Nat) : Int), .int .u64 (((kmv O wd (kg l a) by_).2 : Nat) : Int)] := hB10'
               refine op_nil ?_
               refine W_ret ?_
               exact ⟨_, Res_cell (b := w1.heap.size) (cs := [.int .u64 (((kmv O wd (kg l a) by_).1 : Nat) : Int), .int .u64 (((kmv O wd (kg l a) by_).2 : Nat) : Int)]) (by rfl) (by kernel_rfl) (by kernel_rfl) hB10 (by kernel_rfl) (by kernel_rfl), ⟨by unfold kone; rw [if_neg (show ¬ O = 20 by omega), if_neg (show ¬ O = 15 by omega), if_neg (show ¬ (O = 6 ∨ O = 7 ∨ O = 8) by omega), if_neg (show ¬ O = 1 by omega), if_neg (show ¬ O = 12 by omega), if_pos (show O = 9 ∨ O = 10 by omega), if_pos (by assumption)], hT0⟩⟩
              ·
               replace hc181 : nO (nth N b) ≠ 20 := (ne_of_beq_false hc181)
               refine W_skip ?_
               refine zQ ?_
               refine zS [(168, .agg #[.int .u64 0, .int .u64 0])] ?_
               refine st (by rfl) (S_storeA (b := w1.heap.size) (j := 0) (cs := [.int .u64 0, .int .u64 0]) (by kernel_rfl) (by kernel_rfl) (by kernel_rfl) (by simp [oneV]) hB10 (by simp) fun w187 hT188 hs189 hB10' => ?_)
               have hT0 := (hT0).then hT188 (fun c e => by have : c = w1.heap.size := e; omega)
               have hL := hL.tchS hT188 (fun c e q => by cases e; exact nF_hB10 q)
               have hP := hP.tch hT188 (hP.ne hB10 (by decide))
               have hHr := hH.tch0 hT0
               have hB4 := hB4.tch hT188 (hB4.ne hB10 (by decide))
               have hB19 := hB19.tch hT188 (fun e => by have : w7.heap.size = w1.heap.size := e; omega)
               have hB30 := hB30.tch hT188 (fun e => by have : w16.heap.size = w1.heap.size := e; omega)
               have hB166 := hB166.tch hT188 (hB166.ne hB10 (by decide))
               replace hB10 : Blk w187 w1.heap.size 100 [.int .u64 0, .int .u64 0] := hB10'
               refine op_nil ?_
               refine W_ret ?_
               exact ⟨_, Res_cell (b := w1.heap.size) (cs := [.int .u64 0, .int .u64 0]) (by rfl) (by kernel_rfl) (by kernel_rfl) hB10 (by kernel_rfl) (by kernel_rfl), ⟨by unfold kone; rw [if_neg (show ¬ O = 20 by omega), if_neg (show ¬ O = 15 by omega), if_neg (show ¬ (O = 6 ∨ O = 7 ∨ O = 8) by omega), if_neg (show ¬ O = 1 by omega), if_neg (show ¬ O = 12 by omega), if_pos (show O = 9 ∨ O = 10 by omega), if_neg (by assumption)]; exact rfl, hT0⟩⟩
             ·
              have hlt_ := hL.lt
              have lt194 := hP.lt
              have lt195 := hB4.lt
              have lt196 := hB10.lt
              have lt197 := hB19.lt
              have lt198 := hB30.lt
              have z199 := hT0.size
              have l200 := hP.lt
              have l201 := hB4.lt
              have l202 := hB10.lt
              have l203 := hB19.lt
              have l204 := hB30.lt
              refine (S_new (v := .pointer (some ⟨w158.heap.size, 0, none⟩)) (ob := .cells #[.int .i64 0, .int .i64 0, .int .i64 0, .int .i64 0, .int .i64 0, .int .u64 0] 32) (by kernel_rfl) fun w190 hT191 hs192 hB193 => ?_)
              replace hB193 : Blk w190 (w158.heap.size) 32 [.int .i64 0, .int .i64 0, .int .i64 0, .int .i64 0, .int .i64 0, .int .u64 0] := hB193
              have hT0 := hT0.t0 hT191
              have hL := hL.tch0 hT191
              have hP := hP.tch0 hT191
              have hHr := hH.tch0 hT0
              have hB4 := hB4.tch0 hT191
              have hB10 := hB10.tch0 hT191
              have hB19 := hB19.tch0 hT191
              have hB30 := hB30.tch0 hT191
              have nF_hB193 : ¬ F (w158.heap.size) := fun e => by have := hlt_ _ e; omega
              refine ⟨⟨hP, hB4⟩, ?_⟩
              refine zD 6 rfl (S_call (args := [.pointer (some ⟨p, 0, none⟩), .int .i64 ((b : Nat) : Int)]) (by kernel_rfl) (node_at F p most N W b _ hL hN hbN) ?_)
              rintro _ w205 ⟨rfl, hT206⟩
              have hT0 := hT0.t0 hT206
              have hL := hL.tch0 hT206
              have hP := hP.tch0 hT206
              have hHr := hH.tch0 hT0
              have hB4 := hB4.tch0 hT206
              have hB10 := hB10.tch0 hT206
              have hB19 := hB19.tch0 hT206
              have hB30 := hB30.tch0 hT206
              have hB193 := hB193.tch0 hT206
              refine ⟨⟨hP, hB4⟩, ?_⟩
              refine zK [7, 8, 9] #[true, true, true, true, true, true, true, true, true, true, true, false, false] [(92, .tuple #[.agg #[.int .i64 (nO (nth N b)), .int .i64 (nW (nth N b)), .int .i64 (nA (nth N b)), .int .i64 (nB (nth N b)), .int .i64 (nC (nth N b)), .int .u64 (nV (nth N b))], .bool true]), (100, .agg #[.int .i64 (nO (nth N b)), .int .i64 (nW (nth N b)), .int .i64 (nA (nth N b)), .int .i64 (nB (nth N b)), .int .i64 (nC (nth N b)), .int .u64 (nV (nth N b))]), (101, .bool true)] ⟨hP, hB4⟩ ?_
              refine zD 11 rfl (S_storeA (b := w158.heap.size) (j := 0) (cs := [.int .i64 (nO (nth N b)), .int .i64 (nW (nth N b)), .int .i64 (nA (nth N b)), .int .i64 (nB (nth N b)), .int .i64 (nC (nth N b)), .int .u64 (nV (nth N b))]) (by kernel_rfl) (by kernel_rfl) (by kernel_rfl) (by simp [oneV]) hB193 (by simp) fun w207 hT208 hs209 hB193' => ?_)
              have hT0 := (hT0).then hT208 (fun c e => by have : c = w158.heap.size := e; omega)
              have hL := hL.tchS hT208 (fun c e q => by cases e; exact nF_hB193 q)
              have hP := hP.tch hT208 (hP.ne hB193 (by decide))
              have hHr := hH.tch0 hT0
              have hB4 := hB4.tch hT208 (fun e => by have : w.heap.size = w158.heap.size := e; omega)
              have hB10 := hB10.tch hT208 (hB10.ne hB193 (by decide))
              have hB19 := hB19.tch hT208 (hB19.ne hB193 (by decide))
              have hB30 := hB30.tch hT208 (hB30.ne hB193 (by decide))
              replace hB193 : Blk w207 w158.heap.size 32 [.int .i64 (nO (nth N b)), .int .i64 (nW (nth N b)), .int .i64 (nA (nth N b)), .int .i64 (nB (nth N b)), .int .i64 (nC (nth N b)), .int .u64 (nV (nth N b))] := hB193'
              refine ⟨⟨hP, hB4⟩, ?_⟩
              refine zK [12] #[true, true, true, true, true, true, true, true, true, true, true, true, true] [(9, .bool true)] ⟨hP, hB4⟩ ?_
              refine d_done (by kernel_rfl) ?_
              refine zQ ?_
              refine zS [(102, .pointer (some ⟨w158.heap.size, 0, none⟩))] ?_
              refine zL (.int .i64 (nO (nth N b))) ((hB193.cell 0).trans rfl) ?_
              refine zS [(104, .bool ((nO (nth N b)) == 20))] ?_
              refine zO ((nO (nth N b)) == 20) (fun hc210 => ?_) (fun hc210 => ?_)
              ·
               replace hc210 : nO (nth N b) = 20 := (eq_of_beq hc210)
               refine zQ ?_
               refine zS [(105, .pointer (some ⟨w.heap.size, 0, none⟩))] ?_
               refine zL (.int .i64 ((O : Nat) : Int)) ((hB4.cell 0).trans rfl) ?_
               refine zS [(107, .int .i64 ((wd : Nat) : Int))] ?_
               refine st (by rfl) (S_val (v := .agg #[.int .u64 (((kg l a).1 : Nat) : Int), .int .u64 (((kg l a).2 : Nat) : Int)]) (R_loadA [.int .u64 (((kg l a).1 : Nat) : Int), .int .u64 (((kg l a).2 : Nat) : Int)] (by kernel_rfl) (by kernel_rfl) (by kernel_rfl) (fun k u hk => by rw [hB19.cell]; exact get_part _ 0 _ k u rfl hk)) ?_)
               refine zS [(109, .pointer (some ⟨w158.heap.size, 5, none⟩))] ?_
               refine zL (.int .u64 (nV (nth N b))) ((hB193.cell 5).trans rfl) ?_
               rw [hv]
               refine zC (kmv_ok O wd (kg l a) by_ _ (by omega) hxa hw hby) ?_
               rintro _ w211 ⟨rfl, hT212⟩
               have hT0 := hT0.t0 hT212
               have hL := hL.tch0 hT212
               have hP := hP.tch0 hT212
               have hHr := hH.tch0 hT0
               have hB4 := hB4.tch0 hT212
               have hB10 := hB10.tch0 hT212
               have hB19 := hB19.tch0 hT212
               have hB30 := hB30.tch0 hT212
               have hB193 := hB193.tch0 hT212
               refine st (by rfl) (S_storeA (b := w1.heap.size) (j := 0) (cs := [.int .u64 (((kmv O wd (kg l a) by_).1 : Nat) : Int), .int .u64 (((kmv O wd (kg l a) by_).2 : Nat) : Int)]) (by kernel_rfl) (by kernel_rfl) (by kernel_rfl) (by simp [oneV]) hB10 (by simp) fun w213 hT214 hs215 hB10' => ?_)
               have hT0 := (hT0).then hT214 (fun c e => by have : c = w1.heap.size := e; omega)
               have hL := hL.tchS hT214 (fun c e q => by cases e; exact nF_hB10 q)
               have hP := hP.tch hT214 (hP.ne hB10 (by decide))
               have hHr := hH.tch0 hT0
               have hB4 := hB4.tch hT214 (hB4.ne hB10 (by decide))
               have hB19 := hB19.tch hT214 (fun e => by have : w7.heap.size = w1.heap.size := e; omega)
               have hB30 := hB30.tch hT214 (fun e => by have : w16.heap.size = w1.heap.size := e; omega)
               have hB193 := hB193.tch hT214 (hB193.ne hB10 (by decide))
               replace hB10 : Blk w213 w1.heap.size 100 [.int .u64 (((kmv O wd (kg l a) by_).1 : Nat) : Int), .int .u64 (((kmv O wd (kg l a) by_).2 : Nat) : Int)] := hB10'
               refine op_nil ?_
               refine W_ret ?_
               exact ⟨_, Res_cell (b := w1.heap.size) (cs := [.int .u64 (((kmv O wd (kg l a) by_).1 : Nat) : Int), .int .u64 (((kmv O wd (kg l a) by_).2 : Nat) : Int)]) (by rfl) (by kernel_rfl) (by kernel_rfl) hB10 (by kernel_rfl) (by kernel_rfl), ⟨by unfold kone; rw [if_neg (show ¬ O = 20 by omega), if_neg (show ¬ O = 15 by omega), if_neg (show ¬ (O = 6 ∨ O = 7 ∨ O = 8) by omega), if_neg (show ¬ O = 1 by omega), if_neg (show ¬ O = 12 by omega), if_pos (show O = 9 ∨ O = 10 by omega), if_pos (by assumption)], hT0⟩⟩
              ·
               replace hc210 : nO (nth N b) ≠ 20 := (ne_of_beq_false hc210)
               refine W_skip ?_
               refine zQ ?_
               refine zS [(168, .agg #[.int .u64 0, .int .u64 0])] ?_
               refine st (by rfl) (S_storeA (b := w1.heap.size) (j := 0) (cs := [.int .u64 0, .int .u64 0]) (by kernel_rfl) (by kernel_rfl) (by kernel_rfl) (by simp [oneV]) hB10 (by simp) fun w216 hT217 hs218 hB10' => ?_)
               have hT0 := (hT0).then hT217 (fun c e => by have : c = w1.heap.size := e; omega)
               have hL := hL.tchS hT217 (fun c e q => by cases e; exact nF_hB10 q)
               have hP := hP.tch hT217 (hP.ne hB10 (by decide))
               have hHr := hH.tch0 hT0
               have hB4 := hB4.tch hT217 (hB4.ne hB10 (by decide))
               have hB19 := hB19.tch hT217 (fun e => by have : w7.heap.size = w1.heap.size := e; omega)
               have hB30 := hB30.tch hT217 (fun e => by have : w16.heap.size = w1.heap.size := e; omega)
               have hB193 := hB193.tch hT217 (hB193.ne hB10 (by decide))
               replace hB10 : Blk w216 w1.heap.size 100 [.int .u64 0, .int .u64 0] := hB10'
               refine op_nil ?_
               refine W_ret ?_
               exact ⟨_, Res_cell (b := w1.heap.size) (cs := [.int .u64 0, .int .u64 0]) (by rfl) (by kernel_rfl) (by kernel_rfl) hB10 (by kernel_rfl) (by kernel_rfl), ⟨by unfold kone; rw [if_neg (show ¬ O = 20 by omega), if_neg (show ¬ O = 15 by omega), if_neg (show ¬ (O = 6 ∨ O = 7 ∨ O = 8) by omega), if_neg (show ¬ O = 1 by omega), if_neg (show ¬ O = 12 by omega), if_pos (show O = 9 ∨ O = 10 by omega), if_neg (by assumption)]; exact rfl, hT0⟩⟩
            ·
             replace hc157 : ((O : Nat) : Int) ≠ 10 := (ne_of_beq_false hc157)
             refine zQ ?_
             refine zS [(113, .bool (((O : Nat) : Int) == 22)), (112, .bool (((O : Nat) : Int) == 22))] ?_
             refine zO (((O : Nat) : Int) == 22) (fun hc219 => ?_) (fun hc219 => ?_)
             ·
              replace hc219 : ((O : Nat) : Int) = 22 := (eq_of_beq hc219)
              exfalso; omega
             ·
              replace hc219 : ((O : Nat) : Int) ≠ 22 := (ne_of_beq_false hc219)
              refine zQ ?_
              refine zS [(118, .bool (((O : Nat) : Int) == 23)), (117, .bool (((O : Nat) : Int) == 23))] ?_
              refine zO (((O : Nat) : Int) == 23) (fun hc220 => ?_) (fun hc220 => ?_)
              ·
               replace hc220 : ((O : Nat) : Int) = 23 := (eq_of_beq hc220)
               exfalso; omega
              ·
               replace hc220 : ((O : Nat) : Int) ≠ 23 := (ne_of_beq_false hc220)
               refine zQ ?_
               refine zS [(138, .bool (((O : Nat) : Int) == 24)), (137, .bool (((O : Nat) : Int) == 24))] ?_
               refine zO (((O : Nat) : Int) == 24) (fun hc221 => ?_) (fun hc221 => ?_)
               ·
                replace hc221 : ((O : Nat) : Int) = 24 := (eq_of_beq hc221)
                exfalso; omega
               ·
                replace hc221 : ((O : Nat) : Int) ≠ 24 := (ne_of_beq_false hc221)
                refine W_seq ?_
                refine zQ ?_
                refine zS [(162, .bool (((O : Nat) : Int) == 25)), (161, .bool (((O : Nat) : Int) == 25))] ?_
                refine zO (((O : Nat) : Int) == 25) (fun hc222 => ?_) (fun hc222 => ?_)
                ·
                 replace hc222 : ((O : Nat) : Int) = 25 := (eq_of_beq hc222)
                 exfalso; omega
                ·
                 replace hc222 : ((O : Nat) : Int) ≠ 25 := (ne_of_beq_false hc222)
                 refine zR ?_
                 refine zS [(163, .bool (((O : Nat) : Int) == 26)), (161, .bool (((O : Nat) : Int) == 26))] ?_
                 refine zO (((O : Nat) : Int) == 26) (fun hc223 => ?_) (fun hc223 => ?_)
                 ·
                  replace hc223 : ((O : Nat) : Int) = 26 := (eq_of_beq hc223)
                  exfalso; omega
                 ·
                  replace hc223 : ((O : Nat) : Int) ≠ 26 := (ne_of_beq_false hc223)
                  refine W_skip ?_
                  refine zQ ?_
                  refine zS [(168, .agg #[.int .u64 0, .int .u64 0])] ?_
                  refine st (by rfl) (S_storeA (b := w1.heap.size) (j := 0) (cs := [.int .u64 0, .int .u64 0]) (by kernel_rfl) (by kernel_rfl) (by kernel_rfl) (by simp [oneV]) hB10 (by simp) fun w224 hT225 hs226 hB10' => ?_)
                  have hT0 := (hT0).then hT225 (fun c e => by have : c = w1.heap.size := e; omega)
                  have hL := hL.tchS hT225 (fun c e q => by cases e; exact nF_hB10 q)
                  have hP := hP.tch hT225 (hP.ne hB10 (by decide))
                  have hHr := hH.tch0 hT0
                  have hB4 := hB4.tch hT225 (hB4.ne hB10 (by decide))
                  have hB19 := hB19.tch hT225 (fun e => by have : w7.heap.size = w1.heap.size := e; omega)
                  have hB30 := hB30.tch hT225 (fun e => by have : w16.heap.size = w1.heap.size := e; omega)
                  replace hB10 : Blk w224 w1.heap.size 100 [.int .u64 0, .int .u64 0] := hB10'
                  refine op_nil ?_
                  refine W_ret ?_
                  exact ⟨_, Res_cell (b := w1.heap.size) (cs := [.int .u64 0, .int .u64 0]) (by rfl) (by kernel_rfl) (by kernel_rfl) hB10 (by kernel_rfl) (by kernel_rfl), ⟨by unfold kone; rw [if_neg (show ¬ O = 20 by omega), if_neg (show ¬ O = 15 by omega), if_neg (show ¬ (O = 6 ∨ O = 7 ∨ O = 8) by omega), if_neg (show ¬ O = 1 by omega), if_neg (show ¬ O = 12 by omega), if_neg (show ¬ (O = 9 ∨ O = 10) by omega), if_neg (show ¬ O = 22 by omega), if_neg (show ¬ O = 23 by omega), if_neg (show ¬ O = 24 by omega), if_neg (show ¬ O = 25 by omega), if_neg (show ¬ O = 26 by omega)]; rfl, hT0⟩⟩
  ·
   replace hc46 : ((O : Nat) : Int) = 21 := (bne_eq_false_iff_eq.1 hc46)
   exfalso; omega

set_option maxRecDepth 100000 in
theorem of22_ok (F : Nat → Prop) (p : Nat) (most : Int) (N : List Nd) (W : Value → Value → Prop) (f k cp : Nat) (A : Option Addr) (l : List K) (nw wd up a b c : Nat) (xv : Int) (lo V : Nat) (cst : Option Nat) (w : World) (hL : TLow F w p most N W) (hN : N.length ≤ 65536) (hP : Blk w f 98 [.pointer (some ⟨p, 0, none⟩), .slice A k cp]) (hH : RdW w 2 k A (kcs l)) (ha : a < k) (hb : b < k) (hc : c < k) (hwa : widF N ((a : Nat) : Int) = ((wd : Nat) : Int)) (hxa : KI 1 (kg l a)) (hxb : KI nw (kg l b)) (hxc : KI nw (kg l c)) (hw : nw ≤ 64) : Ret Try.prog 50 [.pointer (some ⟨f, 0, none⟩), .agg #[.int .i64 22, .int .i64 ((nw : Nat) : Int), .int .i64 ((a : Nat) : Int), .int .i64 ((b : Nat) : Int), .int .i64 ((c : Nat) : Int), .int .u64 xv]] w fun v w' => v = .agg #[.int .u64 (((kone 22 nw wd up (kg l a) (kg l b) (kg l c) lo V cst).1 : Nat) : Int), .int .u64 (((kone 22 nw wd up (kg l a) (kg l b) (kg l c) lo V cst).2 : Nat) : Int)] ∧ Tch N0 w w' := by
 have hll : l.length = k := by have := hH.1; rw [kcs_length] at this; omega
 refine enter Try.func50 rfl rfl ?_
 refine zQ ?_
 have hlt_ := hL.lt
 have lt5 := hP.lt
 have l6 := hP.lt
 refine st (by rfl) (S_new (v := .pointer (some ⟨w.heap.size, 0, none⟩)) (ob := .cells #[.int .i64 22, .int .i64 ((nw : Nat) : Int), .int .i64 ((a : Nat) : Int), .int .i64 ((b : Nat) : Int), .int .i64 ((c : Nat) : Int), .int .u64 xv] 32) (by kernel_rfl) fun w1 hT2 hs3 hB4 => ?_)
 replace hB4 : Blk w1 (w.heap.size) 32 [.int .i64 22, .int .i64 ((nw : Nat) : Int), .int .i64 ((a : Nat) : Int), .int .i64 ((b : Nat) : Int), .int .i64 ((c : Nat) : Int), .int .u64 xv] := hB4
 have hT0 := hT2
 have hL := hL.tch0 hT2
 have hP := hP.tch0 hT2
 have hHr := hH.tch0 hT0
 have nF_hB4 : ¬ F (w.heap.size) := fun e => by have := hlt_ _ e; omega
 have hlt_ := hL.lt
 have lt11 := hP.lt
 have lt12 := hB4.lt
 have z13 := hT0.size
 have l14 := hP.lt
 have l15 := hB4.lt
 refine st (by rfl) (S_new (v := .pointer (some ⟨w1.heap.size, 0, none⟩)) (ob := .cells #[.int .u64 0, .int .u64 0] 100) (by kernel_rfl) fun w7 hT8 hs9 hB10 => ?_)
 replace hB10 : Blk w7 (w1.heap.size) 100 [.int .u64 0, .int .u64 0] := hB10
 have hT0 := hT0.t0 hT8
 have hL := hL.tch0 hT8
 have hP := hP.tch0 hT8
 have hHr := hH.tch0 hT0
 have hB4 := hB4.tch0 hT8
 have nF_hB10 : ¬ F (w1.heap.size) := fun e => by have := hlt_ _ e; omega
 refine op_nil ?_
 refine zQ ?_
 have hlt_ := hL.lt
 have lt20 := hP.lt
 have lt21 := hB4.lt
 have lt22 := hB10.lt
 have z23 := hT0.size
 have l24 := hP.lt
 have l25 := hB4.lt
 have l26 := hB10.lt
 refine st (by rfl) (S_new (v := .pointer (some ⟨w7.heap.size, 0, none⟩)) (ob := .cells #[.int .u64 0, .int .u64 0] 100) (by kernel_rfl) fun w16 hT17 hs18 hB19 => ?_)
 replace hB19 : Blk w16 (w7.heap.size) 100 [.int .u64 0, .int .u64 0] := hB19
 have hT0 := hT0.t0 hT17
 have hL := hL.tch0 hT17
 have hP := hP.tch0 hT17
 have hHr := hH.tch0 hT0
 have hB4 := hB4.tch0 hT17
 have hB10 := hB10.tch0 hT17
 have nF_hB19 : ¬ F (w7.heap.size) := fun e => by have := hlt_ _ e; omega
 have hlt_ := hL.lt
 have lt31 := hP.lt
 have lt32 := hB4.lt
 have lt33 := hB10.lt
 have lt34 := hB19.lt
 have z35 := hT0.size
 have l36 := hP.lt
 have l37 := hB4.lt
 have l38 := hB10.lt
 have l39 := hB19.lt
 refine st (by rfl) (S_new (v := .pointer (some ⟨w16.heap.size, 0, none⟩)) (ob := .cells #[.int .u64 0, .int .u64 0] 100) (by kernel_rfl) fun w27 hT28 hs29 hB30 => ?_)
 replace hB30 : Blk w27 (w16.heap.size) 100 [.int .u64 0, .int .u64 0] := hB30
 have hT0 := hT0.t0 hT28
 have hL := hL.tch0 hT28
 have hP := hP.tch0 hT28
 have hHr := hH.tch0 hT0
 have hB4 := hB4.tch0 hT28
 have hB10 := hB10.tch0 hT28
 have hB19 := hB19.tch0 hT28
 have nF_hB30 : ¬ F (w16.heap.size) := fun e => by have := hlt_ _ e; omega
 refine op_nil ?_
 refine W_seq ?_
 refine W_draw (fun w' => Blk w' (f) 98 [.pointer (some ⟨p, 0, none⟩), .slice A k cp] ∧ Blk w' (w.heap.size) 32 [.int .i64 22, .int .i64 ((nw : Nat) : Int), .int .i64 ((a : Nat) : Int), .int .i64 ((b : Nat) : Int), .int .i64 ((c : Nat) : Int), .int .u64 xv]) (by kernel_rfl) (by kernel_rfl) (by kernel_rfl) fun w40 hT41 hh42 => ?_
 have hT0 := hT0.t0 hT41
 have hL := hL.tch0 hT41
 have hP := hP.tch0 hT41
 have hHr := hH.tch0 hT0
 have hB4 := hB4.tch0 hT41
 have hB10 := hB10.tch0 hT41
 have hB19 := hB19.tch0 hT41
 have hB30 := hB30.tch0 hT41
 refine zK [0, 4, 1, 2] #[true, true, true, false, true, false, false, false] [(12, .pointer (some ⟨f, 0, none⟩)), (16, .pointer (some ⟨w.heap.size, 2, none⟩)), (13, .pointer (some ⟨f, 0, none⟩)), (14, .pointer (some ⟨f, 0, none⟩))] ⟨hP, hB4⟩ ?_
 refine zV 3 rfl (.pointer (some ⟨p, 0, none⟩)) (fun _ ⟨hP, hB4⟩ => R_load (v := .pointer (some ⟨p, 0, none⟩)) (by kernel_rfl) (by kernel_rfl) ((hP.cell 0).trans rfl)) ⟨hP, hB4⟩ ?_
 refine zV 5 rfl (.int .i64 ((a : Nat) : Int)) (fun _ ⟨hP, hB4⟩ => R_load (v := .int .i64 ((a : Nat) : Int)) (by kernel_rfl) (by kernel_rfl) ((hB4.cell 2).trans rfl)) ⟨hP, hB4⟩ ?_
 refine zD 6 rfl (S_call (args := [.pointer (some ⟨p, 0, none⟩), .int .i64 ((a : Nat) : Int)]) (by kernel_rfl) ((by have q := width_ok F p most N W ((a : Nat) : Int) _ hL hN; rw [hwa] at q; exact q)) ?_)
 rintro _ w43 ⟨rfl, hT44⟩
 have hT0 := hT0.t0 hT44
 have hL := hL.tch0 hT44
 have hP := hP.tch0 hT44
 have hHr := hH.tch0 hT0
 have hB4 := hB4.tch0 hT44
 have hB10 := hB10.tch0 hT44
 have hB19 := hB19.tch0 hT44
 have hB30 := hB30.tch0 hT44
 refine ⟨⟨hP, hB4⟩, ?_⟩
 refine zK [7] #[true, true, true, true, true, true, true, true] [(7, .int .i64 ((wd : Nat) : Int))] ⟨hP, hB4⟩ ?_
 refine d_done (by kernel_rfl) ?_
 refine W_seq ?_
 refine zQ ?_
 refine zS [(19, .pointer (some ⟨w.heap.size, 0, none⟩))] ?_
 refine zL (.int .i64 22) ((hB4.cell 0).trans rfl) ?_
 refine zS [(21, .bool true), (22, .bool true), (23, .pointer (some ⟨w.heap.size, 0, none⟩))] ?_
 refine zL (.int .i64 22) ((hB4.cell 0).trans rfl) ?_
 refine zS [(25, .bool true), (26, .bool true)] ?_
 refine zO true (fun _ => ?_) (fun h => nomatch h)
 refine W_draw (fun w' => RdW w' 2 k A (kcs l) ∧ Blk w' (f) 98 [.pointer (some ⟨p, 0, none⟩), .slice A k cp] ∧ Blk w' (w.heap.size) 32 [.int .i64 22, .int .i64 ((nw : Nat) : Int), .int .i64 ((a : Nat) : Int), .int .i64 ((b : Nat) : Int), .int .i64 ((c : Nat) : Int), .int .u64 xv]) (by kernel_rfl) (by kernel_rfl) (by kernel_rfl) fun w45 hT46 hh47 => ?_
 have hT0 := hT0.t0 hT46
 have hL := hL.tch0 hT46
 have hP := hP.tch0 hT46
 have hHr := hH.tch0 hT0
 have hB4 := hB4.tch0 hT46
 have hB10 := hB10.tch0 hT46
 have hB19 := hB19.tch0 hT46
 have hB30 := hB30.tch0 hT46
 refine zK [0, 4, 1, 2] #[true, true, true, false, true, false, false, false, false] [(27, .pointer (some ⟨f, 0, none⟩)), (31, .pointer (some ⟨w.heap.size, 2, none⟩)), (28, .pointer (some ⟨f, 0, none⟩)), (29, .pointer (some ⟨f, 1, none⟩))] ⟨hHr, hP, hB4⟩ ?_
 refine zV 3 rfl (.slice A k cp) (fun _ ⟨hHr, hP, hB4⟩ => R_load (v := .slice A k cp) (by kernel_rfl) (by kernel_rfl) ((hP.cell 1).trans rfl)) ⟨hHr, hP, hB4⟩ ?_
 refine zV 5 rfl (.int .i64 ((a : Nat) : Int)) (fun _ ⟨hHr, hP, hB4⟩ => R_load (v := .int .i64 ((a : Nat) : Int)) (by kernel_rfl) (by kernel_rfl) ((hB4.cell 2).trans rfl)) ⟨hHr, hP, hB4⟩ ?_
 refine zV 6 rfl (ptrAt A (a * 2)) (fun _ ⟨hHr, hP, hB4⟩ => R_indexRd (sz := 2) (len := k) (cap := cp) (k := .i64) (i := ((a : Nat) : Int)) (e := 100) a hHr (by kernel_rfl) (by kernel_rfl) (by kernel_rfl) (by kernel_rfl) rfl (by omega)) ⟨hHr, hP, hB4⟩ ?_
 refine zV 7 rfl (.agg #[.int .u64 (((kg l a).1 : Nat) : Int), .int .u64 (((kg l a).2 : Nat) : Int)]) (fun _ ⟨hHr, hP, hB4⟩ => R_loadRdA [.int .u64 (((kg l a).1 : Nat) : Int), .int .u64 (((kg l a).2 : Nat) : Int)] hHr (by omega) (by kernel_rfl) (by kernel_rfl) (by kernel_rfl) (kcs_part l (by omega))) ⟨hHr, hP, hB4⟩ ?_
 refine zD 8 rfl (S_storeA (b := w7.heap.size) (j := 0) (cs := [.int .u64 (((kg l a).1 : Nat) : Int), .int .u64 (((kg l a).2 : Nat) : Int)]) (by kernel_rfl) (by kernel_rfl) (by kernel_rfl) (by simp [oneV]) hB19 (by simp) fun w48 hT49 hs50 hB19' => ?_)
 have hT0 := (hT0).then hT49 (fun c e => by have : c = w7.heap.size := e; omega)
 have hL := hL.tchS hT49 (fun c e q => by cases e; exact nF_hB19 q)
 have hP := hP.tch hT49 (hP.ne hB19 (by decide))
 have hHr := hH.tch0 hT0
 have hB4 := hB4.tch hT49 (hB4.ne hB19 (by decide))
 have hB10 := hB10.tch hT49 (fun e => by have : w1.heap.size = w7.heap.size := e; omega)
 have hB30 := hB30.tch hT49 (fun e => by have : w16.heap.size = w7.heap.size := e; omega)
 replace hB19 : Blk w48 w7.heap.size 100 [.int .u64 (((kg l a).1 : Nat) : Int), .int .u64 (((kg l a).2 : Nat) : Int)] := hB19'
 refine ⟨⟨hHr, hP, hB4⟩, ?_⟩
 refine d_done (by kernel_rfl) ?_
 refine W_seq ?_
 refine zQ ?_
 refine zS [(35, .pointer (some ⟨w.heap.size, 0, none⟩))] ?_
 refine zL (.int .i64 22) ((hB4.cell 0).trans rfl) ?_
 refine zS [(37, .bool false), (38, .bool false), (39, .pointer (some ⟨w.heap.size, 0, none⟩))] ?_
 refine zL (.int .i64 22) ((hB4.cell 0).trans rfl) ?_
 refine zS [(41, .bool false), (42, .bool false)] ?_
 refine zO false (fun h => nomatch h) (fun _ => ?_)
 refine W_skip ?_
 refine W_seq ?_
 refine zQ ?_
 refine zS [(51, .pointer (some ⟨w.heap.size, 0, none⟩))] ?_
 refine zL (.int .i64 22) ((hB4.cell 0).trans rfl) ?_
 refine op_nil ?_
 refine W_block ?_
 refine zQ ?_
 refine zS [(54, .bool false), (53, .bool false)] ?_
 refine zO false (fun h => nomatch h) (fun _ => ?_)
 refine zQ ?_
 refine zS [(62, .bool false), (61, .bool false)] ?_
 refine zO false (fun h => nomatch h) (fun _ => ?_)
 refine W_seq ?_
 refine zQ ?_
 refine zS [(69, .bool false), (68, .bool false)] ?_
 refine zO false (fun h => nomatch h) (fun _ => ?_)
 refine zQ ?_
 refine zS [(70, .bool false), (68, .bool false)] ?_
 refine zO false (fun h => nomatch h) (fun _ => ?_)
 refine zR ?_
 refine zS [(71, .bool false), (68, .bool false)] ?_
 refine zO false (fun h => nomatch h) (fun _ => ?_)
 refine zQ ?_
 refine zS [(78, .bool false), (77, .bool false)] ?_
 refine zO false (fun h => nomatch h) (fun _ => ?_)
 refine zQ ?_
 refine zS [(84, .bool false), (83, .bool false)] ?_
 refine zO false (fun h => nomatch h) (fun _ => ?_)
 refine W_seq ?_
 refine zQ ?_
 refine zS [(90, .bool false), (89, .bool false)] ?_
 refine zO false (fun h => nomatch h) (fun _ => ?_)
 refine zR ?_
 refine zS [(91, .bool false), (89, .bool false)] ?_
 refine zO false (fun h => nomatch h) (fun _ => ?_)
 refine zQ ?_
 refine zS [(113, .bool true), (112, .bool true)] ?_
 refine zO true (fun _ => ?_) (fun h => nomatch h)
 refine zQ ?_
 refine zS [(114, .pointer (some ⟨f, 0, none⟩))] ?_
 refine st (by rfl) (S_val (v := .agg #[.int .i64 22, .int .i64 ((nw : Nat) : Int), .int .i64 ((a : Nat) : Int), .int .i64 ((b : Nat) : Int), .int .i64 ((c : Nat) : Int), .int .u64 xv]) (R_loadA [.int .i64 22, .int .i64 ((nw : Nat) : Int), .int .i64 ((a : Nat) : Int), .int .i64 ((b : Nat) : Int), .int .i64 ((c : Nat) : Int), .int .u64 xv] (by kernel_rfl) (by kernel_rfl) (by kernel_rfl) (fun k u hk => by rw [hB4.cell]; exact get_part _ 0 _ k u rfl hk)) ?_)
 refine zC (kite_ok F p most N W f k cp A l nw a b c xv _ hL hN hP hHr ha hb hc hxa hxb hxc hw) ?_
 rintro _ w51 ⟨rfl, hT52⟩
 have hT0 := hT0.t0 hT52
 have hL := hL.tch0 hT52
 have hP := hP.tch0 hT52
 have hHr := hH.tch0 hT0
 have hB4 := hB4.tch0 hT52
 have hB10 := hB10.tch0 hT52
 have hB19 := hB19.tch0 hT52
 have hB30 := hB30.tch0 hT52
 refine st (by rfl) (S_storeA (b := w1.heap.size) (j := 0) (cs := [.int .u64 (((kite nw (kg l a) (kg l b) (kg l c)).1 : Nat) : Int), .int .u64 (((kite nw (kg l a) (kg l b) (kg l c)).2 : Nat) : Int)]) (by kernel_rfl) (by kernel_rfl) (by kernel_rfl) (by simp [oneV]) hB10 (by simp) fun w53 hT54 hs55 hB10' => ?_)
 have hT0 := (hT0).then hT54 (fun c e => by have : c = w1.heap.size := e; omega)
 have hL := hL.tchS hT54 (fun c e q => by cases e; exact nF_hB10 q)
 have hP := hP.tch hT54 (hP.ne hB10 (by decide))
 have hHr := hH.tch0 hT0
 have hB4 := hB4.tch hT54 (hB4.ne hB10 (by decide))
 have hB19 := hB19.tch hT54 (fun e => by have : w7.heap.size = w1.heap.size := e; omega)
 have hB30 := hB30.tch hT54 (fun e => by have : w16.heap.size = w1.heap.size := e; omega)
 replace hB10 : Blk w53 w1.heap.size 100 [.int .u64 (((kite nw (kg l a) (kg l b) (kg l c)).1 : Nat) : Int), .int .u64 (((kite nw (kg l a) (kg l b) (kg l c)).2 : Nat) : Int)] := hB10'
 refine op_nil ?_
 refine W_ret ?_
 exact ⟨_, Res_cell (b := w1.heap.size) (cs := [.int .u64 (((kite nw (kg l a) (kg l b) (kg l c)).1 : Nat) : Int), .int .u64 (((kite nw (kg l a) (kg l b) (kg l c)).2 : Nat) : Int)]) (by rfl) (by kernel_rfl) (by kernel_rfl) hB10 (by kernel_rfl) (by kernel_rfl), ⟨by kernel_rfl, hT0⟩⟩

set_option maxRecDepth 100000 in
theorem of23_ok (F : Nat → Prop) (p : Nat) (most : Int) (N : List Nd) (W : Value → Value → Prop) (f k cp : Nat) (A : Option Addr) (l : List K) (nw wd up a lo : Nat) (xc xv : Int) (y z : K) (V : Nat) (cst : Option Nat) (w : World) (hL : TLow F w p most N W) (hN : N.length ≤ 65536) (hP : Blk w f 98 [.pointer (some ⟨p, 0, none⟩), .slice A k cp]) (hH : RdW w 2 k A (kcs l)) (ha : a < k) (hwa : widF N ((a : Nat) : Int) = ((wd : Nat) : Int)) (hxa : KI wd (kg l a)) (hw : wd ≤ 64) (hlo : lo + nw ≤ wd) : Ret Try.prog 50 [.pointer (some ⟨f, 0, none⟩), .agg #[.int .i64 23, .int .i64 ((nw : Nat) : Int), .int .i64 ((a : Nat) : Int), .int .i64 ((lo : Nat) : Int), .int .i64 xc, .int .u64 xv]] w fun v w' => v = .agg #[.int .u64 (((kone 23 nw wd up (kg l a) y z lo V cst).1 : Nat) : Int), .int .u64 (((kone 23 nw wd up (kg l a) y z lo V cst).2 : Nat) : Int)] ∧ Tch N0 w w' := by
 have hll : l.length = k := by have := hH.1; rw [kcs_length] at this; omega
 have ua1 := hxa.u1 (show wd ≤ 64 by omega)
 have ua2 := hxa.u2 (show wd ≤ 64 by omega)
 refine enter Try.func50 rfl rfl ?_
 refine zQ ?_
 have hlt_ := hL.lt
 have lt5 := hP.lt
 have l6 := hP.lt
 refine st (by rfl) (S_new (v := .pointer (some ⟨w.heap.size, 0, none⟩)) (ob := .cells #[.int .i64 23, .int .i64 ((nw : Nat) : Int), .int .i64 ((a : Nat) : Int), .int .i64 ((lo : Nat) : Int), .int .i64 xc, .int .u64 xv] 32) (by kernel_rfl) fun w1 hT2 hs3 hB4 => ?_)
 replace hB4 : Blk w1 (w.heap.size) 32 [.int .i64 23, .int .i64 ((nw : Nat) : Int), .int .i64 ((a : Nat) : Int), .int .i64 ((lo : Nat) : Int), .int .i64 xc, .int .u64 xv] := hB4
 have hT0 := hT2
 have hL := hL.tch0 hT2
 have hP := hP.tch0 hT2
 have hHr := hH.tch0 hT0
 have nF_hB4 : ¬ F (w.heap.size) := fun e => by have := hlt_ _ e; omega
 have hlt_ := hL.lt
 have lt11 := hP.lt
 have lt12 := hB4.lt
 have z13 := hT0.size
 have l14 := hP.lt
 have l15 := hB4.lt
 refine st (by rfl) (S_new (v := .pointer (some ⟨w1.heap.size, 0, none⟩)) (ob := .cells #[.int .u64 0, .int .u64 0] 100) (by kernel_rfl) fun w7 hT8 hs9 hB10 => ?_)
 replace hB10 : Blk w7 (w1.heap.size) 100 [.int .u64 0, .int .u64 0] := hB10
 have hT0 := hT0.t0 hT8
 have hL := hL.tch0 hT8
 have hP := hP.tch0 hT8
 have hHr := hH.tch0 hT0
 have hB4 := hB4.tch0 hT8
 have nF_hB10 : ¬ F (w1.heap.size) := fun e => by have := hlt_ _ e; omega
 refine op_nil ?_
 refine zQ ?_
 have hlt_ := hL.lt
 have lt20 := hP.lt
 have lt21 := hB4.lt
 have lt22 := hB10.lt
 have z23 := hT0.size
 have l24 := hP.lt
 have l25 := hB4.lt
 have l26 := hB10.lt
 refine st (by rfl) (S_new (v := .pointer (some ⟨w7.heap.size, 0, none⟩)) (ob := .cells #[.int .u64 0, .int .u64 0] 100) (by kernel_rfl) fun w16 hT17 hs18 hB19 => ?_)
 replace hB19 : Blk w16 (w7.heap.size) 100 [.int .u64 0, .int .u64 0] := hB19
 have hT0 := hT0.t0 hT17
 have hL := hL.tch0 hT17
 have hP := hP.tch0 hT17
 have hHr := hH.tch0 hT0
 have hB4 := hB4.tch0 hT17
 have hB10 := hB10.tch0 hT17
 have nF_hB19 : ¬ F (w7.heap.size) := fun e => by have := hlt_ _ e; omega
 have hlt_ := hL.lt
 have lt31 := hP.lt
 have lt32 := hB4.lt
 have lt33 := hB10.lt
 have lt34 := hB19.lt
 have z35 := hT0.size
 have l36 := hP.lt
 have l37 := hB4.lt
 have l38 := hB10.lt
 have l39 := hB19.lt
 refine st (by rfl) (S_new (v := .pointer (some ⟨w16.heap.size, 0, none⟩)) (ob := .cells #[.int .u64 0, .int .u64 0] 100) (by kernel_rfl) fun w27 hT28 hs29 hB30 => ?_)
 replace hB30 : Blk w27 (w16.heap.size) 100 [.int .u64 0, .int .u64 0] := hB30
 have hT0 := hT0.t0 hT28
 have hL := hL.tch0 hT28
 have hP := hP.tch0 hT28
 have hHr := hH.tch0 hT0
 have hB4 := hB4.tch0 hT28
 have hB10 := hB10.tch0 hT28
 have hB19 := hB19.tch0 hT28
 have nF_hB30 : ¬ F (w16.heap.size) := fun e => by have := hlt_ _ e; omega
 refine op_nil ?_
 refine W_seq ?_
 refine W_draw (fun w' => Blk w' (f) 98 [.pointer (some ⟨p, 0, none⟩), .slice A k cp] ∧ Blk w' (w.heap.size) 32 [.int .i64 23, .int .i64 ((nw : Nat) : Int), .int .i64 ((a : Nat) : Int), .int .i64 ((lo : Nat) : Int), .int .i64 xc, .int .u64 xv]) (by kernel_rfl) (by kernel_rfl) (by kernel_rfl) fun w40 hT41 hh42 => ?_
 have hT0 := hT0.t0 hT41
 have hL := hL.tch0 hT41
 have hP := hP.tch0 hT41
 have hHr := hH.tch0 hT0
 have hB4 := hB4.tch0 hT41
 have hB10 := hB10.tch0 hT41
 have hB19 := hB19.tch0 hT41
 have hB30 := hB30.tch0 hT41
 refine zK [0, 4, 1, 2] #[true, true, true, false, true, false, false, false] [(12, .pointer (some ⟨f, 0, none⟩)), (16, .pointer (some ⟨w.heap.size, 2, none⟩)), (13, .pointer (some ⟨f, 0, none⟩)), (14, .pointer (some ⟨f, 0, none⟩))] ⟨hP, hB4⟩ ?_
 refine zV 3 rfl (.pointer (some ⟨p, 0, none⟩)) (fun _ ⟨hP, hB4⟩ => R_load (v := .pointer (some ⟨p, 0, none⟩)) (by kernel_rfl) (by kernel_rfl) ((hP.cell 0).trans rfl)) ⟨hP, hB4⟩ ?_
 refine zV 5 rfl (.int .i64 ((a : Nat) : Int)) (fun _ ⟨hP, hB4⟩ => R_load (v := .int .i64 ((a : Nat) : Int)) (by kernel_rfl) (by kernel_rfl) ((hB4.cell 2).trans rfl)) ⟨hP, hB4⟩ ?_
 refine zD 6 rfl (S_call (args := [.pointer (some ⟨p, 0, none⟩), .int .i64 ((a : Nat) : Int)]) (by kernel_rfl) ((by have q := width_ok F p most N W ((a : Nat) : Int) _ hL hN; rw [hwa] at q; exact q)) ?_)
 rintro _ w43 ⟨rfl, hT44⟩
 have hT0 := hT0.t0 hT44
 have hL := hL.tch0 hT44
 have hP := hP.tch0 hT44
 have hHr := hH.tch0 hT0
 have hB4 := hB4.tch0 hT44
 have hB10 := hB10.tch0 hT44
 have hB19 := hB19.tch0 hT44
 have hB30 := hB30.tch0 hT44
 refine ⟨⟨hP, hB4⟩, ?_⟩
 refine zK [7] #[true, true, true, true, true, true, true, true] [(7, .int .i64 ((wd : Nat) : Int))] ⟨hP, hB4⟩ ?_
 refine d_done (by kernel_rfl) ?_
 refine W_seq ?_
 refine zQ ?_
 refine zS [(19, .pointer (some ⟨w.heap.size, 0, none⟩))] ?_
 refine zL (.int .i64 23) ((hB4.cell 0).trans rfl) ?_
 refine zS [(21, .bool true), (22, .bool true), (23, .pointer (some ⟨w.heap.size, 0, none⟩))] ?_
 refine zL (.int .i64 23) ((hB4.cell 0).trans rfl) ?_
 refine zS [(25, .bool true), (26, .bool true)] ?_
 refine zO true (fun _ => ?_) (fun h => nomatch h)
 refine W_draw (fun w' => RdW w' 2 k A (kcs l) ∧ Blk w' (f) 98 [.pointer (some ⟨p, 0, none⟩), .slice A k cp] ∧ Blk w' (w.heap.size) 32 [.int .i64 23, .int .i64 ((nw : Nat) : Int), .int .i64 ((a : Nat) : Int), .int .i64 ((lo : Nat) : Int), .int .i64 xc, .int .u64 xv]) (by kernel_rfl) (by kernel_rfl) (by kernel_rfl) fun w45 hT46 hh47 => ?_
 have hT0 := hT0.t0 hT46
 have hL := hL.tch0 hT46
 have hP := hP.tch0 hT46
 have hHr := hH.tch0 hT0
 have hB4 := hB4.tch0 hT46
 have hB10 := hB10.tch0 hT46
 have hB19 := hB19.tch0 hT46
 have hB30 := hB30.tch0 hT46
 refine zK [0, 4, 1, 2] #[true, true, true, false, true, false, false, false, false] [(27, .pointer (some ⟨f, 0, none⟩)), (31, .pointer (some ⟨w.heap.size, 2, none⟩)), (28, .pointer (some ⟨f, 0, none⟩)), (29, .pointer (some ⟨f, 1, none⟩))] ⟨hHr, hP, hB4⟩ ?_
 refine zV 3 rfl (.slice A k cp) (fun _ ⟨hHr, hP, hB4⟩ => R_load (v := .slice A k cp) (by kernel_rfl) (by kernel_rfl) ((hP.cell 1).trans rfl)) ⟨hHr, hP, hB4⟩ ?_
 refine zV 5 rfl (.int .i64 ((a : Nat) : Int)) (fun _ ⟨hHr, hP, hB4⟩ => R_load (v := .int .i64 ((a : Nat) : Int)) (by kernel_rfl) (by kernel_rfl) ((hB4.cell 2).trans rfl)) ⟨hHr, hP, hB4⟩ ?_
 refine zV 6 rfl (ptrAt A (a * 2)) (fun _ ⟨hHr, hP, hB4⟩ => R_indexRd (sz := 2) (len := k) (cap := cp) (k := .i64) (i := ((a : Nat) : Int)) (e := 100) a hHr (by kernel_rfl) (by kernel_rfl) (by kernel_rfl) (by kernel_rfl) rfl (by omega)) ⟨hHr, hP, hB4⟩ ?_
 refine zV 7 rfl (.agg #[.int .u64 (((kg l a).1 : Nat) : Int), .int .u64 (((kg l a).2 : Nat) : Int)]) (fun _ ⟨hHr, hP, hB4⟩ => R_loadRdA [.int .u64 (((kg l a).1 : Nat) : Int), .int .u64 (((kg l a).2 : Nat) : Int)] hHr (by omega) (by kernel_rfl) (by kernel_rfl) (by kernel_rfl) (kcs_part l (by omega))) ⟨hHr, hP, hB4⟩ ?_
 refine zD 8 rfl (S_storeA (b := w7.heap.size) (j := 0) (cs := [.int .u64 (((kg l a).1 : Nat) : Int), .int .u64 (((kg l a).2 : Nat) : Int)]) (by kernel_rfl) (by kernel_rfl) (by kernel_rfl) (by simp [oneV]) hB19 (by simp) fun w48 hT49 hs50 hB19' => ?_)
 have hT0 := (hT0).then hT49 (fun c e => by have : c = w7.heap.size := e; omega)
 have hL := hL.tchS hT49 (fun c e q => by cases e; exact nF_hB19 q)
 have hP := hP.tch hT49 (hP.ne hB19 (by decide))
 have hHr := hH.tch0 hT0
 have hB4 := hB4.tch hT49 (hB4.ne hB19 (by decide))
 have hB10 := hB10.tch hT49 (fun e => by have : w1.heap.size = w7.heap.size := e; omega)
 have hB30 := hB30.tch hT49 (fun e => by have : w16.heap.size = w7.heap.size := e; omega)
 replace hB19 : Blk w48 w7.heap.size 100 [.int .u64 (((kg l a).1 : Nat) : Int), .int .u64 (((kg l a).2 : Nat) : Int)] := hB19'
 refine ⟨⟨hHr, hP, hB4⟩, ?_⟩
 refine d_done (by kernel_rfl) ?_
 refine W_seq ?_
 refine zQ ?_
 refine zS [(35, .pointer (some ⟨w.heap.size, 0, none⟩))] ?_
 refine zL (.int .i64 23) ((hB4.cell 0).trans rfl) ?_
 refine zS [(37, .bool false), (38, .bool false), (39, .pointer (some ⟨w.heap.size, 0, none⟩))] ?_
 refine zL (.int .i64 23) ((hB4.cell 0).trans rfl) ?_
 refine zS [(41, .bool false), (42, .bool false)] ?_
 refine zO false (fun h => nomatch h) (fun _ => ?_)
 refine W_skip ?_
 refine W_seq ?_
 refine zQ ?_
 refine zS [(51, .pointer (some ⟨w.heap.size, 0, none⟩))] ?_
 refine zL (.int .i64 23) ((hB4.cell 0).trans rfl) ?_
 refine op_nil ?_
 refine W_block ?_
 refine zQ ?_
 refine zS [(54, .bool false), (53, .bool false)] ?_
 refine zO false (fun h => nomatch h) (fun _ => ?_)
 refine zQ ?_
 refine zS [(62, .bool false), (61, .bool false)] ?_
 refine zO false (fun h => nomatch h) (fun _ => ?_)
 refine W_seq ?_
 refine zQ ?_
 refine zS [(69, .bool false), (68, .bool false)] ?_
 refine zO false (fun h => nomatch h) (fun _ => ?_)
 refine zQ ?_
 refine zS [(70, .bool false), (68, .bool false)] ?_
 refine zO false (fun h => nomatch h) (fun _ => ?_)
 refine zR ?_
 refine zS [(71, .bool false), (68, .bool false)] ?_
 refine zO false (fun h => nomatch h) (fun _ => ?_)
 refine zQ ?_
 refine zS [(78, .bool false), (77, .bool false)] ?_
 refine zO false (fun h => nomatch h) (fun _ => ?_)
 refine zQ ?_
 refine zS [(84, .bool false), (83, .bool false)] ?_
 refine zO false (fun h => nomatch h) (fun _ => ?_)
 refine W_seq ?_
 refine zQ ?_
 refine zS [(90, .bool false), (89, .bool false)] ?_
 refine zO false (fun h => nomatch h) (fun _ => ?_)
 refine zR ?_
 refine zS [(91, .bool false), (89, .bool false)] ?_
 refine zO false (fun h => nomatch h) (fun _ => ?_)
 refine zQ ?_
 refine zS [(113, .bool false), (112, .bool false)] ?_
 refine zO false (fun h => nomatch h) (fun _ => ?_)
 refine zQ ?_
 refine zS [(118, .bool true), (117, .bool true)] ?_
 refine zO true (fun _ => ?_) (fun h => nomatch h)
 refine zQ ?_
 refine zS [(119, .pointer (some ⟨w.heap.size, 1, none⟩))] ?_
 refine zL (.int .i64 ((nw : Nat) : Int)) ((hB4.cell 1).trans rfl) ?_
 refine zC (mask_okN nw _ (by omega)) ?_
 rintro _ w51 ⟨rfl, hT52⟩
 have hT0 := hT0.t0 hT52
 have hL := hL.tch0 hT52
 have hP := hP.tch0 hT52
 have hHr := hH.tch0 hT0
 have hB4 := hB4.tch0 hT52
 have hB10 := hB10.tch0 hT52
 have hB19 := hB19.tch0 hT52
 have hB30 := hB30.tch0 hT52
 have hu53 := pwm_lt (x := nw) (by omega)
 refine zS [(10, .int .u64 ((pw nw - 1 : Nat) : Int))] ?_
 refine op_nil ?_
 refine W_seq ?_
 refine W_draw (fun w' => Blk w' (w.heap.size) 32 [.int .i64 23, .int .i64 ((nw : Nat) : Int), .int .i64 ((a : Nat) : Int), .int .i64 ((lo : Nat) : Int), .int .i64 xc, .int .u64 xv] ∧ Blk w' (w7.heap.size) 100 [.int .u64 (((kg l a).1 : Nat) : Int), .int .u64 (((kg l a).2 : Nat) : Int)]) (by kernel_rfl) (by kernel_rfl) (by kernel_rfl) fun w54 hT55 hh56 => ?_
 have hT0 := hT0.t0 hT55
 have hL := hL.tch0 hT55
 have hP := hP.tch0 hT55
 have hHr := hH.tch0 hT0
 have hB4 := hB4.tch0 hT55
 have hB10 := hB10.tch0 hT55
 have hB19 := hB19.tch0 hT55
 have hB30 := hB30.tch0 hT55
 refine zK [0, 2, 5, 7, 9, 12] #[true, false, true, false, false, true, false, true, false, true, false, false, true, false, false, false] [(122, .pointer (some ⟨w7.heap.size, 0, none⟩)), (124, .pointer (some ⟨w.heap.size, 3, none⟩)), (127, .int .u64 ((pw nw - 1 : Nat) : Int)), (129, .pointer (some ⟨w7.heap.size, 1, none⟩)), (131, .pointer (some ⟨w.heap.size, 3, none⟩)), (134, .int .u64 ((pw nw - 1 : Nat) : Int))] ⟨hB4, hB19⟩ ?_
 refine zV 1 rfl (.int .u64 (((kg l a).1 : Nat) : Int)) (fun _ ⟨hB4, hB19⟩ => R_load (v := .int .u64 (((kg l a).1 : Nat) : Int)) (by kernel_rfl) (by kernel_rfl) ((hB19.cell 0).trans rfl)) ⟨hB4, hB19⟩ ?_
 refine zV 3 rfl (.int .i64 ((lo : Nat) : Int)) (fun _ ⟨hB4, hB19⟩ => R_load (v := .int .i64 ((lo : Nat) : Int)) (by kernel_rfl) (by kernel_rfl) ((hB4.cell 3).trans rfl)) ⟨hB4, hB19⟩ ?_
 refine zV 4 rfl (.int .u64 ((((kg l a).1) / pw lo : Nat) : Int)) (fun _ ⟨hB4, hB19⟩ => R_shrP (k2 := .i64) ((kg l a).1) lo (by kernel_rfl) (by kernel_rfl) (by omega)) ⟨hB4, hB19⟩ ?_
 have hu57 : ((kg l a).1) / pw lo < 18446744073709551616 := div_lt64 ua1
 refine zK [6] #[true, true, true, true, true, true, true, true, false, true, false, false, true, false, false, false] [(128, .int .u64 (IntKind.u64.wrap (BitVec.ofInt 64 ((((kg l a).1) / pw lo : Nat) : Int) &&& BitVec.ofInt 64 ((pw nw - 1 : Nat) : Int)).toNat))] ⟨hB4, hB19⟩ ?_
 rw [show IntKind.u64.wrap (BitVec.ofInt 64 ((((kg l a).1) / pw lo : Nat) : Int) &&& BitVec.ofInt 64 ((pw nw - 1 : Nat) : Int)).toNat = (((((kg l a).1) / pw lo) &&& (pw nw - 1) : Nat) : Int) from and_u (((kg l a).1) / pw lo) (pw nw - 1) hu57 hu53]
 have hu58 : (((kg l a).1) / pw lo) &&& (pw nw - 1) < 18446744073709551616 := and_lt hu57
 refine zV 8 rfl (.int .u64 (((kg l a).2 : Nat) : Int)) (fun _ ⟨hB4, hB19⟩ => R_load (v := .int .u64 (((kg l a).2 : Nat) : Int)) (by kernel_rfl) (by kernel_rfl) ((hB19.cell 1).trans rfl)) ⟨hB4, hB19⟩ ?_
 refine zV 10 rfl (.int .i64 ((lo : Nat) : Int)) (fun _ ⟨hB4, hB19⟩ => R_load (v := .int .i64 ((lo : Nat) : Int)) (by kernel_rfl) (by kernel_rfl) ((hB4.cell 3).trans rfl)) ⟨hB4, hB19⟩ ?_
 refine zV 11 rfl (.int .u64 ((((kg l a).2) / pw lo : Nat) : Int)) (fun _ ⟨hB4, hB19⟩ => R_shrP (k2 := .i64) ((kg l a).2) lo (by kernel_rfl) (by kernel_rfl) (by omega)) ⟨hB4, hB19⟩ ?_
 have hu59 : ((kg l a).2) / pw lo < 18446744073709551616 := div_lt64 ua2
 refine zK [13] #[true, true, true, true, true, true, true, true, true, true, true, true, true, true, false, false] [(135, .int .u64 (IntKind.u64.wrap (BitVec.ofInt 64 ((((kg l a).2) / pw lo : Nat) : Int) &&& BitVec.ofInt 64 ((pw nw - 1 : Nat) : Int)).toNat))] ⟨hB4, hB19⟩ ?_
 rw [show IntKind.u64.wrap (BitVec.ofInt 64 ((((kg l a).2) / pw lo : Nat) : Int) &&& BitVec.ofInt 64 ((pw nw - 1 : Nat) : Int)).toNat = (((((kg l a).2) / pw lo) &&& (pw nw - 1) : Nat) : Int) from and_u (((kg l a).2) / pw lo) (pw nw - 1) hu59 hu53]
 have hu60 : (((kg l a).2) / pw lo) &&& (pw nw - 1) < 18446744073709551616 := and_lt hu59
 refine zK [14] #[true, true, true, true, true, true, true, true, true, true, true, true, true, true, true, false] [(136, .agg #[.int .u64 (((((kg l a).1) / pw lo) &&& (pw nw - 1) : Nat) : Int), .int .u64 (((((kg l a).2) / pw lo) &&& (pw nw - 1) : Nat) : Int)])] ⟨hB4, hB19⟩ ?_
 refine zD 15 rfl (S_storeA (b := w1.heap.size) (j := 0) (cs := [.int .u64 (((((kg l a).1) / pw lo) &&& (pw nw - 1) : Nat) : Int), .int .u64 (((((kg l a).2) / pw lo) &&& (pw nw - 1) : Nat) : Int)]) (by kernel_rfl) (by kernel_rfl) (by kernel_rfl) (by simp [oneV]) hB10 (by simp) fun w61 hT62 hs63 hB10' => ?_)
 have hT0 := (hT0).then hT62 (fun c e => by have : c = w1.heap.size := e; omega)
 have hL := hL.tchS hT62 (fun c e q => by cases e; exact nF_hB10 q)
 have hP := hP.tch hT62 (hP.ne hB10 (by decide))
 have hHr := hH.tch0 hT0
 have hB4 := hB4.tch hT62 (hB4.ne hB10 (by decide))
 have hB19 := hB19.tch hT62 (fun e => by have : w7.heap.size = w1.heap.size := e; omega)
 have hB30 := hB30.tch hT62 (fun e => by have : w16.heap.size = w1.heap.size := e; omega)
 replace hB10 : Blk w61 w1.heap.size 100 [.int .u64 (((((kg l a).1) / pw lo) &&& (pw nw - 1) : Nat) : Int), .int .u64 (((((kg l a).2) / pw lo) &&& (pw nw - 1) : Nat) : Int)] := hB10'
 refine ⟨⟨hB4, hB19⟩, ?_⟩
 refine d_done (by kernel_rfl) ?_
 refine W_ret ?_
 exact ⟨_, Res_cell (b := w1.heap.size) (cs := [.int .u64 (((((kg l a).1) / pw lo) &&& (pw nw - 1) : Nat) : Int), .int .u64 (((((kg l a).2) / pw lo) &&& (pw nw - 1) : Nat) : Int)]) (by rfl) (by kernel_rfl) (by kernel_rfl) hB10 (by kernel_rfl) (by kernel_rfl), ⟨(congrArg kV (kext_eq hxa hlo)).trans (by kernel_rfl), hT0⟩⟩

set_option maxRecDepth 100000 in
theorem of24_ok (F : Nat → Prop) (p : Nat) (most : Int) (N : List Nd) (W : Value → Value → Prop) (f k cp : Nat) (A : Option Addr) (l : List K) (nw wd up a b : Nat) (xc xv : Int) (z : K) (lo V : Nat) (cst : Option Nat) (w : World) (hL : TLow F w p most N W) (hN : N.length ≤ 65536) (hP : Blk w f 98 [.pointer (some ⟨p, 0, none⟩), .slice A k cp]) (hH : RdW w 2 k A (kcs l)) (ha : a < k) (hb : b < k) (hwa : widF N ((a : Nat) : Int) = ((wd : Nat) : Int)) (hwb : widF N ((b : Nat) : Int) = ((up : Nat) : Int)) (hxa : KI wd (kg l a)) (hxb : KI up (kg l b)) (hw : wd + up ≤ 64) : Ret Try.prog 50 [.pointer (some ⟨f, 0, none⟩), .agg #[.int .i64 24, .int .i64 ((nw : Nat) : Int), .int .i64 ((a : Nat) : Int), .int .i64 ((b : Nat) : Int), .int .i64 xc, .int .u64 xv]] w fun v w' => v = .agg #[.int .u64 (((kone 24 nw wd up (kg l a) (kg l b) z lo V cst).1 : Nat) : Int), .int .u64 (((kone 24 nw wd up (kg l a) (kg l b) z lo V cst).2 : Nat) : Int)] ∧ Tch N0 w w' := by
 have hll : l.length = k := by have := hH.1; rw [kcs_length] at this; omega
 have ua1 := hxa.u1 (show wd ≤ 64 by omega)
 have ua2 := hxa.u2 (show wd ≤ 64 by omega)
 have ub1 := hxb.u1 (show up ≤ 64 by omega)
 have ub2 := hxb.u2 (show up ≤ 64 by omega)
 refine enter Try.func50 rfl rfl ?_
 refine zQ ?_
 have hlt_ := hL.lt
 have lt5 := hP.lt
 have l6 := hP.lt
 refine st (by rfl) (S_new (v := .pointer (some ⟨w.heap.size, 0, none⟩)) (ob := .cells #[.int .i64 24, .int .i64 ((nw : Nat) : Int), .int .i64 ((a : Nat) : Int), .int .i64 ((b : Nat) : Int), .int .i64 xc, .int .u64 xv] 32) (by kernel_rfl) fun w1 hT2 hs3 hB4 => ?_)
 replace hB4 : Blk w1 (w.heap.size) 32 [.int .i64 24, .int .i64 ((nw : Nat) : Int), .int .i64 ((a : Nat) : Int), .int .i64 ((b : Nat) : Int), .int .i64 xc, .int .u64 xv] := hB4
 have hT0 := hT2
 have hL := hL.tch0 hT2
 have hP := hP.tch0 hT2
 have hHr := hH.tch0 hT0
 have nF_hB4 : ¬ F (w.heap.size) := fun e => by have := hlt_ _ e; omega
 have hlt_ := hL.lt
 have lt11 := hP.lt
 have lt12 := hB4.lt
 have z13 := hT0.size
 have l14 := hP.lt
 have l15 := hB4.lt
 refine st (by rfl) (S_new (v := .pointer (some ⟨w1.heap.size, 0, none⟩)) (ob := .cells #[.int .u64 0, .int .u64 0] 100) (by kernel_rfl) fun w7 hT8 hs9 hB10 => ?_)
 replace hB10 : Blk w7 (w1.heap.size) 100 [.int .u64 0, .int .u64 0] := hB10
 have hT0 := hT0.t0 hT8
 have hL := hL.tch0 hT8
 have hP := hP.tch0 hT8
 have hHr := hH.tch0 hT0
 have hB4 := hB4.tch0 hT8
 have nF_hB10 : ¬ F (w1.heap.size) := fun e => by have := hlt_ _ e; omega
 refine op_nil ?_
 refine zQ ?_
 have hlt_ := hL.lt
 have lt20 := hP.lt
 have lt21 := hB4.lt
 have lt22 := hB10.lt
 have z23 := hT0.size
 have l24 := hP.lt
 have l25 := hB4.lt
 have l26 := hB10.lt
 refine st (by rfl) (S_new (v := .pointer (some ⟨w7.heap.size, 0, none⟩)) (ob := .cells #[.int .u64 0, .int .u64 0] 100) (by kernel_rfl) fun w16 hT17 hs18 hB19 => ?_)
 replace hB19 : Blk w16 (w7.heap.size) 100 [.int .u64 0, .int .u64 0] := hB19
 have hT0 := hT0.t0 hT17
 have hL := hL.tch0 hT17
 have hP := hP.tch0 hT17
 have hHr := hH.tch0 hT0
 have hB4 := hB4.tch0 hT17
 have hB10 := hB10.tch0 hT17
 have nF_hB19 : ¬ F (w7.heap.size) := fun e => by have := hlt_ _ e; omega
 have hlt_ := hL.lt
 have lt31 := hP.lt
 have lt32 := hB4.lt
 have lt33 := hB10.lt
 have lt34 := hB19.lt
 have z35 := hT0.size
 have l36 := hP.lt
 have l37 := hB4.lt
 have l38 := hB10.lt
 have l39 := hB19.lt
 refine st (by rfl) (S_new (v := .pointer (some ⟨w16.heap.size, 0, none⟩)) (ob := .cells #[.int .u64 0, .int .u64 0] 100) (by kernel_rfl) fun w27 hT28 hs29 hB30 => ?_)
 replace hB30 : Blk w27 (w16.heap.size) 100 [.int .u64 0, .int .u64 0] := hB30
 have hT0 := hT0.t0 hT28
 have hL := hL.tch0 hT28
 have hP := hP.tch0 hT28
 have hHr := hH.tch0 hT0
 have hB4 := hB4.tch0 hT28
 have hB10 := hB10.tch0 hT28
 have hB19 := hB19.tch0 hT28
 have nF_hB30 : ¬ F (w16.heap.size) := fun e => by have := hlt_ _ e; omega
 refine op_nil ?_
 refine W_seq ?_
 refine W_draw (fun w' => Blk w' (f) 98 [.pointer (some ⟨p, 0, none⟩), .slice A k cp] ∧ Blk w' (w.heap.size) 32 [.int .i64 24, .int .i64 ((nw : Nat) : Int), .int .i64 ((a : Nat) : Int), .int .i64 ((b : Nat) : Int), .int .i64 xc, .int .u64 xv]) (by kernel_rfl) (by kernel_rfl) (by kernel_rfl) fun w40 hT41 hh42 => ?_
 have hT0 := hT0.t0 hT41
 have hL := hL.tch0 hT41
 have hP := hP.tch0 hT41
 have hHr := hH.tch0 hT0
 have hB4 := hB4.tch0 hT41
 have hB10 := hB10.tch0 hT41
 have hB19 := hB19.tch0 hT41
 have hB30 := hB30.tch0 hT41
 refine zK [0, 4, 1, 2] #[true, true, true, false, true, false, false, false] [(12, .pointer (some ⟨f, 0, none⟩)), (16, .pointer (some ⟨w.heap.size, 2, none⟩)), (13, .pointer (some ⟨f, 0, none⟩)), (14, .pointer (some ⟨f, 0, none⟩))] ⟨hP, hB4⟩ ?_
 refine zV 3 rfl (.pointer (some ⟨p, 0, none⟩)) (fun _ ⟨hP, hB4⟩ => R_load (v := .pointer (some ⟨p, 0, none⟩)) (by kernel_rfl) (by kernel_rfl) ((hP.cell 0).trans rfl)) ⟨hP, hB4⟩ ?_
 refine zV 5 rfl (.int .i64 ((a : Nat) : Int)) (fun _ ⟨hP, hB4⟩ => R_load (v := .int .i64 ((a : Nat) : Int)) (by kernel_rfl) (by kernel_rfl) ((hB4.cell 2).trans rfl)) ⟨hP, hB4⟩ ?_
 refine zD 6 rfl (S_call (args := [.pointer (some ⟨p, 0, none⟩), .int .i64 ((a : Nat) : Int)]) (by kernel_rfl) ((by have q := width_ok F p most N W ((a : Nat) : Int) _ hL hN; rw [hwa] at q; exact q)) ?_)
 rintro _ w43 ⟨rfl, hT44⟩
 have hT0 := hT0.t0 hT44
 have hL := hL.tch0 hT44
 have hP := hP.tch0 hT44
 have hHr := hH.tch0 hT0
 have hB4 := hB4.tch0 hT44
 have hB10 := hB10.tch0 hT44
 have hB19 := hB19.tch0 hT44
 have hB30 := hB30.tch0 hT44
 refine ⟨⟨hP, hB4⟩, ?_⟩
 refine zK [7] #[true, true, true, true, true, true, true, true] [(7, .int .i64 ((wd : Nat) : Int))] ⟨hP, hB4⟩ ?_
 refine d_done (by kernel_rfl) ?_
 refine W_seq ?_
 refine zQ ?_
 refine zS [(19, .pointer (some ⟨w.heap.size, 0, none⟩))] ?_
 refine zL (.int .i64 24) ((hB4.cell 0).trans rfl) ?_
 refine zS [(21, .bool true), (22, .bool true), (23, .pointer (some ⟨w.heap.size, 0, none⟩))] ?_
 refine zL (.int .i64 24) ((hB4.cell 0).trans rfl) ?_
 refine zS [(25, .bool true), (26, .bool true)] ?_
 refine zO true (fun _ => ?_) (fun h => nomatch h)
 refine W_draw (fun w' => RdW w' 2 k A (kcs l) ∧ Blk w' (f) 98 [.pointer (some ⟨p, 0, none⟩), .slice A k cp] ∧ Blk w' (w.heap.size) 32 [.int .i64 24, .int .i64 ((nw : Nat) : Int), .int .i64 ((a : Nat) : Int), .int .i64 ((b : Nat) : Int), .int .i64 xc, .int .u64 xv]) (by kernel_rfl) (by kernel_rfl) (by kernel_rfl) fun w45 hT46 hh47 => ?_
 have hT0 := hT0.t0 hT46
 have hL := hL.tch0 hT46
 have hP := hP.tch0 hT46
 have hHr := hH.tch0 hT0
 have hB4 := hB4.tch0 hT46
 have hB10 := hB10.tch0 hT46
 have hB19 := hB19.tch0 hT46
 have hB30 := hB30.tch0 hT46
 refine zK [0, 4, 1, 2] #[true, true, true, false, true, false, false, false, false] [(27, .pointer (some ⟨f, 0, none⟩)), (31, .pointer (some ⟨w.heap.size, 2, none⟩)), (28, .pointer (some ⟨f, 0, none⟩)), (29, .pointer (some ⟨f, 1, none⟩))] ⟨hHr, hP, hB4⟩ ?_
 refine zV 3 rfl (.slice A k cp) (fun _ ⟨hHr, hP, hB4⟩ => R_load (v := .slice A k cp) (by kernel_rfl) (by kernel_rfl) ((hP.cell 1).trans rfl)) ⟨hHr, hP, hB4⟩ ?_
 refine zV 5 rfl (.int .i64 ((a : Nat) : Int)) (fun _ ⟨hHr, hP, hB4⟩ => R_load (v := .int .i64 ((a : Nat) : Int)) (by kernel_rfl) (by kernel_rfl) ((hB4.cell 2).trans rfl)) ⟨hHr, hP, hB4⟩ ?_
 refine zV 6 rfl (ptrAt A (a * 2)) (fun _ ⟨hHr, hP, hB4⟩ => R_indexRd (sz := 2) (len := k) (cap := cp) (k := .i64) (i := ((a : Nat) : Int)) (e := 100) a hHr (by kernel_rfl) (by kernel_rfl) (by kernel_rfl) (by kernel_rfl) rfl (by omega)) ⟨hHr, hP, hB4⟩ ?_
 refine zV 7 rfl (.agg #[.int .u64 (((kg l a).1 : Nat) : Int), .int .u64 (((kg l a).2 : Nat) : Int)]) (fun _ ⟨hHr, hP, hB4⟩ => R_loadRdA [.int .u64 (((kg l a).1 : Nat) : Int), .int .u64 (((kg l a).2 : Nat) : Int)] hHr (by omega) (by kernel_rfl) (by kernel_rfl) (by kernel_rfl) (kcs_part l (by omega))) ⟨hHr, hP, hB4⟩ ?_
 refine zD 8 rfl (S_storeA (b := w7.heap.size) (j := 0) (cs := [.int .u64 (((kg l a).1 : Nat) : Int), .int .u64 (((kg l a).2 : Nat) : Int)]) (by kernel_rfl) (by kernel_rfl) (by kernel_rfl) (by simp [oneV]) hB19 (by simp) fun w48 hT49 hs50 hB19' => ?_)
 have hT0 := (hT0).then hT49 (fun c e => by have : c = w7.heap.size := e; omega)
 have hL := hL.tchS hT49 (fun c e q => by cases e; exact nF_hB19 q)
 have hP := hP.tch hT49 (hP.ne hB19 (by decide))
 have hHr := hH.tch0 hT0
 have hB4 := hB4.tch hT49 (hB4.ne hB19 (by decide))
 have hB10 := hB10.tch hT49 (fun e => by have : w1.heap.size = w7.heap.size := e; omega)
 have hB30 := hB30.tch hT49 (fun e => by have : w16.heap.size = w7.heap.size := e; omega)
 replace hB19 : Blk w48 w7.heap.size 100 [.int .u64 (((kg l a).1 : Nat) : Int), .int .u64 (((kg l a).2 : Nat) : Int)] := hB19'
 refine ⟨⟨hHr, hP, hB4⟩, ?_⟩
 refine d_done (by kernel_rfl) ?_
 refine W_seq ?_
 refine zQ ?_
 refine zS [(35, .pointer (some ⟨w.heap.size, 0, none⟩))] ?_
 refine zL (.int .i64 24) ((hB4.cell 0).trans rfl) ?_
 refine zS [(37, .bool false), (38, .bool false), (39, .pointer (some ⟨w.heap.size, 0, none⟩))] ?_
 refine zL (.int .i64 24) ((hB4.cell 0).trans rfl) ?_
 refine zS [(41, .bool true), (42, .bool true)] ?_
 refine zO true (fun _ => ?_) (fun h => nomatch h)
 refine W_draw (fun w' => RdW w' 2 k A (kcs l) ∧ Blk w' (f) 98 [.pointer (some ⟨p, 0, none⟩), .slice A k cp] ∧ Blk w' (w.heap.size) 32 [.int .i64 24, .int .i64 ((nw : Nat) : Int), .int .i64 ((a : Nat) : Int), .int .i64 ((b : Nat) : Int), .int .i64 xc, .int .u64 xv]) (by kernel_rfl) (by kernel_rfl) (by kernel_rfl) fun w51 hT52 hh53 => ?_
 have hT0 := hT0.t0 hT52
 have hL := hL.tch0 hT52
 have hP := hP.tch0 hT52
 have hHr := hH.tch0 hT0
 have hB4 := hB4.tch0 hT52
 have hB10 := hB10.tch0 hT52
 have hB19 := hB19.tch0 hT52
 have hB30 := hB30.tch0 hT52
 refine zK [0, 4, 1, 2] #[true, true, true, false, true, false, false, false, false] [(43, .pointer (some ⟨f, 0, none⟩)), (47, .pointer (some ⟨w.heap.size, 3, none⟩)), (44, .pointer (some ⟨f, 0, none⟩)), (45, .pointer (some ⟨f, 1, none⟩))] ⟨hHr, hP, hB4⟩ ?_
 refine zV 3 rfl (.slice A k cp) (fun _ ⟨hHr, hP, hB4⟩ => R_load (v := .slice A k cp) (by kernel_rfl) (by kernel_rfl) ((hP.cell 1).trans rfl)) ⟨hHr, hP, hB4⟩ ?_
 refine zV 5 rfl (.int .i64 ((b : Nat) : Int)) (fun _ ⟨hHr, hP, hB4⟩ => R_load (v := .int .i64 ((b : Nat) : Int)) (by kernel_rfl) (by kernel_rfl) ((hB4.cell 3).trans rfl)) ⟨hHr, hP, hB4⟩ ?_
 refine zV 6 rfl (ptrAt A (b * 2)) (fun _ ⟨hHr, hP, hB4⟩ => R_indexRd (sz := 2) (len := k) (cap := cp) (k := .i64) (i := ((b : Nat) : Int)) (e := 100) b hHr (by kernel_rfl) (by kernel_rfl) (by kernel_rfl) (by kernel_rfl) rfl (by omega)) ⟨hHr, hP, hB4⟩ ?_
 refine zV 7 rfl (.agg #[.int .u64 (((kg l b).1 : Nat) : Int), .int .u64 (((kg l b).2 : Nat) : Int)]) (fun _ ⟨hHr, hP, hB4⟩ => R_loadRdA [.int .u64 (((kg l b).1 : Nat) : Int), .int .u64 (((kg l b).2 : Nat) : Int)] hHr (by omega) (by kernel_rfl) (by kernel_rfl) (by kernel_rfl) (kcs_part l (by omega))) ⟨hHr, hP, hB4⟩ ?_
 refine zD 8 rfl (S_storeA (b := w16.heap.size) (j := 0) (cs := [.int .u64 (((kg l b).1 : Nat) : Int), .int .u64 (((kg l b).2 : Nat) : Int)]) (by kernel_rfl) (by kernel_rfl) (by kernel_rfl) (by simp [oneV]) hB30 (by simp) fun w54 hT55 hs56 hB30' => ?_)
 have hT0 := (hT0).then hT55 (fun c e => by have : c = w16.heap.size := e; omega)
 have hL := hL.tchS hT55 (fun c e q => by cases e; exact nF_hB30 q)
 have hP := hP.tch hT55 (hP.ne hB30 (by decide))
 have hHr := hH.tch0 hT0
 have hB4 := hB4.tch hT55 (hB4.ne hB30 (by decide))
 have hB10 := hB10.tch hT55 (fun e => by have : w1.heap.size = w16.heap.size := e; omega)
 have hB19 := hB19.tch hT55 (fun e => by have : w7.heap.size = w16.heap.size := e; omega)
 replace hB30 : Blk w54 w16.heap.size 100 [.int .u64 (((kg l b).1 : Nat) : Int), .int .u64 (((kg l b).2 : Nat) : Int)] := hB30'
 refine ⟨⟨hHr, hP, hB4⟩, ?_⟩
 refine d_done (by kernel_rfl) ?_
 refine W_seq ?_
 refine zQ ?_
 refine zS [(51, .pointer (some ⟨w.heap.size, 0, none⟩))] ?_
 refine zL (.int .i64 24) ((hB4.cell 0).trans rfl) ?_
 refine op_nil ?_
 refine W_block ?_
 refine zQ ?_
 refine zS [(54, .bool false), (53, .bool false)] ?_
 refine zO false (fun h => nomatch h) (fun _ => ?_)
 refine zQ ?_
 refine zS [(62, .bool false), (61, .bool false)] ?_
 refine zO false (fun h => nomatch h) (fun _ => ?_)
 refine W_seq ?_
 refine zQ ?_
 refine zS [(69, .bool false), (68, .bool false)] ?_
 refine zO false (fun h => nomatch h) (fun _ => ?_)
 refine zQ ?_
 refine zS [(70, .bool false), (68, .bool false)] ?_
 refine zO false (fun h => nomatch h) (fun _ => ?_)
 refine zR ?_
 refine zS [(71, .bool false), (68, .bool false)] ?_
 refine zO false (fun h => nomatch h) (fun _ => ?_)
 refine zQ ?_
 refine zS [(78, .bool false), (77, .bool false)] ?_
 refine zO false (fun h => nomatch h) (fun _ => ?_)
 refine zQ ?_
 refine zS [(84, .bool false), (83, .bool false)] ?_
 refine zO false (fun h => nomatch h) (fun _ => ?_)
 refine W_seq ?_
 refine zQ ?_
 refine zS [(90, .bool false), (89, .bool false)] ?_
 refine zO false (fun h => nomatch h) (fun _ => ?_)
 refine zR ?_
 refine zS [(91, .bool false), (89, .bool false)] ?_
 refine zO false (fun h => nomatch h) (fun _ => ?_)
 refine zQ ?_
 refine zS [(113, .bool false), (112, .bool false)] ?_
 refine zO false (fun h => nomatch h) (fun _ => ?_)
 refine zQ ?_
 refine zS [(118, .bool false), (117, .bool false)] ?_
 refine zO false (fun h => nomatch h) (fun _ => ?_)
 refine zQ ?_
 refine zS [(138, .bool true), (137, .bool true)] ?_
 refine zO true (fun _ => ?_) (fun h => nomatch h)
 refine W_seq ?_
 refine W_draw (fun w' => Blk w' (f) 98 [.pointer (some ⟨p, 0, none⟩), .slice A k cp] ∧ Blk w' (w.heap.size) 32 [.int .i64 24, .int .i64 ((nw : Nat) : Int), .int .i64 ((a : Nat) : Int), .int .i64 ((b : Nat) : Int), .int .i64 xc, .int .u64 xv]) (by kernel_rfl) (by kernel_rfl) (by kernel_rfl) fun w57 hT58 hh59 => ?_
 have hT0 := hT0.t0 hT58
 have hL := hL.tch0 hT58
 have hP := hP.tch0 hT58
 have hHr := hH.tch0 hT0
 have hB4 := hB4.tch0 hT58
 have hB10 := hB10.tch0 hT58
 have hB19 := hB19.tch0 hT58
 have hB30 := hB30.tch0 hT58
 refine zK [0, 4, 1, 2] #[true, true, true, false, true, false, false, false] [(139, .pointer (some ⟨f, 0, none⟩)), (143, .pointer (some ⟨w.heap.size, 3, none⟩)), (140, .pointer (some ⟨f, 0, none⟩)), (141, .pointer (some ⟨f, 0, none⟩))] ⟨hP, hB4⟩ ?_
 refine zV 3 rfl (.pointer (some ⟨p, 0, none⟩)) (fun _ ⟨hP, hB4⟩ => R_load (v := .pointer (some ⟨p, 0, none⟩)) (by kernel_rfl) (by kernel_rfl) ((hP.cell 0).trans rfl)) ⟨hP, hB4⟩ ?_
 refine zV 5 rfl (.int .i64 ((b : Nat) : Int)) (fun _ ⟨hP, hB4⟩ => R_load (v := .int .i64 ((b : Nat) : Int)) (by kernel_rfl) (by kernel_rfl) ((hB4.cell 3).trans rfl)) ⟨hP, hB4⟩ ?_
 refine zD 6 rfl (S_call (args := [.pointer (some ⟨p, 0, none⟩), .int .i64 ((b : Nat) : Int)]) (by kernel_rfl) ((by have q := width_ok F p most N W ((b : Nat) : Int) _ hL hN; rw [hwb] at q; exact q)) ?_)
 rintro _ w60 ⟨rfl, hT61⟩
 have hT0 := hT0.t0 hT61
 have hL := hL.tch0 hT61
 have hP := hP.tch0 hT61
 have hHr := hH.tch0 hT0
 have hB4 := hB4.tch0 hT61
 have hB10 := hB10.tch0 hT61
 have hB19 := hB19.tch0 hT61
 have hB30 := hB30.tch0 hT61
 refine ⟨⟨hP, hB4⟩, ?_⟩
 refine zK [7] #[true, true, true, true, true, true, true, true] [(11, .int .i64 ((up : Nat) : Int))] ⟨hP, hB4⟩ ?_
 refine d_done (by kernel_rfl) ?_
 refine W_seq ?_
 refine W_draw (fun w' => Blk w' (w7.heap.size) 100 [.int .u64 (((kg l a).1 : Nat) : Int), .int .u64 (((kg l a).2 : Nat) : Int)] ∧ Blk w' (w16.heap.size) 100 [.int .u64 (((kg l b).1 : Nat) : Int), .int .u64 (((kg l b).2 : Nat) : Int)]) (by kernel_rfl) (by kernel_rfl) (by kernel_rfl) fun w62 hT63 hh64 => ?_
 have hT0 := hT0.t0 hT63
 have hL := hL.tch0 hT63
 have hP := hP.tch0 hT63
 have hHr := hH.tch0 hT0
 have hB4 := hB4.tch0 hT63
 have hB10 := hB10.tch0 hT63
 have hB19 := hB19.tch0 hT63
 have hB30 := hB30.tch0 hT63
 refine zK [0, 2, 4, 7, 9, 11] #[true, false, true, false, true, false, false, true, false, true, false, true, false, false, false, false] [(146, .pointer (some ⟨w7.heap.size, 0, none⟩)), (148, .int .i64 ((up : Nat) : Int)), (150, .pointer (some ⟨w16.heap.size, 0, none⟩)), (153, .pointer (some ⟨w7.heap.size, 1, none⟩)), (155, .int .i64 ((up : Nat) : Int)), (157, .pointer (some ⟨w16.heap.size, 1, none⟩))] ⟨hB19, hB30⟩ ?_
 refine zV 1 rfl (.int .u64 (((kg l a).1 : Nat) : Int)) (fun _ ⟨hB19, hB30⟩ => R_load (v := .int .u64 (((kg l a).1 : Nat) : Int)) (by kernel_rfl) (by kernel_rfl) ((hB19.cell 0).trans rfl)) ⟨hB19, hB30⟩ ?_
 refine zV 3 rfl (.int .u64 ((((kg l a).1) * pw up % 18446744073709551616 : Nat) : Int)) (fun _ ⟨hB19, hB30⟩ => R_shlP (k2 := .i64) ((kg l a).1) up (by kernel_rfl) (by kernel_rfl) (by omega)) ⟨hB19, hB30⟩ ?_
 have hu65 : ((kg l a).1) * pw up % 18446744073709551616 < 18446744073709551616 := mod_lt64 _
 refine zV 5 rfl (.int .u64 (((kg l b).1 : Nat) : Int)) (fun _ ⟨hB19, hB30⟩ => R_load (v := .int .u64 (((kg l b).1 : Nat) : Int)) (by kernel_rfl) (by kernel_rfl) ((hB30.cell 0).trans rfl)) ⟨hB19, hB30⟩ ?_
 refine zK [6] #[true, true, true, true, true, true, true, true, false, true, false, true, false, false, false, false] [(152, .int .u64 (IntKind.u64.wrap (BitVec.ofInt 64 ((((kg l a).1) * pw up % 18446744073709551616 : Nat) : Int) ||| BitVec.ofInt 64 (((kg l b).1 : Nat) : Int)).toNat))] ⟨hB19, hB30⟩ ?_
 rw [show IntKind.u64.wrap (BitVec.ofInt 64 ((((kg l a).1) * pw up % 18446744073709551616 : Nat) : Int) ||| BitVec.ofInt 64 (((kg l b).1 : Nat) : Int)).toNat = (((((kg l a).1) * pw up % 18446744073709551616) ||| ((kg l b).1) : Nat) : Int) from or_u (((kg l a).1) * pw up % 18446744073709551616) ((kg l b).1) hu65 ub1]
 have hu66 : (((kg l a).1) * pw up % 18446744073709551616) ||| ((kg l b).1) < 18446744073709551616 := or_lt hu65 ub1
 refine zV 8 rfl (.int .u64 (((kg l a).2 : Nat) : Int)) (fun _ ⟨hB19, hB30⟩ => R_load (v := .int .u64 (((kg l a).2 : Nat) : Int)) (by kernel_rfl) (by kernel_rfl) ((hB19.cell 1).trans rfl)) ⟨hB19, hB30⟩ ?_
 refine zV 10 rfl (.int .u64 ((((kg l a).2) * pw up % 18446744073709551616 : Nat) : Int)) (fun _ ⟨hB19, hB30⟩ => R_shlP (k2 := .i64) ((kg l a).2) up (by kernel_rfl) (by kernel_rfl) (by omega)) ⟨hB19, hB30⟩ ?_
 have hu67 : ((kg l a).2) * pw up % 18446744073709551616 < 18446744073709551616 := mod_lt64 _
 refine zV 12 rfl (.int .u64 (((kg l b).2 : Nat) : Int)) (fun _ ⟨hB19, hB30⟩ => R_load (v := .int .u64 (((kg l b).2 : Nat) : Int)) (by kernel_rfl) (by kernel_rfl) ((hB30.cell 1).trans rfl)) ⟨hB19, hB30⟩ ?_
 refine zK [13] #[true, true, true, true, true, true, true, true, true, true, true, true, true, true, false, false] [(159, .int .u64 (IntKind.u64.wrap (BitVec.ofInt 64 ((((kg l a).2) * pw up % 18446744073709551616 : Nat) : Int) ||| BitVec.ofInt 64 (((kg l b).2 : Nat) : Int)).toNat))] ⟨hB19, hB30⟩ ?_
 rw [show IntKind.u64.wrap (BitVec.ofInt 64 ((((kg l a).2) * pw up % 18446744073709551616 : Nat) : Int) ||| BitVec.ofInt 64 (((kg l b).2 : Nat) : Int)).toNat = (((((kg l a).2) * pw up % 18446744073709551616) ||| ((kg l b).2) : Nat) : Int) from or_u (((kg l a).2) * pw up % 18446744073709551616) ((kg l b).2) hu67 ub2]
 have hu68 : (((kg l a).2) * pw up % 18446744073709551616) ||| ((kg l b).2) < 18446744073709551616 := or_lt hu67 ub2
 refine zK [14] #[true, true, true, true, true, true, true, true, true, true, true, true, true, true, true, false] [(160, .agg #[.int .u64 (((((kg l a).1) * pw up % 18446744073709551616) ||| ((kg l b).1) : Nat) : Int), .int .u64 (((((kg l a).2) * pw up % 18446744073709551616) ||| ((kg l b).2) : Nat) : Int)])] ⟨hB19, hB30⟩ ?_
 refine zD 15 rfl (S_storeA (b := w1.heap.size) (j := 0) (cs := [.int .u64 (((((kg l a).1) * pw up % 18446744073709551616) ||| ((kg l b).1) : Nat) : Int), .int .u64 (((((kg l a).2) * pw up % 18446744073709551616) ||| ((kg l b).2) : Nat) : Int)]) (by kernel_rfl) (by kernel_rfl) (by kernel_rfl) (by simp [oneV]) hB10 (by simp) fun w69 hT70 hs71 hB10' => ?_)
 have hT0 := (hT0).then hT70 (fun c e => by have : c = w1.heap.size := e; omega)
 have hL := hL.tchS hT70 (fun c e q => by cases e; exact nF_hB10 q)
 have hP := hP.tch hT70 (hP.ne hB10 (by decide))
 have hHr := hH.tch0 hT0
 have hB4 := hB4.tch hT70 (hB4.ne hB10 (by decide))
 have hB19 := hB19.tch hT70 (fun e => by have : w7.heap.size = w1.heap.size := e; omega)
 have hB30 := hB30.tch hT70 (fun e => by have : w16.heap.size = w1.heap.size := e; omega)
 replace hB10 : Blk w69 w1.heap.size 100 [.int .u64 (((((kg l a).1) * pw up % 18446744073709551616) ||| ((kg l b).1) : Nat) : Int), .int .u64 (((((kg l a).2) * pw up % 18446744073709551616) ||| ((kg l b).2) : Nat) : Int)] := hB10'
 refine ⟨⟨hB19, hB30⟩, ?_⟩
 refine d_done (by kernel_rfl) ?_
 refine W_ret ?_
 exact ⟨_, Res_cell (b := w1.heap.size) (cs := [.int .u64 (((((kg l a).1) * pw up % 18446744073709551616) ||| ((kg l b).1) : Nat) : Int), .int .u64 (((((kg l a).2) * pw up % 18446744073709551616) ||| ((kg l b).2) : Nat) : Int)]) (by rfl) (by kernel_rfl) (by kernel_rfl) hB10 (by kernel_rfl) (by kernel_rfl), ⟨by kernel_rfl, hT0⟩⟩

set_option maxRecDepth 100000 in
theorem of25_ok (F : Nat → Prop) (p : Nat) (most : Int) (N : List Nd) (W : Value → Value → Prop) (f k cp : Nat) (A : Option Addr) (l : List K) (nw wd up a : Nat) (xb xc xv : Int) (y z : K) (lo V : Nat) (cst : Option Nat) (w : World) (hL : TLow F w p most N W) (hN : N.length ≤ 65536) (hP : Blk w f 98 [.pointer (some ⟨p, 0, none⟩), .slice A k cp]) (hH : RdW w 2 k A (kcs l)) (ha : a < k) (hwa : widF N ((a : Nat) : Int) = ((wd : Nat) : Int)) (hxa : KI wd (kg l a)) (hw : wd ≤ 64) (h1 : 1 ≤ wd) (hlt : wd ≤ nw) (hnw : nw ≤ 64) : Ret Try.prog 50 [.pointer (some ⟨f, 0, none⟩), .agg #[.int .i64 25, .int .i64 ((nw : Nat) : Int), .int .i64 ((a : Nat) : Int), .int .i64 xb, .int .i64 xc, .int .u64 xv]] w fun v w' => v = .agg #[.int .u64 (((kone 25 nw wd up (kg l a) y z lo V cst).1 : Nat) : Int), .int .u64 (((kone 25 nw wd up (kg l a) y z lo V cst).2 : Nat) : Int)] ∧ Tch N0 w w' := by
 have hll : l.length = k := by have := hH.1; rw [kcs_length] at this; omega
 have ua1 := hxa.u1 (show wd ≤ 64 by omega)
 have ua2 := hxa.u2 (show wd ≤ 64 by omega)
 refine enter Try.func50 rfl rfl ?_
 refine zQ ?_
 have hlt_ := hL.lt
 have lt5 := hP.lt
 have l6 := hP.lt
 refine st (by rfl) (S_new (v := .pointer (some ⟨w.heap.size, 0, none⟩)) (ob := .cells #[.int .i64 25, .int .i64 ((nw : Nat) : Int), .int .i64 ((a : Nat) : Int), .int .i64 xb, .int .i64 xc, .int .u64 xv] 32) (by kernel_rfl) fun w1 hT2 hs3 hB4 => ?_)
 replace hB4 : Blk w1 (w.heap.size) 32 [.int .i64 25, .int .i64 ((nw : Nat) : Int), .int .i64 ((a : Nat) : Int), .int .i64 xb, .int .i64 xc, .int .u64 xv] := hB4
 have hT0 := hT2
 have hL := hL.tch0 hT2
 have hP := hP.tch0 hT2
 have hHr := hH.tch0 hT0
 have nF_hB4 : ¬ F (w.heap.size) := fun e => by have := hlt_ _ e; omega
 have hlt_ := hL.lt
 have lt11 := hP.lt
 have lt12 := hB4.lt
 have z13 := hT0.size
 have l14 := hP.lt
 have l15 := hB4.lt
 refine st (by rfl) (S_new (v := .pointer (some ⟨w1.heap.size, 0, none⟩)) (ob := .cells #[.int .u64 0, .int .u64 0] 100) (by kernel_rfl) fun w7 hT8 hs9 hB10 => ?_)
 replace hB10 : Blk w7 (w1.heap.size) 100 [.int .u64 0, .int .u64 0] := hB10
 have hT0 := hT0.t0 hT8
 have hL := hL.tch0 hT8
 have hP := hP.tch0 hT8
 have hHr := hH.tch0 hT0
 have hB4 := hB4.tch0 hT8
 have nF_hB10 : ¬ F (w1.heap.size) := fun e => by have := hlt_ _ e; omega
 refine op_nil ?_
 refine zQ ?_
 have hlt_ := hL.lt
 have lt20 := hP.lt
 have lt21 := hB4.lt
 have lt22 := hB10.lt
 have z23 := hT0.size
 have l24 := hP.lt
 have l25 := hB4.lt
 have l26 := hB10.lt
 refine st (by rfl) (S_new (v := .pointer (some ⟨w7.heap.size, 0, none⟩)) (ob := .cells #[.int .u64 0, .int .u64 0] 100) (by kernel_rfl) fun w16 hT17 hs18 hB19 => ?_)
 replace hB19 : Blk w16 (w7.heap.size) 100 [.int .u64 0, .int .u64 0] := hB19
 have hT0 := hT0.t0 hT17
 have hL := hL.tch0 hT17
 have hP := hP.tch0 hT17
 have hHr := hH.tch0 hT0
 have hB4 := hB4.tch0 hT17
 have hB10 := hB10.tch0 hT17
 have nF_hB19 : ¬ F (w7.heap.size) := fun e => by have := hlt_ _ e; omega
 have hlt_ := hL.lt
 have lt31 := hP.lt
 have lt32 := hB4.lt
 have lt33 := hB10.lt
 have lt34 := hB19.lt
 have z35 := hT0.size
 have l36 := hP.lt
 have l37 := hB4.lt
 have l38 := hB10.lt
 have l39 := hB19.lt
 refine st (by rfl) (S_new (v := .pointer (some ⟨w16.heap.size, 0, none⟩)) (ob := .cells #[.int .u64 0, .int .u64 0] 100) (by kernel_rfl) fun w27 hT28 hs29 hB30 => ?_)
 replace hB30 : Blk w27 (w16.heap.size) 100 [.int .u64 0, .int .u64 0] := hB30
 have hT0 := hT0.t0 hT28
 have hL := hL.tch0 hT28
 have hP := hP.tch0 hT28
 have hHr := hH.tch0 hT0
 have hB4 := hB4.tch0 hT28
 have hB10 := hB10.tch0 hT28
 have hB19 := hB19.tch0 hT28
 have nF_hB30 : ¬ F (w16.heap.size) := fun e => by have := hlt_ _ e; omega
 refine op_nil ?_
 refine W_seq ?_
 refine W_draw (fun w' => Blk w' (f) 98 [.pointer (some ⟨p, 0, none⟩), .slice A k cp] ∧ Blk w' (w.heap.size) 32 [.int .i64 25, .int .i64 ((nw : Nat) : Int), .int .i64 ((a : Nat) : Int), .int .i64 xb, .int .i64 xc, .int .u64 xv]) (by kernel_rfl) (by kernel_rfl) (by kernel_rfl) fun w40 hT41 hh42 => ?_
 have hT0 := hT0.t0 hT41
 have hL := hL.tch0 hT41
 have hP := hP.tch0 hT41
 have hHr := hH.tch0 hT0
 have hB4 := hB4.tch0 hT41
 have hB10 := hB10.tch0 hT41
 have hB19 := hB19.tch0 hT41
 have hB30 := hB30.tch0 hT41
 refine zK [0, 4, 1, 2] #[true, true, true, false, true, false, false, false] [(12, .pointer (some ⟨f, 0, none⟩)), (16, .pointer (some ⟨w.heap.size, 2, none⟩)), (13, .pointer (some ⟨f, 0, none⟩)), (14, .pointer (some ⟨f, 0, none⟩))] ⟨hP, hB4⟩ ?_
 refine zV 3 rfl (.pointer (some ⟨p, 0, none⟩)) (fun _ ⟨hP, hB4⟩ => R_load (v := .pointer (some ⟨p, 0, none⟩)) (by kernel_rfl) (by kernel_rfl) ((hP.cell 0).trans rfl)) ⟨hP, hB4⟩ ?_
 refine zV 5 rfl (.int .i64 ((a : Nat) : Int)) (fun _ ⟨hP, hB4⟩ => R_load (v := .int .i64 ((a : Nat) : Int)) (by kernel_rfl) (by kernel_rfl) ((hB4.cell 2).trans rfl)) ⟨hP, hB4⟩ ?_
 refine zD 6 rfl (S_call (args := [.pointer (some ⟨p, 0, none⟩), .int .i64 ((a : Nat) : Int)]) (by kernel_rfl) ((by have q := width_ok F p most N W ((a : Nat) : Int) _ hL hN; rw [hwa] at q; exact q)) ?_)
 rintro _ w43 ⟨rfl, hT44⟩
 have hT0 := hT0.t0 hT44
 have hL := hL.tch0 hT44
 have hP := hP.tch0 hT44
 have hHr := hH.tch0 hT0
 have hB4 := hB4.tch0 hT44
 have hB10 := hB10.tch0 hT44
 have hB19 := hB19.tch0 hT44
 have hB30 := hB30.tch0 hT44
 refine ⟨⟨hP, hB4⟩, ?_⟩
 refine zK [7] #[true, true, true, true, true, true, true, true] [(7, .int .i64 ((wd : Nat) : Int))] ⟨hP, hB4⟩ ?_
 refine d_done (by kernel_rfl) ?_
 refine W_seq ?_
 refine zQ ?_
 refine zS [(19, .pointer (some ⟨w.heap.size, 0, none⟩))] ?_
 refine zL (.int .i64 25) ((hB4.cell 0).trans rfl) ?_
 refine zS [(21, .bool true), (22, .bool true), (23, .pointer (some ⟨w.heap.size, 0, none⟩))] ?_
 refine zL (.int .i64 25) ((hB4.cell 0).trans rfl) ?_
 refine zS [(25, .bool true), (26, .bool true)] ?_
 refine zO true (fun _ => ?_) (fun h => nomatch h)
 refine W_draw (fun w' => RdW w' 2 k A (kcs l) ∧ Blk w' (f) 98 [.pointer (some ⟨p, 0, none⟩), .slice A k cp] ∧ Blk w' (w.heap.size) 32 [.int .i64 25, .int .i64 ((nw : Nat) : Int), .int .i64 ((a : Nat) : Int), .int .i64 xb, .int .i64 xc, .int .u64 xv]) (by kernel_rfl) (by kernel_rfl) (by kernel_rfl) fun w45 hT46 hh47 => ?_
 have hT0 := hT0.t0 hT46
 have hL := hL.tch0 hT46
 have hP := hP.tch0 hT46
 have hHr := hH.tch0 hT0
 have hB4 := hB4.tch0 hT46
 have hB10 := hB10.tch0 hT46
 have hB19 := hB19.tch0 hT46
 have hB30 := hB30.tch0 hT46
 refine zK [0, 4, 1, 2] #[true, true, true, false, true, false, false, false, false] [(27, .pointer (some ⟨f, 0, none⟩)), (31, .pointer (some ⟨w.heap.size, 2, none⟩)), (28, .pointer (some ⟨f, 0, none⟩)), (29, .pointer (some ⟨f, 1, none⟩))] ⟨hHr, hP, hB4⟩ ?_
 refine zV 3 rfl (.slice A k cp) (fun _ ⟨hHr, hP, hB4⟩ => R_load (v := .slice A k cp) (by kernel_rfl) (by kernel_rfl) ((hP.cell 1).trans rfl)) ⟨hHr, hP, hB4⟩ ?_
 refine zV 5 rfl (.int .i64 ((a : Nat) : Int)) (fun _ ⟨hHr, hP, hB4⟩ => R_load (v := .int .i64 ((a : Nat) : Int)) (by kernel_rfl) (by kernel_rfl) ((hB4.cell 2).trans rfl)) ⟨hHr, hP, hB4⟩ ?_
 refine zV 6 rfl (ptrAt A (a * 2)) (fun _ ⟨hHr, hP, hB4⟩ => R_indexRd (sz := 2) (len := k) (cap := cp) (k := .i64) (i := ((a : Nat) : Int)) (e := 100) a hHr (by kernel_rfl) (by kernel_rfl) (by kernel_rfl) (by kernel_rfl) rfl (by omega)) ⟨hHr, hP, hB4⟩ ?_
 refine zV 7 rfl (.agg #[.int .u64 (((kg l a).1 : Nat) : Int), .int .u64 (((kg l a).2 : Nat) : Int)]) (fun _ ⟨hHr, hP, hB4⟩ => R_loadRdA [.int .u64 (((kg l a).1 : Nat) : Int), .int .u64 (((kg l a).2 : Nat) : Int)] hHr (by omega) (by kernel_rfl) (by kernel_rfl) (by kernel_rfl) (kcs_part l (by omega))) ⟨hHr, hP, hB4⟩ ?_
 refine zD 8 rfl (S_storeA (b := w7.heap.size) (j := 0) (cs := [.int .u64 (((kg l a).1 : Nat) : Int), .int .u64 (((kg l a).2 : Nat) : Int)]) (by kernel_rfl) (by kernel_rfl) (by kernel_rfl) (by simp [oneV]) hB19 (by simp) fun w48 hT49 hs50 hB19' => ?_)
 have hT0 := (hT0).then hT49 (fun c e => by have : c = w7.heap.size := e; omega)
 have hL := hL.tchS hT49 (fun c e q => by cases e; exact nF_hB19 q)
 have hP := hP.tch hT49 (hP.ne hB19 (by decide))
 have hHr := hH.tch0 hT0
 have hB4 := hB4.tch hT49 (hB4.ne hB19 (by decide))
 have hB10 := hB10.tch hT49 (fun e => by have : w1.heap.size = w7.heap.size := e; omega)
 have hB30 := hB30.tch hT49 (fun e => by have : w16.heap.size = w7.heap.size := e; omega)
 replace hB19 : Blk w48 w7.heap.size 100 [.int .u64 (((kg l a).1 : Nat) : Int), .int .u64 (((kg l a).2 : Nat) : Int)] := hB19'
 refine ⟨⟨hHr, hP, hB4⟩, ?_⟩
 refine d_done (by kernel_rfl) ?_
 refine W_seq ?_
 refine zQ ?_
 refine zS [(35, .pointer (some ⟨w.heap.size, 0, none⟩))] ?_
 refine zL (.int .i64 25) ((hB4.cell 0).trans rfl) ?_
 refine zS [(37, .bool false), (38, .bool false), (39, .pointer (some ⟨w.heap.size, 0, none⟩))] ?_
 refine zL (.int .i64 25) ((hB4.cell 0).trans rfl) ?_
 refine zS [(41, .bool false), (42, .bool false)] ?_
 refine zO false (fun h => nomatch h) (fun _ => ?_)
 refine W_skip ?_
 refine W_seq ?_
 refine zQ ?_
 refine zS [(51, .pointer (some ⟨w.heap.size, 0, none⟩))] ?_
 refine zL (.int .i64 25) ((hB4.cell 0).trans rfl) ?_
 refine op_nil ?_
 refine W_block ?_
 refine zQ ?_
 refine zS [(54, .bool false), (53, .bool false)] ?_
 refine zO false (fun h => nomatch h) (fun _ => ?_)
 refine zQ ?_
 refine zS [(62, .bool false), (61, .bool false)] ?_
 refine zO false (fun h => nomatch h) (fun _ => ?_)
 refine W_seq ?_
 refine zQ ?_
 refine zS [(69, .bool false), (68, .bool false)] ?_
 refine zO false (fun h => nomatch h) (fun _ => ?_)
 refine zQ ?_
 refine zS [(70, .bool false), (68, .bool false)] ?_
 refine zO false (fun h => nomatch h) (fun _ => ?_)
 refine zR ?_
 refine zS [(71, .bool false), (68, .bool false)] ?_
 refine zO false (fun h => nomatch h) (fun _ => ?_)
 refine zQ ?_
 refine zS [(78, .bool false), (77, .bool false)] ?_
 refine zO false (fun h => nomatch h) (fun _ => ?_)
 refine zQ ?_
 refine zS [(84, .bool false), (83, .bool false)] ?_
 refine zO false (fun h => nomatch h) (fun _ => ?_)
 refine W_seq ?_
 refine zQ ?_
 refine zS [(90, .bool false), (89, .bool false)] ?_
 refine zO false (fun h => nomatch h) (fun _ => ?_)
 refine zR ?_
 refine zS [(91, .bool false), (89, .bool false)] ?_
 refine zO false (fun h => nomatch h) (fun _ => ?_)
 refine zQ ?_
 refine zS [(113, .bool false), (112, .bool false)] ?_
 refine zO false (fun h => nomatch h) (fun _ => ?_)
 refine zQ ?_
 refine zS [(118, .bool false), (117, .bool false)] ?_
 refine zO false (fun h => nomatch h) (fun _ => ?_)
 refine zQ ?_
 refine zS [(138, .bool false), (137, .bool false)] ?_
 refine zO false (fun h => nomatch h) (fun _ => ?_)
 refine W_seq ?_
 refine zQ ?_
 refine zS [(162, .bool true), (161, .bool true)] ?_
 refine zO true (fun _ => ?_) (fun h => nomatch h)
 refine W_skip ?_
 refine zW true (fun _ => ?_) (fun h => nomatch h)
 refine zQ ?_
 refine st (by rfl) (S_val (v := .agg #[.int .i64 25, .int .i64 ((nw : Nat) : Int), .int .i64 ((a : Nat) : Int), .int .i64 xb, .int .i64 xc, .int .u64 xv]) (R_loadA [.int .i64 25, .int .i64 ((nw : Nat) : Int), .int .i64 ((a : Nat) : Int), .int .i64 xb, .int .i64 xc, .int .u64 xv] (by kernel_rfl) (by kernel_rfl) (by kernel_rfl) (fun k u hk => by rw [hB4.cell]; exact get_part _ 0 _ k u rfl hk)) ?_)
 refine zS [(165, .int .i64 ((wd : Nat) : Int))] ?_
 refine st (by rfl) (S_val (v := .agg #[.int .u64 (((kg l a).1 : Nat) : Int), .int .u64 (((kg l a).2 : Nat) : Int)]) (R_loadA [.int .u64 (((kg l a).1 : Nat) : Int), .int .u64 (((kg l a).2 : Nat) : Int)] (by kernel_rfl) (by kernel_rfl) (by kernel_rfl) (fun k u hk => by rw [hB19.cell]; exact get_part _ 0 _ k u rfl hk)) ?_)
 refine zC (kwide25_ok nw wd (kg l a) ((a : Nat) : Int) xb xc xv _ hxa h1 hlt hnw) ?_
 rintro _ w51 ⟨rfl, hT52⟩
 have hT0 := hT0.t0 hT52
 have hL := hL.tch0 hT52
 have hP := hP.tch0 hT52
 have hHr := hH.tch0 hT0
 have hB4 := hB4.tch0 hT52
 have hB10 := hB10.tch0 hT52
 have hB19 := hB19.tch0 hT52
 have hB30 := hB30.tch0 hT52
 refine st (by rfl) (S_storeA (b := w1.heap.size) (j := 0) (cs := [.int .u64 (((kpart nw 0 wd (kg l a) true false).1 : Nat) : Int), .int .u64 (((kpart nw 0 wd (kg l a) true false).2 : Nat) : Int)]) (by kernel_rfl) (by kernel_rfl) (by kernel_rfl) (by simp [oneV]) hB10 (by simp) fun w53 hT54 hs55 hB10' => ?_)
 have hT0 := (hT0).then hT54 (fun c e => by have : c = w1.heap.size := e; omega)
 have hL := hL.tchS hT54 (fun c e q => by cases e; exact nF_hB10 q)
 have hP := hP.tch hT54 (hP.ne hB10 (by decide))
 have hHr := hH.tch0 hT0
 have hB4 := hB4.tch hT54 (hB4.ne hB10 (by decide))
 have hB19 := hB19.tch hT54 (fun e => by have : w7.heap.size = w1.heap.size := e; omega)
 have hB30 := hB30.tch hT54 (fun e => by have : w16.heap.size = w1.heap.size := e; omega)
 replace hB10 : Blk w53 w1.heap.size 100 [.int .u64 (((kpart nw 0 wd (kg l a) true false).1 : Nat) : Int), .int .u64 (((kpart nw 0 wd (kg l a) true false).2 : Nat) : Int)] := hB10'
 refine op_nil ?_
 refine W_ret ?_
 exact ⟨_, Res_cell (b := w1.heap.size) (cs := [.int .u64 (((kpart nw 0 wd (kg l a) true false).1 : Nat) : Int), .int .u64 (((kpart nw 0 wd (kg l a) true false).2 : Nat) : Int)]) (by rfl) (by kernel_rfl) (by kernel_rfl) hB10 (by kernel_rfl) (by kernel_rfl), ⟨by kernel_rfl, hT0⟩⟩

set_option maxRecDepth 100000 in
theorem of26_ok (F : Nat → Prop) (p : Nat) (most : Int) (N : List Nd) (W : Value → Value → Prop) (f k cp : Nat) (A : Option Addr) (l : List K) (nw wd up a : Nat) (xb xc xv : Int) (y z : K) (lo V : Nat) (cst : Option Nat) (w : World) (hL : TLow F w p most N W) (hN : N.length ≤ 65536) (hP : Blk w f 98 [.pointer (some ⟨p, 0, none⟩), .slice A k cp]) (hH : RdW w 2 k A (kcs l)) (ha : a < k) (hwa : widF N ((a : Nat) : Int) = ((wd : Nat) : Int)) (hxa : KI wd (kg l a)) (hw : wd ≤ 64) (h1 : 1 ≤ wd) (hlt : wd ≤ nw) (hnw : nw ≤ 64) : Ret Try.prog 50 [.pointer (some ⟨f, 0, none⟩), .agg #[.int .i64 26, .int .i64 ((nw : Nat) : Int), .int .i64 ((a : Nat) : Int), .int .i64 xb, .int .i64 xc, .int .u64 xv]] w fun v w' => v = .agg #[.int .u64 (((kone 26 nw wd up (kg l a) y z lo V cst).1 : Nat) : Int), .int .u64 (((kone 26 nw wd up (kg l a) y z lo V cst).2 : Nat) : Int)] ∧ Tch N0 w w' := by
 have hll : l.length = k := by have := hH.1; rw [kcs_length] at this; omega
 have ua1 := hxa.u1 (show wd ≤ 64 by omega)
 have ua2 := hxa.u2 (show wd ≤ 64 by omega)
 refine enter Try.func50 rfl rfl ?_
 refine zQ ?_
 have hlt_ := hL.lt
 have lt5 := hP.lt
 have l6 := hP.lt
 refine st (by rfl) (S_new (v := .pointer (some ⟨w.heap.size, 0, none⟩)) (ob := .cells #[.int .i64 26, .int .i64 ((nw : Nat) : Int), .int .i64 ((a : Nat) : Int), .int .i64 xb, .int .i64 xc, .int .u64 xv] 32) (by kernel_rfl) fun w1 hT2 hs3 hB4 => ?_)
 replace hB4 : Blk w1 (w.heap.size) 32 [.int .i64 26, .int .i64 ((nw : Nat) : Int), .int .i64 ((a : Nat) : Int), .int .i64 xb, .int .i64 xc, .int .u64 xv] := hB4
 have hT0 := hT2
 have hL := hL.tch0 hT2
 have hP := hP.tch0 hT2
 have hHr := hH.tch0 hT0
 have nF_hB4 : ¬ F (w.heap.size) := fun e => by have := hlt_ _ e; omega
 have hlt_ := hL.lt
 have lt11 := hP.lt
 have lt12 := hB4.lt
 have z13 := hT0.size
 have l14 := hP.lt
 have l15 := hB4.lt
 refine st (by rfl) (S_new (v := .pointer (some ⟨w1.heap.size, 0, none⟩)) (ob := .cells #[.int .u64 0, .int .u64 0] 100) (by kernel_rfl) fun w7 hT8 hs9 hB10 => ?_)
 replace hB10 : Blk w7 (w1.heap.size) 100 [.int .u64 0, .int .u64 0] := hB10
 have hT0 := hT0.t0 hT8
 have hL := hL.tch0 hT8
 have hP := hP.tch0 hT8
 have hHr := hH.tch0 hT0
 have hB4 := hB4.tch0 hT8
 have nF_hB10 : ¬ F (w1.heap.size) := fun e => by have := hlt_ _ e; omega
 refine op_nil ?_
 refine zQ ?_
 have hlt_ := hL.lt
 have lt20 := hP.lt
 have lt21 := hB4.lt
 have lt22 := hB10.lt
 have z23 := hT0.size
 have l24 := hP.lt
 have l25 := hB4.lt
 have l26 := hB10.lt
 refine st (by rfl) (S_new (v := .pointer (some ⟨w7.heap.size, 0, none⟩)) (ob := .cells #[.int .u64 0, .int .u64 0] 100) (by kernel_rfl) fun w16 hT17 hs18 hB19 => ?_)
 replace hB19 : Blk w16 (w7.heap.size) 100 [.int .u64 0, .int .u64 0] := hB19
 have hT0 := hT0.t0 hT17
 have hL := hL.tch0 hT17
 have hP := hP.tch0 hT17
 have hHr := hH.tch0 hT0
 have hB4 := hB4.tch0 hT17
 have hB10 := hB10.tch0 hT17
 have nF_hB19 : ¬ F (w7.heap.size) := fun e => by have := hlt_ _ e; omega
 have hlt_ := hL.lt
 have lt31 := hP.lt
 have lt32 := hB4.lt
 have lt33 := hB10.lt
 have lt34 := hB19.lt
 have z35 := hT0.size
 have l36 := hP.lt
 have l37 := hB4.lt
 have l38 := hB10.lt
 have l39 := hB19.lt
 refine st (by rfl) (S_new (v := .pointer (some ⟨w16.heap.size, 0, none⟩)) (ob := .cells #[.int .u64 0, .int .u64 0] 100) (by kernel_rfl) fun w27 hT28 hs29 hB30 => ?_)
 replace hB30 : Blk w27 (w16.heap.size) 100 [.int .u64 0, .int .u64 0] := hB30
 have hT0 := hT0.t0 hT28
 have hL := hL.tch0 hT28
 have hP := hP.tch0 hT28
 have hHr := hH.tch0 hT0
 have hB4 := hB4.tch0 hT28
 have hB10 := hB10.tch0 hT28
 have hB19 := hB19.tch0 hT28
 have nF_hB30 : ¬ F (w16.heap.size) := fun e => by have := hlt_ _ e; omega
 refine op_nil ?_
 refine W_seq ?_
 refine W_draw (fun w' => Blk w' (f) 98 [.pointer (some ⟨p, 0, none⟩), .slice A k cp] ∧ Blk w' (w.heap.size) 32 [.int .i64 26, .int .i64 ((nw : Nat) : Int), .int .i64 ((a : Nat) : Int), .int .i64 xb, .int .i64 xc, .int .u64 xv]) (by kernel_rfl) (by kernel_rfl) (by kernel_rfl) fun w40 hT41 hh42 => ?_
 have hT0 := hT0.t0 hT41
 have hL := hL.tch0 hT41
 have hP := hP.tch0 hT41
 have hHr := hH.tch0 hT0
 have hB4 := hB4.tch0 hT41
 have hB10 := hB10.tch0 hT41
 have hB19 := hB19.tch0 hT41
 have hB30 := hB30.tch0 hT41
 refine zK [0, 4, 1, 2] #[true, true, true, false, true, false, false, false] [(12, .pointer (some ⟨f, 0, none⟩)), (16, .pointer (some ⟨w.heap.size, 2, none⟩)), (13, .pointer (some ⟨f, 0, none⟩)), (14, .pointer (some ⟨f, 0, none⟩))] ⟨hP, hB4⟩ ?_
 refine zV 3 rfl (.pointer (some ⟨p, 0, none⟩)) (fun _ ⟨hP, hB4⟩ => R_load (v := .pointer (some ⟨p, 0, none⟩)) (by kernel_rfl) (by kernel_rfl) ((hP.cell 0).trans rfl)) ⟨hP, hB4⟩ ?_
 refine zV 5 rfl (.int .i64 ((a : Nat) : Int)) (fun _ ⟨hP, hB4⟩ => R_load (v := .int .i64 ((a : Nat) : Int)) (by kernel_rfl) (by kernel_rfl) ((hB4.cell 2).trans rfl)) ⟨hP, hB4⟩ ?_
 refine zD 6 rfl (S_call (args := [.pointer (some ⟨p, 0, none⟩), .int .i64 ((a : Nat) : Int)]) (by kernel_rfl) ((by have q := width_ok F p most N W ((a : Nat) : Int) _ hL hN; rw [hwa] at q; exact q)) ?_)
 rintro _ w43 ⟨rfl, hT44⟩
 have hT0 := hT0.t0 hT44
 have hL := hL.tch0 hT44
 have hP := hP.tch0 hT44
 have hHr := hH.tch0 hT0
 have hB4 := hB4.tch0 hT44
 have hB10 := hB10.tch0 hT44
 have hB19 := hB19.tch0 hT44
 have hB30 := hB30.tch0 hT44
 refine ⟨⟨hP, hB4⟩, ?_⟩
 refine zK [7] #[true, true, true, true, true, true, true, true] [(7, .int .i64 ((wd : Nat) : Int))] ⟨hP, hB4⟩ ?_
 refine d_done (by kernel_rfl) ?_
 refine W_seq ?_
 refine zQ ?_
 refine zS [(19, .pointer (some ⟨w.heap.size, 0, none⟩))] ?_
 refine zL (.int .i64 26) ((hB4.cell 0).trans rfl) ?_
 refine zS [(21, .bool true), (22, .bool true), (23, .pointer (some ⟨w.heap.size, 0, none⟩))] ?_
 refine zL (.int .i64 26) ((hB4.cell 0).trans rfl) ?_
 refine zS [(25, .bool true), (26, .bool true)] ?_
 refine zO true (fun _ => ?_) (fun h => nomatch h)
 refine W_draw (fun w' => RdW w' 2 k A (kcs l) ∧ Blk w' (f) 98 [.pointer (some ⟨p, 0, none⟩), .slice A k cp] ∧ Blk w' (w.heap.size) 32 [.int .i64 26, .int .i64 ((nw : Nat) : Int), .int .i64 ((a : Nat) : Int), .int .i64 xb, .int .i64 xc, .int .u64 xv]) (by kernel_rfl) (by kernel_rfl) (by kernel_rfl) fun w45 hT46 hh47 => ?_
 have hT0 := hT0.t0 hT46
 have hL := hL.tch0 hT46
 have hP := hP.tch0 hT46
 have hHr := hH.tch0 hT0
 have hB4 := hB4.tch0 hT46
 have hB10 := hB10.tch0 hT46
 have hB19 := hB19.tch0 hT46
 have hB30 := hB30.tch0 hT46
 refine zK [0, 4, 1, 2] #[true, true, true, false, true, false, false, false, false] [(27, .pointer (some ⟨f, 0, none⟩)), (31, .pointer (some ⟨w.heap.size, 2, none⟩)), (28, .pointer (some ⟨f, 0, none⟩)), (29, .pointer (some ⟨f, 1, none⟩))] ⟨hHr, hP, hB4⟩ ?_
 refine zV 3 rfl (.slice A k cp) (fun _ ⟨hHr, hP, hB4⟩ => R_load (v := .slice A k cp) (by kernel_rfl) (by kernel_rfl) ((hP.cell 1).trans rfl)) ⟨hHr, hP, hB4⟩ ?_
 refine zV 5 rfl (.int .i64 ((a : Nat) : Int)) (fun _ ⟨hHr, hP, hB4⟩ => R_load (v := .int .i64 ((a : Nat) : Int)) (by kernel_rfl) (by kernel_rfl) ((hB4.cell 2).trans rfl)) ⟨hHr, hP, hB4⟩ ?_
 refine zV 6 rfl (ptrAt A (a * 2)) (fun _ ⟨hHr, hP, hB4⟩ => R_indexRd (sz := 2) (len := k) (cap := cp) (k := .i64) (i := ((a : Nat) : Int)) (e := 100) a hHr (by kernel_rfl) (by kernel_rfl) (by kernel_rfl) (by kernel_rfl) rfl (by omega)) ⟨hHr, hP, hB4⟩ ?_
 refine zV 7 rfl (.agg #[.int .u64 (((kg l a).1 : Nat) : Int), .int .u64 (((kg l a).2 : Nat) : Int)]) (fun _ ⟨hHr, hP, hB4⟩ => R_loadRdA [.int .u64 (((kg l a).1 : Nat) : Int), .int .u64 (((kg l a).2 : Nat) : Int)] hHr (by omega) (by kernel_rfl) (by kernel_rfl) (by kernel_rfl) (kcs_part l (by omega))) ⟨hHr, hP, hB4⟩ ?_
 refine zD 8 rfl (S_storeA (b := w7.heap.size) (j := 0) (cs := [.int .u64 (((kg l a).1 : Nat) : Int), .int .u64 (((kg l a).2 : Nat) : Int)]) (by kernel_rfl) (by kernel_rfl) (by kernel_rfl) (by simp [oneV]) hB19 (by simp) fun w48 hT49 hs50 hB19' => ?_)
 have hT0 := (hT0).then hT49 (fun c e => by have : c = w7.heap.size := e; omega)
 have hL := hL.tchS hT49 (fun c e q => by cases e; exact nF_hB19 q)
 have hP := hP.tch hT49 (hP.ne hB19 (by decide))
 have hHr := hH.tch0 hT0
 have hB4 := hB4.tch hT49 (hB4.ne hB19 (by decide))
 have hB10 := hB10.tch hT49 (fun e => by have : w1.heap.size = w7.heap.size := e; omega)
 have hB30 := hB30.tch hT49 (fun e => by have : w16.heap.size = w7.heap.size := e; omega)
 replace hB19 : Blk w48 w7.heap.size 100 [.int .u64 (((kg l a).1 : Nat) : Int), .int .u64 (((kg l a).2 : Nat) : Int)] := hB19'
 refine ⟨⟨hHr, hP, hB4⟩, ?_⟩
 refine d_done (by kernel_rfl) ?_
 refine W_seq ?_
 refine zQ ?_
 refine zS [(35, .pointer (some ⟨w.heap.size, 0, none⟩))] ?_
 refine zL (.int .i64 26) ((hB4.cell 0).trans rfl) ?_
 refine zS [(37, .bool false), (38, .bool false), (39, .pointer (some ⟨w.heap.size, 0, none⟩))] ?_
 refine zL (.int .i64 26) ((hB4.cell 0).trans rfl) ?_
 refine zS [(41, .bool false), (42, .bool false)] ?_
 refine zO false (fun h => nomatch h) (fun _ => ?_)
 refine W_skip ?_
 refine W_seq ?_
 refine zQ ?_
 refine zS [(51, .pointer (some ⟨w.heap.size, 0, none⟩))] ?_
 refine zL (.int .i64 26) ((hB4.cell 0).trans rfl) ?_
 refine op_nil ?_
 refine W_block ?_
 refine zQ ?_
 refine zS [(54, .bool false), (53, .bool false)] ?_
 refine zO false (fun h => nomatch h) (fun _ => ?_)
 refine zQ ?_
 refine zS [(62, .bool false), (61, .bool false)] ?_
 refine zO false (fun h => nomatch h) (fun _ => ?_)
 refine W_seq ?_
 refine zQ ?_
 refine zS [(69, .bool false), (68, .bool false)] ?_
 refine zO false (fun h => nomatch h) (fun _ => ?_)
 refine zQ ?_
 refine zS [(70, .bool false), (68, .bool false)] ?_
 refine zO false (fun h => nomatch h) (fun _ => ?_)
 refine zR ?_
 refine zS [(71, .bool false), (68, .bool false)] ?_
 refine zO false (fun h => nomatch h) (fun _ => ?_)
 refine zQ ?_
 refine zS [(78, .bool false), (77, .bool false)] ?_
 refine zO false (fun h => nomatch h) (fun _ => ?_)
 refine zQ ?_
 refine zS [(84, .bool false), (83, .bool false)] ?_
 refine zO false (fun h => nomatch h) (fun _ => ?_)
 refine W_seq ?_
 refine zQ ?_
 refine zS [(90, .bool false), (89, .bool false)] ?_
 refine zO false (fun h => nomatch h) (fun _ => ?_)
 refine zR ?_
 refine zS [(91, .bool false), (89, .bool false)] ?_
 refine zO false (fun h => nomatch h) (fun _ => ?_)
 refine zQ ?_
 refine zS [(113, .bool false), (112, .bool false)] ?_
 refine zO false (fun h => nomatch h) (fun _ => ?_)
 refine zQ ?_
 refine zS [(118, .bool false), (117, .bool false)] ?_
 refine zO false (fun h => nomatch h) (fun _ => ?_)
 refine zQ ?_
 refine zS [(138, .bool false), (137, .bool false)] ?_
 refine zO false (fun h => nomatch h) (fun _ => ?_)
 refine W_seq ?_
 refine zQ ?_
 refine zS [(162, .bool false), (161, .bool false)] ?_
 refine zO false (fun h => nomatch h) (fun _ => ?_)
 refine zR ?_
 refine zS [(163, .bool true), (161, .bool true)] ?_
 refine zO true (fun _ => ?_) (fun h => nomatch h)
 refine zQ ?_
 refine st (by rfl) (S_val (v := .agg #[.int .i64 26, .int .i64 ((nw : Nat) : Int), .int .i64 ((a : Nat) : Int), .int .i64 xb, .int .i64 xc, .int .u64 xv]) (R_loadA [.int .i64 26, .int .i64 ((nw : Nat) : Int), .int .i64 ((a : Nat) : Int), .int .i64 xb, .int .i64 xc, .int .u64 xv] (by kernel_rfl) (by kernel_rfl) (by kernel_rfl) (fun k u hk => by rw [hB4.cell]; exact get_part _ 0 _ k u rfl hk)) ?_)
 refine zS [(165, .int .i64 ((wd : Nat) : Int))] ?_
 refine st (by rfl) (S_val (v := .agg #[.int .u64 (((kg l a).1 : Nat) : Int), .int .u64 (((kg l a).2 : Nat) : Int)]) (R_loadA [.int .u64 (((kg l a).1 : Nat) : Int), .int .u64 (((kg l a).2 : Nat) : Int)] (by kernel_rfl) (by kernel_rfl) (by kernel_rfl) (fun k u hk => by rw [hB19.cell]; exact get_part _ 0 _ k u rfl hk)) ?_)
 refine zC (kwide26_ok nw wd (kg l a) ((a : Nat) : Int) xb xc xv _ hxa h1 hlt hnw) ?_
 rintro _ w51 ⟨rfl, hT52⟩
 have hT0 := hT0.t0 hT52
 have hL := hL.tch0 hT52
 have hP := hP.tch0 hT52
 have hHr := hH.tch0 hT0
 have hB4 := hB4.tch0 hT52
 have hB10 := hB10.tch0 hT52
 have hB19 := hB19.tch0 hT52
 have hB30 := hB30.tch0 hT52
 refine st (by rfl) (S_storeA (b := w1.heap.size) (j := 0) (cs := [.int .u64 (((kpart nw 0 wd (kg l a) ((kg l a).1.testBit (wd - 1)) ((kg l a).2.testBit (wd - 1))).1 : Nat) : Int), .int .u64 (((kpart nw 0 wd (kg l a) ((kg l a).1.testBit (wd - 1)) ((kg l a).2.testBit (wd - 1))).2 : Nat) : Int)]) (by kernel_rfl) (by kernel_rfl) (by kernel_rfl) (by simp [oneV]) hB10 (by simp) fun w53 hT54 hs55 hB10' => ?_)
 have hT0 := (hT0).then hT54 (fun c e => by have : c = w1.heap.size := e; omega)
 have hL := hL.tchS hT54 (fun c e q => by cases e; exact nF_hB10 q)
 have hP := hP.tch hT54 (hP.ne hB10 (by decide))
 have hHr := hH.tch0 hT0
 have hB4 := hB4.tch hT54 (hB4.ne hB10 (by decide))
 have hB19 := hB19.tch hT54 (fun e => by have : w7.heap.size = w1.heap.size := e; omega)
 have hB30 := hB30.tch hT54 (fun e => by have : w16.heap.size = w1.heap.size := e; omega)
 replace hB10 : Blk w53 w1.heap.size 100 [.int .u64 (((kpart nw 0 wd (kg l a) ((kg l a).1.testBit (wd - 1)) ((kg l a).2.testBit (wd - 1))).1 : Nat) : Int), .int .u64 (((kpart nw 0 wd (kg l a) ((kg l a).1.testBit (wd - 1)) ((kg l a).2.testBit (wd - 1))).2 : Nat) : Int)] := hB10'
 refine op_nil ?_
 refine W_ret ?_
 exact ⟨_, Res_cell (b := w1.heap.size) (cs := [.int .u64 (((kpart nw 0 wd (kg l a) ((kg l a).1.testBit (wd - 1)) ((kg l a).2.testBit (wd - 1))).1 : Nat) : Int), .int .u64 (((kpart nw 0 wd (kg l a) ((kg l a).1.testBit (wd - 1)) ((kg l a).2.testBit (wd - 1))).2 : Nat) : Int)]) (by rfl) (by kernel_rfl) (by kernel_rfl) hB10 (by kernel_rfl) (by kernel_rfl), ⟨by kernel_rfl, hT0⟩⟩

end Go.Proofs.YtlbadnpgmkobdaaV
