/- Walks of functions of the program and of the document's texts. The conditions stand with each theorem. -/
import Derived.Test.YtlbadnpgmkobdaaJKkbit24x1
import Derived.Test.YtlbadnpgmkobdaaJKkbit24x1
import Derived.Test.YtlbadnpgmkobdaaProg
import Derived.Test.YtlbadnpgmkobdaaJKkbit24x9
import Derived.Test.YtlbadnpgmkobdaaJKkbit24x6
set_option linter.unusedVariables false
set_option linter.unusedSimpArgs false
namespace Go.Proofs.YtlbadnpgmkobdaaV
open Go Go.RowKit Go.Proofs

theorem k1_of {x : K} (h : KI 1 x) (q : x.1.testBit 0 = true) : x.1 = 1 := by
 have := h.1
 rw [Nat.testBit_zero, decide_eq_true_eq] at q
 have h2 : pw 1 = 2 := rfl
 omega
theorem k1_bit {x : K} (h : KI 1 x) (q : x.1 = 1) : x.1.testBit 0 = true := by rw [q]; rfl
theorem k1_val {x : K} (h : KI 1 x) (q : x.2 = 1) : x.2.testBit 0 = true := by rw [q]; rfl
theorem k1_two {x : K} (h : KI 1 x) (q : x.2.testBit 0 = true) : x.2 = 1 := by
 have := h.lt2
 rw [Nat.testBit_zero, decide_eq_true_eq] at q
 have h2 : pw 1 = 2 := rfl
 omega

set_option maxRecDepth 100000 in
theorem kite_ok (F : Nat → Prop) (p : Nat) (most : Int) (N : List Nd) (W : Value → Value → Prop) (f k cp : Nat) (A : Option Addr) (l : List K) (nw a b c : Nat) (xv : Int) (w : World) (hL : TLow F w p most N W) (hN : N.length ≤ 65536) (hP : Blk w f 98 [.pointer (some ⟨p, 0, none⟩), .slice A k cp]) (hH : RdW w 2 k A (kcs l)) (ha : a < k) (hb : b < k) (hc : c < k) (hxa : KI 1 (kg l a)) (hxb : KI nw (kg l b)) (hxc : KI nw (kg l c)) (hw : nw ≤ 64) : Ret Try.prog 81 [.pointer (some ⟨f, 0, none⟩), .agg #[.int .i64 22, .int .i64 ((nw : Nat) : Int), .int .i64 ((a : Nat) : Int), .int .i64 ((b : Nat) : Int), .int .i64 ((c : Nat) : Int), .int .u64 xv]] w fun v w' => v = .agg #[.int .u64 (((kite nw (kg l a) (kg l b) (kg l c)).1 : Nat) : Int), .int .u64 (((kite nw (kg l a) (kg l b) (kg l c)).2 : Nat) : Int)] ∧ Tch N0 w w' := by
 have hll : l.length = k := by have := hH.1; rw [kcs_length] at this; omega
 have ua1 := hxa.u1 (show 1 ≤ 64 by omega)
 have ua2 := hxa.u2 (show 1 ≤ 64 by omega)
 have ub1 := hxb.u1 (show nw ≤ 64 by omega)
 have ub2 := hxb.u2 (show nw ≤ 64 by omega)
 have uc1 := hxc.u1 (show nw ≤ 64 by omega)
 have uc2 := hxc.u2 (show nw ≤ 64 by omega)
 refine enter Try.func81 rfl rfl ?_
 refine zQ ?_
 have hlt_ := hL.lt
 have lt5 := hP.lt
 have l6 := hP.lt
 refine st (by rfl) (S_new (v := .pointer (some ⟨w.heap.size, 0, none⟩)) (ob := .cells #[.int .i64 22, .int .i64 ((nw : Nat) : Int), .int .i64 ((a : Nat) : Int), .int .i64 ((b : Nat) : Int), .int .i64 ((c : Nat) : Int), .int .u64 xv] 32) (by kernel_rfl) fun w1 hT2 hs3 hB4 => ?_)
 replace hB4 : Blk w1 (w.heap.size) 32 [.int .i64 22, .int .i64 ((nw : Nat) : Int), .int .i64 ((a : Nat) : Int), .int .i64 ((b : Nat) : Int), .int .i64 ((c : Nat) : Int), .int .u64 xv] := hB4
 have hT0 := hT2
 have hL := hL.tch0 hT2
 have hP := hP.tch0 hT2
 have hHr := hH.tch0 hT0
 have nF_hB4 : ¬ F (w.heap.size) := fun e => by have := hlt_ _ e; omega
 have hlt_ := hL.lt
 have lt11 := hP.lt
 have lt12 := hB4.lt
 have z13 := hT0.size
 have l14 := hP.lt
 have l15 := hB4.lt
 refine st (by rfl) (S_new (v := .pointer (some ⟨w1.heap.size, 0, none⟩)) (ob := .cells #[.int .u64 0, .int .u64 0] 100) (by kernel_rfl) fun w7 hT8 hs9 hB10 => ?_)
 replace hB10 : Blk w7 (w1.heap.size) 100 [.int .u64 0, .int .u64 0] := hB10
 have hT0 := hT0.t0 hT8
 have hL := hL.tch0 hT8
 have hP := hP.tch0 hT8
 have hHr := hH.tch0 hT0
 have hB4 := hB4.tch0 hT8
 have nF_hB10 : ¬ F (w1.heap.size) := fun e => by have := hlt_ _ e; omega
 refine op_nil ?_
 refine W_seq ?_
 have hz1_ := hT0.size
 have hltE := hL.lt
 refine W_rcut (C := fun ρ' w' => ∃ (b5 b6 b7 : Nat) (ρ0 : Env), ρ' = updL ρ0 [(0, .pointer (some ⟨f, 0, none⟩)), (1, .agg #[.int .i64 22, .int .i64 ((nw : Nat) : Int), .int .i64 ((a : Nat) : Int), .int .i64 ((b : Nat) : Int), .int .i64 ((c : Nat) : Int), .int .u64 xv]), (3, .pointer (some ⟨w.heap.size, 0, none⟩)), (4, .pointer (some ⟨w1.heap.size, 0, none⟩)), (5, .pointer (some ⟨b5, 0, none⟩)), (6, .pointer (some ⟨b6, 0, none⟩)), (7, .pointer (some ⟨b7, 0, none⟩))] ∧ Tch N0 w w' ∧ TLow F w' p most N W ∧ Blk w' (f) 98 [.pointer (some ⟨p, 0, none⟩), .slice A k cp] ∧ RdW w' 2 k A (kcs l) ∧ Blk w' (w.heap.size) 32 [.int .i64 22, .int .i64 ((nw : Nat) : Int), .int .i64 ((a : Nat) : Int), .int .i64 ((b : Nat) : Int), .int .i64 ((c : Nat) : Int), .int .u64 xv] ∧ Blk w' (w1.heap.size) 100 [.int .u64 0, .int .u64 0] ∧ Blk w' (b5) 100 [.int .u64 (((kg l a).1 : Nat) : Int), .int .u64 (((kg l a).2 : Nat) : Int)] ∧ Blk w' (b6) 100 [.int .u64 (((kg l b).1 : Nat) : Int), .int .u64 (((kg l b).2 : Nat) : Int)] ∧ Blk w' (b7) 100 [.int .u64 (((kg l c).1 : Nat) : Int), .int .u64 (((kg l c).2 : Nat) : Int)] ∧ w7.heap.size ≤ b5 ∧ w7.heap.size ≤ b6 ∧ w7.heap.size ≤ b7 ∧ ¬ F b5 ∧ ¬ F b6 ∧ ¬ F b7) ?_ ?_
 ·
  refine W_draw (fun w' => RdW w' 2 k A (kcs l) ∧ Blk w' (f) 98 [.pointer (some ⟨p, 0, none⟩), .slice A k cp] ∧ Blk w' (w.heap.size) 32 [.int .i64 22, .int .i64 ((nw : Nat) : Int), .int .i64 ((a : Nat) : Int), .int .i64 ((b : Nat) : Int), .int .i64 ((c : Nat) : Int), .int .u64 xv]) (by kernel_rfl) (by kernel_rfl) (by kernel_rfl) fun w16 hT17 hh18 => ?_
  have hT0 := hT0.t0 hT17
  have hL := hL.tch0 hT17
  have hP := hP.tch0 hT17
  have hHr := hH.tch0 hT0
  have hB4 := hB4.tch0 hT17
  have hB10 := hB10.tch0 hT17
  refine zK [0, 4, 8, 12, 16, 20, 1, 9, 17, 2, 10, 18] #[true, true, true, false, true, false, false, false, true, true, true, false, true, false, false, false, true, true, true, false, true, false, false, false, false, false, false, false, false, false] [(9, .pointer (some ⟨f, 0, none⟩)), (13, .pointer (some ⟨w.heap.size, 2, none⟩)), (17, .pointer (some ⟨f, 0, none⟩)), (21, .pointer (some ⟨w.heap.size, 3, none⟩)), (25, .pointer (some ⟨f, 0, none⟩)), (29, .pointer (some ⟨w.heap.size, 4, none⟩)), (10, .pointer (some ⟨f, 0, none⟩)), (18, .pointer (some ⟨f, 0, none⟩)), (26, .pointer (some ⟨f, 0, none⟩)), (11, .pointer (some ⟨f, 1, none⟩)), (19, .pointer (some ⟨f, 1, none⟩)), (27, .pointer (some ⟨f, 1, none⟩))] ⟨hHr, hP, hB4⟩ ?_
  refine zV 3 rfl (.slice A k cp) (fun _ ⟨hHr, hP, hB4⟩ => R_load (v := .slice A k cp) (by kernel_rfl) (by kernel_rfl) ((hP.cell 1).trans rfl)) ⟨hHr, hP, hB4⟩ ?_
  refine zV 5 rfl (.int .i64 ((a : Nat) : Int)) (fun _ ⟨hHr, hP, hB4⟩ => R_load (v := .int .i64 ((a : Nat) : Int)) (by kernel_rfl) (by kernel_rfl) ((hB4.cell 2).trans rfl)) ⟨hHr, hP, hB4⟩ ?_
  refine zV 6 rfl (ptrAt A (a * 2)) (fun _ ⟨hHr, hP, hB4⟩ => R_indexRd (sz := 2) (len := k) (cap := cp) (k := .i64) (i := ((a : Nat) : Int)) (e := 100) a hHr (by kernel_rfl) (by kernel_rfl) (by kernel_rfl) (by kernel_rfl) rfl (by omega)) ⟨hHr, hP, hB4⟩ ?_
  refine zV 7 rfl (.agg #[.int .u64 (((kg l a).1 : Nat) : Int), .int .u64 (((kg l a).2 : Nat) : Int)]) (fun _ ⟨hHr, hP, hB4⟩ => R_loadRdA [.int .u64 (((kg l a).1 : Nat) : Int), .int .u64 (((kg l a).2 : Nat) : Int)] hHr (by omega) (by kernel_rfl) (by kernel_rfl) (by kernel_rfl) (kcs_part l (by omega))) ⟨hHr, hP, hB4⟩ ?_
  refine zV 11 rfl (.slice A k cp) (fun _ ⟨hHr, hP, hB4⟩ => R_load (v := .slice A k cp) (by kernel_rfl) (by kernel_rfl) ((hP.cell 1).trans rfl)) ⟨hHr, hP, hB4⟩ ?_
  refine zV 13 rfl (.int .i64 ((b : Nat) : Int)) (fun _ ⟨hHr, hP, hB4⟩ => R_load (v := .int .i64 ((b : Nat) : Int)) (by kernel_rfl) (by kernel_rfl) ((hB4.cell 3).trans rfl)) ⟨hHr, hP, hB4⟩ ?_
  refine zV 14 rfl (ptrAt A (b * 2)) (fun _ ⟨hHr, hP, hB4⟩ => R_indexRd (sz := 2) (len := k) (cap := cp) (k := .i64) (i := ((b : Nat) : Int)) (e := 100) b hHr (by kernel_rfl) (by kernel_rfl) (by kernel_rfl) (by kernel_rfl) rfl (by omega)) ⟨hHr, hP, hB4⟩ ?_
  refine zV 15 rfl (.agg #[.int .u64 (((kg l b).1 : Nat) : Int), .int .u64 (((kg l b).2 : Nat) : Int)]) (fun _ ⟨hHr, hP, hB4⟩ => R_loadRdA [.int .u64 (((kg l b).1 : Nat) : Int), .int .u64 (((kg l b).2 : Nat) : Int)] hHr (by omega) (by kernel_rfl) (by kernel_rfl) (by kernel_rfl) (kcs_part l (by omega))) ⟨hHr, hP, hB4⟩ ?_
  refine zV 19 rfl (.slice A k cp) (fun _ ⟨hHr, hP, hB4⟩ => R_load (v := .slice A k cp) (by kernel_rfl) (by kernel_rfl) ((hP.cell 1).trans rfl)) ⟨hHr, hP, hB4⟩ ?_
  refine zV 21 rfl (.int .i64 ((c : Nat) : Int)) (fun _ ⟨hHr, hP, hB4⟩ => R_load (v := .int .i64 ((c : Nat) : Int)) (by kernel_rfl) (by kernel_rfl) ((hB4.cell 4).trans rfl)) ⟨hHr, hP, hB4⟩ ?_
  refine zV 22 rfl (ptrAt A (c * 2)) (fun _ ⟨hHr, hP, hB4⟩ => R_indexRd (sz := 2) (len := k) (cap := cp) (k := .i64) (i := ((c : Nat) : Int)) (e := 100) c hHr (by kernel_rfl) (by kernel_rfl) (by kernel_rfl) (by kernel_rfl) rfl (by omega)) ⟨hHr, hP, hB4⟩ ?_
  refine zV 23 rfl (.agg #[.int .u64 (((kg l c).1 : Nat) : Int), .int .u64 (((kg l c).2 : Nat) : Int)]) (fun _ ⟨hHr, hP, hB4⟩ => R_loadRdA [.int .u64 (((kg l c).1 : Nat) : Int), .int .u64 (((kg l c).2 : Nat) : Int)] hHr (by omega) (by kernel_rfl) (by kernel_rfl) (by kernel_rfl) (kcs_part l (by omega))) ⟨hHr, hP, hB4⟩ ?_
  refine d_three 24 25 26 (by kernel_rfl) (by rfl) (by rfl) (by rfl) (by kernel_rfl) (by kernel_rfl) (by kernel_rfl) ?_ ?_ ?_
  ·
   have hlt_ := hL.lt
   have lt23 := hP.lt
   have lt24 := hB4.lt
   have lt25 := hB10.lt
   have z26 := hT0.size
   have l27 := hP.lt
   have l28 := hB4.lt
   have l29 := hB10.lt
   refine (S_new (v := .pointer (some ⟨w16.heap.size, 0, none⟩)) (ob := .cells #[.int .u64 0, .int .u64 0] 100) (by kernel_rfl) fun w19 hT20 hs21 hB22 => ?_)
   replace hB22 : Blk w19 (w16.heap.size) 100 [.int .u64 0, .int .u64 0] := hB22
   have hT0 := hT0.t0 hT20
   have hL := hL.tch0 hT20
   have hP := hP.tch0 hT20
   have hHr := hH.tch0 hT0
   have hB4 := hB4.tch0 hT20
   have hB10 := hB10.tch0 hT20
   have nF_hB22 : ¬ F (w16.heap.size) := fun e => by have := hlt_ _ e; omega
   refine ⟨⟨hHr, hP, hB4⟩, ?_⟩
   refine d_two 25 26 (by kernel_rfl) (by rfl) (by rfl) (by kernel_rfl) (by kernel_rfl) ?_ ?_
   ·
    have hlt_ := hL.lt
    have lt34 := hP.lt
    have lt35 := hB4.lt
    have lt36 := hB10.lt
    have lt37 := hB22.lt
    have z38 := hT0.size
    have l39 := hP.lt
    have l40 := hB4.lt
    have l41 := hB10.lt
    have l42 := hB22.lt
    refine (S_new (v := .pointer (some ⟨w19.heap.size, 0, none⟩)) (ob := .cells #[.int .u64 0, .int .u64 0] 100) (by kernel_rfl) fun w30 hT31 hs32 hB33 => ?_)
    replace hB33 : Blk w30 (w19.heap.size) 100 [.int .u64 0, .int .u64 0] := hB33
    have hT0 := hT0.t0 hT31
    have hL := hL.tch0 hT31
    have hP := hP.tch0 hT31
    have hHr := hH.tch0 hT0
    have hB4 := hB4.tch0 hT31
    have hB10 := hB10.tch0 hT31
    have hB22 := hB22.tch0 hT31
    have nF_hB33 : ¬ F (w19.heap.size) := fun e => by have := hlt_ _ e; omega
    refine ⟨⟨hHr, hP, hB4⟩, ?_⟩
    have hlt_ := hL.lt
    have lt47 := hP.lt
    have lt48 := hB4.lt
    have lt49 := hB10.lt
    have lt50 := hB22.lt
    have lt51 := hB33.lt
    have z52 := hT0.size
    have l53 := hP.lt
    have l54 := hB4.lt
    have l55 := hB10.lt
    have l56 := hB22.lt
    have l57 := hB33.lt
    refine zD 26 rfl (S_new (v := .pointer (some ⟨w30.heap.size, 0, none⟩)) (ob := .cells #[.int .u64 0, .int .u64 0] 100) (by kernel_rfl) fun w43 hT44 hs45 hB46 => ?_)
    replace hB46 : Blk w43 (w30.heap.size) 100 [.int .u64 0, .int .u64 0] := hB46
    have hT0 := hT0.t0 hT44
    have hL := hL.tch0 hT44
    have hP := hP.tch0 hT44
    have hHr := hH.tch0 hT0
    have hB4 := hB4.tch0 hT44
    have hB10 := hB10.tch0 hT44
    have hB22 := hB22.tch0 hT44
    have hB33 := hB33.tch0 hT44
    have nF_hB46 : ¬ F (w30.heap.size) := fun e => by have := hlt_ _ e; omega
    refine ⟨⟨hHr, hP, hB4⟩, ?_⟩
    refine zD 27 rfl (S_storeA (b := w16.heap.size) (j := 0) (cs := [.int .u64 (((kg l a).1 : Nat) : Int), .int .u64 (((kg l a).2 : Nat) : Int)]) (by kernel_rfl) (by kernel_rfl) (by kernel_rfl) (by simp [oneV]) hB22 (by simp) fun w58 hT59 hs60 hB22' => ?_)
    have hT0 := (hT0).then hT59 (fun c e => by have : c = w16.heap.size := e; omega)
    have hL := hL.tchS hT59 (fun c e q => by cases e; exact nF_hB22 q)
    have hP := hP.tch hT59 (hP.ne hB22 (by decide))
    have hHr := hH.tch0 hT0
    have hB4 := hB4.tch hT59 (hB4.ne hB22 (by decide))
    have hB10 := hB10.tch hT59 (fun e => by have : w1.heap.size = w16.heap.size := e; omega)
    have hB33 := hB33.tch hT59 (fun e => by have : w19.heap.size = w16.heap.size := e; omega)
    have hB46 := hB46.tch hT59 (fun e => by have : w30.heap.size = w16.heap.size := e; omega)
    replace hB22 : Blk w58 w16.heap.size 100 [.int .u64 (((kg l a).1 : Nat) : Int), .int .u64 (((kg l a).2 : Nat) : Int)] := hB22'
    refine ⟨⟨hHr, hP, hB4⟩, ?_⟩
    refine zD 28 rfl (S_storeA (b := w19.heap.size) (j := 0) (cs := [.int .u64 (((kg l b).1 : Nat) : Int), .int .u64 (((kg l b).2 : Nat) : Int)]) (by kernel_rfl) (by kernel_rfl) (by kernel_rfl) (by simp [oneV]) hB33 (by simp) fun w61 hT62 hs63 hB33' => ?_)
    have hT0 := (hT0).then hT62 (fun c e => by have : c = w19.heap.size := e; omega)
    have hL := hL.tchS hT62 (fun c e q => by cases e; exact nF_hB33 q)
    have hP := hP.tch hT62 (hP.ne hB33 (by decide))
    have hHr := hH.tch0 hT0
    have hB4 := hB4.tch hT62 (hB4.ne hB33 (by decide))
    have hB10 := hB10.tch hT62 (fun e => by have : w1.heap.size = w19.heap.size := e; omega)
    have hB22 := hB22.tch hT62 (fun e => by have : w16.heap.size = w19.heap.size := e; omega)
    have hB46 := hB46.tch hT62 (fun e => by have : w30.heap.size = w19.heap.size := e; omega)
    replace hB33 : Blk w61 w19.heap.size 100 [.int .u64 (((kg l b).1 : Nat) : Int), .int .u64 (((kg l b).2 : Nat) : Int)] := hB33'
    refine ⟨⟨hHr, hP, hB4⟩, ?_⟩
    refine zD 29 rfl (S_storeA (b := w30.heap.size) (j := 0) (cs := [.int .u64 (((kg l c).1 : Nat) : Int), .int .u64 (((kg l c).2 : Nat) : Int)]) (by kernel_rfl) (by kernel_rfl) (by kernel_rfl) (by simp [oneV]) hB46 (by simp) fun w64 hT65 hs66 hB46' => ?_)
    have hT0 := (hT0).then hT65 (fun c e => by have : c = w30.heap.size := e; omega)
    have hL := hL.tchS hT65 (fun c e q => by cases e; exact nF_hB46 q)
    have hP := hP.tch hT65 (hP.ne hB46 (by decide))
    have hHr := hH.tch0 hT0
    have hB4 := hB4.tch hT65 (hB4.ne hB46 (by decide))
    have hB10 := hB10.tch hT65 (fun e => by have : w1.heap.size = w30.heap.size := e; omega)
    have hB22 := hB22.tch hT65 (fun e => by have : w16.heap.size = w30.heap.size := e; omega)
    have hB33 := hB33.tch hT65 (fun e => by have : w19.heap.size = w30.heap.size := e; omega)
    replace hB46 : Blk w64 w30.heap.size 100 [.int .u64 (((kg l c).1 : Nat) : Int), .int .u64 (((kg l c).2 : Nat) : Int)] := hB46'
    refine ⟨⟨hHr, hP, hB4⟩, ?_⟩
    refine d_done (by kernel_rfl) ?_
    exact ⟨w16.heap.size, w19.heap.size, w30.heap.size, _, updL_self (by kernel_rfl), hT0, hL, hP, hHr, hB4, hB10, hB22, hB33, hB46, by omega, by omega, by omega, (fun e => by have := hltE _ e; omega), (fun e => by have := hltE _ e; omega), (fun e => by have := hltE _ e; omega)⟩
   ·
    have hlt_ := hL.lt
    have lt71 := hP.lt
    have lt72 := hB4.lt
    have lt73 := hB10.lt
    have lt74 := hB22.lt
    have z75 := hT0.size
    have l76 := hP.lt
    have l77 := hB4.lt
    have l78 := hB10.lt
    have l79 := hB22.lt
    refine (S_new (v := .pointer (some ⟨w19.heap.size, 0, none⟩)) (ob := .cells #[.int .u64 0, .int .u64 0] 100) (by kernel_rfl) fun w67 hT68 hs69 hB70 => ?_)
    replace hB70 : Blk w67 (w19.heap.size) 100 [.int .u64 0, .int .u64 0] := hB70
    have hT0 := hT0.t0 hT68
    have hL := hL.tch0 hT68
    have hP := hP.tch0 hT68
    have hHr := hH.tch0 hT0
    have hB4 := hB4.tch0 hT68
    have hB10 := hB10.tch0 hT68
    have hB22 := hB22.tch0 hT68
    have nF_hB70 : ¬ F (w19.heap.size) := fun e => by have := hlt_ _ e; omega
    refine ⟨⟨hHr, hP, hB4⟩, ?_⟩
    have hlt_ := hL.lt
    have lt84 := hP.lt
    have lt85 := hB4.lt
    have lt86 := hB10.lt
    have lt87 := hB22.lt
    have lt88 := hB70.lt
    have z89 := hT0.size
    have l90 := hP.lt
    have l91 := hB4.lt
    have l92 := hB10.lt
    have l93 := hB22.lt
    have l94 := hB70.lt
    refine zD 25 rfl (S_new (v := .pointer (some ⟨w67.heap.size, 0, none⟩)) (ob := .cells #[.int .u64 0, .int .u64 0] 100) (by kernel_rfl) fun w80 hT81 hs82 hB83 => ?_)
    replace hB83 : Blk w80 (w67.heap.size) 100 [.int .u64 0, .int .u64 0] := hB83
    have hT0 := hT0.t0 hT81
    have hL := hL.tch0 hT81
    have hP := hP.tch0 hT81
    have hHr := hH.tch0 hT0
    have hB4 := hB4.tch0 hT81
    have hB10 := hB10.tch0 hT81
    have hB22 := hB22.tch0 hT81
    have hB70 := hB70.tch0 hT81
    have nF_hB83 : ¬ F (w67.heap.size) := fun e => by have := hlt_ _ e; omega
    refine ⟨⟨hHr, hP, hB4⟩, ?_⟩
    refine zD 27 rfl (S_storeA (b := w16.heap.size) (j := 0) (cs := [.int .u64 (((kg l a).1 : Nat) : Int), .int .u64 (((kg l a).2 : Nat) : Int)]) (by kernel_rfl) (by kernel_rfl) (by kernel_rfl) (by simp [oneV]) hB22 (by simp) fun w95 hT96 hs97 hB22' => ?_)
    have hT0 := (hT0).then hT96 (fun c e => by have : c = w16.heap.size := e; omega)
    have hL := hL.tchS hT96 (fun c e q => by cases e; exact nF_hB22 q)
    have hP := hP.tch hT96 (hP.ne hB22 (by decide))
    have hHr := hH.tch0 hT0
    have hB4 := hB4.tch hT96 (hB4.ne hB22 (by decide))
    have hB10 := hB10.tch hT96 (fun e => by have : w1.heap.size = w16.heap.size := e; omega)
    have hB70 := hB70.tch hT96 (fun e => by have : w19.heap.size = w16.heap.size := e; omega)
    have hB83 := hB83.tch hT96 (fun e => by have : w67.heap.size = w16.heap.size := e; omega)
    replace hB22 : Blk w95 w16.heap.size 100 [.int .u64 (((kg l a).1 : Nat) : Int), .int .u64 (((kg l a).2 : Nat) : Int)] := hB22'
    refine ⟨⟨hHr, hP, hB4⟩, ?_⟩
    refine zD 28 rfl (S_storeA (b := w67.heap.size) (j := 0) (cs := [.int .u64 (((kg l b).1 : Nat) : Int), .int .u64 (((kg l b).2 : Nat) : Int)]) (by kernel_rfl) (by kernel_rfl) (by kernel_rfl) (by simp [oneV]) hB83 (by simp) fun w98 hT99 hs100 hB83' => ?_)
    have hT0 := (hT0).then hT99 (fun c e => by have : c = w67.heap.size := e; omega)
    have hL := hL.tchS hT99 (fun c e q => by cases e; exact nF_hB83 q)
    have hP := hP.tch hT99 (hP.ne hB83 (by decide))
    have hHr := hH.tch0 hT0
    have hB4 := hB4.tch hT99 (hB4.ne hB83 (by decide))
    have hB10 := hB10.tch hT99 (fun e => by have : w1.heap.size = w67.heap.size := e; omega)
    have hB22 := hB22.tch hT99 (fun e => by have : w16.heap.size = w67.heap.size := e; omega)
    have hB70 := hB70.tch hT99 (fun e => by have : w19.heap.size = w67.heap.size := e; omega)
    replace hB83 : Blk w98 w67.heap.size 100 [.int .u64 (((kg l b).1 : Nat) : Int), .int .u64 (((kg l b).2 : Nat) : Int)] := hB83'
    refine ⟨⟨hHr, hP, hB4⟩, ?_⟩
    refine zD 29 rfl (S_storeA (b := w19.heap.size) (j := 0) (cs := [.int .u64 (((kg l c).1 : Nat) : Int), .int .u64 (((kg l c).2 : Nat) : Int)]) (by kernel_rfl) (by kernel_rfl) (by kernel_rfl) (by simp [oneV]) hB70 (by simp) fun w101 hT102 hs103 hB70' => ?_)
    have hT0 := (hT0).then hT102 (fun c e => by have : c = w19.heap.size := e; omega)
    have hL := hL.tchS hT102 (fun c e q => by cases e; exact nF_hB70 q)
    have hP := hP.tch hT102 (hP.ne hB70 (by decide))
    have hHr := hH.tch0 hT0
    have hB4 := hB4.tch hT102 (hB4.ne hB70 (by decide))
    have hB10 := hB10.tch hT102 (fun e => by have : w1.heap.size = w19.heap.size := e; omega)
    have hB22 := hB22.tch hT102 (fun e => by have : w16.heap.size = w19.heap.size := e; omega)
    have hB83 := hB83.tch hT102 (fun e => by have : w67.heap.size = w19.heap.size := e; omega)
    replace hB70 : Blk w101 w19.heap.size 100 [.int .u64 (((kg l c).1 : Nat) : Int), .int .u64 (((kg l c).2 : Nat) : Int)] := hB70'
    refine ⟨⟨hHr, hP, hB4⟩, ?_⟩
    refine d_done (by kernel_rfl) ?_
    exact ⟨w16.heap.size, w67.heap.size, w19.heap.size, _, updL_self (by kernel_rfl), hT0, hL, hP, hHr, hB4, hB10, hB22, hB83, hB70, by omega, by omega, by omega, (fun e => by have := hltE _ e; omega), (fun e => by have := hltE _ e; omega), (fun e => by have := hltE _ e; omega)⟩
  ·
   have hlt_ := hL.lt
   have lt108 := hP.lt
   have lt109 := hB4.lt
   have lt110 := hB10.lt
   have z111 := hT0.size
   have l112 := hP.lt
   have l113 := hB4.lt
   have l114 := hB10.lt
   refine (S_new (v := .pointer (some ⟨w16.heap.size, 0, none⟩)) (ob := .cells #[.int .u64 0, .int .u64 0] 100) (by kernel_rfl) fun w104 hT105 hs106 hB107 => ?_)
   replace hB107 : Blk w104 (w16.heap.size) 100 [.int .u64 0, .int .u64 0] := hB107
   have hT0 := hT0.t0 hT105
   have hL := hL.tch0 hT105
   have hP := hP.tch0 hT105
   have hHr := hH.tch0 hT0
   have hB4 := hB4.tch0 hT105
   have hB10 := hB10.tch0 hT105
   have nF_hB107 : ¬ F (w16.heap.size) := fun e => by have := hlt_ _ e; omega
   refine ⟨⟨hHr, hP, hB4⟩, ?_⟩
   refine d_two 24 26 (by kernel_rfl) (by rfl) (by rfl) (by kernel_rfl) (by kernel_rfl) ?_ ?_
   ·
    have hlt_ := hL.lt
    have lt119 := hP.lt
    have lt120 := hB4.lt
    have lt121 := hB10.lt
    have lt122 := hB107.lt
    have z123 := hT0.size
    have l124 := hP.lt
    have l125 := hB4.lt
    have l126 := hB10.lt
    have l127 := hB107.lt
    refine (S_new (v := .pointer (some ⟨w104.heap.size, 0, none⟩)) (ob := .cells #[.int .u64 0, .int .u64 0] 100) (by kernel_rfl) fun w115 hT116 hs117 hB118 => ?_)
    replace hB118 : Blk w115 (w104.heap.size) 100 [.int .u64 0, .int .u64 0] := hB118
    have hT0 := hT0.t0 hT116
    have hL := hL.tch0 hT116
    have hP := hP.tch0 hT116
    have hHr := hH.tch0 hT0
    have hB4 := hB4.tch0 hT116
    have hB10 := hB10.tch0 hT116
    have hB107 := hB107.tch0 hT116
    have nF_hB118 : ¬ F (w104.heap.size) := fun e => by have := hlt_ _ e; omega
    refine ⟨⟨hHr, hP, hB4⟩, ?_⟩
    have hlt_ := hL.lt
    have lt132 := hP.lt
    have lt133 := hB4.lt
    have lt134 := hB10.lt
    have lt135 := hB107.lt
    have lt136 := hB118.lt
    have z137 := hT0.size
    have l138 := hP.lt
    have l139 := hB4.lt
    have l140 := hB10.lt
    have l141 := hB107.lt
    have l142 := hB118.lt
    refine zD 26 rfl (S_new (v := .pointer (some ⟨w115.heap.size, 0, none⟩)) (ob := .cells #[.int .u64 0, .int .u64 0] 100) (by kernel_rfl) fun w128 hT129 hs130 hB131 => ?_)
    replace hB131 : Blk w128 (w115.heap.size) 100 [.int .u64 0, .int .u64 0] := hB131
    have hT0 := hT0.t0 hT129
    have hL := hL.tch0 hT129
    have hP := hP.tch0 hT129
    have hHr := hH.tch0 hT0
    have hB4 := hB4.tch0 hT129
    have hB10 := hB10.tch0 hT129
    have hB107 := hB107.tch0 hT129
    have hB118 := hB118.tch0 hT129
    have nF_hB131 : ¬ F (w115.heap.size) := fun e => by have := hlt_ _ e; omega
    refine ⟨⟨hHr, hP, hB4⟩, ?_⟩
    refine zD 27 rfl (S_storeA (b := w104.heap.size) (j := 0) (cs := [.int .u64 (((kg l a).1 : Nat) : Int), .int .u64 (((kg l a).2 : Nat) : Int)]) (by kernel_rfl) (by kernel_rfl) (by kernel_rfl) (by simp [oneV]) hB118 (by simp) fun w143 hT144 hs145 hB118' => ?_)
    have hT0 := (hT0).then hT144 (fun c e => by have : c = w104.heap.size := e; omega)
    have hL := hL.tchS hT144 (fun c e q => by cases e; exact nF_hB118 q)
    have hP := hP.tch hT144 (hP.ne hB118 (by decide))
    have hHr := hH.tch0 hT0
    have hB4 := hB4.tch hT144 (hB4.ne hB118 (by decide))
    have hB10 := hB10.tch hT144 (fun e => by have : w1.heap.size = w104.heap.size := e; omega)
    have hB107 := hB107.tch hT144 (fun e => by have : w16.heap.size = w104.heap.size := e; omega)
    have hB131 := hB131.tch hT144 (fun e => by have : w115.heap.size = w104.heap.size := e; omega)
    replace hB118 : Blk w143 w104.heap.size 100 [.int .u64 (((kg l a).1 : Nat) : Int), .int .u64 (((kg l a).2 : Nat) : Int)] := hB118'
    refine ⟨⟨hHr, hP, hB4⟩, ?_⟩
    refine zD 28 rfl (S_storeA (b := w16.heap.size) (j := 0) (cs := [.int .u64 (((kg l b).1 : Nat) : Int), .int .u64 (((kg l b).2 : Nat) : Int)]) (by kernel_rfl) (by kernel_rfl) (by kernel_rfl) (by simp [oneV]) hB107 (by simp) fun w146 hT147 hs148 hB107' => ?_)
    have hT0 := (hT0).then hT147 (fun c e => by have : c = w16.heap.size := e; omega)
    have hL := hL.tchS hT147 (fun c e q => by cases e; exact nF_hB107 q)
    have hP := hP.tch hT147 (hP.ne hB107 (by decide))
    have hHr := hH.tch0 hT0
    have hB4 := hB4.tch hT147 (hB4.ne hB107 (by decide))
    have hB10 := hB10.tch hT147 (fun e => by have : w1.heap.size = w16.heap.size := e; omega)
    have hB118 := hB118.tch hT147 (fun e => by have : w104.heap.size = w16.heap.size := e; omega)
    have hB131 := hB131.tch hT147 (fun e => by have : w115.heap.size = w16.heap.size := e; omega)
    replace hB107 : Blk w146 w16.heap.size 100 [.int .u64 (((kg l b).1 : Nat) : Int), .int .u64 (((kg l b).2 : Nat) : Int)] := hB107'
    refine ⟨⟨hHr, hP, hB4⟩, ?_⟩
    refine zD 29 rfl (S_storeA (b := w115.heap.size) (j := 0) (cs := [.int .u64 (((kg l c).1 : Nat) : Int), .int .u64 (((kg l c).2 : Nat) : Int)]) (by kernel_rfl) (by kernel_rfl) (by kernel_rfl) (by simp [oneV]) hB131 (by simp) fun w149 hT150 hs151 hB131' => ?_)
    have hT0 := (hT0).then hT150 (fun c e => by have : c = w115.heap.size := e; omega)
    have hL := hL.tchS hT150 (fun c e q => by cases e; exact nF_hB131 q)
    have hP := hP.tch hT150 (hP.ne hB131 (by decide))
    have hHr := hH.tch0 hT0
    have hB4 := hB4.tch hT150 (hB4.ne hB131 (by decide))
    have hB10 := hB10.tch hT150 (fun e => by have : w1.heap.size = w115.heap.size := e; omega)
    have hB107 := hB107.tch hT150 (fun e => by have : w16.heap.size = w115.heap.size := e; omega)
    have hB118 := hB118.tch hT150 (fun e => by have : w104.heap.size = w115.heap.size := e; omega)
    replace hB131 : Blk w149 w115.heap.size 100 [.int .u64 (((kg l c).1 : Nat) : Int), .int .u64 (((kg l c).2 : Nat) : Int)] := hB131'
    refine ⟨⟨hHr, hP, hB4⟩, ?_⟩
    refine d_done (by kernel_rfl) ?_
    exact ⟨w104.heap.size, w16.heap.size, w115.heap.size, _, updL_self (by kernel_rfl), hT0, hL, hP, hHr, hB4, hB10, hB118, hB107, hB131, by omega, by omega, by omega, (fun e => by have := hltE _ e; omega), (fun e => by have := hltE _ e; omega), (fun e => by have := hltE _ e; omega)⟩
   ·
    have hlt_ := hL.lt
    have lt156 := hP.lt
    have lt157 := hB4.lt
    have lt158 := hB10.lt
    have lt159 := hB107.lt
    have z160 := hT0.size
    have l161 := hP.lt
    have l162 := hB4.lt
    have l163 := hB10.lt
    have l164 := hB107.lt
    refine (S_new (v := .pointer (some ⟨w104.heap.size, 0, none⟩)) (ob := .cells #[.int .u64 0, .int .u64 0] 100) (by kernel_rfl) fun w152 hT153 hs154 hB155 => ?_)
    replace hB155 : Blk w152 (w104.heap.size) 100 [.int .u64 0, .int .u64 0] := hB155
    have hT0 := hT0.t0 hT153
    have hL := hL.tch0 hT153
    have hP := hP.tch0 hT153
    have hHr := hH.tch0 hT0
    have hB4 := hB4.tch0 hT153
    have hB10 := hB10.tch0 hT153
    have hB107 := hB107.tch0 hT153
    have nF_hB155 : ¬ F (w104.heap.size) := fun e => by have := hlt_ _ e; omega
    refine ⟨⟨hHr, hP, hB4⟩, ?_⟩
    have hlt_ := hL.lt
    have lt169 := hP.lt
    have lt170 := hB4.lt
    have lt171 := hB10.lt
    have lt172 := hB107.lt
    have lt173 := hB155.lt
    have z174 := hT0.size
    have l175 := hP.lt
    have l176 := hB4.lt
    have l177 := hB10.lt
    have l178 := hB107.lt
    have l179 := hB155.lt
    refine zD 24 rfl (S_new (v := .pointer (some ⟨w152.heap.size, 0, none⟩)) (ob := .cells #[.int .u64 0, .int .u64 0] 100) (by kernel_rfl) fun w165 hT166 hs167 hB168 => ?_)
    replace hB168 : Blk w165 (w152.heap.size) 100 [.int .u64 0, .int .u64 0] := hB168
    have hT0 := hT0.t0 hT166
    have hL := hL.tch0 hT166
    have hP := hP.tch0 hT166
    have hHr := hH.tch0 hT0
    have hB4 := hB4.tch0 hT166
    have hB10 := hB10.tch0 hT166
    have hB107 := hB107.tch0 hT166
    have hB155 := hB155.tch0 hT166
    have nF_hB168 : ¬ F (w152.heap.size) := fun e => by have := hlt_ _ e; omega
    refine ⟨⟨hHr, hP, hB4⟩, ?_⟩
    refine zD 27 rfl (S_storeA (b := w152.heap.size) (j := 0) (cs := [.int .u64 (((kg l a).1 : Nat) : Int), .int .u64 (((kg l a).2 : Nat) : Int)]) (by kernel_rfl) (by kernel_rfl) (by kernel_rfl) (by simp [oneV]) hB168 (by simp) fun w180 hT181 hs182 hB168' => ?_)
    have hT0 := (hT0).then hT181 (fun c e => by have : c = w152.heap.size := e; omega)
    have hL := hL.tchS hT181 (fun c e q => by cases e; exact nF_hB168 q)
    have hP := hP.tch hT181 (hP.ne hB168 (by decide))
    have hHr := hH.tch0 hT0
    have hB4 := hB4.tch hT181 (hB4.ne hB168 (by decide))
    have hB10 := hB10.tch hT181 (fun e => by have : w1.heap.size = w152.heap.size := e; omega)
    have hB107 := hB107.tch hT181 (fun e => by have : w16.heap.size = w152.heap.size := e; omega)
    have hB155 := hB155.tch hT181 (fun e => by have : w104.heap.size = w152.heap.size := e; omega)
    replace hB168 : Blk w180 w152.heap.size 100 [.int .u64 (((kg l a).1 : Nat) : Int), .int .u64 (((kg l a).2 : Nat) : Int)] := hB168'
    refine ⟨⟨hHr, hP, hB4⟩, ?_⟩
    refine zD 28 rfl (S_storeA (b := w16.heap.size) (j := 0) (cs := [.int .u64 (((kg l b).1 : Nat) : Int), .int .u64 (((kg l b).2 : Nat) : Int)]) (by kernel_rfl) (by kernel_rfl) (by kernel_rfl) (by simp [oneV]) hB107 (by simp) fun w183 hT184 hs185 hB107' => ?_)
    have hT0 := (hT0).then hT184 (fun c e => by have : c = w16.heap.size := e; omega)
    have hL := hL.tchS hT184 (fun c e q => by cases e; exact nF_hB107 q)
    have hP := hP.tch hT184 (hP.ne hB107 (by decide))
    have hHr := hH.tch0 hT0
    have hB4 := hB4.tch hT184 (hB4.ne hB107 (by decide))
    have hB10 := hB10.tch hT184 (fun e => by have : w1.heap.size = w16.heap.size := e; omega)
    have hB155 := hB155.tch hT184 (fun e => by have : w104.heap.size = w16.heap.size := e; omega)
    have hB168 := hB168.tch hT184 (fun e => by have : w152.heap.size = w16.heap.size := e; omega)
    replace hB107 : Blk w183 w16.heap.size 100 [.int .u64 (((kg l b).1 : Nat) : Int), .int .u64 (((kg l b).2 : Nat) : Int)] := hB107'
    refine ⟨⟨hHr, hP, hB4⟩, ?_⟩
    refine zD 29 rfl (S_storeA (b := w104.heap.size) (j := 0) (cs := [.int .u64 (((kg l c).1 : Nat) : Int), .int .u64 (((kg l c).2 : Nat) : Int)]) (by kernel_rfl) (by kernel_rfl) (by kernel_rfl) (by simp [oneV]) hB155 (by simp) fun w186 hT187 hs188 hB155' => ?_)
    have hT0 := (hT0).then hT187 (fun c e => by have : c = w104.heap.size := e; omega)
    have hL := hL.tchS hT187 (fun c e q => by cases e; exact nF_hB155 q)
    have hP := hP.tch hT187 (hP.ne hB155 (by decide))
    have hHr := hH.tch0 hT0
    have hB4 := hB4.tch hT187 (hB4.ne hB155 (by decide))
    have hB10 := hB10.tch hT187 (fun e => by have : w1.heap.size = w104.heap.size := e; omega)
    have hB107 := hB107.tch hT187 (fun e => by have : w16.heap.size = w104.heap.size := e; omega)
    have hB168 := hB168.tch hT187 (fun e => by have : w152.heap.size = w104.heap.size := e; omega)
    replace hB155 : Blk w186 w104.heap.size 100 [.int .u64 (((kg l c).1 : Nat) : Int), .int .u64 (((kg l c).2 : Nat) : Int)] := hB155'
    refine ⟨⟨hHr, hP, hB4⟩, ?_⟩
    refine d_done (by kernel_rfl) ?_
    exact ⟨w152.heap.size, w16.heap.size, w104.heap.size, _, updL_self (by kernel_rfl), hT0, hL, hP, hHr, hB4, hB10, hB168, hB107, hB155, by omega, by omega, by omega, (fun e => by have := hltE _ e; omega), (fun e => by have := hltE _ e; omega), (fun e => by have := hltE _ e; omega)⟩
  ·
   have hlt_ := hL.lt
   have lt193 := hP.lt
   have lt194 := hB4.lt
   have lt195 := hB10.lt
   have z196 := hT0.size
   have l197 := hP.lt
   have l198 := hB4.lt
   have l199 := hB10.lt
   refine (S_new (v := .pointer (some ⟨w16.heap.size, 0, none⟩)) (ob := .cells #[.int .u64 0, .int .u64 0] 100) (by kernel_rfl) fun w189 hT190 hs191 hB192 => ?_)
   replace hB192 : Blk w189 (w16.heap.size) 100 [.int .u64 0, .int .u64 0] := hB192
   have hT0 := hT0.t0 hT190
   have hL := hL.tch0 hT190
   have hP := hP.tch0 hT190
   have hHr := hH.tch0 hT0
   have hB4 := hB4.tch0 hT190
   have hB10 := hB10.tch0 hT190
   have nF_hB192 : ¬ F (w16.heap.size) := fun e => by have := hlt_ _ e; omega
   refine ⟨⟨hHr, hP, hB4⟩, ?_⟩
   refine d_two 24 25 (by kernel_rfl) (by rfl) (by rfl) (by kernel_rfl) (by kernel_rfl) ?_ ?_
   ·
    have hlt_ := hL.lt
    have lt204 := hP.lt
    have lt205 := hB4.lt
    have lt206 := hB10.lt
    have lt207 := hB192.lt
    have z208 := hT0.size
    have l209 := hP.lt
    have l210 := hB4.lt
    have l211 := hB10.lt
    have l212 := hB192.lt
    refine (S_new (v := .pointer (some ⟨w189.heap.size, 0, none⟩)) (ob := .cells #[.int .u64 0, .int .u64 0] 100) (by kernel_rfl) fun w200 hT201 hs202 hB203 => ?_)
    replace hB203 : Blk w200 (w189.heap.size) 100 [.int .u64 0, .int .u64 0] := hB203
    have hT0 := hT0.t0 hT201
    have hL := hL.tch0 hT201
    have hP := hP.tch0 hT201
    have hHr := hH.tch0 hT0
    have hB4 := hB4.tch0 hT201
    have hB10 := hB10.tch0 hT201
    have hB192 := hB192.tch0 hT201
    have nF_hB203 : ¬ F (w189.heap.size) := fun e => by have := hlt_ _ e; omega
    refine ⟨⟨hHr, hP, hB4⟩, ?_⟩
    have hlt_ := hL.lt
    have lt217 := hP.lt
    have lt218 := hB4.lt
    have lt219 := hB10.lt
    have lt220 := hB192.lt
    have lt221 := hB203.lt
    have z222 := hT0.size
    have l223 := hP.lt
    have l224 := hB4.lt
    have l225 := hB10.lt
    have l226 := hB192.lt
    have l227 := hB203.lt
    refine zD 25 rfl (S_new (v := .pointer (some ⟨w200.heap.size, 0, none⟩)) (ob := .cells #[.int .u64 0, .int .u64 0] 100) (by kernel_rfl) fun w213 hT214 hs215 hB216 => ?_)
    replace hB216 : Blk w213 (w200.heap.size) 100 [.int .u64 0, .int .u64 0] := hB216
    have hT0 := hT0.t0 hT214
    have hL := hL.tch0 hT214
    have hP := hP.tch0 hT214
    have hHr := hH.tch0 hT0
    have hB4 := hB4.tch0 hT214
    have hB10 := hB10.tch0 hT214
    have hB192 := hB192.tch0 hT214
    have hB203 := hB203.tch0 hT214
    have nF_hB216 : ¬ F (w200.heap.size) := fun e => by have := hlt_ _ e; omega
    refine ⟨⟨hHr, hP, hB4⟩, ?_⟩
    refine zD 27 rfl (S_storeA (b := w189.heap.size) (j := 0) (cs := [.int .u64 (((kg l a).1 : Nat) : Int), .int .u64 (((kg l a).2 : Nat) : Int)]) (by kernel_rfl) (by kernel_rfl) (by kernel_rfl) (by simp [oneV]) hB203 (by simp) fun w228 hT229 hs230 hB203' => ?_)
    have hT0 := (hT0).then hT229 (fun c e => by have : c = w189.heap.size := e; omega)
    have hL := hL.tchS hT229 (fun c e q => by cases e; exact nF_hB203 q)
    have hP := hP.tch hT229 (hP.ne hB203 (by decide))
    have hHr := hH.tch0 hT0
    have hB4 := hB4.tch hT229 (hB4.ne hB203 (by decide))
    have hB10 := hB10.tch hT229 (fun e => by have : w1.heap.size = w189.heap.size := e; omega)
    have hB192 := hB192.tch hT229 (fun e => by have : w16.heap.size = w189.heap.size := e; omega)
    have hB216 := hB216.tch hT229 (fun e => by have : w200.heap.size = w189.heap.size := e; omega)
    replace hB203 : Blk w228 w189.heap.size 100 [.int .u64 (((kg l a).1 : Nat) : Int), .int .u64 (((kg l a).2 : Nat) : Int)] := hB203'
    refine ⟨⟨hHr, hP, hB4⟩, ?_⟩
    refine zD 28 rfl (S_storeA (b := w200.heap.size) (j := 0) (cs := [.int .u64 (((kg l b).1 : Nat) : Int), .int .u64 (((kg l b).2 : Nat) : Int)]) (by kernel_rfl) (by kernel_rfl) (by kernel_rfl) (by simp [oneV]) hB216 (by simp) fun w231 hT232 hs233 hB216' => ?_)
    have hT0 := (hT0).then hT232 (fun c e => by have : c = w200.heap.size := e; omega)
    have hL := hL.tchS hT232 (fun c e q => by cases e; exact nF_hB216 q)
    have hP := hP.tch hT232 (hP.ne hB216 (by decide))
    have hHr := hH.tch0 hT0
    have hB4 := hB4.tch hT232 (hB4.ne hB216 (by decide))
    have hB10 := hB10.tch hT232 (fun e => by have : w1.heap.size = w200.heap.size := e; omega)
    have hB192 := hB192.tch hT232 (fun e => by have : w16.heap.size = w200.heap.size := e; omega)
    have hB203 := hB203.tch hT232 (fun e => by have : w189.heap.size = w200.heap.size := e; omega)
    replace hB216 : Blk w231 w200.heap.size 100 [.int .u64 (((kg l b).1 : Nat) : Int), .int .u64 (((kg l b).2 : Nat) : Int)] := hB216'
    refine ⟨⟨hHr, hP, hB4⟩, ?_⟩
    refine zD 29 rfl (S_storeA (b := w16.heap.size) (j := 0) (cs := [.int .u64 (((kg l c).1 : Nat) : Int), .int .u64 (((kg l c).2 : Nat) : Int)]) (by kernel_rfl) (by kernel_rfl) (by kernel_rfl) (by simp [oneV]) hB192 (by simp) fun w234 hT235 hs236 hB192' => ?_)
    have hT0 := (hT0).then hT235 (fun c e => by have : c = w16.heap.size := e; omega)
    have hL := hL.tchS hT235 (fun c e q => by cases e; exact nF_hB192 q)
    have hP := hP.tch hT235 (hP.ne hB192 (by decide))
    have hHr := hH.tch0 hT0
    have hB4 := hB4.tch hT235 (hB4.ne hB192 (by decide))
    have hB10 := hB10.tch hT235 (fun e => by have : w1.heap.size = w16.heap.size := e; omega)
    have hB203 := hB203.tch hT235 (fun e => by have : w189.heap.size = w16.heap.size := e; omega)
    have hB216 := hB216.tch hT235 (fun e => by have : w200.heap.size = w16.heap.size := e; omega)
    replace hB192 : Blk w234 w16.heap.size 100 [.int .u64 (((kg l c).1 : Nat) : Int), .int .u64 (((kg l c).2 : Nat) : Int)] := hB192'
    refine ⟨⟨hHr, hP, hB4⟩, ?_⟩
    refine d_done (by kernel_rfl) ?_
    exact ⟨w189.heap.size, w200.heap.size, w16.heap.size, _, updL_self (by kernel_rfl), hT0, hL, hP, hHr, hB4, hB10, hB203, hB216, hB192, by omega, by omega, by omega, (fun e => by have := hltE _ e; omega), (fun e => by have := hltE _ e; omega), (fun e => by have := hltE _ e; omega)⟩
   ·
    have hlt_ := hL.lt
    have lt241 := hP.lt
    have lt242 := hB4.lt
    have lt243 := hB10.lt
    have lt244 := hB192.lt
    have z245 := hT0.size
    have l246 := hP.lt
    have l247 := hB4.lt
    have l248 := hB10.lt
    have l249 := hB192.lt
    refine (S_new (v := .pointer (some ⟨w189.heap.size, 0, none⟩)) (ob := .cells #[.int .u64 0, .int .u64 0] 100) (by kernel_rfl) fun w237 hT238 hs239 hB240 => ?_)
    replace hB240 : Blk w237 (w189.heap.size) 100 [.int .u64 0, .int .u64 0] := hB240
    have hT0 := hT0.t0 hT238
    have hL := hL.tch0 hT238
    have hP := hP.tch0 hT238
    have hHr := hH.tch0 hT0
    have hB4 := hB4.tch0 hT238
    have hB10 := hB10.tch0 hT238
    have hB192 := hB192.tch0 hT238
    have nF_hB240 : ¬ F (w189.heap.size) := fun e => by have := hlt_ _ e; omega
    refine ⟨⟨hHr, hP, hB4⟩, ?_⟩
    have hlt_ := hL.lt
    have lt254 := hP.lt
    have lt255 := hB4.lt
    have lt256 := hB10.lt
    have lt257 := hB192.lt
    have lt258 := hB240.lt
    have z259 := hT0.size
    have l260 := hP.lt
    have l261 := hB4.lt
    have l262 := hB10.lt
    have l263 := hB192.lt
    have l264 := hB240.lt
    refine zD 24 rfl (S_new (v := .pointer (some ⟨w237.heap.size, 0, none⟩)) (ob := .cells #[.int .u64 0, .int .u64 0] 100) (by kernel_rfl) fun w250 hT251 hs252 hB253 => ?_)
    replace hB253 : Blk w250 (w237.heap.size) 100 [.int .u64 0, .int .u64 0] := hB253
    have hT0 := hT0.t0 hT251
    have hL := hL.tch0 hT251
    have hP := hP.tch0 hT251
    have hHr := hH.tch0 hT0
    have hB4 := hB4.tch0 hT251
    have hB10 := hB10.tch0 hT251
    have hB192 := hB192.tch0 hT251
    have hB240 := hB240.tch0 hT251
    have nF_hB253 : ¬ F (w237.heap.size) := fun e => by have := hlt_ _ e; omega
    refine ⟨⟨hHr, hP, hB4⟩, ?_⟩
    refine zD 27 rfl (S_storeA (b := w237.heap.size) (j := 0) (cs := [.int .u64 (((kg l a).1 : Nat) : Int), .int .u64 (((kg l a).2 : Nat) : Int)]) (by kernel_rfl) (by kernel_rfl) (by kernel_rfl) (by simp [oneV]) hB253 (by simp) fun w265 hT266 hs267 hB253' => ?_)
    have hT0 := (hT0).then hT266 (fun c e => by have : c = w237.heap.size := e; omega)
    have hL := hL.tchS hT266 (fun c e q => by cases e; exact nF_hB253 q)
    have hP := hP.tch hT266 (hP.ne hB253 (by decide))
    have hHr := hH.tch0 hT0
    have hB4 := hB4.tch hT266 (hB4.ne hB253 (by decide))
    have hB10 := hB10.tch hT266 (fun e => by have : w1.heap.size = w237.heap.size := e; omega)
    have hB192 := hB192.tch hT266 (fun e => by have : w16.heap.size = w237.heap.size := e; omega)
    have hB240 := hB240.tch hT266 (fun e => by have : w189.heap.size = w237.heap.size := e; omega)
    replace hB253 : Blk w265 w237.heap.size 100 [.int .u64 (((kg l a).1 : Nat) : Int), .int .u64 (((kg l a).2 : Nat) : Int)] := hB253'
    refine ⟨⟨hHr, hP, hB4⟩, ?_⟩
    refine zD 28 rfl (S_storeA (b := w189.heap.size) (j := 0) (cs := [.int .u64 (((kg l b).1 : Nat) : Int), .int .u64 (((kg l b).2 : Nat) : Int)]) (by kernel_rfl) (by kernel_rfl) (by kernel_rfl) (by simp [oneV]) hB240 (by simp) fun w268 hT269 hs270 hB240' => ?_)
    have hT0 := (hT0).then hT269 (fun c e => by have : c = w189.heap.size := e; omega)
    have hL := hL.tchS hT269 (fun c e q => by cases e; exact nF_hB240 q)
    have hP := hP.tch hT269 (hP.ne hB240 (by decide))
    have hHr := hH.tch0 hT0
    have hB4 := hB4.tch hT269 (hB4.ne hB240 (by decide))
    have hB10 := hB10.tch hT269 (fun e => by have : w1.heap.size = w189.heap.size := e; omega)
    have hB192 := hB192.tch hT269 (fun e => by have : w16.heap.size = w189.heap.size := e; omega)
    have hB253 := hB253.tch hT269 (fun e => by have : w237.heap.size = w189.heap.size := e; omega)
    replace hB240 : Blk w268 w189.heap.size 100 [.int .u64 (((kg l b).1 : Nat) : Int), .int .u64 (((kg l b).2 : Nat) : Int)] := hB240'
    refine ⟨⟨hHr, hP, hB4⟩, ?_⟩
    refine zD 29 rfl (S_storeA (b := w16.heap.size) (j := 0) (cs := [.int .u64 (((kg l c).1 : Nat) : Int), .int .u64 (((kg l c).2 : Nat) : Int)]) (by kernel_rfl) (by kernel_rfl) (by kernel_rfl) (by simp [oneV]) hB192 (by simp) fun w271 hT272 hs273 hB192' => ?_)
    have hT0 := (hT0).then hT272 (fun c e => by have : c = w16.heap.size := e; omega)
    have hL := hL.tchS hT272 (fun c e q => by cases e; exact nF_hB192 q)
    have hP := hP.tch hT272 (hP.ne hB192 (by decide))
    have hHr := hH.tch0 hT0
    have hB4 := hB4.tch hT272 (hB4.ne hB192 (by decide))
    have hB10 := hB10.tch hT272 (fun e => by have : w1.heap.size = w16.heap.size := e; omega)
    have hB240 := hB240.tch hT272 (fun e => by have : w189.heap.size = w16.heap.size := e; omega)
    have hB253 := hB253.tch hT272 (fun e => by have : w237.heap.size = w16.heap.size := e; omega)
    replace hB192 : Blk w271 w16.heap.size 100 [.int .u64 (((kg l c).1 : Nat) : Int), .int .u64 (((kg l c).2 : Nat) : Int)] := hB192'
    refine ⟨⟨hHr, hP, hB4⟩, ?_⟩
    refine d_done (by kernel_rfl) ?_
    exact ⟨w237.heap.size, w189.heap.size, w16.heap.size, _, updL_self (by kernel_rfl), hT0, hL, hP, hHr, hB4, hB10, hB253, hB240, hB192, by omega, by omega, by omega, (fun e => by have := hltE _ e; omega), (fun e => by have := hltE _ e; omega), (fun e => by have := hltE _ e; omega)⟩
 ·
  rintro _ w274 ⟨b5, b6, b7, ρ, rfl, hT0, hL, hP, hHr, hB4, hB10, hX5, hX6, hX7, hge_hX5, hge_hX6, hge_hX7, nF_hX5, nF_hX6, nF_hX7⟩
  have lt276 := hX5.lt
  have lt277 := hX6.lt
  have lt278 := hX7.lt
  refine W_seq ?_
  refine W_block ?_
  refine zQ ?_
  refine zS [(34, .pointer (some ⟨b5, 0, none⟩))] ?_
  refine zL (.int .u64 (((kg l a).1 : Nat) : Int)) ((hX5.cell 0).trans rfl) ?_
  refine zS [(36, .bool ((((kg l a).1 : Nat) : Int) == 1)), (37, .bool ((((kg l a).1 : Nat) : Int) == 1))] ?_
  cases hb279 : (((kg l a).1 : Nat) : Int) == 1
  ·
   replace hb279 : (((kg l a).1 : Nat) : Int) ≠ 1 := (ne_of_beq_false hb279)
   refine zS [(38, undef), (39, undef), (40, undef), (41, .bool false), (33, .bool false)] ?_
   refine zO false (fun h => nomatch h) (fun _ => ?_)
   refine zQ ?_
   refine zS [(44, .pointer (some ⟨b5, 0, none⟩))] ?_
   refine zL (.int .u64 (((kg l a).1 : Nat) : Int)) ((hX5.cell 0).trans rfl) ?_
   refine zS [(46, .bool ((((kg l a).1 : Nat) : Int) == 1)), (43, .bool ((((kg l a).1 : Nat) : Int) == 1))] ?_
   refine zO ((((kg l a).1 : Nat) : Int) == 1) (fun hc280 => ?_) (fun hc280 => ?_)
   ·
    replace hc280 : (((kg l a).1 : Nat) : Int) = 1 := (eq_of_beq hc280)
    exfalso; omega
   ·
    replace hc280 : (((kg l a).1 : Nat) : Int) ≠ 1 := (ne_of_beq_false hc280)
    refine W_skip ?_
    refine zQ ?_
    refine zS [(48, .pointer (some ⟨b6, 0, none⟩))] ?_
    refine zL (.int .u64 (((kg l b).1 : Nat) : Int)) ((hX6.cell 0).trans rfl) ?_
    refine zS [(50, .pointer (some ⟨b7, 0, none⟩))] ?_
    refine zL (.int .u64 (((kg l c).1 : Nat) : Int)) ((hX7.cell 0).trans rfl) ?_
    refine zS [(52, .int .u64 (IntKind.u64.wrap (BitVec.ofInt 64 (((kg l b).1 : Nat) : Int) &&& BitVec.ofInt 64 (((kg l c).1 : Nat) : Int)).toNat))] ?_
    rw [show IntKind.u64.wrap (BitVec.ofInt 64 (((kg l b).1 : Nat) : Int) &&& BitVec.ofInt 64 (((kg l c).1 : Nat) : Int)).toNat = ((((kg l b).1) &&& ((kg l c).1) : Nat) : Int) from and_u ((kg l b).1) ((kg l c).1) ub1 uc1]
    have hu281 : ((kg l b).1) &&& ((kg l c).1) < 18446744073709551616 := and_lt ub1
    refine zS [(53, .pointer (some ⟨b6, 1, none⟩))] ?_
    refine zL (.int .u64 (((kg l b).2 : Nat) : Int)) ((hX6.cell 1).trans rfl) ?_
    refine zS [(55, .pointer (some ⟨b7, 1, none⟩))] ?_
    refine zL (.int .u64 (((kg l c).2 : Nat) : Int)) ((hX7.cell 1).trans rfl) ?_
    refine zS [(57, .int .u64 (IntKind.u64.wrap (BitVec.ofInt 64 (((kg l b).2 : Nat) : Int) ^^^ BitVec.ofInt 64 (((kg l c).2 : Nat) : Int)).toNat))] ?_
    rw [show IntKind.u64.wrap (BitVec.ofInt 64 (((kg l b).2 : Nat) : Int) ^^^ BitVec.ofInt 64 (((kg l c).2 : Nat) : Int)).toNat = ((((kg l b).2) ^^^ ((kg l c).2) : Nat) : Int) from xor_u ((kg l b).2) ((kg l c).2) ub2 uc2]
    have hu282 : ((kg l b).2) ^^^ ((kg l c).2) < 18446744073709551616 := xor_lt ub2 uc2
    refine zS [(58, .int .u64 (IntKind.u64.wrap (BitVec.ofInt 64 ((((kg l b).1) &&& ((kg l c).1) : Nat) : Int) &&& ~~~BitVec.ofInt 64 ((((kg l b).2) ^^^ ((kg l c).2) : Nat) : Int)).toNat))] ?_
    rw [show IntKind.u64.wrap (BitVec.ofInt 64 ((((kg l b).1) &&& ((kg l c).1) : Nat) : Int) &&& ~~~BitVec.ofInt 64 ((((kg l b).2) ^^^ ((kg l c).2) : Nat) : Int)).toNat = ((andn (((kg l b).1) &&& ((kg l c).1)) (((kg l b).2) ^^^ ((kg l c).2)) : Nat) : Int) from andn_u (((kg l b).1) &&& ((kg l c).1)) (((kg l b).2) ^^^ ((kg l c).2)) hu281 hu282]
    have hu283 : andn (((kg l b).1) &&& ((kg l c).1)) (((kg l b).2) ^^^ ((kg l c).2)) < 18446744073709551616 := andn_lt hu281
    refine zS [(8, .int .u64 ((andn (((kg l b).1) &&& ((kg l c).1)) (((kg l b).2) ^^^ ((kg l c).2)) : Nat) : Int))] ?_
    refine op_nil ?_
    refine zQ ?_
    refine zS [(59, .int .u64 ((andn (((kg l b).1) &&& ((kg l c).1)) (((kg l b).2) ^^^ ((kg l c).2)) : Nat) : Int)), (60, .pointer (some ⟨b6, 1, none⟩))] ?_
    refine zL (.int .u64 (((kg l b).2 : Nat) : Int)) ((hX6.cell 1).trans rfl) ?_
    refine zS [(62, .int .u64 ((andn (((kg l b).1) &&& ((kg l c).1)) (((kg l b).2) ^^^ ((kg l c).2)) : Nat) : Int)), (63, .int .u64 (IntKind.u64.wrap (BitVec.ofInt 64 (((kg l b).2 : Nat) : Int) &&& BitVec.ofInt 64 ((andn (((kg l b).1) &&& ((kg l c).1)) (((kg l b).2) ^^^ ((kg l c).2)) : Nat) : Int)).toNat))] ?_
    rw [show IntKind.u64.wrap (BitVec.ofInt 64 (((kg l b).2 : Nat) : Int) &&& BitVec.ofInt 64 ((andn (((kg l b).1) &&& ((kg l c).1)) (((kg l b).2) ^^^ ((kg l c).2)) : Nat) : Int)).toNat = ((((kg l b).2) &&& (andn (((kg l b).1) &&& ((kg l c).1)) (((kg l b).2) ^^^ ((kg l c).2))) : Nat) : Int) from and_u ((kg l b).2) (andn (((kg l b).1) &&& ((kg l c).1)) (((kg l b).2) ^^^ ((kg l c).2))) ub2 hu283]
    have hu284 : ((kg l b).2) &&& (andn (((kg l b).1) &&& ((kg l c).1)) (((kg l b).2) ^^^ ((kg l c).2))) < 18446744073709551616 := and_lt ub2
    refine zS [(64, .agg #[.int .u64 ((andn (((kg l b).1) &&& ((kg l c).1)) (((kg l b).2) ^^^ ((kg l c).2)) : Nat) : Int), .int .u64 ((((kg l b).2) &&& (andn (((kg l b).1) &&& ((kg l c).1)) (((kg l b).2) ^^^ ((kg l c).2))) : Nat) : Int)])] ?_
    refine st (by rfl) (S_storeA (b := w1.heap.size) (j := 0) (cs := [.int .u64 ((andn (((kg l b).1) &&& ((kg l c).1)) (((kg l b).2) ^^^ ((kg l c).2)) : Nat) : Int), .int .u64 ((((kg l b).2) &&& (andn (((kg l b).1) &&& ((kg l c).1)) (((kg l b).2) ^^^ ((kg l c).2))) : Nat) : Int)]) (by kernel_rfl) (by kernel_rfl) (by kernel_rfl) (by simp [oneV]) hB10 (by simp) fun w285 hT286 hs287 hB10' => ?_)
    have hT0 := (hT0).then hT286 (fun c e => by have : c = w1.heap.size := e; omega)
    have hL := hL.tchS hT286 (fun c e q => by cases e; exact nF_hB10 q)
    have hP := hP.tch hT286 (hP.ne hB10 (by decide))
    have hHr := hH.tch0 hT0
    have hB4 := hB4.tch hT286 (hB4.ne hB10 (by decide))
    have hX5 := hX5.tch hT286 (fun e => by have : b5 = w1.heap.size := e; omega)
    have hX6 := hX6.tch hT286 (fun e => by have : b6 = w1.heap.size := e; omega)
    have hX7 := hX7.tch hT286 (fun e => by have : b7 = w1.heap.size := e; omega)
    replace hB10 : Blk w285 w1.heap.size 100 [.int .u64 ((andn (((kg l b).1) &&& ((kg l c).1)) (((kg l b).2) ^^^ ((kg l c).2)) : Nat) : Int), .int .u64 ((((kg l b).2) &&& (andn (((kg l b).1) &&& ((kg l c).1)) (((kg l b).2) ^^^ ((kg l c).2))) : Nat) : Int)] := hB10'
    refine op_nil ?_
    refine W_ret ?_
    refine ⟨_, Res_cell (b := w1.heap.size) (cs := [.int .u64 ((andn (((kg l b).1) &&& ((kg l c).1)) (((kg l b).2) ^^^ ((kg l c).2)) : Nat) : Int), .int .u64 ((((kg l b).2) &&& (andn (((kg l b).1) &&& ((kg l c).1)) (((kg l b).2) ^^^ ((kg l c).2))) : Nat) : Int)]) (by rfl) (by kernel_rfl) (by kernel_rfl) hB10 (by kernel_rfl) (by kernel_rfl), ?_⟩
    have e : kite nw (kg l a) (kg l b) (kg l c) = ksame nw (kg l b) (kg l c) := by unfold kite; rw [if_neg (fun q => by have := k1_of (hxa) q.1; omega), if_neg (fun q => by have := k1_of (hxa) q; omega)]
    rw [e, ← ksame_eq hxb]
    exact ⟨rfl, hT0⟩
  ·
   replace hb279 : (((kg l a).1 : Nat) : Int) = 1 := (eq_of_beq hb279)
   refine zS [(38, .pointer (some ⟨b5, 1, none⟩))] ?_
   refine zL (.int .u64 (((kg l a).2 : Nat) : Int)) ((hX5.cell 1).trans rfl) ?_
   refine zS [(40, .bool ((((kg l a).2 : Nat) : Int) == 1)), (41, .bool ((((kg l a).2 : Nat) : Int) == 1)), (33, .bool ((((kg l a).2 : Nat) : Int) == 1))] ?_
   refine zO ((((kg l a).2 : Nat) : Int) == 1) (fun hc288 => ?_) (fun hc288 => ?_)
   ·
    replace hc288 : (((kg l a).2 : Nat) : Int) = 1 := (eq_of_beq hc288)
    refine zQ ?_
    refine st (by rfl) (S_val (v := .agg #[.int .u64 (((kg l b).1 : Nat) : Int), .int .u64 (((kg l b).2 : Nat) : Int)]) (R_loadA [.int .u64 (((kg l b).1 : Nat) : Int), .int .u64 (((kg l b).2 : Nat) : Int)] (by kernel_rfl) (by kernel_rfl) (by kernel_rfl) (fun k u hk => by rw [hX6.cell]; exact get_part _ 0 _ k u rfl hk)) ?_)
    refine st (by rfl) (S_storeA (b := w1.heap.size) (j := 0) (cs := [.int .u64 (((kg l b).1 : Nat) : Int), .int .u64 (((kg l b).2 : Nat) : Int)]) (by kernel_rfl) (by kernel_rfl) (by kernel_rfl) (by simp [oneV]) hB10 (by simp) fun w289 hT290 hs291 hB10' => ?_)
    have hT0 := (hT0).then hT290 (fun c e => by have : c = w1.heap.size := e; omega)
    have hL := hL.tchS hT290 (fun c e q => by cases e; exact nF_hB10 q)
    have hP := hP.tch hT290 (hP.ne hB10 (by decide))
    have hHr := hH.tch0 hT0
    have hB4 := hB4.tch hT290 (hB4.ne hB10 (by decide))
    have hX5 := hX5.tch hT290 (fun e => by have : b5 = w1.heap.size := e; omega)
    have hX6 := hX6.tch hT290 (fun e => by have : b6 = w1.heap.size := e; omega)
    have hX7 := hX7.tch hT290 (fun e => by have : b7 = w1.heap.size := e; omega)
    replace hB10 : Blk w289 w1.heap.size 100 [.int .u64 (((kg l b).1 : Nat) : Int), .int .u64 (((kg l b).2 : Nat) : Int)] := hB10'
    refine op_nil ?_
    refine W_ret ?_
    refine ⟨_, Res_cell (b := w1.heap.size) (cs := [.int .u64 (((kg l b).1 : Nat) : Int), .int .u64 (((kg l b).2 : Nat) : Int)]) (by rfl) (by kernel_rfl) (by kernel_rfl) hB10 (by kernel_rfl) (by kernel_rfl), ?_⟩
    have e : kite nw (kg l a) (kg l b) (kg l c) = (kg l b) := by unfold kite; rw [if_pos ⟨k1_bit hxa (by omega), k1_val hxa (by omega)⟩]
    rw [e]
    exact ⟨rfl, hT0⟩
   ·
    replace hc288 : (((kg l a).2 : Nat) : Int) ≠ 1 := (ne_of_beq_false hc288)
    refine zQ ?_
    refine zS [(44, .pointer (some ⟨b5, 0, none⟩))] ?_
    refine zL (.int .u64 (((kg l a).1 : Nat) : Int)) ((hX5.cell 0).trans rfl) ?_
    refine zS [(46, .bool ((((kg l a).1 : Nat) : Int) == 1)), (43, .bool ((((kg l a).1 : Nat) : Int) == 1))] ?_
    refine zO ((((kg l a).1 : Nat) : Int) == 1) (fun hc292 => ?_) (fun hc292 => ?_)
    ·
     replace hc292 : (((kg l a).1 : Nat) : Int) = 1 := (eq_of_beq hc292)
     refine zQ ?_
     refine st (by rfl) (S_val (v := .agg #[.int .u64 (((kg l c).1 : Nat) : Int), .int .u64 (((kg l c).2 : Nat) : Int)]) (R_loadA [.int .u64 (((kg l c).1 : Nat) : Int), .int .u64 (((kg l c).2 : Nat) : Int)] (by kernel_rfl) (by kernel_rfl) (by kernel_rfl) (fun k u hk => by rw [hX7.cell]; exact get_part _ 0 _ k u rfl hk)) ?_)
     refine st (by rfl) (S_storeA (b := w1.heap.size) (j := 0) (cs := [.int .u64 (((kg l c).1 : Nat) : Int), .int .u64 (((kg l c).2 : Nat) : Int)]) (by kernel_rfl) (by kernel_rfl) (by kernel_rfl) (by simp [oneV]) hB10 (by simp) fun w293 hT294 hs295 hB10' => ?_)
     have hT0 := (hT0).then hT294 (fun c e => by have : c = w1.heap.size := e; omega)
     have hL := hL.tchS hT294 (fun c e q => by cases e; exact nF_hB10 q)
     have hP := hP.tch hT294 (hP.ne hB10 (by decide))
     have hHr := hH.tch0 hT0
     have hB4 := hB4.tch hT294 (hB4.ne hB10 (by decide))
     have hX5 := hX5.tch hT294 (fun e => by have : b5 = w1.heap.size := e; omega)
     have hX6 := hX6.tch hT294 (fun e => by have : b6 = w1.heap.size := e; omega)
     have hX7 := hX7.tch hT294 (fun e => by have : b7 = w1.heap.size := e; omega)
     replace hB10 : Blk w293 w1.heap.size 100 [.int .u64 (((kg l c).1 : Nat) : Int), .int .u64 (((kg l c).2 : Nat) : Int)] := hB10'
     refine op_nil ?_
     refine W_ret ?_
     refine ⟨_, Res_cell (b := w1.heap.size) (cs := [.int .u64 (((kg l c).1 : Nat) : Int), .int .u64 (((kg l c).2 : Nat) : Int)]) (by rfl) (by kernel_rfl) (by kernel_rfl) hB10 (by kernel_rfl) (by kernel_rfl), ?_⟩
     have e : kite nw (kg l a) (kg l b) (kg l c) = (kg l c) := by unfold kite; rw [if_neg (fun q => by have := k1_two hxa q.2; omega), if_pos (k1_bit hxa (by omega))]
     rw [e]
     exact ⟨rfl, hT0⟩
    ·
     replace hc292 : (((kg l a).1 : Nat) : Int) ≠ 1 := (ne_of_beq_false hc292)
     exfalso; omega

end Go.Proofs.YtlbadnpgmkobdaaV
