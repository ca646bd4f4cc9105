/- Walks of functions of the program and of the document's texts. The conditions stand with each theorem. -/
import Derived.Test.YtlbadnpgmkobdaaJRrang26x1
import Derived.Test.YtlbadnpgmkobdaaJRrang26x1
import Derived.Test.YtlbadnpgmkobdaaProg
import Derived.Test.YtlbadnpgmkobdaaJRrang26x9
set_option linter.unusedVariables false
set_option linter.unusedSimpArgs false
namespace Go.Proofs.YtlbadnpgmkobdaaV
open Go Go.RowKit Go.Proofs

theorem beq_sp (a b : Nat) : (((a : Nat) : Int) == ((b : Nat) : Int)) = decide (a = b) := by
 by_cases h : a = b
 ·
  subst h; simp
 ·
  rw [decide_eq_false h]; exact beq_eq_false_iff_ne.2 (by omega)
theorem rtruth_congr {m n m' n' : Bool} (h : m = m') (k : n = n') : rtruth m n = rtruth m' n' := by rw [h, k]

set_option maxRecDepth 100000 in
set_option maxHeartbeats 2000000 in
theorem rbin_ok_ (O wd : Nat) (x y : K) (w : World) (hx : RI wd x) (hy : RI wd y) (h1 : 1 ≤ wd) (hw : wd ≤ 64) (hO : 1 ≤ O ∧ O ≤ 14) : Ret Try.prog 92 [.int .i64 ((O : Nat) : Int), .int .i64 ((wd : Nat) : Int), .agg #[.int .u64 ((x.1 : Nat) : Int), .int .u64 ((x.2 : Nat) : Int)], .agg #[.int .u64 ((y.1 : Nat) : Int), .int .u64 ((y.2 : Nat) : Int)]] w fun v w' => v = .agg #[.int .u64 (((rbin O wd x y).1 : Nat) : Int), .int .u64 (((rbin O wd x y).2 : Nat) : Int)] ∧ Tch N0 w w' := by
 have hp := pw_pos wd
 have hp64 := pw64 hw
 have ux1 := hx.u1 hw
 have ux2 := hx.u2 hw
 have uy1 := hy.u1 hw
 have uy2 := hy.u2 hw
 have hx1 := hx.1
 have hx2 := hx.2
 have hy1 := hy.1
 have hy2 := hy.2
 have hm1 := Nat.mul_le_mul hx1 hy1
 refine enter Try.func92 rfl rfl ?_
 refine zQ ?_
 refine st (by rfl) (S_new (v := .pointer (some ⟨w.heap.size, 0, none⟩)) (ob := .cells #[.int .u64 ((x.1 : Nat) : Int), .int .u64 ((x.2 : Nat) : Int)] 113) (by kernel_rfl) fun w1 hT2 hs3 hB4 => ?_)
 replace hB4 : Blk w1 (w.heap.size) 113 [.int .u64 ((x.1 : Nat) : Int), .int .u64 ((x.2 : Nat) : Int)] := hB4
 have hT0 := hT2
 have z9 := hT0.size
 have l10 := hB4.lt
 refine st (by rfl) (S_new (v := .pointer (some ⟨w1.heap.size, 0, none⟩)) (ob := .cells #[.int .u64 ((y.1 : Nat) : Int), .int .u64 ((y.2 : Nat) : Int)] 113) (by kernel_rfl) fun w5 hT6 hs7 hB8 => ?_)
 replace hB8 : Blk w5 (w1.heap.size) 113 [.int .u64 ((y.1 : Nat) : Int), .int .u64 ((y.2 : Nat) : Int)] := hB8
 have hT0 := hT0.t0 hT6
 have hB4 := hB4.tch0 hT6
 have z15 := hT0.size
 have l16 := hB4.lt
 have l17 := hB8.lt
 refine st (by rfl) (S_new (v := .pointer (some ⟨w5.heap.size, 0, none⟩)) (ob := .cells #[.int .u64 0, .int .u64 0] 113) (by kernel_rfl) fun w11 hT12 hs13 hB14 => ?_)
 replace hB14 : Blk w11 (w5.heap.size) 113 [.int .u64 0, .int .u64 0] := hB14
 have hT0 := hT0.t0 hT12
 have hB4 := hB4.tch0 hT12
 have hB8 := hB8.tch0 hT12
 refine op_nil ?_
 refine zQ ?_
 refine zS [(12, .int .i64 ((wd : Nat) : Int))] ?_
 refine zC (mask_okN wd _ (by omega)) ?_
 rintro _ w18 ⟨rfl, hT19⟩
 have hT0 := hT0.t0 hT19
 have hB4 := hB4.tch0 hT19
 have hB8 := hB8.tch0 hT19
 have hB14 := hB14.tch0 hT19
 have hu20 := pwm_lt (x := wd) (by omega)
 refine zS [(9, .int .u64 ((pw wd - 1 : Nat) : Int))] ?_
 refine op_nil ?_
 refine W_seq ?_
 refine zQ ?_
 refine zS [(14, .int .i64 ((O : Nat) : Int))] ?_
 refine op_nil ?_
 refine W_block ?_
 refine W_seq ?_
 refine W_block ?_
 refine W_seq ?_
 refine W_block ?_
 refine W_seq ?_
 refine W_block ?_
 refine W_seq ?_
 refine W_block ?_
 refine W_seq ?_
 refine W_block ?_
 refine W_seq ?_
 refine W_block ?_
 refine W_seq ?_
 refine W_block ?_
 refine W_seq ?_
 refine W_block ?_
 refine W_seq ?_
 refine W_block ?_
 refine W_seq ?_
 refine W_block ?_
 refine W_seq ?_
 refine W_block ?_
 refine W_seq ?_
 refine W_seq ?_
 refine zQ ?_
 refine zS [(16, .bool (((O : Nat) : Int) == 1)), (15, .bool (((O : Nat) : Int) == 1))] ?_
 refine zO (((O : Nat) : Int) == 1) (fun hc21 => ?_) (fun hc21 => ?_)
 ·
  replace hc21 : ((O : Nat) : Int) = 1 := (eq_of_beq hc21)
  refine W_exit ?_
  refine X_hit ?_
  refine W_seq ?_
  refine zQ ?_
  refine zS [(37, .pointer (some ⟨w.heap.size, 1, none⟩))] ?_
  refine zL (.int .u64 ((x.2 : Nat) : Int)) ((hB4.cell 1).trans rfl) ?_
  refine zS [(39, .int .u64 ((pw wd - 1 : Nat) : Int)), (40, .pointer (some ⟨w1.heap.size, 1, none⟩))] ?_
  refine zL (.int .u64 ((y.2 : Nat) : Int)) ((hB8.cell 1).trans rfl) ?_
  refine zS [(42, .int .u64 (IntKind.u64.wrap (((pw wd - 1 : Nat) : Int) - ((y.2 : Nat) : Int))))] ?_
  rw [show IntKind.u64.wrap (((pw wd - 1 : Nat) : Int) - ((y.2 : Nat) : Int)) = ((((pw wd - 1) + (18446744073709551616 - y.2)) % 18446744073709551616 : Nat) : Int) from u64_sub (pw wd - 1) y.2 hu20 uy2]
  have hu22 : ((pw wd - 1) + (18446744073709551616 - y.2)) % 18446744073709551616 < 18446744073709551616 := mod_lt64 _
  refine fixR (y := ((pw wd - 1 - y.2 : Nat) : Int)) (by omega) ?_
  refine zS [(43, .bool (decide (((x.2 : Nat) : Int) ≤ ((pw wd - 1 - y.2 : Nat) : Int))))] ?_
  refine zO (decide (((x.2 : Nat) : Int) ≤ ((pw wd - 1 - y.2 : Nat) : Int))) (fun hc23 => ?_) (fun hc23 => ?_)
  ·
   replace hc23 : ((x.2 : Nat) : Int) ≤ ((pw wd - 1 - y.2 : Nat) : Int) := (of_decide_eq_true hc23)
   refine zQ ?_
   refine zS [(44, .pointer (some ⟨w.heap.size, 0, none⟩))] ?_
   refine zL (.int .u64 ((x.1 : Nat) : Int)) ((hB4.cell 0).trans rfl) ?_
   refine zS [(46, .pointer (some ⟨w1.heap.size, 0, none⟩))] ?_
   refine zL (.int .u64 ((y.1 : Nat) : Int)) ((hB8.cell 0).trans rfl) ?_
   refine zS [(48, .int .u64 (IntKind.u64.wrap (((x.1 : Nat) : Int) + ((y.1 : Nat) : Int))))] ?_
   rw [show IntKind.u64.wrap (((x.1 : Nat) : Int) + ((y.1 : Nat) : Int)) = (((x.1 + y.1) % 18446744073709551616 : Nat) : Int) from u64_add x.1 y.1]
   have hu24 : (x.1 + y.1) % 18446744073709551616 < 18446744073709551616 := mod_lt64 _
   refine fixR (y := ((x.1 + y.1 : Nat) : Int)) (by omega) ?_
   refine zS [(49, .pointer (some ⟨w.heap.size, 1, none⟩))] ?_
   refine zL (.int .u64 ((x.2 : Nat) : Int)) ((hB4.cell 1).trans rfl) ?_
   refine zS [(51, .pointer (some ⟨w1.heap.size, 1, none⟩))] ?_
   refine zL (.int .u64 ((y.2 : Nat) : Int)) ((hB8.cell 1).trans rfl) ?_
   refine zS [(53, .int .u64 (IntKind.u64.wrap (((x.2 : Nat) : Int) + ((y.2 : Nat) : Int))))] ?_
   rw [show IntKind.u64.wrap (((x.2 : Nat) : Int) + ((y.2 : Nat) : Int)) = (((x.2 + y.2) % 18446744073709551616 : Nat) : Int) from u64_add x.2 y.2]
   have hu25 : (x.2 + y.2) % 18446744073709551616 < 18446744073709551616 := mod_lt64 _
   refine fixR (y := ((x.2 + y.2 : Nat) : Int)) (by omega) ?_
   refine zS [(54, .agg #[.int .u64 ((x.1 + y.1 : Nat) : Int), .int .u64 ((x.2 + y.2 : Nat) : Int)])] ?_
   refine st (by rfl) (S_storeA (b := w5.heap.size) (j := 0) (cs := [.int .u64 ((x.1 + y.1 : Nat) : Int), .int .u64 ((x.2 + y.2 : Nat) : Int)]) (by kernel_rfl) (by kernel_rfl) (by kernel_rfl) (by simp [oneV]) hB14 (by simp) fun w26 hT27 hs28 hB14' => ?_)
   have hT0 := (hT0).then hT27 (fun c e => by have : c = w5.heap.size := e; omega)
   have hB4 := hB4.tch hT27 (fun e => by have : w.heap.size = w5.heap.size := e; omega)
   have hB8 := hB8.tch hT27 (fun e => by have : w1.heap.size = w5.heap.size := e; omega)
   replace hB14 : Blk w26 w5.heap.size 113 [.int .u64 ((x.1 + y.1 : Nat) : Int), .int .u64 ((x.2 + y.2 : Nat) : Int)] := hB14'
   refine op_nil ?_
   refine W_ret ?_
   refine ⟨_, Res_cell (b := w5.heap.size) (cs := [.int .u64 ((x.1 + y.1 : Nat) : Int), .int .u64 ((x.2 + y.2 : Nat) : Int)]) (by rfl) (by kernel_rfl) (by kernel_rfl) hB14 (by kernel_rfl) (by kernel_rfl), ?_⟩
   have e : rbin O wd x y = (x.1 + y.1, x.2 + y.2) := by unfold rbin; (repeat (first | rw [if_pos (by omega)] | rw [if_neg (by omega)])); (first | done | rfl | exact Prod.ext (by first | rfl | omega) (by first | rfl | omega))
   rw [e]
   exact ⟨rfl, hT0⟩
  ·
   replace hc23 : ((pw wd - 1 - y.2 : Nat) : Int) < ((x.2 : Nat) : Int) := (Int.not_le.1 (of_decide_eq_false hc23))
   refine W_skip ?_
   refine W_exit ?_
   refine X_miss rfl ?_
   refine X_miss rfl ?_
   refine X_miss rfl ?_
   refine X_miss rfl ?_
   refine X_miss rfl ?_
   refine X_miss rfl ?_
   refine X_miss rfl ?_
   refine X_miss rfl ?_
   refine X_miss rfl ?_
   refine X_miss rfl ?_
   refine X_hit ?_
   refine zQ ?_
   refine zS [(174, .int .i64 ((wd : Nat) : Int))] ?_
   refine zC (all_ok wd _ (by omega)) ?_
   rintro _ w29 ⟨rfl, hT30⟩
   have hT0 := hT0.t0 hT30
   have hB4 := hB4.tch0 hT30
   have hB8 := hB8.tch0 hT30
   have hB14 := hB14.tch0 hT30
   refine st (by rfl) (S_storeA (b := w5.heap.size) (j := 0) (cs := [.int .u64 (((rall wd).1 : Nat) : Int), .int .u64 (((rall wd).2 : Nat) : Int)]) (by kernel_rfl) (by kernel_rfl) (by kernel_rfl) (by simp [oneV]) hB14 (by simp) fun w31 hT32 hs33 hB14' => ?_)
   have hT0 := (hT0).then hT32 (fun c e => by have : c = w5.heap.size := e; omega)
   have hB4 := hB4.tch hT32 (fun e => by have : w.heap.size = w5.heap.size := e; omega)
   have hB8 := hB8.tch hT32 (fun e => by have : w1.heap.size = w5.heap.size := e; omega)
   replace hB14 : Blk w31 w5.heap.size 113 [.int .u64 (((rall wd).1 : Nat) : Int), .int .u64 (((rall wd).2 : Nat) : Int)] := hB14'
   refine op_nil ?_
   refine W_ret ?_
   refine ⟨_, Res_cell (b := w5.heap.size) (cs := [.int .u64 (((rall wd).1 : Nat) : Int), .int .u64 (((rall wd).2 : Nat) : Int)]) (by rfl) (by kernel_rfl) (by kernel_rfl) hB14 (by kernel_rfl) (by kernel_rfl), ?_⟩
   have e : rbin O wd x y = rall wd := by unfold rbin; (repeat (first | rw [if_pos (by omega)] | rw [if_neg (by omega)]))
   rw [e]
   exact ⟨rfl, hT0⟩
 ·
  replace hc21 : ((O : Nat) : Int) ≠ 1 := (ne_of_beq_false hc21)
  refine W_skip ?_
  refine W_seq ?_
  refine zQ ?_
  refine zS [(18, .bool (((O : Nat) : Int) == 2)), (17, .bool (((O : Nat) : Int) == 2))] ?_
  refine zO (((O : Nat) : Int) == 2) (fun hc34 => ?_) (fun hc34 => ?_)
  ·
   replace hc34 : ((O : Nat) : Int) = 2 := (eq_of_beq hc34)
   refine W_exit ?_
   refine X_miss rfl ?_
   refine X_hit ?_
   refine W_seq ?_
   refine zQ ?_
   refine zS [(55, .pointer (some ⟨w.heap.size, 0, none⟩))] ?_
   refine zL (.int .u64 ((x.1 : Nat) : Int)) ((hB4.cell 0).trans rfl) ?_
   refine zS [(57, .pointer (some ⟨w1.heap.size, 1, none⟩))] ?_
   refine zL (.int .u64 ((y.2 : Nat) : Int)) ((hB8.cell 1).trans rfl) ?_
   refine zS [(59, .bool (decide (((x.1 : Nat) : Int) ≥ ((y.2 : Nat) : Int))))] ?_
   refine zO (decide (((x.1 : Nat) : Int) ≥ ((y.2 : Nat) : Int))) (fun hc35 => ?_) (fun hc35 => ?_)
   ·
    replace hc35 : ((y.2 : Nat) : Int) ≤ ((x.1 : Nat) : Int) := (of_decide_eq_true hc35)
    refine zQ ?_
    refine zS [(60, .pointer (some ⟨w.heap.size, 0, none⟩))] ?_
    refine zL (.int .u64 ((x.1 : Nat) : Int)) ((hB4.cell 0).trans rfl) ?_
    refine zS [(62, .pointer (some ⟨w1.heap.size, 1, none⟩))] ?_
    refine zL (.int .u64 ((y.2 : Nat) : Int)) ((hB8.cell 1).trans rfl) ?_
    refine zS [(64, .int .u64 (IntKind.u64.wrap (((x.1 : Nat) : Int) - ((y.2 : Nat) : Int))))] ?_
    rw [show IntKind.u64.wrap (((x.1 : Nat) : Int) - ((y.2 : Nat) : Int)) = (((x.1 + (18446744073709551616 - y.2)) % 18446744073709551616 : Nat) : Int) from u64_sub x.1 y.2 ux1 uy2]
    have hu36 : (x.1 + (18446744073709551616 - y.2)) % 18446744073709551616 < 18446744073709551616 := mod_lt64 _
    refine fixR (y := ((x.1 - y.2 : Nat) : Int)) (by omega) ?_
    refine zS [(65, .pointer (some ⟨w.heap.size, 1, none⟩))] ?_
    refine zL (.int .u64 ((x.2 : Nat) : Int)) ((hB4.cell 1).trans rfl) ?_
    refine zS [(67, .pointer (some ⟨w1.heap.size, 0, none⟩))] ?_
    refine zL (.int .u64 ((y.1 : Nat) : Int)) ((hB8.cell 0).trans rfl) ?_
    refine zS [(69, .int .u64 (IntKind.u64.wrap (((x.2 : Nat) : Int) - ((y.1 : Nat) : Int))))] ?_
    rw [show IntKind.u64.wrap (((x.2 : Nat) : Int) - ((y.1 : Nat) : Int)) = (((x.2 + (18446744073709551616 - y.1)) % 18446744073709551616 : Nat) : Int) from u64_sub x.2 y.1 ux2 uy1]
    have hu37 : (x.2 + (18446744073709551616 - y.1)) % 18446744073709551616 < 18446744073709551616 := mod_lt64 _
    refine fixR (y := ((x.2 - y.1 : Nat) : Int)) (by omega) ?_
    refine zS [(70, .agg #[.int .u64 ((x.1 - y.2 : Nat) : Int), .int .u64 ((x.2 - y.1 : Nat) : Int)])] ?_
    refine st (by rfl) (S_storeA (b := w5.heap.size) (j := 0) (cs := [.int .u64 ((x.1 - y.2 : Nat) : Int), .int .u64 ((x.2 - y.1 : Nat) : Int)]) (by kernel_rfl) (by kernel_rfl) (by kernel_rfl) (by simp [oneV]) hB14 (by simp) fun w38 hT39 hs40 hB14' => ?_)
    have hT0 := (hT0).then hT39 (fun c e => by have : c = w5.heap.size := e; omega)
    have hB4 := hB4.tch hT39 (fun e => by have : w.heap.size = w5.heap.size := e; omega)
    have hB8 := hB8.tch hT39 (fun e => by have : w1.heap.size = w5.heap.size := e; omega)
    replace hB14 : Blk w38 w5.heap.size 113 [.int .u64 ((x.1 - y.2 : Nat) : Int), .int .u64 ((x.2 - y.1 : Nat) : Int)] := hB14'
    refine op_nil ?_
    refine W_ret ?_
    refine ⟨_, Res_cell (b := w5.heap.size) (cs := [.int .u64 ((x.1 - y.2 : Nat) : Int), .int .u64 ((x.2 - y.1 : Nat) : Int)]) (by rfl) (by kernel_rfl) (by kernel_rfl) hB14 (by kernel_rfl) (by kernel_rfl), ?_⟩
    have e : rbin O wd x y = (x.1 - y.2, x.2 - y.1) := by unfold rbin; (repeat (first | rw [if_pos (by omega)] | rw [if_neg (by omega)])); (first | done | rfl | exact Prod.ext (by first | rfl | omega) (by first | rfl | omega))
    rw [e]
    exact ⟨rfl, hT0⟩
   ·
    replace hc35 : ((x.1 : Nat) : Int) < ((y.2 : Nat) : Int) := (Int.not_le.1 (of_decide_eq_false hc35))
    refine W_skip ?_
    refine W_exit ?_
    refine X_miss rfl ?_
    refine X_miss rfl ?_
    refine X_miss rfl ?_
    refine X_miss rfl ?_
    refine X_miss rfl ?_
    refine X_miss rfl ?_
    refine X_miss rfl ?_
    refine X_miss rfl ?_
    refine X_miss rfl ?_
    refine X_hit ?_
    refine zQ ?_
    refine zS [(174, .int .i64 ((wd : Nat) : Int))] ?_
    refine zC (all_ok wd _ (by omega)) ?_
    rintro _ w41 ⟨rfl, hT42⟩
    have hT0 := hT0.t0 hT42
    have hB4 := hB4.tch0 hT42
    have hB8 := hB8.tch0 hT42
    have hB14 := hB14.tch0 hT42
    refine st (by rfl) (S_storeA (b := w5.heap.size) (j := 0) (cs := [.int .u64 (((rall wd).1 : Nat) : Int), .int .u64 (((rall wd).2 : Nat) : Int)]) (by kernel_rfl) (by kernel_rfl) (by kernel_rfl) (by simp [oneV]) hB14 (by simp) fun w43 hT44 hs45 hB14' => ?_)
    have hT0 := (hT0).then hT44 (fun c e => by have : c = w5.heap.size := e; omega)
    have hB4 := hB4.tch hT44 (fun e => by have : w.heap.size = w5.heap.size := e; omega)
    have hB8 := hB8.tch hT44 (fun e => by have : w1.heap.size = w5.heap.size := e; omega)
    replace hB14 : Blk w43 w5.heap.size 113 [.int .u64 (((rall wd).1 : Nat) : Int), .int .u64 (((rall wd).2 : Nat) : Int)] := hB14'
    refine op_nil ?_
    refine W_ret ?_
    refine ⟨_, Res_cell (b := w5.heap.size) (cs := [.int .u64 (((rall wd).1 : Nat) : Int), .int .u64 (((rall wd).2 : Nat) : Int)]) (by rfl) (by kernel_rfl) (by kernel_rfl) hB14 (by kernel_rfl) (by kernel_rfl), ?_⟩
    have e : rbin O wd x y = rall wd := by unfold rbin; (repeat (first | rw [if_pos (by omega)] | rw [if_neg (by omega)]))
    rw [e]
    exact ⟨rfl, hT0⟩
  ·
   replace hc34 : ((O : Nat) : Int) ≠ 2 := (ne_of_beq_false hc34)
   refine W_skip ?_
   refine W_seq ?_
   refine zQ ?_
   refine zS [(20, .bool (((O : Nat) : Int) == 3)), (19, .bool (((O : Nat) : Int) == 3))] ?_
   refine zO (((O : Nat) : Int) == 3) (fun hc46 => ?_) (fun hc46 => ?_)
   ·
    replace hc46 : ((O : Nat) : Int) = 3 := (eq_of_beq hc46)
    refine W_exit ?_
    refine X_miss rfl ?_
    refine X_miss rfl ?_
    refine X_hit ?_
    refine W_seq ?_
    refine zQ ?_
    refine zS [(72, .pointer (some ⟨w.heap.size, 1, none⟩))] ?_
    refine zL (.int .u64 ((x.2 : Nat) : Int)) ((hB4.cell 1).trans rfl) ?_
    refine zS [(74, .pointer (some ⟨w1.heap.size, 1, none⟩))] ?_
    refine zL (.int .u64 ((y.2 : Nat) : Int)) ((hB8.cell 1).trans rfl) ?_
    refine zC (mul64_ok x.2 y.2 _ ux2 uy2) ?_
    rintro _ w47 ⟨rfl, hT48⟩
    have hT0 := hT0.t0 hT48
    have hB4 := hB4.tch0 hT48
    have hB8 := hB8.tch0 hT48
    have hB14 := hB14.tch0 hT48
    refine zS [(71, .tuple #[.int .u64 ((x.2 * y.2 / 18446744073709551616 : Nat) : Int), .int .u64 ((x.2 * y.2 % 18446744073709551616 : Nat) : Int)]), (77, .int .u64 ((x.2 * y.2 / 18446744073709551616 : Nat) : Int)), (78, .int .u64 ((x.2 * y.2 % 18446744073709551616 : Nat) : Int)), (10, .int .u64 ((x.2 * y.2 / 18446744073709551616 : Nat) : Int)), (11, .int .u64 ((x.2 * y.2 % 18446744073709551616 : Nat) : Int))] ?_
    refine op_nil ?_
    refine zQ ?_
    refine zS [(79, .int .u64 ((x.2 * y.2 / 18446744073709551616 : Nat) : Int)), (80, .bool (((x.2 * y.2 / 18446744073709551616 : Nat) : Int) == 0)), (81, .bool (((x.2 * y.2 / 18446744073709551616 : Nat) : Int) == 0))] ?_
    cases hb51 : ((x.2 * y.2 / 18446744073709551616 : Nat) : Int) == 0
    ·
     replace hb51 : ((x.2 * y.2 / 18446744073709551616 : Nat) : Int) ≠ 0 := (ne_of_beq_false hb51)
     refine zS [(82, undef), (83, undef), (84, undef), (85, .bool false)] ?_
     refine zO false (fun h => nomatch h) (fun _ => ?_)
     refine W_skip ?_
     refine W_exit ?_
     refine X_miss rfl ?_
     refine X_miss rfl ?_
     refine X_miss rfl ?_
     refine X_miss rfl ?_
     refine X_miss rfl ?_
     refine X_miss rfl ?_
     refine X_miss rfl ?_
     refine X_miss rfl ?_
     refine X_hit ?_
     refine zQ ?_
     refine zS [(174, .int .i64 ((wd : Nat) : Int))] ?_
     refine zC (all_ok wd _ (by omega)) ?_
     rintro _ w52 ⟨rfl, hT53⟩
     have hT0 := hT0.t0 hT53
     have hB4 := hB4.tch0 hT53
     have hB8 := hB8.tch0 hT53
     have hB14 := hB14.tch0 hT53
     refine st (by rfl) (S_storeA (b := w5.heap.size) (j := 0) (cs := [.int .u64 (((rall wd).1 : Nat) : Int), .int .u64 (((rall wd).2 : Nat) : Int)]) (by kernel_rfl) (by kernel_rfl) (by kernel_rfl) (by simp [oneV]) hB14 (by simp) fun w54 hT55 hs56 hB14' => ?_)
     have hT0 := (hT0).then hT55 (fun c e => by have : c = w5.heap.size := e; omega)
     have hB4 := hB4.tch hT55 (fun e => by have : w.heap.size = w5.heap.size := e; omega)
     have hB8 := hB8.tch hT55 (fun e => by have : w1.heap.size = w5.heap.size := e; omega)
     replace hB14 : Blk w54 w5.heap.size 113 [.int .u64 (((rall wd).1 : Nat) : Int), .int .u64 (((rall wd).2 : Nat) : Int)] := hB14'
     refine op_nil ?_
     refine W_ret ?_
     refine ⟨_, Res_cell (b := w5.heap.size) (cs := [.int .u64 (((rall wd).1 : Nat) : Int), .int .u64 (((rall wd).2 : Nat) : Int)]) (by rfl) (by kernel_rfl) (by kernel_rfl) hB14 (by kernel_rfl) (by kernel_rfl), ?_⟩
     have e : rbin O wd x y = rall wd := by unfold rbin; (repeat (first | rw [if_pos (by omega)] | rw [if_neg (by omega)]))
     rw [e]
     exact ⟨rfl, hT0⟩
    ·
     replace hb51 : ((x.2 * y.2 / 18446744073709551616 : Nat) : Int) = 0 := (eq_of_beq hb51)
     refine zS [(82, .int .u64 ((x.2 * y.2 % 18446744073709551616 : Nat) : Int)), (83, .int .u64 ((pw wd - 1 : Nat) : Int)), (84, .bool (decide (((x.2 * y.2 % 18446744073709551616 : Nat) : Int) ≤ ((pw wd - 1 : Nat) : Int)))), (85, .bool (decide (((x.2 * y.2 % 18446744073709551616 : Nat) : Int) ≤ ((pw wd - 1 : Nat) : Int))))] ?_
     refine zO (decide (((x.2 * y.2 % 18446744073709551616 : Nat) : Int) ≤ ((pw wd - 1 : Nat) : Int))) (fun hc57 => ?_) (fun hc57 => ?_)
     ·
      replace hc57 : ((x.2 * y.2 % 18446744073709551616 : Nat) : Int) ≤ ((pw wd - 1 : Nat) : Int) := (of_decide_eq_true hc57)
      refine zQ ?_
      refine zS [(86, .pointer (some ⟨w.heap.size, 0, none⟩))] ?_
      refine zL (.int .u64 ((x.1 : Nat) : Int)) ((hB4.cell 0).trans rfl) ?_
      refine zS [(88, .pointer (some ⟨w1.heap.size, 0, none⟩))] ?_
      refine zL (.int .u64 ((y.1 : Nat) : Int)) ((hB8.cell 0).trans rfl) ?_
      refine zS [(90, .int .u64 (IntKind.u64.wrap (((x.1 : Nat) : Int) * ((y.1 : Nat) : Int))))] ?_
      rw [show IntKind.u64.wrap (((x.1 : Nat) : Int) * ((y.1 : Nat) : Int)) = ((x.1 * y.1 % 18446744073709551616 : Nat) : Int) from u64_mul x.1 y.1]
      have hu58 : x.1 * y.1 % 18446744073709551616 < 18446744073709551616 := mod_lt64 _
      refine fixR (y := ((x.1 * y.1 : Nat) : Int)) (by omega) ?_
      refine zS [(91, .int .u64 ((x.2 * y.2 % 18446744073709551616 : Nat) : Int)), (92, .agg #[.int .u64 ((x.1 * y.1 : Nat) : Int), .int .u64 ((x.2 * y.2 % 18446744073709551616 : Nat) : Int)])] ?_
      refine st (by rfl) (S_storeA (b := w5.heap.size) (j := 0) (cs := [.int .u64 ((x.1 * y.1 : Nat) : Int), .int .u64 ((x.2 * y.2 % 18446744073709551616 : Nat) : Int)]) (by kernel_rfl) (by kernel_rfl) (by kernel_rfl) (by simp [oneV]) hB14 (by simp) fun w59 hT60 hs61 hB14' => ?_)
      have hT0 := (hT0).then hT60 (fun c e => by have : c = w5.heap.size := e; omega)
      have hB4 := hB4.tch hT60 (fun e => by have : w.heap.size = w5.heap.size := e; omega)
      have hB8 := hB8.tch hT60 (fun e => by have : w1.heap.size = w5.heap.size := e; omega)
      replace hB14 : Blk w59 w5.heap.size 113 [.int .u64 ((x.1 * y.1 : Nat) : Int), .int .u64 ((x.2 * y.2 % 18446744073709551616 : Nat) : Int)] := hB14'
      refine op_nil ?_
      refine W_ret ?_
      refine ⟨_, Res_cell (b := w5.heap.size) (cs := [.int .u64 ((x.1 * y.1 : Nat) : Int), .int .u64 ((x.2 * y.2 % 18446744073709551616 : Nat) : Int)]) (by rfl) (by kernel_rfl) (by kernel_rfl) hB14 (by kernel_rfl) (by kernel_rfl), ?_⟩
      have e : rbin O wd x y = (x.1 * y.1, x.2 * y.2 % 18446744073709551616) := by unfold rbin; (repeat (first | rw [if_pos (by omega)] | rw [if_neg (by omega)])); (first | done | rfl | exact Prod.ext (by first | rfl | omega) (by first | rfl | omega))
      rw [e]
      exact ⟨rfl, hT0⟩
     ·
      replace hc57 : ((pw wd - 1 : Nat) : Int) < ((x.2 * y.2 % 18446744073709551616 : Nat) : Int) := (Int.not_le.1 (of_decide_eq_false hc57))
      refine W_skip ?_
      refine W_exit ?_
      refine X_miss rfl ?_
      refine X_miss rfl ?_
      refine X_miss rfl ?_
      refine X_miss rfl ?_
      refine X_miss rfl ?_
      refine X_miss rfl ?_
      refine X_miss rfl ?_
      refine X_miss rfl ?_
      refine X_hit ?_
      refine zQ ?_
      refine zS [(174, .int .i64 ((wd : Nat) : Int))] ?_
      refine zC (all_ok wd _ (by omega)) ?_
      rintro _ w62 ⟨rfl, hT63⟩
      have hT0 := hT0.t0 hT63
      have hB4 := hB4.tch0 hT63
      have hB8 := hB8.tch0 hT63
      have hB14 := hB14.tch0 hT63
      refine st (by rfl) (S_storeA (b := w5.heap.size) (j := 0) (cs := [.int .u64 (((rall wd).1 : Nat) : Int), .int .u64 (((rall wd).2 : Nat) : Int)]) (by kernel_rfl) (by kernel_rfl) (by kernel_rfl) (by simp [oneV]) hB14 (by simp) fun w64 hT65 hs66 hB14' => ?_)
      have hT0 := (hT0).then hT65 (fun c e => by have : c = w5.heap.size := e; omega)
      have hB4 := hB4.tch hT65 (fun e => by have : w.heap.size = w5.heap.size := e; omega)
      have hB8 := hB8.tch hT65 (fun e => by have : w1.heap.size = w5.heap.size := e; omega)
      replace hB14 : Blk w64 w5.heap.size 113 [.int .u64 (((rall wd).1 : Nat) : Int), .int .u64 (((rall wd).2 : Nat) : Int)] := hB14'
      refine op_nil ?_
      refine W_ret ?_
      refine ⟨_, Res_cell (b := w5.heap.size) (cs := [.int .u64 (((rall wd).1 : Nat) : Int), .int .u64 (((rall wd).2 : Nat) : Int)]) (by rfl) (by kernel_rfl) (by kernel_rfl) hB14 (by kernel_rfl) (by kernel_rfl), ?_⟩
      have e : rbin O wd x y = rall wd := by unfold rbin; (repeat (first | rw [if_pos (by omega)] | rw [if_neg (by omega)]))
      rw [e]
      exact ⟨rfl, hT0⟩
   ·
    replace hc46 : ((O : Nat) : Int) ≠ 3 := (ne_of_beq_false hc46)
    refine W_skip ?_
    refine W_seq ?_
    refine zQ ?_
    refine zS [(22, .bool (((O : Nat) : Int) == 4)), (21, .bool (((O : Nat) : Int) == 4))] ?_
    refine zO (((O : Nat) : Int) == 4) (fun hc67 => ?_) (fun hc67 => ?_)
    ·
     replace hc67 : ((O : Nat) : Int) = 4 := (eq_of_beq hc67)
     refine W_exit ?_
     refine X_miss rfl ?_
     refine X_miss rfl ?_
     refine X_miss rfl ?_
     refine X_hit ?_
     refine W_seq ?_
     refine zQ ?_
     refine zS [(93, .pointer (some ⟨w1.heap.size, 0, none⟩))] ?_
     refine zL (.int .u64 ((y.1 : Nat) : Int)) ((hB8.cell 0).trans rfl) ?_
     refine zS [(95, .bool (decide (((y.1 : Nat) : Int) > 0)))] ?_
     refine zO (decide (((y.1 : Nat) : Int) > 0)) (fun hc68 => ?_) (fun hc68 => ?_)
     ·
      replace hc68 : 0 < ((y.1 : Nat) : Int) := (of_decide_eq_true hc68)
      refine W_seq ?_
      refine W_draw (fun w' => Blk w' (w.heap.size) 113 [.int .u64 ((x.1 : Nat) : Int), .int .u64 ((x.2 : Nat) : Int)] ∧ Blk w' (w1.heap.size) 113 [.int .u64 ((y.1 : Nat) : Int), .int .u64 ((y.2 : Nat) : Int)]) (by kernel_rfl) (by kernel_rfl) (by kernel_rfl) fun w69 hT70 hh71 => ?_
      have hT0 := hT0.t0 hT70
      have hB4 := hB4.tch0 hT70
      have hB8 := hB8.tch0 hT70
      have hB14 := hB14.tch0 hT70
      refine zK [0, 2, 5, 7] #[true, false, true, false, false, true, false, true, false, false, false, false] [(96, .pointer (some ⟨w.heap.size, 0, none⟩)), (98, .pointer (some ⟨w1.heap.size, 1, none⟩)), (101, .pointer (some ⟨w.heap.size, 1, none⟩)), (103, .pointer (some ⟨w1.heap.size, 0, none⟩))] ⟨hB4, hB8⟩ ?_
      refine zV 1 rfl (.int .u64 ((x.1 : Nat) : Int)) (fun _ ⟨hB4, hB8⟩ => R_load (v := .int .u64 ((x.1 : Nat) : Int)) (by kernel_rfl) (by kernel_rfl) ((hB4.cell 0).trans rfl)) ⟨hB4, hB8⟩ ?_
      refine zV 3 rfl (.int .u64 ((y.2 : Nat) : Int)) (fun _ ⟨hB4, hB8⟩ => R_load (v := .int .u64 ((y.2 : Nat) : Int)) (by kernel_rfl) (by kernel_rfl) ((hB8.cell 1).trans rfl)) ⟨hB4, hB8⟩ ?_
      refine zV 4 rfl (.int .u64 ((x.1 / y.2 : Nat) : Int)) (fun _ ⟨hB4, hB8⟩ => R_quoN (by kernel_rfl) (by kernel_rfl) (by omega) ux1) ⟨hB4, hB8⟩ ?_
      have hu72 : x.1 / y.2 < 18446744073709551616 := div_lt64 ux1
      refine zV 6 rfl (.int .u64 ((x.2 : Nat) : Int)) (fun _ ⟨hB4, hB8⟩ => R_load (v := .int .u64 ((x.2 : Nat) : Int)) (by kernel_rfl) (by kernel_rfl) ((hB4.cell 1).trans rfl)) ⟨hB4, hB8⟩ ?_
      refine zV 8 rfl (.int .u64 ((y.1 : Nat) : Int)) (fun _ ⟨hB4, hB8⟩ => R_load (v := .int .u64 ((y.1 : Nat) : Int)) (by kernel_rfl) (by kernel_rfl) ((hB8.cell 0).trans rfl)) ⟨hB4, hB8⟩ ?_
      refine zV 9 rfl (.int .u64 ((x.2 / y.1 : Nat) : Int)) (fun _ ⟨hB4, hB8⟩ => R_quoN (by kernel_rfl) (by kernel_rfl) (by omega) ux2) ⟨hB4, hB8⟩ ?_
      have hu73 : x.2 / y.1 < 18446744073709551616 := div_lt64 ux2
      refine zK [10] #[true, true, true, true, true, true, true, true, true, true, true, false] [(106, .agg #[.int .u64 ((x.1 / y.2 : Nat) : Int), .int .u64 ((x.2 / y.1 : Nat) : Int)])] ⟨hB4, hB8⟩ ?_
      refine zD 11 rfl (S_storeA (b := w5.heap.size) (j := 0) (cs := [.int .u64 ((x.1 / y.2 : Nat) : Int), .int .u64 ((x.2 / y.1 : Nat) : Int)]) (by kernel_rfl) (by kernel_rfl) (by kernel_rfl) (by simp [oneV]) hB14 (by simp) fun w74 hT75 hs76 hB14' => ?_)
      have hT0 := (hT0).then hT75 (fun c e => by have : c = w5.heap.size := e; omega)
      have hB4 := hB4.tch hT75 (fun e => by have : w.heap.size = w5.heap.size := e; omega)
      have hB8 := hB8.tch hT75 (fun e => by have : w1.heap.size = w5.heap.size := e; omega)
      replace hB14 : Blk w74 w5.heap.size 113 [.int .u64 ((x.1 / y.2 : Nat) : Int), .int .u64 ((x.2 / y.1 : Nat) : Int)] := hB14'
      refine ⟨⟨hB4, hB8⟩, ?_⟩
      refine d_done (by kernel_rfl) ?_
      refine W_ret ?_
      refine ⟨_, Res_cell (b := w5.heap.size) (cs := [.int .u64 ((x.1 / y.2 : Nat) : Int), .int .u64 ((x.2 / y.1 : Nat) : Int)]) (by rfl) (by kernel_rfl) (by kernel_rfl) hB14 (by kernel_rfl) (by kernel_rfl), ?_⟩
      have e : rbin O wd x y = (x.1 / y.2, x.2 / y.1) := by unfold rbin; (repeat (first | rw [if_pos (by omega)] | rw [if_neg (by omega)])); (first | done | rfl | exact Prod.ext (by first | rfl | omega) (by first | rfl | omega))
      rw [e]
      exact ⟨rfl, hT0⟩
     ·
      replace hc68 : ((y.1 : Nat) : Int) ≤ 0 := (Int.not_lt.1 (of_decide_eq_false hc68))
      refine W_skip ?_
      refine W_exit ?_
      refine X_miss rfl ?_
      refine X_miss rfl ?_
      refine X_miss rfl ?_
      refine X_miss rfl ?_
      refine X_miss rfl ?_
      refine X_miss rfl ?_
      refine X_miss rfl ?_
      refine X_hit ?_
      refine zQ ?_
      refine zS [(174, .int .i64 ((wd : Nat) : Int))] ?_
      refine zC (all_ok wd _ (by omega)) ?_
      rintro _ w77 ⟨rfl, hT78⟩
      have hT0 := hT0.t0 hT78
      have hB4 := hB4.tch0 hT78
      have hB8 := hB8.tch0 hT78
      have hB14 := hB14.tch0 hT78
      refine st (by rfl) (S_storeA (b := w5.heap.size) (j := 0) (cs := [.int .u64 (((rall wd).1 : Nat) : Int), .int .u64 (((rall wd).2 : Nat) : Int)]) (by kernel_rfl) (by kernel_rfl) (by kernel_rfl) (by simp [oneV]) hB14 (by simp) fun w79 hT80 hs81 hB14' => ?_)
      have hT0 := (hT0).then hT80 (fun c e => by have : c = w5.heap.size := e; omega)
      have hB4 := hB4.tch hT80 (fun e => by have : w.heap.size = w5.heap.size := e; omega)
      have hB8 := hB8.tch hT80 (fun e => by have : w1.heap.size = w5.heap.size := e; omega)
      replace hB14 : Blk w79 w5.heap.size 113 [.int .u64 (((rall wd).1 : Nat) : Int), .int .u64 (((rall wd).2 : Nat) : Int)] := hB14'
      refine op_nil ?_
      refine W_ret ?_
      refine ⟨_, Res_cell (b := w5.heap.size) (cs := [.int .u64 (((rall wd).1 : Nat) : Int), .int .u64 (((rall wd).2 : Nat) : Int)]) (by rfl) (by kernel_rfl) (by kernel_rfl) hB14 (by kernel_rfl) (by kernel_rfl), ?_⟩
      have e : rbin O wd x y = rall wd := by unfold rbin; (repeat (first | rw [if_pos (by omega)] | rw [if_neg (by omega)]))
      rw [e]
      exact ⟨rfl, hT0⟩
    ·
     replace hc67 : ((O : Nat) : Int) ≠ 4 := (ne_of_beq_false hc67)
     refine W_skip ?_
     refine W_seq ?_
     refine zQ ?_
     refine zS [(24, .bool (((O : Nat) : Int) == 5)), (23, .bool (((O : Nat) : Int) == 5))] ?_
     refine zO (((O : Nat) : Int) == 5) (fun hc82 => ?_) (fun hc82 => ?_)
     ·
      replace hc82 : ((O : Nat) : Int) = 5 := (eq_of_beq hc82)
      refine W_exit ?_
      refine X_miss rfl ?_
      refine X_miss rfl ?_
      refine X_miss rfl ?_
      refine X_miss rfl ?_
      refine X_hit ?_
      refine zQ ?_
      refine zS [(107, .pointer (some ⟨w1.heap.size, 0, none⟩))] ?_
      refine zL (.int .u64 ((y.1 : Nat) : Int)) ((hB8.cell 0).trans rfl) ?_
      refine zS [(109, .bool (decide (((y.1 : Nat) : Int) > 0)))] ?_
      refine zO (decide (((y.1 : Nat) : Int) > 0)) (fun hc83 => ?_) (fun hc83 => ?_)
      ·
       replace hc83 : 0 < ((y.1 : Nat) : Int) := (of_decide_eq_true hc83)
       refine zQ ?_
       refine zS [(110, .pointer (some ⟨w.heap.size, 1, none⟩))] ?_
       refine zL (.int .u64 ((x.2 : Nat) : Int)) ((hB4.cell 1).trans rfl) ?_
       refine zS [(112, .pointer (some ⟨w1.heap.size, 1, none⟩))] ?_
       refine zL (.int .u64 ((y.2 : Nat) : Int)) ((hB8.cell 1).trans rfl) ?_
       refine zS [(114, .int .u64 (IntKind.u64.wrap (((y.2 : Nat) : Int) - 1)))] ?_
       rw [show IntKind.u64.wrap (((y.2 : Nat) : Int) - 1) = (((y.2 + (18446744073709551616 - 1)) % 18446744073709551616 : Nat) : Int) from u64_sub y.2 1 uy2 (by omega)]
       have hu84 : (y.2 + (18446744073709551616 - 1)) % 18446744073709551616 < 18446744073709551616 := mod_lt64 _
       refine fixR (y := ((y.2 - 1 : Nat) : Int)) (by omega) ?_
       refine zS [(115, .int .u64 (if ((y.2 - 1 : Nat) : Int) < ((x.2 : Nat) : Int) then ((y.2 - 1 : Nat) : Int) else ((x.2 : Nat) : Int)))] ?_
       rw [show (if ((y.2 - 1 : Nat) : Int) < ((x.2 : Nat) : Int) then ((y.2 - 1 : Nat) : Int) else ((x.2 : Nat) : Int)) = ((min x.2 (y.2 - 1) : Nat) : Int) from min_u x.2 (y.2 - 1)]
       have hu85 : min x.2 (y.2 - 1) < 18446744073709551616 := min_lt64 ux2
       refine zS [(116, .agg #[.int .u64 0, .int .u64 ((min x.2 (y.2 - 1) : Nat) : Int)])] ?_
       refine st (by rfl) (S_storeA (b := w5.heap.size) (j := 0) (cs := [.int .u64 0, .int .u64 ((min x.2 (y.2 - 1) : Nat) : Int)]) (by kernel_rfl) (by kernel_rfl) (by kernel_rfl) (by simp [oneV]) hB14 (by simp) fun w86 hT87 hs88 hB14' => ?_)
       have hT0 := (hT0).then hT87 (fun c e => by have : c = w5.heap.size := e; omega)
       have hB4 := hB4.tch hT87 (fun e => by have : w.heap.size = w5.heap.size := e; omega)
       have hB8 := hB8.tch hT87 (fun e => by have : w1.heap.size = w5.heap.size := e; omega)
       replace hB14 : Blk w86 w5.heap.size 113 [.int .u64 0, .int .u64 ((min x.2 (y.2 - 1) : Nat) : Int)] := hB14'
       refine op_nil ?_
       refine W_ret ?_
       refine ⟨_, Res_cell (b := w5.heap.size) (cs := [.int .u64 0, .int .u64 ((min x.2 (y.2 - 1) : Nat) : Int)]) (by rfl) (by kernel_rfl) (by kernel_rfl) hB14 (by kernel_rfl) (by kernel_rfl), ?_⟩
       have e : rbin O wd x y = (0, min x.2 (y.2 - 1)) := by unfold rbin; (repeat (first | rw [if_pos (by omega)] | rw [if_neg (by omega)])); (first | done | rfl | exact Prod.ext (by first | rfl | omega) (by first | rfl | omega))
       rw [e]
       exact ⟨rfl, hT0⟩
      ·
       replace hc83 : ((y.1 : Nat) : Int) ≤ 0 := (Int.not_lt.1 (of_decide_eq_false hc83))
       refine W_skip ?_
       refine W_seq ?_
       refine zQ ?_
       refine zS [(117, .pointer (some ⟨w.heap.size, 1, none⟩))] ?_
       refine zL (.int .u64 ((x.2 : Nat) : Int)) ((hB4.cell 1).trans rfl) ?_
       refine zS [(119, .agg #[.int .u64 0, .int .u64 ((x.2 : Nat) : Int)])] ?_
       refine st (by rfl) (S_storeA (b := w5.heap.size) (j := 0) (cs := [.int .u64 0, .int .u64 ((x.2 : Nat) : Int)]) (by kernel_rfl) (by kernel_rfl) (by kernel_rfl) (by simp [oneV]) hB14 (by simp) fun w89 hT90 hs91 hB14' => ?_)
       have hT0 := (hT0).then hT90 (fun c e => by have : c = w5.heap.size := e; omega)
       have hB4 := hB4.tch hT90 (fun e => by have : w.heap.size = w5.heap.size := e; omega)
       have hB8 := hB8.tch hT90 (fun e => by have : w1.heap.size = w5.heap.size := e; omega)
       replace hB14 : Blk w89 w5.heap.size 113 [.int .u64 0, .int .u64 ((x.2 : Nat) : Int)] := hB14'
       refine op_nil ?_
       refine W_ret ?_
       refine ⟨_, Res_cell (b := w5.heap.size) (cs := [.int .u64 0, .int .u64 ((x.2 : Nat) : Int)]) (by rfl) (by kernel_rfl) (by kernel_rfl) hB14 (by kernel_rfl) (by kernel_rfl), ?_⟩
       have e : rbin O wd x y = (0, x.2) := by unfold rbin; (repeat (first | rw [if_pos (by omega)] | rw [if_neg (by omega)])); (first | done | rfl | exact Prod.ext (by first | rfl | omega) (by first | rfl | omega))
       rw [e]
       exact ⟨rfl, hT0⟩
     ·
      replace hc82 : ((O : Nat) : Int) ≠ 5 := (ne_of_beq_false hc82)
      refine W_skip ?_
      refine W_seq ?_
      refine zQ ?_
      refine zS [(26, .bool (((O : Nat) : Int) == 10)), (25, .bool (((O : Nat) : Int) == 10))] ?_
      refine zO (((O : Nat) : Int) == 10) (fun hc92 => ?_) (fun hc92 => ?_)
      ·
       replace hc92 : ((O : Nat) : Int) = 10 := (eq_of_beq hc92)
       refine W_exit ?_
       refine X_miss rfl ?_
       refine X_miss rfl ?_
       refine X_miss rfl ?_
       refine X_miss rfl ?_
       refine X_miss rfl ?_
       refine X_hit ?_
       refine W_seq ?_
       refine zQ ?_
       refine zS [(117, .pointer (some ⟨w.heap.size, 1, none⟩))] ?_
       refine zL (.int .u64 ((x.2 : Nat) : Int)) ((hB4.cell 1).trans rfl) ?_
       refine zS [(119, .agg #[.int .u64 0, .int .u64 ((x.2 : Nat) : Int)])] ?_
       refine st (by rfl) (S_storeA (b := w5.heap.size) (j := 0) (cs := [.int .u64 0, .int .u64 ((x.2 : Nat) : Int)]) (by kernel_rfl) (by kernel_rfl) (by kernel_rfl) (by simp [oneV]) hB14 (by simp) fun w93 hT94 hs95 hB14' => ?_)
       have hT0 := (hT0).then hT94 (fun c e => by have : c = w5.heap.size := e; omega)
       have hB4 := hB4.tch hT94 (fun e => by have : w.heap.size = w5.heap.size := e; omega)
       have hB8 := hB8.tch hT94 (fun e => by have : w1.heap.size = w5.heap.size := e; omega)
       replace hB14 : Blk w93 w5.heap.size 113 [.int .u64 0, .int .u64 ((x.2 : Nat) : Int)] := hB14'
       refine op_nil ?_
       refine W_ret ?_
       refine ⟨_, Res_cell (b := w5.heap.size) (cs := [.int .u64 0, .int .u64 ((x.2 : Nat) : Int)]) (by rfl) (by kernel_rfl) (by kernel_rfl) hB14 (by kernel_rfl) (by kernel_rfl), ?_⟩
       have e : rbin O wd x y = (0, x.2) := by unfold rbin; (repeat (first | rw [if_pos (by omega)] | rw [if_neg (by omega)])); (first | done | rfl | exact Prod.ext (by first | rfl | omega) (by first | rfl | omega))
       rw [e]
       exact ⟨rfl, hT0⟩
      ·
       replace hc92 : ((O : Nat) : Int) ≠ 10 := (ne_of_beq_false hc92)
       refine W_skip ?_
       refine W_seq ?_
       refine zQ ?_
       refine zS [(28, .bool (((O : Nat) : Int) == 6)), (27, .bool (((O : Nat) : Int) == 6))] ?_
       refine zO (((O : Nat) : Int) == 6) (fun hc96 => ?_) (fun hc96 => ?_)
       ·
        replace hc96 : ((O : Nat) : Int) = 6 := (eq_of_beq hc96)
        refine W_exit ?_
        refine X_miss rfl ?_
        refine X_miss rfl ?_
        refine X_miss rfl ?_
        refine X_miss rfl ?_
        refine X_miss rfl ?_
        refine X_miss rfl ?_
        refine X_hit ?_
        refine W_seq ?_
        refine zQ ?_
        refine zS [(120, .pointer (some ⟨w.heap.size, 1, none⟩))] ?_
        refine zL (.int .u64 ((x.2 : Nat) : Int)) ((hB4.cell 1).trans rfl) ?_
        refine zS [(122, .pointer (some ⟨w1.heap.size, 1, none⟩))] ?_
        refine zL (.int .u64 ((y.2 : Nat) : Int)) ((hB8.cell 1).trans rfl) ?_
        refine zS [(124, .int .u64 (if ((y.2 : Nat) : Int) < ((x.2 : Nat) : Int) then ((y.2 : Nat) : Int) else ((x.2 : Nat) : Int)))] ?_
        rw [show (if ((y.2 : Nat) : Int) < ((x.2 : Nat) : Int) then ((y.2 : Nat) : Int) else ((x.2 : Nat) : Int)) = ((min x.2 y.2 : Nat) : Int) from min_u x.2 y.2]
        have hu97 : min x.2 y.2 < 18446744073709551616 := min_lt64 ux2
        refine zS [(125, .agg #[.int .u64 0, .int .u64 ((min x.2 y.2 : Nat) : Int)])] ?_
        refine st (by rfl) (S_storeA (b := w5.heap.size) (j := 0) (cs := [.int .u64 0, .int .u64 ((min x.2 y.2 : Nat) : Int)]) (by kernel_rfl) (by kernel_rfl) (by kernel_rfl) (by simp [oneV]) hB14 (by simp) fun w98 hT99 hs100 hB14' => ?_)
        have hT0 := (hT0).then hT99 (fun c e => by have : c = w5.heap.size := e; omega)
        have hB4 := hB4.tch hT99 (fun e => by have : w.heap.size = w5.heap.size := e; omega)
        have hB8 := hB8.tch hT99 (fun e => by have : w1.heap.size = w5.heap.size := e; omega)
        replace hB14 : Blk w98 w5.heap.size 113 [.int .u64 0, .int .u64 ((min x.2 y.2 : Nat) : Int)] := hB14'
        refine op_nil ?_
        refine W_ret ?_
        refine ⟨_, Res_cell (b := w5.heap.size) (cs := [.int .u64 0, .int .u64 ((min x.2 y.2 : Nat) : Int)]) (by rfl) (by kernel_rfl) (by kernel_rfl) hB14 (by kernel_rfl) (by kernel_rfl), ?_⟩
        have e : rbin O wd x y = (0, min x.2 y.2) := by unfold rbin; (repeat (first | rw [if_pos (by omega)] | rw [if_neg (by omega)])); (first | done | rfl | exact Prod.ext (by first | rfl | omega) (by first | rfl | omega))
        rw [e]
        exact ⟨rfl, hT0⟩
       ·
        replace hc96 : ((O : Nat) : Int) ≠ 6 := (ne_of_beq_false hc96)
        refine W_skip ?_
        refine W_seq ?_
        refine zQ ?_
        refine zS [(30, .bool (((O : Nat) : Int) == 7)), (29, .bool (((O : Nat) : Int) == 7))] ?_
        refine zO (((O : Nat) : Int) == 7) (fun hc101 => ?_) (fun hc101 => ?_)
        ·
         replace hc101 : ((O : Nat) : Int) = 7 := (eq_of_beq hc101)
         refine W_exit ?_
         refine X_miss rfl ?_
         refine X_miss rfl ?_
         refine X_miss rfl ?_
         refine X_miss rfl ?_
         refine X_miss rfl ?_
         refine X_miss rfl ?_
         refine X_miss rfl ?_
         refine X_hit ?_
         refine W_seq ?_
         refine W_seq ?_
         refine W_draw (fun w' => Blk w' (w.heap.size) 113 [.int .u64 ((x.1 : Nat) : Int), .int .u64 ((x.2 : Nat) : Int)] ∧ Blk w' (w1.heap.size) 113 [.int .u64 ((y.1 : Nat) : Int), .int .u64 ((y.2 : Nat) : Int)]) (by kernel_rfl) (by kernel_rfl) (by kernel_rfl) fun w102 hT103 hh104 => ?_
         have hT0 := hT0.t0 hT103
         have hB4 := hB4.tch0 hT103
         have hB8 := hB8.tch0 hT103
         have hB14 := hB14.tch0 hT103
         refine zK [0, 2, 5, 7] #[true, false, true, false, false, true, false, true, false, false, false, false, false, false] [(126, .pointer (some ⟨w.heap.size, 0, none⟩)), (128, .pointer (some ⟨w1.heap.size, 0, none⟩)), (131, .pointer (some ⟨w.heap.size, 1, none⟩)), (133, .pointer (some ⟨w1.heap.size, 1, none⟩))] ⟨hB4, hB8⟩ ?_
         refine zV 1 rfl (.int .u64 ((x.1 : Nat) : Int)) (fun _ ⟨hB4, hB8⟩ => R_load (v := .int .u64 ((x.1 : Nat) : Int)) (by kernel_rfl) (by kernel_rfl) ((hB4.cell 0).trans rfl)) ⟨hB4, hB8⟩ ?_
         refine zV 3 rfl (.int .u64 ((y.1 : Nat) : Int)) (fun _ ⟨hB4, hB8⟩ => R_load (v := .int .u64 ((y.1 : Nat) : Int)) (by kernel_rfl) (by kernel_rfl) ((hB8.cell 0).trans rfl)) ⟨hB4, hB8⟩ ?_
         refine zK [4] #[true, true, true, true, true, true, false, true, false, false, false, false, false, false] [(130, .int .u64 (if ((x.1 : Nat) : Int) < ((y.1 : Nat) : Int) then ((y.1 : Nat) : Int) else ((x.1 : Nat) : Int)))] ⟨hB4, hB8⟩ ?_
         rw [show (if ((x.1 : Nat) : Int) < ((y.1 : Nat) : Int) then ((y.1 : Nat) : Int) else ((x.1 : Nat) : Int)) = ((max x.1 y.1 : Nat) : Int) from max_u x.1 y.1]
         have hu105 : max x.1 y.1 < 18446744073709551616 := max_lt64 ux1 uy1
         refine zV 6 rfl (.int .u64 ((x.2 : Nat) : Int)) (fun _ ⟨hB4, hB8⟩ => R_load (v := .int .u64 ((x.2 : Nat) : Int)) (by kernel_rfl) (by kernel_rfl) ((hB4.cell 1).trans rfl)) ⟨hB4, hB8⟩ ?_
         refine zV 8 rfl (.int .u64 ((y.2 : Nat) : Int)) (fun _ ⟨hB4, hB8⟩ => R_load (v := .int .u64 ((y.2 : Nat) : Int)) (by kernel_rfl) (by kernel_rfl) ((hB8.cell 1).trans rfl)) ⟨hB4, hB8⟩ ?_
         refine zK [9] #[true, true, true, true, true, true, true, true, true, true, false, false, false, false] [(135, .int .u64 (IntKind.u64.wrap (BitVec.ofInt 64 ((x.2 : Nat) : Int) ||| BitVec.ofInt 64 ((y.2 : Nat) : Int)).toNat))] ⟨hB4, hB8⟩ ?_
         rw [show IntKind.u64.wrap (BitVec.ofInt 64 ((x.2 : Nat) : Int) ||| BitVec.ofInt 64 ((y.2 : Nat) : Int)).toNat = ((x.2 ||| y.2 : Nat) : Int) from or_u x.2 y.2 ux2 uy2]
         have hu106 : x.2 ||| y.2 < 18446744073709551616 := or_lt ux2 uy2
         refine zD 10 rfl (S_call (args := [.int .u64 ((x.2 ||| y.2 : Nat) : Int)]) (by kernel_rfl) (len64_ok (x.2 ||| y.2) _ hu106) ?_)
         rintro _ w107 ⟨rfl, hT108⟩
         have hT0 := hT0.t0 hT108
         have hB4 := hB4.tch0 hT108
         have hB8 := hB8.tch0 hT108
         have hB14 := hB14.tch0 hT108
         have hbl109 := bl_le64 (x := x.2 ||| y.2) (n := 64) hu106
         refine ⟨⟨hB4, hB8⟩, ?_⟩
         refine zD 11 rfl (S_call (args := [.int .i64 ((bl (x.2 ||| y.2) : Nat) : Int)]) (by kernel_rfl) (mask_okN (bl (x.2 ||| y.2)) _ (by omega)) ?_)
         rintro _ w110 ⟨rfl, hT111⟩
         have hT0 := hT0.t0 hT111
         have hB4 := hB4.tch0 hT111
         have hB8 := hB8.tch0 hT111
         have hB14 := hB14.tch0 hT111
         have hu112 := pwm_lt (x := bl (x.2 ||| y.2)) (by omega)
         refine ⟨⟨hB4, hB8⟩, ?_⟩
         refine zK [12] #[true, true, true, true, true, true, true, true, true, true, true, true, true, false] [(138, .agg #[.int .u64 ((max x.1 y.1 : Nat) : Int), .int .u64 ((pw (bl (x.2 ||| y.2)) - 1 : Nat) : Int)])] ⟨hB4, hB8⟩ ?_
         refine zD 13 rfl (S_storeA (b := w5.heap.size) (j := 0) (cs := [.int .u64 ((max x.1 y.1 : Nat) : Int), .int .u64 ((pw (bl (x.2 ||| y.2)) - 1 : Nat) : Int)]) (by kernel_rfl) (by kernel_rfl) (by kernel_rfl) (by simp [oneV]) hB14 (by simp) fun w113 hT114 hs115 hB14' => ?_)
         have hT0 := (hT0).then hT114 (fun c e => by have : c = w5.heap.size := e; omega)
         have hB4 := hB4.tch hT114 (fun e => by have : w.heap.size = w5.heap.size := e; omega)
         have hB8 := hB8.tch hT114 (fun e => by have : w1.heap.size = w5.heap.size := e; omega)
         replace hB14 : Blk w113 w5.heap.size 113 [.int .u64 ((max x.1 y.1 : Nat) : Int), .int .u64 ((pw (bl (x.2 ||| y.2)) - 1 : Nat) : Int)] := hB14'
         refine ⟨⟨hB4, hB8⟩, ?_⟩
         refine d_done (by kernel_rfl) ?_
         refine W_ret ?_
         refine ⟨_, Res_cell (b := w5.heap.size) (cs := [.int .u64 ((max x.1 y.1 : Nat) : Int), .int .u64 ((pw (bl (x.2 ||| y.2)) - 1 : Nat) : Int)]) (by rfl) (by kernel_rfl) (by kernel_rfl) hB14 (by kernel_rfl) (by kernel_rfl), ?_⟩
         have e : rbin O wd x y = (max x.1 y.1, pw (bl (x.2 ||| y.2)) - 1) := by unfold rbin; (repeat (first | rw [if_pos (by omega)] | rw [if_neg (by omega)])); unfold rfill; rw [← bl_or]
         rw [e]
         exact ⟨rfl, hT0⟩
        ·
         replace hc101 : ((O : Nat) : Int) ≠ 7 := (ne_of_beq_false hc101)
         refine W_skip ?_
         refine W_seq ?_
         refine zQ ?_
         refine zS [(32, .bool (((O : Nat) : Int) == 12)), (31, .bool (((O : Nat) : Int) == 12))] ?_
         refine zO (((O : Nat) : Int) == 12) (fun hc116 => ?_) (fun hc116 => ?_)
         ·
          replace hc116 : ((O : Nat) : Int) = 12 := (eq_of_beq hc116)
          refine W_exit ?_
          refine X_miss rfl ?_
          refine X_miss rfl ?_
          refine X_miss rfl ?_
          refine X_miss rfl ?_
          refine X_miss rfl ?_
          refine X_miss rfl ?_
          refine X_miss rfl ?_
          refine X_miss rfl ?_
          refine X_hit ?_
          refine W_seq ?_
          refine W_seq ?_
          refine W_draw (fun w' => Blk w' (w.heap.size) 113 [.int .u64 ((x.1 : Nat) : Int), .int .u64 ((x.2 : Nat) : Int)] ∧ Blk w' (w1.heap.size) 113 [.int .u64 ((y.1 : Nat) : Int), .int .u64 ((y.2 : Nat) : Int)]) (by kernel_rfl) (by kernel_rfl) (by kernel_rfl) fun w117 hT118 hh119 => ?_
          have hT0 := hT0.t0 hT118
          have hB4 := hB4.tch0 hT118
          have hB8 := hB8.tch0 hT118
          have hB14 := hB14.tch0 hT118
          refine zK [10, 12] #[false, false, false, false, false, false, false, false, false, false, true, false, true, false, false, false, false, false, false, false, false, false, false, false] [(149, .pointer (some ⟨w.heap.size, 1, none⟩)), (151, .pointer (some ⟨w1.heap.size, 0, none⟩))] ⟨hB4, hB8⟩ ?_
          refine zV 0 rfl (.agg #[.int .u64 ((x.1 : Nat) : Int), .int .u64 ((x.2 : Nat) : Int)]) (fun _ ⟨hB4, hB8⟩ => R_loadA [.int .u64 ((x.1 : Nat) : Int), .int .u64 ((x.2 : Nat) : Int)] (by kernel_rfl) (by kernel_rfl) (by kernel_rfl) (fun k u hk => by rw [hB4.cell]; exact get_part _ 0 _ k u rfl hk)) ⟨hB4, hB8⟩ ?_
          refine zV 1 rfl (.agg #[.int .u64 ((y.1 : Nat) : Int), .int .u64 ((y.2 : Nat) : Int)]) (fun _ ⟨hB4, hB8⟩ => R_loadA [.int .u64 ((y.1 : Nat) : Int), .int .u64 ((y.2 : Nat) : Int)] (by kernel_rfl) (by kernel_rfl) (by kernel_rfl) (fun k u hk => by rw [hB8.cell]; exact get_part _ 0 _ k u rfl hk)) ⟨hB4, hB8⟩ ?_
          refine zV 11 rfl (.int .u64 ((x.2 : Nat) : Int)) (fun _ ⟨hB4, hB8⟩ => R_load (v := .int .u64 ((x.2 : Nat) : Int)) (by kernel_rfl) (by kernel_rfl) ((hB4.cell 1).trans rfl)) ⟨hB4, hB8⟩ ?_
          refine zV 13 rfl (.int .u64 ((y.1 : Nat) : Int)) (fun _ ⟨hB4, hB8⟩ => R_load (v := .int .u64 ((y.1 : Nat) : Int)) (by kernel_rfl) (by kernel_rfl) ((hB8.cell 0).trans rfl)) ⟨hB4, hB8⟩ ?_
          refine zK [14] #[true, true, false, false, false, false, false, false, false, false, true, true, true, true, true, false, false, false, false, false, false, false, false, false] [(153, .bool (decide (((x.2 : Nat) : Int) < ((y.1 : Nat) : Int))))] ⟨hB4, hB8⟩ ?_
          refine zD 2 rfl (S_val (v := .bool (decide (x = y))) (R_eqSp x y (by kernel_rfl) (by kernel_rfl) ux1 ux2 uy1 uy2) ?_)
          refine ⟨⟨hB4, hB8⟩, ?_⟩
          refine zK [3, 15] #[true, true, true, true, false, false, false, false, false, false, true, true, true, true, true, true, false, false, false, false, false, false, false, false] [(142, .bool (decide (x = y))), (154, .bool (decide (((x.2 : Nat) : Int) < ((y.1 : Nat) : Int))))] ⟨hB4, hB8⟩ ?_
          cases hb120 : decide (x = y)
          ·
           replace hb120 : x ≠ y := (of_decide_eq_false hb120)
           refine zK [4, 6, 5, 7, 8, 9] #[true, true, true, true, true, true, true, true, true, true, true, true, true, true, true, true, false, false, false, false, false, false, false, false] [(143, undef), (145, undef), (144, undef), (146, undef), (147, undef), (148, .bool false)] ⟨hB4, hB8⟩ ?_
           cases hb121 : decide (((x.2 : Nat) : Int) < ((y.1 : Nat) : Int))
           ·
            replace hb121 : ((y.1 : Nat) : Int) ≤ ((x.2 : Nat) : Int) := (Int.not_lt.1 (of_decide_eq_false hb121))
            refine zK [16, 18] #[true, true, true, true, true, true, true, true, true, true, true, true, true, true, true, true, true, false, true, false, false, false, false, false] [(155, .pointer (some ⟨w1.heap.size, 1, none⟩)), (157, .pointer (some ⟨w.heap.size, 0, none⟩))] ⟨hB4, hB8⟩ ?_
            refine zV 17 rfl (.int .u64 ((y.2 : Nat) : Int)) (fun _ ⟨hB4, hB8⟩ => R_load (v := .int .u64 ((y.2 : Nat) : Int)) (by kernel_rfl) (by kernel_rfl) ((hB8.cell 1).trans rfl)) ⟨hB4, hB8⟩ ?_
            refine zV 19 rfl (.int .u64 ((x.1 : Nat) : Int)) (fun _ ⟨hB4, hB8⟩ => R_load (v := .int .u64 ((x.1 : Nat) : Int)) (by kernel_rfl) (by kernel_rfl) ((hB4.cell 0).trans rfl)) ⟨hB4, hB8⟩ ?_
            refine zK [20, 21] #[true, true, true, true, true, true, true, true, true, true, true, true, true, true, true, true, true, true, true, true, true, true, false, false] [(159, .bool (decide (((y.2 : Nat) : Int) < ((x.1 : Nat) : Int)))), (160, .bool (decide (((y.2 : Nat) : Int) < ((x.1 : Nat) : Int))))] ⟨hB4, hB8⟩ ?_
            refine zD 22 rfl (S_call (args := [.bool false, .bool (decide (((y.2 : Nat) : Int) < ((x.1 : Nat) : Int)))]) (by kernel_rfl) (truth_ok false (decide (((y.2 : Nat) : Int) < ((x.1 : Nat) : Int))) _) ?_)
            rintro _ w122 ⟨rfl, hT123⟩
            have hT0 := hT0.t0 hT123
            have hB4 := hB4.tch0 hT123
            have hB8 := hB8.tch0 hT123
            have hB14 := hB14.tch0 hT123
            refine ⟨⟨hB4, hB8⟩, ?_⟩
            refine zD 23 rfl (S_storeA (b := w5.heap.size) (j := 0) (cs := [.int .u64 (((rtruth false (decide (((y.2 : Nat) : Int) < ((x.1 : Nat) : Int)))).1 : Nat) : Int), .int .u64 (((rtruth false (decide (((y.2 : Nat) : Int) < ((x.1 : Nat) : Int)))).2 : Nat) : Int)]) (by kernel_rfl) (by kernel_rfl) (by kernel_rfl) (by simp [oneV]) hB14 (by simp) fun w124 hT125 hs126 hB14' => ?_)
            have hT0 := (hT0).then hT125 (fun c e => by have : c = w5.heap.size := e; omega)
            have hB4 := hB4.tch hT125 (fun e => by have : w.heap.size = w5.heap.size := e; omega)
            have hB8 := hB8.tch hT125 (fun e => by have : w1.heap.size = w5.heap.size := e; omega)
            replace hB14 : Blk w124 w5.heap.size 113 [.int .u64 (((rtruth false (decide (((y.2 : Nat) : Int) < ((x.1 : Nat) : Int)))).1 : Nat) : Int), .int .u64 (((rtruth false (decide (((y.2 : Nat) : Int) < ((x.1 : Nat) : Int)))).2 : Nat) : Int)] := hB14'
            refine ⟨⟨hB4, hB8⟩, ?_⟩
            refine d_done (by kernel_rfl) ?_
            refine W_ret ?_
            refine ⟨_, Res_cell (b := w5.heap.size) (cs := [.int .u64 (((rtruth false (decide (((y.2 : Nat) : Int) < ((x.1 : Nat) : Int)))).1 : Nat) : Int), .int .u64 (((rtruth false (decide (((y.2 : Nat) : Int) < ((x.1 : Nat) : Int)))).2 : Nat) : Int)]) (by rfl) (by kernel_rfl) (by kernel_rfl) hB14 (by kernel_rfl) (by kernel_rfl), ?_⟩
            have e : rbin O wd x y = rtruth false (decide (((y.2 : Nat) : Int) < ((x.1 : Nat) : Int))) := by unfold rbin; (repeat (first | rw [if_pos (by omega)] | rw [if_neg (by omega)])); exact rtruth_congr (by first | (simp_all; done) | (simp_all; omega) | (simp_all; exact (beq_sp _ _).symm)) (by first | (simp_all; done) | (simp_all; omega) | (simp_all; exact (beq_sp _ _).symm))
            rw [e]
            exact ⟨rfl, hT0⟩
           ·
            replace hb121 : ((x.2 : Nat) : Int) < ((y.1 : Nat) : Int) := (of_decide_eq_true hb121)
            refine zK [16, 18, 17, 19, 20, 21] #[true, true, true, true, true, true, true, true, true, true, true, true, true, true, true, true, true, true, true, true, true, true, false, false] [(155, undef), (157, undef), (156, undef), (158, undef), (159, undef), (160, .bool true)] ⟨hB4, hB8⟩ ?_
            refine zD 22 rfl (S_call (args := [.bool false, .bool true]) (by kernel_rfl) (truth_ok false true _) ?_)
            rintro _ w127 ⟨rfl, hT128⟩
            have hT0 := hT0.t0 hT128
            have hB4 := hB4.tch0 hT128
            have hB8 := hB8.tch0 hT128
            have hB14 := hB14.tch0 hT128
            refine ⟨⟨hB4, hB8⟩, ?_⟩
            refine zD 23 rfl (S_storeA (b := w5.heap.size) (j := 0) (cs := [.int .u64 (((rtruth false true).1 : Nat) : Int), .int .u64 (((rtruth false true).2 : Nat) : Int)]) (by kernel_rfl) (by kernel_rfl) (by kernel_rfl) (by simp [oneV]) hB14 (by simp) fun w129 hT130 hs131 hB14' => ?_)
            have hT0 := (hT0).then hT130 (fun c e => by have : c = w5.heap.size := e; omega)
            have hB4 := hB4.tch hT130 (fun e => by have : w.heap.size = w5.heap.size := e; omega)
            have hB8 := hB8.tch hT130 (fun e => by have : w1.heap.size = w5.heap.size := e; omega)
            replace hB14 : Blk w129 w5.heap.size 113 [.int .u64 (((rtruth false true).1 : Nat) : Int), .int .u64 (((rtruth false true).2 : Nat) : Int)] := hB14'
            refine ⟨⟨hB4, hB8⟩, ?_⟩
            refine d_done (by kernel_rfl) ?_
            refine W_ret ?_
            refine ⟨_, Res_cell (b := w5.heap.size) (cs := [.int .u64 (((rtruth false true).1 : Nat) : Int), .int .u64 (((rtruth false true).2 : Nat) : Int)]) (by rfl) (by kernel_rfl) (by kernel_rfl) hB14 (by kernel_rfl) (by kernel_rfl), ?_⟩
            have e : rbin O wd x y = rtruth false true := by unfold rbin; (repeat (first | rw [if_pos (by omega)] | rw [if_neg (by omega)])); exact rtruth_congr (by first | (simp_all; done) | (simp_all; omega) | (simp_all; exact (beq_sp _ _).symm)) (by first | (simp_all; done) | (simp_all; omega) | (simp_all; exact (beq_sp _ _).symm))
            rw [e]
            exact ⟨rfl, hT0⟩
          ·
           replace hb120 : x = y := (of_decide_eq_true hb120)
           refine zK [4, 6] #[true, true, true, true, true, false, true, false, false, false, true, true, true, true, true, true, false, false, false, false, false, false, false, false] [(143, .pointer (some ⟨w.heap.size, 0, none⟩)), (145, .pointer (some ⟨w.heap.size, 1, none⟩))] ⟨hB4, hB8⟩ ?_
           cases hb132 : decide (((x.2 : Nat) : Int) < ((y.1 : Nat) : Int))
           ·
            replace hb132 : ((y.1 : Nat) : Int) ≤ ((x.2 : Nat) : Int) := (Int.not_lt.1 (of_decide_eq_false hb132))
            refine zK [16, 18] #[true, true, true, true, true, false, true, false, false, false, true, true, true, true, true, true, true, false, true, false, false, false, false, false] [(155, .pointer (some ⟨w1.heap.size, 1, none⟩)), (157, .pointer (some ⟨w.heap.size, 0, none⟩))] ⟨hB4, hB8⟩ ?_
            refine zV 5 rfl (.int .u64 ((x.1 : Nat) : Int)) (fun _ ⟨hB4, hB8⟩ => R_load (v := .int .u64 ((x.1 : Nat) : Int)) (by kernel_rfl) (by kernel_rfl) ((hB4.cell 0).trans rfl)) ⟨hB4, hB8⟩ ?_
            refine zV 7 rfl (.int .u64 ((x.2 : Nat) : Int)) (fun _ ⟨hB4, hB8⟩ => R_load (v := .int .u64 ((x.2 : Nat) : Int)) (by kernel_rfl) (by kernel_rfl) ((hB4.cell 1).trans rfl)) ⟨hB4, hB8⟩ ?_
            refine zK [8, 9] #[true, true, true, true, true, true, true, true, true, true, true, true, true, true, true, true, true, false, true, false, false, false, false, false] [(147, .bool (((x.1 : Nat) : Int) == ((x.2 : Nat) : Int))), (148, .bool (((x.1 : Nat) : Int) == ((x.2 : Nat) : Int)))] ⟨hB4, hB8⟩ ?_
            refine zV 17 rfl (.int .u64 ((y.2 : Nat) : Int)) (fun _ ⟨hB4, hB8⟩ => R_load (v := .int .u64 ((y.2 : Nat) : Int)) (by kernel_rfl) (by kernel_rfl) ((hB8.cell 1).trans rfl)) ⟨hB4, hB8⟩ ?_
            refine zV 19 rfl (.int .u64 ((x.1 : Nat) : Int)) (fun _ ⟨hB4, hB8⟩ => R_load (v := .int .u64 ((x.1 : Nat) : Int)) (by kernel_rfl) (by kernel_rfl) ((hB4.cell 0).trans rfl)) ⟨hB4, hB8⟩ ?_
            refine zK [20, 21] #[true, true, true, true, true, true, true, true, true, true, true, true, true, true, true, true, true, true, true, true, true, true, false, false] [(159, .bool (decide (((y.2 : Nat) : Int) < ((x.1 : Nat) : Int)))), (160, .bool (decide (((y.2 : Nat) : Int) < ((x.1 : Nat) : Int))))] ⟨hB4, hB8⟩ ?_
            refine zD 22 rfl (S_call (args := [.bool (((x.1 : Nat) : Int) == ((x.2 : Nat) : Int)), .bool (decide (((y.2 : Nat) : Int) < ((x.1 : Nat) : Int)))]) (by kernel_rfl) (truth_ok (((x.1 : Nat) : Int) == ((x.2 : Nat) : Int)) (decide (((y.2 : Nat) : Int) < ((x.1 : Nat) : Int))) _) ?_)
            rintro _ w133 ⟨rfl, hT134⟩
            have hT0 := hT0.t0 hT134
            have hB4 := hB4.tch0 hT134
            have hB8 := hB8.tch0 hT134
            have hB14 := hB14.tch0 hT134
            refine ⟨⟨hB4, hB8⟩, ?_⟩
            refine zD 23 rfl (S_storeA (b := w5.heap.size) (j := 0) (cs := [.int .u64 (((rtruth (((x.1 : Nat) : Int) == ((x.2 : Nat) : Int)) (decide (((y.2 : Nat) : Int) < ((x.1 : Nat) : Int)))).1 : Nat) : Int), .int .u64 (((rtruth (((x.1 : Nat) : Int) == ((x.2 : Nat) : Int)) (decide (((y.2 : Nat) : Int) < ((x.1 : Nat) : Int)))).2 : Nat) : Int)]) (by kernel_rfl) (by kernel_rfl) (by kernel_rfl) (by simp [oneV]) hB14 (by simp) fun w135 hT136 hs137 hB14' => ?_)
            have hT0 := (hT0).then hT136 (fun c e => by have : c = w5.heap.size := e; omega)
            have hB4 := hB4.tch hT136 (fun e => by have : w.heap.size = w5.heap.size := e; omega)
            have hB8 := hB8.tch hT136 (fun e => by have : w1.heap.size = w5.heap.size := e; omega)
            replace hB14 : Blk w135 w5.heap.size 113 [.int .u64 (((rtruth (((x.1 : Nat) : Int) == ((x.2 : Nat) : Int)) (decide (((y.2 : Nat) : Int) < ((x.1 : Nat) : Int)))).1 : Nat) : Int), .int .u64 (((rtruth (((x.1 : Nat) : Int) == ((x.2 : Nat) : Int)) (decide (((y.2 : Nat) : Int) < ((x.1 : Nat) : Int)))).2 : Nat) : Int)] := hB14'
            refine ⟨⟨hB4, hB8⟩, ?_⟩
            refine d_done (by kernel_rfl) ?_
            refine W_ret ?_
            refine ⟨_, Res_cell (b := w5.heap.size) (cs := [.int .u64 (((rtruth (((x.1 : Nat) : Int) == ((x.2 : Nat) : Int)) (decide (((y.2 : Nat) : Int) < ((x.1 : Nat) : Int)))).1 : Nat) : Int), .int .u64 (((rtruth (((x.1 : Nat) : Int) == ((x.2 : Nat) : Int)) (decide (((y.2 : Nat) : Int) < ((x.1 : Nat) : Int)))).2 : Nat) : Int)]) (by rfl) (by kernel_rfl) (by kernel_rfl) hB14 (by kernel_rfl) (by kernel_rfl), ?_⟩
            have e : rbin O wd x y = rtruth (((x.1 : Nat) : Int) == ((x.2 : Nat) : Int)) (decide (((y.2 : Nat) : Int) < ((x.1 : Nat) : Int))) := by unfold rbin; (repeat (first | rw [if_pos (by omega)] | rw [if_neg (by omega)])); exact rtruth_congr (by first | (simp_all; done) | (simp_all; omega) | (simp_all; exact (beq_sp _ _).symm)) (by first | (simp_all; done) | (simp_all; omega) | (simp_all; exact (beq_sp _ _).symm))
            rw [e]
            exact ⟨rfl, hT0⟩
           ·
            replace hb132 : ((x.2 : Nat) : Int) < ((y.1 : Nat) : Int) := (of_decide_eq_true hb132)
            refine zK [16, 18, 17, 19, 20, 21] #[true, true, true, true, true, false, true, false, false, false, true, true, true, true, true, true, true, true, true, true, true, true, false, false] [(155, undef), (157, undef), (156, undef), (158, undef), (159, undef), (160, .bool true)] ⟨hB4, hB8⟩ ?_
            refine zV 5 rfl (.int .u64 ((x.1 : Nat) : Int)) (fun _ ⟨hB4, hB8⟩ => R_load (v := .int .u64 ((x.1 : Nat) : Int)) (by kernel_rfl) (by kernel_rfl) ((hB4.cell 0).trans rfl)) ⟨hB4, hB8⟩ ?_
            refine zV 7 rfl (.int .u64 ((x.2 : Nat) : Int)) (fun _ ⟨hB4, hB8⟩ => R_load (v := .int .u64 ((x.2 : Nat) : Int)) (by kernel_rfl) (by kernel_rfl) ((hB4.cell 1).trans rfl)) ⟨hB4, hB8⟩ ?_
            refine zK [8, 9] #[true, true, true, true, true, true, true, true, true, true, true, true, true, true, true, true, true, true, true, true, true, true, false, false] [(147, .bool (((x.1 : Nat) : Int) == ((x.2 : Nat) : Int))), (148, .bool (((x.1 : Nat) : Int) == ((x.2 : Nat) : Int)))] ⟨hB4, hB8⟩ ?_
            refine zD 22 rfl (S_call (args := [.bool (((x.1 : Nat) : Int) == ((x.2 : Nat) : Int)), .bool true]) (by kernel_rfl) (truth_ok (((x.1 : Nat) : Int) == ((x.2 : Nat) : Int)) true _) ?_)
            rintro _ w138 ⟨rfl, hT139⟩
            have hT0 := hT0.t0 hT139
            have hB4 := hB4.tch0 hT139
            have hB8 := hB8.tch0 hT139
            have hB14 := hB14.tch0 hT139
            refine ⟨⟨hB4, hB8⟩, ?_⟩
            refine zD 23 rfl (S_storeA (b := w5.heap.size) (j := 0) (cs := [.int .u64 (((rtruth (((x.1 : Nat) : Int) == ((x.2 : Nat) : Int)) true).1 : Nat) : Int), .int .u64 (((rtruth (((x.1 : Nat) : Int) == ((x.2 : Nat) : Int)) true).2 : Nat) : Int)]) (by kernel_rfl) (by kernel_rfl) (by kernel_rfl) (by simp [oneV]) hB14 (by simp) fun w140 hT141 hs142 hB14' => ?_)
            have hT0 := (hT0).then hT141 (fun c e => by have : c = w5.heap.size := e; omega)
            have hB4 := hB4.tch hT141 (fun e => by have : w.heap.size = w5.heap.size := e; omega)
            have hB8 := hB8.tch hT141 (fun e => by have : w1.heap.size = w5.heap.size := e; omega)
            replace hB14 : Blk w140 w5.heap.size 113 [.int .u64 (((rtruth (((x.1 : Nat) : Int) == ((x.2 : Nat) : Int)) true).1 : Nat) : Int), .int .u64 (((rtruth (((x.1 : Nat) : Int) == ((x.2 : Nat) : Int)) true).2 : Nat) : Int)] := hB14'
            refine ⟨⟨hB4, hB8⟩, ?_⟩
            refine d_done (by kernel_rfl) ?_
            refine W_ret ?_
            refine ⟨_, Res_cell (b := w5.heap.size) (cs := [.int .u64 (((rtruth (((x.1 : Nat) : Int) == ((x.2 : Nat) : Int)) true).1 : Nat) : Int), .int .u64 (((rtruth (((x.1 : Nat) : Int) == ((x.2 : Nat) : Int)) true).2 : Nat) : Int)]) (by rfl) (by kernel_rfl) (by kernel_rfl) hB14 (by kernel_rfl) (by kernel_rfl), ?_⟩
            have e : rbin O wd x y = rtruth (((x.1 : Nat) : Int) == ((x.2 : Nat) : Int)) true := by unfold rbin; (repeat (first | rw [if_pos (by omega)] | rw [if_neg (by omega)])); exact rtruth_congr (by first | (simp_all; done) | (simp_all; omega) | (simp_all; exact (beq_sp _ _).symm)) (by first | (simp_all; done) | (simp_all; omega) | (simp_all; exact (beq_sp _ _).symm))
            rw [e]
            exact ⟨rfl, hT0⟩
         ·
          replace hc116 : ((O : Nat) : Int) ≠ 12 := (ne_of_beq_false hc116)
          refine W_skip ?_
          refine W_seq ?_
          refine zQ ?_
          refine zS [(34, .bool (((O : Nat) : Int) == 13)), (33, .bool (((O : Nat) : Int) == 13))] ?_
          refine zO (((O : Nat) : Int) == 13) (fun hc143 => ?_) (fun hc143 => ?_)
          ·
           replace hc143 : ((O : Nat) : Int) = 13 := (eq_of_beq hc143)
           refine W_exit ?_
           refine X_miss rfl ?_
           refine X_miss rfl ?_
           refine X_miss rfl ?_
           refine X_miss rfl ?_
           refine X_miss rfl ?_
           refine X_miss rfl ?_
           refine X_miss rfl ?_
           refine X_miss rfl ?_
           refine X_miss rfl ?_
           refine X_hit ?_
           refine W_seq ?_
           refine zQ ?_
           refine zS [(162, .pointer (some ⟨w.heap.size, 1, none⟩))] ?_
           refine zL (.int .u64 ((x.2 : Nat) : Int)) ((hB4.cell 1).trans rfl) ?_
           refine zS [(164, .pointer (some ⟨w1.heap.size, 0, none⟩))] ?_
           refine zL (.int .u64 ((y.1 : Nat) : Int)) ((hB8.cell 0).trans rfl) ?_
           refine zS [(166, .bool (decide (((x.2 : Nat) : Int) < ((y.1 : Nat) : Int)))), (167, .pointer (some ⟨w.heap.size, 0, none⟩))] ?_
           refine zL (.int .u64 ((x.1 : Nat) : Int)) ((hB4.cell 0).trans rfl) ?_
           refine zS [(169, .pointer (some ⟨w1.heap.size, 1, none⟩))] ?_
           refine zL (.int .u64 ((y.2 : Nat) : Int)) ((hB8.cell 1).trans rfl) ?_
           refine zS [(171, .bool (decide (((x.1 : Nat) : Int) ≥ ((y.2 : Nat) : Int))))] ?_
           refine zC (truth_ok (decide (((x.2 : Nat) : Int) < ((y.1 : Nat) : Int))) (decide (((x.1 : Nat) : Int) ≥ ((y.2 : Nat) : Int))) _) ?_
           rintro _ w144 ⟨rfl, hT145⟩
           have hT0 := hT0.t0 hT145
           have hB4 := hB4.tch0 hT145
           have hB8 := hB8.tch0 hT145
           have hB14 := hB14.tch0 hT145
           refine st (by rfl) (S_storeA (b := w5.heap.size) (j := 0) (cs := [.int .u64 (((rtruth (decide (((x.2 : Nat) : Int) < ((y.1 : Nat) : Int))) (decide (((x.1 : Nat) : Int) ≥ ((y.2 : Nat) : Int)))).1 : Nat) : Int), .int .u64 (((rtruth (decide (((x.2 : Nat) : Int) < ((y.1 : Nat) : Int))) (decide (((x.1 : Nat) : Int) ≥ ((y.2 : Nat) : Int)))).2 : Nat) : Int)]) (by kernel_rfl) (by kernel_rfl) (by kernel_rfl) (by simp [oneV]) hB14 (by simp) fun w146 hT147 hs148 hB14' => ?_)
           have hT0 := (hT0).then hT147 (fun c e => by have : c = w5.heap.size := e; omega)
           have hB4 := hB4.tch hT147 (fun e => by have : w.heap.size = w5.heap.size := e; omega)
           have hB8 := hB8.tch hT147 (fun e => by have : w1.heap.size = w5.heap.size := e; omega)
           replace hB14 : Blk w146 w5.heap.size 113 [.int .u64 (((rtruth (decide (((x.2 : Nat) : Int) < ((y.1 : Nat) : Int))) (decide (((x.1 : Nat) : Int) ≥ ((y.2 : Nat) : Int)))).1 : Nat) : Int), .int .u64 (((rtruth (decide (((x.2 : Nat) : Int) < ((y.1 : Nat) : Int))) (decide (((x.1 : Nat) : Int) ≥ ((y.2 : Nat) : Int)))).2 : Nat) : Int)] := hB14'
           refine op_nil ?_
           refine W_ret ?_
           refine ⟨_, Res_cell (b := w5.heap.size) (cs := [.int .u64 (((rtruth (decide (((x.2 : Nat) : Int) < ((y.1 : Nat) : Int))) (decide (((x.1 : Nat) : Int) ≥ ((y.2 : Nat) : Int)))).1 : Nat) : Int), .int .u64 (((rtruth (decide (((x.2 : Nat) : Int) < ((y.1 : Nat) : Int))) (decide (((x.1 : Nat) : Int) ≥ ((y.2 : Nat) : Int)))).2 : Nat) : Int)]) (by rfl) (by kernel_rfl) (by kernel_rfl) hB14 (by kernel_rfl) (by kernel_rfl), ?_⟩
           have e : rbin O wd x y = rtruth (decide (((x.2 : Nat) : Int) < ((y.1 : Nat) : Int))) (decide (((x.1 : Nat) : Int) ≥ ((y.2 : Nat) : Int))) := by unfold rbin; (repeat (first | rw [if_pos (by omega)] | rw [if_neg (by omega)])); exact rtruth_congr (by first | (simp_all; done) | (simp_all; omega) | (simp_all; exact (beq_sp _ _).symm)) (by first | (simp_all; done) | (simp_all; omega) | (simp_all; exact (beq_sp _ _).symm))
           rw [e]
           exact ⟨rfl, hT0⟩
          ·
           replace hc143 : ((O : Nat) : Int) ≠ 13 := (ne_of_beq_false hc143)
           refine W_skip ?_
           refine zQ ?_
           refine zS [(36, .bool (((O : Nat) : Int) == 14)), (35, .bool (((O : Nat) : Int) == 14))] ?_
           refine zO (((O : Nat) : Int) == 14) (fun hc149 => ?_) (fun hc149 => ?_)
           ·
            replace hc149 : ((O : Nat) : Int) = 14 := (eq_of_beq hc149)
            refine W_exit ?_
            refine X_miss rfl ?_
            refine X_miss rfl ?_
            refine X_miss rfl ?_
            refine X_miss rfl ?_
            refine X_miss rfl ?_
            refine X_miss rfl ?_
            refine X_miss rfl ?_
            refine X_miss rfl ?_
            refine X_miss rfl ?_
            refine X_miss rfl ?_
            refine X_hit ?_
            refine W_seq ?_
            refine zQ ?_
            refine zC (all_ok 1 _ (by omega)) ?_
            rintro _ w150 ⟨rfl, hT151⟩
            have hT0 := hT0.t0 hT151
            have hB4 := hB4.tch0 hT151
            have hB8 := hB8.tch0 hT151
            have hB14 := hB14.tch0 hT151
            refine st (by rfl) (S_storeA (b := w5.heap.size) (j := 0) (cs := [.int .u64 (((rall 1).1 : Nat) : Int), .int .u64 (((rall 1).2 : Nat) : Int)]) (by kernel_rfl) (by kernel_rfl) (by kernel_rfl) (by simp [oneV]) hB14 (by simp) fun w152 hT153 hs154 hB14' => ?_)
            have hT0 := (hT0).then hT153 (fun c e => by have : c = w5.heap.size := e; omega)
            have hB4 := hB4.tch hT153 (fun e => by have : w.heap.size = w5.heap.size := e; omega)
            have hB8 := hB8.tch hT153 (fun e => by have : w1.heap.size = w5.heap.size := e; omega)
            replace hB14 : Blk w152 w5.heap.size 113 [.int .u64 (((rall 1).1 : Nat) : Int), .int .u64 (((rall 1).2 : Nat) : Int)] := hB14'
            refine op_nil ?_
            refine W_ret ?_
            refine ⟨_, Res_cell (b := w5.heap.size) (cs := [.int .u64 (((rall 1).1 : Nat) : Int), .int .u64 (((rall 1).2 : Nat) : Int)]) (by rfl) (by kernel_rfl) (by kernel_rfl) hB14 (by kernel_rfl) (by kernel_rfl), ?_⟩
            have e : rbin O wd x y = rall 1 := by unfold rbin; (repeat (first | rw [if_pos (by omega)] | rw [if_neg (by omega)]))
            rw [e]
            exact ⟨rfl, hT0⟩
           ·
            replace hc149 : ((O : Nat) : Int) ≠ 14 := (ne_of_beq_false hc149)
            refine W_skip ?_
            refine W_exit ?_
            refine X_miss rfl ?_
            refine X_miss rfl ?_
            refine X_miss rfl ?_
            refine X_miss rfl ?_
            refine X_miss rfl ?_
            refine X_miss rfl ?_
            refine X_miss rfl ?_
            refine X_miss rfl ?_
            refine X_miss rfl ?_
            refine X_miss rfl ?_
            refine X_miss rfl ?_
            refine X_hit ?_
            refine zQ ?_
            refine zS [(174, .int .i64 ((wd : Nat) : Int))] ?_
            refine zC (all_ok wd _ (by omega)) ?_
            rintro _ w155 ⟨rfl, hT156⟩
            have hT0 := hT0.t0 hT156
            have hB4 := hB4.tch0 hT156
            have hB8 := hB8.tch0 hT156
            have hB14 := hB14.tch0 hT156
            refine st (by rfl) (S_storeA (b := w5.heap.size) (j := 0) (cs := [.int .u64 (((rall wd).1 : Nat) : Int), .int .u64 (((rall wd).2 : Nat) : Int)]) (by kernel_rfl) (by kernel_rfl) (by kernel_rfl) (by simp [oneV]) hB14 (by simp) fun w157 hT158 hs159 hB14' => ?_)
            have hT0 := (hT0).then hT158 (fun c e => by have : c = w5.heap.size := e; omega)
            have hB4 := hB4.tch hT158 (fun e => by have : w.heap.size = w5.heap.size := e; omega)
            have hB8 := hB8.tch hT158 (fun e => by have : w1.heap.size = w5.heap.size := e; omega)
            replace hB14 : Blk w157 w5.heap.size 113 [.int .u64 (((rall wd).1 : Nat) : Int), .int .u64 (((rall wd).2 : Nat) : Int)] := hB14'
            refine op_nil ?_
            refine W_ret ?_
            refine ⟨_, Res_cell (b := w5.heap.size) (cs := [.int .u64 (((rall wd).1 : Nat) : Int), .int .u64 (((rall wd).2 : Nat) : Int)]) (by rfl) (by kernel_rfl) (by kernel_rfl) hB14 (by kernel_rfl) (by kernel_rfl), ?_⟩
            have e : rbin O wd x y = rall wd := by unfold rbin; (repeat (first | rw [if_pos (by omega)] | rw [if_neg (by omega)]))
            rw [e]
            exact ⟨rfl, hT0⟩

end Go.Proofs.YtlbadnpgmkobdaaV
