/- Walks of functions of the program and of the document's texts. The conditions stand with each theorem. -/
import Derived.Test.YtlbadnpgmkobdaaJKkbit56x1
import Derived.Test.YtlbadnpgmkobdaaJKkbit56x1
import Derived.Test.YtlbadnpgmkobdaaProg
import Derived.Test.YtlbadnpgmkobdaaK2
set_option linter.unusedVariables false
set_option linter.unusedSimpArgs false
namespace Go.Proofs.YtlbadnpgmkobdaaV
open Go Go.RowKit Go.Proofs

set_option maxRecDepth 100000 in
theorem rsum_ok (wd : Nat) (x y : K)  (w : World) (hx : KI wd x) (hy : KI wd y) (hw : wd ≤ 64) : Ret Try.prog 104 [.int .i64 ((wd : Nat) : Int), .agg #[.int .u64 ((x.1 : Nat) : Int), .int .u64 ((x.2 : Nat) : Int)], .agg #[.int .u64 ((y.1 : Nat) : Int), .int .u64 ((y.2 : Nat) : Int)]] w fun v w' => v = .agg #[.int .u64 (((ksum wd x y).1 : Nat) : Int), .int .u64 (((ksum wd x y).2 : Nat) : Int)] ∧ Tch N0 w w' := by
 have ux1 := hx.u1 hw
 have ux2 := hx.u2 hw
 have uy1 := hy.u1 hw
 have uy2 := hy.u2 hw
 refine enter Try.func104 rfl rfl ?_
 refine zQ ?_
 refine st (by rfl) (S_new (v := .pointer (some ⟨w.heap.size, 0, none⟩)) (ob := .cells #[.int .u64 ((x.1 : Nat) : Int), .int .u64 ((x.2 : Nat) : Int)] 104) (by kernel_rfl) fun w1 hT2 hs3 hB4 => ?_)
 replace hB4 : Blk w1 (w.heap.size) 104 [.int .u64 ((x.1 : Nat) : Int), .int .u64 ((x.2 : Nat) : Int)] := hB4
 have hT0 := hT2
 have z9 := hT0.size
 have l10 := hB4.lt
 refine st (by rfl) (S_new (v := .pointer (some ⟨w1.heap.size, 0, none⟩)) (ob := .cells #[.int .u64 ((y.1 : Nat) : Int), .int .u64 ((y.2 : Nat) : Int)] 104) (by kernel_rfl) fun w5 hT6 hs7 hB8 => ?_)
 replace hB8 : Blk w5 (w1.heap.size) 104 [.int .u64 ((y.1 : Nat) : Int), .int .u64 ((y.2 : Nat) : Int)] := hB8
 have hT0 := hT0.t0 hT6
 have hB4 := hB4.tch0 hT6
 have z15 := hT0.size
 have l16 := hB4.lt
 have l17 := hB8.lt
 refine st (by rfl) (S_new (v := .pointer (some ⟨w5.heap.size, 0, none⟩)) (ob := .cells #[.int .u64 0, .int .u64 0] 104) (by kernel_rfl) fun w11 hT12 hs13 hB14 => ?_)
 replace hB14 : Blk w11 (w5.heap.size) 104 [.int .u64 0, .int .u64 0] := hB14
 have hT0 := hT0.t0 hT12
 have hB4 := hB4.tch0 hT12
 have hB8 := hB8.tch0 hT12
 refine op_nil ?_
 refine zQ ?_
 have z22 := hT0.size
 have l23 := hB4.lt
 have l24 := hB8.lt
 have l25 := hB14.lt
 refine st (by rfl) (S_new (v := .pointer (some ⟨w11.heap.size, 0, none⟩)) (ob := .cells #[.int .u64 0, .int .u64 0] 104) (by kernel_rfl) fun w18 hT19 hs20 hB21 => ?_)
 replace hB21 : Blk w18 (w11.heap.size) 104 [.int .u64 0, .int .u64 0] := hB21
 have hT0 := hT0.t0 hT19
 have hB4 := hB4.tch0 hT19
 have hB8 := hB8.tch0 hT19
 have hB14 := hB14.tch0 hT19
 refine op_nil ?_
 refine W_seq ?_
 refine zQ ?_
 refine zS [(8, .int .i64 0)] ?_
 refine op_nil ?_
 refine W_block ?_
 refine W_loop (fun m ρ w' => ∃ (i : Nat) (ρ0 : Env), ρ = updL ρ0 [(0, .int .i64 ((wd : Nat) : Int)), (1, .agg #[.int .u64 ((x.1 : Nat) : Int), .int .u64 ((x.2 : Nat) : Int)]), (2, .agg #[.int .u64 ((y.1 : Nat) : Int), .int .u64 ((y.2 : Nat) : Int)]), (4, .pointer (some ⟨w.heap.size, 0, none⟩)), (5, .pointer (some ⟨w1.heap.size, 0, none⟩)), (6, .pointer (some ⟨w5.heap.size, 0, none⟩)), (7, .pointer (some ⟨w11.heap.size, 0, none⟩)), (8, .int .i64 ((i : Nat) : Int))] ∧ (i ≤ wd) ∧ (∀ s, s < i → bothB x y s = true) ∧ Tch N0 w w' ∧ Blk w' (w.heap.size) 104 [.int .u64 ((x.1 : Nat) : Int), .int .u64 ((x.2 : Nat) : Int)] ∧ Blk w' (w1.heap.size) 104 [.int .u64 ((y.1 : Nat) : Int), .int .u64 ((y.2 : Nat) : Int)] ∧ Blk w' (w5.heap.size) 104 [.int .u64 0, .int .u64 0] ∧ Blk w' (w11.heap.size) 104 [.int .u64 ((bval i (preB (bothB x y)) : Nat) : Int), .int .u64 ((bval i (ksv x y) : Nat) : Int)] ∧ m = wd - i) (m := wd - 0) ?_ ?_
 ·
  refine ⟨0, _, updL_self (by kernel_rfl), by omega, (fun s h => by omega), hT0, hB4, hB8, hB14, hB21, rfl⟩
 ·
  rintro m ρ w26 ⟨i, ρ, rfl, hi, hb, hT0, hQ4, hQ5, hQ6, hOut, rfl⟩
  refine W_seq ?_
  refine zQ ?_
  refine zS [(14, .int .i64 ((i : Nat) : Int)), (15, .int .i64 ((wd : Nat) : Int)), (16, .bool (decide (((i : Nat) : Int) < ((wd : Nat) : Int))))] ?_
  refine zO (decide (((i : Nat) : Int) < ((wd : Nat) : Int))) (fun hc27 => ?_) (fun hc27 => ?_)
  ·
   replace hc27 : ((i : Nat) : Int) < ((wd : Nat) : Int) := (of_decide_eq_true hc27)
   refine W_skip ?_
   refine W_seq ?_
   refine W_block ?_
   refine zQ ?_
   refine st (by rfl) (S_val (v := .agg #[.int .u64 ((x.1 : Nat) : Int), .int .u64 ((x.2 : Nat) : Int)]) (R_loadA [.int .u64 ((x.1 : Nat) : Int), .int .u64 ((x.2 : Nat) : Int)] (by kernel_rfl) (by kernel_rfl) (by kernel_rfl) (fun k u hk => by rw [hQ4.cell]; exact get_part _ 0 _ k u rfl hk)) ?_)
   refine zS [(21, .int .i64 ((i : Nat) : Int))] ?_
   refine zC (rbit2_ok x.1 x.2 i _ (by omega) ux1 ux2) ?_
   rintro _ w28 ⟨rfl, hT29⟩
   have hT0 := hT0.t0 hT29
   have hQ4 := hQ4.tch0 hT29
   have hQ5 := hQ5.tch0 hT29
   have hQ6 := hQ6.tch0 hT29
   have hOut := hOut.tch0 hT29
   refine zS [(19, .tuple #[.bool (x.1.testBit i), .bool (x.2.testBit i)]), (23, .bool (x.1.testBit i)), (24, .bool (x.2.testBit i)), (9, .bool (x.1.testBit i)), (10, .bool (x.2.testBit i))] ?_
   refine op_nil ?_
   refine zQ ?_
   refine st (by rfl) (S_val (v := .agg #[.int .u64 ((y.1 : Nat) : Int), .int .u64 ((y.2 : Nat) : Int)]) (R_loadA [.int .u64 ((y.1 : Nat) : Int), .int .u64 ((y.2 : Nat) : Int)] (by kernel_rfl) (by kernel_rfl) (by kernel_rfl) (fun k u hk => by rw [hQ5.cell]; exact get_part _ 0 _ k u rfl hk)) ?_)
   refine zS [(27, .int .i64 ((i : Nat) : Int))] ?_
   refine zC (rbit2_ok y.1 y.2 i _ (by omega) uy1 uy2) ?_
   rintro _ w30 ⟨rfl, hT31⟩
   have hT0 := hT0.t0 hT31
   have hQ4 := hQ4.tch0 hT31
   have hQ5 := hQ5.tch0 hT31
   have hQ6 := hQ6.tch0 hT31
   have hOut := hOut.tch0 hT31
   refine zS [(25, .tuple #[.bool (y.1.testBit i), .bool (y.2.testBit i)]), (29, .bool (y.1.testBit i)), (30, .bool (y.2.testBit i)), (11, .bool (y.1.testBit i)), (12, .bool (y.2.testBit i))] ?_
   refine op_nil ?_
   refine W_seq ?_
   refine zQ ?_
   refine zS [(31, .bool (x.1.testBit i)), (32, .bool (!(x.1.testBit i))), (33, .bool (!(x.1.testBit i)))] ?_
   cases hb32 : x.1.testBit i
   ·
    replace hb32 : x.1.testBit i = false := (hb32)
    refine zS [(34, undef), (35, undef), (36, .bool true)] ?_
    refine zO true (fun _ => ?_) (fun h => nomatch h)
    refine W_exit ?_
    refine X_miss rfl ?_
    refine X_hit ?_
    refine zQ ?_
    refine st (by rfl) (S_val (v := .agg #[.int .u64 ((bval i (preB (bothB x y)) : Nat) : Int), .int .u64 ((bval i (ksv x y) : Nat) : Int)]) (R_loadA [.int .u64 ((bval i (preB (bothB x y)) : Nat) : Int), .int .u64 ((bval i (ksv x y) : Nat) : Int)] (by kernel_rfl) (by kernel_rfl) (by kernel_rfl) (fun k u hk => by rw [hOut.cell]; exact get_part _ 0 _ k u rfl hk)) ?_)
    refine st (by rfl) (S_storeA (b := w5.heap.size) (j := 0) (cs := [.int .u64 ((bval i (preB (bothB x y)) : Nat) : Int), .int .u64 ((bval i (ksv x y) : Nat) : Int)]) (by kernel_rfl) (by kernel_rfl) (by kernel_rfl) (by simp [oneV]) hQ6 (by simp) fun w33 hT34 hs35 hQ6' => ?_)
    have hT0 := (hT0).then hT34 (fun c e => by have : c = w5.heap.size := e; omega)
    have hQ4 := hQ4.tch hT34 (fun e => by have : w.heap.size = w5.heap.size := e; omega)
    have hQ5 := hQ5.tch hT34 (fun e => by have : w1.heap.size = w5.heap.size := e; omega)
    have hOut := hOut.tch hT34 (fun e => by have : w11.heap.size = w5.heap.size := e; omega)
    replace hQ6 : Blk w33 w5.heap.size 104 [.int .u64 ((bval i (preB (bothB x y)) : Nat) : Int), .int .u64 ((bval i (ksv x y) : Nat) : Int)] := hQ6'
    refine op_nil ?_
    refine W_ret ?_
    refine ⟨_, Res_cell (b := w5.heap.size) (cs := [.int .u64 ((bval i (preB (bothB x y)) : Nat) : Int), .int .u64 ((bval i (ksv x y) : Nat) : Int)]) (by rfl) (by kernel_rfl) (by kernel_rfl) hQ6 (by kernel_rfl) (by kernel_rfl), ?_⟩
    have hf : bothB x y i = false := by simp [bothB, hc27, hb32]
    rw [bval_stop (f := preB (bothB x y)) (w := wd) hi (pre_stop hf), bval_stop (f := ksv x y) (w := wd) hi (fun t ht => by unfold ksv; rw [pre_stop hf t ht, Bool.false_and])]
    exact ⟨rfl, hT0⟩
   ·
    replace hb32 : x.1.testBit i = true := (hb32)
    refine zS [(34, .bool (y.1.testBit i)), (35, .bool (!(y.1.testBit i))), (36, .bool (!(y.1.testBit i)))] ?_
    refine zO (!(y.1.testBit i)) (fun hc36 => ?_) (fun hc36 => ?_)
    ·
     replace hc36 : y.1.testBit i = false := ((not_t hc36))
     refine W_exit ?_
     refine X_miss rfl ?_
     refine X_hit ?_
     refine zQ ?_
     refine st (by rfl) (S_val (v := .agg #[.int .u64 ((bval i (preB (bothB x y)) : Nat) : Int), .int .u64 ((bval i (ksv x y) : Nat) : Int)]) (R_loadA [.int .u64 ((bval i (preB (bothB x y)) : Nat) : Int), .int .u64 ((bval i (ksv x y) : Nat) : Int)] (by kernel_rfl) (by kernel_rfl) (by kernel_rfl) (fun k u hk => by rw [hOut.cell]; exact get_part _ 0 _ k u rfl hk)) ?_)
     refine st (by rfl) (S_storeA (b := w5.heap.size) (j := 0) (cs := [.int .u64 ((bval i (preB (bothB x y)) : Nat) : Int), .int .u64 ((bval i (ksv x y) : Nat) : Int)]) (by kernel_rfl) (by kernel_rfl) (by kernel_rfl) (by simp [oneV]) hQ6 (by simp) fun w37 hT38 hs39 hQ6' => ?_)
     have hT0 := (hT0).then hT38 (fun c e => by have : c = w5.heap.size := e; omega)
     have hQ4 := hQ4.tch hT38 (fun e => by have : w.heap.size = w5.heap.size := e; omega)
     have hQ5 := hQ5.tch hT38 (fun e => by have : w1.heap.size = w5.heap.size := e; omega)
     have hOut := hOut.tch hT38 (fun e => by have : w11.heap.size = w5.heap.size := e; omega)
     replace hQ6 : Blk w37 w5.heap.size 104 [.int .u64 ((bval i (preB (bothB x y)) : Nat) : Int), .int .u64 ((bval i (ksv x y) : Nat) : Int)] := hQ6'
     refine op_nil ?_
     refine W_ret ?_
     refine ⟨_, Res_cell (b := w5.heap.size) (cs := [.int .u64 ((bval i (preB (bothB x y)) : Nat) : Int), .int .u64 ((bval i (ksv x y) : Nat) : Int)]) (by rfl) (by kernel_rfl) (by kernel_rfl) hQ6 (by kernel_rfl) (by kernel_rfl), ?_⟩
     have hf : bothB x y i = false := by simp [bothB, hc27, hb32, hc36]
     rw [bval_stop (f := preB (bothB x y)) (w := wd) hi (pre_stop hf), bval_stop (f := ksv x y) (w := wd) hi (fun t ht => by unfold ksv; rw [pre_stop hf t ht, Bool.false_and])]
     exact ⟨rfl, hT0⟩
    ·
     replace hc36 : y.1.testBit i = true := ((not_f hc36))
     refine W_skip ?_
     refine zQ ?_
     refine zS [(37, .int .i64 ((i : Nat) : Int)), (38, .int .i64 (IntKind.i64.wrap (((i : Nat) : Int) + 1)))] ?_
     rw [show IntKind.i64.wrap (((i : Nat) : Int) + 1) = ((i : Nat) : Int) + 1 from wrap_i64 (by omega) (by omega)]
     refine fixR (y := ((i + 1 : Nat) : Int)) (by omega) ?_
     refine zC (rmask_okN (i + 1) _ (by omega)) ?_
     rintro _ w40 ⟨rfl, hT41⟩
     have hT0 := hT0.t0 hT41
     have hQ4 := hQ4.tch0 hT41
     have hQ5 := hQ5.tch0 hT41
     have hQ6 := hQ6.tch0 hT41
     have hOut := hOut.tch0 hT41
     have hu42 := pwm_lt (x := i + 1) (by omega)
     refine zS [(13, .int .u64 ((pw (i + 1) - 1 : Nat) : Int))] ?_
     refine op_nil ?_
     refine W_drawT (fun w' => Blk w' (w.heap.size) 104 [.int .u64 ((x.1 : Nat) : Int), .int .u64 ((x.2 : Nat) : Int)] ∧ Blk w' (w1.heap.size) 104 [.int .u64 ((y.1 : Nat) : Int), .int .u64 ((y.2 : Nat) : Int)] ∧ Blk w' (w11.heap.size) 104 [.int .u64 ((bval i (preB (bothB x y)) : Nat) : Int), .int .u64 ((bval i (ksv x y) : Nat) : Int)]) 14 (by kernel_rfl) (by kernel_rfl) (by kernel_rfl) fun w43 hT44 hh45 => ?_
     have hT0 := hT0.t0 hT44
     have hQ4 := hQ4.tch0 hT44
     have hQ5 := hQ5.tch0 hT44
     have hQ6 := hQ6.tch0 hT44
     have hOut := hOut.tch0 hT44
     refine ttk [1, 2, 4, 6, 8, 11] #[false, true, true, false, true, false, true, false, true, false, false, true, false, false, false] [(41, .int .i64 ((i : Nat) : Int)), (42, .pointer (some ⟨w.heap.size, 1, none⟩)), (44, .int .u64 ((pw (i + 1) - 1 : Nat) : Int)), (46, .pointer (some ⟨w1.heap.size, 1, none⟩)), (48, .int .u64 ((pw (i + 1) - 1 : Nat) : Int)), (51, .int .i64 ((i : Nat) : Int))] ⟨hQ4, hQ5, hOut⟩ (by kernel_rfl) ?_
     refine t_val (v := .agg #[.int .u64 ((bval i (preB (bothB x y)) : Nat) : Int), .int .u64 ((bval i (ksv x y) : Nat) : Int)]) 0 (by kernel_rfl) (by rfl) (by kernel_rfl) (by kernel_rfl) (by kernel_rfl) (fun w' hs => by obtain ⟨hQ4, hQ5, hOut⟩ := hs; exact R_loadA [.int .u64 ((bval i (preB (bothB x y)) : Nat) : Int), .int .u64 ((bval i (ksv x y) : Nat) : Int)] (by kernel_rfl) (by kernel_rfl) (by kernel_rfl) (fun k u hk => by rw [hOut.cell]; exact get_part _ 0 _ k u rfl hk)) ⟨hQ4, hQ5, hOut⟩ ?_
     refine t_val (v := .int .u64 ((x.2 : Nat) : Int)) 3 (by kernel_rfl) (by rfl) (by kernel_rfl) (by kernel_rfl) (by kernel_rfl) (fun w' hs => by obtain ⟨hQ4, hQ5, hOut⟩ := hs; exact R_load (v := .int .u64 ((x.2 : Nat) : Int)) (by kernel_rfl) (by kernel_rfl) ((hQ4.cell 1).trans rfl)) ⟨hQ4, hQ5, hOut⟩ ?_
     refine ttk [5] #[true, true, true, true, true, true, true, false, true, false, false, true, false, false, false] [(45, .int .u64 (IntKind.u64.wrap (BitVec.ofInt 64 ((x.2 : Nat) : Int) &&& BitVec.ofInt 64 ((pw (i + 1) - 1 : Nat) : Int)).toNat))] ⟨hQ4, hQ5, hOut⟩ (by kernel_rfl) ?_
     rw [show IntKind.u64.wrap (BitVec.ofInt 64 ((x.2 : Nat) : Int) &&& BitVec.ofInt 64 ((pw (i + 1) - 1 : Nat) : Int)).toNat = ((x.2 &&& (pw (i + 1) - 1) : Nat) : Int) from and_u x.2 (pw (i + 1) - 1) ux2 hu42]
     have hu46 : x.2 &&& (pw (i + 1) - 1) < 18446744073709551616 := and_lt ux2
     refine t_val (v := .int .u64 ((y.2 : Nat) : Int)) 7 (by kernel_rfl) (by rfl) (by kernel_rfl) (by kernel_rfl) (by kernel_rfl) (fun w' hs => by obtain ⟨hQ4, hQ5, hOut⟩ := hs; exact R_load (v := .int .u64 ((y.2 : Nat) : Int)) (by kernel_rfl) (by kernel_rfl) ((hQ5.cell 1).trans rfl)) ⟨hQ4, hQ5, hOut⟩ ?_
     refine ttk [9] #[true, true, true, true, true, true, true, true, true, true, false, true, false, false, false] [(49, .int .u64 (IntKind.u64.wrap (BitVec.ofInt 64 ((y.2 : Nat) : Int) &&& BitVec.ofInt 64 ((pw (i + 1) - 1 : Nat) : Int)).toNat))] ⟨hQ4, hQ5, hOut⟩ (by kernel_rfl) ?_
     rw [show IntKind.u64.wrap (BitVec.ofInt 64 ((y.2 : Nat) : Int) &&& BitVec.ofInt 64 ((pw (i + 1) - 1 : Nat) : Int)).toNat = ((y.2 &&& (pw (i + 1) - 1) : Nat) : Int) from and_u y.2 (pw (i + 1) - 1) uy2 hu42]
     have hu47 : y.2 &&& (pw (i + 1) - 1) < 18446744073709551616 := and_lt uy2
     refine ttk [10] #[true, true, true, true, true, true, true, true, true, true, true, true, false, false, false] [(50, .int .u64 (IntKind.u64.wrap (((x.2 &&& (pw (i + 1) - 1) : Nat) : Int) + ((y.2 &&& (pw (i + 1) - 1) : Nat) : Int))))] ⟨hQ4, hQ5, hOut⟩ (by kernel_rfl) ?_
     rw [show IntKind.u64.wrap (((x.2 &&& (pw (i + 1) - 1) : Nat) : Int) + ((y.2 &&& (pw (i + 1) - 1) : Nat) : Int)) = ((((x.2 &&& (pw (i + 1) - 1)) + (y.2 &&& (pw (i + 1) - 1))) % 18446744073709551616 : Nat) : Int) from u64_add (x.2 &&& (pw (i + 1) - 1)) (y.2 &&& (pw (i + 1) - 1))]
     have hu48 : ((x.2 &&& (pw (i + 1) - 1)) + (y.2 &&& (pw (i + 1) - 1))) % 18446744073709551616 < 18446744073709551616 := mod_lt64 _
     refine t_one 12 (by kernel_rfl) (by rfl) (by kernel_rfl) (S_call (args := [.int .u64 ((((x.2 &&& (pw (i + 1) - 1)) + (y.2 &&& (pw (i + 1) - 1))) % 18446744073709551616 : Nat) : Int), .int .i64 ((i : Nat) : Int)]) (by kernel_rfl) (rBit_ok (((x.2 &&& (pw (i + 1) - 1)) + (y.2 &&& (pw (i + 1) - 1))) % 18446744073709551616) i _ (by omega) hu48) ?_)
     rintro _ w49 ⟨rfl, hT50⟩
     have hT0 := hT0.t0 hT50
     have hQ4 := hQ4.tch0 hT50
     have hQ5 := hQ5.tch0 hT50
     have hQ6 := hQ6.tch0 hT50
     have hOut := hOut.tch0 hT50
     refine ⟨fun _ => ⟨hQ4, hQ5, hOut⟩, ?_⟩
     refine t_one 13 (by kernel_rfl) (by rfl) (by kernel_rfl) (S_call (args := [.agg #[.int .u64 ((bval i (preB (bothB x y)) : Nat) : Int), .int .u64 ((bval i (ksv x y) : Nat) : Int)], .int .i64 ((i : Nat) : Int), .bool ((((x.2 &&& (pw (i + 1) - 1)) + (y.2 &&& (pw (i + 1) - 1))) % 18446744073709551616).testBit i)]) (by kernel_rfl) (with_ok (bval i (preB (bothB x y))) (bval i (ksv x y)) i ((((x.2 &&& (pw (i + 1) - 1)) + (y.2 &&& (pw (i + 1) - 1))) % 18446744073709551616).testBit i) _ (by omega) (bval_u (by omega)) (bval_u (by omega))) ?_)
     rintro _ w51 ⟨rfl, hT52⟩
     have hT0 := hT0.t0 hT52
     have hQ4 := hQ4.tch0 hT52
     have hQ5 := hQ5.tch0 hT52
     have hQ6 := hQ6.tch0 hT52
     have hOut := hOut.tch0 hT52
     refine ⟨fun _ => ⟨hQ4, hQ5, hOut⟩, ?_⟩
     refine t_one 14 (by kernel_rfl) (by rfl) (by kernel_rfl) (S_storeA (b := w11.heap.size) (j := 0) (cs := [.int .u64 (((bval i (preB (bothB x y))) ||| pw i : Nat) : Int), .int .u64 (((bval i (ksv x y)) ||| (if ((((x.2 &&& (pw (i + 1) - 1)) + (y.2 &&& (pw (i + 1) - 1))) % 18446744073709551616).testBit i) = true then pw i else 0) : Nat) : Int)]) (by kernel_rfl) (by kernel_rfl) (by kernel_rfl) (by simp [oneV]) hOut (by simp) fun w55 hT56 hs57 hOut' => ?_)
     have hT0 := (hT0).then hT56 (fun c e => by have : c = w11.heap.size := e; omega)
     have hQ4 := hQ4.tch hT56 (fun e => by have : w.heap.size = w11.heap.size := e; omega)
     have hQ5 := hQ5.tch hT56 (fun e => by have : w1.heap.size = w11.heap.size := e; omega)
     have hQ6 := hQ6.tch hT56 (fun e => by have : w5.heap.size = w11.heap.size := e; omega)
     replace hOut : Blk w55 w11.heap.size 104 [.int .u64 (((bval i (preB (bothB x y))) ||| pw i : Nat) : Int), .int .u64 (((bval i (ksv x y)) ||| (if ((((x.2 &&& (pw (i + 1) - 1)) + (y.2 &&& (pw (i + 1) - 1))) % 18446744073709551616).testBit i) = true then pw i else 0) : Nat) : Int)] := hOut'
     refine ⟨fun h => absurd h (by decide), ?_⟩
     refine t_done (by kernel_rfl) ?_
     refine zR ?_
     refine zS [(17, .int .i64 ((i : Nat) : Int)), (18, .int .i64 (IntKind.i64.wrap (((i : Nat) : Int) + 1)))] ?_
     rw [show IntKind.i64.wrap (((i : Nat) : Int) + 1) = ((i : Nat) : Int) + 1 from wrap_i64 (by omega) (by omega)]
     refine fixR (y := ((i + 1 : Nat) : Int)) (by omega) ?_
     refine zS [(8, .int .i64 ((i + 1 : Nat) : Int))] ?_
     refine op_nil ?_
     have hbi : bothB x y i = true := by simp [bothB, hc27, hb32, hc36]
     have hpi := pre_step hb hbi
     refine ⟨_, ?_, i + 1, _, updL_self (by kernel_rfl), ?_, (fun s h => by by_cases e : s = i; (rw [e]; exact hbi); exact hb s (by omega)), hT0, hQ4, hQ5, hQ6, (by rw [← bval_or i (preB (bothB x y)) true hpi.symm, ← bval_or i (ksv x y) ((((x.2 &&& (pw (i + 1) - 1)) + (y.2 &&& (pw (i + 1) - 1))) % 18446744073709551616).testBit i) (by rw [cut_and, cut_and]; exact (low_sum (by omega)).trans (by unfold ksv; rw [hpi, Bool.true_and])), if_pos rfl]; exact hOut), rfl⟩
     ·
      omega
     ·
      omega
  ·
   replace hc27 : ((wd : Nat) : Int) ≤ ((i : Nat) : Int) := (Int.not_lt.1 (of_decide_eq_false hc27))
   refine W_exit ?_
   refine X_hit ?_
   refine zQ ?_
   refine st (by rfl) (S_val (v := .agg #[.int .u64 ((bval i (preB (bothB x y)) : Nat) : Int), .int .u64 ((bval i (ksv x y) : Nat) : Int)]) (R_loadA [.int .u64 ((bval i (preB (bothB x y)) : Nat) : Int), .int .u64 ((bval i (ksv x y) : Nat) : Int)] (by kernel_rfl) (by kernel_rfl) (by kernel_rfl) (fun k u hk => by rw [hOut.cell]; exact get_part _ 0 _ k u rfl hk)) ?_)
   refine st (by rfl) (S_storeA (b := w5.heap.size) (j := 0) (cs := [.int .u64 ((bval i (preB (bothB x y)) : Nat) : Int), .int .u64 ((bval i (ksv x y) : Nat) : Int)]) (by kernel_rfl) (by kernel_rfl) (by kernel_rfl) (by simp [oneV]) hQ6 (by simp) fun w58 hT59 hs60 hQ6' => ?_)
   have hT0 := (hT0).then hT59 (fun c e => by have : c = w5.heap.size := e; omega)
   have hQ4 := hQ4.tch hT59 (fun e => by have : w.heap.size = w5.heap.size := e; omega)
   have hQ5 := hQ5.tch hT59 (fun e => by have : w1.heap.size = w5.heap.size := e; omega)
   have hOut := hOut.tch hT59 (fun e => by have : w11.heap.size = w5.heap.size := e; omega)
   replace hQ6 : Blk w58 w5.heap.size 104 [.int .u64 ((bval i (preB (bothB x y)) : Nat) : Int), .int .u64 ((bval i (ksv x y) : Nat) : Int)] := hQ6'
   refine op_nil ?_
   refine W_ret ?_
   exact ⟨_, Res_cell (b := w5.heap.size) (cs := [.int .u64 ((bval i (preB (bothB x y)) : Nat) : Int), .int .u64 ((bval i (ksv x y) : Nat) : Int)]) (by rfl) (by kernel_rfl) (by kernel_rfl) hQ6 (by kernel_rfl) (by kernel_rfl), ⟨by rw [show i = wd by omega]; rfl, hT0⟩⟩

set_option maxRecDepth 100000 in
theorem requal_ok (wd : Nat) (x y : K)  (w : World) (hx : KI wd x) (hy : KI wd y) (hw : wd ≤ 64) : Ret Try.prog 105 [.int .i64 ((wd : Nat) : Int), .agg #[.int .u64 ((x.1 : Nat) : Int), .int .u64 ((x.2 : Nat) : Int)], .agg #[.int .u64 ((y.1 : Nat) : Int), .int .u64 ((y.2 : Nat) : Int)]] w fun v w' => v = .agg #[.int .u64 (((keq wd x y).1 : Nat) : Int), .int .u64 (((keq wd x y).2 : Nat) : Int)] ∧ Tch N0 w w' := by
 have ux1 := hx.u1 hw
 have ux2 := hx.u2 hw
 have uy1 := hy.u1 hw
 have uy2 := hy.u2 hw
 refine enter Try.func105 rfl rfl ?_
 refine zQ ?_
 refine st (by rfl) (S_new (v := .pointer (some ⟨w.heap.size, 0, none⟩)) (ob := .cells #[.int .u64 ((x.1 : Nat) : Int), .int .u64 ((x.2 : Nat) : Int)] 104) (by kernel_rfl) fun w1 hT2 hs3 hB4 => ?_)
 replace hB4 : Blk w1 (w.heap.size) 104 [.int .u64 ((x.1 : Nat) : Int), .int .u64 ((x.2 : Nat) : Int)] := hB4
 have hT0 := hT2
 have z9 := hT0.size
 have l10 := hB4.lt
 refine st (by rfl) (S_new (v := .pointer (some ⟨w1.heap.size, 0, none⟩)) (ob := .cells #[.int .u64 ((y.1 : Nat) : Int), .int .u64 ((y.2 : Nat) : Int)] 104) (by kernel_rfl) fun w5 hT6 hs7 hB8 => ?_)
 replace hB8 : Blk w5 (w1.heap.size) 104 [.int .u64 ((y.1 : Nat) : Int), .int .u64 ((y.2 : Nat) : Int)] := hB8
 have hT0 := hT0.t0 hT6
 have hB4 := hB4.tch0 hT6
 have z15 := hT0.size
 have l16 := hB4.lt
 have l17 := hB8.lt
 refine st (by rfl) (S_new (v := .pointer (some ⟨w5.heap.size, 0, none⟩)) (ob := .cells #[.int .u64 0, .int .u64 0] 104) (by kernel_rfl) fun w11 hT12 hs13 hB14 => ?_)
 replace hB14 : Blk w11 (w5.heap.size) 104 [.int .u64 0, .int .u64 0] := hB14
 have hT0 := hT0.t0 hT12
 have hB4 := hB4.tch0 hT12
 have hB8 := hB8.tch0 hT12
 refine op_nil ?_
 refine zQ ?_
 refine zS [(7, .bool true)] ?_
 refine op_nil ?_
 refine W_seq ?_
 refine zQ ?_
 refine zS [(8, .int .i64 0)] ?_
 refine op_nil ?_
 refine W_block ?_
 refine W_loop (fun m ρ w' => ∃ (kn : Bool) (i : Nat) (ρ0 : Env), ρ = updL ρ0 [(0, .int .i64 ((wd : Nat) : Int)), (4, .pointer (some ⟨w.heap.size, 0, none⟩)), (5, .pointer (some ⟨w1.heap.size, 0, none⟩)), (6, .pointer (some ⟨w5.heap.size, 0, none⟩)), (7, .bool kn), (8, .int .i64 ((i : Nat) : Int))] ∧ (i ≤ wd) ∧ (kn = knB (bothB x y) i) ∧ (∀ s, s < i → kdiff x y s = false) ∧ Tch N0 w w' ∧ Blk w' (w.heap.size) 104 [.int .u64 ((x.1 : Nat) : Int), .int .u64 ((x.2 : Nat) : Int)] ∧ Blk w' (w1.heap.size) 104 [.int .u64 ((y.1 : Nat) : Int), .int .u64 ((y.2 : Nat) : Int)] ∧ Blk w' (w5.heap.size) 104 [.int .u64 0, .int .u64 0] ∧ m = wd - i) (m := wd - 0) ?_ ?_
 ·
  refine ⟨true, 0, _, updL_self (by kernel_rfl), by omega, rfl, (fun s h => by omega), hT0, hB4, hB8, hB14, rfl⟩
 ·
  rintro m ρ w18 ⟨kn, i, ρ, rfl, hi, hkn, hd, hT0, hQ0, hQ1, hQ2, rfl⟩
  refine W_seq ?_
  refine zQ ?_
  refine zS [(13, .int .i64 ((i : Nat) : Int)), (14, .int .i64 ((wd : Nat) : Int)), (15, .bool (decide (((i : Nat) : Int) < ((wd : Nat) : Int))))] ?_
  refine zO (decide (((i : Nat) : Int) < ((wd : Nat) : Int))) (fun hc19 => ?_) (fun hc19 => ?_)
  ·
   replace hc19 : ((i : Nat) : Int) < ((wd : Nat) : Int) := (of_decide_eq_true hc19)
   refine W_skip ?_
   refine W_seq ?_
   refine W_block ?_
   refine zQ ?_
   refine st (by rfl) (S_val (v := .agg #[.int .u64 ((x.1 : Nat) : Int), .int .u64 ((x.2 : Nat) : Int)]) (R_loadA [.int .u64 ((x.1 : Nat) : Int), .int .u64 ((x.2 : Nat) : Int)] (by kernel_rfl) (by kernel_rfl) (by kernel_rfl) (fun k u hk => by rw [hQ0.cell]; exact get_part _ 0 _ k u rfl hk)) ?_)
   refine zS [(20, .int .i64 ((i : Nat) : Int))] ?_
   refine zC (rbit2_ok x.1 x.2 i _ (by omega) ux1 ux2) ?_
   rintro _ w20 ⟨rfl, hT21⟩
   have hT0 := hT0.t0 hT21
   have hQ0 := hQ0.tch0 hT21
   have hQ1 := hQ1.tch0 hT21
   have hQ2 := hQ2.tch0 hT21
   refine zS [(18, .tuple #[.bool (x.1.testBit i), .bool (x.2.testBit i)]), (22, .bool (x.1.testBit i)), (23, .bool (x.2.testBit i)), (9, .bool (x.1.testBit i)), (10, .bool (x.2.testBit i))] ?_
   refine op_nil ?_
   refine zQ ?_
   refine st (by rfl) (S_val (v := .agg #[.int .u64 ((y.1 : Nat) : Int), .int .u64 ((y.2 : Nat) : Int)]) (R_loadA [.int .u64 ((y.1 : Nat) : Int), .int .u64 ((y.2 : Nat) : Int)] (by kernel_rfl) (by kernel_rfl) (by kernel_rfl) (fun k u hk => by rw [hQ1.cell]; exact get_part _ 0 _ k u rfl hk)) ?_)
   refine zS [(26, .int .i64 ((i : Nat) : Int))] ?_
   refine zC (rbit2_ok y.1 y.2 i _ (by omega) uy1 uy2) ?_
   rintro _ w22 ⟨rfl, hT23⟩
   have hT0 := hT0.t0 hT23
   have hQ0 := hQ0.tch0 hT23
   have hQ1 := hQ1.tch0 hT23
   have hQ2 := hQ2.tch0 hT23
   refine zS [(24, .tuple #[.bool (y.1.testBit i), .bool (y.2.testBit i)]), (28, .bool (y.1.testBit i)), (29, .bool (y.2.testBit i)), (11, .bool (y.1.testBit i)), (12, .bool (y.2.testBit i))] ?_
   refine op_nil ?_
   refine W_seq ?_
   refine zQ ?_
   refine zS [(30, .bool (x.1.testBit i)), (31, .bool (x.1.testBit i))] ?_
   cases hb24 : x.1.testBit i
   ·
    replace hb24 : x.1.testBit i = false := (hb24)
    refine zS [(32, undef), (33, .bool false), (34, .bool false), (35, undef), (36, undef), (37, undef), (38, .bool false)] ?_
    refine zO false (fun h => nomatch h) (fun _ => ?_)
    refine W_skip ?_
    refine zR ?_
    refine zS [(40, .bool kn), (41, .bool kn)] ?_
    cases hb25 : kn
    ·
     replace hb25 : kn = false := (hb25)
     refine zS [(42, undef), (43, .bool false), (44, .bool false), (45, undef), (46, .bool false), (7, .bool false)] ?_
     refine op_nil ?_
     refine zR ?_
     refine zS [(16, .int .i64 ((i : Nat) : Int)), (17, .int .i64 (IntKind.i64.wrap (((i : Nat) : Int) + 1)))] ?_
     rw [show IntKind.i64.wrap (((i : Nat) : Int) + 1) = ((i : Nat) : Int) + 1 from wrap_i64 (by omega) (by omega)]
     refine fixR (y := ((i + 1 : Nat) : Int)) (by omega) ?_
     refine zS [(8, .int .i64 ((i + 1 : Nat) : Int))] ?_
     refine op_nil ?_
     refine ⟨_, ?_, false, i + 1, _, updL_self (by kernel_rfl), ?_, by show _ = (knB (bothB x y) i && bothB x y i); rw [← hkn]; simp [bothB, hc19, hb24, hb25], (fun s h => by by_cases e : s = i; (rw [e]; simp [kdiff, bne, hc19, hb24, hb25]); exact hd s (by omega)), hT0, hQ0, hQ1, hQ2, rfl⟩
     ·
      omega
     ·
      omega
    ·
     replace hb25 : kn = true := (hb25)
     refine zS [(42, .bool false), (43, .bool false), (44, .bool false), (45, undef), (46, .bool false), (7, .bool false)] ?_
     refine op_nil ?_
     refine zR ?_
     refine zS [(16, .int .i64 ((i : Nat) : Int)), (17, .int .i64 (IntKind.i64.wrap (((i : Nat) : Int) + 1)))] ?_
     rw [show IntKind.i64.wrap (((i : Nat) : Int) + 1) = ((i : Nat) : Int) + 1 from wrap_i64 (by omega) (by omega)]
     refine fixR (y := ((i + 1 : Nat) : Int)) (by omega) ?_
     refine zS [(8, .int .i64 ((i + 1 : Nat) : Int))] ?_
     refine op_nil ?_
     refine ⟨_, ?_, false, i + 1, _, updL_self (by kernel_rfl), ?_, by show _ = (knB (bothB x y) i && bothB x y i); rw [← hkn]; simp [bothB, hc19, hb24, hb25], (fun s h => by by_cases e : s = i; (rw [e]; simp [kdiff, bne, hc19, hb24, hb25]); exact hd s (by omega)), hT0, hQ0, hQ1, hQ2, rfl⟩
     ·
      omega
     ·
      omega
   ·
    replace hb24 : x.1.testBit i = true := (hb24)
    refine zS [(32, .bool (y.1.testBit i)), (33, .bool (y.1.testBit i)), (34, .bool (y.1.testBit i))] ?_
    cases hb26 : y.1.testBit i
    ·
     replace hb26 : y.1.testBit i = false := (hb26)
     refine zS [(35, undef), (36, undef), (37, undef), (38, .bool false)] ?_
     refine zO false (fun h => nomatch h) (fun _ => ?_)
     refine W_skip ?_
     refine zR ?_
     refine zS [(40, .bool kn), (41, .bool kn)] ?_
     cases hb27 : kn
     ·
      replace hb27 : kn = false := (hb27)
      refine zS [(42, undef), (43, .bool false), (44, .bool false), (45, undef), (46, .bool false), (7, .bool false)] ?_
      refine op_nil ?_
      refine zR ?_
      refine zS [(16, .int .i64 ((i : Nat) : Int)), (17, .int .i64 (IntKind.i64.wrap (((i : Nat) : Int) + 1)))] ?_
      rw [show IntKind.i64.wrap (((i : Nat) : Int) + 1) = ((i : Nat) : Int) + 1 from wrap_i64 (by omega) (by omega)]
      refine fixR (y := ((i + 1 : Nat) : Int)) (by omega) ?_
      refine zS [(8, .int .i64 ((i + 1 : Nat) : Int))] ?_
      refine op_nil ?_
      refine ⟨_, ?_, false, i + 1, _, updL_self (by kernel_rfl), ?_, by show _ = (knB (bothB x y) i && bothB x y i); rw [← hkn]; simp [bothB, hc19, hb24, hb26, hb27], (fun s h => by by_cases e : s = i; (rw [e]; simp [kdiff, bne, hc19, hb24, hb26, hb27]); exact hd s (by omega)), hT0, hQ0, hQ1, hQ2, rfl⟩
      ·
       omega
      ·
       omega
     ·
      replace hb27 : kn = true := (hb27)
      refine zS [(42, .bool true), (43, .bool true), (44, .bool true), (45, .bool false), (46, .bool false), (7, .bool false)] ?_
      refine op_nil ?_
      refine zR ?_
      refine zS [(16, .int .i64 ((i : Nat) : Int)), (17, .int .i64 (IntKind.i64.wrap (((i : Nat) : Int) + 1)))] ?_
      rw [show IntKind.i64.wrap (((i : Nat) : Int) + 1) = ((i : Nat) : Int) + 1 from wrap_i64 (by omega) (by omega)]
      refine fixR (y := ((i + 1 : Nat) : Int)) (by omega) ?_
      refine zS [(8, .int .i64 ((i + 1 : Nat) : Int))] ?_
      refine op_nil ?_
      refine ⟨_, ?_, false, i + 1, _, updL_self (by kernel_rfl), ?_, by show _ = (knB (bothB x y) i && bothB x y i); rw [← hkn]; simp [bothB, hc19, hb24, hb26, hb27], (fun s h => by by_cases e : s = i; (rw [e]; simp [kdiff, bne, hc19, hb24, hb26, hb27]); exact hd s (by omega)), hT0, hQ0, hQ1, hQ2, rfl⟩
      ·
       omega
      ·
       omega
    ·
     replace hb26 : y.1.testBit i = true := (hb26)
     refine zS [(35, .bool (x.2.testBit i)), (36, .bool (y.2.testBit i)), (37, .bool (!((x.2.testBit i) == (y.2.testBit i)))), (38, .bool (!((x.2.testBit i) == (y.2.testBit i))))] ?_
     refine zO (!((x.2.testBit i) == (y.2.testBit i))) (fun hc28 => ?_) (fun hc28 => ?_)
     ·
      replace hc28 : (x.2.testBit i) ≠ (y.2.testBit i) := (ne_of_beq_false (not_t hc28))
      refine zQ ?_
      refine zS [(39, .agg #[.int .u64 1, .int .u64 0])] ?_
      refine st (by rfl) (S_storeA (b := w5.heap.size) (j := 0) (cs := [.int .u64 1, .int .u64 0]) (by kernel_rfl) (by kernel_rfl) (by kernel_rfl) (by simp [oneV]) hQ2 (by simp) fun w29 hT30 hs31 hQ2' => ?_)
      have hT0 := (hT0).then hT30 (fun c e => by have : c = w5.heap.size := e; omega)
      have hQ0 := hQ0.tch hT30 (fun e => by have : w.heap.size = w5.heap.size := e; omega)
      have hQ1 := hQ1.tch hT30 (fun e => by have : w1.heap.size = w5.heap.size := e; omega)
      replace hQ2 : Blk w29 w5.heap.size 104 [.int .u64 1, .int .u64 0] := hQ2'
      refine op_nil ?_
      refine W_ret ?_
      refine ⟨_, Res_cell (b := w5.heap.size) (cs := [.int .u64 1, .int .u64 0]) (by rfl) (by kernel_rfl) (by kernel_rfl) hQ2 (by kernel_rfl) (by kernel_rfl), ?_⟩
      have e : keq wd x y = (1, 0) := by
       unfold keq
       rw [if_pos (bval_pos (t := i) (by omega) (by simp [kdiff, bne, hc19, hb24, hb26, hc28]))]
      rw [e]
      exact ⟨rfl, hT0⟩
     ·
      replace hc28 : x.2.testBit i = y.2.testBit i := (eq_of_beq (not_f hc28))
      refine W_skip ?_
      refine zR ?_
      refine zS [(40, .bool kn), (41, .bool kn)] ?_
      cases hb32 : kn
      ·
       replace hb32 : kn = false := (hb32)
       refine zS [(42, undef), (43, .bool false), (44, .bool false), (45, undef), (46, .bool false), (7, .bool false)] ?_
       refine op_nil ?_
       refine zR ?_
       refine zS [(16, .int .i64 ((i : Nat) : Int)), (17, .int .i64 (IntKind.i64.wrap (((i : Nat) : Int) + 1)))] ?_
       rw [show IntKind.i64.wrap (((i : Nat) : Int) + 1) = ((i : Nat) : Int) + 1 from wrap_i64 (by omega) (by omega)]
       refine fixR (y := ((i + 1 : Nat) : Int)) (by omega) ?_
       refine zS [(8, .int .i64 ((i + 1 : Nat) : Int))] ?_
       refine op_nil ?_
       refine ⟨_, ?_, false, i + 1, _, updL_self (by kernel_rfl), ?_, by show _ = (knB (bothB x y) i && bothB x y i); rw [← hkn]; simp [bothB, hc19, hb24, hb26, hc28, hb32], (fun s h => by by_cases e : s = i; (rw [e]; simp [kdiff, bne, hc19, hb24, hb26, hc28, hb32]); exact hd s (by omega)), hT0, hQ0, hQ1, hQ2, rfl⟩
       ·
        omega
       ·
        omega
      ·
       replace hb32 : kn = true := (hb32)
       refine zS [(42, .bool true), (43, .bool true), (44, .bool true), (45, .bool true), (46, .bool true), (7, .bool true)] ?_
       refine op_nil ?_
       refine zR ?_
       refine zS [(16, .int .i64 ((i : Nat) : Int)), (17, .int .i64 (IntKind.i64.wrap (((i : Nat) : Int) + 1)))] ?_
       rw [show IntKind.i64.wrap (((i : Nat) : Int) + 1) = ((i : Nat) : Int) + 1 from wrap_i64 (by omega) (by omega)]
       refine fixR (y := ((i + 1 : Nat) : Int)) (by omega) ?_
       refine zS [(8, .int .i64 ((i + 1 : Nat) : Int))] ?_
       refine op_nil ?_
       refine ⟨_, ?_, true, i + 1, _, updL_self (by kernel_rfl), ?_, by show _ = (knB (bothB x y) i && bothB x y i); rw [← hkn]; simp [bothB, hc19, hb24, hb26, hc28, hb32], (fun s h => by by_cases e : s = i; (rw [e]; simp [kdiff, bne, hc19, hb24, hb26, hc28, hb32]); exact hd s (by omega)), hT0, hQ0, hQ1, hQ2, rfl⟩
       ·
        omega
       ·
        omega
  ·
   replace hc19 : ((wd : Nat) : Int) ≤ ((i : Nat) : Int) := (Int.not_lt.1 (of_decide_eq_false hc19))
   refine W_exit ?_
   refine X_hit ?_
   refine W_seq ?_
   refine zQ ?_
   refine zS [(47, .bool kn)] ?_
   refine zO (kn) (fun hc33 => ?_) (fun hc33 => ?_)
   ·
    replace hc33 : kn = true := (hc33)
    refine zQ ?_
    refine zS [(48, .agg #[.int .u64 1, .int .u64 1])] ?_
    refine st (by rfl) (S_storeA (b := w5.heap.size) (j := 0) (cs := [.int .u64 1, .int .u64 1]) (by kernel_rfl) (by kernel_rfl) (by kernel_rfl) (by simp [oneV]) hQ2 (by simp) fun w34 hT35 hs36 hQ2' => ?_)
    have hT0 := (hT0).then hT35 (fun c e => by have : c = w5.heap.size := e; omega)
    have hQ0 := hQ0.tch hT35 (fun e => by have : w.heap.size = w5.heap.size := e; omega)
    have hQ1 := hQ1.tch hT35 (fun e => by have : w1.heap.size = w5.heap.size := e; omega)
    replace hQ2 : Blk w34 w5.heap.size 104 [.int .u64 1, .int .u64 1] := hQ2'
    refine op_nil ?_
    refine W_ret ?_
    refine ⟨_, Res_cell (b := w5.heap.size) (cs := [.int .u64 1, .int .u64 1]) (by rfl) (by kernel_rfl) (by kernel_rfl) hQ2 (by kernel_rfl) (by kernel_rfl), ?_⟩
    have e : keq wd x y = (1, 1) := by
     unfold keq
     have hie : i = wd := by omega
     have h0 : bval wd (kdiff x y) = 0 := bval_zero (fun t ht => hd t (by omega))
     rw [if_neg (by rw [h0]; simp)]
     rw [if_pos (bval_all (fun t ht => (knB_all i).1 (by rw [← hkn]; first | assumption | rfl) t (by omega)))]
    rw [e]
    exact ⟨rfl, hT0⟩
   ·
    replace hc33 : kn = false := (hc33)
    refine W_skip ?_
    refine zQ ?_
    refine zS [(49, .agg #[.int .u64 0, .int .u64 0])] ?_
    refine st (by rfl) (S_storeA (b := w5.heap.size) (j := 0) (cs := [.int .u64 0, .int .u64 0]) (by kernel_rfl) (by kernel_rfl) (by kernel_rfl) (by simp [oneV]) hQ2 (by simp) fun w37 hT38 hs39 hQ2' => ?_)
    have hT0 := (hT0).then hT38 (fun c e => by have : c = w5.heap.size := e; omega)
    have hQ0 := hQ0.tch hT38 (fun e => by have : w.heap.size = w5.heap.size := e; omega)
    have hQ1 := hQ1.tch hT38 (fun e => by have : w1.heap.size = w5.heap.size := e; omega)
    replace hQ2 : Blk w37 w5.heap.size 104 [.int .u64 0, .int .u64 0] := hQ2'
    refine op_nil ?_
    refine W_ret ?_
    refine ⟨_, Res_cell (b := w5.heap.size) (cs := [.int .u64 0, .int .u64 0]) (by rfl) (by kernel_rfl) (by kernel_rfl) hQ2 (by kernel_rfl) (by kernel_rfl), ?_⟩
    have e : keq wd x y = (0, 0) := by
     unfold keq
     have hie : i = wd := by omega
     have h0 : bval wd (kdiff x y) = 0 := bval_zero (fun t ht => hd t (by omega))
     rw [if_neg (by rw [h0]; simp)]
     rw [if_neg (fun q => by
      have hall : ∀ s, s < i → bothB x y s = true := fun s hs => by
       cases z : bothB x y s with
       | true => rfl
       | false => exact absurd q (bval_miss (by omega) z)
      have := (knB_all i).2 hall
      rw [← hkn] at this
      simp_all)]
    rw [e]
    exact ⟨rfl, hT0⟩

set_option maxRecDepth 100000 in
theorem rmv9_ok (wd : Nat) (x : K) (by_ : Nat) (w : World) (hx : KI wd x) (hw : wd ≤ 64) (hb : by_ < 18446744073709551616) : Ret Try.prog 106 [.int .i64 9, .int .i64 ((wd : Nat) : Int), .agg #[.int .u64 ((x.1 : Nat) : Int), .int .u64 ((x.2 : Nat) : Int)], .int .u64 ((by_ : Nat) : Int)] w fun v w' => v = .agg #[.int .u64 (((kmv 9 wd x by_).1 : Nat) : Int), .int .u64 (((kmv 9 wd x by_).2 : Nat) : Int)] ∧ Tch N0 w w' := by
 have ux1 := hx.u1 hw
 have ux2 := hx.u2 hw
 refine enter Try.func106 rfl rfl ?_
 refine zQ ?_
 refine st (by rfl) (S_new (v := .pointer (some ⟨w.heap.size, 0, none⟩)) (ob := .cells #[.int .u64 ((x.1 : Nat) : Int), .int .u64 ((x.2 : Nat) : Int)] 104) (by kernel_rfl) fun w1 hT2 hs3 hB4 => ?_)
 replace hB4 : Blk w1 (w.heap.size) 104 [.int .u64 ((x.1 : Nat) : Int), .int .u64 ((x.2 : Nat) : Int)] := hB4
 have hT0 := hT2
 have z9 := hT0.size
 have l10 := hB4.lt
 refine st (by rfl) (S_new (v := .pointer (some ⟨w1.heap.size, 0, none⟩)) (ob := .cells #[.int .u64 0, .int .u64 0] 104) (by kernel_rfl) fun w5 hT6 hs7 hB8 => ?_)
 replace hB8 : Blk w5 (w1.heap.size) 104 [.int .u64 0, .int .u64 0] := hB8
 have hT0 := hT0.t0 hT6
 have hB4 := hB4.tch0 hT6
 refine op_nil ?_
 refine zQ ?_
 have z15 := hT0.size
 have l16 := hB4.lt
 have l17 := hB8.lt
 refine st (by rfl) (S_new (v := .pointer (some ⟨w5.heap.size, 0, none⟩)) (ob := .cells #[.int .u64 0, .int .u64 0] 104) (by kernel_rfl) fun w11 hT12 hs13 hB14 => ?_)
 replace hB14 : Blk w11 (w5.heap.size) 104 [.int .u64 0, .int .u64 0] := hB14
 have hT0 := hT0.t0 hT12
 have hB4 := hB4.tch0 hT12
 have hB8 := hB8.tch0 hT12
 refine op_nil ?_
 refine W_seq ?_
 refine zQ ?_
 refine zS [(10, .int .i64 0)] ?_
 refine op_nil ?_
 refine W_block ?_
 refine W_loop (fun m ρ w' => ∃ (i : Nat) (ρ0 : Env), ρ = updL ρ0 [(0, .int .i64 9), (1, .int .i64 ((wd : Nat) : Int)), (2, .agg #[.int .u64 ((x.1 : Nat) : Int), .int .u64 ((x.2 : Nat) : Int)]), (3, .int .u64 ((by_ : Nat) : Int)), (6, .pointer (some ⟨w.heap.size, 0, none⟩)), (8, .pointer (some ⟨w1.heap.size, 0, none⟩)), (9, .pointer (some ⟨w5.heap.size, 0, none⟩)), (10, .int .i64 ((i : Nat) : Int))] ∧ (i ≤ wd) ∧ Tch N0 w w' ∧ Blk w' (w.heap.size) 104 [.int .u64 ((x.1 : Nat) : Int), .int .u64 ((x.2 : Nat) : Int)] ∧ Blk w' (w1.heap.size) 104 [.int .u64 0, .int .u64 0] ∧ Blk w' (w5.heap.size) 104 [.int .u64 ((bval i (kmvk 9 wd x by_) : Nat) : Int), .int .u64 ((bval i (kmvv 9 wd x by_) : Nat) : Int)] ∧ m = wd - i) (m := wd - 0) ?_ ?_
 ·
  refine ⟨0, _, updL_self (by kernel_rfl), by omega, hT0, hB4, hB8, hB14, rfl⟩
 ·
  rintro m ρ w18 ⟨i, ρ, rfl, hi, hT0, hQ6, hQ8, hOut, rfl⟩
  refine W_seq ?_
  refine zQ ?_
  refine zS [(14, .int .i64 ((i : Nat) : Int)), (15, .int .i64 ((wd : Nat) : Int)), (16, .bool (decide (((i : Nat) : Int) < ((wd : Nat) : Int))))] ?_
  refine zO (decide (((i : Nat) : Int) < ((wd : Nat) : Int))) (fun hc19 => ?_) (fun hc19 => ?_)
  ·
   replace hc19 : ((i : Nat) : Int) < ((wd : Nat) : Int) := (of_decide_eq_true hc19)
   refine W_skip ?_
   refine W_seq ?_
   refine W_block ?_
   refine zQ ?_
   refine zS [(11, .int .i64 (-1))] ?_
   refine op_nil ?_
   refine W_seq ?_
   refine zQ ?_
   refine zS [(19, .int .u64 ((by_ : Nat) : Int)), (20, .int .i64 ((wd : Nat) : Int)), (21, .int .u64 (IntKind.u64.wrap ((wd : Nat) : Int)))] ?_
   rw [show IntKind.u64.wrap ((wd : Nat) : Int) = ((wd : Nat) : Int) from wrap_u64 (by omega) (by omega)]
   refine zS [(22, .bool (decide (((by_ : Nat) : Int) < ((wd : Nat) : Int)))), (23, .bool (decide (((by_ : Nat) : Int) < ((wd : Nat) : Int))))] ?_
   cases hb20 : decide (((by_ : Nat) : Int) < ((wd : Nat) : Int))
   ·
    replace hb20 : ((wd : Nat) : Int) ≤ ((by_ : Nat) : Int) := (Int.not_lt.1 (of_decide_eq_false hb20))
    refine zS [(24, undef), (25, undef), (26, .bool false)] ?_
    refine zO false (fun h => nomatch h) (fun _ => ?_)
    refine W_skip ?_
    refine W_seq ?_
    refine zQ ?_
    refine zS [(31, .int .u64 ((by_ : Nat) : Int)), (32, .int .i64 ((wd : Nat) : Int)), (33, .int .u64 (IntKind.u64.wrap ((wd : Nat) : Int)))] ?_
    rw [show IntKind.u64.wrap ((wd : Nat) : Int) = ((wd : Nat) : Int) from wrap_u64 (by omega) (by omega)]
    refine zS [(34, .bool (decide (((by_ : Nat) : Int) < ((wd : Nat) : Int)))), (35, .bool (decide (((by_ : Nat) : Int) < ((wd : Nat) : Int))))] ?_
    cases hb21 : decide (((by_ : Nat) : Int) < ((wd : Nat) : Int))
    ·
     replace hb21 : ((wd : Nat) : Int) ≤ ((by_ : Nat) : Int) := (Int.not_lt.1 (of_decide_eq_false hb21))
     refine zS [(36, undef), (37, undef), (38, .bool false)] ?_
     refine zO false (fun h => nomatch h) (fun _ => ?_)
     refine W_skip ?_
     refine W_seq ?_
     refine zQ ?_
     refine zS [(43, .int .i64 (-1)), (44, .bool true), (45, .bool true), (46, undef), (47, undef), (48, undef), (49, .bool true)] ?_
     refine zO true (fun _ => ?_) (fun h => nomatch h)
     refine zQ ?_
     refine st (by rfl) (S_val (v := .agg #[.int .u64 ((bval i (kmvk 9 wd x by_) : Nat) : Int), .int .u64 ((bval i (kmvv 9 wd x by_) : Nat) : Int)]) (R_loadA [.int .u64 ((bval i (kmvk 9 wd x by_) : Nat) : Int), .int .u64 ((bval i (kmvv 9 wd x by_) : Nat) : Int)] (by kernel_rfl) (by kernel_rfl) (by kernel_rfl) (fun k u hk => by rw [hOut.cell]; exact get_part _ 0 _ k u rfl hk)) ?_)
     refine zS [(51, .int .i64 ((i : Nat) : Int))] ?_
     refine zC (with_ok (bval i (kmvk 9 wd x by_)) (bval i (kmvv 9 wd x by_)) i false _ (by omega) (bval_u (by omega)) (bval_u (by omega))) ?_
     rintro _ w22 ⟨rfl, hT23⟩
     have hT0 := hT0.t0 hT23
     have hQ6 := hQ6.tch0 hT23
     have hQ8 := hQ8.tch0 hT23
     have hOut := hOut.tch0 hT23
     refine st (by rfl) (S_storeA (b := w5.heap.size) (j := 0) (cs := [.int .u64 (((bval i (kmvk 9 wd x by_)) ||| pw i : Nat) : Int), .int .u64 (((bval i (kmvv 9 wd x by_)) ||| (if false = true then pw i else 0) : Nat) : Int)]) (by kernel_rfl) (by kernel_rfl) (by kernel_rfl) (by simp [oneV]) hOut (by simp) fun w26 hT27 hs28 hOut' => ?_)
     have hT0 := (hT0).then hT27 (fun c e => by have : c = w5.heap.size := e; omega)
     have hQ6 := hQ6.tch hT27 (fun e => by have : w.heap.size = w5.heap.size := e; omega)
     have hQ8 := hQ8.tch hT27 (fun e => by have : w1.heap.size = w5.heap.size := e; omega)
     replace hOut : Blk w26 w5.heap.size 104 [.int .u64 (((bval i (kmvk 9 wd x by_)) ||| pw i : Nat) : Int), .int .u64 (((bval i (kmvv 9 wd x by_)) ||| (if false = true then pw i else 0) : Nat) : Int)] := hOut'
     refine op_nil ?_
     refine W_exit ?_
     refine X_hit ?_
     refine zR ?_
     refine zS [(17, .int .i64 ((i : Nat) : Int)), (18, .int .i64 (IntKind.i64.wrap (((i : Nat) : Int) + 1)))] ?_
     rw [show IntKind.i64.wrap (((i : Nat) : Int) + 1) = ((i : Nat) : Int) + 1 from wrap_i64 (by omega) (by omega)]
     refine fixR (y := ((i + 1 : Nat) : Int)) (by omega) ?_
     refine zS [(10, .int .i64 ((i + 1 : Nat) : Int))] ?_
     refine op_nil ?_
     refine ⟨_, ?_, i + 1, _, updL_self (by kernel_rfl), ?_, hT0, hQ6, hQ8, (by rw [← bval_or i (kmvk 9 wd x by_) true (((kmvk9_far (show wd ≤ by_ by omega)).trans (by simp [hc19, hb20, hb21])).symm), ← bval_or i (kmvv 9 wd x by_) false (((kmvv9_far (show wd ≤ by_ by omega)).trans (by simp [hc19, hb20, hb21])).symm), if_pos rfl]; exact hOut), rfl⟩
     ·
      omega
     ·
      omega
    ·
     replace hb21 : ((by_ : Nat) : Int) < ((wd : Nat) : Int) := (of_decide_eq_true hb21)
     exfalso; omega
   ·
    replace hb20 : ((by_ : Nat) : Int) < ((wd : Nat) : Int) := (of_decide_eq_true hb20)
    refine zS [(24, .int .i64 9), (25, .bool true), (26, .bool true)] ?_
    refine zO true (fun _ => ?_) (fun h => nomatch h)
    refine zR ?_
    refine zS [(27, .int .i64 ((i : Nat) : Int)), (28, .int .u64 ((by_ : Nat) : Int)), (29, .int .i64 (IntKind.i64.wrap ((by_ : Nat) : Int)))] ?_
    rw [show IntKind.i64.wrap ((by_ : Nat) : Int) = ((by_ : Nat) : Int) from wrap_i64 (by omega) (by omega)]
    refine zS [(30, .int .i64 (IntKind.i64.wrap (((i : Nat) : Int) - ((by_ : Nat) : Int))))] ?_
    rw [show IntKind.i64.wrap (((i : Nat) : Int) - ((by_ : Nat) : Int)) = ((i : Nat) : Int) - ((by_ : Nat) : Int) from wrap_i64 (by omega) (by omega)]
    refine zS [(11, .int .i64 (((i : Nat) : Int) - ((by_ : Nat) : Int)))] ?_
    refine op_nil ?_
    refine W_seq ?_
    refine zQ ?_
    refine zS [(31, .int .u64 ((by_ : Nat) : Int)), (32, .int .i64 ((wd : Nat) : Int)), (33, .int .u64 (IntKind.u64.wrap ((wd : Nat) : Int)))] ?_
    rw [show IntKind.u64.wrap ((wd : Nat) : Int) = ((wd : Nat) : Int) from wrap_u64 (by omega) (by omega)]
    refine zS [(34, .bool (decide (((by_ : Nat) : Int) < ((wd : Nat) : Int)))), (35, .bool (decide (((by_ : Nat) : Int) < ((wd : Nat) : Int))))] ?_
    cases hb29 : decide (((by_ : Nat) : Int) < ((wd : Nat) : Int))
    ·
     replace hb29 : ((wd : Nat) : Int) ≤ ((by_ : Nat) : Int) := (Int.not_lt.1 (of_decide_eq_false hb29))
     exfalso; omega
    ·
     replace hb29 : ((by_ : Nat) : Int) < ((wd : Nat) : Int) := (of_decide_eq_true hb29)
     refine zS [(36, .int .i64 9), (37, .bool false), (38, .bool false)] ?_
     refine zO false (fun h => nomatch h) (fun _ => ?_)
     refine W_skip ?_
     refine W_seq ?_
     refine zQ ?_
     refine zS [(43, .int .i64 (((i : Nat) : Int) - ((by_ : Nat) : Int))), (44, .bool (decide (((i : Nat) : Int) - ((by_ : Nat) : Int) < 0))), (45, .bool (decide (((i : Nat) : Int) - ((by_ : Nat) : Int) < 0)))] ?_
     cases hb30 : decide (((i : Nat) : Int) - ((by_ : Nat) : Int) < 0)
     ·
      replace hb30 : 0 ≤ ((i : Nat) : Int) - ((by_ : Nat) : Int) := (Int.not_lt.1 (of_decide_eq_false hb30))
      refine zS [(46, .int .i64 (((i : Nat) : Int) - ((by_ : Nat) : Int))), (47, .int .i64 ((wd : Nat) : Int)), (48, .bool (decide (((i : Nat) : Int) - ((by_ : Nat) : Int) ≥ ((wd : Nat) : Int)))), (49, .bool (decide (((i : Nat) : Int) - ((by_ : Nat) : Int) ≥ ((wd : Nat) : Int))))] ?_
      refine zO (decide (((i : Nat) : Int) - ((by_ : Nat) : Int) ≥ ((wd : Nat) : Int))) (fun hc31 => ?_) (fun hc31 => ?_)
      ·
       replace hc31 : ((wd : Nat) : Int) ≤ ((i : Nat) : Int) - ((by_ : Nat) : Int) := (of_decide_eq_true hc31)
       refine zQ ?_
       refine st (by rfl) (S_val (v := .agg #[.int .u64 ((bval i (kmvk 9 wd x by_) : Nat) : Int), .int .u64 ((bval i (kmvv 9 wd x by_) : Nat) : Int)]) (R_loadA [.int .u64 ((bval i (kmvk 9 wd x by_) : Nat) : Int), .int .u64 ((bval i (kmvv 9 wd x by_) : Nat) : Int)] (by kernel_rfl) (by kernel_rfl) (by kernel_rfl) (fun k u hk => by rw [hOut.cell]; exact get_part _ 0 _ k u rfl hk)) ?_)
       refine zS [(51, .int .i64 ((i : Nat) : Int))] ?_
       refine zC (with_ok (bval i (kmvk 9 wd x by_)) (bval i (kmvv 9 wd x by_)) i false _ (by omega) (bval_u (by omega)) (bval_u (by omega))) ?_
       rintro _ w32 ⟨rfl, hT33⟩
       have hT0 := hT0.t0 hT33
       have hQ6 := hQ6.tch0 hT33
       have hQ8 := hQ8.tch0 hT33
       have hOut := hOut.tch0 hT33
       refine st (by rfl) (S_storeA (b := w5.heap.size) (j := 0) (cs := [.int .u64 (((bval i (kmvk 9 wd x by_)) ||| pw i : Nat) : Int), .int .u64 (((bval i (kmvv 9 wd x by_)) ||| (if false = true then pw i else 0) : Nat) : Int)]) (by kernel_rfl) (by kernel_rfl) (by kernel_rfl) (by simp [oneV]) hOut (by simp) fun w36 hT37 hs38 hOut' => ?_)
       have hT0 := (hT0).then hT37 (fun c e => by have : c = w5.heap.size := e; omega)
       have hQ6 := hQ6.tch hT37 (fun e => by have : w.heap.size = w5.heap.size := e; omega)
       have hQ8 := hQ8.tch hT37 (fun e => by have : w1.heap.size = w5.heap.size := e; omega)
       replace hOut : Blk w36 w5.heap.size 104 [.int .u64 (((bval i (kmvk 9 wd x by_)) ||| pw i : Nat) : Int), .int .u64 (((bval i (kmvv 9 wd x by_)) ||| (if false = true then pw i else 0) : Nat) : Int)] := hOut'
       refine op_nil ?_
       refine W_exit ?_
       refine X_hit ?_
       refine zR ?_
       refine zS [(17, .int .i64 ((i : Nat) : Int)), (18, .int .i64 (IntKind.i64.wrap (((i : Nat) : Int) + 1)))] ?_
       rw [show IntKind.i64.wrap (((i : Nat) : Int) + 1) = ((i : Nat) : Int) + 1 from wrap_i64 (by omega) (by omega)]
       refine fixR (y := ((i + 1 : Nat) : Int)) (by omega) ?_
       refine zS [(10, .int .i64 ((i + 1 : Nat) : Int))] ?_
       refine op_nil ?_
       refine ⟨_, ?_, i + 1, _, updL_self (by kernel_rfl), ?_, hT0, hQ6, hQ8, (by rw [← bval_or i (kmvk 9 wd x by_) true (((kmvk9_low (show by_ < wd by omega) (show i < by_ by omega)).trans (by simp [hc19, hb20, hb29, hb30, hc31])).symm), ← bval_or i (kmvv 9 wd x by_) false (((kmvv9_low (show i < by_ by omega)).trans (by simp [hc19, hb20, hb29, hb30, hc31])).symm), if_pos rfl]; exact hOut), rfl⟩
       ·
        omega
       ·
        omega
      ·
       replace hc31 : ((i : Nat) : Int) - ((by_ : Nat) : Int) < ((wd : Nat) : Int) := (Int.not_le.1 (of_decide_eq_false hc31))
       refine W_skip ?_
       refine W_seq ?_
       obtain ⟨fr, hfr⟩ : ∃ fr : Nat, ((i : Nat) : Int) - ((by_ : Nat) : Int) = ((fr : Nat) : Int) := ⟨(((i : Nat) : Int) - ((by_ : Nat) : Int)).toNat, by omega⟩
       rw [hfr]
       have hfe : i - by_ = fr := by omega
       refine zR ?_
       refine st (by rfl) (S_val (v := .agg #[.int .u64 ((x.1 : Nat) : Int), .int .u64 ((x.2 : Nat) : Int)]) (R_loadA [.int .u64 ((x.1 : Nat) : Int), .int .u64 ((x.2 : Nat) : Int)] (by kernel_rfl) (by kernel_rfl) (by kernel_rfl) (fun k u hk => by rw [hQ6.cell]; exact get_part _ 0 _ k u rfl hk)) ?_)
       refine zS [(55, .int .i64 ((fr : Nat) : Int))] ?_
       refine zC (rbit2_ok x.1 x.2 fr _ (by omega) ux1 ux2) ?_
       rintro _ w39 ⟨rfl, hT40⟩
       have hT0 := hT0.t0 hT40
       have hQ6 := hQ6.tch0 hT40
       have hQ8 := hQ8.tch0 hT40
       have hOut := hOut.tch0 hT40
       refine zS [(53, .tuple #[.bool (x.1.testBit fr), .bool (x.2.testBit fr)]), (57, .bool (x.1.testBit fr)), (58, .bool (x.2.testBit fr)), (12, .bool (x.1.testBit fr)), (13, .bool (x.2.testBit fr))] ?_
       refine op_nil ?_
       refine zQ ?_
       refine zS [(59, .bool (x.1.testBit fr))] ?_
       refine zO (x.1.testBit fr) (fun hc41 => ?_) (fun hc41 => ?_)
       ·
        replace hc41 : x.1.testBit fr = true := (hc41)
        refine zR ?_
        refine st (by rfl) (S_val (v := .agg #[.int .u64 ((bval i (kmvk 9 wd x by_) : Nat) : Int), .int .u64 ((bval i (kmvv 9 wd x by_) : Nat) : Int)]) (R_loadA [.int .u64 ((bval i (kmvk 9 wd x by_) : Nat) : Int), .int .u64 ((bval i (kmvv 9 wd x by_) : Nat) : Int)] (by kernel_rfl) (by kernel_rfl) (by kernel_rfl) (fun k u hk => by rw [hOut.cell]; exact get_part _ 0 _ k u rfl hk)) ?_)
        refine zS [(61, .int .i64 ((i : Nat) : Int)), (62, .bool (x.2.testBit fr))] ?_
        refine zC (with_ok (bval i (kmvk 9 wd x by_)) (bval i (kmvv 9 wd x by_)) i (x.2.testBit fr) _ (by omega) (bval_u (by omega)) (bval_u (by omega))) ?_
        rintro _ w42 ⟨rfl, hT43⟩
        have hT0 := hT0.t0 hT43
        have hQ6 := hQ6.tch0 hT43
        have hQ8 := hQ8.tch0 hT43
        have hOut := hOut.tch0 hT43
        refine st (by rfl) (S_storeA (b := w5.heap.size) (j := 0) (cs := [.int .u64 (((bval i (kmvk 9 wd x by_)) ||| pw i : Nat) : Int), .int .u64 (((bval i (kmvv 9 wd x by_)) ||| (if (x.2.testBit fr) = true then pw i else 0) : Nat) : Int)]) (by kernel_rfl) (by kernel_rfl) (by kernel_rfl) (by simp [oneV]) hOut (by simp) fun w46 hT47 hs48 hOut' => ?_)
        have hT0 := (hT0).then hT47 (fun c e => by have : c = w5.heap.size := e; omega)
        have hQ6 := hQ6.tch hT47 (fun e => by have : w.heap.size = w5.heap.size := e; omega)
        have hQ8 := hQ8.tch hT47 (fun e => by have : w1.heap.size = w5.heap.size := e; omega)
        replace hOut : Blk w46 w5.heap.size 104 [.int .u64 (((bval i (kmvk 9 wd x by_)) ||| pw i : Nat) : Int), .int .u64 (((bval i (kmvv 9 wd x by_)) ||| (if (x.2.testBit fr) = true then pw i else 0) : Nat) : Int)] := hOut'
        refine op_nil ?_
        refine zR ?_
        refine zS [(17, .int .i64 ((i : Nat) : Int)), (18, .int .i64 (IntKind.i64.wrap (((i : Nat) : Int) + 1)))] ?_
        rw [show IntKind.i64.wrap (((i : Nat) : Int) + 1) = ((i : Nat) : Int) + 1 from wrap_i64 (by omega) (by omega)]
        refine fixR (y := ((i + 1 : Nat) : Int)) (by omega) ?_
        refine zS [(10, .int .i64 ((i + 1 : Nat) : Int))] ?_
        refine op_nil ?_
        refine ⟨_, ?_, i + 1, _, updL_self (by kernel_rfl), ?_, hT0, hQ6, hQ8, (by rw [← bval_or i (kmvk 9 wd x by_) true (((kmvk9_at (show by_ < wd by omega) (show by_ ≤ i by omega) hfe).trans (by simp [hc19, hb20, hb29, hb30, hc31, hc41])).symm), ← bval_or i (kmvv 9 wd x by_) (x.2.testBit fr) (((kmvv9_at (show by_ < wd by omega) (show by_ ≤ i by omega) hfe).trans (by simp [hc19, hb20, hb29, hb30, hc31, hc41])).symm), if_pos rfl]; exact hOut), rfl⟩
        ·
         omega
        ·
         omega
       ·
        replace hc41 : x.1.testBit fr = false := (hc41)
        refine W_skip ?_
        refine zR ?_
        refine zS [(17, .int .i64 ((i : Nat) : Int)), (18, .int .i64 (IntKind.i64.wrap (((i : Nat) : Int) + 1)))] ?_
        rw [show IntKind.i64.wrap (((i : Nat) : Int) + 1) = ((i : Nat) : Int) + 1 from wrap_i64 (by omega) (by omega)]
        refine fixR (y := ((i + 1 : Nat) : Int)) (by omega) ?_
        refine zS [(10, .int .i64 ((i + 1 : Nat) : Int))] ?_
        refine op_nil ?_
        refine ⟨_, ?_, i + 1, _, updL_self (by kernel_rfl), ?_, hT0, hQ6, hQ8, (by rw [← bval_not (f := (kmvk 9 wd x by_)) ((kmvk9_at (show by_ < wd by omega) (show by_ ≤ i by omega) hfe).trans (by simp [hc19, hb20, hb29, hb30, hc31, hc41])), ← bval_not (f := (kmvv 9 wd x by_)) ((kmvv9_at (show by_ < wd by omega) (show by_ ≤ i by omega) hfe).trans (by simp [hc19, hb20, hb29, hb30, hc31, hc41]))]; exact hOut), rfl⟩
        ·
         omega
        ·
         omega
     ·
      replace hb30 : ((i : Nat) : Int) - ((by_ : Nat) : Int) < 0 := (of_decide_eq_true hb30)
      refine zS [(46, undef), (47, undef), (48, undef), (49, .bool true)] ?_
      refine zO true (fun _ => ?_) (fun h => nomatch h)
      refine zQ ?_
      refine st (by rfl) (S_val (v := .agg #[.int .u64 ((bval i (kmvk 9 wd x by_) : Nat) : Int), .int .u64 ((bval i (kmvv 9 wd x by_) : Nat) : Int)]) (R_loadA [.int .u64 ((bval i (kmvk 9 wd x by_) : Nat) : Int), .int .u64 ((bval i (kmvv 9 wd x by_) : Nat) : Int)] (by kernel_rfl) (by kernel_rfl) (by kernel_rfl) (fun k u hk => by rw [hOut.cell]; exact get_part _ 0 _ k u rfl hk)) ?_)
      refine zS [(51, .int .i64 ((i : Nat) : Int))] ?_
      refine zC (with_ok (bval i (kmvk 9 wd x by_)) (bval i (kmvv 9 wd x by_)) i false _ (by omega) (bval_u (by omega)) (bval_u (by omega))) ?_
      rintro _ w49 ⟨rfl, hT50⟩
      have hT0 := hT0.t0 hT50
      have hQ6 := hQ6.tch0 hT50
      have hQ8 := hQ8.tch0 hT50
      have hOut := hOut.tch0 hT50
      refine st (by rfl) (S_storeA (b := w5.heap.size) (j := 0) (cs := [.int .u64 (((bval i (kmvk 9 wd x by_)) ||| pw i : Nat) : Int), .int .u64 (((bval i (kmvv 9 wd x by_)) ||| (if false = true then pw i else 0) : Nat) : Int)]) (by kernel_rfl) (by kernel_rfl) (by kernel_rfl) (by simp [oneV]) hOut (by simp) fun w53 hT54 hs55 hOut' => ?_)
      have hT0 := (hT0).then hT54 (fun c e => by have : c = w5.heap.size := e; omega)
      have hQ6 := hQ6.tch hT54 (fun e => by have : w.heap.size = w5.heap.size := e; omega)
      have hQ8 := hQ8.tch hT54 (fun e => by have : w1.heap.size = w5.heap.size := e; omega)
      replace hOut : Blk w53 w5.heap.size 104 [.int .u64 (((bval i (kmvk 9 wd x by_)) ||| pw i : Nat) : Int), .int .u64 (((bval i (kmvv 9 wd x by_)) ||| (if false = true then pw i else 0) : Nat) : Int)] := hOut'
      refine op_nil ?_
      refine W_exit ?_
      refine X_hit ?_
      refine zR ?_
      refine zS [(17, .int .i64 ((i : Nat) : Int)), (18, .int .i64 (IntKind.i64.wrap (((i : Nat) : Int) + 1)))] ?_
      rw [show IntKind.i64.wrap (((i : Nat) : Int) + 1) = ((i : Nat) : Int) + 1 from wrap_i64 (by omega) (by omega)]
      refine fixR (y := ((i + 1 : Nat) : Int)) (by omega) ?_
      refine zS [(10, .int .i64 ((i + 1 : Nat) : Int))] ?_
      refine op_nil ?_
      refine ⟨_, ?_, i + 1, _, updL_self (by kernel_rfl), ?_, hT0, hQ6, hQ8, (by rw [← bval_or i (kmvk 9 wd x by_) true (((kmvk9_low (show by_ < wd by omega) (show i < by_ by omega)).trans (by simp [hc19, hb20, hb29, hb30])).symm), ← bval_or i (kmvv 9 wd x by_) false (((kmvv9_low (show i < by_ by omega)).trans (by simp [hc19, hb20, hb29, hb30])).symm), if_pos rfl]; exact hOut), rfl⟩
      ·
       omega
      ·
       omega
  ·
   replace hc19 : ((wd : Nat) : Int) ≤ ((i : Nat) : Int) := (Int.not_lt.1 (of_decide_eq_false hc19))
   refine W_exit ?_
   refine X_hit ?_
   refine zQ ?_
   refine st (by rfl) (S_val (v := .agg #[.int .u64 ((bval i (kmvk 9 wd x by_) : Nat) : Int), .int .u64 ((bval i (kmvv 9 wd x by_) : Nat) : Int)]) (R_loadA [.int .u64 ((bval i (kmvk 9 wd x by_) : Nat) : Int), .int .u64 ((bval i (kmvv 9 wd x by_) : Nat) : Int)] (by kernel_rfl) (by kernel_rfl) (by kernel_rfl) (fun k u hk => by rw [hOut.cell]; exact get_part _ 0 _ k u rfl hk)) ?_)
   refine st (by rfl) (S_storeA (b := w1.heap.size) (j := 0) (cs := [.int .u64 ((bval i (kmvk 9 wd x by_) : Nat) : Int), .int .u64 ((bval i (kmvv 9 wd x by_) : Nat) : Int)]) (by kernel_rfl) (by kernel_rfl) (by kernel_rfl) (by simp [oneV]) hQ8 (by simp) fun w56 hT57 hs58 hQ8' => ?_)
   have hT0 := (hT0).then hT57 (fun c e => by have : c = w1.heap.size := e; omega)
   have hQ6 := hQ6.tch hT57 (fun e => by have : w.heap.size = w1.heap.size := e; omega)
   have hOut := hOut.tch hT57 (fun e => by have : w5.heap.size = w1.heap.size := e; omega)
   replace hQ8 : Blk w56 w1.heap.size 104 [.int .u64 ((bval i (kmvk 9 wd x by_) : Nat) : Int), .int .u64 ((bval i (kmvv 9 wd x by_) : Nat) : Int)] := hQ8'
   refine op_nil ?_
   refine W_ret ?_
   exact ⟨_, Res_cell (b := w1.heap.size) (cs := [.int .u64 ((bval i (kmvk 9 wd x by_) : Nat) : Int), .int .u64 ((bval i (kmvv 9 wd x by_) : Nat) : Int)]) (by rfl) (by kernel_rfl) (by kernel_rfl) hQ8 (by kernel_rfl) (by kernel_rfl), ⟨by rw [show i = wd by omega]; rfl, hT0⟩⟩

set_option maxRecDepth 100000 in
theorem rmv10_ok (wd : Nat) (x : K) (by_ : Nat) (w : World) (hx : KI wd x) (hw : wd ≤ 64) (hb : by_ < 18446744073709551616) : Ret Try.prog 106 [.int .i64 10, .int .i64 ((wd : Nat) : Int), .agg #[.int .u64 ((x.1 : Nat) : Int), .int .u64 ((x.2 : Nat) : Int)], .int .u64 ((by_ : Nat) : Int)] w fun v w' => v = .agg #[.int .u64 (((kmv 10 wd x by_).1 : Nat) : Int), .int .u64 (((kmv 10 wd x by_).2 : Nat) : Int)] ∧ Tch N0 w w' := by
 have ux1 := hx.u1 hw
 have ux2 := hx.u2 hw
 refine enter Try.func106 rfl rfl ?_
 refine zQ ?_
 refine st (by rfl) (S_new (v := .pointer (some ⟨w.heap.size, 0, none⟩)) (ob := .cells #[.int .u64 ((x.1 : Nat) : Int), .int .u64 ((x.2 : Nat) : Int)] 104) (by kernel_rfl) fun w1 hT2 hs3 hB4 => ?_)
 replace hB4 : Blk w1 (w.heap.size) 104 [.int .u64 ((x.1 : Nat) : Int), .int .u64 ((x.2 : Nat) : Int)] := hB4
 have hT0 := hT2
 have z9 := hT0.size
 have l10 := hB4.lt
 refine st (by rfl) (S_new (v := .pointer (some ⟨w1.heap.size, 0, none⟩)) (ob := .cells #[.int .u64 0, .int .u64 0] 104) (by kernel_rfl) fun w5 hT6 hs7 hB8 => ?_)
 replace hB8 : Blk w5 (w1.heap.size) 104 [.int .u64 0, .int .u64 0] := hB8
 have hT0 := hT0.t0 hT6
 have hB4 := hB4.tch0 hT6
 refine op_nil ?_
 refine zQ ?_
 have z15 := hT0.size
 have l16 := hB4.lt
 have l17 := hB8.lt
 refine st (by rfl) (S_new (v := .pointer (some ⟨w5.heap.size, 0, none⟩)) (ob := .cells #[.int .u64 0, .int .u64 0] 104) (by kernel_rfl) fun w11 hT12 hs13 hB14 => ?_)
 replace hB14 : Blk w11 (w5.heap.size) 104 [.int .u64 0, .int .u64 0] := hB14
 have hT0 := hT0.t0 hT12
 have hB4 := hB4.tch0 hT12
 have hB8 := hB8.tch0 hT12
 refine op_nil ?_
 refine W_seq ?_
 refine zQ ?_
 refine zS [(10, .int .i64 0)] ?_
 refine op_nil ?_
 refine W_block ?_
 refine W_loop (fun m ρ w' => ∃ (i : Nat) (ρ0 : Env), ρ = updL ρ0 [(0, .int .i64 10), (1, .int .i64 ((wd : Nat) : Int)), (2, .agg #[.int .u64 ((x.1 : Nat) : Int), .int .u64 ((x.2 : Nat) : Int)]), (3, .int .u64 ((by_ : Nat) : Int)), (6, .pointer (some ⟨w.heap.size, 0, none⟩)), (8, .pointer (some ⟨w1.heap.size, 0, none⟩)), (9, .pointer (some ⟨w5.heap.size, 0, none⟩)), (10, .int .i64 ((i : Nat) : Int))] ∧ (i ≤ wd) ∧ Tch N0 w w' ∧ Blk w' (w.heap.size) 104 [.int .u64 ((x.1 : Nat) : Int), .int .u64 ((x.2 : Nat) : Int)] ∧ Blk w' (w1.heap.size) 104 [.int .u64 0, .int .u64 0] ∧ Blk w' (w5.heap.size) 104 [.int .u64 ((bval i (kmvk 10 wd x by_) : Nat) : Int), .int .u64 ((bval i (kmvv 10 wd x by_) : Nat) : Int)] ∧ m = wd - i) (m := wd - 0) ?_ ?_
 ·
  refine ⟨0, _, updL_self (by kernel_rfl), by omega, hT0, hB4, hB8, hB14, rfl⟩
 ·
  rintro m ρ w18 ⟨i, ρ, rfl, hi, hT0, hQ6, hQ8, hOut, rfl⟩
  refine W_seq ?_
  refine zQ ?_
  refine zS [(14, .int .i64 ((i : Nat) : Int)), (15, .int .i64 ((wd : Nat) : Int)), (16, .bool (decide (((i : Nat) : Int) < ((wd : Nat) : Int))))] ?_
  refine zO (decide (((i : Nat) : Int) < ((wd : Nat) : Int))) (fun hc19 => ?_) (fun hc19 => ?_)
  ·
   replace hc19 : ((i : Nat) : Int) < ((wd : Nat) : Int) := (of_decide_eq_true hc19)
   refine W_skip ?_
   refine W_seq ?_
   refine W_block ?_
   refine zQ ?_
   refine zS [(11, .int .i64 (-1))] ?_
   refine op_nil ?_
   refine W_seq ?_
   refine zQ ?_
   refine zS [(19, .int .u64 ((by_ : Nat) : Int)), (20, .int .i64 ((wd : Nat) : Int)), (21, .int .u64 (IntKind.u64.wrap ((wd : Nat) : Int)))] ?_
   rw [show IntKind.u64.wrap ((wd : Nat) : Int) = ((wd : Nat) : Int) from wrap_u64 (by omega) (by omega)]
   refine zS [(22, .bool (decide (((by_ : Nat) : Int) < ((wd : Nat) : Int)))), (23, .bool (decide (((by_ : Nat) : Int) < ((wd : Nat) : Int))))] ?_
   cases hb20 : decide (((by_ : Nat) : Int) < ((wd : Nat) : Int))
   ·
    replace hb20 : ((wd : Nat) : Int) ≤ ((by_ : Nat) : Int) := (Int.not_lt.1 (of_decide_eq_false hb20))
    refine zS [(24, undef), (25, undef), (26, .bool false)] ?_
    refine zO false (fun h => nomatch h) (fun _ => ?_)
    refine W_skip ?_
    refine W_seq ?_
    refine zQ ?_
    refine zS [(31, .int .u64 ((by_ : Nat) : Int)), (32, .int .i64 ((wd : Nat) : Int)), (33, .int .u64 (IntKind.u64.wrap ((wd : Nat) : Int)))] ?_
    rw [show IntKind.u64.wrap ((wd : Nat) : Int) = ((wd : Nat) : Int) from wrap_u64 (by omega) (by omega)]
    refine zS [(34, .bool (decide (((by_ : Nat) : Int) < ((wd : Nat) : Int)))), (35, .bool (decide (((by_ : Nat) : Int) < ((wd : Nat) : Int))))] ?_
    cases hb21 : decide (((by_ : Nat) : Int) < ((wd : Nat) : Int))
    ·
     replace hb21 : ((wd : Nat) : Int) ≤ ((by_ : Nat) : Int) := (Int.not_lt.1 (of_decide_eq_false hb21))
     refine zS [(36, undef), (37, undef), (38, .bool false)] ?_
     refine zO false (fun h => nomatch h) (fun _ => ?_)
     refine W_skip ?_
     refine W_seq ?_
     refine zQ ?_
     refine zS [(43, .int .i64 (-1)), (44, .bool true), (45, .bool true), (46, undef), (47, undef), (48, undef), (49, .bool true)] ?_
     refine zO true (fun _ => ?_) (fun h => nomatch h)
     refine zQ ?_
     refine st (by rfl) (S_val (v := .agg #[.int .u64 ((bval i (kmvk 10 wd x by_) : Nat) : Int), .int .u64 ((bval i (kmvv 10 wd x by_) : Nat) : Int)]) (R_loadA [.int .u64 ((bval i (kmvk 10 wd x by_) : Nat) : Int), .int .u64 ((bval i (kmvv 10 wd x by_) : Nat) : Int)] (by kernel_rfl) (by kernel_rfl) (by kernel_rfl) (fun k u hk => by rw [hOut.cell]; exact get_part _ 0 _ k u rfl hk)) ?_)
     refine zS [(51, .int .i64 ((i : Nat) : Int))] ?_
     refine zC (with_ok (bval i (kmvk 10 wd x by_)) (bval i (kmvv 10 wd x by_)) i false _ (by omega) (bval_u (by omega)) (bval_u (by omega))) ?_
     rintro _ w22 ⟨rfl, hT23⟩
     have hT0 := hT0.t0 hT23
     have hQ6 := hQ6.tch0 hT23
     have hQ8 := hQ8.tch0 hT23
     have hOut := hOut.tch0 hT23
     refine st (by rfl) (S_storeA (b := w5.heap.size) (j := 0) (cs := [.int .u64 (((bval i (kmvk 10 wd x by_)) ||| pw i : Nat) : Int), .int .u64 (((bval i (kmvv 10 wd x by_)) ||| (if false = true then pw i else 0) : Nat) : Int)]) (by kernel_rfl) (by kernel_rfl) (by kernel_rfl) (by simp [oneV]) hOut (by simp) fun w26 hT27 hs28 hOut' => ?_)
     have hT0 := (hT0).then hT27 (fun c e => by have : c = w5.heap.size := e; omega)
     have hQ6 := hQ6.tch hT27 (fun e => by have : w.heap.size = w5.heap.size := e; omega)
     have hQ8 := hQ8.tch hT27 (fun e => by have : w1.heap.size = w5.heap.size := e; omega)
     replace hOut : Blk w26 w5.heap.size 104 [.int .u64 (((bval i (kmvk 10 wd x by_)) ||| pw i : Nat) : Int), .int .u64 (((bval i (kmvv 10 wd x by_)) ||| (if false = true then pw i else 0) : Nat) : Int)] := hOut'
     refine op_nil ?_
     refine W_exit ?_
     refine X_hit ?_
     refine zR ?_
     refine zS [(17, .int .i64 ((i : Nat) : Int)), (18, .int .i64 (IntKind.i64.wrap (((i : Nat) : Int) + 1)))] ?_
     rw [show IntKind.i64.wrap (((i : Nat) : Int) + 1) = ((i : Nat) : Int) + 1 from wrap_i64 (by omega) (by omega)]
     refine fixR (y := ((i + 1 : Nat) : Int)) (by omega) ?_
     refine zS [(10, .int .i64 ((i + 1 : Nat) : Int))] ?_
     refine op_nil ?_
     refine ⟨_, ?_, i + 1, _, updL_self (by kernel_rfl), ?_, hT0, hQ6, hQ8, (by rw [← bval_or i (kmvk 10 wd x by_) true (((kmvk10_far (show wd ≤ by_ by omega)).trans (by simp [hc19, hb20, hb21])).symm), ← bval_or i (kmvv 10 wd x by_) false (((kmvv10_far (show wd ≤ by_ by omega)).trans (by simp [hc19, hb20, hb21])).symm), if_pos rfl]; exact hOut), rfl⟩
     ·
      omega
     ·
      omega
    ·
     replace hb21 : ((by_ : Nat) : Int) < ((wd : Nat) : Int) := (of_decide_eq_true hb21)
     exfalso; omega
   ·
    replace hb20 : ((by_ : Nat) : Int) < ((wd : Nat) : Int) := (of_decide_eq_true hb20)
    refine zS [(24, .int .i64 10), (25, .bool false), (26, .bool false)] ?_
    refine zO false (fun h => nomatch h) (fun _ => ?_)
    refine W_skip ?_
    refine W_seq ?_
    refine zQ ?_
    refine zS [(31, .int .u64 ((by_ : Nat) : Int)), (32, .int .i64 ((wd : Nat) : Int)), (33, .int .u64 (IntKind.u64.wrap ((wd : Nat) : Int)))] ?_
    rw [show IntKind.u64.wrap ((wd : Nat) : Int) = ((wd : Nat) : Int) from wrap_u64 (by omega) (by omega)]
    refine zS [(34, .bool (decide (((by_ : Nat) : Int) < ((wd : Nat) : Int)))), (35, .bool (decide (((by_ : Nat) : Int) < ((wd : Nat) : Int))))] ?_
    cases hb29 : decide (((by_ : Nat) : Int) < ((wd : Nat) : Int))
    ·
     replace hb29 : ((wd : Nat) : Int) ≤ ((by_ : Nat) : Int) := (Int.not_lt.1 (of_decide_eq_false hb29))
     exfalso; omega
    ·
     replace hb29 : ((by_ : Nat) : Int) < ((wd : Nat) : Int) := (of_decide_eq_true hb29)
     refine zS [(36, .int .i64 10), (37, .bool true), (38, .bool true)] ?_
     refine zO true (fun _ => ?_) (fun h => nomatch h)
     refine zR ?_
     refine zS [(39, .int .i64 ((i : Nat) : Int)), (40, .int .u64 ((by_ : Nat) : Int)), (41, .int .i64 (IntKind.i64.wrap ((by_ : Nat) : Int)))] ?_
     rw [show IntKind.i64.wrap ((by_ : Nat) : Int) = ((by_ : Nat) : Int) from wrap_i64 (by omega) (by omega)]
     refine zS [(42, .int .i64 (IntKind.i64.wrap (((i : Nat) : Int) + ((by_ : Nat) : Int))))] ?_
     rw [show IntKind.i64.wrap (((i : Nat) : Int) + ((by_ : Nat) : Int)) = ((i : Nat) : Int) + ((by_ : Nat) : Int) from wrap_i64 (by omega) (by omega)]
     refine zS [(11, .int .i64 (((i : Nat) : Int) + ((by_ : Nat) : Int)))] ?_
     refine op_nil ?_
     refine W_seq ?_
     refine zQ ?_
     refine zS [(43, .int .i64 (((i : Nat) : Int) + ((by_ : Nat) : Int))), (44, .bool (decide (((i : Nat) : Int) + ((by_ : Nat) : Int) < 0))), (45, .bool (decide (((i : Nat) : Int) + ((by_ : Nat) : Int) < 0)))] ?_
     cases hb30 : decide (((i : Nat) : Int) + ((by_ : Nat) : Int) < 0)
     ·
      replace hb30 : 0 ≤ ((i : Nat) : Int) + ((by_ : Nat) : Int) := (Int.not_lt.1 (of_decide_eq_false hb30))
      refine zS [(46, .int .i64 (((i : Nat) : Int) + ((by_ : Nat) : Int))), (47, .int .i64 ((wd : Nat) : Int)), (48, .bool (decide (((i : Nat) : Int) + ((by_ : Nat) : Int) ≥ ((wd : Nat) : Int)))), (49, .bool (decide (((i : Nat) : Int) + ((by_ : Nat) : Int) ≥ ((wd : Nat) : Int))))] ?_
      refine zO (decide (((i : Nat) : Int) + ((by_ : Nat) : Int) ≥ ((wd : Nat) : Int))) (fun hc31 => ?_) (fun hc31 => ?_)
      ·
       replace hc31 : ((wd : Nat) : Int) ≤ ((i : Nat) : Int) + ((by_ : Nat) : Int) := (of_decide_eq_true hc31)
       refine zQ ?_
       refine st (by rfl) (S_val (v := .agg #[.int .u64 ((bval i (kmvk 10 wd x by_) : Nat) : Int), .int .u64 ((bval i (kmvv 10 wd x by_) : Nat) : Int)]) (R_loadA [.int .u64 ((bval i (kmvk 10 wd x by_) : Nat) : Int), .int .u64 ((bval i (kmvv 10 wd x by_) : Nat) : Int)] (by kernel_rfl) (by kernel_rfl) (by kernel_rfl) (fun k u hk => by rw [hOut.cell]; exact get_part _ 0 _ k u rfl hk)) ?_)
       refine zS [(51, .int .i64 ((i : Nat) : Int))] ?_
       refine zC (with_ok (bval i (kmvk 10 wd x by_)) (bval i (kmvv 10 wd x by_)) i false _ (by omega) (bval_u (by omega)) (bval_u (by omega))) ?_
       rintro _ w32 ⟨rfl, hT33⟩
       have hT0 := hT0.t0 hT33
       have hQ6 := hQ6.tch0 hT33
       have hQ8 := hQ8.tch0 hT33
       have hOut := hOut.tch0 hT33
       refine st (by rfl) (S_storeA (b := w5.heap.size) (j := 0) (cs := [.int .u64 (((bval i (kmvk 10 wd x by_)) ||| pw i : Nat) : Int), .int .u64 (((bval i (kmvv 10 wd x by_)) ||| (if false = true then pw i else 0) : Nat) : Int)]) (by kernel_rfl) (by kernel_rfl) (by kernel_rfl) (by simp [oneV]) hOut (by simp) fun w36 hT37 hs38 hOut' => ?_)
       have hT0 := (hT0).then hT37 (fun c e => by have : c = w5.heap.size := e; omega)
       have hQ6 := hQ6.tch hT37 (fun e => by have : w.heap.size = w5.heap.size := e; omega)
       have hQ8 := hQ8.tch hT37 (fun e => by have : w1.heap.size = w5.heap.size := e; omega)
       replace hOut : Blk w36 w5.heap.size 104 [.int .u64 (((bval i (kmvk 10 wd x by_)) ||| pw i : Nat) : Int), .int .u64 (((bval i (kmvv 10 wd x by_)) ||| (if false = true then pw i else 0) : Nat) : Int)] := hOut'
       refine op_nil ?_
       refine W_exit ?_
       refine X_hit ?_
       refine zR ?_
       refine zS [(17, .int .i64 ((i : Nat) : Int)), (18, .int .i64 (IntKind.i64.wrap (((i : Nat) : Int) + 1)))] ?_
       rw [show IntKind.i64.wrap (((i : Nat) : Int) + 1) = ((i : Nat) : Int) + 1 from wrap_i64 (by omega) (by omega)]
       refine fixR (y := ((i + 1 : Nat) : Int)) (by omega) ?_
       refine zS [(10, .int .i64 ((i + 1 : Nat) : Int))] ?_
       refine op_nil ?_
       refine ⟨_, ?_, i + 1, _, updL_self (by kernel_rfl), ?_, hT0, hQ6, hQ8, (by rw [← bval_or i (kmvk 10 wd x by_) true (((kmvk10_low (show by_ < wd by omega) (show wd ≤ i + by_ by omega)).trans (by simp [hc19, hb20, hb29, hb30, hc31])).symm), ← bval_or i (kmvv 10 wd x by_) false (((kmvv10_low (show wd ≤ i + by_ by omega)).trans (by simp [hc19, hb20, hb29, hb30, hc31])).symm), if_pos rfl]; exact hOut), rfl⟩
       ·
        omega
       ·
        omega
      ·
       replace hc31 : ((i : Nat) : Int) + ((by_ : Nat) : Int) < ((wd : Nat) : Int) := (Int.not_le.1 (of_decide_eq_false hc31))
       refine W_skip ?_
       refine W_seq ?_
       obtain ⟨fr, hfr⟩ : ∃ fr : Nat, ((i : Nat) : Int) + ((by_ : Nat) : Int) = ((fr : Nat) : Int) := ⟨(((i : Nat) : Int) + ((by_ : Nat) : Int)).toNat, by omega⟩
       rw [hfr]
       have hfe : i + by_ = fr := by omega
       refine zR ?_
       refine st (by rfl) (S_val (v := .agg #[.int .u64 ((x.1 : Nat) : Int), .int .u64 ((x.2 : Nat) : Int)]) (R_loadA [.int .u64 ((x.1 : Nat) : Int), .int .u64 ((x.2 : Nat) : Int)] (by kernel_rfl) (by kernel_rfl) (by kernel_rfl) (fun k u hk => by rw [hQ6.cell]; exact get_part _ 0 _ k u rfl hk)) ?_)
       refine zS [(55, .int .i64 ((fr : Nat) : Int))] ?_
       refine zC (rbit2_ok x.1 x.2 fr _ (by omega) ux1 ux2) ?_
       rintro _ w39 ⟨rfl, hT40⟩
       have hT0 := hT0.t0 hT40
       have hQ6 := hQ6.tch0 hT40
       have hQ8 := hQ8.tch0 hT40
       have hOut := hOut.tch0 hT40
       refine zS [(53, .tuple #[.bool (x.1.testBit fr), .bool (x.2.testBit fr)]), (57, .bool (x.1.testBit fr)), (58, .bool (x.2.testBit fr)), (12, .bool (x.1.testBit fr)), (13, .bool (x.2.testBit fr))] ?_
       refine op_nil ?_
       refine zQ ?_
       refine zS [(59, .bool (x.1.testBit fr))] ?_
       refine zO (x.1.testBit fr) (fun hc41 => ?_) (fun hc41 => ?_)
       ·
        replace hc41 : x.1.testBit fr = true := (hc41)
        refine zR ?_
        refine st (by rfl) (S_val (v := .agg #[.int .u64 ((bval i (kmvk 10 wd x by_) : Nat) : Int), .int .u64 ((bval i (kmvv 10 wd x by_) : Nat) : Int)]) (R_loadA [.int .u64 ((bval i (kmvk 10 wd x by_) : Nat) : Int), .int .u64 ((bval i (kmvv 10 wd x by_) : Nat) : Int)] (by kernel_rfl) (by kernel_rfl) (by kernel_rfl) (fun k u hk => by rw [hOut.cell]; exact get_part _ 0 _ k u rfl hk)) ?_)
        refine zS [(61, .int .i64 ((i : Nat) : Int)), (62, .bool (x.2.testBit fr))] ?_
        refine zC (with_ok (bval i (kmvk 10 wd x by_)) (bval i (kmvv 10 wd x by_)) i (x.2.testBit fr) _ (by omega) (bval_u (by omega)) (bval_u (by omega))) ?_
        rintro _ w42 ⟨rfl, hT43⟩
        have hT0 := hT0.t0 hT43
        have hQ6 := hQ6.tch0 hT43
        have hQ8 := hQ8.tch0 hT43
        have hOut := hOut.tch0 hT43
        refine st (by rfl) (S_storeA (b := w5.heap.size) (j := 0) (cs := [.int .u64 (((bval i (kmvk 10 wd x by_)) ||| pw i : Nat) : Int), .int .u64 (((bval i (kmvv 10 wd x by_)) ||| (if (x.2.testBit fr) = true then pw i else 0) : Nat) : Int)]) (by kernel_rfl) (by kernel_rfl) (by kernel_rfl) (by simp [oneV]) hOut (by simp) fun w46 hT47 hs48 hOut' => ?_)
        have hT0 := (hT0).then hT47 (fun c e => by have : c = w5.heap.size := e; omega)
        have hQ6 := hQ6.tch hT47 (fun e => by have : w.heap.size = w5.heap.size := e; omega)
        have hQ8 := hQ8.tch hT47 (fun e => by have : w1.heap.size = w5.heap.size := e; omega)
        replace hOut : Blk w46 w5.heap.size 104 [.int .u64 (((bval i (kmvk 10 wd x by_)) ||| pw i : Nat) : Int), .int .u64 (((bval i (kmvv 10 wd x by_)) ||| (if (x.2.testBit fr) = true then pw i else 0) : Nat) : Int)] := hOut'
        refine op_nil ?_
        refine zR ?_
        refine zS [(17, .int .i64 ((i : Nat) : Int)), (18, .int .i64 (IntKind.i64.wrap (((i : Nat) : Int) + 1)))] ?_
        rw [show IntKind.i64.wrap (((i : Nat) : Int) + 1) = ((i : Nat) : Int) + 1 from wrap_i64 (by omega) (by omega)]
        refine fixR (y := ((i + 1 : Nat) : Int)) (by omega) ?_
        refine zS [(10, .int .i64 ((i + 1 : Nat) : Int))] ?_
        refine op_nil ?_
        refine ⟨_, ?_, i + 1, _, updL_self (by kernel_rfl), ?_, hT0, hQ6, hQ8, (by rw [← bval_or i (kmvk 10 wd x by_) true (((kmvk10_at (show by_ < wd by omega) (show i + by_ < wd by omega) hfe).trans (by simp [hc19, hb20, hb29, hb30, hc31, hc41])).symm), ← bval_or i (kmvv 10 wd x by_) (x.2.testBit fr) (((kmvv10_at (show by_ < wd by omega) (show i + by_ < wd by omega) hfe).trans (by simp [hc19, hb20, hb29, hb30, hc31, hc41])).symm), if_pos rfl]; exact hOut), rfl⟩
        ·
         omega
        ·
         omega
       ·
        replace hc41 : x.1.testBit fr = false := (hc41)
        refine W_skip ?_
        refine zR ?_
        refine zS [(17, .int .i64 ((i : Nat) : Int)), (18, .int .i64 (IntKind.i64.wrap (((i : Nat) : Int) + 1)))] ?_
        rw [show IntKind.i64.wrap (((i : Nat) : Int) + 1) = ((i : Nat) : Int) + 1 from wrap_i64 (by omega) (by omega)]
        refine fixR (y := ((i + 1 : Nat) : Int)) (by omega) ?_
        refine zS [(10, .int .i64 ((i + 1 : Nat) : Int))] ?_
        refine op_nil ?_
        refine ⟨_, ?_, i + 1, _, updL_self (by kernel_rfl), ?_, hT0, hQ6, hQ8, (by rw [← bval_not (f := (kmvk 10 wd x by_)) ((kmvk10_at (show by_ < wd by omega) (show i + by_ < wd by omega) hfe).trans (by simp [hc19, hb20, hb29, hb30, hc31, hc41])), ← bval_not (f := (kmvv 10 wd x by_)) ((kmvv10_at (show by_ < wd by omega) (show i + by_ < wd by omega) hfe).trans (by simp [hc19, hb20, hb29, hb30, hc31, hc41]))]; exact hOut), rfl⟩
        ·
         omega
        ·
         omega
     ·
      replace hb30 : ((i : Nat) : Int) + ((by_ : Nat) : Int) < 0 := (of_decide_eq_true hb30)
      refine zS [(46, undef), (47, undef), (48, undef), (49, .bool true)] ?_
      refine zO true (fun _ => ?_) (fun h => nomatch h)
      refine zQ ?_
      refine st (by rfl) (S_val (v := .agg #[.int .u64 ((bval i (kmvk 10 wd x by_) : Nat) : Int), .int .u64 ((bval i (kmvv 10 wd x by_) : Nat) : Int)]) (R_loadA [.int .u64 ((bval i (kmvk 10 wd x by_) : Nat) : Int), .int .u64 ((bval i (kmvv 10 wd x by_) : Nat) : Int)] (by kernel_rfl) (by kernel_rfl) (by kernel_rfl) (fun k u hk => by rw [hOut.cell]; exact get_part _ 0 _ k u rfl hk)) ?_)
      refine zS [(51, .int .i64 ((i : Nat) : Int))] ?_
      refine zC (with_ok (bval i (kmvk 10 wd x by_)) (bval i (kmvv 10 wd x by_)) i false _ (by omega) (bval_u (by omega)) (bval_u (by omega))) ?_
      rintro _ w49 ⟨rfl, hT50⟩
      have hT0 := hT0.t0 hT50
      have hQ6 := hQ6.tch0 hT50
      have hQ8 := hQ8.tch0 hT50
      have hOut := hOut.tch0 hT50
      refine st (by rfl) (S_storeA (b := w5.heap.size) (j := 0) (cs := [.int .u64 (((bval i (kmvk 10 wd x by_)) ||| pw i : Nat) : Int), .int .u64 (((bval i (kmvv 10 wd x by_)) ||| (if false = true then pw i else 0) : Nat) : Int)]) (by kernel_rfl) (by kernel_rfl) (by kernel_rfl) (by simp [oneV]) hOut (by simp) fun w53 hT54 hs55 hOut' => ?_)
      have hT0 := (hT0).then hT54 (fun c e => by have : c = w5.heap.size := e; omega)
      have hQ6 := hQ6.tch hT54 (fun e => by have : w.heap.size = w5.heap.size := e; omega)
      have hQ8 := hQ8.tch hT54 (fun e => by have : w1.heap.size = w5.heap.size := e; omega)
      replace hOut : Blk w53 w5.heap.size 104 [.int .u64 (((bval i (kmvk 10 wd x by_)) ||| pw i : Nat) : Int), .int .u64 (((bval i (kmvv 10 wd x by_)) ||| (if false = true then pw i else 0) : Nat) : Int)] := hOut'
      refine op_nil ?_
      refine W_exit ?_
      refine X_hit ?_
      refine zR ?_
      refine zS [(17, .int .i64 ((i : Nat) : Int)), (18, .int .i64 (IntKind.i64.wrap (((i : Nat) : Int) + 1)))] ?_
      rw [show IntKind.i64.wrap (((i : Nat) : Int) + 1) = ((i : Nat) : Int) + 1 from wrap_i64 (by omega) (by omega)]
      refine fixR (y := ((i + 1 : Nat) : Int)) (by omega) ?_
      refine zS [(10, .int .i64 ((i + 1 : Nat) : Int))] ?_
      refine op_nil ?_
      refine ⟨_, ?_, i + 1, _, updL_self (by kernel_rfl), ?_, hT0, hQ6, hQ8, (by rw [← bval_or i (kmvk 10 wd x by_) true (((kmvk10_low (show by_ < wd by omega) (show wd ≤ i + by_ by omega)).trans (by simp [hc19, hb20, hb29, hb30])).symm), ← bval_or i (kmvv 10 wd x by_) false (((kmvv10_low (show wd ≤ i + by_ by omega)).trans (by simp [hc19, hb20, hb29, hb30])).symm), if_pos rfl]; exact hOut), rfl⟩
      ·
       omega
      ·
       omega
  ·
   replace hc19 : ((wd : Nat) : Int) ≤ ((i : Nat) : Int) := (Int.not_lt.1 (of_decide_eq_false hc19))
   refine W_exit ?_
   refine X_hit ?_
   refine zQ ?_
   refine st (by rfl) (S_val (v := .agg #[.int .u64 ((bval i (kmvk 10 wd x by_) : Nat) : Int), .int .u64 ((bval i (kmvv 10 wd x by_) : Nat) : Int)]) (R_loadA [.int .u64 ((bval i (kmvk 10 wd x by_) : Nat) : Int), .int .u64 ((bval i (kmvv 10 wd x by_) : Nat) : Int)] (by kernel_rfl) (by kernel_rfl) (by kernel_rfl) (fun k u hk => by rw [hOut.cell]; exact get_part _ 0 _ k u rfl hk)) ?_)
   refine st (by rfl) (S_storeA (b := w1.heap.size) (j := 0) (cs := [.int .u64 ((bval i (kmvk 10 wd x by_) : Nat) : Int), .int .u64 ((bval i (kmvv 10 wd x by_) : Nat) : Int)]) (by kernel_rfl) (by kernel_rfl) (by kernel_rfl) (by simp [oneV]) hQ8 (by simp) fun w56 hT57 hs58 hQ8' => ?_)
   have hT0 := (hT0).then hT57 (fun c e => by have : c = w1.heap.size := e; omega)
   have hQ6 := hQ6.tch hT57 (fun e => by have : w.heap.size = w1.heap.size := e; omega)
   have hOut := hOut.tch hT57 (fun e => by have : w5.heap.size = w1.heap.size := e; omega)
   replace hQ8 : Blk w56 w1.heap.size 104 [.int .u64 ((bval i (kmvk 10 wd x by_) : Nat) : Int), .int .u64 ((bval i (kmvv 10 wd x by_) : Nat) : Int)] := hQ8'
   refine op_nil ?_
   refine W_ret ?_
   exact ⟨_, Res_cell (b := w1.heap.size) (cs := [.int .u64 ((bval i (kmvk 10 wd x by_) : Nat) : Int), .int .u64 ((bval i (kmvv 10 wd x by_) : Nat) : Int)]) (by rfl) (by kernel_rfl) (by kernel_rfl) hQ8 (by kernel_rfl) (by kernel_rfl), ⟨by rw [show i = wd by omega]; rfl, hT0⟩⟩

set_option maxRecDepth 100000 in
theorem rpart_ok (W fr wide : Nat) (x : K) (ab is : Bool) (w : World) (hx : KI wide x) (hw : wide ≤ 64) (hl : fr + W ≤ 64) : Ret Try.prog 85 [.int .i64 ((W : Nat) : Int), .int .i64 ((fr : Nat) : Int), .int .i64 ((wide : Nat) : Int), .agg #[.int .u64 ((x.1 : Nat) : Int), .int .u64 ((x.2 : Nat) : Int)], .bool ab, .bool is] w fun v w' => v = .agg #[.int .u64 (((kpart W fr wide x ab is).1 : Nat) : Int), .int .u64 (((kpart W fr wide x ab is).2 : Nat) : Int)] ∧ Tch N0 w w' := by
 have ux1 := hx.u1 hw
 have ux2 := hx.u2 hw
 refine enter Try.func85 rfl rfl ?_
 refine zQ ?_
 refine st (by rfl) (S_new (v := .pointer (some ⟨w.heap.size, 0, none⟩)) (ob := .cells #[.int .u64 ((x.1 : Nat) : Int), .int .u64 ((x.2 : Nat) : Int)] 104) (by kernel_rfl) fun w1 hT2 hs3 hB4 => ?_)
 replace hB4 : Blk w1 (w.heap.size) 104 [.int .u64 ((x.1 : Nat) : Int), .int .u64 ((x.2 : Nat) : Int)] := hB4
 have hT0 := hT2
 have z9 := hT0.size
 have l10 := hB4.lt
 refine st (by rfl) (S_new (v := .pointer (some ⟨w1.heap.size, 0, none⟩)) (ob := .cells #[.int .u64 0, .int .u64 0] 104) (by kernel_rfl) fun w5 hT6 hs7 hB8 => ?_)
 replace hB8 : Blk w5 (w1.heap.size) 104 [.int .u64 0, .int .u64 0] := hB8
 have hT0 := hT0.t0 hT6
 have hB4 := hB4.tch0 hT6
 refine op_nil ?_
 refine zQ ?_
 have z15 := hT0.size
 have l16 := hB4.lt
 have l17 := hB8.lt
 refine st (by rfl) (S_new (v := .pointer (some ⟨w5.heap.size, 0, none⟩)) (ob := .cells #[.int .u64 0, .int .u64 0] 104) (by kernel_rfl) fun w11 hT12 hs13 hB14 => ?_)
 replace hB14 : Blk w11 (w5.heap.size) 104 [.int .u64 0, .int .u64 0] := hB14
 have hT0 := hT0.t0 hT12
 have hB4 := hB4.tch0 hT12
 have hB8 := hB8.tch0 hT12
 refine op_nil ?_
 refine W_seq ?_
 refine zQ ?_
 refine zS [(14, .int .i64 0)] ?_
 refine op_nil ?_
 refine W_block ?_
 refine W_loop (fun m ρ w' => ∃ (i : Nat) (ρ0 : Env), ρ = updL ρ0 [(0, .int .i64 ((W : Nat) : Int)), (1, .int .i64 ((fr : Nat) : Int)), (2, .int .i64 ((wide : Nat) : Int)), (3, .agg #[.int .u64 ((x.1 : Nat) : Int), .int .u64 ((x.2 : Nat) : Int)]), (4, .bool ab), (5, .bool is), (9, .pointer (some ⟨w.heap.size, 0, none⟩)), (12, .pointer (some ⟨w1.heap.size, 0, none⟩)), (13, .pointer (some ⟨w5.heap.size, 0, none⟩)), (14, .int .i64 ((i : Nat) : Int))] ∧ (i ≤ W) ∧ Tch N0 w w' ∧ Blk w' (w.heap.size) 104 [.int .u64 ((x.1 : Nat) : Int), .int .u64 ((x.2 : Nat) : Int)] ∧ Blk w' (w1.heap.size) 104 [.int .u64 0, .int .u64 0] ∧ Blk w' (w5.heap.size) 104 [.int .u64 ((bval i (kpk fr wide x ab) : Nat) : Int), .int .u64 ((bval i (kpv fr wide x ab is) : Nat) : Int)] ∧ m = W - i) (m := W - 0) ?_ ?_
 ·
  refine ⟨0, _, updL_self (by kernel_rfl), by omega, hT0, hB4, hB8, hB14, rfl⟩
 ·
  rintro m ρ w18 ⟨i, ρ, rfl, hi, hT0, hQ9, hQ12, hOut, rfl⟩
  refine W_seq ?_
  refine zQ ?_
  refine zS [(17, .int .i64 ((i : Nat) : Int)), (18, .int .i64 ((W : Nat) : Int)), (19, .bool (decide (((i : Nat) : Int) < ((W : Nat) : Int))))] ?_
  refine zO (decide (((i : Nat) : Int) < ((W : Nat) : Int))) (fun hc19 => ?_) (fun hc19 => ?_)
  ·
   replace hc19 : ((i : Nat) : Int) < ((W : Nat) : Int) := (of_decide_eq_true hc19)
   refine W_skip ?_
   refine W_seq ?_
   refine W_block ?_
   refine zQ ?_
   refine st (by rfl) (S_val (v := .agg #[.int .u64 ((x.1 : Nat) : Int), .int .u64 ((x.2 : Nat) : Int)]) (R_loadA [.int .u64 ((x.1 : Nat) : Int), .int .u64 ((x.2 : Nat) : Int)] (by kernel_rfl) (by kernel_rfl) (by kernel_rfl) (fun k u hk => by rw [hQ9.cell]; exact get_part _ 0 _ k u rfl hk)) ?_)
   refine zS [(24, .int .i64 ((fr : Nat) : Int)), (25, .int .i64 ((i : Nat) : Int)), (26, .int .i64 (IntKind.i64.wrap (((fr : Nat) : Int) + ((i : Nat) : Int))))] ?_
   rw [show IntKind.i64.wrap (((fr : Nat) : Int) + ((i : Nat) : Int)) = ((fr : Nat) : Int) + ((i : Nat) : Int) from wrap_i64 (by omega) (by omega)]
   refine fixR (y := ((fr + i : Nat) : Int)) (by omega) ?_
   refine zC (rbit2_ok x.1 x.2 (fr + i) _ (by omega) ux1 ux2) ?_
   rintro _ w20 ⟨rfl, hT21⟩
   have hT0 := hT0.t0 hT21
   have hQ9 := hQ9.tch0 hT21
   have hQ12 := hQ12.tch0 hT21
   have hOut := hOut.tch0 hT21
   refine zS [(22, .tuple #[.bool (x.1.testBit (fr + i)), .bool (x.2.testBit (fr + i))]), (28, .bool (x.1.testBit (fr + i))), (29, .bool (x.2.testBit (fr + i))), (15, .bool (x.1.testBit (fr + i))), (16, .bool (x.2.testBit (fr + i)))] ?_
   refine op_nil ?_
   refine W_seq ?_
   refine zQ ?_
   refine zS [(30, .int .i64 ((fr : Nat) : Int)), (31, .int .i64 ((i : Nat) : Int)), (32, .int .i64 (IntKind.i64.wrap (((fr : Nat) : Int) + ((i : Nat) : Int))))] ?_
   rw [show IntKind.i64.wrap (((fr : Nat) : Int) + ((i : Nat) : Int)) = ((fr : Nat) : Int) + ((i : Nat) : Int) from wrap_i64 (by omega) (by omega)]
   refine fixR (y := ((fr + i : Nat) : Int)) (by omega) ?_
   refine zS [(33, .int .i64 ((wide : Nat) : Int)), (34, .bool (decide (((fr + i : Nat) : Int) ≥ ((wide : Nat) : Int))))] ?_
   refine zO (decide (((fr + i : Nat) : Int) ≥ ((wide : Nat) : Int))) (fun hc22 => ?_) (fun hc22 => ?_)
   ·
    replace hc22 : ((wide : Nat) : Int) ≤ ((fr + i : Nat) : Int) := (of_decide_eq_true hc22)
    refine zQ ?_
    refine zS [(35, .bool ab), (15, .bool ab)] ?_
    refine op_nil ?_
    refine zR ?_
    refine zS [(36, .bool is), (16, .bool is)] ?_
    refine op_nil ?_
    refine zQ ?_
    refine zS [(37, .bool ab)] ?_
    refine zO (ab) (fun hc23 => ?_) (fun hc23 => ?_)
    ·
     replace hc23 : ab = true := (hc23)
     refine zR ?_
     refine st (by rfl) (S_val (v := .agg #[.int .u64 ((bval i (kpk fr wide x ab) : Nat) : Int), .int .u64 ((bval i (kpv fr wide x ab is) : Nat) : Int)]) (R_loadA [.int .u64 ((bval i (kpk fr wide x ab) : Nat) : Int), .int .u64 ((bval i (kpv fr wide x ab is) : Nat) : Int)] (by kernel_rfl) (by kernel_rfl) (by kernel_rfl) (fun k u hk => by rw [hOut.cell]; exact get_part _ 0 _ k u rfl hk)) ?_)
     refine zS [(39, .int .i64 ((i : Nat) : Int)), (40, .bool is)] ?_
     refine zC (with_ok (bval i (kpk fr wide x ab)) (bval i (kpv fr wide x ab is)) i is _ (by omega) (bval_u (by omega)) (bval_u (by omega))) ?_
     rintro _ w24 ⟨rfl, hT25⟩
     have hT0 := hT0.t0 hT25
     have hQ9 := hQ9.tch0 hT25
     have hQ12 := hQ12.tch0 hT25
     have hOut := hOut.tch0 hT25
     refine st (by rfl) (S_storeA (b := w5.heap.size) (j := 0) (cs := [.int .u64 (((bval i (kpk fr wide x ab)) ||| pw i : Nat) : Int), .int .u64 (((bval i (kpv fr wide x ab is)) ||| (if is = true then pw i else 0) : Nat) : Int)]) (by kernel_rfl) (by kernel_rfl) (by kernel_rfl) (by simp [oneV]) hOut (by simp) fun w28 hT29 hs30 hOut' => ?_)
     have hT0 := (hT0).then hT29 (fun c e => by have : c = w5.heap.size := e; omega)
     have hQ9 := hQ9.tch hT29 (fun e => by have : w.heap.size = w5.heap.size := e; omega)
     have hQ12 := hQ12.tch hT29 (fun e => by have : w1.heap.size = w5.heap.size := e; omega)
     replace hOut : Blk w28 w5.heap.size 104 [.int .u64 (((bval i (kpk fr wide x ab)) ||| pw i : Nat) : Int), .int .u64 (((bval i (kpv fr wide x ab is)) ||| (if is = true then pw i else 0) : Nat) : Int)] := hOut'
     refine op_nil ?_
     refine zR ?_
     refine zS [(20, .int .i64 ((i : Nat) : Int)), (21, .int .i64 (IntKind.i64.wrap (((i : Nat) : Int) + 1)))] ?_
     rw [show IntKind.i64.wrap (((i : Nat) : Int) + 1) = ((i : Nat) : Int) + 1 from wrap_i64 (by omega) (by omega)]
     refine fixR (y := ((i + 1 : Nat) : Int)) (by omega) ?_
     refine zS [(14, .int .i64 ((i + 1 : Nat) : Int))] ?_
     refine op_nil ?_
     refine ⟨_, ?_, i + 1, _, updL_self (by kernel_rfl), ?_, hT0, hQ9, hQ12, (by rw [← bval_or i (kpk fr wide x ab) true (((kpk_hi (show wide ≤ fr + i by omega)).trans (by simp [hc19, hc22, hc23])).symm), ← bval_or i (kpv fr wide x ab is) is (((kpv_hi (show wide ≤ fr + i by omega)).trans (by simp [hc19, hc22, hc23])).symm), if_pos rfl]; exact hOut), rfl⟩
     ·
      omega
     ·
      omega
    ·
     replace hc23 : ab = false := (hc23)
     refine W_skip ?_
     refine zR ?_
     refine zS [(20, .int .i64 ((i : Nat) : Int)), (21, .int .i64 (IntKind.i64.wrap (((i : Nat) : Int) + 1)))] ?_
     rw [show IntKind.i64.wrap (((i : Nat) : Int) + 1) = ((i : Nat) : Int) + 1 from wrap_i64 (by omega) (by omega)]
     refine fixR (y := ((i + 1 : Nat) : Int)) (by omega) ?_
     refine zS [(14, .int .i64 ((i + 1 : Nat) : Int))] ?_
     refine op_nil ?_
     refine ⟨_, ?_, i + 1, _, updL_self (by kernel_rfl), ?_, hT0, hQ9, hQ12, (by rw [← bval_not (f := (kpk fr wide x ab)) ((kpk_hi (show wide ≤ fr + i by omega)).trans (by simp [hc19, hc22, hc23])), ← bval_not (f := (kpv fr wide x ab is)) ((kpv_hi (show wide ≤ fr + i by omega)).trans (by simp [hc19, hc22, hc23]))]; exact hOut), rfl⟩
     ·
      omega
     ·
      omega
   ·
    replace hc22 : ((fr + i : Nat) : Int) < ((wide : Nat) : Int) := (Int.not_le.1 (of_decide_eq_false hc22))
    refine W_skip ?_
    refine zQ ?_
    refine zS [(37, .bool (x.1.testBit (fr + i)))] ?_
    refine zO (x.1.testBit (fr + i)) (fun hc31 => ?_) (fun hc31 => ?_)
    ·
     replace hc31 : x.1.testBit (fr + i) = true := (hc31)
     refine zR ?_
     refine st (by rfl) (S_val (v := .agg #[.int .u64 ((bval i (kpk fr wide x ab) : Nat) : Int), .int .u64 ((bval i (kpv fr wide x ab is) : Nat) : Int)]) (R_loadA [.int .u64 ((bval i (kpk fr wide x ab) : Nat) : Int), .int .u64 ((bval i (kpv fr wide x ab is) : Nat) : Int)] (by kernel_rfl) (by kernel_rfl) (by kernel_rfl) (fun k u hk => by rw [hOut.cell]; exact get_part _ 0 _ k u rfl hk)) ?_)
     refine zS [(39, .int .i64 ((i : Nat) : Int)), (40, .bool (x.2.testBit (fr + i)))] ?_
     refine zC (with_ok (bval i (kpk fr wide x ab)) (bval i (kpv fr wide x ab is)) i (x.2.testBit (fr + i)) _ (by omega) (bval_u (by omega)) (bval_u (by omega))) ?_
     rintro _ w32 ⟨rfl, hT33⟩
     have hT0 := hT0.t0 hT33
     have hQ9 := hQ9.tch0 hT33
     have hQ12 := hQ12.tch0 hT33
     have hOut := hOut.tch0 hT33
     refine st (by rfl) (S_storeA (b := w5.heap.size) (j := 0) (cs := [.int .u64 (((bval i (kpk fr wide x ab)) ||| pw i : Nat) : Int), .int .u64 (((bval i (kpv fr wide x ab is)) ||| (if (x.2.testBit (fr + i)) = true then pw i else 0) : Nat) : Int)]) (by kernel_rfl) (by kernel_rfl) (by kernel_rfl) (by simp [oneV]) hOut (by simp) fun w36 hT37 hs38 hOut' => ?_)
     have hT0 := (hT0).then hT37 (fun c e => by have : c = w5.heap.size := e; omega)
     have hQ9 := hQ9.tch hT37 (fun e => by have : w.heap.size = w5.heap.size := e; omega)
     have hQ12 := hQ12.tch hT37 (fun e => by have : w1.heap.size = w5.heap.size := e; omega)
     replace hOut : Blk w36 w5.heap.size 104 [.int .u64 (((bval i (kpk fr wide x ab)) ||| pw i : Nat) : Int), .int .u64 (((bval i (kpv fr wide x ab is)) ||| (if (x.2.testBit (fr + i)) = true then pw i else 0) : Nat) : Int)] := hOut'
     refine op_nil ?_
     refine zR ?_
     refine zS [(20, .int .i64 ((i : Nat) : Int)), (21, .int .i64 (IntKind.i64.wrap (((i : Nat) : Int) + 1)))] ?_
     rw [show IntKind.i64.wrap (((i : Nat) : Int) + 1) = ((i : Nat) : Int) + 1 from wrap_i64 (by omega) (by omega)]
     refine fixR (y := ((i + 1 : Nat) : Int)) (by omega) ?_
     refine zS [(14, .int .i64 ((i + 1 : Nat) : Int))] ?_
     refine op_nil ?_
     refine ⟨_, ?_, i + 1, _, updL_self (by kernel_rfl), ?_, hT0, hQ9, hQ12, (by rw [← bval_or i (kpk fr wide x ab) true (((kpk_lo (show fr + i < wide by omega)).trans (by simp [hc19, hc22, hc31])).symm), ← bval_or i (kpv fr wide x ab is) (x.2.testBit (fr + i)) (((kpv_lo (show fr + i < wide by omega)).trans (by simp [hc19, hc22, hc31])).symm), if_pos rfl]; exact hOut), rfl⟩
     ·
      omega
     ·
      omega
    ·
     replace hc31 : x.1.testBit (fr + i) = false := (hc31)
     refine W_skip ?_
     refine zR ?_
     refine zS [(20, .int .i64 ((i : Nat) : Int)), (21, .int .i64 (IntKind.i64.wrap (((i : Nat) : Int) + 1)))] ?_
     rw [show IntKind.i64.wrap (((i : Nat) : Int) + 1) = ((i : Nat) : Int) + 1 from wrap_i64 (by omega) (by omega)]
     refine fixR (y := ((i + 1 : Nat) : Int)) (by omega) ?_
     refine zS [(14, .int .i64 ((i + 1 : Nat) : Int))] ?_
     refine op_nil ?_
     refine ⟨_, ?_, i + 1, _, updL_self (by kernel_rfl), ?_, hT0, hQ9, hQ12, (by rw [← bval_not (f := (kpk fr wide x ab)) ((kpk_lo (show fr + i < wide by omega)).trans (by simp [hc19, hc22, hc31])), ← bval_not (f := (kpv fr wide x ab is)) ((kpv_lo (show fr + i < wide by omega)).trans (by simp [hc19, hc22, hc31]))]; exact hOut), rfl⟩
     ·
      omega
     ·
      omega
  ·
   replace hc19 : ((W : Nat) : Int) ≤ ((i : Nat) : Int) := (Int.not_lt.1 (of_decide_eq_false hc19))
   refine W_exit ?_
   refine X_hit ?_
   refine zQ ?_
   refine st (by rfl) (S_val (v := .agg #[.int .u64 ((bval i (kpk fr wide x ab) : Nat) : Int), .int .u64 ((bval i (kpv fr wide x ab is) : Nat) : Int)]) (R_loadA [.int .u64 ((bval i (kpk fr wide x ab) : Nat) : Int), .int .u64 ((bval i (kpv fr wide x ab is) : Nat) : Int)] (by kernel_rfl) (by kernel_rfl) (by kernel_rfl) (fun k u hk => by rw [hOut.cell]; exact get_part _ 0 _ k u rfl hk)) ?_)
   refine st (by rfl) (S_storeA (b := w1.heap.size) (j := 0) (cs := [.int .u64 ((bval i (kpk fr wide x ab) : Nat) : Int), .int .u64 ((bval i (kpv fr wide x ab is) : Nat) : Int)]) (by kernel_rfl) (by kernel_rfl) (by kernel_rfl) (by simp [oneV]) hQ12 (by simp) fun w39 hT40 hs41 hQ12' => ?_)
   have hT0 := (hT0).then hT40 (fun c e => by have : c = w1.heap.size := e; omega)
   have hQ9 := hQ9.tch hT40 (fun e => by have : w.heap.size = w1.heap.size := e; omega)
   have hOut := hOut.tch hT40 (fun e => by have : w5.heap.size = w1.heap.size := e; omega)
   replace hQ12 : Blk w39 w1.heap.size 104 [.int .u64 ((bval i (kpk fr wide x ab) : Nat) : Int), .int .u64 ((bval i (kpv fr wide x ab is) : Nat) : Int)] := hQ12'
   refine op_nil ?_
   refine W_ret ?_
   exact ⟨_, Res_cell (b := w1.heap.size) (cs := [.int .u64 ((bval i (kpk fr wide x ab) : Nat) : Int), .int .u64 ((bval i (kpv fr wide x ab is) : Nat) : Int)]) (by rfl) (by kernel_rfl) (by kernel_rfl) hQ12 (by kernel_rfl) (by kernel_rfl), ⟨by rw [show i = W by omega]; rfl, hT0⟩⟩

end Go.Proofs.YtlbadnpgmkobdaaV
