/- Walks of functions of the program and of the document's texts. The conditions stand with each theorem. -/
import Derived.Test.YtlbadnpgmkobdaaJKkbit56x1
import Derived.Test.YtlbadnpgmkobdaaJKkbit56x1
import Derived.Test.YtlbadnpgmkobdaaProg
import Derived.Test.YtlbadnpgmkobdaaJKkbit56x6
import Derived.Test.YtlbadnpgmkobdaaJKkbit56x4
set_option linter.unusedVariables false
set_option linter.unusedSimpArgs false
namespace Go.Proofs.YtlbadnpgmkobdaaV
open Go Go.RowKit Go.Proofs

theorem rmask_okN (x : Nat) (w : World) (h : x ≤ 64) : Ret Try.prog 30 [.int .i64 ((x : Nat) : Int)] w fun v w' => v = .int .u64 ((pw x - 1 : Nat) : Int) ∧ Tch N0 w w' := by
 rw [← mask_nat h]; exact rmask_ok _ w

set_option maxRecDepth 100000 in
theorem rBit_ok (x i : Nat) (w : World) (hi : i < 64) (hx : x < 18446744073709551616) : Ret Try.prog 94 [.int .u64 ((x : Nat) : Int), .int .i64 ((i : Nat) : Int)] w fun v w' => v = .bool (x.testBit i) ∧ Tch N0 w w' := by
 refine enter Try.func94 rfl rfl ?_
 refine zQ ?_
 refine zS [(4, .bool false)] ?_
 refine op_nil ?_
 refine zQ ?_
 refine zS [(5, .int .i64 ((i : Nat) : Int)), (6, .bool (decide (((i : Nat) : Int) ≥ 0))), (7, .bool (decide (((i : Nat) : Int) ≥ 0)))] ?_
 cases hb1 : decide (((i : Nat) : Int) ≥ 0)
 ·
  replace hb1 : ((i : Nat) : Int) < 0 := (Int.not_le.1 (of_decide_eq_false hb1))
  exfalso; omega
 ·
  replace hb1 : 0 ≤ ((i : Nat) : Int) := (of_decide_eq_true hb1)
  refine zS [(8, .int .i64 ((i : Nat) : Int)), (9, .bool (decide (((i : Nat) : Int) < 64))), (10, .bool (decide (((i : Nat) : Int) < 64))), (11, .bool (decide (((i : Nat) : Int) < 64)))] ?_
  cases hb2 : decide (((i : Nat) : Int) < 64)
  ·
   replace hb2 : 64 ≤ ((i : Nat) : Int) := (Int.not_lt.1 (of_decide_eq_false hb2))
   exfalso; omega
  ·
   replace hb2 : ((i : Nat) : Int) < 64 := (of_decide_eq_true hb2)
   refine zS [(12, .int .u64 ((x : Nat) : Int)), (13, .int .i64 ((i : Nat) : Int)), (14, .int .u64 (IntKind.u64.wrap ((i : Nat) : Int)))] ?_
   rw [show IntKind.u64.wrap ((i : Nat) : Int) = ((i : Nat) : Int) from wrap_u64 (by omega) (by omega)]
   refine stv (v := .int .u64 ((x / pw i : Nat) : Int)) (by kernel_rfl) (R_shrP (k2 := .u64) x i (by kernel_rfl) (by kernel_rfl) (by omega)) ?_
   have hu3 : x / pw i < 18446744073709551616 := div_lt64 hx
   refine stv (v := .int .u64 (((x / pw i) % 2 : Nat) : Int)) (by kernel_rfl) (R_remN (by kernel_rfl) (by kernel_rfl) (by omega)) ?_
   have hu4 : (x / pw i) % 2 < 18446744073709551616 := rem_lt64 hu3
   refine zS [(17, .bool ((((x / pw i) % 2 : Nat) : Int) == 1)), (18, .bool ((((x / pw i) % 2 : Nat) : Int) == 1)), (4, .bool ((((x / pw i) % 2 : Nat) : Int) == 1))] ?_
   refine op_nil ?_
   refine W_ret ?_
   exact ⟨_, Res_of (v := .bool ((((x / pw i) % 2 : Nat) : Int) == 1)) (by kernel_rfl), ⟨congrArg Value.bool (bit_eqN x i), Tch.refl _ _⟩⟩

set_option maxRecDepth 100000 in
theorem rbit2_ok (a b i : Nat) (w : World) (hi : i < 64) (ha : a < 18446744073709551616) (hb : b < 18446744073709551616) : Ret Try.prog 83 [.agg #[.int .u64 ((a : Nat) : Int), .int .u64 ((b : Nat) : Int)], .int .i64 ((i : Nat) : Int)] w fun v w' => v = .tuple #[.bool (a.testBit i), .bool (b.testBit i)] ∧ Tch N0 w w' := by
 refine enter Try.func83 rfl rfl ?_
 refine zQ ?_
 refine st (by rfl) (S_new (v := .pointer (some ⟨w.heap.size, 0, none⟩)) (ob := .cells #[.int .u64 ((a : Nat) : Int), .int .u64 ((b : Nat) : Int)] 104) (by kernel_rfl) fun w1 hT2 hs3 hB4 => ?_)
 replace hB4 : Blk w1 (w.heap.size) 104 [.int .u64 ((a : Nat) : Int), .int .u64 ((b : Nat) : Int)] := hB4
 have hT0 := hT2
 refine zS [(4, .bool false), (5, .bool false)] ?_
 refine op_nil ?_
 refine W_seq ?_
 refine W_draw (fun w' => Blk w' (w.heap.size) 104 [.int .u64 ((a : Nat) : Int), .int .u64 ((b : Nat) : Int)]) (by kernel_rfl) (by kernel_rfl) (by kernel_rfl) fun w5 hT6 hh7 => ?_
 have hT0 := hT0.t0 hT6
 have hB4 := hB4.tch0 hT6
 refine zK [0, 2, 4, 6] #[true, false, true, false, true, false, true, false, false, false] [(6, .pointer (some ⟨w.heap.size, 0, none⟩)), (8, .int .i64 ((i : Nat) : Int)), (10, .pointer (some ⟨w.heap.size, 1, none⟩)), (12, .int .i64 ((i : Nat) : Int))] hB4 ?_
 refine zV 1 rfl (.int .u64 ((a : Nat) : Int)) (fun _ hB4 => R_load (v := .int .u64 ((a : Nat) : Int)) (by kernel_rfl) (by kernel_rfl) ((hB4.cell 0).trans rfl)) hB4 ?_
 refine zV 5 rfl (.int .u64 ((b : Nat) : Int)) (fun _ hB4 => R_load (v := .int .u64 ((b : Nat) : Int)) (by kernel_rfl) (by kernel_rfl) ((hB4.cell 1).trans rfl)) hB4 ?_
 refine zD 3 rfl (S_call (args := [.int .u64 ((a : Nat) : Int), .int .i64 ((i : Nat) : Int)]) (by kernel_rfl) (rBit_ok a i _ (by omega) ha) ?_)
 rintro _ w8 ⟨rfl, hT9⟩
 have hT0 := hT0.t0 hT9
 have hB4 := hB4.tch0 hT9
 refine ⟨hB4, ?_⟩
 refine zD 7 rfl (S_call (args := [.int .u64 ((b : Nat) : Int), .int .i64 ((i : Nat) : Int)]) (by kernel_rfl) (rBit_ok b i _ (by omega) hb) ?_)
 rintro _ w10 ⟨rfl, hT11⟩
 have hT0 := hT0.t0 hT11
 have hB4 := hB4.tch0 hT11
 refine ⟨hB4, ?_⟩
 refine zK [8, 9] #[true, true, true, true, true, true, true, true, true, true] [(4, .bool (a.testBit i)), (5, .bool (b.testBit i))] hB4 ?_
 refine d_done (by kernel_rfl) ?_
 refine W_ret ?_
 exact ⟨_, Res_of (v := .tuple #[.bool (a.testBit i), .bool (b.testBit i)]) (by kernel_rfl), ⟨rfl, hT0⟩⟩

set_option maxRecDepth 100000 in
theorem with_ok (a b i : Nat) (is : Bool) (w : World) (hi : i < 64) (ha : a < 18446744073709551616) (hb : b < 18446744073709551616) : Ret Try.prog 102 [.agg #[.int .u64 ((a : Nat) : Int), .int .u64 ((b : Nat) : Int)], .int .i64 ((i : Nat) : Int), .bool is] w fun v w' => v = .agg #[.int .u64 ((a ||| pw i : Nat) : Int), .int .u64 ((b ||| (if is = true then pw i else 0) : Nat) : Int)] ∧ Tch N0 w w' := by
 refine enter Try.func102 rfl rfl ?_
 refine zQ ?_
 refine st (by rfl) (S_new (v := .pointer (some ⟨w.heap.size, 0, none⟩)) (ob := .cells #[.int .u64 ((a : Nat) : Int), .int .u64 ((b : Nat) : Int)] 104) (by kernel_rfl) fun w1 hT2 hs3 hB4 => ?_)
 replace hB4 : Blk w1 (w.heap.size) 104 [.int .u64 ((a : Nat) : Int), .int .u64 ((b : Nat) : Int)] := hB4
 have hT0 := hT2
 have z9 := hT0.size
 have l10 := hB4.lt
 refine st (by rfl) (S_new (v := .pointer (some ⟨w1.heap.size, 0, none⟩)) (ob := .cells #[.int .u64 0, .int .u64 0] 104) (by kernel_rfl) fun w5 hT6 hs7 hB8 => ?_)
 replace hB8 : Blk w5 (w1.heap.size) 104 [.int .u64 0, .int .u64 0] := hB8
 have hT0 := hT0.t0 hT6
 have hB4 := hB4.tch0 hT6
 refine op_nil ?_
 refine zQ ?_
 refine zS [(7, .pointer (some ⟨w.heap.size, 0, none⟩))] ?_
 refine zL (.int .u64 ((a : Nat) : Int)) ((hB4.cell 0).trans rfl) ?_
 refine zS [(9, .int .i64 ((i : Nat) : Int)), (10, .int .u64 (IntKind.u64.wrap ((i : Nat) : Int)))] ?_
 rw [show IntKind.u64.wrap ((i : Nat) : Int) = ((i : Nat) : Int) from wrap_u64 (by omega) (by omega)]
 refine stv (v := .int .u64 ((pw i : Nat) : Int)) (by rfl) (R_shl1 (k2 := .u64) i (by kernel_rfl) (by kernel_rfl) (by omega)) ?_
 have hu11 : pw i < 18446744073709551616 := (by have := pw_u64 (i := i) (by omega); omega)
 refine zS [(12, .int .u64 (IntKind.u64.wrap (BitVec.ofInt 64 ((a : Nat) : Int) ||| BitVec.ofInt 64 ((pw i : Nat) : Int)).toNat))] ?_
 rw [show IntKind.u64.wrap (BitVec.ofInt 64 ((a : Nat) : Int) ||| BitVec.ofInt 64 ((pw i : Nat) : Int)).toNat = ((a ||| (pw i) : Nat) : Int) from or_u a (pw i) ha hu11]
 have hu12 : a ||| (pw i) < 18446744073709551616 := or_lt ha hu11
 refine zS [(13, .pointer (some ⟨w.heap.size, 0, none⟩))] ?_
 refine st (by rfl) (S_store (b := w.heap.size) (j := 0) (v := .int .u64 ((a ||| (pw i) : Nat) : Int)) (by kernel_rfl) (by kernel_rfl) (by kernel_rfl) (by rfl) hB4 (by simp) fun w13 hT14 hs15 hB4' => ?_)
 have hT0 := (hT0).then hT14 (fun c e => by have : c = w.heap.size := e; omega)
 have hB8 := hB8.tch hT14 (fun e => by have : w1.heap.size = w.heap.size := e; omega)
 replace hB4 : Blk w13 w.heap.size 104 [.int .u64 ((a ||| (pw i) : Nat) : Int), .int .u64 ((b : Nat) : Int)] := hB4'
 refine op_nil ?_
 refine W_seq ?_
 refine W_seq ?_
 refine zF [(0, .agg #[.int .u64 ((a : Nat) : Int), .int .u64 ((b : Nat) : Int)]), (1, .int .i64 ((i : Nat) : Int)), (2, .bool is), (3, .pointer (some ⟨w.heap.size, 0, none⟩)), (6, .pointer (some ⟨w1.heap.size, 0, none⟩))] fun ρ => ?_
 refine zR ?_
 refine zS [(14, .bool is)] ?_
 refine zO (is) (fun hc16 => ?_) (fun hc16 => ?_)
 ·
  replace hc16 : is = true := (hc16)
  refine zR ?_
  refine zS [(15, .pointer (some ⟨w.heap.size, 1, none⟩))] ?_
  refine zL (.int .u64 ((b : Nat) : Int)) ((hB4.cell 1).trans rfl) ?_
  refine zS [(17, .int .i64 ((i : Nat) : Int)), (18, .int .u64 (IntKind.u64.wrap ((i : Nat) : Int)))] ?_
  rw [show IntKind.u64.wrap ((i : Nat) : Int) = ((i : Nat) : Int) from wrap_u64 (by omega) (by omega)]
  refine stv (v := .int .u64 ((pw i : Nat) : Int)) (by rfl) (R_shl1 (k2 := .u64) i (by kernel_rfl) (by kernel_rfl) (by omega)) ?_
  have hu17 : pw i < 18446744073709551616 := (by have := pw_u64 (i := i) (by omega); omega)
  refine zS [(20, .int .u64 (IntKind.u64.wrap (BitVec.ofInt 64 ((b : Nat) : Int) ||| BitVec.ofInt 64 ((pw i : Nat) : Int)).toNat))] ?_
  rw [show IntKind.u64.wrap (BitVec.ofInt 64 ((b : Nat) : Int) ||| BitVec.ofInt 64 ((pw i : Nat) : Int)).toNat = ((b ||| (pw i) : Nat) : Int) from or_u b (pw i) hb hu17]
  have hu18 : b ||| (pw i) < 18446744073709551616 := or_lt hb hu17
  refine zS [(21, .pointer (some ⟨w.heap.size, 1, none⟩))] ?_
  refine st (by rfl) (S_store (b := w.heap.size) (j := 1) (v := .int .u64 ((b ||| (pw i) : Nat) : Int)) (by kernel_rfl) (by kernel_rfl) (by kernel_rfl) (by rfl) hB4 (by simp) fun w19 hT20 hs21 hB4' => ?_)
  have hT0 := (hT0).then hT20 (fun c e => by have : c = w.heap.size := e; omega)
  have hB8 := hB8.tch hT20 (fun e => by have : w1.heap.size = w.heap.size := e; omega)
  replace hB4 : Blk w19 w.heap.size 104 [.int .u64 ((a ||| (pw i) : Nat) : Int), .int .u64 ((b ||| (pw i) : Nat) : Int)] := hB4'
  refine op_nil ?_
  refine W_seq ?_
  refine zF [(0, .agg #[.int .u64 ((a : Nat) : Int), .int .u64 ((b : Nat) : Int)]), (1, .int .i64 ((i : Nat) : Int)), (2, .bool is), (3, .pointer (some ⟨w.heap.size, 0, none⟩)), (6, .pointer (some ⟨w1.heap.size, 0, none⟩)), (14, .bool is)] fun ρ => ?_
  refine zR ?_
  refine st (by rfl) (S_val (v := .agg #[.int .u64 ((a ||| (pw i) : Nat) : Int), .int .u64 ((b ||| (pw i) : Nat) : Int)]) (R_loadA [.int .u64 ((a ||| (pw i) : Nat) : Int), .int .u64 ((b ||| (pw i) : Nat) : Int)] (by kernel_rfl) (by kernel_rfl) (by kernel_rfl) (fun k u hk => by rw [hB4.cell]; exact get_part _ 0 _ k u rfl hk)) ?_)
  refine st (by rfl) (S_storeA (b := w1.heap.size) (j := 0) (cs := [.int .u64 ((a ||| (pw i) : Nat) : Int), .int .u64 ((b ||| (pw i) : Nat) : Int)]) (by kernel_rfl) (by kernel_rfl) (by kernel_rfl) (by simp [oneV]) hB8 (by simp) fun w22 hT23 hs24 hB8' => ?_)
  have hT0 := (hT0).then hT23 (fun c e => by have : c = w1.heap.size := e; omega)
  have hB4 := hB4.tch hT23 (fun e => by have : w.heap.size = w1.heap.size := e; omega)
  replace hB8 : Blk w22 w1.heap.size 104 [.int .u64 ((a ||| (pw i) : Nat) : Int), .int .u64 ((b ||| (pw i) : Nat) : Int)] := hB8'
  refine op_nil ?_
  refine W_ret ?_
  exact ⟨_, Res_cell (b := w1.heap.size) (cs := [.int .u64 ((a ||| (pw i) : Nat) : Int), .int .u64 ((b ||| (pw i) : Nat) : Int)]) (by rfl) (by kernel_rfl) (by kernel_rfl) hB8 (by kernel_rfl) (by kernel_rfl), ⟨by simp [*], hT0⟩⟩
 ·
  replace hc16 : is = false := (hc16)
  refine W_skip ?_
  refine zQ ?_
  refine st (by rfl) (S_val (v := .agg #[.int .u64 ((a ||| (pw i) : Nat) : Int), .int .u64 ((b : Nat) : Int)]) (R_loadA [.int .u64 ((a ||| (pw i) : Nat) : Int), .int .u64 ((b : Nat) : Int)] (by kernel_rfl) (by kernel_rfl) (by kernel_rfl) (fun k u hk => by rw [hB4.cell]; exact get_part _ 0 _ k u rfl hk)) ?_)
  refine st (by rfl) (S_storeA (b := w1.heap.size) (j := 0) (cs := [.int .u64 ((a ||| (pw i) : Nat) : Int), .int .u64 ((b : Nat) : Int)]) (by kernel_rfl) (by kernel_rfl) (by kernel_rfl) (by simp [oneV]) hB8 (by simp) fun w25 hT26 hs27 hB8' => ?_)
  have hT0 := (hT0).then hT26 (fun c e => by have : c = w1.heap.size := e; omega)
  have hB4 := hB4.tch hT26 (fun e => by have : w.heap.size = w1.heap.size := e; omega)
  replace hB8 : Blk w25 w1.heap.size 104 [.int .u64 ((a ||| (pw i) : Nat) : Int), .int .u64 ((b : Nat) : Int)] := hB8'
  refine op_nil ?_
  refine W_ret ?_
  exact ⟨_, Res_cell (b := w1.heap.size) (cs := [.int .u64 ((a ||| (pw i) : Nat) : Int), .int .u64 ((b : Nat) : Int)]) (by rfl) (by kernel_rfl) (by kernel_rfl) hB8 (by kernel_rfl) (by kernel_rfl), ⟨by simp [*], hT0⟩⟩

set_option maxRecDepth 100000 in
theorem rgate6_ok (wd : Nat) (x y : K)  (w : World) (hx : KI wd x) (hy : KI wd y) (hw : wd ≤ 64) : Ret Try.prog 103 [.int .i64 6, .int .i64 ((wd : Nat) : Int), .agg #[.int .u64 ((x.1 : Nat) : Int), .int .u64 ((x.2 : Nat) : Int)], .agg #[.int .u64 ((y.1 : Nat) : Int), .int .u64 ((y.2 : Nat) : Int)]] w fun v w' => v = .agg #[.int .u64 (((kgate 6 wd x y).1 : Nat) : Int), .int .u64 (((kgate 6 wd x y).2 : Nat) : Int)] ∧ Tch N0 w w' := by
 have ux1 := hx.u1 hw
 have ux2 := hx.u2 hw
 have uy1 := hy.u1 hw
 have uy2 := hy.u2 hw
 refine enter Try.func103 rfl rfl ?_
 refine zQ ?_
 refine st (by rfl) (S_new (v := .pointer (some ⟨w.heap.size, 0, none⟩)) (ob := .cells #[.int .u64 ((x.1 : Nat) : Int), .int .u64 ((x.2 : Nat) : Int)] 104) (by kernel_rfl) fun w1 hT2 hs3 hB4 => ?_)
 replace hB4 : Blk w1 (w.heap.size) 104 [.int .u64 ((x.1 : Nat) : Int), .int .u64 ((x.2 : Nat) : Int)] := hB4
 have hT0 := hT2
 have z9 := hT0.size
 have l10 := hB4.lt
 refine st (by rfl) (S_new (v := .pointer (some ⟨w1.heap.size, 0, none⟩)) (ob := .cells #[.int .u64 ((y.1 : Nat) : Int), .int .u64 ((y.2 : Nat) : Int)] 104) (by kernel_rfl) fun w5 hT6 hs7 hB8 => ?_)
 replace hB8 : Blk w5 (w1.heap.size) 104 [.int .u64 ((y.1 : Nat) : Int), .int .u64 ((y.2 : Nat) : Int)] := hB8
 have hT0 := hT0.t0 hT6
 have hB4 := hB4.tch0 hT6
 have z15 := hT0.size
 have l16 := hB4.lt
 have l17 := hB8.lt
 refine st (by rfl) (S_new (v := .pointer (some ⟨w5.heap.size, 0, none⟩)) (ob := .cells #[.int .u64 0, .int .u64 0] 104) (by kernel_rfl) fun w11 hT12 hs13 hB14 => ?_)
 replace hB14 : Blk w11 (w5.heap.size) 104 [.int .u64 0, .int .u64 0] := hB14
 have hT0 := hT0.t0 hT12
 have hB4 := hB4.tch0 hT12
 have hB8 := hB8.tch0 hT12
 refine op_nil ?_
 refine zQ ?_
 have z22 := hT0.size
 have l23 := hB4.lt
 have l24 := hB8.lt
 have l25 := hB14.lt
 refine st (by rfl) (S_new (v := .pointer (some ⟨w11.heap.size, 0, none⟩)) (ob := .cells #[.int .u64 0, .int .u64 0] 104) (by kernel_rfl) fun w18 hT19 hs20 hB21 => ?_)
 replace hB21 : Blk w18 (w11.heap.size) 104 [.int .u64 0, .int .u64 0] := hB21
 have hT0 := hT0.t0 hT19
 have hB4 := hB4.tch0 hT19
 have hB8 := hB8.tch0 hT19
 have hB14 := hB14.tch0 hT19
 refine op_nil ?_
 refine W_seq ?_
 refine zQ ?_
 refine zS [(10, .int .i64 0)] ?_
 refine op_nil ?_
 refine W_block ?_
 refine W_loop (fun m ρ w' => ∃ (i : Nat) (ρ0 : Env), ρ = updL ρ0 [(0, .int .i64 6), (1, .int .i64 ((wd : Nat) : Int)), (2, .agg #[.int .u64 ((x.1 : Nat) : Int), .int .u64 ((x.2 : Nat) : Int)]), (3, .agg #[.int .u64 ((y.1 : Nat) : Int), .int .u64 ((y.2 : Nat) : Int)]), (6, .pointer (some ⟨w.heap.size, 0, none⟩)), (7, .pointer (some ⟨w1.heap.size, 0, none⟩)), (8, .pointer (some ⟨w5.heap.size, 0, none⟩)), (9, .pointer (some ⟨w11.heap.size, 0, none⟩)), (10, .int .i64 ((i : Nat) : Int))] ∧ (i ≤ wd) ∧ Tch N0 w w' ∧ Blk w' (w.heap.size) 104 [.int .u64 ((x.1 : Nat) : Int), .int .u64 ((x.2 : Nat) : Int)] ∧ Blk w' (w1.heap.size) 104 [.int .u64 ((y.1 : Nat) : Int), .int .u64 ((y.2 : Nat) : Int)] ∧ Blk w' (w5.heap.size) 104 [.int .u64 0, .int .u64 0] ∧ Blk w' (w11.heap.size) 104 [.int .u64 ((bval i (gk 6 x y) : Nat) : Int), .int .u64 ((bval i (gv 6 x y) : Nat) : Int)] ∧ m = wd - i) (m := wd - 0) ?_ ?_
 ·
  refine ⟨0, _, updL_self (by kernel_rfl), by omega, hT0, hB4, hB8, hB14, hB21, rfl⟩
 ·
  rintro m ρ w26 ⟨i, ρ, rfl, hi, hT0, hQ6, hQ7, hQ8, hOut, rfl⟩
  refine W_seq ?_
  refine zQ ?_
  refine zS [(15, .int .i64 ((i : Nat) : Int)), (16, .int .i64 ((wd : Nat) : Int)), (17, .bool (decide (((i : Nat) : Int) < ((wd : Nat) : Int))))] ?_
  refine zO (decide (((i : Nat) : Int) < ((wd : Nat) : Int))) (fun hc27 => ?_) (fun hc27 => ?_)
  ·
   replace hc27 : ((i : Nat) : Int) < ((wd : Nat) : Int) := (of_decide_eq_true hc27)
   refine W_skip ?_
   refine W_seq ?_
   refine W_block ?_
   refine zQ ?_
   refine st (by rfl) (S_val (v := .agg #[.int .u64 ((x.1 : Nat) : Int), .int .u64 ((x.2 : Nat) : Int)]) (R_loadA [.int .u64 ((x.1 : Nat) : Int), .int .u64 ((x.2 : Nat) : Int)] (by kernel_rfl) (by kernel_rfl) (by kernel_rfl) (fun k u hk => by rw [hQ6.cell]; exact get_part _ 0 _ k u rfl hk)) ?_)
   refine zS [(22, .int .i64 ((i : Nat) : Int))] ?_
   refine zC (rbit2_ok x.1 x.2 i _ (by omega) ux1 ux2) ?_
   rintro _ w28 ⟨rfl, hT29⟩
   have hT0 := hT0.t0 hT29
   have hQ6 := hQ6.tch0 hT29
   have hQ7 := hQ7.tch0 hT29
   have hQ8 := hQ8.tch0 hT29
   have hOut := hOut.tch0 hT29
   refine zS [(20, .tuple #[.bool (x.1.testBit i), .bool (x.2.testBit i)]), (24, .bool (x.1.testBit i)), (25, .bool (x.2.testBit i)), (11, .bool (x.1.testBit i)), (12, .bool (x.2.testBit i))] ?_
   refine op_nil ?_
   refine zQ ?_
   refine st (by rfl) (S_val (v := .agg #[.int .u64 ((y.1 : Nat) : Int), .int .u64 ((y.2 : Nat) : Int)]) (R_loadA [.int .u64 ((y.1 : Nat) : Int), .int .u64 ((y.2 : Nat) : Int)] (by kernel_rfl) (by kernel_rfl) (by kernel_rfl) (fun k u hk => by rw [hQ7.cell]; exact get_part _ 0 _ k u rfl hk)) ?_)
   refine zS [(28, .int .i64 ((i : Nat) : Int))] ?_
   refine zC (rbit2_ok y.1 y.2 i _ (by omega) uy1 uy2) ?_
   rintro _ w30 ⟨rfl, hT31⟩
   have hT0 := hT0.t0 hT31
   have hQ6 := hQ6.tch0 hT31
   have hQ7 := hQ7.tch0 hT31
   have hQ8 := hQ8.tch0 hT31
   have hOut := hOut.tch0 hT31
   refine zS [(26, .tuple #[.bool (y.1.testBit i), .bool (y.2.testBit i)]), (30, .bool (y.1.testBit i)), (31, .bool (y.2.testBit i)), (13, .bool (y.1.testBit i)), (14, .bool (y.2.testBit i))] ?_
   refine op_nil ?_
   refine W_block ?_
   refine zQ ?_
   refine zS [(33, .int .i64 6), (34, .bool true), (35, .bool true), (36, .bool (x.1.testBit i)), (37, .bool (x.1.testBit i))] ?_
   cases hb32 : x.1.testBit i
   ·
    replace hb32 : x.1.testBit i = false := (hb32)
    refine zS [(38, undef), (39, undef), (40, .bool false), (41, .bool false), (42, .bool (y.1.testBit i)), (43, .bool (y.1.testBit i))] ?_
    cases hb33 : y.1.testBit i
    ·
     replace hb33 : y.1.testBit i = false := (hb33)
     refine zS [(44, undef), (45, undef), (46, .bool false), (47, .bool false), (48, .bool false), (32, .bool false)] ?_
     refine zO false (fun h => nomatch h) (fun _ => ?_)
     refine zQ ?_
     refine zS [(53, .int .i64 6), (54, .bool false), (55, .bool false), (56, undef), (57, undef), (58, undef), (59, undef), (60, undef), (61, undef), (62, undef), (63, undef), (64, undef), (65, undef), (66, .bool false), (52, .bool false)] ?_
     refine zO false (fun h => nomatch h) (fun _ => ?_)
     refine zQ ?_
     refine zS [(71, .bool false), (72, .bool false), (73, undef), (74, .bool false), (75, .bool false), (76, undef), (77, undef), (78, .bool false), (70, .bool false)] ?_
     refine zO false (fun h => nomatch h) (fun _ => ?_)
     refine zQ ?_
     refine zS [(87, .bool false), (88, .bool false), (89, undef), (90, .bool false), (91, .bool false), (92, undef), (93, undef), (94, .bool false), (86, .bool false)] ?_
     refine zO false (fun h => nomatch h) (fun _ => ?_)
     refine zQ ?_
     refine zS [(103, .bool false), (104, .bool false), (105, undef), (106, .bool false), (102, .bool false)] ?_
     refine zO false (fun h => nomatch h) (fun _ => ?_)
     refine W_skip ?_
     refine zR ?_
     refine zS [(18, .int .i64 ((i : Nat) : Int)), (19, .int .i64 (IntKind.i64.wrap (((i : Nat) : Int) + 1)))] ?_
     rw [show IntKind.i64.wrap (((i : Nat) : Int) + 1) = ((i : Nat) : Int) + 1 from wrap_i64 (by omega) (by omega)]
     refine fixR (y := ((i + 1 : Nat) : Int)) (by omega) ?_
     refine zS [(10, .int .i64 ((i + 1 : Nat) : Int))] ?_
     refine op_nil ?_
     refine ⟨_, ?_, i + 1, _, updL_self (by kernel_rfl), ?_, hT0, hQ6, hQ7, hQ8, (by rw [← bval_not (f := (gk 6 x y)) (by simp [gk, gv, bne, hc27, hb32, hb33]), ← bval_not (f := (gv 6 x y)) (by simp [gk, gv, bne, hc27, hb32, hb33])]; exact hOut), rfl⟩
     ·
      omega
     ·
      omega
    ·
     replace hb33 : y.1.testBit i = true := (hb33)
     refine zS [(44, .bool (y.2.testBit i)), (45, .bool (!(y.2.testBit i))), (46, .bool (!(y.2.testBit i))), (47, .bool (!(y.2.testBit i))), (48, .bool (!(y.2.testBit i))), (32, .bool (!(y.2.testBit i)))] ?_
     refine zO (!(y.2.testBit i)) (fun hc34 => ?_) (fun hc34 => ?_)
     ·
      replace hc34 : y.2.testBit i = false := ((not_t hc34))
      refine zR ?_
      refine st (by rfl) (S_val (v := .agg #[.int .u64 ((bval i (gk 6 x y) : Nat) : Int), .int .u64 ((bval i (gv 6 x y) : Nat) : Int)]) (R_loadA [.int .u64 ((bval i (gk 6 x y) : Nat) : Int), .int .u64 ((bval i (gv 6 x y) : Nat) : Int)] (by kernel_rfl) (by kernel_rfl) (by kernel_rfl) (fun k u hk => by rw [hOut.cell]; exact get_part _ 0 _ k u rfl hk)) ?_)
      refine zS [(50, .int .i64 ((i : Nat) : Int))] ?_
      refine zC (with_ok (bval i (gk 6 x y)) (bval i (gv 6 x y)) i false _ (by omega) (bval_u (by omega)) (bval_u (by omega))) ?_
      rintro _ w35 ⟨rfl, hT36⟩
      have hT0 := hT0.t0 hT36
      have hQ6 := hQ6.tch0 hT36
      have hQ7 := hQ7.tch0 hT36
      have hQ8 := hQ8.tch0 hT36
      have hOut := hOut.tch0 hT36
      refine st (by rfl) (S_storeA (b := w11.heap.size) (j := 0) (cs := [.int .u64 (((bval i (gk 6 x y)) ||| pw i : Nat) : Int), .int .u64 (((bval i (gv 6 x y)) ||| (if false = true then pw i else 0) : Nat) : Int)]) (by kernel_rfl) (by kernel_rfl) (by kernel_rfl) (by simp [oneV]) hOut (by simp) fun w39 hT40 hs41 hOut' => ?_)
      have hT0 := (hT0).then hT40 (fun c e => by have : c = w11.heap.size := e; omega)
      have hQ6 := hQ6.tch hT40 (fun e => by have : w.heap.size = w11.heap.size := e; omega)
      have hQ7 := hQ7.tch hT40 (fun e => by have : w1.heap.size = w11.heap.size := e; omega)
      have hQ8 := hQ8.tch hT40 (fun e => by have : w5.heap.size = w11.heap.size := e; omega)
      replace hOut : Blk w39 w11.heap.size 104 [.int .u64 (((bval i (gk 6 x y)) ||| pw i : Nat) : Int), .int .u64 (((bval i (gv 6 x y)) ||| (if false = true then pw i else 0) : Nat) : Int)] := hOut'
      refine op_nil ?_
      refine zR ?_
      refine zS [(18, .int .i64 ((i : Nat) : Int)), (19, .int .i64 (IntKind.i64.wrap (((i : Nat) : Int) + 1)))] ?_
      rw [show IntKind.i64.wrap (((i : Nat) : Int) + 1) = ((i : Nat) : Int) + 1 from wrap_i64 (by omega) (by omega)]
      refine fixR (y := ((i + 1 : Nat) : Int)) (by omega) ?_
      refine zS [(10, .int .i64 ((i + 1 : Nat) : Int))] ?_
      refine op_nil ?_
      refine ⟨_, ?_, i + 1, _, updL_self (by kernel_rfl), ?_, hT0, hQ6, hQ7, hQ8, (by rw [← bval_or i (gk 6 x y) true (by simp [gk, gv, bne, hc27, hb32, hb33, hc34]), ← bval_or i (gv 6 x y) false (by simp [gk, gv, bne, hc27, hb32, hb33, hc34]), if_pos rfl]; exact hOut), rfl⟩
      ·
       omega
      ·
       omega
     ·
      replace hc34 : y.2.testBit i = true := ((not_f hc34))
      refine zQ ?_
      refine zS [(53, .int .i64 6), (54, .bool false), (55, .bool false), (56, undef), (57, undef), (58, undef), (59, undef), (60, undef), (61, undef), (62, undef), (63, undef), (64, undef), (65, undef), (66, .bool false), (52, .bool false)] ?_
      refine zO false (fun h => nomatch h) (fun _ => ?_)
      refine zQ ?_
      refine zS [(71, .bool false), (72, .bool false), (73, undef), (74, .bool false), (75, .bool false), (76, undef), (77, undef), (78, .bool false), (70, .bool false)] ?_
      refine zO false (fun h => nomatch h) (fun _ => ?_)
      refine zQ ?_
      refine zS [(87, .bool false), (88, .bool false), (89, undef), (90, .bool false), (91, .bool false), (92, undef), (93, undef), (94, .bool false), (86, .bool false)] ?_
      refine zO false (fun h => nomatch h) (fun _ => ?_)
      refine zQ ?_
      refine zS [(103, .bool false), (104, .bool false), (105, undef), (106, .bool false), (102, .bool false)] ?_
      refine zO false (fun h => nomatch h) (fun _ => ?_)
      refine W_skip ?_
      refine zR ?_
      refine zS [(18, .int .i64 ((i : Nat) : Int)), (19, .int .i64 (IntKind.i64.wrap (((i : Nat) : Int) + 1)))] ?_
      rw [show IntKind.i64.wrap (((i : Nat) : Int) + 1) = ((i : Nat) : Int) + 1 from wrap_i64 (by omega) (by omega)]
      refine fixR (y := ((i + 1 : Nat) : Int)) (by omega) ?_
      refine zS [(10, .int .i64 ((i + 1 : Nat) : Int))] ?_
      refine op_nil ?_
      refine ⟨_, ?_, i + 1, _, updL_self (by kernel_rfl), ?_, hT0, hQ6, hQ7, hQ8, (by rw [← bval_not (f := (gk 6 x y)) (by simp [gk, gv, bne, hc27, hb32, hb33, hc34]), ← bval_not (f := (gv 6 x y)) (by simp [gk, gv, bne, hc27, hb32, hb33, hc34])]; exact hOut), rfl⟩
      ·
       omega
      ·
       omega
   ·
    replace hb32 : x.1.testBit i = true := (hb32)
    refine zS [(38, .bool (x.2.testBit i)), (39, .bool (!(x.2.testBit i))), (40, .bool (!(x.2.testBit i))), (41, .bool (!(x.2.testBit i)))] ?_
    cases hb42 : x.2.testBit i
    ·
     replace hb42 : x.2.testBit i = false := (hb42)
     refine zS [(42, undef), (43, undef), (44, undef), (45, undef), (46, undef), (47, .bool true), (48, .bool true), (32, .bool true)] ?_
     refine zO true (fun _ => ?_) (fun h => nomatch h)
     refine zR ?_
     refine st (by rfl) (S_val (v := .agg #[.int .u64 ((bval i (gk 6 x y) : Nat) : Int), .int .u64 ((bval i (gv 6 x y) : Nat) : Int)]) (R_loadA [.int .u64 ((bval i (gk 6 x y) : Nat) : Int), .int .u64 ((bval i (gv 6 x y) : Nat) : Int)] (by kernel_rfl) (by kernel_rfl) (by kernel_rfl) (fun k u hk => by rw [hOut.cell]; exact get_part _ 0 _ k u rfl hk)) ?_)
     refine zS [(50, .int .i64 ((i : Nat) : Int))] ?_
     refine zC (with_ok (bval i (gk 6 x y)) (bval i (gv 6 x y)) i false _ (by omega) (bval_u (by omega)) (bval_u (by omega))) ?_
     rintro _ w43 ⟨rfl, hT44⟩
     have hT0 := hT0.t0 hT44
     have hQ6 := hQ6.tch0 hT44
     have hQ7 := hQ7.tch0 hT44
     have hQ8 := hQ8.tch0 hT44
     have hOut := hOut.tch0 hT44
     refine st (by rfl) (S_storeA (b := w11.heap.size) (j := 0) (cs := [.int .u64 (((bval i (gk 6 x y)) ||| pw i : Nat) : Int), .int .u64 (((bval i (gv 6 x y)) ||| (if false = true then pw i else 0) : Nat) : Int)]) (by kernel_rfl) (by kernel_rfl) (by kernel_rfl) (by simp [oneV]) hOut (by simp) fun w47 hT48 hs49 hOut' => ?_)
     have hT0 := (hT0).then hT48 (fun c e => by have : c = w11.heap.size := e; omega)
     have hQ6 := hQ6.tch hT48 (fun e => by have : w.heap.size = w11.heap.size := e; omega)
     have hQ7 := hQ7.tch hT48 (fun e => by have : w1.heap.size = w11.heap.size := e; omega)
     have hQ8 := hQ8.tch hT48 (fun e => by have : w5.heap.size = w11.heap.size := e; omega)
     replace hOut : Blk w47 w11.heap.size 104 [.int .u64 (((bval i (gk 6 x y)) ||| pw i : Nat) : Int), .int .u64 (((bval i (gv 6 x y)) ||| (if false = true then pw i else 0) : Nat) : Int)] := hOut'
     refine op_nil ?_
     refine zR ?_
     refine zS [(18, .int .i64 ((i : Nat) : Int)), (19, .int .i64 (IntKind.i64.wrap (((i : Nat) : Int) + 1)))] ?_
     rw [show IntKind.i64.wrap (((i : Nat) : Int) + 1) = ((i : Nat) : Int) + 1 from wrap_i64 (by omega) (by omega)]
     refine fixR (y := ((i + 1 : Nat) : Int)) (by omega) ?_
     refine zS [(10, .int .i64 ((i + 1 : Nat) : Int))] ?_
     refine op_nil ?_
     refine ⟨_, ?_, i + 1, _, updL_self (by kernel_rfl), ?_, hT0, hQ6, hQ7, hQ8, (by rw [← bval_or i (gk 6 x y) true (by simp [gk, gv, bne, hc27, hb32, hb42]), ← bval_or i (gv 6 x y) false (by simp [gk, gv, bne, hc27, hb32, hb42]), if_pos rfl]; exact hOut), rfl⟩
     ·
      omega
     ·
      omega
    ·
     replace hb42 : x.2.testBit i = true := (hb42)
     refine zS [(42, .bool (y.1.testBit i)), (43, .bool (y.1.testBit i))] ?_
     cases hb50 : y.1.testBit i
     ·
      replace hb50 : y.1.testBit i = false := (hb50)
      refine zS [(44, undef), (45, undef), (46, .bool false), (47, .bool false), (48, .bool false), (32, .bool false)] ?_
      refine zO false (fun h => nomatch h) (fun _ => ?_)
      refine zQ ?_
      refine zS [(53, .int .i64 6), (54, .bool false), (55, .bool false), (56, undef), (57, undef), (58, undef), (59, undef), (60, undef), (61, undef), (62, undef), (63, undef), (64, undef), (65, undef), (66, .bool false), (52, .bool false)] ?_
      refine zO false (fun h => nomatch h) (fun _ => ?_)
      refine zQ ?_
      refine zS [(71, .bool true), (72, .bool true), (73, .bool false), (74, .bool false), (75, .bool false), (76, undef), (77, undef), (78, .bool false), (70, .bool false)] ?_
      refine zO false (fun h => nomatch h) (fun _ => ?_)
      refine zQ ?_
      refine zS [(87, .bool true), (88, .bool true), (89, .bool false), (90, .bool false), (91, .bool false), (92, undef), (93, undef), (94, .bool false), (86, .bool false)] ?_
      refine zO false (fun h => nomatch h) (fun _ => ?_)
      refine zQ ?_
      refine zS [(103, .bool true), (104, .bool true), (105, .bool false), (106, .bool false), (102, .bool false)] ?_
      refine zO false (fun h => nomatch h) (fun _ => ?_)
      refine W_skip ?_
      refine zR ?_
      refine zS [(18, .int .i64 ((i : Nat) : Int)), (19, .int .i64 (IntKind.i64.wrap (((i : Nat) : Int) + 1)))] ?_
      rw [show IntKind.i64.wrap (((i : Nat) : Int) + 1) = ((i : Nat) : Int) + 1 from wrap_i64 (by omega) (by omega)]
      refine fixR (y := ((i + 1 : Nat) : Int)) (by omega) ?_
      refine zS [(10, .int .i64 ((i + 1 : Nat) : Int))] ?_
      refine op_nil ?_
      refine ⟨_, ?_, i + 1, _, updL_self (by kernel_rfl), ?_, hT0, hQ6, hQ7, hQ8, (by rw [← bval_not (f := (gk 6 x y)) (by simp [gk, gv, bne, hc27, hb32, hb42, hb50]), ← bval_not (f := (gv 6 x y)) (by simp [gk, gv, bne, hc27, hb32, hb42, hb50])]; exact hOut), rfl⟩
      ·
       omega
      ·
       omega
     ·
      replace hb50 : y.1.testBit i = true := (hb50)
      refine zS [(44, .bool (y.2.testBit i)), (45, .bool (!(y.2.testBit i))), (46, .bool (!(y.2.testBit i))), (47, .bool (!(y.2.testBit i))), (48, .bool (!(y.2.testBit i))), (32, .bool (!(y.2.testBit i)))] ?_
      refine zO (!(y.2.testBit i)) (fun hc51 => ?_) (fun hc51 => ?_)
      ·
       replace hc51 : y.2.testBit i = false := ((not_t hc51))
       refine zR ?_
       refine st (by rfl) (S_val (v := .agg #[.int .u64 ((bval i (gk 6 x y) : Nat) : Int), .int .u64 ((bval i (gv 6 x y) : Nat) : Int)]) (R_loadA [.int .u64 ((bval i (gk 6 x y) : Nat) : Int), .int .u64 ((bval i (gv 6 x y) : Nat) : Int)] (by kernel_rfl) (by kernel_rfl) (by kernel_rfl) (fun k u hk => by rw [hOut.cell]; exact get_part _ 0 _ k u rfl hk)) ?_)
       refine zS [(50, .int .i64 ((i : Nat) : Int))] ?_
       refine zC (with_ok (bval i (gk 6 x y)) (bval i (gv 6 x y)) i false _ (by omega) (bval_u (by omega)) (bval_u (by omega))) ?_
       rintro _ w52 ⟨rfl, hT53⟩
       have hT0 := hT0.t0 hT53
       have hQ6 := hQ6.tch0 hT53
       have hQ7 := hQ7.tch0 hT53
       have hQ8 := hQ8.tch0 hT53
       have hOut := hOut.tch0 hT53
       refine st (by rfl) (S_storeA (b := w11.heap.size) (j := 0) (cs := [.int .u64 (((bval i (gk 6 x y)) ||| pw i : Nat) : Int), .int .u64 (((bval i (gv 6 x y)) ||| (if false = true then pw i else 0) : Nat) : Int)]) (by kernel_rfl) (by kernel_rfl) (by kernel_rfl) (by simp [oneV]) hOut (by simp) fun w56 hT57 hs58 hOut' => ?_)
       have hT0 := (hT0).then hT57 (fun c e => by have : c = w11.heap.size := e; omega)
       have hQ6 := hQ6.tch hT57 (fun e => by have : w.heap.size = w11.heap.size := e; omega)
       have hQ7 := hQ7.tch hT57 (fun e => by have : w1.heap.size = w11.heap.size := e; omega)
       have hQ8 := hQ8.tch hT57 (fun e => by have : w5.heap.size = w11.heap.size := e; omega)
       replace hOut : Blk w56 w11.heap.size 104 [.int .u64 (((bval i (gk 6 x y)) ||| pw i : Nat) : Int), .int .u64 (((bval i (gv 6 x y)) ||| (if false = true then pw i else 0) : Nat) : Int)] := hOut'
       refine op_nil ?_
       refine zR ?_
       refine zS [(18, .int .i64 ((i : Nat) : Int)), (19, .int .i64 (IntKind.i64.wrap (((i : Nat) : Int) + 1)))] ?_
       rw [show IntKind.i64.wrap (((i : Nat) : Int) + 1) = ((i : Nat) : Int) + 1 from wrap_i64 (by omega) (by omega)]
       refine fixR (y := ((i + 1 : Nat) : Int)) (by omega) ?_
       refine zS [(10, .int .i64 ((i + 1 : Nat) : Int))] ?_
       refine op_nil ?_
       refine ⟨_, ?_, i + 1, _, updL_self (by kernel_rfl), ?_, hT0, hQ6, hQ7, hQ8, (by rw [← bval_or i (gk 6 x y) true (by simp [gk, gv, bne, hc27, hb32, hb42, hb50, hc51]), ← bval_or i (gv 6 x y) false (by simp [gk, gv, bne, hc27, hb32, hb42, hb50, hc51]), if_pos rfl]; exact hOut), rfl⟩
       ·
        omega
       ·
        omega
      ·
       replace hc51 : y.2.testBit i = true := ((not_f hc51))
       refine zQ ?_
       refine zS [(53, .int .i64 6), (54, .bool false), (55, .bool false), (56, undef), (57, undef), (58, undef), (59, undef), (60, undef), (61, undef), (62, undef), (63, undef), (64, undef), (65, undef), (66, .bool false), (52, .bool false)] ?_
       refine zO false (fun h => nomatch h) (fun _ => ?_)
       refine zQ ?_
       refine zS [(71, .bool true), (72, .bool true), (73, .bool true), (74, .bool true), (75, .bool true), (76, .int .i64 6), (77, .bool true), (78, .bool true), (70, .bool true)] ?_
       refine zO true (fun _ => ?_) (fun h => nomatch h)
       refine zR ?_
       refine st (by rfl) (S_val (v := .agg #[.int .u64 ((bval i (gk 6 x y) : Nat) : Int), .int .u64 ((bval i (gv 6 x y) : Nat) : Int)]) (R_loadA [.int .u64 ((bval i (gk 6 x y) : Nat) : Int), .int .u64 ((bval i (gv 6 x y) : Nat) : Int)] (by kernel_rfl) (by kernel_rfl) (by kernel_rfl) (fun k u hk => by rw [hOut.cell]; exact get_part _ 0 _ k u rfl hk)) ?_)
       refine zS [(80, .int .i64 ((i : Nat) : Int)), (81, .bool true), (82, .bool true), (83, .bool (y.2.testBit i)), (84, .bool (y.2.testBit i))] ?_
       refine zC (with_ok (bval i (gk 6 x y)) (bval i (gv 6 x y)) i (y.2.testBit i) _ (by omega) (bval_u (by omega)) (bval_u (by omega))) ?_
       rintro _ w59 ⟨rfl, hT60⟩
       have hT0 := hT0.t0 hT60
       have hQ6 := hQ6.tch0 hT60
       have hQ7 := hQ7.tch0 hT60
       have hQ8 := hQ8.tch0 hT60
       have hOut := hOut.tch0 hT60
       refine st (by rfl) (S_storeA (b := w11.heap.size) (j := 0) (cs := [.int .u64 (((bval i (gk 6 x y)) ||| pw i : Nat) : Int), .int .u64 (((bval i (gv 6 x y)) ||| (if (y.2.testBit i) = true then pw i else 0) : Nat) : Int)]) (by kernel_rfl) (by kernel_rfl) (by kernel_rfl) (by simp [oneV]) hOut (by simp) fun w63 hT64 hs65 hOut' => ?_)
       have hT0 := (hT0).then hT64 (fun c e => by have : c = w11.heap.size := e; omega)
       have hQ6 := hQ6.tch hT64 (fun e => by have : w.heap.size = w11.heap.size := e; omega)
       have hQ7 := hQ7.tch hT64 (fun e => by have : w1.heap.size = w11.heap.size := e; omega)
       have hQ8 := hQ8.tch hT64 (fun e => by have : w5.heap.size = w11.heap.size := e; omega)
       replace hOut : Blk w63 w11.heap.size 104 [.int .u64 (((bval i (gk 6 x y)) ||| pw i : Nat) : Int), .int .u64 (((bval i (gv 6 x y)) ||| (if (y.2.testBit i) = true then pw i else 0) : Nat) : Int)] := hOut'
       refine op_nil ?_
       refine zR ?_
       refine zS [(18, .int .i64 ((i : Nat) : Int)), (19, .int .i64 (IntKind.i64.wrap (((i : Nat) : Int) + 1)))] ?_
       rw [show IntKind.i64.wrap (((i : Nat) : Int) + 1) = ((i : Nat) : Int) + 1 from wrap_i64 (by omega) (by omega)]
       refine fixR (y := ((i + 1 : Nat) : Int)) (by omega) ?_
       refine zS [(10, .int .i64 ((i + 1 : Nat) : Int))] ?_
       refine op_nil ?_
       refine ⟨_, ?_, i + 1, _, updL_self (by kernel_rfl), ?_, hT0, hQ6, hQ7, hQ8, (by rw [← bval_or i (gk 6 x y) true (by simp [gk, gv, bne, hc27, hb32, hb42, hb50, hc51]), ← bval_or i (gv 6 x y) (y.2.testBit i) (by simp [gk, gv, bne, hc27, hb32, hb42, hb50, hc51]), if_pos rfl]; exact hOut), rfl⟩
       ·
        omega
       ·
        omega
  ·
   replace hc27 : ((wd : Nat) : Int) ≤ ((i : Nat) : Int) := (Int.not_lt.1 (of_decide_eq_false hc27))
   refine W_exit ?_
   refine X_hit ?_
   refine zQ ?_
   refine st (by rfl) (S_val (v := .agg #[.int .u64 ((bval i (gk 6 x y) : Nat) : Int), .int .u64 ((bval i (gv 6 x y) : Nat) : Int)]) (R_loadA [.int .u64 ((bval i (gk 6 x y) : Nat) : Int), .int .u64 ((bval i (gv 6 x y) : Nat) : Int)] (by kernel_rfl) (by kernel_rfl) (by kernel_rfl) (fun k u hk => by rw [hOut.cell]; exact get_part _ 0 _ k u rfl hk)) ?_)
   refine st (by rfl) (S_storeA (b := w5.heap.size) (j := 0) (cs := [.int .u64 ((bval i (gk 6 x y) : Nat) : Int), .int .u64 ((bval i (gv 6 x y) : Nat) : Int)]) (by kernel_rfl) (by kernel_rfl) (by kernel_rfl) (by simp [oneV]) hQ8 (by simp) fun w66 hT67 hs68 hQ8' => ?_)
   have hT0 := (hT0).then hT67 (fun c e => by have : c = w5.heap.size := e; omega)
   have hQ6 := hQ6.tch hT67 (fun e => by have : w.heap.size = w5.heap.size := e; omega)
   have hQ7 := hQ7.tch hT67 (fun e => by have : w1.heap.size = w5.heap.size := e; omega)
   have hOut := hOut.tch hT67 (fun e => by have : w11.heap.size = w5.heap.size := e; omega)
   replace hQ8 : Blk w66 w5.heap.size 104 [.int .u64 ((bval i (gk 6 x y) : Nat) : Int), .int .u64 ((bval i (gv 6 x y) : Nat) : Int)] := hQ8'
   refine op_nil ?_
   refine W_ret ?_
   exact ⟨_, Res_cell (b := w5.heap.size) (cs := [.int .u64 ((bval i (gk 6 x y) : Nat) : Int), .int .u64 ((bval i (gv 6 x y) : Nat) : Int)]) (by rfl) (by kernel_rfl) (by kernel_rfl) hQ8 (by kernel_rfl) (by kernel_rfl), ⟨by rw [show i = wd by omega]; rfl, hT0⟩⟩

set_option maxRecDepth 100000 in
theorem rgate7_ok (wd : Nat) (x y : K)  (w : World) (hx : KI wd x) (hy : KI wd y) (hw : wd ≤ 64) : Ret Try.prog 103 [.int .i64 7, .int .i64 ((wd : Nat) : Int), .agg #[.int .u64 ((x.1 : Nat) : Int), .int .u64 ((x.2 : Nat) : Int)], .agg #[.int .u64 ((y.1 : Nat) : Int), .int .u64 ((y.2 : Nat) : Int)]] w fun v w' => v = .agg #[.int .u64 (((kgate 7 wd x y).1 : Nat) : Int), .int .u64 (((kgate 7 wd x y).2 : Nat) : Int)] ∧ Tch N0 w w' := by
 have ux1 := hx.u1 hw
 have ux2 := hx.u2 hw
 have uy1 := hy.u1 hw
 have uy2 := hy.u2 hw
 refine enter Try.func103 rfl rfl ?_
 refine zQ ?_
 refine st (by rfl) (S_new (v := .pointer (some ⟨w.heap.size, 0, none⟩)) (ob := .cells #[.int .u64 ((x.1 : Nat) : Int), .int .u64 ((x.2 : Nat) : Int)] 104) (by kernel_rfl) fun w1 hT2 hs3 hB4 => ?_)
 replace hB4 : Blk w1 (w.heap.size) 104 [.int .u64 ((x.1 : Nat) : Int), .int .u64 ((x.2 : Nat) : Int)] := hB4
 have hT0 := hT2
 have z9 := hT0.size
 have l10 := hB4.lt
 refine st (by rfl) (S_new (v := .pointer (some ⟨w1.heap.size, 0, none⟩)) (ob := .cells #[.int .u64 ((y.1 : Nat) : Int), .int .u64 ((y.2 : Nat) : Int)] 104) (by kernel_rfl) fun w5 hT6 hs7 hB8 => ?_)
 replace hB8 : Blk w5 (w1.heap.size) 104 [.int .u64 ((y.1 : Nat) : Int), .int .u64 ((y.2 : Nat) : Int)] := hB8
 have hT0 := hT0.t0 hT6
 have hB4 := hB4.tch0 hT6
 have z15 := hT0.size
 have l16 := hB4.lt
 have l17 := hB8.lt
 refine st (by rfl) (S_new (v := .pointer (some ⟨w5.heap.size, 0, none⟩)) (ob := .cells #[.int .u64 0, .int .u64 0] 104) (by kernel_rfl) fun w11 hT12 hs13 hB14 => ?_)
 replace hB14 : Blk w11 (w5.heap.size) 104 [.int .u64 0, .int .u64 0] := hB14
 have hT0 := hT0.t0 hT12
 have hB4 := hB4.tch0 hT12
 have hB8 := hB8.tch0 hT12
 refine op_nil ?_
 refine zQ ?_
 have z22 := hT0.size
 have l23 := hB4.lt
 have l24 := hB8.lt
 have l25 := hB14.lt
 refine st (by rfl) (S_new (v := .pointer (some ⟨w11.heap.size, 0, none⟩)) (ob := .cells #[.int .u64 0, .int .u64 0] 104) (by kernel_rfl) fun w18 hT19 hs20 hB21 => ?_)
 replace hB21 : Blk w18 (w11.heap.size) 104 [.int .u64 0, .int .u64 0] := hB21
 have hT0 := hT0.t0 hT19
 have hB4 := hB4.tch0 hT19
 have hB8 := hB8.tch0 hT19
 have hB14 := hB14.tch0 hT19
 refine op_nil ?_
 refine W_seq ?_
 refine zQ ?_
 refine zS [(10, .int .i64 0)] ?_
 refine op_nil ?_
 refine W_block ?_
 refine W_loop (fun m ρ w' => ∃ (i : Nat) (ρ0 : Env), ρ = updL ρ0 [(0, .int .i64 7), (1, .int .i64 ((wd : Nat) : Int)), (2, .agg #[.int .u64 ((x.1 : Nat) : Int), .int .u64 ((x.2 : Nat) : Int)]), (3, .agg #[.int .u64 ((y.1 : Nat) : Int), .int .u64 ((y.2 : Nat) : Int)]), (6, .pointer (some ⟨w.heap.size, 0, none⟩)), (7, .pointer (some ⟨w1.heap.size, 0, none⟩)), (8, .pointer (some ⟨w5.heap.size, 0, none⟩)), (9, .pointer (some ⟨w11.heap.size, 0, none⟩)), (10, .int .i64 ((i : Nat) : Int))] ∧ (i ≤ wd) ∧ Tch N0 w w' ∧ Blk w' (w.heap.size) 104 [.int .u64 ((x.1 : Nat) : Int), .int .u64 ((x.2 : Nat) : Int)] ∧ Blk w' (w1.heap.size) 104 [.int .u64 ((y.1 : Nat) : Int), .int .u64 ((y.2 : Nat) : Int)] ∧ Blk w' (w5.heap.size) 104 [.int .u64 0, .int .u64 0] ∧ Blk w' (w11.heap.size) 104 [.int .u64 ((bval i (gk 7 x y) : Nat) : Int), .int .u64 ((bval i (gv 7 x y) : Nat) : Int)] ∧ m = wd - i) (m := wd - 0) ?_ ?_
 ·
  refine ⟨0, _, updL_self (by kernel_rfl), by omega, hT0, hB4, hB8, hB14, hB21, rfl⟩
 ·
  rintro m ρ w26 ⟨i, ρ, rfl, hi, hT0, hQ6, hQ7, hQ8, hOut, rfl⟩
  refine W_seq ?_
  refine zQ ?_
  refine zS [(15, .int .i64 ((i : Nat) : Int)), (16, .int .i64 ((wd : Nat) : Int)), (17, .bool (decide (((i : Nat) : Int) < ((wd : Nat) : Int))))] ?_
  refine zO (decide (((i : Nat) : Int) < ((wd : Nat) : Int))) (fun hc27 => ?_) (fun hc27 => ?_)
  ·
   replace hc27 : ((i : Nat) : Int) < ((wd : Nat) : Int) := (of_decide_eq_true hc27)
   refine W_skip ?_
   refine W_seq ?_
   refine W_block ?_
   refine zQ ?_
   refine st (by rfl) (S_val (v := .agg #[.int .u64 ((x.1 : Nat) : Int), .int .u64 ((x.2 : Nat) : Int)]) (R_loadA [.int .u64 ((x.1 : Nat) : Int), .int .u64 ((x.2 : Nat) : Int)] (by kernel_rfl) (by kernel_rfl) (by kernel_rfl) (fun k u hk => by rw [hQ6.cell]; exact get_part _ 0 _ k u rfl hk)) ?_)
   refine zS [(22, .int .i64 ((i : Nat) : Int))] ?_
   refine zC (rbit2_ok x.1 x.2 i _ (by omega) ux1 ux2) ?_
   rintro _ w28 ⟨rfl, hT29⟩
   have hT0 := hT0.t0 hT29
   have hQ6 := hQ6.tch0 hT29
   have hQ7 := hQ7.tch0 hT29
   have hQ8 := hQ8.tch0 hT29
   have hOut := hOut.tch0 hT29
   refine zS [(20, .tuple #[.bool (x.1.testBit i), .bool (x.2.testBit i)]), (24, .bool (x.1.testBit i)), (25, .bool (x.2.testBit i)), (11, .bool (x.1.testBit i)), (12, .bool (x.2.testBit i))] ?_
   refine op_nil ?_
   refine zQ ?_
   refine st (by rfl) (S_val (v := .agg #[.int .u64 ((y.1 : Nat) : Int), .int .u64 ((y.2 : Nat) : Int)]) (R_loadA [.int .u64 ((y.1 : Nat) : Int), .int .u64 ((y.2 : Nat) : Int)] (by kernel_rfl) (by kernel_rfl) (by kernel_rfl) (fun k u hk => by rw [hQ7.cell]; exact get_part _ 0 _ k u rfl hk)) ?_)
   refine zS [(28, .int .i64 ((i : Nat) : Int))] ?_
   refine zC (rbit2_ok y.1 y.2 i _ (by omega) uy1 uy2) ?_
   rintro _ w30 ⟨rfl, hT31⟩
   have hT0 := hT0.t0 hT31
   have hQ6 := hQ6.tch0 hT31
   have hQ7 := hQ7.tch0 hT31
   have hQ8 := hQ8.tch0 hT31
   have hOut := hOut.tch0 hT31
   refine zS [(26, .tuple #[.bool (y.1.testBit i), .bool (y.2.testBit i)]), (30, .bool (y.1.testBit i)), (31, .bool (y.2.testBit i)), (13, .bool (y.1.testBit i)), (14, .bool (y.2.testBit i))] ?_
   refine op_nil ?_
   refine W_block ?_
   refine zQ ?_
   refine zS [(33, .int .i64 7), (34, .bool false), (35, .bool false), (36, undef), (37, undef), (38, undef), (39, undef), (40, undef), (41, undef), (42, undef), (43, undef), (44, undef), (45, undef), (46, undef), (47, undef), (48, .bool false), (32, .bool false)] ?_
   refine zO false (fun h => nomatch h) (fun _ => ?_)
   refine zQ ?_
   refine zS [(53, .int .i64 7), (54, .bool true), (55, .bool true), (56, .bool (x.1.testBit i)), (57, .bool (x.1.testBit i))] ?_
   cases hb32 : x.1.testBit i
   ·
    replace hb32 : x.1.testBit i = false := (hb32)
    refine zS [(58, undef), (59, .bool false), (60, .bool false), (61, .bool (y.1.testBit i)), (62, .bool (y.1.testBit i))] ?_
    cases hb33 : y.1.testBit i
    ·
     replace hb33 : y.1.testBit i = false := (hb33)
     refine zS [(63, undef), (64, .bool false), (65, .bool false), (66, .bool false), (52, .bool false)] ?_
     refine zO false (fun h => nomatch h) (fun _ => ?_)
     refine zQ ?_
     refine zS [(71, .bool false), (72, .bool false), (73, undef), (74, .bool false), (75, .bool false), (76, undef), (77, undef), (78, .bool false), (70, .bool false)] ?_
     refine zO false (fun h => nomatch h) (fun _ => ?_)
     refine zQ ?_
     refine zS [(87, .bool false), (88, .bool false), (89, undef), (90, .bool false), (91, .bool false), (92, undef), (93, undef), (94, .bool false), (86, .bool false)] ?_
     refine zO false (fun h => nomatch h) (fun _ => ?_)
     refine zQ ?_
     refine zS [(103, .bool false), (104, .bool false), (105, undef), (106, .bool false), (102, .bool false)] ?_
     refine zO false (fun h => nomatch h) (fun _ => ?_)
     refine W_skip ?_
     refine zR ?_
     refine zS [(18, .int .i64 ((i : Nat) : Int)), (19, .int .i64 (IntKind.i64.wrap (((i : Nat) : Int) + 1)))] ?_
     rw [show IntKind.i64.wrap (((i : Nat) : Int) + 1) = ((i : Nat) : Int) + 1 from wrap_i64 (by omega) (by omega)]
     refine fixR (y := ((i + 1 : Nat) : Int)) (by omega) ?_
     refine zS [(10, .int .i64 ((i + 1 : Nat) : Int))] ?_
     refine op_nil ?_
     refine ⟨_, ?_, i + 1, _, updL_self (by kernel_rfl), ?_, hT0, hQ6, hQ7, hQ8, (by rw [← bval_not (f := (gk 7 x y)) (by simp [gk, gv, bne, hc27, hb32, hb33]), ← bval_not (f := (gv 7 x y)) (by simp [gk, gv, bne, hc27, hb32, hb33])]; exact hOut), rfl⟩
     ·
      omega
     ·
      omega
    ·
     replace hb33 : y.1.testBit i = true := (hb33)
     refine zS [(63, .bool (y.2.testBit i)), (64, .bool (y.2.testBit i)), (65, .bool (y.2.testBit i)), (66, .bool (y.2.testBit i)), (52, .bool (y.2.testBit i))] ?_
     refine zO (y.2.testBit i) (fun hc34 => ?_) (fun hc34 => ?_)
     ·
      replace hc34 : y.2.testBit i = true := (hc34)
      refine zR ?_
      refine st (by rfl) (S_val (v := .agg #[.int .u64 ((bval i (gk 7 x y) : Nat) : Int), .int .u64 ((bval i (gv 7 x y) : Nat) : Int)]) (R_loadA [.int .u64 ((bval i (gk 7 x y) : Nat) : Int), .int .u64 ((bval i (gv 7 x y) : Nat) : Int)] (by kernel_rfl) (by kernel_rfl) (by kernel_rfl) (fun k u hk => by rw [hOut.cell]; exact get_part _ 0 _ k u rfl hk)) ?_)
      refine zS [(68, .int .i64 ((i : Nat) : Int))] ?_
      refine zC (with_ok (bval i (gk 7 x y)) (bval i (gv 7 x y)) i true _ (by omega) (bval_u (by omega)) (bval_u (by omega))) ?_
      rintro _ w35 ⟨rfl, hT36⟩
      have hT0 := hT0.t0 hT36
      have hQ6 := hQ6.tch0 hT36
      have hQ7 := hQ7.tch0 hT36
      have hQ8 := hQ8.tch0 hT36
      have hOut := hOut.tch0 hT36
      refine st (by rfl) (S_storeA (b := w11.heap.size) (j := 0) (cs := [.int .u64 (((bval i (gk 7 x y)) ||| pw i : Nat) : Int), .int .u64 (((bval i (gv 7 x y)) ||| (if true = true then pw i else 0) : Nat) : Int)]) (by kernel_rfl) (by kernel_rfl) (by kernel_rfl) (by simp [oneV]) hOut (by simp) fun w39 hT40 hs41 hOut' => ?_)
      have hT0 := (hT0).then hT40 (fun c e => by have : c = w11.heap.size := e; omega)
      have hQ6 := hQ6.tch hT40 (fun e => by have : w.heap.size = w11.heap.size := e; omega)
      have hQ7 := hQ7.tch hT40 (fun e => by have : w1.heap.size = w11.heap.size := e; omega)
      have hQ8 := hQ8.tch hT40 (fun e => by have : w5.heap.size = w11.heap.size := e; omega)
      replace hOut : Blk w39 w11.heap.size 104 [.int .u64 (((bval i (gk 7 x y)) ||| pw i : Nat) : Int), .int .u64 (((bval i (gv 7 x y)) ||| (if true = true then pw i else 0) : Nat) : Int)] := hOut'
      refine op_nil ?_
      refine zR ?_
      refine zS [(18, .int .i64 ((i : Nat) : Int)), (19, .int .i64 (IntKind.i64.wrap (((i : Nat) : Int) + 1)))] ?_
      rw [show IntKind.i64.wrap (((i : Nat) : Int) + 1) = ((i : Nat) : Int) + 1 from wrap_i64 (by omega) (by omega)]
      refine fixR (y := ((i + 1 : Nat) : Int)) (by omega) ?_
      refine zS [(10, .int .i64 ((i + 1 : Nat) : Int))] ?_
      refine op_nil ?_
      refine ⟨_, ?_, i + 1, _, updL_self (by kernel_rfl), ?_, hT0, hQ6, hQ7, hQ8, (by rw [← bval_or i (gk 7 x y) true (by simp [gk, gv, bne, hc27, hb32, hb33, hc34]), ← bval_or i (gv 7 x y) true (by simp [gk, gv, bne, hc27, hb32, hb33, hc34]), if_pos rfl]; exact hOut), rfl⟩
      ·
       omega
      ·
       omega
     ·
      replace hc34 : y.2.testBit i = false := (hc34)
      refine zQ ?_
      refine zS [(71, .bool false), (72, .bool false), (73, undef), (74, .bool false), (75, .bool false), (76, undef), (77, undef), (78, .bool false), (70, .bool false)] ?_
      refine zO false (fun h => nomatch h) (fun _ => ?_)
      refine zQ ?_
      refine zS [(87, .bool false), (88, .bool false), (89, undef), (90, .bool false), (91, .bool false), (92, undef), (93, undef), (94, .bool false), (86, .bool false)] ?_
      refine zO false (fun h => nomatch h) (fun _ => ?_)
      refine zQ ?_
      refine zS [(103, .bool false), (104, .bool false), (105, undef), (106, .bool false), (102, .bool false)] ?_
      refine zO false (fun h => nomatch h) (fun _ => ?_)
      refine W_skip ?_
      refine zR ?_
      refine zS [(18, .int .i64 ((i : Nat) : Int)), (19, .int .i64 (IntKind.i64.wrap (((i : Nat) : Int) + 1)))] ?_
      rw [show IntKind.i64.wrap (((i : Nat) : Int) + 1) = ((i : Nat) : Int) + 1 from wrap_i64 (by omega) (by omega)]
      refine fixR (y := ((i + 1 : Nat) : Int)) (by omega) ?_
      refine zS [(10, .int .i64 ((i + 1 : Nat) : Int))] ?_
      refine op_nil ?_
      refine ⟨_, ?_, i + 1, _, updL_self (by kernel_rfl), ?_, hT0, hQ6, hQ7, hQ8, (by rw [← bval_not (f := (gk 7 x y)) (by simp [gk, gv, bne, hc27, hb32, hb33, hc34]), ← bval_not (f := (gv 7 x y)) (by simp [gk, gv, bne, hc27, hb32, hb33, hc34])]; exact hOut), rfl⟩
      ·
       omega
      ·
       omega
   ·
    replace hb32 : x.1.testBit i = true := (hb32)
    refine zS [(58, .bool (x.2.testBit i)), (59, .bool (x.2.testBit i)), (60, .bool (x.2.testBit i))] ?_
    cases hb42 : x.2.testBit i
    ·
     replace hb42 : x.2.testBit i = false := (hb42)
     refine zS [(61, .bool (y.1.testBit i)), (62, .bool (y.1.testBit i))] ?_
     cases hb43 : y.1.testBit i
     ·
      replace hb43 : y.1.testBit i = false := (hb43)
      refine zS [(63, undef), (64, .bool false), (65, .bool false), (66, .bool false), (52, .bool false)] ?_
      refine zO false (fun h => nomatch h) (fun _ => ?_)
      refine zQ ?_
      refine zS [(71, .bool true), (72, .bool true), (73, .bool false), (74, .bool false), (75, .bool false), (76, undef), (77, undef), (78, .bool false), (70, .bool false)] ?_
      refine zO false (fun h => nomatch h) (fun _ => ?_)
      refine zQ ?_
      refine zS [(87, .bool true), (88, .bool true), (89, .bool false), (90, .bool false), (91, .bool false), (92, undef), (93, undef), (94, .bool false), (86, .bool false)] ?_
      refine zO false (fun h => nomatch h) (fun _ => ?_)
      refine zQ ?_
      refine zS [(103, .bool true), (104, .bool true), (105, .bool false), (106, .bool false), (102, .bool false)] ?_
      refine zO false (fun h => nomatch h) (fun _ => ?_)
      refine W_skip ?_
      refine zR ?_
      refine zS [(18, .int .i64 ((i : Nat) : Int)), (19, .int .i64 (IntKind.i64.wrap (((i : Nat) : Int) + 1)))] ?_
      rw [show IntKind.i64.wrap (((i : Nat) : Int) + 1) = ((i : Nat) : Int) + 1 from wrap_i64 (by omega) (by omega)]
      refine fixR (y := ((i + 1 : Nat) : Int)) (by omega) ?_
      refine zS [(10, .int .i64 ((i + 1 : Nat) : Int))] ?_
      refine op_nil ?_
      refine ⟨_, ?_, i + 1, _, updL_self (by kernel_rfl), ?_, hT0, hQ6, hQ7, hQ8, (by rw [← bval_not (f := (gk 7 x y)) (by simp [gk, gv, bne, hc27, hb32, hb42, hb43]), ← bval_not (f := (gv 7 x y)) (by simp [gk, gv, bne, hc27, hb32, hb42, hb43])]; exact hOut), rfl⟩
      ·
       omega
      ·
       omega
     ·
      replace hb43 : y.1.testBit i = true := (hb43)
      refine zS [(63, .bool (y.2.testBit i)), (64, .bool (y.2.testBit i)), (65, .bool (y.2.testBit i)), (66, .bool (y.2.testBit i)), (52, .bool (y.2.testBit i))] ?_
      refine zO (y.2.testBit i) (fun hc44 => ?_) (fun hc44 => ?_)
      ·
       replace hc44 : y.2.testBit i = true := (hc44)
       refine zR ?_
       refine st (by rfl) (S_val (v := .agg #[.int .u64 ((bval i (gk 7 x y) : Nat) : Int), .int .u64 ((bval i (gv 7 x y) : Nat) : Int)]) (R_loadA [.int .u64 ((bval i (gk 7 x y) : Nat) : Int), .int .u64 ((bval i (gv 7 x y) : Nat) : Int)] (by kernel_rfl) (by kernel_rfl) (by kernel_rfl) (fun k u hk => by rw [hOut.cell]; exact get_part _ 0 _ k u rfl hk)) ?_)
       refine zS [(68, .int .i64 ((i : Nat) : Int))] ?_
       refine zC (with_ok (bval i (gk 7 x y)) (bval i (gv 7 x y)) i true _ (by omega) (bval_u (by omega)) (bval_u (by omega))) ?_
       rintro _ w45 ⟨rfl, hT46⟩
       have hT0 := hT0.t0 hT46
       have hQ6 := hQ6.tch0 hT46
       have hQ7 := hQ7.tch0 hT46
       have hQ8 := hQ8.tch0 hT46
       have hOut := hOut.tch0 hT46
       refine st (by rfl) (S_storeA (b := w11.heap.size) (j := 0) (cs := [.int .u64 (((bval i (gk 7 x y)) ||| pw i : Nat) : Int), .int .u64 (((bval i (gv 7 x y)) ||| (if true = true then pw i else 0) : Nat) : Int)]) (by kernel_rfl) (by kernel_rfl) (by kernel_rfl) (by simp [oneV]) hOut (by simp) fun w49 hT50 hs51 hOut' => ?_)
       have hT0 := (hT0).then hT50 (fun c e => by have : c = w11.heap.size := e; omega)
       have hQ6 := hQ6.tch hT50 (fun e => by have : w.heap.size = w11.heap.size := e; omega)
       have hQ7 := hQ7.tch hT50 (fun e => by have : w1.heap.size = w11.heap.size := e; omega)
       have hQ8 := hQ8.tch hT50 (fun e => by have : w5.heap.size = w11.heap.size := e; omega)
       replace hOut : Blk w49 w11.heap.size 104 [.int .u64 (((bval i (gk 7 x y)) ||| pw i : Nat) : Int), .int .u64 (((bval i (gv 7 x y)) ||| (if true = true then pw i else 0) : Nat) : Int)] := hOut'
       refine op_nil ?_
       refine zR ?_
       refine zS [(18, .int .i64 ((i : Nat) : Int)), (19, .int .i64 (IntKind.i64.wrap (((i : Nat) : Int) + 1)))] ?_
       rw [show IntKind.i64.wrap (((i : Nat) : Int) + 1) = ((i : Nat) : Int) + 1 from wrap_i64 (by omega) (by omega)]
       refine fixR (y := ((i + 1 : Nat) : Int)) (by omega) ?_
       refine zS [(10, .int .i64 ((i + 1 : Nat) : Int))] ?_
       refine op_nil ?_
       refine ⟨_, ?_, i + 1, _, updL_self (by kernel_rfl), ?_, hT0, hQ6, hQ7, hQ8, (by rw [← bval_or i (gk 7 x y) true (by simp [gk, gv, bne, hc27, hb32, hb42, hb43, hc44]), ← bval_or i (gv 7 x y) true (by simp [gk, gv, bne, hc27, hb32, hb42, hb43, hc44]), if_pos rfl]; exact hOut), rfl⟩
       ·
        omega
       ·
        omega
      ·
       replace hc44 : y.2.testBit i = false := (hc44)
       refine zQ ?_
       refine zS [(71, .bool true), (72, .bool true), (73, .bool true), (74, .bool true), (75, .bool true), (76, .int .i64 7), (77, .bool false), (78, .bool false), (70, .bool false)] ?_
       refine zO false (fun h => nomatch h) (fun _ => ?_)
       refine zQ ?_
       refine zS [(87, .bool true), (88, .bool true), (89, .bool true), (90, .bool true), (91, .bool true), (92, .int .i64 7), (93, .bool true), (94, .bool true), (86, .bool true)] ?_
       refine zO true (fun _ => ?_) (fun h => nomatch h)
       refine zR ?_
       refine st (by rfl) (S_val (v := .agg #[.int .u64 ((bval i (gk 7 x y) : Nat) : Int), .int .u64 ((bval i (gv 7 x y) : Nat) : Int)]) (R_loadA [.int .u64 ((bval i (gk 7 x y) : Nat) : Int), .int .u64 ((bval i (gv 7 x y) : Nat) : Int)] (by kernel_rfl) (by kernel_rfl) (by kernel_rfl) (fun k u hk => by rw [hOut.cell]; exact get_part _ 0 _ k u rfl hk)) ?_)
       refine zS [(96, .int .i64 ((i : Nat) : Int)), (97, .bool false), (98, .bool false), (99, .bool (y.2.testBit i)), (100, .bool (y.2.testBit i))] ?_
       refine zC (with_ok (bval i (gk 7 x y)) (bval i (gv 7 x y)) i (y.2.testBit i) _ (by omega) (bval_u (by omega)) (bval_u (by omega))) ?_
       rintro _ w52 ⟨rfl, hT53⟩
       have hT0 := hT0.t0 hT53
       have hQ6 := hQ6.tch0 hT53
       have hQ7 := hQ7.tch0 hT53
       have hQ8 := hQ8.tch0 hT53
       have hOut := hOut.tch0 hT53
       refine st (by rfl) (S_storeA (b := w11.heap.size) (j := 0) (cs := [.int .u64 (((bval i (gk 7 x y)) ||| pw i : Nat) : Int), .int .u64 (((bval i (gv 7 x y)) ||| (if (y.2.testBit i) = true then pw i else 0) : Nat) : Int)]) (by kernel_rfl) (by kernel_rfl) (by kernel_rfl) (by simp [oneV]) hOut (by simp) fun w56 hT57 hs58 hOut' => ?_)
       have hT0 := (hT0).then hT57 (fun c e => by have : c = w11.heap.size := e; omega)
       have hQ6 := hQ6.tch hT57 (fun e => by have : w.heap.size = w11.heap.size := e; omega)
       have hQ7 := hQ7.tch hT57 (fun e => by have : w1.heap.size = w11.heap.size := e; omega)
       have hQ8 := hQ8.tch hT57 (fun e => by have : w5.heap.size = w11.heap.size := e; omega)
       replace hOut : Blk w56 w11.heap.size 104 [.int .u64 (((bval i (gk 7 x y)) ||| pw i : Nat) : Int), .int .u64 (((bval i (gv 7 x y)) ||| (if (y.2.testBit i) = true then pw i else 0) : Nat) : Int)] := hOut'
       refine op_nil ?_
       refine zR ?_
       refine zS [(18, .int .i64 ((i : Nat) : Int)), (19, .int .i64 (IntKind.i64.wrap (((i : Nat) : Int) + 1)))] ?_
       rw [show IntKind.i64.wrap (((i : Nat) : Int) + 1) = ((i : Nat) : Int) + 1 from wrap_i64 (by omega) (by omega)]
       refine fixR (y := ((i + 1 : Nat) : Int)) (by omega) ?_
       refine zS [(10, .int .i64 ((i + 1 : Nat) : Int))] ?_
       refine op_nil ?_
       refine ⟨_, ?_, i + 1, _, updL_self (by kernel_rfl), ?_, hT0, hQ6, hQ7, hQ8, (by rw [← bval_or i (gk 7 x y) true (by simp [gk, gv, bne, hc27, hb32, hb42, hb43, hc44]), ← bval_or i (gv 7 x y) (y.2.testBit i) (by simp [gk, gv, bne, hc27, hb32, hb42, hb43, hc44]), if_pos rfl]; exact hOut), rfl⟩
       ·
        omega
       ·
        omega
    ·
     replace hb42 : x.2.testBit i = true := (hb42)
     refine zS [(61, undef), (62, undef), (63, undef), (64, undef), (65, .bool true), (66, .bool true), (52, .bool true)] ?_
     refine zO true (fun _ => ?_) (fun h => nomatch h)
     refine zR ?_
     refine st (by rfl) (S_val (v := .agg #[.int .u64 ((bval i (gk 7 x y) : Nat) : Int), .int .u64 ((bval i (gv 7 x y) : Nat) : Int)]) (R_loadA [.int .u64 ((bval i (gk 7 x y) : Nat) : Int), .int .u64 ((bval i (gv 7 x y) : Nat) : Int)] (by kernel_rfl) (by kernel_rfl) (by kernel_rfl) (fun k u hk => by rw [hOut.cell]; exact get_part _ 0 _ k u rfl hk)) ?_)
     refine zS [(68, .int .i64 ((i : Nat) : Int))] ?_
     refine zC (with_ok (bval i (gk 7 x y)) (bval i (gv 7 x y)) i true _ (by omega) (bval_u (by omega)) (bval_u (by omega))) ?_
     rintro _ w59 ⟨rfl, hT60⟩
     have hT0 := hT0.t0 hT60
     have hQ6 := hQ6.tch0 hT60
     have hQ7 := hQ7.tch0 hT60
     have hQ8 := hQ8.tch0 hT60
     have hOut := hOut.tch0 hT60
     refine st (by rfl) (S_storeA (b := w11.heap.size) (j := 0) (cs := [.int .u64 (((bval i (gk 7 x y)) ||| pw i : Nat) : Int), .int .u64 (((bval i (gv 7 x y)) ||| (if true = true then pw i else 0) : Nat) : Int)]) (by kernel_rfl) (by kernel_rfl) (by kernel_rfl) (by simp [oneV]) hOut (by simp) fun w63 hT64 hs65 hOut' => ?_)
     have hT0 := (hT0).then hT64 (fun c e => by have : c = w11.heap.size := e; omega)
     have hQ6 := hQ6.tch hT64 (fun e => by have : w.heap.size = w11.heap.size := e; omega)
     have hQ7 := hQ7.tch hT64 (fun e => by have : w1.heap.size = w11.heap.size := e; omega)
     have hQ8 := hQ8.tch hT64 (fun e => by have : w5.heap.size = w11.heap.size := e; omega)
     replace hOut : Blk w63 w11.heap.size 104 [.int .u64 (((bval i (gk 7 x y)) ||| pw i : Nat) : Int), .int .u64 (((bval i (gv 7 x y)) ||| (if true = true then pw i else 0) : Nat) : Int)] := hOut'
     refine op_nil ?_
     refine zR ?_
     refine zS [(18, .int .i64 ((i : Nat) : Int)), (19, .int .i64 (IntKind.i64.wrap (((i : Nat) : Int) + 1)))] ?_
     rw [show IntKind.i64.wrap (((i : Nat) : Int) + 1) = ((i : Nat) : Int) + 1 from wrap_i64 (by omega) (by omega)]
     refine fixR (y := ((i + 1 : Nat) : Int)) (by omega) ?_
     refine zS [(10, .int .i64 ((i + 1 : Nat) : Int))] ?_
     refine op_nil ?_
     refine ⟨_, ?_, i + 1, _, updL_self (by kernel_rfl), ?_, hT0, hQ6, hQ7, hQ8, (by rw [← bval_or i (gk 7 x y) true (by simp [gk, gv, bne, hc27, hb32, hb42]), ← bval_or i (gv 7 x y) true (by simp [gk, gv, bne, hc27, hb32, hb42]), if_pos rfl]; exact hOut), rfl⟩
     ·
      omega
     ·
      omega
  ·
   replace hc27 : ((wd : Nat) : Int) ≤ ((i : Nat) : Int) := (Int.not_lt.1 (of_decide_eq_false hc27))
   refine W_exit ?_
   refine X_hit ?_
   refine zQ ?_
   refine st (by rfl) (S_val (v := .agg #[.int .u64 ((bval i (gk 7 x y) : Nat) : Int), .int .u64 ((bval i (gv 7 x y) : Nat) : Int)]) (R_loadA [.int .u64 ((bval i (gk 7 x y) : Nat) : Int), .int .u64 ((bval i (gv 7 x y) : Nat) : Int)] (by kernel_rfl) (by kernel_rfl) (by kernel_rfl) (fun k u hk => by rw [hOut.cell]; exact get_part _ 0 _ k u rfl hk)) ?_)
   refine st (by rfl) (S_storeA (b := w5.heap.size) (j := 0) (cs := [.int .u64 ((bval i (gk 7 x y) : Nat) : Int), .int .u64 ((bval i (gv 7 x y) : Nat) : Int)]) (by kernel_rfl) (by kernel_rfl) (by kernel_rfl) (by simp [oneV]) hQ8 (by simp) fun w66 hT67 hs68 hQ8' => ?_)
   have hT0 := (hT0).then hT67 (fun c e => by have : c = w5.heap.size := e; omega)
   have hQ6 := hQ6.tch hT67 (fun e => by have : w.heap.size = w5.heap.size := e; omega)
   have hQ7 := hQ7.tch hT67 (fun e => by have : w1.heap.size = w5.heap.size := e; omega)
   have hOut := hOut.tch hT67 (fun e => by have : w11.heap.size = w5.heap.size := e; omega)
   replace hQ8 : Blk w66 w5.heap.size 104 [.int .u64 ((bval i (gk 7 x y) : Nat) : Int), .int .u64 ((bval i (gv 7 x y) : Nat) : Int)] := hQ8'
   refine op_nil ?_
   refine W_ret ?_
   exact ⟨_, Res_cell (b := w5.heap.size) (cs := [.int .u64 ((bval i (gk 7 x y) : Nat) : Int), .int .u64 ((bval i (gv 7 x y) : Nat) : Int)]) (by rfl) (by kernel_rfl) (by kernel_rfl) hQ8 (by kernel_rfl) (by kernel_rfl), ⟨by rw [show i = wd by omega]; rfl, hT0⟩⟩

set_option maxRecDepth 100000 in
theorem rgate8_ok (wd : Nat) (x y : K)  (w : World) (hx : KI wd x) (hy : KI wd y) (hw : wd ≤ 64) : Ret Try.prog 103 [.int .i64 8, .int .i64 ((wd : Nat) : Int), .agg #[.int .u64 ((x.1 : Nat) : Int), .int .u64 ((x.2 : Nat) : Int)], .agg #[.int .u64 ((y.1 : Nat) : Int), .int .u64 ((y.2 : Nat) : Int)]] w fun v w' => v = .agg #[.int .u64 (((kgate 8 wd x y).1 : Nat) : Int), .int .u64 (((kgate 8 wd x y).2 : Nat) : Int)] ∧ Tch N0 w w' := by
 have ux1 := hx.u1 hw
 have ux2 := hx.u2 hw
 have uy1 := hy.u1 hw
 have uy2 := hy.u2 hw
 refine enter Try.func103 rfl rfl ?_
 refine zQ ?_
 refine st (by rfl) (S_new (v := .pointer (some ⟨w.heap.size, 0, none⟩)) (ob := .cells #[.int .u64 ((x.1 : Nat) : Int), .int .u64 ((x.2 : Nat) : Int)] 104) (by kernel_rfl) fun w1 hT2 hs3 hB4 => ?_)
 replace hB4 : Blk w1 (w.heap.size) 104 [.int .u64 ((x.1 : Nat) : Int), .int .u64 ((x.2 : Nat) : Int)] := hB4
 have hT0 := hT2
 have z9 := hT0.size
 have l10 := hB4.lt
 refine st (by rfl) (S_new (v := .pointer (some ⟨w1.heap.size, 0, none⟩)) (ob := .cells #[.int .u64 ((y.1 : Nat) : Int), .int .u64 ((y.2 : Nat) : Int)] 104) (by kernel_rfl) fun w5 hT6 hs7 hB8 => ?_)
 replace hB8 : Blk w5 (w1.heap.size) 104 [.int .u64 ((y.1 : Nat) : Int), .int .u64 ((y.2 : Nat) : Int)] := hB8
 have hT0 := hT0.t0 hT6
 have hB4 := hB4.tch0 hT6
 have z15 := hT0.size
 have l16 := hB4.lt
 have l17 := hB8.lt
 refine st (by rfl) (S_new (v := .pointer (some ⟨w5.heap.size, 0, none⟩)) (ob := .cells #[.int .u64 0, .int .u64 0] 104) (by kernel_rfl) fun w11 hT12 hs13 hB14 => ?_)
 replace hB14 : Blk w11 (w5.heap.size) 104 [.int .u64 0, .int .u64 0] := hB14
 have hT0 := hT0.t0 hT12
 have hB4 := hB4.tch0 hT12
 have hB8 := hB8.tch0 hT12
 refine op_nil ?_
 refine zQ ?_
 have z22 := hT0.size
 have l23 := hB4.lt
 have l24 := hB8.lt
 have l25 := hB14.lt
 refine st (by rfl) (S_new (v := .pointer (some ⟨w11.heap.size, 0, none⟩)) (ob := .cells #[.int .u64 0, .int .u64 0] 104) (by kernel_rfl) fun w18 hT19 hs20 hB21 => ?_)
 replace hB21 : Blk w18 (w11.heap.size) 104 [.int .u64 0, .int .u64 0] := hB21
 have hT0 := hT0.t0 hT19
 have hB4 := hB4.tch0 hT19
 have hB8 := hB8.tch0 hT19
 have hB14 := hB14.tch0 hT19
 refine op_nil ?_
 refine W_seq ?_
 refine zQ ?_
 refine zS [(10, .int .i64 0)] ?_
 refine op_nil ?_
 refine W_block ?_
 refine W_loop (fun m ρ w' => ∃ (i : Nat) (ρ0 : Env), ρ = updL ρ0 [(0, .int .i64 8), (1, .int .i64 ((wd : Nat) : Int)), (2, .agg #[.int .u64 ((x.1 : Nat) : Int), .int .u64 ((x.2 : Nat) : Int)]), (3, .agg #[.int .u64 ((y.1 : Nat) : Int), .int .u64 ((y.2 : Nat) : Int)]), (6, .pointer (some ⟨w.heap.size, 0, none⟩)), (7, .pointer (some ⟨w1.heap.size, 0, none⟩)), (8, .pointer (some ⟨w5.heap.size, 0, none⟩)), (9, .pointer (some ⟨w11.heap.size, 0, none⟩)), (10, .int .i64 ((i : Nat) : Int))] ∧ (i ≤ wd) ∧ Tch N0 w w' ∧ Blk w' (w.heap.size) 104 [.int .u64 ((x.1 : Nat) : Int), .int .u64 ((x.2 : Nat) : Int)] ∧ Blk w' (w1.heap.size) 104 [.int .u64 ((y.1 : Nat) : Int), .int .u64 ((y.2 : Nat) : Int)] ∧ Blk w' (w5.heap.size) 104 [.int .u64 0, .int .u64 0] ∧ Blk w' (w11.heap.size) 104 [.int .u64 ((bval i (gk 8 x y) : Nat) : Int), .int .u64 ((bval i (gv 8 x y) : Nat) : Int)] ∧ m = wd - i) (m := wd - 0) ?_ ?_
 ·
  refine ⟨0, _, updL_self (by kernel_rfl), by omega, hT0, hB4, hB8, hB14, hB21, rfl⟩
 ·
  rintro m ρ w26 ⟨i, ρ, rfl, hi, hT0, hQ6, hQ7, hQ8, hOut, rfl⟩
  refine W_seq ?_
  refine zQ ?_
  refine zS [(15, .int .i64 ((i : Nat) : Int)), (16, .int .i64 ((wd : Nat) : Int)), (17, .bool (decide (((i : Nat) : Int) < ((wd : Nat) : Int))))] ?_
  refine zO (decide (((i : Nat) : Int) < ((wd : Nat) : Int))) (fun hc27 => ?_) (fun hc27 => ?_)
  ·
   replace hc27 : ((i : Nat) : Int) < ((wd : Nat) : Int) := (of_decide_eq_true hc27)
   refine W_skip ?_
   refine W_seq ?_
   refine W_block ?_
   refine zQ ?_
   refine st (by rfl) (S_val (v := .agg #[.int .u64 ((x.1 : Nat) : Int), .int .u64 ((x.2 : Nat) : Int)]) (R_loadA [.int .u64 ((x.1 : Nat) : Int), .int .u64 ((x.2 : Nat) : Int)] (by kernel_rfl) (by kernel_rfl) (by kernel_rfl) (fun k u hk => by rw [hQ6.cell]; exact get_part _ 0 _ k u rfl hk)) ?_)
   refine zS [(22, .int .i64 ((i : Nat) : Int))] ?_
   refine zC (rbit2_ok x.1 x.2 i _ (by omega) ux1 ux2) ?_
   rintro _ w28 ⟨rfl, hT29⟩
   have hT0 := hT0.t0 hT29
   have hQ6 := hQ6.tch0 hT29
   have hQ7 := hQ7.tch0 hT29
   have hQ8 := hQ8.tch0 hT29
   have hOut := hOut.tch0 hT29
   refine zS [(20, .tuple #[.bool (x.1.testBit i), .bool (x.2.testBit i)]), (24, .bool (x.1.testBit i)), (25, .bool (x.2.testBit i)), (11, .bool (x.1.testBit i)), (12, .bool (x.2.testBit i))] ?_
   refine op_nil ?_
   refine zQ ?_
   refine st (by rfl) (S_val (v := .agg #[.int .u64 ((y.1 : Nat) : Int), .int .u64 ((y.2 : Nat) : Int)]) (R_loadA [.int .u64 ((y.1 : Nat) : Int), .int .u64 ((y.2 : Nat) : Int)] (by kernel_rfl) (by kernel_rfl) (by kernel_rfl) (fun k u hk => by rw [hQ7.cell]; exact get_part _ 0 _ k u rfl hk)) ?_)
   refine zS [(28, .int .i64 ((i : Nat) : Int))] ?_
   refine zC (rbit2_ok y.1 y.2 i _ (by omega) uy1 uy2) ?_
   rintro _ w30 ⟨rfl, hT31⟩
   have hT0 := hT0.t0 hT31
   have hQ6 := hQ6.tch0 hT31
   have hQ7 := hQ7.tch0 hT31
   have hQ8 := hQ8.tch0 hT31
   have hOut := hOut.tch0 hT31
   refine zS [(26, .tuple #[.bool (y.1.testBit i), .bool (y.2.testBit i)]), (30, .bool (y.1.testBit i)), (31, .bool (y.2.testBit i)), (13, .bool (y.1.testBit i)), (14, .bool (y.2.testBit i))] ?_
   refine op_nil ?_
   refine W_block ?_
   refine zQ ?_
   refine zS [(33, .int .i64 8), (34, .bool false), (35, .bool false), (36, undef), (37, undef), (38, undef), (39, undef), (40, undef), (41, undef), (42, undef), (43, undef), (44, undef), (45, undef), (46, undef), (47, undef), (48, .bool false), (32, .bool false)] ?_
   refine zO false (fun h => nomatch h) (fun _ => ?_)
   refine zQ ?_
   refine zS [(53, .int .i64 8), (54, .bool false), (55, .bool false), (56, undef), (57, undef), (58, undef), (59, undef), (60, undef), (61, undef), (62, undef), (63, undef), (64, undef), (65, undef), (66, .bool false), (52, .bool false)] ?_
   refine zO false (fun h => nomatch h) (fun _ => ?_)
   refine zQ ?_
   refine zS [(71, .bool (x.1.testBit i)), (72, .bool (x.1.testBit i))] ?_
   cases hb32 : x.1.testBit i
   ·
    replace hb32 : x.1.testBit i = false := (hb32)
    refine zS [(73, undef), (74, .bool false), (75, .bool false), (76, undef), (77, undef), (78, .bool false), (70, .bool false)] ?_
    refine zO false (fun h => nomatch h) (fun _ => ?_)
    refine zQ ?_
    refine zS [(87, .bool false), (88, .bool false), (89, undef), (90, .bool false), (91, .bool false), (92, undef), (93, undef), (94, .bool false), (86, .bool false)] ?_
    refine zO false (fun h => nomatch h) (fun _ => ?_)
    refine zQ ?_
    refine zS [(103, .bool false), (104, .bool false), (105, undef), (106, .bool false), (102, .bool false)] ?_
    refine zO false (fun h => nomatch h) (fun _ => ?_)
    refine W_skip ?_
    refine zR ?_
    refine zS [(18, .int .i64 ((i : Nat) : Int)), (19, .int .i64 (IntKind.i64.wrap (((i : Nat) : Int) + 1)))] ?_
    rw [show IntKind.i64.wrap (((i : Nat) : Int) + 1) = ((i : Nat) : Int) + 1 from wrap_i64 (by omega) (by omega)]
    refine fixR (y := ((i + 1 : Nat) : Int)) (by omega) ?_
    refine zS [(10, .int .i64 ((i + 1 : Nat) : Int))] ?_
    refine op_nil ?_
    refine ⟨_, ?_, i + 1, _, updL_self (by kernel_rfl), ?_, hT0, hQ6, hQ7, hQ8, (by rw [← bval_not (f := (gk 8 x y)) (by simp [gk, gv, bne, hc27, hb32]), ← bval_not (f := (gv 8 x y)) (by simp [gk, gv, bne, hc27, hb32])]; exact hOut), rfl⟩
    ·
     omega
    ·
     omega
   ·
    replace hb32 : x.1.testBit i = true := (hb32)
    refine zS [(73, .bool (y.1.testBit i)), (74, .bool (y.1.testBit i)), (75, .bool (y.1.testBit i))] ?_
    cases hb33 : y.1.testBit i
    ·
     replace hb33 : y.1.testBit i = false := (hb33)
     refine zS [(76, undef), (77, undef), (78, .bool false), (70, .bool false)] ?_
     refine zO false (fun h => nomatch h) (fun _ => ?_)
     refine zQ ?_
     refine zS [(87, .bool true), (88, .bool true), (89, .bool false), (90, .bool false), (91, .bool false), (92, undef), (93, undef), (94, .bool false), (86, .bool false)] ?_
     refine zO false (fun h => nomatch h) (fun _ => ?_)
     refine zQ ?_
     refine zS [(103, .bool true), (104, .bool true), (105, .bool false), (106, .bool false), (102, .bool false)] ?_
     refine zO false (fun h => nomatch h) (fun _ => ?_)
     refine W_skip ?_
     refine zR ?_
     refine zS [(18, .int .i64 ((i : Nat) : Int)), (19, .int .i64 (IntKind.i64.wrap (((i : Nat) : Int) + 1)))] ?_
     rw [show IntKind.i64.wrap (((i : Nat) : Int) + 1) = ((i : Nat) : Int) + 1 from wrap_i64 (by omega) (by omega)]
     refine fixR (y := ((i + 1 : Nat) : Int)) (by omega) ?_
     refine zS [(10, .int .i64 ((i + 1 : Nat) : Int))] ?_
     refine op_nil ?_
     refine ⟨_, ?_, i + 1, _, updL_self (by kernel_rfl), ?_, hT0, hQ6, hQ7, hQ8, (by rw [← bval_not (f := (gk 8 x y)) (by simp [gk, gv, bne, hc27, hb32, hb33]), ← bval_not (f := (gv 8 x y)) (by simp [gk, gv, bne, hc27, hb32, hb33])]; exact hOut), rfl⟩
     ·
      omega
     ·
      omega
    ·
     replace hb33 : y.1.testBit i = true := (hb33)
     refine zS [(76, .int .i64 8), (77, .bool false), (78, .bool false), (70, .bool false)] ?_
     refine zO false (fun h => nomatch h) (fun _ => ?_)
     refine zQ ?_
     refine zS [(87, .bool true), (88, .bool true), (89, .bool true), (90, .bool true), (91, .bool true), (92, .int .i64 8), (93, .bool false), (94, .bool false), (86, .bool false)] ?_
     refine zO false (fun h => nomatch h) (fun _ => ?_)
     refine zQ ?_
     refine zS [(103, .bool true), (104, .bool true), (105, .bool true), (106, .bool true), (102, .bool true)] ?_
     refine zO true (fun _ => ?_) (fun h => nomatch h)
     refine zR ?_
     refine st (by rfl) (S_val (v := .agg #[.int .u64 ((bval i (gk 8 x y) : Nat) : Int), .int .u64 ((bval i (gv 8 x y) : Nat) : Int)]) (R_loadA [.int .u64 ((bval i (gk 8 x y) : Nat) : Int), .int .u64 ((bval i (gv 8 x y) : Nat) : Int)] (by kernel_rfl) (by kernel_rfl) (by kernel_rfl) (fun k u hk => by rw [hOut.cell]; exact get_part _ 0 _ k u rfl hk)) ?_)
     refine zS [(108, .int .i64 ((i : Nat) : Int)), (109, .bool (x.2.testBit i)), (110, .bool (y.2.testBit i)), (111, .bool (!((x.2.testBit i) == (y.2.testBit i))))] ?_
     refine zC (with_ok (bval i (gk 8 x y)) (bval i (gv 8 x y)) i (!((x.2.testBit i) == (y.2.testBit i))) _ (by omega) (bval_u (by omega)) (bval_u (by omega))) ?_
     rintro _ w34 ⟨rfl, hT35⟩
     have hT0 := hT0.t0 hT35
     have hQ6 := hQ6.tch0 hT35
     have hQ7 := hQ7.tch0 hT35
     have hQ8 := hQ8.tch0 hT35
     have hOut := hOut.tch0 hT35
     refine st (by rfl) (S_storeA (b := w11.heap.size) (j := 0) (cs := [.int .u64 (((bval i (gk 8 x y)) ||| pw i : Nat) : Int), .int .u64 (((bval i (gv 8 x y)) ||| (if (!((x.2.testBit i) == (y.2.testBit i))) = true then pw i else 0) : Nat) : Int)]) (by kernel_rfl) (by kernel_rfl) (by kernel_rfl) (by simp [oneV]) hOut (by simp) fun w38 hT39 hs40 hOut' => ?_)
     have hT0 := (hT0).then hT39 (fun c e => by have : c = w11.heap.size := e; omega)
     have hQ6 := hQ6.tch hT39 (fun e => by have : w.heap.size = w11.heap.size := e; omega)
     have hQ7 := hQ7.tch hT39 (fun e => by have : w1.heap.size = w11.heap.size := e; omega)
     have hQ8 := hQ8.tch hT39 (fun e => by have : w5.heap.size = w11.heap.size := e; omega)
     replace hOut : Blk w38 w11.heap.size 104 [.int .u64 (((bval i (gk 8 x y)) ||| pw i : Nat) : Int), .int .u64 (((bval i (gv 8 x y)) ||| (if (!((x.2.testBit i) == (y.2.testBit i))) = true then pw i else 0) : Nat) : Int)] := hOut'
     refine op_nil ?_
     refine zR ?_
     refine zS [(18, .int .i64 ((i : Nat) : Int)), (19, .int .i64 (IntKind.i64.wrap (((i : Nat) : Int) + 1)))] ?_
     rw [show IntKind.i64.wrap (((i : Nat) : Int) + 1) = ((i : Nat) : Int) + 1 from wrap_i64 (by omega) (by omega)]
     refine fixR (y := ((i + 1 : Nat) : Int)) (by omega) ?_
     refine zS [(10, .int .i64 ((i + 1 : Nat) : Int))] ?_
     refine op_nil ?_
     refine ⟨_, ?_, i + 1, _, updL_self (by kernel_rfl), ?_, hT0, hQ6, hQ7, hQ8, (by rw [← bval_or i (gk 8 x y) true (by simp [gk, gv, bne, hc27, hb32, hb33]), ← bval_or i (gv 8 x y) (!((x.2.testBit i) == (y.2.testBit i))) (by simp [gk, gv, bne, hc27, hb32, hb33]), if_pos rfl]; exact hOut), rfl⟩
     ·
      omega
     ·
      omega
  ·
   replace hc27 : ((wd : Nat) : Int) ≤ ((i : Nat) : Int) := (Int.not_lt.1 (of_decide_eq_false hc27))
   refine W_exit ?_
   refine X_hit ?_
   refine zQ ?_
   refine st (by rfl) (S_val (v := .agg #[.int .u64 ((bval i (gk 8 x y) : Nat) : Int), .int .u64 ((bval i (gv 8 x y) : Nat) : Int)]) (R_loadA [.int .u64 ((bval i (gk 8 x y) : Nat) : Int), .int .u64 ((bval i (gv 8 x y) : Nat) : Int)] (by kernel_rfl) (by kernel_rfl) (by kernel_rfl) (fun k u hk => by rw [hOut.cell]; exact get_part _ 0 _ k u rfl hk)) ?_)
   refine st (by rfl) (S_storeA (b := w5.heap.size) (j := 0) (cs := [.int .u64 ((bval i (gk 8 x y) : Nat) : Int), .int .u64 ((bval i (gv 8 x y) : Nat) : Int)]) (by kernel_rfl) (by kernel_rfl) (by kernel_rfl) (by simp [oneV]) hQ8 (by simp) fun w41 hT42 hs43 hQ8' => ?_)
   have hT0 := (hT0).then hT42 (fun c e => by have : c = w5.heap.size := e; omega)
   have hQ6 := hQ6.tch hT42 (fun e => by have : w.heap.size = w5.heap.size := e; omega)
   have hQ7 := hQ7.tch hT42 (fun e => by have : w1.heap.size = w5.heap.size := e; omega)
   have hOut := hOut.tch hT42 (fun e => by have : w11.heap.size = w5.heap.size := e; omega)
   replace hQ8 : Blk w41 w5.heap.size 104 [.int .u64 ((bval i (gk 8 x y) : Nat) : Int), .int .u64 ((bval i (gv 8 x y) : Nat) : Int)] := hQ8'
   refine op_nil ?_
   refine W_ret ?_
   exact ⟨_, Res_cell (b := w5.heap.size) (cs := [.int .u64 ((bval i (gk 8 x y) : Nat) : Int), .int .u64 ((bval i (gv 8 x y) : Nat) : Int)]) (by rfl) (by kernel_rfl) (by kernel_rfl) hQ8 (by kernel_rfl) (by kernel_rfl), ⟨by rw [show i = wd by omega]; rfl, hT0⟩⟩

set_option maxRecDepth 100000 in
theorem rsame_ok (wd : Nat) (x y : K)  (w : World) (hx : KI wd x) (hy : KI wd y) (hw : wd ≤ 64) : Ret Try.prog 84 [.int .i64 ((wd : Nat) : Int), .agg #[.int .u64 ((x.1 : Nat) : Int), .int .u64 ((x.2 : Nat) : Int)], .agg #[.int .u64 ((y.1 : Nat) : Int), .int .u64 ((y.2 : Nat) : Int)]] w fun v w' => v = .agg #[.int .u64 (((ksame wd x y).1 : Nat) : Int), .int .u64 (((ksame wd x y).2 : Nat) : Int)] ∧ Tch N0 w w' := by
 have ux1 := hx.u1 hw
 have ux2 := hx.u2 hw
 have uy1 := hy.u1 hw
 have uy2 := hy.u2 hw
 refine enter Try.func84 rfl rfl ?_
 refine zQ ?_
 refine st (by rfl) (S_new (v := .pointer (some ⟨w.heap.size, 0, none⟩)) (ob := .cells #[.int .u64 ((x.1 : Nat) : Int), .int .u64 ((x.2 : Nat) : Int)] 104) (by kernel_rfl) fun w1 hT2 hs3 hB4 => ?_)
 replace hB4 : Blk w1 (w.heap.size) 104 [.int .u64 ((x.1 : Nat) : Int), .int .u64 ((x.2 : Nat) : Int)] := hB4
 have hT0 := hT2
 have z9 := hT0.size
 have l10 := hB4.lt
 refine st (by rfl) (S_new (v := .pointer (some ⟨w1.heap.size, 0, none⟩)) (ob := .cells #[.int .u64 ((y.1 : Nat) : Int), .int .u64 ((y.2 : Nat) : Int)] 104) (by kernel_rfl) fun w5 hT6 hs7 hB8 => ?_)
 replace hB8 : Blk w5 (w1.heap.size) 104 [.int .u64 ((y.1 : Nat) : Int), .int .u64 ((y.2 : Nat) : Int)] := hB8
 have hT0 := hT0.t0 hT6
 have hB4 := hB4.tch0 hT6
 have z15 := hT0.size
 have l16 := hB4.lt
 have l17 := hB8.lt
 refine st (by rfl) (S_new (v := .pointer (some ⟨w5.heap.size, 0, none⟩)) (ob := .cells #[.int .u64 0, .int .u64 0] 104) (by kernel_rfl) fun w11 hT12 hs13 hB14 => ?_)
 replace hB14 : Blk w11 (w5.heap.size) 104 [.int .u64 0, .int .u64 0] := hB14
 have hT0 := hT0.t0 hT12
 have hB4 := hB4.tch0 hT12
 have hB8 := hB8.tch0 hT12
 refine op_nil ?_
 refine zQ ?_
 have z22 := hT0.size
 have l23 := hB4.lt
 have l24 := hB8.lt
 have l25 := hB14.lt
 refine st (by rfl) (S_new (v := .pointer (some ⟨w11.heap.size, 0, none⟩)) (ob := .cells #[.int .u64 0, .int .u64 0] 104) (by kernel_rfl) fun w18 hT19 hs20 hB21 => ?_)
 replace hB21 : Blk w18 (w11.heap.size) 104 [.int .u64 0, .int .u64 0] := hB21
 have hT0 := hT0.t0 hT19
 have hB4 := hB4.tch0 hT19
 have hB8 := hB8.tch0 hT19
 have hB14 := hB14.tch0 hT19
 refine op_nil ?_
 refine W_seq ?_
 refine zQ ?_
 refine zS [(8, .int .i64 0)] ?_
 refine op_nil ?_
 refine W_block ?_
 refine W_loop (fun m ρ w' => ∃ (i : Nat) (ρ0 : Env), ρ = updL ρ0 [(0, .int .i64 ((wd : Nat) : Int)), (1, .agg #[.int .u64 ((x.1 : Nat) : Int), .int .u64 ((x.2 : Nat) : Int)]), (2, .agg #[.int .u64 ((y.1 : Nat) : Int), .int .u64 ((y.2 : Nat) : Int)]), (4, .pointer (some ⟨w.heap.size, 0, none⟩)), (5, .pointer (some ⟨w1.heap.size, 0, none⟩)), (6, .pointer (some ⟨w5.heap.size, 0, none⟩)), (7, .pointer (some ⟨w11.heap.size, 0, none⟩)), (8, .int .i64 ((i : Nat) : Int))] ∧ (i ≤ wd) ∧ Tch N0 w w' ∧ Blk w' (w.heap.size) 104 [.int .u64 ((x.1 : Nat) : Int), .int .u64 ((x.2 : Nat) : Int)] ∧ Blk w' (w1.heap.size) 104 [.int .u64 ((y.1 : Nat) : Int), .int .u64 ((y.2 : Nat) : Int)] ∧ Blk w' (w5.heap.size) 104 [.int .u64 0, .int .u64 0] ∧ Blk w' (w11.heap.size) 104 [.int .u64 ((bval i (ksmk x y) : Nat) : Int), .int .u64 ((bval i (ksmv x y) : Nat) : Int)] ∧ m = wd - i) (m := wd - 0) ?_ ?_
 ·
  refine ⟨0, _, updL_self (by kernel_rfl), by omega, hT0, hB4, hB8, hB14, hB21, rfl⟩
 ·
  rintro m ρ w26 ⟨i, ρ, rfl, hi, hT0, hQ4, hQ5, hQ6, hOut, rfl⟩
  refine W_seq ?_
  refine zQ ?_
  refine zS [(13, .int .i64 ((i : Nat) : Int)), (14, .int .i64 ((wd : Nat) : Int)), (15, .bool (decide (((i : Nat) : Int) < ((wd : Nat) : Int))))] ?_
  refine zO (decide (((i : Nat) : Int) < ((wd : Nat) : Int))) (fun hc27 => ?_) (fun hc27 => ?_)
  ·
   replace hc27 : ((i : Nat) : Int) < ((wd : Nat) : Int) := (of_decide_eq_true hc27)
   refine W_skip ?_
   refine W_seq ?_
   refine W_block ?_
   refine zQ ?_
   refine st (by rfl) (S_val (v := .agg #[.int .u64 ((x.1 : Nat) : Int), .int .u64 ((x.2 : Nat) : Int)]) (R_loadA [.int .u64 ((x.1 : Nat) : Int), .int .u64 ((x.2 : Nat) : Int)] (by kernel_rfl) (by kernel_rfl) (by kernel_rfl) (fun k u hk => by rw [hQ4.cell]; exact get_part _ 0 _ k u rfl hk)) ?_)
   refine zS [(20, .int .i64 ((i : Nat) : Int))] ?_
   refine zC (rbit2_ok x.1 x.2 i _ (by omega) ux1 ux2) ?_
   rintro _ w28 ⟨rfl, hT29⟩
   have hT0 := hT0.t0 hT29
   have hQ4 := hQ4.tch0 hT29
   have hQ5 := hQ5.tch0 hT29
   have hQ6 := hQ6.tch0 hT29
   have hOut := hOut.tch0 hT29
   refine zS [(18, .tuple #[.bool (x.1.testBit i), .bool (x.2.testBit i)]), (22, .bool (x.1.testBit i)), (23, .bool (x.2.testBit i)), (9, .bool (x.1.testBit i)), (10, .bool (x.2.testBit i))] ?_
   refine op_nil ?_
   refine zQ ?_
   refine st (by rfl) (S_val (v := .agg #[.int .u64 ((y.1 : Nat) : Int), .int .u64 ((y.2 : Nat) : Int)]) (R_loadA [.int .u64 ((y.1 : Nat) : Int), .int .u64 ((y.2 : Nat) : Int)] (by kernel_rfl) (by kernel_rfl) (by kernel_rfl) (fun k u hk => by rw [hQ5.cell]; exact get_part _ 0 _ k u rfl hk)) ?_)
   refine zS [(26, .int .i64 ((i : Nat) : Int))] ?_
   refine zC (rbit2_ok y.1 y.2 i _ (by omega) uy1 uy2) ?_
   rintro _ w30 ⟨rfl, hT31⟩
   have hT0 := hT0.t0 hT31
   have hQ4 := hQ4.tch0 hT31
   have hQ5 := hQ5.tch0 hT31
   have hQ6 := hQ6.tch0 hT31
   have hOut := hOut.tch0 hT31
   refine zS [(24, .tuple #[.bool (y.1.testBit i), .bool (y.2.testBit i)]), (28, .bool (y.1.testBit i)), (29, .bool (y.2.testBit i)), (11, .bool (y.1.testBit i)), (12, .bool (y.2.testBit i))] ?_
   refine op_nil ?_
   refine zQ ?_
   refine zS [(30, .bool (x.1.testBit i)), (31, .bool (x.1.testBit i))] ?_
   cases hb32 : x.1.testBit i
   ·
    replace hb32 : x.1.testBit i = false := (hb32)
    refine zS [(32, undef), (33, .bool false), (34, .bool false), (35, undef), (36, undef), (37, undef), (38, .bool false)] ?_
    refine zO false (fun h => nomatch h) (fun _ => ?_)
    refine W_skip ?_
    refine zR ?_
    refine zS [(16, .int .i64 ((i : Nat) : Int)), (17, .int .i64 (IntKind.i64.wrap (((i : Nat) : Int) + 1)))] ?_
    rw [show IntKind.i64.wrap (((i : Nat) : Int) + 1) = ((i : Nat) : Int) + 1 from wrap_i64 (by omega) (by omega)]
    refine fixR (y := ((i + 1 : Nat) : Int)) (by omega) ?_
    refine zS [(8, .int .i64 ((i + 1 : Nat) : Int))] ?_
    refine op_nil ?_
    refine ⟨_, ?_, i + 1, _, updL_self (by kernel_rfl), ?_, hT0, hQ4, hQ5, hQ6, (by rw [← bval_not (f := (ksmk x y)) (by simp [ksmk, ksmv, hc27, hb32]), ← bval_not (f := (ksmv x y)) (by simp [ksmk, ksmv, hc27, hb32])]; exact hOut), rfl⟩
    ·
     omega
    ·
     omega
   ·
    replace hb32 : x.1.testBit i = true := (hb32)
    refine zS [(32, .bool (y.1.testBit i)), (33, .bool (y.1.testBit i)), (34, .bool (y.1.testBit i))] ?_
    cases hb33 : y.1.testBit i
    ·
     replace hb33 : y.1.testBit i = false := (hb33)
     refine zS [(35, undef), (36, undef), (37, undef), (38, .bool false)] ?_
     refine zO false (fun h => nomatch h) (fun _ => ?_)
     refine W_skip ?_
     refine zR ?_
     refine zS [(16, .int .i64 ((i : Nat) : Int)), (17, .int .i64 (IntKind.i64.wrap (((i : Nat) : Int) + 1)))] ?_
     rw [show IntKind.i64.wrap (((i : Nat) : Int) + 1) = ((i : Nat) : Int) + 1 from wrap_i64 (by omega) (by omega)]
     refine fixR (y := ((i + 1 : Nat) : Int)) (by omega) ?_
     refine zS [(8, .int .i64 ((i + 1 : Nat) : Int))] ?_
     refine op_nil ?_
     refine ⟨_, ?_, i + 1, _, updL_self (by kernel_rfl), ?_, hT0, hQ4, hQ5, hQ6, (by rw [← bval_not (f := (ksmk x y)) (by simp [ksmk, ksmv, hc27, hb32, hb33]), ← bval_not (f := (ksmv x y)) (by simp [ksmk, ksmv, hc27, hb32, hb33])]; exact hOut), rfl⟩
     ·
      omega
     ·
      omega
    ·
     replace hb33 : y.1.testBit i = true := (hb33)
     refine zS [(35, .bool (x.2.testBit i)), (36, .bool (y.2.testBit i)), (37, .bool ((x.2.testBit i) == (y.2.testBit i))), (38, .bool ((x.2.testBit i) == (y.2.testBit i)))] ?_
     refine zO ((x.2.testBit i) == (y.2.testBit i)) (fun hc34 => ?_) (fun hc34 => ?_)
     ·
      replace hc34 : x.2.testBit i = y.2.testBit i := (eq_of_beq hc34)
      refine zR ?_
      refine st (by rfl) (S_val (v := .agg #[.int .u64 ((bval i (ksmk x y) : Nat) : Int), .int .u64 ((bval i (ksmv x y) : Nat) : Int)]) (R_loadA [.int .u64 ((bval i (ksmk x y) : Nat) : Int), .int .u64 ((bval i (ksmv x y) : Nat) : Int)] (by kernel_rfl) (by kernel_rfl) (by kernel_rfl) (fun k u hk => by rw [hOut.cell]; exact get_part _ 0 _ k u rfl hk)) ?_)
      refine zS [(40, .int .i64 ((i : Nat) : Int)), (41, .bool (x.2.testBit i))] ?_
      refine zC (with_ok (bval i (ksmk x y)) (bval i (ksmv x y)) i (x.2.testBit i) _ (by omega) (bval_u (by omega)) (bval_u (by omega))) ?_
      rintro _ w35 ⟨rfl, hT36⟩
      have hT0 := hT0.t0 hT36
      have hQ4 := hQ4.tch0 hT36
      have hQ5 := hQ5.tch0 hT36
      have hQ6 := hQ6.tch0 hT36
      have hOut := hOut.tch0 hT36
      refine st (by rfl) (S_storeA (b := w11.heap.size) (j := 0) (cs := [.int .u64 (((bval i (ksmk x y)) ||| pw i : Nat) : Int), .int .u64 (((bval i (ksmv x y)) ||| (if (x.2.testBit i) = true then pw i else 0) : Nat) : Int)]) (by kernel_rfl) (by kernel_rfl) (by kernel_rfl) (by simp [oneV]) hOut (by simp) fun w39 hT40 hs41 hOut' => ?_)
      have hT0 := (hT0).then hT40 (fun c e => by have : c = w11.heap.size := e; omega)
      have hQ4 := hQ4.tch hT40 (fun e => by have : w.heap.size = w11.heap.size := e; omega)
      have hQ5 := hQ5.tch hT40 (fun e => by have : w1.heap.size = w11.heap.size := e; omega)
      have hQ6 := hQ6.tch hT40 (fun e => by have : w5.heap.size = w11.heap.size := e; omega)
      replace hOut : Blk w39 w11.heap.size 104 [.int .u64 (((bval i (ksmk x y)) ||| pw i : Nat) : Int), .int .u64 (((bval i (ksmv x y)) ||| (if (x.2.testBit i) = true then pw i else 0) : Nat) : Int)] := hOut'
      refine op_nil ?_
      refine zR ?_
      refine zS [(16, .int .i64 ((i : Nat) : Int)), (17, .int .i64 (IntKind.i64.wrap (((i : Nat) : Int) + 1)))] ?_
      rw [show IntKind.i64.wrap (((i : Nat) : Int) + 1) = ((i : Nat) : Int) + 1 from wrap_i64 (by omega) (by omega)]
      refine fixR (y := ((i + 1 : Nat) : Int)) (by omega) ?_
      refine zS [(8, .int .i64 ((i + 1 : Nat) : Int))] ?_
      refine op_nil ?_
      refine ⟨_, ?_, i + 1, _, updL_self (by kernel_rfl), ?_, hT0, hQ4, hQ5, hQ6, (by rw [← bval_or i (ksmk x y) true (by simp [ksmk, ksmv, hc27, hb32, hb33, hc34]), ← bval_or i (ksmv x y) (x.2.testBit i) (by simp [ksmk, ksmv, hc27, hb32, hb33, hc34]), if_pos rfl]; exact hOut), rfl⟩
      ·
       omega
      ·
       omega
     ·
      replace hc34 : (x.2.testBit i) ≠ (y.2.testBit i) := (ne_of_beq_false hc34)
      refine W_skip ?_
      refine zR ?_
      refine zS [(16, .int .i64 ((i : Nat) : Int)), (17, .int .i64 (IntKind.i64.wrap (((i : Nat) : Int) + 1)))] ?_
      rw [show IntKind.i64.wrap (((i : Nat) : Int) + 1) = ((i : Nat) : Int) + 1 from wrap_i64 (by omega) (by omega)]
      refine fixR (y := ((i + 1 : Nat) : Int)) (by omega) ?_
      refine zS [(8, .int .i64 ((i + 1 : Nat) : Int))] ?_
      refine op_nil ?_
      refine ⟨_, ?_, i + 1, _, updL_self (by kernel_rfl), ?_, hT0, hQ4, hQ5, hQ6, (by rw [← bval_not (f := (ksmk x y)) (by simp [ksmk, ksmv, hc27, hb32, hb33, hc34]), ← bval_not (f := (ksmv x y)) (by simp [ksmk, ksmv, hc27, hb32, hb33, hc34])]; exact hOut), rfl⟩
      ·
       omega
      ·
       omega
  ·
   replace hc27 : ((wd : Nat) : Int) ≤ ((i : Nat) : Int) := (Int.not_lt.1 (of_decide_eq_false hc27))
   refine W_exit ?_
   refine X_hit ?_
   refine zQ ?_
   refine st (by rfl) (S_val (v := .agg #[.int .u64 ((bval i (ksmk x y) : Nat) : Int), .int .u64 ((bval i (ksmv x y) : Nat) : Int)]) (R_loadA [.int .u64 ((bval i (ksmk x y) : Nat) : Int), .int .u64 ((bval i (ksmv x y) : Nat) : Int)] (by kernel_rfl) (by kernel_rfl) (by kernel_rfl) (fun k u hk => by rw [hOut.cell]; exact get_part _ 0 _ k u rfl hk)) ?_)
   refine st (by rfl) (S_storeA (b := w5.heap.size) (j := 0) (cs := [.int .u64 ((bval i (ksmk x y) : Nat) : Int), .int .u64 ((bval i (ksmv x y) : Nat) : Int)]) (by kernel_rfl) (by kernel_rfl) (by kernel_rfl) (by simp [oneV]) hQ6 (by simp) fun w42 hT43 hs44 hQ6' => ?_)
   have hT0 := (hT0).then hT43 (fun c e => by have : c = w5.heap.size := e; omega)
   have hQ4 := hQ4.tch hT43 (fun e => by have : w.heap.size = w5.heap.size := e; omega)
   have hQ5 := hQ5.tch hT43 (fun e => by have : w1.heap.size = w5.heap.size := e; omega)
   have hOut := hOut.tch hT43 (fun e => by have : w11.heap.size = w5.heap.size := e; omega)
   replace hQ6 : Blk w42 w5.heap.size 104 [.int .u64 ((bval i (ksmk x y) : Nat) : Int), .int .u64 ((bval i (ksmv x y) : Nat) : Int)] := hQ6'
   refine op_nil ?_
   refine W_ret ?_
   exact ⟨_, Res_cell (b := w5.heap.size) (cs := [.int .u64 ((bval i (ksmk x y) : Nat) : Int), .int .u64 ((bval i (ksmv x y) : Nat) : Int)]) (by rfl) (by kernel_rfl) (by kernel_rfl) hQ6 (by kernel_rfl) (by kernel_rfl), ⟨by rw [show i = wd by omega]; rfl, hT0⟩⟩

end Go.Proofs.YtlbadnpgmkobdaaV
