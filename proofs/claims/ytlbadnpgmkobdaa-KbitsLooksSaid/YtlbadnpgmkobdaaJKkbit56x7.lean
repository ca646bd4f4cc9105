/- Texts laid together: Walks of functions of the program and of the document's texts. The conditions stand with each theorem. Known bits of all terms: plain. -/
import Derived.Test.YtlbadnpgmkobdaaJKkbit56x1
import Derived.Test.YtlbadnpgmkobdaaProg
import Derived.Test.YtlbadnpgmkobdaaJKkbit56x6
set_option linter.unusedVariables false
set_option linter.unusedSimpArgs false
namespace Go.Proofs.YtlbadnpgmkobdaaV
open Go Go.RowKit Go.Proofs

theorem mask_okN (x : Nat) (w : World) (h : x ≤ 64) : Ret Try.prog 56 [.int .i64 ((x : Nat) : Int)] w fun v w' => v = .int .u64 ((pw x - 1 : Nat) : Int) ∧ Tch N0 w w' := by
 rw [← mask_nat h]; exact mask_ok _ w

set_option maxRecDepth 100000 in
theorem zeros_ok (a b : Nat) (w : World) (ha : a < 18446744073709551616) (hb : b < 18446744073709551616) : Ret Try.prog 76 [.agg #[.int .u64 ((a : Nat) : Int), .int .u64 ((b : Nat) : Int)]] w fun v w' => v = .int .u64 ((andn a b : Nat) : Int) ∧ Tch N0 w w' := by
 refine enter Try.func76 rfl rfl ?_
 refine zQ ?_
 refine st (by rfl) (S_new (v := .pointer (some ⟨w.heap.size, 0, none⟩)) (ob := .cells #[.int .u64 ((a : Nat) : Int), .int .u64 ((b : Nat) : Int)] 100) (by kernel_rfl) fun w1 hT2 hs3 hB4 => ?_)
 replace hB4 : Blk w1 (w.heap.size) 100 [.int .u64 ((a : Nat) : Int), .int .u64 ((b : Nat) : Int)] := hB4
 have hT0 := hT2
 refine zS [(2, .int .u64 0)] ?_
 refine op_nil ?_
 refine zQ ?_
 refine zS [(3, .pointer (some ⟨w.heap.size, 0, none⟩))] ?_
 refine zL (.int .u64 ((a : Nat) : Int)) ((hB4.cell 0).trans rfl) ?_
 refine zS [(5, .pointer (some ⟨w.heap.size, 1, none⟩))] ?_
 refine zL (.int .u64 ((b : Nat) : Int)) ((hB4.cell 1).trans rfl) ?_
 refine zS [(7, .int .u64 (IntKind.u64.wrap (BitVec.ofInt 64 ((a : Nat) : Int) &&& ~~~BitVec.ofInt 64 ((b : Nat) : Int)).toNat))] ?_
 rw [show IntKind.u64.wrap (BitVec.ofInt 64 ((a : Nat) : Int) &&& ~~~BitVec.ofInt 64 ((b : Nat) : Int)).toNat = ((andn a b : Nat) : Int) from andn_u a b ha hb]
 have hu5 : andn a b < 18446744073709551616 := andn_lt ha
 refine zS [(2, .int .u64 ((andn a b : Nat) : Int))] ?_
 refine op_nil ?_
 refine W_ret ?_
 exact ⟨_, Res_of (v := .int .u64 ((andn a b : Nat) : Int)) (by kernel_rfl), ⟨rfl, hT0⟩⟩

set_option maxRecDepth 100000 in
theorem kgate6_ok (wd : Nat) (x y : K)  (w : World) (hx : KI wd x) (hy : KI wd y) (hw : wd ≤ 64) : Ret Try.prog 77 [.int .i64 6, .agg #[.int .u64 ((x.1 : Nat) : Int), .int .u64 ((x.2 : Nat) : Int)], .agg #[.int .u64 ((y.1 : Nat) : Int), .int .u64 ((y.2 : Nat) : Int)]] w fun v w' => v = .agg #[.int .u64 (((kgate 6 wd x y).1 : Nat) : Int), .int .u64 (((kgate 6 wd x y).2 : Nat) : Int)] ∧ Tch N0 w w' := by
 have ux1 := hx.u1 hw
 have ux2 := hx.u2 hw
 have uy1 := hy.u1 hw
 have uy2 := hy.u2 hw
 refine enter Try.func77 rfl rfl ?_
 refine zQ ?_
 refine st (by rfl) (S_new (v := .pointer (some ⟨w.heap.size, 0, none⟩)) (ob := .cells #[.int .u64 ((x.1 : Nat) : Int), .int .u64 ((x.2 : Nat) : Int)] 100) (by kernel_rfl) fun w1 hT2 hs3 hB4 => ?_)
 replace hB4 : Blk w1 (w.heap.size) 100 [.int .u64 ((x.1 : Nat) : Int), .int .u64 ((x.2 : Nat) : Int)] := hB4
 have hT0 := hT2
 have z9 := hT0.size
 have l10 := hB4.lt
 refine st (by rfl) (S_new (v := .pointer (some ⟨w1.heap.size, 0, none⟩)) (ob := .cells #[.int .u64 ((y.1 : Nat) : Int), .int .u64 ((y.2 : Nat) : Int)] 100) (by kernel_rfl) fun w5 hT6 hs7 hB8 => ?_)
 replace hB8 : Blk w5 (w1.heap.size) 100 [.int .u64 ((y.1 : Nat) : Int), .int .u64 ((y.2 : Nat) : Int)] := hB8
 have hT0 := hT0.t0 hT6
 have hB4 := hB4.tch0 hT6
 have z15 := hT0.size
 have l16 := hB4.lt
 have l17 := hB8.lt
 refine st (by rfl) (S_new (v := .pointer (some ⟨w5.heap.size, 0, none⟩)) (ob := .cells #[.int .u64 0, .int .u64 0] 100) (by kernel_rfl) fun w11 hT12 hs13 hB14 => ?_)
 replace hB14 : Blk w11 (w5.heap.size) 100 [.int .u64 0, .int .u64 0] := hB14
 have hT0 := hT0.t0 hT12
 have hB4 := hB4.tch0 hT12
 have hB8 := hB8.tch0 hT12
 refine op_nil ?_
 refine zQ ?_
 refine zS [(8, .pointer (some ⟨w.heap.size, 0, none⟩))] ?_
 refine zL (.int .u64 ((x.1 : Nat) : Int)) ((hB4.cell 0).trans rfl) ?_
 refine zS [(10, .pointer (some ⟨w1.heap.size, 0, none⟩))] ?_
 refine zL (.int .u64 ((y.1 : Nat) : Int)) ((hB8.cell 0).trans rfl) ?_
 refine zS [(12, .int .u64 (IntKind.u64.wrap (BitVec.ofInt 64 ((x.1 : Nat) : Int) &&& BitVec.ofInt 64 ((y.1 : Nat) : Int)).toNat))] ?_
 rw [show IntKind.u64.wrap (BitVec.ofInt 64 ((x.1 : Nat) : Int) &&& BitVec.ofInt 64 ((y.1 : Nat) : Int)).toNat = ((x.1 &&& y.1 : Nat) : Int) from and_u x.1 y.1 ux1 uy1]
 have hu18 : x.1 &&& y.1 < 18446744073709551616 := and_lt ux1
 refine zS [(7, .int .u64 ((x.1 &&& y.1 : Nat) : Int))] ?_
 refine op_nil ?_
 refine W_seq ?_
 refine zQ ?_
 refine zS [(13, .int .i64 6)] ?_
 refine op_nil ?_
 refine W_block ?_
 refine zQ ?_
 refine zS [(15, .bool true), (14, .bool true)] ?_
 refine zO true (fun _ => ?_) (fun h => nomatch h)
 refine W_seq ?_
 refine W_draw (fun w' => Blk w' (w.heap.size) 100 [.int .u64 ((x.1 : Nat) : Int), .int .u64 ((x.2 : Nat) : Int)] ∧ Blk w' (w1.heap.size) 100 [.int .u64 ((y.1 : Nat) : Int), .int .u64 ((y.2 : Nat) : Int)]) (by kernel_rfl) (by kernel_rfl) (by kernel_rfl) fun w19 hT20 hh21 => ?_
 have hT0 := hT0.t0 hT20
 have hB4 := hB4.tch0 hT20
 have hB8 := hB8.tch0 hT20
 have hB14 := hB14.tch0 hT20
 refine zK [0, 7, 9] #[true, false, false, false, false, false, false, true, false, true, false, false, false, false] [(16, .int .u64 ((x.1 &&& y.1 : Nat) : Int)), (23, .pointer (some ⟨w.heap.size, 1, none⟩)), (25, .pointer (some ⟨w1.heap.size, 1, none⟩))] ⟨hB4, hB8⟩ ?_
 refine zV 1 rfl (.agg #[.int .u64 ((x.1 : Nat) : Int), .int .u64 ((x.2 : Nat) : Int)]) (fun _ ⟨hB4, hB8⟩ => R_loadA [.int .u64 ((x.1 : Nat) : Int), .int .u64 ((x.2 : Nat) : Int)] (by kernel_rfl) (by kernel_rfl) (by kernel_rfl) (fun k u hk => by rw [hB4.cell]; exact get_part _ 0 _ k u rfl hk)) ⟨hB4, hB8⟩ ?_
 refine zV 4 rfl (.agg #[.int .u64 ((y.1 : Nat) : Int), .int .u64 ((y.2 : Nat) : Int)]) (fun _ ⟨hB4, hB8⟩ => R_loadA [.int .u64 ((y.1 : Nat) : Int), .int .u64 ((y.2 : Nat) : Int)] (by kernel_rfl) (by kernel_rfl) (by kernel_rfl) (fun k u hk => by rw [hB8.cell]; exact get_part _ 0 _ k u rfl hk)) ⟨hB4, hB8⟩ ?_
 refine zV 8 rfl (.int .u64 ((x.2 : Nat) : Int)) (fun _ ⟨hB4, hB8⟩ => R_load (v := .int .u64 ((x.2 : Nat) : Int)) (by kernel_rfl) (by kernel_rfl) ((hB4.cell 1).trans rfl)) ⟨hB4, hB8⟩ ?_
 refine zV 10 rfl (.int .u64 ((y.2 : Nat) : Int)) (fun _ ⟨hB4, hB8⟩ => R_load (v := .int .u64 ((y.2 : Nat) : Int)) (by kernel_rfl) (by kernel_rfl) ((hB8.cell 1).trans rfl)) ⟨hB4, hB8⟩ ?_
 refine zK [11] #[true, true, false, false, true, false, false, true, true, true, true, true, false, false] [(27, .int .u64 (IntKind.u64.wrap (BitVec.ofInt 64 ((x.2 : Nat) : Int) &&& BitVec.ofInt 64 ((y.2 : Nat) : Int)).toNat))] ⟨hB4, hB8⟩ ?_
 rw [show IntKind.u64.wrap (BitVec.ofInt 64 ((x.2 : Nat) : Int) &&& BitVec.ofInt 64 ((y.2 : Nat) : Int)).toNat = ((x.2 &&& y.2 : Nat) : Int) from and_u x.2 y.2 ux2 uy2]
 have hu22 : x.2 &&& y.2 < 18446744073709551616 := and_lt ux2
 refine zD 2 rfl (S_call (args := [.agg #[.int .u64 ((x.1 : Nat) : Int), .int .u64 ((x.2 : Nat) : Int)]]) (by kernel_rfl) (zeros_ok x.1 x.2 _ ux1 ux2) ?_)
 rintro _ w23 ⟨rfl, hT24⟩
 have hT0 := hT0.t0 hT24
 have hB4 := hB4.tch0 hT24
 have hB8 := hB8.tch0 hT24
 have hB14 := hB14.tch0 hT24
 have hu25 : andn x.1 x.2 < 18446744073709551616 := andn_lt ux1
 refine ⟨⟨hB4, hB8⟩, ?_⟩
 refine zK [3] #[true, true, true, true, true, false, false, true, true, true, true, true, false, false] [(19, .int .u64 (IntKind.u64.wrap (BitVec.ofInt 64 ((x.1 &&& y.1 : Nat) : Int) ||| BitVec.ofInt 64 ((andn x.1 x.2 : Nat) : Int)).toNat))] ⟨hB4, hB8⟩ ?_
 rw [show IntKind.u64.wrap (BitVec.ofInt 64 ((x.1 &&& y.1 : Nat) : Int) ||| BitVec.ofInt 64 ((andn x.1 x.2 : Nat) : Int)).toNat = (((x.1 &&& y.1) ||| (andn x.1 x.2) : Nat) : Int) from or_u (x.1 &&& y.1) (andn x.1 x.2) hu18 hu25]
 have hu26 : (x.1 &&& y.1) ||| (andn x.1 x.2) < 18446744073709551616 := or_lt hu18 hu25
 refine zD 5 rfl (S_call (args := [.agg #[.int .u64 ((y.1 : Nat) : Int), .int .u64 ((y.2 : Nat) : Int)]]) (by kernel_rfl) (zeros_ok y.1 y.2 _ uy1 uy2) ?_)
 rintro _ w27 ⟨rfl, hT28⟩
 have hT0 := hT0.t0 hT28
 have hB4 := hB4.tch0 hT28
 have hB8 := hB8.tch0 hT28
 have hB14 := hB14.tch0 hT28
 have hu29 : andn y.1 y.2 < 18446744073709551616 := andn_lt uy1
 refine ⟨⟨hB4, hB8⟩, ?_⟩
 refine zK [6] #[true, true, true, true, true, true, true, true, true, true, true, true, false, false] [(22, .int .u64 (IntKind.u64.wrap (BitVec.ofInt 64 (((x.1 &&& y.1) ||| (andn x.1 x.2) : Nat) : Int) ||| BitVec.ofInt 64 ((andn y.1 y.2 : Nat) : Int)).toNat))] ⟨hB4, hB8⟩ ?_
 rw [show IntKind.u64.wrap (BitVec.ofInt 64 (((x.1 &&& y.1) ||| (andn x.1 x.2) : Nat) : Int) ||| BitVec.ofInt 64 ((andn y.1 y.2 : Nat) : Int)).toNat = ((((x.1 &&& y.1) ||| (andn x.1 x.2)) ||| (andn y.1 y.2) : Nat) : Int) from or_u ((x.1 &&& y.1) ||| (andn x.1 x.2)) (andn y.1 y.2) hu26 hu29]
 have hu30 : ((x.1 &&& y.1) ||| (andn x.1 x.2)) ||| (andn y.1 y.2) < 18446744073709551616 := or_lt hu26 hu29
 refine zK [12] #[true, true, true, true, true, true, true, true, true, true, true, true, true, false] [(28, .agg #[.int .u64 ((((x.1 &&& y.1) ||| (andn x.1 x.2)) ||| (andn y.1 y.2) : Nat) : Int), .int .u64 ((x.2 &&& y.2 : Nat) : Int)])] ⟨hB4, hB8⟩ ?_
 refine zD 13 rfl (S_storeA (b := w5.heap.size) (j := 0) (cs := [.int .u64 ((((x.1 &&& y.1) ||| (andn x.1 x.2)) ||| (andn y.1 y.2) : Nat) : Int), .int .u64 ((x.2 &&& y.2 : Nat) : Int)]) (by kernel_rfl) (by kernel_rfl) (by kernel_rfl) (by simp [oneV]) hB14 (by simp) fun w31 hT32 hs33 hB14' => ?_)
 have hT0 := (hT0).then hT32 (fun c e => by have : c = w5.heap.size := e; omega)
 have hB4 := hB4.tch hT32 (fun e => by have : w.heap.size = w5.heap.size := e; omega)
 have hB8 := hB8.tch hT32 (fun e => by have : w1.heap.size = w5.heap.size := e; omega)
 replace hB14 : Blk w31 w5.heap.size 100 [.int .u64 ((((x.1 &&& y.1) ||| (andn x.1 x.2)) ||| (andn y.1 y.2) : Nat) : Int), .int .u64 ((x.2 &&& y.2 : Nat) : Int)] := hB14'
 refine ⟨⟨hB4, hB8⟩, ?_⟩
 refine d_done (by kernel_rfl) ?_
 refine W_ret ?_
 exact ⟨_, Res_cell (b := w5.heap.size) (cs := [.int .u64 ((((x.1 &&& y.1) ||| (andn x.1 x.2)) ||| (andn y.1 y.2) : Nat) : Int), .int .u64 ((x.2 &&& y.2 : Nat) : Int)]) (by rfl) (by kernel_rfl) (by kernel_rfl) hB14 (by kernel_rfl) (by kernel_rfl), ⟨congrArg kV (kg6 hx hy), hT0⟩⟩

set_option maxRecDepth 100000 in
theorem kgate7_ok (wd : Nat) (x y : K)  (w : World) (hx : KI wd x) (hy : KI wd y) (hw : wd ≤ 64) : Ret Try.prog 77 [.int .i64 7, .agg #[.int .u64 ((x.1 : Nat) : Int), .int .u64 ((x.2 : Nat) : Int)], .agg #[.int .u64 ((y.1 : Nat) : Int), .int .u64 ((y.2 : Nat) : Int)]] w fun v w' => v = .agg #[.int .u64 (((kgate 7 wd x y).1 : Nat) : Int), .int .u64 (((kgate 7 wd x y).2 : Nat) : Int)] ∧ Tch N0 w w' := by
 have ux1 := hx.u1 hw
 have ux2 := hx.u2 hw
 have uy1 := hy.u1 hw
 have uy2 := hy.u2 hw
 refine enter Try.func77 rfl rfl ?_
 refine zQ ?_
 refine st (by rfl) (S_new (v := .pointer (some ⟨w.heap.size, 0, none⟩)) (ob := .cells #[.int .u64 ((x.1 : Nat) : Int), .int .u64 ((x.2 : Nat) : Int)] 100) (by kernel_rfl) fun w1 hT2 hs3 hB4 => ?_)
 replace hB4 : Blk w1 (w.heap.size) 100 [.int .u64 ((x.1 : Nat) : Int), .int .u64 ((x.2 : Nat) : Int)] := hB4
 have hT0 := hT2
 have z9 := hT0.size
 have l10 := hB4.lt
 refine st (by rfl) (S_new (v := .pointer (some ⟨w1.heap.size, 0, none⟩)) (ob := .cells #[.int .u64 ((y.1 : Nat) : Int), .int .u64 ((y.2 : Nat) : Int)] 100) (by kernel_rfl) fun w5 hT6 hs7 hB8 => ?_)
 replace hB8 : Blk w5 (w1.heap.size) 100 [.int .u64 ((y.1 : Nat) : Int), .int .u64 ((y.2 : Nat) : Int)] := hB8
 have hT0 := hT0.t0 hT6
 have hB4 := hB4.tch0 hT6
 have z15 := hT0.size
 have l16 := hB4.lt
 have l17 := hB8.lt
 refine st (by rfl) (S_new (v := .pointer (some ⟨w5.heap.size, 0, none⟩)) (ob := .cells #[.int .u64 0, .int .u64 0] 100) (by kernel_rfl) fun w11 hT12 hs13 hB14 => ?_)
 replace hB14 : Blk w11 (w5.heap.size) 100 [.int .u64 0, .int .u64 0] := hB14
 have hT0 := hT0.t0 hT12
 have hB4 := hB4.tch0 hT12
 have hB8 := hB8.tch0 hT12
 refine op_nil ?_
 refine zQ ?_
 refine zS [(8, .pointer (some ⟨w.heap.size, 0, none⟩))] ?_
 refine zL (.int .u64 ((x.1 : Nat) : Int)) ((hB4.cell 0).trans rfl) ?_
 refine zS [(10, .pointer (some ⟨w1.heap.size, 0, none⟩))] ?_
 refine zL (.int .u64 ((y.1 : Nat) : Int)) ((hB8.cell 0).trans rfl) ?_
 refine zS [(12, .int .u64 (IntKind.u64.wrap (BitVec.ofInt 64 ((x.1 : Nat) : Int) &&& BitVec.ofInt 64 ((y.1 : Nat) : Int)).toNat))] ?_
 rw [show IntKind.u64.wrap (BitVec.ofInt 64 ((x.1 : Nat) : Int) &&& BitVec.ofInt 64 ((y.1 : Nat) : Int)).toNat = ((x.1 &&& y.1 : Nat) : Int) from and_u x.1 y.1 ux1 uy1]
 have hu18 : x.1 &&& y.1 < 18446744073709551616 := and_lt ux1
 refine zS [(7, .int .u64 ((x.1 &&& y.1 : Nat) : Int))] ?_
 refine op_nil ?_
 refine W_seq ?_
 refine zQ ?_
 refine zS [(13, .int .i64 7)] ?_
 refine op_nil ?_
 refine W_block ?_
 refine zQ ?_
 refine zS [(15, .bool false), (14, .bool false)] ?_
 refine zO false (fun h => nomatch h) (fun _ => ?_)
 refine zQ ?_
 refine zS [(30, .bool true), (29, .bool true)] ?_
 refine zO true (fun _ => ?_) (fun h => nomatch h)
 refine zQ ?_
 refine zS [(31, .int .u64 ((x.1 &&& y.1 : Nat) : Int)), (32, .pointer (some ⟨w.heap.size, 1, none⟩))] ?_
 refine zL (.int .u64 ((x.2 : Nat) : Int)) ((hB4.cell 1).trans rfl) ?_
 refine zS [(34, .int .u64 (IntKind.u64.wrap (BitVec.ofInt 64 ((x.1 &&& y.1 : Nat) : Int) ||| BitVec.ofInt 64 ((x.2 : Nat) : Int)).toNat))] ?_
 rw [show IntKind.u64.wrap (BitVec.ofInt 64 ((x.1 &&& y.1 : Nat) : Int) ||| BitVec.ofInt 64 ((x.2 : Nat) : Int)).toNat = (((x.1 &&& y.1) ||| x.2 : Nat) : Int) from or_u (x.1 &&& y.1) x.2 hu18 ux2]
 have hu19 : (x.1 &&& y.1) ||| x.2 < 18446744073709551616 := or_lt hu18 ux2
 refine zS [(35, .pointer (some ⟨w1.heap.size, 1, none⟩))] ?_
 refine zL (.int .u64 ((y.2 : Nat) : Int)) ((hB8.cell 1).trans rfl) ?_
 refine zS [(37, .int .u64 (IntKind.u64.wrap (BitVec.ofInt 64 (((x.1 &&& y.1) ||| x.2 : Nat) : Int) ||| BitVec.ofInt 64 ((y.2 : Nat) : Int)).toNat))] ?_
 rw [show IntKind.u64.wrap (BitVec.ofInt 64 (((x.1 &&& y.1) ||| x.2 : Nat) : Int) ||| BitVec.ofInt 64 ((y.2 : Nat) : Int)).toNat = ((((x.1 &&& y.1) ||| x.2) ||| y.2 : Nat) : Int) from or_u ((x.1 &&& y.1) ||| x.2) y.2 hu19 uy2]
 have hu20 : ((x.1 &&& y.1) ||| x.2) ||| y.2 < 18446744073709551616 := or_lt hu19 uy2
 refine zS [(38, .pointer (some ⟨w.heap.size, 1, none⟩))] ?_
 refine zL (.int .u64 ((x.2 : Nat) : Int)) ((hB4.cell 1).trans rfl) ?_
 refine zS [(40, .pointer (some ⟨w1.heap.size, 1, none⟩))] ?_
 refine zL (.int .u64 ((y.2 : Nat) : Int)) ((hB8.cell 1).trans rfl) ?_
 refine zS [(42, .int .u64 (IntKind.u64.wrap (BitVec.ofInt 64 ((x.2 : Nat) : Int) ||| BitVec.ofInt 64 ((y.2 : Nat) : Int)).toNat))] ?_
 rw [show IntKind.u64.wrap (BitVec.ofInt 64 ((x.2 : Nat) : Int) ||| BitVec.ofInt 64 ((y.2 : Nat) : Int)).toNat = ((x.2 ||| y.2 : Nat) : Int) from or_u x.2 y.2 ux2 uy2]
 have hu21 : x.2 ||| y.2 < 18446744073709551616 := or_lt ux2 uy2
 refine zS [(43, .agg #[.int .u64 ((((x.1 &&& y.1) ||| x.2) ||| y.2 : Nat) : Int), .int .u64 ((x.2 ||| y.2 : Nat) : Int)])] ?_
 refine st (by rfl) (S_storeA (b := w5.heap.size) (j := 0) (cs := [.int .u64 ((((x.1 &&& y.1) ||| x.2) ||| y.2 : Nat) : Int), .int .u64 ((x.2 ||| y.2 : Nat) : Int)]) (by kernel_rfl) (by kernel_rfl) (by kernel_rfl) (by simp [oneV]) hB14 (by simp) fun w22 hT23 hs24 hB14' => ?_)
 have hT0 := (hT0).then hT23 (fun c e => by have : c = w5.heap.size := e; omega)
 have hB4 := hB4.tch hT23 (fun e => by have : w.heap.size = w5.heap.size := e; omega)
 have hB8 := hB8.tch hT23 (fun e => by have : w1.heap.size = w5.heap.size := e; omega)
 replace hB14 : Blk w22 w5.heap.size 100 [.int .u64 ((((x.1 &&& y.1) ||| x.2) ||| y.2 : Nat) : Int), .int .u64 ((x.2 ||| y.2 : Nat) : Int)] := hB14'
 refine op_nil ?_
 refine W_ret ?_
 exact ⟨_, Res_cell (b := w5.heap.size) (cs := [.int .u64 ((((x.1 &&& y.1) ||| x.2) ||| y.2 : Nat) : Int), .int .u64 ((x.2 ||| y.2 : Nat) : Int)]) (by rfl) (by kernel_rfl) (by kernel_rfl) hB14 (by kernel_rfl) (by kernel_rfl), ⟨congrArg kV (kg7 hx hy), hT0⟩⟩

set_option maxRecDepth 100000 in
theorem kgate8_ok (wd : Nat) (x y : K)  (w : World) (hx : KI wd x) (hy : KI wd y) (hw : wd ≤ 64) : Ret Try.prog 77 [.int .i64 8, .agg #[.int .u64 ((x.1 : Nat) : Int), .int .u64 ((x.2 : Nat) : Int)], .agg #[.int .u64 ((y.1 : Nat) : Int), .int .u64 ((y.2 : Nat) : Int)]] w fun v w' => v = .agg #[.int .u64 (((kgate 8 wd x y).1 : Nat) : Int), .int .u64 (((kgate 8 wd x y).2 : Nat) : Int)] ∧ Tch N0 w w' := by
 have ux1 := hx.u1 hw
 have ux2 := hx.u2 hw
 have uy1 := hy.u1 hw
 have uy2 := hy.u2 hw
 refine enter Try.func77 rfl rfl ?_
 refine zQ ?_
 refine st (by rfl) (S_new (v := .pointer (some ⟨w.heap.size, 0, none⟩)) (ob := .cells #[.int .u64 ((x.1 : Nat) : Int), .int .u64 ((x.2 : Nat) : Int)] 100) (by kernel_rfl) fun w1 hT2 hs3 hB4 => ?_)
 replace hB4 : Blk w1 (w.heap.size) 100 [.int .u64 ((x.1 : Nat) : Int), .int .u64 ((x.2 : Nat) : Int)] := hB4
 have hT0 := hT2
 have z9 := hT0.size
 have l10 := hB4.lt
 refine st (by rfl) (S_new (v := .pointer (some ⟨w1.heap.size, 0, none⟩)) (ob := .cells #[.int .u64 ((y.1 : Nat) : Int), .int .u64 ((y.2 : Nat) : Int)] 100) (by kernel_rfl) fun w5 hT6 hs7 hB8 => ?_)
 replace hB8 : Blk w5 (w1.heap.size) 100 [.int .u64 ((y.1 : Nat) : Int), .int .u64 ((y.2 : Nat) : Int)] := hB8
 have hT0 := hT0.t0 hT6
 have hB4 := hB4.tch0 hT6
 have z15 := hT0.size
 have l16 := hB4.lt
 have l17 := hB8.lt
 refine st (by rfl) (S_new (v := .pointer (some ⟨w5.heap.size, 0, none⟩)) (ob := .cells #[.int .u64 0, .int .u64 0] 100) (by kernel_rfl) fun w11 hT12 hs13 hB14 => ?_)
 replace hB14 : Blk w11 (w5.heap.size) 100 [.int .u64 0, .int .u64 0] := hB14
 have hT0 := hT0.t0 hT12
 have hB4 := hB4.tch0 hT12
 have hB8 := hB8.tch0 hT12
 refine op_nil ?_
 refine zQ ?_
 refine zS [(8, .pointer (some ⟨w.heap.size, 0, none⟩))] ?_
 refine zL (.int .u64 ((x.1 : Nat) : Int)) ((hB4.cell 0).trans rfl) ?_
 refine zS [(10, .pointer (some ⟨w1.heap.size, 0, none⟩))] ?_
 refine zL (.int .u64 ((y.1 : Nat) : Int)) ((hB8.cell 0).trans rfl) ?_
 refine zS [(12, .int .u64 (IntKind.u64.wrap (BitVec.ofInt 64 ((x.1 : Nat) : Int) &&& BitVec.ofInt 64 ((y.1 : Nat) : Int)).toNat))] ?_
 rw [show IntKind.u64.wrap (BitVec.ofInt 64 ((x.1 : Nat) : Int) &&& BitVec.ofInt 64 ((y.1 : Nat) : Int)).toNat = ((x.1 &&& y.1 : Nat) : Int) from and_u x.1 y.1 ux1 uy1]
 have hu18 : x.1 &&& y.1 < 18446744073709551616 := and_lt ux1
 refine zS [(7, .int .u64 ((x.1 &&& y.1 : Nat) : Int))] ?_
 refine op_nil ?_
 refine W_seq ?_
 refine zQ ?_
 refine zS [(13, .int .i64 8)] ?_
 refine op_nil ?_
 refine W_block ?_
 refine zQ ?_
 refine zS [(15, .bool false), (14, .bool false)] ?_
 refine zO false (fun h => nomatch h) (fun _ => ?_)
 refine zQ ?_
 refine zS [(30, .bool false), (29, .bool false)] ?_
 refine zO false (fun h => nomatch h) (fun _ => ?_)
 refine W_skip ?_
 refine zQ ?_
 refine zS [(44, .int .u64 ((x.1 &&& y.1 : Nat) : Int)), (45, .pointer (some ⟨w.heap.size, 1, none⟩))] ?_
 refine zL (.int .u64 ((x.2 : Nat) : Int)) ((hB4.cell 1).trans rfl) ?_
 refine zS [(47, .pointer (some ⟨w1.heap.size, 1, none⟩))] ?_
 refine zL (.int .u64 ((y.2 : Nat) : Int)) ((hB8.cell 1).trans rfl) ?_
 refine zS [(49, .int .u64 (IntKind.u64.wrap (BitVec.ofInt 64 ((x.2 : Nat) : Int) ^^^ BitVec.ofInt 64 ((y.2 : Nat) : Int)).toNat))] ?_
 rw [show IntKind.u64.wrap (BitVec.ofInt 64 ((x.2 : Nat) : Int) ^^^ BitVec.ofInt 64 ((y.2 : Nat) : Int)).toNat = ((x.2 ^^^ y.2 : Nat) : Int) from xor_u x.2 y.2 ux2 uy2]
 have hu19 : x.2 ^^^ y.2 < 18446744073709551616 := xor_lt ux2 uy2
 refine zS [(50, .int .u64 ((x.1 &&& y.1 : Nat) : Int)), (51, .int .u64 (IntKind.u64.wrap (BitVec.ofInt 64 ((x.2 ^^^ y.2 : Nat) : Int) &&& BitVec.ofInt 64 ((x.1 &&& y.1 : Nat) : Int)).toNat))] ?_
 rw [show IntKind.u64.wrap (BitVec.ofInt 64 ((x.2 ^^^ y.2 : Nat) : Int) &&& BitVec.ofInt 64 ((x.1 &&& y.1 : Nat) : Int)).toNat = (((x.2 ^^^ y.2) &&& (x.1 &&& y.1) : Nat) : Int) from and_u (x.2 ^^^ y.2) (x.1 &&& y.1) hu19 hu18]
 have hu20 : (x.2 ^^^ y.2) &&& (x.1 &&& y.1) < 18446744073709551616 := and_lt hu19
 refine zS [(52, .agg #[.int .u64 ((x.1 &&& y.1 : Nat) : Int), .int .u64 (((x.2 ^^^ y.2) &&& (x.1 &&& y.1) : Nat) : Int)])] ?_
 refine st (by rfl) (S_storeA (b := w5.heap.size) (j := 0) (cs := [.int .u64 ((x.1 &&& y.1 : Nat) : Int), .int .u64 (((x.2 ^^^ y.2) &&& (x.1 &&& y.1) : Nat) : Int)]) (by kernel_rfl) (by kernel_rfl) (by kernel_rfl) (by simp [oneV]) hB14 (by simp) fun w21 hT22 hs23 hB14' => ?_)
 have hT0 := (hT0).then hT22 (fun c e => by have : c = w5.heap.size := e; omega)
 have hB4 := hB4.tch hT22 (fun e => by have : w.heap.size = w5.heap.size := e; omega)
 have hB8 := hB8.tch hT22 (fun e => by have : w1.heap.size = w5.heap.size := e; omega)
 replace hB14 : Blk w21 w5.heap.size 100 [.int .u64 ((x.1 &&& y.1 : Nat) : Int), .int .u64 (((x.2 ^^^ y.2) &&& (x.1 &&& y.1) : Nat) : Int)] := hB14'
 refine op_nil ?_
 refine W_ret ?_
 exact ⟨_, Res_cell (b := w5.heap.size) (cs := [.int .u64 ((x.1 &&& y.1 : Nat) : Int), .int .u64 (((x.2 ^^^ y.2) &&& (x.1 &&& y.1) : Nat) : Int)]) (by rfl) (by kernel_rfl) (by kernel_rfl) hB14 (by kernel_rfl) (by kernel_rfl), ⟨congrArg kV (kg8 hx hy), hT0⟩⟩

set_option maxRecDepth 100000 in
theorem ksum_ok (wd : Nat) (x y : K)  (w : World) (hx : KI wd x) (hy : KI wd y) (hw : wd ≤ 64) : Ret Try.prog 78 [.int .i64 ((wd : Nat) : Int), .agg #[.int .u64 ((x.1 : Nat) : Int), .int .u64 ((x.2 : Nat) : Int)], .agg #[.int .u64 ((y.1 : Nat) : Int), .int .u64 ((y.2 : Nat) : Int)]] w fun v w' => v = .agg #[.int .u64 (((ksum wd x y).1 : Nat) : Int), .int .u64 (((ksum wd x y).2 : Nat) : Int)] ∧ Tch N0 w w' := by
 have ux1 := hx.u1 hw
 have ux2 := hx.u2 hw
 have uy1 := hy.u1 hw
 have uy2 := hy.u2 hw
 refine enter Try.func78 rfl rfl ?_
 refine zQ ?_
 refine st (by rfl) (S_new (v := .pointer (some ⟨w.heap.size, 0, none⟩)) (ob := .cells #[.int .u64 ((x.1 : Nat) : Int), .int .u64 ((x.2 : Nat) : Int)] 100) (by kernel_rfl) fun w1 hT2 hs3 hB4 => ?_)
 replace hB4 : Blk w1 (w.heap.size) 100 [.int .u64 ((x.1 : Nat) : Int), .int .u64 ((x.2 : Nat) : Int)] := hB4
 have hT0 := hT2
 have z9 := hT0.size
 have l10 := hB4.lt
 refine st (by rfl) (S_new (v := .pointer (some ⟨w1.heap.size, 0, none⟩)) (ob := .cells #[.int .u64 ((y.1 : Nat) : Int), .int .u64 ((y.2 : Nat) : Int)] 100) (by kernel_rfl) fun w5 hT6 hs7 hB8 => ?_)
 replace hB8 : Blk w5 (w1.heap.size) 100 [.int .u64 ((y.1 : Nat) : Int), .int .u64 ((y.2 : Nat) : Int)] := hB8
 have hT0 := hT0.t0 hT6
 have hB4 := hB4.tch0 hT6
 have z15 := hT0.size
 have l16 := hB4.lt
 have l17 := hB8.lt
 refine st (by rfl) (S_new (v := .pointer (some ⟨w5.heap.size, 0, none⟩)) (ob := .cells #[.int .u64 0, .int .u64 0] 100) (by kernel_rfl) fun w11 hT12 hs13 hB14 => ?_)
 replace hB14 : Blk w11 (w5.heap.size) 100 [.int .u64 0, .int .u64 0] := hB14
 have hT0 := hT0.t0 hT12
 have hB4 := hB4.tch0 hT12
 have hB8 := hB8.tch0 hT12
 refine op_nil ?_
 refine zQ ?_
 refine zS [(7, .int .i64 0)] ?_
 refine op_nil ?_
 refine W_seq ?_
 refine zQ ?_
 refine zS [(10, .int .i64 ((wd : Nat) : Int)), (11, .int .i64 0)] ?_
 refine op_nil ?_
 refine W_block ?_
 refine W_loop (fun m ρ w' => ∃ (i : Nat) (ρ0 : Env), ρ = updL ρ0 [(4, .pointer (some ⟨w.heap.size, 0, none⟩)), (5, .pointer (some ⟨w1.heap.size, 0, none⟩)), (6, .pointer (some ⟨w5.heap.size, 0, none⟩)), (7, .int .i64 ((i : Nat) : Int)), (10, .int .i64 ((wd : Nat) : Int)), (11, .int .i64 ((i : Nat) : Int))] ∧ (i ≤ wd) ∧ (∀ s, s < i → bothB x y s = true) ∧ Tch N0 w w' ∧ Blk w' (w.heap.size) 100 [.int .u64 ((x.1 : Nat) : Int), .int .u64 ((x.2 : Nat) : Int)] ∧ Blk w' (w1.heap.size) 100 [.int .u64 ((y.1 : Nat) : Int), .int .u64 ((y.2 : Nat) : Int)] ∧ Blk w' (w5.heap.size) 100 [.int .u64 0, .int .u64 0] ∧ m = wd - i) (m := wd - 0) ?_ ?_
 ·
  refine ⟨0, _, updL_self (by kernel_rfl), by omega, (fun s h => by omega), hT0, hB4, hB8, hB14, rfl⟩
 ·
  rintro m ρ w18 ⟨i, ρ, rfl, hi, hb, hT0, hQ0, hQ1, hQ2, rfl⟩
  refine zQ ?_
  refine zS [(12, .bool (decide (((i : Nat) : Int) < ((wd : Nat) : Int))))] ?_
  refine op_nil ?_
  refine W_seq ?_
  refine zW (decide (((i : Nat) : Int) < ((wd : Nat) : Int))) (fun hc19 => ?_) (fun hc19 => ?_)
  ·
   replace hc19 : ((i : Nat) : Int) < ((wd : Nat) : Int) := (of_decide_eq_true hc19)
   refine W_skip ?_
   refine W_seq ?_
   refine W_block ?_
   refine zQ ?_
   refine zS [(13, .int .i64 ((i : Nat) : Int)), (8, .int .i64 ((i : Nat) : Int))] ?_
   refine op_nil ?_
   refine W_seq ?_
   refine zQ ?_
   refine zS [(14, .pointer (some ⟨w.heap.size, 0, none⟩))] ?_
   refine zL (.int .u64 ((x.1 : Nat) : Int)) ((hQ0.cell 0).trans rfl) ?_
   refine zS [(16, .pointer (some ⟨w1.heap.size, 0, none⟩))] ?_
   refine zL (.int .u64 ((y.1 : Nat) : Int)) ((hQ1.cell 0).trans rfl) ?_
   refine zS [(18, .int .u64 (IntKind.u64.wrap (BitVec.ofInt 64 ((x.1 : Nat) : Int) &&& BitVec.ofInt 64 ((y.1 : Nat) : Int)).toNat))] ?_
   rw [show IntKind.u64.wrap (BitVec.ofInt 64 ((x.1 : Nat) : Int) &&& BitVec.ofInt 64 ((y.1 : Nat) : Int)).toNat = ((x.1 &&& y.1 : Nat) : Int) from and_u x.1 y.1 ux1 uy1]
   have hu20 : x.1 &&& y.1 < 18446744073709551616 := and_lt ux1
   refine zS [(19, .int .i64 ((i : Nat) : Int))] ?_
   refine stv (v := .int .u64 (((x.1 &&& y.1) / pw i : Nat) : Int)) (by rfl) (R_shrP (k2 := .i64) (x.1 &&& y.1) i (by kernel_rfl) (by kernel_rfl) (by omega)) ?_
   have hu21 : (x.1 &&& y.1) / pw i < 18446744073709551616 := div_lt64 hu20
   refine zS [(21, .int .u64 (IntKind.u64.wrap (BitVec.ofInt 64 (((x.1 &&& y.1) / pw i : Nat) : Int) &&& BitVec.ofInt 64 1).toNat))] ?_
   rw [show IntKind.u64.wrap (BitVec.ofInt 64 (((x.1 &&& y.1) / pw i : Nat) : Int) &&& BitVec.ofInt 64 1).toNat = ((((x.1 &&& y.1) / pw i) &&& 1 : Nat) : Int) from and_u ((x.1 &&& y.1) / pw i) 1 hu21 (by omega)]
   have hu22 : ((x.1 &&& y.1) / pw i) &&& 1 < 18446744073709551616 := and_lt hu21
   refine zS [(22, .bool (((((x.1 &&& y.1) / pw i) &&& 1 : Nat) : Int) == 0))] ?_
   refine zO (((((x.1 &&& y.1) / pw i) &&& 1 : Nat) : Int) == 0) (fun hc23 => ?_) (fun hc23 => ?_)
   ·
    replace hc23 : ((((x.1 &&& y.1) / pw i) &&& 1 : Nat) : Int) = 0 := (eq_of_beq hc23)
    refine W_exit ?_
    refine X_miss rfl ?_
    refine X_hit ?_
    refine zQ ?_
    refine zS [(26, .int .i64 ((i : Nat) : Int))] ?_
    refine zC (mask_okN i _ (by omega)) ?_
    rintro _ w24 ⟨rfl, hT25⟩
    have hT0 := hT0.t0 hT25
    have hQ0 := hQ0.tch0 hT25
    have hQ1 := hQ1.tch0 hT25
    have hQ2 := hQ2.tch0 hT25
    have hu26 := pwm_lt (x := i) (by omega)
    refine zS [(9, .int .u64 ((pw i - 1 : Nat) : Int))] ?_
    refine op_nil ?_
    refine zQ ?_
    refine zS [(28, .int .u64 ((pw i - 1 : Nat) : Int)), (29, .pointer (some ⟨w.heap.size, 1, none⟩))] ?_
    refine zL (.int .u64 ((x.2 : Nat) : Int)) ((hQ0.cell 1).trans rfl) ?_
    refine zS [(31, .pointer (some ⟨w1.heap.size, 1, none⟩))] ?_
    refine zL (.int .u64 ((y.2 : Nat) : Int)) ((hQ1.cell 1).trans rfl) ?_
    refine zS [(33, .int .u64 (IntKind.u64.wrap (((x.2 : Nat) : Int) + ((y.2 : Nat) : Int))))] ?_
    rw [show IntKind.u64.wrap (((x.2 : Nat) : Int) + ((y.2 : Nat) : Int)) = (((x.2 + y.2) % 18446744073709551616 : Nat) : Int) from u64_add x.2 y.2]
    have hu27 : (x.2 + y.2) % 18446744073709551616 < 18446744073709551616 := mod_lt64 _
    refine zS [(34, .int .u64 ((pw i - 1 : Nat) : Int)), (35, .int .u64 (IntKind.u64.wrap (BitVec.ofInt 64 (((x.2 + y.2) % 18446744073709551616 : Nat) : Int) &&& BitVec.ofInt 64 ((pw i - 1 : Nat) : Int)).toNat))] ?_
    rw [show IntKind.u64.wrap (BitVec.ofInt 64 (((x.2 + y.2) % 18446744073709551616 : Nat) : Int) &&& BitVec.ofInt 64 ((pw i - 1 : Nat) : Int)).toNat = ((((x.2 + y.2) % 18446744073709551616) &&& (pw i - 1) : Nat) : Int) from and_u ((x.2 + y.2) % 18446744073709551616) (pw i - 1) hu27 hu26]
    have hu28 : ((x.2 + y.2) % 18446744073709551616) &&& (pw i - 1) < 18446744073709551616 := and_lt hu27
    refine zS [(36, .agg #[.int .u64 ((pw i - 1 : Nat) : Int), .int .u64 ((((x.2 + y.2) % 18446744073709551616) &&& (pw i - 1) : Nat) : Int)])] ?_
    refine st (by rfl) (S_storeA (b := w5.heap.size) (j := 0) (cs := [.int .u64 ((pw i - 1 : Nat) : Int), .int .u64 ((((x.2 + y.2) % 18446744073709551616) &&& (pw i - 1) : Nat) : Int)]) (by kernel_rfl) (by kernel_rfl) (by kernel_rfl) (by simp [oneV]) hQ2 (by simp) fun w29 hT30 hs31 hQ2' => ?_)
    have hT0 := (hT0).then hT30 (fun c e => by have : c = w5.heap.size := e; omega)
    have hQ0 := hQ0.tch hT30 (fun e => by have : w.heap.size = w5.heap.size := e; omega)
    have hQ1 := hQ1.tch hT30 (fun e => by have : w1.heap.size = w5.heap.size := e; omega)
    replace hQ2 : Blk w29 w5.heap.size 100 [.int .u64 ((pw i - 1 : Nat) : Int), .int .u64 ((((x.2 + y.2) % 18446744073709551616) &&& (pw i - 1) : Nat) : Int)] := hQ2'
    refine op_nil ?_
    refine W_ret ?_
    refine ⟨_, Res_cell (b := w5.heap.size) (cs := [.int .u64 ((pw i - 1 : Nat) : Int), .int .u64 ((((x.2 + y.2) % 18446744073709551616) &&& (pw i - 1) : Nat) : Int)]) (by rfl) (by kernel_rfl) (by kernel_rfl) hQ2 (by kernel_rfl) (by kernel_rfl), ?_⟩
    have hor : i = wd ∨ bothB x y i = false := by first | exact .inl (by omega) | exact .inr (both_f (by assumption))
    have e := ksum_eq hi hb hor
    rw [← sum_fin (by omega)] at e
    exact ⟨congrArg kV e, hT0⟩
   ·
    replace hc23 : ((((x.1 &&& y.1) / pw i) &&& 1 : Nat) : Int) ≠ 0 := (ne_of_beq_false hc23)
    refine W_skip ?_
    refine zR ?_
    refine zS [(23, .int .i64 ((i : Nat) : Int)), (24, .int .i64 (IntKind.i64.wrap (((i : Nat) : Int) + 1)))] ?_
    rw [show IntKind.i64.wrap (((i : Nat) : Int) + 1) = ((i : Nat) : Int) + 1 from wrap_i64 (by omega) (by omega)]
    refine fixR (y := ((i + 1 : Nat) : Int)) (by omega) ?_
    refine zS [(7, .int .i64 ((i + 1 : Nat) : Int))] ?_
    refine op_nil ?_
    refine zR ?_
    refine zS [(25, .int .i64 (IntKind.i64.wrap (((i : Nat) : Int) + 1)))] ?_
    rw [show IntKind.i64.wrap (((i : Nat) : Int) + 1) = ((i : Nat) : Int) + 1 from wrap_i64 (by omega) (by omega)]
    refine fixR (y := ((i + 1 : Nat) : Int)) (by omega) ?_
    refine zS [(11, .int .i64 ((i + 1 : Nat) : Int))] ?_
    refine op_nil ?_
    refine ⟨_, ?_, i + 1, _, updL_self (by kernel_rfl), ?_, (fun s h => by by_cases e : s = i; (rw [e]; exact both_t (by assumption)); exact hb s (by omega)), hT0, hQ0, hQ1, hQ2, rfl⟩
    ·
     omega
    ·
     omega
  ·
   replace hc19 : ((wd : Nat) : Int) ≤ ((i : Nat) : Int) := (Int.not_lt.1 (of_decide_eq_false hc19))
   refine W_exit ?_
   refine X_hit ?_
   refine zQ ?_
   refine zS [(26, .int .i64 ((i : Nat) : Int))] ?_
   refine zC (mask_okN i _ (by omega)) ?_
   rintro _ w32 ⟨rfl, hT33⟩
   have hT0 := hT0.t0 hT33
   have hQ0 := hQ0.tch0 hT33
   have hQ1 := hQ1.tch0 hT33
   have hQ2 := hQ2.tch0 hT33
   have hu34 := pwm_lt (x := i) (by omega)
   refine zS [(9, .int .u64 ((pw i - 1 : Nat) : Int))] ?_
   refine op_nil ?_
   refine zQ ?_
   refine zS [(28, .int .u64 ((pw i - 1 : Nat) : Int)), (29, .pointer (some ⟨w.heap.size, 1, none⟩))] ?_
   refine zL (.int .u64 ((x.2 : Nat) : Int)) ((hQ0.cell 1).trans rfl) ?_
   refine zS [(31, .pointer (some ⟨w1.heap.size, 1, none⟩))] ?_
   refine zL (.int .u64 ((y.2 : Nat) : Int)) ((hQ1.cell 1).trans rfl) ?_
   refine zS [(33, .int .u64 (IntKind.u64.wrap (((x.2 : Nat) : Int) + ((y.2 : Nat) : Int))))] ?_
   rw [show IntKind.u64.wrap (((x.2 : Nat) : Int) + ((y.2 : Nat) : Int)) = (((x.2 + y.2) % 18446744073709551616 : Nat) : Int) from u64_add x.2 y.2]
   have hu35 : (x.2 + y.2) % 18446744073709551616 < 18446744073709551616 := mod_lt64 _
   refine zS [(34, .int .u64 ((pw i - 1 : Nat) : Int)), (35, .int .u64 (IntKind.u64.wrap (BitVec.ofInt 64 (((x.2 + y.2) % 18446744073709551616 : Nat) : Int) &&& BitVec.ofInt 64 ((pw i - 1 : Nat) : Int)).toNat))] ?_
   rw [show IntKind.u64.wrap (BitVec.ofInt 64 (((x.2 + y.2) % 18446744073709551616 : Nat) : Int) &&& BitVec.ofInt 64 ((pw i - 1 : Nat) : Int)).toNat = ((((x.2 + y.2) % 18446744073709551616) &&& (pw i - 1) : Nat) : Int) from and_u ((x.2 + y.2) % 18446744073709551616) (pw i - 1) hu35 hu34]
   have hu36 : ((x.2 + y.2) % 18446744073709551616) &&& (pw i - 1) < 18446744073709551616 := and_lt hu35
   refine zS [(36, .agg #[.int .u64 ((pw i - 1 : Nat) : Int), .int .u64 ((((x.2 + y.2) % 18446744073709551616) &&& (pw i - 1) : Nat) : Int)])] ?_
   refine st (by rfl) (S_storeA (b := w5.heap.size) (j := 0) (cs := [.int .u64 ((pw i - 1 : Nat) : Int), .int .u64 ((((x.2 + y.2) % 18446744073709551616) &&& (pw i - 1) : Nat) : Int)]) (by kernel_rfl) (by kernel_rfl) (by kernel_rfl) (by simp [oneV]) hQ2 (by simp) fun w37 hT38 hs39 hQ2' => ?_)
   have hT0 := (hT0).then hT38 (fun c e => by have : c = w5.heap.size := e; omega)
   have hQ0 := hQ0.tch hT38 (fun e => by have : w.heap.size = w5.heap.size := e; omega)
   have hQ1 := hQ1.tch hT38 (fun e => by have : w1.heap.size = w5.heap.size := e; omega)
   replace hQ2 : Blk w37 w5.heap.size 100 [.int .u64 ((pw i - 1 : Nat) : Int), .int .u64 ((((x.2 + y.2) % 18446744073709551616) &&& (pw i - 1) : Nat) : Int)] := hQ2'
   refine op_nil ?_
   refine W_ret ?_
   refine ⟨_, Res_cell (b := w5.heap.size) (cs := [.int .u64 ((pw i - 1 : Nat) : Int), .int .u64 ((((x.2 + y.2) % 18446744073709551616) &&& (pw i - 1) : Nat) : Int)]) (by rfl) (by kernel_rfl) (by kernel_rfl) hQ2 (by kernel_rfl) (by kernel_rfl), ?_⟩
   have hor : i = wd ∨ bothB x y i = false := by first | exact .inl (by omega) | exact .inr (both_f (by assumption))
   have e := ksum_eq hi hb hor
   rw [← sum_fin (by omega)] at e
   exact ⟨congrArg kV e, hT0⟩

set_option maxRecDepth 100000 in
theorem keq_ok (wd : Nat) (x y : K)  (w : World) (hx : KI wd x) (hy : KI wd y) (hw : wd ≤ 64) : Ret Try.prog 79 [.int .i64 ((wd : Nat) : Int), .agg #[.int .u64 ((x.1 : Nat) : Int), .int .u64 ((x.2 : Nat) : Int)], .agg #[.int .u64 ((y.1 : Nat) : Int), .int .u64 ((y.2 : Nat) : Int)]] w fun v w' => v = .agg #[.int .u64 (((keq wd x y).1 : Nat) : Int), .int .u64 (((keq wd x y).2 : Nat) : Int)] ∧ Tch N0 w w' := by
 have ux1 := hx.u1 hw
 have ux2 := hx.u2 hw
 have uy1 := hy.u1 hw
 have uy2 := hy.u2 hw
 refine enter Try.func79 rfl rfl ?_
 refine zQ ?_
 refine st (by rfl) (S_new (v := .pointer (some ⟨w.heap.size, 0, none⟩)) (ob := .cells #[.int .u64 ((x.1 : Nat) : Int), .int .u64 ((x.2 : Nat) : Int)] 100) (by kernel_rfl) fun w1 hT2 hs3 hB4 => ?_)
 replace hB4 : Blk w1 (w.heap.size) 100 [.int .u64 ((x.1 : Nat) : Int), .int .u64 ((x.2 : Nat) : Int)] := hB4
 have hT0 := hT2
 have z9 := hT0.size
 have l10 := hB4.lt
 refine st (by rfl) (S_new (v := .pointer (some ⟨w1.heap.size, 0, none⟩)) (ob := .cells #[.int .u64 ((y.1 : Nat) : Int), .int .u64 ((y.2 : Nat) : Int)] 100) (by kernel_rfl) fun w5 hT6 hs7 hB8 => ?_)
 replace hB8 : Blk w5 (w1.heap.size) 100 [.int .u64 ((y.1 : Nat) : Int), .int .u64 ((y.2 : Nat) : Int)] := hB8
 have hT0 := hT0.t0 hT6
 have hB4 := hB4.tch0 hT6
 have z15 := hT0.size
 have l16 := hB4.lt
 have l17 := hB8.lt
 refine st (by rfl) (S_new (v := .pointer (some ⟨w5.heap.size, 0, none⟩)) (ob := .cells #[.int .u64 0, .int .u64 0] 100) (by kernel_rfl) fun w11 hT12 hs13 hB14 => ?_)
 replace hB14 : Blk w11 (w5.heap.size) 100 [.int .u64 0, .int .u64 0] := hB14
 have hT0 := hT0.t0 hT12
 have hB4 := hB4.tch0 hT12
 have hB8 := hB8.tch0 hT12
 refine op_nil ?_
 refine zQ ?_
 refine zS [(8, .pointer (some ⟨w.heap.size, 0, none⟩))] ?_
 refine zL (.int .u64 ((x.1 : Nat) : Int)) ((hB4.cell 0).trans rfl) ?_
 refine zS [(10, .pointer (some ⟨w1.heap.size, 0, none⟩))] ?_
 refine zL (.int .u64 ((y.1 : Nat) : Int)) ((hB8.cell 0).trans rfl) ?_
 refine zS [(12, .int .u64 (IntKind.u64.wrap (BitVec.ofInt 64 ((x.1 : Nat) : Int) &&& BitVec.ofInt 64 ((y.1 : Nat) : Int)).toNat))] ?_
 rw [show IntKind.u64.wrap (BitVec.ofInt 64 ((x.1 : Nat) : Int) &&& BitVec.ofInt 64 ((y.1 : Nat) : Int)).toNat = ((x.1 &&& y.1 : Nat) : Int) from and_u x.1 y.1 ux1 uy1]
 have hu18 : x.1 &&& y.1 < 18446744073709551616 := and_lt ux1
 refine zS [(7, .int .u64 ((x.1 &&& y.1 : Nat) : Int))] ?_
 refine op_nil ?_
 refine W_seq ?_
 refine W_block ?_
 refine zQ ?_
 refine zS [(14, .pointer (some ⟨w.heap.size, 1, none⟩))] ?_
 refine zL (.int .u64 ((x.2 : Nat) : Int)) ((hB4.cell 1).trans rfl) ?_
 refine zS [(16, .pointer (some ⟨w1.heap.size, 1, none⟩))] ?_
 refine zL (.int .u64 ((y.2 : Nat) : Int)) ((hB8.cell 1).trans rfl) ?_
 refine zS [(18, .int .u64 (IntKind.u64.wrap (BitVec.ofInt 64 ((x.2 : Nat) : Int) ^^^ BitVec.ofInt 64 ((y.2 : Nat) : Int)).toNat))] ?_
 rw [show IntKind.u64.wrap (BitVec.ofInt 64 ((x.2 : Nat) : Int) ^^^ BitVec.ofInt 64 ((y.2 : Nat) : Int)).toNat = ((x.2 ^^^ y.2 : Nat) : Int) from xor_u x.2 y.2 ux2 uy2]
 have hu19 : x.2 ^^^ y.2 < 18446744073709551616 := xor_lt ux2 uy2
 refine zS [(19, .int .u64 ((x.1 &&& y.1 : Nat) : Int)), (20, .int .u64 (IntKind.u64.wrap (BitVec.ofInt 64 ((x.2 ^^^ y.2 : Nat) : Int) &&& BitVec.ofInt 64 ((x.1 &&& y.1 : Nat) : Int)).toNat))] ?_
 rw [show IntKind.u64.wrap (BitVec.ofInt 64 ((x.2 ^^^ y.2 : Nat) : Int) &&& BitVec.ofInt 64 ((x.1 &&& y.1 : Nat) : Int)).toNat = (((x.2 ^^^ y.2) &&& (x.1 &&& y.1) : Nat) : Int) from and_u (x.2 ^^^ y.2) (x.1 &&& y.1) hu19 hu18]
 have hu20 : (x.2 ^^^ y.2) &&& (x.1 &&& y.1) < 18446744073709551616 := and_lt hu19
 refine zS [(21, .bool ((((x.2 ^^^ y.2) &&& (x.1 &&& y.1) : Nat) : Int) != 0)), (13, .bool ((((x.2 ^^^ y.2) &&& (x.1 &&& y.1) : Nat) : Int) != 0))] ?_
 refine zO ((((x.2 ^^^ y.2) &&& (x.1 &&& y.1) : Nat) : Int) != 0) (fun hc21 => ?_) (fun hc21 => ?_)
 ·
  replace hc21 : (((x.2 ^^^ y.2) &&& (x.1 &&& y.1) : Nat) : Int) ≠ 0 := (bne_iff_ne.1 hc21)
  refine zQ ?_
  refine zS [(22, .agg #[.int .u64 1, .int .u64 0])] ?_
  refine st (by rfl) (S_storeA (b := w5.heap.size) (j := 0) (cs := [.int .u64 1, .int .u64 0]) (by kernel_rfl) (by kernel_rfl) (by kernel_rfl) (by simp [oneV]) hB14 (by simp) fun w22 hT23 hs24 hB14' => ?_)
  have hT0 := (hT0).then hT23 (fun c e => by have : c = w5.heap.size := e; omega)
  have hB4 := hB4.tch hT23 (fun e => by have : w.heap.size = w5.heap.size := e; omega)
  have hB8 := hB8.tch hT23 (fun e => by have : w1.heap.size = w5.heap.size := e; omega)
  replace hB14 : Blk w22 w5.heap.size 100 [.int .u64 1, .int .u64 0] := hB14'
  refine op_nil ?_
  refine W_ret ?_
  refine ⟨_, Res_cell (b := w5.heap.size) (cs := [.int .u64 1, .int .u64 0]) (by rfl) (by kernel_rfl) (by kernel_rfl) hB14 (by kernel_rfl) (by kernel_rfl), ?_⟩
  have e : keq wd x y = (1, 0) := by unfold keq; rw [← keq_d hx, ← keq_b hx]; rw [if_pos (by omega)]
  rw [e]
  exact ⟨rfl, hT0⟩
 ·
  replace hc21 : (((x.2 ^^^ y.2) &&& (x.1 &&& y.1) : Nat) : Int) = 0 := (bne_eq_false_iff_eq.1 hc21)
  refine zQ ?_
  refine zS [(24, .int .u64 ((x.1 &&& y.1 : Nat) : Int)), (25, .int .i64 ((wd : Nat) : Int))] ?_
  refine zC (mask_okN wd _ (by omega)) ?_
  rintro _ w25 ⟨rfl, hT26⟩
  have hT0 := hT0.t0 hT26
  have hB4 := hB4.tch0 hT26
  have hB8 := hB8.tch0 hT26
  have hB14 := hB14.tch0 hT26
  have hu27 := pwm_lt (x := wd) (by omega)
  refine zS [(27, .bool (((x.1 &&& y.1 : Nat) : Int) == ((pw wd - 1 : Nat) : Int))), (23, .bool (((x.1 &&& y.1 : Nat) : Int) == ((pw wd - 1 : Nat) : Int)))] ?_
  refine zO (((x.1 &&& y.1 : Nat) : Int) == ((pw wd - 1 : Nat) : Int)) (fun hc28 => ?_) (fun hc28 => ?_)
  ·
   replace hc28 : ((x.1 &&& y.1 : Nat) : Int) = ((pw wd - 1 : Nat) : Int) := (eq_of_beq hc28)
   refine zQ ?_
   refine zS [(28, .agg #[.int .u64 1, .int .u64 1])] ?_
   refine st (by rfl) (S_storeA (b := w5.heap.size) (j := 0) (cs := [.int .u64 1, .int .u64 1]) (by kernel_rfl) (by kernel_rfl) (by kernel_rfl) (by simp [oneV]) hB14 (by simp) fun w29 hT30 hs31 hB14' => ?_)
   have hT0 := (hT0).then hT30 (fun c e => by have : c = w5.heap.size := e; omega)
   have hB4 := hB4.tch hT30 (fun e => by have : w.heap.size = w5.heap.size := e; omega)
   have hB8 := hB8.tch hT30 (fun e => by have : w1.heap.size = w5.heap.size := e; omega)
   replace hB14 : Blk w29 w5.heap.size 100 [.int .u64 1, .int .u64 1] := hB14'
   refine op_nil ?_
   refine W_ret ?_
   refine ⟨_, Res_cell (b := w5.heap.size) (cs := [.int .u64 1, .int .u64 1]) (by rfl) (by kernel_rfl) (by kernel_rfl) hB14 (by kernel_rfl) (by kernel_rfl), ?_⟩
   have e : keq wd x y = (1, 1) := by unfold keq; rw [← keq_d hx, ← keq_b hx]; rw [if_neg (by omega), if_pos (by omega)]
   rw [e]
   exact ⟨rfl, hT0⟩
  ·
   replace hc28 : ((x.1 &&& y.1 : Nat) : Int) ≠ ((pw wd - 1 : Nat) : Int) := (ne_of_beq_false hc28)
   refine W_skip ?_
   refine zQ ?_
   refine zS [(29, .agg #[.int .u64 0, .int .u64 0])] ?_
   refine st (by rfl) (S_storeA (b := w5.heap.size) (j := 0) (cs := [.int .u64 0, .int .u64 0]) (by kernel_rfl) (by kernel_rfl) (by kernel_rfl) (by simp [oneV]) hB14 (by simp) fun w32 hT33 hs34 hB14' => ?_)
   have hT0 := (hT0).then hT33 (fun c e => by have : c = w5.heap.size := e; omega)
   have hB4 := hB4.tch hT33 (fun e => by have : w.heap.size = w5.heap.size := e; omega)
   have hB8 := hB8.tch hT33 (fun e => by have : w1.heap.size = w5.heap.size := e; omega)
   replace hB14 : Blk w32 w5.heap.size 100 [.int .u64 0, .int .u64 0] := hB14'
   refine op_nil ?_
   refine W_ret ?_
   refine ⟨_, Res_cell (b := w5.heap.size) (cs := [.int .u64 0, .int .u64 0]) (by rfl) (by kernel_rfl) (by kernel_rfl) hB14 (by kernel_rfl) (by kernel_rfl), ?_⟩
   have e : keq wd x y = (0, 0) := by unfold keq; rw [← keq_d hx, ← keq_b hx]; rw [if_neg (by omega), if_neg (by omega)]
   rw [e]
   exact ⟨rfl, hT0⟩

set_option maxRecDepth 100000 in
theorem kmv9_ok (wd : Nat) (x : K) (by_ : Nat) (w : World) (hx : KI wd x) (hw : wd ≤ 64) (hb : by_ < 18446744073709551616) : Ret Try.prog 80 [.int .i64 9, .int .i64 ((wd : Nat) : Int), .agg #[.int .u64 ((x.1 : Nat) : Int), .int .u64 ((x.2 : Nat) : Int)], .int .u64 ((by_ : Nat) : Int)] w fun v w' => v = .agg #[.int .u64 (((kmv 9 wd x by_).1 : Nat) : Int), .int .u64 (((kmv 9 wd x by_).2 : Nat) : Int)] ∧ Tch N0 w w' := by
 have ux1 := hx.u1 hw
 have ux2 := hx.u2 hw
 refine enter Try.func80 rfl rfl ?_
 refine zQ ?_
 refine st (by rfl) (S_new (v := .pointer (some ⟨w.heap.size, 0, none⟩)) (ob := .cells #[.int .u64 ((x.1 : Nat) : Int), .int .u64 ((x.2 : Nat) : Int)] 100) (by kernel_rfl) fun w1 hT2 hs3 hB4 => ?_)
 replace hB4 : Blk w1 (w.heap.size) 100 [.int .u64 ((x.1 : Nat) : Int), .int .u64 ((x.2 : Nat) : Int)] := hB4
 have hT0 := hT2
 have z9 := hT0.size
 have l10 := hB4.lt
 refine st (by rfl) (S_new (v := .pointer (some ⟨w1.heap.size, 0, none⟩)) (ob := .cells #[.int .u64 0, .int .u64 0] 100) (by kernel_rfl) fun w5 hT6 hs7 hB8 => ?_)
 replace hB8 : Blk w5 (w1.heap.size) 100 [.int .u64 0, .int .u64 0] := hB8
 have hT0 := hT0.t0 hT6
 have hB4 := hB4.tch0 hT6
 refine op_nil ?_
 refine zQ ?_
 refine zS [(10, .int .i64 ((wd : Nat) : Int))] ?_
 refine zC (mask_okN wd _ (by omega)) ?_
 rintro _ w11 ⟨rfl, hT12⟩
 have hT0 := hT0.t0 hT12
 have hB4 := hB4.tch0 hT12
 have hB8 := hB8.tch0 hT12
 have hu13 := pwm_lt (x := wd) (by omega)
 refine zS [(9, .int .u64 ((pw wd - 1 : Nat) : Int))] ?_
 refine op_nil ?_
 refine W_seq ?_
 refine zQ ?_
 refine zS [(12, .int .u64 ((by_ : Nat) : Int)), (13, .int .i64 ((wd : Nat) : Int)), (14, .int .u64 (IntKind.u64.wrap ((wd : Nat) : Int)))] ?_
 rw [show IntKind.u64.wrap ((wd : Nat) : Int) = ((wd : Nat) : Int) from wrap_u64 (by omega) (by omega)]
 refine zS [(15, .bool (decide (((by_ : Nat) : Int) ≥ ((wd : Nat) : Int))))] ?_
 refine zO (decide (((by_ : Nat) : Int) ≥ ((wd : Nat) : Int))) (fun hc14 => ?_) (fun hc14 => ?_)
 ·
  replace hc14 : ((wd : Nat) : Int) ≤ ((by_ : Nat) : Int) := (of_decide_eq_true hc14)
  refine zQ ?_
  refine zS [(16, .int .u64 ((pw wd - 1 : Nat) : Int)), (17, .agg #[.int .u64 ((pw wd - 1 : Nat) : Int), .int .u64 0])] ?_
  refine st (by rfl) (S_storeA (b := w1.heap.size) (j := 0) (cs := [.int .u64 ((pw wd - 1 : Nat) : Int), .int .u64 0]) (by kernel_rfl) (by kernel_rfl) (by kernel_rfl) (by simp [oneV]) hB8 (by simp) fun w15 hT16 hs17 hB8' => ?_)
  have hT0 := (hT0).then hT16 (fun c e => by have : c = w1.heap.size := e; omega)
  have hB4 := hB4.tch hT16 (fun e => by have : w.heap.size = w1.heap.size := e; omega)
  replace hB8 : Blk w15 w1.heap.size 100 [.int .u64 ((pw wd - 1 : Nat) : Int), .int .u64 0] := hB8'
  refine op_nil ?_
  refine W_ret ?_
  exact ⟨_, Res_cell (b := w1.heap.size) (cs := [.int .u64 ((pw wd - 1 : Nat) : Int), .int .u64 0]) (by rfl) (by kernel_rfl) (by kernel_rfl) hB8 (by kernel_rfl) (by kernel_rfl), ⟨congrArg kV (kmv_far (op := 9) (x := x) (by omega)), hT0⟩⟩
 ·
  replace hc14 : ((by_ : Nat) : Int) < ((wd : Nat) : Int) := (Int.not_le.1 (of_decide_eq_false hc14))
  refine W_skip ?_
  refine W_seq ?_
  refine zQ ?_
  refine zS [(18, .int .i64 9), (19, .bool true)] ?_
  refine zO true (fun _ => ?_) (fun h => nomatch h)
  refine W_seq ?_
  refine W_draw (fun w' => Blk w' (w.heap.size) 100 [.int .u64 ((x.1 : Nat) : Int), .int .u64 ((x.2 : Nat) : Int)]) (by kernel_rfl) (by kernel_rfl) (by kernel_rfl) fun w18 hT19 hh20 => ?_
  have hT0 := hT0.t0 hT19
  have hB4 := hB4.tch0 hT19
  have hB8 := hB8.tch0 hT19
  refine zK [0, 2, 4, 8, 10, 12, 14] #[true, false, true, false, true, false, false, false, true, false, true, false, true, false, true, false, false, false] [(20, .pointer (some ⟨w.heap.size, 0, none⟩)), (22, .int .u64 ((by_ : Nat) : Int)), (24, .int .u64 ((by_ : Nat) : Int)), (28, .int .u64 ((pw wd - 1 : Nat) : Int)), (30, .pointer (some ⟨w.heap.size, 1, none⟩)), (32, .int .u64 ((by_ : Nat) : Int)), (34, .int .u64 ((pw wd - 1 : Nat) : Int))] hB4 ?_
  refine zV 1 rfl (.int .u64 ((x.1 : Nat) : Int)) (fun _ hB4 => R_load (v := .int .u64 ((x.1 : Nat) : Int)) (by kernel_rfl) (by kernel_rfl) ((hB4.cell 0).trans rfl)) hB4 ?_
  refine zK [5] #[true, true, true, false, true, true, false, false, true, false, true, false, true, false, true, false, false, false] [(25, .int .i64 (IntKind.i64.wrap ((by_ : Nat) : Int)))] hB4 ?_
  rw [show IntKind.i64.wrap ((by_ : Nat) : Int) = ((by_ : Nat) : Int) from wrap_i64 (by omega) (by omega)]
  refine zV 3 rfl (.int .u64 ((x.1 * pw by_ % 18446744073709551616 : Nat) : Int)) (fun _ hB4 => R_shlP (k2 := .u64) x.1 by_ (by kernel_rfl) (by kernel_rfl) (by omega)) hB4 ?_
  have hu21 : x.1 * pw by_ % 18446744073709551616 < 18446744073709551616 := mod_lt64 _
  refine zV 11 rfl (.int .u64 ((x.2 : Nat) : Int)) (fun _ hB4 => R_load (v := .int .u64 ((x.2 : Nat) : Int)) (by kernel_rfl) (by kernel_rfl) ((hB4.cell 1).trans rfl)) hB4 ?_
  refine zV 13 rfl (.int .u64 ((x.2 * pw by_ % 18446744073709551616 : Nat) : Int)) (fun _ hB4 => R_shlP (k2 := .u64) x.2 by_ (by kernel_rfl) (by kernel_rfl) (by omega)) hB4 ?_
  have hu22 : x.2 * pw by_ % 18446744073709551616 < 18446744073709551616 := mod_lt64 _
  refine zK [15] #[true, true, true, true, true, true, false, false, true, false, true, true, true, true, true, true, false, false] [(35, .int .u64 (IntKind.u64.wrap (BitVec.ofInt 64 ((x.2 * pw by_ % 18446744073709551616 : Nat) : Int) &&& BitVec.ofInt 64 ((pw wd - 1 : Nat) : Int)).toNat))] hB4 ?_
  rw [show IntKind.u64.wrap (BitVec.ofInt 64 ((x.2 * pw by_ % 18446744073709551616 : Nat) : Int) &&& BitVec.ofInt 64 ((pw wd - 1 : Nat) : Int)).toNat = (((x.2 * pw by_ % 18446744073709551616) &&& (pw wd - 1) : Nat) : Int) from and_u (x.2 * pw by_ % 18446744073709551616) (pw wd - 1) hu22 hu13]
  have hu23 : (x.2 * pw by_ % 18446744073709551616) &&& (pw wd - 1) < 18446744073709551616 := and_lt hu22
  refine zD 6 rfl (S_call (args := [.int .i64 ((by_ : Nat) : Int)]) (by kernel_rfl) (mask_okN by_ _ (by omega)) ?_)
  rintro _ w24 ⟨rfl, hT25⟩
  have hT0 := hT0.t0 hT25
  have hB4 := hB4.tch0 hT25
  have hB8 := hB8.tch0 hT25
  have hu26 := pwm_lt (x := by_) (by omega)
  refine ⟨hB4, ?_⟩
  refine zK [7] #[true, true, true, true, true, true, true, true, true, false, true, true, true, true, true, true, false, false] [(27, .int .u64 (IntKind.u64.wrap (BitVec.ofInt 64 ((x.1 * pw by_ % 18446744073709551616 : Nat) : Int) ||| BitVec.ofInt 64 ((pw by_ - 1 : Nat) : Int)).toNat))] hB4 ?_
  rw [show IntKind.u64.wrap (BitVec.ofInt 64 ((x.1 * pw by_ % 18446744073709551616 : Nat) : Int) ||| BitVec.ofInt 64 ((pw by_ - 1 : Nat) : Int)).toNat = (((x.1 * pw by_ % 18446744073709551616) ||| (pw by_ - 1) : Nat) : Int) from or_u (x.1 * pw by_ % 18446744073709551616) (pw by_ - 1) hu21 hu26]
  have hu27 : (x.1 * pw by_ % 18446744073709551616) ||| (pw by_ - 1) < 18446744073709551616 := or_lt hu21 hu26
  refine zK [9] #[true, true, true, true, true, true, true, true, true, true, true, true, true, true, true, true, false, false] [(29, .int .u64 (IntKind.u64.wrap (BitVec.ofInt 64 (((x.1 * pw by_ % 18446744073709551616) ||| (pw by_ - 1) : Nat) : Int) &&& BitVec.ofInt 64 ((pw wd - 1 : Nat) : Int)).toNat))] hB4 ?_
  rw [show IntKind.u64.wrap (BitVec.ofInt 64 (((x.1 * pw by_ % 18446744073709551616) ||| (pw by_ - 1) : Nat) : Int) &&& BitVec.ofInt 64 ((pw wd - 1 : Nat) : Int)).toNat = ((((x.1 * pw by_ % 18446744073709551616) ||| (pw by_ - 1)) &&& (pw wd - 1) : Nat) : Int) from and_u ((x.1 * pw by_ % 18446744073709551616) ||| (pw by_ - 1)) (pw wd - 1) hu27 hu13]
  have hu28 : ((x.1 * pw by_ % 18446744073709551616) ||| (pw by_ - 1)) &&& (pw wd - 1) < 18446744073709551616 := and_lt hu27
  refine zK [16] #[true, true, true, true, true, true, true, true, true, true, true, true, true, true, true, true, true, false] [(36, .agg #[.int .u64 ((((x.1 * pw by_ % 18446744073709551616) ||| (pw by_ - 1)) &&& (pw wd - 1) : Nat) : Int), .int .u64 (((x.2 * pw by_ % 18446744073709551616) &&& (pw wd - 1) : Nat) : Int)])] hB4 ?_
  refine zD 17 rfl (S_storeA (b := w1.heap.size) (j := 0) (cs := [.int .u64 ((((x.1 * pw by_ % 18446744073709551616) ||| (pw by_ - 1)) &&& (pw wd - 1) : Nat) : Int), .int .u64 (((x.2 * pw by_ % 18446744073709551616) &&& (pw wd - 1) : Nat) : Int)]) (by kernel_rfl) (by kernel_rfl) (by kernel_rfl) (by simp [oneV]) hB8 (by simp) fun w29 hT30 hs31 hB8' => ?_)
  have hT0 := (hT0).then hT30 (fun c e => by have : c = w1.heap.size := e; omega)
  have hB4 := hB4.tch hT30 (fun e => by have : w.heap.size = w1.heap.size := e; omega)
  replace hB8 : Blk w29 w1.heap.size 100 [.int .u64 ((((x.1 * pw by_ % 18446744073709551616) ||| (pw by_ - 1)) &&& (pw wd - 1) : Nat) : Int), .int .u64 (((x.2 * pw by_ % 18446744073709551616) &&& (pw wd - 1) : Nat) : Int)] := hB8'
  refine ⟨hB4, ?_⟩
  refine d_done (by kernel_rfl) ?_
  refine W_ret ?_
  exact ⟨_, Res_cell (b := w1.heap.size) (cs := [.int .u64 ((((x.1 * pw by_ % 18446744073709551616) ||| (pw by_ - 1)) &&& (pw wd - 1) : Nat) : Int), .int .u64 (((x.2 * pw by_ % 18446744073709551616) &&& (pw wd - 1) : Nat) : Int)]) (by rfl) (by kernel_rfl) (by kernel_rfl) hB8 (by kernel_rfl) (by kernel_rfl), ⟨congrArg kV (kmv9 hx hw (by omega)), hT0⟩⟩

set_option maxRecDepth 100000 in
theorem kmv10_ok (wd : Nat) (x : K) (by_ : Nat) (w : World) (hx : KI wd x) (hw : wd ≤ 64) (hb : by_ < 18446744073709551616) : Ret Try.prog 80 [.int .i64 10, .int .i64 ((wd : Nat) : Int), .agg #[.int .u64 ((x.1 : Nat) : Int), .int .u64 ((x.2 : Nat) : Int)], .int .u64 ((by_ : Nat) : Int)] w fun v w' => v = .agg #[.int .u64 (((kmv 10 wd x by_).1 : Nat) : Int), .int .u64 (((kmv 10 wd x by_).2 : Nat) : Int)] ∧ Tch N0 w w' := by
 have ux1 := hx.u1 hw
 have ux2 := hx.u2 hw
 refine enter Try.func80 rfl rfl ?_
 refine zQ ?_
 refine st (by rfl) (S_new (v := .pointer (some ⟨w.heap.size, 0, none⟩)) (ob := .cells #[.int .u64 ((x.1 : Nat) : Int), .int .u64 ((x.2 : Nat) : Int)] 100) (by kernel_rfl) fun w1 hT2 hs3 hB4 => ?_)
 replace hB4 : Blk w1 (w.heap.size) 100 [.int .u64 ((x.1 : Nat) : Int), .int .u64 ((x.2 : Nat) : Int)] := hB4
 have hT0 := hT2
 have z9 := hT0.size
 have l10 := hB4.lt
 refine st (by rfl) (S_new (v := .pointer (some ⟨w1.heap.size, 0, none⟩)) (ob := .cells #[.int .u64 0, .int .u64 0] 100) (by kernel_rfl) fun w5 hT6 hs7 hB8 => ?_)
 replace hB8 : Blk w5 (w1.heap.size) 100 [.int .u64 0, .int .u64 0] := hB8
 have hT0 := hT0.t0 hT6
 have hB4 := hB4.tch0 hT6
 refine op_nil ?_
 refine zQ ?_
 refine zS [(10, .int .i64 ((wd : Nat) : Int))] ?_
 refine zC (mask_okN wd _ (by omega)) ?_
 rintro _ w11 ⟨rfl, hT12⟩
 have hT0 := hT0.t0 hT12
 have hB4 := hB4.tch0 hT12
 have hB8 := hB8.tch0 hT12
 have hu13 := pwm_lt (x := wd) (by omega)
 refine zS [(9, .int .u64 ((pw wd - 1 : Nat) : Int))] ?_
 refine op_nil ?_
 refine W_seq ?_
 refine zQ ?_
 refine zS [(12, .int .u64 ((by_ : Nat) : Int)), (13, .int .i64 ((wd : Nat) : Int)), (14, .int .u64 (IntKind.u64.wrap ((wd : Nat) : Int)))] ?_
 rw [show IntKind.u64.wrap ((wd : Nat) : Int) = ((wd : Nat) : Int) from wrap_u64 (by omega) (by omega)]
 refine zS [(15, .bool (decide (((by_ : Nat) : Int) ≥ ((wd : Nat) : Int))))] ?_
 refine zO (decide (((by_ : Nat) : Int) ≥ ((wd : Nat) : Int))) (fun hc14 => ?_) (fun hc14 => ?_)
 ·
  replace hc14 : ((wd : Nat) : Int) ≤ ((by_ : Nat) : Int) := (of_decide_eq_true hc14)
  refine zQ ?_
  refine zS [(16, .int .u64 ((pw wd - 1 : Nat) : Int)), (17, .agg #[.int .u64 ((pw wd - 1 : Nat) : Int), .int .u64 0])] ?_
  refine st (by rfl) (S_storeA (b := w1.heap.size) (j := 0) (cs := [.int .u64 ((pw wd - 1 : Nat) : Int), .int .u64 0]) (by kernel_rfl) (by kernel_rfl) (by kernel_rfl) (by simp [oneV]) hB8 (by simp) fun w15 hT16 hs17 hB8' => ?_)
  have hT0 := (hT0).then hT16 (fun c e => by have : c = w1.heap.size := e; omega)
  have hB4 := hB4.tch hT16 (fun e => by have : w.heap.size = w1.heap.size := e; omega)
  replace hB8 : Blk w15 w1.heap.size 100 [.int .u64 ((pw wd - 1 : Nat) : Int), .int .u64 0] := hB8'
  refine op_nil ?_
  refine W_ret ?_
  exact ⟨_, Res_cell (b := w1.heap.size) (cs := [.int .u64 ((pw wd - 1 : Nat) : Int), .int .u64 0]) (by rfl) (by kernel_rfl) (by kernel_rfl) hB8 (by kernel_rfl) (by kernel_rfl), ⟨congrArg kV (kmv_far (op := 10) (x := x) (by omega)), hT0⟩⟩
 ·
  replace hc14 : ((by_ : Nat) : Int) < ((wd : Nat) : Int) := (Int.not_le.1 (of_decide_eq_false hc14))
  refine W_skip ?_
  refine W_seq ?_
  refine zQ ?_
  refine zS [(18, .int .i64 10), (19, .bool false)] ?_
  refine zO false (fun h => nomatch h) (fun _ => ?_)
  refine W_skip ?_
  refine zQ ?_
  refine zS [(37, .pointer (some ⟨w.heap.size, 0, none⟩))] ?_
  refine zL (.int .u64 ((x.1 : Nat) : Int)) ((hB4.cell 0).trans rfl) ?_
  refine zS [(39, .int .u64 ((by_ : Nat) : Int))] ?_
  refine stv (v := .int .u64 ((x.1 / pw by_ : Nat) : Int)) (by rfl) (R_shrP (k2 := .u64) x.1 by_ (by kernel_rfl) (by kernel_rfl) (by omega)) ?_
  have hu18 : x.1 / pw by_ < 18446744073709551616 := div_lt64 ux1
  refine zS [(41, .int .u64 ((pw wd - 1 : Nat) : Int)), (42, .int .u64 ((pw wd - 1 : Nat) : Int)), (43, .int .u64 ((by_ : Nat) : Int))] ?_
  refine stv (v := .int .u64 (((pw wd - 1) / pw by_ : Nat) : Int)) (by rfl) (R_shrP (k2 := .u64) (pw wd - 1) by_ (by kernel_rfl) (by kernel_rfl) (by omega)) ?_
  have hu19 : (pw wd - 1) / pw by_ < 18446744073709551616 := div_lt64 hu13
  refine zS [(45, .int .u64 (IntKind.u64.wrap (BitVec.ofInt 64 ((pw wd - 1 : Nat) : Int) &&& ~~~BitVec.ofInt 64 (((pw wd - 1) / pw by_ : Nat) : Int)).toNat))] ?_
  rw [show IntKind.u64.wrap (BitVec.ofInt 64 ((pw wd - 1 : Nat) : Int) &&& ~~~BitVec.ofInt 64 (((pw wd - 1) / pw by_ : Nat) : Int)).toNat = ((andn (pw wd - 1) ((pw wd - 1) / pw by_) : Nat) : Int) from andn_u (pw wd - 1) ((pw wd - 1) / pw by_) hu13 hu19]
  have hu20 : andn (pw wd - 1) ((pw wd - 1) / pw by_) < 18446744073709551616 := andn_lt hu13
  refine zS [(46, .int .u64 (IntKind.u64.wrap (BitVec.ofInt 64 ((x.1 / pw by_ : Nat) : Int) ||| BitVec.ofInt 64 ((andn (pw wd - 1) ((pw wd - 1) / pw by_) : Nat) : Int)).toNat))] ?_
  rw [show IntKind.u64.wrap (BitVec.ofInt 64 ((x.1 / pw by_ : Nat) : Int) ||| BitVec.ofInt 64 ((andn (pw wd - 1) ((pw wd - 1) / pw by_) : Nat) : Int)).toNat = (((x.1 / pw by_) ||| (andn (pw wd - 1) ((pw wd - 1) / pw by_)) : Nat) : Int) from or_u (x.1 / pw by_) (andn (pw wd - 1) ((pw wd - 1) / pw by_)) hu18 hu20]
  have hu21 : (x.1 / pw by_) ||| (andn (pw wd - 1) ((pw wd - 1) / pw by_)) < 18446744073709551616 := or_lt hu18 hu20
  refine zS [(47, .pointer (some ⟨w.heap.size, 1, none⟩))] ?_
  refine zL (.int .u64 ((x.2 : Nat) : Int)) ((hB4.cell 1).trans rfl) ?_
  refine zS [(49, .int .u64 ((by_ : Nat) : Int))] ?_
  refine stv (v := .int .u64 ((x.2 / pw by_ : Nat) : Int)) (by rfl) (R_shrP (k2 := .u64) x.2 by_ (by kernel_rfl) (by kernel_rfl) (by omega)) ?_
  have hu22 : x.2 / pw by_ < 18446744073709551616 := div_lt64 ux2
  refine zS [(51, .agg #[.int .u64 (((x.1 / pw by_) ||| (andn (pw wd - 1) ((pw wd - 1) / pw by_)) : Nat) : Int), .int .u64 ((x.2 / pw by_ : Nat) : Int)])] ?_
  refine st (by rfl) (S_storeA (b := w1.heap.size) (j := 0) (cs := [.int .u64 (((x.1 / pw by_) ||| (andn (pw wd - 1) ((pw wd - 1) / pw by_)) : Nat) : Int), .int .u64 ((x.2 / pw by_ : Nat) : Int)]) (by kernel_rfl) (by kernel_rfl) (by kernel_rfl) (by simp [oneV]) hB8 (by simp) fun w23 hT24 hs25 hB8' => ?_)
  have hT0 := (hT0).then hT24 (fun c e => by have : c = w1.heap.size := e; omega)
  have hB4 := hB4.tch hT24 (fun e => by have : w.heap.size = w1.heap.size := e; omega)
  replace hB8 : Blk w23 w1.heap.size 100 [.int .u64 (((x.1 / pw by_) ||| (andn (pw wd - 1) ((pw wd - 1) / pw by_)) : Nat) : Int), .int .u64 ((x.2 / pw by_ : Nat) : Int)] := hB8'
  refine op_nil ?_
  refine W_ret ?_
  exact ⟨_, Res_cell (b := w1.heap.size) (cs := [.int .u64 (((x.1 / pw by_) ||| (andn (pw wd - 1) ((pw wd - 1) / pw by_)) : Nat) : Int), .int .u64 ((x.2 / pw by_ : Nat) : Int)]) (by rfl) (by kernel_rfl) (by kernel_rfl) hB8 (by kernel_rfl) (by kernel_rfl), ⟨congrArg kV (kmv10 hx hw (by omega)), hT0⟩⟩

set_option maxRecDepth 100000 in
theorem kwide25_ok (W wd : Nat) (x : K) (na nb nc nv : Int) (w : World) (hx : KI wd x) (h1 : 1 ≤ wd) (hlt : wd ≤ W) (hW : W ≤ 64) : Ret Try.prog 82 [.agg #[.int .i64 25, .int .i64 ((W : Nat) : Int), .int .i64 na, .int .i64 nb, .int .i64 nc, .int .u64 nv], .int .i64 ((wd : Nat) : Int), .agg #[.int .u64 ((x.1 : Nat) : Int), .int .u64 ((x.2 : Nat) : Int)]] w fun v w' => v = .agg #[.int .u64 (((kpart W 0 wd x true false).1 : Nat) : Int), .int .u64 (((kpart W 0 wd x true false).2 : Nat) : Int)] ∧ Tch N0 w w' := by
 have hw : wd ≤ 64 := by omega
 have ux1 := hx.u1 hw
 have ux2 := hx.u2 hw
 refine enter Try.func82 rfl rfl ?_
 refine zQ ?_
 refine st (by rfl) (S_new (v := .pointer (some ⟨w.heap.size, 0, none⟩)) (ob := .cells #[.int .i64 25, .int .i64 ((W : Nat) : Int), .int .i64 na, .int .i64 nb, .int .i64 nc, .int .u64 nv] 32) (by kernel_rfl) fun w1 hT2 hs3 hB4 => ?_)
 replace hB4 : Blk w1 (w.heap.size) 32 [.int .i64 25, .int .i64 ((W : Nat) : Int), .int .i64 na, .int .i64 nb, .int .i64 nc, .int .u64 nv] := hB4
 have hT0 := hT2
 have z9 := hT0.size
 have l10 := hB4.lt
 refine st (by rfl) (S_new (v := .pointer (some ⟨w1.heap.size, 0, none⟩)) (ob := .cells #[.int .u64 ((x.1 : Nat) : Int), .int .u64 ((x.2 : Nat) : Int)] 100) (by kernel_rfl) fun w5 hT6 hs7 hB8 => ?_)
 replace hB8 : Blk w5 (w1.heap.size) 100 [.int .u64 ((x.1 : Nat) : Int), .int .u64 ((x.2 : Nat) : Int)] := hB8
 have hT0 := hT0.t0 hT6
 have hB4 := hB4.tch0 hT6
 have z15 := hT0.size
 have l16 := hB4.lt
 have l17 := hB8.lt
 refine st (by rfl) (S_new (v := .pointer (some ⟨w5.heap.size, 0, none⟩)) (ob := .cells #[.int .u64 0, .int .u64 0] 100) (by kernel_rfl) fun w11 hT12 hs13 hB14 => ?_)
 replace hB14 : Blk w11 (w5.heap.size) 100 [.int .u64 0, .int .u64 0] := hB14
 have hT0 := hT0.t0 hT12
 have hB4 := hB4.tch0 hT12
 have hB8 := hB8.tch0 hT12
 refine op_nil ?_
 refine zQ ?_
 refine zS [(9, .pointer (some ⟨w.heap.size, 1, none⟩))] ?_
 refine zL (.int .i64 ((W : Nat) : Int)) ((hB4.cell 1).trans rfl) ?_
 refine zC (mask_okN W _ (by omega)) ?_
 rintro _ w18 ⟨rfl, hT19⟩
 have hT0 := hT0.t0 hT19
 have hB4 := hB4.tch0 hT19
 have hB8 := hB8.tch0 hT19
 have hB14 := hB14.tch0 hT19
 have hu20 := pwm_lt (x := W) (by omega)
 refine zS [(12, .int .i64 ((wd : Nat) : Int))] ?_
 refine zC (mask_okN wd _ (by omega)) ?_
 rintro _ w21 ⟨rfl, hT22⟩
 have hT0 := hT0.t0 hT22
 have hB4 := hB4.tch0 hT22
 have hB8 := hB8.tch0 hT22
 have hB14 := hB14.tch0 hT22
 have hu23 := pwm_lt (x := wd) (by omega)
 refine zS [(14, .int .u64 (IntKind.u64.wrap (BitVec.ofInt 64 ((pw W - 1 : Nat) : Int) &&& ~~~BitVec.ofInt 64 ((pw wd - 1 : Nat) : Int)).toNat))] ?_
 rw [show IntKind.u64.wrap (BitVec.ofInt 64 ((pw W - 1 : Nat) : Int) &&& ~~~BitVec.ofInt 64 ((pw wd - 1 : Nat) : Int)).toNat = ((andn (pw W - 1) (pw wd - 1) : Nat) : Int) from andn_u (pw W - 1) (pw wd - 1) hu20 hu23]
 have hu24 : andn (pw W - 1) (pw wd - 1) < 18446744073709551616 := andn_lt hu20
 refine zS [(7, .int .u64 ((andn (pw W - 1) (pw wd - 1) : Nat) : Int))] ?_
 refine op_nil ?_
 refine zQ ?_
 refine zS [(15, .int .i64 ((wd : Nat) : Int)), (16, .int .i64 (IntKind.i64.wrap (((wd : Nat) : Int) - 1)))] ?_
 rw [show IntKind.i64.wrap (((wd : Nat) : Int) - 1) = ((wd : Nat) : Int) - 1 from wrap_i64 (by omega) (by omega)]
 refine fixR (y := ((wd - 1 : Nat) : Int)) (by omega) ?_
 refine stv (v := .int .u64 ((pw (wd - 1) : Nat) : Int)) (by rfl) (R_shl1 (k2 := .i64) (wd - 1) (by kernel_rfl) (by kernel_rfl) (by omega)) ?_
 have hu25 : pw (wd - 1) < 18446744073709551616 := (by have := pw_u64 (i := (wd - 1)) (by omega); omega)
 refine zS [(8, .int .u64 ((pw (wd - 1) : Nat) : Int))] ?_
 refine op_nil ?_
 refine W_seq ?_
 refine W_block ?_
 refine W_seq ?_
 refine zQ ?_
 refine zS [(19, .pointer (some ⟨w.heap.size, 0, none⟩))] ?_
 refine zL (.int .i64 25) ((hB4.cell 0).trans rfl) ?_
 refine zS [(21, .bool true), (18, .bool true)] ?_
 refine zO true (fun _ => ?_) (fun h => nomatch h)
 refine W_skip ?_
 refine zW true (fun _ => ?_) (fun h => nomatch h)
 refine zQ ?_
 refine zS [(27, .pointer (some ⟨w1.heap.size, 0, none⟩))] ?_
 refine zL (.int .u64 ((x.1 : Nat) : Int)) ((hB8.cell 0).trans rfl) ?_
 refine zS [(29, .int .u64 ((andn (pw W - 1) (pw wd - 1) : Nat) : Int)), (30, .int .u64 (IntKind.u64.wrap (BitVec.ofInt 64 ((x.1 : Nat) : Int) ||| BitVec.ofInt 64 ((andn (pw W - 1) (pw wd - 1) : Nat) : Int)).toNat))] ?_
 rw [show IntKind.u64.wrap (BitVec.ofInt 64 ((x.1 : Nat) : Int) ||| BitVec.ofInt 64 ((andn (pw W - 1) (pw wd - 1) : Nat) : Int)).toNat = ((x.1 ||| (andn (pw W - 1) (pw wd - 1)) : Nat) : Int) from or_u x.1 (andn (pw W - 1) (pw wd - 1)) ux1 hu24]
 have hu26 : x.1 ||| (andn (pw W - 1) (pw wd - 1)) < 18446744073709551616 := or_lt ux1 hu24
 refine zS [(31, .pointer (some ⟨w1.heap.size, 1, none⟩))] ?_
 refine zL (.int .u64 ((x.2 : Nat) : Int)) ((hB8.cell 1).trans rfl) ?_
 refine zS [(33, .agg #[.int .u64 ((x.1 ||| (andn (pw W - 1) (pw wd - 1)) : Nat) : Int), .int .u64 ((x.2 : Nat) : Int)])] ?_
 refine st (by rfl) (S_storeA (b := w5.heap.size) (j := 0) (cs := [.int .u64 ((x.1 ||| (andn (pw W - 1) (pw wd - 1)) : Nat) : Int), .int .u64 ((x.2 : Nat) : Int)]) (by kernel_rfl) (by kernel_rfl) (by kernel_rfl) (by simp [oneV]) hB14 (by simp) fun w27 hT28 hs29 hB14' => ?_)
 have hT0 := (hT0).then hT28 (fun c e => by have : c = w5.heap.size := e; omega)
 have hB4 := hB4.tch hT28 (hB4.ne hB14 (by decide))
 have hB8 := hB8.tch hT28 (fun e => by have : w1.heap.size = w5.heap.size := e; omega)
 replace hB14 : Blk w27 w5.heap.size 100 [.int .u64 ((x.1 ||| (andn (pw W - 1) (pw wd - 1)) : Nat) : Int), .int .u64 ((x.2 : Nat) : Int)] := hB14'
 refine op_nil ?_
 refine W_ret ?_
 exact ⟨_, Res_cell (b := w5.heap.size) (cs := [.int .u64 ((x.1 ||| (andn (pw W - 1) (pw wd - 1)) : Nat) : Int), .int .u64 ((x.2 : Nat) : Int)]) (by rfl) (by kernel_rfl) (by kernel_rfl) hB14 (by kernel_rfl) (by kernel_rfl), ⟨congrArg kV (kz_eq hx hlt), hT0⟩⟩

set_option maxRecDepth 100000 in
theorem kwide26_ok (W wd : Nat) (x : K) (na nb nc nv : Int) (w : World) (hx : KI wd x) (h1 : 1 ≤ wd) (hlt : wd ≤ W) (hW : W ≤ 64) : Ret Try.prog 82 [.agg #[.int .i64 26, .int .i64 ((W : Nat) : Int), .int .i64 na, .int .i64 nb, .int .i64 nc, .int .u64 nv], .int .i64 ((wd : Nat) : Int), .agg #[.int .u64 ((x.1 : Nat) : Int), .int .u64 ((x.2 : Nat) : Int)]] w fun v w' => v = .agg #[.int .u64 (((kpart W 0 wd x (x.1.testBit (wd - 1)) (x.2.testBit (wd - 1))).1 : Nat) : Int), .int .u64 (((kpart W 0 wd x (x.1.testBit (wd - 1)) (x.2.testBit (wd - 1))).2 : Nat) : Int)] ∧ Tch N0 w w' := by
 have hw : wd ≤ 64 := by omega
 have ux1 := hx.u1 hw
 have ux2 := hx.u2 hw
 refine enter Try.func82 rfl rfl ?_
 refine zQ ?_
 refine st (by rfl) (S_new (v := .pointer (some ⟨w.heap.size, 0, none⟩)) (ob := .cells #[.int .i64 26, .int .i64 ((W : Nat) : Int), .int .i64 na, .int .i64 nb, .int .i64 nc, .int .u64 nv] 32) (by kernel_rfl) fun w1 hT2 hs3 hB4 => ?_)
 replace hB4 : Blk w1 (w.heap.size) 32 [.int .i64 26, .int .i64 ((W : Nat) : Int), .int .i64 na, .int .i64 nb, .int .i64 nc, .int .u64 nv] := hB4
 have hT0 := hT2
 have z9 := hT0.size
 have l10 := hB4.lt
 refine st (by rfl) (S_new (v := .pointer (some ⟨w1.heap.size, 0, none⟩)) (ob := .cells #[.int .u64 ((x.1 : Nat) : Int), .int .u64 ((x.2 : Nat) : Int)] 100) (by kernel_rfl) fun w5 hT6 hs7 hB8 => ?_)
 replace hB8 : Blk w5 (w1.heap.size) 100 [.int .u64 ((x.1 : Nat) : Int), .int .u64 ((x.2 : Nat) : Int)] := hB8
 have hT0 := hT0.t0 hT6
 have hB4 := hB4.tch0 hT6
 have z15 := hT0.size
 have l16 := hB4.lt
 have l17 := hB8.lt
 refine st (by rfl) (S_new (v := .pointer (some ⟨w5.heap.size, 0, none⟩)) (ob := .cells #[.int .u64 0, .int .u64 0] 100) (by kernel_rfl) fun w11 hT12 hs13 hB14 => ?_)
 replace hB14 : Blk w11 (w5.heap.size) 100 [.int .u64 0, .int .u64 0] := hB14
 have hT0 := hT0.t0 hT12
 have hB4 := hB4.tch0 hT12
 have hB8 := hB8.tch0 hT12
 refine op_nil ?_
 refine zQ ?_
 refine zS [(9, .pointer (some ⟨w.heap.size, 1, none⟩))] ?_
 refine zL (.int .i64 ((W : Nat) : Int)) ((hB4.cell 1).trans rfl) ?_
 refine zC (mask_okN W _ (by omega)) ?_
 rintro _ w18 ⟨rfl, hT19⟩
 have hT0 := hT0.t0 hT19
 have hB4 := hB4.tch0 hT19
 have hB8 := hB8.tch0 hT19
 have hB14 := hB14.tch0 hT19
 have hu20 := pwm_lt (x := W) (by omega)
 refine zS [(12, .int .i64 ((wd : Nat) : Int))] ?_
 refine zC (mask_okN wd _ (by omega)) ?_
 rintro _ w21 ⟨rfl, hT22⟩
 have hT0 := hT0.t0 hT22
 have hB4 := hB4.tch0 hT22
 have hB8 := hB8.tch0 hT22
 have hB14 := hB14.tch0 hT22
 have hu23 := pwm_lt (x := wd) (by omega)
 refine zS [(14, .int .u64 (IntKind.u64.wrap (BitVec.ofInt 64 ((pw W - 1 : Nat) : Int) &&& ~~~BitVec.ofInt 64 ((pw wd - 1 : Nat) : Int)).toNat))] ?_
 rw [show IntKind.u64.wrap (BitVec.ofInt 64 ((pw W - 1 : Nat) : Int) &&& ~~~BitVec.ofInt 64 ((pw wd - 1 : Nat) : Int)).toNat = ((andn (pw W - 1) (pw wd - 1) : Nat) : Int) from andn_u (pw W - 1) (pw wd - 1) hu20 hu23]
 have hu24 : andn (pw W - 1) (pw wd - 1) < 18446744073709551616 := andn_lt hu20
 refine zS [(7, .int .u64 ((andn (pw W - 1) (pw wd - 1) : Nat) : Int))] ?_
 refine op_nil ?_
 refine zQ ?_
 refine zS [(15, .int .i64 ((wd : Nat) : Int)), (16, .int .i64 (IntKind.i64.wrap (((wd : Nat) : Int) - 1)))] ?_
 rw [show IntKind.i64.wrap (((wd : Nat) : Int) - 1) = ((wd : Nat) : Int) - 1 from wrap_i64 (by omega) (by omega)]
 refine fixR (y := ((wd - 1 : Nat) : Int)) (by omega) ?_
 refine stv (v := .int .u64 ((pw (wd - 1) : Nat) : Int)) (by rfl) (R_shl1 (k2 := .i64) (wd - 1) (by kernel_rfl) (by kernel_rfl) (by omega)) ?_
 have hu25 : pw (wd - 1) < 18446744073709551616 := (by have := pw_u64 (i := (wd - 1)) (by omega); omega)
 refine zS [(8, .int .u64 ((pw (wd - 1) : Nat) : Int))] ?_
 refine op_nil ?_
 refine W_seq ?_
 refine W_block ?_
 refine W_seq ?_
 refine zQ ?_
 refine zS [(19, .pointer (some ⟨w.heap.size, 0, none⟩))] ?_
 refine zL (.int .i64 26) ((hB4.cell 0).trans rfl) ?_
 refine zS [(21, .bool false), (18, .bool false)] ?_
 refine zO false (fun h => nomatch h) (fun _ => ?_)
 refine zR ?_
 refine st (by rfl) (S_val (v := .agg #[.int .u64 ((x.1 : Nat) : Int), .int .u64 ((x.2 : Nat) : Int)]) (R_loadA [.int .u64 ((x.1 : Nat) : Int), .int .u64 ((x.2 : Nat) : Int)] (by kernel_rfl) (by kernel_rfl) (by kernel_rfl) (fun k u hk => by rw [hB8.cell]; exact get_part _ 0 _ k u rfl hk)) ?_)
 refine zC (zeros_ok x.1 x.2 _ ux1 ux2) ?_
 rintro _ w26 ⟨rfl, hT27⟩
 have hT0 := hT0.t0 hT27
 have hB4 := hB4.tch0 hT27
 have hB8 := hB8.tch0 hT27
 have hB14 := hB14.tch0 hT27
 have hu28 : andn x.1 x.2 < 18446744073709551616 := andn_lt ux1
 refine zS [(24, .int .u64 ((pw (wd - 1) : Nat) : Int)), (25, .int .u64 (IntKind.u64.wrap (BitVec.ofInt 64 ((andn x.1 x.2 : Nat) : Int) &&& BitVec.ofInt 64 ((pw (wd - 1) : Nat) : Int)).toNat))] ?_
 rw [show IntKind.u64.wrap (BitVec.ofInt 64 ((andn x.1 x.2 : Nat) : Int) &&& BitVec.ofInt 64 ((pw (wd - 1) : Nat) : Int)).toNat = (((andn x.1 x.2) &&& (pw (wd - 1)) : Nat) : Int) from and_u (andn x.1 x.2) (pw (wd - 1)) hu28 hu25]
 have hu29 : (andn x.1 x.2) &&& (pw (wd - 1)) < 18446744073709551616 := and_lt hu28
 refine zS [(26, .bool ((((andn x.1 x.2) &&& (pw (wd - 1)) : Nat) : Int) != 0)), (18, .bool ((((andn x.1 x.2) &&& (pw (wd - 1)) : Nat) : Int) != 0))] ?_
 refine zO ((((andn x.1 x.2) &&& (pw (wd - 1)) : Nat) : Int) != 0) (fun hc30 => ?_) (fun hc30 => ?_)
 ·
  replace hc30 : (((andn x.1 x.2) &&& (pw (wd - 1)) : Nat) : Int) ≠ 0 := (bne_iff_ne.1 hc30)
  refine zQ ?_
  refine zS [(27, .pointer (some ⟨w1.heap.size, 0, none⟩))] ?_
  refine zL (.int .u64 ((x.1 : Nat) : Int)) ((hB8.cell 0).trans rfl) ?_
  refine zS [(29, .int .u64 ((andn (pw W - 1) (pw wd - 1) : Nat) : Int)), (30, .int .u64 (IntKind.u64.wrap (BitVec.ofInt 64 ((x.1 : Nat) : Int) ||| BitVec.ofInt 64 ((andn (pw W - 1) (pw wd - 1) : Nat) : Int)).toNat))] ?_
  rw [show IntKind.u64.wrap (BitVec.ofInt 64 ((x.1 : Nat) : Int) ||| BitVec.ofInt 64 ((andn (pw W - 1) (pw wd - 1) : Nat) : Int)).toNat = ((x.1 ||| (andn (pw W - 1) (pw wd - 1)) : Nat) : Int) from or_u x.1 (andn (pw W - 1) (pw wd - 1)) ux1 hu24]
  have hu31 : x.1 ||| (andn (pw W - 1) (pw wd - 1)) < 18446744073709551616 := or_lt ux1 hu24
  refine zS [(31, .pointer (some ⟨w1.heap.size, 1, none⟩))] ?_
  refine zL (.int .u64 ((x.2 : Nat) : Int)) ((hB8.cell 1).trans rfl) ?_
  refine zS [(33, .agg #[.int .u64 ((x.1 ||| (andn (pw W - 1) (pw wd - 1)) : Nat) : Int), .int .u64 ((x.2 : Nat) : Int)])] ?_
  refine st (by rfl) (S_storeA (b := w5.heap.size) (j := 0) (cs := [.int .u64 ((x.1 ||| (andn (pw W - 1) (pw wd - 1)) : Nat) : Int), .int .u64 ((x.2 : Nat) : Int)]) (by kernel_rfl) (by kernel_rfl) (by kernel_rfl) (by simp [oneV]) hB14 (by simp) fun w32 hT33 hs34 hB14' => ?_)
  have hT0 := (hT0).then hT33 (fun c e => by have : c = w5.heap.size := e; omega)
  have hB4 := hB4.tch hT33 (hB4.ne hB14 (by decide))
  have hB8 := hB8.tch hT33 (fun e => by have : w1.heap.size = w5.heap.size := e; omega)
  replace hB14 : Blk w32 w5.heap.size 100 [.int .u64 ((x.1 ||| (andn (pw W - 1) (pw wd - 1)) : Nat) : Int), .int .u64 ((x.2 : Nat) : Int)] := hB14'
  refine op_nil ?_
  refine W_ret ?_
  refine ⟨_, Res_cell (b := w5.heap.size) (cs := [.int .u64 ((x.1 ||| (andn (pw W - 1) (pw wd - 1)) : Nat) : Int), .int .u64 ((x.2 : Nat) : Int)]) (by rfl) (by kernel_rfl) (by kernel_rfl) hB14 (by kernel_rfl) (by kernel_rfl), ?_⟩
  have e := ks_eq (w := W) hx hlt h1
  rw [if_pos (by rw [← andn_bit]; exact (top_bit _ _).1 (by assumption))] at e
  exact ⟨congrArg kV e, hT0⟩
 ·
  replace hc30 : (((andn x.1 x.2) &&& (pw (wd - 1)) : Nat) : Int) = 0 := (bne_eq_false_iff_eq.1 hc30)
  refine zQ ?_
  refine zS [(35, .pointer (some ⟨w1.heap.size, 1, none⟩))] ?_
  refine zL (.int .u64 ((x.2 : Nat) : Int)) ((hB8.cell 1).trans rfl) ?_
  refine zS [(37, .int .u64 ((pw (wd - 1) : Nat) : Int)), (38, .int .u64 (IntKind.u64.wrap (BitVec.ofInt 64 ((x.2 : Nat) : Int) &&& BitVec.ofInt 64 ((pw (wd - 1) : Nat) : Int)).toNat))] ?_
  rw [show IntKind.u64.wrap (BitVec.ofInt 64 ((x.2 : Nat) : Int) &&& BitVec.ofInt 64 ((pw (wd - 1) : Nat) : Int)).toNat = ((x.2 &&& (pw (wd - 1)) : Nat) : Int) from and_u x.2 (pw (wd - 1)) ux2 hu25]
  have hu35 : x.2 &&& (pw (wd - 1)) < 18446744073709551616 := and_lt ux2
  refine zS [(39, .bool (((x.2 &&& (pw (wd - 1)) : Nat) : Int) != 0)), (34, .bool (((x.2 &&& (pw (wd - 1)) : Nat) : Int) != 0))] ?_
  refine zO (((x.2 &&& (pw (wd - 1)) : Nat) : Int) != 0) (fun hc36 => ?_) (fun hc36 => ?_)
  ·
   replace hc36 : ((x.2 &&& (pw (wd - 1)) : Nat) : Int) ≠ 0 := (bne_iff_ne.1 hc36)
   refine zQ ?_
   refine zS [(40, .pointer (some ⟨w1.heap.size, 0, none⟩))] ?_
   refine zL (.int .u64 ((x.1 : Nat) : Int)) ((hB8.cell 0).trans rfl) ?_
   refine zS [(42, .int .u64 ((andn (pw W - 1) (pw wd - 1) : Nat) : Int)), (43, .int .u64 (IntKind.u64.wrap (BitVec.ofInt 64 ((x.1 : Nat) : Int) ||| BitVec.ofInt 64 ((andn (pw W - 1) (pw wd - 1) : Nat) : Int)).toNat))] ?_
   rw [show IntKind.u64.wrap (BitVec.ofInt 64 ((x.1 : Nat) : Int) ||| BitVec.ofInt 64 ((andn (pw W - 1) (pw wd - 1) : Nat) : Int)).toNat = ((x.1 ||| (andn (pw W - 1) (pw wd - 1)) : Nat) : Int) from or_u x.1 (andn (pw W - 1) (pw wd - 1)) ux1 hu24]
   have hu37 : x.1 ||| (andn (pw W - 1) (pw wd - 1)) < 18446744073709551616 := or_lt ux1 hu24
   refine zS [(44, .pointer (some ⟨w1.heap.size, 1, none⟩))] ?_
   refine zL (.int .u64 ((x.2 : Nat) : Int)) ((hB8.cell 1).trans rfl) ?_
   refine zS [(46, .int .u64 ((andn (pw W - 1) (pw wd - 1) : Nat) : Int)), (47, .int .u64 (IntKind.u64.wrap (BitVec.ofInt 64 ((x.2 : Nat) : Int) ||| BitVec.ofInt 64 ((andn (pw W - 1) (pw wd - 1) : Nat) : Int)).toNat))] ?_
   rw [show IntKind.u64.wrap (BitVec.ofInt 64 ((x.2 : Nat) : Int) ||| BitVec.ofInt 64 ((andn (pw W - 1) (pw wd - 1) : Nat) : Int)).toNat = ((x.2 ||| (andn (pw W - 1) (pw wd - 1)) : Nat) : Int) from or_u x.2 (andn (pw W - 1) (pw wd - 1)) ux2 hu24]
   have hu38 : x.2 ||| (andn (pw W - 1) (pw wd - 1)) < 18446744073709551616 := or_lt ux2 hu24
   refine zS [(48, .agg #[.int .u64 ((x.1 ||| (andn (pw W - 1) (pw wd - 1)) : Nat) : Int), .int .u64 ((x.2 ||| (andn (pw W - 1) (pw wd - 1)) : Nat) : Int)])] ?_
   refine st (by rfl) (S_storeA (b := w5.heap.size) (j := 0) (cs := [.int .u64 ((x.1 ||| (andn (pw W - 1) (pw wd - 1)) : Nat) : Int), .int .u64 ((x.2 ||| (andn (pw W - 1) (pw wd - 1)) : Nat) : Int)]) (by kernel_rfl) (by kernel_rfl) (by kernel_rfl) (by simp [oneV]) hB14 (by simp) fun w39 hT40 hs41 hB14' => ?_)
   have hT0 := (hT0).then hT40 (fun c e => by have : c = w5.heap.size := e; omega)
   have hB4 := hB4.tch hT40 (hB4.ne hB14 (by decide))
   have hB8 := hB8.tch hT40 (fun e => by have : w1.heap.size = w5.heap.size := e; omega)
   replace hB14 : Blk w39 w5.heap.size 100 [.int .u64 ((x.1 ||| (andn (pw W - 1) (pw wd - 1)) : Nat) : Int), .int .u64 ((x.2 ||| (andn (pw W - 1) (pw wd - 1)) : Nat) : Int)] := hB14'
   refine op_nil ?_
   refine W_ret ?_
   refine ⟨_, Res_cell (b := w5.heap.size) (cs := [.int .u64 ((x.1 ||| (andn (pw W - 1) (pw wd - 1)) : Nat) : Int), .int .u64 ((x.2 ||| (andn (pw W - 1) (pw wd - 1)) : Nat) : Int)]) (by rfl) (by kernel_rfl) (by kernel_rfl) hB14 (by kernel_rfl) (by kernel_rfl), ?_⟩
   have e := ks_eq (w := W) hx hlt h1
   rw [if_neg (by rw [← andn_bit]; exact fun q => absurd ((top_bit _ _).2 q) (by omega)), if_pos ((top_bit _ _).1 (by assumption))] at e
   exact ⟨congrArg kV e, hT0⟩
  ·
   replace hc36 : ((x.2 &&& (pw (wd - 1)) : Nat) : Int) = 0 := (bne_eq_false_iff_eq.1 hc36)
   refine W_skip ?_
   refine zQ ?_
   refine st (by rfl) (S_val (v := .agg #[.int .u64 ((x.1 : Nat) : Int), .int .u64 ((x.2 : Nat) : Int)]) (R_loadA [.int .u64 ((x.1 : Nat) : Int), .int .u64 ((x.2 : Nat) : Int)] (by kernel_rfl) (by kernel_rfl) (by kernel_rfl) (fun k u hk => by rw [hB8.cell]; exact get_part _ 0 _ k u rfl hk)) ?_)
   refine st (by rfl) (S_storeA (b := w5.heap.size) (j := 0) (cs := [.int .u64 ((x.1 : Nat) : Int), .int .u64 ((x.2 : Nat) : Int)]) (by kernel_rfl) (by kernel_rfl) (by kernel_rfl) (by simp [oneV]) hB14 (by simp) fun w42 hT43 hs44 hB14' => ?_)
   have hT0 := (hT0).then hT43 (fun c e => by have : c = w5.heap.size := e; omega)
   have hB4 := hB4.tch hT43 (hB4.ne hB14 (by decide))
   have hB8 := hB8.tch hT43 (fun e => by have : w1.heap.size = w5.heap.size := e; omega)
   replace hB14 : Blk w42 w5.heap.size 100 [.int .u64 ((x.1 : Nat) : Int), .int .u64 ((x.2 : Nat) : Int)] := hB14'
   refine op_nil ?_
   refine W_ret ?_
   refine ⟨_, Res_cell (b := w5.heap.size) (cs := [.int .u64 ((x.1 : Nat) : Int), .int .u64 ((x.2 : Nat) : Int)]) (by rfl) (by kernel_rfl) (by kernel_rfl) hB14 (by kernel_rfl) (by kernel_rfl), ?_⟩
   have e := ks_eq (w := W) hx hlt h1
   rw [if_neg (by rw [← andn_bit]; exact fun q => absurd ((top_bit _ _).2 q) (by omega)), if_neg (fun q => absurd ((top_bit _ _).2 q) (by omega))] at e
   exact ⟨congrArg kV e, hT0⟩

end Go.Proofs.YtlbadnpgmkobdaaV

set_option linter.unusedVariables false
set_option linter.unusedSimpArgs false
namespace Go.Proofs.YtlbadnpgmkobdaaV
open Go Go.RowKit Go.Proofs
def kcl (k : K) : List Value := [.int .u64 ((k.1 : Nat) : Int), .int .u64 ((k.2 : Nat) : Int)]
def kcs (l : List K) : List Value := l.flatMap kcl
theorem kcs_length (l : List K) : (kcs l).length = l.length * 2 := by
 induction l with
 | nil => rfl
 | cons x l ih => unfold kcs at *; simp only [List.flatMap_cons, List.length_append, ih, List.length_cons]; simp [kcl]; omega
theorem kcs_app (l m : List K) : kcs (l ++ m) = kcs l ++ kcs m := by simp [kcs]
def kg (l : List K) (i : Nat) : K := l.getD i (0, 0)
theorem kcs_part (l : List K) {i : Nat} (hi : i < l.length) : ∀ j u, (kcl (kg l i))[j]? = some u → (kcs l)[i * 2 + j]? = some u := by
 induction l generalizing i with
 | nil => simp at hi
 | cons x l ih =>
  intro j u hj
  have hc : kcs (x :: l) = kcl x ++ kcs l := by simp [kcs]
  cases i with
  | zero =>
   have h2 : j < 2 := by
    rcases Nat.lt_or_ge j 2 with q | q
    ·
     exact q
    ·
     rw [List.getElem?_eq_none (by simpa [kcl] using q)] at hj; cases hj
   rw [hc, List.getElem?_append_left (by simp [kcl]; omega)]
   simpa [kg] using hj
  | succ i =>
   have e : (i + 1) * 2 + j = (kcl x).length + (i * 2 + j) := by simp [kcl]; omega
   rw [hc, e, List.getElem?_append_right (by omega), Nat.add_sub_cancel_left]
   exact ih (i := i) (by simpa using hi) j u (by simpa [kg] using hj)
theorem kg_app_lt {l : List K} {x : K} {i : Nat} (h : i < l.length) : kg (l ++ [x]) i = kg l i := by unfold kg; simp [List.getD_eq_getElem?_getD, List.getElem?_append_left h]
theorem kg_app_eq {l : List K} {x : K} : kg (l ++ [x]) l.length = x := by unfold kg; simp [List.getD_eq_getElem?_getD]
/-- A node's known bits, of those of all ahead. -/
def cstN (N : List Nd) (n : Nd) : Option Nat := if nO (nth N (nB n).toNat) = 20 then some (nV (nth N (nB n).toNat)).toNat else none
def konN (N : List Nd) (l : List K) (n : Nd) : K := kone (nO n).toNat (nW n).toNat (widF N (nA n)).toNat (widF N (nB n)).toNat (kg l (nA n).toNat) (kg l (nB n).toNat) (kg l (nC n).toNat) (nB n).toNat (nV n).toNat (cstN N n)
def kl (N : List Nd) : Nat → List K
 | 0 => []
 | i + 1 => kl N i ++ [konN N (kl N i) (nth N i)]
theorem kl_length (N : List Nd) (i : Nat) : (kl N i).length = i := by
 induction i with
 | zero => rfl
 | succ i ih => show (kl N i ++ [_]).length = _; rw [List.length_append, ih]; rfl
theorem kl_kg {N : List Nd} {i j : Nat} (h : i < j) : kg (kl N j) i = konN N (kl N i) (nth N i) := by
 induction j with
 | zero => omega
 | succ j ih =>
  show kg (kl N j ++ [konN N (kl N j) (nth N j)]) i = _
  by_cases e : i = j
  ·
   subst e
   have := kg_app_eq (l := kl N i) (x := konN N (kl N i) (nth N i))
   rw [kl_length] at this
   exact this
  ·
   rw [kg_app_lt (by rw [kl_length]; omega)]
   exact ih (by omega)
/-! ### None is known above the width -/
theorem KI_zero (w : Nat) : KI w (0, 0) := ⟨by have := pw_pos w; show 0 < pw w; omega, fun t h => by rw [Nat.zero_testBit] at h; cases h⟩
theorem KI_not {w : Nat} {x : K} (h : KI w x) : KI w (x.1, andn x.1 x.2) := ⟨h.1, fun t ht => by
 have : (andn x.1 x.2).testBit t = true := ht
 rw [andn_bit, Bool.and_eq_true] at this; exact this.1⟩
theorem KI_const {w V : Nat} (h : V < pw w) : KI w (pw w - 1, V) := ⟨by have := pw_pos w; show pw w - 1 < pw w; omega, fun t ht => by
 show (pw w - 1).testBit t = true
 rw [pwm_bit]
 cases q : decide (t < w) with
 | true => rfl
 | false =>
  have : V.testBit t = false := Nat.testBit_lt_two_pow (Nat.lt_of_lt_of_le h (Nat.pow_le_pow_right (n := 2) (by decide) (by have := of_decide_eq_false q; omega)))
  have ht' : V.testBit t = true := ht
  rw [this] at ht'; cases ht'⟩
theorem cat_mod {a wa up : Nat} (h : a < pw wa) (hw : wa + up ≤ 64) : a * pw up % 18446744073709551616 = a * pw up ∧ a * pw up < pw (wa + up) := by
 have e : pw (wa + up) = pw wa * pw up := Nat.pow_add 2 wa up
 have h1 : a * pw up < pw (wa + up) := by rw [e]; exact Nat.mul_lt_mul_of_pos_right h (pw_pos up)
 exact ⟨Nat.mod_eq_of_lt (Nat.lt_of_lt_of_le h1 (pw64 hw)), h1⟩
theorem KI_cat {wa up : Nat} {x y : K} (hx : KI wa x) (hy : KI up y) (hw : wa + up ≤ 64) : KI (wa + up) (x.1 * pw up % 18446744073709551616 ||| y.1, x.2 * pw up % 18446744073709551616 ||| y.2) := by
 obtain ⟨e1, l1⟩ := cat_mod hx.1 hw
 obtain ⟨e2, l2⟩ := cat_mod hx.lt2 hw
 rw [e1, e2]
 refine ⟨Nat.or_lt_two_pow l1 (Nat.lt_of_lt_of_le hy.1 (Nat.pow_le_pow_right (n := 2) (by decide) (by omega))), fun t ht => ?_⟩
 show (x.1 * 2 ^ up ||| y.1).testBit t = true
 have ht' : (x.2 * 2 ^ up ||| y.2).testBit t = true := ht
 rw [Nat.testBit_or, ← Nat.shiftLeft_eq, Nat.testBit_shiftLeft, Bool.or_eq_true, Bool.and_eq_true] at ht' ⊢
 exact ht'.imp (fun q => ⟨q.1, hx.2 _ q.2⟩) (hy.2 t)
theorem kite_KI {w : Nat} {c x y : K} (hx : KI w x) (hy : KI w y) : KI w (kite w c x y) := by
 unfold kite
 split
 ·
  exact hx
 ·
  split
  ·
   exact hy
  ·
   exact ksame_KI w x y
theorem wid_nth {N : List Nd} {i : Nat} {x : Int} (h : pt i x) (hi : i ≤ N.length) : widF N x = nW (nth N x.toNat) := by
 unfold widF; rw [if_pos ⟨h.1, by have := h.2; omega⟩]
theorem konN_KI {N : List Nd} {l : List K} {i : Nat} {n : Nd} (h : NdW N i n) (hw : 1 ≤ nW n ∧ nW n ≤ 64) (hi : i ≤ N.length) (hws : ∀ x, pt i x → 1 ≤ widF N x ∧ widF N x ≤ 64) (hl : ∀ j, j < i → KI (nW (nth N j)).toNat (kg l j)) : KI (nW n).toNat (konN N l n) := by
  have arg : ∀ x, pt i x → KI (widF N x).toNat (kg l x.toNat) := fun x p => by
    rw [wid_nth p hi]; exact hl _ (by have := p.1; have := p.2; omega)
  unfold konN
  generalize hc : cstN N n = cst
  rcases h with h | h | ⟨h, a, e⟩ | ⟨h, a, b, e, e2⟩ | ⟨h, a, b, c, e, e2, e3⟩ | ⟨h, a, b, e⟩ | ⟨h, a, b, e⟩ | ⟨h, a, e⟩
  · rw [show (nO n).toNat = 20 by omega]
    exact KI_const (by have h1 := h.2.1; have h2 := h.2.2; have e : ((pw (nW n).toNat : Nat) : Int) = 2 ^ (nW n).toNat := by (unfold pw; simp)
                       rw [← e] at h2; omega)
  · rw [show (nO n).toNat = 21 by omega]; exact KI_zero _
  · rcases h with h | h
    · rw [show (nO n).toNat = 15 by omega, e]; exact KI_not (arg _ a)
    · rw [show (nO n).toNat = 16 by omega]; exact KI_zero _
  · have hx := arg _ a
    have hy := arg _ b
    rw [← e] at hy
    have ho : nO n = 1 ∨ nO n = 2 ∨ nO n = 3 ∨ nO n = 4 ∨ nO n = 5 ∨ nO n = 6 ∨ nO n = 7 ∨ nO n = 8 ∨ nO n = 9 ∨ nO n = 10 ∨ nO n = 11 ∨ nO n = 12 ∨ nO n = 13 ∨ nO n = 14 := by omega
    rcases ho with o | o | o | o | o | o | o | o | o | o | o | o | o | o <;> rw [e2, o]
    · exact ksum_KI _ _ _
    · exact KI_zero _
    · exact KI_zero _
    · exact KI_zero _
    · exact KI_zero _
    · exact kgate_KI hx hy 6
    · exact kgate_KI hx hy 7
    · exact kgate_KI hx hy 8
    · cases cst with
      | none => exact KI_zero _
      | some z => exact kmv_KI 9 _ _ _
    · cases cst with
      | none => exact KI_zero _
      | some z => exact kmv_KI 10 _ _ _
    · exact KI_zero _
    · exact keq_KI _ _ _
    · exact KI_zero _
    · exact KI_zero _
  · rw [show (nO n).toNat = 22 by omega]
    have hy := arg _ b
    have hz := arg _ c
    rw [← e2] at hz
    rw [e3]
    exact kite_KI hy hz
  · rw [show (nO n).toNat = 23 by omega]; exact kpart_KI _ _ _ _ _ _
  · rw [show (nO n).toNat = 24 by omega]
    have p1 := arg _ a
    have p2 := arg _ b
    have w1 := hws _ a
    have w2 := hws _ b
    have ew : (nW n).toNat = (widF N (nA n)).toNat + (widF N (nB n)).toNat := by omega
    rw [ew]
    exact KI_cat p1 p2 (by omega)
  · rcases h with h | h
    · rw [show (nO n).toNat = 25 by omega]; exact kpart_KI _ _ _ _ _ _
    · rw [show (nO n).toNat = 26 by omega]; exact kpart_KI _ _ _ _ _ _
theorem kl_KI {N : List Nd} {most : Int} (hJ : TJ N most) (hB : TB N) : ∀ i j, i < j → i < N.length → KI (nW (nth N i)).toNat (kg (kl N j) i) := by
 intro i
 induction i using Nat.strongRecOn with
 | _ i ih =>
  intro j hij hi
  rw [kl_kg hij]
  exact konN_KI (hB i hi) (hJ.wr _ (nth_mem hi)) (by omega) (fun x p => hJ.wid p.1 (by have := p.2; omega)) (fun q hq => ih q hq i hq (by omega))
end Go.Proofs.YtlbadnpgmkobdaaV
