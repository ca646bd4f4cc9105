/- Walks of functions of the program and of the document's texts. The conditions stand with each theorem. -/
import Derived.Test.YtnlecdpiccgdpaaVx13
import Derived.Test.YtnlecdpiccgdpaaProg
import Derived.Test.YtnlecdpiccgdpaaVx4
import Derived.Test.YtnlecdpiccgdpaaInP
set_option linter.unusedVariables false
set_option linter.unusedSimpArgs false
namespace Go.Proofs.YtnlecdpiccgdpaaV
open Go Go.RowKit Go.Proofs

set_option maxRecDepth 100000 in
theorem rword_ok (n mm ca : Nat) (K J A : Option Addr) (ck cj : Nat) (kn tr : List Bool) (r : List Nat) (be : Nat → Bool)  (w : World) (hK : RdW w 1 n K (boolsV kn)) (hJ : RdW w 1 n J (boolsV tr)) (hA : RdW w 1 mm A (nats r)) (hn : n ≤ 68719476736) (hall : ∀ x, x / 2 < n → kn.getD (x / 2) false = true ∧ hIs kn tr x = lt_ be x) (hfr : ∀ j, j < mm → r.getD j 0 / 2 < n) (hm2 : mm ≤ 64) : Ret Try.prog 68 [.agg #[.slice K n ck, .slice J n cj], .slice A mm ca] w fun v w' => v = .tuple #[.int .u64 ((bval mm (fun j => lt_ be (r.getD j 0)) : Nat) : Int), .bool true] ∧ Tch N0 w w' := by
  have hAc := hA
  have hlr : r.length = mm := by have := hA.1; rw [nats_length] at this; omega
  refine enter Try.func68 rfl rfl ?_
  refine W_seq ?_
  refine W_region (by kernel_rfl) ?_
  refine st (by rfl) (S_new (v := .pointer (some ⟨w.heap.size, 0, none⟩)) (ob := .cells #[.slice K n ck, .slice J n cj] 54) (by kernel_rfl) fun w1 hT2 hs3 hB4 => ?_)
  replace hB4 : Blk w1 (w.heap.size) 54 [.slice K n ck, .slice J n cj] := hB4
  have hT0 := hT2
  have hAc := hA.tch0 hT0
  refine sg [(4, .int .u64 0), (5, .bool false)] (by kernel_rfl) ?_
  refine op_nil ?_
  refine W_seq ?_
  refine W_region (by kernel_rfl) ?_
  refine sg [(6, .int .u64 0)] (by kernel_rfl) ?_
  refine op_nil ?_
  refine W_seq ?_
  refine W_seq ?_
  refine W_region (by kernel_rfl) ?_
  refine sg [(7, .int .i64 0)] (by kernel_rfl) ?_
  refine op_nil ?_
  refine W_block ?_
  refine W_loop (fun m ρ w' => ∃ (i : Nat) (ρ0 : Env), ρ = updL ρ0 [(1, .slice A mm ca), (2, .pointer (some ⟨w.heap.size, 0, none⟩)), (4, .int .u64 0), (5, .bool false), (6, .int .u64 ((bval i (fun j => lt_ be (r.getD j 0)) : Nat) : Int)), (7, .int .i64 ((i : Nat) : Int))] ∧ (i ≤ mm) ∧ Tch N0 w w' ∧ Blk w' (w.heap.size) 54 [.slice K n ck, .slice J n cj] ∧ RdW w' 1 mm A (nats r) ∧ m = mm - i) (m := mm - 0) ?_ ?_
  · refine ⟨0, _, updL_self (by kernel_rfl), by omega, hT0, hB4, hAc, rfl⟩
  · rintro m ρ w5 ⟨i, ρ, rfl, hi, hT0, hBv, hAc, rfl⟩
    refine W_seq ?_
    refine W_seq ?_
    refine W_region (by kernel_rfl) ?_
    refine sg [(10, .int .i64 ((i : Nat) : Int)), (11, .slice A mm ca), (12, .int .i64 (mm : Int)), (13, .bool (decide (((i : Nat) : Int) < (mm : Int)))), (14, .bool (decide (((i : Nat) : Int) < (mm : Int))))] (by kernel_rfl) ?_
    cases hb6 : decide (((i : Nat) : Int) < (mm : Int))
    · replace hb6 : (mm : Int) ≤ ((i : Nat) : Int) := (Int.not_lt.1 (of_decide_eq_false hb6))
      refine sg [(15, undef), (16, undef), (17, .bool false)] (by kernel_rfl) ?_
      refine op_nil ?_
      refine W_cond false (by kernel_rfl) (by kernel_rfl) (fun h => nomatch h) (fun _ => ?_)
      refine W_exit ?_
      refine X_hit ?_
      refine W_seq ?_
      refine W_fg [(1, .slice A mm ca), (2, .pointer (some ⟨w.heap.size, 0, none⟩)), (4, .int .u64 0), (5, .bool false), (6, .int .u64 ((bval i (fun j => lt_ be (r.getD j 0)) : Nat) : Int)), (7, .int .i64 ((i : Nat) : Int)), (17, .bool false)] (by kernel_rfl) fun ρ => ?_
      refine W_region (by kernel_rfl) ?_
      refine sg [(37, .int .u64 ((bval i (fun j => lt_ be (r.getD j 0)) : Nat) : Int)), (4, .int .u64 ((bval i (fun j => lt_ be (r.getD j 0)) : Nat) : Int)), (5, .bool true)] (by kernel_rfl) ?_
      refine op_nil ?_
      refine W_ret ?_
      exact ⟨_, Res_of (v := .tuple #[.int .u64 ((bval i (fun j => lt_ be (r.getD j 0)) : Nat) : Int), .bool true]) (by kernel_rfl), ⟨by rw [show i = mm by omega], hT0⟩⟩
    · replace hb6 : ((i : Nat) : Int) < (mm : Int) := (of_decide_eq_true hb6)
      refine sg [(15, .int .i64 ((i : Nat) : Int)), (16, .bool (decide (((i : Nat) : Int) < 64))), (17, .bool (decide (((i : Nat) : Int) < 64)))] (by kernel_rfl) ?_
      refine op_nil ?_
      refine W_cond (decide (((i : Nat) : Int) < 64)) (by kernel_rfl) (by kernel_rfl) (fun hc7 => ?_) (fun hc7 => ?_)
      · replace hc7 : ((i : Nat) : Int) < 64 := (of_decide_eq_true hc7)
        refine W_skip ?_
        refine W_seq ?_
        refine W_block ?_
        refine W_seq ?_
        refine W_fg [(1, .slice A mm ca), (2, .pointer (some ⟨w.heap.size, 0, none⟩)), (4, .int .u64 0), (5, .bool false), (6, .int .u64 ((bval i (fun j => lt_ be (r.getD j 0)) : Nat) : Int)), (7, .int .i64 ((i : Nat) : Int)), (17, .bool (decide (((i : Nat) : Int) < 64)))] (by kernel_rfl) fun ρ => ?_
        refine W_draw (fun w' => Blk w' (w.heap.size) 54 [.slice K n ck, .slice J n cj] ∧ RdW w' 1 mm A (nats r)) (by kernel_rfl) (by kernel_rfl) (by kernel_rfl) fun w8 hT9 hh10 => ?_
        have hT0 := hT0.t0 hT9
        have hBv := hBv.tch0 hT9
        have hAc := hA.tch0 hT0
        refine dtk [1, 2] #[false, true, true, false, false, false, false, false, false, false, false] [(22, .slice A mm ca), (23, .int .i64 ((i : Nat) : Int))] ⟨hBv, hAc⟩ (by kernel_rfl) ?_
        refine d_val (v := .agg #[.slice K n ck, .slice J n cj]) 0 (by rfl) (by kernel_rfl) (by kernel_rfl) (by kernel_rfl) (fun w' hs => by obtain ⟨hBv, hAc⟩ := hs; exact R_loadA [.slice K n ck, .slice J n cj] (by kernel_rfl) (by kernel_rfl) (by kernel_rfl) (fun k u hk => by rw [hBv.cell]; exact get_part _ 0 _ k u rfl hk)) ⟨hBv, hAc⟩ ?_
        refine d_val (v := ptrAt A i) 3 (by rfl) (by kernel_rfl) (by kernel_rfl) (by kernel_rfl) (fun w' hs => by obtain ⟨hBv, hAc⟩ := hs; exact R_indexRd1 (len := mm) (cap := ca) (k := .i64) (i := ((i : Nat) : Int)) (e := 3) i hAc (by kernel_rfl) (by kernel_rfl) (by kernel_rfl) (by kernel_rfl) rfl (by omega)) ⟨hBv, hAc⟩ ?_
        refine d_val (v := .int .i64 ((r.getD i 0 : Nat) : Int)) 4 (by rfl) (by kernel_rfl) (by kernel_rfl) (by kernel_rfl) (fun w' hs => by obtain ⟨hBv, hAc⟩ := hs; exact R_loadRd (v := .int .i64 ((r.getD i 0 : Nat) : Int)) hAc (by omega) (by kernel_rfl) (by kernel_rfl) (nats_at (l := r) (by omega))) ⟨hBv, hAc⟩ ?_
        have hfi := hfr i (by omega)
        refine d_one 5 (by kernel_rfl) (by rfl) (by kernel_rfl) (S_call (args := [.agg #[.slice K n ck, .slice J n cj], .int .i64 ((r.getD i 0 : Nat) : Int)]) (by kernel_rfl) (holds_is n K J ck cj kn tr (r.getD i 0) (lt_ be (r.getD i 0)) _ (hK.tch0 hT0) (hJ.tch0 hT0) hn (by omega) (hall _ (by omega))) ?_)
        rintro _ w11 ⟨rfl, hT12⟩
        have hT0 := hT0.t0 hT12
        have hBv := hBv.tch0 hT12
        have hAc := hA.tch0 hT0
        refine ⟨⟨hBv, hAc⟩, ?_⟩
        refine dtk [6, 7, 8, 9, 10] #[true, true, true, true, true, true, true, true, true, true, true] [(20, .tuple #[.bool (lt_ be (r.getD i 0)), .bool true]), (27, .bool (lt_ be (r.getD i 0))), (28, .bool true), (8, .bool (lt_ be (r.getD i 0))), (9, .bool true)] ⟨hBv, hAc⟩ (by kernel_rfl) ?_
        refine d_done (by kernel_rfl) ?_
        refine W_seq ?_
        refine W_seq ?_
        refine W_fg [(1, .slice A mm ca), (2, .pointer (some ⟨w.heap.size, 0, none⟩)), (4, .int .u64 0), (5, .bool false), (6, .int .u64 ((bval i (fun j => lt_ be (r.getD j 0)) : Nat) : Int)), (7, .int .i64 ((i : Nat) : Int)), (8, .bool (lt_ be (r.getD i 0))), (9, .bool true), (17, .bool (decide (((i : Nat) : Int) < 64)))] (by kernel_rfl) fun ρ => ?_
        refine W_region (by kernel_rfl) ?_
        refine sg [(29, .bool true), (30, .bool false)] (by kernel_rfl) ?_
        refine op_nil ?_
        refine W_cond false (by kernel_rfl) (by kernel_rfl) (fun h => nomatch h) (fun _ => ?_)
        refine W_skip ?_
        refine W_seq ?_
        refine W_region (by kernel_rfl) ?_
        refine sg [(31, .bool (lt_ be (r.getD i 0)))] (by kernel_rfl) ?_
        refine op_nil ?_
        refine W_cond (lt_ be (r.getD i 0)) (by kernel_rfl) (by kernel_rfl) (fun hc13 => ?_) (fun hc13 => ?_)
        · replace hc13 : lt_ be (r.getD i 0) = true := (hc13)
          refine W_region (by kernel_rfl) ?_
          refine sg [(32, .int .u64 ((bval i (fun j => lt_ be (r.getD j 0)) : Nat) : Int)), (33, .int .i64 ((i : Nat) : Int)), (34, .int .u64 (IntKind.u64.wrap ((i : Nat) : Int)))] (by kernel_rfl) ?_
          rw [show IntKind.u64.wrap ((i : Nat) : Int) = ((i : Nat) : Int) from wrap_u64 (by omega) (by omega)]
          refine stv (v := .int .u64 (((if true = true then pw i else 0 : Nat)) : Int)) (by kernel_rfl) (R_shlB (k2 := .u64) true i (by kernel_rfl) (by kernel_rfl) (by omega)) ?_
          refine sg [(36, .int .u64 (IntKind.u64.wrap (BitVec.ofInt 64 ((bval i (fun j => lt_ be (r.getD j 0)) : Nat) : Int) ||| BitVec.ofInt 64 (((if true = true then pw i else 0 : Nat)) : Int)).toNat))] (by kernel_rfl) ?_
          rw [bvalor_u i (fun j => lt_ be (r.getD j 0)) true (by omega) (by symm; assumption)]
          refine sg [(6, .int .u64 ((bval (i + 1) (fun j => lt_ be (r.getD j 0)) : Nat) : Int))] (by kernel_rfl) ?_
          refine op_nil ?_
          refine W_fg [(1, .slice A mm ca), (2, .pointer (some ⟨w.heap.size, 0, none⟩)), (4, .int .u64 0), (5, .bool false), (6, .int .u64 ((bval (i + 1) (fun j => lt_ be (r.getD j 0)) : Nat) : Int)), (7, .int .i64 ((i : Nat) : Int)), (8, .bool (lt_ be (r.getD i 0))), (9, .bool true), (17, .bool (decide (((i : Nat) : Int) < 64))), (30, .bool false), (31, .bool (lt_ be (r.getD i 0)))] (by kernel_rfl) fun ρ => ?_
          refine W_region (by kernel_rfl) ?_
          refine sg [(18, .int .i64 ((i : Nat) : Int)), (19, .int .i64 (IntKind.i64.wrap (((i : Nat) : Int) + 1)))] (by kernel_rfl) ?_
          rw [show IntKind.i64.wrap (((i : Nat) : Int) + 1) = ((i : Nat) : Int) + 1 from wrap_i64 (by omega) (by omega)]
          refine fixR (y := ((i + 1 : Nat) : Int)) (by omega) ?_
          refine sg [(7, .int .i64 ((i + 1 : Nat) : Int))] (by kernel_rfl) ?_
          refine op_nil ?_
          refine ⟨_, ?_, i + 1, _, updL_self (by kernel_rfl), ?_, hT0, hBv, hAc, rfl⟩
          · omega
          · omega
        · replace hc13 : lt_ be (r.getD i 0) = false := (hc13)
          refine W_skip ?_
          rw [show bval i (fun j => lt_ be (r.getD j 0)) = bval (i + 1) (fun j => lt_ be (r.getD j 0)) from bval_not (by assumption)]
          refine W_region (by kernel_rfl) ?_
          refine sg [(18, .int .i64 ((i : Nat) : Int)), (19, .int .i64 (IntKind.i64.wrap (((i : Nat) : Int) + 1)))] (by kernel_rfl) ?_
          rw [show IntKind.i64.wrap (((i : Nat) : Int) + 1) = ((i : Nat) : Int) + 1 from wrap_i64 (by omega) (by omega)]
          refine fixR (y := ((i + 1 : Nat) : Int)) (by omega) ?_
          refine sg [(7, .int .i64 ((i + 1 : Nat) : Int))] (by kernel_rfl) ?_
          refine op_nil ?_
          refine ⟨_, ?_, i + 1, _, updL_self (by kernel_rfl), ?_, hT0, hBv, hAc, rfl⟩
          · omega
          · omega
      · replace hc7 : 64 ≤ ((i : Nat) : Int) := (Int.not_lt.1 (of_decide_eq_false hc7))
        refine W_exit ?_
        refine X_hit ?_
        refine W_seq ?_
        refine W_fg [(1, .slice A mm ca), (2, .pointer (some ⟨w.heap.size, 0, none⟩)), (4, .int .u64 0), (5, .bool false), (6, .int .u64 ((bval i (fun j => lt_ be (r.getD j 0)) : Nat) : Int)), (7, .int .i64 ((i : Nat) : Int)), (17, .bool (decide (((i : Nat) : Int) < 64)))] (by kernel_rfl) fun ρ => ?_
        refine W_region (by kernel_rfl) ?_
        refine sg [(37, .int .u64 ((bval i (fun j => lt_ be (r.getD j 0)) : Nat) : Int)), (4, .int .u64 ((bval i (fun j => lt_ be (r.getD j 0)) : Nat) : Int)), (5, .bool true)] (by kernel_rfl) ?_
        refine op_nil ?_
        refine W_ret ?_
        exact ⟨_, Res_of (v := .tuple #[.int .u64 ((bval i (fun j => lt_ be (r.getD j 0)) : Nat) : Int), .bool true]) (by kernel_rfl), ⟨by rw [show i = mm by omega], hT0⟩⟩

set_option maxRecDepth 100000 in
theorem is_ok (n mm ca : Nat) (K J A : Option Addr) (ck cj : Nat) (kn tr : List Bool) (r : List Nat) (be : Nat → Bool) (x : Nat) (w : World) (hK : RdW w 1 n K (boolsV kn)) (hJ : RdW w 1 n J (boolsV tr)) (hA : RdW w 1 mm A (nats r)) (hn : n ≤ 68719476736) (hall : ∀ x, x / 2 < n → kn.getD (x / 2) false = true ∧ hIs kn tr x = lt_ be x) (hfr : ∀ j, j < mm → r.getD j 0 / 2 < n) (hm2 : mm ≤ 64) (hm1 : 1 ≤ mm) (hx : x < 18446744073709551616) (hv : ∀ j, j < mm → lt_ be (r.getD j 0) = x.testBit j) : Ret Try.prog 34 [.agg #[.slice K n ck, .slice J n cj], .slice A mm ca, .int .i64 ((mm : Nat) : Int), .int .u64 ((x : Nat) : Int)] w fun v w' => v = .int .i64 1 ∧ Tch N0 w w' := by
  have hbv : bval mm (fun j => lt_ be (r.getD j 0)) = cutN mm x := bval_cut hv
  refine enter Try.func34 rfl rfl ?_
  refine W_seq ?_
  refine W_region (by kernel_rfl) ?_
  refine st (by rfl) (S_new (v := .pointer (some ⟨w.heap.size, 0, none⟩)) (ob := .cells #[.slice K n ck, .slice J n cj] 54) (by kernel_rfl) fun w1 hT2 hs3 hB4 => ?_)
  replace hB4 : Blk w1 (w.heap.size) 54 [.slice K n ck, .slice J n cj] := hB4
  have hT0 := hT2
  refine sg [(8, .int .i64 0)] (by kernel_rfl) ?_
  refine op_nil ?_
  refine W_seq ?_
  refine W_region (by kernel_rfl) ?_
  refine st (by rfl) (S_val (v := .agg #[.slice K n ck, .slice J n cj]) (R_loadA [.slice K n ck, .slice J n cj] (by kernel_rfl) (by kernel_rfl) (by kernel_rfl) (fun k u hk => by rw [hB4.cell]; exact get_part _ 0 _ k u rfl hk)) ?_)
  refine sg [(13, .slice A mm ca)] (by kernel_rfl) ?_
  refine st (by rfl) (S_call (args := [.agg #[.slice K n ck, .slice J n cj], .slice A mm ca]) (by kernel_rfl) (rword_ok n mm ca K J A ck cj kn tr r be _ (hK.tch0 hT0) (hJ.tch0 hT0) (hA.tch0 hT0) hn hall hfr hm2) ?_)
  rintro _ w5 ⟨rfl, hT6⟩
  have hT0 := hT0.t0 hT6
  have hB4 := hB4.tch0 hT6
  refine sg [(11, .tuple #[.int .u64 ((bval mm (fun j => lt_ be (r.getD j 0)) : Nat) : Int), .bool true]), (15, .int .u64 ((bval mm (fun j => lt_ be (r.getD j 0)) : Nat) : Int)), (16, .bool true), (9, .int .u64 ((bval mm (fun j => lt_ be (r.getD j 0)) : Nat) : Int)), (10, .bool true)] (by kernel_rfl) ?_
  refine op_nil ?_
  refine W_seq ?_
  refine W_seq ?_
  refine W_fg [(0, .agg #[.slice K n ck, .slice J n cj]), (1, .slice A mm ca), (2, .int .i64 ((mm : Nat) : Int)), (3, .int .u64 ((x : Nat) : Int)), (4, .pointer (some ⟨w.heap.size, 0, none⟩)), (8, .int .i64 0), (9, .int .u64 ((bval mm (fun j => lt_ be (r.getD j 0)) : Nat) : Int)), (10, .bool true)] (by kernel_rfl) fun ρ => ?_
  refine W_region (by kernel_rfl) ?_
  refine sg [(17, .slice A mm ca), (18, .int .i64 (mm : Int)), (19, .int .i64 ((mm : Nat) : Int)), (20, .bool ((mm : Int) != ((mm : Nat) : Int))), (21, .bool ((mm : Int) != ((mm : Nat) : Int)))] (by kernel_rfl) ?_
  cases hb7 : (mm : Int) != ((mm : Nat) : Int)
  · replace hb7 : (mm : Int) = ((mm : Nat) : Int) := (bne_eq_false_iff_eq.1 hb7)
    refine sg [(22, .bool true), (23, .bool false), (24, .bool false), (25, .bool false), (26, .int .u64 ((bval mm (fun j => lt_ be (r.getD j 0)) : Nat) : Int)), (27, .int .i64 ((mm : Nat) : Int)), (28, .int .u64 ((x : Nat) : Int))] (by kernel_rfl) ?_
    refine st (by kernel_rfl) (S_call (args := [.int .i64 ((mm : Nat) : Int), .int .u64 ((x : Nat) : Int)]) (by kernel_rfl) (rcut_ok mm x _ (by omega) (by omega) (by first | omega | exact bval_u (by omega))) ?_)
    rintro _ w8 ⟨rfl, hT9⟩
    have hT0 := hT0.t0 hT9
    have hB4 := hB4.tch0 hT9
    have hcl10 := cutN_lt mm x
    refine sg [(30, .bool (((bval mm (fun j => lt_ be (r.getD j 0)) : Nat) : Int) != ((cutN mm x : Nat) : Int))), (31, .bool (((bval mm (fun j => lt_ be (r.getD j 0)) : Nat) : Int) != ((cutN mm x : Nat) : Int)))] (by kernel_rfl) ?_
    refine op_nil ?_
    refine W_cond (((bval mm (fun j => lt_ be (r.getD j 0)) : Nat) : Int) != ((cutN mm x : Nat) : Int)) (by kernel_rfl) (by kernel_rfl) (fun hc11 => ?_) (fun hc11 => ?_)
    · replace hc11 : ((bval mm (fun j => lt_ be (r.getD j 0)) : Nat) : Int) ≠ ((cutN mm x : Nat) : Int) := (bne_iff_ne.1 hc11)
      exfalso; omega
    · replace hc11 : ((bval mm (fun j => lt_ be (r.getD j 0)) : Nat) : Int) = ((cutN mm x : Nat) : Int) := (bne_eq_false_iff_eq.1 hc11)
      refine W_skip ?_
      refine W_seq ?_
      refine W_fg [(0, .agg #[.slice K n ck, .slice J n cj]), (1, .slice A mm ca), (2, .int .i64 ((mm : Nat) : Int)), (3, .int .u64 ((x : Nat) : Int)), (4, .pointer (some ⟨w.heap.size, 0, none⟩)), (8, .int .i64 0), (9, .int .u64 ((bval mm (fun j => lt_ be (r.getD j 0)) : Nat) : Int)), (10, .bool true), (31, .bool (((bval mm (fun j => lt_ be (r.getD j 0)) : Nat) : Int) != ((cutN mm x : Nat) : Int)))] (by kernel_rfl) fun ρ => ?_
      refine W_region (by kernel_rfl) ?_
      refine sg [(8, .int .i64 1)] (by kernel_rfl) ?_
      refine op_nil ?_
      refine W_ret ?_
      exact ⟨_, Res_of (v := .int .i64 1) (by kernel_rfl), ⟨rfl, hT0⟩⟩
  · replace hb7 : (mm : Int) ≠ ((mm : Nat) : Int) := (bne_iff_ne.1 hb7)
    exfalso; omega

set_option maxRecDepth 100000 in
theorem close_ok (F : Nat → Prop) (p n hm hcp : Nat) (cs : List (List Nat)) (I : Nat → Prop) (H : Option Addr) (hol : List Nat) (t : Nat → Bool) (w : World) (hG : GObj F w p n cs I) (hn : n ≤ 68719476736) (hH : RdW w 1 hm H (nats hol)) (hin : ∀ v, I v → ∃ x, x ∈ hol ∧ x / 2 = v) (hfh : ∀ x, x ∈ hol → I (x / 2) ∧ t (x / 2) = !decide (x % 2 = 1)) : Ret Try.prog 32 [.pointer (some ⟨p, 0, none⟩), .slice H hm hcp] w fun v w' => ∃ K J ck cj kn tr b, v = .tuple #[.agg #[.slice K n ck, .slice J n cj], .int .i64 1] ∧ RdW w' 1 n K (boolsV kn) ∧ RdW w' 1 n J (boolsV tr) ∧ Mod cs b ∧ (∀ v, I v → b v = t v) ∧ (∀ x, x / 2 < n → kn.getD (x / 2) false = true ∧ hIs kn tr x = lt_ b x) ∧ Tch N0 w w' := by
  have hpos := hG.2.pos
  refine enter Try.func32 rfl rfl ?_
  refine W_seq ?_
  refine W_region (by kernel_rfl) ?_
  have hlt_ := hG.1.lt
  refine st (by rfl) (S_new (v := .pointer (some ⟨w.heap.size, 0, none⟩)) (ob := .cells #[.slice none 0 0, .slice none 0 0] 54) (by kernel_rfl) fun w1 hT2 hs3 hB4 => ?_)
  replace hB4 : Blk w1 (w.heap.size) 54 [.slice none 0 0, .slice none 0 0] := hB4
  have hT0 := hT2
  have hG := hG.tch0 hT2
  have nF_hB4 : ¬ F (w.heap.size) := fun e => by have := hlt_ _ e; omega
  refine sg [(5, .int .i64 0)] (by kernel_rfl) ?_
  refine op_nil ?_
  refine W_seq ?_
  refine W_region (by kernel_rfl) ?_
  refine sg [(9, .pointer (some ⟨p, 0, none⟩))] (by kernel_rfl) ?_
  refine st (by rfl) (S_call (args := [.pointer (some ⟨p, 0, none⟩)]) (by kernel_rfl) (vars_ok F p n cs I _ hG) ?_)
  rintro _ w5 ⟨rfl, hT6⟩
  have hT0 := hT0.t0 hT6
  have hG := hG.tch0 hT6
  have hB4 := hB4.tch0 hT6
  refine sg [(11, .slice H hm hcp), (12, .pointer (some ⟨p, 0, none⟩))] (by kernel_rfl) ?_
  refine st (by rfl) (S_call (args := [.pointer (some ⟨p, 0, none⟩)]) (by kernel_rfl) (clauses_ok F p n cs I _ hG (by omega)) ?_)
  rintro _ w7 ⟨L9, lcp10, Lv11, rfl, hClr, hClc, hT8⟩
  have hT0 := hT0.t0 hT8
  have hG := hG.tch0 hT8
  have hB4 := hB4.tch0 hT8
  refine st (by rfl) (S_call (args := [.int .i64 ((n : Nat) : Int), .slice H hm hcp, .slice L9 cs.length lcp10]) (by kernel_rfl) (runG F p n hm hcp cs.length lcp10 cs I H L9 hol Lv11 t _ hG (hH.tch0 hT0) hClr hClc rfl (by omega) hin hfh) ?_)
  rintro _ w12 ⟨K14, J15, ck16, cj17, kn18, tr19, be20, rfl, hK0, hJ0, hmod, hbt, hall, hT13⟩
  have hT0 := hT0.t0 hT13
  have hG := hG.tch0 hT13
  have hB4 := hB4.tch0 hT13
  have hK := hK0
  have hJ := hJ0
  refine sg [(8, .tuple #[.agg #[.slice K14 n ck16, .slice J15 n cj17], .bool true]), (15, .agg #[.slice K14 n ck16, .slice J15 n cj17]), (16, .bool true)] (by kernel_rfl) ?_
  have hlt_ := hG.1.lt
  have z25 := hT0.size
  have l26 := hB4.lt
  refine st (by rfl) (S_new (v := .pointer (some ⟨w12.heap.size, 0, none⟩)) (ob := .cells #[.slice none 0 0, .slice none 0 0] 54) (by kernel_rfl) fun w21 hT22 hs23 hB24 => ?_)
  replace hB24 : Blk w21 (w12.heap.size) 54 [.slice none 0 0, .slice none 0 0] := hB24
  have hT0 := hT0.t0 hT22
  have hG := hG.tch0 hT22
  have hB4 := hB4.tch0 hT22
  have hK := hK.tch0 hT22
  have hJ := hJ.tch0 hT22
  have nF_hB24 : ¬ F (w12.heap.size) := fun e => by have := hlt_ _ e; omega
  refine st (by rfl) (S_storeA (b := w12.heap.size) (j := 0) (cs := [.slice K14 n ck16, .slice J15 n cj17]) (by kernel_rfl) (by kernel_rfl) (by kernel_rfl) (by simp [oneV]) hB24 (by simp) fun w27 hT28 hs29 hB24' => ?_)
  have hT0 := (hT0).then hT28 (fun c e => by have : c = w12.heap.size := e; omega)
  have hG := hG.tchS hT28 (fun c e q => by cases e; exact nF_hB24 q)
  have hB4 := hB4.tch hT28 (fun e => by have : w.heap.size = w12.heap.size := e; omega)
  have hK := hK.tchS hT28 (fun c hc e => hK.ne_sl hpos hB24 c hc e)
  have hJ := hJ.tchS hT28 (fun c hc e => hJ.ne_sl hpos hB24 c hc e)
  replace hB24 : Blk w27 w12.heap.size 54 [.slice K14 n ck16, .slice J15 n cj17] := hB24'
  refine sg [(7, .bool true)] (by kernel_rfl) ?_
  refine op_nil ?_
  refine W_seq ?_
  refine W_seq ?_
  refine W_fg [(0, .pointer (some ⟨p, 0, none⟩)), (1, .slice H hm hcp), (4, .pointer (some ⟨w.heap.size, 0, none⟩)), (5, .int .i64 0), (6, .pointer (some ⟨w12.heap.size, 0, none⟩)), (7, .bool true)] (by kernel_rfl) fun ρ => ?_
  refine W_region (by kernel_rfl) ?_
  refine sg [(17, .bool true), (18, .bool false)] (by kernel_rfl) ?_
  refine op_nil ?_
  refine W_cond false (by kernel_rfl) (by kernel_rfl) (fun h => nomatch h) (fun _ => ?_)
  refine W_skip ?_
  refine W_seq ?_
  refine W_region (by kernel_rfl) ?_
  refine st (by rfl) (S_val (v := .agg #[.slice K14 n ck16, .slice J15 n cj17]) (R_loadA [.slice K14 n ck16, .slice J15 n cj17] (by kernel_rfl) (by kernel_rfl) (by kernel_rfl) (fun k u hk => by rw [hB24.cell]; exact get_part _ 0 _ k u rfl hk)) ?_)
  refine st (by rfl) (S_storeA (b := w.heap.size) (j := 0) (cs := [.slice K14 n ck16, .slice J15 n cj17]) (by kernel_rfl) (by kernel_rfl) (by kernel_rfl) (by simp [oneV]) hB4 (by simp) fun w30 hT31 hs32 hB4' => ?_)
  have hT0 := (hT0).then hT31 (fun c e => by have : c = w.heap.size := e; omega)
  have hG := hG.tchS hT31 (fun c e q => by cases e; exact nF_hB4 q)
  have hK := hK.tchS hT31 (fun c hc e => hK.ne_sl hpos hB4 c hc e)
  have hJ := hJ.tchS hT31 (fun c hc e => hJ.ne_sl hpos hB4 c hc e)
  have hB24 := hB24.tch hT31 (fun e => by have : w12.heap.size = w.heap.size := e; omega)
  replace hB4 : Blk w30 w.heap.size 54 [.slice K14 n ck16, .slice J15 n cj17] := hB4'
  refine sg [(5, .int .i64 1)] (by kernel_rfl) ?_
  refine op_nil ?_
  refine W_ret ?_
  exact ⟨_, Res_cell1 (b := w.heap.size) (cs := [.slice K14 n ck16, .slice J15 n cj17]) (by rfl) (by kernel_rfl) (by kernel_rfl) (by kernel_rfl) hB4 (by kernel_rfl) (by kernel_rfl), ⟨_, _, _, _, _, _, _, rfl, hK, hJ, hmod, hbt, hall, hT0⟩⟩

end Go.Proofs.YtnlecdpiccgdpaaV
