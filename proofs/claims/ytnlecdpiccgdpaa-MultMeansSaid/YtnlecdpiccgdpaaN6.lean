/- Walks of functions of the program and of the document's texts. The conditions stand with each theorem. -/
import Derived.Test.YtnlecdpiccgdpaaJMmult42x2
import Derived.Test.YtnlecdpiccgdpaaProg
import Derived.Test.YtnlecdpiccgdpaaJMmult42x1
import Derived.Test.YtnlecdpiccgdpaaJMmult42x12
import Derived.Test.YtnlecdpiccgdpaaJMmult42x12
set_option linter.unusedVariables false
set_option linter.unusedSimpArgs false
namespace Go.Proofs.YtnlecdpiccgdpaaV
open Go Go.RowKit Go.Proofs

set_option maxRecDepth 100000 in
theorem fits28_big (W most : Int) (xa xb xi : Int) (w : World) (h : W < 1 ∨ most < W) : Ret Try.prog 28 [.agg #[.int .i64 W, .int .u64 xa, .int .u64 xb, .int .u64 xi], .int .i64 most] w fun v w' => v = .int .i64 0 ∧ Tch N0 w w' := by
  refine enter Try.func28 rfl rfl ?_
  refine W_seq ?_
  refine W_region (by kernel_rfl) ?_
  refine st (by rfl) (S_new (v := .pointer (some ⟨w.heap.size, 0, none⟩)) (ob := .cells #[.int .i64 W, .int .u64 xa, .int .u64 xb, .int .u64 xi] 46) (by kernel_rfl) fun w1 hT2 hs3 hB4 => ?_)
  replace hB4 : Blk w1 (w.heap.size) 46 [.int .i64 W, .int .u64 xa, .int .u64 xb, .int .u64 xi] := hB4
  have hT0 := hT2
  refine sg [(4, .int .i64 0)] (by kernel_rfl) ?_
  refine op_nil ?_
  refine W_seq ?_
  refine W_seq ?_
  refine W_region (by kernel_rfl) ?_
  refine sg [(5, .pointer (some ⟨w.heap.size, 0, none⟩))] (by kernel_rfl) ?_
  refine st (by rfl) (S_val (v := .int .i64 W) (R_load (v := .int .i64 W) (by kernel_rfl) (by kernel_rfl) ((hB4.cell 0).trans rfl)) ?_)
  refine sg [(7, .bool (decide (W < 1))), (8, .bool (decide (W < 1)))] (by kernel_rfl) ?_
  cases hb5 : decide (W < 1)
  · replace hb5 : 1 ≤ W := (Int.not_lt.1 (of_decide_eq_false hb5))
    refine sg [(9, .pointer (some ⟨w.heap.size, 0, none⟩))] (by kernel_rfl) ?_
    refine st (by kernel_rfl) (S_val (v := .int .i64 W) (R_load (v := .int .i64 W) (by kernel_rfl) (by kernel_rfl) ((hB4.cell 0).trans rfl)) ?_)
    refine sg [(11, .int .i64 most), (12, .bool (decide (W > most))), (13, .bool (decide (W > most)))] (by kernel_rfl) ?_
    refine op_nil ?_
    refine W_cond (decide (W > most)) (by kernel_rfl) (by kernel_rfl) (fun hc6 => ?_) (fun hc6 => ?_)
    · replace hc6 : most < W := (of_decide_eq_true hc6)
      refine W_seq ?_
      refine W_fg [(0, .agg #[.int .i64 W, .int .u64 xa, .int .u64 xb, .int .u64 xi]), (1, .int .i64 most), (2, .pointer (some ⟨w.heap.size, 0, none⟩)), (4, .int .i64 0), (13, .bool (decide (W > most)))] (by kernel_rfl) fun ρ => ?_
      refine W_region (by kernel_rfl) ?_
      refine sg [(4, .int .i64 0)] (by kernel_rfl) ?_
      refine op_nil ?_
      refine W_ret ?_
      exact ⟨_, Res_of (v := .int .i64 0) (by kernel_rfl), ⟨by first | rfl | (exfalso; omega), hT0⟩⟩
    · replace hc6 : W ≤ most := (Int.not_lt.1 (of_decide_eq_false hc6))
      refine W_skip ?_
      refine W_seq ?_
      refine W_fg [(0, .agg #[.int .i64 W, .int .u64 xa, .int .u64 xb, .int .u64 xi]), (1, .int .i64 most), (2, .pointer (some ⟨w.heap.size, 0, none⟩)), (4, .int .i64 0), (13, .bool (decide (W > most)))] (by kernel_rfl) fun ρ => ?_
      refine W_region (by kernel_rfl) ?_
      refine sg [(4, .int .i64 1)] (by kernel_rfl) ?_
      refine op_nil ?_
      refine W_ret ?_
      exact ⟨_, Res_of (v := .int .i64 1) (by kernel_rfl), ⟨by first | rfl | (exfalso; omega), hT0⟩⟩
  · replace hb5 : W < 1 := (of_decide_eq_true hb5)
    refine sg [(9, undef), (10, undef), (11, undef), (12, undef), (13, .bool true)] (by kernel_rfl) ?_
    refine op_nil ?_
    refine W_cond true (by kernel_rfl) (by kernel_rfl) (fun _ => ?_) (fun h => nomatch h)
    refine W_seq ?_
    refine W_fg [(0, .agg #[.int .i64 W, .int .u64 xa, .int .u64 xb, .int .u64 xi]), (1, .int .i64 most), (2, .pointer (some ⟨w.heap.size, 0, none⟩)), (4, .int .i64 0), (13, .bool true)] (by kernel_rfl) fun ρ => ?_
    refine W_region (by kernel_rfl) ?_
    refine sg [(4, .int .i64 0)] (by kernel_rfl) ?_
    refine op_nil ?_
    refine W_ret ?_
    exact ⟨_, Res_of (v := .int .i64 0) (by kernel_rfl), ⟨by first | rfl | (exfalso; omega), hT0⟩⟩

set_option maxRecDepth 100000 in
theorem fits28_in (wd : Nat) (most : Int) (xa xb xi : Int) (w : World) (h : 1 ≤ (wd : Int) ∧ (wd : Int) ≤ most) : Ret Try.prog 28 [.agg #[.int .i64 ((wd : Nat) : Int), .int .u64 xa, .int .u64 xb, .int .u64 xi], .int .i64 most] w fun v w' => v = .int .i64 1 ∧ Tch N0 w w' := by
  refine enter Try.func28 rfl rfl ?_
  refine W_seq ?_
  refine W_region (by kernel_rfl) ?_
  refine st (by rfl) (S_new (v := .pointer (some ⟨w.heap.size, 0, none⟩)) (ob := .cells #[.int .i64 ((wd : Nat) : Int), .int .u64 xa, .int .u64 xb, .int .u64 xi] 46) (by kernel_rfl) fun w1 hT2 hs3 hB4 => ?_)
  replace hB4 : Blk w1 (w.heap.size) 46 [.int .i64 ((wd : Nat) : Int), .int .u64 xa, .int .u64 xb, .int .u64 xi] := hB4
  have hT0 := hT2
  refine sg [(4, .int .i64 0)] (by kernel_rfl) ?_
  refine op_nil ?_
  refine W_seq ?_
  refine W_seq ?_
  refine W_region (by kernel_rfl) ?_
  refine sg [(5, .pointer (some ⟨w.heap.size, 0, none⟩))] (by kernel_rfl) ?_
  refine st (by rfl) (S_val (v := .int .i64 ((wd : Nat) : Int)) (R_load (v := .int .i64 ((wd : Nat) : Int)) (by kernel_rfl) (by kernel_rfl) ((hB4.cell 0).trans rfl)) ?_)
  refine sg [(7, .bool (decide (((wd : Nat) : Int) < 1))), (8, .bool (decide (((wd : Nat) : Int) < 1)))] (by kernel_rfl) ?_
  cases hb5 : decide (((wd : Nat) : Int) < 1)
  · replace hb5 : 1 ≤ ((wd : Nat) : Int) := (Int.not_lt.1 (of_decide_eq_false hb5))
    refine sg [(9, .pointer (some ⟨w.heap.size, 0, none⟩))] (by kernel_rfl) ?_
    refine st (by kernel_rfl) (S_val (v := .int .i64 ((wd : Nat) : Int)) (R_load (v := .int .i64 ((wd : Nat) : Int)) (by kernel_rfl) (by kernel_rfl) ((hB4.cell 0).trans rfl)) ?_)
    refine sg [(11, .int .i64 most), (12, .bool (decide (((wd : Nat) : Int) > most))), (13, .bool (decide (((wd : Nat) : Int) > most)))] (by kernel_rfl) ?_
    refine op_nil ?_
    refine W_cond (decide (((wd : Nat) : Int) > most)) (by kernel_rfl) (by kernel_rfl) (fun hc6 => ?_) (fun hc6 => ?_)
    · replace hc6 : most < ((wd : Nat) : Int) := (of_decide_eq_true hc6)
      exfalso; omega
    · replace hc6 : ((wd : Nat) : Int) ≤ most := (Int.not_lt.1 (of_decide_eq_false hc6))
      refine W_skip ?_
      refine W_seq ?_
      refine W_fg [(0, .agg #[.int .i64 ((wd : Nat) : Int), .int .u64 xa, .int .u64 xb, .int .u64 xi]), (1, .int .i64 most), (2, .pointer (some ⟨w.heap.size, 0, none⟩)), (4, .int .i64 0), (13, .bool (decide (((wd : Nat) : Int) > most)))] (by kernel_rfl) fun ρ => ?_
      refine W_region (by kernel_rfl) ?_
      refine sg [(4, .int .i64 1)] (by kernel_rfl) ?_
      refine op_nil ?_
      refine W_ret ?_
      exact ⟨_, Res_of (v := .int .i64 1) (by kernel_rfl), ⟨rfl, hT0⟩⟩
  · replace hb5 : ((wd : Nat) : Int) < 1 := (of_decide_eq_true hb5)
    exfalso; omega

set_option maxRecDepth 100000 in
theorem MultMeans_big (W xa xb xi : Int)  (w : World) (h : W < 1 ∨ 24 < W) : Ret Try.prog 8 [.agg #[.int .i64 W, .int .u64 xa, .int .u64 xb, .int .u64 xi]] w fun v w' => v = .bool true ∧ Tch N0 w w' := by
  refine enter Try.func8 rfl rfl ?_
  refine W_seq ?_
  refine W_region (by kernel_rfl) ?_
  refine st (by rfl) (S_new (v := .pointer (some ⟨w.heap.size, 0, none⟩)) (ob := .cells #[.int .i64 W, .int .u64 xa, .int .u64 xb, .int .u64 xi] 46) (by kernel_rfl) fun w1 hT2 hs3 hB4 => ?_)
  replace hB4 : Blk w1 (w.heap.size) 46 [.int .i64 W, .int .u64 xa, .int .u64 xb, .int .u64 xi] := hB4
  have hT0 := hT2
  refine sg [(2, .bool false)] (by kernel_rfl) ?_
  refine op_nil ?_
  refine W_seq ?_
  refine W_seq ?_
  refine W_region (by kernel_rfl) ?_
  refine st (by rfl) (S_val (v := .agg #[.int .i64 W, .int .u64 xa, .int .u64 xb, .int .u64 xi]) (R_loadA [.int .i64 W, .int .u64 xa, .int .u64 xb, .int .u64 xi] (by kernel_rfl) (by kernel_rfl) (by kernel_rfl) (fun k u hk => by rw [hB4.cell]; exact get_part _ 0 _ k u rfl hk)) ?_)
  refine st (by rfl) (S_call (args := [.agg #[.int .i64 W, .int .u64 xa, .int .u64 xb, .int .u64 xi], .int .i64 24]) (by kernel_rfl) (fits28_big W 24 xa xb xi _ (by omega)) ?_)
  rintro _ w5 ⟨rfl, hT6⟩
  have hT0 := hT0.t0 hT6
  have hB4 := hB4.tch0 hT6
  refine sg [(16, .bool true)] (by kernel_rfl) ?_
  refine op_nil ?_
  refine W_cond true (by kernel_rfl) (by kernel_rfl) (fun _ => ?_) (fun h => nomatch h)
  refine W_seq ?_
  refine W_region (by kernel_rfl) ?_
  refine st (by rfl) (S_call (args := []) (by kernel_rfl) (awake21_ok _) ?_)
  rintro _ w7 ⟨rfl, hT8⟩
  have hT0 := hT0.t0 hT8
  have hB4 := hB4.tch0 hT8
  refine sg [(2, .bool true)] (by kernel_rfl) ?_
  refine op_nil ?_
  refine W_ret ?_
  exact ⟨_, Res_of (v := .bool true) (by kernel_rfl), ⟨rfl, hT0⟩⟩

set_option maxRecDepth 100000 in
set_option maxHeartbeats 4000000 in
theorem MultMeans_in (wd xa xb ins : Nat)  (w : World) (h1 : 1 ≤ wd) (h2 : wd ≤ 24) (ha : xa < 18446744073709551616) (hb : xb < 18446744073709551616) : Ret Try.prog 8 [.agg #[.int .i64 ((wd : Nat) : Int), .int .u64 ((xa : Nat) : Int), .int .u64 ((xb : Nat) : Int), .int .u64 ((ins : Nat) : Int)]] w fun v w' => v = .bool true ∧ Tch N0 w w' := by
  refine enter Try.func8 rfl rfl ?_
  refine W_seq ?_
  refine W_region (by kernel_rfl) ?_
  refine st (by rfl) (S_new (v := .pointer (some ⟨w.heap.size, 0, none⟩)) (ob := .cells #[.int .i64 ((wd : Nat) : Int), .int .u64 ((xa : Nat) : Int), .int .u64 ((xb : Nat) : Int), .int .u64 ((ins : Nat) : Int)] 46) (by kernel_rfl) fun w1 hT2 hs3 hB4 => ?_)
  replace hB4 : Blk w1 (w.heap.size) 46 [.int .i64 ((wd : Nat) : Int), .int .u64 ((xa : Nat) : Int), .int .u64 ((xb : Nat) : Int), .int .u64 ((ins : Nat) : Int)] := hB4
  have hT0 := hT2
  refine sg [(2, .bool false)] (by kernel_rfl) ?_
  refine op_nil ?_
  refine W_seq ?_
  refine W_seq ?_
  refine W_region (by kernel_rfl) ?_
  refine st (by rfl) (S_val (v := .agg #[.int .i64 ((wd : Nat) : Int), .int .u64 ((xa : Nat) : Int), .int .u64 ((xb : Nat) : Int), .int .u64 ((ins : Nat) : Int)]) (R_loadA [.int .i64 ((wd : Nat) : Int), .int .u64 ((xa : Nat) : Int), .int .u64 ((xb : Nat) : Int), .int .u64 ((ins : Nat) : Int)] (by kernel_rfl) (by kernel_rfl) (by kernel_rfl) (fun k u hk => by rw [hB4.cell]; exact get_part _ 0 _ k u rfl hk)) ?_)
  refine st (by rfl) (S_call (args := [.agg #[.int .i64 ((wd : Nat) : Int), .int .u64 ((xa : Nat) : Int), .int .u64 ((xb : Nat) : Int), .int .u64 ((ins : Nat) : Int)], .int .i64 24]) (by kernel_rfl) (fits28_in wd 24 ((xa : Nat) : Int) ((xb : Nat) : Int) ((ins : Nat) : Int) _ (by omega)) ?_)
  rintro _ w5 ⟨rfl, hT6⟩
  have hT0 := hT0.t0 hT6
  have hB4 := hB4.tch0 hT6
  refine sg [(16, .bool false)] (by kernel_rfl) ?_
  refine op_nil ?_
  refine W_cond false (by kernel_rfl) (by kernel_rfl) (fun h => nomatch h) (fun _ => ?_)
  refine W_skip ?_
  refine W_seq ?_
  refine W_region (by kernel_rfl) ?_
  have hz_ := hT0.size
  have lt11 := hB4.lt
  refine st (by rfl) (S_call (args := []) (by kernel_rfl) (new_ok _) ?_)
  rintro _ w7 ⟨p9, F10, rfl, hG, hT8, hFb⟩
  have hT0 := hT0.t0 hT8
  have hB4 := hB4.tch0 hT8
  have nF_hB4 : ¬ F10 (w.heap.size) := fun e => by have := hFb _ e; omega
  replace hFb := fun b hb => Nat.le_trans hz_ (hFb b hb)
  refine sg [(3, .pointer (some ⟨p9, 0, none⟩))] (by kernel_rfl) ?_
  refine op_nil ?_
  refine W_seq ?_
  refine W_seq ?_
  refine W_region (by kernel_rfl) ?_
  refine sg [(19, .pointer (some ⟨p9, 0, none⟩)), (20, .bool false)] (by kernel_rfl) ?_
  refine op_nil ?_
  refine W_cond false (by kernel_rfl) (by kernel_rfl) (fun h => nomatch h) (fun _ => ?_)
  refine W_skip ?_
  refine W_seq ?_
  refine W_fg [(0, .agg #[.int .i64 ((wd : Nat) : Int), .int .u64 ((xa : Nat) : Int), .int .u64 ((xb : Nat) : Int), .int .u64 ((ins : Nat) : Int)]), (1, .pointer (some ⟨w.heap.size, 0, none⟩)), (2, .bool false), (3, .pointer (some ⟨p9, 0, none⟩)), (16, .bool false), (20, .bool false)] (by kernel_rfl) fun ρ => ?_
  refine W_region (by kernel_rfl) ?_
  refine sg [(22, .pointer (some ⟨p9, 0, none⟩)), (23, .pointer (some ⟨w.heap.size, 0, none⟩))] (by kernel_rfl) ?_
  refine st (by rfl) (S_val (v := .int .i64 ((wd : Nat) : Int)) (R_load (v := .int .i64 ((wd : Nat) : Int)) (by kernel_rfl) (by kernel_rfl) ((hB4.cell 0).trans rfl)) ?_)
  refine sg [(25, .pointer (some ⟨w.heap.size, 1, none⟩))] (by kernel_rfl) ?_
  refine st (by rfl) (S_val (v := .int .u64 ((xa : Nat) : Int)) (R_load (v := .int .u64 ((xa : Nat) : Int)) (by kernel_rfl) (by kernel_rfl) ((hB4.cell 1).trans rfl)) ?_)
  refine sg [(27, .pointer (some ⟨w.heap.size, 3, none⟩))] (by kernel_rfl) ?_
  refine st (by rfl) (S_val (v := .int .u64 ((ins : Nat) : Int)) (R_load (v := .int .u64 ((ins : Nat) : Int)) (by kernel_rfl) (by kernel_rfl) ((hB4.cell 3).trans rfl)) ?_)
  have hz_ := hT0.size
  have lt13 := hB4.lt
  refine st (by rfl) (S_call (args := [.pointer (some ⟨p9, 0, none⟩), .int .i64 ((wd : Nat) : Int), .int .u64 ((xa : Nat) : Int), .int .u64 ((ins : Nat) : Int)]) (by kernel_rfl) (rowc_ok F10 p9 1 wd ([[0]]) (fun _ => False) xa ins _ hG (by omega) (by omega) (by omega)) ?_)
  rintro _ w12 ⟨Fa, na, Ia, Ra, rca, Ha, hca, rowa, holda, rfl, hXa, hYa, gRa, gHa, hG, mva, hria, hda, aHa, hlla, hrca⟩
  have hT0 := (hT0).then mva.1 hFb
  have hB4 := hB4.tch mva.1 nF_hB4
  replace nF_hB4 : ¬ Fa (w.heap.size) := fun e => (mva.2 _ e).elim nF_hB4 (fun q => by omega)
  replace hFb := mva.ge hFb hz_
  have lt_hXa := hXa.lt
  have lt_hYa := hYa.lt
  have ge_hXa := gRa
  have ge_hYa := gHa
  have hle_hria := hria.le
  refine sg [(21, .tuple #[.slice Ra wd rca, .slice Ha holda.length hca]), (30, .slice Ra wd rca), (31, .slice Ha holda.length hca), (4, .slice Ra wd rca), (5, .slice Ha holda.length hca)] (by kernel_rfl) ?_
  refine op_nil ?_
  refine W_seq ?_
  refine W_fg [(0, .agg #[.int .i64 ((wd : Nat) : Int), .int .u64 ((xa : Nat) : Int), .int .u64 ((xb : Nat) : Int), .int .u64 ((ins : Nat) : Int)]), (1, .pointer (some ⟨w.heap.size, 0, none⟩)), (2, .bool false), (3, .pointer (some ⟨p9, 0, none⟩)), (4, .slice Ra wd rca), (5, .slice Ha holda.length hca), (16, .bool false), (20, .bool false)] (by kernel_rfl) fun ρ => ?_
  refine W_region (by kernel_rfl) ?_
  refine sg [(33, .pointer (some ⟨p9, 0, none⟩)), (34, .pointer (some ⟨w.heap.size, 0, none⟩))] (by kernel_rfl) ?_
  refine st (by rfl) (S_val (v := .int .i64 ((wd : Nat) : Int)) (R_load (v := .int .i64 ((wd : Nat) : Int)) (by kernel_rfl) (by kernel_rfl) ((hB4.cell 0).trans rfl)) ?_)
  refine sg [(36, .pointer (some ⟨w.heap.size, 2, none⟩))] (by kernel_rfl) ?_
  refine st (by rfl) (S_val (v := .int .u64 ((xb : Nat) : Int)) (R_load (v := .int .u64 ((xb : Nat) : Int)) (by kernel_rfl) (by kernel_rfl) ((hB4.cell 2).trans rfl)) ?_)
  refine sg [(38, .pointer (some ⟨w.heap.size, 3, none⟩))] (by kernel_rfl) ?_
  refine st (by rfl) (S_val (v := .int .u64 ((ins : Nat) : Int)) (R_load (v := .int .u64 ((ins : Nat) : Int)) (by kernel_rfl) (by kernel_rfl) ((hB4.cell 3).trans rfl)) ?_)
  refine sg [(40, .int .u64 (((ins : Nat) : Int).fdiv (2 ^ 9))), (41, .pointer (some ⟨w.heap.size, 3, none⟩))] (by kernel_rfl) ?_
  refine st (by rfl) (S_val (v := .int .u64 ((ins : Nat) : Int)) (R_load (v := .int .u64 ((ins : Nat) : Int)) (by kernel_rfl) (by kernel_rfl) ((hB4.cell 3).trans rfl)) ?_)
  refine sg [(43, .int .u64 (IntKind.u64.wrap (((ins : Nat) : Int) * 2 ^ 55)))] (by kernel_rfl) ?_
  obtain ⟨ib, hib⟩ := u64nat (BitVec.ofInt 64 (((ins : Nat) : Int).fdiv (2 ^ 9)) ||| BitVec.ofInt 64 (IntKind.u64.wrap (((ins : Nat) : Int) * 2 ^ 55))).toNat
  refine sg [(44, .int .u64 (IntKind.u64.wrap (BitVec.ofInt 64 (((ins : Nat) : Int).fdiv (2 ^ 9)) ||| BitVec.ofInt 64 (IntKind.u64.wrap (((ins : Nat) : Int) * 2 ^ 55))).toNat))] (by kernel_rfl) ?_
  rw [hib]
  have hz_ := hT0.size
  have lt15 := hB4.lt
  refine st (by rfl) (S_call (args := [.pointer (some ⟨p9, 0, none⟩), .int .i64 ((wd : Nat) : Int), .int .u64 ((xb : Nat) : Int), .int .u64 ((ib : Nat) : Int)]) (by kernel_rfl) (rowc_ok Fa p9 na wd ([[0]]) Ia xb ib _ hG (by omega) (by omega) (by omega)) ?_)
  rintro _ w14 ⟨Fb, nb, Ib, Rb, rcb, Hb, hcb, rowb, holdb, rfl, hXb, hYb, gRb, gHb, hG, mvb, hrib, hdb, aHb, hllb, hrcb⟩
  have hT0 := (hT0).then mvb.1 hFb
  have hB4 := hB4.tch mvb.1 nF_hB4
  have hXa := hXa.mv mvb
  have hYa := hYa.mv mvb
  replace nF_hB4 : ¬ Fb (w.heap.size) := fun e => (mvb.2 _ e).elim nF_hB4 (fun q => by omega)
  replace hFb := mvb.ge hFb hz_
  have lt_hXb := hXb.lt
  have lt_hYb := hYb.lt
  have ge_hXb := gRb
  have ge_hYb := gHb
  have hle_hrib := hrib.le
  refine sg [(32, .tuple #[.slice Rb wd rcb, .slice Hb holdb.length hcb]), (46, .slice Rb wd rcb), (47, .slice Hb holdb.length hcb), (6, .slice Rb wd rcb), (7, .slice Hb holdb.length hcb)] (by kernel_rfl) ?_
  refine op_nil ?_
  refine W_seq ?_
  refine W_fg [(0, .agg #[.int .i64 ((wd : Nat) : Int), .int .u64 ((xa : Nat) : Int), .int .u64 ((xb : Nat) : Int), .int .u64 ((ins : Nat) : Int)]), (1, .pointer (some ⟨w.heap.size, 0, none⟩)), (2, .bool false), (3, .pointer (some ⟨p9, 0, none⟩)), (4, .slice Ra wd rca), (5, .slice Ha holda.length hca), (6, .slice Rb wd rcb), (7, .slice Hb holdb.length hcb), (16, .bool false), (20, .bool false)] (by kernel_rfl) fun ρ => ?_
  refine W_region (by kernel_rfl) ?_
  refine sg [(48, .pointer (some ⟨p9, 0, none⟩)), (49, .slice Ra wd rca), (50, .slice Rb wd rcb)] (by kernel_rfl) ?_
  have hz_ := hT0.size
  have lt29 := hB4.lt
  refine st (by rfl) (S_call (args := [.pointer (some ⟨p9, 0, none⟩), .slice Ra wd rca, .slice Rb wd rcb]) (by kernel_rfl) (mul_ok Fb p9 nb wd rca rcb Ra Rb rowa rowb ([[0]]) Ib _ hG hXa hXb (fun j hj => by have := hria.fit j hj; omega) (fun j hj => by have := hrib.fit j hj; omega) (by omega) (by omega) (by omega)) ?_)
  rintro _ w16 ⟨F17, n18, cs19, A20, cp21, r22, rfl, hrl23, hX24, hg25, hG, mv26, hrw27, hd28⟩
  have hT0 := (hT0).then mv26.1 hFb
  have hB4 := hB4.tch mv26.1 nF_hB4
  have hXa := hXa.mv mv26
  have hYa := hYa.mv mv26
  have hXb := hXb.mv mv26
  have hYb := hYb.mv mv26
  replace nF_hB4 : ¬ F17 (w.heap.size) := fun e => (mv26.2 _ e).elim nF_hB4 (fun q => by omega)
  replace hFb := mv26.ge hFb hz_
  have lt_hX24 := hX24.lt
  have ge_hX24 := hg25
  have hle30 := hrw27.le
  refine sg [(8, .slice A20 wd cp21)] (by kernel_rfl) ?_
  refine op_nil ?_
  refine W_seq ?_
  refine W_region (by kernel_rfl) ?_
  have hlt_ := hG.1.lt
  have lt35 := hB4.lt
  have lt_hXa := hXa.lt
  have lt_hYa := hYa.lt
  have lt_hXb := hXb.lt
  have lt_hYb := hYb.lt
  have lt_hX24 := hX24.lt
  have z36 := hT0.size
  have l37 := hB4.lt
  refine st (by rfl) (S_new (v := .slice (some ⟨w16.heap.size, 0, none⟩) 0 0) (ob := .cells #[] 3) (by kernel_rfl) fun w31 hT32 hs33 hB34 => ?_)
  replace hB34 : Blk w31 (w16.heap.size) 3 [] := hB34
  have hT0 := hT0.t0 hT32
  have hB4 := hB4.tch0 hT32
  have hG := hG.tch0 hT32
  have hXa := hXa.tch0 hT32
  have hYa := hYa.tch0 hT32
  have hXb := hXb.tch0 hT32
  have hYb := hYb.tch0 hT32
  have hX24 := hX24.tch0 hT32
  have nF_hB34 : ¬ F17 (w16.heap.size) := fun e => by have := hlt_ _ e; omega
  refine sg [(53, .slice Ha holda.length hca)] (by kernel_rfl) ?_
  have hHk := hB34.own0
  have nB_hHk : ∀ c, (Value.slice (some ⟨w16.heap.size, 0, none⟩) 0 0).ownBlock = some c → w16.heap.size ≤ c := fun c q => by have e : w16.heap.size = c := (by injection q); omega
  have nF_hHk : ∀ c, (Value.slice (some ⟨w16.heap.size, 0, none⟩) 0 0).ownBlock = some c → ¬ F17 c := fun c q e => by have e2 : w16.heap.size = c := (by injection q); have := hlt_ _ e; omega
  refine st (by rfl) (S_appendX 27 3 (.int .i64 0) 8 (n := 0) (m := holda.length) (A := some ⟨w16.heap.size, 0, none⟩) (B := Ha) (cp := 0) (c := hca) (cells := []) (news := nats holda) (by kernel_rfl) (by kernel_rfl) (by kernel_rfl) (by kernel_rfl) (by kernel_rfl) hHk hYa.1 (fun _ => aHa) (nats_oneV _) (by simp only [maxLen]; omega) (by omega) fun A38 cp39 w40 hHl hw41 hT42 => ?_)
  have hT0 := (hT0).then hT42 (fun c e => by have := nB_hHk c e; omega)
  have hB4 := hB4.tch hT42 (fun e => hHk.blk_ne hB4 (by decide) _ e rfl)
  have hG := hG.tchS hT42 (fun c e => nF_hHk c e)
  have hXa := hXa.st hT42 (fun c hc e => by have h1 := lt_hXa c hc; have h2 := nB_hHk c e; omega)
  have hYa := hYa.st hT42 (fun c hc e => by have h1 := lt_hYa c hc; have h2 := nB_hHk c e; omega)
  have hXb := hXb.st hT42 (fun c hc e => by have h1 := lt_hXb c hc; have h2 := nB_hHk c e; omega)
  have hYb := hYb.st hT42 (fun c hc e => by have h1 := lt_hYb c hc; have h2 := nB_hHk c e; omega)
  have hX24 := hX24.st hT42 (fun c hc e => by have h1 := lt_hX24 c hc; have h2 := nB_hHk c e; omega)
  have hsz43 := hT42.size
  have nB_hHl : ∀ c, (Value.slice A38 (0 + holda.length) cp39).ownBlock = some c → w16.heap.size ≤ c := fun c q => (hw41 c q).elim (nB_hHk c) (fun q => by omega)
  have nF_hHl : ∀ c, (Value.slice A38 (0 + holda.length) cp39).ownBlock = some c → ¬ F17 c := fun c q e => by have := nB_hHl c q; have := hlt_ _ e; omega
  refine sg [(55, .slice Hb holdb.length hcb)] (by kernel_rfl) ?_
  refine st (by rfl) (S_appendX 27 3 (.int .i64 0) 8 (n := 0 + holda.length) (m := holdb.length) (A := A38) (B := Hb) (cp := cp39) (c := hcb) (cells := ([] ++ nats holda)) (news := nats holdb) (by kernel_rfl) (by kernel_rfl) (by kernel_rfl) (by kernel_rfl) (by kernel_rfl) hHl hYb.1 (fun _ => aHb) (nats_oneV _) (by simp only [maxLen]; omega) (by omega) fun A44 cp45 w46 hHm hw47 hT48 => ?_)
  have hT0 := (hT0).then hT48 (fun c e => by have := nB_hHl c e; omega)
  have hB4 := hB4.tch hT48 (fun e => hHl.blk_ne hB4 (by decide) _ e rfl)
  have hG := hG.tchS hT48 (fun c e => nF_hHl c e)
  have hXa := hXa.st hT48 (fun c hc e => by have h1 := lt_hXa c hc; have h2 := nB_hHl c e; omega)
  have hYa := hYa.st hT48 (fun c hc e => by have h1 := lt_hYa c hc; have h2 := nB_hHl c e; omega)
  have hXb := hXb.st hT48 (fun c hc e => by have h1 := lt_hXb c hc; have h2 := nB_hHl c e; omega)
  have hYb := hYb.st hT48 (fun c hc e => by have h1 := lt_hYb c hc; have h2 := nB_hHl c e; omega)
  have hX24 := hX24.st hT48 (fun c hc e => by have h1 := lt_hX24 c hc; have h2 := nB_hHl c e; omega)
  have hsz49 := hT48.size
  have nB_hHm : ∀ c, (Value.slice A44 (0 + holda.length + holdb.length) cp45).ownBlock = some c → w16.heap.size ≤ c := fun c q => (hw47 c q).elim (nB_hHl c) (fun q => by omega)
  have nF_hHm : ∀ c, (Value.slice A44 (0 + holda.length + holdb.length) cp45).ownBlock = some c → ¬ F17 c := fun c q e => by have := nB_hHm c q; have := hlt_ _ e; omega
  refine sg [(9, .slice A44 (0 + holda.length + holdb.length) cp45)] (by kernel_rfl) ?_
  refine op_nil ?_
  refine W_seq ?_
  refine W_fg [(0, .agg #[.int .i64 ((wd : Nat) : Int), .int .u64 ((xa : Nat) : Int), .int .u64 ((xb : Nat) : Int), .int .u64 ((ins : Nat) : Int)]), (1, .pointer (some ⟨w.heap.size, 0, none⟩)), (2, .bool false), (3, .pointer (some ⟨p9, 0, none⟩)), (4, .slice Ra wd rca), (5, .slice Ha holda.length hca), (6, .slice Rb wd rcb), (7, .slice Hb holdb.length hcb), (8, .slice A20 wd cp21), (9, .slice A44 (0 + holda.length + holdb.length) cp45), (16, .bool false), (20, .bool false)] (by kernel_rfl) fun ρ => ?_
  refine W_region (by kernel_rfl) ?_
  refine sg [(58, .pointer (some ⟨p9, 0, none⟩)), (59, .slice A44 (0 + holda.length + holdb.length) cp45)] (by kernel_rfl) ?_
  refine st (by rfl) (S_call (args := [.pointer (some ⟨p9, 0, none⟩), .slice A44 (0 + holda.length + holdb.length) cp45]) (by kernel_rfl) (close_ok F17 p9 n18 (0 + holda.length + holdb.length) cp45 cs19 Ib A44 (holda ++ holdb) (fun v => decide (2 * v ∈ holda ++ holdb)) _ hG (by omega) (by have q := hHm.rd1; rw [List.nil_append, ← nats_append] at q; exact q) (two_in hria hrib) (two_fit hria hrib)) ?_)
  rintro _ w50 ⟨K, J, ck, cj, kn, tr, be, rfl, hK0, hJ0, hmod, hbt, hall, hTC⟩
  have hT0 := hT0.t0 hTC
  have hB4 := hB4.tch0 hTC
  have hG := hG.tch0 hTC
  have hXa := hXa.tch0 hTC
  have hYa := hYa.tch0 hTC
  have hXb := hXb.tch0 hTC
  have hYb := hYb.tch0 hTC
  have hX24 := hX24.tch0 hTC
  have hHm := hHm.tch0 hTC
  have hTK := Tch.refl N0 w50
  have hK := hK0
  have hJ := hJ0
  have hmd1 := hmod
  have hmd0 := hmd1.sub hrw27.sub
  have hva := (two_says hria hrib hmd0 hmd0 hbt).1
  have hvb := (two_says hria hrib hmd0 hmd0 hbt).2
  refine sg [(57, .tuple #[.agg #[.slice K n18 ck, .slice J n18 cj], .int .i64 1]), (61, .agg #[.slice K n18 ck, .slice J n18 cj]), (62, .int .i64 1)] (by kernel_rfl) ?_
  have hz55 := hTK.size
  have hlt_ := hG.1.lt
  have lt56 := hB4.lt
  have lt_hXa := hXa.lt
  have lt_hYa := hYa.lt
  have lt_hXb := hXb.lt
  have lt_hYb := hYb.lt
  have lt_hX24 := hX24.lt
  have z57 := hT0.size
  have l58 := hB4.lt
  refine st (by rfl) (S_new (v := .pointer (some ⟨w50.heap.size, 0, none⟩)) (ob := .cells #[.slice none 0 0, .slice none 0 0] 54) (by kernel_rfl) fun w51 hT52 hs53 hB54 => ?_)
  replace hB54 : Blk w51 (w50.heap.size) 54 [.slice none 0 0, .slice none 0 0] := hB54
  have hT0 := hT0.t0 hT52
  have hB4 := hB4.tch0 hT52
  have hG := hG.tch0 hT52
  have hXa := hXa.tch0 hT52
  have hYa := hYa.tch0 hT52
  have hXb := hXb.tch0 hT52
  have hYb := hYb.tch0 hT52
  have hX24 := hX24.tch0 hT52
  have hHm := hHm.tch0 hT52
  have hTK := hTK.t0 hT52
  have hK := hK0.tch0 hTK
  have hJ := hJ0.tch0 hTK
  have nF_hB54 : ¬ F17 (w50.heap.size) := fun e => by have := hlt_ _ e; omega
  refine st (by rfl) (S_storeA (b := w50.heap.size) (j := 0) (cs := [.slice K n18 ck, .slice J n18 cj]) (by kernel_rfl) (by kernel_rfl) (by kernel_rfl) (by simp [oneV]) hB54 (by simp) fun w59 hT60 hs61 hB54' => ?_)
  have hT0 := (hT0).then hT60 (fun c e => by have : c = w50.heap.size := e; omega)
  have hB4 := hB4.tch hT60 (hB4.ne hB54 (by decide))
  have hG := hG.tchS hT60 (fun c e q => by cases e; exact nF_hB54 q)
  have hXa := hXa.st hT60 (fun c hc e => by have h1 := lt_hXa c hc; have h2 := ge_hXa c hc; have : c = w50.heap.size := e; omega)
  have hYa := hYa.st hT60 (fun c hc e => by have h1 := lt_hYa c hc; have h2 := ge_hYa c hc; have : c = w50.heap.size := e; omega)
  have hXb := hXb.st hT60 (fun c hc e => by have h1 := lt_hXb c hc; have h2 := ge_hXb c hc; have : c = w50.heap.size := e; omega)
  have hYb := hYb.st hT60 (fun c hc e => by have h1 := lt_hYb c hc; have h2 := ge_hYb c hc; have : c = w50.heap.size := e; omega)
  have hX24 := hX24.st hT60 (fun c hc e => by have h1 := lt_hX24 c hc; have h2 := ge_hX24 c hc; have : c = w50.heap.size := e; omega)
  have hHm := hHm.tch hT60 (fun c hc e => hHm.blk_ne hB54 (by decide) c hc e)
  have hTK := hTK.then hT60 (fun c e => by have : c = w50.heap.size := e; omega)
  have hK := hK0.tch0 hTK
  have hJ := hJ0.tch0 hTK
  replace hB54 : Blk w59 w50.heap.size 54 [.slice K n18 ck, .slice J n18 cj] := hB54'
  refine sg [(11, .int .i64 1)] (by kernel_rfl) ?_
  refine op_nil ?_
  refine W_seq ?_
  refine W_fg [(0, .agg #[.int .i64 ((wd : Nat) : Int), .int .u64 ((xa : Nat) : Int), .int .u64 ((xb : Nat) : Int), .int .u64 ((ins : Nat) : Int)]), (1, .pointer (some ⟨w.heap.size, 0, none⟩)), (2, .bool false), (3, .pointer (some ⟨p9, 0, none⟩)), (4, .slice Ra wd rca), (5, .slice Ha holda.length hca), (6, .slice Rb wd rcb), (7, .slice Hb holdb.length hcb), (8, .slice A20 wd cp21), (9, .slice A44 (0 + holda.length + holdb.length) cp45), (10, .pointer (some ⟨w50.heap.size, 0, none⟩)), (11, .int .i64 1), (16, .bool false), (20, .bool false)] (by kernel_rfl) fun ρ => ?_
  refine W_region (by kernel_rfl) ?_
  refine sg [(64, .pointer (some ⟨w.heap.size, 0, none⟩))] (by kernel_rfl) ?_
  refine st (by rfl) (S_val (v := .int .i64 ((wd : Nat) : Int)) (R_load (v := .int .i64 ((wd : Nat) : Int)) (by kernel_rfl) (by kernel_rfl) ((hB4.cell 0).trans rfl)) ?_)
  refine sg [(66, .pointer (some ⟨w.heap.size, 1, none⟩))] (by kernel_rfl) ?_
  refine st (by rfl) (S_val (v := .int .u64 ((xa : Nat) : Int)) (R_load (v := .int .u64 ((xa : Nat) : Int)) (by kernel_rfl) (by kernel_rfl) ((hB4.cell 1).trans rfl)) ?_)
  refine sg [(68, .pointer (some ⟨w.heap.size, 2, none⟩))] (by kernel_rfl) ?_
  refine st (by rfl) (S_val (v := .int .u64 ((xb : Nat) : Int)) (R_load (v := .int .u64 ((xb : Nat) : Int)) (by kernel_rfl) (by kernel_rfl) ((hB4.cell 2).trans rfl)) ?_)
  refine st (by rfl) (S_call (args := [.int .i64 3, .int .i64 ((wd : Nat) : Int), .int .u64 ((xa : Nat) : Int), .int .u64 ((xb : Nat) : Int)]) (by kernel_rfl) (rbin3_ok wd xa xb _ (by omega) (by omega) (by omega) (by omega)) ?_)
  rintro _ w62 ⟨rfl, hT63⟩
  have hT0 := hT0.t0 hT63
  have hB4 := hB4.tch0 hT63
  have hG := hG.tch0 hT63
  have hXa := hXa.tch0 hT63
  have hYa := hYa.tch0 hT63
  have hXb := hXb.tch0 hT63
  have hYb := hYb.tch0 hT63
  have hX24 := hX24.tch0 hT63
  have hHm := hHm.tch0 hT63
  have hTK := hTK.t0 hT63
  have hK := hK0.tch0 hTK
  have hJ := hJ0.tch0 hTK
  have hB54 := hB54.tch0 hT63
  refine sg [(63, .tuple #[.int .u64 ((cutN wd (cutN wd xa * cutN wd xb) : Nat) : Int), .int .i64 0]), (71, .int .u64 ((cutN wd (cutN wd xa * cutN wd xb) : Nat) : Int)), (72, .int .i64 0), (12, .int .u64 ((cutN wd (cutN wd xa * cutN wd xb) : Nat) : Int)), (13, .int .i64 0)] (by kernel_rfl) ?_
  refine op_nil ?_
  refine W_seq ?_
  refine W_fg [(0, .agg #[.int .i64 ((wd : Nat) : Int), .int .u64 ((xa : Nat) : Int), .int .u64 ((xb : Nat) : Int), .int .u64 ((ins : Nat) : Int)]), (1, .pointer (some ⟨w.heap.size, 0, none⟩)), (2, .bool false), (3, .pointer (some ⟨p9, 0, none⟩)), (4, .slice Ra wd rca), (5, .slice Ha holda.length hca), (6, .slice Rb wd rcb), (7, .slice Hb holdb.length hcb), (8, .slice A20 wd cp21), (9, .slice A44 (0 + holda.length + holdb.length) cp45), (10, .pointer (some ⟨w50.heap.size, 0, none⟩)), (11, .int .i64 1), (12, .int .u64 ((cutN wd (cutN wd xa * cutN wd xb) : Nat) : Int)), (16, .bool false), (20, .bool false)] (by kernel_rfl) fun ρ => ?_
  refine W_region (by kernel_rfl) ?_
  refine sg [(73, .int .i64 1), (74, .bool true), (75, .bool true)] (by kernel_rfl) ?_
  refine st (by kernel_rfl) (S_val (v := .agg #[.slice K n18 ck, .slice J n18 cj]) (R_loadA [.slice K n18 ck, .slice J n18 cj] (by kernel_rfl) (by kernel_rfl) (by kernel_rfl) (fun k u hk => by rw [hB54.cell]; exact get_part _ 0 _ k u rfl hk)) ?_)
  refine sg [(77, .slice A20 wd cp21), (78, .pointer (some ⟨w.heap.size, 0, none⟩))] (by kernel_rfl) ?_
  refine st (by kernel_rfl) (S_val (v := .int .i64 ((wd : Nat) : Int)) (R_load (v := .int .i64 ((wd : Nat) : Int)) (by kernel_rfl) (by kernel_rfl) ((hB4.cell 0).trans rfl)) ?_)
  refine sg [(80, .int .u64 ((cutN wd (cutN wd xa * cutN wd xb) : Nat) : Int))] (by kernel_rfl) ?_
  refine st (by kernel_rfl) (S_call (args := [.agg #[.slice K n18 ck, .slice J n18 cj], .slice A20 wd cp21, .int .i64 ((wd : Nat) : Int), .int .u64 ((cutN wd (cutN wd xa * cutN wd xb) : Nat) : Int)]) (by kernel_rfl) (is_okV n18 wd cp21 K J A20 ck cj kn tr r22 be (cutN wd (cutN wd xa * cutN wd xb)) _ hK hJ hX24.1 (by omega) hall (fun j hj => by have := hrw27.fit j hj; omega) (by omega) (by omega) (by first | omega | exact Nat.lt_of_lt_of_le (cutN_lt _ _) (pw64 (by omega)) | exact Nat.lt_of_lt_of_le (Nat.mod_lt _ (pw_pos _)) (pw64 (by omega)) | exact Nat.mod_lt _ (by omega)) (mul_says hva hvb (fun j hj => hrw27.val be hmd1 j hj))) ?_)
  rintro _ w64 ⟨rfl, hT65⟩
  have hT0 := hT0.t0 hT65
  have hB4 := hB4.tch0 hT65
  have hG := hG.tch0 hT65
  have hXa := hXa.tch0 hT65
  have hYa := hYa.tch0 hT65
  have hXb := hXb.tch0 hT65
  have hYb := hYb.tch0 hT65
  have hX24 := hX24.tch0 hT65
  have hHm := hHm.tch0 hT65
  have hTK := hTK.t0 hT65
  have hK := hK0.tch0 hTK
  have hJ := hJ0.tch0 hTK
  have hB54 := hB54.tch0 hT65
  refine sg [(82, .bool true), (83, .bool true), (84, .bool true)] (by kernel_rfl) ?_
  refine st (by kernel_rfl) (S_call (args := []) (by kernel_rfl) (awake21_ok _) ?_)
  rintro _ w66 ⟨rfl, hT67⟩
  have hT0 := hT0.t0 hT67
  have hB4 := hB4.tch0 hT67
  have hG := hG.tch0 hT67
  have hXa := hXa.tch0 hT67
  have hYa := hYa.tch0 hT67
  have hXb := hXb.tch0 hT67
  have hYb := hYb.tch0 hT67
  have hX24 := hX24.tch0 hT67
  have hHm := hHm.tch0 hT67
  have hTK := hTK.t0 hT67
  have hK := hK0.tch0 hTK
  have hJ := hJ0.tch0 hTK
  have hB54 := hB54.tch0 hT67
  refine sg [(86, .bool true), (2, .bool true)] (by kernel_rfl) ?_
  refine op_nil ?_
  refine W_ret ?_
  exact ⟨_, Res_of (v := .bool true) (by kernel_rfl), ⟨rfl, hT0⟩⟩

theorem MultMeans_w (W xa xb xi : Int) (w : World) (ha : 0 ≤ xa ∧ xa ≤ 18446744073709551615) (hb : 0 ≤ xb ∧ xb ≤ 18446744073709551615) (hi : 0 ≤ xi ∧ xi ≤ 18446744073709551615) : Ret Try.prog 8 [.agg #[.int .i64 W, .int .u64 xa, .int .u64 xb, .int .u64 xi]] w fun v w' => v = .bool true ∧ Tch N0 w w' := by
  by_cases h : W < 1 ∨ 24 < W
  · exact MultMeans_big W xa xb xi w h
  · obtain ⟨wd, rfl⟩ : ∃ k : Nat, W = k := ⟨W.toNat, by omega⟩
    obtain ⟨a, rfl⟩ : ∃ k : Nat, xa = k := ⟨xa.toNat, by omega⟩
    obtain ⟨b, rfl⟩ : ∃ k : Nat, xb = k := ⟨xb.toNat, by omega⟩
    obtain ⟨c, rfl⟩ : ∃ k : Nat, xi = k := ⟨xi.toNat, by omega⟩
    exact MultMeans_in wd a b c w (by omega) (by omega) (by omega) (by omega)

end Go.Proofs.YtnlecdpiccgdpaaV
