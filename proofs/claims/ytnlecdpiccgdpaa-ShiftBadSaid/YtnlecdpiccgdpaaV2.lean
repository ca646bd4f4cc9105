/- Walks of functions of the program and of the document's texts. The conditions stand with each theorem. -/
import Derived.Test.YtnlecdpiccgdpaaVx13
import Derived.Test.YtnlecdpiccgdpaaProg
import Derived.Test.YtnlecdpiccgdpaaVx4
import Derived.Test.YtnlecdpiccgdpaaV1
set_option linter.unusedVariables false
set_option linter.unusedSimpArgs false
namespace Go.Proofs.YtnlecdpiccgdpaaV
open Go Go.RowKit Go.Proofs

set_option maxRecDepth 100000 in
theorem fits28_big (W most : Int) (xa xb xi : Int) (w : World) (h : W < 1 ∨ most < W) : Ret Try.prog 28 [.agg #[.int .i64 W, .int .u64 xa, .int .u64 xb, .int .u64 xi], .int .i64 most] w fun v w' => v = .int .i64 0 ∧ Tch N0 w w' := by
  refine enter Try.func28 rfl rfl ?_
  refine W_seq ?_
  refine W_region (by kernel_rfl) ?_
  refine st (by rfl) (S_new (v := .pointer (some ⟨w.heap.size, 0, none⟩)) (ob := .cells #[.int .i64 W, .int .u64 xa, .int .u64 xb, .int .u64 xi] 46) (by kernel_rfl) fun w1 hT2 hs3 hB4 => ?_)
  replace hB4 : Blk w1 (w.heap.size) 46 [.int .i64 W, .int .u64 xa, .int .u64 xb, .int .u64 xi] := hB4
  have hT0 := hT2
  refine sg [(4, .int .i64 0)] (by kernel_rfl) ?_
  refine op_nil ?_
  refine W_seq ?_
  refine W_seq ?_
  refine W_region (by kernel_rfl) ?_
  refine sg [(5, .pointer (some ⟨w.heap.size, 0, none⟩))] (by kernel_rfl) ?_
  refine st (by rfl) (S_val (v := .int .i64 W) (R_load (v := .int .i64 W) (by kernel_rfl) (by kernel_rfl) ((hB4.cell 0).trans rfl)) ?_)
  refine sg [(7, .bool (decide (W < 1))), (8, .bool (decide (W < 1)))] (by kernel_rfl) ?_
  cases hb5 : decide (W < 1)
  · replace hb5 : 1 ≤ W := (Int.not_lt.1 (of_decide_eq_false hb5))
    refine sg [(9, .pointer (some ⟨w.heap.size, 0, none⟩))] (by kernel_rfl) ?_
    refine st (by kernel_rfl) (S_val (v := .int .i64 W) (R_load (v := .int .i64 W) (by kernel_rfl) (by kernel_rfl) ((hB4.cell 0).trans rfl)) ?_)
    refine sg [(11, .int .i64 most), (12, .bool (decide (W > most))), (13, .bool (decide (W > most)))] (by kernel_rfl) ?_
    refine op_nil ?_
    refine W_cond (decide (W > most)) (by kernel_rfl) (by kernel_rfl) (fun hc6 => ?_) (fun hc6 => ?_)
    · replace hc6 : most < W := (of_decide_eq_true hc6)
      refine W_seq ?_
      refine W_fg [(0, .agg #[.int .i64 W, .int .u64 xa, .int .u64 xb, .int .u64 xi]), (1, .int .i64 most), (2, .pointer (some ⟨w.heap.size, 0, none⟩)), (4, .int .i64 0), (13, .bool (decide (W > most)))] (by kernel_rfl) fun ρ => ?_
      refine W_region (by kernel_rfl) ?_
      refine sg [(4, .int .i64 0)] (by kernel_rfl) ?_
      refine op_nil ?_
      refine W_ret ?_
      exact ⟨_, Res_of (v := .int .i64 0) (by kernel_rfl), ⟨by first | rfl | (exfalso; omega), hT0⟩⟩
    · replace hc6 : W ≤ most := (Int.not_lt.1 (of_decide_eq_false hc6))
      refine W_skip ?_
      refine W_seq ?_
      refine W_fg [(0, .agg #[.int .i64 W, .int .u64 xa, .int .u64 xb, .int .u64 xi]), (1, .int .i64 most), (2, .pointer (some ⟨w.heap.size, 0, none⟩)), (4, .int .i64 0), (13, .bool (decide (W > most)))] (by kernel_rfl) fun ρ => ?_
      refine W_region (by kernel_rfl) ?_
      refine sg [(4, .int .i64 1)] (by kernel_rfl) ?_
      refine op_nil ?_
      refine W_ret ?_
      exact ⟨_, Res_of (v := .int .i64 1) (by kernel_rfl), ⟨by first | rfl | (exfalso; omega), hT0⟩⟩
  · replace hb5 : W < 1 := (of_decide_eq_true hb5)
    refine sg [(9, undef), (10, undef), (11, undef), (12, undef), (13, .bool true)] (by kernel_rfl) ?_
    refine op_nil ?_
    refine W_cond true (by kernel_rfl) (by kernel_rfl) (fun _ => ?_) (fun h => nomatch h)
    refine W_seq ?_
    refine W_fg [(0, .agg #[.int .i64 W, .int .u64 xa, .int .u64 xb, .int .u64 xi]), (1, .int .i64 most), (2, .pointer (some ⟨w.heap.size, 0, none⟩)), (4, .int .i64 0), (13, .bool true)] (by kernel_rfl) fun ρ => ?_
    refine W_region (by kernel_rfl) ?_
    refine sg [(4, .int .i64 0)] (by kernel_rfl) ?_
    refine op_nil ?_
    refine W_ret ?_
    exact ⟨_, Res_of (v := .int .i64 0) (by kernel_rfl), ⟨by first | rfl | (exfalso; omega), hT0⟩⟩

set_option maxRecDepth 100000 in
theorem fits28_in (wd : Nat) (most : Int) (xa xb xi : Int) (w : World) (h : 1 ≤ (wd : Int) ∧ (wd : Int) ≤ most) : Ret Try.prog 28 [.agg #[.int .i64 ((wd : Nat) : Int), .int .u64 xa, .int .u64 xb, .int .u64 xi], .int .i64 most] w fun v w' => v = .int .i64 1 ∧ Tch N0 w w' := by
  refine enter Try.func28 rfl rfl ?_
  refine W_seq ?_
  refine W_region (by kernel_rfl) ?_
  refine st (by rfl) (S_new (v := .pointer (some ⟨w.heap.size, 0, none⟩)) (ob := .cells #[.int .i64 ((wd : Nat) : Int), .int .u64 xa, .int .u64 xb, .int .u64 xi] 46) (by kernel_rfl) fun w1 hT2 hs3 hB4 => ?_)
  replace hB4 : Blk w1 (w.heap.size) 46 [.int .i64 ((wd : Nat) : Int), .int .u64 xa, .int .u64 xb, .int .u64 xi] := hB4
  have hT0 := hT2
  refine sg [(4, .int .i64 0)] (by kernel_rfl) ?_
  refine op_nil ?_
  refine W_seq ?_
  refine W_seq ?_
  refine W_region (by kernel_rfl) ?_
  refine sg [(5, .pointer (some ⟨w.heap.size, 0, none⟩))] (by kernel_rfl) ?_
  refine st (by rfl) (S_val (v := .int .i64 ((wd : Nat) : Int)) (R_load (v := .int .i64 ((wd : Nat) : Int)) (by kernel_rfl) (by kernel_rfl) ((hB4.cell 0).trans rfl)) ?_)
  refine sg [(7, .bool (decide (((wd : Nat) : Int) < 1))), (8, .bool (decide (((wd : Nat) : Int) < 1)))] (by kernel_rfl) ?_
  cases hb5 : decide (((wd : Nat) : Int) < 1)
  · replace hb5 : 1 ≤ ((wd : Nat) : Int) := (Int.not_lt.1 (of_decide_eq_false hb5))
    refine sg [(9, .pointer (some ⟨w.heap.size, 0, none⟩))] (by kernel_rfl) ?_
    refine st (by kernel_rfl) (S_val (v := .int .i64 ((wd : Nat) : Int)) (R_load (v := .int .i64 ((wd : Nat) : Int)) (by kernel_rfl) (by kernel_rfl) ((hB4.cell 0).trans rfl)) ?_)
    refine sg [(11, .int .i64 most), (12, .bool (decide (((wd : Nat) : Int) > most))), (13, .bool (decide (((wd : Nat) : Int) > most)))] (by kernel_rfl) ?_
    refine op_nil ?_
    refine W_cond (decide (((wd : Nat) : Int) > most)) (by kernel_rfl) (by kernel_rfl) (fun hc6 => ?_) (fun hc6 => ?_)
    · replace hc6 : most < ((wd : Nat) : Int) := (of_decide_eq_true hc6)
      exfalso; omega
    · replace hc6 : ((wd : Nat) : Int) ≤ most := (Int.not_lt.1 (of_decide_eq_false hc6))
      refine W_skip ?_
      refine W_seq ?_
      refine W_fg [(0, .agg #[.int .i64 ((wd : Nat) : Int), .int .u64 xa, .int .u64 xb, .int .u64 xi]), (1, .int .i64 most), (2, .pointer (some ⟨w.heap.size, 0, none⟩)), (4, .int .i64 0), (13, .bool (decide (((wd : Nat) : Int) > most)))] (by kernel_rfl) fun ρ => ?_
      refine W_region (by kernel_rfl) ?_
      refine sg [(4, .int .i64 1)] (by kernel_rfl) ?_
      refine op_nil ?_
      refine W_ret ?_
      exact ⟨_, Res_of (v := .int .i64 1) (by kernel_rfl), ⟨rfl, hT0⟩⟩
  · replace hb5 : ((wd : Nat) : Int) < 1 := (of_decide_eq_true hb5)
    exfalso; omega

set_option maxRecDepth 100000 in
theorem ShiftMeans_big (W xa xb xi : Int)  (w : World) (h : W < 1 ∨ 40 < W) : Ret Try.prog 6 [.agg #[.int .i64 W, .int .u64 xa, .int .u64 xb, .int .u64 xi]] w fun v w' => v = .bool true ∧ Tch N0 w w' := by
  refine enter Try.func6 rfl rfl ?_
  refine W_seq ?_
  refine W_region (by kernel_rfl) ?_
  refine st (by rfl) (S_new (v := .pointer (some ⟨w.heap.size, 0, none⟩)) (ob := .cells #[.int .i64 W, .int .u64 xa, .int .u64 xb, .int .u64 xi] 46) (by kernel_rfl) fun w1 hT2 hs3 hB4 => ?_)
  replace hB4 : Blk w1 (w.heap.size) 46 [.int .i64 W, .int .u64 xa, .int .u64 xb, .int .u64 xi] := hB4
  have hT0 := hT2
  refine sg [(2, .bool false)] (by kernel_rfl) ?_
  refine op_nil ?_
  refine W_seq ?_
  refine W_seq ?_
  refine W_region (by kernel_rfl) ?_
  refine st (by rfl) (S_val (v := .agg #[.int .i64 W, .int .u64 xa, .int .u64 xb, .int .u64 xi]) (R_loadA [.int .i64 W, .int .u64 xa, .int .u64 xb, .int .u64 xi] (by kernel_rfl) (by kernel_rfl) (by kernel_rfl) (fun k u hk => by rw [hB4.cell]; exact get_part _ 0 _ k u rfl hk)) ?_)
  refine st (by rfl) (S_call (args := [.agg #[.int .i64 W, .int .u64 xa, .int .u64 xb, .int .u64 xi], .int .i64 40]) (by kernel_rfl) (fits28_big W 40 xa xb xi _ (by omega)) ?_)
  rintro _ w5 ⟨rfl, hT6⟩
  have hT0 := hT0.t0 hT6
  have hB4 := hB4.tch0 hT6
  refine sg [(18, .bool true)] (by kernel_rfl) ?_
  refine op_nil ?_
  refine W_cond true (by kernel_rfl) (by kernel_rfl) (fun _ => ?_) (fun h => nomatch h)
  refine W_seq ?_
  refine W_region (by kernel_rfl) ?_
  refine st (by rfl) (S_call (args := []) (by kernel_rfl) (awake22_ok _) ?_)
  rintro _ w7 ⟨rfl, hT8⟩
  have hT0 := hT0.t0 hT8
  have hB4 := hB4.tch0 hT8
  refine sg [(2, .bool true)] (by kernel_rfl) ?_
  refine op_nil ?_
  refine W_ret ?_
  exact ⟨_, Res_of (v := .bool true) (by kernel_rfl), ⟨rfl, hT0⟩⟩

set_option maxRecDepth 100000 in
set_option maxHeartbeats 4000000 in
theorem ShiftMeans_in (wd xa xb ins : Nat)  (w : World) (h1 : 1 ≤ wd) (h2 : wd ≤ 40) (ha : xa < 18446744073709551616) (hb : xb < 18446744073709551616) : Ret Try.prog 6 [.agg #[.int .i64 ((wd : Nat) : Int), .int .u64 ((xa : Nat) : Int), .int .u64 ((xb : Nat) : Int), .int .u64 ((ins : Nat) : Int)]] w fun v w' => v = .bool true ∧ Tch N0 w w' := by
  refine enter Try.func6 rfl rfl ?_
  refine W_seq ?_
  refine W_region (by kernel_rfl) ?_
  refine st (by rfl) (S_new (v := .pointer (some ⟨w.heap.size, 0, none⟩)) (ob := .cells #[.int .i64 ((wd : Nat) : Int), .int .u64 ((xa : Nat) : Int), .int .u64 ((xb : Nat) : Int), .int .u64 ((ins : Nat) : Int)] 46) (by kernel_rfl) fun w1 hT2 hs3 hB4 => ?_)
  replace hB4 : Blk w1 (w.heap.size) 46 [.int .i64 ((wd : Nat) : Int), .int .u64 ((xa : Nat) : Int), .int .u64 ((xb : Nat) : Int), .int .u64 ((ins : Nat) : Int)] := hB4
  have hT0 := hT2
  refine sg [(2, .bool false)] (by kernel_rfl) ?_
  refine op_nil ?_
  refine W_seq ?_
  refine W_seq ?_
  refine W_region (by kernel_rfl) ?_
  refine st (by rfl) (S_val (v := .agg #[.int .i64 ((wd : Nat) : Int), .int .u64 ((xa : Nat) : Int), .int .u64 ((xb : Nat) : Int), .int .u64 ((ins : Nat) : Int)]) (R_loadA [.int .i64 ((wd : Nat) : Int), .int .u64 ((xa : Nat) : Int), .int .u64 ((xb : Nat) : Int), .int .u64 ((ins : Nat) : Int)] (by kernel_rfl) (by kernel_rfl) (by kernel_rfl) (fun k u hk => by rw [hB4.cell]; exact get_part _ 0 _ k u rfl hk)) ?_)
  refine st (by rfl) (S_call (args := [.agg #[.int .i64 ((wd : Nat) : Int), .int .u64 ((xa : Nat) : Int), .int .u64 ((xb : Nat) : Int), .int .u64 ((ins : Nat) : Int)], .int .i64 40]) (by kernel_rfl) (fits28_in wd 40 ((xa : Nat) : Int) ((xb : Nat) : Int) ((ins : Nat) : Int) _ (by omega)) ?_)
  rintro _ w5 ⟨rfl, hT6⟩
  have hT0 := hT0.t0 hT6
  have hB4 := hB4.tch0 hT6
  refine sg [(18, .bool false)] (by kernel_rfl) ?_
  refine op_nil ?_
  refine W_cond false (by kernel_rfl) (by kernel_rfl) (fun h => nomatch h) (fun _ => ?_)
  refine W_skip ?_
  refine W_seq ?_
  refine W_region (by kernel_rfl) ?_
  have hz_ := hT0.size
  have lt11 := hB4.lt
  refine st (by rfl) (S_call (args := []) (by kernel_rfl) (new_ok _) ?_)
  rintro _ w7 ⟨p9, F10, rfl, hG, hT8, hFb⟩
  have hT0 := hT0.t0 hT8
  have hB4 := hB4.tch0 hT8
  have nF_hB4 : ¬ F10 (w.heap.size) := fun e => by have := hFb _ e; omega
  replace hFb := fun b hb => Nat.le_trans hz_ (hFb b hb)
  refine sg [(3, .pointer (some ⟨p9, 0, none⟩))] (by kernel_rfl) ?_
  refine op_nil ?_
  refine W_seq ?_
  refine W_seq ?_
  refine W_region (by kernel_rfl) ?_
  refine sg [(21, .pointer (some ⟨p9, 0, none⟩)), (22, .bool false)] (by kernel_rfl) ?_
  refine op_nil ?_
  refine W_cond false (by kernel_rfl) (by kernel_rfl) (fun h => nomatch h) (fun _ => ?_)
  refine W_skip ?_
  refine W_seq ?_
  refine W_fg [(0, .agg #[.int .i64 ((wd : Nat) : Int), .int .u64 ((xa : Nat) : Int), .int .u64 ((xb : Nat) : Int), .int .u64 ((ins : Nat) : Int)]), (1, .pointer (some ⟨w.heap.size, 0, none⟩)), (2, .bool false), (3, .pointer (some ⟨p9, 0, none⟩)), (18, .bool false), (22, .bool false)] (by kernel_rfl) fun ρ => ?_
  refine W_region (by kernel_rfl) ?_
  refine sg [(24, .pointer (some ⟨p9, 0, none⟩)), (25, .pointer (some ⟨w.heap.size, 0, none⟩))] (by kernel_rfl) ?_
  refine st (by rfl) (S_val (v := .int .i64 ((wd : Nat) : Int)) (R_load (v := .int .i64 ((wd : Nat) : Int)) (by kernel_rfl) (by kernel_rfl) ((hB4.cell 0).trans rfl)) ?_)
  refine sg [(27, .pointer (some ⟨w.heap.size, 1, none⟩))] (by kernel_rfl) ?_
  refine st (by rfl) (S_val (v := .int .u64 ((xa : Nat) : Int)) (R_load (v := .int .u64 ((xa : Nat) : Int)) (by kernel_rfl) (by kernel_rfl) ((hB4.cell 1).trans rfl)) ?_)
  refine sg [(29, .pointer (some ⟨w.heap.size, 3, none⟩))] (by kernel_rfl) ?_
  refine st (by rfl) (S_val (v := .int .u64 ((ins : Nat) : Int)) (R_load (v := .int .u64 ((ins : Nat) : Int)) (by kernel_rfl) (by kernel_rfl) ((hB4.cell 3).trans rfl)) ?_)
  have hz_ := hT0.size
  have lt13 := hB4.lt
  refine st (by rfl) (S_call (args := [.pointer (some ⟨p9, 0, none⟩), .int .i64 ((wd : Nat) : Int), .int .u64 ((xa : Nat) : Int), .int .u64 ((ins : Nat) : Int)]) (by kernel_rfl) (row_ok F10 p9 1 wd ([[0]]) (fun _ => False) xa ins _ hG (by omega) (by omega) (by omega)) ?_)
  rintro _ w12 ⟨Fa, na, Ia, Ra, rca, Ha, hca, rowa, holda, rfl, hXa, hYa, gRa, gHa, hG, mva, hria, hda, aHa, hlla⟩
  have hT0 := (hT0).then mva.1 hFb
  have hB4 := hB4.tch mva.1 nF_hB4
  replace nF_hB4 : ¬ Fa (w.heap.size) := fun e => (mva.2 _ e).elim nF_hB4 (fun q => by omega)
  replace hFb := mva.ge hFb hz_
  have lt_hXa := hXa.lt
  have lt_hYa := hYa.lt
  have ge_hXa := gRa
  have ge_hYa := gHa
  have hle_hria := hria.le
  refine sg [(23, .tuple #[.slice Ra wd rca, .slice Ha holda.length hca]), (32, .slice Ra wd rca), (33, .slice Ha holda.length hca), (4, .slice Ra wd rca), (5, .slice Ha holda.length hca)] (by kernel_rfl) ?_
  refine op_nil ?_
  refine W_seq ?_
  refine W_fg [(0, .agg #[.int .i64 ((wd : Nat) : Int), .int .u64 ((xa : Nat) : Int), .int .u64 ((xb : Nat) : Int), .int .u64 ((ins : Nat) : Int)]), (1, .pointer (some ⟨w.heap.size, 0, none⟩)), (2, .bool false), (3, .pointer (some ⟨p9, 0, none⟩)), (4, .slice Ra wd rca), (5, .slice Ha holda.length hca), (18, .bool false), (22, .bool false)] (by kernel_rfl) fun ρ => ?_
  refine W_region (by kernel_rfl) ?_
  refine sg [(35, .pointer (some ⟨p9, 0, none⟩)), (36, .pointer (some ⟨w.heap.size, 0, none⟩))] (by kernel_rfl) ?_
  refine st (by rfl) (S_val (v := .int .i64 ((wd : Nat) : Int)) (R_load (v := .int .i64 ((wd : Nat) : Int)) (by kernel_rfl) (by kernel_rfl) ((hB4.cell 0).trans rfl)) ?_)
  refine sg [(38, .pointer (some ⟨w.heap.size, 2, none⟩))] (by kernel_rfl) ?_
  refine st (by rfl) (S_val (v := .int .u64 ((xb : Nat) : Int)) (R_load (v := .int .u64 ((xb : Nat) : Int)) (by kernel_rfl) (by kernel_rfl) ((hB4.cell 2).trans rfl)) ?_)
  refine sg [(40, .pointer (some ⟨w.heap.size, 3, none⟩))] (by kernel_rfl) ?_
  refine st (by rfl) (S_val (v := .int .u64 ((ins : Nat) : Int)) (R_load (v := .int .u64 ((ins : Nat) : Int)) (by kernel_rfl) (by kernel_rfl) ((hB4.cell 3).trans rfl)) ?_)
  refine sg [(42, .int .u64 (((ins : Nat) : Int).fdiv (2 ^ 5))), (43, .pointer (some ⟨w.heap.size, 3, none⟩))] (by kernel_rfl) ?_
  refine st (by rfl) (S_val (v := .int .u64 ((ins : Nat) : Int)) (R_load (v := .int .u64 ((ins : Nat) : Int)) (by kernel_rfl) (by kernel_rfl) ((hB4.cell 3).trans rfl)) ?_)
  refine sg [(45, .int .u64 (IntKind.u64.wrap (((ins : Nat) : Int) * 2 ^ 59)))] (by kernel_rfl) ?_
  obtain ⟨ib, hib⟩ := u64nat (BitVec.ofInt 64 (((ins : Nat) : Int).fdiv (2 ^ 5)) ||| BitVec.ofInt 64 (IntKind.u64.wrap (((ins : Nat) : Int) * 2 ^ 59))).toNat
  refine sg [(46, .int .u64 (IntKind.u64.wrap (BitVec.ofInt 64 (((ins : Nat) : Int).fdiv (2 ^ 5)) ||| BitVec.ofInt 64 (IntKind.u64.wrap (((ins : Nat) : Int) * 2 ^ 59))).toNat))] (by kernel_rfl) ?_
  rw [hib]
  have hz_ := hT0.size
  have lt15 := hB4.lt
  refine st (by rfl) (S_call (args := [.pointer (some ⟨p9, 0, none⟩), .int .i64 ((wd : Nat) : Int), .int .u64 ((xb : Nat) : Int), .int .u64 ((ib : Nat) : Int)]) (by kernel_rfl) (row_ok Fa p9 na wd ([[0]]) Ia xb ib _ hG (by omega) (by omega) (by omega)) ?_)
  rintro _ w14 ⟨Fb, nb, Ib, Rb, rcb, Hb, hcb, rowb, holdb, rfl, hXb, hYb, gRb, gHb, hG, mvb, hrib, hdb, aHb, hllb⟩
  have hT0 := (hT0).then mvb.1 hFb
  have hB4 := hB4.tch mvb.1 nF_hB4
  have hXa := hXa.mv mvb
  have hYa := hYa.mv mvb
  replace nF_hB4 : ¬ Fb (w.heap.size) := fun e => (mvb.2 _ e).elim nF_hB4 (fun q => by omega)
  replace hFb := mvb.ge hFb hz_
  have lt_hXb := hXb.lt
  have lt_hYb := hYb.lt
  have ge_hXb := gRb
  have ge_hYb := gHb
  have hle_hrib := hrib.le
  refine sg [(34, .tuple #[.slice Rb wd rcb, .slice Hb holdb.length hcb]), (48, .slice Rb wd rcb), (49, .slice Hb holdb.length hcb), (6, .slice Rb wd rcb), (7, .slice Hb holdb.length hcb)] (by kernel_rfl) ?_
  refine op_nil ?_
  refine W_seq ?_
  refine W_fg [(0, .agg #[.int .i64 ((wd : Nat) : Int), .int .u64 ((xa : Nat) : Int), .int .u64 ((xb : Nat) : Int), .int .u64 ((ins : Nat) : Int)]), (1, .pointer (some ⟨w.heap.size, 0, none⟩)), (2, .bool false), (3, .pointer (some ⟨p9, 0, none⟩)), (4, .slice Ra wd rca), (5, .slice Ha holda.length hca), (6, .slice Rb wd rcb), (7, .slice Hb holdb.length hcb), (18, .bool false), (22, .bool false)] (by kernel_rfl) fun ρ => ?_
  refine W_region (by kernel_rfl) ?_
  have hlt_ := hG.1.lt
  have lt20 := hB4.lt
  have lt_hXa := hXa.lt
  have lt_hYa := hYa.lt
  have lt_hXb := hXb.lt
  have lt_hYb := hYb.lt
  have z21 := hT0.size
  have l22 := hB4.lt
  refine st (by rfl) (S_new (v := .pointer (some ⟨w14.heap.size, 0, none⟩)) (ob := .cells #[.slice none 0 0, .slice none 0 0, .slice none 0 0] 51) (by kernel_rfl) fun w16 hT17 hs18 hB19 => ?_)
  replace hB19 : Blk w16 (w14.heap.size) 51 [.slice none 0 0, .slice none 0 0, .slice none 0 0] := hB19
  have hT0 := hT0.t0 hT17
  have hB4 := hB4.tch0 hT17
  have hG := hG.tch0 hT17
  have hXa := hXa.tch0 hT17
  have hYa := hYa.tch0 hT17
  have hXb := hXb.tch0 hT17
  have hYb := hYb.tch0 hT17
  have nF_hB19 : ¬ Fb (w14.heap.size) := fun e => by have := hlt_ _ e; omega
  refine op_nil ?_
  refine W_seq ?_
  refine W_seq ?_
  refine W_region (by kernel_rfl) ?_
  refine sg [(9, .int .i64 9)] (by kernel_rfl) ?_
  refine op_nil ?_
  refine W_block ?_
  refine W_un 5 ?_
  refine Un_s ?_
  refine W_seq ?_
  refine W_seq ?_
  refine W_region (by kernel_rfl) ?_
  refine sg [(50, .int .i64 9), (51, .bool true)] (by kernel_rfl) ?_
  refine op_nil ?_
  refine W_cond true (by kernel_rfl) (by kernel_rfl) (fun _ => ?_) (fun h => nomatch h)
  refine W_skip ?_
  refine W_seq ?_
  refine W_block ?_
  refine W_region (by kernel_rfl) ?_
  refine sg [(54, .int .i64 9), (55, .int .i64 0), (56, .pointer (some ⟨p9, 0, none⟩)), (57, .int .i64 9), (58, .slice Ra wd rca), (59, .slice Rb wd rcb)] (by kernel_rfl) ?_
  have hz_ := hT0.size
  have lt35 := hB4.lt
  have lt36 := hB19.lt
  refine st (by rfl) (S_call (args := [.pointer (some ⟨p9, 0, none⟩), .int .i64 9, .slice Ra wd rca, .slice Rb wd rcb]) (by kernel_rfl) (move9_ok Fb p9 nb wd rca rcb Ra Rb rowa rowb ([[0]]) Ib _ hG hXa hXb (fun j hj => by have := hria.fit j hj; omega) (fun j hj => by have := hrib.fit j hj; omega) (by omega) (by omega) (by omega)) ?_)
  rintro _ w23 ⟨F24, n25, cs26, g27, r28, rfl, hrl29, hX30, hg31, hG, mv32, hrw33, hd34⟩
  have hT0 := (hT0).then mv32.1 hFb
  have hB4 := hB4.tch mv32.1 nF_hB4
  have hXa := hXa.mv mv32
  have hYa := hYa.mv mv32
  have hXb := hXb.mv mv32
  have hYb := hYb.mv mv32
  have hB19 := hB19.tch mv32.1 nF_hB19
  replace nF_hB4 : ¬ F24 (w.heap.size) := fun e => (mv32.2 _ e).elim nF_hB4 (fun q => by omega)
  replace nF_hB19 : ¬ F24 (w14.heap.size) := fun e => (mv32.2 _ e).elim nF_hB19 (fun q => by omega)
  replace hFb := mv32.ge hFb hz_
  have lt_hX30 := hX30.lt
  have ge_hX30 : ∀ c, blkOf (some ⟨g27, 0, none⟩) = some c → _ ≤ c := fun c hc => by injection hc with hc; rw [← hc]; exact hg31
  have hle37 := hrw33.le
  refine stv (v := .pointer (some ⟨w14.heap.size, 0, none⟩)) (by rfl) (R_pure (by kernel_rfl)) ?_
  refine st (by rfl) (S_store (b := w14.heap.size) (j := 0) (v := .slice (some ⟨g27, 0, none⟩) wd wd) (by kernel_rfl) (by kernel_rfl) (by kernel_rfl) (by rfl) hB19 (by simp) fun w38 hT39 hs40 hB19' => ?_)
  have hT0 := (hT0).then hT39 (fun c e => by have : c = w14.heap.size := e; omega)
  have hB4 := hB4.tch hT39 (hB4.ne hB19 (by decide))
  have hG := hG.tchS hT39 (fun c e q => by cases e; exact nF_hB19 q)
  have hXa := hXa.st hT39 (fun c hc e => by have h1 := lt_hXa c hc; have h2 := ge_hXa c hc; have : c = w14.heap.size := e; omega)
  have hYa := hYa.st hT39 (fun c hc e => by have h1 := lt_hYa c hc; have h2 := ge_hYa c hc; have : c = w14.heap.size := e; omega)
  have hXb := hXb.st hT39 (fun c hc e => by have h1 := lt_hXb c hc; have h2 := ge_hXb c hc; have : c = w14.heap.size := e; omega)
  have hYb := hYb.st hT39 (fun c hc e => by have h1 := lt_hYb c hc; have h2 := ge_hYb c hc; have : c = w14.heap.size := e; omega)
  have hX30 := hX30.st hT39 (fun c hc e => by have h1 := lt_hX30 c hc; have h2 := ge_hX30 c hc; have : c = w14.heap.size := e; omega)
  replace hB19 : Blk w38 w14.heap.size 51 [.slice (some ⟨g27, 0, none⟩) wd wd, .slice none 0 0, .slice none 0 0] := hB19'
  refine op_nil ?_
  refine W_fg [(0, .agg #[.int .i64 ((wd : Nat) : Int), .int .u64 ((xa : Nat) : Int), .int .u64 ((xb : Nat) : Int), .int .u64 ((ins : Nat) : Int)]), (1, .pointer (some ⟨w.heap.size, 0, none⟩)), (2, .bool false), (3, .pointer (some ⟨p9, 0, none⟩)), (4, .slice Ra wd rca), (5, .slice Ha holda.length hca), (6, .slice Rb wd rcb), (7, .slice Hb holdb.length hcb), (8, .pointer (some ⟨w14.heap.size, 0, none⟩)), (9, .int .i64 9), (18, .bool false), (22, .bool false), (51, .bool true)] (by kernel_rfl) fun ρ => ?_
  refine W_region (by kernel_rfl) ?_
  refine sg [(52, .int .i64 9), (53, .int .i64 10), (9, .int .i64 10)] (by kernel_rfl) ?_
  refine op_nil ?_
  refine Un_s ?_
  refine W_seq ?_
  refine W_seq ?_
  refine W_region (by kernel_rfl) ?_
  refine sg [(50, .int .i64 10), (51, .bool true)] (by kernel_rfl) ?_
  refine op_nil ?_
  refine W_cond true (by kernel_rfl) (by kernel_rfl) (fun _ => ?_) (fun h => nomatch h)
  refine W_skip ?_
  refine W_seq ?_
  refine W_block ?_
  refine W_region (by kernel_rfl) ?_
  refine sg [(54, .int .i64 10), (55, .int .i64 1), (56, .pointer (some ⟨p9, 0, none⟩)), (57, .int .i64 10), (58, .slice Ra wd rca), (59, .slice Rb wd rcb)] (by kernel_rfl) ?_
  have hz_ := hT0.size
  have lt53 := hB4.lt
  have lt54 := hB19.lt
  refine st (by rfl) (S_call (args := [.pointer (some ⟨p9, 0, none⟩), .int .i64 10, .slice Ra wd rca, .slice Rb wd rcb]) (by kernel_rfl) (move10_ok F24 p9 n25 wd rca rcb Ra Rb rowa rowb cs26 Ib _ hG hXa hXb (fun j hj => by have := hria.fit j hj; omega) (fun j hj => by have := hrib.fit j hj; omega) (by omega) (by omega) (by omega)) ?_)
  rintro _ w41 ⟨F42, n43, cs44, g45, r46, rfl, hrl47, hX48, hg49, hG, mv50, hrw51, hd52⟩
  have hT0 := (hT0).then mv50.1 hFb
  have hB4 := hB4.tch mv50.1 nF_hB4
  have hXa := hXa.mv mv50
  have hYa := hYa.mv mv50
  have hXb := hXb.mv mv50
  have hYb := hYb.mv mv50
  have hB19 := hB19.tch mv50.1 nF_hB19
  have hX30 := hX30.mv mv50
  replace nF_hB4 : ¬ F42 (w.heap.size) := fun e => (mv50.2 _ e).elim nF_hB4 (fun q => by omega)
  replace nF_hB19 : ¬ F42 (w14.heap.size) := fun e => (mv50.2 _ e).elim nF_hB19 (fun q => by omega)
  replace hFb := mv50.ge hFb hz_
  have lt_hX48 := hX48.lt
  have ge_hX48 : ∀ c, blkOf (some ⟨g45, 0, none⟩) = some c → _ ≤ c := fun c hc => by injection hc with hc; rw [← hc]; exact hg49
  have hle55 := hrw51.le
  refine stv (v := .pointer (some ⟨w14.heap.size, 1, none⟩)) (by rfl) (R_pure (by kernel_rfl)) ?_
  refine st (by rfl) (S_store (b := w14.heap.size) (j := 1) (v := .slice (some ⟨g45, 0, none⟩) wd wd) (by kernel_rfl) (by kernel_rfl) (by kernel_rfl) (by rfl) hB19 (by simp) fun w56 hT57 hs58 hB19' => ?_)
  have hT0 := (hT0).then hT57 (fun c e => by have : c = w14.heap.size := e; omega)
  have hB4 := hB4.tch hT57 (hB4.ne hB19 (by decide))
  have hG := hG.tchS hT57 (fun c e q => by cases e; exact nF_hB19 q)
  have hXa := hXa.st hT57 (fun c hc e => by have h1 := lt_hXa c hc; have h2 := ge_hXa c hc; have : c = w14.heap.size := e; omega)
  have hYa := hYa.st hT57 (fun c hc e => by have h1 := lt_hYa c hc; have h2 := ge_hYa c hc; have : c = w14.heap.size := e; omega)
  have hXb := hXb.st hT57 (fun c hc e => by have h1 := lt_hXb c hc; have h2 := ge_hXb c hc; have : c = w14.heap.size := e; omega)
  have hYb := hYb.st hT57 (fun c hc e => by have h1 := lt_hYb c hc; have h2 := ge_hYb c hc; have : c = w14.heap.size := e; omega)
  have hX30 := hX30.st hT57 (fun c hc e => by have h1 := lt_hX30 c hc; have h2 := ge_hX30 c hc; have : c = w14.heap.size := e; omega)
  have hX48 := hX48.st hT57 (fun c hc e => by have h1 := lt_hX48 c hc; have h2 := ge_hX48 c hc; have : c = w14.heap.size := e; omega)
  replace hB19 : Blk w56 w14.heap.size 51 [.slice (some ⟨g27, 0, none⟩) wd wd, .slice (some ⟨g45, 0, none⟩) wd wd, .slice none 0 0] := hB19'
  refine op_nil ?_
  refine W_fg [(0, .agg #[.int .i64 ((wd : Nat) : Int), .int .u64 ((xa : Nat) : Int), .int .u64 ((xb : Nat) : Int), .int .u64 ((ins : Nat) : Int)]), (1, .pointer (some ⟨w.heap.size, 0, none⟩)), (2, .bool false), (3, .pointer (some ⟨p9, 0, none⟩)), (4, .slice Ra wd rca), (5, .slice Ha holda.length hca), (6, .slice Rb wd rcb), (7, .slice Hb holdb.length hcb), (8, .pointer (some ⟨w14.heap.size, 0, none⟩)), (9, .int .i64 10), (18, .bool false), (22, .bool false), (51, .bool true)] (by kernel_rfl) fun ρ => ?_
  refine W_region (by kernel_rfl) ?_
  refine sg [(52, .int .i64 10), (53, .int .i64 11), (9, .int .i64 11)] (by kernel_rfl) ?_
  refine op_nil ?_
  refine Un_s ?_
  refine W_seq ?_
  refine W_seq ?_
  refine W_region (by kernel_rfl) ?_
  refine sg [(50, .int .i64 11), (51, .bool true)] (by kernel_rfl) ?_
  refine op_nil ?_
  refine W_cond true (by kernel_rfl) (by kernel_rfl) (fun _ => ?_) (fun h => nomatch h)
  refine W_skip ?_
  refine W_seq ?_
  refine W_block ?_
  refine W_region (by kernel_rfl) ?_
  refine sg [(54, .int .i64 11), (55, .int .i64 2), (56, .pointer (some ⟨p9, 0, none⟩)), (57, .int .i64 11), (58, .slice Ra wd rca), (59, .slice Rb wd rcb)] (by kernel_rfl) ?_
  have hz_ := hT0.size
  have lt71 := hB4.lt
  have lt72 := hB19.lt
  refine st (by rfl) (S_call (args := [.pointer (some ⟨p9, 0, none⟩), .int .i64 11, .slice Ra wd rca, .slice Rb wd rcb]) (by kernel_rfl) (move11_ok F42 p9 n43 wd rca rcb Ra Rb rowa rowb cs44 Ib _ hG hXa hXb (fun j hj => by have := hria.fit j hj; omega) (fun j hj => by have := hrib.fit j hj; omega) (by omega) (by omega) (by omega)) ?_)
  rintro _ w59 ⟨F60, n61, cs62, g63, r64, rfl, hrl65, hX66, hg67, hG, mv68, hrw69, hd70⟩
  have hT0 := (hT0).then mv68.1 hFb
  have hB4 := hB4.tch mv68.1 nF_hB4
  have hXa := hXa.mv mv68
  have hYa := hYa.mv mv68
  have hXb := hXb.mv mv68
  have hYb := hYb.mv mv68
  have hB19 := hB19.tch mv68.1 nF_hB19
  have hX30 := hX30.mv mv68
  have hX48 := hX48.mv mv68
  replace nF_hB4 : ¬ F60 (w.heap.size) := fun e => (mv68.2 _ e).elim nF_hB4 (fun q => by omega)
  replace nF_hB19 : ¬ F60 (w14.heap.size) := fun e => (mv68.2 _ e).elim nF_hB19 (fun q => by omega)
  replace hFb := mv68.ge hFb hz_
  have lt_hX66 := hX66.lt
  have ge_hX66 : ∀ c, blkOf (some ⟨g63, 0, none⟩) = some c → _ ≤ c := fun c hc => by injection hc with hc; rw [← hc]; exact hg67
  have hle73 := hrw69.le
  refine stv (v := .pointer (some ⟨w14.heap.size, 2, none⟩)) (by rfl) (R_pure (by kernel_rfl)) ?_
  refine st (by rfl) (S_store (b := w14.heap.size) (j := 2) (v := .slice (some ⟨g63, 0, none⟩) wd wd) (by kernel_rfl) (by kernel_rfl) (by kernel_rfl) (by rfl) hB19 (by simp) fun w74 hT75 hs76 hB19' => ?_)
  have hT0 := (hT0).then hT75 (fun c e => by have : c = w14.heap.size := e; omega)
  have hB4 := hB4.tch hT75 (hB4.ne hB19 (by decide))
  have hG := hG.tchS hT75 (fun c e q => by cases e; exact nF_hB19 q)
  have hXa := hXa.st hT75 (fun c hc e => by have h1 := lt_hXa c hc; have h2 := ge_hXa c hc; have : c = w14.heap.size := e; omega)
  have hYa := hYa.st hT75 (fun c hc e => by have h1 := lt_hYa c hc; have h2 := ge_hYa c hc; have : c = w14.heap.size := e; omega)
  have hXb := hXb.st hT75 (fun c hc e => by have h1 := lt_hXb c hc; have h2 := ge_hXb c hc; have : c = w14.heap.size := e; omega)
  have hYb := hYb.st hT75 (fun c hc e => by have h1 := lt_hYb c hc; have h2 := ge_hYb c hc; have : c = w14.heap.size := e; omega)
  have hX30 := hX30.st hT75 (fun c hc e => by have h1 := lt_hX30 c hc; have h2 := ge_hX30 c hc; have : c = w14.heap.size := e; omega)
  have hX48 := hX48.st hT75 (fun c hc e => by have h1 := lt_hX48 c hc; have h2 := ge_hX48 c hc; have : c = w14.heap.size := e; omega)
  have hX66 := hX66.st hT75 (fun c hc e => by have h1 := lt_hX66 c hc; have h2 := ge_hX66 c hc; have : c = w14.heap.size := e; omega)
  replace hB19 : Blk w74 w14.heap.size 51 [.slice (some ⟨g27, 0, none⟩) wd wd, .slice (some ⟨g45, 0, none⟩) wd wd, .slice (some ⟨g63, 0, none⟩) wd wd] := hB19'
  refine op_nil ?_
  refine W_fg [(0, .agg #[.int .i64 ((wd : Nat) : Int), .int .u64 ((xa : Nat) : Int), .int .u64 ((xb : Nat) : Int), .int .u64 ((ins : Nat) : Int)]), (1, .pointer (some ⟨w.heap.size, 0, none⟩)), (2, .bool false), (3, .pointer (some ⟨p9, 0, none⟩)), (4, .slice Ra wd rca), (5, .slice Ha holda.length hca), (6, .slice Rb wd rcb), (7, .slice Hb holdb.length hcb), (8, .pointer (some ⟨w14.heap.size, 0, none⟩)), (9, .int .i64 11), (18, .bool false), (22, .bool false), (51, .bool true)] (by kernel_rfl) fun ρ => ?_
  refine W_region (by kernel_rfl) ?_
  refine sg [(52, .int .i64 11), (53, .int .i64 12), (9, .int .i64 12)] (by kernel_rfl) ?_
  refine op_nil ?_
  refine Un_s ?_
  refine W_seq ?_
  refine W_seq ?_
  refine W_region (by kernel_rfl) ?_
  refine sg [(50, .int .i64 12), (51, .bool false)] (by kernel_rfl) ?_
  refine op_nil ?_
  refine W_cond false (by kernel_rfl) (by kernel_rfl) (fun h => nomatch h) (fun _ => ?_)
  refine W_exit ?_
  refine X_hit ?_
  refine W_seq ?_
  refine W_region (by kernel_rfl) ?_
  have hlt_ := hG.1.lt
  have lt81 := hB4.lt
  have lt82 := hB19.lt
  have lt_hXa := hXa.lt
  have lt_hYa := hYa.lt
  have lt_hXb := hXb.lt
  have lt_hYb := hYb.lt
  have lt_hX30 := hX30.lt
  have lt_hX48 := hX48.lt
  have lt_hX66 := hX66.lt
  have z83 := hT0.size
  have l84 := hB4.lt
  have l85 := hB19.lt
  refine st (by rfl) (S_new (v := .slice (some ⟨w74.heap.size, 0, none⟩) 0 0) (ob := .cells #[] 3) (by kernel_rfl) fun w77 hT78 hs79 hB80 => ?_)
  replace hB80 : Blk w77 (w74.heap.size) 3 [] := hB80
  have hT0 := hT0.t0 hT78
  have hB4 := hB4.tch0 hT78
  have hG := hG.tch0 hT78
  have hXa := hXa.tch0 hT78
  have hYa := hYa.tch0 hT78
  have hXb := hXb.tch0 hT78
  have hYb := hYb.tch0 hT78
  have hB19 := hB19.tch0 hT78
  have hX30 := hX30.tch0 hT78
  have hX48 := hX48.tch0 hT78
  have hX66 := hX66.tch0 hT78
  have nF_hB80 : ¬ F60 (w74.heap.size) := fun e => by have := hlt_ _ e; omega
  refine sg [(63, .slice Ha holda.length hca)] (by kernel_rfl) ?_
  have hHk := hB80.own0
  have nB_hHk : ∀ c, (Value.slice (some ⟨w74.heap.size, 0, none⟩) 0 0).ownBlock = some c → w74.heap.size ≤ c := fun c q => by have e : w74.heap.size = c := (by injection q); omega
  have nF_hHk : ∀ c, (Value.slice (some ⟨w74.heap.size, 0, none⟩) 0 0).ownBlock = some c → ¬ F60 c := fun c q e => by have e2 : w74.heap.size = c := (by injection q); have := hlt_ _ e; omega
  refine st (by rfl) (S_appendX 27 3 (.int .i64 0) 8 (n := 0) (m := holda.length) (A := some ⟨w74.heap.size, 0, none⟩) (B := Ha) (cp := 0) (c := hca) (cells := []) (news := nats holda) (by kernel_rfl) (by kernel_rfl) (by kernel_rfl) (by kernel_rfl) (by kernel_rfl) hHk hYa.1 (fun _ => aHa) (nats_oneV _) (by simp only [maxLen]; omega) (by omega) fun A86 cp87 w88 hHl hw89 hT90 => ?_)
  have hT0 := (hT0).then hT90 (fun c e => by have := nB_hHk c e; omega)
  have hB4 := hB4.tch hT90 (fun e => hHk.blk_ne hB4 (by decide) _ e rfl)
  have hG := hG.tchS hT90 (fun c e => nF_hHk c e)
  have hXa := hXa.st hT90 (fun c hc e => by have h1 := lt_hXa c hc; have h2 := nB_hHk c e; omega)
  have hYa := hYa.st hT90 (fun c hc e => by have h1 := lt_hYa c hc; have h2 := nB_hHk c e; omega)
  have hXb := hXb.st hT90 (fun c hc e => by have h1 := lt_hXb c hc; have h2 := nB_hHk c e; omega)
  have hYb := hYb.st hT90 (fun c hc e => by have h1 := lt_hYb c hc; have h2 := nB_hHk c e; omega)
  have hB19 := hB19.tch hT90 (fun e => hHk.blk_ne hB19 (by decide) _ e rfl)
  have hX30 := hX30.st hT90 (fun c hc e => by have h1 := lt_hX30 c hc; have h2 := nB_hHk c e; omega)
  have hX48 := hX48.st hT90 (fun c hc e => by have h1 := lt_hX48 c hc; have h2 := nB_hHk c e; omega)
  have hX66 := hX66.st hT90 (fun c hc e => by have h1 := lt_hX66 c hc; have h2 := nB_hHk c e; omega)
  have hsz91 := hT90.size
  have nB_hHl : ∀ c, (Value.slice A86 (0 + holda.length) cp87).ownBlock = some c → w74.heap.size ≤ c := fun c q => (hw89 c q).elim (nB_hHk c) (fun q => by omega)
  have nF_hHl : ∀ c, (Value.slice A86 (0 + holda.length) cp87).ownBlock = some c → ¬ F60 c := fun c q e => by have := nB_hHl c q; have := hlt_ _ e; omega
  refine sg [(65, .slice Hb holdb.length hcb)] (by kernel_rfl) ?_
  refine st (by rfl) (S_appendX 27 3 (.int .i64 0) 8 (n := 0 + holda.length) (m := holdb.length) (A := A86) (B := Hb) (cp := cp87) (c := hcb) (cells := ([] ++ nats holda)) (news := nats holdb) (by kernel_rfl) (by kernel_rfl) (by kernel_rfl) (by kernel_rfl) (by kernel_rfl) hHl hYb.1 (fun _ => aHb) (nats_oneV _) (by simp only [maxLen]; omega) (by omega) fun A92 cp93 w94 hHm hw95 hT96 => ?_)
  have hT0 := (hT0).then hT96 (fun c e => by have := nB_hHl c e; omega)
  have hB4 := hB4.tch hT96 (fun e => hHl.blk_ne hB4 (by decide) _ e rfl)
  have hG := hG.tchS hT96 (fun c e => nF_hHl c e)
  have hXa := hXa.st hT96 (fun c hc e => by have h1 := lt_hXa c hc; have h2 := nB_hHl c e; omega)
  have hYa := hYa.st hT96 (fun c hc e => by have h1 := lt_hYa c hc; have h2 := nB_hHl c e; omega)
  have hXb := hXb.st hT96 (fun c hc e => by have h1 := lt_hXb c hc; have h2 := nB_hHl c e; omega)
  have hYb := hYb.st hT96 (fun c hc e => by have h1 := lt_hYb c hc; have h2 := nB_hHl c e; omega)
  have hB19 := hB19.tch hT96 (fun e => hHl.blk_ne hB19 (by decide) _ e rfl)
  have hX30 := hX30.st hT96 (fun c hc e => by have h1 := lt_hX30 c hc; have h2 := nB_hHl c e; omega)
  have hX48 := hX48.st hT96 (fun c hc e => by have h1 := lt_hX48 c hc; have h2 := nB_hHl c e; omega)
  have hX66 := hX66.st hT96 (fun c hc e => by have h1 := lt_hX66 c hc; have h2 := nB_hHl c e; omega)
  have hsz97 := hT96.size
  have nB_hHm : ∀ c, (Value.slice A92 (0 + holda.length + holdb.length) cp93).ownBlock = some c → w74.heap.size ≤ c := fun c q => (hw95 c q).elim (nB_hHl c) (fun q => by omega)
  have nF_hHm : ∀ c, (Value.slice A92 (0 + holda.length + holdb.length) cp93).ownBlock = some c → ¬ F60 c := fun c q e => by have := nB_hHm c q; have := hlt_ _ e; omega
  refine sg [(10, .slice A92 (0 + holda.length + holdb.length) cp93)] (by kernel_rfl) ?_
  refine op_nil ?_
  refine W_seq ?_
  refine W_fg [(0, .agg #[.int .i64 ((wd : Nat) : Int), .int .u64 ((xa : Nat) : Int), .int .u64 ((xb : Nat) : Int), .int .u64 ((ins : Nat) : Int)]), (1, .pointer (some ⟨w.heap.size, 0, none⟩)), (2, .bool false), (3, .pointer (some ⟨p9, 0, none⟩)), (4, .slice Ra wd rca), (5, .slice Ha holda.length hca), (6, .slice Rb wd rcb), (7, .slice Hb holdb.length hcb), (8, .pointer (some ⟨w14.heap.size, 0, none⟩)), (9, .int .i64 12), (10, .slice A92 (0 + holda.length + holdb.length) cp93), (18, .bool false), (22, .bool false), (51, .bool false)] (by kernel_rfl) fun ρ => ?_
  refine W_region (by kernel_rfl) ?_
  refine sg [(68, .pointer (some ⟨p9, 0, none⟩)), (69, .slice A92 (0 + holda.length + holdb.length) cp93)] (by kernel_rfl) ?_
  refine st (by rfl) (S_call (args := [.pointer (some ⟨p9, 0, none⟩), .slice A92 (0 + holda.length + holdb.length) cp93]) (by kernel_rfl) (close_ok F60 p9 n61 (0 + holda.length + holdb.length) cp93 cs62 Ib A92 (holda ++ holdb) (fun v => decide (2 * v ∈ holda ++ holdb)) _ hG (by omega) (by have q := hHm.rd1; rw [List.nil_append, ← nats_append] at q; exact q) (two_in hria hrib) (two_fit hria hrib)) ?_)
  rintro _ w98 ⟨K, J, ck, cj, kn, tr, be, rfl, hK0, hJ0, hmod, hbt, hall, hTC⟩
  have hT0 := hT0.t0 hTC
  have hB4 := hB4.tch0 hTC
  have hG := hG.tch0 hTC
  have hXa := hXa.tch0 hTC
  have hYa := hYa.tch0 hTC
  have hXb := hXb.tch0 hTC
  have hYb := hYb.tch0 hTC
  have hB19 := hB19.tch0 hTC
  have hX30 := hX30.tch0 hTC
  have hX48 := hX48.tch0 hTC
  have hX66 := hX66.tch0 hTC
  have hHm := hHm.tch0 hTC
  have hTK := Tch.refl N0 w98
  have hK := hK0
  have hJ := hJ0
  have hmd3 := hmod
  have hmd2 := hmd3.sub hrw69.sub
  have hmd1 := hmd2.sub hrw51.sub
  have hmd0 := hmd1.sub hrw33.sub
  have hva := (two_says hria hrib hmd0 hmd0 hbt).1
  have hvb := (two_says hria hrib hmd0 hmd0 hbt).2
  refine sg [(67, .tuple #[.agg #[.slice K n61 ck, .slice J n61 cj], .int .i64 1]), (71, .agg #[.slice K n61 ck, .slice J n61 cj]), (72, .int .i64 1)] (by kernel_rfl) ?_
  have hz103 := hTK.size
  have hlt_ := hG.1.lt
  have lt104 := hB4.lt
  have lt105 := hB19.lt
  have lt_hXa := hXa.lt
  have lt_hYa := hYa.lt
  have lt_hXb := hXb.lt
  have lt_hYb := hYb.lt
  have lt_hX30 := hX30.lt
  have lt_hX48 := hX48.lt
  have lt_hX66 := hX66.lt
  have z106 := hT0.size
  have l107 := hB4.lt
  have l108 := hB19.lt
  refine st (by rfl) (S_new (v := .pointer (some ⟨w98.heap.size, 0, none⟩)) (ob := .cells #[.slice none 0 0, .slice none 0 0] 54) (by kernel_rfl) fun w99 hT100 hs101 hB102 => ?_)
  replace hB102 : Blk w99 (w98.heap.size) 54 [.slice none 0 0, .slice none 0 0] := hB102
  have hT0 := hT0.t0 hT100
  have hB4 := hB4.tch0 hT100
  have hG := hG.tch0 hT100
  have hXa := hXa.tch0 hT100
  have hYa := hYa.tch0 hT100
  have hXb := hXb.tch0 hT100
  have hYb := hYb.tch0 hT100
  have hB19 := hB19.tch0 hT100
  have hX30 := hX30.tch0 hT100
  have hX48 := hX48.tch0 hT100
  have hX66 := hX66.tch0 hT100
  have hHm := hHm.tch0 hT100
  have hTK := hTK.t0 hT100
  have hK := hK0.tch0 hTK
  have hJ := hJ0.tch0 hTK
  have nF_hB102 : ¬ F60 (w98.heap.size) := fun e => by have := hlt_ _ e; omega
  refine st (by rfl) (S_storeA (b := w98.heap.size) (j := 0) (cs := [.slice K n61 ck, .slice J n61 cj]) (by kernel_rfl) (by kernel_rfl) (by kernel_rfl) (by simp [oneV]) hB102 (by simp) fun w109 hT110 hs111 hB102' => ?_)
  have hT0 := (hT0).then hT110 (fun c e => by have : c = w98.heap.size := e; omega)
  have hB4 := hB4.tch hT110 (hB4.ne hB102 (by decide))
  have hG := hG.tchS hT110 (fun c e q => by cases e; exact nF_hB102 q)
  have hXa := hXa.st hT110 (fun c hc e => by have h1 := lt_hXa c hc; have h2 := ge_hXa c hc; have : c = w98.heap.size := e; omega)
  have hYa := hYa.st hT110 (fun c hc e => by have h1 := lt_hYa c hc; have h2 := ge_hYa c hc; have : c = w98.heap.size := e; omega)
  have hXb := hXb.st hT110 (fun c hc e => by have h1 := lt_hXb c hc; have h2 := ge_hXb c hc; have : c = w98.heap.size := e; omega)
  have hYb := hYb.st hT110 (fun c hc e => by have h1 := lt_hYb c hc; have h2 := ge_hYb c hc; have : c = w98.heap.size := e; omega)
  have hB19 := hB19.tch hT110 (hB19.ne hB102 (by decide))
  have hX30 := hX30.st hT110 (fun c hc e => by have h1 := lt_hX30 c hc; have h2 := ge_hX30 c hc; have : c = w98.heap.size := e; omega)
  have hX48 := hX48.st hT110 (fun c hc e => by have h1 := lt_hX48 c hc; have h2 := ge_hX48 c hc; have : c = w98.heap.size := e; omega)
  have hX66 := hX66.st hT110 (fun c hc e => by have h1 := lt_hX66 c hc; have h2 := ge_hX66 c hc; have : c = w98.heap.size := e; omega)
  have hHm := hHm.tch hT110 (fun c hc e => hHm.blk_ne hB102 (by decide) c hc e)
  have hTK := hTK.then hT110 (fun c e => by have : c = w98.heap.size := e; omega)
  have hK := hK0.tch0 hTK
  have hJ := hJ0.tch0 hTK
  replace hB102 : Blk w109 w98.heap.size 54 [.slice K n61 ck, .slice J n61 cj] := hB102'
  refine sg [(12, .int .i64 1)] (by kernel_rfl) ?_
  refine op_nil ?_
  refine W_seq ?_
  refine W_seq ?_
  refine W_fg [(0, .agg #[.int .i64 ((wd : Nat) : Int), .int .u64 ((xa : Nat) : Int), .int .u64 ((xb : Nat) : Int), .int .u64 ((ins : Nat) : Int)]), (1, .pointer (some ⟨w.heap.size, 0, none⟩)), (2, .bool false), (3, .pointer (some ⟨p9, 0, none⟩)), (4, .slice Ra wd rca), (5, .slice Ha holda.length hca), (6, .slice Rb wd rcb), (7, .slice Hb holdb.length hcb), (8, .pointer (some ⟨w14.heap.size, 0, none⟩)), (9, .int .i64 12), (10, .slice A92 (0 + holda.length + holdb.length) cp93), (11, .pointer (some ⟨w98.heap.size, 0, none⟩)), (12, .int .i64 1), (18, .bool false), (22, .bool false), (51, .bool false)] (by kernel_rfl) fun ρ => ?_
  refine W_region (by kernel_rfl) ?_
  refine sg [(73, .int .i64 1), (74, .bool false)] (by kernel_rfl) ?_
  refine op_nil ?_
  refine W_cond false (by kernel_rfl) (by kernel_rfl) (fun h => nomatch h) (fun _ => ?_)
  refine W_skip ?_
  refine W_seq ?_
  refine W_seq ?_
  refine W_region (by kernel_rfl) ?_
  refine sg [(13, .int .i64 9)] (by kernel_rfl) ?_
  refine op_nil ?_
  refine W_block ?_
  refine W_un 5 ?_
  refine Un_s ?_
  refine W_seq ?_
  refine W_seq ?_
  refine W_region (by kernel_rfl) ?_
  refine sg [(75, .int .i64 9), (76, .bool true)] (by kernel_rfl) ?_
  refine op_nil ?_
  refine W_cond true (by kernel_rfl) (by kernel_rfl) (fun _ => ?_) (fun h => nomatch h)
  refine W_skip ?_
  refine W_seq ?_
  refine W_block ?_
  refine W_seq ?_
  refine W_region (by kernel_rfl) ?_
  refine sg [(80, .int .i64 9), (81, .pointer (some ⟨w.heap.size, 0, none⟩))] (by kernel_rfl) ?_
  refine st (by rfl) (S_val (v := .int .i64 ((wd : Nat) : Int)) (R_load (v := .int .i64 ((wd : Nat) : Int)) (by kernel_rfl) (by kernel_rfl) ((hB4.cell 0).trans rfl)) ?_)
  refine sg [(83, .pointer (some ⟨w.heap.size, 1, none⟩))] (by kernel_rfl) ?_
  refine st (by rfl) (S_val (v := .int .u64 ((xa : Nat) : Int)) (R_load (v := .int .u64 ((xa : Nat) : Int)) (by kernel_rfl) (by kernel_rfl) ((hB4.cell 1).trans rfl)) ?_)
  refine sg [(85, .pointer (some ⟨w.heap.size, 2, none⟩))] (by kernel_rfl) ?_
  refine st (by rfl) (S_val (v := .int .u64 ((xb : Nat) : Int)) (R_load (v := .int .u64 ((xb : Nat) : Int)) (by kernel_rfl) (by kernel_rfl) ((hB4.cell 2).trans rfl)) ?_)
  refine st (by rfl) (S_call (args := [.int .i64 9, .int .i64 ((wd : Nat) : Int), .int .u64 ((xa : Nat) : Int), .int .u64 ((xb : Nat) : Int)]) (by kernel_rfl) (rbin9_ok wd xa xb _ (by omega) (by omega) (by omega) (by omega)) ?_)
  rintro _ w112 ⟨rfl, hT113⟩
  have hT0 := hT0.t0 hT113
  have hB4 := hB4.tch0 hT113
  have hG := hG.tch0 hT113
  have hXa := hXa.tch0 hT113
  have hYa := hYa.tch0 hT113
  have hXb := hXb.tch0 hT113
  have hYb := hYb.tch0 hT113
  have hB19 := hB19.tch0 hT113
  have hX30 := hX30.tch0 hT113
  have hX48 := hX48.tch0 hT113
  have hX66 := hX66.tch0 hT113
  have hHm := hHm.tch0 hT113
  have hTK := hTK.t0 hT113
  have hK := hK0.tch0 hTK
  have hJ := hJ0.tch0 hTK
  have hB102 := hB102.tch0 hT113
  refine sg [(79, .tuple #[.int .u64 ((bval wd (mvB true wd (fun j => (cutN wd xa).testBit j) false (cutN wd xb)) : Nat) : Int), .int .i64 0]), (88, .int .u64 ((bval wd (mvB true wd (fun j => (cutN wd xa).testBit j) false (cutN wd xb)) : Nat) : Int)), (89, .int .i64 0), (14, .int .u64 ((bval wd (mvB true wd (fun j => (cutN wd xa).testBit j) false (cutN wd xb)) : Nat) : Int)), (15, .int .i64 0)] (by kernel_rfl) ?_
  refine op_nil ?_
  refine W_seq ?_
  refine W_fg [(0, .agg #[.int .i64 ((wd : Nat) : Int), .int .u64 ((xa : Nat) : Int), .int .u64 ((xb : Nat) : Int), .int .u64 ((ins : Nat) : Int)]), (1, .pointer (some ⟨w.heap.size, 0, none⟩)), (2, .bool false), (3, .pointer (some ⟨p9, 0, none⟩)), (4, .slice Ra wd rca), (5, .slice Ha holda.length hca), (6, .slice Rb wd rcb), (7, .slice Hb holdb.length hcb), (8, .pointer (some ⟨w14.heap.size, 0, none⟩)), (9, .int .i64 12), (10, .slice A92 (0 + holda.length + holdb.length) cp93), (11, .pointer (some ⟨w98.heap.size, 0, none⟩)), (12, .int .i64 1), (13, .int .i64 9), (14, .int .u64 ((bval wd (mvB true wd (fun j => (cutN wd xa).testBit j) false (cutN wd xb)) : Nat) : Int)), (18, .bool false), (22, .bool false), (51, .bool false), (74, .bool false), (76, .bool true)] (by kernel_rfl) fun ρ => ?_
  refine W_draw (fun w' => Blk w' (w98.heap.size) 54 [.slice K n61 ck, .slice J n61 cj] ∧ Blk w' (w14.heap.size) 51 [.slice (some ⟨g27, 0, none⟩) wd wd, .slice (some ⟨g45, 0, none⟩) wd wd, .slice (some ⟨g63, 0, none⟩) wd wd] ∧ Blk w' (w.heap.size) 46 [.int .i64 ((wd : Nat) : Int), .int .u64 ((xa : Nat) : Int), .int .u64 ((xb : Nat) : Int), .int .u64 ((ins : Nat) : Int)]) (by kernel_rfl) (by kernel_rfl) (by kernel_rfl) fun w114 hT115 hh116 => ?_
  have hT0 := hT0.t0 hT115
  have hB4 := hB4.tch0 hT115
  have hG := hG.tch0 hT115
  have hXa := hXa.tch0 hT115
  have hYa := hYa.tch0 hT115
  have hXb := hXb.tch0 hT115
  have hYb := hYb.tch0 hT115
  have hB19 := hB19.tch0 hT115
  have hX30 := hX30.tch0 hT115
  have hX48 := hX48.tch0 hT115
  have hX66 := hX66.tch0 hT115
  have hHm := hHm.tch0 hT115
  have hTK := hTK.t0 hT115
  have hK := hK0.tch0 hTK
  have hJ := hJ0.tch0 hTK
  have hB102 := hB102.tch0 hT115
  refine dtk [1, 5, 7, 2] #[false, true, true, false, false, true, false, true, false, false] [(91, .int .i64 9), (95, .pointer (some ⟨w.heap.size, 0, none⟩)), (97, .int .u64 ((bval wd (mvB true wd (fun j => (cutN wd xa).testBit j) false (cutN wd xb)) : Nat) : Int)), (92, .int .i64 0)] ⟨hB102, hB19, hB4⟩ (by kernel_rfl) ?_
  refine d_val (v := .agg #[.slice K n61 ck, .slice J n61 cj]) 0 (by rfl) (by kernel_rfl) (by kernel_rfl) (by kernel_rfl) (fun w' hs => by obtain ⟨hB102, hB19, hB4⟩ := hs; exact R_loadA [.slice K n61 ck, .slice J n61 cj] (by kernel_rfl) (by kernel_rfl) (by kernel_rfl) (fun k u hk => by rw [hB102.cell]; exact get_part _ 0 _ k u rfl hk)) ⟨hB102, hB19, hB4⟩ ?_
  refine d_val (v := .pointer (some ⟨w14.heap.size, 0, none⟩)) 3 (by rfl) (by kernel_rfl) (by kernel_rfl) (by kernel_rfl) (fun w' hs => by obtain ⟨hB102, hB19, hB4⟩ := hs; exact R_pure (by kernel_rfl)) ⟨hB102, hB19, hB4⟩ ?_
  refine d_val (v := .slice (some ⟨g27, 0, none⟩) wd wd) 4 (by rfl) (by kernel_rfl) (by kernel_rfl) (by kernel_rfl) (fun w' hs => by obtain ⟨hB102, hB19, hB4⟩ := hs; exact R_load (v := .slice (some ⟨g27, 0, none⟩) wd wd) (by kernel_rfl) (by kernel_rfl) ((hB19.cell 0).trans rfl)) ⟨hB102, hB19, hB4⟩ ?_
  refine d_val (v := .int .i64 ((wd : Nat) : Int)) 6 (by rfl) (by kernel_rfl) (by kernel_rfl) (by kernel_rfl) (fun w' hs => by obtain ⟨hB102, hB19, hB4⟩ := hs; exact R_load (v := .int .i64 ((wd : Nat) : Int)) (by kernel_rfl) (by kernel_rfl) ((hB4.cell 0).trans rfl)) ⟨hB102, hB19, hB4⟩ ?_
  refine d_one 8 (by kernel_rfl) (by rfl) (by kernel_rfl) (S_call (args := [.agg #[.slice K n61 ck, .slice J n61 cj], .slice (some ⟨g27, 0, none⟩) wd wd, .int .i64 ((wd : Nat) : Int), .int .u64 ((bval wd (mvB true wd (fun j => (cutN wd xa).testBit j) false (cutN wd xb)) : Nat) : Int)]) (by kernel_rfl) (is_ok n61 wd wd K J (some ⟨g27, 0, none⟩) ck cj kn tr r28 be (bval wd (mvB true wd (fun j => (cutN wd xa).testBit j) false (cutN wd xb))) _ hK hJ hX30.1 (by omega) hall (fun j hj => by have := hrw33.fit j hj; omega) (by omega) (by omega) (by first | omega | exact bval_u (by omega)) (move_says (fun j hj => hrw33.val be hmd1 j hj) hva hvb rfl)) ?_)
  rintro _ w117 ⟨rfl, hT118⟩
  have hT0 := hT0.t0 hT118
  have hB4 := hB4.tch0 hT118
  have hG := hG.tch0 hT118
  have hXa := hXa.tch0 hT118
  have hYa := hYa.tch0 hT118
  have hXb := hXb.tch0 hT118
  have hYb := hYb.tch0 hT118
  have hB19 := hB19.tch0 hT118
  have hX30 := hX30.tch0 hT118
  have hX48 := hX48.tch0 hT118
  have hX66 := hX66.tch0 hT118
  have hHm := hHm.tch0 hT118
  have hTK := hTK.t0 hT118
  have hK := hK0.tch0 hTK
  have hJ := hJ0.tch0 hTK
  have hB102 := hB102.tch0 hT118
  refine ⟨⟨hB102, hB19, hB4⟩, ?_⟩
  refine dtk [9] #[true, true, true, true, true, true, true, true, true, true] [(99, .bool false)] ⟨hB102, hB19, hB4⟩ (by kernel_rfl) ?_
  refine d_done (by kernel_rfl) ?_
  refine W_cond false (by kernel_rfl) (by kernel_rfl) (fun h => nomatch h) (fun _ => ?_)
  refine W_skip ?_
  refine W_fg [(0, .agg #[.int .i64 ((wd : Nat) : Int), .int .u64 ((xa : Nat) : Int), .int .u64 ((xb : Nat) : Int), .int .u64 ((ins : Nat) : Int)]), (1, .pointer (some ⟨w.heap.size, 0, none⟩)), (2, .bool false), (3, .pointer (some ⟨p9, 0, none⟩)), (4, .slice Ra wd rca), (5, .slice Ha holda.length hca), (6, .slice Rb wd rcb), (7, .slice Hb holdb.length hcb), (8, .pointer (some ⟨w14.heap.size, 0, none⟩)), (9, .int .i64 12), (10, .slice A92 (0 + holda.length + holdb.length) cp93), (11, .pointer (some ⟨w98.heap.size, 0, none⟩)), (12, .int .i64 1), (13, .int .i64 9), (14, .int .u64 ((bval wd (mvB true wd (fun j => (cutN wd xa).testBit j) false (cutN wd xb)) : Nat) : Int)), (18, .bool false), (22, .bool false), (51, .bool false), (74, .bool false), (76, .bool true), (99, .bool false)] (by kernel_rfl) fun ρ => ?_
  refine W_region (by kernel_rfl) ?_
  refine sg [(77, .int .i64 9), (78, .int .i64 10), (13, .int .i64 10)] (by kernel_rfl) ?_
  refine op_nil ?_
  refine Un_s ?_
  refine W_seq ?_
  refine W_seq ?_
  refine W_region (by kernel_rfl) ?_
  refine sg [(75, .int .i64 10), (76, .bool true)] (by kernel_rfl) ?_
  refine op_nil ?_
  refine W_cond true (by kernel_rfl) (by kernel_rfl) (fun _ => ?_) (fun h => nomatch h)
  refine W_skip ?_
  refine W_seq ?_
  refine W_block ?_
  refine W_seq ?_
  refine W_region (by kernel_rfl) ?_
  refine sg [(80, .int .i64 10), (81, .pointer (some ⟨w.heap.size, 0, none⟩))] (by kernel_rfl) ?_
  refine st (by rfl) (S_val (v := .int .i64 ((wd : Nat) : Int)) (R_load (v := .int .i64 ((wd : Nat) : Int)) (by kernel_rfl) (by kernel_rfl) ((hB4.cell 0).trans rfl)) ?_)
  refine sg [(83, .pointer (some ⟨w.heap.size, 1, none⟩))] (by kernel_rfl) ?_
  refine st (by rfl) (S_val (v := .int .u64 ((xa : Nat) : Int)) (R_load (v := .int .u64 ((xa : Nat) : Int)) (by kernel_rfl) (by kernel_rfl) ((hB4.cell 1).trans rfl)) ?_)
  refine sg [(85, .pointer (some ⟨w.heap.size, 2, none⟩))] (by kernel_rfl) ?_
  refine st (by rfl) (S_val (v := .int .u64 ((xb : Nat) : Int)) (R_load (v := .int .u64 ((xb : Nat) : Int)) (by kernel_rfl) (by kernel_rfl) ((hB4.cell 2).trans rfl)) ?_)
  refine st (by rfl) (S_call (args := [.int .i64 10, .int .i64 ((wd : Nat) : Int), .int .u64 ((xa : Nat) : Int), .int .u64 ((xb : Nat) : Int)]) (by kernel_rfl) (rbin10_ok wd xa xb _ (by omega) (by omega) (by omega) (by omega)) ?_)
  rintro _ w119 ⟨rfl, hT120⟩
  have hT0 := hT0.t0 hT120
  have hB4 := hB4.tch0 hT120
  have hG := hG.tch0 hT120
  have hXa := hXa.tch0 hT120
  have hYa := hYa.tch0 hT120
  have hXb := hXb.tch0 hT120
  have hYb := hYb.tch0 hT120
  have hB19 := hB19.tch0 hT120
  have hX30 := hX30.tch0 hT120
  have hX48 := hX48.tch0 hT120
  have hX66 := hX66.tch0 hT120
  have hHm := hHm.tch0 hT120
  have hTK := hTK.t0 hT120
  have hK := hK0.tch0 hTK
  have hJ := hJ0.tch0 hTK
  have hB102 := hB102.tch0 hT120
  refine sg [(79, .tuple #[.int .u64 ((bval wd (mvB false wd (fun j => (cutN wd xa).testBit j) false (cutN wd xb)) : Nat) : Int), .int .i64 0]), (88, .int .u64 ((bval wd (mvB false wd (fun j => (cutN wd xa).testBit j) false (cutN wd xb)) : Nat) : Int)), (89, .int .i64 0), (14, .int .u64 ((bval wd (mvB false wd (fun j => (cutN wd xa).testBit j) false (cutN wd xb)) : Nat) : Int)), (15, .int .i64 0)] (by kernel_rfl) ?_
  refine op_nil ?_
  refine W_seq ?_
  refine W_fg [(0, .agg #[.int .i64 ((wd : Nat) : Int), .int .u64 ((xa : Nat) : Int), .int .u64 ((xb : Nat) : Int), .int .u64 ((ins : Nat) : Int)]), (1, .pointer (some ⟨w.heap.size, 0, none⟩)), (2, .bool false), (3, .pointer (some ⟨p9, 0, none⟩)), (4, .slice Ra wd rca), (5, .slice Ha holda.length hca), (6, .slice Rb wd rcb), (7, .slice Hb holdb.length hcb), (8, .pointer (some ⟨w14.heap.size, 0, none⟩)), (9, .int .i64 12), (10, .slice A92 (0 + holda.length + holdb.length) cp93), (11, .pointer (some ⟨w98.heap.size, 0, none⟩)), (12, .int .i64 1), (13, .int .i64 10), (14, .int .u64 ((bval wd (mvB false wd (fun j => (cutN wd xa).testBit j) false (cutN wd xb)) : Nat) : Int)), (18, .bool false), (22, .bool false), (51, .bool false), (74, .bool false), (76, .bool true), (99, .bool false)] (by kernel_rfl) fun ρ => ?_
  refine W_draw (fun w' => Blk w' (w98.heap.size) 54 [.slice K n61 ck, .slice J n61 cj] ∧ Blk w' (w14.heap.size) 51 [.slice (some ⟨g27, 0, none⟩) wd wd, .slice (some ⟨g45, 0, none⟩) wd wd, .slice (some ⟨g63, 0, none⟩) wd wd] ∧ Blk w' (w.heap.size) 46 [.int .i64 ((wd : Nat) : Int), .int .u64 ((xa : Nat) : Int), .int .u64 ((xb : Nat) : Int), .int .u64 ((ins : Nat) : Int)]) (by kernel_rfl) (by kernel_rfl) (by kernel_rfl) fun w121 hT122 hh123 => ?_
  have hT0 := hT0.t0 hT122
  have hB4 := hB4.tch0 hT122
  have hG := hG.tch0 hT122
  have hXa := hXa.tch0 hT122
  have hYa := hYa.tch0 hT122
  have hXb := hXb.tch0 hT122
  have hYb := hYb.tch0 hT122
  have hB19 := hB19.tch0 hT122
  have hX30 := hX30.tch0 hT122
  have hX48 := hX48.tch0 hT122
  have hX66 := hX66.tch0 hT122
  have hHm := hHm.tch0 hT122
  have hTK := hTK.t0 hT122
  have hK := hK0.tch0 hTK
  have hJ := hJ0.tch0 hTK
  have hB102 := hB102.tch0 hT122
  refine dtk [1, 5, 7, 2] #[false, true, true, false, false, true, false, true, false, false] [(91, .int .i64 10), (95, .pointer (some ⟨w.heap.size, 0, none⟩)), (97, .int .u64 ((bval wd (mvB false wd (fun j => (cutN wd xa).testBit j) false (cutN wd xb)) : Nat) : Int)), (92, .int .i64 1)] ⟨hB102, hB19, hB4⟩ (by kernel_rfl) ?_
  refine d_val (v := .agg #[.slice K n61 ck, .slice J n61 cj]) 0 (by rfl) (by kernel_rfl) (by kernel_rfl) (by kernel_rfl) (fun w' hs => by obtain ⟨hB102, hB19, hB4⟩ := hs; exact R_loadA [.slice K n61 ck, .slice J n61 cj] (by kernel_rfl) (by kernel_rfl) (by kernel_rfl) (fun k u hk => by rw [hB102.cell]; exact get_part _ 0 _ k u rfl hk)) ⟨hB102, hB19, hB4⟩ ?_
  refine d_val (v := .pointer (some ⟨w14.heap.size, 1, none⟩)) 3 (by rfl) (by kernel_rfl) (by kernel_rfl) (by kernel_rfl) (fun w' hs => by obtain ⟨hB102, hB19, hB4⟩ := hs; exact R_pure (by kernel_rfl)) ⟨hB102, hB19, hB4⟩ ?_
  refine d_val (v := .slice (some ⟨g45, 0, none⟩) wd wd) 4 (by rfl) (by kernel_rfl) (by kernel_rfl) (by kernel_rfl) (fun w' hs => by obtain ⟨hB102, hB19, hB4⟩ := hs; exact R_load (v := .slice (some ⟨g45, 0, none⟩) wd wd) (by kernel_rfl) (by kernel_rfl) ((hB19.cell 1).trans rfl)) ⟨hB102, hB19, hB4⟩ ?_
  refine d_val (v := .int .i64 ((wd : Nat) : Int)) 6 (by rfl) (by kernel_rfl) (by kernel_rfl) (by kernel_rfl) (fun w' hs => by obtain ⟨hB102, hB19, hB4⟩ := hs; exact R_load (v := .int .i64 ((wd : Nat) : Int)) (by kernel_rfl) (by kernel_rfl) ((hB4.cell 0).trans rfl)) ⟨hB102, hB19, hB4⟩ ?_
  refine d_one 8 (by kernel_rfl) (by rfl) (by kernel_rfl) (S_call (args := [.agg #[.slice K n61 ck, .slice J n61 cj], .slice (some ⟨g45, 0, none⟩) wd wd, .int .i64 ((wd : Nat) : Int), .int .u64 ((bval wd (mvB false wd (fun j => (cutN wd xa).testBit j) false (cutN wd xb)) : Nat) : Int)]) (by kernel_rfl) (is_ok n61 wd wd K J (some ⟨g45, 0, none⟩) ck cj kn tr r46 be (bval wd (mvB false wd (fun j => (cutN wd xa).testBit j) false (cutN wd xb))) _ hK hJ hX48.1 (by omega) hall (fun j hj => by have := hrw51.fit j hj; omega) (by omega) (by omega) (by first | omega | exact bval_u (by omega)) (move_says (fun j hj => hrw51.val be hmd2 j hj) hva hvb rfl)) ?_)
  rintro _ w124 ⟨rfl, hT125⟩
  have hT0 := hT0.t0 hT125
  have hB4 := hB4.tch0 hT125
  have hG := hG.tch0 hT125
  have hXa := hXa.tch0 hT125
  have hYa := hYa.tch0 hT125
  have hXb := hXb.tch0 hT125
  have hYb := hYb.tch0 hT125
  have hB19 := hB19.tch0 hT125
  have hX30 := hX30.tch0 hT125
  have hX48 := hX48.tch0 hT125
  have hX66 := hX66.tch0 hT125
  have hHm := hHm.tch0 hT125
  have hTK := hTK.t0 hT125
  have hK := hK0.tch0 hTK
  have hJ := hJ0.tch0 hTK
  have hB102 := hB102.tch0 hT125
  refine ⟨⟨hB102, hB19, hB4⟩, ?_⟩
  refine dtk [9] #[true, true, true, true, true, true, true, true, true, true] [(99, .bool false)] ⟨hB102, hB19, hB4⟩ (by kernel_rfl) ?_
  refine d_done (by kernel_rfl) ?_
  refine W_cond false (by kernel_rfl) (by kernel_rfl) (fun h => nomatch h) (fun _ => ?_)
  refine W_skip ?_
  refine W_fg [(0, .agg #[.int .i64 ((wd : Nat) : Int), .int .u64 ((xa : Nat) : Int), .int .u64 ((xb : Nat) : Int), .int .u64 ((ins : Nat) : Int)]), (1, .pointer (some ⟨w.heap.size, 0, none⟩)), (2, .bool false), (3, .pointer (some ⟨p9, 0, none⟩)), (4, .slice Ra wd rca), (5, .slice Ha holda.length hca), (6, .slice Rb wd rcb), (7, .slice Hb holdb.length hcb), (8, .pointer (some ⟨w14.heap.size, 0, none⟩)), (9, .int .i64 12), (10, .slice A92 (0 + holda.length + holdb.length) cp93), (11, .pointer (some ⟨w98.heap.size, 0, none⟩)), (12, .int .i64 1), (13, .int .i64 10), (14, .int .u64 ((bval wd (mvB false wd (fun j => (cutN wd xa).testBit j) false (cutN wd xb)) : Nat) : Int)), (18, .bool false), (22, .bool false), (51, .bool false), (74, .bool false), (76, .bool true), (99, .bool false)] (by kernel_rfl) fun ρ => ?_
  refine W_region (by kernel_rfl) ?_
  refine sg [(77, .int .i64 10), (78, .int .i64 11), (13, .int .i64 11)] (by kernel_rfl) ?_
  refine op_nil ?_
  refine Un_s ?_
  refine W_seq ?_
  refine W_seq ?_
  refine W_region (by kernel_rfl) ?_
  refine sg [(75, .int .i64 11), (76, .bool true)] (by kernel_rfl) ?_
  refine op_nil ?_
  refine W_cond true (by kernel_rfl) (by kernel_rfl) (fun _ => ?_) (fun h => nomatch h)
  refine W_skip ?_
  refine W_seq ?_
  refine W_block ?_
  refine W_seq ?_
  refine W_region (by kernel_rfl) ?_
  refine sg [(80, .int .i64 11), (81, .pointer (some ⟨w.heap.size, 0, none⟩))] (by kernel_rfl) ?_
  refine st (by rfl) (S_val (v := .int .i64 ((wd : Nat) : Int)) (R_load (v := .int .i64 ((wd : Nat) : Int)) (by kernel_rfl) (by kernel_rfl) ((hB4.cell 0).trans rfl)) ?_)
  refine sg [(83, .pointer (some ⟨w.heap.size, 1, none⟩))] (by kernel_rfl) ?_
  refine st (by rfl) (S_val (v := .int .u64 ((xa : Nat) : Int)) (R_load (v := .int .u64 ((xa : Nat) : Int)) (by kernel_rfl) (by kernel_rfl) ((hB4.cell 1).trans rfl)) ?_)
  refine sg [(85, .pointer (some ⟨w.heap.size, 2, none⟩))] (by kernel_rfl) ?_
  refine st (by rfl) (S_val (v := .int .u64 ((xb : Nat) : Int)) (R_load (v := .int .u64 ((xb : Nat) : Int)) (by kernel_rfl) (by kernel_rfl) ((hB4.cell 2).trans rfl)) ?_)
  refine st (by rfl) (S_call (args := [.int .i64 11, .int .i64 ((wd : Nat) : Int), .int .u64 ((xa : Nat) : Int), .int .u64 ((xb : Nat) : Int)]) (by kernel_rfl) (rbin11_ok wd xa xb _ (by omega) (by omega) (by omega) (by omega)) ?_)
  rintro _ w126 ⟨rfl, hT127⟩
  have hT0 := hT0.t0 hT127
  have hB4 := hB4.tch0 hT127
  have hG := hG.tch0 hT127
  have hXa := hXa.tch0 hT127
  have hYa := hYa.tch0 hT127
  have hXb := hXb.tch0 hT127
  have hYb := hYb.tch0 hT127
  have hB19 := hB19.tch0 hT127
  have hX30 := hX30.tch0 hT127
  have hX48 := hX48.tch0 hT127
  have hX66 := hX66.tch0 hT127
  have hHm := hHm.tch0 hT127
  have hTK := hTK.t0 hT127
  have hK := hK0.tch0 hTK
  have hJ := hJ0.tch0 hTK
  have hB102 := hB102.tch0 hT127
  refine sg [(79, .tuple #[.int .u64 ((bval wd (mvB false wd (fun j => (cutN wd xa).testBit j) ((cutN wd xa).testBit (wd - 1)) (cutN wd xb)) : Nat) : Int), .int .i64 0]), (88, .int .u64 ((bval wd (mvB false wd (fun j => (cutN wd xa).testBit j) ((cutN wd xa).testBit (wd - 1)) (cutN wd xb)) : Nat) : Int)), (89, .int .i64 0), (14, .int .u64 ((bval wd (mvB false wd (fun j => (cutN wd xa).testBit j) ((cutN wd xa).testBit (wd - 1)) (cutN wd xb)) : Nat) : Int)), (15, .int .i64 0)] (by kernel_rfl) ?_
  refine op_nil ?_
  refine W_seq ?_
  refine W_fg [(0, .agg #[.int .i64 ((wd : Nat) : Int), .int .u64 ((xa : Nat) : Int), .int .u64 ((xb : Nat) : Int), .int .u64 ((ins : Nat) : Int)]), (1, .pointer (some ⟨w.heap.size, 0, none⟩)), (2, .bool false), (3, .pointer (some ⟨p9, 0, none⟩)), (4, .slice Ra wd rca), (5, .slice Ha holda.length hca), (6, .slice Rb wd rcb), (7, .slice Hb holdb.length hcb), (8, .pointer (some ⟨w14.heap.size, 0, none⟩)), (9, .int .i64 12), (10, .slice A92 (0 + holda.length + holdb.length) cp93), (11, .pointer (some ⟨w98.heap.size, 0, none⟩)), (12, .int .i64 1), (13, .int .i64 11), (14, .int .u64 ((bval wd (mvB false wd (fun j => (cutN wd xa).testBit j) ((cutN wd xa).testBit (wd - 1)) (cutN wd xb)) : Nat) : Int)), (18, .bool false), (22, .bool false), (51, .bool false), (74, .bool false), (76, .bool true), (99, .bool false)] (by kernel_rfl) fun ρ => ?_
  refine W_draw (fun w' => Blk w' (w98.heap.size) 54 [.slice K n61 ck, .slice J n61 cj] ∧ Blk w' (w14.heap.size) 51 [.slice (some ⟨g27, 0, none⟩) wd wd, .slice (some ⟨g45, 0, none⟩) wd wd, .slice (some ⟨g63, 0, none⟩) wd wd] ∧ Blk w' (w.heap.size) 46 [.int .i64 ((wd : Nat) : Int), .int .u64 ((xa : Nat) : Int), .int .u64 ((xb : Nat) : Int), .int .u64 ((ins : Nat) : Int)]) (by kernel_rfl) (by kernel_rfl) (by kernel_rfl) fun w128 hT129 hh130 => ?_
  have hT0 := hT0.t0 hT129
  have hB4 := hB4.tch0 hT129
  have hG := hG.tch0 hT129
  have hXa := hXa.tch0 hT129
  have hYa := hYa.tch0 hT129
  have hXb := hXb.tch0 hT129
  have hYb := hYb.tch0 hT129
  have hB19 := hB19.tch0 hT129
  have hX30 := hX30.tch0 hT129
  have hX48 := hX48.tch0 hT129
  have hX66 := hX66.tch0 hT129
  have hHm := hHm.tch0 hT129
  have hTK := hTK.t0 hT129
  have hK := hK0.tch0 hTK
  have hJ := hJ0.tch0 hTK
  have hB102 := hB102.tch0 hT129
  refine dtk [1, 5, 7, 2] #[false, true, true, false, false, true, false, true, false, false] [(91, .int .i64 11), (95, .pointer (some ⟨w.heap.size, 0, none⟩)), (97, .int .u64 ((bval wd (mvB false wd (fun j => (cutN wd xa).testBit j) ((cutN wd xa).testBit (wd - 1)) (cutN wd xb)) : Nat) : Int)), (92, .int .i64 2)] ⟨hB102, hB19, hB4⟩ (by kernel_rfl) ?_
  refine d_val (v := .agg #[.slice K n61 ck, .slice J n61 cj]) 0 (by rfl) (by kernel_rfl) (by kernel_rfl) (by kernel_rfl) (fun w' hs => by obtain ⟨hB102, hB19, hB4⟩ := hs; exact R_loadA [.slice K n61 ck, .slice J n61 cj] (by kernel_rfl) (by kernel_rfl) (by kernel_rfl) (fun k u hk => by rw [hB102.cell]; exact get_part _ 0 _ k u rfl hk)) ⟨hB102, hB19, hB4⟩ ?_
  refine d_val (v := .pointer (some ⟨w14.heap.size, 2, none⟩)) 3 (by rfl) (by kernel_rfl) (by kernel_rfl) (by kernel_rfl) (fun w' hs => by obtain ⟨hB102, hB19, hB4⟩ := hs; exact R_pure (by kernel_rfl)) ⟨hB102, hB19, hB4⟩ ?_
  refine d_val (v := .slice (some ⟨g63, 0, none⟩) wd wd) 4 (by rfl) (by kernel_rfl) (by kernel_rfl) (by kernel_rfl) (fun w' hs => by obtain ⟨hB102, hB19, hB4⟩ := hs; exact R_load (v := .slice (some ⟨g63, 0, none⟩) wd wd) (by kernel_rfl) (by kernel_rfl) ((hB19.cell 2).trans rfl)) ⟨hB102, hB19, hB4⟩ ?_
  refine d_val (v := .int .i64 ((wd : Nat) : Int)) 6 (by rfl) (by kernel_rfl) (by kernel_rfl) (by kernel_rfl) (fun w' hs => by obtain ⟨hB102, hB19, hB4⟩ := hs; exact R_load (v := .int .i64 ((wd : Nat) : Int)) (by kernel_rfl) (by kernel_rfl) ((hB4.cell 0).trans rfl)) ⟨hB102, hB19, hB4⟩ ?_
  refine d_one 8 (by kernel_rfl) (by rfl) (by kernel_rfl) (S_call (args := [.agg #[.slice K n61 ck, .slice J n61 cj], .slice (some ⟨g63, 0, none⟩) wd wd, .int .i64 ((wd : Nat) : Int), .int .u64 ((bval wd (mvB false wd (fun j => (cutN wd xa).testBit j) ((cutN wd xa).testBit (wd - 1)) (cutN wd xb)) : Nat) : Int)]) (by kernel_rfl) (is_ok n61 wd wd K J (some ⟨g63, 0, none⟩) ck cj kn tr r64 be (bval wd (mvB false wd (fun j => (cutN wd xa).testBit j) ((cutN wd xa).testBit (wd - 1)) (cutN wd xb))) _ hK hJ hX66.1 (by omega) hall (fun j hj => by have := hrw69.fit j hj; omega) (by omega) (by omega) (by first | omega | exact bval_u (by omega)) (move_says (fun j hj => hrw69.val be hmd3 j hj) hva hvb ((hva _ (by omega)).trans (cut_same (by omega)).symm))) ?_)
  rintro _ w131 ⟨rfl, hT132⟩
  have hT0 := hT0.t0 hT132
  have hB4 := hB4.tch0 hT132
  have hG := hG.tch0 hT132
  have hXa := hXa.tch0 hT132
  have hYa := hYa.tch0 hT132
  have hXb := hXb.tch0 hT132
  have hYb := hYb.tch0 hT132
  have hB19 := hB19.tch0 hT132
  have hX30 := hX30.tch0 hT132
  have hX48 := hX48.tch0 hT132
  have hX66 := hX66.tch0 hT132
  have hHm := hHm.tch0 hT132
  have hTK := hTK.t0 hT132
  have hK := hK0.tch0 hTK
  have hJ := hJ0.tch0 hTK
  have hB102 := hB102.tch0 hT132
  refine ⟨⟨hB102, hB19, hB4⟩, ?_⟩
  refine dtk [9] #[true, true, true, true, true, true, true, true, true, true] [(99, .bool false)] ⟨hB102, hB19, hB4⟩ (by kernel_rfl) ?_
  refine d_done (by kernel_rfl) ?_
  refine W_cond false (by kernel_rfl) (by kernel_rfl) (fun h => nomatch h) (fun _ => ?_)
  refine W_skip ?_
  refine W_fg [(0, .agg #[.int .i64 ((wd : Nat) : Int), .int .u64 ((xa : Nat) : Int), .int .u64 ((xb : Nat) : Int), .int .u64 ((ins : Nat) : Int)]), (1, .pointer (some ⟨w.heap.size, 0, none⟩)), (2, .bool false), (3, .pointer (some ⟨p9, 0, none⟩)), (4, .slice Ra wd rca), (5, .slice Ha holda.length hca), (6, .slice Rb wd rcb), (7, .slice Hb holdb.length hcb), (8, .pointer (some ⟨w14.heap.size, 0, none⟩)), (9, .int .i64 12), (10, .slice A92 (0 + holda.length + holdb.length) cp93), (11, .pointer (some ⟨w98.heap.size, 0, none⟩)), (12, .int .i64 1), (13, .int .i64 11), (14, .int .u64 ((bval wd (mvB false wd (fun j => (cutN wd xa).testBit j) ((cutN wd xa).testBit (wd - 1)) (cutN wd xb)) : Nat) : Int)), (18, .bool false), (22, .bool false), (51, .bool false), (74, .bool false), (76, .bool true), (99, .bool false)] (by kernel_rfl) fun ρ => ?_
  refine W_region (by kernel_rfl) ?_
  refine sg [(77, .int .i64 11), (78, .int .i64 12), (13, .int .i64 12)] (by kernel_rfl) ?_
  refine op_nil ?_
  refine Un_s ?_
  refine W_seq ?_
  refine W_seq ?_
  refine W_region (by kernel_rfl) ?_
  refine sg [(75, .int .i64 12), (76, .bool false)] (by kernel_rfl) ?_
  refine op_nil ?_
  refine W_cond false (by kernel_rfl) (by kernel_rfl) (fun h => nomatch h) (fun _ => ?_)
  refine W_exit ?_
  refine X_hit ?_
  refine W_seq ?_
  refine W_region (by kernel_rfl) ?_
  refine st (by rfl) (S_call (args := []) (by kernel_rfl) (awake22_ok _) ?_)
  rintro _ w133 ⟨rfl, hT134⟩
  have hT0 := hT0.t0 hT134
  have hB4 := hB4.tch0 hT134
  have hG := hG.tch0 hT134
  have hXa := hXa.tch0 hT134
  have hYa := hYa.tch0 hT134
  have hXb := hXb.tch0 hT134
  have hYb := hYb.tch0 hT134
  have hB19 := hB19.tch0 hT134
  have hX30 := hX30.tch0 hT134
  have hX48 := hX48.tch0 hT134
  have hX66 := hX66.tch0 hT134
  have hHm := hHm.tch0 hT134
  have hTK := hTK.t0 hT134
  have hK := hK0.tch0 hTK
  have hJ := hJ0.tch0 hTK
  have hB102 := hB102.tch0 hT134
  refine sg [(2, .bool true)] (by kernel_rfl) ?_
  refine op_nil ?_
  refine W_ret ?_
  exact ⟨_, Res_of (v := .bool true) (by kernel_rfl), ⟨rfl, hT0⟩⟩

theorem ShiftMeans_w (W xa xb xi : Int) (w : World) (ha : 0 ≤ xa ∧ xa ≤ 18446744073709551615) (hb : 0 ≤ xb ∧ xb ≤ 18446744073709551615) (hi : 0 ≤ xi ∧ xi ≤ 18446744073709551615) : Ret Try.prog 6 [.agg #[.int .i64 W, .int .u64 xa, .int .u64 xb, .int .u64 xi]] w fun v w' => v = .bool true ∧ Tch N0 w w' := by
  by_cases h : W < 1 ∨ 40 < W
  · exact ShiftMeans_big W xa xb xi w h
  · obtain ⟨wd, rfl⟩ : ∃ k : Nat, W = k := ⟨W.toNat, by omega⟩
    obtain ⟨a, rfl⟩ : ∃ k : Nat, xa = k := ⟨xa.toNat, by omega⟩
    obtain ⟨b, rfl⟩ : ∃ k : Nat, xb = k := ⟨xb.toNat, by omega⟩
    obtain ⟨c, rfl⟩ : ∃ k : Nat, xi = k := ⟨xi.toNat, by omega⟩
    exact ShiftMeans_in wd a b c w (by omega) (by omega) (by omega) (by omega)

end Go.Proofs.YtnlecdpiccgdpaaV
