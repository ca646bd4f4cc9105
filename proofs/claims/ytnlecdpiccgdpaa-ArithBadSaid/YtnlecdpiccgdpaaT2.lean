/- Walks of functions of the program and of the document's texts. The conditions stand with each theorem. -/
import Derived.Test.YtnlecdpiccgdpaaVx13
import Derived.Test.YtnlecdpiccgdpaaProg
import Derived.Test.YtnlecdpiccgdpaaVx4
import Derived.Test.YtnlecdpiccgdpaaT1
set_option linter.unusedVariables false
set_option linter.unusedSimpArgs false
namespace Go.Proofs.YtnlecdpiccgdpaaV
open Go Go.RowKit Go.Proofs

set_option maxRecDepth 100000 in
theorem fits28_big (W most : Int) (xa xb xi : Int) (w : World) (h : W < 1 ∨ most < W) : Ret Try.prog 28 [.agg #[.int .i64 W, .int .u64 xa, .int .u64 xb, .int .u64 xi], .int .i64 most] w fun v w' => v = .int .i64 0 ∧ Tch N0 w w' := by
  refine enter Try.func28 rfl rfl ?_
  refine W_seq ?_
  refine W_region (by kernel_rfl) ?_
  refine st (by rfl) (S_new (v := .pointer (some ⟨w.heap.size, 0, none⟩)) (ob := .cells #[.int .i64 W, .int .u64 xa, .int .u64 xb, .int .u64 xi] 46) (by kernel_rfl) fun w1 hT2 hs3 hB4 => ?_)
  replace hB4 : Blk w1 (w.heap.size) 46 [.int .i64 W, .int .u64 xa, .int .u64 xb, .int .u64 xi] := hB4
  have hT0 := hT2
  refine sg [(4, .int .i64 0)] (by kernel_rfl) ?_
  refine op_nil ?_
  refine W_seq ?_
  refine W_seq ?_
  refine W_region (by kernel_rfl) ?_
  refine sg [(5, .pointer (some ⟨w.heap.size, 0, none⟩))] (by kernel_rfl) ?_
  refine st (by rfl) (S_val (v := .int .i64 W) (R_load (v := .int .i64 W) (by kernel_rfl) (by kernel_rfl) ((hB4.cell 0).trans rfl)) ?_)
  refine sg [(7, .bool (decide (W < 1))), (8, .bool (decide (W < 1)))] (by kernel_rfl) ?_
  cases hb5 : decide (W < 1)
  · replace hb5 : 1 ≤ W := (Int.not_lt.1 (of_decide_eq_false hb5))
    refine sg [(9, .pointer (some ⟨w.heap.size, 0, none⟩))] (by kernel_rfl) ?_
    refine st (by kernel_rfl) (S_val (v := .int .i64 W) (R_load (v := .int .i64 W) (by kernel_rfl) (by kernel_rfl) ((hB4.cell 0).trans rfl)) ?_)
    refine sg [(11, .int .i64 most), (12, .bool (decide (W > most))), (13, .bool (decide (W > most)))] (by kernel_rfl) ?_
    refine op_nil ?_
    refine W_cond (decide (W > most)) (by kernel_rfl) (by kernel_rfl) (fun hc6 => ?_) (fun hc6 => ?_)
    · replace hc6 : most < W := (of_decide_eq_true hc6)
      refine W_seq ?_
      refine W_fg [(0, .agg #[.int .i64 W, .int .u64 xa, .int .u64 xb, .int .u64 xi]), (1, .int .i64 most), (2, .pointer (some ⟨w.heap.size, 0, none⟩)), (4, .int .i64 0), (13, .bool (decide (W > most)))] (by kernel_rfl) fun ρ => ?_
      refine W_region (by kernel_rfl) ?_
      refine sg [(4, .int .i64 0)] (by kernel_rfl) ?_
      refine op_nil ?_
      refine W_ret ?_
      exact ⟨_, Res_of (v := .int .i64 0) (by kernel_rfl), ⟨by first | rfl | (exfalso; omega), hT0⟩⟩
    · replace hc6 : W ≤ most := (Int.not_lt.1 (of_decide_eq_false hc6))
      refine W_skip ?_
      refine W_seq ?_
      refine W_fg [(0, .agg #[.int .i64 W, .int .u64 xa, .int .u64 xb, .int .u64 xi]), (1, .int .i64 most), (2, .pointer (some ⟨w.heap.size, 0, none⟩)), (4, .int .i64 0), (13, .bool (decide (W > most)))] (by kernel_rfl) fun ρ => ?_
      refine W_region (by kernel_rfl) ?_
      refine sg [(4, .int .i64 1)] (by kernel_rfl) ?_
      refine op_nil ?_
      refine W_ret ?_
      exact ⟨_, Res_of (v := .int .i64 1) (by kernel_rfl), ⟨by first | rfl | (exfalso; omega), hT0⟩⟩
  · replace hb5 : W < 1 := (of_decide_eq_true hb5)
    refine sg [(9, undef), (10, undef), (11, undef), (12, undef), (13, .bool true)] (by kernel_rfl) ?_
    refine op_nil ?_
    refine W_cond true (by kernel_rfl) (by kernel_rfl) (fun _ => ?_) (fun h => nomatch h)
    refine W_seq ?_
    refine W_fg [(0, .agg #[.int .i64 W, .int .u64 xa, .int .u64 xb, .int .u64 xi]), (1, .int .i64 most), (2, .pointer (some ⟨w.heap.size, 0, none⟩)), (4, .int .i64 0), (13, .bool true)] (by kernel_rfl) fun ρ => ?_
    refine W_region (by kernel_rfl) ?_
    refine sg [(4, .int .i64 0)] (by kernel_rfl) ?_
    refine op_nil ?_
    refine W_ret ?_
    exact ⟨_, Res_of (v := .int .i64 0) (by kernel_rfl), ⟨by first | rfl | (exfalso; omega), hT0⟩⟩

set_option maxRecDepth 100000 in
theorem fits28_in (wd : Nat) (most : Int) (xa xb xi : Int) (w : World) (h : 1 ≤ (wd : Int) ∧ (wd : Int) ≤ most) : Ret Try.prog 28 [.agg #[.int .i64 ((wd : Nat) : Int), .int .u64 xa, .int .u64 xb, .int .u64 xi], .int .i64 most] w fun v w' => v = .int .i64 1 ∧ Tch N0 w w' := by
  refine enter Try.func28 rfl rfl ?_
  refine W_seq ?_
  refine W_region (by kernel_rfl) ?_
  refine st (by rfl) (S_new (v := .pointer (some ⟨w.heap.size, 0, none⟩)) (ob := .cells #[.int .i64 ((wd : Nat) : Int), .int .u64 xa, .int .u64 xb, .int .u64 xi] 46) (by kernel_rfl) fun w1 hT2 hs3 hB4 => ?_)
  replace hB4 : Blk w1 (w.heap.size) 46 [.int .i64 ((wd : Nat) : Int), .int .u64 xa, .int .u64 xb, .int .u64 xi] := hB4
  have hT0 := hT2
  refine sg [(4, .int .i64 0)] (by kernel_rfl) ?_
  refine op_nil ?_
  refine W_seq ?_
  refine W_seq ?_
  refine W_region (by kernel_rfl) ?_
  refine sg [(5, .pointer (some ⟨w.heap.size, 0, none⟩))] (by kernel_rfl) ?_
  refine st (by rfl) (S_val (v := .int .i64 ((wd : Nat) : Int)) (R_load (v := .int .i64 ((wd : Nat) : Int)) (by kernel_rfl) (by kernel_rfl) ((hB4.cell 0).trans rfl)) ?_)
  refine sg [(7, .bool (decide (((wd : Nat) : Int) < 1))), (8, .bool (decide (((wd : Nat) : Int) < 1)))] (by kernel_rfl) ?_
  cases hb5 : decide (((wd : Nat) : Int) < 1)
  · replace hb5 : 1 ≤ ((wd : Nat) : Int) := (Int.not_lt.1 (of_decide_eq_false hb5))
    refine sg [(9, .pointer (some ⟨w.heap.size, 0, none⟩))] (by kernel_rfl) ?_
    refine st (by kernel_rfl) (S_val (v := .int .i64 ((wd : Nat) : Int)) (R_load (v := .int .i64 ((wd : Nat) : Int)) (by kernel_rfl) (by kernel_rfl) ((hB4.cell 0).trans rfl)) ?_)
    refine sg [(11, .int .i64 most), (12, .bool (decide (((wd : Nat) : Int) > most))), (13, .bool (decide (((wd : Nat) : Int) > most)))] (by kernel_rfl) ?_
    refine op_nil ?_
    refine W_cond (decide (((wd : Nat) : Int) > most)) (by kernel_rfl) (by kernel_rfl) (fun hc6 => ?_) (fun hc6 => ?_)
    · replace hc6 : most < ((wd : Nat) : Int) := (of_decide_eq_true hc6)
      exfalso; omega
    · replace hc6 : ((wd : Nat) : Int) ≤ most := (Int.not_lt.1 (of_decide_eq_false hc6))
      refine W_skip ?_
      refine W_seq ?_
      refine W_fg [(0, .agg #[.int .i64 ((wd : Nat) : Int), .int .u64 xa, .int .u64 xb, .int .u64 xi]), (1, .int .i64 most), (2, .pointer (some ⟨w.heap.size, 0, none⟩)), (4, .int .i64 0), (13, .bool (decide (((wd : Nat) : Int) > most)))] (by kernel_rfl) fun ρ => ?_
      refine W_region (by kernel_rfl) ?_
      refine sg [(4, .int .i64 1)] (by kernel_rfl) ?_
      refine op_nil ?_
      refine W_ret ?_
      exact ⟨_, Res_of (v := .int .i64 1) (by kernel_rfl), ⟨rfl, hT0⟩⟩
  · replace hb5 : ((wd : Nat) : Int) < 1 := (of_decide_eq_true hb5)
    exfalso; omega

set_option maxRecDepth 100000 in
theorem ArithMeans_big (W xa xb xi : Int) (ch : Bool) (w : World) (h : W < 1 ∨ 64 < W) : Ret Try.prog 11 [.agg #[.int .i64 W, .int .u64 xa, .int .u64 xb, .int .u64 xi], .bool ch] w fun v w' => v = .bool true ∧ Tch N0 w w' := by
  refine enter Try.func11 rfl rfl ?_
  refine W_seq ?_
  refine W_region (by kernel_rfl) ?_
  refine st (by rfl) (S_new (v := .pointer (some ⟨w.heap.size, 0, none⟩)) (ob := .cells #[.int .i64 W, .int .u64 xa, .int .u64 xb, .int .u64 xi] 46) (by kernel_rfl) fun w1 hT2 hs3 hB4 => ?_)
  replace hB4 : Blk w1 (w.heap.size) 46 [.int .i64 W, .int .u64 xa, .int .u64 xb, .int .u64 xi] := hB4
  have hT0 := hT2
  refine sg [(4, .bool false)] (by kernel_rfl) ?_
  refine op_nil ?_
  refine W_seq ?_
  refine W_seq ?_
  refine W_region (by kernel_rfl) ?_
  refine st (by rfl) (S_val (v := .agg #[.int .i64 W, .int .u64 xa, .int .u64 xb, .int .u64 xi]) (R_loadA [.int .i64 W, .int .u64 xa, .int .u64 xb, .int .u64 xi] (by kernel_rfl) (by kernel_rfl) (by kernel_rfl) (fun k u hk => by rw [hB4.cell]; exact get_part _ 0 _ k u rfl hk)) ?_)
  refine st (by rfl) (S_call (args := [.agg #[.int .i64 W, .int .u64 xa, .int .u64 xb, .int .u64 xi], .int .i64 64]) (by kernel_rfl) (fits28_big W 64 xa xb xi _ (by omega)) ?_)
  rintro _ w5 ⟨rfl, hT6⟩
  have hT0 := hT0.t0 hT6
  have hB4 := hB4.tch0 hT6
  refine sg [(24, .bool true)] (by kernel_rfl) ?_
  refine op_nil ?_
  refine W_cond true (by kernel_rfl) (by kernel_rfl) (fun _ => ?_) (fun h => nomatch h)
  refine W_seq ?_
  refine W_region (by kernel_rfl) ?_
  refine st (by rfl) (S_call (args := []) (by kernel_rfl) (awake20_ok _) ?_)
  rintro _ w7 ⟨rfl, hT8⟩
  have hT0 := hT0.t0 hT8
  have hB4 := hB4.tch0 hT8
  refine sg [(4, .bool true)] (by kernel_rfl) ?_
  refine op_nil ?_
  refine W_ret ?_
  exact ⟨_, Res_of (v := .bool true) (by kernel_rfl), ⟨rfl, hT0⟩⟩

set_option maxRecDepth 100000 in
set_option maxHeartbeats 4000000 in
theorem ArithMeans_in (wd xa xb ins : Nat) (ch : Bool) (w : World) (h1 : 1 ≤ wd) (h2 : wd ≤ 64) (ha : xa < 18446744073709551616) (hb : xb < 18446744073709551616) : Ret Try.prog 11 [.agg #[.int .i64 ((wd : Nat) : Int), .int .u64 ((xa : Nat) : Int), .int .u64 ((xb : Nat) : Int), .int .u64 ((ins : Nat) : Int)], .bool ch] w fun v w' => v = .bool true ∧ Tch N0 w w' := by
  refine enter Try.func11 rfl rfl ?_
  refine W_seq ?_
  refine W_region (by kernel_rfl) ?_
  refine st (by rfl) (S_new (v := .pointer (some ⟨w.heap.size, 0, none⟩)) (ob := .cells #[.int .i64 ((wd : Nat) : Int), .int .u64 ((xa : Nat) : Int), .int .u64 ((xb : Nat) : Int), .int .u64 ((ins : Nat) : Int)] 46) (by kernel_rfl) fun w1 hT2 hs3 hB4 => ?_)
  replace hB4 : Blk w1 (w.heap.size) 46 [.int .i64 ((wd : Nat) : Int), .int .u64 ((xa : Nat) : Int), .int .u64 ((xb : Nat) : Int), .int .u64 ((ins : Nat) : Int)] := hB4
  have hT0 := hT2
  refine sg [(4, .bool false)] (by kernel_rfl) ?_
  refine op_nil ?_
  refine W_seq ?_
  refine W_seq ?_
  refine W_region (by kernel_rfl) ?_
  refine st (by rfl) (S_val (v := .agg #[.int .i64 ((wd : Nat) : Int), .int .u64 ((xa : Nat) : Int), .int .u64 ((xb : Nat) : Int), .int .u64 ((ins : Nat) : Int)]) (R_loadA [.int .i64 ((wd : Nat) : Int), .int .u64 ((xa : Nat) : Int), .int .u64 ((xb : Nat) : Int), .int .u64 ((ins : Nat) : Int)] (by kernel_rfl) (by kernel_rfl) (by kernel_rfl) (fun k u hk => by rw [hB4.cell]; exact get_part _ 0 _ k u rfl hk)) ?_)
  refine st (by rfl) (S_call (args := [.agg #[.int .i64 ((wd : Nat) : Int), .int .u64 ((xa : Nat) : Int), .int .u64 ((xb : Nat) : Int), .int .u64 ((ins : Nat) : Int)], .int .i64 64]) (by kernel_rfl) (fits28_in wd 64 ((xa : Nat) : Int) ((xb : Nat) : Int) ((ins : Nat) : Int) _ (by omega)) ?_)
  rintro _ w5 ⟨rfl, hT6⟩
  have hT0 := hT0.t0 hT6
  have hB4 := hB4.tch0 hT6
  refine sg [(24, .bool false)] (by kernel_rfl) ?_
  refine op_nil ?_
  refine W_cond false (by kernel_rfl) (by kernel_rfl) (fun h => nomatch h) (fun _ => ?_)
  refine W_skip ?_
  refine W_seq ?_
  refine W_region (by kernel_rfl) ?_
  have hz_ := hT0.size
  have lt11 := hB4.lt
  refine st (by rfl) (S_call (args := []) (by kernel_rfl) (new_ok _) ?_)
  rintro _ w7 ⟨p9, F10, rfl, hG, hT8, hFb⟩
  have hT0 := hT0.t0 hT8
  have hB4 := hB4.tch0 hT8
  have nF_hB4 : ¬ F10 (w.heap.size) := fun e => by have := hFb _ e; omega
  replace hFb := fun b hb => Nat.le_trans hz_ (hFb b hb)
  refine sg [(5, .pointer (some ⟨p9, 0, none⟩))] (by kernel_rfl) ?_
  refine op_nil ?_
  refine W_seq ?_
  refine W_seq ?_
  refine W_region (by kernel_rfl) ?_
  refine sg [(27, .pointer (some ⟨p9, 0, none⟩)), (28, .bool false)] (by kernel_rfl) ?_
  refine op_nil ?_
  refine W_cond false (by kernel_rfl) (by kernel_rfl) (fun h => nomatch h) (fun _ => ?_)
  refine W_skip ?_
  refine W_seq ?_
  refine W_fg [(0, .agg #[.int .i64 ((wd : Nat) : Int), .int .u64 ((xa : Nat) : Int), .int .u64 ((xb : Nat) : Int), .int .u64 ((ins : Nat) : Int)]), (2, .pointer (some ⟨w.heap.size, 0, none⟩)), (4, .bool false), (5, .pointer (some ⟨p9, 0, none⟩)), (24, .bool false), (28, .bool false)] (by kernel_rfl) fun ρ => ?_
  refine W_region (by kernel_rfl) ?_
  refine sg [(30, .pointer (some ⟨p9, 0, none⟩)), (31, .pointer (some ⟨w.heap.size, 0, none⟩))] (by kernel_rfl) ?_
  refine st (by rfl) (S_val (v := .int .i64 ((wd : Nat) : Int)) (R_load (v := .int .i64 ((wd : Nat) : Int)) (by kernel_rfl) (by kernel_rfl) ((hB4.cell 0).trans rfl)) ?_)
  refine sg [(33, .pointer (some ⟨w.heap.size, 1, none⟩))] (by kernel_rfl) ?_
  refine st (by rfl) (S_val (v := .int .u64 ((xa : Nat) : Int)) (R_load (v := .int .u64 ((xa : Nat) : Int)) (by kernel_rfl) (by kernel_rfl) ((hB4.cell 1).trans rfl)) ?_)
  refine sg [(35, .pointer (some ⟨w.heap.size, 3, none⟩))] (by kernel_rfl) ?_
  refine st (by rfl) (S_val (v := .int .u64 ((ins : Nat) : Int)) (R_load (v := .int .u64 ((ins : Nat) : Int)) (by kernel_rfl) (by kernel_rfl) ((hB4.cell 3).trans rfl)) ?_)
  have hz_ := hT0.size
  have lt13 := hB4.lt
  refine st (by rfl) (S_call (args := [.pointer (some ⟨p9, 0, none⟩), .int .i64 ((wd : Nat) : Int), .int .u64 ((xa : Nat) : Int), .int .u64 ((ins : Nat) : Int)]) (by kernel_rfl) (row_ok F10 p9 1 wd ([[0]]) (fun _ => False) xa ins _ hG (by omega) (by omega) (by omega)) ?_)
  rintro _ w12 ⟨Fa, na, Ia, Ra, rca, Ha, hca, rowa, holda, rfl, hXa, hYa, gRa, gHa, hG, mva, hria, hda, aHa, hlla⟩
  have hT0 := (hT0).then mva.1 hFb
  have hB4 := hB4.tch mva.1 nF_hB4
  replace nF_hB4 : ¬ Fa (w.heap.size) := fun e => (mva.2 _ e).elim nF_hB4 (fun q => by omega)
  replace hFb := mva.ge hFb hz_
  have lt_hXa := hXa.lt
  have lt_hYa := hYa.lt
  have ge_hXa := gRa
  have ge_hYa := gHa
  have hle_hria := hria.le
  refine sg [(29, .tuple #[.slice Ra wd rca, .slice Ha holda.length hca]), (38, .slice Ra wd rca), (39, .slice Ha holda.length hca), (6, .slice Ra wd rca), (7, .slice Ha holda.length hca)] (by kernel_rfl) ?_
  refine op_nil ?_
  refine W_seq ?_
  refine W_fg [(0, .agg #[.int .i64 ((wd : Nat) : Int), .int .u64 ((xa : Nat) : Int), .int .u64 ((xb : Nat) : Int), .int .u64 ((ins : Nat) : Int)]), (2, .pointer (some ⟨w.heap.size, 0, none⟩)), (4, .bool false), (5, .pointer (some ⟨p9, 0, none⟩)), (6, .slice Ra wd rca), (7, .slice Ha holda.length hca), (24, .bool false), (28, .bool false)] (by kernel_rfl) fun ρ => ?_
  refine W_region (by kernel_rfl) ?_
  refine sg [(41, .pointer (some ⟨p9, 0, none⟩)), (42, .pointer (some ⟨w.heap.size, 0, none⟩))] (by kernel_rfl) ?_
  refine st (by rfl) (S_val (v := .int .i64 ((wd : Nat) : Int)) (R_load (v := .int .i64 ((wd : Nat) : Int)) (by kernel_rfl) (by kernel_rfl) ((hB4.cell 0).trans rfl)) ?_)
  refine sg [(44, .pointer (some ⟨w.heap.size, 2, none⟩))] (by kernel_rfl) ?_
  refine st (by rfl) (S_val (v := .int .u64 ((xb : Nat) : Int)) (R_load (v := .int .u64 ((xb : Nat) : Int)) (by kernel_rfl) (by kernel_rfl) ((hB4.cell 2).trans rfl)) ?_)
  refine sg [(46, .pointer (some ⟨w.heap.size, 3, none⟩))] (by kernel_rfl) ?_
  refine st (by rfl) (S_val (v := .int .u64 ((ins : Nat) : Int)) (R_load (v := .int .u64 ((ins : Nat) : Int)) (by kernel_rfl) (by kernel_rfl) ((hB4.cell 3).trans rfl)) ?_)
  refine sg [(48, .int .u64 (((ins : Nat) : Int).fdiv (2 ^ 7))), (49, .pointer (some ⟨w.heap.size, 3, none⟩))] (by kernel_rfl) ?_
  refine st (by rfl) (S_val (v := .int .u64 ((ins : Nat) : Int)) (R_load (v := .int .u64 ((ins : Nat) : Int)) (by kernel_rfl) (by kernel_rfl) ((hB4.cell 3).trans rfl)) ?_)
  refine sg [(51, .int .u64 (IntKind.u64.wrap (((ins : Nat) : Int) * 2 ^ 57)))] (by kernel_rfl) ?_
  obtain ⟨ib, hib⟩ := u64nat (BitVec.ofInt 64 (((ins : Nat) : Int).fdiv (2 ^ 7)) ||| BitVec.ofInt 64 (IntKind.u64.wrap (((ins : Nat) : Int) * 2 ^ 57))).toNat
  refine sg [(52, .int .u64 (IntKind.u64.wrap (BitVec.ofInt 64 (((ins : Nat) : Int).fdiv (2 ^ 7)) ||| BitVec.ofInt 64 (IntKind.u64.wrap (((ins : Nat) : Int) * 2 ^ 57))).toNat))] (by kernel_rfl) ?_
  rw [hib]
  have hz_ := hT0.size
  have lt15 := hB4.lt
  refine st (by rfl) (S_call (args := [.pointer (some ⟨p9, 0, none⟩), .int .i64 ((wd : Nat) : Int), .int .u64 ((xb : Nat) : Int), .int .u64 ((ib : Nat) : Int)]) (by kernel_rfl) (row_ok Fa p9 na wd ([[0]]) Ia xb ib _ hG (by omega) (by omega) (by omega)) ?_)
  rintro _ w14 ⟨Fb, nb, Ib, Rb, rcb, Hb, hcb, rowb, holdb, rfl, hXb, hYb, gRb, gHb, hG, mvb, hrib, hdb, aHb, hllb⟩
  have hT0 := (hT0).then mvb.1 hFb
  have hB4 := hB4.tch mvb.1 nF_hB4
  have hXa := hXa.mv mvb
  have hYa := hYa.mv mvb
  replace nF_hB4 : ¬ Fb (w.heap.size) := fun e => (mvb.2 _ e).elim nF_hB4 (fun q => by omega)
  replace hFb := mvb.ge hFb hz_
  have lt_hXb := hXb.lt
  have lt_hYb := hYb.lt
  have ge_hXb := gRb
  have ge_hYb := gHb
  have hle_hrib := hrib.le
  refine sg [(40, .tuple #[.slice Rb wd rcb, .slice Hb holdb.length hcb]), (54, .slice Rb wd rcb), (55, .slice Hb holdb.length hcb), (8, .slice Rb wd rcb), (9, .slice Hb holdb.length hcb)] (by kernel_rfl) ?_
  refine op_nil ?_
  refine W_seq ?_
  refine W_fg [(0, .agg #[.int .i64 ((wd : Nat) : Int), .int .u64 ((xa : Nat) : Int), .int .u64 ((xb : Nat) : Int), .int .u64 ((ins : Nat) : Int)]), (2, .pointer (some ⟨w.heap.size, 0, none⟩)), (4, .bool false), (5, .pointer (some ⟨p9, 0, none⟩)), (6, .slice Ra wd rca), (7, .slice Ha holda.length hca), (8, .slice Rb wd rcb), (9, .slice Hb holdb.length hcb), (24, .bool false), (28, .bool false)] (by kernel_rfl) fun ρ => ?_
  refine W_region (by kernel_rfl) ?_
  refine sg [(56, .pointer (some ⟨p9, 0, none⟩)), (57, .slice Ra wd rca), (58, .slice Rb wd rcb)] (by kernel_rfl) ?_
  have hz_ := hT0.size
  have lt28 := hB4.lt
  refine st (by rfl) (S_call (args := [.pointer (some ⟨p9, 0, none⟩), .slice Ra wd rca, .slice Rb wd rcb]) (by kernel_rfl) (radd_ok Fb p9 nb wd rca rcb Ra Rb rowa rowb ([[0]]) Ib _ hG hXa hXb (fun j hj => by have := hria.fit j hj; omega) (fun j hj => by have := hrib.fit j hj; omega) (by omega) (by omega) (by omega)) ?_)
  rintro _ w16 ⟨F17, n18, cs19, g20, r21, rfl, hrl22, hX23, hg24, hG, mv25, hrw26, hd27⟩
  have hT0 := (hT0).then mv25.1 hFb
  have hB4 := hB4.tch mv25.1 nF_hB4
  have hXa := hXa.mv mv25
  have hYa := hYa.mv mv25
  have hXb := hXb.mv mv25
  have hYb := hYb.mv mv25
  replace nF_hB4 : ¬ F17 (w.heap.size) := fun e => (mv25.2 _ e).elim nF_hB4 (fun q => by omega)
  replace hFb := mv25.ge hFb hz_
  have lt_hX23 := hX23.lt
  have ge_hX23 : ∀ c, blkOf (some ⟨g20, 0, none⟩) = some c → _ ≤ c := fun c hc => by injection hc with hc; rw [← hc]; exact hg24
  have hle29 := hrw26.le
  refine sg [(60, .pointer (some ⟨p9, 0, none⟩)), (61, .slice Ra wd rca), (62, .slice Rb wd rcb)] (by kernel_rfl) ?_
  have hz_ := hT0.size
  have lt42 := hB4.lt
  refine st (by rfl) (S_call (args := [.pointer (some ⟨p9, 0, none⟩), .slice Ra wd rca, .slice Rb wd rcb]) (by kernel_rfl) (rsub_ok F17 p9 n18 wd rca rcb Ra Rb rowa rowb cs19 Ib _ hG hXa hXb (fun j hj => by have := hria.fit j hj; omega) (fun j hj => by have := hrib.fit j hj; omega) (by omega) (by omega) (by omega)) ?_)
  rintro _ w30 ⟨F31, n32, cs33, g34, r35, rfl, hrl36, hX37, hg38, hG, mv39, hrw40, hd41⟩
  have hT0 := (hT0).then mv39.1 hFb
  have hB4 := hB4.tch mv39.1 nF_hB4
  have hXa := hXa.mv mv39
  have hYa := hYa.mv mv39
  have hXb := hXb.mv mv39
  have hYb := hYb.mv mv39
  have hX23 := hX23.mv mv39
  replace nF_hB4 : ¬ F31 (w.heap.size) := fun e => (mv39.2 _ e).elim nF_hB4 (fun q => by omega)
  replace hFb := mv39.ge hFb hz_
  have lt_hX37 := hX37.lt
  have ge_hX37 : ∀ c, blkOf (some ⟨g34, 0, none⟩) = some c → _ ≤ c := fun c hc => by injection hc with hc; rw [← hc]; exact hg38
  have hle43 := hrw40.le
  refine sg [(64, .pointer (some ⟨p9, 0, none⟩)), (65, .slice Ra wd rca)] (by kernel_rfl) ?_
  have hz_ := hT0.size
  have lt56 := hB4.lt
  refine st (by rfl) (S_call (args := [.pointer (some ⟨p9, 0, none⟩), .slice Ra wd rca]) (by kernel_rfl) (rneg2_ok F31 p9 n32 wd rca Ra rowa cs33 Ib _ hG hXa (fun j hj => by have := hria.fit j hj; omega) (by omega) (by omega) (by omega)) ?_)
  rintro _ w44 ⟨F45, n46, cs47, g48, r49, rfl, hrl50, hX51, hg52, hG, mv53, hrw54, hd55⟩
  have hT0 := (hT0).then mv53.1 hFb
  have hB4 := hB4.tch mv53.1 nF_hB4
  have hXa := hXa.mv mv53
  have hYa := hYa.mv mv53
  have hXb := hXb.mv mv53
  have hYb := hYb.mv mv53
  have hX23 := hX23.mv mv53
  have hX37 := hX37.mv mv53
  replace nF_hB4 : ¬ F45 (w.heap.size) := fun e => (mv53.2 _ e).elim nF_hB4 (fun q => by omega)
  replace hFb := mv53.ge hFb hz_
  have lt_hX51 := hX51.lt
  have ge_hX51 : ∀ c, blkOf (some ⟨g48, 0, none⟩) = some c → _ ≤ c := fun c hc => by injection hc with hc; rw [← hc]; exact hg52
  have hle57 := hrw54.le
  refine sg [(10, .slice (some ⟨g20, 0, none⟩) wd wd), (11, .slice (some ⟨g34, 0, none⟩) wd wd), (12, .slice (some ⟨g48, 0, none⟩) wd wd)] (by kernel_rfl) ?_
  refine op_nil ?_
  refine W_seq ?_
  refine W_fg [(0, .agg #[.int .i64 ((wd : Nat) : Int), .int .u64 ((xa : Nat) : Int), .int .u64 ((xb : Nat) : Int), .int .u64 ((ins : Nat) : Int)]), (2, .pointer (some ⟨w.heap.size, 0, none⟩)), (4, .bool false), (5, .pointer (some ⟨p9, 0, none⟩)), (6, .slice Ra wd rca), (7, .slice Ha holda.length hca), (8, .slice Rb wd rcb), (9, .slice Hb holdb.length hcb), (10, .slice (some ⟨g20, 0, none⟩) wd wd), (11, .slice (some ⟨g34, 0, none⟩) wd wd), (12, .slice (some ⟨g48, 0, none⟩) wd wd), (24, .bool false), (28, .bool false)] (by kernel_rfl) fun ρ => ?_
  refine W_region (by kernel_rfl) ?_
  refine sg [(67, .pointer (some ⟨p9, 0, none⟩)), (68, .slice Ra wd rca), (69, .slice Rb wd rcb)] (by kernel_rfl) ?_
  have hz_ := hT0.size
  have lt66 := hB4.lt
  refine st (by rfl) (S_call (args := [.pointer (some ⟨p9, 0, none⟩), .slice Ra wd rca, .slice Rb wd rcb]) (by kernel_rfl) (equal_ok F45 p9 n46 wd rca rcb Ra Rb rowa rowb cs47 Ib _ hG hXa hXb (fun j hj => by have := hria.fit j hj; omega) (fun j hj => by have := hrib.fit j hj; omega) (by omega) (by omega) (by omega)) ?_)
  rintro _ w58 ⟨F59, n60, cs61, x62, rfl, hG, mv63, hr64, hd65⟩
  have hT0 := (hT0).then mv63.1 hFb
  have hB4 := hB4.tch mv63.1 nF_hB4
  have hXa := hXa.mv mv63
  have hYa := hYa.mv mv63
  have hXb := hXb.mv mv63
  have hYb := hYb.mv mv63
  have hX23 := hX23.mv mv63
  have hX37 := hX37.mv mv63
  have hX51 := hX51.mv mv63
  replace nF_hB4 : ¬ F59 (w.heap.size) := fun e => (mv63.2 _ e).elim nF_hB4 (fun q => by omega)
  replace hFb := mv63.ge hFb hz_
  have hxb67 := hr64.2.2.1
  have hle68 := hr64.1
  refine sg [(71, .pointer (some ⟨p9, 0, none⟩)), (72, .slice Ra wd rca), (73, .slice Rb wd rcb)] (by kernel_rfl) ?_
  have hz_ := hT0.size
  have lt77 := hB4.lt
  refine st (by rfl) (S_call (args := [.pointer (some ⟨p9, 0, none⟩), .slice Ra wd rca, .slice Rb wd rcb]) (by kernel_rfl) (less_ok F59 p9 n60 wd rca rcb Ra Rb rowa rowb cs61 Ib _ hG hXa hXb (fun j hj => by have := hria.fit j hj; omega) (fun j hj => by have := hrib.fit j hj; omega) (by omega) (by omega) (by omega)) ?_)
  rintro _ w69 ⟨F70, n71, cs72, x73, rfl, hG, mv74, hr75, hd76⟩
  have hT0 := (hT0).then mv74.1 hFb
  have hB4 := hB4.tch mv74.1 nF_hB4
  have hXa := hXa.mv mv74
  have hYa := hYa.mv mv74
  have hXb := hXb.mv mv74
  have hYb := hYb.mv mv74
  have hX23 := hX23.mv mv74
  have hX37 := hX37.mv mv74
  have hX51 := hX51.mv mv74
  replace nF_hB4 : ¬ F70 (w.heap.size) := fun e => (mv74.2 _ e).elim nF_hB4 (fun q => by omega)
  replace hFb := mv74.ge hFb hz_
  have hxb78 := hr75.2.2.1
  have hle79 := hr75.1
  refine sg [(75, .pointer (some ⟨p9, 0, none⟩)), (76, .slice Ra wd rca), (77, .slice Rb wd rcb)] (by kernel_rfl) ?_
  have hz_ := hT0.size
  have lt88 := hB4.lt
  refine st (by rfl) (S_call (args := [.pointer (some ⟨p9, 0, none⟩), .slice Ra wd rca, .slice Rb wd rcb]) (by kernel_rfl) (sless_ok F70 p9 n71 wd rca rcb Ra Rb rowa rowb cs72 Ib _ hG hXa hXb (fun j hj => by have := hria.fit j hj; omega) (fun j hj => by have := hrib.fit j hj; omega) (by omega) (by omega) (by omega)) ?_)
  rintro _ w80 ⟨F81, n82, cs83, x84, rfl, hG, mv85, hr86, hd87⟩
  have hT0 := (hT0).then mv85.1 hFb
  have hB4 := hB4.tch mv85.1 nF_hB4
  have hXa := hXa.mv mv85
  have hYa := hYa.mv mv85
  have hXb := hXb.mv mv85
  have hYb := hYb.mv mv85
  have hX23 := hX23.mv mv85
  have hX37 := hX37.mv mv85
  have hX51 := hX51.mv mv85
  replace nF_hB4 : ¬ F81 (w.heap.size) := fun e => (mv85.2 _ e).elim nF_hB4 (fun q => by omega)
  replace hFb := mv85.ge hFb hz_
  have hxb89 := hr86.2.2.1
  have hle90 := hr86.1
  refine sg [(13, .int .i64 ((x62 : Nat) : Int)), (14, .int .i64 ((x73 : Nat) : Int)), (15, .int .i64 ((x84 : Nat) : Int))] (by kernel_rfl) ?_
  refine op_nil ?_
  refine W_seq ?_
  refine W_fg [(0, .agg #[.int .i64 ((wd : Nat) : Int), .int .u64 ((xa : Nat) : Int), .int .u64 ((xb : Nat) : Int), .int .u64 ((ins : Nat) : Int)]), (2, .pointer (some ⟨w.heap.size, 0, none⟩)), (4, .bool false), (5, .pointer (some ⟨p9, 0, none⟩)), (6, .slice Ra wd rca), (7, .slice Ha holda.length hca), (8, .slice Rb wd rcb), (9, .slice Hb holdb.length hcb), (10, .slice (some ⟨g20, 0, none⟩) wd wd), (11, .slice (some ⟨g34, 0, none⟩) wd wd), (12, .slice (some ⟨g48, 0, none⟩) wd wd), (13, .int .i64 ((x62 : Nat) : Int)), (14, .int .i64 ((x73 : Nat) : Int)), (15, .int .i64 ((x84 : Nat) : Int)), (24, .bool false), (28, .bool false)] (by kernel_rfl) fun ρ => ?_
  refine W_region (by kernel_rfl) ?_
  refine sg [(79, .pointer (some ⟨p9, 0, none⟩)), (80, .int .i64 ((x73 : Nat) : Int)), (81, .slice Ra wd rca), (82, .slice Rb wd rcb)] (by kernel_rfl) ?_
  have hz_ := hT0.size
  have lt103 := hB4.lt
  refine st (by rfl) (S_call (args := [.pointer (some ⟨p9, 0, none⟩), .int .i64 ((x73 : Nat) : Int), .slice Ra wd rca, .slice Rb wd rcb]) (by kernel_rfl) (itr_ok F81 p9 n82 wd rca rcb Ra Rb rowa rowb x73 cs83 Ib _ hG hXa hXb (fun j hj => by have := hria.fit j hj; omega) (fun j hj => by have := hrib.fit j hj; omega) (by omega) (by omega) (by omega) (by omega)) ?_)
  rintro _ w91 ⟨F92, n93, cs94, g95, r96, rfl, hrl97, hX98, hg99, hG, mv100, hrw101, hd102⟩
  have hT0 := (hT0).then mv100.1 hFb
  have hB4 := hB4.tch mv100.1 nF_hB4
  have hXa := hXa.mv mv100
  have hYa := hYa.mv mv100
  have hXb := hXb.mv mv100
  have hYb := hYb.mv mv100
  have hX23 := hX23.mv mv100
  have hX37 := hX37.mv mv100
  have hX51 := hX51.mv mv100
  replace nF_hB4 : ¬ F92 (w.heap.size) := fun e => (mv100.2 _ e).elim nF_hB4 (fun q => by omega)
  replace hFb := mv100.ge hFb hz_
  have lt_hX98 := hX98.lt
  have ge_hX98 : ∀ c, blkOf (some ⟨g95, 0, none⟩) = some c → _ ≤ c := fun c hc => by injection hc with hc; rw [← hc]; exact hg99
  have hle104 := hrw101.le
  refine sg [(16, .slice (some ⟨g95, 0, none⟩) wd wd)] (by kernel_rfl) ?_
  refine op_nil ?_
  refine W_seq ?_
  refine W_region (by kernel_rfl) ?_
  refine sg [(84, .pointer (some ⟨p9, 0, none⟩)), (85, .pointer (some ⟨w.heap.size, 0, none⟩))] (by kernel_rfl) ?_
  refine st (by rfl) (S_val (v := .int .i64 ((wd : Nat) : Int)) (R_load (v := .int .i64 ((wd : Nat) : Int)) (by kernel_rfl) (by kernel_rfl) ((hB4.cell 0).trans rfl)) ?_)
  refine sg [(87, .pointer (some ⟨w.heap.size, 2, none⟩))] (by kernel_rfl) ?_
  refine st (by rfl) (S_val (v := .int .u64 ((xb : Nat) : Int)) (R_load (v := .int .u64 ((xb : Nat) : Int)) (by kernel_rfl) (by kernel_rfl) ((hB4.cell 2).trans rfl)) ?_)
  have hltM := hG.1.lt
  have hpos_r107 := hG.2.pos
  refine st (by rfl) (S_call (args := [.pointer (some ⟨p9, 0, none⟩), .int .i64 ((wd : Nat) : Int), .int .u64 ((xb : Nat) : Int)]) (by kernel_rfl) (const_ok p9 wd xb _ (by omega) (by omega) (by omega)) ?_)
  rintro _ w105 ⟨g106, r107, rfl, hrl108, hBq109, hg110, hcv111, hT112⟩
  have hT0 := hT0.t0 hT112
  have hB4 := hB4.tch0 hT112
  have hG := hG.tch0 hT112
  have hXa := hXa.tch0 hT112
  have hYa := hYa.tch0 hT112
  have hXb := hXb.tch0 hT112
  have hYb := hYb.tch0 hT112
  have hX23 := hX23.tch0 hT112
  have hX37 := hX37.tch0 hT112
  have hX51 := hX51.tch0 hT112
  have hX98 := hX98.tch0 hT112
  have hX113 := RdX.ofP (m := wd) (F := F92) hBq109 (by rw [nats_length]; exact hrl108) (by omega) (fun e => by have := hltM _ e; omega)
  have lt_hX113 := hX113.lt
  have ge_hX113 : ∀ c, blkOf (some ⟨g106, 0, none⟩) = some c → _ ≤ c := fun c hc => by injection hc with hc; rw [← hc]; exact hg110
  refine sg [(17, .slice (some ⟨g106, 0, none⟩) wd wd)] (by kernel_rfl) ?_
  refine op_nil ?_
  refine W_seq ?_
  refine W_fg [(0, .agg #[.int .i64 ((wd : Nat) : Int), .int .u64 ((xa : Nat) : Int), .int .u64 ((xb : Nat) : Int), .int .u64 ((ins : Nat) : Int)]), (2, .pointer (some ⟨w.heap.size, 0, none⟩)), (4, .bool false), (5, .pointer (some ⟨p9, 0, none⟩)), (6, .slice Ra wd rca), (7, .slice Ha holda.length hca), (8, .slice Rb wd rcb), (9, .slice Hb holdb.length hcb), (10, .slice (some ⟨g20, 0, none⟩) wd wd), (11, .slice (some ⟨g34, 0, none⟩) wd wd), (12, .slice (some ⟨g48, 0, none⟩) wd wd), (13, .int .i64 ((x62 : Nat) : Int)), (14, .int .i64 ((x73 : Nat) : Int)), (15, .int .i64 ((x84 : Nat) : Int)), (16, .slice (some ⟨g95, 0, none⟩) wd wd), (17, .slice (some ⟨g106, 0, none⟩) wd wd), (24, .bool false), (28, .bool false)] (by kernel_rfl) fun ρ => ?_
  refine W_region (by kernel_rfl) ?_
  have hlt_ := hG.1.lt
  have lt118 := hB4.lt
  have lt_hXa := hXa.lt
  have lt_hYa := hYa.lt
  have lt_hXb := hXb.lt
  have lt_hYb := hYb.lt
  have lt_hX23 := hX23.lt
  have lt_hX37 := hX37.lt
  have lt_hX51 := hX51.lt
  have lt_hX98 := hX98.lt
  have lt_hX113 := hX113.lt
  have z119 := hT0.size
  have l120 := hB4.lt
  refine st (by rfl) (S_new (v := .slice (some ⟨w105.heap.size, 0, none⟩) 0 0) (ob := .cells #[] 3) (by kernel_rfl) fun w114 hT115 hs116 hB117 => ?_)
  replace hB117 : Blk w114 (w105.heap.size) 3 [] := hB117
  have hT0 := hT0.t0 hT115
  have hB4 := hB4.tch0 hT115
  have hG := hG.tch0 hT115
  have hXa := hXa.tch0 hT115
  have hYa := hYa.tch0 hT115
  have hXb := hXb.tch0 hT115
  have hYb := hYb.tch0 hT115
  have hX23 := hX23.tch0 hT115
  have hX37 := hX37.tch0 hT115
  have hX51 := hX51.tch0 hT115
  have hX98 := hX98.tch0 hT115
  have hX113 := hX113.tch0 hT115
  have nF_hB117 : ¬ F92 (w105.heap.size) := fun e => by have := hlt_ _ e; omega
  refine sg [(91, .slice Ha holda.length hca)] (by kernel_rfl) ?_
  have hHk := hB117.own0
  have nB_hHk : ∀ c, (Value.slice (some ⟨w105.heap.size, 0, none⟩) 0 0).ownBlock = some c → w105.heap.size ≤ c := fun c q => by have e : w105.heap.size = c := (by injection q); omega
  have nF_hHk : ∀ c, (Value.slice (some ⟨w105.heap.size, 0, none⟩) 0 0).ownBlock = some c → ¬ F92 c := fun c q e => by have e2 : w105.heap.size = c := (by injection q); have := hlt_ _ e; omega
  refine st (by rfl) (S_appendX 27 3 (.int .i64 0) 8 (n := 0) (m := holda.length) (A := some ⟨w105.heap.size, 0, none⟩) (B := Ha) (cp := 0) (c := hca) (cells := []) (news := nats holda) (by kernel_rfl) (by kernel_rfl) (by kernel_rfl) (by kernel_rfl) (by kernel_rfl) hHk hYa.1 (fun _ => aHa) (nats_oneV _) (by simp only [maxLen]; omega) (by omega) fun A121 cp122 w123 hHl hw124 hT125 => ?_)
  have hT0 := (hT0).then hT125 (fun c e => by have := nB_hHk c e; omega)
  have hB4 := hB4.tch hT125 (fun e => hHk.blk_ne hB4 (by decide) _ e rfl)
  have hG := hG.tchS hT125 (fun c e => nF_hHk c e)
  have hXa := hXa.st hT125 (fun c hc e => by have h1 := lt_hXa c hc; have h2 := nB_hHk c e; omega)
  have hYa := hYa.st hT125 (fun c hc e => by have h1 := lt_hYa c hc; have h2 := nB_hHk c e; omega)
  have hXb := hXb.st hT125 (fun c hc e => by have h1 := lt_hXb c hc; have h2 := nB_hHk c e; omega)
  have hYb := hYb.st hT125 (fun c hc e => by have h1 := lt_hYb c hc; have h2 := nB_hHk c e; omega)
  have hX23 := hX23.st hT125 (fun c hc e => by have h1 := lt_hX23 c hc; have h2 := nB_hHk c e; omega)
  have hX37 := hX37.st hT125 (fun c hc e => by have h1 := lt_hX37 c hc; have h2 := nB_hHk c e; omega)
  have hX51 := hX51.st hT125 (fun c hc e => by have h1 := lt_hX51 c hc; have h2 := nB_hHk c e; omega)
  have hX98 := hX98.st hT125 (fun c hc e => by have h1 := lt_hX98 c hc; have h2 := nB_hHk c e; omega)
  have hX113 := hX113.st hT125 (fun c hc e => by have h1 := lt_hX113 c hc; have h2 := nB_hHk c e; omega)
  have hsz126 := hT125.size
  have nB_hHl : ∀ c, (Value.slice A121 (0 + holda.length) cp122).ownBlock = some c → w105.heap.size ≤ c := fun c q => (hw124 c q).elim (nB_hHk c) (fun q => by omega)
  have nF_hHl : ∀ c, (Value.slice A121 (0 + holda.length) cp122).ownBlock = some c → ¬ F92 c := fun c q e => by have := nB_hHl c q; have := hlt_ _ e; omega
  refine sg [(93, .slice Hb holdb.length hcb)] (by kernel_rfl) ?_
  refine st (by rfl) (S_appendX 27 3 (.int .i64 0) 8 (n := 0 + holda.length) (m := holdb.length) (A := A121) (B := Hb) (cp := cp122) (c := hcb) (cells := ([] ++ nats holda)) (news := nats holdb) (by kernel_rfl) (by kernel_rfl) (by kernel_rfl) (by kernel_rfl) (by kernel_rfl) hHl hYb.1 (fun _ => aHb) (nats_oneV _) (by simp only [maxLen]; omega) (by omega) fun A127 cp128 w129 hHm hw130 hT131 => ?_)
  have hT0 := (hT0).then hT131 (fun c e => by have := nB_hHl c e; omega)
  have hB4 := hB4.tch hT131 (fun e => hHl.blk_ne hB4 (by decide) _ e rfl)
  have hG := hG.tchS hT131 (fun c e => nF_hHl c e)
  have hXa := hXa.st hT131 (fun c hc e => by have h1 := lt_hXa c hc; have h2 := nB_hHl c e; omega)
  have hYa := hYa.st hT131 (fun c hc e => by have h1 := lt_hYa c hc; have h2 := nB_hHl c e; omega)
  have hXb := hXb.st hT131 (fun c hc e => by have h1 := lt_hXb c hc; have h2 := nB_hHl c e; omega)
  have hYb := hYb.st hT131 (fun c hc e => by have h1 := lt_hYb c hc; have h2 := nB_hHl c e; omega)
  have hX23 := hX23.st hT131 (fun c hc e => by have h1 := lt_hX23 c hc; have h2 := nB_hHl c e; omega)
  have hX37 := hX37.st hT131 (fun c hc e => by have h1 := lt_hX37 c hc; have h2 := nB_hHl c e; omega)
  have hX51 := hX51.st hT131 (fun c hc e => by have h1 := lt_hX51 c hc; have h2 := nB_hHl c e; omega)
  have hX98 := hX98.st hT131 (fun c hc e => by have h1 := lt_hX98 c hc; have h2 := nB_hHl c e; omega)
  have hX113 := hX113.st hT131 (fun c hc e => by have h1 := lt_hX113 c hc; have h2 := nB_hHl c e; omega)
  have hsz132 := hT131.size
  have nB_hHm : ∀ c, (Value.slice A127 (0 + holda.length + holdb.length) cp128).ownBlock = some c → w105.heap.size ≤ c := fun c q => (hw130 c q).elim (nB_hHl c) (fun q => by omega)
  have nF_hHm : ∀ c, (Value.slice A127 (0 + holda.length + holdb.length) cp128).ownBlock = some c → ¬ F92 c := fun c q e => by have := nB_hHm c q; have := hlt_ _ e; omega
  refine sg [(18, .slice A127 (0 + holda.length + holdb.length) cp128)] (by kernel_rfl) ?_
  refine op_nil ?_
  refine W_seq ?_
  refine W_region (by kernel_rfl) ?_
  refine sg [(96, .pointer (some ⟨p9, 0, none⟩)), (97, .slice A127 (0 + holda.length + holdb.length) cp128)] (by kernel_rfl) ?_
  refine st (by rfl) (S_call (args := [.pointer (some ⟨p9, 0, none⟩), .slice A127 (0 + holda.length + holdb.length) cp128]) (by kernel_rfl) (close_ok F92 p9 n93 (0 + holda.length + holdb.length) cp128 cs94 Ib A127 (holda ++ holdb) (fun v => decide (2 * v ∈ holda ++ holdb)) _ hG (by omega) (by have q := hHm.rd1; rw [List.nil_append, ← nats_append] at q; exact q) (two_in hria hrib) (two_fit hria hrib)) ?_)
  rintro _ w133 ⟨K, J, ck, cj, kn, tr, be, rfl, hK0, hJ0, hmod, hbt, hall, hTC⟩
  have hT0 := hT0.t0 hTC
  have hB4 := hB4.tch0 hTC
  have hG := hG.tch0 hTC
  have hXa := hXa.tch0 hTC
  have hYa := hYa.tch0 hTC
  have hXb := hXb.tch0 hTC
  have hYb := hYb.tch0 hTC
  have hX23 := hX23.tch0 hTC
  have hX37 := hX37.tch0 hTC
  have hX51 := hX51.tch0 hTC
  have hX98 := hX98.tch0 hTC
  have hX113 := hX113.tch0 hTC
  have hHm := hHm.tch0 hTC
  have hTK := Tch.refl N0 w133
  have hK := hK0
  have hJ := hJ0
  have hmd7 := hmod
  have hmd6 := hmd7.sub hrw101.sub
  have hmd5 := hmd6.sub hr86.2.1
  have hmd4 := hmd5.sub hr75.2.1
  have hmd3 := hmd4.sub hr64.2.1
  have hmd2 := hmd3.sub hrw54.sub
  have hmd1 := hmd2.sub hrw40.sub
  have hmd0 := hmd1.sub hrw26.sub
  have hva := (two_says hria hrib hmd0 hmd0 hbt).1
  have hvb := (two_says hria hrib hmd0 hmd0 hbt).2
  refine sg [(95, .tuple #[.agg #[.slice K n93 ck, .slice J n93 cj], .int .i64 1]), (99, .agg #[.slice K n93 ck, .slice J n93 cj]), (100, .int .i64 1)] (by kernel_rfl) ?_
  have hz138 := hTK.size
  have hlt_ := hG.1.lt
  have lt139 := hB4.lt
  have lt_hXa := hXa.lt
  have lt_hYa := hYa.lt
  have lt_hXb := hXb.lt
  have lt_hYb := hYb.lt
  have lt_hX23 := hX23.lt
  have lt_hX37 := hX37.lt
  have lt_hX51 := hX51.lt
  have lt_hX98 := hX98.lt
  have lt_hX113 := hX113.lt
  have z140 := hT0.size
  have l141 := hB4.lt
  refine st (by rfl) (S_new (v := .pointer (some ⟨w133.heap.size, 0, none⟩)) (ob := .cells #[.slice none 0 0, .slice none 0 0] 54) (by kernel_rfl) fun w134 hT135 hs136 hB137 => ?_)
  replace hB137 : Blk w134 (w133.heap.size) 54 [.slice none 0 0, .slice none 0 0] := hB137
  have hT0 := hT0.t0 hT135
  have hB4 := hB4.tch0 hT135
  have hG := hG.tch0 hT135
  have hXa := hXa.tch0 hT135
  have hYa := hYa.tch0 hT135
  have hXb := hXb.tch0 hT135
  have hYb := hYb.tch0 hT135
  have hX23 := hX23.tch0 hT135
  have hX37 := hX37.tch0 hT135
  have hX51 := hX51.tch0 hT135
  have hX98 := hX98.tch0 hT135
  have hX113 := hX113.tch0 hT135
  have hHm := hHm.tch0 hT135
  have hTK := hTK.t0 hT135
  have hK := hK0.tch0 hTK
  have hJ := hJ0.tch0 hTK
  have nF_hB137 : ¬ F92 (w133.heap.size) := fun e => by have := hlt_ _ e; omega
  refine st (by rfl) (S_storeA (b := w133.heap.size) (j := 0) (cs := [.slice K n93 ck, .slice J n93 cj]) (by kernel_rfl) (by kernel_rfl) (by kernel_rfl) (by simp [oneV]) hB137 (by simp) fun w142 hT143 hs144 hB137' => ?_)
  have hT0 := (hT0).then hT143 (fun c e => by have : c = w133.heap.size := e; omega)
  have hB4 := hB4.tch hT143 (hB4.ne hB137 (by decide))
  have hG := hG.tchS hT143 (fun c e q => by cases e; exact nF_hB137 q)
  have hXa := hXa.st hT143 (fun c hc e => by have h1 := lt_hXa c hc; have h2 := ge_hXa c hc; have : c = w133.heap.size := e; omega)
  have hYa := hYa.st hT143 (fun c hc e => by have h1 := lt_hYa c hc; have h2 := ge_hYa c hc; have : c = w133.heap.size := e; omega)
  have hXb := hXb.st hT143 (fun c hc e => by have h1 := lt_hXb c hc; have h2 := ge_hXb c hc; have : c = w133.heap.size := e; omega)
  have hYb := hYb.st hT143 (fun c hc e => by have h1 := lt_hYb c hc; have h2 := ge_hYb c hc; have : c = w133.heap.size := e; omega)
  have hX23 := hX23.st hT143 (fun c hc e => by have h1 := lt_hX23 c hc; have h2 := ge_hX23 c hc; have : c = w133.heap.size := e; omega)
  have hX37 := hX37.st hT143 (fun c hc e => by have h1 := lt_hX37 c hc; have h2 := ge_hX37 c hc; have : c = w133.heap.size := e; omega)
  have hX51 := hX51.st hT143 (fun c hc e => by have h1 := lt_hX51 c hc; have h2 := ge_hX51 c hc; have : c = w133.heap.size := e; omega)
  have hX98 := hX98.st hT143 (fun c hc e => by have h1 := lt_hX98 c hc; have h2 := ge_hX98 c hc; have : c = w133.heap.size := e; omega)
  have hX113 := hX113.st hT143 (fun c hc e => by have h1 := lt_hX113 c hc; have h2 := ge_hX113 c hc; have : c = w133.heap.size := e; omega)
  have hHm := hHm.tch hT143 (fun c hc e => hHm.blk_ne hB137 (by decide) c hc e)
  have hTK := hTK.then hT143 (fun c e => by have : c = w133.heap.size := e; omega)
  have hK := hK0.tch0 hTK
  have hJ := hJ0.tch0 hTK
  replace hB137 : Blk w142 w133.heap.size 54 [.slice K n93 ck, .slice J n93 cj] := hB137'
  refine sg [(20, .int .i64 1)] (by kernel_rfl) ?_
  refine op_nil ?_
  refine W_seq ?_
  refine W_seq ?_
  refine W_fg [(0, .agg #[.int .i64 ((wd : Nat) : Int), .int .u64 ((xa : Nat) : Int), .int .u64 ((xb : Nat) : Int), .int .u64 ((ins : Nat) : Int)]), (2, .pointer (some ⟨w.heap.size, 0, none⟩)), (4, .bool false), (5, .pointer (some ⟨p9, 0, none⟩)), (6, .slice Ra wd rca), (7, .slice Ha holda.length hca), (8, .slice Rb wd rcb), (9, .slice Hb holdb.length hcb), (10, .slice (some ⟨g20, 0, none⟩) wd wd), (11, .slice (some ⟨g34, 0, none⟩) wd wd), (12, .slice (some ⟨g48, 0, none⟩) wd wd), (13, .int .i64 ((x62 : Nat) : Int)), (14, .int .i64 ((x73 : Nat) : Int)), (15, .int .i64 ((x84 : Nat) : Int)), (16, .slice (some ⟨g95, 0, none⟩) wd wd), (17, .slice (some ⟨g106, 0, none⟩) wd wd), (18, .slice A127 (0 + holda.length + holdb.length) cp128), (19, .pointer (some ⟨w133.heap.size, 0, none⟩)), (20, .int .i64 1), (24, .bool false), (28, .bool false)] (by kernel_rfl) fun ρ => ?_
  refine W_region (by kernel_rfl) ?_
  refine sg [(101, .int .i64 1), (102, .bool false)] (by kernel_rfl) ?_
  refine op_nil ?_
  refine W_cond false (by kernel_rfl) (by kernel_rfl) (fun h => nomatch h) (fun _ => ?_)
  refine W_skip ?_
  refine W_seq ?_
  refine W_region (by kernel_rfl) ?_
  refine sg [(103, .pointer (some ⟨w.heap.size, 2, none⟩))] (by kernel_rfl) ?_
  refine st (by rfl) (S_val (v := .int .u64 ((xb : Nat) : Int)) (R_load (v := .int .u64 ((xb : Nat) : Int)) (by kernel_rfl) (by kernel_rfl) ((hB4.cell 2).trans rfl)) ?_)
  refine sg [(21, .int .u64 ((xb : Nat) : Int))] (by kernel_rfl) ?_
  refine op_nil ?_
  refine W_seq ?_
  refine W_seq ?_
  refine W_region (by kernel_rfl) ?_
  refine st (by rfl) (S_val (v := .agg #[.int .i64 ((wd : Nat) : Int), .int .u64 ((xa : Nat) : Int), .int .u64 ((xb : Nat) : Int), .int .u64 ((ins : Nat) : Int)]) (R_loadA [.int .i64 ((wd : Nat) : Int), .int .u64 ((xa : Nat) : Int), .int .u64 ((xb : Nat) : Int), .int .u64 ((ins : Nat) : Int)] (by kernel_rfl) (by kernel_rfl) (by kernel_rfl) (fun k u hk => by rw [hB4.cell]; exact get_part _ 0 _ k u rfl hk)) ?_)
  refine st (by rfl) (S_call (args := [.int .i64 13, .agg #[.int .i64 ((wd : Nat) : Int), .int .u64 ((xa : Nat) : Int), .int .u64 ((xb : Nat) : Int), .int .u64 ((ins : Nat) : Int)]]) (by kernel_rfl) (binary13_ok wd xa xb ins _ (by omega) (by omega) ha hb) ?_)
  rintro _ w145 ⟨rfl, hT146⟩
  have hT0 := hT0.t0 hT146
  have hB4 := hB4.tch0 hT146
  have hG := hG.tch0 hT146
  have hXa := hXa.tch0 hT146
  have hYa := hYa.tch0 hT146
  have hXb := hXb.tch0 hT146
  have hYb := hYb.tch0 hT146
  have hX23 := hX23.tch0 hT146
  have hX37 := hX37.tch0 hT146
  have hX51 := hX51.tch0 hT146
  have hX98 := hX98.tch0 hT146
  have hX113 := hX113.tch0 hT146
  have hHm := hHm.tch0 hT146
  have hTK := hTK.t0 hT146
  have hK := hK0.tch0 hTK
  have hJ := hJ0.tch0 hTK
  have hB137 := hB137.tch0 hT146
  refine sg [(107, .bool (((bitN (decide (cutN wd xa < cutN wd xb)) : Nat) : Int) == 1))] (by kernel_rfl) ?_
  refine op_nil ?_
  refine W_cond (((bitN (decide (cutN wd xa < cutN wd xb)) : Nat) : Int) == 1) (by kernel_rfl) (by kernel_rfl) (fun hc147 => ?_) (fun hc147 => ?_)
  · replace hc147 : ((bitN (decide (cutN wd xa < cutN wd xb)) : Nat) : Int) = 1 := (eq_of_beq hc147)
    refine W_fg [(0, .agg #[.int .i64 ((wd : Nat) : Int), .int .u64 ((xa : Nat) : Int), .int .u64 ((xb : Nat) : Int), .int .u64 ((ins : Nat) : Int)]), (2, .pointer (some ⟨w.heap.size, 0, none⟩)), (4, .bool false), (5, .pointer (some ⟨p9, 0, none⟩)), (6, .slice Ra wd rca), (7, .slice Ha holda.length hca), (8, .slice Rb wd rcb), (9, .slice Hb holdb.length hcb), (10, .slice (some ⟨g20, 0, none⟩) wd wd), (11, .slice (some ⟨g34, 0, none⟩) wd wd), (12, .slice (some ⟨g48, 0, none⟩) wd wd), (13, .int .i64 ((x62 : Nat) : Int)), (14, .int .i64 ((x73 : Nat) : Int)), (15, .int .i64 ((x84 : Nat) : Int)), (16, .slice (some ⟨g95, 0, none⟩) wd wd), (17, .slice (some ⟨g106, 0, none⟩) wd wd), (18, .slice A127 (0 + holda.length + holdb.length) cp128), (19, .pointer (some ⟨w133.heap.size, 0, none⟩)), (20, .int .i64 1), (21, .int .u64 ((xb : Nat) : Int)), (24, .bool false), (28, .bool false), (102, .bool false), (107, .bool (((bitN (decide (cutN wd xa < cutN wd xb)) : Nat) : Int) == 1))] (by kernel_rfl) fun ρ => ?_
    refine W_region (by kernel_rfl) ?_
    refine sg [(108, .pointer (some ⟨w.heap.size, 1, none⟩))] (by kernel_rfl) ?_
    refine st (by rfl) (S_val (v := .int .u64 ((xa : Nat) : Int)) (R_load (v := .int .u64 ((xa : Nat) : Int)) (by kernel_rfl) (by kernel_rfl) ((hB4.cell 1).trans rfl)) ?_)
    refine sg [(21, .int .u64 ((xa : Nat) : Int))] (by kernel_rfl) ?_
    refine op_nil ?_
    refine W_seq ?_
    refine W_draw (fun w' => Blk w' (w133.heap.size) 54 [.slice K n93 ck, .slice J n93 cj] ∧ Blk w' (w.heap.size) 46 [.int .i64 ((wd : Nat) : Int), .int .u64 ((xa : Nat) : Int), .int .u64 ((xb : Nat) : Int), .int .u64 ((ins : Nat) : Int)]) (by kernel_rfl) (by kernel_rfl) (by kernel_rfl) fun w148 hT149 hh150 => ?_
    have hT0 := hT0.t0 hT149
    have hB4 := hB4.tch0 hT149
    have hG := hG.tch0 hT149
    have hXa := hXa.tch0 hT149
    have hYa := hYa.tch0 hT149
    have hXb := hXb.tch0 hT149
    have hYb := hYb.tch0 hT149
    have hX23 := hX23.tch0 hT149
    have hX37 := hX37.tch0 hT149
    have hX51 := hX51.tch0 hT149
    have hX98 := hX98.tch0 hT149
    have hX113 := hX113.tch0 hT149
    have hHm := hHm.tch0 hT149
    have hTK := hTK.t0 hT149
    have hK := hK0.tch0 hTK
    have hJ := hJ0.tch0 hTK
    have hB137 := hB137.tch0 hT149
    refine dtk [1, 2] #[false, true, true, false, false, false, false, false, false, false, false, false, false, false, false, false, false, false, false, false, false, false, false, false, false, false, false, false, false, false, false, false, false, false, false, false, false, false, false, false, false, false, false, false, false, false, false, false, false, false, false, false, false, false, false, false, false, false, false, false, false, false, false, false, false, false, false, false, false, false, false, false, false] [(111, .slice (some ⟨g20, 0, none⟩) wd wd), (112, .pointer (some ⟨w.heap.size, 0, none⟩))] ⟨hB137, hB4⟩ (by kernel_rfl) ?_
    refine d_val (v := .agg #[.slice K n93 ck, .slice J n93 cj]) 0 (by rfl) (by kernel_rfl) (by kernel_rfl) (by kernel_rfl) (fun w' hs => by obtain ⟨hB137, hB4⟩ := hs; exact R_loadA [.slice K n93 ck, .slice J n93 cj] (by kernel_rfl) (by kernel_rfl) (by kernel_rfl) (fun k u hk => by rw [hB137.cell]; exact get_part _ 0 _ k u rfl hk)) ⟨hB137, hB4⟩ ?_
    refine d_val (v := .int .i64 ((wd : Nat) : Int)) 3 (by rfl) (by kernel_rfl) (by kernel_rfl) (by kernel_rfl) (fun w' hs => by obtain ⟨hB137, hB4⟩ := hs; exact R_load (v := .int .i64 ((wd : Nat) : Int)) (by kernel_rfl) (by kernel_rfl) ((hB4.cell 0).trans rfl)) ⟨hB137, hB4⟩ ?_
    refine d_val (v := .agg #[.int .i64 ((wd : Nat) : Int), .int .u64 ((xa : Nat) : Int), .int .u64 ((xb : Nat) : Int), .int .u64 ((ins : Nat) : Int)]) 4 (by rfl) (by kernel_rfl) (by kernel_rfl) (by kernel_rfl) (fun w' hs => by obtain ⟨hB137, hB4⟩ := hs; exact R_loadA [.int .i64 ((wd : Nat) : Int), .int .u64 ((xa : Nat) : Int), .int .u64 ((xb : Nat) : Int), .int .u64 ((ins : Nat) : Int)] (by kernel_rfl) (by kernel_rfl) (by kernel_rfl) (fun k u hk => by rw [hB4.cell]; exact get_part _ 0 _ k u rfl hk)) ⟨hB137, hB4⟩ ?_
    refine d_one 5 (by kernel_rfl) (by rfl) (by kernel_rfl) (S_call (args := [.int .i64 1, .agg #[.int .i64 ((wd : Nat) : Int), .int .u64 ((xa : Nat) : Int), .int .u64 ((xb : Nat) : Int), .int .u64 ((ins : Nat) : Int)]]) (by kernel_rfl) (binary1_ok wd xa xb ins _ (by omega) (by omega) ha hb) ?_)
    rintro _ w151 ⟨rfl, hT152⟩
    have hT0 := hT0.t0 hT152
    have hB4 := hB4.tch0 hT152
    have hG := hG.tch0 hT152
    have hXa := hXa.tch0 hT152
    have hYa := hYa.tch0 hT152
    have hXb := hXb.tch0 hT152
    have hYb := hYb.tch0 hT152
    have hX23 := hX23.tch0 hT152
    have hX37 := hX37.tch0 hT152
    have hX51 := hX51.tch0 hT152
    have hX98 := hX98.tch0 hT152
    have hX113 := hX113.tch0 hT152
    have hHm := hHm.tch0 hT152
    have hTK := hTK.t0 hT152
    have hK := hK0.tch0 hTK
    have hJ := hJ0.tch0 hTK
    have hB137 := hB137.tch0 hT152
    refine ⟨⟨hB137, hB4⟩, ?_⟩
    refine d_one 6 (by kernel_rfl) (by rfl) (by kernel_rfl) (S_call (args := [.agg #[.slice K n93 ck, .slice J n93 cj], .slice (some ⟨g20, 0, none⟩) wd wd, .int .i64 ((wd : Nat) : Int), .int .u64 ((cutN wd (cutN wd xa + cutN wd xb) : Nat) : Int)]) (by kernel_rfl) (is_okV n93 wd wd K J (some ⟨g20, 0, none⟩) ck cj kn tr r21 be (cutN wd (cutN wd xa + cutN wd xb)) _ hK hJ hX23.1 (by omega) hall (fun j hj => by have := hrw26.fit j hj; omega) (by omega) (by omega) (by first | omega | exact Nat.lt_of_lt_of_le (cutN_lt _ _) (pw64 (by omega)) | exact Nat.lt_of_lt_of_le (Nat.mod_lt _ (pw_pos _)) (pw64 (by omega)) | exact Nat.mod_lt _ (by omega)) (add_says hva hvb (fun j hj => hrw26.val be hmd1 j hj))) ?_)
    rintro _ w153 ⟨rfl, hT154⟩
    have hT0 := hT0.t0 hT154
    have hB4 := hB4.tch0 hT154
    have hG := hG.tch0 hT154
    have hXa := hXa.tch0 hT154
    have hYa := hYa.tch0 hT154
    have hXb := hXb.tch0 hT154
    have hYb := hYb.tch0 hT154
    have hX23 := hX23.tch0 hT154
    have hX37 := hX37.tch0 hT154
    have hX51 := hX51.tch0 hT154
    have hX98 := hX98.tch0 hT154
    have hX113 := hX113.tch0 hT154
    have hHm := hHm.tch0 hT154
    have hTK := hTK.t0 hT154
    have hK := hK0.tch0 hTK
    have hJ := hJ0.tch0 hTK
    have hB137 := hB137.tch0 hT154
    refine ⟨⟨hB137, hB4⟩, ?_⟩
    refine dtk [7, 8, 10, 11] #[true, true, true, true, true, true, true, true, true, false, true, true, false, false, false, false, false, false, false, false, false, false, false, false, false, false, false, false, false, false, false, false, false, false, false, false, false, false, false, false, false, false, false, false, false, false, false, false, false, false, false, false, false, false, false, false, false, false, false, false, false, false, false, false, false, false, false, false, false, false, false, false, false] [(117, .bool true), (118, .bool true), (120, .slice (some ⟨g34, 0, none⟩) wd wd), (121, .pointer (some ⟨w.heap.size, 0, none⟩))] ⟨hB137, hB4⟩ (by kernel_rfl) ?_
    refine d_val (v := .agg #[.slice K n93 ck, .slice J n93 cj]) 9 (by rfl) (by kernel_rfl) (by kernel_rfl) (by kernel_rfl) (fun w' hs => by obtain ⟨hB137, hB4⟩ := hs; exact R_loadA [.slice K n93 ck, .slice J n93 cj] (by kernel_rfl) (by kernel_rfl) (by kernel_rfl) (fun k u hk => by rw [hB137.cell]; exact get_part _ 0 _ k u rfl hk)) ⟨hB137, hB4⟩ ?_
    refine d_val (v := .int .i64 ((wd : Nat) : Int)) 12 (by rfl) (by kernel_rfl) (by kernel_rfl) (by kernel_rfl) (fun w' hs => by obtain ⟨hB137, hB4⟩ := hs; exact R_load (v := .int .i64 ((wd : Nat) : Int)) (by kernel_rfl) (by kernel_rfl) ((hB4.cell 0).trans rfl)) ⟨hB137, hB4⟩ ?_
    refine d_val (v := .agg #[.int .i64 ((wd : Nat) : Int), .int .u64 ((xa : Nat) : Int), .int .u64 ((xb : Nat) : Int), .int .u64 ((ins : Nat) : Int)]) 13 (by rfl) (by kernel_rfl) (by kernel_rfl) (by kernel_rfl) (fun w' hs => by obtain ⟨hB137, hB4⟩ := hs; exact R_loadA [.int .i64 ((wd : Nat) : Int), .int .u64 ((xa : Nat) : Int), .int .u64 ((xb : Nat) : Int), .int .u64 ((ins : Nat) : Int)] (by kernel_rfl) (by kernel_rfl) (by kernel_rfl) (fun k u hk => by rw [hB4.cell]; exact get_part _ 0 _ k u rfl hk)) ⟨hB137, hB4⟩ ?_
    refine d_one 14 (by kernel_rfl) (by rfl) (by kernel_rfl) (S_call (args := [.int .i64 2, .agg #[.int .i64 ((wd : Nat) : Int), .int .u64 ((xa : Nat) : Int), .int .u64 ((xb : Nat) : Int), .int .u64 ((ins : Nat) : Int)]]) (by kernel_rfl) (binary2_ok wd xa xb ins _ (by omega) (by omega) ha hb) ?_)
    rintro _ w155 ⟨rfl, hT156⟩
    have hT0 := hT0.t0 hT156
    have hB4 := hB4.tch0 hT156
    have hG := hG.tch0 hT156
    have hXa := hXa.tch0 hT156
    have hYa := hYa.tch0 hT156
    have hXb := hXb.tch0 hT156
    have hYb := hYb.tch0 hT156
    have hX23 := hX23.tch0 hT156
    have hX37 := hX37.tch0 hT156
    have hX51 := hX51.tch0 hT156
    have hX98 := hX98.tch0 hT156
    have hX113 := hX113.tch0 hT156
    have hHm := hHm.tch0 hT156
    have hTK := hTK.t0 hT156
    have hK := hK0.tch0 hTK
    have hJ := hJ0.tch0 hTK
    have hB137 := hB137.tch0 hT156
    refine ⟨⟨hB137, hB4⟩, ?_⟩
    refine d_one 15 (by kernel_rfl) (by rfl) (by kernel_rfl) (S_call (args := [.agg #[.slice K n93 ck, .slice J n93 cj], .slice (some ⟨g34, 0, none⟩) wd wd, .int .i64 ((wd : Nat) : Int), .int .u64 ((subN wd (cutN wd xa) (cutN wd xb) : Nat) : Int)]) (by kernel_rfl) (is_okV n93 wd wd K J (some ⟨g34, 0, none⟩) ck cj kn tr r35 be (subN wd (cutN wd xa) (cutN wd xb)) _ hK hJ hX37.1 (by omega) hall (fun j hj => by have := hrw40.fit j hj; omega) (by omega) (by omega) (by first | omega | exact Nat.lt_of_lt_of_le (cutN_lt _ _) (pw64 (by omega)) | exact Nat.lt_of_lt_of_le (Nat.mod_lt _ (pw_pos _)) (pw64 (by omega)) | exact Nat.mod_lt _ (by omega)) (sub_says hva hvb (fun j hj => hrw40.val be hmd2 j hj))) ?_)
    rintro _ w157 ⟨rfl, hT158⟩
    have hT0 := hT0.t0 hT158
    have hB4 := hB4.tch0 hT158
    have hG := hG.tch0 hT158
    have hXa := hXa.tch0 hT158
    have hYa := hYa.tch0 hT158
    have hXb := hXb.tch0 hT158
    have hYb := hYb.tch0 hT158
    have hX23 := hX23.tch0 hT158
    have hX37 := hX37.tch0 hT158
    have hX51 := hX51.tch0 hT158
    have hX98 := hX98.tch0 hT158
    have hX113 := hX113.tch0 hT158
    have hHm := hHm.tch0 hT158
    have hTK := hTK.t0 hT158
    have hK := hK0.tch0 hTK
    have hJ := hJ0.tch0 hTK
    have hB137 := hB137.tch0 hT158
    refine ⟨⟨hB137, hB4⟩, ?_⟩
    refine dtk [16, 17, 18, 20, 21, 23] #[true, true, true, true, true, true, true, true, true, true, true, true, true, true, true, true, true, true, true, false, true, true, false, true, false, false, false, false, false, false, false, false, false, false, false, false, false, false, false, false, false, false, false, false, false, false, false, false, false, false, false, false, false, false, false, false, false, false, false, false, false, false, false, false, false, false, false, false, false, false, false, false, false] [(126, .bool true), (127, .bool true), (128, .bool true), (130, .slice (some ⟨g48, 0, none⟩) wd wd), (131, .pointer (some ⟨w.heap.size, 0, none⟩)), (133, .pointer (some ⟨w.heap.size, 1, none⟩))] ⟨hB137, hB4⟩ (by kernel_rfl) ?_
    refine d_val (v := .agg #[.slice K n93 ck, .slice J n93 cj]) 19 (by rfl) (by kernel_rfl) (by kernel_rfl) (by kernel_rfl) (fun w' hs => by obtain ⟨hB137, hB4⟩ := hs; exact R_loadA [.slice K n93 ck, .slice J n93 cj] (by kernel_rfl) (by kernel_rfl) (by kernel_rfl) (fun k u hk => by rw [hB137.cell]; exact get_part _ 0 _ k u rfl hk)) ⟨hB137, hB4⟩ ?_
    refine d_val (v := .int .i64 ((wd : Nat) : Int)) 22 (by rfl) (by kernel_rfl) (by kernel_rfl) (by kernel_rfl) (fun w' hs => by obtain ⟨hB137, hB4⟩ := hs; exact R_load (v := .int .i64 ((wd : Nat) : Int)) (by kernel_rfl) (by kernel_rfl) ((hB4.cell 0).trans rfl)) ⟨hB137, hB4⟩ ?_
    refine d_val (v := .int .u64 ((xa : Nat) : Int)) 24 (by rfl) (by kernel_rfl) (by kernel_rfl) (by kernel_rfl) (fun w' hs => by obtain ⟨hB137, hB4⟩ := hs; exact R_load (v := .int .u64 ((xa : Nat) : Int)) (by kernel_rfl) (by kernel_rfl) ((hB4.cell 1).trans rfl)) ⟨hB137, hB4⟩ ?_
    refine dtk [25] #[true, true, true, true, true, true, true, true, true, true, true, true, true, true, true, true, true, true, true, true, true, true, true, true, true, true, false, false, false, false, false, false, false, false, false, false, false, false, false, false, false, false, false, false, false, false, false, false, false, false, false, false, false, false, false, false, false, false, false, false, false, false, false, false, false, false, false, false, false, false, false, false, false] [(135, .int .u64 (IntKind.u64.wrap (0 - ((xa : Nat) : Int))))] ⟨hB137, hB4⟩ (by kernel_rfl) ?_
    rw [neg_u64 xa (by omega)]
    refine d_one 26 (by kernel_rfl) (by rfl) (by kernel_rfl) (S_call (args := [.agg #[.slice K n93 ck, .slice J n93 cj], .slice (some ⟨g48, 0, none⟩) wd wd, .int .i64 ((wd : Nat) : Int), .int .u64 (((0 + (18446744073709551616 - xa)) % 18446744073709551616 : Nat) : Int)]) (by kernel_rfl) (is_okV n93 wd wd K J (some ⟨g48, 0, none⟩) ck cj kn tr r49 be ((0 + (18446744073709551616 - xa)) % 18446744073709551616) _ hK hJ hX51.1 (by omega) hall (fun j hj => by have := hrw54.fit j hj; omega) (by omega) (by omega) (by first | omega | exact Nat.lt_of_lt_of_le (cutN_lt _ _) (pw64 (by omega)) | exact Nat.lt_of_lt_of_le (Nat.mod_lt _ (pw_pos _)) (pw64 (by omega)) | exact Nat.mod_lt _ (by omega)) (neg_says hva (by omega) ha (fun j hj => hrw54.val be hmd3 j hj))) ?_)
    rintro _ w159 ⟨rfl, hT160⟩
    have hT0 := hT0.t0 hT160
    have hB4 := hB4.tch0 hT160
    have hG := hG.tch0 hT160
    have hXa := hXa.tch0 hT160
    have hYa := hYa.tch0 hT160
    have hXb := hXb.tch0 hT160
    have hYb := hYb.tch0 hT160
    have hX23 := hX23.tch0 hT160
    have hX37 := hX37.tch0 hT160
    have hX51 := hX51.tch0 hT160
    have hX98 := hX98.tch0 hT160
    have hX113 := hX113.tch0 hT160
    have hHm := hHm.tch0 hT160
    have hTK := hTK.t0 hT160
    have hK := hK0.tch0 hTK
    have hJ := hJ0.tch0 hTK
    have hB137 := hB137.tch0 hT160
    refine ⟨⟨hB137, hB4⟩, ?_⟩
    refine dtk [27, 28, 29, 31] #[true, true, true, true, true, true, true, true, true, true, true, true, true, true, true, true, true, true, true, true, true, true, true, true, true, true, true, true, true, true, false, true, false, false, false, false, false, false, false, false, false, false, false, false, false, false, false, false, false, false, false, false, false, false, false, false, false, false, false, false, false, false, false, false, false, false, false, false, false, false, false, false, false] [(137, .bool true), (138, .bool true), (139, .bool true), (141, .int .i64 ((x62 : Nat) : Int))] ⟨hB137, hB4⟩ (by kernel_rfl) ?_
    refine d_val (v := .agg #[.slice K n93 ck, .slice J n93 cj]) 30 (by rfl) (by kernel_rfl) (by kernel_rfl) (by kernel_rfl) (fun w' hs => by obtain ⟨hB137, hB4⟩ := hs; exact R_loadA [.slice K n93 ck, .slice J n93 cj] (by kernel_rfl) (by kernel_rfl) (by kernel_rfl) (fun k u hk => by rw [hB137.cell]; exact get_part _ 0 _ k u rfl hk)) ⟨hB137, hB4⟩ ?_
    refine d_val (v := .agg #[.int .i64 ((wd : Nat) : Int), .int .u64 ((xa : Nat) : Int), .int .u64 ((xb : Nat) : Int), .int .u64 ((ins : Nat) : Int)]) 32 (by rfl) (by kernel_rfl) (by kernel_rfl) (by kernel_rfl) (fun w' hs => by obtain ⟨hB137, hB4⟩ := hs; exact R_loadA [.int .i64 ((wd : Nat) : Int), .int .u64 ((xa : Nat) : Int), .int .u64 ((xb : Nat) : Int), .int .u64 ((ins : Nat) : Int)] (by kernel_rfl) (by kernel_rfl) (by kernel_rfl) (fun k u hk => by rw [hB4.cell]; exact get_part _ 0 _ k u rfl hk)) ⟨hB137, hB4⟩ ?_
    refine d_one 33 (by kernel_rfl) (by rfl) (by kernel_rfl) (S_call (args := [.int .i64 12, .agg #[.int .i64 ((wd : Nat) : Int), .int .u64 ((xa : Nat) : Int), .int .u64 ((xb : Nat) : Int), .int .u64 ((ins : Nat) : Int)]]) (by kernel_rfl) (binary12_ok wd xa xb ins _ (by omega) (by omega) ha hb) ?_)
    rintro _ w161 ⟨rfl, hT162⟩
    have hT0 := hT0.t0 hT162
    have hB4 := hB4.tch0 hT162
    have hG := hG.tch0 hT162
    have hXa := hXa.tch0 hT162
    have hYa := hYa.tch0 hT162
    have hXb := hXb.tch0 hT162
    have hYb := hYb.tch0 hT162
    have hX23 := hX23.tch0 hT162
    have hX37 := hX37.tch0 hT162
    have hX51 := hX51.tch0 hT162
    have hX98 := hX98.tch0 hT162
    have hX113 := hX113.tch0 hT162
    have hHm := hHm.tch0 hT162
    have hTK := hTK.t0 hT162
    have hK := hK0.tch0 hTK
    have hJ := hJ0.tch0 hTK
    have hB137 := hB137.tch0 hT162
    refine ⟨⟨hB137, hB4⟩, ?_⟩
    refine d_one 34 (by kernel_rfl) (by rfl) (by kernel_rfl) (S_call (args := [.agg #[.slice K n93 ck, .slice J n93 cj], .int .i64 ((x62 : Nat) : Int), .int .u64 ((bitN (decide (cutN wd xa = cutN wd xb)) : Nat) : Int)]) (by kernel_rfl) (bit_ok n93 x62 K J ck cj kn tr be (decide (cutN wd xa = cutN wd xb)) _ hK hJ (by omega) hall (by omega) (eq_says hva hvb (hr64.2.2.2 be hmd4))) ?_)
    rintro _ w163 ⟨rfl, hT164⟩
    have hT0 := hT0.t0 hT164
    have hB4 := hB4.tch0 hT164
    have hG := hG.tch0 hT164
    have hXa := hXa.tch0 hT164
    have hYa := hYa.tch0 hT164
    have hXb := hXb.tch0 hT164
    have hYb := hYb.tch0 hT164
    have hX23 := hX23.tch0 hT164
    have hX37 := hX37.tch0 hT164
    have hX51 := hX51.tch0 hT164
    have hX98 := hX98.tch0 hT164
    have hX113 := hX113.tch0 hT164
    have hHm := hHm.tch0 hT164
    have hTK := hTK.t0 hT164
    have hK := hK0.tch0 hTK
    have hJ := hJ0.tch0 hTK
    have hB137 := hB137.tch0 hT164
    refine ⟨⟨hB137, hB4⟩, ?_⟩
    refine dtk [35, 36, 38] #[true, true, true, true, true, true, true, true, true, true, true, true, true, true, true, true, true, true, true, true, true, true, true, true, true, true, true, true, true, true, true, true, true, true, true, true, true, false, true, false, false, false, false, false, false, false, false, false, false, false, false, false, false, false, false, false, false, false, false, false, false, false, false, false, false, false, false, false, false, false, false, false, false] [(145, .bool true), (146, .bool true), (148, .int .i64 ((x73 : Nat) : Int))] ⟨hB137, hB4⟩ (by kernel_rfl) ?_
    refine d_val (v := .agg #[.slice K n93 ck, .slice J n93 cj]) 37 (by rfl) (by kernel_rfl) (by kernel_rfl) (by kernel_rfl) (fun w' hs => by obtain ⟨hB137, hB4⟩ := hs; exact R_loadA [.slice K n93 ck, .slice J n93 cj] (by kernel_rfl) (by kernel_rfl) (by kernel_rfl) (fun k u hk => by rw [hB137.cell]; exact get_part _ 0 _ k u rfl hk)) ⟨hB137, hB4⟩ ?_
    refine d_val (v := .agg #[.int .i64 ((wd : Nat) : Int), .int .u64 ((xa : Nat) : Int), .int .u64 ((xb : Nat) : Int), .int .u64 ((ins : Nat) : Int)]) 39 (by rfl) (by kernel_rfl) (by kernel_rfl) (by kernel_rfl) (fun w' hs => by obtain ⟨hB137, hB4⟩ := hs; exact R_loadA [.int .i64 ((wd : Nat) : Int), .int .u64 ((xa : Nat) : Int), .int .u64 ((xb : Nat) : Int), .int .u64 ((ins : Nat) : Int)] (by kernel_rfl) (by kernel_rfl) (by kernel_rfl) (fun k u hk => by rw [hB4.cell]; exact get_part _ 0 _ k u rfl hk)) ⟨hB137, hB4⟩ ?_
    refine d_one 40 (by kernel_rfl) (by rfl) (by kernel_rfl) (S_call (args := [.int .i64 13, .agg #[.int .i64 ((wd : Nat) : Int), .int .u64 ((xa : Nat) : Int), .int .u64 ((xb : Nat) : Int), .int .u64 ((ins : Nat) : Int)]]) (by kernel_rfl) (binary13_ok wd xa xb ins _ (by omega) (by omega) ha hb) ?_)
    rintro _ w165 ⟨rfl, hT166⟩
    have hT0 := hT0.t0 hT166
    have hB4 := hB4.tch0 hT166
    have hG := hG.tch0 hT166
    have hXa := hXa.tch0 hT166
    have hYa := hYa.tch0 hT166
    have hXb := hXb.tch0 hT166
    have hYb := hYb.tch0 hT166
    have hX23 := hX23.tch0 hT166
    have hX37 := hX37.tch0 hT166
    have hX51 := hX51.tch0 hT166
    have hX98 := hX98.tch0 hT166
    have hX113 := hX113.tch0 hT166
    have hHm := hHm.tch0 hT166
    have hTK := hTK.t0 hT166
    have hK := hK0.tch0 hTK
    have hJ := hJ0.tch0 hTK
    have hB137 := hB137.tch0 hT166
    refine ⟨⟨hB137, hB4⟩, ?_⟩
    refine d_one 41 (by kernel_rfl) (by rfl) (by kernel_rfl) (S_call (args := [.agg #[.slice K n93 ck, .slice J n93 cj], .int .i64 ((x73 : Nat) : Int), .int .u64 ((bitN (decide (cutN wd xa < cutN wd xb)) : Nat) : Int)]) (by kernel_rfl) (bit_ok n93 x73 K J ck cj kn tr be (decide (cutN wd xa < cutN wd xb)) _ hK hJ (by omega) hall (by omega) (less_says hva hvb (hr75.2.2.2 be hmd5))) ?_)
    rintro _ w167 ⟨rfl, hT168⟩
    have hT0 := hT0.t0 hT168
    have hB4 := hB4.tch0 hT168
    have hG := hG.tch0 hT168
    have hXa := hXa.tch0 hT168
    have hYa := hYa.tch0 hT168
    have hXb := hXb.tch0 hT168
    have hYb := hYb.tch0 hT168
    have hX23 := hX23.tch0 hT168
    have hX37 := hX37.tch0 hT168
    have hX51 := hX51.tch0 hT168
    have hX98 := hX98.tch0 hT168
    have hX113 := hX113.tch0 hT168
    have hHm := hHm.tch0 hT168
    have hTK := hTK.t0 hT168
    have hK := hK0.tch0 hTK
    have hJ := hJ0.tch0 hTK
    have hB137 := hB137.tch0 hT168
    refine ⟨⟨hB137, hB4⟩, ?_⟩
    refine dtk [42, 43, 45] #[true, true, true, true, true, true, true, true, true, true, true, true, true, true, true, true, true, true, true, true, true, true, true, true, true, true, true, true, true, true, true, true, true, true, true, true, true, true, true, true, true, true, true, true, false, true, false, false, false, false, false, false, false, false, false, false, false, false, false, false, false, false, false, false, false, false, false, false, false, false, false, false, false] [(152, .bool true), (153, .bool true), (155, .int .i64 ((x84 : Nat) : Int))] ⟨hB137, hB4⟩ (by kernel_rfl) ?_
    refine d_val (v := .agg #[.slice K n93 ck, .slice J n93 cj]) 44 (by rfl) (by kernel_rfl) (by kernel_rfl) (by kernel_rfl) (fun w' hs => by obtain ⟨hB137, hB4⟩ := hs; exact R_loadA [.slice K n93 ck, .slice J n93 cj] (by kernel_rfl) (by kernel_rfl) (by kernel_rfl) (fun k u hk => by rw [hB137.cell]; exact get_part _ 0 _ k u rfl hk)) ⟨hB137, hB4⟩ ?_
    refine d_val (v := .agg #[.int .i64 ((wd : Nat) : Int), .int .u64 ((xa : Nat) : Int), .int .u64 ((xb : Nat) : Int), .int .u64 ((ins : Nat) : Int)]) 46 (by rfl) (by kernel_rfl) (by kernel_rfl) (by kernel_rfl) (fun w' hs => by obtain ⟨hB137, hB4⟩ := hs; exact R_loadA [.int .i64 ((wd : Nat) : Int), .int .u64 ((xa : Nat) : Int), .int .u64 ((xb : Nat) : Int), .int .u64 ((ins : Nat) : Int)] (by kernel_rfl) (by kernel_rfl) (by kernel_rfl) (fun k u hk => by rw [hB4.cell]; exact get_part _ 0 _ k u rfl hk)) ⟨hB137, hB4⟩ ?_
    refine d_one 47 (by kernel_rfl) (by rfl) (by kernel_rfl) (S_call (args := [.int .i64 14, .agg #[.int .i64 ((wd : Nat) : Int), .int .u64 ((xa : Nat) : Int), .int .u64 ((xb : Nat) : Int), .int .u64 ((ins : Nat) : Int)]]) (by kernel_rfl) (binary14_ok wd xa xb ins _ (by omega) (by omega) ha hb) ?_)
    rintro _ w169 ⟨rfl, hT170⟩
    have hT0 := hT0.t0 hT170
    have hB4 := hB4.tch0 hT170
    have hG := hG.tch0 hT170
    have hXa := hXa.tch0 hT170
    have hYa := hYa.tch0 hT170
    have hXb := hXb.tch0 hT170
    have hYb := hYb.tch0 hT170
    have hX23 := hX23.tch0 hT170
    have hX37 := hX37.tch0 hT170
    have hX51 := hX51.tch0 hT170
    have hX98 := hX98.tch0 hT170
    have hX113 := hX113.tch0 hT170
    have hHm := hHm.tch0 hT170
    have hTK := hTK.t0 hT170
    have hK := hK0.tch0 hTK
    have hJ := hJ0.tch0 hTK
    have hB137 := hB137.tch0 hT170
    refine ⟨⟨hB137, hB4⟩, ?_⟩
    refine d_one 48 (by kernel_rfl) (by rfl) (by kernel_rfl) (S_call (args := [.agg #[.slice K n93 ck, .slice J n93 cj], .int .i64 ((x84 : Nat) : Int), .int .u64 ((bitN (decide (sgn wd xa < sgn wd xb)) : Nat) : Int)]) (by kernel_rfl) (bit_ok n93 x84 K J ck cj kn tr be (decide (sgn wd xa < sgn wd xb)) _ hK hJ (by omega) hall (by omega) (sless_says hva hvb (by omega) (hr86.2.2.2 be hmd6))) ?_)
    rintro _ w171 ⟨rfl, hT172⟩
    have hT0 := hT0.t0 hT172
    have hB4 := hB4.tch0 hT172
    have hG := hG.tch0 hT172
    have hXa := hXa.tch0 hT172
    have hYa := hYa.tch0 hT172
    have hXb := hXb.tch0 hT172
    have hYb := hYb.tch0 hT172
    have hX23 := hX23.tch0 hT172
    have hX37 := hX37.tch0 hT172
    have hX51 := hX51.tch0 hT172
    have hX98 := hX98.tch0 hT172
    have hX113 := hX113.tch0 hT172
    have hHm := hHm.tch0 hT172
    have hTK := hTK.t0 hT172
    have hK := hK0.tch0 hTK
    have hJ := hJ0.tch0 hTK
    have hB137 := hB137.tch0 hT172
    refine ⟨⟨hB137, hB4⟩, ?_⟩
    refine dtk [49, 50, 52, 53, 55] #[true, true, true, true, true, true, true, true, true, true, true, true, true, true, true, true, true, true, true, true, true, true, true, true, true, true, true, true, true, true, true, true, true, true, true, true, true, true, true, true, true, true, true, true, true, true, true, true, true, true, true, false, true, true, false, true, false, false, false, false, false, false, false, false, false, false, false, false, false, false, false, false, false] [(159, .bool true), (160, .bool true), (162, .slice (some ⟨g95, 0, none⟩) wd wd), (163, .pointer (some ⟨w.heap.size, 0, none⟩)), (165, .int .u64 ((xa : Nat) : Int))] ⟨hB137, hB4⟩ (by kernel_rfl) ?_
    refine d_val (v := .agg #[.slice K n93 ck, .slice J n93 cj]) 51 (by rfl) (by kernel_rfl) (by kernel_rfl) (by kernel_rfl) (fun w' hs => by obtain ⟨hB137, hB4⟩ := hs; exact R_loadA [.slice K n93 ck, .slice J n93 cj] (by kernel_rfl) (by kernel_rfl) (by kernel_rfl) (fun k u hk => by rw [hB137.cell]; exact get_part _ 0 _ k u rfl hk)) ⟨hB137, hB4⟩ ?_
    refine d_val (v := .int .i64 ((wd : Nat) : Int)) 54 (by rfl) (by kernel_rfl) (by kernel_rfl) (by kernel_rfl) (fun w' hs => by obtain ⟨hB137, hB4⟩ := hs; exact R_load (v := .int .i64 ((wd : Nat) : Int)) (by kernel_rfl) (by kernel_rfl) ((hB4.cell 0).trans rfl)) ⟨hB137, hB4⟩ ?_
    refine d_one 56 (by kernel_rfl) (by rfl) (by kernel_rfl) (S_call (args := [.agg #[.slice K n93 ck, .slice J n93 cj], .slice (some ⟨g95, 0, none⟩) wd wd, .int .i64 ((wd : Nat) : Int), .int .u64 ((xa : Nat) : Int)]) (by kernel_rfl) (is_okV n93 wd wd K J (some ⟨g95, 0, none⟩) ck cj kn tr r96 be xa _ hK hJ hX98.1 (by omega) hall (fun j hj => by have := hrw101.fit j hj; omega) (by omega) (by omega) (by first | omega | exact Nat.lt_of_lt_of_le (cutN_lt _ _) (pw64 (by omega)) | exact Nat.lt_of_lt_of_le (Nat.mod_lt _ (pw_pos _)) (pw64 (by omega)) | exact Nat.mod_lt _ (by omega)) ((pick_says hva hvb (less_says hva hvb (hr75.2.2.2 be hmd5)) (fun j hj => hrw101.val be hmd7 j hj)).1 (by assumption))) ?_)
    rintro _ w173 ⟨rfl, hT174⟩
    have hT0 := hT0.t0 hT174
    have hB4 := hB4.tch0 hT174
    have hG := hG.tch0 hT174
    have hXa := hXa.tch0 hT174
    have hYa := hYa.tch0 hT174
    have hXb := hXb.tch0 hT174
    have hYb := hYb.tch0 hT174
    have hX23 := hX23.tch0 hT174
    have hX37 := hX37.tch0 hT174
    have hX51 := hX51.tch0 hT174
    have hX98 := hX98.tch0 hT174
    have hX113 := hX113.tch0 hT174
    have hHm := hHm.tch0 hT174
    have hTK := hTK.t0 hT174
    have hK := hK0.tch0 hTK
    have hJ := hJ0.tch0 hTK
    have hB137 := hB137.tch0 hT174
    refine ⟨⟨hB137, hB4⟩, ?_⟩
    refine dtk [57, 58, 59, 61, 62, 64] #[true, true, true, true, true, true, true, true, true, true, true, true, true, true, true, true, true, true, true, true, true, true, true, true, true, true, true, true, true, true, true, true, true, true, true, true, true, true, true, true, true, true, true, true, true, true, true, true, true, true, true, true, true, true, true, true, true, true, true, true, false, true, true, false, true, false, false, false, false, false, false, false, false] [(167, .bool true), (168, .bool true), (169, .bool true), (171, .slice (some ⟨g106, 0, none⟩) wd wd), (172, .pointer (some ⟨w.heap.size, 0, none⟩)), (174, .pointer (some ⟨w.heap.size, 2, none⟩))] ⟨hB137, hB4⟩ (by kernel_rfl) ?_
    refine d_val (v := .agg #[.slice K n93 ck, .slice J n93 cj]) 60 (by rfl) (by kernel_rfl) (by kernel_rfl) (by kernel_rfl) (fun w' hs => by obtain ⟨hB137, hB4⟩ := hs; exact R_loadA [.slice K n93 ck, .slice J n93 cj] (by kernel_rfl) (by kernel_rfl) (by kernel_rfl) (fun k u hk => by rw [hB137.cell]; exact get_part _ 0 _ k u rfl hk)) ⟨hB137, hB4⟩ ?_
    refine d_val (v := .int .i64 ((wd : Nat) : Int)) 63 (by rfl) (by kernel_rfl) (by kernel_rfl) (by kernel_rfl) (fun w' hs => by obtain ⟨hB137, hB4⟩ := hs; exact R_load (v := .int .i64 ((wd : Nat) : Int)) (by kernel_rfl) (by kernel_rfl) ((hB4.cell 0).trans rfl)) ⟨hB137, hB4⟩ ?_
    refine d_val (v := .int .u64 ((xb : Nat) : Int)) 65 (by rfl) (by kernel_rfl) (by kernel_rfl) (by kernel_rfl) (fun w' hs => by obtain ⟨hB137, hB4⟩ := hs; exact R_load (v := .int .u64 ((xb : Nat) : Int)) (by kernel_rfl) (by kernel_rfl) ((hB4.cell 2).trans rfl)) ⟨hB137, hB4⟩ ?_
    refine d_one 66 (by kernel_rfl) (by rfl) (by kernel_rfl) (S_call (args := [.agg #[.slice K n93 ck, .slice J n93 cj], .slice (some ⟨g106, 0, none⟩) wd wd, .int .i64 ((wd : Nat) : Int), .int .u64 ((xb : Nat) : Int)]) (by kernel_rfl) (is_okV n93 wd wd K J (some ⟨g106, 0, none⟩) ck cj kn tr r107 be xb _ hK hJ hX113.1 (by omega) hall (fun j hj => by rw [hcv111 j hj]; split <;> omega) (by omega) (by omega) (by first | omega | exact Nat.lt_of_lt_of_le (cutN_lt _ _) (pw64 (by omega)) | exact Nat.lt_of_lt_of_le (Nat.mod_lt _ (pw_pos _)) (pw64 (by omega)) | exact Nat.mod_lt _ (by omega)) (bval_cut (con_says (be := be) hG.2 hmod hcv111))) ?_)
    rintro _ w175 ⟨rfl, hT176⟩
    have hT0 := hT0.t0 hT176
    have hB4 := hB4.tch0 hT176
    have hG := hG.tch0 hT176
    have hXa := hXa.tch0 hT176
    have hYa := hYa.tch0 hT176
    have hXb := hXb.tch0 hT176
    have hYb := hYb.tch0 hT176
    have hX23 := hX23.tch0 hT176
    have hX37 := hX37.tch0 hT176
    have hX51 := hX51.tch0 hT176
    have hX98 := hX98.tch0 hT176
    have hX113 := hX113.tch0 hT176
    have hHm := hHm.tch0 hT176
    have hTK := hTK.t0 hT176
    have hK := hK0.tch0 hTK
    have hJ := hJ0.tch0 hTK
    have hB137 := hB137.tch0 hT176
    refine ⟨⟨hB137, hB4⟩, ?_⟩
    refine dtk [67, 68, 69] #[true, true, true, true, true, true, true, true, true, true, true, true, true, true, true, true, true, true, true, true, true, true, true, true, true, true, true, true, true, true, true, true, true, true, true, true, true, true, true, true, true, true, true, true, true, true, true, true, true, true, true, true, true, true, true, true, true, true, true, true, true, true, true, true, true, true, true, true, true, true, false, false, false] [(177, .bool true), (178, .bool true), (179, .bool true)] ⟨hB137, hB4⟩ (by kernel_rfl) ?_
    refine d_one 70 (by kernel_rfl) (by rfl) (by kernel_rfl) (S_call (args := []) (by kernel_rfl) (awake20_ok _) ?_)
    rintro _ w177 ⟨rfl, hT178⟩
    have hT0 := hT0.t0 hT178
    have hB4 := hB4.tch0 hT178
    have hG := hG.tch0 hT178
    have hXa := hXa.tch0 hT178
    have hYa := hYa.tch0 hT178
    have hXb := hXb.tch0 hT178
    have hYb := hYb.tch0 hT178
    have hX23 := hX23.tch0 hT178
    have hX37 := hX37.tch0 hT178
    have hX51 := hX51.tch0 hT178
    have hX98 := hX98.tch0 hT178
    have hX113 := hX113.tch0 hT178
    have hHm := hHm.tch0 hT178
    have hTK := hTK.t0 hT178
    have hK := hK0.tch0 hTK
    have hJ := hJ0.tch0 hTK
    have hB137 := hB137.tch0 hT178
    refine ⟨⟨hB137, hB4⟩, ?_⟩
    refine dtk [71, 72] #[true, true, true, true, true, true, true, true, true, true, true, true, true, true, true, true, true, true, true, true, true, true, true, true, true, true, true, true, true, true, true, true, true, true, true, true, true, true, true, true, true, true, true, true, true, true, true, true, true, true, true, true, true, true, true, true, true, true, true, true, true, true, true, true, true, true, true, true, true, true, true, true, true] [(181, .bool true), (4, .bool true)] ⟨hB137, hB4⟩ (by kernel_rfl) ?_
    refine d_done (by kernel_rfl) ?_
    refine W_ret ?_
    exact ⟨_, Res_of (v := .bool true) (by kernel_rfl), ⟨rfl, hT0⟩⟩
  · replace hc147 : ((bitN (decide (cutN wd xa < cutN wd xb)) : Nat) : Int) ≠ 1 := (ne_of_beq_false hc147)
    refine W_skip ?_
    refine W_seq ?_
    refine W_fg [(0, .agg #[.int .i64 ((wd : Nat) : Int), .int .u64 ((xa : Nat) : Int), .int .u64 ((xb : Nat) : Int), .int .u64 ((ins : Nat) : Int)]), (2, .pointer (some ⟨w.heap.size, 0, none⟩)), (4, .bool false), (5, .pointer (some ⟨p9, 0, none⟩)), (6, .slice Ra wd rca), (7, .slice Ha holda.length hca), (8, .slice Rb wd rcb), (9, .slice Hb holdb.length hcb), (10, .slice (some ⟨g20, 0, none⟩) wd wd), (11, .slice (some ⟨g34, 0, none⟩) wd wd), (12, .slice (some ⟨g48, 0, none⟩) wd wd), (13, .int .i64 ((x62 : Nat) : Int)), (14, .int .i64 ((x73 : Nat) : Int)), (15, .int .i64 ((x84 : Nat) : Int)), (16, .slice (some ⟨g95, 0, none⟩) wd wd), (17, .slice (some ⟨g106, 0, none⟩) wd wd), (18, .slice A127 (0 + holda.length + holdb.length) cp128), (19, .pointer (some ⟨w133.heap.size, 0, none⟩)), (20, .int .i64 1), (21, .int .u64 ((xb : Nat) : Int)), (24, .bool false), (28, .bool false), (102, .bool false), (107, .bool (((bitN (decide (cutN wd xa < cutN wd xb)) : Nat) : Int) == 1))] (by kernel_rfl) fun ρ => ?_
    refine W_draw (fun w' => Blk w' (w133.heap.size) 54 [.slice K n93 ck, .slice J n93 cj] ∧ Blk w' (w.heap.size) 46 [.int .i64 ((wd : Nat) : Int), .int .u64 ((xa : Nat) : Int), .int .u64 ((xb : Nat) : Int), .int .u64 ((ins : Nat) : Int)]) (by kernel_rfl) (by kernel_rfl) (by kernel_rfl) fun w179 hT180 hh181 => ?_
    have hT0 := hT0.t0 hT180
    have hB4 := hB4.tch0 hT180
    have hG := hG.tch0 hT180
    have hXa := hXa.tch0 hT180
    have hYa := hYa.tch0 hT180
    have hXb := hXb.tch0 hT180
    have hYb := hYb.tch0 hT180
    have hX23 := hX23.tch0 hT180
    have hX37 := hX37.tch0 hT180
    have hX51 := hX51.tch0 hT180
    have hX98 := hX98.tch0 hT180
    have hX113 := hX113.tch0 hT180
    have hHm := hHm.tch0 hT180
    have hTK := hTK.t0 hT180
    have hK := hK0.tch0 hTK
    have hJ := hJ0.tch0 hTK
    have hB137 := hB137.tch0 hT180
    refine dtk [1, 2] #[false, true, true, false, false, false, false, false, false, false, false, false, false, false, false, false, false, false, false, false, false, false, false, false, false, false, false, false, false, false, false, false, false, false, false, false, false, false, false, false, false, false, false, false, false, false, false, false, false, false, false, false, false, false, false, false, false, false, false, false, false, false, false, false, false, false, false, false, false, false, false, false, false] [(111, .slice (some ⟨g20, 0, none⟩) wd wd), (112, .pointer (some ⟨w.heap.size, 0, none⟩))] ⟨hB137, hB4⟩ (by kernel_rfl) ?_
    refine d_val (v := .agg #[.slice K n93 ck, .slice J n93 cj]) 0 (by rfl) (by kernel_rfl) (by kernel_rfl) (by kernel_rfl) (fun w' hs => by obtain ⟨hB137, hB4⟩ := hs; exact R_loadA [.slice K n93 ck, .slice J n93 cj] (by kernel_rfl) (by kernel_rfl) (by kernel_rfl) (fun k u hk => by rw [hB137.cell]; exact get_part _ 0 _ k u rfl hk)) ⟨hB137, hB4⟩ ?_
    refine d_val (v := .int .i64 ((wd : Nat) : Int)) 3 (by rfl) (by kernel_rfl) (by kernel_rfl) (by kernel_rfl) (fun w' hs => by obtain ⟨hB137, hB4⟩ := hs; exact R_load (v := .int .i64 ((wd : Nat) : Int)) (by kernel_rfl) (by kernel_rfl) ((hB4.cell 0).trans rfl)) ⟨hB137, hB4⟩ ?_
    refine d_val (v := .agg #[.int .i64 ((wd : Nat) : Int), .int .u64 ((xa : Nat) : Int), .int .u64 ((xb : Nat) : Int), .int .u64 ((ins : Nat) : Int)]) 4 (by rfl) (by kernel_rfl) (by kernel_rfl) (by kernel_rfl) (fun w' hs => by obtain ⟨hB137, hB4⟩ := hs; exact R_loadA [.int .i64 ((wd : Nat) : Int), .int .u64 ((xa : Nat) : Int), .int .u64 ((xb : Nat) : Int), .int .u64 ((ins : Nat) : Int)] (by kernel_rfl) (by kernel_rfl) (by kernel_rfl) (fun k u hk => by rw [hB4.cell]; exact get_part _ 0 _ k u rfl hk)) ⟨hB137, hB4⟩ ?_
    refine d_one 5 (by kernel_rfl) (by rfl) (by kernel_rfl) (S_call (args := [.int .i64 1, .agg #[.int .i64 ((wd : Nat) : Int), .int .u64 ((xa : Nat) : Int), .int .u64 ((xb : Nat) : Int), .int .u64 ((ins : Nat) : Int)]]) (by kernel_rfl) (binary1_ok wd xa xb ins _ (by omega) (by omega) ha hb) ?_)
    rintro _ w182 ⟨rfl, hT183⟩
    have hT0 := hT0.t0 hT183
    have hB4 := hB4.tch0 hT183
    have hG := hG.tch0 hT183
    have hXa := hXa.tch0 hT183
    have hYa := hYa.tch0 hT183
    have hXb := hXb.tch0 hT183
    have hYb := hYb.tch0 hT183
    have hX23 := hX23.tch0 hT183
    have hX37 := hX37.tch0 hT183
    have hX51 := hX51.tch0 hT183
    have hX98 := hX98.tch0 hT183
    have hX113 := hX113.tch0 hT183
    have hHm := hHm.tch0 hT183
    have hTK := hTK.t0 hT183
    have hK := hK0.tch0 hTK
    have hJ := hJ0.tch0 hTK
    have hB137 := hB137.tch0 hT183
    refine ⟨⟨hB137, hB4⟩, ?_⟩
    refine d_one 6 (by kernel_rfl) (by rfl) (by kernel_rfl) (S_call (args := [.agg #[.slice K n93 ck, .slice J n93 cj], .slice (some ⟨g20, 0, none⟩) wd wd, .int .i64 ((wd : Nat) : Int), .int .u64 ((cutN wd (cutN wd xa + cutN wd xb) : Nat) : Int)]) (by kernel_rfl) (is_okV n93 wd wd K J (some ⟨g20, 0, none⟩) ck cj kn tr r21 be (cutN wd (cutN wd xa + cutN wd xb)) _ hK hJ hX23.1 (by omega) hall (fun j hj => by have := hrw26.fit j hj; omega) (by omega) (by omega) (by first | omega | exact Nat.lt_of_lt_of_le (cutN_lt _ _) (pw64 (by omega)) | exact Nat.lt_of_lt_of_le (Nat.mod_lt _ (pw_pos _)) (pw64 (by omega)) | exact Nat.mod_lt _ (by omega)) (add_says hva hvb (fun j hj => hrw26.val be hmd1 j hj))) ?_)
    rintro _ w184 ⟨rfl, hT185⟩
    have hT0 := hT0.t0 hT185
    have hB4 := hB4.tch0 hT185
    have hG := hG.tch0 hT185
    have hXa := hXa.tch0 hT185
    have hYa := hYa.tch0 hT185
    have hXb := hXb.tch0 hT185
    have hYb := hYb.tch0 hT185
    have hX23 := hX23.tch0 hT185
    have hX37 := hX37.tch0 hT185
    have hX51 := hX51.tch0 hT185
    have hX98 := hX98.tch0 hT185
    have hX113 := hX113.tch0 hT185
    have hHm := hHm.tch0 hT185
    have hTK := hTK.t0 hT185
    have hK := hK0.tch0 hTK
    have hJ := hJ0.tch0 hTK
    have hB137 := hB137.tch0 hT185
    refine ⟨⟨hB137, hB4⟩, ?_⟩
    refine dtk [7, 8, 10, 11] #[true, true, true, true, true, true, true, true, true, false, true, true, false, false, false, false, false, false, false, false, false, false, false, false, false, false, false, false, false, false, false, false, false, false, false, false, false, false, false, false, false, false, false, false, false, false, false, false, false, false, false, false, false, false, false, false, false, false, false, false, false, false, false, false, false, false, false, false, false, false, false, false, false] [(117, .bool true), (118, .bool true), (120, .slice (some ⟨g34, 0, none⟩) wd wd), (121, .pointer (some ⟨w.heap.size, 0, none⟩))] ⟨hB137, hB4⟩ (by kernel_rfl) ?_
    refine d_val (v := .agg #[.slice K n93 ck, .slice J n93 cj]) 9 (by rfl) (by kernel_rfl) (by kernel_rfl) (by kernel_rfl) (fun w' hs => by obtain ⟨hB137, hB4⟩ := hs; exact R_loadA [.slice K n93 ck, .slice J n93 cj] (by kernel_rfl) (by kernel_rfl) (by kernel_rfl) (fun k u hk => by rw [hB137.cell]; exact get_part _ 0 _ k u rfl hk)) ⟨hB137, hB4⟩ ?_
    refine d_val (v := .int .i64 ((wd : Nat) : Int)) 12 (by rfl) (by kernel_rfl) (by kernel_rfl) (by kernel_rfl) (fun w' hs => by obtain ⟨hB137, hB4⟩ := hs; exact R_load (v := .int .i64 ((wd : Nat) : Int)) (by kernel_rfl) (by kernel_rfl) ((hB4.cell 0).trans rfl)) ⟨hB137, hB4⟩ ?_
    refine d_val (v := .agg #[.int .i64 ((wd : Nat) : Int), .int .u64 ((xa : Nat) : Int), .int .u64 ((xb : Nat) : Int), .int .u64 ((ins : Nat) : Int)]) 13 (by rfl) (by kernel_rfl) (by kernel_rfl) (by kernel_rfl) (fun w' hs => by obtain ⟨hB137, hB4⟩ := hs; exact R_loadA [.int .i64 ((wd : Nat) : Int), .int .u64 ((xa : Nat) : Int), .int .u64 ((xb : Nat) : Int), .int .u64 ((ins : Nat) : Int)] (by kernel_rfl) (by kernel_rfl) (by kernel_rfl) (fun k u hk => by rw [hB4.cell]; exact get_part _ 0 _ k u rfl hk)) ⟨hB137, hB4⟩ ?_
    refine d_one 14 (by kernel_rfl) (by rfl) (by kernel_rfl) (S_call (args := [.int .i64 2, .agg #[.int .i64 ((wd : Nat) : Int), .int .u64 ((xa : Nat) : Int), .int .u64 ((xb : Nat) : Int), .int .u64 ((ins : Nat) : Int)]]) (by kernel_rfl) (binary2_ok wd xa xb ins _ (by omega) (by omega) ha hb) ?_)
    rintro _ w186 ⟨rfl, hT187⟩
    have hT0 := hT0.t0 hT187
    have hB4 := hB4.tch0 hT187
    have hG := hG.tch0 hT187
    have hXa := hXa.tch0 hT187
    have hYa := hYa.tch0 hT187
    have hXb := hXb.tch0 hT187
    have hYb := hYb.tch0 hT187
    have hX23 := hX23.tch0 hT187
    have hX37 := hX37.tch0 hT187
    have hX51 := hX51.tch0 hT187
    have hX98 := hX98.tch0 hT187
    have hX113 := hX113.tch0 hT187
    have hHm := hHm.tch0 hT187
    have hTK := hTK.t0 hT187
    have hK := hK0.tch0 hTK
    have hJ := hJ0.tch0 hTK
    have hB137 := hB137.tch0 hT187
    refine ⟨⟨hB137, hB4⟩, ?_⟩
    refine d_one 15 (by kernel_rfl) (by rfl) (by kernel_rfl) (S_call (args := [.agg #[.slice K n93 ck, .slice J n93 cj], .slice (some ⟨g34, 0, none⟩) wd wd, .int .i64 ((wd : Nat) : Int), .int .u64 ((subN wd (cutN wd xa) (cutN wd xb) : Nat) : Int)]) (by kernel_rfl) (is_okV n93 wd wd K J (some ⟨g34, 0, none⟩) ck cj kn tr r35 be (subN wd (cutN wd xa) (cutN wd xb)) _ hK hJ hX37.1 (by omega) hall (fun j hj => by have := hrw40.fit j hj; omega) (by omega) (by omega) (by first | omega | exact Nat.lt_of_lt_of_le (cutN_lt _ _) (pw64 (by omega)) | exact Nat.lt_of_lt_of_le (Nat.mod_lt _ (pw_pos _)) (pw64 (by omega)) | exact Nat.mod_lt _ (by omega)) (sub_says hva hvb (fun j hj => hrw40.val be hmd2 j hj))) ?_)
    rintro _ w188 ⟨rfl, hT189⟩
    have hT0 := hT0.t0 hT189
    have hB4 := hB4.tch0 hT189
    have hG := hG.tch0 hT189
    have hXa := hXa.tch0 hT189
    have hYa := hYa.tch0 hT189
    have hXb := hXb.tch0 hT189
    have hYb := hYb.tch0 hT189
    have hX23 := hX23.tch0 hT189
    have hX37 := hX37.tch0 hT189
    have hX51 := hX51.tch0 hT189
    have hX98 := hX98.tch0 hT189
    have hX113 := hX113.tch0 hT189
    have hHm := hHm.tch0 hT189
    have hTK := hTK.t0 hT189
    have hK := hK0.tch0 hTK
    have hJ := hJ0.tch0 hTK
    have hB137 := hB137.tch0 hT189
    refine ⟨⟨hB137, hB4⟩, ?_⟩
    refine dtk [16, 17, 18, 20, 21, 23] #[true, true, true, true, true, true, true, true, true, true, true, true, true, true, true, true, true, true, true, false, true, true, false, true, false, false, false, false, false, false, false, false, false, false, false, false, false, false, false, false, false, false, false, false, false, false, false, false, false, false, false, false, false, false, false, false, false, false, false, false, false, false, false, false, false, false, false, false, false, false, false, false, false] [(126, .bool true), (127, .bool true), (128, .bool true), (130, .slice (some ⟨g48, 0, none⟩) wd wd), (131, .pointer (some ⟨w.heap.size, 0, none⟩)), (133, .pointer (some ⟨w.heap.size, 1, none⟩))] ⟨hB137, hB4⟩ (by kernel_rfl) ?_
    refine d_val (v := .agg #[.slice K n93 ck, .slice J n93 cj]) 19 (by rfl) (by kernel_rfl) (by kernel_rfl) (by kernel_rfl) (fun w' hs => by obtain ⟨hB137, hB4⟩ := hs; exact R_loadA [.slice K n93 ck, .slice J n93 cj] (by kernel_rfl) (by kernel_rfl) (by kernel_rfl) (fun k u hk => by rw [hB137.cell]; exact get_part _ 0 _ k u rfl hk)) ⟨hB137, hB4⟩ ?_
    refine d_val (v := .int .i64 ((wd : Nat) : Int)) 22 (by rfl) (by kernel_rfl) (by kernel_rfl) (by kernel_rfl) (fun w' hs => by obtain ⟨hB137, hB4⟩ := hs; exact R_load (v := .int .i64 ((wd : Nat) : Int)) (by kernel_rfl) (by kernel_rfl) ((hB4.cell 0).trans rfl)) ⟨hB137, hB4⟩ ?_
    refine d_val (v := .int .u64 ((xa : Nat) : Int)) 24 (by rfl) (by kernel_rfl) (by kernel_rfl) (by kernel_rfl) (fun w' hs => by obtain ⟨hB137, hB4⟩ := hs; exact R_load (v := .int .u64 ((xa : Nat) : Int)) (by kernel_rfl) (by kernel_rfl) ((hB4.cell 1).trans rfl)) ⟨hB137, hB4⟩ ?_
    refine dtk [25] #[true, true, true, true, true, true, true, true, true, true, true, true, true, true, true, true, true, true, true, true, true, true, true, true, true, true, false, false, false, false, false, false, false, false, false, false, false, false, false, false, false, false, false, false, false, false, false, false, false, false, false, false, false, false, false, false, false, false, false, false, false, false, false, false, false, false, false, false, false, false, false, false, false] [(135, .int .u64 (IntKind.u64.wrap (0 - ((xa : Nat) : Int))))] ⟨hB137, hB4⟩ (by kernel_rfl) ?_
    rw [neg_u64 xa (by omega)]
    refine d_one 26 (by kernel_rfl) (by rfl) (by kernel_rfl) (S_call (args := [.agg #[.slice K n93 ck, .slice J n93 cj], .slice (some ⟨g48, 0, none⟩) wd wd, .int .i64 ((wd : Nat) : Int), .int .u64 (((0 + (18446744073709551616 - xa)) % 18446744073709551616 : Nat) : Int)]) (by kernel_rfl) (is_okV n93 wd wd K J (some ⟨g48, 0, none⟩) ck cj kn tr r49 be ((0 + (18446744073709551616 - xa)) % 18446744073709551616) _ hK hJ hX51.1 (by omega) hall (fun j hj => by have := hrw54.fit j hj; omega) (by omega) (by omega) (by first | omega | exact Nat.lt_of_lt_of_le (cutN_lt _ _) (pw64 (by omega)) | exact Nat.lt_of_lt_of_le (Nat.mod_lt _ (pw_pos _)) (pw64 (by omega)) | exact Nat.mod_lt _ (by omega)) (neg_says hva (by omega) ha (fun j hj => hrw54.val be hmd3 j hj))) ?_)
    rintro _ w190 ⟨rfl, hT191⟩
    have hT0 := hT0.t0 hT191
    have hB4 := hB4.tch0 hT191
    have hG := hG.tch0 hT191
    have hXa := hXa.tch0 hT191
    have hYa := hYa.tch0 hT191
    have hXb := hXb.tch0 hT191
    have hYb := hYb.tch0 hT191
    have hX23 := hX23.tch0 hT191
    have hX37 := hX37.tch0 hT191
    have hX51 := hX51.tch0 hT191
    have hX98 := hX98.tch0 hT191
    have hX113 := hX113.tch0 hT191
    have hHm := hHm.tch0 hT191
    have hTK := hTK.t0 hT191
    have hK := hK0.tch0 hTK
    have hJ := hJ0.tch0 hTK
    have hB137 := hB137.tch0 hT191
    refine ⟨⟨hB137, hB4⟩, ?_⟩
    refine dtk [27, 28, 29, 31] #[true, true, true, true, true, true, true, true, true, true, true, true, true, true, true, true, true, true, true, true, true, true, true, true, true, true, true, true, true, true, false, true, false, false, false, false, false, false, false, false, false, false, false, false, false, false, false, false, false, false, false, false, false, false, false, false, false, false, false, false, false, false, false, false, false, false, false, false, false, false, false, false, false] [(137, .bool true), (138, .bool true), (139, .bool true), (141, .int .i64 ((x62 : Nat) : Int))] ⟨hB137, hB4⟩ (by kernel_rfl) ?_
    refine d_val (v := .agg #[.slice K n93 ck, .slice J n93 cj]) 30 (by rfl) (by kernel_rfl) (by kernel_rfl) (by kernel_rfl) (fun w' hs => by obtain ⟨hB137, hB4⟩ := hs; exact R_loadA [.slice K n93 ck, .slice J n93 cj] (by kernel_rfl) (by kernel_rfl) (by kernel_rfl) (fun k u hk => by rw [hB137.cell]; exact get_part _ 0 _ k u rfl hk)) ⟨hB137, hB4⟩ ?_
    refine d_val (v := .agg #[.int .i64 ((wd : Nat) : Int), .int .u64 ((xa : Nat) : Int), .int .u64 ((xb : Nat) : Int), .int .u64 ((ins : Nat) : Int)]) 32 (by rfl) (by kernel_rfl) (by kernel_rfl) (by kernel_rfl) (fun w' hs => by obtain ⟨hB137, hB4⟩ := hs; exact R_loadA [.int .i64 ((wd : Nat) : Int), .int .u64 ((xa : Nat) : Int), .int .u64 ((xb : Nat) : Int), .int .u64 ((ins : Nat) : Int)] (by kernel_rfl) (by kernel_rfl) (by kernel_rfl) (fun k u hk => by rw [hB4.cell]; exact get_part _ 0 _ k u rfl hk)) ⟨hB137, hB4⟩ ?_
    refine d_one 33 (by kernel_rfl) (by rfl) (by kernel_rfl) (S_call (args := [.int .i64 12, .agg #[.int .i64 ((wd : Nat) : Int), .int .u64 ((xa : Nat) : Int), .int .u64 ((xb : Nat) : Int), .int .u64 ((ins : Nat) : Int)]]) (by kernel_rfl) (binary12_ok wd xa xb ins _ (by omega) (by omega) ha hb) ?_)
    rintro _ w192 ⟨rfl, hT193⟩
    have hT0 := hT0.t0 hT193
    have hB4 := hB4.tch0 hT193
    have hG := hG.tch0 hT193
    have hXa := hXa.tch0 hT193
    have hYa := hYa.tch0 hT193
    have hXb := hXb.tch0 hT193
    have hYb := hYb.tch0 hT193
    have hX23 := hX23.tch0 hT193
    have hX37 := hX37.tch0 hT193
    have hX51 := hX51.tch0 hT193
    have hX98 := hX98.tch0 hT193
    have hX113 := hX113.tch0 hT193
    have hHm := hHm.tch0 hT193
    have hTK := hTK.t0 hT193
    have hK := hK0.tch0 hTK
    have hJ := hJ0.tch0 hTK
    have hB137 := hB137.tch0 hT193
    refine ⟨⟨hB137, hB4⟩, ?_⟩
    refine d_one 34 (by kernel_rfl) (by rfl) (by kernel_rfl) (S_call (args := [.agg #[.slice K n93 ck, .slice J n93 cj], .int .i64 ((x62 : Nat) : Int), .int .u64 ((bitN (decide (cutN wd xa = cutN wd xb)) : Nat) : Int)]) (by kernel_rfl) (bit_ok n93 x62 K J ck cj kn tr be (decide (cutN wd xa = cutN wd xb)) _ hK hJ (by omega) hall (by omega) (eq_says hva hvb (hr64.2.2.2 be hmd4))) ?_)
    rintro _ w194 ⟨rfl, hT195⟩
    have hT0 := hT0.t0 hT195
    have hB4 := hB4.tch0 hT195
    have hG := hG.tch0 hT195
    have hXa := hXa.tch0 hT195
    have hYa := hYa.tch0 hT195
    have hXb := hXb.tch0 hT195
    have hYb := hYb.tch0 hT195
    have hX23 := hX23.tch0 hT195
    have hX37 := hX37.tch0 hT195
    have hX51 := hX51.tch0 hT195
    have hX98 := hX98.tch0 hT195
    have hX113 := hX113.tch0 hT195
    have hHm := hHm.tch0 hT195
    have hTK := hTK.t0 hT195
    have hK := hK0.tch0 hTK
    have hJ := hJ0.tch0 hTK
    have hB137 := hB137.tch0 hT195
    refine ⟨⟨hB137, hB4⟩, ?_⟩
    refine dtk [35, 36, 38] #[true, true, true, true, true, true, true, true, true, true, true, true, true, true, true, true, true, true, true, true, true, true, true, true, true, true, true, true, true, true, true, true, true, true, true, true, true, false, true, false, false, false, false, false, false, false, false, false, false, false, false, false, false, false, false, false, false, false, false, false, false, false, false, false, false, false, false, false, false, false, false, false, false] [(145, .bool true), (146, .bool true), (148, .int .i64 ((x73 : Nat) : Int))] ⟨hB137, hB4⟩ (by kernel_rfl) ?_
    refine d_val (v := .agg #[.slice K n93 ck, .slice J n93 cj]) 37 (by rfl) (by kernel_rfl) (by kernel_rfl) (by kernel_rfl) (fun w' hs => by obtain ⟨hB137, hB4⟩ := hs; exact R_loadA [.slice K n93 ck, .slice J n93 cj] (by kernel_rfl) (by kernel_rfl) (by kernel_rfl) (fun k u hk => by rw [hB137.cell]; exact get_part _ 0 _ k u rfl hk)) ⟨hB137, hB4⟩ ?_
    refine d_val (v := .agg #[.int .i64 ((wd : Nat) : Int), .int .u64 ((xa : Nat) : Int), .int .u64 ((xb : Nat) : Int), .int .u64 ((ins : Nat) : Int)]) 39 (by rfl) (by kernel_rfl) (by kernel_rfl) (by kernel_rfl) (fun w' hs => by obtain ⟨hB137, hB4⟩ := hs; exact R_loadA [.int .i64 ((wd : Nat) : Int), .int .u64 ((xa : Nat) : Int), .int .u64 ((xb : Nat) : Int), .int .u64 ((ins : Nat) : Int)] (by kernel_rfl) (by kernel_rfl) (by kernel_rfl) (fun k u hk => by rw [hB4.cell]; exact get_part _ 0 _ k u rfl hk)) ⟨hB137, hB4⟩ ?_
    refine d_one 40 (by kernel_rfl) (by rfl) (by kernel_rfl) (S_call (args := [.int .i64 13, .agg #[.int .i64 ((wd : Nat) : Int), .int .u64 ((xa : Nat) : Int), .int .u64 ((xb : Nat) : Int), .int .u64 ((ins : Nat) : Int)]]) (by kernel_rfl) (binary13_ok wd xa xb ins _ (by omega) (by omega) ha hb) ?_)
    rintro _ w196 ⟨rfl, hT197⟩
    have hT0 := hT0.t0 hT197
    have hB4 := hB4.tch0 hT197
    have hG := hG.tch0 hT197
    have hXa := hXa.tch0 hT197
    have hYa := hYa.tch0 hT197
    have hXb := hXb.tch0 hT197
    have hYb := hYb.tch0 hT197
    have hX23 := hX23.tch0 hT197
    have hX37 := hX37.tch0 hT197
    have hX51 := hX51.tch0 hT197
    have hX98 := hX98.tch0 hT197
    have hX113 := hX113.tch0 hT197
    have hHm := hHm.tch0 hT197
    have hTK := hTK.t0 hT197
    have hK := hK0.tch0 hTK
    have hJ := hJ0.tch0 hTK
    have hB137 := hB137.tch0 hT197
    refine ⟨⟨hB137, hB4⟩, ?_⟩
    refine d_one 41 (by kernel_rfl) (by rfl) (by kernel_rfl) (S_call (args := [.agg #[.slice K n93 ck, .slice J n93 cj], .int .i64 ((x73 : Nat) : Int), .int .u64 ((bitN (decide (cutN wd xa < cutN wd xb)) : Nat) : Int)]) (by kernel_rfl) (bit_ok n93 x73 K J ck cj kn tr be (decide (cutN wd xa < cutN wd xb)) _ hK hJ (by omega) hall (by omega) (less_says hva hvb (hr75.2.2.2 be hmd5))) ?_)
    rintro _ w198 ⟨rfl, hT199⟩
    have hT0 := hT0.t0 hT199
    have hB4 := hB4.tch0 hT199
    have hG := hG.tch0 hT199
    have hXa := hXa.tch0 hT199
    have hYa := hYa.tch0 hT199
    have hXb := hXb.tch0 hT199
    have hYb := hYb.tch0 hT199
    have hX23 := hX23.tch0 hT199
    have hX37 := hX37.tch0 hT199
    have hX51 := hX51.tch0 hT199
    have hX98 := hX98.tch0 hT199
    have hX113 := hX113.tch0 hT199
    have hHm := hHm.tch0 hT199
    have hTK := hTK.t0 hT199
    have hK := hK0.tch0 hTK
    have hJ := hJ0.tch0 hTK
    have hB137 := hB137.tch0 hT199
    refine ⟨⟨hB137, hB4⟩, ?_⟩
    refine dtk [42, 43, 45] #[true, true, true, true, true, true, true, true, true, true, true, true, true, true, true, true, true, true, true, true, true, true, true, true, true, true, true, true, true, true, true, true, true, true, true, true, true, true, true, true, true, true, true, true, false, true, false, false, false, false, false, false, false, false, false, false, false, false, false, false, false, false, false, false, false, false, false, false, false, false, false, false, false] [(152, .bool true), (153, .bool true), (155, .int .i64 ((x84 : Nat) : Int))] ⟨hB137, hB4⟩ (by kernel_rfl) ?_
    refine d_val (v := .agg #[.slice K n93 ck, .slice J n93 cj]) 44 (by rfl) (by kernel_rfl) (by kernel_rfl) (by kernel_rfl) (fun w' hs => by obtain ⟨hB137, hB4⟩ := hs; exact R_loadA [.slice K n93 ck, .slice J n93 cj] (by kernel_rfl) (by kernel_rfl) (by kernel_rfl) (fun k u hk => by rw [hB137.cell]; exact get_part _ 0 _ k u rfl hk)) ⟨hB137, hB4⟩ ?_
    refine d_val (v := .agg #[.int .i64 ((wd : Nat) : Int), .int .u64 ((xa : Nat) : Int), .int .u64 ((xb : Nat) : Int), .int .u64 ((ins : Nat) : Int)]) 46 (by rfl) (by kernel_rfl) (by kernel_rfl) (by kernel_rfl) (fun w' hs => by obtain ⟨hB137, hB4⟩ := hs; exact R_loadA [.int .i64 ((wd : Nat) : Int), .int .u64 ((xa : Nat) : Int), .int .u64 ((xb : Nat) : Int), .int .u64 ((ins : Nat) : Int)] (by kernel_rfl) (by kernel_rfl) (by kernel_rfl) (fun k u hk => by rw [hB4.cell]; exact get_part _ 0 _ k u rfl hk)) ⟨hB137, hB4⟩ ?_
    refine d_one 47 (by kernel_rfl) (by rfl) (by kernel_rfl) (S_call (args := [.int .i64 14, .agg #[.int .i64 ((wd : Nat) : Int), .int .u64 ((xa : Nat) : Int), .int .u64 ((xb : Nat) : Int), .int .u64 ((ins : Nat) : Int)]]) (by kernel_rfl) (binary14_ok wd xa xb ins _ (by omega) (by omega) ha hb) ?_)
    rintro _ w200 ⟨rfl, hT201⟩
    have hT0 := hT0.t0 hT201
    have hB4 := hB4.tch0 hT201
    have hG := hG.tch0 hT201
    have hXa := hXa.tch0 hT201
    have hYa := hYa.tch0 hT201
    have hXb := hXb.tch0 hT201
    have hYb := hYb.tch0 hT201
    have hX23 := hX23.tch0 hT201
    have hX37 := hX37.tch0 hT201
    have hX51 := hX51.tch0 hT201
    have hX98 := hX98.tch0 hT201
    have hX113 := hX113.tch0 hT201
    have hHm := hHm.tch0 hT201
    have hTK := hTK.t0 hT201
    have hK := hK0.tch0 hTK
    have hJ := hJ0.tch0 hTK
    have hB137 := hB137.tch0 hT201
    refine ⟨⟨hB137, hB4⟩, ?_⟩
    refine d_one 48 (by kernel_rfl) (by rfl) (by kernel_rfl) (S_call (args := [.agg #[.slice K n93 ck, .slice J n93 cj], .int .i64 ((x84 : Nat) : Int), .int .u64 ((bitN (decide (sgn wd xa < sgn wd xb)) : Nat) : Int)]) (by kernel_rfl) (bit_ok n93 x84 K J ck cj kn tr be (decide (sgn wd xa < sgn wd xb)) _ hK hJ (by omega) hall (by omega) (sless_says hva hvb (by omega) (hr86.2.2.2 be hmd6))) ?_)
    rintro _ w202 ⟨rfl, hT203⟩
    have hT0 := hT0.t0 hT203
    have hB4 := hB4.tch0 hT203
    have hG := hG.tch0 hT203
    have hXa := hXa.tch0 hT203
    have hYa := hYa.tch0 hT203
    have hXb := hXb.tch0 hT203
    have hYb := hYb.tch0 hT203
    have hX23 := hX23.tch0 hT203
    have hX37 := hX37.tch0 hT203
    have hX51 := hX51.tch0 hT203
    have hX98 := hX98.tch0 hT203
    have hX113 := hX113.tch0 hT203
    have hHm := hHm.tch0 hT203
    have hTK := hTK.t0 hT203
    have hK := hK0.tch0 hTK
    have hJ := hJ0.tch0 hTK
    have hB137 := hB137.tch0 hT203
    refine ⟨⟨hB137, hB4⟩, ?_⟩
    refine dtk [49, 50, 52, 53, 55] #[true, true, true, true, true, true, true, true, true, true, true, true, true, true, true, true, true, true, true, true, true, true, true, true, true, true, true, true, true, true, true, true, true, true, true, true, true, true, true, true, true, true, true, true, true, true, true, true, true, true, true, false, true, true, false, true, false, false, false, false, false, false, false, false, false, false, false, false, false, false, false, false, false] [(159, .bool true), (160, .bool true), (162, .slice (some ⟨g95, 0, none⟩) wd wd), (163, .pointer (some ⟨w.heap.size, 0, none⟩)), (165, .int .u64 ((xb : Nat) : Int))] ⟨hB137, hB4⟩ (by kernel_rfl) ?_
    refine d_val (v := .agg #[.slice K n93 ck, .slice J n93 cj]) 51 (by rfl) (by kernel_rfl) (by kernel_rfl) (by kernel_rfl) (fun w' hs => by obtain ⟨hB137, hB4⟩ := hs; exact R_loadA [.slice K n93 ck, .slice J n93 cj] (by kernel_rfl) (by kernel_rfl) (by kernel_rfl) (fun k u hk => by rw [hB137.cell]; exact get_part _ 0 _ k u rfl hk)) ⟨hB137, hB4⟩ ?_
    refine d_val (v := .int .i64 ((wd : Nat) : Int)) 54 (by rfl) (by kernel_rfl) (by kernel_rfl) (by kernel_rfl) (fun w' hs => by obtain ⟨hB137, hB4⟩ := hs; exact R_load (v := .int .i64 ((wd : Nat) : Int)) (by kernel_rfl) (by kernel_rfl) ((hB4.cell 0).trans rfl)) ⟨hB137, hB4⟩ ?_
    refine d_one 56 (by kernel_rfl) (by rfl) (by kernel_rfl) (S_call (args := [.agg #[.slice K n93 ck, .slice J n93 cj], .slice (some ⟨g95, 0, none⟩) wd wd, .int .i64 ((wd : Nat) : Int), .int .u64 ((xb : Nat) : Int)]) (by kernel_rfl) (is_okV n93 wd wd K J (some ⟨g95, 0, none⟩) ck cj kn tr r96 be xb _ hK hJ hX98.1 (by omega) hall (fun j hj => by have := hrw101.fit j hj; omega) (by omega) (by omega) (by first | omega | exact Nat.lt_of_lt_of_le (cutN_lt _ _) (pw64 (by omega)) | exact Nat.lt_of_lt_of_le (Nat.mod_lt _ (pw_pos _)) (pw64 (by omega)) | exact Nat.mod_lt _ (by omega)) ((pick_says hva hvb (less_says hva hvb (hr75.2.2.2 be hmd5)) (fun j hj => hrw101.val be hmd7 j hj)).2 (by assumption))) ?_)
    rintro _ w204 ⟨rfl, hT205⟩
    have hT0 := hT0.t0 hT205
    have hB4 := hB4.tch0 hT205
    have hG := hG.tch0 hT205
    have hXa := hXa.tch0 hT205
    have hYa := hYa.tch0 hT205
    have hXb := hXb.tch0 hT205
    have hYb := hYb.tch0 hT205
    have hX23 := hX23.tch0 hT205
    have hX37 := hX37.tch0 hT205
    have hX51 := hX51.tch0 hT205
    have hX98 := hX98.tch0 hT205
    have hX113 := hX113.tch0 hT205
    have hHm := hHm.tch0 hT205
    have hTK := hTK.t0 hT205
    have hK := hK0.tch0 hTK
    have hJ := hJ0.tch0 hTK
    have hB137 := hB137.tch0 hT205
    refine ⟨⟨hB137, hB4⟩, ?_⟩
    refine dtk [57, 58, 59, 61, 62, 64] #[true, true, true, true, true, true, true, true, true, true, true, true, true, true, true, true, true, true, true, true, true, true, true, true, true, true, true, true, true, true, true, true, true, true, true, true, true, true, true, true, true, true, true, true, true, true, true, true, true, true, true, true, true, true, true, true, true, true, true, true, false, true, true, false, true, false, false, false, false, false, false, false, false] [(167, .bool true), (168, .bool true), (169, .bool true), (171, .slice (some ⟨g106, 0, none⟩) wd wd), (172, .pointer (some ⟨w.heap.size, 0, none⟩)), (174, .pointer (some ⟨w.heap.size, 2, none⟩))] ⟨hB137, hB4⟩ (by kernel_rfl) ?_
    refine d_val (v := .agg #[.slice K n93 ck, .slice J n93 cj]) 60 (by rfl) (by kernel_rfl) (by kernel_rfl) (by kernel_rfl) (fun w' hs => by obtain ⟨hB137, hB4⟩ := hs; exact R_loadA [.slice K n93 ck, .slice J n93 cj] (by kernel_rfl) (by kernel_rfl) (by kernel_rfl) (fun k u hk => by rw [hB137.cell]; exact get_part _ 0 _ k u rfl hk)) ⟨hB137, hB4⟩ ?_
    refine d_val (v := .int .i64 ((wd : Nat) : Int)) 63 (by rfl) (by kernel_rfl) (by kernel_rfl) (by kernel_rfl) (fun w' hs => by obtain ⟨hB137, hB4⟩ := hs; exact R_load (v := .int .i64 ((wd : Nat) : Int)) (by kernel_rfl) (by kernel_rfl) ((hB4.cell 0).trans rfl)) ⟨hB137, hB4⟩ ?_
    refine d_val (v := .int .u64 ((xb : Nat) : Int)) 65 (by rfl) (by kernel_rfl) (by kernel_rfl) (by kernel_rfl) (fun w' hs => by obtain ⟨hB137, hB4⟩ := hs; exact R_load (v := .int .u64 ((xb : Nat) : Int)) (by kernel_rfl) (by kernel_rfl) ((hB4.cell 2).trans rfl)) ⟨hB137, hB4⟩ ?_
    refine d_one 66 (by kernel_rfl) (by rfl) (by kernel_rfl) (S_call (args := [.agg #[.slice K n93 ck, .slice J n93 cj], .slice (some ⟨g106, 0, none⟩) wd wd, .int .i64 ((wd : Nat) : Int), .int .u64 ((xb : Nat) : Int)]) (by kernel_rfl) (is_okV n93 wd wd K J (some ⟨g106, 0, none⟩) ck cj kn tr r107 be xb _ hK hJ hX113.1 (by omega) hall (fun j hj => by rw [hcv111 j hj]; split <;> omega) (by omega) (by omega) (by first | omega | exact Nat.lt_of_lt_of_le (cutN_lt _ _) (pw64 (by omega)) | exact Nat.lt_of_lt_of_le (Nat.mod_lt _ (pw_pos _)) (pw64 (by omega)) | exact Nat.mod_lt _ (by omega)) (bval_cut (con_says (be := be) hG.2 hmod hcv111))) ?_)
    rintro _ w206 ⟨rfl, hT207⟩
    have hT0 := hT0.t0 hT207
    have hB4 := hB4.tch0 hT207
    have hG := hG.tch0 hT207
    have hXa := hXa.tch0 hT207
    have hYa := hYa.tch0 hT207
    have hXb := hXb.tch0 hT207
    have hYb := hYb.tch0 hT207
    have hX23 := hX23.tch0 hT207
    have hX37 := hX37.tch0 hT207
    have hX51 := hX51.tch0 hT207
    have hX98 := hX98.tch0 hT207
    have hX113 := hX113.tch0 hT207
    have hHm := hHm.tch0 hT207
    have hTK := hTK.t0 hT207
    have hK := hK0.tch0 hTK
    have hJ := hJ0.tch0 hTK
    have hB137 := hB137.tch0 hT207
    refine ⟨⟨hB137, hB4⟩, ?_⟩
    refine dtk [67, 68, 69] #[true, true, true, true, true, true, true, true, true, true, true, true, true, true, true, true, true, true, true, true, true, true, true, true, true, true, true, true, true, true, true, true, true, true, true, true, true, true, true, true, true, true, true, true, true, true, true, true, true, true, true, true, true, true, true, true, true, true, true, true, true, true, true, true, true, true, true, true, true, true, false, false, false] [(177, .bool true), (178, .bool true), (179, .bool true)] ⟨hB137, hB4⟩ (by kernel_rfl) ?_
    refine d_one 70 (by kernel_rfl) (by rfl) (by kernel_rfl) (S_call (args := []) (by kernel_rfl) (awake20_ok _) ?_)
    rintro _ w208 ⟨rfl, hT209⟩
    have hT0 := hT0.t0 hT209
    have hB4 := hB4.tch0 hT209
    have hG := hG.tch0 hT209
    have hXa := hXa.tch0 hT209
    have hYa := hYa.tch0 hT209
    have hXb := hXb.tch0 hT209
    have hYb := hYb.tch0 hT209
    have hX23 := hX23.tch0 hT209
    have hX37 := hX37.tch0 hT209
    have hX51 := hX51.tch0 hT209
    have hX98 := hX98.tch0 hT209
    have hX113 := hX113.tch0 hT209
    have hHm := hHm.tch0 hT209
    have hTK := hTK.t0 hT209
    have hK := hK0.tch0 hTK
    have hJ := hJ0.tch0 hTK
    have hB137 := hB137.tch0 hT209
    refine ⟨⟨hB137, hB4⟩, ?_⟩
    refine dtk [71, 72] #[true, true, true, true, true, true, true, true, true, true, true, true, true, true, true, true, true, true, true, true, true, true, true, true, true, true, true, true, true, true, true, true, true, true, true, true, true, true, true, true, true, true, true, true, true, true, true, true, true, true, true, true, true, true, true, true, true, true, true, true, true, true, true, true, true, true, true, true, true, true, true, true, true] [(181, .bool true), (4, .bool true)] ⟨hB137, hB4⟩ (by kernel_rfl) ?_
    refine d_done (by kernel_rfl) ?_
    refine W_ret ?_
    exact ⟨_, Res_of (v := .bool true) (by kernel_rfl), ⟨rfl, hT0⟩⟩

theorem ArithMeans_w (W xa xb xi : Int) (ch : Bool) (w : World) (ha : 0 ≤ xa ∧ xa ≤ 18446744073709551615) (hb : 0 ≤ xb ∧ xb ≤ 18446744073709551615) (hi : 0 ≤ xi ∧ xi ≤ 18446744073709551615) : Ret Try.prog 11 [.agg #[.int .i64 W, .int .u64 xa, .int .u64 xb, .int .u64 xi], .bool ch] w fun v w' => v = .bool true ∧ Tch N0 w w' := by
  by_cases h : W < 1 ∨ 64 < W
  · exact ArithMeans_big W xa xb xi ch w h
  · obtain ⟨wd, rfl⟩ : ∃ k : Nat, W = k := ⟨W.toNat, by omega⟩
    obtain ⟨a, rfl⟩ : ∃ k : Nat, xa = k := ⟨xa.toNat, by omega⟩
    obtain ⟨b, rfl⟩ : ∃ k : Nat, xb = k := ⟨xb.toNat, by omega⟩
    obtain ⟨c, rfl⟩ : ∃ k : Nat, xi = k := ⟨xi.toNat, by omega⟩
    exact ArithMeans_in wd a b c ch w (by omega) (by omega) (by omega) (by omega)

end Go.Proofs.YtnlecdpiccgdpaaV
