/- Walks of functions of the program and of the document's texts. The conditions stand with each theorem. -/
import Derived.Test.YtnlecdpiccgdpaaJMmult60x2
import Derived.Test.YtnlecdpiccgdpaaProg
import Derived.Test.YtnlecdpiccgdpaaJMmult60x1
import Derived.Test.YtnlecdpiccgdpaaJMmult60x12
import Derived.Test.YtnlecdpiccgdpaaJMmult60x12
set_option linter.unusedVariables false
set_option linter.unusedSimpArgs false
namespace Go.Proofs.YtnlecdpiccgdpaaV
open Go Go.RowKit Go.Proofs

set_option maxRecDepth 100000 in
theorem fits28_big (W most : Int) (xa xb xi : Int) (w : World) (h : W < 1 ∨ most < W) : Ret Try.prog 28 [.agg #[.int .i64 W, .int .u64 xa, .int .u64 xb, .int .u64 xi], .int .i64 most] w fun v w' => v = .int .i64 0 ∧ Tch N0 w w' := by
  refine enter Try.func28 rfl rfl ?_
  refine W_seq ?_
  refine W_region (by kernel_rfl) ?_
  refine st (by rfl) (S_new (v := .pointer (some ⟨w.heap.size, 0, none⟩)) (ob := .cells #[.int .i64 W, .int .u64 xa, .int .u64 xb, .int .u64 xi] 46) (by kernel_rfl) fun w1 hT2 hs3 hB4 => ?_)
  replace hB4 : Blk w1 (w.heap.size) 46 [.int .i64 W, .int .u64 xa, .int .u64 xb, .int .u64 xi] := hB4
  have hT0 := hT2
  refine sg [(4, .int .i64 0)] (by kernel_rfl) ?_
  refine op_nil ?_
  refine W_seq ?_
  refine W_seq ?_
  refine W_region (by kernel_rfl) ?_
  refine sg [(5, .pointer (some ⟨w.heap.size, 0, none⟩))] (by kernel_rfl) ?_
  refine st (by rfl) (S_val (v := .int .i64 W) (R_load (v := .int .i64 W) (by kernel_rfl) (by kernel_rfl) ((hB4.cell 0).trans rfl)) ?_)
  refine sg [(7, .bool (decide (W < 1))), (8, .bool (decide (W < 1)))] (by kernel_rfl) ?_
  cases hb5 : decide (W < 1)
  · replace hb5 : 1 ≤ W := (Int.not_lt.1 (of_decide_eq_false hb5))
    refine sg [(9, .pointer (some ⟨w.heap.size, 0, none⟩))] (by kernel_rfl) ?_
    refine st (by kernel_rfl) (S_val (v := .int .i64 W) (R_load (v := .int .i64 W) (by kernel_rfl) (by kernel_rfl) ((hB4.cell 0).trans rfl)) ?_)
    refine sg [(11, .int .i64 most), (12, .bool (decide (W > most))), (13, .bool (decide (W > most)))] (by kernel_rfl) ?_
    refine op_nil ?_
    refine W_cond (decide (W > most)) (by kernel_rfl) (by kernel_rfl) (fun hc6 => ?_) (fun hc6 => ?_)
    · replace hc6 : most < W := (of_decide_eq_true hc6)
      refine W_seq ?_
      refine W_fg [(0, .agg #[.int .i64 W, .int .u64 xa, .int .u64 xb, .int .u64 xi]), (1, .int .i64 most), (2, .pointer (some ⟨w.heap.size, 0, none⟩)), (4, .int .i64 0), (13, .bool (decide (W > most)))] (by kernel_rfl) fun ρ => ?_
      refine W_region (by kernel_rfl) ?_
      refine sg [(4, .int .i64 0)] (by kernel_rfl) ?_
      refine op_nil ?_
      refine W_ret ?_
      exact ⟨_, Res_of (v := .int .i64 0) (by kernel_rfl), ⟨by first | rfl | (exfalso; omega), hT0⟩⟩
    · replace hc6 : W ≤ most := (Int.not_lt.1 (of_decide_eq_false hc6))
      refine W_skip ?_
      refine W_seq ?_
      refine W_fg [(0, .agg #[.int .i64 W, .int .u64 xa, .int .u64 xb, .int .u64 xi]), (1, .int .i64 most), (2, .pointer (some ⟨w.heap.size, 0, none⟩)), (4, .int .i64 0), (13, .bool (decide (W > most)))] (by kernel_rfl) fun ρ => ?_
      refine W_region (by kernel_rfl) ?_
      refine sg [(4, .int .i64 1)] (by kernel_rfl) ?_
      refine op_nil ?_
      refine W_ret ?_
      exact ⟨_, Res_of (v := .int .i64 1) (by kernel_rfl), ⟨by first | rfl | (exfalso; omega), hT0⟩⟩
  · replace hb5 : W < 1 := (of_decide_eq_true hb5)
    refine sg [(9, undef), (10, undef), (11, undef), (12, undef), (13, .bool true)] (by kernel_rfl) ?_
    refine op_nil ?_
    refine W_cond true (by kernel_rfl) (by kernel_rfl) (fun _ => ?_) (fun h => nomatch h)
    refine W_seq ?_
    refine W_fg [(0, .agg #[.int .i64 W, .int .u64 xa, .int .u64 xb, .int .u64 xi]), (1, .int .i64 most), (2, .pointer (some ⟨w.heap.size, 0, none⟩)), (4, .int .i64 0), (13, .bool true)] (by kernel_rfl) fun ρ => ?_
    refine W_region (by kernel_rfl) ?_
    refine sg [(4, .int .i64 0)] (by kernel_rfl) ?_
    refine op_nil ?_
    refine W_ret ?_
    exact ⟨_, Res_of (v := .int .i64 0) (by kernel_rfl), ⟨by first | rfl | (exfalso; omega), hT0⟩⟩

set_option maxRecDepth 100000 in
theorem fits28_in (wd : Nat) (most : Int) (xa xb xi : Int) (w : World) (h : 1 ≤ (wd : Int) ∧ (wd : Int) ≤ most) : Ret Try.prog 28 [.agg #[.int .i64 ((wd : Nat) : Int), .int .u64 xa, .int .u64 xb, .int .u64 xi], .int .i64 most] w fun v w' => v = .int .i64 1 ∧ Tch N0 w w' := by
  refine enter Try.func28 rfl rfl ?_
  refine W_seq ?_
  refine W_region (by kernel_rfl) ?_
  refine st (by rfl) (S_new (v := .pointer (some ⟨w.heap.size, 0, none⟩)) (ob := .cells #[.int .i64 ((wd : Nat) : Int), .int .u64 xa, .int .u64 xb, .int .u64 xi] 46) (by kernel_rfl) fun w1 hT2 hs3 hB4 => ?_)
  replace hB4 : Blk w1 (w.heap.size) 46 [.int .i64 ((wd : Nat) : Int), .int .u64 xa, .int .u64 xb, .int .u64 xi] := hB4
  have hT0 := hT2
  refine sg [(4, .int .i64 0)] (by kernel_rfl) ?_
  refine op_nil ?_
  refine W_seq ?_
  refine W_seq ?_
  refine W_region (by kernel_rfl) ?_
  refine sg [(5, .pointer (some ⟨w.heap.size, 0, none⟩))] (by kernel_rfl) ?_
  refine st (by rfl) (S_val (v := .int .i64 ((wd : Nat) : Int)) (R_load (v := .int .i64 ((wd : Nat) : Int)) (by kernel_rfl) (by kernel_rfl) ((hB4.cell 0).trans rfl)) ?_)
  refine sg [(7, .bool (decide (((wd : Nat) : Int) < 1))), (8, .bool (decide (((wd : Nat) : Int) < 1)))] (by kernel_rfl) ?_
  cases hb5 : decide (((wd : Nat) : Int) < 1)
  · replace hb5 : 1 ≤ ((wd : Nat) : Int) := (Int.not_lt.1 (of_decide_eq_false hb5))
    refine sg [(9, .pointer (some ⟨w.heap.size, 0, none⟩))] (by kernel_rfl) ?_
    refine st (by kernel_rfl) (S_val (v := .int .i64 ((wd : Nat) : Int)) (R_load (v := .int .i64 ((wd : Nat) : Int)) (by kernel_rfl) (by kernel_rfl) ((hB4.cell 0).trans rfl)) ?_)
    refine sg [(11, .int .i64 most), (12, .bool (decide (((wd : Nat) : Int) > most))), (13, .bool (decide (((wd : Nat) : Int) > most)))] (by kernel_rfl) ?_
    refine op_nil ?_
    refine W_cond (decide (((wd : Nat) : Int) > most)) (by kernel_rfl) (by kernel_rfl) (fun hc6 => ?_) (fun hc6 => ?_)
    · replace hc6 : most < ((wd : Nat) : Int) := (of_decide_eq_true hc6)
      exfalso; omega
    · replace hc6 : ((wd : Nat) : Int) ≤ most := (Int.not_lt.1 (of_decide_eq_false hc6))
      refine W_skip ?_
      refine W_seq ?_
      refine W_fg [(0, .agg #[.int .i64 ((wd : Nat) : Int), .int .u64 xa, .int .u64 xb, .int .u64 xi]), (1, .int .i64 most), (2, .pointer (some ⟨w.heap.size, 0, none⟩)), (4, .int .i64 0), (13, .bool (decide (((wd : Nat) : Int) > most)))] (by kernel_rfl) fun ρ => ?_
      refine W_region (by kernel_rfl) ?_
      refine sg [(4, .int .i64 1)] (by kernel_rfl) ?_
      refine op_nil ?_
      refine W_ret ?_
      exact ⟨_, Res_of (v := .int .i64 1) (by kernel_rfl), ⟨rfl, hT0⟩⟩
  · replace hb5 : ((wd : Nat) : Int) < 1 := (of_decide_eq_true hb5)
    exfalso; omega

set_option maxRecDepth 100000 in
theorem MultDivides_big (W xa xb xi : Int)  (w : World) (h : W < 1 ∨ 16 < W) : Ret Try.prog 9 [.agg #[.int .i64 W, .int .u64 xa, .int .u64 xb, .int .u64 xi]] w fun v w' => v = .bool true ∧ Tch N0 w w' := by
  refine enter Try.func9 rfl rfl ?_
  refine W_seq ?_
  refine W_region (by kernel_rfl) ?_
  refine st (by rfl) (S_new (v := .pointer (some ⟨w.heap.size, 0, none⟩)) (ob := .cells #[.int .i64 W, .int .u64 xa, .int .u64 xb, .int .u64 xi] 46) (by kernel_rfl) fun w1 hT2 hs3 hB4 => ?_)
  replace hB4 : Blk w1 (w.heap.size) 46 [.int .i64 W, .int .u64 xa, .int .u64 xb, .int .u64 xi] := hB4
  have hT0 := hT2
  refine sg [(2, .bool false)] (by kernel_rfl) ?_
  refine op_nil ?_
  refine W_seq ?_
  refine W_seq ?_
  refine W_region (by kernel_rfl) ?_
  refine st (by rfl) (S_val (v := .agg #[.int .i64 W, .int .u64 xa, .int .u64 xb, .int .u64 xi]) (R_loadA [.int .i64 W, .int .u64 xa, .int .u64 xb, .int .u64 xi] (by kernel_rfl) (by kernel_rfl) (by kernel_rfl) (fun k u hk => by rw [hB4.cell]; exact get_part _ 0 _ k u rfl hk)) ?_)
  refine st (by rfl) (S_call (args := [.agg #[.int .i64 W, .int .u64 xa, .int .u64 xb, .int .u64 xi], .int .i64 16]) (by kernel_rfl) (fits28_big W 16 xa xb xi _ (by omega)) ?_)
  rintro _ w5 ⟨rfl, hT6⟩
  have hT0 := hT0.t0 hT6
  have hB4 := hB4.tch0 hT6
  refine sg [(19, .bool true)] (by kernel_rfl) ?_
  refine op_nil ?_
  refine W_cond true (by kernel_rfl) (by kernel_rfl) (fun _ => ?_) (fun h => nomatch h)
  refine W_seq ?_
  refine W_region (by kernel_rfl) ?_
  refine st (by rfl) (S_call (args := []) (by kernel_rfl) (awake21_ok _) ?_)
  rintro _ w7 ⟨rfl, hT8⟩
  have hT0 := hT0.t0 hT8
  have hB4 := hB4.tch0 hT8
  refine sg [(2, .bool true)] (by kernel_rfl) ?_
  refine op_nil ?_
  refine W_ret ?_
  exact ⟨_, Res_of (v := .bool true) (by kernel_rfl), ⟨rfl, hT0⟩⟩

set_option maxRecDepth 100000 in
set_option maxHeartbeats 4000000 in
theorem MultDivides_in (wd xa xb ins : Nat)  (w : World) (h1 : 1 ≤ wd) (h2 : wd ≤ 16) (ha : xa < 18446744073709551616) (hb : xb < 18446744073709551616) : Ret Try.prog 9 [.agg #[.int .i64 ((wd : Nat) : Int), .int .u64 ((xa : Nat) : Int), .int .u64 ((xb : Nat) : Int), .int .u64 ((ins : Nat) : Int)]] w fun v w' => v = .bool true ∧ Tch N0 w w' := by
  refine enter Try.func9 rfl rfl ?_
  refine W_seq ?_
  refine W_region (by kernel_rfl) ?_
  refine st (by rfl) (S_new (v := .pointer (some ⟨w.heap.size, 0, none⟩)) (ob := .cells #[.int .i64 ((wd : Nat) : Int), .int .u64 ((xa : Nat) : Int), .int .u64 ((xb : Nat) : Int), .int .u64 ((ins : Nat) : Int)] 46) (by kernel_rfl) fun w1 hT2 hs3 hB4 => ?_)
  replace hB4 : Blk w1 (w.heap.size) 46 [.int .i64 ((wd : Nat) : Int), .int .u64 ((xa : Nat) : Int), .int .u64 ((xb : Nat) : Int), .int .u64 ((ins : Nat) : Int)] := hB4
  have hT0 := hT2
  refine sg [(2, .bool false)] (by kernel_rfl) ?_
  refine op_nil ?_
  refine W_seq ?_
  refine W_seq ?_
  refine W_region (by kernel_rfl) ?_
  refine st (by rfl) (S_val (v := .agg #[.int .i64 ((wd : Nat) : Int), .int .u64 ((xa : Nat) : Int), .int .u64 ((xb : Nat) : Int), .int .u64 ((ins : Nat) : Int)]) (R_loadA [.int .i64 ((wd : Nat) : Int), .int .u64 ((xa : Nat) : Int), .int .u64 ((xb : Nat) : Int), .int .u64 ((ins : Nat) : Int)] (by kernel_rfl) (by kernel_rfl) (by kernel_rfl) (fun k u hk => by rw [hB4.cell]; exact get_part _ 0 _ k u rfl hk)) ?_)
  refine st (by rfl) (S_call (args := [.agg #[.int .i64 ((wd : Nat) : Int), .int .u64 ((xa : Nat) : Int), .int .u64 ((xb : Nat) : Int), .int .u64 ((ins : Nat) : Int)], .int .i64 16]) (by kernel_rfl) (fits28_in wd 16 ((xa : Nat) : Int) ((xb : Nat) : Int) ((ins : Nat) : Int) _ (by omega)) ?_)
  rintro _ w5 ⟨rfl, hT6⟩
  have hT0 := hT0.t0 hT6
  have hB4 := hB4.tch0 hT6
  refine sg [(19, .bool false)] (by kernel_rfl) ?_
  refine op_nil ?_
  refine W_cond false (by kernel_rfl) (by kernel_rfl) (fun h => nomatch h) (fun _ => ?_)
  refine W_skip ?_
  refine W_seq ?_
  refine W_region (by kernel_rfl) ?_
  have hz_ := hT0.size
  have lt11 := hB4.lt
  refine st (by rfl) (S_call (args := []) (by kernel_rfl) (new_ok _) ?_)
  rintro _ w7 ⟨p9, F10, rfl, hG, hT8, hFb⟩
  have hT0 := hT0.t0 hT8
  have hB4 := hB4.tch0 hT8
  have nF_hB4 : ¬ F10 (w.heap.size) := fun e => by have := hFb _ e; omega
  replace hFb := fun b hb => Nat.le_trans hz_ (hFb b hb)
  refine sg [(3, .pointer (some ⟨p9, 0, none⟩))] (by kernel_rfl) ?_
  refine op_nil ?_
  refine W_seq ?_
  refine W_seq ?_
  refine W_region (by kernel_rfl) ?_
  refine sg [(22, .pointer (some ⟨p9, 0, none⟩)), (23, .bool false)] (by kernel_rfl) ?_
  refine op_nil ?_
  refine W_cond false (by kernel_rfl) (by kernel_rfl) (fun h => nomatch h) (fun _ => ?_)
  refine W_skip ?_
  refine W_seq ?_
  refine W_fg [(0, .agg #[.int .i64 ((wd : Nat) : Int), .int .u64 ((xa : Nat) : Int), .int .u64 ((xb : Nat) : Int), .int .u64 ((ins : Nat) : Int)]), (1, .pointer (some ⟨w.heap.size, 0, none⟩)), (2, .bool false), (3, .pointer (some ⟨p9, 0, none⟩)), (19, .bool false), (23, .bool false)] (by kernel_rfl) fun ρ => ?_
  refine W_region (by kernel_rfl) ?_
  refine sg [(25, .pointer (some ⟨p9, 0, none⟩)), (26, .pointer (some ⟨w.heap.size, 0, none⟩))] (by kernel_rfl) ?_
  refine st (by rfl) (S_val (v := .int .i64 ((wd : Nat) : Int)) (R_load (v := .int .i64 ((wd : Nat) : Int)) (by kernel_rfl) (by kernel_rfl) ((hB4.cell 0).trans rfl)) ?_)
  refine sg [(28, .pointer (some ⟨w.heap.size, 1, none⟩))] (by kernel_rfl) ?_
  refine st (by rfl) (S_val (v := .int .u64 ((xa : Nat) : Int)) (R_load (v := .int .u64 ((xa : Nat) : Int)) (by kernel_rfl) (by kernel_rfl) ((hB4.cell 1).trans rfl)) ?_)
  refine sg [(30, .pointer (some ⟨w.heap.size, 3, none⟩))] (by kernel_rfl) ?_
  refine st (by rfl) (S_val (v := .int .u64 ((ins : Nat) : Int)) (R_load (v := .int .u64 ((ins : Nat) : Int)) (by kernel_rfl) (by kernel_rfl) ((hB4.cell 3).trans rfl)) ?_)
  have hz_ := hT0.size
  have lt13 := hB4.lt
  refine st (by rfl) (S_call (args := [.pointer (some ⟨p9, 0, none⟩), .int .i64 ((wd : Nat) : Int), .int .u64 ((xa : Nat) : Int), .int .u64 ((ins : Nat) : Int)]) (by kernel_rfl) (rowc_ok F10 p9 1 wd ([[0]]) (fun _ => False) xa ins _ hG (by omega) (by omega) (by omega)) ?_)
  rintro _ w12 ⟨Fa, na, Ia, Ra, rca, Ha, hca, rowa, holda, rfl, hXa, hYa, gRa, gHa, hG, mva, hria, hda, aHa, hlla, hrca⟩
  have hT0 := (hT0).then mva.1 hFb
  have hB4 := hB4.tch mva.1 nF_hB4
  replace nF_hB4 : ¬ Fa (w.heap.size) := fun e => (mva.2 _ e).elim nF_hB4 (fun q => by omega)
  replace hFb := mva.ge hFb hz_
  have lt_hXa := hXa.lt
  have lt_hYa := hYa.lt
  have ge_hXa := gRa
  have ge_hYa := gHa
  have hle_hria := hria.le
  refine sg [(24, .tuple #[.slice Ra wd rca, .slice Ha holda.length hca]), (33, .slice Ra wd rca), (34, .slice Ha holda.length hca), (4, .slice Ra wd rca), (5, .slice Ha holda.length hca)] (by kernel_rfl) ?_
  refine op_nil ?_
  refine W_seq ?_
  refine W_fg [(0, .agg #[.int .i64 ((wd : Nat) : Int), .int .u64 ((xa : Nat) : Int), .int .u64 ((xb : Nat) : Int), .int .u64 ((ins : Nat) : Int)]), (1, .pointer (some ⟨w.heap.size, 0, none⟩)), (2, .bool false), (3, .pointer (some ⟨p9, 0, none⟩)), (4, .slice Ra wd rca), (5, .slice Ha holda.length hca), (19, .bool false), (23, .bool false)] (by kernel_rfl) fun ρ => ?_
  refine W_region (by kernel_rfl) ?_
  refine sg [(36, .pointer (some ⟨p9, 0, none⟩)), (37, .pointer (some ⟨w.heap.size, 0, none⟩))] (by kernel_rfl) ?_
  refine st (by rfl) (S_val (v := .int .i64 ((wd : Nat) : Int)) (R_load (v := .int .i64 ((wd : Nat) : Int)) (by kernel_rfl) (by kernel_rfl) ((hB4.cell 0).trans rfl)) ?_)
  refine sg [(39, .pointer (some ⟨w.heap.size, 2, none⟩))] (by kernel_rfl) ?_
  refine st (by rfl) (S_val (v := .int .u64 ((xb : Nat) : Int)) (R_load (v := .int .u64 ((xb : Nat) : Int)) (by kernel_rfl) (by kernel_rfl) ((hB4.cell 2).trans rfl)) ?_)
  refine sg [(41, .pointer (some ⟨w.heap.size, 3, none⟩))] (by kernel_rfl) ?_
  refine st (by rfl) (S_val (v := .int .u64 ((ins : Nat) : Int)) (R_load (v := .int .u64 ((ins : Nat) : Int)) (by kernel_rfl) (by kernel_rfl) ((hB4.cell 3).trans rfl)) ?_)
  refine sg [(43, .int .u64 (((ins : Nat) : Int).fdiv (2 ^ 9))), (44, .pointer (some ⟨w.heap.size, 3, none⟩))] (by kernel_rfl) ?_
  refine st (by rfl) (S_val (v := .int .u64 ((ins : Nat) : Int)) (R_load (v := .int .u64 ((ins : Nat) : Int)) (by kernel_rfl) (by kernel_rfl) ((hB4.cell 3).trans rfl)) ?_)
  refine sg [(46, .int .u64 (IntKind.u64.wrap (((ins : Nat) : Int) * 2 ^ 55)))] (by kernel_rfl) ?_
  obtain ⟨ib, hib⟩ := u64nat (BitVec.ofInt 64 (((ins : Nat) : Int).fdiv (2 ^ 9)) ||| BitVec.ofInt 64 (IntKind.u64.wrap (((ins : Nat) : Int) * 2 ^ 55))).toNat
  refine sg [(47, .int .u64 (IntKind.u64.wrap (BitVec.ofInt 64 (((ins : Nat) : Int).fdiv (2 ^ 9)) ||| BitVec.ofInt 64 (IntKind.u64.wrap (((ins : Nat) : Int) * 2 ^ 55))).toNat))] (by kernel_rfl) ?_
  rw [hib]
  have hz_ := hT0.size
  have lt15 := hB4.lt
  refine st (by rfl) (S_call (args := [.pointer (some ⟨p9, 0, none⟩), .int .i64 ((wd : Nat) : Int), .int .u64 ((xb : Nat) : Int), .int .u64 ((ib : Nat) : Int)]) (by kernel_rfl) (rowc_ok Fa p9 na wd ([[0]]) Ia xb ib _ hG (by omega) (by omega) (by omega)) ?_)
  rintro _ w14 ⟨Fb, nb, Ib, Rb, rcb, Hb, hcb, rowb, holdb, rfl, hXb, hYb, gRb, gHb, hG, mvb, hrib, hdb, aHb, hllb, hrcb⟩
  have hT0 := (hT0).then mvb.1 hFb
  have hB4 := hB4.tch mvb.1 nF_hB4
  have hXa := hXa.mv mvb
  have hYa := hYa.mv mvb
  replace nF_hB4 : ¬ Fb (w.heap.size) := fun e => (mvb.2 _ e).elim nF_hB4 (fun q => by omega)
  replace hFb := mvb.ge hFb hz_
  have lt_hXb := hXb.lt
  have lt_hYb := hYb.lt
  have ge_hXb := gRb
  have ge_hYb := gHb
  have hle_hrib := hrib.le
  refine sg [(35, .tuple #[.slice Rb wd rcb, .slice Hb holdb.length hcb]), (49, .slice Rb wd rcb), (50, .slice Hb holdb.length hcb), (6, .slice Rb wd rcb), (7, .slice Hb holdb.length hcb)] (by kernel_rfl) ?_
  refine op_nil ?_
  refine W_seq ?_
  refine W_fg [(0, .agg #[.int .i64 ((wd : Nat) : Int), .int .u64 ((xa : Nat) : Int), .int .u64 ((xb : Nat) : Int), .int .u64 ((ins : Nat) : Int)]), (1, .pointer (some ⟨w.heap.size, 0, none⟩)), (2, .bool false), (3, .pointer (some ⟨p9, 0, none⟩)), (4, .slice Ra wd rca), (5, .slice Ha holda.length hca), (6, .slice Rb wd rcb), (7, .slice Hb holdb.length hcb), (19, .bool false), (23, .bool false)] (by kernel_rfl) fun ρ => ?_
  refine W_region (by kernel_rfl) ?_
  refine sg [(52, .pointer (some ⟨p9, 0, none⟩)), (53, .slice Ra wd rca), (54, .slice Rb wd rcb)] (by kernel_rfl) ?_
  have hz_ := hT0.size
  have lt34 := hB4.lt
  refine st (by rfl) (S_call (args := [.pointer (some ⟨p9, 0, none⟩), .slice Ra wd rca, .slice Rb wd rcb]) (by kernel_rfl) (div_ok Fb p9 nb wd rca rcb Ra Rb rowa rowb ([[0]]) Ib _ hG hXa hXb (fun j hj => by have := hria.fit j hj; omega) (fun j hj => by have := hrib.fit j hj; omega) (by omega) (by omega) (by omega) (by omega)) ?_)
  rintro _ w16 ⟨F17, n18, cs19, Q20, R21, q22, r23, rfl, hql24, hrl25, hX26, hX27, hgQ28, hgR29, hG, mv30, hrw31, hrw32, hd33⟩
  have hT0 := (hT0).then mv30.1 hFb
  have hB4 := hB4.tch mv30.1 nF_hB4
  have hXa := hXa.mv mv30
  have hYa := hYa.mv mv30
  have hXb := hXb.mv mv30
  have hYb := hYb.mv mv30
  replace nF_hB4 : ¬ F17 (w.heap.size) := fun e => (mv30.2 _ e).elim nF_hB4 (fun q => by omega)
  replace hFb := mv30.ge hFb hz_
  have lt_hX26 := hX26.lt
  have ge_hX26 := hgQ28
  have lt_hX27 := hX27.lt
  have ge_hX27 := hgR29
  have hle35 := hrw31.le
  refine sg [(51, .tuple #[.slice Q20 wd wd, .slice R21 wd wd]), (56, .slice Q20 wd wd), (57, .slice R21 wd wd), (8, .slice Q20 wd wd), (9, .slice R21 wd wd)] (by kernel_rfl) ?_
  refine op_nil ?_
  refine W_seq ?_
  refine W_fg [(0, .agg #[.int .i64 ((wd : Nat) : Int), .int .u64 ((xa : Nat) : Int), .int .u64 ((xb : Nat) : Int), .int .u64 ((ins : Nat) : Int)]), (1, .pointer (some ⟨w.heap.size, 0, none⟩)), (2, .bool false), (3, .pointer (some ⟨p9, 0, none⟩)), (4, .slice Ra wd rca), (5, .slice Ha holda.length hca), (6, .slice Rb wd rcb), (7, .slice Hb holdb.length hcb), (8, .slice Q20 wd wd), (9, .slice R21 wd wd), (19, .bool false), (23, .bool false)] (by kernel_rfl) fun ρ => ?_
  refine W_region (by kernel_rfl) ?_
  have hlt_ := hG.1.lt
  have lt40 := hB4.lt
  have lt_hXa := hXa.lt
  have lt_hYa := hYa.lt
  have lt_hXb := hXb.lt
  have lt_hYb := hYb.lt
  have lt_hX26 := hX26.lt
  have lt_hX27 := hX27.lt
  have z41 := hT0.size
  have l42 := hB4.lt
  refine st (by rfl) (S_new (v := .slice (some ⟨w16.heap.size, 0, none⟩) 0 0) (ob := .cells #[] 3) (by kernel_rfl) fun w36 hT37 hs38 hB39 => ?_)
  replace hB39 : Blk w36 (w16.heap.size) 3 [] := hB39
  have hT0 := hT0.t0 hT37
  have hB4 := hB4.tch0 hT37
  have hG := hG.tch0 hT37
  have hXa := hXa.tch0 hT37
  have hYa := hYa.tch0 hT37
  have hXb := hXb.tch0 hT37
  have hYb := hYb.tch0 hT37
  have hX26 := hX26.tch0 hT37
  have hX27 := hX27.tch0 hT37
  have nF_hB39 : ¬ F17 (w16.heap.size) := fun e => by have := hlt_ _ e; omega
  refine sg [(59, .slice Ha holda.length hca)] (by kernel_rfl) ?_
  have hHk := hB39.own0
  have nB_hHk : ∀ c, (Value.slice (some ⟨w16.heap.size, 0, none⟩) 0 0).ownBlock = some c → w16.heap.size ≤ c := fun c q => by have e : w16.heap.size = c := (by injection q); omega
  have nF_hHk : ∀ c, (Value.slice (some ⟨w16.heap.size, 0, none⟩) 0 0).ownBlock = some c → ¬ F17 c := fun c q e => by have e2 : w16.heap.size = c := (by injection q); have := hlt_ _ e; omega
  refine st (by rfl) (S_appendX 27 3 (.int .i64 0) 8 (n := 0) (m := holda.length) (A := some ⟨w16.heap.size, 0, none⟩) (B := Ha) (cp := 0) (c := hca) (cells := []) (news := nats holda) (by kernel_rfl) (by kernel_rfl) (by kernel_rfl) (by kernel_rfl) (by kernel_rfl) hHk hYa.1 (fun _ => aHa) (nats_oneV _) (by simp only [maxLen]; omega) (by omega) fun A43 cp44 w45 hHl hw46 hT47 => ?_)
  have hT0 := (hT0).then hT47 (fun c e => by have := nB_hHk c e; omega)
  have hB4 := hB4.tch hT47 (fun e => hHk.blk_ne hB4 (by decide) _ e rfl)
  have hG := hG.tchS hT47 (fun c e => nF_hHk c e)
  have hXa := hXa.st hT47 (fun c hc e => by have h1 := lt_hXa c hc; have h2 := nB_hHk c e; omega)
  have hYa := hYa.st hT47 (fun c hc e => by have h1 := lt_hYa c hc; have h2 := nB_hHk c e; omega)
  have hXb := hXb.st hT47 (fun c hc e => by have h1 := lt_hXb c hc; have h2 := nB_hHk c e; omega)
  have hYb := hYb.st hT47 (fun c hc e => by have h1 := lt_hYb c hc; have h2 := nB_hHk c e; omega)
  have hX26 := hX26.st hT47 (fun c hc e => by have h1 := lt_hX26 c hc; have h2 := nB_hHk c e; omega)
  have hX27 := hX27.st hT47 (fun c hc e => by have h1 := lt_hX27 c hc; have h2 := nB_hHk c e; omega)
  have hsz48 := hT47.size
  have nB_hHl : ∀ c, (Value.slice A43 (0 + holda.length) cp44).ownBlock = some c → w16.heap.size ≤ c := fun c q => (hw46 c q).elim (nB_hHk c) (fun q => by omega)
  have nF_hHl : ∀ c, (Value.slice A43 (0 + holda.length) cp44).ownBlock = some c → ¬ F17 c := fun c q e => by have := nB_hHl c q; have := hlt_ _ e; omega
  refine sg [(61, .slice Hb holdb.length hcb)] (by kernel_rfl) ?_
  refine st (by rfl) (S_appendX 27 3 (.int .i64 0) 8 (n := 0 + holda.length) (m := holdb.length) (A := A43) (B := Hb) (cp := cp44) (c := hcb) (cells := ([] ++ nats holda)) (news := nats holdb) (by kernel_rfl) (by kernel_rfl) (by kernel_rfl) (by kernel_rfl) (by kernel_rfl) hHl hYb.1 (fun _ => aHb) (nats_oneV _) (by simp only [maxLen]; omega) (by omega) fun A49 cp50 w51 hHm hw52 hT53 => ?_)
  have hT0 := (hT0).then hT53 (fun c e => by have := nB_hHl c e; omega)
  have hB4 := hB4.tch hT53 (fun e => hHl.blk_ne hB4 (by decide) _ e rfl)
  have hG := hG.tchS hT53 (fun c e => nF_hHl c e)
  have hXa := hXa.st hT53 (fun c hc e => by have h1 := lt_hXa c hc; have h2 := nB_hHl c e; omega)
  have hYa := hYa.st hT53 (fun c hc e => by have h1 := lt_hYa c hc; have h2 := nB_hHl c e; omega)
  have hXb := hXb.st hT53 (fun c hc e => by have h1 := lt_hXb c hc; have h2 := nB_hHl c e; omega)
  have hYb := hYb.st hT53 (fun c hc e => by have h1 := lt_hYb c hc; have h2 := nB_hHl c e; omega)
  have hX26 := hX26.st hT53 (fun c hc e => by have h1 := lt_hX26 c hc; have h2 := nB_hHl c e; omega)
  have hX27 := hX27.st hT53 (fun c hc e => by have h1 := lt_hX27 c hc; have h2 := nB_hHl c e; omega)
  have hsz54 := hT53.size
  have nB_hHm : ∀ c, (Value.slice A49 (0 + holda.length + holdb.length) cp50).ownBlock = some c → w16.heap.size ≤ c := fun c q => (hw52 c q).elim (nB_hHl c) (fun q => by omega)
  have nF_hHm : ∀ c, (Value.slice A49 (0 + holda.length + holdb.length) cp50).ownBlock = some c → ¬ F17 c := fun c q e => by have := nB_hHm c q; have := hlt_ _ e; omega
  refine sg [(10, .slice A49 (0 + holda.length + holdb.length) cp50)] (by kernel_rfl) ?_
  refine op_nil ?_
  refine W_seq ?_
  refine W_region (by kernel_rfl) ?_
  refine sg [(64, .pointer (some ⟨p9, 0, none⟩)), (65, .slice A49 (0 + holda.length + holdb.length) cp50)] (by kernel_rfl) ?_
  refine st (by rfl) (S_call (args := [.pointer (some ⟨p9, 0, none⟩), .slice A49 (0 + holda.length + holdb.length) cp50]) (by kernel_rfl) (close_ok F17 p9 n18 (0 + holda.length + holdb.length) cp50 cs19 Ib A49 (holda ++ holdb) (fun v => decide (2 * v ∈ holda ++ holdb)) _ hG (by omega) (by have q := hHm.rd1; rw [List.nil_append, ← nats_append] at q; exact q) (two_in hria hrib) (two_fit hria hrib)) ?_)
  rintro _ w55 ⟨K, J, ck, cj, kn, tr, be, rfl, hK0, hJ0, hmod, hbt, hall, hTC⟩
  have hT0 := hT0.t0 hTC
  have hB4 := hB4.tch0 hTC
  have hG := hG.tch0 hTC
  have hXa := hXa.tch0 hTC
  have hYa := hYa.tch0 hTC
  have hXb := hXb.tch0 hTC
  have hYb := hYb.tch0 hTC
  have hX26 := hX26.tch0 hTC
  have hX27 := hX27.tch0 hTC
  have hHm := hHm.tch0 hTC
  have hTK := Tch.refl N0 w55
  have hK := hK0
  have hJ := hJ0
  have hmd1 := hmod
  have hmd0 := hmd1.sub hrw31.sub
  have hva := (two_says hria hrib hmd0 hmd0 hbt).1
  have hvb := (two_says hria hrib hmd0 hmd0 hbt).2
  refine sg [(63, .tuple #[.agg #[.slice K n18 ck, .slice J n18 cj], .int .i64 1]), (67, .agg #[.slice K n18 ck, .slice J n18 cj]), (68, .int .i64 1)] (by kernel_rfl) ?_
  have hz60 := hTK.size
  have hlt_ := hG.1.lt
  have lt61 := hB4.lt
  have lt_hXa := hXa.lt
  have lt_hYa := hYa.lt
  have lt_hXb := hXb.lt
  have lt_hYb := hYb.lt
  have lt_hX26 := hX26.lt
  have lt_hX27 := hX27.lt
  have z62 := hT0.size
  have l63 := hB4.lt
  refine st (by rfl) (S_new (v := .pointer (some ⟨w55.heap.size, 0, none⟩)) (ob := .cells #[.slice none 0 0, .slice none 0 0] 54) (by kernel_rfl) fun w56 hT57 hs58 hB59 => ?_)
  replace hB59 : Blk w56 (w55.heap.size) 54 [.slice none 0 0, .slice none 0 0] := hB59
  have hT0 := hT0.t0 hT57
  have hB4 := hB4.tch0 hT57
  have hG := hG.tch0 hT57
  have hXa := hXa.tch0 hT57
  have hYa := hYa.tch0 hT57
  have hXb := hXb.tch0 hT57
  have hYb := hYb.tch0 hT57
  have hX26 := hX26.tch0 hT57
  have hX27 := hX27.tch0 hT57
  have hHm := hHm.tch0 hT57
  have hTK := hTK.t0 hT57
  have hK := hK0.tch0 hTK
  have hJ := hJ0.tch0 hTK
  have nF_hB59 : ¬ F17 (w55.heap.size) := fun e => by have := hlt_ _ e; omega
  refine st (by rfl) (S_storeA (b := w55.heap.size) (j := 0) (cs := [.slice K n18 ck, .slice J n18 cj]) (by kernel_rfl) (by kernel_rfl) (by kernel_rfl) (by simp [oneV]) hB59 (by simp) fun w64 hT65 hs66 hB59' => ?_)
  have hT0 := (hT0).then hT65 (fun c e => by have : c = w55.heap.size := e; omega)
  have hB4 := hB4.tch hT65 (hB4.ne hB59 (by decide))
  have hG := hG.tchS hT65 (fun c e q => by cases e; exact nF_hB59 q)
  have hXa := hXa.st hT65 (fun c hc e => by have h1 := lt_hXa c hc; have h2 := ge_hXa c hc; have : c = w55.heap.size := e; omega)
  have hYa := hYa.st hT65 (fun c hc e => by have h1 := lt_hYa c hc; have h2 := ge_hYa c hc; have : c = w55.heap.size := e; omega)
  have hXb := hXb.st hT65 (fun c hc e => by have h1 := lt_hXb c hc; have h2 := ge_hXb c hc; have : c = w55.heap.size := e; omega)
  have hYb := hYb.st hT65 (fun c hc e => by have h1 := lt_hYb c hc; have h2 := ge_hYb c hc; have : c = w55.heap.size := e; omega)
  have hX26 := hX26.st hT65 (fun c hc e => by have h1 := lt_hX26 c hc; have h2 := ge_hX26 c hc; have : c = w55.heap.size := e; omega)
  have hX27 := hX27.st hT65 (fun c hc e => by have h1 := lt_hX27 c hc; have h2 := ge_hX27 c hc; have : c = w55.heap.size := e; omega)
  have hHm := hHm.tch hT65 (fun c hc e => hHm.blk_ne hB59 (by decide) c hc e)
  have hTK := hTK.then hT65 (fun c e => by have : c = w55.heap.size := e; omega)
  have hK := hK0.tch0 hTK
  have hJ := hJ0.tch0 hTK
  replace hB59 : Blk w64 w55.heap.size 54 [.slice K n18 ck, .slice J n18 cj] := hB59'
  refine sg [(12, .int .i64 1)] (by kernel_rfl) ?_
  refine op_nil ?_
  refine W_seq ?_
  refine W_fg [(0, .agg #[.int .i64 ((wd : Nat) : Int), .int .u64 ((xa : Nat) : Int), .int .u64 ((xb : Nat) : Int), .int .u64 ((ins : Nat) : Int)]), (1, .pointer (some ⟨w.heap.size, 0, none⟩)), (2, .bool false), (3, .pointer (some ⟨p9, 0, none⟩)), (4, .slice Ra wd rca), (5, .slice Ha holda.length hca), (6, .slice Rb wd rcb), (7, .slice Hb holdb.length hcb), (8, .slice Q20 wd wd), (9, .slice R21 wd wd), (10, .slice A49 (0 + holda.length + holdb.length) cp50), (11, .pointer (some ⟨w55.heap.size, 0, none⟩)), (12, .int .i64 1), (19, .bool false), (23, .bool false)] (by kernel_rfl) fun ρ => ?_
  refine W_region (by kernel_rfl) ?_
  refine sg [(70, .pointer (some ⟨w.heap.size, 0, none⟩))] (by kernel_rfl) ?_
  refine st (by rfl) (S_val (v := .int .i64 ((wd : Nat) : Int)) (R_load (v := .int .i64 ((wd : Nat) : Int)) (by kernel_rfl) (by kernel_rfl) ((hB4.cell 0).trans rfl)) ?_)
  refine sg [(72, .pointer (some ⟨w.heap.size, 1, none⟩))] (by kernel_rfl) ?_
  refine st (by rfl) (S_val (v := .int .u64 ((xa : Nat) : Int)) (R_load (v := .int .u64 ((xa : Nat) : Int)) (by kernel_rfl) (by kernel_rfl) ((hB4.cell 1).trans rfl)) ?_)
  refine sg [(74, .pointer (some ⟨w.heap.size, 2, none⟩))] (by kernel_rfl) ?_
  refine st (by rfl) (S_val (v := .int .u64 ((xb : Nat) : Int)) (R_load (v := .int .u64 ((xb : Nat) : Int)) (by kernel_rfl) (by kernel_rfl) ((hB4.cell 2).trans rfl)) ?_)
  refine st (by rfl) (S_call (args := [.int .i64 4, .int .i64 ((wd : Nat) : Int), .int .u64 ((xa : Nat) : Int), .int .u64 ((xb : Nat) : Int)]) (by kernel_rfl) (rbin4_ok wd xa xb _ (by omega) (by omega) (by omega) (by omega)) ?_)
  rintro _ w67 ⟨rfl, hT68⟩
  have hT0 := hT0.t0 hT68
  have hB4 := hB4.tch0 hT68
  have hG := hG.tch0 hT68
  have hXa := hXa.tch0 hT68
  have hYa := hYa.tch0 hT68
  have hXb := hXb.tch0 hT68
  have hYb := hYb.tch0 hT68
  have hX26 := hX26.tch0 hT68
  have hX27 := hX27.tch0 hT68
  have hHm := hHm.tch0 hT68
  have hTK := hTK.t0 hT68
  have hK := hK0.tch0 hTK
  have hJ := hJ0.tch0 hTK
  have hB59 := hB59.tch0 hT68
  refine sg [(69, .tuple #[.int .u64 ((cutN wd (if cutN wd xb = 0 then pw wd - 1 else cutN wd xa / cutN wd xb) : Nat) : Int), .int .i64 0]), (77, .int .u64 ((cutN wd (if cutN wd xb = 0 then pw wd - 1 else cutN wd xa / cutN wd xb) : Nat) : Int)), (78, .int .i64 0), (13, .int .u64 ((cutN wd (if cutN wd xb = 0 then pw wd - 1 else cutN wd xa / cutN wd xb) : Nat) : Int)), (14, .int .i64 0)] (by kernel_rfl) ?_
  refine op_nil ?_
  refine W_seq ?_
  refine W_fg [(0, .agg #[.int .i64 ((wd : Nat) : Int), .int .u64 ((xa : Nat) : Int), .int .u64 ((xb : Nat) : Int), .int .u64 ((ins : Nat) : Int)]), (1, .pointer (some ⟨w.heap.size, 0, none⟩)), (2, .bool false), (3, .pointer (some ⟨p9, 0, none⟩)), (4, .slice Ra wd rca), (5, .slice Ha holda.length hca), (6, .slice Rb wd rcb), (7, .slice Hb holdb.length hcb), (8, .slice Q20 wd wd), (9, .slice R21 wd wd), (10, .slice A49 (0 + holda.length + holdb.length) cp50), (11, .pointer (some ⟨w55.heap.size, 0, none⟩)), (12, .int .i64 1), (13, .int .u64 ((cutN wd (if cutN wd xb = 0 then pw wd - 1 else cutN wd xa / cutN wd xb) : Nat) : Int)), (19, .bool false), (23, .bool false)] (by kernel_rfl) fun ρ => ?_
  refine W_region (by kernel_rfl) ?_
  refine sg [(80, .pointer (some ⟨w.heap.size, 0, none⟩))] (by kernel_rfl) ?_
  refine st (by rfl) (S_val (v := .int .i64 ((wd : Nat) : Int)) (R_load (v := .int .i64 ((wd : Nat) : Int)) (by kernel_rfl) (by kernel_rfl) ((hB4.cell 0).trans rfl)) ?_)
  refine sg [(82, .pointer (some ⟨w.heap.size, 1, none⟩))] (by kernel_rfl) ?_
  refine st (by rfl) (S_val (v := .int .u64 ((xa : Nat) : Int)) (R_load (v := .int .u64 ((xa : Nat) : Int)) (by kernel_rfl) (by kernel_rfl) ((hB4.cell 1).trans rfl)) ?_)
  refine sg [(84, .pointer (some ⟨w.heap.size, 2, none⟩))] (by kernel_rfl) ?_
  refine st (by rfl) (S_val (v := .int .u64 ((xb : Nat) : Int)) (R_load (v := .int .u64 ((xb : Nat) : Int)) (by kernel_rfl) (by kernel_rfl) ((hB4.cell 2).trans rfl)) ?_)
  refine st (by rfl) (S_call (args := [.int .i64 5, .int .i64 ((wd : Nat) : Int), .int .u64 ((xa : Nat) : Int), .int .u64 ((xb : Nat) : Int)]) (by kernel_rfl) (rbin5_ok wd xa xb _ (by omega) (by omega) (by omega) (by omega)) ?_)
  rintro _ w69 ⟨rfl, hT70⟩
  have hT0 := hT0.t0 hT70
  have hB4 := hB4.tch0 hT70
  have hG := hG.tch0 hT70
  have hXa := hXa.tch0 hT70
  have hYa := hYa.tch0 hT70
  have hXb := hXb.tch0 hT70
  have hYb := hYb.tch0 hT70
  have hX26 := hX26.tch0 hT70
  have hX27 := hX27.tch0 hT70
  have hHm := hHm.tch0 hT70
  have hTK := hTK.t0 hT70
  have hK := hK0.tch0 hTK
  have hJ := hJ0.tch0 hTK
  have hB59 := hB59.tch0 hT70
  refine sg [(79, .tuple #[.int .u64 ((cutN wd (if cutN wd xb = 0 then cutN wd xa else cutN wd xa % cutN wd xb) : Nat) : Int), .int .i64 0]), (87, .int .u64 ((cutN wd (if cutN wd xb = 0 then cutN wd xa else cutN wd xa % cutN wd xb) : Nat) : Int)), (88, .int .i64 0), (15, .int .u64 ((cutN wd (if cutN wd xb = 0 then cutN wd xa else cutN wd xa % cutN wd xb) : Nat) : Int)), (16, .int .i64 0)] (by kernel_rfl) ?_
  refine op_nil ?_
  refine W_seq ?_
  refine W_fg [(0, .agg #[.int .i64 ((wd : Nat) : Int), .int .u64 ((xa : Nat) : Int), .int .u64 ((xb : Nat) : Int), .int .u64 ((ins : Nat) : Int)]), (1, .pointer (some ⟨w.heap.size, 0, none⟩)), (2, .bool false), (3, .pointer (some ⟨p9, 0, none⟩)), (4, .slice Ra wd rca), (5, .slice Ha holda.length hca), (6, .slice Rb wd rcb), (7, .slice Hb holdb.length hcb), (8, .slice Q20 wd wd), (9, .slice R21 wd wd), (10, .slice A49 (0 + holda.length + holdb.length) cp50), (11, .pointer (some ⟨w55.heap.size, 0, none⟩)), (12, .int .i64 1), (13, .int .u64 ((cutN wd (if cutN wd xb = 0 then pw wd - 1 else cutN wd xa / cutN wd xb) : Nat) : Int)), (15, .int .u64 ((cutN wd (if cutN wd xb = 0 then cutN wd xa else cutN wd xa % cutN wd xb) : Nat) : Int)), (19, .bool false), (23, .bool false)] (by kernel_rfl) fun ρ => ?_
  refine W_region (by kernel_rfl) ?_
  refine sg [(89, .int .i64 1), (90, .bool true), (91, .bool true)] (by kernel_rfl) ?_
  refine st (by kernel_rfl) (S_val (v := .agg #[.slice K n18 ck, .slice J n18 cj]) (R_loadA [.slice K n18 ck, .slice J n18 cj] (by kernel_rfl) (by kernel_rfl) (by kernel_rfl) (fun k u hk => by rw [hB59.cell]; exact get_part _ 0 _ k u rfl hk)) ?_)
  refine sg [(93, .slice Q20 wd wd), (94, .pointer (some ⟨w.heap.size, 0, none⟩))] (by kernel_rfl) ?_
  refine st (by kernel_rfl) (S_val (v := .int .i64 ((wd : Nat) : Int)) (R_load (v := .int .i64 ((wd : Nat) : Int)) (by kernel_rfl) (by kernel_rfl) ((hB4.cell 0).trans rfl)) ?_)
  refine sg [(96, .int .u64 ((cutN wd (if cutN wd xb = 0 then pw wd - 1 else cutN wd xa / cutN wd xb) : Nat) : Int))] (by kernel_rfl) ?_
  refine st (by kernel_rfl) (S_call (args := [.agg #[.slice K n18 ck, .slice J n18 cj], .slice Q20 wd wd, .int .i64 ((wd : Nat) : Int), .int .u64 ((cutN wd (if cutN wd xb = 0 then pw wd - 1 else cutN wd xa / cutN wd xb) : Nat) : Int)]) (by kernel_rfl) (is_okV n18 wd wd K J Q20 ck cj kn tr q22 be (cutN wd (if cutN wd xb = 0 then pw wd - 1 else cutN wd xa / cutN wd xb)) _ hK hJ hX26.1 (by omega) hall (fun j hj => by have := hrw31.fit j hj; omega) (by omega) (by omega) (by first | omega | exact Nat.lt_of_lt_of_le (cutN_lt _ _) (pw64 (by omega)) | exact Nat.lt_of_lt_of_le (Nat.mod_lt _ (pw_pos _)) (pw64 (by omega)) | exact Nat.mod_lt _ (by omega)) (quo_says hva hvb (fun j hj => hrw31.val be hmd1 j hj))) ?_)
  rintro _ w71 ⟨rfl, hT72⟩
  have hT0 := hT0.t0 hT72
  have hB4 := hB4.tch0 hT72
  have hG := hG.tch0 hT72
  have hXa := hXa.tch0 hT72
  have hYa := hYa.tch0 hT72
  have hXb := hXb.tch0 hT72
  have hYb := hYb.tch0 hT72
  have hX26 := hX26.tch0 hT72
  have hX27 := hX27.tch0 hT72
  have hHm := hHm.tch0 hT72
  have hTK := hTK.t0 hT72
  have hK := hK0.tch0 hTK
  have hJ := hJ0.tch0 hTK
  have hB59 := hB59.tch0 hT72
  refine sg [(98, .bool true), (99, .bool true), (100, .bool true)] (by kernel_rfl) ?_
  refine st (by kernel_rfl) (S_val (v := .agg #[.slice K n18 ck, .slice J n18 cj]) (R_loadA [.slice K n18 ck, .slice J n18 cj] (by kernel_rfl) (by kernel_rfl) (by kernel_rfl) (fun k u hk => by rw [hB59.cell]; exact get_part _ 0 _ k u rfl hk)) ?_)
  refine sg [(102, .slice R21 wd wd), (103, .pointer (some ⟨w.heap.size, 0, none⟩))] (by kernel_rfl) ?_
  refine st (by kernel_rfl) (S_val (v := .int .i64 ((wd : Nat) : Int)) (R_load (v := .int .i64 ((wd : Nat) : Int)) (by kernel_rfl) (by kernel_rfl) ((hB4.cell 0).trans rfl)) ?_)
  refine sg [(105, .int .u64 ((cutN wd (if cutN wd xb = 0 then cutN wd xa else cutN wd xa % cutN wd xb) : Nat) : Int))] (by kernel_rfl) ?_
  refine st (by kernel_rfl) (S_call (args := [.agg #[.slice K n18 ck, .slice J n18 cj], .slice R21 wd wd, .int .i64 ((wd : Nat) : Int), .int .u64 ((cutN wd (if cutN wd xb = 0 then cutN wd xa else cutN wd xa % cutN wd xb) : Nat) : Int)]) (by kernel_rfl) (is_okV n18 wd wd K J R21 ck cj kn tr r23 be (cutN wd (if cutN wd xb = 0 then cutN wd xa else cutN wd xa % cutN wd xb)) _ hK hJ hX27.1 (by omega) hall (fun j hj => by have := hrw32.fit j hj; omega) (by omega) (by omega) (by first | omega | exact Nat.lt_of_lt_of_le (cutN_lt _ _) (pw64 (by omega)) | exact Nat.lt_of_lt_of_le (Nat.mod_lt _ (pw_pos _)) (pw64 (by omega)) | exact Nat.mod_lt _ (by omega)) (rem_says hva hvb (fun j hj => hrw32.val be hmd1 j hj))) ?_)
  rintro _ w73 ⟨rfl, hT74⟩
  have hT0 := hT0.t0 hT74
  have hB4 := hB4.tch0 hT74
  have hG := hG.tch0 hT74
  have hXa := hXa.tch0 hT74
  have hYa := hYa.tch0 hT74
  have hXb := hXb.tch0 hT74
  have hYb := hYb.tch0 hT74
  have hX26 := hX26.tch0 hT74
  have hX27 := hX27.tch0 hT74
  have hHm := hHm.tch0 hT74
  have hTK := hTK.t0 hT74
  have hK := hK0.tch0 hTK
  have hJ := hJ0.tch0 hTK
  have hB59 := hB59.tch0 hT74
  refine sg [(107, .bool true), (108, .bool true), (109, .bool true)] (by kernel_rfl) ?_
  refine st (by kernel_rfl) (S_call (args := []) (by kernel_rfl) (awake21_ok _) ?_)
  rintro _ w75 ⟨rfl, hT76⟩
  have hT0 := hT0.t0 hT76
  have hB4 := hB4.tch0 hT76
  have hG := hG.tch0 hT76
  have hXa := hXa.tch0 hT76
  have hYa := hYa.tch0 hT76
  have hXb := hXb.tch0 hT76
  have hYb := hYb.tch0 hT76
  have hX26 := hX26.tch0 hT76
  have hX27 := hX27.tch0 hT76
  have hHm := hHm.tch0 hT76
  have hTK := hTK.t0 hT76
  have hK := hK0.tch0 hTK
  have hJ := hJ0.tch0 hTK
  have hB59 := hB59.tch0 hT76
  refine sg [(111, .bool true), (2, .bool true)] (by kernel_rfl) ?_
  refine op_nil ?_
  refine W_ret ?_
  exact ⟨_, Res_of (v := .bool true) (by kernel_rfl), ⟨rfl, hT0⟩⟩

theorem MultDivides_w (W xa xb xi : Int) (w : World) (ha : 0 ≤ xa ∧ xa ≤ 18446744073709551615) (hb : 0 ≤ xb ∧ xb ≤ 18446744073709551615) (hi : 0 ≤ xi ∧ xi ≤ 18446744073709551615) : Ret Try.prog 9 [.agg #[.int .i64 W, .int .u64 xa, .int .u64 xb, .int .u64 xi]] w fun v w' => v = .bool true ∧ Tch N0 w w' := by
  by_cases h : W < 1 ∨ 16 < W
  · exact MultDivides_big W xa xb xi w h
  · obtain ⟨wd, rfl⟩ : ∃ k : Nat, W = k := ⟨W.toNat, by omega⟩
    obtain ⟨a, rfl⟩ : ∃ k : Nat, xa = k := ⟨xa.toNat, by omega⟩
    obtain ⟨b, rfl⟩ : ∃ k : Nat, xb = k := ⟨xb.toNat, by omega⟩
    obtain ⟨c, rfl⟩ : ∃ k : Nat, xi = k := ⟨xi.toNat, by omega⟩
    exact MultDivides_in wd a b c w (by omega) (by omega) (by omega) (by omega)

end Go.Proofs.YtnlecdpiccgdpaaV
