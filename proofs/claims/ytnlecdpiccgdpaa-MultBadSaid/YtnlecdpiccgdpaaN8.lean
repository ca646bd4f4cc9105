/- Walks of functions of the program and of the document's texts. The conditions stand with each theorem. -/
import Derived.Test.YtnlecdpiccgdpaaJ2
import Derived.Test.YtnlecdpiccgdpaaProg
import Derived.Test.YtnlecdpiccgdpaaJ1
import Derived.Test.YtnlecdpiccgdpaaJ12
set_option linter.unusedVariables false
set_option linter.unusedSimpArgs false
namespace Go.Proofs.YtnlecdpiccgdpaaV
open Go Go.RowKit Go.Proofs

set_option maxRecDepth 100000 in
theorem fits28_big (W most : Int) (xa xb xi : Int) (w : World) (h : W < 1 ∨ most < W) : Ret Try.prog 28 [.agg #[.int .i64 W, .int .u64 xa, .int .u64 xb, .int .u64 xi], .int .i64 most] w fun v w' => v = .int .i64 0 ∧ Tch N0 w w' := by
  refine enter Try.func28 rfl rfl ?_
  refine W_seq ?_
  refine W_region (by kernel_rfl) ?_
  refine st (by rfl) (S_new (v := .pointer (some ⟨w.heap.size, 0, none⟩)) (ob := .cells #[.int .i64 W, .int .u64 xa, .int .u64 xb, .int .u64 xi] 46) (by kernel_rfl) fun w1 hT2 hs3 hB4 => ?_)
  replace hB4 : Blk w1 (w.heap.size) 46 [.int .i64 W, .int .u64 xa, .int .u64 xb, .int .u64 xi] := hB4
  have hT0 := hT2
  refine sg [(4, .int .i64 0)] (by kernel_rfl) ?_
  refine op_nil ?_
  refine W_seq ?_
  refine W_seq ?_
  refine W_region (by kernel_rfl) ?_
  refine sg [(5, .pointer (some ⟨w.heap.size, 0, none⟩))] (by kernel_rfl) ?_
  refine st (by rfl) (S_val (v := .int .i64 W) (R_load (v := .int .i64 W) (by kernel_rfl) (by kernel_rfl) ((hB4.cell 0).trans rfl)) ?_)
  refine sg [(7, .bool (decide (W < 1))), (8, .bool (decide (W < 1)))] (by kernel_rfl) ?_
  cases hb5 : decide (W < 1)
  · replace hb5 : 1 ≤ W := (Int.not_lt.1 (of_decide_eq_false hb5))
    refine sg [(9, .pointer (some ⟨w.heap.size, 0, none⟩))] (by kernel_rfl) ?_
    refine st (by kernel_rfl) (S_val (v := .int .i64 W) (R_load (v := .int .i64 W) (by kernel_rfl) (by kernel_rfl) ((hB4.cell 0).trans rfl)) ?_)
    refine sg [(11, .int .i64 most), (12, .bool (decide (W > most))), (13, .bool (decide (W > most)))] (by kernel_rfl) ?_
    refine op_nil ?_
    refine W_cond (decide (W > most)) (by kernel_rfl) (by kernel_rfl) (fun hc6 => ?_) (fun hc6 => ?_)
    · replace hc6 : most < W := (of_decide_eq_true hc6)
      refine W_seq ?_
      refine W_fg [(0, .agg #[.int .i64 W, .int .u64 xa, .int .u64 xb, .int .u64 xi]), (1, .int .i64 most), (2, .pointer (some ⟨w.heap.size, 0, none⟩)), (4, .int .i64 0), (13, .bool (decide (W > most)))] (by kernel_rfl) fun ρ => ?_
      refine W_region (by kernel_rfl) ?_
      refine sg [(4, .int .i64 0)] (by kernel_rfl) ?_
      refine op_nil ?_
      refine W_ret ?_
      exact ⟨_, Res_of (v := .int .i64 0) (by kernel_rfl), ⟨by first | rfl | (exfalso; omega), hT0⟩⟩
    · replace hc6 : W ≤ most := (Int.not_lt.1 (of_decide_eq_false hc6))
      refine W_skip ?_
      refine W_seq ?_
      refine W_fg [(0, .agg #[.int .i64 W, .int .u64 xa, .int .u64 xb, .int .u64 xi]), (1, .int .i64 most), (2, .pointer (some ⟨w.heap.size, 0, none⟩)), (4, .int .i64 0), (13, .bool (decide (W > most)))] (by kernel_rfl) fun ρ => ?_
      refine W_region (by kernel_rfl) ?_
      refine sg [(4, .int .i64 1)] (by kernel_rfl) ?_
      refine op_nil ?_
      refine W_ret ?_
      exact ⟨_, Res_of (v := .int .i64 1) (by kernel_rfl), ⟨by first | rfl | (exfalso; omega), hT0⟩⟩
  · replace hb5 : W < 1 := (of_decide_eq_true hb5)
    refine sg [(9, undef), (10, undef), (11, undef), (12, undef), (13, .bool true)] (by kernel_rfl) ?_
    refine op_nil ?_
    refine W_cond true (by kernel_rfl) (by kernel_rfl) (fun _ => ?_) (fun h => nomatch h)
    refine W_seq ?_
    refine W_fg [(0, .agg #[.int .i64 W, .int .u64 xa, .int .u64 xb, .int .u64 xi]), (1, .int .i64 most), (2, .pointer (some ⟨w.heap.size, 0, none⟩)), (4, .int .i64 0), (13, .bool true)] (by kernel_rfl) fun ρ => ?_
    refine W_region (by kernel_rfl) ?_
    refine sg [(4, .int .i64 0)] (by kernel_rfl) ?_
    refine op_nil ?_
    refine W_ret ?_
    exact ⟨_, Res_of (v := .int .i64 0) (by kernel_rfl), ⟨by first | rfl | (exfalso; omega), hT0⟩⟩

set_option maxRecDepth 100000 in
theorem fits28_in (wd : Nat) (most : Int) (xa xb xi : Int) (w : World) (h : 1 ≤ (wd : Int) ∧ (wd : Int) ≤ most) : Ret Try.prog 28 [.agg #[.int .i64 ((wd : Nat) : Int), .int .u64 xa, .int .u64 xb, .int .u64 xi], .int .i64 most] w fun v w' => v = .int .i64 1 ∧ Tch N0 w w' := by
  refine enter Try.func28 rfl rfl ?_
  refine W_seq ?_
  refine W_region (by kernel_rfl) ?_
  refine st (by rfl) (S_new (v := .pointer (some ⟨w.heap.size, 0, none⟩)) (ob := .cells #[.int .i64 ((wd : Nat) : Int), .int .u64 xa, .int .u64 xb, .int .u64 xi] 46) (by kernel_rfl) fun w1 hT2 hs3 hB4 => ?_)
  replace hB4 : Blk w1 (w.heap.size) 46 [.int .i64 ((wd : Nat) : Int), .int .u64 xa, .int .u64 xb, .int .u64 xi] := hB4
  have hT0 := hT2
  refine sg [(4, .int .i64 0)] (by kernel_rfl) ?_
  refine op_nil ?_
  refine W_seq ?_
  refine W_seq ?_
  refine W_region (by kernel_rfl) ?_
  refine sg [(5, .pointer (some ⟨w.heap.size, 0, none⟩))] (by kernel_rfl) ?_
  refine st (by rfl) (S_val (v := .int .i64 ((wd : Nat) : Int)) (R_load (v := .int .i64 ((wd : Nat) : Int)) (by kernel_rfl) (by kernel_rfl) ((hB4.cell 0).trans rfl)) ?_)
  refine sg [(7, .bool (decide (((wd : Nat) : Int) < 1))), (8, .bool (decide (((wd : Nat) : Int) < 1)))] (by kernel_rfl) ?_
  cases hb5 : decide (((wd : Nat) : Int) < 1)
  · replace hb5 : 1 ≤ ((wd : Nat) : Int) := (Int.not_lt.1 (of_decide_eq_false hb5))
    refine sg [(9, .pointer (some ⟨w.heap.size, 0, none⟩))] (by kernel_rfl) ?_
    refine st (by kernel_rfl) (S_val (v := .int .i64 ((wd : Nat) : Int)) (R_load (v := .int .i64 ((wd : Nat) : Int)) (by kernel_rfl) (by kernel_rfl) ((hB4.cell 0).trans rfl)) ?_)
    refine sg [(11, .int .i64 most), (12, .bool (decide (((wd : Nat) : Int) > most))), (13, .bool (decide (((wd : Nat) : Int) > most)))] (by kernel_rfl) ?_
    refine op_nil ?_
    refine W_cond (decide (((wd : Nat) : Int) > most)) (by kernel_rfl) (by kernel_rfl) (fun hc6 => ?_) (fun hc6 => ?_)
    · replace hc6 : most < ((wd : Nat) : Int) := (of_decide_eq_true hc6)
      exfalso; omega
    · replace hc6 : ((wd : Nat) : Int) ≤ most := (Int.not_lt.1 (of_decide_eq_false hc6))
      refine W_skip ?_
      refine W_seq ?_
      refine W_fg [(0, .agg #[.int .i64 ((wd : Nat) : Int), .int .u64 xa, .int .u64 xb, .int .u64 xi]), (1, .int .i64 most), (2, .pointer (some ⟨w.heap.size, 0, none⟩)), (4, .int .i64 0), (13, .bool (decide (((wd : Nat) : Int) > most)))] (by kernel_rfl) fun ρ => ?_
      refine W_region (by kernel_rfl) ?_
      refine sg [(4, .int .i64 1)] (by kernel_rfl) ?_
      refine op_nil ?_
      refine W_ret ?_
      exact ⟨_, Res_of (v := .int .i64 1) (by kernel_rfl), ⟨rfl, hT0⟩⟩
  · replace hb5 : ((wd : Nat) : Int) < 1 := (of_decide_eq_true hb5)
    exfalso; omega

set_option maxRecDepth 100000 in
theorem MultBad_big (W xa xb xi : Int) (nn : Int) (w : World) (h : W < 1 ∨ 24 < W) : Ret Try.prog 10 [.agg #[.int .i64 W, .int .u64 xa, .int .u64 xb, .int .u64 xi], .int .u8 nn] w fun v w' => v = .bool true ∧ Tch N0 w w' := by
  refine enter Try.func10 rfl rfl ?_
  refine W_seq ?_
  refine W_region (by kernel_rfl) ?_
  refine st (by rfl) (S_new (v := .pointer (some ⟨w.heap.size, 0, none⟩)) (ob := .cells #[.int .i64 W, .int .u64 xa, .int .u64 xb, .int .u64 xi] 46) (by kernel_rfl) fun w1 hT2 hs3 hB4 => ?_)
  replace hB4 : Blk w1 (w.heap.size) 46 [.int .i64 W, .int .u64 xa, .int .u64 xb, .int .u64 xi] := hB4
  have hT0 := hT2
  refine sg [(4, .bool false)] (by kernel_rfl) ?_
  refine op_nil ?_
  refine W_seq ?_
  refine W_seq ?_
  refine W_region (by kernel_rfl) ?_
  refine st (by rfl) (S_val (v := .agg #[.int .i64 W, .int .u64 xa, .int .u64 xb, .int .u64 xi]) (R_loadA [.int .i64 W, .int .u64 xa, .int .u64 xb, .int .u64 xi] (by kernel_rfl) (by kernel_rfl) (by kernel_rfl) (fun k u hk => by rw [hB4.cell]; exact get_part _ 0 _ k u rfl hk)) ?_)
  refine st (by rfl) (S_call (args := [.agg #[.int .i64 W, .int .u64 xa, .int .u64 xb, .int .u64 xi], .int .i64 24]) (by kernel_rfl) (fits28_big W 24 xa xb xi _ (by omega)) ?_)
  rintro _ w5 ⟨rfl, hT6⟩
  have hT0 := hT0.t0 hT6
  have hB4 := hB4.tch0 hT6
  refine sg [(15, .bool true)] (by kernel_rfl) ?_
  refine op_nil ?_
  refine W_cond true (by kernel_rfl) (by kernel_rfl) (fun _ => ?_) (fun h => nomatch h)
  refine W_seq ?_
  refine W_region (by kernel_rfl) ?_
  refine st (by rfl) (S_call (args := []) (by kernel_rfl) (awake21_ok _) ?_)
  rintro _ w7 ⟨rfl, hT8⟩
  have hT0 := hT0.t0 hT8
  have hB4 := hB4.tch0 hT8
  refine sg [(4, .bool true)] (by kernel_rfl) ?_
  refine op_nil ?_
  refine W_ret ?_
  exact ⟨_, Res_of (v := .bool true) (by kernel_rfl), ⟨rfl, hT0⟩⟩

set_option maxRecDepth 100000 in
set_option maxHeartbeats 4000000 in
theorem MultBad_in (wd xa xb ins : Nat) (nn : Nat)  (w : World) (h1 : 1 ≤ wd) (h2 : wd ≤ 24) (ha : xa < 18446744073709551616) (hb : xb < 18446744073709551616) (hnn : nn ≤ 255) : Ret Try.prog 10 [.agg #[.int .i64 ((wd : Nat) : Int), .int .u64 ((xa : Nat) : Int), .int .u64 ((xb : Nat) : Int), .int .u64 ((ins : Nat) : Int)], .int .u8 ((nn : Nat) : Int)] w fun v w' => v = .bool true ∧ Tch N0 w w' := by
  refine enter Try.func10 rfl rfl ?_
  refine W_seq ?_
  refine W_region (by kernel_rfl) ?_
  refine st (by rfl) (S_new (v := .pointer (some ⟨w.heap.size, 0, none⟩)) (ob := .cells #[.int .i64 ((wd : Nat) : Int), .int .u64 ((xa : Nat) : Int), .int .u64 ((xb : Nat) : Int), .int .u64 ((ins : Nat) : Int)] 46) (by kernel_rfl) fun w1 hT2 hs3 hB4 => ?_)
  replace hB4 : Blk w1 (w.heap.size) 46 [.int .i64 ((wd : Nat) : Int), .int .u64 ((xa : Nat) : Int), .int .u64 ((xb : Nat) : Int), .int .u64 ((ins : Nat) : Int)] := hB4
  have hT0 := hT2
  refine sg [(4, .bool false)] (by kernel_rfl) ?_
  refine op_nil ?_
  refine W_seq ?_
  refine W_seq ?_
  refine W_region (by kernel_rfl) ?_
  refine st (by rfl) (S_val (v := .agg #[.int .i64 ((wd : Nat) : Int), .int .u64 ((xa : Nat) : Int), .int .u64 ((xb : Nat) : Int), .int .u64 ((ins : Nat) : Int)]) (R_loadA [.int .i64 ((wd : Nat) : Int), .int .u64 ((xa : Nat) : Int), .int .u64 ((xb : Nat) : Int), .int .u64 ((ins : Nat) : Int)] (by kernel_rfl) (by kernel_rfl) (by kernel_rfl) (fun k u hk => by rw [hB4.cell]; exact get_part _ 0 _ k u rfl hk)) ?_)
  refine st (by rfl) (S_call (args := [.agg #[.int .i64 ((wd : Nat) : Int), .int .u64 ((xa : Nat) : Int), .int .u64 ((xb : Nat) : Int), .int .u64 ((ins : Nat) : Int)], .int .i64 24]) (by kernel_rfl) (fits28_in wd 24 ((xa : Nat) : Int) ((xb : Nat) : Int) ((ins : Nat) : Int) _ (by omega)) ?_)
  rintro _ w5 ⟨rfl, hT6⟩
  have hT0 := hT0.t0 hT6
  have hB4 := hB4.tch0 hT6
  refine sg [(15, .bool false)] (by kernel_rfl) ?_
  refine op_nil ?_
  refine W_cond false (by kernel_rfl) (by kernel_rfl) (fun h => nomatch h) (fun _ => ?_)
  refine W_skip ?_
  refine W_seq ?_
  refine W_region (by kernel_rfl) ?_
  have hz_ := hT0.size
  have lt11 := hB4.lt
  refine st (by rfl) (S_call (args := []) (by kernel_rfl) (new_ok _) ?_)
  rintro _ w7 ⟨p9, F10, rfl, hG, hT8, hFb⟩
  have hT0 := hT0.t0 hT8
  have hB4 := hB4.tch0 hT8
  have nF_hB4 : ¬ F10 (w.heap.size) := fun e => by have := hFb _ e; omega
  replace hFb := fun b hb => Nat.le_trans hz_ (hFb b hb)
  refine sg [(5, .pointer (some ⟨p9, 0, none⟩))] (by kernel_rfl) ?_
  refine op_nil ?_
  refine W_seq ?_
  refine W_seq ?_
  refine W_region (by kernel_rfl) ?_
  refine sg [(18, .pointer (some ⟨p9, 0, none⟩)), (19, .bool false)] (by kernel_rfl) ?_
  refine op_nil ?_
  refine W_cond false (by kernel_rfl) (by kernel_rfl) (fun h => nomatch h) (fun _ => ?_)
  refine W_skip ?_
  refine W_seq ?_
  refine W_fg [(0, .agg #[.int .i64 ((wd : Nat) : Int), .int .u64 ((xa : Nat) : Int), .int .u64 ((xb : Nat) : Int), .int .u64 ((ins : Nat) : Int)]), (1, .int .u8 ((nn : Nat) : Int)), (2, .pointer (some ⟨w.heap.size, 0, none⟩)), (4, .bool false), (5, .pointer (some ⟨p9, 0, none⟩)), (15, .bool false), (19, .bool false)] (by kernel_rfl) fun ρ => ?_
  refine W_region (by kernel_rfl) ?_
  refine sg [(21, .pointer (some ⟨p9, 0, none⟩)), (22, .pointer (some ⟨w.heap.size, 0, none⟩))] (by kernel_rfl) ?_
  refine st (by rfl) (S_val (v := .int .i64 ((wd : Nat) : Int)) (R_load (v := .int .i64 ((wd : Nat) : Int)) (by kernel_rfl) (by kernel_rfl) ((hB4.cell 0).trans rfl)) ?_)
  refine sg [(24, .pointer (some ⟨w.heap.size, 1, none⟩))] (by kernel_rfl) ?_
  refine st (by rfl) (S_val (v := .int .u64 ((xa : Nat) : Int)) (R_load (v := .int .u64 ((xa : Nat) : Int)) (by kernel_rfl) (by kernel_rfl) ((hB4.cell 1).trans rfl)) ?_)
  refine sg [(26, .pointer (some ⟨w.heap.size, 3, none⟩))] (by kernel_rfl) ?_
  refine st (by rfl) (S_val (v := .int .u64 ((ins : Nat) : Int)) (R_load (v := .int .u64 ((ins : Nat) : Int)) (by kernel_rfl) (by kernel_rfl) ((hB4.cell 3).trans rfl)) ?_)
  have hz_ := hT0.size
  have lt13 := hB4.lt
  refine st (by rfl) (S_call (args := [.pointer (some ⟨p9, 0, none⟩), .int .i64 ((wd : Nat) : Int), .int .u64 ((xa : Nat) : Int), .int .u64 ((ins : Nat) : Int)]) (by kernel_rfl) (row_ok F10 p9 1 wd ([[0]]) (fun _ => False) xa ins _ hG (by omega) (by omega) (by omega)) ?_)
  rintro _ w12 ⟨Fa, na, Ia, Ra, rca, Ha, hca, rowa, holda, rfl, hXa, hYa, gRa, gHa, hG, mva, hria, hda, aHa, hlla⟩
  have hT0 := (hT0).then mva.1 hFb
  have hB4 := hB4.tch mva.1 nF_hB4
  replace nF_hB4 : ¬ Fa (w.heap.size) := fun e => (mva.2 _ e).elim nF_hB4 (fun q => by omega)
  replace hFb := mva.ge hFb hz_
  have lt_hXa := hXa.lt
  have lt_hYa := hYa.lt
  have ge_hXa := gRa
  have ge_hYa := gHa
  have hle_hria := hria.le
  refine sg [(20, .tuple #[.slice Ra wd rca, .slice Ha holda.length hca]), (29, .slice Ra wd rca), (30, .slice Ha holda.length hca), (6, .slice Ra wd rca), (7, .slice Ha holda.length hca)] (by kernel_rfl) ?_
  refine op_nil ?_
  refine W_seq ?_
  refine W_fg [(0, .agg #[.int .i64 ((wd : Nat) : Int), .int .u64 ((xa : Nat) : Int), .int .u64 ((xb : Nat) : Int), .int .u64 ((ins : Nat) : Int)]), (1, .int .u8 ((nn : Nat) : Int)), (2, .pointer (some ⟨w.heap.size, 0, none⟩)), (4, .bool false), (5, .pointer (some ⟨p9, 0, none⟩)), (6, .slice Ra wd rca), (15, .bool false), (19, .bool false)] (by kernel_rfl) fun ρ => ?_
  refine W_region (by kernel_rfl) ?_
  have hlt_ := hG.1.lt
  have lt18 := hB4.lt
  have lt_hXa := hXa.lt
  have lt_hYa := hYa.lt
  have z19 := hT0.size
  have l20 := hB4.lt
  refine st (by rfl) (S_new (v := .slice (some ⟨w12.heap.size, 0, none⟩) 0 0) (ob := .cells #[] 3) (by kernel_rfl) fun w14 hT15 hs16 hB17 => ?_)
  replace hB17 : Blk w14 (w12.heap.size) 3 [] := hB17
  have hT0 := hT0.t0 hT15
  have hB4 := hB4.tch0 hT15
  have hG := hG.tch0 hT15
  have hXa := hXa.tch0 hT15
  have hYa := hYa.tch0 hT15
  have nF_hB17 : ¬ Fa (w12.heap.size) := fun e => by have := hlt_ _ e; omega
  refine sg [(32, .slice Ra wd rca)] (by kernel_rfl) ?_
  obtain ⟨bR, oR, eR⟩ := hXa.addr (by omega)
  have hOw0 := hB17.own0
  refine st (by rfl) (S_append_at 27 3 (.int .i64 0) 8 (n := 0) (m := wd) (v := .slice (some ⟨w12.heap.size, 0, none⟩) 0 0) (cells := []) (news := nats rowa) (b := bR) (off := oR) (c := rca) (by kernel_rfl) (by rfl) (by kernel_rfl) (by kernel_rfl) (show evR _ _ = _ from by rw [← eR]; kernel_rfl) hOw0 (by rw [nats_length]; exact hXa.len) (fun k u hk => ?cells) (nats_oneV _) (by simp only [maxLen]; omega) (by omega) (by omega) fun g cp sp w21 hG2 hl2 hc1 hc2 hg2 hT22 => ?_)
  case cells =>
    obtain ⟨b2, o2, e2, _, hc⟩ := hXa.1.2.2 (by omega)
    rw [e2] at eR; injection eR with eR; injection eR with e3 e4; subst e3; subst e4; exact hc k u hk
  have hgz : w12.heap.size ≤ g := hg2.elim (fun q => by have e : w12.heap.size = g := (by injection q); omega) (fun q => by omega)
  have hT0 := (hT0).then hT22 (fun c q => by have e : w12.heap.size = c := (by injection q); omega)
  have hB4 := hB4.tch hT22 (fun q => by have e : w12.heap.size = _ := (by injection q); omega)
  have hG := hG.tchS hT22 (fun c q e2 => by have e : w12.heap.size = c := (by injection q); have := hlt_ _ e2; omega)
  have hXa := hXa.st hT22 (fun c hc q => by have e : w12.heap.size = c := (by injection q); have := lt_hXa c hc; omega)
  have hYa := hYa.st hT22 (fun c hc q => by have e : w12.heap.size = c := (by injection q); have := lt_hYa c hc; omega)
  have hsz23 := hT22.size
  rw [Nat.zero_add]
  have hBb : Blk w21 (g) 3 (ints .i64 (rowa.map fun (x : Nat) => (x : Int)) ++ sp) := by rw [← nats_ints]; simpa using hG2
  have nF_hBb : ¬ Fa (g) := fun e => by have := hlt_ _ e; omega
  have hlb_ : (rowa.map fun (x : Nat) => (x : Int)).length = wd := by rw [List.length_map]; exact hXa.len
  have hmd_ : nn % wd < wd := Nat.mod_lt _ (by omega)
  refine sg [(8, .slice (some ⟨g, 0, none⟩) wd cp)] (by kernel_rfl) ?_
  refine op_nil ?_
  refine W_seq ?_
  refine W_region (by kernel_rfl) ?_
  refine sg [(34, .slice (some ⟨g, 0, none⟩) wd cp), (35, .int .u8 ((nn : Nat) : Int)), (36, .int .i64 (IntKind.i64.wrap ((nn : Nat) : Int)))] (by kernel_rfl) ?_
  rw [show IntKind.i64.wrap ((nn : Nat) : Int) = ((nn : Nat) : Int) from wrap_i64 (by omega) (by omega)]
  refine sg [(37, .slice (some ⟨g, 0, none⟩) wd cp), (38, .int .i64 (wd : Int))] (by kernel_rfl) ?_
  refine stv (v := .int .i64 ((nn % wd : Nat) : Int)) (by rfl) (S_rem_ (by kernel_rfl) (by kernel_rfl) (by omega)) ?_
  refine stv (v := .pointer (some ⟨g, nn % wd, none⟩)) (by rfl) (R_index0 (b := g) (len := wd) (cap := cp) (k := .i64) (i := ((nn % wd : Nat) : Int)) (e := 3) (nn % wd) (by kernel_rfl) (by kernel_rfl) (by kernel_rfl) (by kernel_rfl) rfl (by first | omega | (simp only [List.length_set, List.length_map]; omega))) ?_
  refine st (by rfl) (S_store (b := g) (j := nn % wd) (v := .int .i64 (-1)) (by kernel_rfl) (by kernel_rfl) (by kernel_rfl) (by rfl) hBb (by (try rw [List.length_append]); rw [ints_length]; first | omega | (simp only [List.length_set, List.length_map]; omega)) fun w24 hT25 hs26 hBb' => ?_)
  have hT0 := (hT0).then hT25 (fun c e => by have : c = g := e; omega)
  have hB4 := hB4.tch hT25 (hB4.ne hBb (by decide))
  have hG := hG.tchS hT25 (fun c e q => by cases e; exact nF_hBb q)
  have hXa := hXa.st hT25 (fun c hc e => by have h1 := lt_hXa c hc; have h2 := ge_hXa c hc; have : c = g := e; omega)
  have hYa := hYa.st hT25 (fun c hc e => by have h1 := lt_hYa c hc; have h2 := ge_hYa c hc; have : c = g := e; omega)
  replace hBb : Blk w24 (g) 3 (ints .i64 ((rowa.map fun (x : Nat) => (x : Int)).set (nn % wd) (-1)) ++ sp) := (ints_setP (l := (rowa.map fun (x : Nat) => (x : Int))) (sp := sp) (i := nn % wd) (-1) (by first | omega | (simp only [List.length_set, List.length_map]; omega))) ▸ hBb'
  refine op_nil ?_
  refine W_seq ?_
  refine W_fg [(0, .agg #[.int .i64 ((wd : Nat) : Int), .int .u64 ((xa : Nat) : Int), .int .u64 ((xb : Nat) : Int), .int .u64 ((ins : Nat) : Int)]), (1, .int .u8 ((nn : Nat) : Int)), (2, .pointer (some ⟨w.heap.size, 0, none⟩)), (4, .bool false), (5, .pointer (some ⟨p9, 0, none⟩)), (6, .slice Ra wd rca), (8, .slice (some ⟨g, 0, none⟩) wd cp), (15, .bool false), (19, .bool false)] (by kernel_rfl) fun ρ => ?_
  refine W_region (by kernel_rfl) ?_
  refine sg [(42, .pointer (some ⟨p9, 0, none⟩)), (43, .slice Ra wd rca), (44, .slice (some ⟨g, 0, none⟩) wd cp)] (by kernel_rfl) ?_
  refine st (by rfl) (S_call (args := [.pointer (some ⟨p9, 0, none⟩), .slice Ra wd rca, .slice (some ⟨g, 0, none⟩) wd cp]) (by kernel_rfl) (div_bad p9 wd wd rca cp Ra (some ⟨g, 0, none⟩) (rowa.map fun (x : Nat) => (x : Int)) ((rowa.map fun (x : Nat) => (x : Int)).set (nn % wd) (-1)) _ (by rw [← nats_ints]; exact hXa.1) (hBb.rdP 1 _ (by rw [ints_length]; simp only [List.length_set]; omega) (by omega)) (badR_neg hmd_ hlb_)) ?_)
  rintro _ w27 ⟨rfl, hT28⟩
  have hT0 := hT0.t0 hT28
  have hB4 := hB4.tch0 hT28
  have hG := hG.tch0 hT28
  have hXa := hXa.tch0 hT28
  have hYa := hYa.tch0 hT28
  have hBb := hBb.tch0 hT28
  refine sg [(41, .tuple #[.slice none 0 0, .slice none 0 0]), (46, .slice none 0 0), (47, .slice none 0 0), (9, .slice none 0 0), (10, .slice none 0 0)] (by kernel_rfl) ?_
  refine op_nil ?_
  refine W_seq ?_
  refine W_fg [(0, .agg #[.int .i64 ((wd : Nat) : Int), .int .u64 ((xa : Nat) : Int), .int .u64 ((xb : Nat) : Int), .int .u64 ((ins : Nat) : Int)]), (1, .int .u8 ((nn : Nat) : Int)), (2, .pointer (some ⟨w.heap.size, 0, none⟩)), (4, .bool false), (5, .pointer (some ⟨p9, 0, none⟩)), (6, .slice Ra wd rca), (8, .slice (some ⟨g, 0, none⟩) wd cp), (9, .slice none 0 0), (10, .slice none 0 0), (15, .bool false), (19, .bool false)] (by kernel_rfl) fun ρ => ?_
  refine W_region (by kernel_rfl) ?_
  refine sg [(49, .slice Ra wd rca), (50, .slice Ra wd rca)] (by kernel_rfl) ?_
  refine st (by rfl) (S_call (args := [.pointer none, .slice Ra wd rca, .slice Ra wd rca]) (by kernel_rfl) (div_nil wd wd rca rca Ra Ra _) ?_)
  rintro _ w29 ⟨rfl, hT30⟩
  have hT0 := hT0.t0 hT30
  have hB4 := hB4.tch0 hT30
  have hG := hG.tch0 hT30
  have hXa := hXa.tch0 hT30
  have hYa := hYa.tch0 hT30
  have hBb := hBb.tch0 hT30
  refine sg [(48, .tuple #[.slice none 0 0, .slice none 0 0]), (52, .slice none 0 0), (53, .slice none 0 0), (11, .slice none 0 0), (12, .slice none 0 0)] (by kernel_rfl) ?_
  refine op_nil ?_
  refine W_seq ?_
  refine W_fg [(0, .agg #[.int .i64 ((wd : Nat) : Int), .int .u64 ((xa : Nat) : Int), .int .u64 ((xb : Nat) : Int), .int .u64 ((ins : Nat) : Int)]), (1, .int .u8 ((nn : Nat) : Int)), (2, .pointer (some ⟨w.heap.size, 0, none⟩)), (4, .bool false), (5, .pointer (some ⟨p9, 0, none⟩)), (6, .slice Ra wd rca), (8, .slice (some ⟨g, 0, none⟩) wd cp), (9, .slice none 0 0), (10, .slice none 0 0), (11, .slice none 0 0), (12, .slice none 0 0), (15, .bool false), (19, .bool false)] (by kernel_rfl) fun ρ => ?_
  obtain ⟨tl, hXt⟩ := hXa.tail (cp := rca) (by omega)
  have lt_hXt := hXt.lt
  have ge_hXt : ∀ c, blkOf (slA Ra 1 rca) = some c → 0 ≤ c := fun c _ => Nat.zero_le c
  refine W_region (by kernel_rfl) ?_
  refine sg [(54, .pointer (some ⟨p9, 0, none⟩)), (55, .slice Ra wd rca), (56, .slice (some ⟨g, 0, none⟩) wd cp)] (by kernel_rfl) ?_
  refine st (by rfl) (S_call (args := [.pointer (some ⟨p9, 0, none⟩), .slice Ra wd rca, .slice (some ⟨g, 0, none⟩) wd cp]) (by kernel_rfl) (mul_bad p9 wd wd rca cp Ra (some ⟨g, 0, none⟩) (rowa.map fun (x : Nat) => (x : Int)) ((rowa.map fun (x : Nat) => (x : Int)).set (nn % wd) (-1)) _ (by rw [← nats_ints]; exact hXa.1) (hBb.rdP 1 _ (by rw [ints_length]; simp only [List.length_set]; omega) (by omega)) (badR_neg hmd_ hlb_)) ?_)
  rintro _ w31 ⟨rfl, hT32⟩
  have hT0 := hT0.t0 hT32
  have hB4 := hB4.tch0 hT32
  have hG := hG.tch0 hT32
  have hXa := hXa.tch0 hT32
  have hYa := hYa.tch0 hT32
  have hBb := hBb.tch0 hT32
  have hXt := hXt.tch0 hT32
  refine sg [(58, .int .i64 0), (59, .bool true), (60, .bool true), (61, .pointer (some ⟨p9, 0, none⟩)), (62, .slice (some ⟨g, 0, none⟩) wd cp), (63, .slice Ra wd rca)] (by kernel_rfl) ?_
  refine st (by kernel_rfl) (S_call (args := [.pointer (some ⟨p9, 0, none⟩), .slice (some ⟨g, 0, none⟩) wd cp, .slice Ra wd rca]) (by kernel_rfl) (mul_bad p9 wd wd cp rca (some ⟨g, 0, none⟩) Ra ((rowa.map fun (x : Nat) => (x : Int)).set (nn % wd) (-1)) (rowa.map fun (x : Nat) => (x : Int)) _ (hBb.rdP 1 _ (by rw [ints_length]; simp only [List.length_set]; omega) (by omega)) (by rw [← nats_ints]; exact hXa.1) (badR_neg1 hmd_ hlb_)) ?_)
  rintro _ w33 ⟨rfl, hT34⟩
  have hT0 := hT0.t0 hT34
  have hB4 := hB4.tch0 hT34
  have hG := hG.tch0 hT34
  have hXa := hXa.tch0 hT34
  have hYa := hYa.tch0 hT34
  have hBb := hBb.tch0 hT34
  have hXt := hXt.tch0 hT34
  refine sg [(65, .int .i64 0), (66, .bool true), (67, .bool true), (68, .bool true), (69, .pointer (some ⟨p9, 0, none⟩)), (70, .slice Ra wd rca), (71, .slice Ra wd rca)] (by kernel_rfl) ?_
  refine stv (v := .slice (slA Ra 1 rca) (wd - 1) (rca - 1)) (by kernel_rfl) (R_sliceL (A := Ra) (n := wd) (cp := rca) 1 (by kernel_rfl) (by kernel_rfl) (by kernel_rfl) (by kernel_rfl) (by omega)) ?_
  refine st (by kernel_rfl) (S_call (args := [.pointer (some ⟨p9, 0, none⟩), .slice Ra wd rca, .slice (slA Ra 1 rca) (wd - 1) (rca - 1)]) (by kernel_rfl) (mul_bad p9 wd (wd - 1) rca (rca - 1) Ra (slA Ra 1 rca) (rowa.map fun (x : Nat) => (x : Int)) (tl.map fun (x : Nat) => (x : Int)) _ (by rw [← nats_ints]; exact hXa.1) (by rw [← nats_ints]; exact hXt.1) (badR_len (by omega))) ?_)
  rintro _ w35 ⟨rfl, hT36⟩
  have hT0 := hT0.t0 hT36
  have hB4 := hB4.tch0 hT36
  have hG := hG.tch0 hT36
  have hXa := hXa.tch0 hT36
  have hYa := hYa.tch0 hT36
  have hBb := hBb.tch0 hT36
  have hXt := hXt.tch0 hT36
  refine sg [(74, .int .i64 0), (75, .bool true), (76, .bool true), (77, .bool true), (78, .slice none 0 0), (79, .int .i64 0), (80, .slice none 0 0), (81, .int .i64 0), (82, .int .i64 0), (83, .slice none 0 0), (84, .int .i64 0), (85, .int .i64 0), (86, .slice none 0 0), (87, .int .i64 0), (88, .int .i64 0), (89, .bool true), (90, .bool true), (91, .bool true), (92, .slice Ra wd rca), (93, .slice Ra wd rca)] (by kernel_rfl) ?_
  refine st (by kernel_rfl) (S_call (args := [.pointer none, .slice Ra wd rca, .slice Ra wd rca]) (by kernel_rfl) (mul_nil wd wd rca rca Ra Ra _) ?_)
  rintro _ w37 ⟨rfl, hT38⟩
  have hT0 := hT0.t0 hT38
  have hB4 := hB4.tch0 hT38
  have hG := hG.tch0 hT38
  have hXa := hXa.tch0 hT38
  have hYa := hYa.tch0 hT38
  have hBb := hBb.tch0 hT38
  have hXt := hXt.tch0 hT38
  refine sg [(95, .int .i64 0), (96, .bool true), (97, .bool true), (98, .bool true)] (by kernel_rfl) ?_
  refine st (by kernel_rfl) (S_call (args := []) (by kernel_rfl) (awake21_ok _) ?_)
  rintro _ w39 ⟨rfl, hT40⟩
  have hT0 := hT0.t0 hT40
  have hB4 := hB4.tch0 hT40
  have hG := hG.tch0 hT40
  have hXa := hXa.tch0 hT40
  have hYa := hYa.tch0 hT40
  have hBb := hBb.tch0 hT40
  have hXt := hXt.tch0 hT40
  refine sg [(100, .bool true), (4, .bool true)] (by kernel_rfl) ?_
  refine op_nil ?_
  refine W_ret ?_
  exact ⟨_, Res_of (v := .bool true) (by kernel_rfl), ⟨rfl, hT0⟩⟩

theorem MultBad_w (W xa xb xi nn : Int) (w : World) (hn : 0 ≤ nn ∧ nn ≤ 255) (ha : 0 ≤ xa ∧ xa ≤ 18446744073709551615) (hb : 0 ≤ xb ∧ xb ≤ 18446744073709551615) (hi : 0 ≤ xi ∧ xi ≤ 18446744073709551615) : Ret Try.prog 10 [.agg #[.int .i64 W, .int .u64 xa, .int .u64 xb, .int .u64 xi], .int .u8 nn] w fun v w' => v = .bool true ∧ Tch N0 w w' := by
  by_cases h : W < 1 ∨ 24 < W
  · exact MultBad_big W xa xb xi nn w h
  · obtain ⟨wd, rfl⟩ : ∃ k : Nat, W = k := ⟨W.toNat, by omega⟩
    obtain ⟨a, rfl⟩ : ∃ k : Nat, xa = k := ⟨xa.toNat, by omega⟩
    obtain ⟨b, rfl⟩ : ∃ k : Nat, xb = k := ⟨xb.toNat, by omega⟩
    obtain ⟨c, rfl⟩ : ∃ k : Nat, xi = k := ⟨xi.toNat, by omega⟩
    obtain ⟨m, rfl⟩ : ∃ k : Nat, nn = k := ⟨nn.toNat, by omega⟩
    exact MultBad_in wd a b c m w (by omega) (by omega) (by omega) (by omega) (by omega)

end Go.Proofs.YtnlecdpiccgdpaaV
