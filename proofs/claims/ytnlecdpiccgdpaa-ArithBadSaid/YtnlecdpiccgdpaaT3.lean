/- Walks of functions of the program and of the document's texts. The conditions stand with each theorem. -/
import Derived.Test.YtnlecdpiccgdpaaVx13
import Derived.Test.YtnlecdpiccgdpaaProg
import Derived.Test.YtnlecdpiccgdpaaVx4
import Derived.Test.YtnlecdpiccgdpaaT2
import Derived.Test.YtnlecdpiccgdpaaX1
set_option linter.unusedVariables false
set_option linter.unusedSimpArgs false
namespace Go.Proofs.YtnlecdpiccgdpaaV
open Go Go.RowKit Go.Proofs

theorem badR_ng {m k : Nat} {a b : List Int} {x : Int} (hx : x < 0) (hk : k < m) (hl : b.length = m) : BadR m a m (b.set k x) := fun q => by
  have := q.2.2.2 k hk
  rw [List.getD_eq_getElem?_getD, List.getElem?_set_self (by omega)] at this
  simp at this; omega
theorem badR_ng1 {m k : Nat} {a b : List Int} {x : Int} (hx : x < 0) (hk : k < m) (hl : a.length = m) : BadR m (a.set k x) m b := fun q => by
  have := q.2.2.1 k hk
  rw [List.getD_eq_getElem?_getD, List.getElem?_set_self (by omega)] at this
  simp at this; omega
theorem bad1_ng {m k : Nat} {a : List Int} {x : Int} (hx : x < 0) (hk : k < m) (hl : a.length = m) : ¬ (0 < m ∧ ∀ j, j < m → 0 ≤ (a.set k x).getD j 0) := fun q => by
  have := q.2 k hk
  rw [List.getD_eq_getElem?_getD, List.getElem?_set_self (by omega)] at this
  simp at this; omega

set_option maxRecDepth 100000 in
theorem ArithBad_big (W xa xb xi : Int) (nn bad : Int) (w : World) (h : W < 1 ∨ 64 < W) : Ret Try.prog 12 [.agg #[.int .i64 W, .int .u64 xa, .int .u64 xb, .int .u64 xi], .int .u8 nn, .int .i64 bad] w fun v w' => v = .bool true ∧ Tch N0 w w' := by
  refine enter Try.func12 rfl rfl ?_
  refine W_seq ?_
  refine W_region (by kernel_rfl) ?_
  refine st (by rfl) (S_new (v := .pointer (some ⟨w.heap.size, 0, none⟩)) (ob := .cells #[.int .i64 W, .int .u64 xa, .int .u64 xb, .int .u64 xi] 46) (by kernel_rfl) fun w1 hT2 hs3 hB4 => ?_)
  replace hB4 : Blk w1 (w.heap.size) 46 [.int .i64 W, .int .u64 xa, .int .u64 xb, .int .u64 xi] := hB4
  have hT0 := hT2
  refine sg [(6, .bool false)] (by kernel_rfl) ?_
  refine op_nil ?_
  refine W_seq ?_
  refine W_seq ?_
  refine W_region (by kernel_rfl) ?_
  refine st (by rfl) (S_val (v := .agg #[.int .i64 W, .int .u64 xa, .int .u64 xb, .int .u64 xi]) (R_loadA [.int .i64 W, .int .u64 xa, .int .u64 xb, .int .u64 xi] (by kernel_rfl) (by kernel_rfl) (by kernel_rfl) (fun k u hk => by rw [hB4.cell]; exact get_part _ 0 _ k u rfl hk)) ?_)
  refine st (by rfl) (S_call (args := [.agg #[.int .i64 W, .int .u64 xa, .int .u64 xb, .int .u64 xi], .int .i64 64]) (by kernel_rfl) (fits28_big W 64 xa xb xi _ (by omega)) ?_)
  rintro _ w5 ⟨rfl, hT6⟩
  have hT0 := hT0.t0 hT6
  have hB4 := hB4.tch0 hT6
  refine sg [(14, .bool true)] (by kernel_rfl) ?_
  refine op_nil ?_
  refine W_cond true (by kernel_rfl) (by kernel_rfl) (fun _ => ?_) (fun h => nomatch h)
  refine W_seq ?_
  refine W_region (by kernel_rfl) ?_
  refine st (by rfl) (S_call (args := []) (by kernel_rfl) (awake20_ok _) ?_)
  rintro _ w7 ⟨rfl, hT8⟩
  have hT0 := hT0.t0 hT8
  have hB4 := hB4.tch0 hT8
  refine sg [(6, .bool true)] (by kernel_rfl) ?_
  refine op_nil ?_
  refine W_ret ?_
  exact ⟨_, Res_of (v := .bool true) (by kernel_rfl), ⟨rfl, hT0⟩⟩

set_option maxRecDepth 100000 in
set_option maxHeartbeats 4000000 in
theorem ArithBad_in (wd xa xb ins : Nat) (nn : Nat) (bad : Int) (w : World) (h1 : 1 ≤ wd) (h2 : wd ≤ 64) (ha : xa < 18446744073709551616) (hb : xb < 18446744073709551616) (hnn : nn ≤ 255) : Ret Try.prog 12 [.agg #[.int .i64 ((wd : Nat) : Int), .int .u64 ((xa : Nat) : Int), .int .u64 ((xb : Nat) : Int), .int .u64 ((ins : Nat) : Int)], .int .u8 ((nn : Nat) : Int), .int .i64 bad] w fun v w' => v = .bool true ∧ Tch N0 w w' := by
  refine enter Try.func12 rfl rfl ?_
  refine W_seq ?_
  refine W_region (by kernel_rfl) ?_
  refine st (by rfl) (S_new (v := .pointer (some ⟨w.heap.size, 0, none⟩)) (ob := .cells #[.int .i64 ((wd : Nat) : Int), .int .u64 ((xa : Nat) : Int), .int .u64 ((xb : Nat) : Int), .int .u64 ((ins : Nat) : Int)] 46) (by kernel_rfl) fun w1 hT2 hs3 hB4 => ?_)
  replace hB4 : Blk w1 (w.heap.size) 46 [.int .i64 ((wd : Nat) : Int), .int .u64 ((xa : Nat) : Int), .int .u64 ((xb : Nat) : Int), .int .u64 ((ins : Nat) : Int)] := hB4
  have hT0 := hT2
  refine sg [(6, .bool false)] (by kernel_rfl) ?_
  refine op_nil ?_
  refine W_seq ?_
  refine W_seq ?_
  refine W_region (by kernel_rfl) ?_
  refine st (by rfl) (S_val (v := .agg #[.int .i64 ((wd : Nat) : Int), .int .u64 ((xa : Nat) : Int), .int .u64 ((xb : Nat) : Int), .int .u64 ((ins : Nat) : Int)]) (R_loadA [.int .i64 ((wd : Nat) : Int), .int .u64 ((xa : Nat) : Int), .int .u64 ((xb : Nat) : Int), .int .u64 ((ins : Nat) : Int)] (by kernel_rfl) (by kernel_rfl) (by kernel_rfl) (fun k u hk => by rw [hB4.cell]; exact get_part _ 0 _ k u rfl hk)) ?_)
  refine st (by rfl) (S_call (args := [.agg #[.int .i64 ((wd : Nat) : Int), .int .u64 ((xa : Nat) : Int), .int .u64 ((xb : Nat) : Int), .int .u64 ((ins : Nat) : Int)], .int .i64 64]) (by kernel_rfl) (fits28_in wd 64 ((xa : Nat) : Int) ((xb : Nat) : Int) ((ins : Nat) : Int) _ (by omega)) ?_)
  rintro _ w5 ⟨rfl, hT6⟩
  have hT0 := hT0.t0 hT6
  have hB4 := hB4.tch0 hT6
  refine sg [(14, .bool false)] (by kernel_rfl) ?_
  refine op_nil ?_
  refine W_cond false (by kernel_rfl) (by kernel_rfl) (fun h => nomatch h) (fun _ => ?_)
  refine W_skip ?_
  refine W_seq ?_
  refine W_region (by kernel_rfl) ?_
  have hz_ := hT0.size
  have lt11 := hB4.lt
  refine st (by rfl) (S_call (args := []) (by kernel_rfl) (new_ok _) ?_)
  rintro _ w7 ⟨p9, F10, rfl, hG, hT8, hFb⟩
  have hT0 := hT0.t0 hT8
  have hB4 := hB4.tch0 hT8
  have nF_hB4 : ¬ F10 (w.heap.size) := fun e => by have := hFb _ e; omega
  replace hFb := fun b hb => Nat.le_trans hz_ (hFb b hb)
  refine sg [(7, .pointer (some ⟨p9, 0, none⟩))] (by kernel_rfl) ?_
  refine op_nil ?_
  refine W_seq ?_
  refine W_seq ?_
  refine W_region (by kernel_rfl) ?_
  refine sg [(17, .pointer (some ⟨p9, 0, none⟩)), (18, .bool false)] (by kernel_rfl) ?_
  refine op_nil ?_
  refine W_cond false (by kernel_rfl) (by kernel_rfl) (fun h => nomatch h) (fun _ => ?_)
  refine W_skip ?_
  refine W_seq ?_
  refine W_fg [(0, .agg #[.int .i64 ((wd : Nat) : Int), .int .u64 ((xa : Nat) : Int), .int .u64 ((xb : Nat) : Int), .int .u64 ((ins : Nat) : Int)]), (1, .int .u8 ((nn : Nat) : Int)), (2, .int .i64 bad), (3, .pointer (some ⟨w.heap.size, 0, none⟩)), (6, .bool false), (7, .pointer (some ⟨p9, 0, none⟩)), (14, .bool false), (18, .bool false)] (by kernel_rfl) fun ρ => ?_
  refine W_region (by kernel_rfl) ?_
  refine sg [(20, .pointer (some ⟨p9, 0, none⟩)), (21, .pointer (some ⟨w.heap.size, 0, none⟩))] (by kernel_rfl) ?_
  refine st (by rfl) (S_val (v := .int .i64 ((wd : Nat) : Int)) (R_load (v := .int .i64 ((wd : Nat) : Int)) (by kernel_rfl) (by kernel_rfl) ((hB4.cell 0).trans rfl)) ?_)
  refine sg [(23, .pointer (some ⟨w.heap.size, 1, none⟩))] (by kernel_rfl) ?_
  refine st (by rfl) (S_val (v := .int .u64 ((xa : Nat) : Int)) (R_load (v := .int .u64 ((xa : Nat) : Int)) (by kernel_rfl) (by kernel_rfl) ((hB4.cell 1).trans rfl)) ?_)
  refine sg [(25, .pointer (some ⟨w.heap.size, 3, none⟩))] (by kernel_rfl) ?_
  refine st (by rfl) (S_val (v := .int .u64 ((ins : Nat) : Int)) (R_load (v := .int .u64 ((ins : Nat) : Int)) (by kernel_rfl) (by kernel_rfl) ((hB4.cell 3).trans rfl)) ?_)
  have hz_ := hT0.size
  have lt13 := hB4.lt
  refine st (by rfl) (S_call (args := [.pointer (some ⟨p9, 0, none⟩), .int .i64 ((wd : Nat) : Int), .int .u64 ((xa : Nat) : Int), .int .u64 ((ins : Nat) : Int)]) (by kernel_rfl) (row_ok F10 p9 1 wd ([[0]]) (fun _ => False) xa ins _ hG (by omega) (by omega) (by omega)) ?_)
  rintro _ w12 ⟨Fa, na, Ia, Ra, rca, Ha, hca, rowa, holda, rfl, hXa, hYa, gRa, gHa, hG, mva, hria, hda, aHa, hlla⟩
  have hT0 := (hT0).then mva.1 hFb
  have hB4 := hB4.tch mva.1 nF_hB4
  replace nF_hB4 : ¬ Fa (w.heap.size) := fun e => (mva.2 _ e).elim nF_hB4 (fun q => by omega)
  replace hFb := mva.ge hFb hz_
  have lt_hXa := hXa.lt
  have lt_hYa := hYa.lt
  have ge_hXa := gRa
  have ge_hYa := gHa
  have hle_hria := hria.le
  refine sg [(19, .tuple #[.slice Ra wd rca, .slice Ha holda.length hca]), (28, .slice Ra wd rca), (29, .slice Ha holda.length hca), (8, .slice Ra wd rca), (9, .slice Ha holda.length hca)] (by kernel_rfl) ?_
  refine op_nil ?_
  refine W_seq ?_
  refine W_fg [(0, .agg #[.int .i64 ((wd : Nat) : Int), .int .u64 ((xa : Nat) : Int), .int .u64 ((xb : Nat) : Int), .int .u64 ((ins : Nat) : Int)]), (1, .int .u8 ((nn : Nat) : Int)), (2, .int .i64 bad), (3, .pointer (some ⟨w.heap.size, 0, none⟩)), (6, .bool false), (7, .pointer (some ⟨p9, 0, none⟩)), (8, .slice Ra wd rca), (14, .bool false), (18, .bool false)] (by kernel_rfl) fun ρ => ?_
  have lt0_hXa := hXa.lt
  have lt0_hYa := hYa.lt
  have hla7 := hXa.len
  have hE := Tch.refl N0 w12
  refine W_rcut (C := fun ρ' w' => ∃ (gB cpB : Nat) (spB : List Value) (ρ0 : Env), ρ' = updL ρ0 [(0, .agg #[.int .i64 ((wd : Nat) : Int), .int .u64 ((xa : Nat) : Int), .int .u64 ((xb : Nat) : Int), .int .u64 ((ins : Nat) : Int)]), (1, .int .u8 ((nn : Nat) : Int)), (2, .int .i64 bad), (3, .pointer (some ⟨w.heap.size, 0, none⟩)), (6, .bool false), (7, .pointer (some ⟨p9, 0, none⟩)), (8, .slice Ra wd rca), (10, .slice (some ⟨gB, 0, none⟩) (wd + 1) cpB), (14, .bool false), (18, .bool false)] ∧ Tch N0 w w' ∧ Blk w' (w.heap.size) 46 [.int .i64 ((wd : Nat) : Int), .int .u64 ((xa : Nat) : Int), .int .u64 ((xb : Nat) : Int), .int .u64 ((ins : Nat) : Int)] ∧ GObj Fa w' p9 na ([[0]]) Ia ∧ RdX Fa w' wd Ra (nats rowa) ∧ RdX Fa w' holda.length Ha (nats holda) ∧ ¬ Fa gB ∧ w.heap.size ≤ gB ∧ Blk w' (gB) 3 (nats (rowa ++ [rowa.getD 0 0]) ++ spB)) ?_ ?_
  · refine W_draw (fun w' => RdX Fa w' wd Ra (nats rowa)) (by kernel_rfl) (by kernel_rfl) (by kernel_rfl) fun w14 hT15 hh16 => ?_
    have hT0 := hT0.t0 hT15
    have hB4 := hB4.tch0 hT15
    have hG := hG.tch0 hT15
    have hXa := hXa.tch0 hT15
    have hYa := hYa.tch0 hT15
    have hE := hE.t0 hT15
    refine dtk [1, 3] #[false, true, false, true, false, false, false, false, false] [(31, .slice Ra wd rca), (33, .slice Ra wd rca)] hXa (by kernel_rfl) ?_
    refine d_val (v := ptrAt Ra 0) 4 (by rfl) (by kernel_rfl) (by kernel_rfl) (by kernel_rfl) (fun w' hs => by have hXa := hs; exact R_indexRd1 (len := wd) (cap := rca) (k := .i64) (i := 0) (e := 3) 0 hXa.1 (by kernel_rfl) (by kernel_rfl) (by kernel_rfl) (by kernel_rfl) rfl (by omega)) hXa ?_
    refine d_val (v := .int .i64 ((rowa.getD 0 0 : Nat) : Int)) 5 (by rfl) (by kernel_rfl) (by kernel_rfl) (by kernel_rfl) (fun w' hs => by have hXa := hs; exact R_loadRd (v := .int .i64 ((rowa.getD 0 0 : Nat) : Int)) hXa.1 (by omega) (by kernel_rfl) (by kernel_rfl) (nats_at (l := rowa) (by omega))) hXa ?_
    refine d_two 0 6 (by kernel_rfl) (by rfl) (by rfl) (by kernel_rfl) (by kernel_rfl) ?_ ?_
    · have hlt_ := hG.1.lt
      have lt21 := hB4.lt
      have lt_hXa := hXa.lt
      have lt_hYa := hYa.lt
      have hEz22 := hE.size
      have z23 := hT0.size
      have l24 := hB4.lt
      refine (S_new (v := .slice (some ⟨w14.heap.size, 0, none⟩) 0 0) (ob := .cells #[] 3) (by kernel_rfl) fun w17 hT18 hs19 hB20 => ?_)
      replace hB20 : Blk w17 (w14.heap.size) 3 [] := hB20
      have hT0 := hT0.t0 hT18
      have hB4 := hB4.tch0 hT18
      have hG := hG.tch0 hT18
      have hXa := hXa.tch0 hT18
      have hYa := hYa.tch0 hT18
      have hE := hE.t0 hT18
      have nF_hB20 : ¬ Fa (w14.heap.size) := fun e => by have := hlt_ _ e; omega
      refine ⟨hXa, ?_⟩
      refine d_two 2 6 (by kernel_rfl) (by rfl) (by rfl) (by kernel_rfl) (by kernel_rfl) ?_ ?_
      · have hlt_ := hG.1.lt
        have hz27 := hT0.size
        have hEz28 := hE.size
        obtain ⟨bR6, oR6, eR6⟩ := hXa.addr (by omega)
        have hOw6 := hB20.own0
        have hlb6 := hB20.lt
        refine (S_append_at 27 3 (.int .i64 0) 8 (n := 0) (m := wd) (v := .slice (some ⟨w14.heap.size, 0, none⟩) 0 0) (cells := []) (news := nats rowa) (b := bR6) (off := oR6) (c := rca) (by kernel_rfl) (by rfl) (by kernel_rfl) (by kernel_rfl) (show evR _ _ = _ from by rw [← eR6]; kernel_rfl) hOw6 (by rw [nats_length]; exact hXa.len) (fun k u hk => ?cells6) (nats_oneV _) (by simp only [maxLen]; omega) (by omega) (by omega) fun g6 cp6 sp6 w25 hG26 hl6 hc16 hc26 hg26 hT26 => ?_)
        case cells6 =>
          obtain ⟨b2, o2, e2, _, hc⟩ := hXa.1.2.2 (by omega)
          rw [e2] at eR6; injection eR6 with eR6; injection eR6 with e3 e4; subst e3; subst e4; exact hc k u hk
        have hgd6 : g6 = w14.heap.size ∨ g6 = w17.heap.size := hg26.elim (fun q => .inl (by injection q with q; exact q.symm)) (fun q => .inr q)
        have hgf6 : ¬ Fa g6 := fun e => hgd6.elim (fun q => nF_hB20 (q ▸ e)) (fun q => by have := hlt_ _ e; omega)
        have hT0 := (hT0).then hT26 (fun c q => by have e : w14.heap.size = c := (by injection q); omega)
        have hB4 := hB4.tch hT26 (fun q => by have e : w14.heap.size = _ := (by injection q); omega)
        have hG := hG.tchS hT26 (fun c q e2 => by have e : w14.heap.size = c := (by injection q); exact nF_hB20 (e ▸ e2))
        have hXa := hXa.st hT26 (fun c hc q => by have e : w14.heap.size = c := (by injection q); have := lt0_hXa c hc; omega)
        have hYa := hYa.st hT26 (fun c hc q => by have e : w14.heap.size = c := (by injection q); have := lt0_hYa c hc; omega)
        have hE := hE.then hT26 (fun c q => by have e : w14.heap.size = c := (by injection q); omega)
        have hsz29 := hT26.size
        rw [Nat.zero_add]
        have hBa : Blk w25 (g6) 3 (nats rowa ++ sp6) := by simpa using hG26
        have hl6' : (nats rowa ++ sp6).length = cp6 := by simpa using hl6
        have nF_hBa : ¬ Fa (g6) := hgf6
        refine ⟨hXa, ?_⟩
        have hlt_ := hG.1.lt
        have lt34 := hB4.lt
        have lt35 := hBa.lt
        have lt_hXa := hXa.lt
        have lt_hYa := hYa.lt
        have hEz36 := hE.size
        have z37 := hT0.size
        have l38 := hB4.lt
        have l39 := hBa.lt
        refine d_one 6 (by kernel_rfl) (by rfl) (by kernel_rfl) (S_new (v := .slice (some ⟨w25.heap.size, 0, none⟩) 1 1) (ob := .cells #[.int .i64 ((rowa.getD 0 0 : Nat) : Int)] 3) (by kernel_rfl) fun w30 hT31 hs32 hB33 => ?_)
        replace hB33 : Blk w30 (w25.heap.size) 3 [.int .i64 ((rowa.getD 0 0 : Nat) : Int)] := hB33
        have hT0 := hT0.t0 hT31
        have hB4 := hB4.tch0 hT31
        have hG := hG.tch0 hT31
        have hXa := hXa.tch0 hT31
        have hYa := hYa.tch0 hT31
        have hE := hE.t0 hT31
        have hBa := hBa.tch0 hT31
        have nF_hB33 : ¬ Fa (w25.heap.size) := fun e => by have := hlt_ _ e; omega
        refine ⟨hXa, ?_⟩
        have hlt_ := hG.1.lt
        have hz42 := hT0.size
        have hEz43 := hE.size
        have hOw7 : Own _ 0 3 1 (.slice (some ⟨g6, 0, none⟩) wd cp6) wd (nats rowa) := Blk.own1 hBa (by rw [nats_length]; omega) hl6' (by omega) hc26
        refine d_one 7 (by kernel_rfl) (by rfl) (by kernel_rfl) (S_append_at 27 3 (.int .i64 0) 8 (n := wd) (m := 1) (v := .slice (some ⟨g6, 0, none⟩) wd cp6) (cells := nats rowa) (news := [.int .i64 ((rowa.getD 0 0 : Nat) : Int)]) (b := w25.heap.size) (off := 0) (c := 1) (by kernel_rfl) (by rfl) (by kernel_rfl) (by kernel_rfl) (by kernel_rfl) hOw7 (by rfl) (fun k u hk => by rw [Nat.zero_add, hB33.cell]; exact hk) (by simp [oneV]) (by simp only [maxLen]; omega) (by omega) (by omega) fun g7 cp7 sp7 w40 hG27 hl7 hc17 hc27 hg27 hT41 => ?_)
        have hgd7 : g7 = g6 ∨ g7 = w30.heap.size := hg27.elim (fun q => .inl (by injection q with q; exact q.symm)) (fun q => .inr q)
        have hgf7 : ¬ Fa g7 := fun e => by have := hlt_ _ e; have := hgf6; rcases hgd7 with q | q; (rw [q] at e; exact this e); omega
        have hT0 := (hT0).then hT41 (fun c q => by have e : g6 = c := (by injection q); omega)
        have hB4 := hB4.tch hT41 (fun q => by have e : g6 = _ := (by injection q); omega)
        have hG := hG.tchS hT41 (fun c q e2 => by have e : g6 = c := (by injection q); exact hgf6 (e ▸ e2))
        have hXa := hXa.st hT41 (fun c hc q => by have e : g6 = c := (by injection q); have := lt0_hXa c hc; omega)
        have hYa := hYa.st hT41 (fun c hc q => by have e : g6 = c := (by injection q); have := lt0_hYa c hc; omega)
        have hE := hE.then hT41 (fun c q => by have e : g6 = c := (by injection q); omega)
        have hsz44 := hT41.size
        have hBb : Blk w40 (g7) 3 (nats (rowa ++ [rowa.getD 0 0]) ++ sp7) := by rw [nats_append]; exact hG27
        have nF_hBb : ¬ Fa (g7) := hgf7
        refine ⟨hXa, ?_⟩
        refine dtk [8] #[true, true, true, true, true, true, true, true, true] [(10, .slice (some ⟨g7, 0, none⟩) (wd + 1) cp7)] hXa (by kernel_rfl) ?_
        refine d_done (by kernel_rfl) ?_
        exact ⟨g7, cp7, sp7, _, updL_self (by kernel_rfl), hT0, hB4, hG, hXa, hYa, hgf7, by have := hT0.size; omega, hBb⟩
      · have hlt_ := hG.1.lt
        have lt49 := hB4.lt
        have lt50 := hB20.lt
        have lt_hXa := hXa.lt
        have lt_hYa := hYa.lt
        have hEz51 := hE.size
        have z52 := hT0.size
        have l53 := hB4.lt
        have l54 := hB20.lt
        refine (S_new (v := .slice (some ⟨w17.heap.size, 0, none⟩) 1 1) (ob := .cells #[.int .i64 ((rowa.getD 0 0 : Nat) : Int)] 3) (by kernel_rfl) fun w45 hT46 hs47 hB48 => ?_)
        replace hB48 : Blk w45 (w17.heap.size) 3 [.int .i64 ((rowa.getD 0 0 : Nat) : Int)] := hB48
        have hT0 := hT0.t0 hT46
        have hB4 := hB4.tch0 hT46
        have hG := hG.tch0 hT46
        have hXa := hXa.tch0 hT46
        have hYa := hYa.tch0 hT46
        have hE := hE.t0 hT46
        have hB20 := hB20.tch0 hT46
        have nF_hB48 : ¬ Fa (w17.heap.size) := fun e => by have := hlt_ _ e; omega
        refine ⟨hXa, ?_⟩
        have hlt_ := hG.1.lt
        have hz57 := hT0.size
        have hEz58 := hE.size
        obtain ⟨bR6, oR6, eR6⟩ := hXa.addr (by omega)
        have hOw6 := hB20.own0
        have hlb6 := hB20.lt
        refine d_one 2 (by kernel_rfl) (by rfl) (by kernel_rfl) (S_append_at 27 3 (.int .i64 0) 8 (n := 0) (m := wd) (v := .slice (some ⟨w14.heap.size, 0, none⟩) 0 0) (cells := []) (news := nats rowa) (b := bR6) (off := oR6) (c := rca) (by kernel_rfl) (by rfl) (by kernel_rfl) (by kernel_rfl) (show evR _ _ = _ from by rw [← eR6]; kernel_rfl) hOw6 (by rw [nats_length]; exact hXa.len) (fun k u hk => ?cells6) (nats_oneV _) (by simp only [maxLen]; omega) (by omega) (by omega) fun g6 cp6 sp6 w55 hG26 hl6 hc16 hc26 hg26 hT56 => ?_)
        case cells6 =>
          obtain ⟨b2, o2, e2, _, hc⟩ := hXa.1.2.2 (by omega)
          rw [e2] at eR6; injection eR6 with eR6; injection eR6 with e3 e4; subst e3; subst e4; exact hc k u hk
        have hgd6 : g6 = w14.heap.size ∨ g6 = w45.heap.size := hg26.elim (fun q => .inl (by injection q with q; exact q.symm)) (fun q => .inr q)
        have hgf6 : ¬ Fa g6 := fun e => hgd6.elim (fun q => nF_hB20 (q ▸ e)) (fun q => by have := hlt_ _ e; omega)
        have hT0 := (hT0).then hT56 (fun c q => by have e : w14.heap.size = c := (by injection q); omega)
        have hB4 := hB4.tch hT56 (fun q => by have e : w14.heap.size = _ := (by injection q); omega)
        have hG := hG.tchS hT56 (fun c q e2 => by have e : w14.heap.size = c := (by injection q); exact nF_hB20 (e ▸ e2))
        have hXa := hXa.st hT56 (fun c hc q => by have e : w14.heap.size = c := (by injection q); have := lt0_hXa c hc; omega)
        have hYa := hYa.st hT56 (fun c hc q => by have e : w14.heap.size = c := (by injection q); have := lt0_hYa c hc; omega)
        have hE := hE.then hT56 (fun c q => by have e : w14.heap.size = c := (by injection q); omega)
        have hB48 := hB48.tch hT56 (fun q => by have e : w14.heap.size = _ := (by injection q); omega)
        have hsz59 := hT56.size
        rw [Nat.zero_add]
        have hBa : Blk w55 (g6) 3 (nats rowa ++ sp6) := by simpa using hG26
        have hl6' : (nats rowa ++ sp6).length = cp6 := by simpa using hl6
        have nF_hBa : ¬ Fa (g6) := hgf6
        refine ⟨hXa, ?_⟩
        have hlt_ := hG.1.lt
        have hz62 := hT0.size
        have hEz63 := hE.size
        have hOw7 : Own _ 0 3 1 (.slice (some ⟨g6, 0, none⟩) wd cp6) wd (nats rowa) := Blk.own1 hBa (by rw [nats_length]; omega) hl6' (by omega) hc26
        refine d_one 7 (by kernel_rfl) (by rfl) (by kernel_rfl) (S_append_at 27 3 (.int .i64 0) 8 (n := wd) (m := 1) (v := .slice (some ⟨g6, 0, none⟩) wd cp6) (cells := nats rowa) (news := [.int .i64 ((rowa.getD 0 0 : Nat) : Int)]) (b := w17.heap.size) (off := 0) (c := 1) (by kernel_rfl) (by rfl) (by kernel_rfl) (by kernel_rfl) (by kernel_rfl) hOw7 (by rfl) (fun k u hk => by rw [Nat.zero_add, hB48.cell]; exact hk) (by simp [oneV]) (by simp only [maxLen]; omega) (by omega) (by omega) fun g7 cp7 sp7 w60 hG27 hl7 hc17 hc27 hg27 hT61 => ?_)
        have hgd7 : g7 = g6 ∨ g7 = w55.heap.size := hg27.elim (fun q => .inl (by injection q with q; exact q.symm)) (fun q => .inr q)
        have hgf7 : ¬ Fa g7 := fun e => by have := hlt_ _ e; have := hgf6; rcases hgd7 with q | q; (rw [q] at e; exact this e); omega
        have hT0 := (hT0).then hT61 (fun c q => by have e : g6 = c := (by injection q); omega)
        have hB4 := hB4.tch hT61 (fun q => by have e : g6 = _ := (by injection q); omega)
        have hG := hG.tchS hT61 (fun c q e2 => by have e : g6 = c := (by injection q); exact hgf6 (e ▸ e2))
        have hXa := hXa.st hT61 (fun c hc q => by have e : g6 = c := (by injection q); have := lt0_hXa c hc; omega)
        have hYa := hYa.st hT61 (fun c hc q => by have e : g6 = c := (by injection q); have := lt0_hYa c hc; omega)
        have hE := hE.then hT61 (fun c q => by have e : g6 = c := (by injection q); omega)
        have hsz64 := hT61.size
        have hBb : Blk w60 (g7) 3 (nats (rowa ++ [rowa.getD 0 0]) ++ sp7) := by rw [nats_append]; exact hG27
        have nF_hBb : ¬ Fa (g7) := hgf7
        refine ⟨hXa, ?_⟩
        refine dtk [8] #[true, true, true, true, true, true, true, true, true] [(10, .slice (some ⟨g7, 0, none⟩) (wd + 1) cp7)] hXa (by kernel_rfl) ?_
        refine d_done (by kernel_rfl) ?_
        exact ⟨g7, cp7, sp7, _, updL_self (by kernel_rfl), hT0, hB4, hG, hXa, hYa, hgf7, by have := hT0.size; omega, hBb⟩
    · have hlt_ := hG.1.lt
      have lt69 := hB4.lt
      have lt_hXa := hXa.lt
      have lt_hYa := hYa.lt
      have hEz70 := hE.size
      have z71 := hT0.size
      have l72 := hB4.lt
      refine (S_new (v := .slice (some ⟨w14.heap.size, 0, none⟩) 1 1) (ob := .cells #[.int .i64 ((rowa.getD 0 0 : Nat) : Int)] 3) (by kernel_rfl) fun w65 hT66 hs67 hB68 => ?_)
      replace hB68 : Blk w65 (w14.heap.size) 3 [.int .i64 ((rowa.getD 0 0 : Nat) : Int)] := hB68
      have hT0 := hT0.t0 hT66
      have hB4 := hB4.tch0 hT66
      have hG := hG.tch0 hT66
      have hXa := hXa.tch0 hT66
      have hYa := hYa.tch0 hT66
      have hE := hE.t0 hT66
      have nF_hB68 : ¬ Fa (w14.heap.size) := fun e => by have := hlt_ _ e; omega
      refine ⟨hXa, ?_⟩
      have hlt_ := hG.1.lt
      have lt77 := hB4.lt
      have lt78 := hB68.lt
      have lt_hXa := hXa.lt
      have lt_hYa := hYa.lt
      have hEz79 := hE.size
      have z80 := hT0.size
      have l81 := hB4.lt
      have l82 := hB68.lt
      refine d_one 0 (by kernel_rfl) (by rfl) (by kernel_rfl) (S_new (v := .slice (some ⟨w65.heap.size, 0, none⟩) 0 0) (ob := .cells #[] 3) (by kernel_rfl) fun w73 hT74 hs75 hB76 => ?_)
      replace hB76 : Blk w73 (w65.heap.size) 3 [] := hB76
      have hT0 := hT0.t0 hT74
      have hB4 := hB4.tch0 hT74
      have hG := hG.tch0 hT74
      have hXa := hXa.tch0 hT74
      have hYa := hYa.tch0 hT74
      have hE := hE.t0 hT74
      have hB68 := hB68.tch0 hT74
      have nF_hB76 : ¬ Fa (w65.heap.size) := fun e => by have := hlt_ _ e; omega
      refine ⟨hXa, ?_⟩
      have hlt_ := hG.1.lt
      have hz85 := hT0.size
      have hEz86 := hE.size
      obtain ⟨bR6, oR6, eR6⟩ := hXa.addr (by omega)
      have hOw6 := hB76.own0
      have hlb6 := hB76.lt
      refine d_one 2 (by kernel_rfl) (by rfl) (by kernel_rfl) (S_append_at 27 3 (.int .i64 0) 8 (n := 0) (m := wd) (v := .slice (some ⟨w65.heap.size, 0, none⟩) 0 0) (cells := []) (news := nats rowa) (b := bR6) (off := oR6) (c := rca) (by kernel_rfl) (by rfl) (by kernel_rfl) (by kernel_rfl) (show evR _ _ = _ from by rw [← eR6]; kernel_rfl) hOw6 (by rw [nats_length]; exact hXa.len) (fun k u hk => ?cells6) (nats_oneV _) (by simp only [maxLen]; omega) (by omega) (by omega) fun g6 cp6 sp6 w83 hG26 hl6 hc16 hc26 hg26 hT84 => ?_)
      case cells6 =>
        obtain ⟨b2, o2, e2, _, hc⟩ := hXa.1.2.2 (by omega)
        rw [e2] at eR6; injection eR6 with eR6; injection eR6 with e3 e4; subst e3; subst e4; exact hc k u hk
      have hgd6 : g6 = w65.heap.size ∨ g6 = w73.heap.size := hg26.elim (fun q => .inl (by injection q with q; exact q.symm)) (fun q => .inr q)
      have hgf6 : ¬ Fa g6 := fun e => hgd6.elim (fun q => nF_hB76 (q ▸ e)) (fun q => by have := hlt_ _ e; omega)
      have hT0 := (hT0).then hT84 (fun c q => by have e : w65.heap.size = c := (by injection q); omega)
      have hB4 := hB4.tch hT84 (fun q => by have e : w65.heap.size = _ := (by injection q); omega)
      have hG := hG.tchS hT84 (fun c q e2 => by have e : w65.heap.size = c := (by injection q); exact nF_hB76 (e ▸ e2))
      have hXa := hXa.st hT84 (fun c hc q => by have e : w65.heap.size = c := (by injection q); have := lt0_hXa c hc; omega)
      have hYa := hYa.st hT84 (fun c hc q => by have e : w65.heap.size = c := (by injection q); have := lt0_hYa c hc; omega)
      have hE := hE.then hT84 (fun c q => by have e : w65.heap.size = c := (by injection q); omega)
      have hB68 := hB68.tch hT84 (fun q => by have e : w65.heap.size = _ := (by injection q); omega)
      have hsz87 := hT84.size
      rw [Nat.zero_add]
      have hBa : Blk w83 (g6) 3 (nats rowa ++ sp6) := by simpa using hG26
      have hl6' : (nats rowa ++ sp6).length = cp6 := by simpa using hl6
      have nF_hBa : ¬ Fa (g6) := hgf6
      refine ⟨hXa, ?_⟩
      have hlt_ := hG.1.lt
      have hz90 := hT0.size
      have hEz91 := hE.size
      have hOw7 : Own _ 0 3 1 (.slice (some ⟨g6, 0, none⟩) wd cp6) wd (nats rowa) := Blk.own1 hBa (by rw [nats_length]; omega) hl6' (by omega) hc26
      refine d_one 7 (by kernel_rfl) (by rfl) (by kernel_rfl) (S_append_at 27 3 (.int .i64 0) 8 (n := wd) (m := 1) (v := .slice (some ⟨g6, 0, none⟩) wd cp6) (cells := nats rowa) (news := [.int .i64 ((rowa.getD 0 0 : Nat) : Int)]) (b := w14.heap.size) (off := 0) (c := 1) (by kernel_rfl) (by rfl) (by kernel_rfl) (by kernel_rfl) (by kernel_rfl) hOw7 (by rfl) (fun k u hk => by rw [Nat.zero_add, hB68.cell]; exact hk) (by simp [oneV]) (by simp only [maxLen]; omega) (by omega) (by omega) fun g7 cp7 sp7 w88 hG27 hl7 hc17 hc27 hg27 hT89 => ?_)
      have hgd7 : g7 = g6 ∨ g7 = w83.heap.size := hg27.elim (fun q => .inl (by injection q with q; exact q.symm)) (fun q => .inr q)
      have hgf7 : ¬ Fa g7 := fun e => by have := hlt_ _ e; have := hgf6; rcases hgd7 with q | q; (rw [q] at e; exact this e); omega
      have hT0 := (hT0).then hT89 (fun c q => by have e : g6 = c := (by injection q); omega)
      have hB4 := hB4.tch hT89 (fun q => by have e : g6 = _ := (by injection q); omega)
      have hG := hG.tchS hT89 (fun c q e2 => by have e : g6 = c := (by injection q); exact hgf6 (e ▸ e2))
      have hXa := hXa.st hT89 (fun c hc q => by have e : g6 = c := (by injection q); have := lt0_hXa c hc; omega)
      have hYa := hYa.st hT89 (fun c hc q => by have e : g6 = c := (by injection q); have := lt0_hYa c hc; omega)
      have hE := hE.then hT89 (fun c q => by have e : g6 = c := (by injection q); omega)
      have hsz92 := hT89.size
      have hBb : Blk w88 (g7) 3 (nats (rowa ++ [rowa.getD 0 0]) ++ sp7) := by rw [nats_append]; exact hG27
      have nF_hBb : ¬ Fa (g7) := hgf7
      refine ⟨hXa, ?_⟩
      refine dtk [8] #[true, true, true, true, true, true, true, true, true] [(10, .slice (some ⟨g7, 0, none⟩) (wd + 1) cp7)] hXa (by kernel_rfl) ?_
      refine d_done (by kernel_rfl) ?_
      exact ⟨g7, cp7, sp7, _, updL_self (by kernel_rfl), hT0, hB4, hG, hXa, hYa, hgf7, by have := hT0.size; omega, hBb⟩
  · rintro _ w93 ⟨gB, cpB, spB, ρ, rfl, hT0, hB4, hG, hXa, hYa, nF_hBb, hgB, hBb⟩
    have hltB := hBb.lt
    refine W_seq ?_
    refine W_region (by kernel_rfl) ?_
    have hlt_ := hG.1.lt
    have lt99 := hB4.lt
    have lt100 := hBb.lt
    have lt_hXa := hXa.lt
    have lt_hYa := hYa.lt
    have z101 := hT0.size
    have l102 := hB4.lt
    have l103 := hBb.lt
    refine st (by rfl) (S_new (v := .slice (some ⟨w93.heap.size, 0, none⟩) 0 0) (ob := .cells #[] 3) (by kernel_rfl) fun w95 hT96 hs97 hB98 => ?_)
    replace hB98 : Blk w95 (w93.heap.size) 3 [] := hB98
    have hT0 := hT0.t0 hT96
    have hB4 := hB4.tch0 hT96
    have hG := hG.tch0 hT96
    have hXa := hXa.tch0 hT96
    have hYa := hYa.tch0 hT96
    have hBb := hBb.tch0 hT96
    have nF_hB98 : ¬ Fa (w93.heap.size) := fun e => by have := hlt_ _ e; omega
    refine sg [(39, .slice Ra wd rca)] (by kernel_rfl) ?_
    have hlt_ := hG.1.lt
    have hz106 := hT0.size
    obtain ⟨bR8, oR8, eR8⟩ := hXa.addr (by omega)
    have hOw8 := hB98.own0
    have hlb8 := hB98.lt
    refine st (by rfl) (S_append_at 27 3 (.int .i64 0) 8 (n := 0) (m := wd) (v := .slice (some ⟨w93.heap.size, 0, none⟩) 0 0) (cells := []) (news := nats rowa) (b := bR8) (off := oR8) (c := rca) (by kernel_rfl) (by rfl) (by kernel_rfl) (by kernel_rfl) (show evR _ _ = _ from by rw [← eR8]; kernel_rfl) hOw8 (by rw [nats_length]; exact hXa.len) (fun k u hk => ?cells8) (nats_oneV _) (by simp only [maxLen]; omega) (by omega) (by omega) fun g8 cp8 sp8 w104 hG28 hl8 hc18 hc28 hg28 hT105 => ?_)
    case cells8 =>
      obtain ⟨b2, o2, e2, _, hc⟩ := hXa.1.2.2 (by omega)
      rw [e2] at eR8; injection eR8 with eR8; injection eR8 with e3 e4; subst e3; subst e4; exact hc k u hk
    have hgd8 : g8 = w93.heap.size ∨ g8 = w95.heap.size := hg28.elim (fun q => .inl (by injection q with q; exact q.symm)) (fun q => .inr q)
    have hgf8 : ¬ Fa g8 := fun e => hgd8.elim (fun q => nF_hB98 (q ▸ e)) (fun q => by have := hlt_ _ e; omega)
    have hT0 := (hT0).then hT105 (fun c q => by have e : w93.heap.size = c := (by injection q); omega)
    have hB4 := hB4.tch hT105 (fun q => by have e : w93.heap.size = _ := (by injection q); omega)
    have hG := hG.tchS hT105 (fun c q e2 => by have e : w93.heap.size = c := (by injection q); exact nF_hB98 (e ▸ e2))
    have hXa := hXa.st hT105 (fun c hc q => by have e : w93.heap.size = c := (by injection q); have := lt_hXa c hc; omega)
    have hYa := hYa.st hT105 (fun c hc q => by have e : w93.heap.size = c := (by injection q); have := lt_hYa c hc; omega)
    have hBb := hBb.tch hT105 (fun q => by have e : w93.heap.size = _ := (by injection q); omega)
    have hsz107 := hT105.size
    rw [Nat.zero_add]
    have hBs : Blk w104 (g8) 3 (ints .i64 (rowa.map fun (x : Nat) => (x : Int)) ++ sp8) := by rw [← nats_ints]; simpa using hG28
    have nF_hBs : ¬ Fa (g8) := hgf8
    have hlb_ : (rowa.map fun (x : Nat) => (x : Int)).length = wd := by rw [List.length_map]; exact hXa.len
    have hmd_ : nn % wd < wd := Nat.mod_lt _ (by omega)
    refine sg [(11, .slice (some ⟨g8, 0, none⟩) wd cp8)] (by kernel_rfl) ?_
    refine op_nil ?_
    refine W_seq ?_
    refine W_seq ?_
    refine W_region (by kernel_rfl) ?_
    refine sg [(41, .int .i64 bad), (42, .bool (decide (bad ≥ 0)))] (by kernel_rfl) ?_
    refine op_nil ?_
    refine W_cond (decide (bad ≥ 0)) (by kernel_rfl) (by kernel_rfl) (fun hc108 => ?_) (fun hc108 => ?_)
    · replace hc108 : 0 ≤ bad := (of_decide_eq_true hc108)
      refine W_region (by kernel_rfl) ?_
      refine sg [(2, .int .i64 (-1))] (by kernel_rfl) ?_
      refine op_nil ?_
      refine W_seq ?_
      refine W_region (by kernel_rfl) ?_
      refine sg [(43, .slice (some ⟨g8, 0, none⟩) wd cp8), (44, .int .u8 ((nn : Nat) : Int)), (45, .int .i64 (IntKind.i64.wrap ((nn : Nat) : Int)))] (by kernel_rfl) ?_
      rw [show IntKind.i64.wrap ((nn : Nat) : Int) = ((nn : Nat) : Int) from wrap_i64 (by omega) (by omega)]
      refine sg [(46, .slice (some ⟨g8, 0, none⟩) wd cp8), (47, .int .i64 (wd : Int))] (by kernel_rfl) ?_
      refine stv (v := .int .i64 ((nn % wd : Nat) : Int)) (by rfl) (S_rem_ (by kernel_rfl) (by kernel_rfl) (by omega)) ?_
      refine sg [(49, .int .i64 (-1))] (by kernel_rfl) ?_
      refine stv (v := .pointer (some ⟨g8, nn % wd, none⟩)) (by rfl) (R_index0 (b := g8) (len := wd) (cap := cp8) (k := .i64) (i := ((nn % wd : Nat) : Int)) (e := 3) (nn % wd) (by kernel_rfl) (by kernel_rfl) (by kernel_rfl) (by kernel_rfl) rfl (by first | omega | (simp only [List.length_set, List.length_map]; omega))) ?_
      refine st (by rfl) (S_store (b := g8) (j := nn % wd) (v := .int .i64 (-1)) (by kernel_rfl) (by kernel_rfl) (by kernel_rfl) (by rfl) hBs (by (try rw [List.length_append]); rw [ints_length]; first | omega | (simp only [List.length_set, List.length_map]; omega)) fun w109 hT110 hs111 hBs' => ?_)
      have hT0 := (hT0).then hT110 (fun c e => by have : c = g8 := e; omega)
      have hB4 := hB4.tch hT110 (hB4.ne hBs (by decide))
      have hG := hG.tchS hT110 (fun c e q => by cases e; exact nF_hBs q)
      have hXa := hXa.st hT110 (fun c hc e => by have h1 := lt_hXa c hc; have h2 := ge_hXa c hc; have : c = g8 := e; omega)
      have hYa := hYa.st hT110 (fun c hc e => by have h1 := lt_hYa c hc; have h2 := ge_hYa c hc; have : c = g8 := e; omega)
      have hBb := hBb.tch hT110 (fun e => by have : gB = g8 := e; omega)
      replace hBs : Blk w109 (g8) 3 (ints .i64 ((rowa.map fun (x : Nat) => (x : Int)).set (nn % wd) (-1)) ++ sp8) := (ints_setP (l := (rowa.map fun (x : Nat) => (x : Int))) (sp := sp8) (i := nn % wd) (-1) (by first | omega | (simp only [List.length_set, List.length_map]; omega))) ▸ hBs'
      refine op_nil ?_
      refine W_seq ?_
      refine W_fg [(0, .agg #[.int .i64 ((wd : Nat) : Int), .int .u64 ((xa : Nat) : Int), .int .u64 ((xb : Nat) : Int), .int .u64 ((ins : Nat) : Int)]), (1, .int .u8 ((nn : Nat) : Int)), (2, .int .i64 (-1)), (3, .pointer (some ⟨w.heap.size, 0, none⟩)), (6, .bool false), (7, .pointer (some ⟨p9, 0, none⟩)), (8, .slice Ra wd rca), (10, .slice (some ⟨gB, 0, none⟩) (wd + 1) cpB), (11, .slice (some ⟨g8, 0, none⟩) wd cp8), (14, .bool false), (18, .bool false), (42, .bool (decide (bad ≥ 0)))] (by kernel_rfl) fun ρ => ?_
      refine W_region (by kernel_rfl) ?_
      refine sg [(51, .pointer (some ⟨p9, 0, none⟩)), (52, .slice Ra wd rca), (53, .slice (some ⟨gB, 0, none⟩) (wd + 1) cpB)] (by kernel_rfl) ?_
      have hla_ : rowa.length = wd := hXa.len
      refine st (by rfl) (S_call (args := [.pointer (some ⟨p9, 0, none⟩), .slice Ra wd rca, .slice (some ⟨gB, 0, none⟩) (wd + 1) cpB]) (by kernel_rfl) (radd_bad p9 wd (wd + 1) rca cpB Ra (some ⟨gB, 0, none⟩) (rowa.map fun (x : Nat) => (x : Int)) ((rowa ++ [rowa.getD 0 0]).map fun (x : Nat) => (x : Int)) _ (by rw [← nats_ints]; exact hXa.1) (by rw [← nats_ints]; exact hBb.rdP 1 _ (by rw [nats_length, List.length_append, hla_]; simp) (by omega)) (badR_len (by omega))) ?_)
      rintro _ w112 ⟨rfl, hT113⟩
      have hT0 := hT0.t0 hT113
      have hB4 := hB4.tch0 hT113
      have hG := hG.tch0 hT113
      have hXa := hXa.tch0 hT113
      have hYa := hYa.tch0 hT113
      have hBb := hBb.tch0 hT113
      have hBs := hBs.tch0 hT113
      refine sg [(55, .int .i64 0), (56, .bool true), (57, .bool true), (58, .pointer (some ⟨p9, 0, none⟩)), (59, .slice (some ⟨gB, 0, none⟩) (wd + 1) cpB), (60, .slice Ra wd rca)] (by kernel_rfl) ?_
      have hla_ : rowa.length = wd := hXa.len
      refine st (by kernel_rfl) (S_call (args := [.pointer (some ⟨p9, 0, none⟩), .slice (some ⟨gB, 0, none⟩) (wd + 1) cpB, .slice Ra wd rca]) (by kernel_rfl) (rsub_bad p9 (wd + 1) wd cpB rca (some ⟨gB, 0, none⟩) Ra ((rowa ++ [rowa.getD 0 0]).map fun (x : Nat) => (x : Int)) (rowa.map fun (x : Nat) => (x : Int)) _ (by rw [← nats_ints]; exact hBb.rdP 1 _ (by rw [nats_length, List.length_append, hla_]; simp) (by omega)) (by rw [← nats_ints]; exact hXa.1) (badR_len (by omega))) ?_)
      rintro _ w114 ⟨rfl, hT115⟩
      have hT0 := hT0.t0 hT115
      have hB4 := hB4.tch0 hT115
      have hG := hG.tch0 hT115
      have hXa := hXa.tch0 hT115
      have hYa := hYa.tch0 hT115
      have hBb := hBb.tch0 hT115
      have hBs := hBs.tch0 hT115
      refine sg [(62, .int .i64 0), (63, .bool true), (64, .bool true), (65, .bool true), (66, .pointer (some ⟨p9, 0, none⟩)), (67, .pointer (some ⟨p9, 0, none⟩))] (by kernel_rfl) ?_
      refine st (by kernel_rfl) (S_call (args := [.pointer (some ⟨p9, 0, none⟩)]) (by kernel_rfl) (true_ok p9 _) ?_)
      rintro _ w116 ⟨rfl, hT117⟩
      have hT0 := hT0.t0 hT117
      have hB4 := hB4.tch0 hT117
      have hG := hG.tch0 hT117
      have hXa := hXa.tch0 hT117
      have hYa := hYa.tch0 hT117
      have hBb := hBb.tch0 hT117
      have hBs := hBs.tch0 hT117
      refine sg [(69, .slice Ra wd rca), (70, .slice (some ⟨gB, 0, none⟩) (wd + 1) cpB)] (by kernel_rfl) ?_
      have hla_ : rowa.length = wd := hXa.len
      refine st (by kernel_rfl) (S_call (args := [.pointer (some ⟨p9, 0, none⟩), .int .i64 0, .slice Ra wd rca, .slice (some ⟨gB, 0, none⟩) (wd + 1) cpB]) (by kernel_rfl) (itr_bad p9 wd (wd + 1) rca cpB Ra (some ⟨gB, 0, none⟩) (rowa.map fun (x : Nat) => (x : Int)) ((rowa ++ [rowa.getD 0 0]).map fun (x : Nat) => (x : Int)) 0 _ (by rw [← nats_ints]; exact hXa.1) (by rw [← nats_ints]; exact hBb.rdP 1 _ (by rw [nats_length, List.length_append, hla_]; simp) (by omega)) (.inr (badR_len (by omega)))) ?_)
      rintro _ w118 ⟨rfl, hT119⟩
      have hT0 := hT0.t0 hT119
      have hB4 := hB4.tch0 hT119
      have hG := hG.tch0 hT119
      have hXa := hXa.tch0 hT119
      have hYa := hYa.tch0 hT119
      have hBb := hBb.tch0 hT119
      have hBs := hBs.tch0 hT119
      refine sg [(72, .int .i64 0), (73, .bool true), (74, .bool true), (75, .bool true), (76, .pointer (some ⟨p9, 0, none⟩)), (77, .slice Ra wd rca), (78, .slice (some ⟨gB, 0, none⟩) (wd + 1) cpB)] (by kernel_rfl) ?_
      have hla_ : rowa.length = wd := hXa.len
      refine st (by kernel_rfl) (S_call (args := [.pointer (some ⟨p9, 0, none⟩), .slice Ra wd rca, .slice (some ⟨gB, 0, none⟩) (wd + 1) cpB]) (by kernel_rfl) (eq_bad p9 wd (wd + 1) rca cpB Ra (some ⟨gB, 0, none⟩) (rowa.map fun (x : Nat) => (x : Int)) ((rowa ++ [rowa.getD 0 0]).map fun (x : Nat) => (x : Int)) _ (by rw [← nats_ints]; exact hXa.1) (by rw [← nats_ints]; exact hBb.rdP 1 _ (by rw [nats_length, List.length_append, hla_]; simp) (by omega)) (badR_len (by omega))) ?_)
      rintro _ w120 ⟨rfl, hT121⟩
      have hT0 := hT0.t0 hT121
      have hB4 := hB4.tch0 hT121
      have hG := hG.tch0 hT121
      have hXa := hXa.tch0 hT121
      have hYa := hYa.tch0 hT121
      have hBb := hBb.tch0 hT121
      have hBs := hBs.tch0 hT121
      refine sg [(80, .bool true), (81, .bool true), (82, .bool true), (83, .pointer (some ⟨p9, 0, none⟩)), (84, .slice Ra wd rca), (85, .slice (some ⟨g8, 0, none⟩) wd cp8)] (by kernel_rfl) ?_
      have hla_ : rowa.length = wd := hXa.len
      refine st (by kernel_rfl) (S_call (args := [.pointer (some ⟨p9, 0, none⟩), .slice Ra wd rca, .slice (some ⟨g8, 0, none⟩) wd cp8]) (by kernel_rfl) (less_bad p9 wd wd rca cp8 Ra (some ⟨g8, 0, none⟩) (rowa.map fun (x : Nat) => (x : Int)) ((rowa.map fun (x : Nat) => (x : Int)).set (nn % wd) (-1)) _ (by rw [← nats_ints]; exact hXa.1) (hBs.rdP 1 _ (by rw [ints_length]; simp only [List.length_set]; omega) (by omega)) (badR_ng (by omega) hmd_ hlb_)) ?_)
      rintro _ w122 ⟨rfl, hT123⟩
      have hT0 := hT0.t0 hT123
      have hB4 := hB4.tch0 hT123
      have hG := hG.tch0 hT123
      have hXa := hXa.tch0 hT123
      have hYa := hYa.tch0 hT123
      have hBb := hBb.tch0 hT123
      have hBs := hBs.tch0 hT123
      refine sg [(87, .bool true), (88, .bool true), (89, .bool true), (90, .pointer (some ⟨p9, 0, none⟩)), (91, .slice (some ⟨g8, 0, none⟩) wd cp8), (92, .slice Ra wd rca)] (by kernel_rfl) ?_
      have hla_ : rowa.length = wd := hXa.len
      refine st (by kernel_rfl) (S_call (args := [.pointer (some ⟨p9, 0, none⟩), .slice (some ⟨g8, 0, none⟩) wd cp8, .slice Ra wd rca]) (by kernel_rfl) (sless_bad p9 wd wd cp8 rca (some ⟨g8, 0, none⟩) Ra ((rowa.map fun (x : Nat) => (x : Int)).set (nn % wd) (-1)) (rowa.map fun (x : Nat) => (x : Int)) _ (hBs.rdP 1 _ (by rw [ints_length]; simp only [List.length_set]; omega) (by omega)) (by rw [← nats_ints]; exact hXa.1) (badR_ng1 (by omega) hmd_ hlb_)) ?_)
      rintro _ w124 ⟨rfl, hT125⟩
      have hT0 := hT0.t0 hT125
      have hB4 := hB4.tch0 hT125
      have hG := hG.tch0 hT125
      have hXa := hXa.tch0 hT125
      have hYa := hYa.tch0 hT125
      have hBb := hBb.tch0 hT125
      have hBs := hBs.tch0 hT125
      refine sg [(94, .bool true), (95, .bool true), (96, .bool true), (97, .pointer (some ⟨p9, 0, none⟩)), (98, .slice Ra wd rca), (99, .slice (some ⟨g8, 0, none⟩) wd cp8)] (by kernel_rfl) ?_
      have hla_ : rowa.length = wd := hXa.len
      refine st (by kernel_rfl) (S_call (args := [.pointer (some ⟨p9, 0, none⟩), .slice Ra wd rca, .slice (some ⟨g8, 0, none⟩) wd cp8]) (by kernel_rfl) (radd_bad p9 wd wd rca cp8 Ra (some ⟨g8, 0, none⟩) (rowa.map fun (x : Nat) => (x : Int)) ((rowa.map fun (x : Nat) => (x : Int)).set (nn % wd) (-1)) _ (by rw [← nats_ints]; exact hXa.1) (hBs.rdP 1 _ (by rw [ints_length]; simp only [List.length_set]; omega) (by omega)) (badR_ng (by omega) hmd_ hlb_)) ?_)
      rintro _ w126 ⟨rfl, hT127⟩
      have hT0 := hT0.t0 hT127
      have hB4 := hB4.tch0 hT127
      have hG := hG.tch0 hT127
      have hXa := hXa.tch0 hT127
      have hYa := hYa.tch0 hT127
      have hBb := hBb.tch0 hT127
      have hBs := hBs.tch0 hT127
      refine sg [(101, .int .i64 0), (102, .bool true), (103, .bool true), (104, .bool true), (105, .pointer (some ⟨p9, 0, none⟩)), (106, .slice (some ⟨g8, 0, none⟩) wd cp8)] (by kernel_rfl) ?_
      have hla_ : rowa.length = wd := hXa.len
      refine st (by kernel_rfl) (S_call (args := [.pointer (some ⟨p9, 0, none⟩), .slice (some ⟨g8, 0, none⟩) wd cp8]) (by kernel_rfl) (rneg2_bad p9 wd cp8 (some ⟨g8, 0, none⟩) ((rowa.map fun (x : Nat) => (x : Int)).set (nn % wd) (-1)) _ (hBs.rdP 1 _ (by rw [ints_length]; simp only [List.length_set]; omega) (by omega)) (bad1_ng (by omega) hmd_ hlb_)) ?_)
      rintro _ w128 ⟨rfl, hT129⟩
      have hT0 := hT0.t0 hT129
      have hB4 := hB4.tch0 hT129
      have hG := hG.tch0 hT129
      have hXa := hXa.tch0 hT129
      have hYa := hYa.tch0 hT129
      have hBb := hBb.tch0 hT129
      have hBs := hBs.tch0 hT129
      refine sg [(108, .int .i64 0), (109, .bool true), (110, .bool true), (111, .bool true), (112, .pointer (some ⟨p9, 0, none⟩))] (by kernel_rfl) ?_
      have hla_ : rowa.length = wd := hXa.len
      refine st (by kernel_rfl) (S_call (args := [.pointer (some ⟨p9, 0, none⟩), .slice none 0 0]) (by kernel_rfl) (rneg2_bad p9 0 0 none ([]) _ (RdW.nil_ _ _ _) (fun q => by have := q.1; omega)) ?_)
      rintro _ w130 ⟨rfl, hT131⟩
      have hT0 := hT0.t0 hT131
      have hB4 := hB4.tch0 hT131
      have hG := hG.tch0 hT131
      have hXa := hXa.tch0 hT131
      have hYa := hYa.tch0 hT131
      have hBb := hBb.tch0 hT131
      have hBs := hBs.tch0 hT131
      refine sg [(114, .int .i64 0), (115, .bool true), (116, .bool true), (117, .bool true), (118, .pointer (some ⟨p9, 0, none⟩)), (119, .int .i64 (-1)), (120, .slice Ra wd rca), (121, .slice Ra wd rca)] (by kernel_rfl) ?_
      have hla_ : rowa.length = wd := hXa.len
      refine st (by kernel_rfl) (S_call (args := [.pointer (some ⟨p9, 0, none⟩), .int .i64 (-1), .slice Ra wd rca, .slice Ra wd rca]) (by kernel_rfl) (itr_bad p9 wd wd rca rca Ra Ra (rowa.map fun (x : Nat) => (x : Int)) (rowa.map fun (x : Nat) => (x : Int)) (-1) _ (by rw [← nats_ints]; exact hXa.1) (by rw [← nats_ints]; exact hXa.1) (.inl (by omega))) ?_)
      rintro _ w132 ⟨rfl, hT133⟩
      have hT0 := hT0.t0 hT133
      have hB4 := hB4.tch0 hT133
      have hG := hG.tch0 hT133
      have hXa := hXa.tch0 hT133
      have hYa := hYa.tch0 hT133
      have hBb := hBb.tch0 hT133
      have hBs := hBs.tch0 hT133
      refine sg [(123, .int .i64 0), (124, .bool true), (125, .bool true), (126, .bool true), (127, .slice Ra wd rca), (128, .slice Ra wd rca)] (by kernel_rfl) ?_
      have hla_ : rowa.length = wd := hXa.len
      refine st (by kernel_rfl) (S_call (args := [.pointer none, .slice Ra wd rca, .slice Ra wd rca]) (by kernel_rfl) (radd_nil wd wd rca rca Ra Ra _) ?_)
      rintro _ w134 ⟨rfl, hT135⟩
      have hT0 := hT0.t0 hT135
      have hB4 := hB4.tch0 hT135
      have hG := hG.tch0 hT135
      have hXa := hXa.tch0 hT135
      have hYa := hYa.tch0 hT135
      have hBb := hBb.tch0 hT135
      have hBs := hBs.tch0 hT135
      refine sg [(130, .int .i64 0), (131, .bool true), (132, .bool true), (133, .bool true)] (by kernel_rfl) ?_
      refine st (by kernel_rfl) (S_call (args := []) (by kernel_rfl) (awake20_ok _) ?_)
      rintro _ w136 ⟨rfl, hT137⟩
      have hT0 := hT0.t0 hT137
      have hB4 := hB4.tch0 hT137
      have hG := hG.tch0 hT137
      have hXa := hXa.tch0 hT137
      have hYa := hYa.tch0 hT137
      have hBb := hBb.tch0 hT137
      have hBs := hBs.tch0 hT137
      refine sg [(135, .bool true), (6, .bool true)] (by kernel_rfl) ?_
      refine op_nil ?_
      refine W_ret ?_
      exact ⟨_, Res_of (v := .bool true) (by kernel_rfl), ⟨rfl, hT0⟩⟩
    · replace hc108 : bad < 0 := (Int.not_le.1 (of_decide_eq_false hc108))
      refine W_skip ?_
      refine W_seq ?_
      refine W_region (by kernel_rfl) ?_
      refine sg [(43, .slice (some ⟨g8, 0, none⟩) wd cp8), (44, .int .u8 ((nn : Nat) : Int)), (45, .int .i64 (IntKind.i64.wrap ((nn : Nat) : Int)))] (by kernel_rfl) ?_
      rw [show IntKind.i64.wrap ((nn : Nat) : Int) = ((nn : Nat) : Int) from wrap_i64 (by omega) (by omega)]
      refine sg [(46, .slice (some ⟨g8, 0, none⟩) wd cp8), (47, .int .i64 (wd : Int))] (by kernel_rfl) ?_
      refine stv (v := .int .i64 ((nn % wd : Nat) : Int)) (by rfl) (S_rem_ (by kernel_rfl) (by kernel_rfl) (by omega)) ?_
      refine sg [(49, .int .i64 bad)] (by kernel_rfl) ?_
      refine stv (v := .pointer (some ⟨g8, nn % wd, none⟩)) (by rfl) (R_index0 (b := g8) (len := wd) (cap := cp8) (k := .i64) (i := ((nn % wd : Nat) : Int)) (e := 3) (nn % wd) (by kernel_rfl) (by kernel_rfl) (by kernel_rfl) (by kernel_rfl) rfl (by first | omega | (simp only [List.length_set, List.length_map]; omega))) ?_
      refine st (by rfl) (S_store (b := g8) (j := nn % wd) (v := .int .i64 bad) (by kernel_rfl) (by kernel_rfl) (by kernel_rfl) (by rfl) hBs (by (try rw [List.length_append]); rw [ints_length]; first | omega | (simp only [List.length_set, List.length_map]; omega)) fun w138 hT139 hs140 hBs' => ?_)
      have hT0 := (hT0).then hT139 (fun c e => by have : c = g8 := e; omega)
      have hB4 := hB4.tch hT139 (hB4.ne hBs (by decide))
      have hG := hG.tchS hT139 (fun c e q => by cases e; exact nF_hBs q)
      have hXa := hXa.st hT139 (fun c hc e => by have h1 := lt_hXa c hc; have h2 := ge_hXa c hc; have : c = g8 := e; omega)
      have hYa := hYa.st hT139 (fun c hc e => by have h1 := lt_hYa c hc; have h2 := ge_hYa c hc; have : c = g8 := e; omega)
      have hBb := hBb.tch hT139 (fun e => by have : gB = g8 := e; omega)
      replace hBs : Blk w138 (g8) 3 (ints .i64 ((rowa.map fun (x : Nat) => (x : Int)).set (nn % wd) bad) ++ sp8) := (ints_setP (l := (rowa.map fun (x : Nat) => (x : Int))) (sp := sp8) (i := nn % wd) bad (by first | omega | (simp only [List.length_set, List.length_map]; omega))) ▸ hBs'
      refine op_nil ?_
      refine W_seq ?_
      refine W_fg [(0, .agg #[.int .i64 ((wd : Nat) : Int), .int .u64 ((xa : Nat) : Int), .int .u64 ((xb : Nat) : Int), .int .u64 ((ins : Nat) : Int)]), (1, .int .u8 ((nn : Nat) : Int)), (2, .int .i64 bad), (3, .pointer (some ⟨w.heap.size, 0, none⟩)), (6, .bool false), (7, .pointer (some ⟨p9, 0, none⟩)), (8, .slice Ra wd rca), (10, .slice (some ⟨gB, 0, none⟩) (wd + 1) cpB), (11, .slice (some ⟨g8, 0, none⟩) wd cp8), (14, .bool false), (18, .bool false), (42, .bool (decide (bad ≥ 0)))] (by kernel_rfl) fun ρ => ?_
      refine W_region (by kernel_rfl) ?_
      refine sg [(51, .pointer (some ⟨p9, 0, none⟩)), (52, .slice Ra wd rca), (53, .slice (some ⟨gB, 0, none⟩) (wd + 1) cpB)] (by kernel_rfl) ?_
      have hla_ : rowa.length = wd := hXa.len
      refine st (by rfl) (S_call (args := [.pointer (some ⟨p9, 0, none⟩), .slice Ra wd rca, .slice (some ⟨gB, 0, none⟩) (wd + 1) cpB]) (by kernel_rfl) (radd_bad p9 wd (wd + 1) rca cpB Ra (some ⟨gB, 0, none⟩) (rowa.map fun (x : Nat) => (x : Int)) ((rowa ++ [rowa.getD 0 0]).map fun (x : Nat) => (x : Int)) _ (by rw [← nats_ints]; exact hXa.1) (by rw [← nats_ints]; exact hBb.rdP 1 _ (by rw [nats_length, List.length_append, hla_]; simp) (by omega)) (badR_len (by omega))) ?_)
      rintro _ w141 ⟨rfl, hT142⟩
      have hT0 := hT0.t0 hT142
      have hB4 := hB4.tch0 hT142
      have hG := hG.tch0 hT142
      have hXa := hXa.tch0 hT142
      have hYa := hYa.tch0 hT142
      have hBb := hBb.tch0 hT142
      have hBs := hBs.tch0 hT142
      refine sg [(55, .int .i64 0), (56, .bool true), (57, .bool true), (58, .pointer (some ⟨p9, 0, none⟩)), (59, .slice (some ⟨gB, 0, none⟩) (wd + 1) cpB), (60, .slice Ra wd rca)] (by kernel_rfl) ?_
      have hla_ : rowa.length = wd := hXa.len
      refine st (by kernel_rfl) (S_call (args := [.pointer (some ⟨p9, 0, none⟩), .slice (some ⟨gB, 0, none⟩) (wd + 1) cpB, .slice Ra wd rca]) (by kernel_rfl) (rsub_bad p9 (wd + 1) wd cpB rca (some ⟨gB, 0, none⟩) Ra ((rowa ++ [rowa.getD 0 0]).map fun (x : Nat) => (x : Int)) (rowa.map fun (x : Nat) => (x : Int)) _ (by rw [← nats_ints]; exact hBb.rdP 1 _ (by rw [nats_length, List.length_append, hla_]; simp) (by omega)) (by rw [← nats_ints]; exact hXa.1) (badR_len (by omega))) ?_)
      rintro _ w143 ⟨rfl, hT144⟩
      have hT0 := hT0.t0 hT144
      have hB4 := hB4.tch0 hT144
      have hG := hG.tch0 hT144
      have hXa := hXa.tch0 hT144
      have hYa := hYa.tch0 hT144
      have hBb := hBb.tch0 hT144
      have hBs := hBs.tch0 hT144
      refine sg [(62, .int .i64 0), (63, .bool true), (64, .bool true), (65, .bool true), (66, .pointer (some ⟨p9, 0, none⟩)), (67, .pointer (some ⟨p9, 0, none⟩))] (by kernel_rfl) ?_
      refine st (by kernel_rfl) (S_call (args := [.pointer (some ⟨p9, 0, none⟩)]) (by kernel_rfl) (true_ok p9 _) ?_)
      rintro _ w145 ⟨rfl, hT146⟩
      have hT0 := hT0.t0 hT146
      have hB4 := hB4.tch0 hT146
      have hG := hG.tch0 hT146
      have hXa := hXa.tch0 hT146
      have hYa := hYa.tch0 hT146
      have hBb := hBb.tch0 hT146
      have hBs := hBs.tch0 hT146
      refine sg [(69, .slice Ra wd rca), (70, .slice (some ⟨gB, 0, none⟩) (wd + 1) cpB)] (by kernel_rfl) ?_
      have hla_ : rowa.length = wd := hXa.len
      refine st (by kernel_rfl) (S_call (args := [.pointer (some ⟨p9, 0, none⟩), .int .i64 0, .slice Ra wd rca, .slice (some ⟨gB, 0, none⟩) (wd + 1) cpB]) (by kernel_rfl) (itr_bad p9 wd (wd + 1) rca cpB Ra (some ⟨gB, 0, none⟩) (rowa.map fun (x : Nat) => (x : Int)) ((rowa ++ [rowa.getD 0 0]).map fun (x : Nat) => (x : Int)) 0 _ (by rw [← nats_ints]; exact hXa.1) (by rw [← nats_ints]; exact hBb.rdP 1 _ (by rw [nats_length, List.length_append, hla_]; simp) (by omega)) (.inr (badR_len (by omega)))) ?_)
      rintro _ w147 ⟨rfl, hT148⟩
      have hT0 := hT0.t0 hT148
      have hB4 := hB4.tch0 hT148
      have hG := hG.tch0 hT148
      have hXa := hXa.tch0 hT148
      have hYa := hYa.tch0 hT148
      have hBb := hBb.tch0 hT148
      have hBs := hBs.tch0 hT148
      refine sg [(72, .int .i64 0), (73, .bool true), (74, .bool true), (75, .bool true), (76, .pointer (some ⟨p9, 0, none⟩)), (77, .slice Ra wd rca), (78, .slice (some ⟨gB, 0, none⟩) (wd + 1) cpB)] (by kernel_rfl) ?_
      have hla_ : rowa.length = wd := hXa.len
      refine st (by kernel_rfl) (S_call (args := [.pointer (some ⟨p9, 0, none⟩), .slice Ra wd rca, .slice (some ⟨gB, 0, none⟩) (wd + 1) cpB]) (by kernel_rfl) (eq_bad p9 wd (wd + 1) rca cpB Ra (some ⟨gB, 0, none⟩) (rowa.map fun (x : Nat) => (x : Int)) ((rowa ++ [rowa.getD 0 0]).map fun (x : Nat) => (x : Int)) _ (by rw [← nats_ints]; exact hXa.1) (by rw [← nats_ints]; exact hBb.rdP 1 _ (by rw [nats_length, List.length_append, hla_]; simp) (by omega)) (badR_len (by omega))) ?_)
      rintro _ w149 ⟨rfl, hT150⟩
      have hT0 := hT0.t0 hT150
      have hB4 := hB4.tch0 hT150
      have hG := hG.tch0 hT150
      have hXa := hXa.tch0 hT150
      have hYa := hYa.tch0 hT150
      have hBb := hBb.tch0 hT150
      have hBs := hBs.tch0 hT150
      refine sg [(80, .bool true), (81, .bool true), (82, .bool true), (83, .pointer (some ⟨p9, 0, none⟩)), (84, .slice Ra wd rca), (85, .slice (some ⟨g8, 0, none⟩) wd cp8)] (by kernel_rfl) ?_
      have hla_ : rowa.length = wd := hXa.len
      refine st (by kernel_rfl) (S_call (args := [.pointer (some ⟨p9, 0, none⟩), .slice Ra wd rca, .slice (some ⟨g8, 0, none⟩) wd cp8]) (by kernel_rfl) (less_bad p9 wd wd rca cp8 Ra (some ⟨g8, 0, none⟩) (rowa.map fun (x : Nat) => (x : Int)) ((rowa.map fun (x : Nat) => (x : Int)).set (nn % wd) bad) _ (by rw [← nats_ints]; exact hXa.1) (hBs.rdP 1 _ (by rw [ints_length]; simp only [List.length_set]; omega) (by omega)) (badR_ng (by omega) hmd_ hlb_)) ?_)
      rintro _ w151 ⟨rfl, hT152⟩
      have hT0 := hT0.t0 hT152
      have hB4 := hB4.tch0 hT152
      have hG := hG.tch0 hT152
      have hXa := hXa.tch0 hT152
      have hYa := hYa.tch0 hT152
      have hBb := hBb.tch0 hT152
      have hBs := hBs.tch0 hT152
      refine sg [(87, .bool true), (88, .bool true), (89, .bool true), (90, .pointer (some ⟨p9, 0, none⟩)), (91, .slice (some ⟨g8, 0, none⟩) wd cp8), (92, .slice Ra wd rca)] (by kernel_rfl) ?_
      have hla_ : rowa.length = wd := hXa.len
      refine st (by kernel_rfl) (S_call (args := [.pointer (some ⟨p9, 0, none⟩), .slice (some ⟨g8, 0, none⟩) wd cp8, .slice Ra wd rca]) (by kernel_rfl) (sless_bad p9 wd wd cp8 rca (some ⟨g8, 0, none⟩) Ra ((rowa.map fun (x : Nat) => (x : Int)).set (nn % wd) bad) (rowa.map fun (x : Nat) => (x : Int)) _ (hBs.rdP 1 _ (by rw [ints_length]; simp only [List.length_set]; omega) (by omega)) (by rw [← nats_ints]; exact hXa.1) (badR_ng1 (by omega) hmd_ hlb_)) ?_)
      rintro _ w153 ⟨rfl, hT154⟩
      have hT0 := hT0.t0 hT154
      have hB4 := hB4.tch0 hT154
      have hG := hG.tch0 hT154
      have hXa := hXa.tch0 hT154
      have hYa := hYa.tch0 hT154
      have hBb := hBb.tch0 hT154
      have hBs := hBs.tch0 hT154
      refine sg [(94, .bool true), (95, .bool true), (96, .bool true), (97, .pointer (some ⟨p9, 0, none⟩)), (98, .slice Ra wd rca), (99, .slice (some ⟨g8, 0, none⟩) wd cp8)] (by kernel_rfl) ?_
      have hla_ : rowa.length = wd := hXa.len
      refine st (by kernel_rfl) (S_call (args := [.pointer (some ⟨p9, 0, none⟩), .slice Ra wd rca, .slice (some ⟨g8, 0, none⟩) wd cp8]) (by kernel_rfl) (radd_bad p9 wd wd rca cp8 Ra (some ⟨g8, 0, none⟩) (rowa.map fun (x : Nat) => (x : Int)) ((rowa.map fun (x : Nat) => (x : Int)).set (nn % wd) bad) _ (by rw [← nats_ints]; exact hXa.1) (hBs.rdP 1 _ (by rw [ints_length]; simp only [List.length_set]; omega) (by omega)) (badR_ng (by omega) hmd_ hlb_)) ?_)
      rintro _ w155 ⟨rfl, hT156⟩
      have hT0 := hT0.t0 hT156
      have hB4 := hB4.tch0 hT156
      have hG := hG.tch0 hT156
      have hXa := hXa.tch0 hT156
      have hYa := hYa.tch0 hT156
      have hBb := hBb.tch0 hT156
      have hBs := hBs.tch0 hT156
      refine sg [(101, .int .i64 0), (102, .bool true), (103, .bool true), (104, .bool true), (105, .pointer (some ⟨p9, 0, none⟩)), (106, .slice (some ⟨g8, 0, none⟩) wd cp8)] (by kernel_rfl) ?_
      have hla_ : rowa.length = wd := hXa.len
      refine st (by kernel_rfl) (S_call (args := [.pointer (some ⟨p9, 0, none⟩), .slice (some ⟨g8, 0, none⟩) wd cp8]) (by kernel_rfl) (rneg2_bad p9 wd cp8 (some ⟨g8, 0, none⟩) ((rowa.map fun (x : Nat) => (x : Int)).set (nn % wd) bad) _ (hBs.rdP 1 _ (by rw [ints_length]; simp only [List.length_set]; omega) (by omega)) (bad1_ng (by omega) hmd_ hlb_)) ?_)
      rintro _ w157 ⟨rfl, hT158⟩
      have hT0 := hT0.t0 hT158
      have hB4 := hB4.tch0 hT158
      have hG := hG.tch0 hT158
      have hXa := hXa.tch0 hT158
      have hYa := hYa.tch0 hT158
      have hBb := hBb.tch0 hT158
      have hBs := hBs.tch0 hT158
      refine sg [(108, .int .i64 0), (109, .bool true), (110, .bool true), (111, .bool true), (112, .pointer (some ⟨p9, 0, none⟩))] (by kernel_rfl) ?_
      have hla_ : rowa.length = wd := hXa.len
      refine st (by kernel_rfl) (S_call (args := [.pointer (some ⟨p9, 0, none⟩), .slice none 0 0]) (by kernel_rfl) (rneg2_bad p9 0 0 none ([]) _ (RdW.nil_ _ _ _) (fun q => by have := q.1; omega)) ?_)
      rintro _ w159 ⟨rfl, hT160⟩
      have hT0 := hT0.t0 hT160
      have hB4 := hB4.tch0 hT160
      have hG := hG.tch0 hT160
      have hXa := hXa.tch0 hT160
      have hYa := hYa.tch0 hT160
      have hBb := hBb.tch0 hT160
      have hBs := hBs.tch0 hT160
      refine sg [(114, .int .i64 0), (115, .bool true), (116, .bool true), (117, .bool true), (118, .pointer (some ⟨p9, 0, none⟩)), (119, .int .i64 bad), (120, .slice Ra wd rca), (121, .slice Ra wd rca)] (by kernel_rfl) ?_
      have hla_ : rowa.length = wd := hXa.len
      refine st (by kernel_rfl) (S_call (args := [.pointer (some ⟨p9, 0, none⟩), .int .i64 bad, .slice Ra wd rca, .slice Ra wd rca]) (by kernel_rfl) (itr_bad p9 wd wd rca rca Ra Ra (rowa.map fun (x : Nat) => (x : Int)) (rowa.map fun (x : Nat) => (x : Int)) bad _ (by rw [← nats_ints]; exact hXa.1) (by rw [← nats_ints]; exact hXa.1) (.inl (by omega))) ?_)
      rintro _ w161 ⟨rfl, hT162⟩
      have hT0 := hT0.t0 hT162
      have hB4 := hB4.tch0 hT162
      have hG := hG.tch0 hT162
      have hXa := hXa.tch0 hT162
      have hYa := hYa.tch0 hT162
      have hBb := hBb.tch0 hT162
      have hBs := hBs.tch0 hT162
      refine sg [(123, .int .i64 0), (124, .bool true), (125, .bool true), (126, .bool true), (127, .slice Ra wd rca), (128, .slice Ra wd rca)] (by kernel_rfl) ?_
      have hla_ : rowa.length = wd := hXa.len
      refine st (by kernel_rfl) (S_call (args := [.pointer none, .slice Ra wd rca, .slice Ra wd rca]) (by kernel_rfl) (radd_nil wd wd rca rca Ra Ra _) ?_)
      rintro _ w163 ⟨rfl, hT164⟩
      have hT0 := hT0.t0 hT164
      have hB4 := hB4.tch0 hT164
      have hG := hG.tch0 hT164
      have hXa := hXa.tch0 hT164
      have hYa := hYa.tch0 hT164
      have hBb := hBb.tch0 hT164
      have hBs := hBs.tch0 hT164
      refine sg [(130, .int .i64 0), (131, .bool true), (132, .bool true), (133, .bool true)] (by kernel_rfl) ?_
      refine st (by kernel_rfl) (S_call (args := []) (by kernel_rfl) (awake20_ok _) ?_)
      rintro _ w165 ⟨rfl, hT166⟩
      have hT0 := hT0.t0 hT166
      have hB4 := hB4.tch0 hT166
      have hG := hG.tch0 hT166
      have hXa := hXa.tch0 hT166
      have hYa := hYa.tch0 hT166
      have hBb := hBb.tch0 hT166
      have hBs := hBs.tch0 hT166
      refine sg [(135, .bool true), (6, .bool true)] (by kernel_rfl) ?_
      refine op_nil ?_
      refine W_ret ?_
      exact ⟨_, Res_of (v := .bool true) (by kernel_rfl), ⟨rfl, hT0⟩⟩

theorem ArithBad_w (W xa xb xi nn bad : Int) (w : World) (hn : 0 ≤ nn ∧ nn ≤ 255) (ha : 0 ≤ xa ∧ xa ≤ 18446744073709551615) (hb : 0 ≤ xb ∧ xb ≤ 18446744073709551615) (hi : 0 ≤ xi ∧ xi ≤ 18446744073709551615) : Ret Try.prog 12 [.agg #[.int .i64 W, .int .u64 xa, .int .u64 xb, .int .u64 xi], .int .u8 nn, .int .i64 bad] w fun v w' => v = .bool true ∧ Tch N0 w w' := by
  by_cases h : W < 1 ∨ 64 < W
  · exact ArithBad_big W xa xb xi nn bad w h
  · obtain ⟨wd, rfl⟩ : ∃ k : Nat, W = k := ⟨W.toNat, by omega⟩
    obtain ⟨a, rfl⟩ : ∃ k : Nat, xa = k := ⟨xa.toNat, by omega⟩
    obtain ⟨b, rfl⟩ : ∃ k : Nat, xb = k := ⟨xb.toNat, by omega⟩
    obtain ⟨c, rfl⟩ : ∃ k : Nat, xi = k := ⟨xi.toNat, by omega⟩
    obtain ⟨m, rfl⟩ : ∃ k : Nat, nn = k := ⟨nn.toNat, by omega⟩
    exact ArithBad_in wd a b c m bad w (by omega) (by omega) (by omega) (by omega) (by omega)

end Go.Proofs.YtnlecdpiccgdpaaV
