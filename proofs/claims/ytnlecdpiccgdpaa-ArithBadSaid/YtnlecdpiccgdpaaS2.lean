/- Walks of functions of the program and of the document's texts. The conditions stand with each theorem. -/
import Derived.Test.YtnlecdpiccgdpaaVx13
import Derived.Test.YtnlecdpiccgdpaaProg
import Derived.Test.YtnlecdpiccgdpaaVx4
import Derived.Test.YtnlecdpiccgdpaaA3
import Derived.Test.YtnlecdpiccgdpaaZ1
set_option linter.unusedVariables false
set_option linter.unusedSimpArgs false
namespace Go.Proofs.YtnlecdpiccgdpaaV
open Go Go.RowKit Go.Proofs

theorem fine_one (p g ma ca : Nat) (A : Option Addr) (a : List Int) (w : World) (hG : Blk w g 27 [.slice A ma ca]) (hA : RdW w 1 ma A (ints .i64 a)) : Ret Try.prog 70 [.pointer (some ⟨p, 0, none⟩), .slice (some ⟨g, 0, none⟩) 1 1] w fun v w' => ∃ r, v = .bool r ∧ (r = true ↔ 0 < ma ∧ ∀ j, j < ma → 0 ≤ a.getD j 0) ∧ Tch N0 w w' := by
  refine (fine_ok p 1 1 g (fun _ => A) (fun _ => ma) (fun _ => ca) (fun _ => a) _ w (hG.rd 1 1 (by rfl) (by omega)) (fun i hi => ?_) (fun i hi => hA)).mono fun v w' ⟨r, e, h, T⟩ => ⟨r, e, h.trans ⟨fun q => ⟨(q 0 (by omega)).1, (q 0 (by omega)).2.2⟩, fun q i hi => ⟨q.1, rfl, q.2⟩⟩, T⟩
  obtain rfl : i = 0 := by omega
  rfl
theorem fine_one_t (p g m ca : Nat) (A : Option Addr) (a : List Nat) (w : World) (hG : Blk w g 27 [.slice A m ca]) (hA : RdW w 1 m A (nats a)) (hm : 0 < m) : Ret Try.prog 70 [.pointer (some ⟨p, 0, none⟩), .slice (some ⟨g, 0, none⟩) 1 1] w fun v w' => v = .bool true ∧ Tch N0 w w' := by
  rw [nats_ints] at hA
  refine (fine_one p g m ca A _ w hG hA).mono fun v w' ⟨r, e, h, T⟩ => ⟨?_, T⟩
  rw [e, h.2 ⟨hm, nneg _ _⟩]
theorem fine_one_f (p g m ca : Nat) (A : Option Addr) (a : List Int) (w : World) (hG : Blk w g 27 [.slice A m ca]) (hA : RdW w 1 m A (ints .i64 a)) (hb : ¬ (0 < m ∧ ∀ j, j < m → 0 ≤ a.getD j 0)) : Ret Try.prog 70 [.pointer (some ⟨p, 0, none⟩), .slice (some ⟨g, 0, none⟩) 1 1] w fun v w' => v = .bool false ∧ Tch N0 w w' := by
  refine (fine_one p g m ca A _ w hG hA).mono fun v w' ⟨r, e, h, T⟩ => ⟨?_, T⟩
  rw [e]
  cases r with
  | false => rfl
  | true => exact absurd (h.1 rfl) hb

set_option maxRecDepth 100000 in
theorem rneg2_ok (F : Nat → Prop) (p n mm ca : Nat) (A : Option Addr) (a : List Nat) (cs : List (List Nat)) (I : Nat → Prop) (w : World) (hG : GObj F w p n cs I) (hA : RdX F w mm A (nats a)) (hfa : ∀ j, j < mm → a.getD j 0 / 2 < n) (hm : 0 < mm) (hm2 : mm ≤ 1000) (hn : n ≤ 50000000000) : Ret Try.prog 41 [.pointer (some ⟨p, 0, none⟩), .slice A mm ca] w fun v w' => RowR F p n cs I w mm (5 * mm) (fun be j => sumB (fun _ => false) (fun j => !lt_ be (a.getD j 0)) true j) v w' := by
  have hMv := Mv.refl F w
  have hla : a.length = mm := hA.len
  have lt_hA := hA.lt
  have ge_hA : ∀ c, blkOf A = some c → 0 ≤ c := fun c _ => Nat.zero_le c
  have hpos := hG.2.pos
  refine enter Try.func41 rfl rfl ?_
  refine W_seq ?_
  refine W_region (by kernel_rfl) ?_
  refine sg [(4, .slice none 0 0)] (by kernel_rfl) ?_
  refine op_nil ?_
  refine W_seq ?_
  refine W_seq ?_
  refine W_region (by kernel_rfl) ?_
  refine sg [(7, .pointer (some ⟨p, 0, none⟩)), (8, .slice A mm ca)] (by kernel_rfl) ?_
  have hlt_ := hG.1.lt
  have hz5 := hMv.1.size
  refine st (by rfl) (S_new (v := .slice (some ⟨w.heap.size, 0, none⟩) 1 1) (ob := .cells #[.slice A mm ca] 27) (by kernel_rfl) fun w1 hT2 hs3 hB4 => ?_)
  replace hB4 : Blk w1 (w.heap.size) 27 [.slice A mm ca] := hB4
  have hG := hG.tch0 hT2
  have hMv := hMv.then0 hT2
  have hA := hA.tch0 hT2
  have nF_hB4 : ¬ F (w.heap.size) := fun e => by have := hlt_ _ e; omega
  refine st (by rfl) (S_call (args := [.pointer (some ⟨p, 0, none⟩), .slice (some ⟨w.heap.size, 0, none⟩) 1 1]) (by kernel_rfl) (fine_one_t p (w.heap.size) mm ca A a _ hB4 hA.1 hm) ?_)
  rintro _ w6 ⟨rfl, hT7⟩
  have hG := hG.tch0 hT7
  have hMv := hMv.then0 hT7
  have hA := hA.tch0 hT7
  have hB4 := hB4.tch0 hT7
  refine sg [(11, .bool false)] (by kernel_rfl) ?_
  refine op_nil ?_
  refine W_cond false (by kernel_rfl) (by kernel_rfl) (fun h => nomatch h) (fun _ => ?_)
  refine W_skip ?_
  refine W_seq ?_
  refine W_region (by kernel_rfl) ?_
  refine sg [(12, .slice A mm ca), (13, .int .i64 (mm : Int))] (by kernel_rfl) ?_
  have hlt_ := hG.1.lt
  have hz14 := hMv.1.size
  have lt15 := hB4.lt
  refine st (by rfl) (S_make 27 3 (.int .i64 0) 1 8 (k1 := .i64) (k2 := .i64) (l := (mm : Int)) (c := (mm : Int)) (by kernel_rfl) (by kernel_rfl) (by kernel_rfl) (by kernel_rfl) (by omega) (by omega) (by omega) (by omega) fun w10 hT11 hs12 hB13 => ?_)
  replace hB13 : Blk w10 (w6.heap.size) 3 (nats (List.replicate ((mm : Int).toNat) 0) ++ []) := by rw [← mz_nats]; exact hB13
  have hG := hG.tch0 hT11
  have hMv := hMv.then0 hT11
  have hA := hA.tch0 hT11
  have hB4 := hB4.tch0 hT11
  have nF_hB13 : ¬ F (w6.heap.size) := fun e => by have := hlt_ _ e; omega
  refine sg [(5, .slice (some ⟨w6.heap.size, 0, none⟩) ((mm : Int).toNat) ((mm : Int).toNat))] (by kernel_rfl) ?_
  refine op_nil ?_
  refine W_seq ?_
  refine W_seq ?_
  refine W_fg [(0, .pointer (some ⟨p, 0, none⟩)), (1, .slice A mm ca), (4, .slice none 0 0), (5, .slice (some ⟨w6.heap.size, 0, none⟩) ((mm : Int).toNat) ((mm : Int).toNat)), (11, .bool false)] (by kernel_rfl) fun ρ => ?_
  have nF_hOut := nF_hB13
  refine W_region (by kernel_rfl) ?_
  refine sg [(15, .slice (some ⟨w6.heap.size, 0, none⟩) ((mm : Int).toNat) ((mm : Int).toNat)), (16, .int .i64 ((mm : Int).toNat : Int)), (17, .int .i64 0)] (by kernel_rfl) ?_
  refine op_nil ?_
  refine W_block ?_
  refine W_loop (fun m ρ w' => ∃ (o : List Nat) (i : Nat) (ρ0 : Env), ρ = updL ρ0 [(0, .pointer (some ⟨p, 0, none⟩)), (1, .slice A mm ca), (4, .slice none 0 0), (5, .slice (some ⟨w6.heap.size, 0, none⟩) ((mm : Int).toNat) ((mm : Int).toNat)), (16, .int .i64 (mm : Int)), (17, .int .i64 ((i : Nat) : Int))] ∧ (i ≤ mm) ∧ (o.length = mm) ∧ (∀ j, j < i → o.getD j 0 = GateP.nt 0) ∧ GObj F w' p n cs I ∧ Mv F F w w' ∧ RdX F w' mm A (nats a) ∧ Blk w' (w6.heap.size) 3 (nats o ++ []) ∧ m = mm - i) (m := mm - 0) ?_ ?_
  · refine ⟨List.replicate mm 0, 0, _, updL_self (by kernel_rfl), by omega, by simp, (fun j h => by omega), hG, hMv, hA, hB13, rfl⟩
  · rintro m ρ w16 ⟨o, i, ρ, rfl, hi, hol, hz0, hG, hMv, hA, hOut, rfl⟩
    have hpos := hG.2.pos
    refine W_seq ?_
    refine W_region (by kernel_rfl) ?_
    refine sg [(18, .bool (decide (((i : Nat) : Int) < (mm : Int))))] (by kernel_rfl) ?_
    refine op_nil ?_
    refine W_seq ?_
    refine W_cond (decide (((i : Nat) : Int) < (mm : Int))) (by kernel_rfl) (by kernel_rfl) (fun hc17 => ?_) (fun hc17 => ?_)
    · replace hc17 : ((i : Nat) : Int) < (mm : Int) := (of_decide_eq_true hc17)
      refine W_skip ?_
      refine W_seq ?_
      refine W_block ?_
      refine W_seq ?_
      refine W_region (by kernel_rfl) ?_
      refine sg [(19, .int .i64 ((i : Nat) : Int)), (6, .int .i64 ((i : Nat) : Int))] (by kernel_rfl) ?_
      refine op_nil ?_
      refine W_region (by kernel_rfl) ?_
      refine sg [(20, .slice (some ⟨w6.heap.size, 0, none⟩) ((mm : Int).toNat) ((mm : Int).toNat)), (21, .int .i64 ((i : Nat) : Int)), (22, .pointer (some ⟨p, 0, none⟩))] (by kernel_rfl) ?_
      refine st (by rfl) (S_call (args := [.pointer (some ⟨p, 0, none⟩)]) (by kernel_rfl) (true_ok p _) ?_)
      rintro _ w18 ⟨rfl, hT19⟩
      have hG := hG.tch0 hT19
      have hMv := hMv.then0 hT19
      have hA := hA.tch0 hT19
      have hOut := hOut.tch0 hT19
      refine st (by rfl) (S_call (args := [.int .i64 0]) (by kernel_rfl) (not_ok 0 _ (by omega)) ?_)
      rintro _ w20 ⟨rfl, hT21⟩
      have hG := hG.tch0 hT21
      have hMv := hMv.then0 hT21
      have hA := hA.tch0 hT21
      have hOut := hOut.tch0 hT21
      have hnt22 := GateP.nt_div 0
      refine stv (v := .pointer (some ⟨w6.heap.size, i, none⟩)) (by rfl) (R_index0 (b := w6.heap.size) (len := (mm : Int).toNat) (cap := (mm : Int).toNat) (k := .i64) (i := ((i : Nat) : Int)) (e := 3) i (by kernel_rfl) (by kernel_rfl) (by kernel_rfl) (by kernel_rfl) rfl (by first | omega | (simp only [List.length_set, List.length_map]; omega))) ?_
      refine st (by rfl) (S_store (b := w6.heap.size) (j := i) (v := .int .i64 ((GateP.nt 0 : Nat) : Int)) (by kernel_rfl) (by kernel_rfl) (by kernel_rfl) (by rfl) hOut (by rw [List.length_append, nats_length]; (first | omega | (simp only [List.length_set, List.length_map]; omega))) fun w23 hT24 hs25 hOut' => ?_)
      have hG := hG.tchS hT24 (fun c e q => by cases e; exact nF_hOut q)
      have hMv := hMv.newst hT24 (by omega)
      have hA := hA.st hT24 (fun c hc e => by have h1 := lt_hA c hc; have h2 := ge_hA c hc; have : c = w6.heap.size := e; omega)
      replace hOut : Blk w23 (w6.heap.size) 3 (nats (o.set i (GateP.nt 0)) ++ []) := (nats_setP (l := o) (sp := []) (i := i) (GateP.nt 0) (by first | omega | (simp only [List.length_set, List.length_map]; omega))) ▸ hOut'
      refine op_nil ?_
      refine W_fg [(0, .pointer (some ⟨p, 0, none⟩)), (1, .slice A mm ca), (4, .slice none 0 0), (5, .slice (some ⟨w6.heap.size, 0, none⟩) ((mm : Int).toNat) ((mm : Int).toNat)), (6, .int .i64 ((i : Nat) : Int)), (16, .int .i64 (mm : Int)), (17, .int .i64 ((i : Nat) : Int)), (18, .bool (decide (((i : Nat) : Int) < (mm : Int))))] (by kernel_rfl) fun ρ => ?_
      refine W_region (by kernel_rfl) ?_
      refine sg [(26, .int .i64 (IntKind.i64.wrap (((i : Nat) : Int) + 1)))] (by kernel_rfl) ?_
      rw [show IntKind.i64.wrap (((i : Nat) : Int) + 1) = ((i : Nat) : Int) + 1 from wrap_i64 (by omega) (by omega)]
      refine fixR (y := ((i + 1 : Nat) : Int)) (by omega) ?_
      refine sg [(17, .int .i64 ((i + 1 : Nat) : Int))] (by kernel_rfl) ?_
      refine op_nil ?_
      refine ⟨_, ?_, o.set i (GateP.nt 0), i + 1, _, updL_self (by kernel_rfl), ?_, by rw [List.length_set]; exact hol, mv_put (f := fun _ => GateP.nt 0) (by omega) hz0 rfl, hG, hMv, hA, hOut, rfl⟩
      · omega
      · omega
    · replace hc17 : (mm : Int) ≤ ((i : Nat) : Int) := (Int.not_lt.1 (of_decide_eq_false hc17))
      refine W_exit ?_
      refine X_hit ?_
      refine W_seq ?_
      refine W_region (by kernel_rfl) ?_
      refine sg [(27, .pointer (some ⟨p, 0, none⟩)), (28, .slice (some ⟨w6.heap.size, 0, none⟩) ((mm : Int).toNat) ((mm : Int).toNat)), (29, .slice A mm ca)] (by kernel_rfl) ?_
      have lt38 := hOut.lt
      have hzM := hMv.1.size
      have hie : i = mm := by omega
      rw [hie] at hz0
      have hZ : RdX F w16 mm (some ⟨w6.heap.size, 0, none⟩) (nats o) := RdX.ofP hOut (by rw [nats_length]; exact hol) (by omega) nF_hOut
      refine st (by rfl) (S_call (args := [.pointer (some ⟨p, 0, none⟩), .slice (some ⟨w6.heap.size, 0, none⟩) ((mm : Int).toNat) ((mm : Int).toNat), .slice A mm ca]) (by kernel_rfl) (rsub_ok F p n mm ((mm : Int).toNat) ca (some ⟨w6.heap.size, 0, none⟩) A o a cs I _ hG hZ hA (fun j hj => by rw [hz0 j hj]; show (1 : Nat) / 2 < _; omega) hfa hm hm2 (by omega)) ?_)
      rintro _ w26 ⟨F27, n28, cs29, g30, r31, rfl, hrl32, hX33, hg34, hG, hm35, hrw36, hd37⟩
      have hMv := hMv.trans hm35
      have hA := hA.mv hm35
      have hOut := hOut.tch hm35.1 nF_hOut
      have hle39 := hrw36.le
      replace nF_hOut : ¬ F27 (w6.heap.size) := fun e => (hm35.2 _ e).elim nF_hOut (fun q => by omega)
      refine sg [(4, .slice (some ⟨g30, 0, none⟩) mm mm)] (by kernel_rfl) ?_
      refine op_nil ?_
      refine W_ret ?_
      exact ⟨_, Res_of (v := .slice (some ⟨g30, 0, none⟩) mm mm) (by kernel_rfl), ⟨F27, n28, cs29, g30, r31, rfl, hrl32, hX33, by omega, hG, hMv, hrw36.eq (fun be hm j hj => by show sumB (fun j => lt_ be (o.getD j 0)) _ true j = _; exact sumB_congr (fun i hi => by rw [hz0 i (by omega)]; exact hG.2.t1 hm) (fun _ _ => rfl)), by omega⟩⟩

set_option maxRecDepth 100000 in
theorem rneg2_bad (p ma ca : Nat) (A : Option Addr) (a : List Int) (w : World) (hA : RdW w 1 ma A (ints .i64 a)) (hb : ¬ (0 < ma ∧ ∀ j, j < ma → 0 ≤ a.getD j 0)) : Ret Try.prog 41 [.pointer (some ⟨p, 0, none⟩), .slice A ma ca] w fun v w' => v = .slice none 0 0 ∧ Tch N0 w w' := by
  refine enter Try.func41 rfl rfl ?_
  refine W_seq ?_
  refine W_region (by kernel_rfl) ?_
  refine sg [(4, .slice none 0 0)] (by kernel_rfl) ?_
  refine op_nil ?_
  refine W_seq ?_
  refine W_seq ?_
  refine W_region (by kernel_rfl) ?_
  refine sg [(7, .pointer (some ⟨p, 0, none⟩)), (8, .slice A ma ca)] (by kernel_rfl) ?_
  refine st (by rfl) (S_new (v := .slice (some ⟨w.heap.size, 0, none⟩) 1 1) (ob := .cells #[.slice A ma ca] 27) (by kernel_rfl) fun w1 hT2 hs3 hB4 => ?_)
  replace hB4 : Blk w1 (w.heap.size) 27 [.slice A ma ca] := hB4
  have hT0 := hT2
  refine st (by rfl) (S_call (args := [.pointer (some ⟨p, 0, none⟩), .slice (some ⟨w.heap.size, 0, none⟩) 1 1]) (by kernel_rfl) (fine_one_f p (w.heap.size) ma ca A a _ hB4 (hA.tch0 hT0) hb) ?_)
  rintro _ w5 ⟨rfl, hT6⟩
  have hT0 := hT0.t0 hT6
  have hB4 := hB4.tch0 hT6
  refine sg [(11, .bool true)] (by kernel_rfl) ?_
  refine op_nil ?_
  refine W_cond true (by kernel_rfl) (by kernel_rfl) (fun _ => ?_) (fun h => nomatch h)
  refine W_seq ?_
  refine W_region (by kernel_rfl) ?_
  refine sg [(4, .slice none 0 0)] (by kernel_rfl) ?_
  refine op_nil ?_
  refine W_ret ?_
  exact ⟨_, Res_of (v := .slice none 0 0) (by kernel_rfl), ⟨rfl, hT0⟩⟩

end Go.Proofs.YtnlecdpiccgdpaaV
