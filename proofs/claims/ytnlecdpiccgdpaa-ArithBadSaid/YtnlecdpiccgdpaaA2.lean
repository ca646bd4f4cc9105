/- Walks of functions of the program and of the document's texts. The conditions stand with each theorem. -/
import Derived.Test.YtnlecdpiccgdpaaVx13
import Derived.Test.YtnlecdpiccgdpaaProg
import Derived.Test.YtnlecdpiccgdpaaVx4
import Derived.Test.YtnlecdpiccgdpaaA1
set_option linter.unusedVariables false
set_option linter.unusedSimpArgs false
namespace Go.Proofs.YtnlecdpiccgdpaaV
open Go Go.RowKit Go.Proofs

set_option maxRecDepth 100000 in
theorem radd_ok (F : Nat → Prop) (p n mm ca cb : Nat) (A B : Option Addr) (a b : List Nat)  (cs : List (List Nat)) (I : Nat → Prop) (w : World) (hG : GObj F w p n cs I) (hA : RdX F w mm A (nats a)) (hB : RdX F w mm B (nats b)) (hfa : ∀ j, j < mm → a.getD j 0 / 2 < n) (hfb : ∀ j, j < mm → b.getD j 0 / 2 < n) (hm : 0 < mm) (hm2 : mm ≤ 1000) (hn : n ≤ 50000000000) : Ret Try.prog 39 [.pointer (some ⟨p, 0, none⟩), .slice A mm ca, .slice B mm cb] w fun v w' => RowR F p n cs I w mm (5 * mm) (fun be j => sumB (fun j => lt_ be (a.getD j 0)) (fun j => lt_ be (b.getD j 0)) false j) v w' := by
  have hMv := Mv.refl F w
  have hla : a.length = mm := by have := hA.1.1; rw [nats_length] at this; omega
  have hlb : b.length = mm := by have := hB.1.1; rw [nats_length] at this; omega
  have hAr := hA.1
  have hBr := hB.1
  have lt_hA := hA.lt
  have lt_hB := hB.lt
  have ge_hA : ∀ c, blkOf A = some c → 0 ≤ c := fun c _ => Nat.zero_le c
  have ge_hB : ∀ c, blkOf B = some c → 0 ≤ c := fun c _ => Nat.zero_le c
  have hff_a := hfa
  have hff_b := hfb
  have hpos := hG.2.pos
  refine enter Try.func39 rfl rfl ?_
  refine W_seq ?_
  refine W_region (by kernel_rfl) ?_
  refine sg [(6, .slice none 0 0)] (by kernel_rfl) ?_
  refine op_nil ?_
  refine W_seq ?_
  refine W_seq ?_
  refine W_region (by kernel_rfl) ?_
  refine sg [(9, .pointer (some ⟨p, 0, none⟩)), (10, .slice A mm ca), (11, .slice B mm cb)] (by kernel_rfl) ?_
  have hlt_ := hG.1.lt
  have hz5 := hMv.1.size
  refine st (by rfl) (S_new (v := .slice (some ⟨w.heap.size, 0, none⟩) 2 2) (ob := .cells #[.slice A mm ca, .slice B mm cb] 27) (by kernel_rfl) fun w1 hT2 hs3 hB4 => ?_)
  replace hB4 : Blk w1 (w.heap.size) 27 [.slice A mm ca, .slice B mm cb] := hB4
  have hG := hG.tch0 hT2
  have hMv := hMv.then0 hT2
  have hA := hA.tch0 hT2
  have hAr := hA.1
  have hB := hB.tch0 hT2
  have hBr := hB.1
  have nF_hB4 : ¬ F (w.heap.size) := fun e => by have := hlt_ _ e; omega
  refine st (by rfl) (S_call (args := [.pointer (some ⟨p, 0, none⟩), .slice (some ⟨w.heap.size, 0, none⟩) 2 2]) (by kernel_rfl) (fine_nats p (w.heap.size) mm ca cb A B _ _ _ hB4 hAr hBr (by omega)) ?_)
  rintro _ w6 ⟨rfl, hT7⟩
  have hG := hG.tch0 hT7
  have hMv := hMv.then0 hT7
  have hA := hA.tch0 hT7
  have hAr := hA.1
  have hB := hB.tch0 hT7
  have hBr := hB.1
  have hB4 := hB4.tch0 hT7
  refine sg [(14, .bool false)] (by kernel_rfl) ?_
  refine op_nil ?_
  refine W_cond false (by kernel_rfl) (by kernel_rfl) (fun h => nomatch h) (fun _ => ?_)
  refine W_skip ?_
  refine W_seq ?_
  refine W_region (by kernel_rfl) ?_
  refine sg [(16, .pointer (some ⟨p, 0, none⟩)), (17, .slice A mm ca), (18, .slice B mm cb), (19, .pointer (some ⟨p, 0, none⟩))] (by kernel_rfl) ?_
  refine st (by rfl) (S_call (args := [.pointer (some ⟨p, 0, none⟩)]) (by kernel_rfl) (true_ok p _) ?_)
  rintro _ w8 ⟨rfl, hT9⟩
  have hG := hG.tch0 hT9
  have hMv := hMv.then0 hT9
  have hA := hA.tch0 hT9
  have hAr := hA.1
  have hB := hB.tch0 hT9
  have hBr := hB.1
  have hB4 := hB4.tch0 hT9
  refine st (by rfl) (S_call (args := [.int .i64 0]) (by kernel_rfl) (not_ok 0 _ (by omega)) ?_)
  rintro _ w10 ⟨rfl, hT11⟩
  have hG := hG.tch0 hT11
  have hMv := hMv.then0 hT11
  have hA := hA.tch0 hT11
  have hAr := hA.1
  have hB := hB.tch0 hT11
  have hBr := hB.1
  have hB4 := hB4.tch0 hT11
  have hnt12 := GateP.nt_div 0
  have lt26 := hB4.lt
  have hzM := hMv.1.size
  have hpos_ := hG.2.pos
  refine st (by rfl) (S_call (args := [.pointer (some ⟨p, 0, none⟩), .slice A mm ca, .slice B mm cb, .int .i64 ((GateP.nt 0 : Nat) : Int)]) (by kernel_rfl) (sum_ok F p n mm ca cb A B a b (GateP.nt 0) cs I _ hG hA hB hff_a hff_b hm hm2 (by omega) (by omega)) ?_)
  rintro _ w13 ⟨F14, n15, cs16, g17, r18, y19, rfl, hrl20, hX21, hg22, hG, hm23, hrw24, hd25⟩
  have hMv := hMv.trans hm23
  have hA := hA.mv hm23
  have hAr := hA.1
  have hB := hB.mv hm23
  have hBr := hB.1
  have hB4 := hB4.tch hm23.1 nF_hB4
  have hle27 := hrw24.le
  replace nF_hB4 : ¬ F14 (w.heap.size) := fun e => (hm23.2 _ e).elim nF_hB4 (fun q => by omega)
  refine sg [(15, .tuple #[.slice (some ⟨g17, 0, none⟩) mm mm, .int .i64 ((y19 : Nat) : Int)]), (23, .slice (some ⟨g17, 0, none⟩) mm mm), (24, .int .i64 ((y19 : Nat) : Int)), (7, .slice (some ⟨g17, 0, none⟩) mm mm), (8, .int .i64 ((y19 : Nat) : Int))] (by kernel_rfl) ?_
  refine op_nil ?_
  refine W_seq ?_
  refine W_fg [(0, .pointer (some ⟨p, 0, none⟩)), (1, .slice A mm ca), (2, .slice B mm cb), (6, .slice none 0 0), (7, .slice (some ⟨g17, 0, none⟩) mm mm), (14, .bool false)] (by kernel_rfl) fun ρ => ?_
  refine W_region (by kernel_rfl) ?_
  refine sg [(25, .slice (some ⟨g17, 0, none⟩) mm mm), (6, .slice (some ⟨g17, 0, none⟩) mm mm)] (by kernel_rfl) ?_
  refine op_nil ?_
  refine W_ret ?_
  exact ⟨_, Res_of (v := .slice (some ⟨g17, 0, none⟩) mm mm) (by kernel_rfl), ⟨F14, n15, cs16, g17, r18, rfl, hrl20, hX21, by omega, hG, hMv, hrw24.eq (fun be hm j hj => by show sumB _ _ (lt_ be 1) j = _; rw [hG.2.t1 hm]), by omega⟩⟩

set_option maxRecDepth 100000 in
theorem rsub_ok (F : Nat → Prop) (p n mm ca cb : Nat) (A B : Option Addr) (a b : List Nat)  (cs : List (List Nat)) (I : Nat → Prop) (w : World) (hG : GObj F w p n cs I) (hA : RdX F w mm A (nats a)) (hB : RdX F w mm B (nats b)) (hfa : ∀ j, j < mm → a.getD j 0 / 2 < n) (hfb : ∀ j, j < mm → b.getD j 0 / 2 < n) (hm : 0 < mm) (hm2 : mm ≤ 1000) (hn : n ≤ 50000000000) : Ret Try.prog 40 [.pointer (some ⟨p, 0, none⟩), .slice A mm ca, .slice B mm cb] w fun v w' => RowR F p n cs I w mm (5 * mm) (fun be j => sumB (fun j => lt_ be (a.getD j 0)) (fun j => !lt_ be (b.getD j 0)) true j) v w' := by
  have hMv := Mv.refl F w
  have hla : a.length = mm := by have := hA.1.1; rw [nats_length] at this; omega
  have hlb : b.length = mm := by have := hB.1.1; rw [nats_length] at this; omega
  have hAr := hA.1
  have hBr := hB.1
  have lt_hA := hA.lt
  have lt_hB := hB.lt
  have ge_hA : ∀ c, blkOf A = some c → 0 ≤ c := fun c _ => Nat.zero_le c
  have ge_hB : ∀ c, blkOf B = some c → 0 ≤ c := fun c _ => Nat.zero_le c
  have hff_a := hfa
  have hff_b := hfb
  have hpos := hG.2.pos
  refine enter Try.func40 rfl rfl ?_
  refine W_seq ?_
  refine W_region (by kernel_rfl) ?_
  refine sg [(6, .slice none 0 0)] (by kernel_rfl) ?_
  refine op_nil ?_
  refine W_seq ?_
  refine W_seq ?_
  refine W_region (by kernel_rfl) ?_
  refine sg [(9, .pointer (some ⟨p, 0, none⟩)), (10, .slice A mm ca), (11, .slice B mm cb)] (by kernel_rfl) ?_
  have hlt_ := hG.1.lt
  have hz5 := hMv.1.size
  refine st (by rfl) (S_new (v := .slice (some ⟨w.heap.size, 0, none⟩) 2 2) (ob := .cells #[.slice A mm ca, .slice B mm cb] 27) (by kernel_rfl) fun w1 hT2 hs3 hB4 => ?_)
  replace hB4 : Blk w1 (w.heap.size) 27 [.slice A mm ca, .slice B mm cb] := hB4
  have hG := hG.tch0 hT2
  have hMv := hMv.then0 hT2
  have hA := hA.tch0 hT2
  have hAr := hA.1
  have hB := hB.tch0 hT2
  have hBr := hB.1
  have nF_hB4 : ¬ F (w.heap.size) := fun e => by have := hlt_ _ e; omega
  refine st (by rfl) (S_call (args := [.pointer (some ⟨p, 0, none⟩), .slice (some ⟨w.heap.size, 0, none⟩) 2 2]) (by kernel_rfl) (fine_nats p (w.heap.size) mm ca cb A B _ _ _ hB4 hAr hBr (by omega)) ?_)
  rintro _ w6 ⟨rfl, hT7⟩
  have hG := hG.tch0 hT7
  have hMv := hMv.then0 hT7
  have hA := hA.tch0 hT7
  have hAr := hA.1
  have hB := hB.tch0 hT7
  have hBr := hB.1
  have hB4 := hB4.tch0 hT7
  refine sg [(14, .bool false)] (by kernel_rfl) ?_
  refine op_nil ?_
  refine W_cond false (by kernel_rfl) (by kernel_rfl) (fun h => nomatch h) (fun _ => ?_)
  refine W_skip ?_
  refine W_seq ?_
  refine W_region (by kernel_rfl) ?_
  refine sg [(16, .pointer (some ⟨p, 0, none⟩)), (17, .slice A mm ca), (18, .slice B mm cb)] (by kernel_rfl) ?_
  have hltM := hG.1.lt
  refine st (by rfl) (S_call (args := [.slice B mm cb]) (by kernel_rfl) (nots_ok mm cb B b _ hB.1 hm2 (fun j hj => by have := hff_b j hj; omega)) ?_)
  rintro _ w8 ⟨g9, r10, rfl, hrl12, hBm13, hgm14, hmv15, hT11⟩
  have hG := hG.tch0 hT11
  have hMv := hMv.then0 hT11
  have hA := hA.tch0 hT11
  have hAr := hA.1
  have hB := hB.tch0 hT11
  have hBr := hB.1
  have hB4 := hB4.tch0 hT11
  have hX16 := RdX.ofP (m := mm) (F := F) hBm13 (by rw [nats_length]; exact hrl12) (by omega) (fun e => by have := hltM _ e; omega)
  have hff_r10 : ∀ j, j < mm → r10.getD j 0 / 2 < n := fun j hj => by rw [hmv15 j hj, nt_div]; exact hff_b j hj
  refine sg [(20, .pointer (some ⟨p, 0, none⟩))] (by kernel_rfl) ?_
  refine st (by rfl) (S_call (args := [.pointer (some ⟨p, 0, none⟩)]) (by kernel_rfl) (true_ok p _) ?_)
  rintro _ w17 ⟨rfl, hT18⟩
  have hG := hG.tch0 hT18
  have hMv := hMv.then0 hT18
  have hA := hA.tch0 hT18
  have hAr := hA.1
  have hB := hB.tch0 hT18
  have hBr := hB.1
  have hB4 := hB4.tch0 hT18
  have hX16 := hX16.tch0 hT18
  have lt32 := hB4.lt
  have hzM := hMv.1.size
  have hpos_ := hG.2.pos
  refine st (by rfl) (S_call (args := [.pointer (some ⟨p, 0, none⟩), .slice A mm ca, .slice (some ⟨g9, 0, none⟩) mm mm, .int .i64 0]) (by kernel_rfl) (sum_ok F p n mm ca mm A (some ⟨g9, 0, none⟩) a r10 0 cs I _ hG hA hX16 hff_a hff_r10 hm hm2 (by omega) (by omega)) ?_)
  rintro _ w19 ⟨F20, n21, cs22, g23, r24, y25, rfl, hrl26, hX27, hg28, hG, hm29, hrw30, hd31⟩
  have hMv := hMv.trans hm29
  have hA := hA.mv hm29
  have hAr := hA.1
  have hB := hB.mv hm29
  have hBr := hB.1
  have hB4 := hB4.tch hm29.1 nF_hB4
  have hX16 := hX16.mv hm29
  have hle33 := hrw30.le
  replace nF_hB4 : ¬ F20 (w.heap.size) := fun e => (hm29.2 _ e).elim nF_hB4 (fun q => by omega)
  refine sg [(15, .tuple #[.slice (some ⟨g23, 0, none⟩) mm mm, .int .i64 ((y25 : Nat) : Int)]), (23, .slice (some ⟨g23, 0, none⟩) mm mm), (24, .int .i64 ((y25 : Nat) : Int)), (7, .slice (some ⟨g23, 0, none⟩) mm mm), (8, .int .i64 ((y25 : Nat) : Int))] (by kernel_rfl) ?_
  refine op_nil ?_
  refine W_seq ?_
  refine W_fg [(0, .pointer (some ⟨p, 0, none⟩)), (1, .slice A mm ca), (2, .slice B mm cb), (6, .slice none 0 0), (7, .slice (some ⟨g23, 0, none⟩) mm mm), (14, .bool false)] (by kernel_rfl) fun ρ => ?_
  refine W_region (by kernel_rfl) ?_
  refine sg [(25, .slice (some ⟨g23, 0, none⟩) mm mm), (6, .slice (some ⟨g23, 0, none⟩) mm mm)] (by kernel_rfl) ?_
  refine op_nil ?_
  refine W_ret ?_
  exact ⟨_, Res_of (v := .slice (some ⟨g23, 0, none⟩) mm mm) (by kernel_rfl), ⟨F20, n21, cs22, g23, r24, rfl, hrl26, hX27, by omega, hG, hMv, hrw30.eq (fun be hm j hj => by show sumB _ (fun j => lt_ be (r10.getD j 0)) (lt_ be 0) j = _; rw [hG.2.t0 hm]; exact sumB_congr (fun _ _ => rfl) (fun i hi => by show lt_ be (r10.getD i 0) = _; rw [hmv15 i (by omega), lt_nt])), by omega⟩⟩

set_option maxRecDepth 100000 in
theorem radd_bad (p ma mb ca cb : Nat) (A B : Option Addr) (a b : List Int) (w : World) (hA : RdW w 1 ma A (ints .i64 a)) (hB : RdW w 1 mb B (ints .i64 b)) (hb : BadR ma a mb b) : Ret Try.prog 39 [.pointer (some ⟨p, 0, none⟩), .slice A ma ca, .slice B mb cb] w fun v w' => v = .slice none 0 0 ∧ Tch N0 w w' := by
  refine enter Try.func39 rfl rfl ?_
  refine W_seq ?_
  refine W_region (by kernel_rfl) ?_
  refine sg [(6, .slice none 0 0)] (by kernel_rfl) ?_
  refine op_nil ?_
  refine W_seq ?_
  refine W_seq ?_
  refine W_region (by kernel_rfl) ?_
  refine sg [(9, .pointer (some ⟨p, 0, none⟩)), (10, .slice A ma ca), (11, .slice B mb cb)] (by kernel_rfl) ?_
  refine st (by rfl) (S_new (v := .slice (some ⟨w.heap.size, 0, none⟩) 2 2) (ob := .cells #[.slice A ma ca, .slice B mb cb] 27) (by kernel_rfl) fun w1 hT2 hs3 hB4 => ?_)
  replace hB4 : Blk w1 (w.heap.size) 27 [.slice A ma ca, .slice B mb cb] := hB4
  have hT0 := hT2
  refine st (by rfl) (S_call (args := [.pointer (some ⟨p, 0, none⟩), .slice (some ⟨w.heap.size, 0, none⟩) 2 2]) (by kernel_rfl) (fine_bad p (w.heap.size) ma mb ca cb A B a b _ hB4 (hA.tch0 hT0) (hB.tch0 hT0) hb) ?_)
  rintro _ w5 ⟨rfl, hT6⟩
  have hT0 := hT0.t0 hT6
  have hB4 := hB4.tch0 hT6
  refine sg [(14, .bool true)] (by kernel_rfl) ?_
  refine op_nil ?_
  refine W_cond true (by kernel_rfl) (by kernel_rfl) (fun _ => ?_) (fun h => nomatch h)
  refine W_seq ?_
  refine W_region (by kernel_rfl) ?_
  refine sg [(6, .slice none 0 0)] (by kernel_rfl) ?_
  refine op_nil ?_
  refine W_ret ?_
  exact ⟨_, Res_of (v := .slice none 0 0) (by kernel_rfl), ⟨rfl, hT0⟩⟩

set_option maxRecDepth 100000 in
theorem rsub_bad (p ma mb ca cb : Nat) (A B : Option Addr) (a b : List Int) (w : World) (hA : RdW w 1 ma A (ints .i64 a)) (hB : RdW w 1 mb B (ints .i64 b)) (hb : BadR ma a mb b) : Ret Try.prog 40 [.pointer (some ⟨p, 0, none⟩), .slice A ma ca, .slice B mb cb] w fun v w' => v = .slice none 0 0 ∧ Tch N0 w w' := by
  refine enter Try.func40 rfl rfl ?_
  refine W_seq ?_
  refine W_region (by kernel_rfl) ?_
  refine sg [(6, .slice none 0 0)] (by kernel_rfl) ?_
  refine op_nil ?_
  refine W_seq ?_
  refine W_seq ?_
  refine W_region (by kernel_rfl) ?_
  refine sg [(9, .pointer (some ⟨p, 0, none⟩)), (10, .slice A ma ca), (11, .slice B mb cb)] (by kernel_rfl) ?_
  refine st (by rfl) (S_new (v := .slice (some ⟨w.heap.size, 0, none⟩) 2 2) (ob := .cells #[.slice A ma ca, .slice B mb cb] 27) (by kernel_rfl) fun w1 hT2 hs3 hB4 => ?_)
  replace hB4 : Blk w1 (w.heap.size) 27 [.slice A ma ca, .slice B mb cb] := hB4
  have hT0 := hT2
  refine st (by rfl) (S_call (args := [.pointer (some ⟨p, 0, none⟩), .slice (some ⟨w.heap.size, 0, none⟩) 2 2]) (by kernel_rfl) (fine_bad p (w.heap.size) ma mb ca cb A B a b _ hB4 (hA.tch0 hT0) (hB.tch0 hT0) hb) ?_)
  rintro _ w5 ⟨rfl, hT6⟩
  have hT0 := hT0.t0 hT6
  have hB4 := hB4.tch0 hT6
  refine sg [(14, .bool true)] (by kernel_rfl) ?_
  refine op_nil ?_
  refine W_cond true (by kernel_rfl) (by kernel_rfl) (fun _ => ?_) (fun h => nomatch h)
  refine W_seq ?_
  refine W_region (by kernel_rfl) ?_
  refine sg [(6, .slice none 0 0)] (by kernel_rfl) ?_
  refine op_nil ?_
  refine W_ret ?_
  exact ⟨_, Res_of (v := .slice none 0 0) (by kernel_rfl), ⟨rfl, hT0⟩⟩

set_option maxRecDepth 100000 in
theorem eq_bad (p ma mb ca cb : Nat) (A B : Option Addr) (a b : List Int) (w : World) (hA : RdW w 1 ma A (ints .i64 a)) (hB : RdW w 1 mb B (ints .i64 b)) (hb : BadR ma a mb b) : Ret Try.prog 42 [.pointer (some ⟨p, 0, none⟩), .slice A ma ca, .slice B mb cb] w fun v w' => v = .int .i64 (-1) ∧ Tch N0 w w' := by
  refine enter Try.func42 rfl rfl ?_
  refine W_seq ?_
  refine W_region (by kernel_rfl) ?_
  refine sg [(6, .int .i64 0)] (by kernel_rfl) ?_
  refine op_nil ?_
  refine W_seq ?_
  refine W_seq ?_
  refine W_region (by kernel_rfl) ?_
  refine sg [(9, .pointer (some ⟨p, 0, none⟩)), (10, .slice A ma ca), (11, .slice B mb cb)] (by kernel_rfl) ?_
  refine st (by rfl) (S_new (v := .slice (some ⟨w.heap.size, 0, none⟩) 2 2) (ob := .cells #[.slice A ma ca, .slice B mb cb] 27) (by kernel_rfl) fun w1 hT2 hs3 hB4 => ?_)
  replace hB4 : Blk w1 (w.heap.size) 27 [.slice A ma ca, .slice B mb cb] := hB4
  have hT0 := hT2
  refine st (by rfl) (S_call (args := [.pointer (some ⟨p, 0, none⟩), .slice (some ⟨w.heap.size, 0, none⟩) 2 2]) (by kernel_rfl) (fine_bad p (w.heap.size) ma mb ca cb A B a b _ hB4 (hA.tch0 hT0) (hB.tch0 hT0) hb) ?_)
  rintro _ w5 ⟨rfl, hT6⟩
  have hT0 := hT0.t0 hT6
  have hB4 := hB4.tch0 hT6
  refine sg [(14, .bool true)] (by kernel_rfl) ?_
  refine op_nil ?_
  refine W_cond true (by kernel_rfl) (by kernel_rfl) (fun _ => ?_) (fun h => nomatch h)
  refine W_seq ?_
  refine W_region (by kernel_rfl) ?_
  refine sg [(6, .int .i64 (-1))] (by kernel_rfl) ?_
  refine op_nil ?_
  refine W_ret ?_
  exact ⟨_, Res_of (v := .int .i64 (-1)) (by kernel_rfl), ⟨rfl, hT0⟩⟩

set_option maxRecDepth 100000 in
theorem less_bad (p ma mb ca cb : Nat) (A B : Option Addr) (a b : List Int) (w : World) (hA : RdW w 1 ma A (ints .i64 a)) (hB : RdW w 1 mb B (ints .i64 b)) (hb : BadR ma a mb b) : Ret Try.prog 43 [.pointer (some ⟨p, 0, none⟩), .slice A ma ca, .slice B mb cb] w fun v w' => v = .int .i64 (-1) ∧ Tch N0 w w' := by
  refine enter Try.func43 rfl rfl ?_
  refine W_seq ?_
  refine W_region (by kernel_rfl) ?_
  refine sg [(6, .int .i64 0)] (by kernel_rfl) ?_
  refine op_nil ?_
  refine W_seq ?_
  refine W_seq ?_
  refine W_region (by kernel_rfl) ?_
  refine sg [(9, .pointer (some ⟨p, 0, none⟩)), (10, .slice A ma ca), (11, .slice B mb cb)] (by kernel_rfl) ?_
  refine st (by rfl) (S_new (v := .slice (some ⟨w.heap.size, 0, none⟩) 2 2) (ob := .cells #[.slice A ma ca, .slice B mb cb] 27) (by kernel_rfl) fun w1 hT2 hs3 hB4 => ?_)
  replace hB4 : Blk w1 (w.heap.size) 27 [.slice A ma ca, .slice B mb cb] := hB4
  have hT0 := hT2
  refine st (by rfl) (S_call (args := [.pointer (some ⟨p, 0, none⟩), .slice (some ⟨w.heap.size, 0, none⟩) 2 2]) (by kernel_rfl) (fine_bad p (w.heap.size) ma mb ca cb A B a b _ hB4 (hA.tch0 hT0) (hB.tch0 hT0) hb) ?_)
  rintro _ w5 ⟨rfl, hT6⟩
  have hT0 := hT0.t0 hT6
  have hB4 := hB4.tch0 hT6
  refine sg [(14, .bool true)] (by kernel_rfl) ?_
  refine op_nil ?_
  refine W_cond true (by kernel_rfl) (by kernel_rfl) (fun _ => ?_) (fun h => nomatch h)
  refine W_seq ?_
  refine W_region (by kernel_rfl) ?_
  refine sg [(6, .int .i64 (-1))] (by kernel_rfl) ?_
  refine op_nil ?_
  refine W_ret ?_
  exact ⟨_, Res_of (v := .int .i64 (-1)) (by kernel_rfl), ⟨rfl, hT0⟩⟩

set_option maxRecDepth 100000 in
theorem sless_bad (p ma mb ca cb : Nat) (A B : Option Addr) (a b : List Int) (w : World) (hA : RdW w 1 ma A (ints .i64 a)) (hB : RdW w 1 mb B (ints .i64 b)) (hb : BadR ma a mb b) : Ret Try.prog 44 [.pointer (some ⟨p, 0, none⟩), .slice A ma ca, .slice B mb cb] w fun v w' => v = .int .i64 (-1) ∧ Tch N0 w w' := by
  refine enter Try.func44 rfl rfl ?_
  refine W_seq ?_
  refine W_region (by kernel_rfl) ?_
  refine sg [(6, .int .i64 0)] (by kernel_rfl) ?_
  refine op_nil ?_
  refine W_seq ?_
  refine W_seq ?_
  refine W_region (by kernel_rfl) ?_
  refine sg [(10, .pointer (some ⟨p, 0, none⟩)), (11, .slice A ma ca), (12, .slice B mb cb)] (by kernel_rfl) ?_
  refine st (by rfl) (S_new (v := .slice (some ⟨w.heap.size, 0, none⟩) 2 2) (ob := .cells #[.slice A ma ca, .slice B mb cb] 27) (by kernel_rfl) fun w1 hT2 hs3 hB4 => ?_)
  replace hB4 : Blk w1 (w.heap.size) 27 [.slice A ma ca, .slice B mb cb] := hB4
  have hT0 := hT2
  refine st (by rfl) (S_call (args := [.pointer (some ⟨p, 0, none⟩), .slice (some ⟨w.heap.size, 0, none⟩) 2 2]) (by kernel_rfl) (fine_bad p (w.heap.size) ma mb ca cb A B a b _ hB4 (hA.tch0 hT0) (hB.tch0 hT0) hb) ?_)
  rintro _ w5 ⟨rfl, hT6⟩
  have hT0 := hT0.t0 hT6
  have hB4 := hB4.tch0 hT6
  refine sg [(15, .bool true)] (by kernel_rfl) ?_
  refine op_nil ?_
  refine W_cond true (by kernel_rfl) (by kernel_rfl) (fun _ => ?_) (fun h => nomatch h)
  refine W_seq ?_
  refine W_region (by kernel_rfl) ?_
  refine sg [(6, .int .i64 (-1))] (by kernel_rfl) ?_
  refine op_nil ?_
  refine W_ret ?_
  exact ⟨_, Res_of (v := .int .i64 (-1)) (by kernel_rfl), ⟨rfl, hT0⟩⟩

set_option maxRecDepth 100000 in
theorem radd_nil (ma mb ca cb : Nat) (A B : Option Addr) (w : World) : Ret Try.prog 39 [.pointer none, .slice A ma ca, .slice B mb cb] w fun v w' => v = .slice none 0 0 ∧ Tch N0 w w' := by
  refine enter Try.func39 rfl rfl ?_
  refine W_seq ?_
  refine W_region (by kernel_rfl) ?_
  refine sg [(6, .slice none 0 0)] (by kernel_rfl) ?_
  refine op_nil ?_
  refine W_seq ?_
  refine W_seq ?_
  refine W_region (by kernel_rfl) ?_
  refine sg [(9, .pointer none), (10, .slice A ma ca), (11, .slice B mb cb)] (by kernel_rfl) ?_
  refine st (by rfl) (S_new (v := .slice (some ⟨w.heap.size, 0, none⟩) 2 2) (ob := .cells #[.slice A ma ca, .slice B mb cb] 27) (by kernel_rfl) fun w1 hT2 hs3 hB4 => ?_)
  replace hB4 : Blk w1 (w.heap.size) 27 [.slice A ma ca, .slice B mb cb] := hB4
  have hT0 := hT2
  refine st (by rfl) (S_call (args := [.pointer none, .slice (some ⟨w.heap.size, 0, none⟩) 2 2]) (by kernel_rfl) (fine_nil 2 2 (w.heap.size) _) ?_)
  rintro _ w5 ⟨rfl, hT6⟩
  have hT0 := hT0.t0 hT6
  have hB4 := hB4.tch0 hT6
  refine sg [(14, .bool true)] (by kernel_rfl) ?_
  refine op_nil ?_
  refine W_cond true (by kernel_rfl) (by kernel_rfl) (fun _ => ?_) (fun h => nomatch h)
  refine W_seq ?_
  refine W_region (by kernel_rfl) ?_
  refine sg [(6, .slice none 0 0)] (by kernel_rfl) ?_
  refine op_nil ?_
  refine W_ret ?_
  exact ⟨_, Res_of (v := .slice none 0 0) (by kernel_rfl), ⟨rfl, hT0⟩⟩

end Go.Proofs.YtnlecdpiccgdpaaV
