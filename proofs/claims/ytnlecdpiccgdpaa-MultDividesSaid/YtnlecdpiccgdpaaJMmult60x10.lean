/- Texts laid together: Walks of functions of the program and of the document's texts. The conditions stand with each theorem. Walks of functions of the program and of the document's texts. The conditions stand with each theorem. Walks of functions of the program and of the document's texts. The conditions stand with each theorem. Walks of functions of the program and of the document's texts. The conditions stand with each theorem. Walks of functions of the program and of the document's texts. The conditions stand with each theorem. -/
import Derived.Test.YtnlecdpiccgdpaaJMmult60x2
import Derived.Test.YtnlecdpiccgdpaaProg
import Derived.Test.YtnlecdpiccgdpaaJMmult60x1
import Derived.Test.YtnlecdpiccgdpaaJMmult60x9
import Derived.Test.YtnlecdpiccgdpaaJMmult60x7
set_option linter.unusedVariables false
set_option linter.unusedSimpArgs false
namespace Go.Proofs.YtnlecdpiccgdpaaV
open Go Go.RowKit Go.Proofs

set_option maxRecDepth 100000 in
theorem radd_ok (F : Nat → Prop) (p n mm ca cb : Nat) (A B : Option Addr) (a b : List Nat)  (cs : List (List Nat)) (I : Nat → Prop) (w : World) (hG : GObj F w p n cs I) (hA : RdX F w mm A (nats a)) (hB : RdX F w mm B (nats b)) (hfa : ∀ j, j < mm → a.getD j 0 / 2 < n) (hfb : ∀ j, j < mm → b.getD j 0 / 2 < n) (hm : 0 < mm) (hm2 : mm ≤ 1000) (hn : n ≤ 50000000000) : Ret Try.prog 39 [.pointer (some ⟨p, 0, none⟩), .slice A mm ca, .slice B mm cb] w fun v w' => RowR F p n cs I w mm (5 * mm) (fun be j => sumB (fun j => lt_ be (a.getD j 0)) (fun j => lt_ be (b.getD j 0)) false j) v w' := by
  have hMv := Mv.refl F w
  have hla : a.length = mm := by have := hA.1.1; rw [nats_length] at this; omega
  have hlb : b.length = mm := by have := hB.1.1; rw [nats_length] at this; omega
  have hAr := hA.1
  have hBr := hB.1
  have lt_hA := hA.lt
  have lt_hB := hB.lt
  have ge_hA : ∀ c, blkOf A = some c → 0 ≤ c := fun c _ => Nat.zero_le c
  have ge_hB : ∀ c, blkOf B = some c → 0 ≤ c := fun c _ => Nat.zero_le c
  have hff_a := hfa
  have hff_b := hfb
  have hpos := hG.2.pos
  refine enter Try.func39 rfl rfl ?_
  refine W_seq ?_
  refine W_region (by kernel_rfl) ?_
  refine sg [(6, .slice none 0 0)] (by kernel_rfl) ?_
  refine op_nil ?_
  refine W_seq ?_
  refine W_seq ?_
  refine W_region (by kernel_rfl) ?_
  refine sg [(9, .pointer (some ⟨p, 0, none⟩)), (10, .slice A mm ca), (11, .slice B mm cb)] (by kernel_rfl) ?_
  have hlt_ := hG.1.lt
  have hz5 := hMv.1.size
  refine st (by rfl) (S_new (v := .slice (some ⟨w.heap.size, 0, none⟩) 2 2) (ob := .cells #[.slice A mm ca, .slice B mm cb] 27) (by kernel_rfl) fun w1 hT2 hs3 hB4 => ?_)
  replace hB4 : Blk w1 (w.heap.size) 27 [.slice A mm ca, .slice B mm cb] := hB4
  have hG := hG.tch0 hT2
  have hMv := hMv.then0 hT2
  have hA := hA.tch0 hT2
  have hAr := hA.1
  have hB := hB.tch0 hT2
  have hBr := hB.1
  have nF_hB4 : ¬ F (w.heap.size) := fun e => by have := hlt_ _ e; omega
  refine st (by rfl) (S_call (args := [.pointer (some ⟨p, 0, none⟩), .slice (some ⟨w.heap.size, 0, none⟩) 2 2]) (by kernel_rfl) (fine_nats p (w.heap.size) mm ca cb A B _ _ _ hB4 hAr hBr (by omega)) ?_)
  rintro _ w6 ⟨rfl, hT7⟩
  have hG := hG.tch0 hT7
  have hMv := hMv.then0 hT7
  have hA := hA.tch0 hT7
  have hAr := hA.1
  have hB := hB.tch0 hT7
  have hBr := hB.1
  have hB4 := hB4.tch0 hT7
  refine sg [(14, .bool false)] (by kernel_rfl) ?_
  refine op_nil ?_
  refine W_cond false (by kernel_rfl) (by kernel_rfl) (fun h => nomatch h) (fun _ => ?_)
  refine W_skip ?_
  refine W_seq ?_
  refine W_region (by kernel_rfl) ?_
  refine sg [(16, .pointer (some ⟨p, 0, none⟩)), (17, .slice A mm ca), (18, .slice B mm cb), (19, .pointer (some ⟨p, 0, none⟩))] (by kernel_rfl) ?_
  refine st (by rfl) (S_call (args := [.pointer (some ⟨p, 0, none⟩)]) (by kernel_rfl) (true_ok p _) ?_)
  rintro _ w8 ⟨rfl, hT9⟩
  have hG := hG.tch0 hT9
  have hMv := hMv.then0 hT9
  have hA := hA.tch0 hT9
  have hAr := hA.1
  have hB := hB.tch0 hT9
  have hBr := hB.1
  have hB4 := hB4.tch0 hT9
  refine st (by rfl) (S_call (args := [.int .i64 0]) (by kernel_rfl) (not_ok 0 _ (by omega)) ?_)
  rintro _ w10 ⟨rfl, hT11⟩
  have hG := hG.tch0 hT11
  have hMv := hMv.then0 hT11
  have hA := hA.tch0 hT11
  have hAr := hA.1
  have hB := hB.tch0 hT11
  have hBr := hB.1
  have hB4 := hB4.tch0 hT11
  have hnt12 := GateP.nt_div 0
  have lt26 := hB4.lt
  have hzM := hMv.1.size
  have hpos_ := hG.2.pos
  refine st (by rfl) (S_call (args := [.pointer (some ⟨p, 0, none⟩), .slice A mm ca, .slice B mm cb, .int .i64 ((GateP.nt 0 : Nat) : Int)]) (by kernel_rfl) (sum_ok F p n mm ca cb A B a b (GateP.nt 0) cs I _ hG hA hB hff_a hff_b hm hm2 (by omega) (by omega)) ?_)
  rintro _ w13 ⟨F14, n15, cs16, g17, r18, y19, rfl, hrl20, hX21, hg22, hG, hm23, hrw24, hd25⟩
  have hMv := hMv.trans hm23
  have hA := hA.mv hm23
  have hAr := hA.1
  have hB := hB.mv hm23
  have hBr := hB.1
  have hB4 := hB4.tch hm23.1 nF_hB4
  have hle27 := hrw24.le
  replace nF_hB4 : ¬ F14 (w.heap.size) := fun e => (hm23.2 _ e).elim nF_hB4 (fun q => by omega)
  refine sg [(15, .tuple #[.slice (some ⟨g17, 0, none⟩) mm mm, .int .i64 ((y19 : Nat) : Int)]), (23, .slice (some ⟨g17, 0, none⟩) mm mm), (24, .int .i64 ((y19 : Nat) : Int)), (7, .slice (some ⟨g17, 0, none⟩) mm mm), (8, .int .i64 ((y19 : Nat) : Int))] (by kernel_rfl) ?_
  refine op_nil ?_
  refine W_seq ?_
  refine W_fg [(0, .pointer (some ⟨p, 0, none⟩)), (1, .slice A mm ca), (2, .slice B mm cb), (6, .slice none 0 0), (7, .slice (some ⟨g17, 0, none⟩) mm mm), (14, .bool false)] (by kernel_rfl) fun ρ => ?_
  refine W_region (by kernel_rfl) ?_
  refine sg [(25, .slice (some ⟨g17, 0, none⟩) mm mm), (6, .slice (some ⟨g17, 0, none⟩) mm mm)] (by kernel_rfl) ?_
  refine op_nil ?_
  refine W_ret ?_
  exact ⟨_, Res_of (v := .slice (some ⟨g17, 0, none⟩) mm mm) (by kernel_rfl), ⟨F14, n15, cs16, g17, r18, rfl, hrl20, hX21, by omega, hG, hMv, hrw24.eq (fun be hm j hj => by show sumB _ _ (lt_ be 1) j = _; rw [hG.2.t1 hm]), by omega⟩⟩

set_option maxRecDepth 100000 in
theorem rsub_ok (F : Nat → Prop) (p n mm ca cb : Nat) (A B : Option Addr) (a b : List Nat)  (cs : List (List Nat)) (I : Nat → Prop) (w : World) (hG : GObj F w p n cs I) (hA : RdX F w mm A (nats a)) (hB : RdX F w mm B (nats b)) (hfa : ∀ j, j < mm → a.getD j 0 / 2 < n) (hfb : ∀ j, j < mm → b.getD j 0 / 2 < n) (hm : 0 < mm) (hm2 : mm ≤ 1000) (hn : n ≤ 50000000000) : Ret Try.prog 40 [.pointer (some ⟨p, 0, none⟩), .slice A mm ca, .slice B mm cb] w fun v w' => RowR F p n cs I w mm (5 * mm) (fun be j => sumB (fun j => lt_ be (a.getD j 0)) (fun j => !lt_ be (b.getD j 0)) true j) v w' := by
  have hMv := Mv.refl F w
  have hla : a.length = mm := by have := hA.1.1; rw [nats_length] at this; omega
  have hlb : b.length = mm := by have := hB.1.1; rw [nats_length] at this; omega
  have hAr := hA.1
  have hBr := hB.1
  have lt_hA := hA.lt
  have lt_hB := hB.lt
  have ge_hA : ∀ c, blkOf A = some c → 0 ≤ c := fun c _ => Nat.zero_le c
  have ge_hB : ∀ c, blkOf B = some c → 0 ≤ c := fun c _ => Nat.zero_le c
  have hff_a := hfa
  have hff_b := hfb
  have hpos := hG.2.pos
  refine enter Try.func40 rfl rfl ?_
  refine W_seq ?_
  refine W_region (by kernel_rfl) ?_
  refine sg [(6, .slice none 0 0)] (by kernel_rfl) ?_
  refine op_nil ?_
  refine W_seq ?_
  refine W_seq ?_
  refine W_region (by kernel_rfl) ?_
  refine sg [(9, .pointer (some ⟨p, 0, none⟩)), (10, .slice A mm ca), (11, .slice B mm cb)] (by kernel_rfl) ?_
  have hlt_ := hG.1.lt
  have hz5 := hMv.1.size
  refine st (by rfl) (S_new (v := .slice (some ⟨w.heap.size, 0, none⟩) 2 2) (ob := .cells #[.slice A mm ca, .slice B mm cb] 27) (by kernel_rfl) fun w1 hT2 hs3 hB4 => ?_)
  replace hB4 : Blk w1 (w.heap.size) 27 [.slice A mm ca, .slice B mm cb] := hB4
  have hG := hG.tch0 hT2
  have hMv := hMv.then0 hT2
  have hA := hA.tch0 hT2
  have hAr := hA.1
  have hB := hB.tch0 hT2
  have hBr := hB.1
  have nF_hB4 : ¬ F (w.heap.size) := fun e => by have := hlt_ _ e; omega
  refine st (by rfl) (S_call (args := [.pointer (some ⟨p, 0, none⟩), .slice (some ⟨w.heap.size, 0, none⟩) 2 2]) (by kernel_rfl) (fine_nats p (w.heap.size) mm ca cb A B _ _ _ hB4 hAr hBr (by omega)) ?_)
  rintro _ w6 ⟨rfl, hT7⟩
  have hG := hG.tch0 hT7
  have hMv := hMv.then0 hT7
  have hA := hA.tch0 hT7
  have hAr := hA.1
  have hB := hB.tch0 hT7
  have hBr := hB.1
  have hB4 := hB4.tch0 hT7
  refine sg [(14, .bool false)] (by kernel_rfl) ?_
  refine op_nil ?_
  refine W_cond false (by kernel_rfl) (by kernel_rfl) (fun h => nomatch h) (fun _ => ?_)
  refine W_skip ?_
  refine W_seq ?_
  refine W_region (by kernel_rfl) ?_
  refine sg [(16, .pointer (some ⟨p, 0, none⟩)), (17, .slice A mm ca), (18, .slice B mm cb)] (by kernel_rfl) ?_
  have hltM := hG.1.lt
  refine st (by rfl) (S_call (args := [.slice B mm cb]) (by kernel_rfl) (nots_ok mm cb B b _ hB.1 hm2 (fun j hj => by have := hff_b j hj; omega)) ?_)
  rintro _ w8 ⟨g9, r10, rfl, hrl12, hBm13, hgm14, hmv15, hT11⟩
  have hG := hG.tch0 hT11
  have hMv := hMv.then0 hT11
  have hA := hA.tch0 hT11
  have hAr := hA.1
  have hB := hB.tch0 hT11
  have hBr := hB.1
  have hB4 := hB4.tch0 hT11
  have hX16 := RdX.ofP (m := mm) (F := F) hBm13 (by rw [nats_length]; exact hrl12) (by omega) (fun e => by have := hltM _ e; omega)
  have hff_r10 : ∀ j, j < mm → r10.getD j 0 / 2 < n := fun j hj => by rw [hmv15 j hj, nt_div]; exact hff_b j hj
  refine sg [(20, .pointer (some ⟨p, 0, none⟩))] (by kernel_rfl) ?_
  refine st (by rfl) (S_call (args := [.pointer (some ⟨p, 0, none⟩)]) (by kernel_rfl) (true_ok p _) ?_)
  rintro _ w17 ⟨rfl, hT18⟩
  have hG := hG.tch0 hT18
  have hMv := hMv.then0 hT18
  have hA := hA.tch0 hT18
  have hAr := hA.1
  have hB := hB.tch0 hT18
  have hBr := hB.1
  have hB4 := hB4.tch0 hT18
  have hX16 := hX16.tch0 hT18
  have lt32 := hB4.lt
  have hzM := hMv.1.size
  have hpos_ := hG.2.pos
  refine st (by rfl) (S_call (args := [.pointer (some ⟨p, 0, none⟩), .slice A mm ca, .slice (some ⟨g9, 0, none⟩) mm mm, .int .i64 0]) (by kernel_rfl) (sum_ok F p n mm ca mm A (some ⟨g9, 0, none⟩) a r10 0 cs I _ hG hA hX16 hff_a hff_r10 hm hm2 (by omega) (by omega)) ?_)
  rintro _ w19 ⟨F20, n21, cs22, g23, r24, y25, rfl, hrl26, hX27, hg28, hG, hm29, hrw30, hd31⟩
  have hMv := hMv.trans hm29
  have hA := hA.mv hm29
  have hAr := hA.1
  have hB := hB.mv hm29
  have hBr := hB.1
  have hB4 := hB4.tch hm29.1 nF_hB4
  have hX16 := hX16.mv hm29
  have hle33 := hrw30.le
  replace nF_hB4 : ¬ F20 (w.heap.size) := fun e => (hm29.2 _ e).elim nF_hB4 (fun q => by omega)
  refine sg [(15, .tuple #[.slice (some ⟨g23, 0, none⟩) mm mm, .int .i64 ((y25 : Nat) : Int)]), (23, .slice (some ⟨g23, 0, none⟩) mm mm), (24, .int .i64 ((y25 : Nat) : Int)), (7, .slice (some ⟨g23, 0, none⟩) mm mm), (8, .int .i64 ((y25 : Nat) : Int))] (by kernel_rfl) ?_
  refine op_nil ?_
  refine W_seq ?_
  refine W_fg [(0, .pointer (some ⟨p, 0, none⟩)), (1, .slice A mm ca), (2, .slice B mm cb), (6, .slice none 0 0), (7, .slice (some ⟨g23, 0, none⟩) mm mm), (14, .bool false)] (by kernel_rfl) fun ρ => ?_
  refine W_region (by kernel_rfl) ?_
  refine sg [(25, .slice (some ⟨g23, 0, none⟩) mm mm), (6, .slice (some ⟨g23, 0, none⟩) mm mm)] (by kernel_rfl) ?_
  refine op_nil ?_
  refine W_ret ?_
  exact ⟨_, Res_of (v := .slice (some ⟨g23, 0, none⟩) mm mm) (by kernel_rfl), ⟨F20, n21, cs22, g23, r24, rfl, hrl26, hX27, by omega, hG, hMv, hrw30.eq (fun be hm j hj => by show sumB _ (fun j => lt_ be (r10.getD j 0)) (lt_ be 0) j = _; rw [hG.2.t0 hm]; exact sumB_congr (fun _ _ => rfl) (fun i hi => by show lt_ be (r10.getD i 0) = _; rw [hmv15 i (by omega), lt_nt])), by omega⟩⟩

set_option maxRecDepth 100000 in
theorem radd_bad (p ma mb ca cb : Nat) (A B : Option Addr) (a b : List Int) (w : World) (hA : RdW w 1 ma A (ints .i64 a)) (hB : RdW w 1 mb B (ints .i64 b)) (hb : BadR ma a mb b) : Ret Try.prog 39 [.pointer (some ⟨p, 0, none⟩), .slice A ma ca, .slice B mb cb] w fun v w' => v = .slice none 0 0 ∧ Tch N0 w w' := by
  refine enter Try.func39 rfl rfl ?_
  refine W_seq ?_
  refine W_region (by kernel_rfl) ?_
  refine sg [(6, .slice none 0 0)] (by kernel_rfl) ?_
  refine op_nil ?_
  refine W_seq ?_
  refine W_seq ?_
  refine W_region (by kernel_rfl) ?_
  refine sg [(9, .pointer (some ⟨p, 0, none⟩)), (10, .slice A ma ca), (11, .slice B mb cb)] (by kernel_rfl) ?_
  refine st (by rfl) (S_new (v := .slice (some ⟨w.heap.size, 0, none⟩) 2 2) (ob := .cells #[.slice A ma ca, .slice B mb cb] 27) (by kernel_rfl) fun w1 hT2 hs3 hB4 => ?_)
  replace hB4 : Blk w1 (w.heap.size) 27 [.slice A ma ca, .slice B mb cb] := hB4
  have hT0 := hT2
  refine st (by rfl) (S_call (args := [.pointer (some ⟨p, 0, none⟩), .slice (some ⟨w.heap.size, 0, none⟩) 2 2]) (by kernel_rfl) (fine_bad p (w.heap.size) ma mb ca cb A B a b _ hB4 (hA.tch0 hT0) (hB.tch0 hT0) hb) ?_)
  rintro _ w5 ⟨rfl, hT6⟩
  have hT0 := hT0.t0 hT6
  have hB4 := hB4.tch0 hT6
  refine sg [(14, .bool true)] (by kernel_rfl) ?_
  refine op_nil ?_
  refine W_cond true (by kernel_rfl) (by kernel_rfl) (fun _ => ?_) (fun h => nomatch h)
  refine W_seq ?_
  refine W_region (by kernel_rfl) ?_
  refine sg [(6, .slice none 0 0)] (by kernel_rfl) ?_
  refine op_nil ?_
  refine W_ret ?_
  exact ⟨_, Res_of (v := .slice none 0 0) (by kernel_rfl), ⟨rfl, hT0⟩⟩

set_option maxRecDepth 100000 in
theorem rsub_bad (p ma mb ca cb : Nat) (A B : Option Addr) (a b : List Int) (w : World) (hA : RdW w 1 ma A (ints .i64 a)) (hB : RdW w 1 mb B (ints .i64 b)) (hb : BadR ma a mb b) : Ret Try.prog 40 [.pointer (some ⟨p, 0, none⟩), .slice A ma ca, .slice B mb cb] w fun v w' => v = .slice none 0 0 ∧ Tch N0 w w' := by
  refine enter Try.func40 rfl rfl ?_
  refine W_seq ?_
  refine W_region (by kernel_rfl) ?_
  refine sg [(6, .slice none 0 0)] (by kernel_rfl) ?_
  refine op_nil ?_
  refine W_seq ?_
  refine W_seq ?_
  refine W_region (by kernel_rfl) ?_
  refine sg [(9, .pointer (some ⟨p, 0, none⟩)), (10, .slice A ma ca), (11, .slice B mb cb)] (by kernel_rfl) ?_
  refine st (by rfl) (S_new (v := .slice (some ⟨w.heap.size, 0, none⟩) 2 2) (ob := .cells #[.slice A ma ca, .slice B mb cb] 27) (by kernel_rfl) fun w1 hT2 hs3 hB4 => ?_)
  replace hB4 : Blk w1 (w.heap.size) 27 [.slice A ma ca, .slice B mb cb] := hB4
  have hT0 := hT2
  refine st (by rfl) (S_call (args := [.pointer (some ⟨p, 0, none⟩), .slice (some ⟨w.heap.size, 0, none⟩) 2 2]) (by kernel_rfl) (fine_bad p (w.heap.size) ma mb ca cb A B a b _ hB4 (hA.tch0 hT0) (hB.tch0 hT0) hb) ?_)
  rintro _ w5 ⟨rfl, hT6⟩
  have hT0 := hT0.t0 hT6
  have hB4 := hB4.tch0 hT6
  refine sg [(14, .bool true)] (by kernel_rfl) ?_
  refine op_nil ?_
  refine W_cond true (by kernel_rfl) (by kernel_rfl) (fun _ => ?_) (fun h => nomatch h)
  refine W_seq ?_
  refine W_region (by kernel_rfl) ?_
  refine sg [(6, .slice none 0 0)] (by kernel_rfl) ?_
  refine op_nil ?_
  refine W_ret ?_
  exact ⟨_, Res_of (v := .slice none 0 0) (by kernel_rfl), ⟨rfl, hT0⟩⟩

set_option maxRecDepth 100000 in
theorem eq_bad (p ma mb ca cb : Nat) (A B : Option Addr) (a b : List Int) (w : World) (hA : RdW w 1 ma A (ints .i64 a)) (hB : RdW w 1 mb B (ints .i64 b)) (hb : BadR ma a mb b) : Ret Try.prog 42 [.pointer (some ⟨p, 0, none⟩), .slice A ma ca, .slice B mb cb] w fun v w' => v = .int .i64 (-1) ∧ Tch N0 w w' := by
  refine enter Try.func42 rfl rfl ?_
  refine W_seq ?_
  refine W_region (by kernel_rfl) ?_
  refine sg [(6, .int .i64 0)] (by kernel_rfl) ?_
  refine op_nil ?_
  refine W_seq ?_
  refine W_seq ?_
  refine W_region (by kernel_rfl) ?_
  refine sg [(9, .pointer (some ⟨p, 0, none⟩)), (10, .slice A ma ca), (11, .slice B mb cb)] (by kernel_rfl) ?_
  refine st (by rfl) (S_new (v := .slice (some ⟨w.heap.size, 0, none⟩) 2 2) (ob := .cells #[.slice A ma ca, .slice B mb cb] 27) (by kernel_rfl) fun w1 hT2 hs3 hB4 => ?_)
  replace hB4 : Blk w1 (w.heap.size) 27 [.slice A ma ca, .slice B mb cb] := hB4
  have hT0 := hT2
  refine st (by rfl) (S_call (args := [.pointer (some ⟨p, 0, none⟩), .slice (some ⟨w.heap.size, 0, none⟩) 2 2]) (by kernel_rfl) (fine_bad p (w.heap.size) ma mb ca cb A B a b _ hB4 (hA.tch0 hT0) (hB.tch0 hT0) hb) ?_)
  rintro _ w5 ⟨rfl, hT6⟩
  have hT0 := hT0.t0 hT6
  have hB4 := hB4.tch0 hT6
  refine sg [(14, .bool true)] (by kernel_rfl) ?_
  refine op_nil ?_
  refine W_cond true (by kernel_rfl) (by kernel_rfl) (fun _ => ?_) (fun h => nomatch h)
  refine W_seq ?_
  refine W_region (by kernel_rfl) ?_
  refine sg [(6, .int .i64 (-1))] (by kernel_rfl) ?_
  refine op_nil ?_
  refine W_ret ?_
  exact ⟨_, Res_of (v := .int .i64 (-1)) (by kernel_rfl), ⟨rfl, hT0⟩⟩

set_option maxRecDepth 100000 in
theorem less_bad (p ma mb ca cb : Nat) (A B : Option Addr) (a b : List Int) (w : World) (hA : RdW w 1 ma A (ints .i64 a)) (hB : RdW w 1 mb B (ints .i64 b)) (hb : BadR ma a mb b) : Ret Try.prog 43 [.pointer (some ⟨p, 0, none⟩), .slice A ma ca, .slice B mb cb] w fun v w' => v = .int .i64 (-1) ∧ Tch N0 w w' := by
  refine enter Try.func43 rfl rfl ?_
  refine W_seq ?_
  refine W_region (by kernel_rfl) ?_
  refine sg [(6, .int .i64 0)] (by kernel_rfl) ?_
  refine op_nil ?_
  refine W_seq ?_
  refine W_seq ?_
  refine W_region (by kernel_rfl) ?_
  refine sg [(9, .pointer (some ⟨p, 0, none⟩)), (10, .slice A ma ca), (11, .slice B mb cb)] (by kernel_rfl) ?_
  refine st (by rfl) (S_new (v := .slice (some ⟨w.heap.size, 0, none⟩) 2 2) (ob := .cells #[.slice A ma ca, .slice B mb cb] 27) (by kernel_rfl) fun w1 hT2 hs3 hB4 => ?_)
  replace hB4 : Blk w1 (w.heap.size) 27 [.slice A ma ca, .slice B mb cb] := hB4
  have hT0 := hT2
  refine st (by rfl) (S_call (args := [.pointer (some ⟨p, 0, none⟩), .slice (some ⟨w.heap.size, 0, none⟩) 2 2]) (by kernel_rfl) (fine_bad p (w.heap.size) ma mb ca cb A B a b _ hB4 (hA.tch0 hT0) (hB.tch0 hT0) hb) ?_)
  rintro _ w5 ⟨rfl, hT6⟩
  have hT0 := hT0.t0 hT6
  have hB4 := hB4.tch0 hT6
  refine sg [(14, .bool true)] (by kernel_rfl) ?_
  refine op_nil ?_
  refine W_cond true (by kernel_rfl) (by kernel_rfl) (fun _ => ?_) (fun h => nomatch h)
  refine W_seq ?_
  refine W_region (by kernel_rfl) ?_
  refine sg [(6, .int .i64 (-1))] (by kernel_rfl) ?_
  refine op_nil ?_
  refine W_ret ?_
  exact ⟨_, Res_of (v := .int .i64 (-1)) (by kernel_rfl), ⟨rfl, hT0⟩⟩

set_option maxRecDepth 100000 in
theorem sless_bad (p ma mb ca cb : Nat) (A B : Option Addr) (a b : List Int) (w : World) (hA : RdW w 1 ma A (ints .i64 a)) (hB : RdW w 1 mb B (ints .i64 b)) (hb : BadR ma a mb b) : Ret Try.prog 44 [.pointer (some ⟨p, 0, none⟩), .slice A ma ca, .slice B mb cb] w fun v w' => v = .int .i64 (-1) ∧ Tch N0 w w' := by
  refine enter Try.func44 rfl rfl ?_
  refine W_seq ?_
  refine W_region (by kernel_rfl) ?_
  refine sg [(6, .int .i64 0)] (by kernel_rfl) ?_
  refine op_nil ?_
  refine W_seq ?_
  refine W_seq ?_
  refine W_region (by kernel_rfl) ?_
  refine sg [(10, .pointer (some ⟨p, 0, none⟩)), (11, .slice A ma ca), (12, .slice B mb cb)] (by kernel_rfl) ?_
  refine st (by rfl) (S_new (v := .slice (some ⟨w.heap.size, 0, none⟩) 2 2) (ob := .cells #[.slice A ma ca, .slice B mb cb] 27) (by kernel_rfl) fun w1 hT2 hs3 hB4 => ?_)
  replace hB4 : Blk w1 (w.heap.size) 27 [.slice A ma ca, .slice B mb cb] := hB4
  have hT0 := hT2
  refine st (by rfl) (S_call (args := [.pointer (some ⟨p, 0, none⟩), .slice (some ⟨w.heap.size, 0, none⟩) 2 2]) (by kernel_rfl) (fine_bad p (w.heap.size) ma mb ca cb A B a b _ hB4 (hA.tch0 hT0) (hB.tch0 hT0) hb) ?_)
  rintro _ w5 ⟨rfl, hT6⟩
  have hT0 := hT0.t0 hT6
  have hB4 := hB4.tch0 hT6
  refine sg [(15, .bool true)] (by kernel_rfl) ?_
  refine op_nil ?_
  refine W_cond true (by kernel_rfl) (by kernel_rfl) (fun _ => ?_) (fun h => nomatch h)
  refine W_seq ?_
  refine W_region (by kernel_rfl) ?_
  refine sg [(6, .int .i64 (-1))] (by kernel_rfl) ?_
  refine op_nil ?_
  refine W_ret ?_
  exact ⟨_, Res_of (v := .int .i64 (-1)) (by kernel_rfl), ⟨rfl, hT0⟩⟩

set_option maxRecDepth 100000 in
theorem radd_nil (ma mb ca cb : Nat) (A B : Option Addr) (w : World) : Ret Try.prog 39 [.pointer none, .slice A ma ca, .slice B mb cb] w fun v w' => v = .slice none 0 0 ∧ Tch N0 w w' := by
  refine enter Try.func39 rfl rfl ?_
  refine W_seq ?_
  refine W_region (by kernel_rfl) ?_
  refine sg [(6, .slice none 0 0)] (by kernel_rfl) ?_
  refine op_nil ?_
  refine W_seq ?_
  refine W_seq ?_
  refine W_region (by kernel_rfl) ?_
  refine sg [(9, .pointer none), (10, .slice A ma ca), (11, .slice B mb cb)] (by kernel_rfl) ?_
  refine st (by rfl) (S_new (v := .slice (some ⟨w.heap.size, 0, none⟩) 2 2) (ob := .cells #[.slice A ma ca, .slice B mb cb] 27) (by kernel_rfl) fun w1 hT2 hs3 hB4 => ?_)
  replace hB4 : Blk w1 (w.heap.size) 27 [.slice A ma ca, .slice B mb cb] := hB4
  have hT0 := hT2
  refine st (by rfl) (S_call (args := [.pointer none, .slice (some ⟨w.heap.size, 0, none⟩) 2 2]) (by kernel_rfl) (fine_nil 2 2 (w.heap.size) _) ?_)
  rintro _ w5 ⟨rfl, hT6⟩
  have hT0 := hT0.t0 hT6
  have hB4 := hB4.tch0 hT6
  refine sg [(14, .bool true)] (by kernel_rfl) ?_
  refine op_nil ?_
  refine W_cond true (by kernel_rfl) (by kernel_rfl) (fun _ => ?_) (fun h => nomatch h)
  refine W_seq ?_
  refine W_region (by kernel_rfl) ?_
  refine sg [(6, .slice none 0 0)] (by kernel_rfl) ?_
  refine op_nil ?_
  refine W_ret ?_
  exact ⟨_, Res_of (v := .slice none 0 0) (by kernel_rfl), ⟨rfl, hT0⟩⟩

end Go.Proofs.YtnlecdpiccgdpaaV

set_option linter.unusedVariables false
set_option linter.unusedSimpArgs false
namespace Go.Proofs.YtnlecdpiccgdpaaV
open Go Go.RowKit Go.Proofs

theorem mz2_nats (k : Nat) : (madeCells #[Value.int .i64 0] ((2 * k) * 1)).toList = nats (List.replicate k 0) ++ nats (List.replicate k 0) := by
  rw [mz_nats, List.append_nil, ← nats_append, List.replicate_append_replicate, Nat.two_mul]

set_option maxRecDepth 100000 in
theorem zeros_ok (p mm : Nat) (w : World) (hm2 : mm ≤ 1001) : Ret Try.prog 69 [.pointer (some ⟨p, 0, none⟩), .int .i64 ((mm : Nat) : Int)] w fun v w' => ∃ g o sp, v = .slice (some ⟨g, 0, none⟩) mm (2 * mm) ∧ o.length = mm ∧ Blk w' g 3 (nats o ++ sp) ∧ w.heap.size ≤ g ∧ (∀ j, j < mm → o.getD j 0 = GateP.nt 0) ∧ Tch N0 w w' := by
  refine enter Try.func69 rfl rfl ?_
  refine W_seq ?_
  refine W_region (by kernel_rfl) ?_
  refine sg [(4, .slice none 0 0)] (by kernel_rfl) ?_
  refine op_nil ?_
  refine W_seq ?_
  refine W_region (by kernel_rfl) ?_
  refine sg [(7, .int .i64 ((mm : Nat) : Int)), (8, .int .i64 ((mm : Nat) : Int)), (9, .int .i64 (IntKind.i64.wrap (2 * ((mm : Nat) : Int))))] (by kernel_rfl) ?_
  rw [show IntKind.i64.wrap (2 * ((mm : Nat) : Int)) = 2 * ((mm : Nat) : Int) from wrap_i64 (by omega) (by omega)]
  refine fixR (y := ((2 * mm : Nat) : Int)) (by omega) ?_
  refine st (by rfl) (S_make 27 3 (.int .i64 0) 1 8 (k1 := .i64) (k2 := .i64) (l := ((mm : Nat) : Int)) (c := ((2 * mm : Nat) : Int)) (by kernel_rfl) (by kernel_rfl) (by kernel_rfl) (by kernel_rfl) (by omega) (by omega) (by omega) (by omega) fun w1 hT2 hs3 hB4 => ?_)
  replace hB4 : Blk w1 (w.heap.size) 3 (nats (List.replicate (mm) 0) ++ nats (List.replicate (mm) 0)) := by rw [← mz2_nats]; exact hB4
  have hT0 := hT2
  refine sg [(5, .slice (some ⟨w.heap.size, 0, none⟩) mm (2 * mm))] (by kernel_rfl) ?_
  refine op_nil ?_
  refine W_seq ?_
  refine W_seq ?_
  refine W_region (by kernel_rfl) ?_
  refine sg [(11, .slice (some ⟨w.heap.size, 0, none⟩) mm (2 * mm)), (12, .int .i64 (mm : Int)), (13, .int .i64 0)] (by kernel_rfl) ?_
  refine op_nil ?_
  refine W_block ?_
  refine W_loop (fun m ρ w' => ∃ (o : List Nat) (i : Nat) (ρ0 : Env), ρ = updL ρ0 [(0, .pointer (some ⟨p, 0, none⟩)), (4, .slice none 0 0), (5, .slice (some ⟨w.heap.size, 0, none⟩) mm (2 * mm)), (12, .int .i64 (mm : Int)), (13, .int .i64 ((i : Nat) : Int))] ∧ (i ≤ mm) ∧ (o.length = mm) ∧ (∀ j, j < i → o.getD j 0 = GateP.nt 0) ∧ Tch N0 w w' ∧ Blk w' (w.heap.size) 3 (nats o ++ (nats (List.replicate mm 0))) ∧ m = mm - i) (m := mm - 0) ?_ ?_
  · refine ⟨List.replicate mm 0, 0, _, updL_self (by kernel_rfl), by omega, by simp, (fun j h => by omega), hT0, hB4, rfl⟩
  · rintro m ρ w5 ⟨o, i, ρ, rfl, hi, hol, hmv, hT0, hOut, rfl⟩
    refine W_seq ?_
    refine W_region (by kernel_rfl) ?_
    refine sg [(14, .bool (decide (((i : Nat) : Int) < (mm : Int))))] (by kernel_rfl) ?_
    refine op_nil ?_
    refine W_seq ?_
    refine W_cond (decide (((i : Nat) : Int) < (mm : Int))) (by kernel_rfl) (by kernel_rfl) (fun hc6 => ?_) (fun hc6 => ?_)
    · replace hc6 : ((i : Nat) : Int) < (mm : Int) := (of_decide_eq_true hc6)
      refine W_skip ?_
      refine W_seq ?_
      refine W_block ?_
      refine W_seq ?_
      refine W_region (by kernel_rfl) ?_
      refine sg [(15, .int .i64 ((i : Nat) : Int)), (6, .int .i64 ((i : Nat) : Int))] (by kernel_rfl) ?_
      refine op_nil ?_
      refine W_region (by kernel_rfl) ?_
      refine sg [(16, .slice (some ⟨w.heap.size, 0, none⟩) mm (2 * mm)), (17, .int .i64 ((i : Nat) : Int)), (18, .pointer (some ⟨p, 0, none⟩))] (by kernel_rfl) ?_
      refine st (by rfl) (S_call (args := [.pointer (some ⟨p, 0, none⟩)]) (by kernel_rfl) (true_ok p _) ?_)
      rintro _ w7 ⟨rfl, hT8⟩
      have hT0 := hT0.t0 hT8
      have hOut := hOut.tch0 hT8
      refine st (by rfl) (S_call (args := [.int .i64 0]) (by kernel_rfl) (not_ok 0 _ (by omega)) ?_)
      rintro _ w9 ⟨rfl, hT10⟩
      have hT0 := hT0.t0 hT10
      have hOut := hOut.tch0 hT10
      have hnt11 := GateP.nt_div 0
      refine stv (v := .pointer (some ⟨w.heap.size, i, none⟩)) (by rfl) (R_index0 (b := w.heap.size) (len := mm) (cap := 2 * mm) (k := .i64) (i := ((i : Nat) : Int)) (e := 3) i (by kernel_rfl) (by kernel_rfl) (by kernel_rfl) (by kernel_rfl) rfl (by first | omega | (simp only [List.length_set, List.length_map]; omega))) ?_
      refine st (by rfl) (S_store (b := w.heap.size) (j := i) (v := .int .i64 ((GateP.nt 0 : Nat) : Int)) (by kernel_rfl) (by kernel_rfl) (by kernel_rfl) (by rfl) hOut (by rw [List.length_append, nats_length]; (first | omega | (simp only [List.length_set, List.length_map]; omega))) fun w12 hT13 hs14 hOut' => ?_)
      have hT0 := (hT0).then hT13 (fun c e => by have : c = w.heap.size := e; omega)
      replace hOut : Blk w12 (w.heap.size) 3 (nats (o.set i (GateP.nt 0)) ++ (nats (List.replicate mm 0))) := (nats_setP (l := o) (sp := (nats (List.replicate mm 0))) (i := i) (GateP.nt 0) (by first | omega | (simp only [List.length_set, List.length_map]; omega))) ▸ hOut'
      refine op_nil ?_
      refine W_fg [(0, .pointer (some ⟨p, 0, none⟩)), (4, .slice none 0 0), (5, .slice (some ⟨w.heap.size, 0, none⟩) mm (2 * mm)), (6, .int .i64 ((i : Nat) : Int)), (12, .int .i64 (mm : Int)), (13, .int .i64 ((i : Nat) : Int)), (14, .bool (decide (((i : Nat) : Int) < (mm : Int))))] (by kernel_rfl) fun ρ => ?_
      refine W_region (by kernel_rfl) ?_
      refine sg [(22, .int .i64 (IntKind.i64.wrap (((i : Nat) : Int) + 1)))] (by kernel_rfl) ?_
      rw [show IntKind.i64.wrap (((i : Nat) : Int) + 1) = ((i : Nat) : Int) + 1 from wrap_i64 (by omega) (by omega)]
      refine fixR (y := ((i + 1 : Nat) : Int)) (by omega) ?_
      refine sg [(13, .int .i64 ((i + 1 : Nat) : Int))] (by kernel_rfl) ?_
      refine op_nil ?_
      refine ⟨_, ?_, o.set i (GateP.nt 0), i + 1, _, updL_self (by kernel_rfl), ?_, by rw [List.length_set]; exact hol, mv_put (f := fun _ => GateP.nt 0) (by omega) hmv rfl, hT0, hOut, rfl⟩
      · omega
      · omega
    · replace hc6 : (mm : Int) ≤ ((i : Nat) : Int) := (Int.not_lt.1 (of_decide_eq_false hc6))
      refine W_exit ?_
      refine X_hit ?_
      refine W_seq ?_
      refine W_region (by kernel_rfl) ?_
      refine sg [(23, .slice (some ⟨w.heap.size, 0, none⟩) mm (2 * mm)), (4, .slice (some ⟨w.heap.size, 0, none⟩) mm (2 * mm))] (by kernel_rfl) ?_
      refine op_nil ?_
      refine W_ret ?_
      exact ⟨_, Res_of (v := .slice (some ⟨w.heap.size, 0, none⟩) mm (2 * mm)) (by kernel_rfl), ⟨_, o, _, rfl, hol, hOut, by omega, fun j h => hmv j (by omega), hT0⟩⟩

end Go.Proofs.YtnlecdpiccgdpaaV

set_option linter.unusedVariables false
set_option linter.unusedSimpArgs false
namespace Go.Proofs.YtnlecdpiccgdpaaV
open Go Go.RowKit Go.Proofs

/-- What comes of a call that makes a row, with room behind it maybe. -/
def RowC (F : Nat → Prop) (p n : Nat) (cs : List (List Nat)) (I : Nat → Prop) (w : World) (m d : Nat) (f : (Nat → Bool) → Nat → Bool) (v : Value) (w' : World) : Prop :=
  ∃ F' n' cs' A cp r, v = .slice A m cp ∧ r.length = m ∧ RdX F' w' m A (nats r) ∧ (∀ c, blkOf A = some c → w.heap.size ≤ c) ∧ GObj F' w' p n' cs' I ∧ Mv F F' w w' ∧ Rw n cs n' cs' m r f ∧ n' ≤ n + d

set_option maxRecDepth 100000 in
theorem mul_ok (F : Nat → Prop) (p n mm ca cb : Nat) (A B : Option Addr) (a b : List Nat)  (cs : List (List Nat)) (I : Nat → Prop) (w : World) (hG : GObj F w p n cs I) (hA : RdX F w mm A (nats a)) (hB : RdX F w mm B (nats b)) (hfa : ∀ j, j < mm → a.getD j 0 / 2 < n) (hfb : ∀ j, j < mm → b.getD j 0 / 2 < n) (hm : 0 < mm) (hm2 : mm ≤ 1000) (hn : n ≤ 40000000000) : Ret Try.prog 36 [.pointer (some ⟨p, 0, none⟩), .slice A mm ca, .slice B mm cb] w fun v w' => RowC F p n cs I w mm 6001000 (fun be j => mulF (fun j => lt_ be (a.getD j 0)) (fun j => lt_ be (b.getD j 0)) mm mm j) v w' := by
  have hMv := Mv.refl F w
  have hla : a.length = mm := by have := hA.1.1; rw [nats_length] at this; omega
  have hlb : b.length = mm := by have := hB.1.1; rw [nats_length] at this; omega
  have hAr := hA.1
  have hBr := hB.1
  have lt_hA := hA.lt
  have lt_hB := hB.lt
  have ge_hA : ∀ c, blkOf A = some c → 0 ≤ c := fun c _ => Nat.zero_le c
  have ge_hB : ∀ c, blkOf B = some c → 0 ≤ c := fun c _ => Nat.zero_le c
  have hff_a := hfa
  have hff_b := hfb
  have hpos := hG.2.pos
  refine enter Try.func36 rfl rfl ?_
  refine W_seq ?_
  refine W_region (by kernel_rfl) ?_
  refine sg [(6, .slice none 0 0)] (by kernel_rfl) ?_
  refine op_nil ?_
  refine W_seq ?_
  refine W_seq ?_
  refine W_region (by kernel_rfl) ?_
  refine sg [(13, .pointer (some ⟨p, 0, none⟩)), (14, .slice A mm ca), (15, .slice B mm cb)] (by kernel_rfl) ?_
  refine st (by rfl) (S_call (args := [.pointer (some ⟨p, 0, none⟩), .int .i64 0, .slice A mm ca, .slice B mm cb]) (by kernel_rfl) (itr_ok F p n mm ca cb A B a b 0 cs I _ hG hA hB hfa hfb hm (by omega) (by omega) (by have := hG.2.pos; omega)) ?_)
  rintro _ w1 ⟨F2, n3, cs4, g5, r6, rfl, hrl7, hX8, hg9, hG, hm10, hrw11, hd12⟩
  have hMv := hMv.trans hm10
  have hA := hA.mv hm10
  have hAr := hA.1
  have hB := hB.mv hm10
  have hBr := hB.1
  have hle13 := hrw11.le
  refine sg [(17, .int .i64 (mm : Int)), (18, .bool ((mm : Int) == 0))] (by kernel_rfl) ?_
  refine op_nil ?_
  refine W_cond ((mm : Int) == 0) (by kernel_rfl) (by kernel_rfl) (fun hc14 => ?_) (fun hc14 => ?_)
  · replace hc14 : (mm : Int) = 0 := (eq_of_beq hc14)
    exfalso; omega
  · replace hc14 : (mm : Int) ≠ 0 := (ne_of_beq_false hc14)
    refine W_skip ?_
    refine W_seq ?_
    refine W_region (by kernel_rfl) ?_
    refine sg [(19, .pointer (some ⟨p, 0, none⟩)), (20, .slice A mm ca), (21, .int .i64 (mm : Int))] (by kernel_rfl) ?_
    have hltM := hG.1.lt
    have hzM := hMv.1.size
    refine st (by rfl) (S_call (args := [.pointer (some ⟨p, 0, none⟩), .int .i64 (mm : Int)]) (by kernel_rfl) (zeros_ok p ((mm : Int).toNat) _ (by omega)) ?_)
    rintro _ w15 ⟨g16, r17, sp18, rfl, hrl19, hBq20, hg21, hcv22, hT23⟩
    have hG := hG.tch0 hT23
    have hMv := hMv.then0 hT23
    have hA := hA.tch0 hT23
    have hAr := hA.1
    have hB := hB.tch0 hT23
    have hBr := hB.1
    have hX24 := RdX.ofP (m := (mm : Int).toNat) (F := F2) hBq20 (by rw [nats_length]; exact hrl19) (by omega) (fun e => by have := hltM _ e; omega)
    have lt_hX24 := hX24.lt
    have ge_hX24 : ∀ c, blkOf (some ⟨g16, 0, none⟩) = some c → 0 ≤ c := fun c _ => Nat.zero_le c
    refine sg [(7, .slice (some ⟨g16, 0, none⟩) ((mm : Int).toNat) (2 * ((mm : Int).toNat)))] (by kernel_rfl) ?_
    refine op_nil ?_
    refine W_seq ?_
    refine W_seq ?_
    refine W_fg [(0, .pointer (some ⟨p, 0, none⟩)), (1, .slice A mm ca), (2, .slice B mm cb), (6, .slice none 0 0), (7, .slice (some ⟨g16, 0, none⟩) ((mm : Int).toNat) (2 * ((mm : Int).toNat))), (18, .bool ((mm : Int) == 0))] (by kernel_rfl) fun ρ => ?_
    refine W_region (by kernel_rfl) ?_
    refine sg [(23, .slice B mm cb), (24, .int .i64 (mm : Int)), (25, .int .i64 0)] (by kernel_rfl) ?_
    refine op_nil ?_
    refine W_block ?_
    refine W_loop (fun m ρ w' => ∃ (F1 : Nat → Prop) (n1 : Nat) (cs1 : List (List Nat)) (Ao : Option Addr) (cao : Nat) (o : List Nat) (i : Nat) (ρ0 : Env), ρ = updL ρ0 [(0, .pointer (some ⟨p, 0, none⟩)), (1, .slice A mm ca), (2, .slice B mm cb), (6, .slice none 0 0), (7, .slice Ao mm cao), (23, .slice B mm cb), (24, .int .i64 (mm : Int)), (25, .int .i64 ((i : Nat) : Int))] ∧ (i ≤ mm) ∧ (o.length = mm) ∧ (Rw n cs n1 cs1 mm o (fun be j => mulF (fun j => lt_ be (a.getD j 0)) (fun j => lt_ be (b.getD j 0)) mm i j)) ∧ (n1 ≤ n + 1000 + 6000 * i) ∧ (mm ≤ cao) ∧ (∀ c, blkOf Ao = some c → w.heap.size ≤ c) ∧ GObj F1 w' p n1 cs1 I ∧ Mv F F1 w w' ∧ RdX F1 w' mm A (nats a) ∧ RdW w' 1 mm A (nats a) ∧ RdX F1 w' mm B (nats b) ∧ RdW w' 1 mm B (nats b) ∧ RdX F1 w' mm Ao (nats o) ∧ RdW w' 1 mm Ao (nats o) ∧ m = mm - i) (m := mm - 0) ?_ ?_
    · refine ⟨F2, n3, cs4, some ⟨g16, 0, none⟩, 2 * mm, r17, 0, _, updL_self (by kernel_rfl), by omega, hrl19, ⟨hrw11.le, hrw11.sub, fun j hj => by rw [hcv22 j hj]; have := hG.2.pos; show (1 : Nat) / 2 < _; omega, fun be hm j hj => by rw [hcv22 j hj, mulF_zero]; exact hG.2.t1 hm⟩, by omega, by omega, (fun c hc => by have e : g16 = c := (by injection hc); omega), hG, hMv, hA, hAr, hB, hBr, hX24, hX24.1, rfl⟩
    · rintro m ρ w25 ⟨F1, n1, cs1, Ao, cao, o, i, ρ, rfl, hi, hol, hrw, hd, hca, hgo, hG, hMv, hA, hAr, hB, hBr, hO, hOr, rfl⟩
      have hle_ := hrw.le
      have fa := fun (q : Nat) (h : q < mm) => hfa q h
      have fb := fun q : i < mm => hfb i q
      have hpos := hG.2.pos
      have lt_hO := hO.lt
      have ge_hO : ∀ c, blkOf Ao = some c → 0 ≤ c := fun c _ => Nat.zero_le c
      refine W_seq ?_
      refine W_region (by kernel_rfl) ?_
      refine sg [(26, .bool (decide (((i : Nat) : Int) < (mm : Int))))] (by kernel_rfl) ?_
      refine op_nil ?_
      refine W_seq ?_
      refine W_cond (decide (((i : Nat) : Int) < (mm : Int))) (by kernel_rfl) (by kernel_rfl) (fun hc26 => ?_) (fun hc26 => ?_)
      · replace hc26 : ((i : Nat) : Int) < (mm : Int) := (of_decide_eq_true hc26)
        refine W_skip ?_
        refine W_seq ?_
        refine W_block ?_
        refine W_seq ?_
        refine W_region (by kernel_rfl) ?_
        refine sg [(27, .int .i64 ((i : Nat) : Int))] (by kernel_rfl) ?_
        refine stv (v := ptrAt B i) (by rfl) (R_indexRd1 (len := mm) (cap := cb) (k := .i64) (i := ((i : Nat) : Int)) (e := 3) i hBr (by kernel_rfl) (by kernel_rfl) (by kernel_rfl) (by kernel_rfl) rfl (by omega)) ?_
        refine stv (v := .int .i64 ((b.getD i 0 : Nat) : Int)) (by rfl) (R_loadRd (v := .int .i64 ((b.getD i 0 : Nat) : Int)) hBr (by omega) (by kernel_rfl) (by kernel_rfl) (nats_at (l := b) (by omega))) ?_
        refine sg [(8, .int .i64 ((i : Nat) : Int)), (9, .int .i64 ((b.getD i 0 : Nat) : Int))] (by kernel_rfl) ?_
        refine op_nil ?_
        refine W_seq ?_
        have hH := hO.dropT (l := i) (cp := mm) (by omega) (by omega)
        have lt_hH := hH.lt
        have ge_hH : ∀ c, blkOf (slA Ao i mm) = some c → 0 ≤ c := fun c _ => Nat.zero_le c
        have hHr := hH.1
        refine W_region (by kernel_rfl) ?_
        refine sg [(30, .slice Ao mm cao), (31, .int .i64 ((i : Nat) : Int)), (32, .slice Ao mm cao), (33, .int .i64 (mm : Int)), (34, .slice Ao mm cao), (35, .int .i64 (mm : Int))] (by kernel_rfl) ?_
        refine stv (v := .slice (slA Ao i ((mm : Int).toNat)) (((mm : Int).toNat) - i) (((mm : Int).toNat) - i)) (by rfl) (R_sliceLHM (A := Ao) (n := mm) (cp := cao) i ((mm : Int).toNat) ((mm : Int).toNat) (by kernel_rfl) (by kernel_rfl) (by kernel_rfl) (by kernel_rfl) (by kernel_rfl) (by kernel_rfl) (by omega) (by omega) (by omega)) ?_
        refine sg [(10, .slice (slA Ao i ((mm : Int).toNat)) (((mm : Int).toNat) - i) (((mm : Int).toNat) - i))] (by kernel_rfl) ?_
        refine op_nil ?_
        refine W_seq ?_
        refine W_fg [(0, .pointer (some ⟨p, 0, none⟩)), (1, .slice A mm ca), (2, .slice B mm cb), (6, .slice none 0 0), (7, .slice Ao mm cao), (8, .int .i64 ((i : Nat) : Int)), (9, .int .i64 ((b.getD i 0 : Nat) : Int)), (10, .slice (slA Ao i ((mm : Int).toNat)) (((mm : Int).toNat) - i) (((mm : Int).toNat) - i)), (23, .slice B mm cb), (24, .int .i64 (mm : Int)), (25, .int .i64 ((i : Nat) : Int)), (26, .bool (decide (((i : Nat) : Int) < (mm : Int))))] (by kernel_rfl) fun ρ => ?_
        refine W_region (by kernel_rfl) ?_
        refine sg [(37, .slice (slA Ao i ((mm : Int).toNat)) (((mm : Int).toNat) - i) (((mm : Int).toNat) - i)), (38, .int .i64 ((((mm : Int).toNat) - i : Nat) : Int))] (by kernel_rfl) ?_
        have hlt_ := hG.1.lt
        have hz31 := hMv.1.size
        refine st (by rfl) (S_make 27 3 (.int .i64 0) 1 8 (k1 := .i64) (k2 := .i64) (l := ((((mm : Int).toNat) - i : Nat) : Int)) (c := ((((mm : Int).toNat) - i : Nat) : Int)) (by kernel_rfl) (by kernel_rfl) (by kernel_rfl) (by kernel_rfl) (by omega) (by omega) (by omega) (by omega) fun w27 hT28 hs29 hB30 => ?_)
        replace hB30 : Blk w27 (w25.heap.size) 3 (nats (List.replicate (((mm : Int).toNat) - i) 0) ++ []) := by rw [← mz_nats]; exact hB30
        have hG := hG.tch0 hT28
        have hMv := hMv.then0 hT28
        have hA := hA.tch0 hT28
        have hAr := hA.1
        have hB := hB.tch0 hT28
        have hBr := hB.1
        have hO := hO.tch0 hT28
        have hOr := hO.1
        have hH := hH.tch0 hT28
        have hHr := hH.1
        have nF_hB30 : ¬ F1 (w25.heap.size) := fun e => by have := hlt_ _ e; omega
        refine sg [(11, .slice (some ⟨w25.heap.size, 0, none⟩) (((mm : Int).toNat) - i) (((mm : Int).toNat) - i))] (by kernel_rfl) ?_
        refine op_nil ?_
        refine W_seq ?_
        refine W_seq ?_
        refine W_region (by kernel_rfl) ?_
        refine sg [(40, .slice (some ⟨w25.heap.size, 0, none⟩) (((mm : Int).toNat) - i) (((mm : Int).toNat) - i)), (41, .int .i64 ((((mm : Int).toNat) - i : Nat) : Int)), (42, .int .i64 0)] (by kernel_rfl) ?_
        refine op_nil ?_
        refine W_block ?_
        refine W_loop (fun m ρ w' => ∃ (F2 : Nat → Prop) (n2 : Nat) (cs2 : List (List Nat)) (m2 : List Nat) (k : Nat) (ρ0 : Env), ρ = updL ρ0 [(0, .pointer (some ⟨p, 0, none⟩)), (1, .slice A mm ca), (2, .slice B mm cb), (6, .slice none 0 0), (7, .slice Ao mm cao), (8, .int .i64 ((i : Nat) : Int)), (9, .int .i64 ((b.getD i 0 : Nat) : Int)), (10, .slice (slA Ao i ((mm : Int).toNat)) (((mm : Int).toNat) - i) (((mm : Int).toNat) - i)), (11, .slice (some ⟨w25.heap.size, 0, none⟩) (((mm : Int).toNat) - i) (((mm : Int).toNat) - i)), (23, .slice B mm cb), (24, .int .i64 (mm : Int)), (25, .int .i64 ((i : Nat) : Int)), (41, .int .i64 ((mm - i : Nat) : Int)), (42, .int .i64 ((k : Nat) : Int))] ∧ (k ≤ mm - i) ∧ (m2.length = mm - i) ∧ (Rw n1 cs1 n2 cs2 k m2 (fun be j => lt_ be (b.getD i 0) && lt_ be (a.getD j 0))) ∧ (n2 ≤ n1 + k) ∧ (¬ F2 (w25.heap.size)) ∧ GObj F2 w' p n2 cs2 I ∧ Mv F F2 w w' ∧ RdX F2 w' mm A (nats a) ∧ RdW w' 1 mm A (nats a) ∧ RdX F2 w' mm B (nats b) ∧ RdW w' 1 mm B (nats b) ∧ RdX F2 w' mm Ao (nats o) ∧ RdW w' 1 mm Ao (nats o) ∧ RdX F2 w' (mm - i) (slA Ao i mm) (nats (o.drop i)) ∧ RdW w' 1 (mm - i) (slA Ao i mm) (nats (o.drop i)) ∧ Blk w' (w25.heap.size) 3 (nats m2 ++ []) ∧ m = (mm - i) - k) (m := (mm - i) - 0) ?_ ?_
        · refine ⟨F1, n1, cs1, List.replicate (mm - i) 0, 0, _, updL_self (by kernel_rfl), by omega, by simp, Rw.zero _ _ _ _, by omega, nF_hB30, hG, hMv, hA, hAr, hB, hBr, hO, hOr, hH, hHr, hB30, rfl⟩
        · rintro m ρ w32 ⟨F2, n2, cs2, m2, k, ρ, rfl, hk, hml, hrk, hdk, nF_hMo, hG, hMv, hA, hAr, hB, hBr, hO, hOr, hH, hHr, hMo, rfl⟩
          have hlk_ := hrk.le
          have fak := fun q : k < mm => hfa k q
          have fbi := hfb i (by omega)
          have lt_hMo := hMo.lt
          refine W_seq ?_
          refine W_region (by kernel_rfl) ?_
          refine sg [(43, .bool (decide (((k : Nat) : Int) < ((mm - i : Nat) : Int))))] (by kernel_rfl) ?_
          refine op_nil ?_
          refine W_seq ?_
          refine W_cond (decide (((k : Nat) : Int) < ((mm - i : Nat) : Int))) (by kernel_rfl) (by kernel_rfl) (fun hc33 => ?_) (fun hc33 => ?_)
          · replace hc33 : ((k : Nat) : Int) < ((mm - i : Nat) : Int) := (of_decide_eq_true hc33)
            refine W_skip ?_
            refine W_seq ?_
            refine W_block ?_
            refine W_seq ?_
            refine W_region (by kernel_rfl) ?_
            refine sg [(44, .int .i64 ((k : Nat) : Int)), (12, .int .i64 ((k : Nat) : Int))] (by kernel_rfl) ?_
            refine op_nil ?_
            refine W_region (by kernel_rfl) ?_
            refine sg [(45, .slice (some ⟨w25.heap.size, 0, none⟩) (((mm : Int).toNat) - i) (((mm : Int).toNat) - i)), (46, .int .i64 ((k : Nat) : Int)), (47, .pointer (some ⟨p, 0, none⟩)), (48, .int .i64 ((b.getD i 0 : Nat) : Int)), (49, .slice A mm ca), (50, .int .i64 ((k : Nat) : Int))] (by kernel_rfl) ?_
            refine stv (v := ptrAt A k) (by rfl) (R_indexRd1 (len := mm) (cap := ca) (k := .i64) (i := ((k : Nat) : Int)) (e := 3) k hAr (by kernel_rfl) (by kernel_rfl) (by kernel_rfl) (by kernel_rfl) rfl (by omega)) ?_
            refine stv (v := .int .i64 ((a.getD k 0 : Nat) : Int)) (by rfl) (R_loadRd (v := .int .i64 ((a.getD k 0 : Nat) : Int)) hAr (by omega) (by kernel_rfl) (by kernel_rfl) (nats_at (l := a) (by omega))) ?_
            have lt42 := hMo.lt
            refine st (by rfl) (S_call (args := [.pointer (some ⟨p, 0, none⟩), .int .i64 ((b.getD i 0 : Nat) : Int), .int .i64 ((a.getD k 0 : Nat) : Int)]) (by kernel_rfl) (and_ok F2 p n2 (b.getD i 0) (a.getD k 0) cs2 I _ hG (by omega) (by omega) (by omega)) ?_)
            rintro _ w34 ⟨F35, n36, cs37, x38, rfl, hG, hm39, hr40, hd41⟩
            have hMv := hMv.trans hm39
            have hA := hA.mv hm39
            have hAr := hA.1
            have hB := hB.mv hm39
            have hBr := hB.1
            have hO := hO.mv hm39
            have hOr := hO.1
            have hH := hH.mv hm39
            have hHr := hH.1
            have hMo := hMo.tch hm39.1 nF_hMo
            have hxb43 := hr40.2.2.1
            have hle44 := hr40.1
            replace nF_hMo : ¬ F35 (w25.heap.size) := fun e => (hm39.2 _ e).elim nF_hMo (fun q => by omega)
            refine stv (v := .pointer (some ⟨w25.heap.size, k, none⟩)) (by rfl) (R_index0 (b := w25.heap.size) (len := ((mm : Int).toNat) - i) (cap := ((mm : Int).toNat) - i) (k := .i64) (i := ((k : Nat) : Int)) (e := 3) k (by kernel_rfl) (by kernel_rfl) (by kernel_rfl) (by kernel_rfl) rfl (by first | omega | (simp only [List.length_set, List.length_map]; omega))) ?_
            refine st (by rfl) (S_store (b := w25.heap.size) (j := k) (v := .int .i64 ((x38 : Nat) : Int)) (by kernel_rfl) (by kernel_rfl) (by kernel_rfl) (by rfl) hMo (by rw [List.length_append, nats_length]; (first | omega | (simp only [List.length_set, List.length_map]; omega))) fun w45 hT46 hs47 hMo' => ?_)
            have hG := hG.tchS hT46 (fun c e q => by cases e; exact nF_hMo q)
            have hMv := hMv.newst hT46 (by omega)
            have hA := hA.st hT46 (fun c hc e => by have h1 := lt_hA c hc; have h2 := ge_hA c hc; have : c = w25.heap.size := e; omega)
            have hAr := hA.1
            have hB := hB.st hT46 (fun c hc e => by have h1 := lt_hB c hc; have h2 := ge_hB c hc; have : c = w25.heap.size := e; omega)
            have hBr := hB.1
            have hO := hO.st hT46 (fun c hc e => by have h1 := lt_hO c hc; have h2 := ge_hO c hc; have : c = w25.heap.size := e; omega)
            have hOr := hO.1
            have hH := hH.st hT46 (fun c hc e => by have h1 := lt_hH c hc; have h2 := ge_hH c hc; have : c = w25.heap.size := e; omega)
            have hHr := hH.1
            replace hMo : Blk w45 (w25.heap.size) 3 (nats (m2.set k x38) ++ []) := (nats_setP (l := m2) (sp := []) (i := k) x38 (by first | omega | (simp only [List.length_set, List.length_map]; omega))) ▸ hMo'
            refine op_nil ?_
            refine W_fg [(0, .pointer (some ⟨p, 0, none⟩)), (1, .slice A mm ca), (2, .slice B mm cb), (6, .slice none 0 0), (7, .slice Ao mm cao), (8, .int .i64 ((i : Nat) : Int)), (9, .int .i64 ((b.getD i 0 : Nat) : Int)), (10, .slice (slA Ao i ((mm : Int).toNat)) (((mm : Int).toNat) - i) (((mm : Int).toNat) - i)), (11, .slice (some ⟨w25.heap.size, 0, none⟩) (((mm : Int).toNat) - i) (((mm : Int).toNat) - i)), (12, .int .i64 ((k : Nat) : Int)), (23, .slice B mm cb), (24, .int .i64 (mm : Int)), (25, .int .i64 ((i : Nat) : Int)), (41, .int .i64 ((mm - i : Nat) : Int)), (42, .int .i64 ((k : Nat) : Int)), (43, .bool (decide (((k : Nat) : Int) < ((mm - i : Nat) : Int))))] (by kernel_rfl) fun ρ => ?_
            refine W_region (by kernel_rfl) ?_
            refine sg [(55, .int .i64 (IntKind.i64.wrap (((k : Nat) : Int) + 1)))] (by kernel_rfl) ?_
            rw [show IntKind.i64.wrap (((k : Nat) : Int) + 1) = ((k : Nat) : Int) + 1 from wrap_i64 (by omega) (by omega)]
            refine fixR (y := ((k + 1 : Nat) : Int)) (by omega) ?_
            refine sg [(42, .int .i64 ((k + 1 : Nat) : Int))] (by kernel_rfl) ?_
            refine op_nil ?_
            refine ⟨_, ?_, F35, n36, cs37, m2.set k x38, k + 1, _, updL_self (by kernel_rfl), ?_, by rw [List.length_set]; exact hml, hrk.step hr40 (by omega) (fun be hm => rfl), by omega, nF_hMo, hG, hMv, hA, hAr, hB, hBr, hO, hOr, hH, hHr, hMo, rfl⟩
            · omega
            · omega
          · replace hc33 : ((mm - i : Nat) : Int) ≤ ((k : Nat) : Int) := (Int.not_lt.1 (of_decide_eq_false hc33))
            refine W_exit ?_
            refine X_hit ?_
            have hkm : k = mm - i := by omega
            have hrk2 : Rw n1 cs1 n2 cs2 (mm - i) m2 (fun be j => lt_ be (b.getD i 0) && lt_ be (a.getD j 0)) := hkm ▸ hrk
            have hLo := hO.headT (h := i) (cp := i) (by omega)
            have lt_hLo := hLo.lt
            have ge_hLo : ∀ c, blkOf (slA Ao 0 i) = some c → 0 ≤ c := fun c _ => Nat.zero_le c
            have hMx : RdX F2 w32 (mm - i) (some ⟨w25.heap.size, 0, none⟩) (nats m2) := RdX.ofP hMo (by rw [nats_length]; exact hml) (by omega) nF_hMo
            have lt_hMx := hMx.lt
            have ge_hMx : ∀ c, blkOf (some ⟨w25.heap.size, 0, none⟩) = some c → 0 ≤ c := fun c _ => Nat.zero_le c
            obtain ⟨bO, oO, eO⟩ := hO.addr hm
            obtain ⟨oL, eL⟩ := slA_some bO oO 0 i
            have eLo : ∃ b off, slA Ao 0 i = some ⟨b, off, none⟩ := ⟨bO, oL, by rw [eO]; exact eL⟩
            refine W_draw (fun w' => True) (by kernel_rfl) (by kernel_rfl) (by kernel_rfl) fun w48 hT49 hh50 => ?_
            have hG := hG.tch0 hT49
            have hMv := hMv.then0 hT49
            have hA := hA.tch0 hT49
            have hAr := hA.1
            have hB := hB.tch0 hT49
            have hBr := hB.1
            have hO := hO.tch0 hT49
            have hOr := hO.1
            have hH := hH.tch0 hT49
            have hHr := hH.1
            have hMo := hMo.tch0 hT49
            have hLo := hLo.tch0 hT49
            have hMx := hMx.tch0 hT49
            refine dtk [0, 1, 2, 4, 5, 6] #[true, true, true, false, true, true, true, false, false, false] [(56, .slice Ao mm cao), (57, .int .i64 ((i : Nat) : Int)), (58, .int .i64 ((i : Nat) : Int)), (60, .pointer (some ⟨p, 0, none⟩)), (61, .slice (slA Ao i ((mm : Int).toNat)) (((mm : Int).toNat) - i) (((mm : Int).toNat) - i)), (62, .slice (some ⟨w25.heap.size, 0, none⟩) (((mm : Int).toNat) - i) (((mm : Int).toNat) - i))] trivial (by kernel_rfl) ?_
            refine d_val (v := .slice (slA Ao 0 i) i i) 3 (by rfl) (by kernel_rfl) (by kernel_rfl) (by kernel_rfl) (fun w' hs => by exact R_sliceHM (A := Ao) (n := mm) (cp := cao) i i (by kernel_rfl) (by kernel_rfl) (by kernel_rfl) (by kernel_rfl) (by kernel_rfl) (by omega) (by omega)) trivial ?_
            have lt63 := hMo.lt
            have hzM := hMv.1.size
            refine d_one 7 (by kernel_rfl) (by rfl) (by kernel_rfl) (S_call (args := [.pointer (some ⟨p, 0, none⟩), .slice (slA Ao i ((mm : Int).toNat)) (((mm : Int).toNat) - i) (((mm : Int).toNat) - i), .slice (some ⟨w25.heap.size, 0, none⟩) (((mm : Int).toNat) - i) (((mm : Int).toNat) - i)]) (by kernel_rfl) (radd_ok F2 p n2 (mm - i) (((mm : Int).toNat) - i) (((mm : Int).toNat) - i) (slA Ao i ((mm : Int).toNat)) (some ⟨w25.heap.size, 0, none⟩) (o.drop i) m2 cs2 I _ hG hH hMx (fun j hj => by rw [getD_drop]; have := hrw.fit (i + j) (by omega); omega) (fun j hj => by have := hrk2.fit j hj; omega) (by omega) (by omega) (by omega)) ?_)
            rintro _ w51 ⟨F52, n53, cs54, g55, r56, rfl, hrl57, hX58, hg59, hG, hm60, hrw61, hd62⟩
            have hMv := hMv.trans hm60
            have hA := hA.mv hm60
            have hAr := hA.1
            have hB := hB.mv hm60
            have hBr := hB.1
            have hO := hO.mv hm60
            have hOr := hO.1
            have hH := hH.mv hm60
            have hHr := hH.1
            have hMo := hMo.tch hm60.1 nF_hMo
            have hLo := hLo.mv hm60
            have hMx := hMx.mv hm60
            have hle64 := hrw61.le
            replace nF_hMo : ¬ F52 (w25.heap.size) := fun e => (hm60.2 _ e).elim nF_hMo (fun q => by omega)
            have lt_hX58 := hX58.lt
            have ge_hX58 : ∀ c, blkOf (some ⟨g55, 0, none⟩) = some c → 0 ≤ c := fun c _ => Nat.zero_le c
            refine ⟨trivial, ?_⟩
            have lt70 := hMo.lt
            have hltM := hG.1.lt
            have hzM := hMv.1.size
            refine d_one 8 (by kernel_rfl) (by rfl) (by kernel_rfl) (S_appendG 27 3 (.int .i64 0) 8 (n := i) (m := mm - i) (A := slA Ao 0 i) (B := some ⟨g55, 0, none⟩) (cp := i) (c := mm - i) (cells := nats (o.take i)) (news := nats r56) (by kernel_rfl) (by rfl) (by kernel_rfl) (by kernel_rfl) (by kernel_rfl) hLo.1 eLo hX58.1 (by omega) (by omega) (by simp only [maxLen]; omega) (by omega) fun g67 cp68 sp69 w65 hG271 hl72 hc173 hc274 hg275 hT66 => ?_)
            have hG := hG.tch0 hT66
            have hMv := hMv.then0 hT66
            have hA := hA.tch0 hT66
            have hAr := hA.1
            have hB := hB.tch0 hT66
            have hBr := hB.1
            have hO := hO.tch0 hT66
            have hOr := hO.1
            have hH := hH.tch0 hT66
            have hHr := hH.1
            have hMo := hMo.tch0 hT66
            have hLo := hLo.tch0 hT66
            have hMx := hMx.tch0 hT66
            have hX58 := hX58.tch0 hT66
            rw [show i + (mm - i) = mm by omega]
            replace hc173 : mm ≤ cp68 := by omega
            have hN : RdX F52 w65 (mm) (some ⟨g67, 0, none⟩) (nats (o.take i ++ r56)) := RdX.ofP (sp := sp69) (by rw [nats_append]; exact hG271) (by rw [nats_length]; simp only [List.length_append, List.length_take, List.length_cons, List.length_nil]; omega) (by omega) (fun e => by have := hltM _ e; omega)
            have lt_hN := hN.lt
            have ge_hN : ∀ c, blkOf (some ⟨g67, 0, none⟩) = some c → 0 ≤ c := fun c _ => Nat.zero_le c
            refine ⟨trivial, ?_⟩
            refine dtk [9] #[true, true, true, true, true, true, true, true, true, true] [(7, .slice (some ⟨g67, 0, none⟩) mm cp68)] trivial (by kernel_rfl) ?_
            refine d_done (by kernel_rfl) ?_
            refine W_fg [(0, .pointer (some ⟨p, 0, none⟩)), (1, .slice A mm ca), (2, .slice B mm cb), (6, .slice none 0 0), (7, .slice (some ⟨g67, 0, none⟩) mm cp68), (8, .int .i64 ((i : Nat) : Int)), (9, .int .i64 ((b.getD i 0 : Nat) : Int)), (10, .slice (slA Ao i ((mm : Int).toNat)) (((mm : Int).toNat) - i) (((mm : Int).toNat) - i)), (11, .slice (some ⟨w25.heap.size, 0, none⟩) (((mm : Int).toNat) - i) (((mm : Int).toNat) - i)), (23, .slice B mm cb), (24, .int .i64 (mm : Int)), (25, .int .i64 ((i : Nat) : Int)), (41, .int .i64 ((mm - i : Nat) : Int)), (42, .int .i64 ((k : Nat) : Int)), (43, .bool (decide (((k : Nat) : Int) < ((mm - i : Nat) : Int))))] (by kernel_rfl) fun ρ => ?_
            refine W_region (by kernel_rfl) ?_
            refine sg [(65, .int .i64 (IntKind.i64.wrap (((i : Nat) : Int) + 1)))] (by kernel_rfl) ?_
            rw [show IntKind.i64.wrap (((i : Nat) : Int) + 1) = ((i : Nat) : Int) + 1 from wrap_i64 (by omega) (by omega)]
            refine fixR (y := ((i + 1 : Nat) : Int)) (by omega) ?_
            refine sg [(25, .int .i64 ((i + 1 : Nat) : Int))] (by kernel_rfl) ?_
            refine op_nil ?_
            refine ⟨_, ?_, F52, n53, cs54, some ⟨g67, 0, none⟩, cp68, (o.take i ++ r56), i + 1, _, updL_self (by kernel_rfl), ?_, by rw [List.length_append, List.length_take, hrl57]; omega, mul_round hrw hrk2 hrw61 hol (by omega), by omega, by omega, (fun c hc => by have e : g67 = c := (by injection hc); omega), hG, hMv, hA, hAr, hB, hBr, hN, hN.1, rfl⟩
            · omega
            · omega
      · replace hc26 : (mm : Int) ≤ ((i : Nat) : Int) := (Int.not_lt.1 (of_decide_eq_false hc26))
        refine W_exit ?_
        refine X_hit ?_
        refine W_seq ?_
        refine W_region (by kernel_rfl) ?_
        refine sg [(66, .slice Ao mm cao), (6, .slice Ao mm cao)] (by kernel_rfl) ?_
        refine op_nil ?_
        refine W_ret ?_
        exact ⟨_, Res_of (v := .slice Ao mm cao) (by kernel_rfl), ⟨F1, n1, cs1, Ao, cao, o, rfl, hol, hO, hgo, hG, hMv, hrw.eq (fun be hm j hj => by rw [show i = mm by omega]), by omega⟩⟩

end Go.Proofs.YtnlecdpiccgdpaaV

set_option linter.unusedVariables false
set_option linter.unusedSimpArgs false
namespace Go.Proofs.YtnlecdpiccgdpaaV
open Go Go.RowKit Go.Proofs

set_option maxRecDepth 100000 in
theorem equal_ok (F : Nat → Prop) (p n mm ca cb : Nat) (A B : Option Addr) (a b : List Nat)  (cs : List (List Nat)) (I : Nat → Prop) (w : World) (hG : GObj F w p n cs I) (hA : RdX F w mm A (nats a)) (hB : RdX F w mm B (nats b)) (hfa : ∀ j, j < mm → a.getD j 0 / 2 < n) (hfb : ∀ j, j < mm → b.getD j 0 / 2 < n) (hm : 0 < mm) (hm2 : mm ≤ 1000) (hn : n ≤ 50000000000) : Ret Try.prog 42 [.pointer (some ⟨p, 0, none⟩), .slice A mm ca, .slice B mm cb] w fun v w' => GRet F p n cs I w (2 * mm) (fun be => eqB (fun j => lt_ be (a.getD j 0)) (fun j => lt_ be (b.getD j 0)) mm) v w' := by
  have hMv := Mv.refl F w
  have hla : a.length = mm := by have := hA.1.1; rw [nats_length] at this; omega
  have hlb : b.length = mm := by have := hB.1.1; rw [nats_length] at this; omega
  have hAr := hA.1
  have hBr := hB.1
  have lt_hA := hA.lt
  have lt_hB := hB.lt
  have ge_hA : ∀ c, blkOf A = some c → 0 ≤ c := fun c _ => Nat.zero_le c
  have ge_hB : ∀ c, blkOf B = some c → 0 ≤ c := fun c _ => Nat.zero_le c
  have hff_a := hfa
  have hff_b := hfb
  have hpos := hG.2.pos
  refine enter Try.func42 rfl rfl ?_
  refine W_seq ?_
  refine W_region (by kernel_rfl) ?_
  refine sg [(6, .int .i64 0)] (by kernel_rfl) ?_
  refine op_nil ?_
  refine W_seq ?_
  refine W_seq ?_
  refine W_region (by kernel_rfl) ?_
  refine sg [(9, .pointer (some ⟨p, 0, none⟩)), (10, .slice A mm ca), (11, .slice B mm cb)] (by kernel_rfl) ?_
  have hlt_ := hG.1.lt
  have hz5 := hMv.1.size
  refine st (by rfl) (S_new (v := .slice (some ⟨w.heap.size, 0, none⟩) 2 2) (ob := .cells #[.slice A mm ca, .slice B mm cb] 27) (by kernel_rfl) fun w1 hT2 hs3 hB4 => ?_)
  replace hB4 : Blk w1 (w.heap.size) 27 [.slice A mm ca, .slice B mm cb] := hB4
  have hG := hG.tch0 hT2
  have hMv := hMv.then0 hT2
  have hA := hA.tch0 hT2
  have hAr := hA.1
  have hB := hB.tch0 hT2
  have hBr := hB.1
  have nF_hB4 : ¬ F (w.heap.size) := fun e => by have := hlt_ _ e; omega
  refine st (by rfl) (S_call (args := [.pointer (some ⟨p, 0, none⟩), .slice (some ⟨w.heap.size, 0, none⟩) 2 2]) (by kernel_rfl) (fine_nats p (w.heap.size) mm ca cb A B _ _ _ hB4 hAr hBr (by omega)) ?_)
  rintro _ w6 ⟨rfl, hT7⟩
  have hG := hG.tch0 hT7
  have hMv := hMv.then0 hT7
  have hA := hA.tch0 hT7
  have hAr := hA.1
  have hB := hB.tch0 hT7
  have hBr := hB.1
  have hB4 := hB4.tch0 hT7
  refine sg [(14, .bool false)] (by kernel_rfl) ?_
  refine op_nil ?_
  refine W_cond false (by kernel_rfl) (by kernel_rfl) (fun h => nomatch h) (fun _ => ?_)
  refine W_skip ?_
  refine W_seq ?_
  refine W_region (by kernel_rfl) ?_
  refine sg [(15, .pointer (some ⟨p, 0, none⟩))] (by kernel_rfl) ?_
  refine st (by rfl) (S_call (args := [.pointer (some ⟨p, 0, none⟩)]) (by kernel_rfl) (true_ok p _) ?_)
  rintro _ w8 ⟨rfl, hT9⟩
  have hG := hG.tch0 hT9
  have hMv := hMv.then0 hT9
  have hA := hA.tch0 hT9
  have hAr := hA.1
  have hB := hB.tch0 hT9
  have hBr := hB.1
  have hB4 := hB4.tch0 hT9
  refine sg [(7, .int .i64 0)] (by kernel_rfl) ?_
  refine op_nil ?_
  refine W_seq ?_
  refine W_seq ?_
  refine W_fg [(0, .pointer (some ⟨p, 0, none⟩)), (1, .slice A mm ca), (2, .slice B mm cb), (6, .int .i64 0), (7, .int .i64 0), (14, .bool false)] (by kernel_rfl) fun ρ => ?_
  refine W_region (by kernel_rfl) ?_
  refine sg [(17, .slice A mm ca), (18, .int .i64 (mm : Int)), (19, .int .i64 0)] (by kernel_rfl) ?_
  refine op_nil ?_
  refine W_block ?_
  refine W_loop (fun m ρ w' => ∃ (F1 : Nat → Prop) (n1 : Nat) (cs1 : List (List Nat)) (y i : Nat) (ρ0 : Env), ρ = updL ρ0 [(0, .pointer (some ⟨p, 0, none⟩)), (1, .slice A mm ca), (2, .slice B mm cb), (6, .int .i64 0), (7, .int .i64 ((y : Nat) : Int)), (18, .int .i64 (mm : Int)), (19, .int .i64 ((i : Nat) : Int))] ∧ (i ≤ mm) ∧ (Lw n1 cs1 y (fun be => eqB (fun j => lt_ be (a.getD j 0)) (fun j => lt_ be (b.getD j 0)) i)) ∧ (n ≤ n1) ∧ (∀ c, c ∈ cs → c ∈ cs1) ∧ (n1 ≤ n + 2 * i) ∧ GObj F1 w' p n1 cs1 I ∧ Mv F F1 w w' ∧ RdX F1 w' mm A (nats a) ∧ RdW w' 1 mm A (nats a) ∧ RdX F1 w' mm B (nats b) ∧ RdW w' 1 mm B (nats b) ∧ m = mm - i) (m := mm - 0) ?_ ?_
  · refine ⟨F, n, cs, 0, 0, _, updL_self (by kernel_rfl), by omega, ⟨by have := hG.2.pos; show (0 : Nat) / 2 < _; omega, fun be hm => hG.2.t0 hm⟩, by omega, (fun _ h => h), by omega, hG, hMv, hA, hAr, hB, hBr, rfl⟩
  · rintro m ρ w10 ⟨F1, n1, cs1, y, i, ρ, rfl, hi, hy, hle, hsub, hd, hG, hMv, hA, hAr, hB, hBr, rfl⟩
    have fa := fun q : i < mm => hfa i q
    have fb := fun q : i < mm => hfb i q
    have hpos := hG.2.pos
    have hyf := hy.1
    refine W_seq ?_
    refine W_region (by kernel_rfl) ?_
    refine sg [(20, .bool (decide (((i : Nat) : Int) < (mm : Int))))] (by kernel_rfl) ?_
    refine op_nil ?_
    refine W_seq ?_
    refine W_cond (decide (((i : Nat) : Int) < (mm : Int))) (by kernel_rfl) (by kernel_rfl) (fun hc11 => ?_) (fun hc11 => ?_)
    · replace hc11 : ((i : Nat) : Int) < (mm : Int) := (of_decide_eq_true hc11)
      refine W_skip ?_
      refine W_seq ?_
      refine W_block ?_
      refine W_seq ?_
      refine W_region (by kernel_rfl) ?_
      refine sg [(21, .int .i64 ((i : Nat) : Int)), (8, .int .i64 ((i : Nat) : Int))] (by kernel_rfl) ?_
      refine op_nil ?_
      refine W_draw (fun w' => RdW w' 1 mm A (nats a) ∧ RdW w' 1 mm B (nats b)) (by kernel_rfl) (by kernel_rfl) (by kernel_rfl) fun w12 hT13 hh14 => ?_
      have hG := hG.tch0 hT13
      have hMv := hMv.then0 hT13
      have hA := hA.tch0 hT13
      have hAr := hA.1
      have hB := hB.tch0 hT13
      have hBr := hB.1
      refine dtk [0, 1, 2, 3, 4, 7, 8] #[true, true, true, true, true, false, false, true, true, false, false, false, false, false, false] [(22, .pointer (some ⟨p, 0, none⟩)), (23, .int .i64 ((y : Nat) : Int)), (24, .pointer (some ⟨p, 0, none⟩)), (25, .slice A mm ca), (26, .int .i64 ((i : Nat) : Int)), (29, .slice B mm cb), (30, .int .i64 ((i : Nat) : Int))] ⟨hAr, hBr⟩ (by kernel_rfl) ?_
      refine d_val (v := ptrAt A i) 5 (by rfl) (by kernel_rfl) (by kernel_rfl) (by kernel_rfl) (fun w' hs => by obtain ⟨hAr, hBr⟩ := hs; exact R_indexRd1 (len := mm) (cap := ca) (k := .i64) (i := ((i : Nat) : Int)) (e := 3) i hAr (by kernel_rfl) (by kernel_rfl) (by kernel_rfl) (by kernel_rfl) rfl (by omega)) ⟨hAr, hBr⟩ ?_
      refine d_val (v := .int .i64 ((a.getD i 0 : Nat) : Int)) 6 (by rfl) (by kernel_rfl) (by kernel_rfl) (by kernel_rfl) (fun w' hs => by obtain ⟨hAr, hBr⟩ := hs; exact R_loadRd (v := .int .i64 ((a.getD i 0 : Nat) : Int)) hAr (by omega) (by kernel_rfl) (by kernel_rfl) (nats_at (l := a) (by omega))) ⟨hAr, hBr⟩ ?_
      refine d_val (v := ptrAt B i) 9 (by rfl) (by kernel_rfl) (by kernel_rfl) (by kernel_rfl) (fun w' hs => by obtain ⟨hAr, hBr⟩ := hs; exact R_indexRd1 (len := mm) (cap := cb) (k := .i64) (i := ((i : Nat) : Int)) (e := 3) i hBr (by kernel_rfl) (by kernel_rfl) (by kernel_rfl) (by kernel_rfl) rfl (by omega)) ⟨hAr, hBr⟩ ?_
      refine d_val (v := .int .i64 ((b.getD i 0 : Nat) : Int)) 10 (by rfl) (by kernel_rfl) (by kernel_rfl) (by kernel_rfl) (fun w' hs => by obtain ⟨hAr, hBr⟩ := hs; exact R_loadRd (v := .int .i64 ((b.getD i 0 : Nat) : Int)) hBr (by omega) (by kernel_rfl) (by kernel_rfl) (nats_at (l := b) (by omega))) ⟨hAr, hBr⟩ ?_
      refine d_one 11 (by kernel_rfl) (by rfl) (by kernel_rfl) (S_call (args := [.pointer (some ⟨p, 0, none⟩), .int .i64 ((a.getD i 0 : Nat) : Int), .int .i64 ((b.getD i 0 : Nat) : Int)]) (by kernel_rfl) (xor_ok F1 p n1 (a.getD i 0) (b.getD i 0) cs1 I _ hG (by omega) (by omega) (by omega)) ?_)
      rintro _ w15 ⟨F16, n17, cs18, x19, rfl, hG, hm20, hr21, hd22⟩
      have hMv := hMv.trans hm20
      have hA := hA.mv hm20
      have hAr := hA.1
      have hB := hB.mv hm20
      have hBr := hB.1
      have hxb23 := hr21.2.2.1
      have hle24 := hr21.1
      refine ⟨⟨hAr, hBr⟩, ?_⟩
      refine d_one 12 (by kernel_rfl) (by rfl) (by kernel_rfl) (S_call (args := [.int .i64 ((x19 : Nat) : Int)]) (by kernel_rfl) (not_ok x19 _ (by omega)) ?_)
      rintro _ w25 ⟨rfl, hT26⟩
      have hG := hG.tch0 hT26
      have hMv := hMv.then0 hT26
      have hA := hA.tch0 hT26
      have hAr := hA.1
      have hB := hB.tch0 hT26
      have hBr := hB.1
      have hnt27 := GateP.nt_div x19
      refine ⟨⟨hAr, hBr⟩, ?_⟩
      refine d_one 13 (by kernel_rfl) (by rfl) (by kernel_rfl) (S_call (args := [.pointer (some ⟨p, 0, none⟩), .int .i64 ((y : Nat) : Int), .int .i64 ((GateP.nt x19 : Nat) : Int)]) (by kernel_rfl) (and_ok F16 p n17 y (GateP.nt x19) cs18 I _ hG (by omega) (by omega) (by omega)) ?_)
      rintro _ w28 ⟨F29, n30, cs31, x32, rfl, hG, hm33, hr34, hd35⟩
      have hMv := hMv.trans hm33
      have hA := hA.mv hm33
      have hAr := hA.1
      have hB := hB.mv hm33
      have hBr := hB.1
      have hxb36 := hr34.2.2.1
      have hle37 := hr34.1
      refine ⟨⟨hAr, hBr⟩, ?_⟩
      refine dtk [14] #[true, true, true, true, true, true, true, true, true, true, true, true, true, true, true] [(7, .int .i64 ((x32 : Nat) : Int))] ⟨hAr, hBr⟩ (by kernel_rfl) ?_
      refine d_done (by kernel_rfl) ?_
      refine W_fg [(0, .pointer (some ⟨p, 0, none⟩)), (1, .slice A mm ca), (2, .slice B mm cb), (6, .int .i64 0), (7, .int .i64 ((x32 : Nat) : Int)), (8, .int .i64 ((i : Nat) : Int)), (18, .int .i64 (mm : Int)), (19, .int .i64 ((i : Nat) : Int)), (20, .bool (decide (((i : Nat) : Int) < (mm : Int))))] (by kernel_rfl) fun ρ => ?_
      refine W_region (by kernel_rfl) ?_
      refine sg [(36, .int .i64 (IntKind.i64.wrap (((i : Nat) : Int) + 1)))] (by kernel_rfl) ?_
      rw [show IntKind.i64.wrap (((i : Nat) : Int) + 1) = ((i : Nat) : Int) + 1 from wrap_i64 (by omega) (by omega)]
      refine fixR (y := ((i + 1 : Nat) : Int)) (by omega) ?_
      refine sg [(19, .int .i64 ((i + 1 : Nat) : Int))] (by kernel_rfl) ?_
      refine op_nil ?_
      refine ⟨_, ?_, F29, n30, cs31, x32, i + 1, _, updL_self (by kernel_rfl), ?_, (Lw.of hr34).eq (fun be hm => by show (lt_ be y && lt_ be (GateP.nt x19)) = _; rw [lt_nt, hy.2 be ((hm.sub hr34.2.1).sub hr21.2.1), hr21.2.2.2 be (hm.sub hr34.2.1)]; rfl), by omega, (fun c hc => hr34.2.1 c (hr21.2.1 c (hsub c hc))), by omega, hG, hMv, hA, hAr, hB, hBr, rfl⟩
      · omega
      · omega
    · replace hc11 : (mm : Int) ≤ ((i : Nat) : Int) := (Int.not_lt.1 (of_decide_eq_false hc11))
      refine W_exit ?_
      refine X_hit ?_
      refine W_seq ?_
      refine W_region (by kernel_rfl) ?_
      refine sg [(37, .int .i64 ((y : Nat) : Int)), (6, .int .i64 ((y : Nat) : Int))] (by kernel_rfl) ?_
      refine op_nil ?_
      refine W_ret ?_
      exact ⟨_, Res_of (v := .int .i64 ((y : Nat) : Int)) (by kernel_rfl), ⟨F1, n1, cs1, y, rfl, hG, hMv, ⟨hle, hsub, hy.1, fun be hm => by rw [hy.2 be hm, show i = mm by omega]⟩, by omega⟩⟩

set_option maxRecDepth 100000 in
theorem less_ok (F : Nat → Prop) (p n mm ca cb : Nat) (A B : Option Addr) (a b : List Nat)  (cs : List (List Nat)) (I : Nat → Prop) (w : World) (hG : GObj F w p n cs I) (hA : RdX F w mm A (nats a)) (hB : RdX F w mm B (nats b)) (hfa : ∀ j, j < mm → a.getD j 0 / 2 < n) (hfb : ∀ j, j < mm → b.getD j 0 / 2 < n) (hm : 0 < mm) (hm2 : mm ≤ 1000) (hn : n ≤ 50000000000) : Ret Try.prog 43 [.pointer (some ⟨p, 0, none⟩), .slice A mm ca, .slice B mm cb] w fun v w' => GRet F p n cs I w (2 * mm) (fun be => lsB (fun j => lt_ be (a.getD j 0)) (fun j => lt_ be (b.getD j 0)) mm) v w' := by
  have hMv := Mv.refl F w
  have hla : a.length = mm := by have := hA.1.1; rw [nats_length] at this; omega
  have hlb : b.length = mm := by have := hB.1.1; rw [nats_length] at this; omega
  have hAr := hA.1
  have hBr := hB.1
  have lt_hA := hA.lt
  have lt_hB := hB.lt
  have ge_hA : ∀ c, blkOf A = some c → 0 ≤ c := fun c _ => Nat.zero_le c
  have ge_hB : ∀ c, blkOf B = some c → 0 ≤ c := fun c _ => Nat.zero_le c
  have hff_a := hfa
  have hff_b := hfb
  have hpos := hG.2.pos
  refine enter Try.func43 rfl rfl ?_
  refine W_seq ?_
  refine W_region (by kernel_rfl) ?_
  refine sg [(6, .int .i64 0)] (by kernel_rfl) ?_
  refine op_nil ?_
  refine W_seq ?_
  refine W_seq ?_
  refine W_region (by kernel_rfl) ?_
  refine sg [(9, .pointer (some ⟨p, 0, none⟩)), (10, .slice A mm ca), (11, .slice B mm cb)] (by kernel_rfl) ?_
  have hlt_ := hG.1.lt
  have hz5 := hMv.1.size
  refine st (by rfl) (S_new (v := .slice (some ⟨w.heap.size, 0, none⟩) 2 2) (ob := .cells #[.slice A mm ca, .slice B mm cb] 27) (by kernel_rfl) fun w1 hT2 hs3 hB4 => ?_)
  replace hB4 : Blk w1 (w.heap.size) 27 [.slice A mm ca, .slice B mm cb] := hB4
  have hG := hG.tch0 hT2
  have hMv := hMv.then0 hT2
  have hA := hA.tch0 hT2
  have hAr := hA.1
  have hB := hB.tch0 hT2
  have hBr := hB.1
  have nF_hB4 : ¬ F (w.heap.size) := fun e => by have := hlt_ _ e; omega
  refine st (by rfl) (S_call (args := [.pointer (some ⟨p, 0, none⟩), .slice (some ⟨w.heap.size, 0, none⟩) 2 2]) (by kernel_rfl) (fine_nats p (w.heap.size) mm ca cb A B _ _ _ hB4 hAr hBr (by omega)) ?_)
  rintro _ w6 ⟨rfl, hT7⟩
  have hG := hG.tch0 hT7
  have hMv := hMv.then0 hT7
  have hA := hA.tch0 hT7
  have hAr := hA.1
  have hB := hB.tch0 hT7
  have hBr := hB.1
  have hB4 := hB4.tch0 hT7
  refine sg [(14, .bool false)] (by kernel_rfl) ?_
  refine op_nil ?_
  refine W_cond false (by kernel_rfl) (by kernel_rfl) (fun h => nomatch h) (fun _ => ?_)
  refine W_skip ?_
  refine W_seq ?_
  refine W_region (by kernel_rfl) ?_
  refine sg [(15, .pointer (some ⟨p, 0, none⟩))] (by kernel_rfl) ?_
  refine st (by rfl) (S_call (args := [.pointer (some ⟨p, 0, none⟩)]) (by kernel_rfl) (true_ok p _) ?_)
  rintro _ w8 ⟨rfl, hT9⟩
  have hG := hG.tch0 hT9
  have hMv := hMv.then0 hT9
  have hA := hA.tch0 hT9
  have hAr := hA.1
  have hB := hB.tch0 hT9
  have hBr := hB.1
  have hB4 := hB4.tch0 hT9
  refine st (by rfl) (S_call (args := [.int .i64 0]) (by kernel_rfl) (not_ok 0 _ (by omega)) ?_)
  rintro _ w10 ⟨rfl, hT11⟩
  have hG := hG.tch0 hT11
  have hMv := hMv.then0 hT11
  have hA := hA.tch0 hT11
  have hAr := hA.1
  have hB := hB.tch0 hT11
  have hBr := hB.1
  have hB4 := hB4.tch0 hT11
  have hnt12 := GateP.nt_div 0
  refine sg [(7, .int .i64 ((GateP.nt 0 : Nat) : Int))] (by kernel_rfl) ?_
  refine op_nil ?_
  refine W_seq ?_
  refine W_seq ?_
  refine W_fg [(0, .pointer (some ⟨p, 0, none⟩)), (1, .slice A mm ca), (2, .slice B mm cb), (6, .int .i64 0), (7, .int .i64 ((GateP.nt 0 : Nat) : Int)), (14, .bool false)] (by kernel_rfl) fun ρ => ?_
  refine W_region (by kernel_rfl) ?_
  refine sg [(18, .slice A mm ca), (19, .int .i64 (mm : Int)), (20, .int .i64 0)] (by kernel_rfl) ?_
  refine op_nil ?_
  refine W_block ?_
  refine W_loop (fun m ρ w' => ∃ (F1 : Nat → Prop) (n1 : Nat) (cs1 : List (List Nat)) (y i : Nat) (ρ0 : Env), ρ = updL ρ0 [(0, .pointer (some ⟨p, 0, none⟩)), (1, .slice A mm ca), (2, .slice B mm cb), (6, .int .i64 0), (7, .int .i64 ((y : Nat) : Int)), (19, .int .i64 (mm : Int)), (20, .int .i64 ((i : Nat) : Int))] ∧ (i ≤ mm) ∧ (Lw n1 cs1 y (fun be => lsB (fun j => lt_ be (a.getD j 0)) (fun j => lt_ be (b.getD j 0)) i)) ∧ (n ≤ n1) ∧ (∀ c, c ∈ cs → c ∈ cs1) ∧ (n1 ≤ n + 2 * i) ∧ GObj F1 w' p n1 cs1 I ∧ Mv F F1 w w' ∧ RdX F1 w' mm A (nats a) ∧ RdW w' 1 mm A (nats a) ∧ RdX F1 w' mm B (nats b) ∧ RdW w' 1 mm B (nats b) ∧ m = mm - i) (m := mm - 0) ?_ ?_
  · refine ⟨F, n, cs, GateP.nt 0, 0, _, updL_self (by kernel_rfl), by omega, ⟨by have := hG.2.pos; show (1 : Nat) / 2 < _; omega, fun be hm => hG.2.t1 hm⟩, by omega, (fun _ h => h), by omega, hG, hMv, hA, hAr, hB, hBr, rfl⟩
  · rintro m ρ w13 ⟨F1, n1, cs1, y, i, ρ, rfl, hi, hy, hle, hsub, hd, hG, hMv, hA, hAr, hB, hBr, rfl⟩
    have fa := fun q : i < mm => hfa i q
    have fb := fun q : i < mm => hfb i q
    have hpos := hG.2.pos
    have hyf := hy.1
    refine W_seq ?_
    refine W_region (by kernel_rfl) ?_
    refine sg [(21, .bool (decide (((i : Nat) : Int) < (mm : Int))))] (by kernel_rfl) ?_
    refine op_nil ?_
    refine W_seq ?_
    refine W_cond (decide (((i : Nat) : Int) < (mm : Int))) (by kernel_rfl) (by kernel_rfl) (fun hc14 => ?_) (fun hc14 => ?_)
    · replace hc14 : ((i : Nat) : Int) < (mm : Int) := (of_decide_eq_true hc14)
      refine W_skip ?_
      refine W_seq ?_
      refine W_block ?_
      refine W_seq ?_
      refine W_region (by kernel_rfl) ?_
      refine sg [(22, .int .i64 ((i : Nat) : Int)), (8, .int .i64 ((i : Nat) : Int))] (by kernel_rfl) ?_
      refine op_nil ?_
      refine W_draw (fun w' => RdW w' 1 mm A (nats a) ∧ RdW w' 1 mm B (nats b)) (by kernel_rfl) (by kernel_rfl) (by kernel_rfl) fun w15 hT16 hh17 => ?_
      have hG := hG.tch0 hT16
      have hMv := hMv.then0 hT16
      have hA := hA.tch0 hT16
      have hAr := hA.1
      have hB := hB.tch0 hT16
      have hBr := hB.1
      refine dtk [0, 1, 2, 3, 6, 7, 11, 12, 15] #[true, true, true, true, false, false, true, true, false, false, false, true, true, false, false, true, false, false] [(23, .pointer (some ⟨p, 0, none⟩)), (24, .pointer (some ⟨p, 0, none⟩)), (25, .slice A mm ca), (26, .int .i64 ((i : Nat) : Int)), (29, .slice B mm cb), (30, .int .i64 ((i : Nat) : Int)), (34, .slice B mm cb), (35, .int .i64 ((i : Nat) : Int)), (38, .int .i64 ((y : Nat) : Int))] ⟨hAr, hBr⟩ (by kernel_rfl) ?_
      refine d_val (v := ptrAt A i) 4 (by rfl) (by kernel_rfl) (by kernel_rfl) (by kernel_rfl) (fun w' hs => by obtain ⟨hAr, hBr⟩ := hs; exact R_indexRd1 (len := mm) (cap := ca) (k := .i64) (i := ((i : Nat) : Int)) (e := 3) i hAr (by kernel_rfl) (by kernel_rfl) (by kernel_rfl) (by kernel_rfl) rfl (by omega)) ⟨hAr, hBr⟩ ?_
      refine d_val (v := .int .i64 ((a.getD i 0 : Nat) : Int)) 5 (by rfl) (by kernel_rfl) (by kernel_rfl) (by kernel_rfl) (fun w' hs => by obtain ⟨hAr, hBr⟩ := hs; exact R_loadRd (v := .int .i64 ((a.getD i 0 : Nat) : Int)) hAr (by omega) (by kernel_rfl) (by kernel_rfl) (nats_at (l := a) (by omega))) ⟨hAr, hBr⟩ ?_
      refine d_val (v := ptrAt B i) 8 (by rfl) (by kernel_rfl) (by kernel_rfl) (by kernel_rfl) (fun w' hs => by obtain ⟨hAr, hBr⟩ := hs; exact R_indexRd1 (len := mm) (cap := cb) (k := .i64) (i := ((i : Nat) : Int)) (e := 3) i hBr (by kernel_rfl) (by kernel_rfl) (by kernel_rfl) (by kernel_rfl) rfl (by omega)) ⟨hAr, hBr⟩ ?_
      refine d_val (v := .int .i64 ((b.getD i 0 : Nat) : Int)) 9 (by rfl) (by kernel_rfl) (by kernel_rfl) (by kernel_rfl) (fun w' hs => by obtain ⟨hAr, hBr⟩ := hs; exact R_loadRd (v := .int .i64 ((b.getD i 0 : Nat) : Int)) hBr (by omega) (by kernel_rfl) (by kernel_rfl) (nats_at (l := b) (by omega))) ⟨hAr, hBr⟩ ?_
      refine d_val (v := ptrAt B i) 13 (by rfl) (by kernel_rfl) (by kernel_rfl) (by kernel_rfl) (fun w' hs => by obtain ⟨hAr, hBr⟩ := hs; exact R_indexRd1 (len := mm) (cap := cb) (k := .i64) (i := ((i : Nat) : Int)) (e := 3) i hBr (by kernel_rfl) (by kernel_rfl) (by kernel_rfl) (by kernel_rfl) rfl (by omega)) ⟨hAr, hBr⟩ ?_
      refine d_val (v := .int .i64 ((b.getD i 0 : Nat) : Int)) 14 (by rfl) (by kernel_rfl) (by kernel_rfl) (by kernel_rfl) (fun w' hs => by obtain ⟨hAr, hBr⟩ := hs; exact R_loadRd (v := .int .i64 ((b.getD i 0 : Nat) : Int)) hBr (by omega) (by kernel_rfl) (by kernel_rfl) (nats_at (l := b) (by omega))) ⟨hAr, hBr⟩ ?_
      refine d_one 10 (by kernel_rfl) (by rfl) (by kernel_rfl) (S_call (args := [.pointer (some ⟨p, 0, none⟩), .int .i64 ((a.getD i 0 : Nat) : Int), .int .i64 ((b.getD i 0 : Nat) : Int)]) (by kernel_rfl) (xor_ok F1 p n1 (a.getD i 0) (b.getD i 0) cs1 I _ hG (by omega) (by omega) (by omega)) ?_)
      rintro _ w18 ⟨F19, n20, cs21, x22, rfl, hG, hm23, hr24, hd25⟩
      have hMv := hMv.trans hm23
      have hA := hA.mv hm23
      have hAr := hA.1
      have hB := hB.mv hm23
      have hBr := hB.1
      have hxb26 := hr24.2.2.1
      have hle27 := hr24.1
      refine ⟨⟨hAr, hBr⟩, ?_⟩
      refine d_one 16 (by kernel_rfl) (by rfl) (by kernel_rfl) (S_call (args := [.pointer (some ⟨p, 0, none⟩), .int .i64 ((x22 : Nat) : Int), .int .i64 ((b.getD i 0 : Nat) : Int), .int .i64 ((y : Nat) : Int)]) (by kernel_rfl) (ite_ok F19 p n20 x22 (b.getD i 0) y cs21 I _ hG (by omega) (by omega) (by omega) (by omega)) ?_)
      rintro _ w28 ⟨F29, n30, cs31, x32, rfl, hG, hm33, hr34, hd35⟩
      have hMv := hMv.trans hm33
      have hA := hA.mv hm33
      have hAr := hA.1
      have hB := hB.mv hm33
      have hBr := hB.1
      have hxb36 := hr34.2.2.1
      have hle37 := hr34.1
      refine ⟨⟨hAr, hBr⟩, ?_⟩
      refine dtk [17] #[true, true, true, true, true, true, true, true, true, true, true, true, true, true, true, true, true, true] [(7, .int .i64 ((x32 : Nat) : Int))] ⟨hAr, hBr⟩ (by kernel_rfl) ?_
      refine d_done (by kernel_rfl) ?_
      refine W_fg [(0, .pointer (some ⟨p, 0, none⟩)), (1, .slice A mm ca), (2, .slice B mm cb), (6, .int .i64 0), (7, .int .i64 ((x32 : Nat) : Int)), (8, .int .i64 ((i : Nat) : Int)), (19, .int .i64 (mm : Int)), (20, .int .i64 ((i : Nat) : Int)), (21, .bool (decide (((i : Nat) : Int) < (mm : Int))))] (by kernel_rfl) fun ρ => ?_
      refine W_region (by kernel_rfl) ?_
      refine sg [(40, .int .i64 (IntKind.i64.wrap (((i : Nat) : Int) + 1)))] (by kernel_rfl) ?_
      rw [show IntKind.i64.wrap (((i : Nat) : Int) + 1) = ((i : Nat) : Int) + 1 from wrap_i64 (by omega) (by omega)]
      refine fixR (y := ((i + 1 : Nat) : Int)) (by omega) ?_
      refine sg [(20, .int .i64 ((i + 1 : Nat) : Int))] (by kernel_rfl) ?_
      refine op_nil ?_
      refine ⟨_, ?_, F29, n30, cs31, x32, i + 1, _, updL_self (by kernel_rfl), ?_, (Lw.of hr34).eq (fun be hm => by show ite_ (lt_ be x22) (lt_ be (b.getD i 0)) (lt_ be y) = _; rw [hy.2 be ((hm.sub hr34.2.1).sub hr24.2.1), hr24.2.2.2 be (hm.sub hr34.2.1)]; rfl), by omega, (fun c hc => hr34.2.1 c (hr24.2.1 c (hsub c hc))), by omega, hG, hMv, hA, hAr, hB, hBr, rfl⟩
      · omega
      · omega
    · replace hc14 : (mm : Int) ≤ ((i : Nat) : Int) := (Int.not_lt.1 (of_decide_eq_false hc14))
      refine W_exit ?_
      refine X_hit ?_
      refine W_seq ?_
      refine W_region (by kernel_rfl) ?_
      refine sg [(41, .int .i64 ((y : Nat) : Int)), (6, .int .i64 ((y : Nat) : Int))] (by kernel_rfl) ?_
      refine op_nil ?_
      refine W_ret ?_
      exact ⟨_, Res_of (v := .int .i64 ((y : Nat) : Int)) (by kernel_rfl), ⟨F1, n1, cs1, y, rfl, hG, hMv, ⟨hle, hsub, hy.1, fun be hm => by rw [hy.2 be hm, show i = mm by omega]⟩, by omega⟩⟩

end Go.Proofs.YtnlecdpiccgdpaaV

set_option linter.unusedVariables false
set_option linter.unusedSimpArgs false
namespace Go.Proofs.YtnlecdpiccgdpaaV
open Go Go.RowKit Go.Proofs

/-- What comes of Divide. -/
def DivR (F : Nat → Prop) (p n : Nat) (cs : List (List Nat)) (I : Nat → Prop) (w : World) (m d : Nat) (f g : (Nat → Bool) → Nat → Bool) (v : Value) (w' : World) : Prop :=
  ∃ F' n' cs' Q R q r, v = .tuple #[.slice Q m m, .slice R m m] ∧ q.length = m ∧ r.length = m ∧ RdX F' w' m Q (nats q) ∧ RdX F' w' m R (nats r) ∧ (∀ c, blkOf Q = some c → w.heap.size ≤ c) ∧ (∀ c, blkOf R = some c → w.heap.size ≤ c) ∧ GObj F' w' p n' cs' I ∧ Mv F F' w w' ∧ Rw n cs n' cs' m q f ∧ Rw n cs n' cs' m r g ∧ n' ≤ n + d

set_option maxRecDepth 100000 in
set_option maxHeartbeats 1000000 in
theorem div_ok (F : Nat → Prop) (p n mm ca cb : Nat) (A B : Option Addr) (a b : List Nat)  (cs : List (List Nat)) (I : Nat → Prop) (w : World) (hG : GObj F w p n cs I) (hA : RdX F w mm A (nats a)) (hB : RdX F w mm B (nats b)) (hfa : ∀ j, j < mm → a.getD j 0 / 2 < n) (hfb : ∀ j, j < mm → b.getD j 0 / 2 < n) (hm : 0 < mm) (hm2 : mm ≤ 900) (hn : n ≤ 40000000000) (hcb : mm ≤ cb) : Ret Try.prog 37 [.pointer (some ⟨p, 0, none⟩), .slice A mm ca, .slice B mm cb] w fun v w' => DivR F p n cs I w mm 8000000 (fun be t => quoB (bval mm (fun j => lt_ be (a.getD j 0))) (bval mm (fun j => lt_ be (b.getD j 0))) t) (fun be t => (remN (bval mm (fun j => lt_ be (a.getD j 0))) (bval mm (fun j => lt_ be (b.getD j 0))) 0).testBit t) v w' := by
  have hMv := Mv.refl F w
  have hla : a.length = mm := by have := hA.1.1; rw [nats_length] at this; omega
  have hlb : b.length = mm := by have := hB.1.1; rw [nats_length] at this; omega
  have hAr := hA.1
  have hBr := hB.1
  have lt_hA := hA.lt
  have lt_hB := hB.lt
  have ge_hA : ∀ c, blkOf A = some c → 0 ≤ c := fun c _ => Nat.zero_le c
  have ge_hB : ∀ c, blkOf B = some c → 0 ≤ c := fun c _ => Nat.zero_le c
  have hff_a := hfa
  have hff_b := hfb
  have hpos := hG.2.pos
  refine enter Try.func37 rfl rfl ?_
  refine W_seq ?_
  refine W_region (by kernel_rfl) ?_
  refine sg [(6, .slice none 0 0), (7, .slice none 0 0)] (by kernel_rfl) ?_
  refine op_nil ?_
  refine W_seq ?_
  refine W_seq ?_
  refine W_region (by kernel_rfl) ?_
  refine sg [(14, .pointer (some ⟨p, 0, none⟩)), (15, .slice A mm ca), (16, .slice B mm cb)] (by kernel_rfl) ?_
  refine st (by rfl) (S_call (args := [.pointer (some ⟨p, 0, none⟩), .int .i64 0, .slice A mm ca, .slice B mm cb]) (by kernel_rfl) (itr_ok F p n mm ca cb A B a b 0 cs I _ hG hA hB hfa hfb hm (by omega) (by omega) (by have := hG.2.pos; omega)) ?_)
  rintro _ w1 ⟨F2, n3, cs4, g5, r6, rfl, hrl7, hX8, hg9, hG, hm10, hrw11, hd12⟩
  have hMv := hMv.trans hm10
  have hA := hA.mv hm10
  have hAr := hA.1
  have hB := hB.mv hm10
  have hBr := hB.1
  have hle13 := hrw11.le
  refine sg [(18, .int .i64 (mm : Int)), (19, .bool ((mm : Int) == 0))] (by kernel_rfl) ?_
  refine op_nil ?_
  refine W_cond ((mm : Int) == 0) (by kernel_rfl) (by kernel_rfl) (fun hc14 => ?_) (fun hc14 => ?_)
  · replace hc14 : (mm : Int) = 0 := (eq_of_beq hc14)
    exfalso; omega
  · replace hc14 : (mm : Int) ≠ 0 := (ne_of_beq_false hc14)
    refine W_skip ?_
    refine W_seq ?_
    refine W_fg [(0, .pointer (some ⟨p, 0, none⟩)), (1, .slice A mm ca), (2, .slice B mm cb), (6, .slice none 0 0), (7, .slice none 0 0), (19, .bool ((mm : Int) == 0))] (by kernel_rfl) fun ρ => ?_
    refine W_region (by kernel_rfl) ?_
    refine sg [(20, .slice A mm ca), (21, .int .i64 (mm : Int)), (8, .int .i64 (mm : Int))] (by kernel_rfl) ?_
    refine op_nil ?_
    refine W_seq ?_
    refine W_region (by kernel_rfl) ?_
    refine sg [(22, .pointer (some ⟨p, 0, none⟩))] (by kernel_rfl) ?_
    refine st (by rfl) (S_call (args := [.pointer (some ⟨p, 0, none⟩)]) (by kernel_rfl) (true_ok p _) ?_)
    rintro _ w15 ⟨rfl, hT16⟩
    have hG := hG.tch0 hT16
    have hMv := hMv.then0 hT16
    have hA := hA.tch0 hT16
    have hAr := hA.1
    have hB := hB.tch0 hT16
    have hBr := hB.1
    refine st (by rfl) (S_call (args := [.int .i64 0]) (by kernel_rfl) (not_ok 0 _ (by omega)) ?_)
    rintro _ w17 ⟨rfl, hT18⟩
    have hG := hG.tch0 hT18
    have hMv := hMv.then0 hT18
    have hA := hA.tch0 hT18
    have hAr := hA.1
    have hB := hB.tch0 hT18
    have hBr := hB.1
    have hnt19 := GateP.nt_div 0
    refine sg [(9, .int .i64 ((GateP.nt 0 : Nat) : Int))] (by kernel_rfl) ?_
    refine op_nil ?_
    refine W_seq ?_
    have hBt := hB.headT (h := mm) (cp := mm) (by omega)
    have lt_hBt := hBt.lt
    have ge_hBt : ∀ c, blkOf (slA B 0 mm) = some c → 0 ≤ c := fun c _ => Nat.zero_le c
    obtain ⟨bO, oO, eO⟩ := hB.addr hm
    obtain ⟨oL, eL⟩ := slA_some bO oO 0 mm
    have eBt : ∃ b off, slA B 0 mm = some ⟨b, off, none⟩ := ⟨bO, oL, by rw [eO]; exact eL⟩
    refine W_region (by kernel_rfl) ?_
    refine sg [(25, .slice B mm cb), (26, .int .i64 (mm : Int)), (27, .int .i64 (mm : Int))] (by kernel_rfl) ?_
    refine stv (v := .slice (slA B 0 ((mm : Int).toNat)) ((mm : Int).toNat) ((mm : Int).toNat)) (by rfl) (R_sliceHM (A := B) (n := mm) (cp := cb) ((mm : Int).toNat) ((mm : Int).toNat) (by kernel_rfl) (by kernel_rfl) (by kernel_rfl) (by kernel_rfl) (by kernel_rfl) (by omega) (by omega)) ?_
    refine sg [(29, .int .i64 ((GateP.nt 0 : Nat) : Int))] (by kernel_rfl) ?_
    have hlt_ := hG.1.lt
    have hz24 := hMv.1.size
    refine st (by rfl) (S_new (v := .slice (some ⟨w17.heap.size, 0, none⟩) 1 1) (ob := .cells #[.int .i64 ((GateP.nt 0 : Nat) : Int)] 3) (by kernel_rfl) fun w20 hT21 hs22 hB23 => ?_)
    replace hB23 : Blk w20 (w17.heap.size) 3 [.int .i64 ((GateP.nt 0 : Nat) : Int)] := hB23
    have hG := hG.tch0 hT21
    have hMv := hMv.then0 hT21
    have hA := hA.tch0 hT21
    have hAr := hA.1
    have hB := hB.tch0 hT21
    have hBr := hB.1
    have hBt := hBt.tch0 hT21
    have nF_hB23 : ¬ F2 (w17.heap.size) := fun e => by have := hlt_ _ e; omega
    have lt30 := hB23.lt
    have hltM := hG.1.lt
    have hzM := hMv.1.size
    refine st (by rfl) (S_appendG 27 3 (.int .i64 0) 8 (n := (mm : Int).toNat) (m := 1) (A := slA B 0 ((mm : Int).toNat)) (B := some ⟨w17.heap.size, 0, none⟩) (cp := (mm : Int).toNat) (c := 1) (cells := nats (b.take mm)) (news := [.int .i64 ((GateP.nt 0 : Nat) : Int)]) (by kernel_rfl) (by rfl) (by kernel_rfl) (by kernel_rfl) (by kernel_rfl) hBt.1 eBt (hB23.rd 1 1 (by rfl) (by omega)) (by omega) (by omega) (by simp only [maxLen]; omega) (by omega) fun g27 cp28 sp29 w25 hG231 hl32 hc133 hc234 hg235 hT26 => ?_)
    have hG := hG.tch0 hT26
    have hMv := hMv.then0 hT26
    have hA := hA.tch0 hT26
    have hAr := hA.1
    have hB := hB.tch0 hT26
    have hBr := hB.1
    have hBt := hBt.tch0 hT26
    have hB23 := hB23.tch0 hT26
    have hY : RdX F2 w25 (mm + 1) (some ⟨g27, 0, none⟩) (nats (b.take mm ++ [GateP.nt 0])) := RdX.ofP (sp := sp29) (by rw [nats_append]; exact hG231) (by rw [nats_length]; simp only [List.length_append, List.length_take, List.length_cons, List.length_nil]; omega) (by omega) (fun e => by have := hltM _ e; omega)
    have lt_hY := hY.lt
    have ge_hY : ∀ c, blkOf (some ⟨g27, 0, none⟩) = some c → 0 ≤ c := fun c _ => Nat.zero_le c
    refine sg [(10, .slice (some ⟨g27, 0, none⟩) (mm + 1) cp28)] (by kernel_rfl) ?_
    refine op_nil ?_
    refine W_seq ?_
    refine W_fg [(0, .pointer (some ⟨p, 0, none⟩)), (1, .slice A mm ca), (2, .slice B mm cb), (6, .slice none 0 0), (7, .slice none 0 0), (8, .int .i64 (mm : Int)), (9, .int .i64 ((GateP.nt 0 : Nat) : Int)), (10, .slice (some ⟨g27, 0, none⟩) (mm + 1) cp28), (19, .bool ((mm : Int) == 0))] (by kernel_rfl) fun ρ => ?_
    refine W_region (by kernel_rfl) ?_
    refine sg [(32, .pointer (some ⟨p, 0, none⟩)), (33, .int .i64 (mm : Int)), (34, .int .i64 (IntKind.i64.wrap ((mm : Int) + 1)))] (by kernel_rfl) ?_
    rw [show IntKind.i64.wrap ((mm : Int) + 1) = (mm : Int) + 1 from wrap_i64 (by omega) (by omega)]
    refine fixR (y := ((mm + 1 : Nat) : Int)) (by omega) ?_
    have hltM := hG.1.lt
    have hzM := hMv.1.size
    refine st (by rfl) (S_call (args := [.pointer (some ⟨p, 0, none⟩), .int .i64 ((mm + 1 : Nat) : Int)]) (by kernel_rfl) (zeros_ok p (mm + 1) _ (by omega)) ?_)
    rintro _ w36 ⟨g37, r38, sp39, rfl, hrl40, hBq41, hg42, hcv43, hT44⟩
    have hG := hG.tch0 hT44
    have hMv := hMv.then0 hT44
    have hA := hA.tch0 hT44
    have hAr := hA.1
    have hB := hB.tch0 hT44
    have hBr := hB.1
    have hBt := hBt.tch0 hT44
    have hB23 := hB23.tch0 hT44
    have hY := hY.tch0 hT44
    have hX45 := RdX.ofP (m := mm + 1) (F := F2) hBq41 (by rw [nats_length]; exact hrl40) (by omega) (fun e => by have := hltM _ e; omega)
    have lt_hX45 := hX45.lt
    have ge_hX45 : ∀ c, blkOf (some ⟨g37, 0, none⟩) = some c → 0 ≤ c := fun c _ => Nat.zero_le c
    refine sg [(11, .slice (some ⟨g37, 0, none⟩) (mm + 1) (2 * (mm + 1)))] (by kernel_rfl) ?_
    refine op_nil ?_
    refine W_seq ?_
    have lt_hY := hY.lt
    have lt_hX45 := hX45.lt
    refine W_region (by kernel_rfl) ?_
    refine sg [(36, .int .i64 (mm : Int))] (by kernel_rfl) ?_
    have hlt_ := hG.1.lt
    have hz50 := hMv.1.size
    have lt51 := hB23.lt
    refine st (by rfl) (S_make 27 3 (.int .i64 0) 1 8 (k1 := .i64) (k2 := .i64) (l := (mm : Int)) (c := (mm : Int)) (by kernel_rfl) (by kernel_rfl) (by kernel_rfl) (by kernel_rfl) (by omega) (by omega) (by omega) (by omega) fun w46 hT47 hs48 hB49 => ?_)
    replace hB49 : Blk w46 (w36.heap.size) 3 (nats (List.replicate ((mm : Int).toNat) 0) ++ []) := by rw [← mz_nats]; exact hB49
    have hG := hG.tch0 hT47
    have hMv := hMv.then0 hT47
    have hA := hA.tch0 hT47
    have hAr := hA.1
    have hB := hB.tch0 hT47
    have hBr := hB.1
    have hBt := hBt.tch0 hT47
    have hB23 := hB23.tch0 hT47
    have hY := hY.tch0 hT47
    have hX45 := hX45.tch0 hT47
    have nF_hB49 : ¬ F2 (w36.heap.size) := fun e => by have := hlt_ _ e; omega
    refine sg [(12, .slice (some ⟨w36.heap.size, 0, none⟩) ((mm : Int).toNat) ((mm : Int).toNat))] (by kernel_rfl) ?_
    refine op_nil ?_
    refine W_seq ?_
    refine W_seq ?_
    refine W_fg [(0, .pointer (some ⟨p, 0, none⟩)), (1, .slice A mm ca), (2, .slice B mm cb), (6, .slice none 0 0), (7, .slice none 0 0), (8, .int .i64 (mm : Int)), (9, .int .i64 ((GateP.nt 0 : Nat) : Int)), (10, .slice (some ⟨g27, 0, none⟩) (mm + 1) cp28), (11, .slice (some ⟨g37, 0, none⟩) (mm + 1) (2 * (mm + 1))), (12, .slice (some ⟨w36.heap.size, 0, none⟩) ((mm : Int).toNat) ((mm : Int).toNat)), (19, .bool ((mm : Int) == 0))] (by kernel_rfl) fun ρ => ?_
    have hgq : w.heap.size ≤ w36.heap.size := by have := hMv.1.size; omega
    refine W_region (by kernel_rfl) ?_
    refine sg [(38, .int .i64 (mm : Int)), (39, .int .i64 (IntKind.i64.wrap ((mm : Int) - 1)))] (by kernel_rfl) ?_
    rw [show IntKind.i64.wrap ((mm : Int) - 1) = (mm : Int) - 1 from wrap_i64 (by omega) (by omega)]
    refine sg [(13, .int .i64 ((mm : Int) - 1))] (by kernel_rfl) ?_
    refine op_nil ?_
    refine W_block ?_
    refine W_loop (fun m ρ w' => ∃ (F1 : Nat → Prop) (n1 : Nat) (cs1 : List (List Nat)) (Ar : Option Addr) (car : Nat) (o q : List Nat) (k : Nat) (ρ0 : Env), ρ = updL ρ0 [(0, .pointer (some ⟨p, 0, none⟩)), (1, .slice A mm ca), (2, .slice B mm cb), (6, .slice none 0 0), (7, .slice none 0 0), (8, .int .i64 (mm : Int)), (9, .int .i64 ((GateP.nt 0 : Nat) : Int)), (10, .slice (some ⟨g27, 0, none⟩) (mm + 1) cp28), (11, .slice Ar (mm + 1) car), (12, .slice (some ⟨w36.heap.size, 0, none⟩) ((mm : Int).toNat) ((mm : Int).toNat)), (13, .int .i64 (((k : Nat) : Int) - 1))] ∧ (k ≤ mm) ∧ (o.length = mm + 1) ∧ (q.length = mm) ∧ (Rw n cs n1 cs1 (mm + 1) o (fun be t => (remN (bval mm (fun j => lt_ be (a.getD j 0))) (bval mm (fun j => lt_ be (b.getD j 0))) k).testBit t)) ∧ (Qw n cs n1 cs1 k mm q (fun be t => quoB (bval mm (fun j => lt_ be (a.getD j 0))) (bval mm (fun j => lt_ be (b.getD j 0))) t)) ∧ (n1 + 8100 * k ≤ n + 1000 + 8100 * mm) ∧ (mm ≤ car) ∧ (∀ c, blkOf Ar = some c → w.heap.size ≤ c) ∧ (¬ F1 (w36.heap.size)) ∧ (∀ c, blkOf Ar = some c → c ≠ w36.heap.size) ∧ GObj F1 w' p n1 cs1 I ∧ Mv F F1 w w' ∧ RdX F1 w' mm A (nats a) ∧ RdW w' 1 mm A (nats a) ∧ RdX F1 w' mm B (nats b) ∧ RdW w' 1 mm B (nats b) ∧ RdX F1 w' (mm + 1) Ar (nats o) ∧ RdX F1 w' (mm + 1) (some ⟨g27, 0, none⟩) (nats (b.take mm ++ [GateP.nt 0])) ∧ Blk w' (w36.heap.size) 3 (nats q ++ []) ∧ m = k + 1) (m := mm + 1) ?_ ?_
    · refine ⟨F2, n3, cs4, some ⟨g37, 0, none⟩, 2 * (mm + 1), r38, List.replicate mm 0, mm, _, updL_self (by kernel_rfl), by omega, hrl40, by simp, ⟨hrw11.le, hrw11.sub, fun j hj => by rw [hcv43 j hj]; have := hG.2.pos; show (1 : Nat) / 2 < _; omega, fun be hm j hj => by rw [hcv43 j hj]; show lt_ be (GateP.nt 0) = _; rw [show remN (bval mm (fun j => lt_ be (a.getD j 0))) (bval mm (fun j => lt_ be (b.getD j 0))) mm = 0 from remN_top (bval_lt _ _), Nat.zero_testBit]; exact hG.2.t1 hm⟩, ⟨hrw11.le, hrw11.sub, fun t h1 h2 => by omega, fun be hm t h1 h2 => by omega⟩, by omega, by omega, (fun c hc => by have e : g37 = c := (by injection hc); omega), nF_hB49, (fun c hc e => by have e1 : g37 = c := (by injection hc); have := lt_hX45 c hc; omega), hG, hMv, hA, hAr, hB, hBr, hX45, hY, hB49, rfl⟩
    · rintro m ρ w52 ⟨F1, n1, cs1, Ar, car, o, q, k, ρ, rfl, hk, hol, hql, hrw, hqw, hd, hca, hgo, nF_hQ, hgo2, hG, hMv, hA, hAr, hB, hBr, hO, hY, hQ, rfl⟩
      have hle_ := hrw.le
      have fa := fun (z : Nat) (h : z < mm) => hfa z h
      have hpos := hG.2.pos
      have lt_hO := hO.lt
      have ge_hO : ∀ c, blkOf Ar = some c → 0 ≤ c := fun c _ => Nat.zero_le c
      have hyf := wide_fit hlb hfb (show 0 < n by omega)
      have lt_hQ := hQ.lt
      refine W_seq ?_
      refine W_seq ?_
      refine W_region (by kernel_rfl) ?_
      refine sg [(40, .int .i64 (((k : Nat) : Int) - 1)), (41, .bool (decide (((k : Nat) : Int) - 1 ≥ 0)))] (by kernel_rfl) ?_
      refine op_nil ?_
      refine W_cond (decide (((k : Nat) : Int) - 1 ≥ 0)) (by kernel_rfl) (by kernel_rfl) (fun hc53 => ?_) (fun hc53 => ?_)
      · replace hc53 : 0 ≤ ((k : Nat) : Int) - 1 := (of_decide_eq_true hc53)
        refine W_skip ?_
        refine W_seq ?_
        refine W_block ?_
        refine W_seq ?_
        have hG1 := hG
        obtain ⟨j, hj⟩ : ∃ j : Nat, ((k : Nat) : Int) - 1 = ((j : Nat) : Int) := ⟨k - 1, by omega⟩
        rw [hj]
        have hkj : k = j + 1 := by omega
        subst hkj
        have hjm : j < mm := by omega
        have faj := hfa j hjm
        have hLo := hO.headT (h := mm) (cp := mm) (by omega)
        have lt_hLo := hLo.lt
        have ge_hLo : ∀ c, blkOf (slA Ar 0 mm) = some c → 0 ≤ c := fun c _ => Nat.zero_le c
        have hcf := cons_fit (o := o) (mm := mm) faj hle_ hrw.fit
        refine W_draw (fun w' => RdW w' 1 mm A (nats a)) (by kernel_rfl) (by kernel_rfl) (by kernel_rfl) fun w54 hT55 hh56 => ?_
        have hG := hG.tch0 hT55
        have hMv := hMv.then0 hT55
        have hA := hA.tch0 hT55
        have hAr := hA.1
        have hB := hB.tch0 hT55
        have hBr := hB.1
        have hO := hO.tch0 hT55
        have hY := hY.tch0 hT55
        have hQ := hQ.tch0 hT55
        have hLo := hLo.tch0 hT55
        refine dtk [0, 1, 5, 6, 7] #[true, true, false, false, false, true, true, true, false, false, false] [(44, .slice A mm ca), (45, .int .i64 ((j : Nat) : Int)), (49, .slice Ar (mm + 1) car), (50, .int .i64 (mm : Int)), (51, .int .i64 (mm : Int))] hAr (by kernel_rfl) ?_
        refine d_val (v := ptrAt A j) 2 (by rfl) (by kernel_rfl) (by kernel_rfl) (by kernel_rfl) (fun w' hs => by have hAr := hs; exact R_indexRd1 (len := mm) (cap := ca) (k := .i64) (i := ((j : Nat) : Int)) (e := 3) j hAr (by kernel_rfl) (by kernel_rfl) (by kernel_rfl) (by kernel_rfl) rfl (by omega)) hAr ?_
        refine d_val (v := .int .i64 ((a.getD j 0 : Nat) : Int)) 3 (by rfl) (by kernel_rfl) (by kernel_rfl) (by kernel_rfl) (fun w' hs => by have hAr := hs; exact R_loadRd (v := .int .i64 ((a.getD j 0 : Nat) : Int)) hAr (by omega) (by kernel_rfl) (by kernel_rfl) (nats_at (l := a) (by omega))) hAr ?_
        refine d_val (v := .slice (slA Ar 0 ((mm : Int).toNat)) ((mm : Int).toNat) ((mm : Int).toNat)) 8 (by rfl) (by kernel_rfl) (by kernel_rfl) (by kernel_rfl) (fun w' hs => by have hAr := hs; exact R_sliceHM (A := Ar) (n := mm + 1) (cp := car) ((mm : Int).toNat) ((mm : Int).toNat) (by kernel_rfl) (by kernel_rfl) (by kernel_rfl) (by kernel_rfl) (by kernel_rfl) (by omega) (by omega)) hAr ?_
        have hlt_ := hG.1.lt
        have hz61 := hMv.1.size
        have lt62 := hQ.lt
        refine d_one 4 (by kernel_rfl) (by rfl) (by kernel_rfl) (S_new (v := .slice (some ⟨w54.heap.size, 0, none⟩) 1 1) (ob := .cells #[.int .i64 ((a.getD j 0 : Nat) : Int)] 3) (by kernel_rfl) fun w57 hT58 hs59 hB60 => ?_)
        replace hB60 : Blk w57 (w54.heap.size) 3 [.int .i64 ((a.getD j 0 : Nat) : Int)] := hB60
        have hG := hG.tch0 hT58
        have hMv := hMv.then0 hT58
        have hA := hA.tch0 hT58
        have hAr := hA.1
        have hB := hB.tch0 hT58
        have hBr := hB.1
        have hO := hO.tch0 hT58
        have hY := hY.tch0 hT58
        have hQ := hQ.tch0 hT58
        have hLo := hLo.tch0 hT58
        have nF_hB60 : ¬ F1 (w54.heap.size) := fun e => by have := hlt_ _ e; omega
        refine ⟨hAr, ?_⟩
        have lt68 := hQ.lt
        have lt69 := hB60.lt
        have hltM := hG.1.lt
        have hzM := hMv.1.size
        refine d_one 9 (by kernel_rfl) (by rfl) (by kernel_rfl) (S_appendG 27 3 (.int .i64 0) 8 (n := 1) (m := (mm : Int).toNat) (A := some ⟨w54.heap.size, 0, none⟩) (B := slA Ar 0 ((mm : Int).toNat)) (cp := 1) (c := (mm : Int).toNat) (cells := [.int .i64 ((a.getD j 0 : Nat) : Int)]) (news := nats (o.take mm)) (by kernel_rfl) (by rfl) (by kernel_rfl) (by kernel_rfl) (by kernel_rfl) (hB60.rd 1 1 (by rfl) (by omega)) ⟨_, _, rfl⟩ hLo.1 (by omega) (by omega) (by simp only [maxLen]; omega) (by omega) fun g65 cp66 sp67 w63 hG270 hl71 hc172 hc273 hg274 hT64 => ?_)
        have hG := hG.tch0 hT64
        have hMv := hMv.then0 hT64
        have hA := hA.tch0 hT64
        have hAr := hA.1
        have hB := hB.tch0 hT64
        have hBr := hB.1
        have hO := hO.tch0 hT64
        have hY := hY.tch0 hT64
        have hQ := hQ.tch0 hT64
        have hLo := hLo.tch0 hT64
        have hB60 := hB60.tch0 hT64
        rw [show 1 + ((mm : Int).toNat) = mm + 1 by omega]
        replace hc172 : mm + 1 ≤ cp66 := by omega
        have hN : RdX F1 w63 (mm + 1) (some ⟨g65, 0, none⟩) (nats (a.getD j 0 :: o.take mm)) := RdX.ofP (sp := sp67) hG270 (by rw [nats_length]; simp only [List.length_append, List.length_take, List.length_cons, List.length_nil]; omega) (by omega) (fun e => by have := hltM _ e; omega)
        have lt_hN := hN.lt
        have ge_hN : ∀ c, blkOf (some ⟨g65, 0, none⟩) = some c → 0 ≤ c := fun c _ => Nat.zero_le c
        refine ⟨hAr, ?_⟩
        refine dtk [10] #[true, true, true, true, true, true, true, true, true, true, true] [(11, .slice (some ⟨g65, 0, none⟩) (mm + 1) cp66)] hAr (by kernel_rfl) ?_
        refine d_done (by kernel_rfl) ?_
        refine W_seq ?_
        refine W_fg [(0, .pointer (some ⟨p, 0, none⟩)), (1, .slice A mm ca), (2, .slice B mm cb), (6, .slice none 0 0), (7, .slice none 0 0), (8, .int .i64 (mm : Int)), (9, .int .i64 ((GateP.nt 0 : Nat) : Int)), (10, .slice (some ⟨g27, 0, none⟩) (mm + 1) cp28), (11, .slice (some ⟨g65, 0, none⟩) (mm + 1) cp66), (12, .slice (some ⟨w36.heap.size, 0, none⟩) ((mm : Int).toNat) ((mm : Int).toNat)), (13, .int .i64 ((j : Nat) : Int)), (41, .bool (decide (((j : Nat) : Int) ≥ 0)))] (by kernel_rfl) fun ρ => ?_
        refine W_region (by kernel_rfl) ?_
        refine sg [(54, .slice (some ⟨w36.heap.size, 0, none⟩) ((mm : Int).toNat) ((mm : Int).toNat)), (55, .int .i64 ((j : Nat) : Int)), (56, .pointer (some ⟨p, 0, none⟩)), (57, .slice (some ⟨g65, 0, none⟩) (mm + 1) cp66), (58, .slice (some ⟨g27, 0, none⟩) (mm + 1) cp28)] (by kernel_rfl) ?_
        have lt83 := hQ.lt
        have lt84 := hB60.lt
        have hzM := hMv.1.size
        refine st (by rfl) (S_call (args := [.pointer (some ⟨p, 0, none⟩), .slice (some ⟨g65, 0, none⟩) (mm + 1) cp66, .slice (some ⟨g27, 0, none⟩) (mm + 1) cp28]) (by kernel_rfl) (less_ok F1 p n1 (mm + 1) cp66 cp28 (some ⟨g65, 0, none⟩) (some ⟨g27, 0, none⟩) (a.getD j 0 :: o.take mm) (b.take mm ++ [GateP.nt 0]) cs1 I _ hG hN hY hcf (fun t ht => by have := hyf t ht; omega) (by omega) (by omega) (by omega)) ?_)
        rintro _ w75 ⟨F76, n77, cs78, x79, rfl, hG, hm80, hr81, hd82⟩
        have hMv := hMv.trans hm80
        have hA := hA.mv hm80
        have hAr := hA.1
        have hB := hB.mv hm80
        have hBr := hB.1
        have hO := hO.mv hm80
        have hY := hY.mv hm80
        have hQ := hQ.tch hm80.1 nF_hQ
        have hLo := hLo.mv hm80
        have hB60 := hB60.tch hm80.1 nF_hB60
        have hN := hN.mv hm80
        have hle85 := hr81.1
        have hxb86 := hr81.2.2.1
        replace nF_hQ : ¬ F76 (w36.heap.size) := fun e => (hm80.2 _ e).elim nF_hQ (fun q => by omega)
        replace nF_hB60 : ¬ F76 (w54.heap.size) := fun e => (hm80.2 _ e).elim nF_hB60 (fun q => by omega)
        refine st (by rfl) (S_call (args := [.int .i64 ((x79 : Nat) : Int)]) (by kernel_rfl) (not_ok x79 _ (by omega)) ?_)
        rintro _ w87 ⟨rfl, hT88⟩
        have hG := hG.tch0 hT88
        have hMv := hMv.then0 hT88
        have hA := hA.tch0 hT88
        have hAr := hA.1
        have hB := hB.tch0 hT88
        have hBr := hB.1
        have hO := hO.tch0 hT88
        have hY := hY.tch0 hT88
        have hQ := hQ.tch0 hT88
        have hLo := hLo.tch0 hT88
        have hB60 := hB60.tch0 hT88
        have hN := hN.tch0 hT88
        have hnt89 := GateP.nt_div x79
        refine stv (v := .pointer (some ⟨w36.heap.size, j, none⟩)) (by rfl) (R_index0 (b := w36.heap.size) (len := (mm : Int).toNat) (cap := (mm : Int).toNat) (k := .i64) (i := ((j : Nat) : Int)) (e := 3) j (by kernel_rfl) (by kernel_rfl) (by kernel_rfl) (by kernel_rfl) rfl (by first | omega | (simp only [List.length_set, List.length_map]; omega))) ?_
        refine st (by rfl) (S_store (b := w36.heap.size) (j := j) (v := .int .i64 ((GateP.nt x79 : Nat) : Int)) (by kernel_rfl) (by kernel_rfl) (by kernel_rfl) (by rfl) hQ (by rw [List.length_append, nats_length]; (first | omega | (simp only [List.length_set, List.length_map]; omega))) fun w90 hT91 hs92 hQ' => ?_)
        have hG := hG.tchS hT91 (fun c e q => by cases e; exact nF_hQ q)
        have hMv := hMv.newst hT91 (by omega)
        have hA := hA.st hT91 (fun c hc e => by have h1 := lt_hA c hc; have h2 := ge_hA c hc; have : c = w36.heap.size := e; omega)
        have hAr := hA.1
        have hB := hB.st hT91 (fun c hc e => by have h1 := lt_hB c hc; have h2 := ge_hB c hc; have : c = w36.heap.size := e; omega)
        have hBr := hB.1
        have hO := hO.st hT91 (fun c hc e => hgo2 c hc e)
        have hY := hY.st hT91 (fun c hc e => by have h1 := lt_hY c hc; have h2 := ge_hY c hc; have : c = w36.heap.size := e; omega)
        have hLo := hLo.st hT91 (fun c hc e => hgo2 c (by rw [slA_blk] at hc; exact hc) e)
        have hB60 := hB60.tch hT91 (fun e => by have : w54.heap.size = w36.heap.size := e; omega)
        have hN := hN.st hT91 (fun c hc e => by have e1 : g65 = c := (by injection hc); have e2 : c = _ := e; omega)
        replace hQ : Blk w90 (w36.heap.size) 3 (nats (q.set j (GateP.nt x79)) ++ []) := (nats_setP (l := q) (sp := []) (i := j) (GateP.nt x79) (by first | omega | (simp only [List.length_set, List.length_map]; omega))) ▸ hQ'
        refine op_nil ?_
        refine W_fg [(0, .pointer (some ⟨p, 0, none⟩)), (1, .slice A mm ca), (2, .slice B mm cb), (6, .slice none 0 0), (7, .slice none 0 0), (8, .int .i64 (mm : Int)), (9, .int .i64 ((GateP.nt 0 : Nat) : Int)), (10, .slice (some ⟨g27, 0, none⟩) (mm + 1) cp28), (11, .slice (some ⟨g65, 0, none⟩) (mm + 1) cp66), (12, .slice (some ⟨w36.heap.size, 0, none⟩) ((mm : Int).toNat) ((mm : Int).toNat)), (13, .int .i64 ((j : Nat) : Int)), (41, .bool (decide (((j : Nat) : Int) ≥ 0)))] (by kernel_rfl) fun ρ => ?_
        refine W_draw (fun w' => Blk w' (w36.heap.size) 3 (nats (q.set j (GateP.nt x79)) ++ [])) (by kernel_rfl) (by kernel_rfl) (by kernel_rfl) fun w93 hT94 hh95 => ?_
        have hG := hG.tch0 hT94
        have hMv := hMv.then0 hT94
        have hA := hA.tch0 hT94
        have hAr := hA.1
        have hB := hB.tch0 hT94
        have hBr := hB.1
        have hO := hO.tch0 hT94
        have hY := hY.tch0 hT94
        have hQ := hQ.tch0 hT94
        have hLo := hLo.tch0 hT94
        have hB60 := hB60.tch0 hT94
        have hN := hN.tch0 hT94
        refine dtk [0, 1, 2, 5, 6, 7, 9] #[true, true, true, false, false, true, true, true, false, true, false, false] [(62, .pointer (some ⟨p, 0, none⟩)), (63, .slice (some ⟨w36.heap.size, 0, none⟩) ((mm : Int).toNat) ((mm : Int).toNat)), (64, .int .i64 ((j : Nat) : Int)), (67, .pointer (some ⟨p, 0, none⟩)), (68, .slice (some ⟨g65, 0, none⟩) (mm + 1) cp66), (69, .slice (some ⟨g27, 0, none⟩) (mm + 1) cp28), (71, .slice (some ⟨g65, 0, none⟩) (mm + 1) cp66)] hQ (by kernel_rfl) ?_
        refine d_val (v := .pointer (some ⟨w36.heap.size, j, none⟩)) 3 (by rfl) (by kernel_rfl) (by kernel_rfl) (by kernel_rfl) (fun w' hs => by have hQ := hs; exact R_index0 (b := w36.heap.size) (len := (mm : Int).toNat) (cap := (mm : Int).toNat) (k := .i64) (i := ((j : Nat) : Int)) (e := 3) j (by kernel_rfl) (by kernel_rfl) (by kernel_rfl) (by kernel_rfl) rfl (by first | omega | (simp only [List.length_set, List.length_map]; omega))) hQ ?_
        refine d_val (v := .int .i64 (((q.set j (GateP.nt x79)).getD j 0 : Nat) : Int)) 4 (by rfl) (by kernel_rfl) (by kernel_rfl) (by kernel_rfl) (fun w' hs => by have hQ := hs; exact R_load (v := .int .i64 (((q.set j (GateP.nt x79)).getD j 0 : Nat) : Int)) (by kernel_rfl) (by kernel_rfl) ((hQ.cell _).trans (nats_atP (by first | omega | (simp only [List.length_set, List.length_map]; omega))))) hQ ?_
        have lt108 := hQ.lt
        have lt109 := hB60.lt
        have hzM := hMv.1.size
        refine d_one 8 (by kernel_rfl) (by rfl) (by kernel_rfl) (S_call (args := [.pointer (some ⟨p, 0, none⟩), .slice (some ⟨g65, 0, none⟩) (mm + 1) cp66, .slice (some ⟨g27, 0, none⟩) (mm + 1) cp28]) (by kernel_rfl) (rsub_ok F76 p n77 (mm + 1) cp66 cp28 (some ⟨g65, 0, none⟩) (some ⟨g27, 0, none⟩) (a.getD j 0 :: o.take mm) (b.take mm ++ [GateP.nt 0]) cs78 I _ hG hN hY (fun t ht => by have := hcf t ht; omega) (fun t ht => by have := hyf t ht; omega) (by omega) (by omega) (by omega)) ?_)
        rintro _ w96 ⟨F97, n98, cs99, g100, r101, rfl, hrl102, hX103, hg104, hG, hm105, hrw106, hd107⟩
        have hMv := hMv.trans hm105
        have hA := hA.mv hm105
        have hAr := hA.1
        have hB := hB.mv hm105
        have hBr := hB.1
        have hO := hO.mv hm105
        have hY := hY.mv hm105
        have hQ := hQ.tch hm105.1 nF_hQ
        have hLo := hLo.mv hm105
        have hB60 := hB60.tch hm105.1 nF_hB60
        have hN := hN.mv hm105
        have hle110 := hrw106.le
        replace nF_hQ : ¬ F97 (w36.heap.size) := fun e => (hm105.2 _ e).elim nF_hQ (fun q => by omega)
        replace nF_hB60 : ¬ F97 (w54.heap.size) := fun e => (hm105.2 _ e).elim nF_hB60 (fun q => by omega)
        have lt_hX103 := hX103.lt
        have ge_hX103 : ∀ c, blkOf (some ⟨g100, 0, none⟩) = some c → 0 ≤ c := fun c _ => Nat.zero_le c
        refine ⟨hQ, ?_⟩
        have hqj : (q.set j (GateP.nt x79)).getD j 0 = GateP.nt x79 := by rw [setN _ _ _ _ (by omega), if_pos rfl]
        have lt123 := hQ.lt
        have lt124 := hB60.lt
        have hzM := hMv.1.size
        refine d_one 10 (by kernel_rfl) (by rfl) (by kernel_rfl) (S_call (args := [.pointer (some ⟨p, 0, none⟩), .int .i64 (((q.set j (GateP.nt x79)).getD j 0 : Nat) : Int), .slice (some ⟨g100, 0, none⟩) (mm + 1) (mm + 1), .slice (some ⟨g65, 0, none⟩) (mm + 1) cp66]) (by kernel_rfl) (itr_ok F97 p n98 (mm + 1) (mm + 1) cp66 (some ⟨g100, 0, none⟩) (some ⟨g65, 0, none⟩) r101 (a.getD j 0 :: o.take mm) ((q.set j (GateP.nt x79)).getD j 0) cs99 I _ hG hX103 hN (fun t ht => by have := hrw106.fit t ht; omega) (fun t ht => by have := hcf t ht; omega) (by omega) (by omega) (by omega) (by rw [hqj, nt_div]; omega)) ?_)
        rintro _ w111 ⟨F112, n113, cs114, g115, r116, rfl, hrl117, hX118, hg119, hG, hm120, hrw121, hd122⟩
        have hMv := hMv.trans hm120
        have hA := hA.mv hm120
        have hAr := hA.1
        have hB := hB.mv hm120
        have hBr := hB.1
        have hO := hO.mv hm120
        have hY := hY.mv hm120
        have hQ := hQ.tch hm120.1 nF_hQ
        have hLo := hLo.mv hm120
        have hB60 := hB60.tch hm120.1 nF_hB60
        have hN := hN.mv hm120
        have hX103 := hX103.mv hm120
        have hle125 := hrw121.le
        replace nF_hQ : ¬ F112 (w36.heap.size) := fun e => (hm120.2 _ e).elim nF_hQ (fun q => by omega)
        replace nF_hB60 : ¬ F112 (w54.heap.size) := fun e => (hm120.2 _ e).elim nF_hB60 (fun q => by omega)
        have lt_hX118 := hX118.lt
        have ge_hX118 : ∀ c, blkOf (some ⟨g115, 0, none⟩) = some c → 0 ≤ c := fun c _ => Nat.zero_le c
        refine ⟨hQ, ?_⟩
        refine dtk [11] #[true, true, true, true, true, true, true, true, true, true, true, true] [(11, .slice (some ⟨g115, 0, none⟩) (mm + 1) (mm + 1))] hQ (by kernel_rfl) ?_
        refine d_done (by kernel_rfl) ?_
        refine W_fg [(0, .pointer (some ⟨p, 0, none⟩)), (1, .slice A mm ca), (2, .slice B mm cb), (6, .slice none 0 0), (7, .slice none 0 0), (8, .int .i64 (mm : Int)), (9, .int .i64 ((GateP.nt 0 : Nat) : Int)), (10, .slice (some ⟨g27, 0, none⟩) (mm + 1) cp28), (11, .slice (some ⟨g115, 0, none⟩) (mm + 1) (mm + 1)), (12, .slice (some ⟨w36.heap.size, 0, none⟩) ((mm : Int).toNat) ((mm : Int).toNat)), (13, .int .i64 ((j : Nat) : Int)), (41, .bool (decide (((j : Nat) : Int) ≥ 0)))] (by kernel_rfl) fun ρ => ?_
        refine W_region (by kernel_rfl) ?_
        refine sg [(42, .int .i64 ((j : Nat) : Int)), (43, .int .i64 (IntKind.i64.wrap (((j : Nat) : Int) - 1)))] (by kernel_rfl) ?_
        rw [show IntKind.i64.wrap (((j : Nat) : Int) - 1) = ((j : Nat) : Int) - 1 from wrap_i64 (by omega) (by omega)]
        refine sg [(13, .int .i64 (((j : Nat) : Int) - 1))] (by kernel_rfl) ?_
        refine op_nil ?_
        have hRR := rest_round hrw (fun be hm => wide_val hlb (hG1.2.t1 hm)) hr81 hrw106 (hrw121.eq (fun be hm t ht => by rw [hqj])) hjm
        refine ⟨_, ?_, F112, n113, cs114, some ⟨g115, 0, none⟩, mm + 1, r116, q.set j (GateP.nt x79), j, _, updL_self (by kernel_rfl), ?_, hrl117, by rw [List.length_set]; exact hql, hRR.1, hqw.put (by omega) (fun c hc => hrw121.sub c (hrw106.sub c (hr81.2.1 c hc))) hql (by rw [nt_div]; omega) hRR.2, by omega, by omega, (fun c hc => by have e : g115 = c := (by injection hc); omega), nF_hQ, (fun c hc e => by have e1 : g115 = c := (by injection hc); omega), hG, hMv, hA, hAr, hB, hBr, hX118, hY, hQ, rfl⟩
        · omega
        · omega
      · replace hc53 : ((k : Nat) : Int) - 1 < 0 := (Int.not_le.1 (of_decide_eq_false hc53))
        refine W_exit ?_
        refine X_hit ?_
        refine W_seq ?_
        have hk0 : k = 0 := by omega
        subst hk0
        have hLo := hO.headT (h := mm) (cp := mm) (by omega)
        refine W_draw (fun w' => True) (by kernel_rfl) (by kernel_rfl) (by kernel_rfl) fun w126 hT127 hh128 => ?_
        have hG := hG.tch0 hT127
        have hMv := hMv.then0 hT127
        have hA := hA.tch0 hT127
        have hAr := hA.1
        have hB := hB.tch0 hT127
        have hBr := hB.1
        have hO := hO.tch0 hT127
        have hY := hY.tch0 hT127
        have hQ := hQ.tch0 hT127
        have hLo := hLo.tch0 hT127
        refine dtk [0, 1, 2, 3, 5] #[true, true, true, true, false, true, false] [(73, .slice (some ⟨w36.heap.size, 0, none⟩) ((mm : Int).toNat) ((mm : Int).toNat)), (74, .slice Ar (mm + 1) car), (75, .int .i64 (mm : Int)), (76, .int .i64 (mm : Int)), (6, .slice (some ⟨w36.heap.size, 0, none⟩) ((mm : Int).toNat) ((mm : Int).toNat))] trivial (by kernel_rfl) ?_
        refine d_val (v := .slice (slA Ar 0 ((mm : Int).toNat)) ((mm : Int).toNat) ((mm : Int).toNat)) 4 (by rfl) (by kernel_rfl) (by kernel_rfl) (by kernel_rfl) (fun w' hs => by exact R_sliceHM (A := Ar) (n := mm + 1) (cp := car) ((mm : Int).toNat) ((mm : Int).toNat) (by kernel_rfl) (by kernel_rfl) (by kernel_rfl) (by kernel_rfl) (by kernel_rfl) (by omega) (by omega)) trivial ?_
        refine dtk [6] #[true, true, true, true, true, true, true] [(7, .slice (slA Ar 0 ((mm : Int).toNat)) ((mm : Int).toNat) ((mm : Int).toNat))] trivial (by kernel_rfl) ?_
        refine d_done (by kernel_rfl) ?_
        refine W_ret ?_
        exact ⟨_, Res_of (v := .tuple #[.slice (some ⟨w36.heap.size, 0, none⟩) ((mm : Int).toNat) ((mm : Int).toNat), .slice (slA Ar 0 ((mm : Int).toNat)) ((mm : Int).toNat) ((mm : Int).toNat)]) (by kernel_rfl), ⟨F1, n1, cs1, (some ⟨w36.heap.size, 0, none⟩), (slA Ar 0 ((mm : Int).toNat)), q, o.take mm, rfl, hql, by rw [List.length_take]; omega, RdX.ofP hQ (by rw [nats_length]; exact hql) (by omega) nF_hQ, hLo, (fun c hc => by have e : w36.heap.size = c := (by injection hc); omega), (fun c hc => hgo c (by rw [slA_blk] at hc; exact hc)), hG, hMv, hqw.rw, ⟨hrw.le, hrw.sub, fun t ht => by rw [getD_take _ _ _ ht]; exact hrw.fit t (by omega), fun be hm t ht => by rw [getD_take _ _ _ ht]; exact hrw.val be hm t (by omega)⟩, by omega⟩⟩

end Go.Proofs.YtnlecdpiccgdpaaV
