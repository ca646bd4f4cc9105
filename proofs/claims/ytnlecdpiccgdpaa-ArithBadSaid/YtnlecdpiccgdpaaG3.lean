/- Walks of functions of the program and of the document's texts. The conditions stand with each theorem. -/
import Derived.Test.YtnlecdpiccgdpaaVx13
import Derived.Test.YtnlecdpiccgdpaaProg
import Derived.Test.YtnlecdpiccgdpaaVx4
import Derived.Test.YtnlecdpiccgdpaaG2
set_option linter.unusedVariables false
set_option linter.unusedSimpArgs false
namespace Go.Proofs.YtnlecdpiccgdpaaV
open Go Go.RowKit Go.Proofs

theorem Mv.add {F F1 F2 : Nat → Prop} {w w1 w2 : World} {g : Nat} (h : Mv F F1 w w1) (T : Tch F1 w1 w2) (hn : ∀ b, F2 b → F1 b ∨ b = g ∨ w1.heap.size ≤ b) (hg : w.heap.size ≤ g) : Mv F F2 w w2 :=
  ⟨h.1.trans T (fun _ _ e => e) (fun b hb e => (h.2 b e).resolve_right (by omega)), fun b hb => by
    have hz := h.1.size
    rcases hn b hb with e | e | e
    · exact h.2 b e
    · exact .inr (by omega)
    · exact .inr (by omega)⟩

set_option maxRecDepth 100000 in
theorem clo0_ok (F : Nat → Prop) (r p nv x a b ra rb : Nat) (cs : List (List Nat)) (M : Value → Value → Prop) (w : World) (hR : Blk w r 25 [.pointer (some ⟨p, 0, none⟩)]) (ha : Blk w ra 3 [.int .i64 ((a : Nat) : Int)]) (hb : Blk w rb 3 [.int .i64 ((b : Nat) : Int)]) (nF_hR : ¬ F r) (nF_ha : ¬ F ra) (nF_hb : ¬ F rb) (hL : Low F w p nv cs M) (hk : cs.length ≤ 4398046511000) (hx : x < 4611686018427387904) (hxa : a < 4611686018427387904) (hxb : b < 4611686018427387904) : Ret Try.prog 57 [.int .i64 ((x : Nat) : Int), .func (.func 78) #[] #[.pointer (some ⟨r, 0, none⟩)], .pointer (some ⟨ra, 0, none⟩), .pointer (some ⟨rb, 0, none⟩)] w fun v w' => v = .tuple #[] ∧ ∃ F', Low F' w' p nv (cs ++ gcl 0 a b 0 x) M ∧ Mv F F' w w' := by
  have hMv := Mv.refl F w
  refine enter Try.func57 rfl rfl ?_
  refine W_seq ?_
  refine W_draw (fun w' => Blk w' r 25 [.pointer (some ⟨p, 0, none⟩)] ∧ Blk w' ra 3 [.int .i64 ((a : Nat) : Int)] ∧ Blk w' rb 3 [.int .i64 ((b : Nat) : Int)]) (by kernel_rfl) (by kernel_rfl) (by kernel_rfl) fun w1 hT2 hh3 => ?_
  have hR := hR.tch0 hT2
  have ha := ha.tch0 hT2
  have hb := hb.tch0 hT2
  have hL := hL.tch0 hT2
  have hMv := hMv.then0 hT2
  refine dtk [0, 1] #[true, true, false, false, false, false] [(6, .func (.func 78) #[] #[.pointer (some ⟨r, 0, none⟩)]), (7, .int .i64 ((x : Nat) : Int))] ⟨hR, ha, hb⟩ (by kernel_rfl) ?_
  refine d_val (v := .int .i64 ((a : Nat) : Int)) 3 (by rfl) (by kernel_rfl) (by kernel_rfl) (by kernel_rfl) (fun w' hs => by obtain ⟨hR, ha, hb⟩ := hs; exact R_load (v := .int .i64 ((a : Nat) : Int)) (by kernel_rfl) (by kernel_rfl) ((ha.cell 0).trans rfl)) ⟨hR, ha, hb⟩ ?_
  refine d_one 2 (by kernel_rfl) (by rfl) (by kernel_rfl) (S_call (args := [.int .i64 ((x : Nat) : Int)]) (by kernel_rfl) (not_ok x _ (by omega)) ?_)
  rintro _ w4 ⟨rfl, hT5⟩
  have hR := hR.tch0 hT5
  have ha := ha.tch0 hT5
  have hb := hb.tch0 hT5
  have hL := hL.tch0 hT5
  have hMv := hMv.then0 hT5
  refine ⟨⟨hR, ha, hb⟩, ?_⟩
  have hlt_ := hL.lt
  have hz10 := hMv.1.size
  have lt11 := hR.lt
  have lt12 := ha.lt
  have lt13 := hb.lt
  refine d_one 4 (by kernel_rfl) (by rfl) (by kernel_rfl) (S_new (v := .slice (some ⟨w4.heap.size, 0, none⟩) 2 2) (ob := .cells #[.int .i64 ((GateP.nt x : Nat) : Int), .int .i64 ((a : Nat) : Int)] 3) (by kernel_rfl) fun w6 hT7 hs8 hB9 => ?_)
  replace hB9 : Blk w6 (w4.heap.size) 3 [.int .i64 ((GateP.nt x : Nat) : Int), .int .i64 ((a : Nat) : Int)] := hB9
  have hR := hR.tch0 hT7
  have ha := ha.tch0 hT7
  have hb := hb.tch0 hT7
  have hL := hL.tch0 hT7
  have hMv := hMv.then0 hT7
  have nF_hB9 : ¬ F (w4.heap.size) := fun e => by have := hlt_ _ e; omega
  refine ⟨⟨hR, ha, hb⟩, ?_⟩
  have lt18 := hR.lt
  have lt19 := ha.lt
  have lt20 := hb.lt
  refine d_one 5 (by kernel_rfl) (by rfl) (by kernel_rfl) (S_call (args := [.slice (some ⟨w4.heap.size, 0, none⟩) 2 2, .pointer (some ⟨r, 0, none⟩)]) (by kernel_rfl) (add_ok F r p nv (w4.heap.size) 2 [GateP.nt x, a] cs M _ hR hL (show Blk _ _ 3 (nats [GateP.nt x, a]) from hB9) rfl (by (try simp only [List.length_append, List.length_cons, List.length_nil]); omega)) ?_)
  rintro _ w14 ⟨rfl, F16, hL, hT15, _, hFn17⟩
  have hR := hR.tch hT15 nF_hR
  have ha := ha.tch hT15 nF_ha
  have hb := hb.tch hT15 nF_hb
  have hMv := hMv.add hT15 hFn17 (by omega)
  replace nF_hR : ¬ F16 (r) := fun e => by have := hFn17 _ e; rcases this with q | q | q; exact nF_hR q; omega; omega
  replace nF_ha : ¬ F16 (ra) := fun e => by have := hFn17 _ e; rcases this with q | q | q; exact nF_ha q; omega; omega
  replace nF_hb : ¬ F16 (rb) := fun e => by have := hFn17 _ e; rcases this with q | q | q; exact nF_hb q; omega; omega
  refine ⟨⟨hR, ha, hb⟩, ?_⟩
  refine d_done (by kernel_rfl) ?_
  refine W_seq ?_
  refine W_draw (fun w' => Blk w' r 25 [.pointer (some ⟨p, 0, none⟩)] ∧ Blk w' ra 3 [.int .i64 ((a : Nat) : Int)] ∧ Blk w' rb 3 [.int .i64 ((b : Nat) : Int)]) (by kernel_rfl) (by kernel_rfl) (by kernel_rfl) fun w21 hT22 hh23 => ?_
  have hR := hR.tch0 hT22
  have ha := ha.tch0 hT22
  have hb := hb.tch0 hT22
  have hL := hL.tch0 hT22
  have hMv := hMv.then0 hT22
  refine dtk [0, 1] #[true, true, false, false, false, false] [(12, .func (.func 78) #[] #[.pointer (some ⟨r, 0, none⟩)]), (13, .int .i64 ((x : Nat) : Int))] ⟨hR, ha, hb⟩ (by kernel_rfl) ?_
  refine d_val (v := .int .i64 ((b : Nat) : Int)) 3 (by rfl) (by kernel_rfl) (by kernel_rfl) (by kernel_rfl) (fun w' hs => by obtain ⟨hR, ha, hb⟩ := hs; exact R_load (v := .int .i64 ((b : Nat) : Int)) (by kernel_rfl) (by kernel_rfl) ((hb.cell 0).trans rfl)) ⟨hR, ha, hb⟩ ?_
  refine d_one 2 (by kernel_rfl) (by rfl) (by kernel_rfl) (S_call (args := [.int .i64 ((x : Nat) : Int)]) (by kernel_rfl) (not_ok x _ (by omega)) ?_)
  rintro _ w24 ⟨rfl, hT25⟩
  have hR := hR.tch0 hT25
  have ha := ha.tch0 hT25
  have hb := hb.tch0 hT25
  have hL := hL.tch0 hT25
  have hMv := hMv.then0 hT25
  refine ⟨⟨hR, ha, hb⟩, ?_⟩
  have hlt_ := hL.lt
  have hz30 := hMv.1.size
  have lt31 := hR.lt
  have lt32 := ha.lt
  have lt33 := hb.lt
  refine d_one 4 (by kernel_rfl) (by rfl) (by kernel_rfl) (S_new (v := .slice (some ⟨w24.heap.size, 0, none⟩) 2 2) (ob := .cells #[.int .i64 ((GateP.nt x : Nat) : Int), .int .i64 ((b : Nat) : Int)] 3) (by kernel_rfl) fun w26 hT27 hs28 hB29 => ?_)
  replace hB29 : Blk w26 (w24.heap.size) 3 [.int .i64 ((GateP.nt x : Nat) : Int), .int .i64 ((b : Nat) : Int)] := hB29
  have hR := hR.tch0 hT27
  have ha := ha.tch0 hT27
  have hb := hb.tch0 hT27
  have hL := hL.tch0 hT27
  have hMv := hMv.then0 hT27
  have nF_hB29 : ¬ F16 (w24.heap.size) := fun e => by have := hlt_ _ e; omega
  refine ⟨⟨hR, ha, hb⟩, ?_⟩
  have lt38 := hR.lt
  have lt39 := ha.lt
  have lt40 := hb.lt
  refine d_one 5 (by kernel_rfl) (by rfl) (by kernel_rfl) (S_call (args := [.slice (some ⟨w24.heap.size, 0, none⟩) 2 2, .pointer (some ⟨r, 0, none⟩)]) (by kernel_rfl) (add_ok F16 r p nv (w24.heap.size) 2 [GateP.nt x, b] (cs ++ [[GateP.nt x, a]]) M _ hR hL (show Blk _ _ 3 (nats [GateP.nt x, b]) from hB29) rfl (by (try simp only [List.length_append, List.length_cons, List.length_nil]); omega)) ?_)
  rintro _ w34 ⟨rfl, F36, hL, hT35, _, hFn37⟩
  have hR := hR.tch hT35 nF_hR
  have ha := ha.tch hT35 nF_ha
  have hb := hb.tch hT35 nF_hb
  have hMv := hMv.add hT35 hFn37 (by omega)
  replace nF_hR : ¬ F36 (r) := fun e => by have := hFn37 _ e; rcases this with q | q | q; exact nF_hR q; omega; omega
  replace nF_ha : ¬ F36 (ra) := fun e => by have := hFn37 _ e; rcases this with q | q | q; exact nF_ha q; omega; omega
  replace nF_hb : ¬ F36 (rb) := fun e => by have := hFn37 _ e; rcases this with q | q | q; exact nF_hb q; omega; omega
  refine ⟨⟨hR, ha, hb⟩, ?_⟩
  refine d_done (by kernel_rfl) ?_
  refine W_fg [(0, .int .i64 ((x : Nat) : Int)), (1, .func (.func 78) #[] #[.pointer (some ⟨r, 0, none⟩)]), (2, .pointer (some ⟨ra, 0, none⟩)), (3, .pointer (some ⟨rb, 0, none⟩))] (by kernel_rfl) fun ρ => ?_
  refine W_draw (fun w' => Blk w' r 25 [.pointer (some ⟨p, 0, none⟩)] ∧ Blk w' ra 3 [.int .i64 ((a : Nat) : Int)] ∧ Blk w' rb 3 [.int .i64 ((b : Nat) : Int)]) (by kernel_rfl) (by kernel_rfl) (by kernel_rfl) fun w41 hT42 hh43 => ?_
  have hR := hR.tch0 hT42
  have ha := ha.tch0 hT42
  have hb := hb.tch0 hT42
  have hL := hL.tch0 hT42
  have hMv := hMv.then0 hT42
  refine dtk [0, 1] #[true, true, false, false, false, false, false, false] [(18, .func (.func 78) #[] #[.pointer (some ⟨r, 0, none⟩)]), (19, .int .i64 ((x : Nat) : Int))] ⟨hR, ha, hb⟩ (by kernel_rfl) ?_
  refine d_val (v := .int .i64 ((a : Nat) : Int)) 2 (by rfl) (by kernel_rfl) (by kernel_rfl) (by kernel_rfl) (fun w' hs => by obtain ⟨hR, ha, hb⟩ := hs; exact R_load (v := .int .i64 ((a : Nat) : Int)) (by kernel_rfl) (by kernel_rfl) ((ha.cell 0).trans rfl)) ⟨hR, ha, hb⟩ ?_
  refine d_val (v := .int .i64 ((b : Nat) : Int)) 4 (by rfl) (by kernel_rfl) (by kernel_rfl) (by kernel_rfl) (fun w' hs => by obtain ⟨hR, ha, hb⟩ := hs; exact R_load (v := .int .i64 ((b : Nat) : Int)) (by kernel_rfl) (by kernel_rfl) ((hb.cell 0).trans rfl)) ⟨hR, ha, hb⟩ ?_
  refine d_one 3 (by kernel_rfl) (by rfl) (by kernel_rfl) (S_call (args := [.int .i64 ((a : Nat) : Int)]) (by kernel_rfl) (not_ok a _ (by omega)) ?_)
  rintro _ w44 ⟨rfl, hT45⟩
  have hR := hR.tch0 hT45
  have ha := ha.tch0 hT45
  have hb := hb.tch0 hT45
  have hL := hL.tch0 hT45
  have hMv := hMv.then0 hT45
  refine ⟨⟨hR, ha, hb⟩, ?_⟩
  refine d_one 5 (by kernel_rfl) (by rfl) (by kernel_rfl) (S_call (args := [.int .i64 ((b : Nat) : Int)]) (by kernel_rfl) (not_ok b _ (by omega)) ?_)
  rintro _ w46 ⟨rfl, hT47⟩
  have hR := hR.tch0 hT47
  have ha := ha.tch0 hT47
  have hb := hb.tch0 hT47
  have hL := hL.tch0 hT47
  have hMv := hMv.then0 hT47
  refine ⟨⟨hR, ha, hb⟩, ?_⟩
  have hlt_ := hL.lt
  have hz52 := hMv.1.size
  have lt53 := hR.lt
  have lt54 := ha.lt
  have lt55 := hb.lt
  refine d_one 6 (by kernel_rfl) (by rfl) (by kernel_rfl) (S_new (v := .slice (some ⟨w46.heap.size, 0, none⟩) 3 3) (ob := .cells #[.int .i64 ((x : Nat) : Int), .int .i64 ((GateP.nt a : Nat) : Int), .int .i64 ((GateP.nt b : Nat) : Int)] 3) (by kernel_rfl) fun w48 hT49 hs50 hB51 => ?_)
  replace hB51 : Blk w48 (w46.heap.size) 3 [.int .i64 ((x : Nat) : Int), .int .i64 ((GateP.nt a : Nat) : Int), .int .i64 ((GateP.nt b : Nat) : Int)] := hB51
  have hR := hR.tch0 hT49
  have ha := ha.tch0 hT49
  have hb := hb.tch0 hT49
  have hL := hL.tch0 hT49
  have hMv := hMv.then0 hT49
  have nF_hB51 : ¬ F36 (w46.heap.size) := fun e => by have := hlt_ _ e; omega
  refine ⟨⟨hR, ha, hb⟩, ?_⟩
  have lt60 := hR.lt
  have lt61 := ha.lt
  have lt62 := hb.lt
  refine d_one 7 (by kernel_rfl) (by rfl) (by kernel_rfl) (S_call (args := [.slice (some ⟨w46.heap.size, 0, none⟩) 3 3, .pointer (some ⟨r, 0, none⟩)]) (by kernel_rfl) (add_ok F36 r p nv (w46.heap.size) 3 [x, GateP.nt a, GateP.nt b] (cs ++ [[GateP.nt x, a]] ++ [[GateP.nt x, b]]) M _ hR hL (show Blk _ _ 3 (nats [x, GateP.nt a, GateP.nt b]) from hB51) rfl (by (try simp only [List.length_append, List.length_cons, List.length_nil]); omega)) ?_)
  rintro _ w56 ⟨rfl, F58, hL, hT57, _, hFn59⟩
  have hR := hR.tch hT57 nF_hR
  have ha := ha.tch hT57 nF_ha
  have hb := hb.tch hT57 nF_hb
  have hMv := hMv.add hT57 hFn59 (by omega)
  replace nF_hR : ¬ F58 (r) := fun e => by have := hFn59 _ e; rcases this with q | q | q; exact nF_hR q; omega; omega
  replace nF_ha : ¬ F58 (ra) := fun e => by have := hFn59 _ e; rcases this with q | q | q; exact nF_ha q; omega; omega
  replace nF_hb : ¬ F58 (rb) := fun e => by have := hFn59 _ e; rcases this with q | q | q; exact nF_hb q; omega; omega
  refine ⟨⟨hR, ha, hb⟩, ?_⟩
  refine d_done (by kernel_rfl) ?_
  refine ⟨_, Res_of (v := .tuple #[]) (by kernel_rfl), ?_⟩
  have e : cs ++ [[GateP.nt x, a]] ++ [[GateP.nt x, b]] ++ [[x, GateP.nt a, GateP.nt b]] = cs ++ gcl 0 a b 0 x := by simp [gcl]
  rw [e] at hL
  exact ⟨rfl, _, hL, hMv⟩

set_option maxRecDepth 100000 in
theorem clo1_ok (F : Nat → Prop) (r p nv x a b ra rb : Nat) (cs : List (List Nat)) (M : Value → Value → Prop) (w : World) (hR : Blk w r 25 [.pointer (some ⟨p, 0, none⟩)]) (ha : Blk w ra 3 [.int .i64 ((a : Nat) : Int)]) (hb : Blk w rb 3 [.int .i64 ((b : Nat) : Int)]) (nF_hR : ¬ F r) (nF_ha : ¬ F ra) (nF_hb : ¬ F rb) (hL : Low F w p nv cs M) (hk : cs.length ≤ 4398046511000) (hx : x < 4611686018427387904) (hxa : a < 4611686018427387904) (hxb : b < 4611686018427387904) : Ret Try.prog 55 [.int .i64 ((x : Nat) : Int), .func (.func 78) #[] #[.pointer (some ⟨r, 0, none⟩)], .pointer (some ⟨ra, 0, none⟩), .pointer (some ⟨rb, 0, none⟩)] w fun v w' => v = .tuple #[] ∧ ∃ F', Low F' w' p nv (cs ++ gcl 1 a b 0 x) M ∧ Mv F F' w w' := by
  have hMv := Mv.refl F w
  refine enter Try.func55 rfl rfl ?_
  refine W_seq ?_
  refine W_draw (fun w' => Blk w' r 25 [.pointer (some ⟨p, 0, none⟩)] ∧ Blk w' ra 3 [.int .i64 ((a : Nat) : Int)] ∧ Blk w' rb 3 [.int .i64 ((b : Nat) : Int)]) (by kernel_rfl) (by kernel_rfl) (by kernel_rfl) fun w1 hT2 hh3 => ?_
  have hR := hR.tch0 hT2
  have ha := ha.tch0 hT2
  have hb := hb.tch0 hT2
  have hL := hL.tch0 hT2
  have hMv := hMv.then0 hT2
  refine dtk [0, 1] #[true, true, false, false, false, false, false] [(6, .func (.func 78) #[] #[.pointer (some ⟨r, 0, none⟩)]), (7, .int .i64 ((x : Nat) : Int))] ⟨hR, ha, hb⟩ (by kernel_rfl) ?_
  refine d_val (v := .int .i64 ((a : Nat) : Int)) 3 (by rfl) (by kernel_rfl) (by kernel_rfl) (by kernel_rfl) (fun w' hs => by obtain ⟨hR, ha, hb⟩ := hs; exact R_load (v := .int .i64 ((a : Nat) : Int)) (by kernel_rfl) (by kernel_rfl) ((ha.cell 0).trans rfl)) ⟨hR, ha, hb⟩ ?_
  refine d_val (v := .int .i64 ((b : Nat) : Int)) 4 (by rfl) (by kernel_rfl) (by kernel_rfl) (by kernel_rfl) (fun w' hs => by obtain ⟨hR, ha, hb⟩ := hs; exact R_load (v := .int .i64 ((b : Nat) : Int)) (by kernel_rfl) (by kernel_rfl) ((hb.cell 0).trans rfl)) ⟨hR, ha, hb⟩ ?_
  refine d_one 2 (by kernel_rfl) (by rfl) (by kernel_rfl) (S_call (args := [.int .i64 ((x : Nat) : Int)]) (by kernel_rfl) (not_ok x _ (by omega)) ?_)
  rintro _ w4 ⟨rfl, hT5⟩
  have hR := hR.tch0 hT5
  have ha := ha.tch0 hT5
  have hb := hb.tch0 hT5
  have hL := hL.tch0 hT5
  have hMv := hMv.then0 hT5
  refine ⟨⟨hR, ha, hb⟩, ?_⟩
  have hlt_ := hL.lt
  have hz10 := hMv.1.size
  have lt11 := hR.lt
  have lt12 := ha.lt
  have lt13 := hb.lt
  refine d_one 5 (by kernel_rfl) (by rfl) (by kernel_rfl) (S_new (v := .slice (some ⟨w4.heap.size, 0, none⟩) 3 3) (ob := .cells #[.int .i64 ((GateP.nt x : Nat) : Int), .int .i64 ((a : Nat) : Int), .int .i64 ((b : Nat) : Int)] 3) (by kernel_rfl) fun w6 hT7 hs8 hB9 => ?_)
  replace hB9 : Blk w6 (w4.heap.size) 3 [.int .i64 ((GateP.nt x : Nat) : Int), .int .i64 ((a : Nat) : Int), .int .i64 ((b : Nat) : Int)] := hB9
  have hR := hR.tch0 hT7
  have ha := ha.tch0 hT7
  have hb := hb.tch0 hT7
  have hL := hL.tch0 hT7
  have hMv := hMv.then0 hT7
  have nF_hB9 : ¬ F (w4.heap.size) := fun e => by have := hlt_ _ e; omega
  refine ⟨⟨hR, ha, hb⟩, ?_⟩
  have lt18 := hR.lt
  have lt19 := ha.lt
  have lt20 := hb.lt
  refine d_one 6 (by kernel_rfl) (by rfl) (by kernel_rfl) (S_call (args := [.slice (some ⟨w4.heap.size, 0, none⟩) 3 3, .pointer (some ⟨r, 0, none⟩)]) (by kernel_rfl) (add_ok F r p nv (w4.heap.size) 3 [GateP.nt x, a, b] cs M _ hR hL (show Blk _ _ 3 (nats [GateP.nt x, a, b]) from hB9) rfl (by (try simp only [List.length_append, List.length_cons, List.length_nil]); omega)) ?_)
  rintro _ w14 ⟨rfl, F16, hL, hT15, _, hFn17⟩
  have hR := hR.tch hT15 nF_hR
  have ha := ha.tch hT15 nF_ha
  have hb := hb.tch hT15 nF_hb
  have hMv := hMv.add hT15 hFn17 (by omega)
  replace nF_hR : ¬ F16 (r) := fun e => by have := hFn17 _ e; rcases this with q | q | q; exact nF_hR q; omega; omega
  replace nF_ha : ¬ F16 (ra) := fun e => by have := hFn17 _ e; rcases this with q | q | q; exact nF_ha q; omega; omega
  replace nF_hb : ¬ F16 (rb) := fun e => by have := hFn17 _ e; rcases this with q | q | q; exact nF_hb q; omega; omega
  refine ⟨⟨hR, ha, hb⟩, ?_⟩
  refine d_done (by kernel_rfl) ?_
  refine W_seq ?_
  refine W_draw (fun w' => Blk w' r 25 [.pointer (some ⟨p, 0, none⟩)] ∧ Blk w' ra 3 [.int .i64 ((a : Nat) : Int)] ∧ Blk w' rb 3 [.int .i64 ((b : Nat) : Int)]) (by kernel_rfl) (by kernel_rfl) (by kernel_rfl) fun w21 hT22 hh23 => ?_
  have hR := hR.tch0 hT22
  have ha := ha.tch0 hT22
  have hb := hb.tch0 hT22
  have hL := hL.tch0 hT22
  have hMv := hMv.then0 hT22
  refine dtk [0, 1] #[true, true, false, false, false, false, false, false, false] [(13, .func (.func 78) #[] #[.pointer (some ⟨r, 0, none⟩)]), (14, .int .i64 ((x : Nat) : Int))] ⟨hR, ha, hb⟩ (by kernel_rfl) ?_
  refine d_val (v := .int .i64 ((a : Nat) : Int)) 3 (by rfl) (by kernel_rfl) (by kernel_rfl) (by kernel_rfl) (fun w' hs => by obtain ⟨hR, ha, hb⟩ := hs; exact R_load (v := .int .i64 ((a : Nat) : Int)) (by kernel_rfl) (by kernel_rfl) ((ha.cell 0).trans rfl)) ⟨hR, ha, hb⟩ ?_
  refine d_val (v := .int .i64 ((b : Nat) : Int)) 5 (by rfl) (by kernel_rfl) (by kernel_rfl) (by kernel_rfl) (fun w' hs => by obtain ⟨hR, ha, hb⟩ := hs; exact R_load (v := .int .i64 ((b : Nat) : Int)) (by kernel_rfl) (by kernel_rfl) ((hb.cell 0).trans rfl)) ⟨hR, ha, hb⟩ ?_
  refine d_one 2 (by kernel_rfl) (by rfl) (by kernel_rfl) (S_call (args := [.int .i64 ((x : Nat) : Int)]) (by kernel_rfl) (not_ok x _ (by omega)) ?_)
  rintro _ w24 ⟨rfl, hT25⟩
  have hR := hR.tch0 hT25
  have ha := ha.tch0 hT25
  have hb := hb.tch0 hT25
  have hL := hL.tch0 hT25
  have hMv := hMv.then0 hT25
  refine ⟨⟨hR, ha, hb⟩, ?_⟩
  refine d_one 4 (by kernel_rfl) (by rfl) (by kernel_rfl) (S_call (args := [.int .i64 ((a : Nat) : Int)]) (by kernel_rfl) (not_ok a _ (by omega)) ?_)
  rintro _ w26 ⟨rfl, hT27⟩
  have hR := hR.tch0 hT27
  have ha := ha.tch0 hT27
  have hb := hb.tch0 hT27
  have hL := hL.tch0 hT27
  have hMv := hMv.then0 hT27
  refine ⟨⟨hR, ha, hb⟩, ?_⟩
  refine d_one 6 (by kernel_rfl) (by rfl) (by kernel_rfl) (S_call (args := [.int .i64 ((b : Nat) : Int)]) (by kernel_rfl) (not_ok b _ (by omega)) ?_)
  rintro _ w28 ⟨rfl, hT29⟩
  have hR := hR.tch0 hT29
  have ha := ha.tch0 hT29
  have hb := hb.tch0 hT29
  have hL := hL.tch0 hT29
  have hMv := hMv.then0 hT29
  refine ⟨⟨hR, ha, hb⟩, ?_⟩
  have hlt_ := hL.lt
  have hz34 := hMv.1.size
  have lt35 := hR.lt
  have lt36 := ha.lt
  have lt37 := hb.lt
  refine d_one 7 (by kernel_rfl) (by rfl) (by kernel_rfl) (S_new (v := .slice (some ⟨w28.heap.size, 0, none⟩) 3 3) (ob := .cells #[.int .i64 ((GateP.nt x : Nat) : Int), .int .i64 ((GateP.nt a : Nat) : Int), .int .i64 ((GateP.nt b : Nat) : Int)] 3) (by kernel_rfl) fun w30 hT31 hs32 hB33 => ?_)
  replace hB33 : Blk w30 (w28.heap.size) 3 [.int .i64 ((GateP.nt x : Nat) : Int), .int .i64 ((GateP.nt a : Nat) : Int), .int .i64 ((GateP.nt b : Nat) : Int)] := hB33
  have hR := hR.tch0 hT31
  have ha := ha.tch0 hT31
  have hb := hb.tch0 hT31
  have hL := hL.tch0 hT31
  have hMv := hMv.then0 hT31
  have nF_hB33 : ¬ F16 (w28.heap.size) := fun e => by have := hlt_ _ e; omega
  refine ⟨⟨hR, ha, hb⟩, ?_⟩
  have lt42 := hR.lt
  have lt43 := ha.lt
  have lt44 := hb.lt
  refine d_one 8 (by kernel_rfl) (by rfl) (by kernel_rfl) (S_call (args := [.slice (some ⟨w28.heap.size, 0, none⟩) 3 3, .pointer (some ⟨r, 0, none⟩)]) (by kernel_rfl) (add_ok F16 r p nv (w28.heap.size) 3 [GateP.nt x, GateP.nt a, GateP.nt b] (cs ++ [[GateP.nt x, a, b]]) M _ hR hL (show Blk _ _ 3 (nats [GateP.nt x, GateP.nt a, GateP.nt b]) from hB33) rfl (by (try simp only [List.length_append, List.length_cons, List.length_nil]); omega)) ?_)
  rintro _ w38 ⟨rfl, F40, hL, hT39, _, hFn41⟩
  have hR := hR.tch hT39 nF_hR
  have ha := ha.tch hT39 nF_ha
  have hb := hb.tch hT39 nF_hb
  have hMv := hMv.add hT39 hFn41 (by omega)
  replace nF_hR : ¬ F40 (r) := fun e => by have := hFn41 _ e; rcases this with q | q | q; exact nF_hR q; omega; omega
  replace nF_ha : ¬ F40 (ra) := fun e => by have := hFn41 _ e; rcases this with q | q | q; exact nF_ha q; omega; omega
  replace nF_hb : ¬ F40 (rb) := fun e => by have := hFn41 _ e; rcases this with q | q | q; exact nF_hb q; omega; omega
  refine ⟨⟨hR, ha, hb⟩, ?_⟩
  refine d_done (by kernel_rfl) ?_
  refine W_seq ?_
  refine W_fg [(0, .int .i64 ((x : Nat) : Int)), (1, .func (.func 78) #[] #[.pointer (some ⟨r, 0, none⟩)]), (2, .pointer (some ⟨ra, 0, none⟩)), (3, .pointer (some ⟨rb, 0, none⟩))] (by kernel_rfl) fun ρ => ?_
  refine W_draw (fun w' => Blk w' r 25 [.pointer (some ⟨p, 0, none⟩)] ∧ Blk w' ra 3 [.int .i64 ((a : Nat) : Int)] ∧ Blk w' rb 3 [.int .i64 ((b : Nat) : Int)]) (by kernel_rfl) (by kernel_rfl) (by kernel_rfl) fun w45 hT46 hh47 => ?_
  have hR := hR.tch0 hT46
  have ha := ha.tch0 hT46
  have hb := hb.tch0 hT46
  have hL := hL.tch0 hT46
  have hMv := hMv.then0 hT46
  refine dtk [0, 1] #[true, true, false, false, false, false, false] [(22, .func (.func 78) #[] #[.pointer (some ⟨r, 0, none⟩)]), (23, .int .i64 ((x : Nat) : Int))] ⟨hR, ha, hb⟩ (by kernel_rfl) ?_
  refine d_val (v := .int .i64 ((a : Nat) : Int)) 2 (by rfl) (by kernel_rfl) (by kernel_rfl) (by kernel_rfl) (fun w' hs => by obtain ⟨hR, ha, hb⟩ := hs; exact R_load (v := .int .i64 ((a : Nat) : Int)) (by kernel_rfl) (by kernel_rfl) ((ha.cell 0).trans rfl)) ⟨hR, ha, hb⟩ ?_
  refine d_val (v := .int .i64 ((b : Nat) : Int)) 4 (by rfl) (by kernel_rfl) (by kernel_rfl) (by kernel_rfl) (fun w' hs => by obtain ⟨hR, ha, hb⟩ := hs; exact R_load (v := .int .i64 ((b : Nat) : Int)) (by kernel_rfl) (by kernel_rfl) ((hb.cell 0).trans rfl)) ⟨hR, ha, hb⟩ ?_
  refine d_one 3 (by kernel_rfl) (by rfl) (by kernel_rfl) (S_call (args := [.int .i64 ((a : Nat) : Int)]) (by kernel_rfl) (not_ok a _ (by omega)) ?_)
  rintro _ w48 ⟨rfl, hT49⟩
  have hR := hR.tch0 hT49
  have ha := ha.tch0 hT49
  have hb := hb.tch0 hT49
  have hL := hL.tch0 hT49
  have hMv := hMv.then0 hT49
  refine ⟨⟨hR, ha, hb⟩, ?_⟩
  have hlt_ := hL.lt
  have hz54 := hMv.1.size
  have lt55 := hR.lt
  have lt56 := ha.lt
  have lt57 := hb.lt
  refine d_one 5 (by kernel_rfl) (by rfl) (by kernel_rfl) (S_new (v := .slice (some ⟨w48.heap.size, 0, none⟩) 3 3) (ob := .cells #[.int .i64 ((x : Nat) : Int), .int .i64 ((GateP.nt a : Nat) : Int), .int .i64 ((b : Nat) : Int)] 3) (by kernel_rfl) fun w50 hT51 hs52 hB53 => ?_)
  replace hB53 : Blk w50 (w48.heap.size) 3 [.int .i64 ((x : Nat) : Int), .int .i64 ((GateP.nt a : Nat) : Int), .int .i64 ((b : Nat) : Int)] := hB53
  have hR := hR.tch0 hT51
  have ha := ha.tch0 hT51
  have hb := hb.tch0 hT51
  have hL := hL.tch0 hT51
  have hMv := hMv.then0 hT51
  have nF_hB53 : ¬ F40 (w48.heap.size) := fun e => by have := hlt_ _ e; omega
  refine ⟨⟨hR, ha, hb⟩, ?_⟩
  have lt62 := hR.lt
  have lt63 := ha.lt
  have lt64 := hb.lt
  refine d_one 6 (by kernel_rfl) (by rfl) (by kernel_rfl) (S_call (args := [.slice (some ⟨w48.heap.size, 0, none⟩) 3 3, .pointer (some ⟨r, 0, none⟩)]) (by kernel_rfl) (add_ok F40 r p nv (w48.heap.size) 3 [x, GateP.nt a, b] (cs ++ [[GateP.nt x, a, b]] ++ [[GateP.nt x, GateP.nt a, GateP.nt b]]) M _ hR hL (show Blk _ _ 3 (nats [x, GateP.nt a, b]) from hB53) rfl (by (try simp only [List.length_append, List.length_cons, List.length_nil]); omega)) ?_)
  rintro _ w58 ⟨rfl, F60, hL, hT59, _, hFn61⟩
  have hR := hR.tch hT59 nF_hR
  have ha := ha.tch hT59 nF_ha
  have hb := hb.tch hT59 nF_hb
  have hMv := hMv.add hT59 hFn61 (by omega)
  replace nF_hR : ¬ F60 (r) := fun e => by have := hFn61 _ e; rcases this with q | q | q; exact nF_hR q; omega; omega
  replace nF_ha : ¬ F60 (ra) := fun e => by have := hFn61 _ e; rcases this with q | q | q; exact nF_ha q; omega; omega
  replace nF_hb : ¬ F60 (rb) := fun e => by have := hFn61 _ e; rcases this with q | q | q; exact nF_hb q; omega; omega
  refine ⟨⟨hR, ha, hb⟩, ?_⟩
  refine d_done (by kernel_rfl) ?_
  refine W_draw (fun w' => Blk w' r 25 [.pointer (some ⟨p, 0, none⟩)] ∧ Blk w' ra 3 [.int .i64 ((a : Nat) : Int)] ∧ Blk w' rb 3 [.int .i64 ((b : Nat) : Int)]) (by kernel_rfl) (by kernel_rfl) (by kernel_rfl) fun w65 hT66 hh67 => ?_
  have hR := hR.tch0 hT66
  have ha := ha.tch0 hT66
  have hb := hb.tch0 hT66
  have hL := hL.tch0 hT66
  have hMv := hMv.then0 hT66
  refine dtk [0, 1] #[true, true, false, false, false, false, false] [(29, .func (.func 78) #[] #[.pointer (some ⟨r, 0, none⟩)]), (30, .int .i64 ((x : Nat) : Int))] ⟨hR, ha, hb⟩ (by kernel_rfl) ?_
  refine d_val (v := .int .i64 ((a : Nat) : Int)) 2 (by rfl) (by kernel_rfl) (by kernel_rfl) (by kernel_rfl) (fun w' hs => by obtain ⟨hR, ha, hb⟩ := hs; exact R_load (v := .int .i64 ((a : Nat) : Int)) (by kernel_rfl) (by kernel_rfl) ((ha.cell 0).trans rfl)) ⟨hR, ha, hb⟩ ?_
  refine d_val (v := .int .i64 ((b : Nat) : Int)) 3 (by rfl) (by kernel_rfl) (by kernel_rfl) (by kernel_rfl) (fun w' hs => by obtain ⟨hR, ha, hb⟩ := hs; exact R_load (v := .int .i64 ((b : Nat) : Int)) (by kernel_rfl) (by kernel_rfl) ((hb.cell 0).trans rfl)) ⟨hR, ha, hb⟩ ?_
  refine d_one 4 (by kernel_rfl) (by rfl) (by kernel_rfl) (S_call (args := [.int .i64 ((b : Nat) : Int)]) (by kernel_rfl) (not_ok b _ (by omega)) ?_)
  rintro _ w68 ⟨rfl, hT69⟩
  have hR := hR.tch0 hT69
  have ha := ha.tch0 hT69
  have hb := hb.tch0 hT69
  have hL := hL.tch0 hT69
  have hMv := hMv.then0 hT69
  refine ⟨⟨hR, ha, hb⟩, ?_⟩
  have hlt_ := hL.lt
  have hz74 := hMv.1.size
  have lt75 := hR.lt
  have lt76 := ha.lt
  have lt77 := hb.lt
  refine d_one 5 (by kernel_rfl) (by rfl) (by kernel_rfl) (S_new (v := .slice (some ⟨w68.heap.size, 0, none⟩) 3 3) (ob := .cells #[.int .i64 ((x : Nat) : Int), .int .i64 ((a : Nat) : Int), .int .i64 ((GateP.nt b : Nat) : Int)] 3) (by kernel_rfl) fun w70 hT71 hs72 hB73 => ?_)
  replace hB73 : Blk w70 (w68.heap.size) 3 [.int .i64 ((x : Nat) : Int), .int .i64 ((a : Nat) : Int), .int .i64 ((GateP.nt b : Nat) : Int)] := hB73
  have hR := hR.tch0 hT71
  have ha := ha.tch0 hT71
  have hb := hb.tch0 hT71
  have hL := hL.tch0 hT71
  have hMv := hMv.then0 hT71
  have nF_hB73 : ¬ F60 (w68.heap.size) := fun e => by have := hlt_ _ e; omega
  refine ⟨⟨hR, ha, hb⟩, ?_⟩
  have lt82 := hR.lt
  have lt83 := ha.lt
  have lt84 := hb.lt
  refine d_one 6 (by kernel_rfl) (by rfl) (by kernel_rfl) (S_call (args := [.slice (some ⟨w68.heap.size, 0, none⟩) 3 3, .pointer (some ⟨r, 0, none⟩)]) (by kernel_rfl) (add_ok F60 r p nv (w68.heap.size) 3 [x, a, GateP.nt b] (cs ++ [[GateP.nt x, a, b]] ++ [[GateP.nt x, GateP.nt a, GateP.nt b]] ++ [[x, GateP.nt a, b]]) M _ hR hL (show Blk _ _ 3 (nats [x, a, GateP.nt b]) from hB73) rfl (by (try simp only [List.length_append, List.length_cons, List.length_nil]); omega)) ?_)
  rintro _ w78 ⟨rfl, F80, hL, hT79, _, hFn81⟩
  have hR := hR.tch hT79 nF_hR
  have ha := ha.tch hT79 nF_ha
  have hb := hb.tch hT79 nF_hb
  have hMv := hMv.add hT79 hFn81 (by omega)
  replace nF_hR : ¬ F80 (r) := fun e => by have := hFn81 _ e; rcases this with q | q | q; exact nF_hR q; omega; omega
  replace nF_ha : ¬ F80 (ra) := fun e => by have := hFn81 _ e; rcases this with q | q | q; exact nF_ha q; omega; omega
  replace nF_hb : ¬ F80 (rb) := fun e => by have := hFn81 _ e; rcases this with q | q | q; exact nF_hb q; omega; omega
  refine ⟨⟨hR, ha, hb⟩, ?_⟩
  refine d_done (by kernel_rfl) ?_
  refine ⟨_, Res_of (v := .tuple #[]) (by kernel_rfl), ?_⟩
  have e : cs ++ [[GateP.nt x, a, b]] ++ [[GateP.nt x, GateP.nt a, GateP.nt b]] ++ [[x, GateP.nt a, b]] ++ [[x, a, GateP.nt b]] = cs ++ gcl 1 a b 0 x := by simp [gcl]
  rw [e] at hL
  exact ⟨rfl, _, hL, hMv⟩

set_option maxRecDepth 100000 in
theorem clo2_ok (F : Nat → Prop) (r p nv x c a b rc ra rb : Nat) (cs : List (List Nat)) (M : Value → Value → Prop) (w : World) (hR : Blk w r 25 [.pointer (some ⟨p, 0, none⟩)]) (hc : Blk w rc 3 [.int .i64 ((c : Nat) : Int)]) (ha : Blk w ra 3 [.int .i64 ((a : Nat) : Int)]) (hb : Blk w rb 3 [.int .i64 ((b : Nat) : Int)]) (nF_hR : ¬ F r) (nF_hc : ¬ F rc) (nF_ha : ¬ F ra) (nF_hb : ¬ F rb) (hL : Low F w p nv cs M) (hk : cs.length ≤ 4398046511000) (hx : x < 4611686018427387904) (hxc : c < 4611686018427387904) (hxa : a < 4611686018427387904) (hxb : b < 4611686018427387904) : Ret Try.prog 59 [.int .i64 ((x : Nat) : Int), .func (.func 78) #[] #[.pointer (some ⟨r, 0, none⟩)], .pointer (some ⟨rc, 0, none⟩), .pointer (some ⟨ra, 0, none⟩), .pointer (some ⟨rb, 0, none⟩)] w fun v w' => v = .tuple #[] ∧ ∃ F', Low F' w' p nv (cs ++ gcl 2 c a b x) M ∧ Mv F F' w w' := by
  have hMv := Mv.refl F w
  refine enter Try.func59 rfl rfl ?_
  refine W_seq ?_
  refine W_draw (fun w' => Blk w' r 25 [.pointer (some ⟨p, 0, none⟩)] ∧ Blk w' rc 3 [.int .i64 ((c : Nat) : Int)] ∧ Blk w' ra 3 [.int .i64 ((a : Nat) : Int)] ∧ Blk w' rb 3 [.int .i64 ((b : Nat) : Int)]) (by kernel_rfl) (by kernel_rfl) (by kernel_rfl) fun w1 hT2 hh3 => ?_
  have hR := hR.tch0 hT2
  have hc := hc.tch0 hT2
  have ha := ha.tch0 hT2
  have hb := hb.tch0 hT2
  have hL := hL.tch0 hT2
  have hMv := hMv.then0 hT2
  refine dtk [0, 5] #[true, false, false, false, false, true, false, false] [(7, .func (.func 78) #[] #[.pointer (some ⟨r, 0, none⟩)]), (12, .int .i64 ((x : Nat) : Int))] ⟨hR, hc, ha, hb⟩ (by kernel_rfl) ?_
  refine d_val (v := .int .i64 ((c : Nat) : Int)) 1 (by rfl) (by kernel_rfl) (by kernel_rfl) (by kernel_rfl) (fun w' hs => by obtain ⟨hR, hc, ha, hb⟩ := hs; exact R_load (v := .int .i64 ((c : Nat) : Int)) (by kernel_rfl) (by kernel_rfl) ((hc.cell 0).trans rfl)) ⟨hR, hc, ha, hb⟩ ?_
  refine d_val (v := .int .i64 ((a : Nat) : Int)) 3 (by rfl) (by kernel_rfl) (by kernel_rfl) (by kernel_rfl) (fun w' hs => by obtain ⟨hR, hc, ha, hb⟩ := hs; exact R_load (v := .int .i64 ((a : Nat) : Int)) (by kernel_rfl) (by kernel_rfl) ((ha.cell 0).trans rfl)) ⟨hR, hc, ha, hb⟩ ?_
  refine d_one 2 (by kernel_rfl) (by rfl) (by kernel_rfl) (S_call (args := [.int .i64 ((c : Nat) : Int)]) (by kernel_rfl) (not_ok c _ (by omega)) ?_)
  rintro _ w4 ⟨rfl, hT5⟩
  have hR := hR.tch0 hT5
  have hc := hc.tch0 hT5
  have ha := ha.tch0 hT5
  have hb := hb.tch0 hT5
  have hL := hL.tch0 hT5
  have hMv := hMv.then0 hT5
  refine ⟨⟨hR, hc, ha, hb⟩, ?_⟩
  refine d_one 4 (by kernel_rfl) (by rfl) (by kernel_rfl) (S_call (args := [.int .i64 ((a : Nat) : Int)]) (by kernel_rfl) (not_ok a _ (by omega)) ?_)
  rintro _ w6 ⟨rfl, hT7⟩
  have hR := hR.tch0 hT7
  have hc := hc.tch0 hT7
  have ha := ha.tch0 hT7
  have hb := hb.tch0 hT7
  have hL := hL.tch0 hT7
  have hMv := hMv.then0 hT7
  refine ⟨⟨hR, hc, ha, hb⟩, ?_⟩
  have hlt_ := hL.lt
  have hz12 := hMv.1.size
  have lt13 := hR.lt
  have lt14 := hc.lt
  have lt15 := ha.lt
  have lt16 := hb.lt
  refine d_one 6 (by kernel_rfl) (by rfl) (by kernel_rfl) (S_new (v := .slice (some ⟨w6.heap.size, 0, none⟩) 3 3) (ob := .cells #[.int .i64 ((GateP.nt c : Nat) : Int), .int .i64 ((GateP.nt a : Nat) : Int), .int .i64 ((x : Nat) : Int)] 3) (by kernel_rfl) fun w8 hT9 hs10 hB11 => ?_)
  replace hB11 : Blk w8 (w6.heap.size) 3 [.int .i64 ((GateP.nt c : Nat) : Int), .int .i64 ((GateP.nt a : Nat) : Int), .int .i64 ((x : Nat) : Int)] := hB11
  have hR := hR.tch0 hT9
  have hc := hc.tch0 hT9
  have ha := ha.tch0 hT9
  have hb := hb.tch0 hT9
  have hL := hL.tch0 hT9
  have hMv := hMv.then0 hT9
  have nF_hB11 : ¬ F (w6.heap.size) := fun e => by have := hlt_ _ e; omega
  refine ⟨⟨hR, hc, ha, hb⟩, ?_⟩
  have lt21 := hR.lt
  have lt22 := hc.lt
  have lt23 := ha.lt
  have lt24 := hb.lt
  refine d_one 7 (by kernel_rfl) (by rfl) (by kernel_rfl) (S_call (args := [.slice (some ⟨w6.heap.size, 0, none⟩) 3 3, .pointer (some ⟨r, 0, none⟩)]) (by kernel_rfl) (add_ok F r p nv (w6.heap.size) 3 [GateP.nt c, GateP.nt a, x] cs M _ hR hL (show Blk _ _ 3 (nats [GateP.nt c, GateP.nt a, x]) from hB11) rfl (by (try simp only [List.length_append, List.length_cons, List.length_nil]); omega)) ?_)
  rintro _ w17 ⟨rfl, F19, hL, hT18, _, hFn20⟩
  have hR := hR.tch hT18 nF_hR
  have hc := hc.tch hT18 nF_hc
  have ha := ha.tch hT18 nF_ha
  have hb := hb.tch hT18 nF_hb
  have hMv := hMv.add hT18 hFn20 (by omega)
  replace nF_hR : ¬ F19 (r) := fun e => by have := hFn20 _ e; rcases this with q | q | q; exact nF_hR q; omega; omega
  replace nF_hc : ¬ F19 (rc) := fun e => by have := hFn20 _ e; rcases this with q | q | q; exact nF_hc q; omega; omega
  replace nF_ha : ¬ F19 (ra) := fun e => by have := hFn20 _ e; rcases this with q | q | q; exact nF_ha q; omega; omega
  replace nF_hb : ¬ F19 (rb) := fun e => by have := hFn20 _ e; rcases this with q | q | q; exact nF_hb q; omega; omega
  refine ⟨⟨hR, hc, ha, hb⟩, ?_⟩
  refine d_done (by kernel_rfl) ?_
  refine W_seq ?_
  refine W_fg [(0, .int .i64 ((x : Nat) : Int)), (1, .func (.func 78) #[] #[.pointer (some ⟨r, 0, none⟩)]), (2, .pointer (some ⟨rc, 0, none⟩)), (3, .pointer (some ⟨ra, 0, none⟩)), (4, .pointer (some ⟨rb, 0, none⟩))] (by kernel_rfl) fun ρ => ?_
  refine W_draw (fun w' => Blk w' r 25 [.pointer (some ⟨p, 0, none⟩)] ∧ Blk w' rc 3 [.int .i64 ((c : Nat) : Int)] ∧ Blk w' ra 3 [.int .i64 ((a : Nat) : Int)] ∧ Blk w' rb 3 [.int .i64 ((b : Nat) : Int)]) (by kernel_rfl) (by kernel_rfl) (by kernel_rfl) fun w25 hT26 hh27 => ?_
  have hR := hR.tch0 hT26
  have hc := hc.tch0 hT26
  have ha := ha.tch0 hT26
  have hb := hb.tch0 hT26
  have hL := hL.tch0 hT26
  have hMv := hMv.then0 hT26
  refine dtk [0, 4] #[true, false, false, false, true, false, false, false] [(15, .func (.func 78) #[] #[.pointer (some ⟨r, 0, none⟩)]), (19, .int .i64 ((x : Nat) : Int))] ⟨hR, hc, ha, hb⟩ (by kernel_rfl) ?_
  refine d_val (v := .int .i64 ((c : Nat) : Int)) 1 (by rfl) (by kernel_rfl) (by kernel_rfl) (by kernel_rfl) (fun w' hs => by obtain ⟨hR, hc, ha, hb⟩ := hs; exact R_load (v := .int .i64 ((c : Nat) : Int)) (by kernel_rfl) (by kernel_rfl) ((hc.cell 0).trans rfl)) ⟨hR, hc, ha, hb⟩ ?_
  refine d_val (v := .int .i64 ((a : Nat) : Int)) 3 (by rfl) (by kernel_rfl) (by kernel_rfl) (by kernel_rfl) (fun w' hs => by obtain ⟨hR, hc, ha, hb⟩ := hs; exact R_load (v := .int .i64 ((a : Nat) : Int)) (by kernel_rfl) (by kernel_rfl) ((ha.cell 0).trans rfl)) ⟨hR, hc, ha, hb⟩ ?_
  refine d_one 2 (by kernel_rfl) (by rfl) (by kernel_rfl) (S_call (args := [.int .i64 ((c : Nat) : Int)]) (by kernel_rfl) (not_ok c _ (by omega)) ?_)
  rintro _ w28 ⟨rfl, hT29⟩
  have hR := hR.tch0 hT29
  have hc := hc.tch0 hT29
  have ha := ha.tch0 hT29
  have hb := hb.tch0 hT29
  have hL := hL.tch0 hT29
  have hMv := hMv.then0 hT29
  refine ⟨⟨hR, hc, ha, hb⟩, ?_⟩
  refine d_one 5 (by kernel_rfl) (by rfl) (by kernel_rfl) (S_call (args := [.int .i64 ((x : Nat) : Int)]) (by kernel_rfl) (not_ok x _ (by omega)) ?_)
  rintro _ w30 ⟨rfl, hT31⟩
  have hR := hR.tch0 hT31
  have hc := hc.tch0 hT31
  have ha := ha.tch0 hT31
  have hb := hb.tch0 hT31
  have hL := hL.tch0 hT31
  have hMv := hMv.then0 hT31
  refine ⟨⟨hR, hc, ha, hb⟩, ?_⟩
  have hlt_ := hL.lt
  have hz36 := hMv.1.size
  have lt37 := hR.lt
  have lt38 := hc.lt
  have lt39 := ha.lt
  have lt40 := hb.lt
  refine d_one 6 (by kernel_rfl) (by rfl) (by kernel_rfl) (S_new (v := .slice (some ⟨w30.heap.size, 0, none⟩) 3 3) (ob := .cells #[.int .i64 ((GateP.nt c : Nat) : Int), .int .i64 ((a : Nat) : Int), .int .i64 ((GateP.nt x : Nat) : Int)] 3) (by kernel_rfl) fun w32 hT33 hs34 hB35 => ?_)
  replace hB35 : Blk w32 (w30.heap.size) 3 [.int .i64 ((GateP.nt c : Nat) : Int), .int .i64 ((a : Nat) : Int), .int .i64 ((GateP.nt x : Nat) : Int)] := hB35
  have hR := hR.tch0 hT33
  have hc := hc.tch0 hT33
  have ha := ha.tch0 hT33
  have hb := hb.tch0 hT33
  have hL := hL.tch0 hT33
  have hMv := hMv.then0 hT33
  have nF_hB35 : ¬ F19 (w30.heap.size) := fun e => by have := hlt_ _ e; omega
  refine ⟨⟨hR, hc, ha, hb⟩, ?_⟩
  have lt45 := hR.lt
  have lt46 := hc.lt
  have lt47 := ha.lt
  have lt48 := hb.lt
  refine d_one 7 (by kernel_rfl) (by rfl) (by kernel_rfl) (S_call (args := [.slice (some ⟨w30.heap.size, 0, none⟩) 3 3, .pointer (some ⟨r, 0, none⟩)]) (by kernel_rfl) (add_ok F19 r p nv (w30.heap.size) 3 [GateP.nt c, a, GateP.nt x] (cs ++ [[GateP.nt c, GateP.nt a, x]]) M _ hR hL (show Blk _ _ 3 (nats [GateP.nt c, a, GateP.nt x]) from hB35) rfl (by (try simp only [List.length_append, List.length_cons, List.length_nil]); omega)) ?_)
  rintro _ w41 ⟨rfl, F43, hL, hT42, _, hFn44⟩
  have hR := hR.tch hT42 nF_hR
  have hc := hc.tch hT42 nF_hc
  have ha := ha.tch hT42 nF_ha
  have hb := hb.tch hT42 nF_hb
  have hMv := hMv.add hT42 hFn44 (by omega)
  replace nF_hR : ¬ F43 (r) := fun e => by have := hFn44 _ e; rcases this with q | q | q; exact nF_hR q; omega; omega
  replace nF_hc : ¬ F43 (rc) := fun e => by have := hFn44 _ e; rcases this with q | q | q; exact nF_hc q; omega; omega
  replace nF_ha : ¬ F43 (ra) := fun e => by have := hFn44 _ e; rcases this with q | q | q; exact nF_ha q; omega; omega
  replace nF_hb : ¬ F43 (rb) := fun e => by have := hFn44 _ e; rcases this with q | q | q; exact nF_hb q; omega; omega
  refine ⟨⟨hR, hc, ha, hb⟩, ?_⟩
  refine d_done (by kernel_rfl) ?_
  refine W_seq ?_
  refine W_fg [(0, .int .i64 ((x : Nat) : Int)), (1, .func (.func 78) #[] #[.pointer (some ⟨r, 0, none⟩)]), (2, .pointer (some ⟨rc, 0, none⟩)), (3, .pointer (some ⟨ra, 0, none⟩)), (4, .pointer (some ⟨rb, 0, none⟩))] (by kernel_rfl) fun ρ => ?_
  refine W_draw (fun w' => Blk w' r 25 [.pointer (some ⟨p, 0, none⟩)] ∧ Blk w' rc 3 [.int .i64 ((c : Nat) : Int)] ∧ Blk w' ra 3 [.int .i64 ((a : Nat) : Int)] ∧ Blk w' rb 3 [.int .i64 ((b : Nat) : Int)]) (by kernel_rfl) (by kernel_rfl) (by kernel_rfl) fun w49 hT50 hh51 => ?_
  have hR := hR.tch0 hT50
  have hc := hc.tch0 hT50
  have ha := ha.tch0 hT50
  have hb := hb.tch0 hT50
  have hL := hL.tch0 hT50
  have hMv := hMv.then0 hT50
  refine dtk [0, 4] #[true, false, false, false, true, false, false] [(23, .func (.func 78) #[] #[.pointer (some ⟨r, 0, none⟩)]), (27, .int .i64 ((x : Nat) : Int))] ⟨hR, hc, ha, hb⟩ (by kernel_rfl) ?_
  refine d_val (v := .int .i64 ((c : Nat) : Int)) 1 (by rfl) (by kernel_rfl) (by kernel_rfl) (by kernel_rfl) (fun w' hs => by obtain ⟨hR, hc, ha, hb⟩ := hs; exact R_load (v := .int .i64 ((c : Nat) : Int)) (by kernel_rfl) (by kernel_rfl) ((hc.cell 0).trans rfl)) ⟨hR, hc, ha, hb⟩ ?_
  refine d_val (v := .int .i64 ((b : Nat) : Int)) 2 (by rfl) (by kernel_rfl) (by kernel_rfl) (by kernel_rfl) (fun w' hs => by obtain ⟨hR, hc, ha, hb⟩ := hs; exact R_load (v := .int .i64 ((b : Nat) : Int)) (by kernel_rfl) (by kernel_rfl) ((hb.cell 0).trans rfl)) ⟨hR, hc, ha, hb⟩ ?_
  refine d_one 3 (by kernel_rfl) (by rfl) (by kernel_rfl) (S_call (args := [.int .i64 ((b : Nat) : Int)]) (by kernel_rfl) (not_ok b _ (by omega)) ?_)
  rintro _ w52 ⟨rfl, hT53⟩
  have hR := hR.tch0 hT53
  have hc := hc.tch0 hT53
  have ha := ha.tch0 hT53
  have hb := hb.tch0 hT53
  have hL := hL.tch0 hT53
  have hMv := hMv.then0 hT53
  refine ⟨⟨hR, hc, ha, hb⟩, ?_⟩
  have hlt_ := hL.lt
  have hz58 := hMv.1.size
  have lt59 := hR.lt
  have lt60 := hc.lt
  have lt61 := ha.lt
  have lt62 := hb.lt
  refine d_one 5 (by kernel_rfl) (by rfl) (by kernel_rfl) (S_new (v := .slice (some ⟨w52.heap.size, 0, none⟩) 3 3) (ob := .cells #[.int .i64 ((c : Nat) : Int), .int .i64 ((GateP.nt b : Nat) : Int), .int .i64 ((x : Nat) : Int)] 3) (by kernel_rfl) fun w54 hT55 hs56 hB57 => ?_)
  replace hB57 : Blk w54 (w52.heap.size) 3 [.int .i64 ((c : Nat) : Int), .int .i64 ((GateP.nt b : Nat) : Int), .int .i64 ((x : Nat) : Int)] := hB57
  have hR := hR.tch0 hT55
  have hc := hc.tch0 hT55
  have ha := ha.tch0 hT55
  have hb := hb.tch0 hT55
  have hL := hL.tch0 hT55
  have hMv := hMv.then0 hT55
  have nF_hB57 : ¬ F43 (w52.heap.size) := fun e => by have := hlt_ _ e; omega
  refine ⟨⟨hR, hc, ha, hb⟩, ?_⟩
  have lt67 := hR.lt
  have lt68 := hc.lt
  have lt69 := ha.lt
  have lt70 := hb.lt
  refine d_one 6 (by kernel_rfl) (by rfl) (by kernel_rfl) (S_call (args := [.slice (some ⟨w52.heap.size, 0, none⟩) 3 3, .pointer (some ⟨r, 0, none⟩)]) (by kernel_rfl) (add_ok F43 r p nv (w52.heap.size) 3 [c, GateP.nt b, x] (cs ++ [[GateP.nt c, GateP.nt a, x]] ++ [[GateP.nt c, a, GateP.nt x]]) M _ hR hL (show Blk _ _ 3 (nats [c, GateP.nt b, x]) from hB57) rfl (by (try simp only [List.length_append, List.length_cons, List.length_nil]); omega)) ?_)
  rintro _ w63 ⟨rfl, F65, hL, hT64, _, hFn66⟩
  have hR := hR.tch hT64 nF_hR
  have hc := hc.tch hT64 nF_hc
  have ha := ha.tch hT64 nF_ha
  have hb := hb.tch hT64 nF_hb
  have hMv := hMv.add hT64 hFn66 (by omega)
  replace nF_hR : ¬ F65 (r) := fun e => by have := hFn66 _ e; rcases this with q | q | q; exact nF_hR q; omega; omega
  replace nF_hc : ¬ F65 (rc) := fun e => by have := hFn66 _ e; rcases this with q | q | q; exact nF_hc q; omega; omega
  replace nF_ha : ¬ F65 (ra) := fun e => by have := hFn66 _ e; rcases this with q | q | q; exact nF_ha q; omega; omega
  replace nF_hb : ¬ F65 (rb) := fun e => by have := hFn66 _ e; rcases this with q | q | q; exact nF_hb q; omega; omega
  refine ⟨⟨hR, hc, ha, hb⟩, ?_⟩
  refine d_done (by kernel_rfl) ?_
  refine W_seq ?_
  refine W_draw (fun w' => Blk w' r 25 [.pointer (some ⟨p, 0, none⟩)] ∧ Blk w' rc 3 [.int .i64 ((c : Nat) : Int)] ∧ Blk w' ra 3 [.int .i64 ((a : Nat) : Int)] ∧ Blk w' rb 3 [.int .i64 ((b : Nat) : Int)]) (by kernel_rfl) (by kernel_rfl) (by kernel_rfl) fun w71 hT72 hh73 => ?_
  have hR := hR.tch0 hT72
  have hc := hc.tch0 hT72
  have ha := ha.tch0 hT72
  have hb := hb.tch0 hT72
  have hL := hL.tch0 hT72
  have hMv := hMv.then0 hT72
  refine dtk [0, 3] #[true, false, false, true, false, false, false] [(30, .func (.func 78) #[] #[.pointer (some ⟨r, 0, none⟩)]), (33, .int .i64 ((x : Nat) : Int))] ⟨hR, hc, ha, hb⟩ (by kernel_rfl) ?_
  refine d_val (v := .int .i64 ((c : Nat) : Int)) 1 (by rfl) (by kernel_rfl) (by kernel_rfl) (by kernel_rfl) (fun w' hs => by obtain ⟨hR, hc, ha, hb⟩ := hs; exact R_load (v := .int .i64 ((c : Nat) : Int)) (by kernel_rfl) (by kernel_rfl) ((hc.cell 0).trans rfl)) ⟨hR, hc, ha, hb⟩ ?_
  refine d_val (v := .int .i64 ((b : Nat) : Int)) 2 (by rfl) (by kernel_rfl) (by kernel_rfl) (by kernel_rfl) (fun w' hs => by obtain ⟨hR, hc, ha, hb⟩ := hs; exact R_load (v := .int .i64 ((b : Nat) : Int)) (by kernel_rfl) (by kernel_rfl) ((hb.cell 0).trans rfl)) ⟨hR, hc, ha, hb⟩ ?_
  refine d_one 4 (by kernel_rfl) (by rfl) (by kernel_rfl) (S_call (args := [.int .i64 ((x : Nat) : Int)]) (by kernel_rfl) (not_ok x _ (by omega)) ?_)
  rintro _ w74 ⟨rfl, hT75⟩
  have hR := hR.tch0 hT75
  have hc := hc.tch0 hT75
  have ha := ha.tch0 hT75
  have hb := hb.tch0 hT75
  have hL := hL.tch0 hT75
  have hMv := hMv.then0 hT75
  refine ⟨⟨hR, hc, ha, hb⟩, ?_⟩
  have hlt_ := hL.lt
  have hz80 := hMv.1.size
  have lt81 := hR.lt
  have lt82 := hc.lt
  have lt83 := ha.lt
  have lt84 := hb.lt
  refine d_one 5 (by kernel_rfl) (by rfl) (by kernel_rfl) (S_new (v := .slice (some ⟨w74.heap.size, 0, none⟩) 3 3) (ob := .cells #[.int .i64 ((c : Nat) : Int), .int .i64 ((b : Nat) : Int), .int .i64 ((GateP.nt x : Nat) : Int)] 3) (by kernel_rfl) fun w76 hT77 hs78 hB79 => ?_)
  replace hB79 : Blk w76 (w74.heap.size) 3 [.int .i64 ((c : Nat) : Int), .int .i64 ((b : Nat) : Int), .int .i64 ((GateP.nt x : Nat) : Int)] := hB79
  have hR := hR.tch0 hT77
  have hc := hc.tch0 hT77
  have ha := ha.tch0 hT77
  have hb := hb.tch0 hT77
  have hL := hL.tch0 hT77
  have hMv := hMv.then0 hT77
  have nF_hB79 : ¬ F65 (w74.heap.size) := fun e => by have := hlt_ _ e; omega
  refine ⟨⟨hR, hc, ha, hb⟩, ?_⟩
  have lt89 := hR.lt
  have lt90 := hc.lt
  have lt91 := ha.lt
  have lt92 := hb.lt
  refine d_one 6 (by kernel_rfl) (by rfl) (by kernel_rfl) (S_call (args := [.slice (some ⟨w74.heap.size, 0, none⟩) 3 3, .pointer (some ⟨r, 0, none⟩)]) (by kernel_rfl) (add_ok F65 r p nv (w74.heap.size) 3 [c, b, GateP.nt x] (cs ++ [[GateP.nt c, GateP.nt a, x]] ++ [[GateP.nt c, a, GateP.nt x]] ++ [[c, GateP.nt b, x]]) M _ hR hL (show Blk _ _ 3 (nats [c, b, GateP.nt x]) from hB79) rfl (by (try simp only [List.length_append, List.length_cons, List.length_nil]); omega)) ?_)
  rintro _ w85 ⟨rfl, F87, hL, hT86, _, hFn88⟩
  have hR := hR.tch hT86 nF_hR
  have hc := hc.tch hT86 nF_hc
  have ha := ha.tch hT86 nF_ha
  have hb := hb.tch hT86 nF_hb
  have hMv := hMv.add hT86 hFn88 (by omega)
  replace nF_hR : ¬ F87 (r) := fun e => by have := hFn88 _ e; rcases this with q | q | q; exact nF_hR q; omega; omega
  replace nF_hc : ¬ F87 (rc) := fun e => by have := hFn88 _ e; rcases this with q | q | q; exact nF_hc q; omega; omega
  replace nF_ha : ¬ F87 (ra) := fun e => by have := hFn88 _ e; rcases this with q | q | q; exact nF_ha q; omega; omega
  replace nF_hb : ¬ F87 (rb) := fun e => by have := hFn88 _ e; rcases this with q | q | q; exact nF_hb q; omega; omega
  refine ⟨⟨hR, hc, ha, hb⟩, ?_⟩
  refine d_done (by kernel_rfl) ?_
  refine W_seq ?_
  refine W_fg [(0, .int .i64 ((x : Nat) : Int)), (1, .func (.func 78) #[] #[.pointer (some ⟨r, 0, none⟩)]), (2, .pointer (some ⟨rc, 0, none⟩)), (3, .pointer (some ⟨ra, 0, none⟩)), (4, .pointer (some ⟨rb, 0, none⟩))] (by kernel_rfl) fun ρ => ?_
  refine W_draw (fun w' => Blk w' r 25 [.pointer (some ⟨p, 0, none⟩)] ∧ Blk w' rc 3 [.int .i64 ((c : Nat) : Int)] ∧ Blk w' ra 3 [.int .i64 ((a : Nat) : Int)] ∧ Blk w' rb 3 [.int .i64 ((b : Nat) : Int)]) (by kernel_rfl) (by kernel_rfl) (by kernel_rfl) fun w93 hT94 hh95 => ?_
  have hR := hR.tch0 hT94
  have hc := hc.tch0 hT94
  have ha := ha.tch0 hT94
  have hb := hb.tch0 hT94
  have hL := hL.tch0 hT94
  have hMv := hMv.then0 hT94
  refine dtk [0, 5] #[true, false, false, false, false, true, false, false] [(37, .func (.func 78) #[] #[.pointer (some ⟨r, 0, none⟩)]), (42, .int .i64 ((x : Nat) : Int))] ⟨hR, hc, ha, hb⟩ (by kernel_rfl) ?_
  refine d_val (v := .int .i64 ((a : Nat) : Int)) 1 (by rfl) (by kernel_rfl) (by kernel_rfl) (by kernel_rfl) (fun w' hs => by obtain ⟨hR, hc, ha, hb⟩ := hs; exact R_load (v := .int .i64 ((a : Nat) : Int)) (by kernel_rfl) (by kernel_rfl) ((ha.cell 0).trans rfl)) ⟨hR, hc, ha, hb⟩ ?_
  refine d_val (v := .int .i64 ((b : Nat) : Int)) 3 (by rfl) (by kernel_rfl) (by kernel_rfl) (by kernel_rfl) (fun w' hs => by obtain ⟨hR, hc, ha, hb⟩ := hs; exact R_load (v := .int .i64 ((b : Nat) : Int)) (by kernel_rfl) (by kernel_rfl) ((hb.cell 0).trans rfl)) ⟨hR, hc, ha, hb⟩ ?_
  refine d_one 2 (by kernel_rfl) (by rfl) (by kernel_rfl) (S_call (args := [.int .i64 ((a : Nat) : Int)]) (by kernel_rfl) (not_ok a _ (by omega)) ?_)
  rintro _ w96 ⟨rfl, hT97⟩
  have hR := hR.tch0 hT97
  have hc := hc.tch0 hT97
  have ha := ha.tch0 hT97
  have hb := hb.tch0 hT97
  have hL := hL.tch0 hT97
  have hMv := hMv.then0 hT97
  refine ⟨⟨hR, hc, ha, hb⟩, ?_⟩
  refine d_one 4 (by kernel_rfl) (by rfl) (by kernel_rfl) (S_call (args := [.int .i64 ((b : Nat) : Int)]) (by kernel_rfl) (not_ok b _ (by omega)) ?_)
  rintro _ w98 ⟨rfl, hT99⟩
  have hR := hR.tch0 hT99
  have hc := hc.tch0 hT99
  have ha := ha.tch0 hT99
  have hb := hb.tch0 hT99
  have hL := hL.tch0 hT99
  have hMv := hMv.then0 hT99
  refine ⟨⟨hR, hc, ha, hb⟩, ?_⟩
  have hlt_ := hL.lt
  have hz104 := hMv.1.size
  have lt105 := hR.lt
  have lt106 := hc.lt
  have lt107 := ha.lt
  have lt108 := hb.lt
  refine d_one 6 (by kernel_rfl) (by rfl) (by kernel_rfl) (S_new (v := .slice (some ⟨w98.heap.size, 0, none⟩) 3 3) (ob := .cells #[.int .i64 ((GateP.nt a : Nat) : Int), .int .i64 ((GateP.nt b : Nat) : Int), .int .i64 ((x : Nat) : Int)] 3) (by kernel_rfl) fun w100 hT101 hs102 hB103 => ?_)
  replace hB103 : Blk w100 (w98.heap.size) 3 [.int .i64 ((GateP.nt a : Nat) : Int), .int .i64 ((GateP.nt b : Nat) : Int), .int .i64 ((x : Nat) : Int)] := hB103
  have hR := hR.tch0 hT101
  have hc := hc.tch0 hT101
  have ha := ha.tch0 hT101
  have hb := hb.tch0 hT101
  have hL := hL.tch0 hT101
  have hMv := hMv.then0 hT101
  have nF_hB103 : ¬ F87 (w98.heap.size) := fun e => by have := hlt_ _ e; omega
  refine ⟨⟨hR, hc, ha, hb⟩, ?_⟩
  have lt113 := hR.lt
  have lt114 := hc.lt
  have lt115 := ha.lt
  have lt116 := hb.lt
  refine d_one 7 (by kernel_rfl) (by rfl) (by kernel_rfl) (S_call (args := [.slice (some ⟨w98.heap.size, 0, none⟩) 3 3, .pointer (some ⟨r, 0, none⟩)]) (by kernel_rfl) (add_ok F87 r p nv (w98.heap.size) 3 [GateP.nt a, GateP.nt b, x] (cs ++ [[GateP.nt c, GateP.nt a, x]] ++ [[GateP.nt c, a, GateP.nt x]] ++ [[c, GateP.nt b, x]] ++ [[c, b, GateP.nt x]]) M _ hR hL (show Blk _ _ 3 (nats [GateP.nt a, GateP.nt b, x]) from hB103) rfl (by (try simp only [List.length_append, List.length_cons, List.length_nil]); omega)) ?_)
  rintro _ w109 ⟨rfl, F111, hL, hT110, _, hFn112⟩
  have hR := hR.tch hT110 nF_hR
  have hc := hc.tch hT110 nF_hc
  have ha := ha.tch hT110 nF_ha
  have hb := hb.tch hT110 nF_hb
  have hMv := hMv.add hT110 hFn112 (by omega)
  replace nF_hR : ¬ F111 (r) := fun e => by have := hFn112 _ e; rcases this with q | q | q; exact nF_hR q; omega; omega
  replace nF_hc : ¬ F111 (rc) := fun e => by have := hFn112 _ e; rcases this with q | q | q; exact nF_hc q; omega; omega
  replace nF_ha : ¬ F111 (ra) := fun e => by have := hFn112 _ e; rcases this with q | q | q; exact nF_ha q; omega; omega
  replace nF_hb : ¬ F111 (rb) := fun e => by have := hFn112 _ e; rcases this with q | q | q; exact nF_hb q; omega; omega
  refine ⟨⟨hR, hc, ha, hb⟩, ?_⟩
  refine d_done (by kernel_rfl) ?_
  refine W_fg [(0, .int .i64 ((x : Nat) : Int)), (1, .func (.func 78) #[] #[.pointer (some ⟨r, 0, none⟩)]), (2, .pointer (some ⟨rc, 0, none⟩)), (3, .pointer (some ⟨ra, 0, none⟩)), (4, .pointer (some ⟨rb, 0, none⟩))] (by kernel_rfl) fun ρ => ?_
  refine W_draw (fun w' => Blk w' r 25 [.pointer (some ⟨p, 0, none⟩)] ∧ Blk w' rc 3 [.int .i64 ((c : Nat) : Int)] ∧ Blk w' ra 3 [.int .i64 ((a : Nat) : Int)] ∧ Blk w' rb 3 [.int .i64 ((b : Nat) : Int)]) (by kernel_rfl) (by kernel_rfl) (by kernel_rfl) fun w117 hT118 hh119 => ?_
  have hR := hR.tch0 hT118
  have hc := hc.tch0 hT118
  have ha := ha.tch0 hT118
  have hb := hb.tch0 hT118
  have hL := hL.tch0 hT118
  have hMv := hMv.then0 hT118
  refine dtk [0, 3] #[true, false, false, true, false, false, false] [(45, .func (.func 78) #[] #[.pointer (some ⟨r, 0, none⟩)]), (48, .int .i64 ((x : Nat) : Int))] ⟨hR, hc, ha, hb⟩ (by kernel_rfl) ?_
  refine d_val (v := .int .i64 ((a : Nat) : Int)) 1 (by rfl) (by kernel_rfl) (by kernel_rfl) (by kernel_rfl) (fun w' hs => by obtain ⟨hR, hc, ha, hb⟩ := hs; exact R_load (v := .int .i64 ((a : Nat) : Int)) (by kernel_rfl) (by kernel_rfl) ((ha.cell 0).trans rfl)) ⟨hR, hc, ha, hb⟩ ?_
  refine d_val (v := .int .i64 ((b : Nat) : Int)) 2 (by rfl) (by kernel_rfl) (by kernel_rfl) (by kernel_rfl) (fun w' hs => by obtain ⟨hR, hc, ha, hb⟩ := hs; exact R_load (v := .int .i64 ((b : Nat) : Int)) (by kernel_rfl) (by kernel_rfl) ((hb.cell 0).trans rfl)) ⟨hR, hc, ha, hb⟩ ?_
  refine d_one 4 (by kernel_rfl) (by rfl) (by kernel_rfl) (S_call (args := [.int .i64 ((x : Nat) : Int)]) (by kernel_rfl) (not_ok x _ (by omega)) ?_)
  rintro _ w120 ⟨rfl, hT121⟩
  have hR := hR.tch0 hT121
  have hc := hc.tch0 hT121
  have ha := ha.tch0 hT121
  have hb := hb.tch0 hT121
  have hL := hL.tch0 hT121
  have hMv := hMv.then0 hT121
  refine ⟨⟨hR, hc, ha, hb⟩, ?_⟩
  have hlt_ := hL.lt
  have hz126 := hMv.1.size
  have lt127 := hR.lt
  have lt128 := hc.lt
  have lt129 := ha.lt
  have lt130 := hb.lt
  refine d_one 5 (by kernel_rfl) (by rfl) (by kernel_rfl) (S_new (v := .slice (some ⟨w120.heap.size, 0, none⟩) 3 3) (ob := .cells #[.int .i64 ((a : Nat) : Int), .int .i64 ((b : Nat) : Int), .int .i64 ((GateP.nt x : Nat) : Int)] 3) (by kernel_rfl) fun w122 hT123 hs124 hB125 => ?_)
  replace hB125 : Blk w122 (w120.heap.size) 3 [.int .i64 ((a : Nat) : Int), .int .i64 ((b : Nat) : Int), .int .i64 ((GateP.nt x : Nat) : Int)] := hB125
  have hR := hR.tch0 hT123
  have hc := hc.tch0 hT123
  have ha := ha.tch0 hT123
  have hb := hb.tch0 hT123
  have hL := hL.tch0 hT123
  have hMv := hMv.then0 hT123
  have nF_hB125 : ¬ F111 (w120.heap.size) := fun e => by have := hlt_ _ e; omega
  refine ⟨⟨hR, hc, ha, hb⟩, ?_⟩
  have lt135 := hR.lt
  have lt136 := hc.lt
  have lt137 := ha.lt
  have lt138 := hb.lt
  refine d_one 6 (by kernel_rfl) (by rfl) (by kernel_rfl) (S_call (args := [.slice (some ⟨w120.heap.size, 0, none⟩) 3 3, .pointer (some ⟨r, 0, none⟩)]) (by kernel_rfl) (add_ok F111 r p nv (w120.heap.size) 3 [a, b, GateP.nt x] (cs ++ [[GateP.nt c, GateP.nt a, x]] ++ [[GateP.nt c, a, GateP.nt x]] ++ [[c, GateP.nt b, x]] ++ [[c, b, GateP.nt x]] ++ [[GateP.nt a, GateP.nt b, x]]) M _ hR hL (show Blk _ _ 3 (nats [a, b, GateP.nt x]) from hB125) rfl (by (try simp only [List.length_append, List.length_cons, List.length_nil]); omega)) ?_)
  rintro _ w131 ⟨rfl, F133, hL, hT132, _, hFn134⟩
  have hR := hR.tch hT132 nF_hR
  have hc := hc.tch hT132 nF_hc
  have ha := ha.tch hT132 nF_ha
  have hb := hb.tch hT132 nF_hb
  have hMv := hMv.add hT132 hFn134 (by omega)
  replace nF_hR : ¬ F133 (r) := fun e => by have := hFn134 _ e; rcases this with q | q | q; exact nF_hR q; omega; omega
  replace nF_hc : ¬ F133 (rc) := fun e => by have := hFn134 _ e; rcases this with q | q | q; exact nF_hc q; omega; omega
  replace nF_ha : ¬ F133 (ra) := fun e => by have := hFn134 _ e; rcases this with q | q | q; exact nF_ha q; omega; omega
  replace nF_hb : ¬ F133 (rb) := fun e => by have := hFn134 _ e; rcases this with q | q | q; exact nF_hb q; omega; omega
  refine ⟨⟨hR, hc, ha, hb⟩, ?_⟩
  refine d_done (by kernel_rfl) ?_
  refine ⟨_, Res_of (v := .tuple #[]) (by kernel_rfl), ?_⟩
  have e : cs ++ [[GateP.nt c, GateP.nt a, x]] ++ [[GateP.nt c, a, GateP.nt x]] ++ [[c, GateP.nt b, x]] ++ [[c, b, GateP.nt x]] ++ [[GateP.nt a, GateP.nt b, x]] ++ [[a, b, GateP.nt x]] = cs ++ gcl 2 c a b x := by simp [gcl]
  rw [e] at hL
  exact ⟨rfl, _, hL, hMv⟩

end Go.Proofs.YtnlecdpiccgdpaaV
