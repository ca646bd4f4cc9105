/- Texts laid together: Walks of functions of the program and of the document's texts. The conditions stand with each theorem. Walks of functions of the program and of the document's texts. The conditions stand with each theorem. Gates: what each says, out of what its parts say: plain. -/
import Derived.Test.YtnlecdpiccgdpaaJMmult60x2
import Derived.Test.YtnlecdpiccgdpaaProg
import Derived.Test.YtnlecdpiccgdpaaJMmult60x1
import Derived.Test.YtnlecdpiccgdpaaJMmult60x3
set_option linter.unusedVariables false
set_option linter.unusedSimpArgs false
namespace Go.Proofs.YtnlecdpiccgdpaaV
open Go Go.RowKit Go.Proofs

theorem Mv.add {F F1 F2 : Nat → Prop} {w w1 w2 : World} {g : Nat} (h : Mv F F1 w w1) (T : Tch F1 w1 w2) (hn : ∀ b, F2 b → F1 b ∨ b = g ∨ w1.heap.size ≤ b) (hg : w.heap.size ≤ g) : Mv F F2 w w2 :=
  ⟨h.1.trans T (fun _ _ e => e) (fun b hb e => (h.2 b e).resolve_right (by omega)), fun b hb => by
    have hz := h.1.size
    rcases hn b hb with e | e | e
    · exact h.2 b e
    · exact .inr (by omega)
    · exact .inr (by omega)⟩

set_option maxRecDepth 100000 in
theorem clo0_ok (F : Nat → Prop) (r p nv x a b ra rb : Nat) (cs : List (List Nat)) (M : Value → Value → Prop) (w : World) (hR : Blk w r 25 [.pointer (some ⟨p, 0, none⟩)]) (ha : Blk w ra 3 [.int .i64 ((a : Nat) : Int)]) (hb : Blk w rb 3 [.int .i64 ((b : Nat) : Int)]) (nF_hR : ¬ F r) (nF_ha : ¬ F ra) (nF_hb : ¬ F rb) (hL : Low F w p nv cs M) (hk : cs.length ≤ 4398046511000) (hx : x < 4611686018427387904) (hxa : a < 4611686018427387904) (hxb : b < 4611686018427387904) : Ret Try.prog 57 [.int .i64 ((x : Nat) : Int), .func (.func 78) #[] #[.pointer (some ⟨r, 0, none⟩)], .pointer (some ⟨ra, 0, none⟩), .pointer (some ⟨rb, 0, none⟩)] w fun v w' => v = .tuple #[] ∧ ∃ F', Low F' w' p nv (cs ++ gcl 0 a b 0 x) M ∧ Mv F F' w w' := by
  have hMv := Mv.refl F w
  refine enter Try.func57 rfl rfl ?_
  refine W_seq ?_
  refine W_draw (fun w' => Blk w' r 25 [.pointer (some ⟨p, 0, none⟩)] ∧ Blk w' ra 3 [.int .i64 ((a : Nat) : Int)] ∧ Blk w' rb 3 [.int .i64 ((b : Nat) : Int)]) (by kernel_rfl) (by kernel_rfl) (by kernel_rfl) fun w1 hT2 hh3 => ?_
  have hR := hR.tch0 hT2
  have ha := ha.tch0 hT2
  have hb := hb.tch0 hT2
  have hL := hL.tch0 hT2
  have hMv := hMv.then0 hT2
  refine dtk [0, 1] #[true, true, false, false, false, false] [(6, .func (.func 78) #[] #[.pointer (some ⟨r, 0, none⟩)]), (7, .int .i64 ((x : Nat) : Int))] ⟨hR, ha, hb⟩ (by kernel_rfl) ?_
  refine d_val (v := .int .i64 ((a : Nat) : Int)) 3 (by rfl) (by kernel_rfl) (by kernel_rfl) (by kernel_rfl) (fun w' hs => by obtain ⟨hR, ha, hb⟩ := hs; exact R_load (v := .int .i64 ((a : Nat) : Int)) (by kernel_rfl) (by kernel_rfl) ((ha.cell 0).trans rfl)) ⟨hR, ha, hb⟩ ?_
  refine d_one 2 (by kernel_rfl) (by rfl) (by kernel_rfl) (S_call (args := [.int .i64 ((x : Nat) : Int)]) (by kernel_rfl) (not_ok x _ (by omega)) ?_)
  rintro _ w4 ⟨rfl, hT5⟩
  have hR := hR.tch0 hT5
  have ha := ha.tch0 hT5
  have hb := hb.tch0 hT5
  have hL := hL.tch0 hT5
  have hMv := hMv.then0 hT5
  refine ⟨⟨hR, ha, hb⟩, ?_⟩
  have hlt_ := hL.lt
  have hz10 := hMv.1.size
  have lt11 := hR.lt
  have lt12 := ha.lt
  have lt13 := hb.lt
  refine d_one 4 (by kernel_rfl) (by rfl) (by kernel_rfl) (S_new (v := .slice (some ⟨w4.heap.size, 0, none⟩) 2 2) (ob := .cells #[.int .i64 ((GateP.nt x : Nat) : Int), .int .i64 ((a : Nat) : Int)] 3) (by kernel_rfl) fun w6 hT7 hs8 hB9 => ?_)
  replace hB9 : Blk w6 (w4.heap.size) 3 [.int .i64 ((GateP.nt x : Nat) : Int), .int .i64 ((a : Nat) : Int)] := hB9
  have hR := hR.tch0 hT7
  have ha := ha.tch0 hT7
  have hb := hb.tch0 hT7
  have hL := hL.tch0 hT7
  have hMv := hMv.then0 hT7
  have nF_hB9 : ¬ F (w4.heap.size) := fun e => by have := hlt_ _ e; omega
  refine ⟨⟨hR, ha, hb⟩, ?_⟩
  have lt18 := hR.lt
  have lt19 := ha.lt
  have lt20 := hb.lt
  refine d_one 5 (by kernel_rfl) (by rfl) (by kernel_rfl) (S_call (args := [.slice (some ⟨w4.heap.size, 0, none⟩) 2 2, .pointer (some ⟨r, 0, none⟩)]) (by kernel_rfl) (add_ok F r p nv (w4.heap.size) 2 [GateP.nt x, a] cs M _ hR hL (show Blk _ _ 3 (nats [GateP.nt x, a]) from hB9) rfl (by (try simp only [List.length_append, List.length_cons, List.length_nil]); omega)) ?_)
  rintro _ w14 ⟨rfl, F16, hL, hT15, _, hFn17⟩
  have hR := hR.tch hT15 nF_hR
  have ha := ha.tch hT15 nF_ha
  have hb := hb.tch hT15 nF_hb
  have hMv := hMv.add hT15 hFn17 (by omega)
  replace nF_hR : ¬ F16 (r) := fun e => by have := hFn17 _ e; rcases this with q | q | q; exact nF_hR q; omega; omega
  replace nF_ha : ¬ F16 (ra) := fun e => by have := hFn17 _ e; rcases this with q | q | q; exact nF_ha q; omega; omega
  replace nF_hb : ¬ F16 (rb) := fun e => by have := hFn17 _ e; rcases this with q | q | q; exact nF_hb q; omega; omega
  refine ⟨⟨hR, ha, hb⟩, ?_⟩
  refine d_done (by kernel_rfl) ?_
  refine W_seq ?_
  refine W_draw (fun w' => Blk w' r 25 [.pointer (some ⟨p, 0, none⟩)] ∧ Blk w' ra 3 [.int .i64 ((a : Nat) : Int)] ∧ Blk w' rb 3 [.int .i64 ((b : Nat) : Int)]) (by kernel_rfl) (by kernel_rfl) (by kernel_rfl) fun w21 hT22 hh23 => ?_
  have hR := hR.tch0 hT22
  have ha := ha.tch0 hT22
  have hb := hb.tch0 hT22
  have hL := hL.tch0 hT22
  have hMv := hMv.then0 hT22
  refine dtk [0, 1] #[true, true, false, false, false, false] [(12, .func (.func 78) #[] #[.pointer (some ⟨r, 0, none⟩)]), (13, .int .i64 ((x : Nat) : Int))] ⟨hR, ha, hb⟩ (by kernel_rfl) ?_
  refine d_val (v := .int .i64 ((b : Nat) : Int)) 3 (by rfl) (by kernel_rfl) (by kernel_rfl) (by kernel_rfl) (fun w' hs => by obtain ⟨hR, ha, hb⟩ := hs; exact R_load (v := .int .i64 ((b : Nat) : Int)) (by kernel_rfl) (by kernel_rfl) ((hb.cell 0).trans rfl)) ⟨hR, ha, hb⟩ ?_
  refine d_one 2 (by kernel_rfl) (by rfl) (by kernel_rfl) (S_call (args := [.int .i64 ((x : Nat) : Int)]) (by kernel_rfl) (not_ok x _ (by omega)) ?_)
  rintro _ w24 ⟨rfl, hT25⟩
  have hR := hR.tch0 hT25
  have ha := ha.tch0 hT25
  have hb := hb.tch0 hT25
  have hL := hL.tch0 hT25
  have hMv := hMv.then0 hT25
  refine ⟨⟨hR, ha, hb⟩, ?_⟩
  have hlt_ := hL.lt
  have hz30 := hMv.1.size
  have lt31 := hR.lt
  have lt32 := ha.lt
  have lt33 := hb.lt
  refine d_one 4 (by kernel_rfl) (by rfl) (by kernel_rfl) (S_new (v := .slice (some ⟨w24.heap.size, 0, none⟩) 2 2) (ob := .cells #[.int .i64 ((GateP.nt x : Nat) : Int), .int .i64 ((b : Nat) : Int)] 3) (by kernel_rfl) fun w26 hT27 hs28 hB29 => ?_)
  replace hB29 : Blk w26 (w24.heap.size) 3 [.int .i64 ((GateP.nt x : Nat) : Int), .int .i64 ((b : Nat) : Int)] := hB29
  have hR := hR.tch0 hT27
  have ha := ha.tch0 hT27
  have hb := hb.tch0 hT27
  have hL := hL.tch0 hT27
  have hMv := hMv.then0 hT27
  have nF_hB29 : ¬ F16 (w24.heap.size) := fun e => by have := hlt_ _ e; omega
  refine ⟨⟨hR, ha, hb⟩, ?_⟩
  have lt38 := hR.lt
  have lt39 := ha.lt
  have lt40 := hb.lt
  refine d_one 5 (by kernel_rfl) (by rfl) (by kernel_rfl) (S_call (args := [.slice (some ⟨w24.heap.size, 0, none⟩) 2 2, .pointer (some ⟨r, 0, none⟩)]) (by kernel_rfl) (add_ok F16 r p nv (w24.heap.size) 2 [GateP.nt x, b] (cs ++ [[GateP.nt x, a]]) M _ hR hL (show Blk _ _ 3 (nats [GateP.nt x, b]) from hB29) rfl (by (try simp only [List.length_append, List.length_cons, List.length_nil]); omega)) ?_)
  rintro _ w34 ⟨rfl, F36, hL, hT35, _, hFn37⟩
  have hR := hR.tch hT35 nF_hR
  have ha := ha.tch hT35 nF_ha
  have hb := hb.tch hT35 nF_hb
  have hMv := hMv.add hT35 hFn37 (by omega)
  replace nF_hR : ¬ F36 (r) := fun e => by have := hFn37 _ e; rcases this with q | q | q; exact nF_hR q; omega; omega
  replace nF_ha : ¬ F36 (ra) := fun e => by have := hFn37 _ e; rcases this with q | q | q; exact nF_ha q; omega; omega
  replace nF_hb : ¬ F36 (rb) := fun e => by have := hFn37 _ e; rcases this with q | q | q; exact nF_hb q; omega; omega
  refine ⟨⟨hR, ha, hb⟩, ?_⟩
  refine d_done (by kernel_rfl) ?_
  refine W_fg [(0, .int .i64 ((x : Nat) : Int)), (1, .func (.func 78) #[] #[.pointer (some ⟨r, 0, none⟩)]), (2, .pointer (some ⟨ra, 0, none⟩)), (3, .pointer (some ⟨rb, 0, none⟩))] (by kernel_rfl) fun ρ => ?_
  refine W_draw (fun w' => Blk w' r 25 [.pointer (some ⟨p, 0, none⟩)] ∧ Blk w' ra 3 [.int .i64 ((a : Nat) : Int)] ∧ Blk w' rb 3 [.int .i64 ((b : Nat) : Int)]) (by kernel_rfl) (by kernel_rfl) (by kernel_rfl) fun w41 hT42 hh43 => ?_
  have hR := hR.tch0 hT42
  have ha := ha.tch0 hT42
  have hb := hb.tch0 hT42
  have hL := hL.tch0 hT42
  have hMv := hMv.then0 hT42
  refine dtk [0, 1] #[true, true, false, false, false, false, false, false] [(18, .func (.func 78) #[] #[.pointer (some ⟨r, 0, none⟩)]), (19, .int .i64 ((x : Nat) : Int))] ⟨hR, ha, hb⟩ (by kernel_rfl) ?_
  refine d_val (v := .int .i64 ((a : Nat) : Int)) 2 (by rfl) (by kernel_rfl) (by kernel_rfl) (by kernel_rfl) (fun w' hs => by obtain ⟨hR, ha, hb⟩ := hs; exact R_load (v := .int .i64 ((a : Nat) : Int)) (by kernel_rfl) (by kernel_rfl) ((ha.cell 0).trans rfl)) ⟨hR, ha, hb⟩ ?_
  refine d_val (v := .int .i64 ((b : Nat) : Int)) 4 (by rfl) (by kernel_rfl) (by kernel_rfl) (by kernel_rfl) (fun w' hs => by obtain ⟨hR, ha, hb⟩ := hs; exact R_load (v := .int .i64 ((b : Nat) : Int)) (by kernel_rfl) (by kernel_rfl) ((hb.cell 0).trans rfl)) ⟨hR, ha, hb⟩ ?_
  refine d_one 3 (by kernel_rfl) (by rfl) (by kernel_rfl) (S_call (args := [.int .i64 ((a : Nat) : Int)]) (by kernel_rfl) (not_ok a _ (by omega)) ?_)
  rintro _ w44 ⟨rfl, hT45⟩
  have hR := hR.tch0 hT45
  have ha := ha.tch0 hT45
  have hb := hb.tch0 hT45
  have hL := hL.tch0 hT45
  have hMv := hMv.then0 hT45
  refine ⟨⟨hR, ha, hb⟩, ?_⟩
  refine d_one 5 (by kernel_rfl) (by rfl) (by kernel_rfl) (S_call (args := [.int .i64 ((b : Nat) : Int)]) (by kernel_rfl) (not_ok b _ (by omega)) ?_)
  rintro _ w46 ⟨rfl, hT47⟩
  have hR := hR.tch0 hT47
  have ha := ha.tch0 hT47
  have hb := hb.tch0 hT47
  have hL := hL.tch0 hT47
  have hMv := hMv.then0 hT47
  refine ⟨⟨hR, ha, hb⟩, ?_⟩
  have hlt_ := hL.lt
  have hz52 := hMv.1.size
  have lt53 := hR.lt
  have lt54 := ha.lt
  have lt55 := hb.lt
  refine d_one 6 (by kernel_rfl) (by rfl) (by kernel_rfl) (S_new (v := .slice (some ⟨w46.heap.size, 0, none⟩) 3 3) (ob := .cells #[.int .i64 ((x : Nat) : Int), .int .i64 ((GateP.nt a : Nat) : Int), .int .i64 ((GateP.nt b : Nat) : Int)] 3) (by kernel_rfl) fun w48 hT49 hs50 hB51 => ?_)
  replace hB51 : Blk w48 (w46.heap.size) 3 [.int .i64 ((x : Nat) : Int), .int .i64 ((GateP.nt a : Nat) : Int), .int .i64 ((GateP.nt b : Nat) : Int)] := hB51
  have hR := hR.tch0 hT49
  have ha := ha.tch0 hT49
  have hb := hb.tch0 hT49
  have hL := hL.tch0 hT49
  have hMv := hMv.then0 hT49
  have nF_hB51 : ¬ F36 (w46.heap.size) := fun e => by have := hlt_ _ e; omega
  refine ⟨⟨hR, ha, hb⟩, ?_⟩
  have lt60 := hR.lt
  have lt61 := ha.lt
  have lt62 := hb.lt
  refine d_one 7 (by kernel_rfl) (by rfl) (by kernel_rfl) (S_call (args := [.slice (some ⟨w46.heap.size, 0, none⟩) 3 3, .pointer (some ⟨r, 0, none⟩)]) (by kernel_rfl) (add_ok F36 r p nv (w46.heap.size) 3 [x, GateP.nt a, GateP.nt b] (cs ++ [[GateP.nt x, a]] ++ [[GateP.nt x, b]]) M _ hR hL (show Blk _ _ 3 (nats [x, GateP.nt a, GateP.nt b]) from hB51) rfl (by (try simp only [List.length_append, List.length_cons, List.length_nil]); omega)) ?_)
  rintro _ w56 ⟨rfl, F58, hL, hT57, _, hFn59⟩
  have hR := hR.tch hT57 nF_hR
  have ha := ha.tch hT57 nF_ha
  have hb := hb.tch hT57 nF_hb
  have hMv := hMv.add hT57 hFn59 (by omega)
  replace nF_hR : ¬ F58 (r) := fun e => by have := hFn59 _ e; rcases this with q | q | q; exact nF_hR q; omega; omega
  replace nF_ha : ¬ F58 (ra) := fun e => by have := hFn59 _ e; rcases this with q | q | q; exact nF_ha q; omega; omega
  replace nF_hb : ¬ F58 (rb) := fun e => by have := hFn59 _ e; rcases this with q | q | q; exact nF_hb q; omega; omega
  refine ⟨⟨hR, ha, hb⟩, ?_⟩
  refine d_done (by kernel_rfl) ?_
  refine ⟨_, Res_of (v := .tuple #[]) (by kernel_rfl), ?_⟩
  have e : cs ++ [[GateP.nt x, a]] ++ [[GateP.nt x, b]] ++ [[x, GateP.nt a, GateP.nt b]] = cs ++ gcl 0 a b 0 x := by simp [gcl]
  rw [e] at hL
  exact ⟨rfl, _, hL, hMv⟩

set_option maxRecDepth 100000 in
theorem clo1_ok (F : Nat → Prop) (r p nv x a b ra rb : Nat) (cs : List (List Nat)) (M : Value → Value → Prop) (w : World) (hR : Blk w r 25 [.pointer (some ⟨p, 0, none⟩)]) (ha : Blk w ra 3 [.int .i64 ((a : Nat) : Int)]) (hb : Blk w rb 3 [.int .i64 ((b : Nat) : Int)]) (nF_hR : ¬ F r) (nF_ha : ¬ F ra) (nF_hb : ¬ F rb) (hL : Low F w p nv cs M) (hk : cs.length ≤ 4398046511000) (hx : x < 4611686018427387904) (hxa : a < 4611686018427387904) (hxb : b < 4611686018427387904) : Ret Try.prog 55 [.int .i64 ((x : Nat) : Int), .func (.func 78) #[] #[.pointer (some ⟨r, 0, none⟩)], .pointer (some ⟨ra, 0, none⟩), .pointer (some ⟨rb, 0, none⟩)] w fun v w' => v = .tuple #[] ∧ ∃ F', Low F' w' p nv (cs ++ gcl 1 a b 0 x) M ∧ Mv F F' w w' := by
  have hMv := Mv.refl F w
  refine enter Try.func55 rfl rfl ?_
  refine W_seq ?_
  refine W_draw (fun w' => Blk w' r 25 [.pointer (some ⟨p, 0, none⟩)] ∧ Blk w' ra 3 [.int .i64 ((a : Nat) : Int)] ∧ Blk w' rb 3 [.int .i64 ((b : Nat) : Int)]) (by kernel_rfl) (by kernel_rfl) (by kernel_rfl) fun w1 hT2 hh3 => ?_
  have hR := hR.tch0 hT2
  have ha := ha.tch0 hT2
  have hb := hb.tch0 hT2
  have hL := hL.tch0 hT2
  have hMv := hMv.then0 hT2
  refine dtk [0, 1] #[true, true, false, false, false, false, false] [(6, .func (.func 78) #[] #[.pointer (some ⟨r, 0, none⟩)]), (7, .int .i64 ((x : Nat) : Int))] ⟨hR, ha, hb⟩ (by kernel_rfl) ?_
  refine d_val (v := .int .i64 ((a : Nat) : Int)) 3 (by rfl) (by kernel_rfl) (by kernel_rfl) (by kernel_rfl) (fun w' hs => by obtain ⟨hR, ha, hb⟩ := hs; exact R_load (v := .int .i64 ((a : Nat) : Int)) (by kernel_rfl) (by kernel_rfl) ((ha.cell 0).trans rfl)) ⟨hR, ha, hb⟩ ?_
  refine d_val (v := .int .i64 ((b : Nat) : Int)) 4 (by rfl) (by kernel_rfl) (by kernel_rfl) (by kernel_rfl) (fun w' hs => by obtain ⟨hR, ha, hb⟩ := hs; exact R_load (v := .int .i64 ((b : Nat) : Int)) (by kernel_rfl) (by kernel_rfl) ((hb.cell 0).trans rfl)) ⟨hR, ha, hb⟩ ?_
  refine d_one 2 (by kernel_rfl) (by rfl) (by kernel_rfl) (S_call (args := [.int .i64 ((x : Nat) : Int)]) (by kernel_rfl) (not_ok x _ (by omega)) ?_)
  rintro _ w4 ⟨rfl, hT5⟩
  have hR := hR.tch0 hT5
  have ha := ha.tch0 hT5
  have hb := hb.tch0 hT5
  have hL := hL.tch0 hT5
  have hMv := hMv.then0 hT5
  refine ⟨⟨hR, ha, hb⟩, ?_⟩
  have hlt_ := hL.lt
  have hz10 := hMv.1.size
  have lt11 := hR.lt
  have lt12 := ha.lt
  have lt13 := hb.lt
  refine d_one 5 (by kernel_rfl) (by rfl) (by kernel_rfl) (S_new (v := .slice (some ⟨w4.heap.size, 0, none⟩) 3 3) (ob := .cells #[.int .i64 ((GateP.nt x : Nat) : Int), .int .i64 ((a : Nat) : Int), .int .i64 ((b : Nat) : Int)] 3) (by kernel_rfl) fun w6 hT7 hs8 hB9 => ?_)
  replace hB9 : Blk w6 (w4.heap.size) 3 [.int .i64 ((GateP.nt x : Nat) : Int), .int .i64 ((a : Nat) : Int), .int .i64 ((b : Nat) : Int)] := hB9
  have hR := hR.tch0 hT7
  have ha := ha.tch0 hT7
  have hb := hb.tch0 hT7
  have hL := hL.tch0 hT7
  have hMv := hMv.then0 hT7
  have nF_hB9 : ¬ F (w4.heap.size) := fun e => by have := hlt_ _ e; omega
  refine ⟨⟨hR, ha, hb⟩, ?_⟩
  have lt18 := hR.lt
  have lt19 := ha.lt
  have lt20 := hb.lt
  refine d_one 6 (by kernel_rfl) (by rfl) (by kernel_rfl) (S_call (args := [.slice (some ⟨w4.heap.size, 0, none⟩) 3 3, .pointer (some ⟨r, 0, none⟩)]) (by kernel_rfl) (add_ok F r p nv (w4.heap.size) 3 [GateP.nt x, a, b] cs M _ hR hL (show Blk _ _ 3 (nats [GateP.nt x, a, b]) from hB9) rfl (by (try simp only [List.length_append, List.length_cons, List.length_nil]); omega)) ?_)
  rintro _ w14 ⟨rfl, F16, hL, hT15, _, hFn17⟩
  have hR := hR.tch hT15 nF_hR
  have ha := ha.tch hT15 nF_ha
  have hb := hb.tch hT15 nF_hb
  have hMv := hMv.add hT15 hFn17 (by omega)
  replace nF_hR : ¬ F16 (r) := fun e => by have := hFn17 _ e; rcases this with q | q | q; exact nF_hR q; omega; omega
  replace nF_ha : ¬ F16 (ra) := fun e => by have := hFn17 _ e; rcases this with q | q | q; exact nF_ha q; omega; omega
  replace nF_hb : ¬ F16 (rb) := fun e => by have := hFn17 _ e; rcases this with q | q | q; exact nF_hb q; omega; omega
  refine ⟨⟨hR, ha, hb⟩, ?_⟩
  refine d_done (by kernel_rfl) ?_
  refine W_seq ?_
  refine W_draw (fun w' => Blk w' r 25 [.pointer (some ⟨p, 0, none⟩)] ∧ Blk w' ra 3 [.int .i64 ((a : Nat) : Int)] ∧ Blk w' rb 3 [.int .i64 ((b : Nat) : Int)]) (by kernel_rfl) (by kernel_rfl) (by kernel_rfl) fun w21 hT22 hh23 => ?_
  have hR := hR.tch0 hT22
  have ha := ha.tch0 hT22
  have hb := hb.tch0 hT22
  have hL := hL.tch0 hT22
  have hMv := hMv.then0 hT22
  refine dtk [0, 1] #[true, true, false, false, false, false, false, false, false] [(13, .func (.func 78) #[] #[.pointer (some ⟨r, 0, none⟩)]), (14, .int .i64 ((x : Nat) : Int))] ⟨hR, ha, hb⟩ (by kernel_rfl) ?_
  refine d_val (v := .int .i64 ((a : Nat) : Int)) 3 (by rfl) (by kernel_rfl) (by kernel_rfl) (by kernel_rfl) (fun w' hs => by obtain ⟨hR, ha, hb⟩ := hs; exact R_load (v := .int .i64 ((a : Nat) : Int)) (by kernel_rfl) (by kernel_rfl) ((ha.cell 0).trans rfl)) ⟨hR, ha, hb⟩ ?_
  refine d_val (v := .int .i64 ((b : Nat) : Int)) 5 (by rfl) (by kernel_rfl) (by kernel_rfl) (by kernel_rfl) (fun w' hs => by obtain ⟨hR, ha, hb⟩ := hs; exact R_load (v := .int .i64 ((b : Nat) : Int)) (by kernel_rfl) (by kernel_rfl) ((hb.cell 0).trans rfl)) ⟨hR, ha, hb⟩ ?_
  refine d_one 2 (by kernel_rfl) (by rfl) (by kernel_rfl) (S_call (args := [.int .i64 ((x : Nat) : Int)]) (by kernel_rfl) (not_ok x _ (by omega)) ?_)
  rintro _ w24 ⟨rfl, hT25⟩
  have hR := hR.tch0 hT25
  have ha := ha.tch0 hT25
  have hb := hb.tch0 hT25
  have hL := hL.tch0 hT25
  have hMv := hMv.then0 hT25
  refine ⟨⟨hR, ha, hb⟩, ?_⟩
  refine d_one 4 (by kernel_rfl) (by rfl) (by kernel_rfl) (S_call (args := [.int .i64 ((a : Nat) : Int)]) (by kernel_rfl) (not_ok a _ (by omega)) ?_)
  rintro _ w26 ⟨rfl, hT27⟩
  have hR := hR.tch0 hT27
  have ha := ha.tch0 hT27
  have hb := hb.tch0 hT27
  have hL := hL.tch0 hT27
  have hMv := hMv.then0 hT27
  refine ⟨⟨hR, ha, hb⟩, ?_⟩
  refine d_one 6 (by kernel_rfl) (by rfl) (by kernel_rfl) (S_call (args := [.int .i64 ((b : Nat) : Int)]) (by kernel_rfl) (not_ok b _ (by omega)) ?_)
  rintro _ w28 ⟨rfl, hT29⟩
  have hR := hR.tch0 hT29
  have ha := ha.tch0 hT29
  have hb := hb.tch0 hT29
  have hL := hL.tch0 hT29
  have hMv := hMv.then0 hT29
  refine ⟨⟨hR, ha, hb⟩, ?_⟩
  have hlt_ := hL.lt
  have hz34 := hMv.1.size
  have lt35 := hR.lt
  have lt36 := ha.lt
  have lt37 := hb.lt
  refine d_one 7 (by kernel_rfl) (by rfl) (by kernel_rfl) (S_new (v := .slice (some ⟨w28.heap.size, 0, none⟩) 3 3) (ob := .cells #[.int .i64 ((GateP.nt x : Nat) : Int), .int .i64 ((GateP.nt a : Nat) : Int), .int .i64 ((GateP.nt b : Nat) : Int)] 3) (by kernel_rfl) fun w30 hT31 hs32 hB33 => ?_)
  replace hB33 : Blk w30 (w28.heap.size) 3 [.int .i64 ((GateP.nt x : Nat) : Int), .int .i64 ((GateP.nt a : Nat) : Int), .int .i64 ((GateP.nt b : Nat) : Int)] := hB33
  have hR := hR.tch0 hT31
  have ha := ha.tch0 hT31
  have hb := hb.tch0 hT31
  have hL := hL.tch0 hT31
  have hMv := hMv.then0 hT31
  have nF_hB33 : ¬ F16 (w28.heap.size) := fun e => by have := hlt_ _ e; omega
  refine ⟨⟨hR, ha, hb⟩, ?_⟩
  have lt42 := hR.lt
  have lt43 := ha.lt
  have lt44 := hb.lt
  refine d_one 8 (by kernel_rfl) (by rfl) (by kernel_rfl) (S_call (args := [.slice (some ⟨w28.heap.size, 0, none⟩) 3 3, .pointer (some ⟨r, 0, none⟩)]) (by kernel_rfl) (add_ok F16 r p nv (w28.heap.size) 3 [GateP.nt x, GateP.nt a, GateP.nt b] (cs ++ [[GateP.nt x, a, b]]) M _ hR hL (show Blk _ _ 3 (nats [GateP.nt x, GateP.nt a, GateP.nt b]) from hB33) rfl (by (try simp only [List.length_append, List.length_cons, List.length_nil]); omega)) ?_)
  rintro _ w38 ⟨rfl, F40, hL, hT39, _, hFn41⟩
  have hR := hR.tch hT39 nF_hR
  have ha := ha.tch hT39 nF_ha
  have hb := hb.tch hT39 nF_hb
  have hMv := hMv.add hT39 hFn41 (by omega)
  replace nF_hR : ¬ F40 (r) := fun e => by have := hFn41 _ e; rcases this with q | q | q; exact nF_hR q; omega; omega
  replace nF_ha : ¬ F40 (ra) := fun e => by have := hFn41 _ e; rcases this with q | q | q; exact nF_ha q; omega; omega
  replace nF_hb : ¬ F40 (rb) := fun e => by have := hFn41 _ e; rcases this with q | q | q; exact nF_hb q; omega; omega
  refine ⟨⟨hR, ha, hb⟩, ?_⟩
  refine d_done (by kernel_rfl) ?_
  refine W_seq ?_
  refine W_fg [(0, .int .i64 ((x : Nat) : Int)), (1, .func (.func 78) #[] #[.pointer (some ⟨r, 0, none⟩)]), (2, .pointer (some ⟨ra, 0, none⟩)), (3, .pointer (some ⟨rb, 0, none⟩))] (by kernel_rfl) fun ρ => ?_
  refine W_draw (fun w' => Blk w' r 25 [.pointer (some ⟨p, 0, none⟩)] ∧ Blk w' ra 3 [.int .i64 ((a : Nat) : Int)] ∧ Blk w' rb 3 [.int .i64 ((b : Nat) : Int)]) (by kernel_rfl) (by kernel_rfl) (by kernel_rfl) fun w45 hT46 hh47 => ?_
  have hR := hR.tch0 hT46
  have ha := ha.tch0 hT46
  have hb := hb.tch0 hT46
  have hL := hL.tch0 hT46
  have hMv := hMv.then0 hT46
  refine dtk [0, 1] #[true, true, false, false, false, false, false] [(22, .func (.func 78) #[] #[.pointer (some ⟨r, 0, none⟩)]), (23, .int .i64 ((x : Nat) : Int))] ⟨hR, ha, hb⟩ (by kernel_rfl) ?_
  refine d_val (v := .int .i64 ((a : Nat) : Int)) 2 (by rfl) (by kernel_rfl) (by kernel_rfl) (by kernel_rfl) (fun w' hs => by obtain ⟨hR, ha, hb⟩ := hs; exact R_load (v := .int .i64 ((a : Nat) : Int)) (by kernel_rfl) (by kernel_rfl) ((ha.cell 0).trans rfl)) ⟨hR, ha, hb⟩ ?_
  refine d_val (v := .int .i64 ((b : Nat) : Int)) 4 (by rfl) (by kernel_rfl) (by kernel_rfl) (by kernel_rfl) (fun w' hs => by obtain ⟨hR, ha, hb⟩ := hs; exact R_load (v := .int .i64 ((b : Nat) : Int)) (by kernel_rfl) (by kernel_rfl) ((hb.cell 0).trans rfl)) ⟨hR, ha, hb⟩ ?_
  refine d_one 3 (by kernel_rfl) (by rfl) (by kernel_rfl) (S_call (args := [.int .i64 ((a : Nat) : Int)]) (by kernel_rfl) (not_ok a _ (by omega)) ?_)
  rintro _ w48 ⟨rfl, hT49⟩
  have hR := hR.tch0 hT49
  have ha := ha.tch0 hT49
  have hb := hb.tch0 hT49
  have hL := hL.tch0 hT49
  have hMv := hMv.then0 hT49
  refine ⟨⟨hR, ha, hb⟩, ?_⟩
  have hlt_ := hL.lt
  have hz54 := hMv.1.size
  have lt55 := hR.lt
  have lt56 := ha.lt
  have lt57 := hb.lt
  refine d_one 5 (by kernel_rfl) (by rfl) (by kernel_rfl) (S_new (v := .slice (some ⟨w48.heap.size, 0, none⟩) 3 3) (ob := .cells #[.int .i64 ((x : Nat) : Int), .int .i64 ((GateP.nt a : Nat) : Int), .int .i64 ((b : Nat) : Int)] 3) (by kernel_rfl) fun w50 hT51 hs52 hB53 => ?_)
  replace hB53 : Blk w50 (w48.heap.size) 3 [.int .i64 ((x : Nat) : Int), .int .i64 ((GateP.nt a : Nat) : Int), .int .i64 ((b : Nat) : Int)] := hB53
  have hR := hR.tch0 hT51
  have ha := ha.tch0 hT51
  have hb := hb.tch0 hT51
  have hL := hL.tch0 hT51
  have hMv := hMv.then0 hT51
  have nF_hB53 : ¬ F40 (w48.heap.size) := fun e => by have := hlt_ _ e; omega
  refine ⟨⟨hR, ha, hb⟩, ?_⟩
  have lt62 := hR.lt
  have lt63 := ha.lt
  have lt64 := hb.lt
  refine d_one 6 (by kernel_rfl) (by rfl) (by kernel_rfl) (S_call (args := [.slice (some ⟨w48.heap.size, 0, none⟩) 3 3, .pointer (some ⟨r, 0, none⟩)]) (by kernel_rfl) (add_ok F40 r p nv (w48.heap.size) 3 [x, GateP.nt a, b] (cs ++ [[GateP.nt x, a, b]] ++ [[GateP.nt x, GateP.nt a, GateP.nt b]]) M _ hR hL (show Blk _ _ 3 (nats [x, GateP.nt a, b]) from hB53) rfl (by (try simp only [List.length_append, List.length_cons, List.length_nil]); omega)) ?_)
  rintro _ w58 ⟨rfl, F60, hL, hT59, _, hFn61⟩
  have hR := hR.tch hT59 nF_hR
  have ha := ha.tch hT59 nF_ha
  have hb := hb.tch hT59 nF_hb
  have hMv := hMv.add hT59 hFn61 (by omega)
  replace nF_hR : ¬ F60 (r) := fun e => by have := hFn61 _ e; rcases this with q | q | q; exact nF_hR q; omega; omega
  replace nF_ha : ¬ F60 (ra) := fun e => by have := hFn61 _ e; rcases this with q | q | q; exact nF_ha q; omega; omega
  replace nF_hb : ¬ F60 (rb) := fun e => by have := hFn61 _ e; rcases this with q | q | q; exact nF_hb q; omega; omega
  refine ⟨⟨hR, ha, hb⟩, ?_⟩
  refine d_done (by kernel_rfl) ?_
  refine W_draw (fun w' => Blk w' r 25 [.pointer (some ⟨p, 0, none⟩)] ∧ Blk w' ra 3 [.int .i64 ((a : Nat) : Int)] ∧ Blk w' rb 3 [.int .i64 ((b : Nat) : Int)]) (by kernel_rfl) (by kernel_rfl) (by kernel_rfl) fun w65 hT66 hh67 => ?_
  have hR := hR.tch0 hT66
  have ha := ha.tch0 hT66
  have hb := hb.tch0 hT66
  have hL := hL.tch0 hT66
  have hMv := hMv.then0 hT66
  refine dtk [0, 1] #[true, true, false, false, false, false, false] [(29, .func (.func 78) #[] #[.pointer (some ⟨r, 0, none⟩)]), (30, .int .i64 ((x : Nat) : Int))] ⟨hR, ha, hb⟩ (by kernel_rfl) ?_
  refine d_val (v := .int .i64 ((a : Nat) : Int)) 2 (by rfl) (by kernel_rfl) (by kernel_rfl) (by kernel_rfl) (fun w' hs => by obtain ⟨hR, ha, hb⟩ := hs; exact R_load (v := .int .i64 ((a : Nat) : Int)) (by kernel_rfl) (by kernel_rfl) ((ha.cell 0).trans rfl)) ⟨hR, ha, hb⟩ ?_
  refine d_val (v := .int .i64 ((b : Nat) : Int)) 3 (by rfl) (by kernel_rfl) (by kernel_rfl) (by kernel_rfl) (fun w' hs => by obtain ⟨hR, ha, hb⟩ := hs; exact R_load (v := .int .i64 ((b : Nat) : Int)) (by kernel_rfl) (by kernel_rfl) ((hb.cell 0).trans rfl)) ⟨hR, ha, hb⟩ ?_
  refine d_one 4 (by kernel_rfl) (by rfl) (by kernel_rfl) (S_call (args := [.int .i64 ((b : Nat) : Int)]) (by kernel_rfl) (not_ok b _ (by omega)) ?_)
  rintro _ w68 ⟨rfl, hT69⟩
  have hR := hR.tch0 hT69
  have ha := ha.tch0 hT69
  have hb := hb.tch0 hT69
  have hL := hL.tch0 hT69
  have hMv := hMv.then0 hT69
  refine ⟨⟨hR, ha, hb⟩, ?_⟩
  have hlt_ := hL.lt
  have hz74 := hMv.1.size
  have lt75 := hR.lt
  have lt76 := ha.lt
  have lt77 := hb.lt
  refine d_one 5 (by kernel_rfl) (by rfl) (by kernel_rfl) (S_new (v := .slice (some ⟨w68.heap.size, 0, none⟩) 3 3) (ob := .cells #[.int .i64 ((x : Nat) : Int), .int .i64 ((a : Nat) : Int), .int .i64 ((GateP.nt b : Nat) : Int)] 3) (by kernel_rfl) fun w70 hT71 hs72 hB73 => ?_)
  replace hB73 : Blk w70 (w68.heap.size) 3 [.int .i64 ((x : Nat) : Int), .int .i64 ((a : Nat) : Int), .int .i64 ((GateP.nt b : Nat) : Int)] := hB73
  have hR := hR.tch0 hT71
  have ha := ha.tch0 hT71
  have hb := hb.tch0 hT71
  have hL := hL.tch0 hT71
  have hMv := hMv.then0 hT71
  have nF_hB73 : ¬ F60 (w68.heap.size) := fun e => by have := hlt_ _ e; omega
  refine ⟨⟨hR, ha, hb⟩, ?_⟩
  have lt82 := hR.lt
  have lt83 := ha.lt
  have lt84 := hb.lt
  refine d_one 6 (by kernel_rfl) (by rfl) (by kernel_rfl) (S_call (args := [.slice (some ⟨w68.heap.size, 0, none⟩) 3 3, .pointer (some ⟨r, 0, none⟩)]) (by kernel_rfl) (add_ok F60 r p nv (w68.heap.size) 3 [x, a, GateP.nt b] (cs ++ [[GateP.nt x, a, b]] ++ [[GateP.nt x, GateP.nt a, GateP.nt b]] ++ [[x, GateP.nt a, b]]) M _ hR hL (show Blk _ _ 3 (nats [x, a, GateP.nt b]) from hB73) rfl (by (try simp only [List.length_append, List.length_cons, List.length_nil]); omega)) ?_)
  rintro _ w78 ⟨rfl, F80, hL, hT79, _, hFn81⟩
  have hR := hR.tch hT79 nF_hR
  have ha := ha.tch hT79 nF_ha
  have hb := hb.tch hT79 nF_hb
  have hMv := hMv.add hT79 hFn81 (by omega)
  replace nF_hR : ¬ F80 (r) := fun e => by have := hFn81 _ e; rcases this with q | q | q; exact nF_hR q; omega; omega
  replace nF_ha : ¬ F80 (ra) := fun e => by have := hFn81 _ e; rcases this with q | q | q; exact nF_ha q; omega; omega
  replace nF_hb : ¬ F80 (rb) := fun e => by have := hFn81 _ e; rcases this with q | q | q; exact nF_hb q; omega; omega
  refine ⟨⟨hR, ha, hb⟩, ?_⟩
  refine d_done (by kernel_rfl) ?_
  refine ⟨_, Res_of (v := .tuple #[]) (by kernel_rfl), ?_⟩
  have e : cs ++ [[GateP.nt x, a, b]] ++ [[GateP.nt x, GateP.nt a, GateP.nt b]] ++ [[x, GateP.nt a, b]] ++ [[x, a, GateP.nt b]] = cs ++ gcl 1 a b 0 x := by simp [gcl]
  rw [e] at hL
  exact ⟨rfl, _, hL, hMv⟩

set_option maxRecDepth 100000 in
theorem clo2_ok (F : Nat → Prop) (r p nv x c a b rc ra rb : Nat) (cs : List (List Nat)) (M : Value → Value → Prop) (w : World) (hR : Blk w r 25 [.pointer (some ⟨p, 0, none⟩)]) (hc : Blk w rc 3 [.int .i64 ((c : Nat) : Int)]) (ha : Blk w ra 3 [.int .i64 ((a : Nat) : Int)]) (hb : Blk w rb 3 [.int .i64 ((b : Nat) : Int)]) (nF_hR : ¬ F r) (nF_hc : ¬ F rc) (nF_ha : ¬ F ra) (nF_hb : ¬ F rb) (hL : Low F w p nv cs M) (hk : cs.length ≤ 4398046511000) (hx : x < 4611686018427387904) (hxc : c < 4611686018427387904) (hxa : a < 4611686018427387904) (hxb : b < 4611686018427387904) : Ret Try.prog 59 [.int .i64 ((x : Nat) : Int), .func (.func 78) #[] #[.pointer (some ⟨r, 0, none⟩)], .pointer (some ⟨rc, 0, none⟩), .pointer (some ⟨ra, 0, none⟩), .pointer (some ⟨rb, 0, none⟩)] w fun v w' => v = .tuple #[] ∧ ∃ F', Low F' w' p nv (cs ++ gcl 2 c a b x) M ∧ Mv F F' w w' := by
  have hMv := Mv.refl F w
  refine enter Try.func59 rfl rfl ?_
  refine W_seq ?_
  refine W_draw (fun w' => Blk w' r 25 [.pointer (some ⟨p, 0, none⟩)] ∧ Blk w' rc 3 [.int .i64 ((c : Nat) : Int)] ∧ Blk w' ra 3 [.int .i64 ((a : Nat) : Int)] ∧ Blk w' rb 3 [.int .i64 ((b : Nat) : Int)]) (by kernel_rfl) (by kernel_rfl) (by kernel_rfl) fun w1 hT2 hh3 => ?_
  have hR := hR.tch0 hT2
  have hc := hc.tch0 hT2
  have ha := ha.tch0 hT2
  have hb := hb.tch0 hT2
  have hL := hL.tch0 hT2
  have hMv := hMv.then0 hT2
  refine dtk [0, 5] #[true, false, false, false, false, true, false, false] [(7, .func (.func 78) #[] #[.pointer (some ⟨r, 0, none⟩)]), (12, .int .i64 ((x : Nat) : Int))] ⟨hR, hc, ha, hb⟩ (by kernel_rfl) ?_
  refine d_val (v := .int .i64 ((c : Nat) : Int)) 1 (by rfl) (by kernel_rfl) (by kernel_rfl) (by kernel_rfl) (fun w' hs => by obtain ⟨hR, hc, ha, hb⟩ := hs; exact R_load (v := .int .i64 ((c : Nat) : Int)) (by kernel_rfl) (by kernel_rfl) ((hc.cell 0).trans rfl)) ⟨hR, hc, ha, hb⟩ ?_
  refine d_val (v := .int .i64 ((a : Nat) : Int)) 3 (by rfl) (by kernel_rfl) (by kernel_rfl) (by kernel_rfl) (fun w' hs => by obtain ⟨hR, hc, ha, hb⟩ := hs; exact R_load (v := .int .i64 ((a : Nat) : Int)) (by kernel_rfl) (by kernel_rfl) ((ha.cell 0).trans rfl)) ⟨hR, hc, ha, hb⟩ ?_
  refine d_one 2 (by kernel_rfl) (by rfl) (by kernel_rfl) (S_call (args := [.int .i64 ((c : Nat) : Int)]) (by kernel_rfl) (not_ok c _ (by omega)) ?_)
  rintro _ w4 ⟨rfl, hT5⟩
  have hR := hR.tch0 hT5
  have hc := hc.tch0 hT5
  have ha := ha.tch0 hT5
  have hb := hb.tch0 hT5
  have hL := hL.tch0 hT5
  have hMv := hMv.then0 hT5
  refine ⟨⟨hR, hc, ha, hb⟩, ?_⟩
  refine d_one 4 (by kernel_rfl) (by rfl) (by kernel_rfl) (S_call (args := [.int .i64 ((a : Nat) : Int)]) (by kernel_rfl) (not_ok a _ (by omega)) ?_)
  rintro _ w6 ⟨rfl, hT7⟩
  have hR := hR.tch0 hT7
  have hc := hc.tch0 hT7
  have ha := ha.tch0 hT7
  have hb := hb.tch0 hT7
  have hL := hL.tch0 hT7
  have hMv := hMv.then0 hT7
  refine ⟨⟨hR, hc, ha, hb⟩, ?_⟩
  have hlt_ := hL.lt
  have hz12 := hMv.1.size
  have lt13 := hR.lt
  have lt14 := hc.lt
  have lt15 := ha.lt
  have lt16 := hb.lt
  refine d_one 6 (by kernel_rfl) (by rfl) (by kernel_rfl) (S_new (v := .slice (some ⟨w6.heap.size, 0, none⟩) 3 3) (ob := .cells #[.int .i64 ((GateP.nt c : Nat) : Int), .int .i64 ((GateP.nt a : Nat) : Int), .int .i64 ((x : Nat) : Int)] 3) (by kernel_rfl) fun w8 hT9 hs10 hB11 => ?_)
  replace hB11 : Blk w8 (w6.heap.size) 3 [.int .i64 ((GateP.nt c : Nat) : Int), .int .i64 ((GateP.nt a : Nat) : Int), .int .i64 ((x : Nat) : Int)] := hB11
  have hR := hR.tch0 hT9
  have hc := hc.tch0 hT9
  have ha := ha.tch0 hT9
  have hb := hb.tch0 hT9
  have hL := hL.tch0 hT9
  have hMv := hMv.then0 hT9
  have nF_hB11 : ¬ F (w6.heap.size) := fun e => by have := hlt_ _ e; omega
  refine ⟨⟨hR, hc, ha, hb⟩, ?_⟩
  have lt21 := hR.lt
  have lt22 := hc.lt
  have lt23 := ha.lt
  have lt24 := hb.lt
  refine d_one 7 (by kernel_rfl) (by rfl) (by kernel_rfl) (S_call (args := [.slice (some ⟨w6.heap.size, 0, none⟩) 3 3, .pointer (some ⟨r, 0, none⟩)]) (by kernel_rfl) (add_ok F r p nv (w6.heap.size) 3 [GateP.nt c, GateP.nt a, x] cs M _ hR hL (show Blk _ _ 3 (nats [GateP.nt c, GateP.nt a, x]) from hB11) rfl (by (try simp only [List.length_append, List.length_cons, List.length_nil]); omega)) ?_)
  rintro _ w17 ⟨rfl, F19, hL, hT18, _, hFn20⟩
  have hR := hR.tch hT18 nF_hR
  have hc := hc.tch hT18 nF_hc
  have ha := ha.tch hT18 nF_ha
  have hb := hb.tch hT18 nF_hb
  have hMv := hMv.add hT18 hFn20 (by omega)
  replace nF_hR : ¬ F19 (r) := fun e => by have := hFn20 _ e; rcases this with q | q | q; exact nF_hR q; omega; omega
  replace nF_hc : ¬ F19 (rc) := fun e => by have := hFn20 _ e; rcases this with q | q | q; exact nF_hc q; omega; omega
  replace nF_ha : ¬ F19 (ra) := fun e => by have := hFn20 _ e; rcases this with q | q | q; exact nF_ha q; omega; omega
  replace nF_hb : ¬ F19 (rb) := fun e => by have := hFn20 _ e; rcases this with q | q | q; exact nF_hb q; omega; omega
  refine ⟨⟨hR, hc, ha, hb⟩, ?_⟩
  refine d_done (by kernel_rfl) ?_
  refine W_seq ?_
  refine W_fg [(0, .int .i64 ((x : Nat) : Int)), (1, .func (.func 78) #[] #[.pointer (some ⟨r, 0, none⟩)]), (2, .pointer (some ⟨rc, 0, none⟩)), (3, .pointer (some ⟨ra, 0, none⟩)), (4, .pointer (some ⟨rb, 0, none⟩))] (by kernel_rfl) fun ρ => ?_
  refine W_draw (fun w' => Blk w' r 25 [.pointer (some ⟨p, 0, none⟩)] ∧ Blk w' rc 3 [.int .i64 ((c : Nat) : Int)] ∧ Blk w' ra 3 [.int .i64 ((a : Nat) : Int)] ∧ Blk w' rb 3 [.int .i64 ((b : Nat) : Int)]) (by kernel_rfl) (by kernel_rfl) (by kernel_rfl) fun w25 hT26 hh27 => ?_
  have hR := hR.tch0 hT26
  have hc := hc.tch0 hT26
  have ha := ha.tch0 hT26
  have hb := hb.tch0 hT26
  have hL := hL.tch0 hT26
  have hMv := hMv.then0 hT26
  refine dtk [0, 4] #[true, false, false, false, true, false, false, false] [(15, .func (.func 78) #[] #[.pointer (some ⟨r, 0, none⟩)]), (19, .int .i64 ((x : Nat) : Int))] ⟨hR, hc, ha, hb⟩ (by kernel_rfl) ?_
  refine d_val (v := .int .i64 ((c : Nat) : Int)) 1 (by rfl) (by kernel_rfl) (by kernel_rfl) (by kernel_rfl) (fun w' hs => by obtain ⟨hR, hc, ha, hb⟩ := hs; exact R_load (v := .int .i64 ((c : Nat) : Int)) (by kernel_rfl) (by kernel_rfl) ((hc.cell 0).trans rfl)) ⟨hR, hc, ha, hb⟩ ?_
  refine d_val (v := .int .i64 ((a : Nat) : Int)) 3 (by rfl) (by kernel_rfl) (by kernel_rfl) (by kernel_rfl) (fun w' hs => by obtain ⟨hR, hc, ha, hb⟩ := hs; exact R_load (v := .int .i64 ((a : Nat) : Int)) (by kernel_rfl) (by kernel_rfl) ((ha.cell 0).trans rfl)) ⟨hR, hc, ha, hb⟩ ?_
  refine d_one 2 (by kernel_rfl) (by rfl) (by kernel_rfl) (S_call (args := [.int .i64 ((c : Nat) : Int)]) (by kernel_rfl) (not_ok c _ (by omega)) ?_)
  rintro _ w28 ⟨rfl, hT29⟩
  have hR := hR.tch0 hT29
  have hc := hc.tch0 hT29
  have ha := ha.tch0 hT29
  have hb := hb.tch0 hT29
  have hL := hL.tch0 hT29
  have hMv := hMv.then0 hT29
  refine ⟨⟨hR, hc, ha, hb⟩, ?_⟩
  refine d_one 5 (by kernel_rfl) (by rfl) (by kernel_rfl) (S_call (args := [.int .i64 ((x : Nat) : Int)]) (by kernel_rfl) (not_ok x _ (by omega)) ?_)
  rintro _ w30 ⟨rfl, hT31⟩
  have hR := hR.tch0 hT31
  have hc := hc.tch0 hT31
  have ha := ha.tch0 hT31
  have hb := hb.tch0 hT31
  have hL := hL.tch0 hT31
  have hMv := hMv.then0 hT31
  refine ⟨⟨hR, hc, ha, hb⟩, ?_⟩
  have hlt_ := hL.lt
  have hz36 := hMv.1.size
  have lt37 := hR.lt
  have lt38 := hc.lt
  have lt39 := ha.lt
  have lt40 := hb.lt
  refine d_one 6 (by kernel_rfl) (by rfl) (by kernel_rfl) (S_new (v := .slice (some ⟨w30.heap.size, 0, none⟩) 3 3) (ob := .cells #[.int .i64 ((GateP.nt c : Nat) : Int), .int .i64 ((a : Nat) : Int), .int .i64 ((GateP.nt x : Nat) : Int)] 3) (by kernel_rfl) fun w32 hT33 hs34 hB35 => ?_)
  replace hB35 : Blk w32 (w30.heap.size) 3 [.int .i64 ((GateP.nt c : Nat) : Int), .int .i64 ((a : Nat) : Int), .int .i64 ((GateP.nt x : Nat) : Int)] := hB35
  have hR := hR.tch0 hT33
  have hc := hc.tch0 hT33
  have ha := ha.tch0 hT33
  have hb := hb.tch0 hT33
  have hL := hL.tch0 hT33
  have hMv := hMv.then0 hT33
  have nF_hB35 : ¬ F19 (w30.heap.size) := fun e => by have := hlt_ _ e; omega
  refine ⟨⟨hR, hc, ha, hb⟩, ?_⟩
  have lt45 := hR.lt
  have lt46 := hc.lt
  have lt47 := ha.lt
  have lt48 := hb.lt
  refine d_one 7 (by kernel_rfl) (by rfl) (by kernel_rfl) (S_call (args := [.slice (some ⟨w30.heap.size, 0, none⟩) 3 3, .pointer (some ⟨r, 0, none⟩)]) (by kernel_rfl) (add_ok F19 r p nv (w30.heap.size) 3 [GateP.nt c, a, GateP.nt x] (cs ++ [[GateP.nt c, GateP.nt a, x]]) M _ hR hL (show Blk _ _ 3 (nats [GateP.nt c, a, GateP.nt x]) from hB35) rfl (by (try simp only [List.length_append, List.length_cons, List.length_nil]); omega)) ?_)
  rintro _ w41 ⟨rfl, F43, hL, hT42, _, hFn44⟩
  have hR := hR.tch hT42 nF_hR
  have hc := hc.tch hT42 nF_hc
  have ha := ha.tch hT42 nF_ha
  have hb := hb.tch hT42 nF_hb
  have hMv := hMv.add hT42 hFn44 (by omega)
  replace nF_hR : ¬ F43 (r) := fun e => by have := hFn44 _ e; rcases this with q | q | q; exact nF_hR q; omega; omega
  replace nF_hc : ¬ F43 (rc) := fun e => by have := hFn44 _ e; rcases this with q | q | q; exact nF_hc q; omega; omega
  replace nF_ha : ¬ F43 (ra) := fun e => by have := hFn44 _ e; rcases this with q | q | q; exact nF_ha q; omega; omega
  replace nF_hb : ¬ F43 (rb) := fun e => by have := hFn44 _ e; rcases this with q | q | q; exact nF_hb q; omega; omega
  refine ⟨⟨hR, hc, ha, hb⟩, ?_⟩
  refine d_done (by kernel_rfl) ?_
  refine W_seq ?_
  refine W_fg [(0, .int .i64 ((x : Nat) : Int)), (1, .func (.func 78) #[] #[.pointer (some ⟨r, 0, none⟩)]), (2, .pointer (some ⟨rc, 0, none⟩)), (3, .pointer (some ⟨ra, 0, none⟩)), (4, .pointer (some ⟨rb, 0, none⟩))] (by kernel_rfl) fun ρ => ?_
  refine W_draw (fun w' => Blk w' r 25 [.pointer (some ⟨p, 0, none⟩)] ∧ Blk w' rc 3 [.int .i64 ((c : Nat) : Int)] ∧ Blk w' ra 3 [.int .i64 ((a : Nat) : Int)] ∧ Blk w' rb 3 [.int .i64 ((b : Nat) : Int)]) (by kernel_rfl) (by kernel_rfl) (by kernel_rfl) fun w49 hT50 hh51 => ?_
  have hR := hR.tch0 hT50
  have hc := hc.tch0 hT50
  have ha := ha.tch0 hT50
  have hb := hb.tch0 hT50
  have hL := hL.tch0 hT50
  have hMv := hMv.then0 hT50
  refine dtk [0, 4] #[true, false, false, false, true, false, false] [(23, .func (.func 78) #[] #[.pointer (some ⟨r, 0, none⟩)]), (27, .int .i64 ((x : Nat) : Int))] ⟨hR, hc, ha, hb⟩ (by kernel_rfl) ?_
  refine d_val (v := .int .i64 ((c : Nat) : Int)) 1 (by rfl) (by kernel_rfl) (by kernel_rfl) (by kernel_rfl) (fun w' hs => by obtain ⟨hR, hc, ha, hb⟩ := hs; exact R_load (v := .int .i64 ((c : Nat) : Int)) (by kernel_rfl) (by kernel_rfl) ((hc.cell 0).trans rfl)) ⟨hR, hc, ha, hb⟩ ?_
  refine d_val (v := .int .i64 ((b : Nat) : Int)) 2 (by rfl) (by kernel_rfl) (by kernel_rfl) (by kernel_rfl) (fun w' hs => by obtain ⟨hR, hc, ha, hb⟩ := hs; exact R_load (v := .int .i64 ((b : Nat) : Int)) (by kernel_rfl) (by kernel_rfl) ((hb.cell 0).trans rfl)) ⟨hR, hc, ha, hb⟩ ?_
  refine d_one 3 (by kernel_rfl) (by rfl) (by kernel_rfl) (S_call (args := [.int .i64 ((b : Nat) : Int)]) (by kernel_rfl) (not_ok b _ (by omega)) ?_)
  rintro _ w52 ⟨rfl, hT53⟩
  have hR := hR.tch0 hT53
  have hc := hc.tch0 hT53
  have ha := ha.tch0 hT53
  have hb := hb.tch0 hT53
  have hL := hL.tch0 hT53
  have hMv := hMv.then0 hT53
  refine ⟨⟨hR, hc, ha, hb⟩, ?_⟩
  have hlt_ := hL.lt
  have hz58 := hMv.1.size
  have lt59 := hR.lt
  have lt60 := hc.lt
  have lt61 := ha.lt
  have lt62 := hb.lt
  refine d_one 5 (by kernel_rfl) (by rfl) (by kernel_rfl) (S_new (v := .slice (some ⟨w52.heap.size, 0, none⟩) 3 3) (ob := .cells #[.int .i64 ((c : Nat) : Int), .int .i64 ((GateP.nt b : Nat) : Int), .int .i64 ((x : Nat) : Int)] 3) (by kernel_rfl) fun w54 hT55 hs56 hB57 => ?_)
  replace hB57 : Blk w54 (w52.heap.size) 3 [.int .i64 ((c : Nat) : Int), .int .i64 ((GateP.nt b : Nat) : Int), .int .i64 ((x : Nat) : Int)] := hB57
  have hR := hR.tch0 hT55
  have hc := hc.tch0 hT55
  have ha := ha.tch0 hT55
  have hb := hb.tch0 hT55
  have hL := hL.tch0 hT55
  have hMv := hMv.then0 hT55
  have nF_hB57 : ¬ F43 (w52.heap.size) := fun e => by have := hlt_ _ e; omega
  refine ⟨⟨hR, hc, ha, hb⟩, ?_⟩
  have lt67 := hR.lt
  have lt68 := hc.lt
  have lt69 := ha.lt
  have lt70 := hb.lt
  refine d_one 6 (by kernel_rfl) (by rfl) (by kernel_rfl) (S_call (args := [.slice (some ⟨w52.heap.size, 0, none⟩) 3 3, .pointer (some ⟨r, 0, none⟩)]) (by kernel_rfl) (add_ok F43 r p nv (w52.heap.size) 3 [c, GateP.nt b, x] (cs ++ [[GateP.nt c, GateP.nt a, x]] ++ [[GateP.nt c, a, GateP.nt x]]) M _ hR hL (show Blk _ _ 3 (nats [c, GateP.nt b, x]) from hB57) rfl (by (try simp only [List.length_append, List.length_cons, List.length_nil]); omega)) ?_)
  rintro _ w63 ⟨rfl, F65, hL, hT64, _, hFn66⟩
  have hR := hR.tch hT64 nF_hR
  have hc := hc.tch hT64 nF_hc
  have ha := ha.tch hT64 nF_ha
  have hb := hb.tch hT64 nF_hb
  have hMv := hMv.add hT64 hFn66 (by omega)
  replace nF_hR : ¬ F65 (r) := fun e => by have := hFn66 _ e; rcases this with q | q | q; exact nF_hR q; omega; omega
  replace nF_hc : ¬ F65 (rc) := fun e => by have := hFn66 _ e; rcases this with q | q | q; exact nF_hc q; omega; omega
  replace nF_ha : ¬ F65 (ra) := fun e => by have := hFn66 _ e; rcases this with q | q | q; exact nF_ha q; omega; omega
  replace nF_hb : ¬ F65 (rb) := fun e => by have := hFn66 _ e; rcases this with q | q | q; exact nF_hb q; omega; omega
  refine ⟨⟨hR, hc, ha, hb⟩, ?_⟩
  refine d_done (by kernel_rfl) ?_
  refine W_seq ?_
  refine W_draw (fun w' => Blk w' r 25 [.pointer (some ⟨p, 0, none⟩)] ∧ Blk w' rc 3 [.int .i64 ((c : Nat) : Int)] ∧ Blk w' ra 3 [.int .i64 ((a : Nat) : Int)] ∧ Blk w' rb 3 [.int .i64 ((b : Nat) : Int)]) (by kernel_rfl) (by kernel_rfl) (by kernel_rfl) fun w71 hT72 hh73 => ?_
  have hR := hR.tch0 hT72
  have hc := hc.tch0 hT72
  have ha := ha.tch0 hT72
  have hb := hb.tch0 hT72
  have hL := hL.tch0 hT72
  have hMv := hMv.then0 hT72
  refine dtk [0, 3] #[true, false, false, true, false, false, false] [(30, .func (.func 78) #[] #[.pointer (some ⟨r, 0, none⟩)]), (33, .int .i64 ((x : Nat) : Int))] ⟨hR, hc, ha, hb⟩ (by kernel_rfl) ?_
  refine d_val (v := .int .i64 ((c : Nat) : Int)) 1 (by rfl) (by kernel_rfl) (by kernel_rfl) (by kernel_rfl) (fun w' hs => by obtain ⟨hR, hc, ha, hb⟩ := hs; exact R_load (v := .int .i64 ((c : Nat) : Int)) (by kernel_rfl) (by kernel_rfl) ((hc.cell 0).trans rfl)) ⟨hR, hc, ha, hb⟩ ?_
  refine d_val (v := .int .i64 ((b : Nat) : Int)) 2 (by rfl) (by kernel_rfl) (by kernel_rfl) (by kernel_rfl) (fun w' hs => by obtain ⟨hR, hc, ha, hb⟩ := hs; exact R_load (v := .int .i64 ((b : Nat) : Int)) (by kernel_rfl) (by kernel_rfl) ((hb.cell 0).trans rfl)) ⟨hR, hc, ha, hb⟩ ?_
  refine d_one 4 (by kernel_rfl) (by rfl) (by kernel_rfl) (S_call (args := [.int .i64 ((x : Nat) : Int)]) (by kernel_rfl) (not_ok x _ (by omega)) ?_)
  rintro _ w74 ⟨rfl, hT75⟩
  have hR := hR.tch0 hT75
  have hc := hc.tch0 hT75
  have ha := ha.tch0 hT75
  have hb := hb.tch0 hT75
  have hL := hL.tch0 hT75
  have hMv := hMv.then0 hT75
  refine ⟨⟨hR, hc, ha, hb⟩, ?_⟩
  have hlt_ := hL.lt
  have hz80 := hMv.1.size
  have lt81 := hR.lt
  have lt82 := hc.lt
  have lt83 := ha.lt
  have lt84 := hb.lt
  refine d_one 5 (by kernel_rfl) (by rfl) (by kernel_rfl) (S_new (v := .slice (some ⟨w74.heap.size, 0, none⟩) 3 3) (ob := .cells #[.int .i64 ((c : Nat) : Int), .int .i64 ((b : Nat) : Int), .int .i64 ((GateP.nt x : Nat) : Int)] 3) (by kernel_rfl) fun w76 hT77 hs78 hB79 => ?_)
  replace hB79 : Blk w76 (w74.heap.size) 3 [.int .i64 ((c : Nat) : Int), .int .i64 ((b : Nat) : Int), .int .i64 ((GateP.nt x : Nat) : Int)] := hB79
  have hR := hR.tch0 hT77
  have hc := hc.tch0 hT77
  have ha := ha.tch0 hT77
  have hb := hb.tch0 hT77
  have hL := hL.tch0 hT77
  have hMv := hMv.then0 hT77
  have nF_hB79 : ¬ F65 (w74.heap.size) := fun e => by have := hlt_ _ e; omega
  refine ⟨⟨hR, hc, ha, hb⟩, ?_⟩
  have lt89 := hR.lt
  have lt90 := hc.lt
  have lt91 := ha.lt
  have lt92 := hb.lt
  refine d_one 6 (by kernel_rfl) (by rfl) (by kernel_rfl) (S_call (args := [.slice (some ⟨w74.heap.size, 0, none⟩) 3 3, .pointer (some ⟨r, 0, none⟩)]) (by kernel_rfl) (add_ok F65 r p nv (w74.heap.size) 3 [c, b, GateP.nt x] (cs ++ [[GateP.nt c, GateP.nt a, x]] ++ [[GateP.nt c, a, GateP.nt x]] ++ [[c, GateP.nt b, x]]) M _ hR hL (show Blk _ _ 3 (nats [c, b, GateP.nt x]) from hB79) rfl (by (try simp only [List.length_append, List.length_cons, List.length_nil]); omega)) ?_)
  rintro _ w85 ⟨rfl, F87, hL, hT86, _, hFn88⟩
  have hR := hR.tch hT86 nF_hR
  have hc := hc.tch hT86 nF_hc
  have ha := ha.tch hT86 nF_ha
  have hb := hb.tch hT86 nF_hb
  have hMv := hMv.add hT86 hFn88 (by omega)
  replace nF_hR : ¬ F87 (r) := fun e => by have := hFn88 _ e; rcases this with q | q | q; exact nF_hR q; omega; omega
  replace nF_hc : ¬ F87 (rc) := fun e => by have := hFn88 _ e; rcases this with q | q | q; exact nF_hc q; omega; omega
  replace nF_ha : ¬ F87 (ra) := fun e => by have := hFn88 _ e; rcases this with q | q | q; exact nF_ha q; omega; omega
  replace nF_hb : ¬ F87 (rb) := fun e => by have := hFn88 _ e; rcases this with q | q | q; exact nF_hb q; omega; omega
  refine ⟨⟨hR, hc, ha, hb⟩, ?_⟩
  refine d_done (by kernel_rfl) ?_
  refine W_seq ?_
  refine W_fg [(0, .int .i64 ((x : Nat) : Int)), (1, .func (.func 78) #[] #[.pointer (some ⟨r, 0, none⟩)]), (2, .pointer (some ⟨rc, 0, none⟩)), (3, .pointer (some ⟨ra, 0, none⟩)), (4, .pointer (some ⟨rb, 0, none⟩))] (by kernel_rfl) fun ρ => ?_
  refine W_draw (fun w' => Blk w' r 25 [.pointer (some ⟨p, 0, none⟩)] ∧ Blk w' rc 3 [.int .i64 ((c : Nat) : Int)] ∧ Blk w' ra 3 [.int .i64 ((a : Nat) : Int)] ∧ Blk w' rb 3 [.int .i64 ((b : Nat) : Int)]) (by kernel_rfl) (by kernel_rfl) (by kernel_rfl) fun w93 hT94 hh95 => ?_
  have hR := hR.tch0 hT94
  have hc := hc.tch0 hT94
  have ha := ha.tch0 hT94
  have hb := hb.tch0 hT94
  have hL := hL.tch0 hT94
  have hMv := hMv.then0 hT94
  refine dtk [0, 5] #[true, false, false, false, false, true, false, false] [(37, .func (.func 78) #[] #[.pointer (some ⟨r, 0, none⟩)]), (42, .int .i64 ((x : Nat) : Int))] ⟨hR, hc, ha, hb⟩ (by kernel_rfl) ?_
  refine d_val (v := .int .i64 ((a : Nat) : Int)) 1 (by rfl) (by kernel_rfl) (by kernel_rfl) (by kernel_rfl) (fun w' hs => by obtain ⟨hR, hc, ha, hb⟩ := hs; exact R_load (v := .int .i64 ((a : Nat) : Int)) (by kernel_rfl) (by kernel_rfl) ((ha.cell 0).trans rfl)) ⟨hR, hc, ha, hb⟩ ?_
  refine d_val (v := .int .i64 ((b : Nat) : Int)) 3 (by rfl) (by kernel_rfl) (by kernel_rfl) (by kernel_rfl) (fun w' hs => by obtain ⟨hR, hc, ha, hb⟩ := hs; exact R_load (v := .int .i64 ((b : Nat) : Int)) (by kernel_rfl) (by kernel_rfl) ((hb.cell 0).trans rfl)) ⟨hR, hc, ha, hb⟩ ?_
  refine d_one 2 (by kernel_rfl) (by rfl) (by kernel_rfl) (S_call (args := [.int .i64 ((a : Nat) : Int)]) (by kernel_rfl) (not_ok a _ (by omega)) ?_)
  rintro _ w96 ⟨rfl, hT97⟩
  have hR := hR.tch0 hT97
  have hc := hc.tch0 hT97
  have ha := ha.tch0 hT97
  have hb := hb.tch0 hT97
  have hL := hL.tch0 hT97
  have hMv := hMv.then0 hT97
  refine ⟨⟨hR, hc, ha, hb⟩, ?_⟩
  refine d_one 4 (by kernel_rfl) (by rfl) (by kernel_rfl) (S_call (args := [.int .i64 ((b : Nat) : Int)]) (by kernel_rfl) (not_ok b _ (by omega)) ?_)
  rintro _ w98 ⟨rfl, hT99⟩
  have hR := hR.tch0 hT99
  have hc := hc.tch0 hT99
  have ha := ha.tch0 hT99
  have hb := hb.tch0 hT99
  have hL := hL.tch0 hT99
  have hMv := hMv.then0 hT99
  refine ⟨⟨hR, hc, ha, hb⟩, ?_⟩
  have hlt_ := hL.lt
  have hz104 := hMv.1.size
  have lt105 := hR.lt
  have lt106 := hc.lt
  have lt107 := ha.lt
  have lt108 := hb.lt
  refine d_one 6 (by kernel_rfl) (by rfl) (by kernel_rfl) (S_new (v := .slice (some ⟨w98.heap.size, 0, none⟩) 3 3) (ob := .cells #[.int .i64 ((GateP.nt a : Nat) : Int), .int .i64 ((GateP.nt b : Nat) : Int), .int .i64 ((x : Nat) : Int)] 3) (by kernel_rfl) fun w100 hT101 hs102 hB103 => ?_)
  replace hB103 : Blk w100 (w98.heap.size) 3 [.int .i64 ((GateP.nt a : Nat) : Int), .int .i64 ((GateP.nt b : Nat) : Int), .int .i64 ((x : Nat) : Int)] := hB103
  have hR := hR.tch0 hT101
  have hc := hc.tch0 hT101
  have ha := ha.tch0 hT101
  have hb := hb.tch0 hT101
  have hL := hL.tch0 hT101
  have hMv := hMv.then0 hT101
  have nF_hB103 : ¬ F87 (w98.heap.size) := fun e => by have := hlt_ _ e; omega
  refine ⟨⟨hR, hc, ha, hb⟩, ?_⟩
  have lt113 := hR.lt
  have lt114 := hc.lt
  have lt115 := ha.lt
  have lt116 := hb.lt
  refine d_one 7 (by kernel_rfl) (by rfl) (by kernel_rfl) (S_call (args := [.slice (some ⟨w98.heap.size, 0, none⟩) 3 3, .pointer (some ⟨r, 0, none⟩)]) (by kernel_rfl) (add_ok F87 r p nv (w98.heap.size) 3 [GateP.nt a, GateP.nt b, x] (cs ++ [[GateP.nt c, GateP.nt a, x]] ++ [[GateP.nt c, a, GateP.nt x]] ++ [[c, GateP.nt b, x]] ++ [[c, b, GateP.nt x]]) M _ hR hL (show Blk _ _ 3 (nats [GateP.nt a, GateP.nt b, x]) from hB103) rfl (by (try simp only [List.length_append, List.length_cons, List.length_nil]); omega)) ?_)
  rintro _ w109 ⟨rfl, F111, hL, hT110, _, hFn112⟩
  have hR := hR.tch hT110 nF_hR
  have hc := hc.tch hT110 nF_hc
  have ha := ha.tch hT110 nF_ha
  have hb := hb.tch hT110 nF_hb
  have hMv := hMv.add hT110 hFn112 (by omega)
  replace nF_hR : ¬ F111 (r) := fun e => by have := hFn112 _ e; rcases this with q | q | q; exact nF_hR q; omega; omega
  replace nF_hc : ¬ F111 (rc) := fun e => by have := hFn112 _ e; rcases this with q | q | q; exact nF_hc q; omega; omega
  replace nF_ha : ¬ F111 (ra) := fun e => by have := hFn112 _ e; rcases this with q | q | q; exact nF_ha q; omega; omega
  replace nF_hb : ¬ F111 (rb) := fun e => by have := hFn112 _ e; rcases this with q | q | q; exact nF_hb q; omega; omega
  refine ⟨⟨hR, hc, ha, hb⟩, ?_⟩
  refine d_done (by kernel_rfl) ?_
  refine W_fg [(0, .int .i64 ((x : Nat) : Int)), (1, .func (.func 78) #[] #[.pointer (some ⟨r, 0, none⟩)]), (2, .pointer (some ⟨rc, 0, none⟩)), (3, .pointer (some ⟨ra, 0, none⟩)), (4, .pointer (some ⟨rb, 0, none⟩))] (by kernel_rfl) fun ρ => ?_
  refine W_draw (fun w' => Blk w' r 25 [.pointer (some ⟨p, 0, none⟩)] ∧ Blk w' rc 3 [.int .i64 ((c : Nat) : Int)] ∧ Blk w' ra 3 [.int .i64 ((a : Nat) : Int)] ∧ Blk w' rb 3 [.int .i64 ((b : Nat) : Int)]) (by kernel_rfl) (by kernel_rfl) (by kernel_rfl) fun w117 hT118 hh119 => ?_
  have hR := hR.tch0 hT118
  have hc := hc.tch0 hT118
  have ha := ha.tch0 hT118
  have hb := hb.tch0 hT118
  have hL := hL.tch0 hT118
  have hMv := hMv.then0 hT118
  refine dtk [0, 3] #[true, false, false, true, false, false, false] [(45, .func (.func 78) #[] #[.pointer (some ⟨r, 0, none⟩)]), (48, .int .i64 ((x : Nat) : Int))] ⟨hR, hc, ha, hb⟩ (by kernel_rfl) ?_
  refine d_val (v := .int .i64 ((a : Nat) : Int)) 1 (by rfl) (by kernel_rfl) (by kernel_rfl) (by kernel_rfl) (fun w' hs => by obtain ⟨hR, hc, ha, hb⟩ := hs; exact R_load (v := .int .i64 ((a : Nat) : Int)) (by kernel_rfl) (by kernel_rfl) ((ha.cell 0).trans rfl)) ⟨hR, hc, ha, hb⟩ ?_
  refine d_val (v := .int .i64 ((b : Nat) : Int)) 2 (by rfl) (by kernel_rfl) (by kernel_rfl) (by kernel_rfl) (fun w' hs => by obtain ⟨hR, hc, ha, hb⟩ := hs; exact R_load (v := .int .i64 ((b : Nat) : Int)) (by kernel_rfl) (by kernel_rfl) ((hb.cell 0).trans rfl)) ⟨hR, hc, ha, hb⟩ ?_
  refine d_one 4 (by kernel_rfl) (by rfl) (by kernel_rfl) (S_call (args := [.int .i64 ((x : Nat) : Int)]) (by kernel_rfl) (not_ok x _ (by omega)) ?_)
  rintro _ w120 ⟨rfl, hT121⟩
  have hR := hR.tch0 hT121
  have hc := hc.tch0 hT121
  have ha := ha.tch0 hT121
  have hb := hb.tch0 hT121
  have hL := hL.tch0 hT121
  have hMv := hMv.then0 hT121
  refine ⟨⟨hR, hc, ha, hb⟩, ?_⟩
  have hlt_ := hL.lt
  have hz126 := hMv.1.size
  have lt127 := hR.lt
  have lt128 := hc.lt
  have lt129 := ha.lt
  have lt130 := hb.lt
  refine d_one 5 (by kernel_rfl) (by rfl) (by kernel_rfl) (S_new (v := .slice (some ⟨w120.heap.size, 0, none⟩) 3 3) (ob := .cells #[.int .i64 ((a : Nat) : Int), .int .i64 ((b : Nat) : Int), .int .i64 ((GateP.nt x : Nat) : Int)] 3) (by kernel_rfl) fun w122 hT123 hs124 hB125 => ?_)
  replace hB125 : Blk w122 (w120.heap.size) 3 [.int .i64 ((a : Nat) : Int), .int .i64 ((b : Nat) : Int), .int .i64 ((GateP.nt x : Nat) : Int)] := hB125
  have hR := hR.tch0 hT123
  have hc := hc.tch0 hT123
  have ha := ha.tch0 hT123
  have hb := hb.tch0 hT123
  have hL := hL.tch0 hT123
  have hMv := hMv.then0 hT123
  have nF_hB125 : ¬ F111 (w120.heap.size) := fun e => by have := hlt_ _ e; omega
  refine ⟨⟨hR, hc, ha, hb⟩, ?_⟩
  have lt135 := hR.lt
  have lt136 := hc.lt
  have lt137 := ha.lt
  have lt138 := hb.lt
  refine d_one 6 (by kernel_rfl) (by rfl) (by kernel_rfl) (S_call (args := [.slice (some ⟨w120.heap.size, 0, none⟩) 3 3, .pointer (some ⟨r, 0, none⟩)]) (by kernel_rfl) (add_ok F111 r p nv (w120.heap.size) 3 [a, b, GateP.nt x] (cs ++ [[GateP.nt c, GateP.nt a, x]] ++ [[GateP.nt c, a, GateP.nt x]] ++ [[c, GateP.nt b, x]] ++ [[c, b, GateP.nt x]] ++ [[GateP.nt a, GateP.nt b, x]]) M _ hR hL (show Blk _ _ 3 (nats [a, b, GateP.nt x]) from hB125) rfl (by (try simp only [List.length_append, List.length_cons, List.length_nil]); omega)) ?_)
  rintro _ w131 ⟨rfl, F133, hL, hT132, _, hFn134⟩
  have hR := hR.tch hT132 nF_hR
  have hc := hc.tch hT132 nF_hc
  have ha := ha.tch hT132 nF_ha
  have hb := hb.tch hT132 nF_hb
  have hMv := hMv.add hT132 hFn134 (by omega)
  replace nF_hR : ¬ F133 (r) := fun e => by have := hFn134 _ e; rcases this with q | q | q; exact nF_hR q; omega; omega
  replace nF_hc : ¬ F133 (rc) := fun e => by have := hFn134 _ e; rcases this with q | q | q; exact nF_hc q; omega; omega
  replace nF_ha : ¬ F133 (ra) := fun e => by have := hFn134 _ e; rcases this with q | q | q; exact nF_ha q; omega; omega
  replace nF_hb : ¬ F133 (rb) := fun e => by have := hFn134 _ e; rcases this with q | q | q; exact nF_hb q; omega; omega
  refine ⟨⟨hR, hc, ha, hb⟩, ?_⟩
  refine d_done (by kernel_rfl) ?_
  refine ⟨_, Res_of (v := .tuple #[]) (by kernel_rfl), ?_⟩
  have e : cs ++ [[GateP.nt c, GateP.nt a, x]] ++ [[GateP.nt c, a, GateP.nt x]] ++ [[c, GateP.nt b, x]] ++ [[c, b, GateP.nt x]] ++ [[GateP.nt a, GateP.nt b, x]] ++ [[a, b, GateP.nt x]] = cs ++ gcl 2 c a b x := by simp [gcl]
  rw [e] at hL
  exact ⟨rfl, _, hL, hMv⟩

end Go.Proofs.YtnlecdpiccgdpaaV

set_option linter.unusedVariables false
set_option linter.unusedSimpArgs false
namespace Go.Proofs.YtnlecdpiccgdpaaV
open Go Go.RowKit Go.Proofs

set_option maxRecDepth 100000 in
theorem gate0_ok (F : Nat → Prop) (p n a b ra rb : Nat) (cs : List (List Nat)) (I : Nat → Prop) (w : World) (hG : GObj F w p n cs I) (ha : Blk w ra 3 [.int .i64 ((a : Nat) : Int)]) (hb : Blk w rb 3 [.int .i64 ((b : Nat) : Int)]) (nF_ha : ¬ F ra) (nF_hb : ¬ F rb) (hxa : a / 2 < n) (hxb : b / 2 < n) (hn : n ≤ 68719476736) : Ret Try.prog 54 [.pointer (some ⟨p, 0, none⟩), .int .i64 0, .int .i64 ((a : Nat) : Int), .int .i64 ((b : Nat) : Int), .int .i64 0, .func (.func 57) #[] #[.pointer (some ⟨ra, 0, none⟩), .pointer (some ⟨rb, 0, none⟩)]] w fun v w' => ∃ F' n' cs' x, v = .int .i64 ((x : Nat) : Int) ∧ GObj F' w' p n' cs' I ∧ Mv F F' w w' ∧ GR n cs n' cs' x (fun be => gv 0 (lt_ be a) (lt_ be b) (lt_ be 0)) ∧ n' ≤ n + 1 := by
  obtain ⟨hL, hI⟩ := hG
  have hMv := Mv.refl F w
  have hlen := hI.len
  have hpos := hI.pos
  refine enter Try.func54 rfl rfl ?_
  refine W_seq ?_
  refine W_region (by kernel_rfl) ?_
  have hlt_ := hL.lt
  have hz5 := hMv.1.size
  have lt6 := ha.lt
  have lt7 := hb.lt
  refine st (by rfl) (S_new (v := .pointer (some ⟨w.heap.size, 0, none⟩)) (ob := .cells #[.pointer (some ⟨p, 0, none⟩)] 25) (by kernel_rfl) fun w1 hT2 hs3 hB4 => ?_)
  replace hB4 : Blk w1 (w.heap.size) 25 [.pointer (some ⟨p, 0, none⟩)] := hB4
  have ha := ha.tch0 hT2
  have hb := hb.tch0 hT2
  have hL := hL.tch0 hT2
  have hMv := hMv.then0 hT2
  have nF_hB4 : ¬ F (w.heap.size) := fun e => by have := hlt_ _ e; omega
  refine sg [(12, .int .i64 0)] (by kernel_rfl) ?_
  refine op_nil ?_
  refine W_seq ?_
  refine W_region (by kernel_rfl) ?_
  refine sg [(17, .int .i64 0), (18, .int .i64 ((a : Nat) : Int)), (19, .int .i64 ((b : Nat) : Int)), (20, .int .i64 0), (21, .agg #[.int .i64 0, .int .i64 ((a : Nat) : Int), .int .i64 ((b : Nat) : Int), .int .i64 0])] (by kernel_rfl) ?_
  have hlt_ := hL.lt
  have hz12 := hMv.1.size
  have lt13 := ha.lt
  have lt14 := hb.lt
  have lt15 := hB4.lt
  refine st (by rfl) (S_new (v := .pointer (some ⟨w1.heap.size, 0, none⟩)) (ob := .cells #[.int .i64 0, .int .i64 0, .int .i64 0, .int .i64 0] 34) (by kernel_rfl) fun w8 hT9 hs10 hB11 => ?_)
  replace hB11 : Blk w8 (w1.heap.size) 34 [.int .i64 0, .int .i64 0, .int .i64 0, .int .i64 0] := hB11
  have ha := ha.tch0 hT9
  have hb := hb.tch0 hT9
  have hL := hL.tch0 hT9
  have hMv := hMv.then0 hT9
  have hB4 := hB4.tch0 hT9
  have nF_hB11 : ¬ F (w1.heap.size) := fun e => by have := hlt_ _ e; omega
  refine st (by rfl) (S_storeA (b := w1.heap.size) (j := 0) (cs := [.int .i64 0, .int .i64 ((a : Nat) : Int), .int .i64 ((b : Nat) : Int), .int .i64 0]) (by kernel_rfl) (by kernel_rfl) (by kernel_rfl) (by simp [oneV]) hB11 (by simp) fun w16 hT17 hs18 hB11' => ?_)
  have ha := ha.tch hT17 (ha.ne hB11 (by decide))
  have hb := hb.tch hT17 (hb.ne hB11 (by decide))
  have hL := hL.tchS hT17 (fun c e q => by cases e; exact nF_hB11 q)
  have hMv := hMv.newst hT17 (by omega)
  have hB4 := hB4.tch hT17 (hB4.ne hB11 (by decide))
  replace hB11 : Blk w16 w1.heap.size 34 [.int .i64 0, .int .i64 ((a : Nat) : Int), .int .i64 ((b : Nat) : Int), .int .i64 0] := hB11'
  refine op_nil ?_
  refine W_seq ?_
  refine W_seq ?_
  refine W_fg [(0, .pointer (some ⟨p, 0, none⟩)), (1, .int .i64 0), (2, .int .i64 ((a : Nat) : Int)), (3, .int .i64 ((b : Nat) : Int)), (4, .int .i64 0), (5, .func (.func 57) #[] #[.pointer (some ⟨ra, 0, none⟩), .pointer (some ⟨rb, 0, none⟩)]), (6, .pointer (some ⟨w.heap.size, 0, none⟩)), (12, .int .i64 0), (13, .pointer (some ⟨w1.heap.size, 0, none⟩))] (by kernel_rfl) fun ρ => ?_
  obtain ⟨A, cp, mb, Lv, hP, hO, hM, hC, fp, fm, fA, hlt⟩ := id hL
  refine W_draw (fun w' => Blk w' ra 3 [.int .i64 ((a : Nat) : Int)] ∧ Blk w' rb 3 [.int .i64 ((b : Nat) : Int)] ∧ Blk w' (w.heap.size) 25 [.pointer (some ⟨p, 0, none⟩)] ∧ Blk w' (w1.heap.size) 34 [.int .i64 0, .int .i64 ((a : Nat) : Int), .int .i64 ((b : Nat) : Int), .int .i64 0] ∧ Blk w' p 78 [.int .i64 ((n : Nat) : Int), .slice A cs.length cp, .map (some mb)]) (by kernel_rfl) (by kernel_rfl) (by kernel_rfl) fun w19 hT20 hh21 => ?_
  have ha := ha.tch0 hT20
  have hb := hb.tch0 hT20
  have hL := hL.tch0 hT20
  have hMv := hMv.then0 hT20
  have hB4 := hB4.tch0 hT20
  have hB11 := hB11.tch0 hT20
  have hP := hP.tch0 hT20
  have hO := hO.tch0 hT20
  have hM := hM.tch0 hT20
  have hC := hC.tch0 hT20
  have hlt := (fun b hb => Nat.lt_of_lt_of_le (hlt b hb) (hT20).size)
  refine d_val (v := .pointer (some ⟨p, 0, none⟩)) 0 (by rfl) (by kernel_rfl) (by kernel_rfl) (by kernel_rfl) (fun w' hs => by obtain ⟨ha, hb, hB4, hB11, hP⟩ := hs; exact R_load (v := .pointer (some ⟨p, 0, none⟩)) (by kernel_rfl) (by kernel_rfl) ((hB4.cell 0).trans rfl)) ⟨ha, hb, hB4, hB11, hP⟩ ?_
  refine dtk [1, 2] #[true, true, true, false, false, false, false, false, false, false, false] [(24, .pointer (some ⟨p, 0, none⟩)), (25, .pointer (some ⟨p, 2, none⟩))] ⟨ha, hb, hB4, hB11, hP⟩ (by kernel_rfl) ?_
  refine d_val (v := .map (some mb)) 3 (by rfl) (by kernel_rfl) (by kernel_rfl) (by kernel_rfl) (fun w' hs => by obtain ⟨ha, hb, hB4, hB11, hP⟩ := hs; exact R_load (v := .map (some mb)) (by kernel_rfl) (by kernel_rfl) ((hP.cell 2).trans rfl)) ⟨ha, hb, hB4, hB11, hP⟩ ?_
  refine d_val (v := .agg #[.int .i64 0, .int .i64 ((a : Nat) : Int), .int .i64 ((b : Nat) : Int), .int .i64 0]) 4 (by rfl) (by kernel_rfl) (by kernel_rfl) (by kernel_rfl) (fun w' hs => by obtain ⟨ha, hb, hB4, hB11, hP⟩ := hs; exact R_loadA [.int .i64 0, .int .i64 ((a : Nat) : Int), .int .i64 ((b : Nat) : Int), .int .i64 0] (by kernel_rfl) (by kernel_rfl) (by kernel_rfl) (fun k u hk => by rw [hB11.cell]; exact get_part _ 0 _ k u rfl hk)) ⟨ha, hb, hB4, hB11, hP⟩ ?_
  refine d_one 5 (by kernel_rfl) (by rfl) (by kernel_rfl) (S_lookupG 0 a b 0 (by kernel_rfl) (by kernel_rfl) (key_nat 0 a b 0 (by omega) (by omega) (by omega) (by omega)) hM fun x22 ok23 hx24 => ?_)
  refine ⟨⟨ha, hb, hB4, hB11, hP⟩, ?_⟩
  refine dtk [6, 7, 8, 9, 10] #[true, true, true, true, true, true, true, true, true, true, true] [(22, .tuple #[.int .i64 ((x22 : Nat) : Int), .bool ok23]), (29, .int .i64 ((x22 : Nat) : Int)), (30, .bool ok23), (14, .int .i64 ((x22 : Nat) : Int)), (15, .bool ok23)] ⟨ha, hb, hB4, hB11, hP⟩ (by kernel_rfl) ?_
  refine d_done (by kernel_rfl) ?_
  refine W_seq ?_
  refine W_fg [(0, .pointer (some ⟨p, 0, none⟩)), (1, .int .i64 0), (2, .int .i64 ((a : Nat) : Int)), (3, .int .i64 ((b : Nat) : Int)), (4, .int .i64 0), (5, .func (.func 57) #[] #[.pointer (some ⟨ra, 0, none⟩), .pointer (some ⟨rb, 0, none⟩)]), (6, .pointer (some ⟨w.heap.size, 0, none⟩)), (12, .int .i64 0), (13, .pointer (some ⟨w1.heap.size, 0, none⟩)), (14, .int .i64 ((x22 : Nat) : Int)), (15, .bool ok23)] (by kernel_rfl) fun ρ => ?_
  refine W_region (by kernel_rfl) ?_
  refine sg [(31, .bool ok23)] (by kernel_rfl) ?_
  refine op_nil ?_
  refine W_cond (ok23) (by kernel_rfl) (by kernel_rfl) (fun hc25 => ?_) (fun hc25 => ?_)
  · replace hc25 : ok23 = true := (hc25)
    refine W_seq ?_
    refine W_region (by kernel_rfl) ?_
    refine sg [(32, .int .i64 ((x22 : Nat) : Int)), (12, .int .i64 ((x22 : Nat) : Int))] (by kernel_rfl) ?_
    refine op_nil ?_
    refine W_ret ?_
    exact ⟨_, Res_of (v := .int .i64 ((x22 : Nat) : Int)) (by kernel_rfl), ⟨F, n, cs, x22, rfl, ⟨hL, hI⟩, hMv, ⟨Nat.le_refl _, fun c hc => hc, (hx24 (by assumption)).1, (hx24 (by assumption)).2⟩, by omega⟩⟩
  · replace hc25 : ok23 = false := (hc25)
    refine W_skip ?_
    refine W_seq ?_
    refine W_region (by kernel_rfl) ?_
    refine st (by rfl) (S_val (v := .pointer (some ⟨p, 0, none⟩)) (R_load (v := .pointer (some ⟨p, 0, none⟩)) (by kernel_rfl) (by kernel_rfl) ((hB4.cell 0).trans rfl)) ?_)
    refine st (by rfl) (S_call (args := [.pointer (some ⟨p, 0, none⟩)]) (by kernel_rfl) (low_fresh F p n cs (MkE n cs) _ hL (by omega)) ?_)
    rintro _ w26 ⟨rfl, hL, hm27⟩
    have ha := ha.tch hm27.1 nF_ha
    have hb := hb.tch hm27.1 nF_hb
    have hMv := hMv.trans hm27
    have hB4 := hB4.tch hm27.1 nF_hB4
    have hB11 := hB11.tch hm27.1 nF_hB11
    refine sg [(16, .int .i64 ((2 * n : Nat) : Int))] (by kernel_rfl) ?_
    refine op_nil ?_
    refine W_seq ?_
    obtain ⟨A2, cp2, mb2, Lv2, hP, hO, hM, hC, fp, fm, fA, hlt⟩ := id hL
    refine W_drawT (fun w' => Blk w' ra 3 [.int .i64 ((a : Nat) : Int)] ∧ Blk w' rb 3 [.int .i64 ((b : Nat) : Int)] ∧ Blk w' (w.heap.size) 25 [.pointer (some ⟨p, 0, none⟩)] ∧ Blk w' (w1.heap.size) 34 [.int .i64 0, .int .i64 ((a : Nat) : Int), .int .i64 ((b : Nat) : Int), .int .i64 0] ∧ Blk w' p 78 [.int .i64 (((n + 1) : Nat) : Int), .slice A2 cs.length cp2, .map (some mb2)]) 6 (by kernel_rfl) (by kernel_rfl) (by kernel_rfl) fun w28 hT29 hh30 => ?_
    have ha := ha.tch0 hT29
    have hb := hb.tch0 hT29
    have hL := hL.tch0 hT29
    have hMv := hMv.then0 hT29
    have hB4 := hB4.tch0 hT29
    have hB11 := hB11.tch0 hT29
    have hP := hP.tch0 hT29
    have hO := hO.tch0 hT29
    have hM := hM.tch0 hT29
    have hC := hC.tch0 hT29
    have hlt := (fun b hb => Nat.lt_of_lt_of_le (hlt b hb) (hT29).size)
    refine ttk [5] #[false, false, false, false, false, true, false] [(40, .int .i64 ((2 * n : Nat) : Int))] ⟨ha, hb, hB4, hB11, hP⟩ (by kernel_rfl) ?_
    refine t_val (v := .pointer (some ⟨p, 0, none⟩)) 0 (by kernel_rfl) (by rfl) (by kernel_rfl) (by kernel_rfl) (by kernel_rfl) (fun w' hs => by obtain ⟨ha, hb, hB4, hB11, hP⟩ := hs; exact R_load (v := .pointer (some ⟨p, 0, none⟩)) (by kernel_rfl) (by kernel_rfl) ((hB4.cell 0).trans rfl)) ⟨ha, hb, hB4, hB11, hP⟩ ?_
    refine ttk [1, 2] #[true, true, true, false, false, true, false] [(36, .pointer (some ⟨p, 0, none⟩)), (37, .pointer (some ⟨p, 2, none⟩))] ⟨ha, hb, hB4, hB11, hP⟩ (by kernel_rfl) ?_
    refine t_val (v := .map (some mb2)) 3 (by kernel_rfl) (by rfl) (by kernel_rfl) (by kernel_rfl) (by kernel_rfl) (fun w' hs => by obtain ⟨ha, hb, hB4, hB11, hP⟩ := hs; exact R_load (v := .map (some mb2)) (by kernel_rfl) (by kernel_rfl) ((hP.cell 2).trans rfl)) ⟨ha, hb, hB4, hB11, hP⟩ ?_
    refine t_val (v := .agg #[.int .i64 0, .int .i64 ((a : Nat) : Int), .int .i64 ((b : Nat) : Int), .int .i64 0]) 4 (by kernel_rfl) (by rfl) (by kernel_rfl) (by kernel_rfl) (by kernel_rfl) (fun w' hs => by obtain ⟨ha, hb, hB4, hB11, hP⟩ := hs; exact R_loadA [.int .i64 0, .int .i64 ((a : Nat) : Int), .int .i64 ((b : Nat) : Int), .int .i64 0] (by kernel_rfl) (by kernel_rfl) (by kernel_rfl) (fun k u hk => by rw [hB11.cell]; exact get_part _ 0 _ k u rfl hk)) ⟨ha, hb, hB4, hB11, hP⟩ ?_
    refine t_one 6 (by kernel_rfl) (by rfl) (by kernel_rfl) (S_updateG (n := n) 0 a b 0 (by kernel_rfl) (by kernel_rfl) (by kernel_rfl) (key_nat 0 a b 0 (by omega) (by omega) (by omega) (by omega)) hP hO hM hC fp fm fA hlt fun w31 hT32 hs33 hL => ?_)
    have ha := ha.tch hT32 nF_ha
    have hb := hb.tch hT32 nF_hb
    have hMv := hMv.trans (.same hT32)
    have hB4 := hB4.tch hT32 nF_hB4
    have hB11 := hB11.tch hT32 nF_hB11
    refine ⟨fun h => absurd h (by decide), ?_⟩
    refine t_done (by kernel_rfl) ?_
    refine W_seq ?_
    refine W_fg [(0, .pointer (some ⟨p, 0, none⟩)), (1, .int .i64 0), (2, .int .i64 ((a : Nat) : Int)), (3, .int .i64 ((b : Nat) : Int)), (4, .int .i64 0), (5, .func (.func 57) #[] #[.pointer (some ⟨ra, 0, none⟩), .pointer (some ⟨rb, 0, none⟩)]), (6, .pointer (some ⟨w.heap.size, 0, none⟩)), (12, .int .i64 0), (13, .pointer (some ⟨w1.heap.size, 0, none⟩)), (14, .int .i64 ((x22 : Nat) : Int)), (15, .bool ok23), (16, .int .i64 ((2 * n : Nat) : Int)), (31, .bool ok23)] (by kernel_rfl) fun ρ => ?_
    refine W_region (by kernel_rfl) ?_
    refine sg [(41, .func (.func 57) #[] #[.pointer (some ⟨ra, 0, none⟩), .pointer (some ⟨rb, 0, none⟩)]), (42, .int .i64 ((2 * n : Nat) : Int)), (43, .func (.func 78) #[] #[.pointer (some ⟨w.heap.size, 0, none⟩)])] (by kernel_rfl) ?_
    have lt37 := ha.lt
    have lt38 := hb.lt
    have lt39 := hB4.lt
    have lt40 := hB11.lt
    refine st (by rfl) (S_call (args := [.int .i64 ((2 * n : Nat) : Int), .func (.func 78) #[] #[.pointer (some ⟨w.heap.size, 0, none⟩)], .pointer (some ⟨ra, 0, none⟩), .pointer (some ⟨rb, 0, none⟩)]) (by kernel_rfl) (clo0_ok F (w.heap.size) p (n + 1) (2 * n) a b ra rb cs (MkE (n + 1) (cs ++ gcl 0 a b 0 (2 * n))) _ hB4 ha hb nF_hB4 nF_ha nF_hb hL (by omega) (by omega) (by omega) (by omega)) ?_)
    rintro _ w34 ⟨rfl, F36, hL, hm35⟩
    have ha := ha.tch hm35.1 nF_ha
    have hb := hb.tch hm35.1 nF_hb
    have hMv := hMv.trans hm35
    have hB4 := hB4.tch hm35.1 nF_hB4
    have hB11 := hB11.tch hm35.1 nF_hB11
    replace nF_ha : ¬ F36 (ra) := fun e => (hm35.2 _ e).elim nF_ha (fun q => by omega)
    replace nF_hb : ¬ F36 (rb) := fun e => (hm35.2 _ e).elim nF_hb (fun q => by omega)
    replace nF_hB4 : ¬ F36 (w.heap.size) := fun e => (hm35.2 _ e).elim nF_hB4 (fun q => by omega)
    replace nF_hB11 : ¬ F36 (w1.heap.size) := fun e => (hm35.2 _ e).elim nF_hB11 (fun q => by omega)
    refine op_nil ?_
    refine W_seq ?_
    refine W_region (by kernel_rfl) ?_
    refine sg [(45, .int .i64 ((2 * n : Nat) : Int)), (12, .int .i64 ((2 * n : Nat) : Int))] (by kernel_rfl) ?_
    refine op_nil ?_
    refine W_ret ?_
    exact ⟨_, Res_of (v := .int .i64 ((2 * n : Nat) : Int)) (by kernel_rfl), ⟨_, n + 1, cs ++ gcl 0 a b 0 (2 * n), 2 * n, rfl, ⟨hL, hI.gate (by omega) (by omega) (by omega)⟩, hMv, ⟨by omega, fun c hc => List.mem_append.2 (.inl hc), (MkI.new n cs 0 a b 0).1, (MkI.new n cs 0 a b 0).2⟩, Nat.le_refl _⟩⟩

set_option maxRecDepth 100000 in
theorem gate1_ok (F : Nat → Prop) (p n a b ra rb : Nat) (cs : List (List Nat)) (I : Nat → Prop) (w : World) (hG : GObj F w p n cs I) (ha : Blk w ra 3 [.int .i64 ((a : Nat) : Int)]) (hb : Blk w rb 3 [.int .i64 ((b : Nat) : Int)]) (nF_ha : ¬ F ra) (nF_hb : ¬ F rb) (hxa : a / 2 < n) (hxb : b / 2 < n) (hn : n ≤ 68719476736) : Ret Try.prog 54 [.pointer (some ⟨p, 0, none⟩), .int .i64 1, .int .i64 ((a : Nat) : Int), .int .i64 ((b : Nat) : Int), .int .i64 0, .func (.func 55) #[] #[.pointer (some ⟨ra, 0, none⟩), .pointer (some ⟨rb, 0, none⟩)]] w fun v w' => ∃ F' n' cs' x, v = .int .i64 ((x : Nat) : Int) ∧ GObj F' w' p n' cs' I ∧ Mv F F' w w' ∧ GR n cs n' cs' x (fun be => gv 1 (lt_ be a) (lt_ be b) (lt_ be 0)) ∧ n' ≤ n + 1 := by
  obtain ⟨hL, hI⟩ := hG
  have hMv := Mv.refl F w
  have hlen := hI.len
  have hpos := hI.pos
  refine enter Try.func54 rfl rfl ?_
  refine W_seq ?_
  refine W_region (by kernel_rfl) ?_
  have hlt_ := hL.lt
  have hz5 := hMv.1.size
  have lt6 := ha.lt
  have lt7 := hb.lt
  refine st (by rfl) (S_new (v := .pointer (some ⟨w.heap.size, 0, none⟩)) (ob := .cells #[.pointer (some ⟨p, 0, none⟩)] 25) (by kernel_rfl) fun w1 hT2 hs3 hB4 => ?_)
  replace hB4 : Blk w1 (w.heap.size) 25 [.pointer (some ⟨p, 0, none⟩)] := hB4
  have ha := ha.tch0 hT2
  have hb := hb.tch0 hT2
  have hL := hL.tch0 hT2
  have hMv := hMv.then0 hT2
  have nF_hB4 : ¬ F (w.heap.size) := fun e => by have := hlt_ _ e; omega
  refine sg [(12, .int .i64 0)] (by kernel_rfl) ?_
  refine op_nil ?_
  refine W_seq ?_
  refine W_region (by kernel_rfl) ?_
  refine sg [(17, .int .i64 1), (18, .int .i64 ((a : Nat) : Int)), (19, .int .i64 ((b : Nat) : Int)), (20, .int .i64 0), (21, .agg #[.int .i64 1, .int .i64 ((a : Nat) : Int), .int .i64 ((b : Nat) : Int), .int .i64 0])] (by kernel_rfl) ?_
  have hlt_ := hL.lt
  have hz12 := hMv.1.size
  have lt13 := ha.lt
  have lt14 := hb.lt
  have lt15 := hB4.lt
  refine st (by rfl) (S_new (v := .pointer (some ⟨w1.heap.size, 0, none⟩)) (ob := .cells #[.int .i64 0, .int .i64 0, .int .i64 0, .int .i64 0] 34) (by kernel_rfl) fun w8 hT9 hs10 hB11 => ?_)
  replace hB11 : Blk w8 (w1.heap.size) 34 [.int .i64 0, .int .i64 0, .int .i64 0, .int .i64 0] := hB11
  have ha := ha.tch0 hT9
  have hb := hb.tch0 hT9
  have hL := hL.tch0 hT9
  have hMv := hMv.then0 hT9
  have hB4 := hB4.tch0 hT9
  have nF_hB11 : ¬ F (w1.heap.size) := fun e => by have := hlt_ _ e; omega
  refine st (by rfl) (S_storeA (b := w1.heap.size) (j := 0) (cs := [.int .i64 1, .int .i64 ((a : Nat) : Int), .int .i64 ((b : Nat) : Int), .int .i64 0]) (by kernel_rfl) (by kernel_rfl) (by kernel_rfl) (by simp [oneV]) hB11 (by simp) fun w16 hT17 hs18 hB11' => ?_)
  have ha := ha.tch hT17 (ha.ne hB11 (by decide))
  have hb := hb.tch hT17 (hb.ne hB11 (by decide))
  have hL := hL.tchS hT17 (fun c e q => by cases e; exact nF_hB11 q)
  have hMv := hMv.newst hT17 (by omega)
  have hB4 := hB4.tch hT17 (hB4.ne hB11 (by decide))
  replace hB11 : Blk w16 w1.heap.size 34 [.int .i64 1, .int .i64 ((a : Nat) : Int), .int .i64 ((b : Nat) : Int), .int .i64 0] := hB11'
  refine op_nil ?_
  refine W_seq ?_
  refine W_seq ?_
  refine W_fg [(0, .pointer (some ⟨p, 0, none⟩)), (1, .int .i64 1), (2, .int .i64 ((a : Nat) : Int)), (3, .int .i64 ((b : Nat) : Int)), (4, .int .i64 0), (5, .func (.func 55) #[] #[.pointer (some ⟨ra, 0, none⟩), .pointer (some ⟨rb, 0, none⟩)]), (6, .pointer (some ⟨w.heap.size, 0, none⟩)), (12, .int .i64 0), (13, .pointer (some ⟨w1.heap.size, 0, none⟩))] (by kernel_rfl) fun ρ => ?_
  obtain ⟨A, cp, mb, Lv, hP, hO, hM, hC, fp, fm, fA, hlt⟩ := id hL
  refine W_draw (fun w' => Blk w' ra 3 [.int .i64 ((a : Nat) : Int)] ∧ Blk w' rb 3 [.int .i64 ((b : Nat) : Int)] ∧ Blk w' (w.heap.size) 25 [.pointer (some ⟨p, 0, none⟩)] ∧ Blk w' (w1.heap.size) 34 [.int .i64 1, .int .i64 ((a : Nat) : Int), .int .i64 ((b : Nat) : Int), .int .i64 0] ∧ Blk w' p 78 [.int .i64 ((n : Nat) : Int), .slice A cs.length cp, .map (some mb)]) (by kernel_rfl) (by kernel_rfl) (by kernel_rfl) fun w19 hT20 hh21 => ?_
  have ha := ha.tch0 hT20
  have hb := hb.tch0 hT20
  have hL := hL.tch0 hT20
  have hMv := hMv.then0 hT20
  have hB4 := hB4.tch0 hT20
  have hB11 := hB11.tch0 hT20
  have hP := hP.tch0 hT20
  have hO := hO.tch0 hT20
  have hM := hM.tch0 hT20
  have hC := hC.tch0 hT20
  have hlt := (fun b hb => Nat.lt_of_lt_of_le (hlt b hb) (hT20).size)
  refine d_val (v := .pointer (some ⟨p, 0, none⟩)) 0 (by rfl) (by kernel_rfl) (by kernel_rfl) (by kernel_rfl) (fun w' hs => by obtain ⟨ha, hb, hB4, hB11, hP⟩ := hs; exact R_load (v := .pointer (some ⟨p, 0, none⟩)) (by kernel_rfl) (by kernel_rfl) ((hB4.cell 0).trans rfl)) ⟨ha, hb, hB4, hB11, hP⟩ ?_
  refine dtk [1, 2] #[true, true, true, false, false, false, false, false, false, false, false] [(24, .pointer (some ⟨p, 0, none⟩)), (25, .pointer (some ⟨p, 2, none⟩))] ⟨ha, hb, hB4, hB11, hP⟩ (by kernel_rfl) ?_
  refine d_val (v := .map (some mb)) 3 (by rfl) (by kernel_rfl) (by kernel_rfl) (by kernel_rfl) (fun w' hs => by obtain ⟨ha, hb, hB4, hB11, hP⟩ := hs; exact R_load (v := .map (some mb)) (by kernel_rfl) (by kernel_rfl) ((hP.cell 2).trans rfl)) ⟨ha, hb, hB4, hB11, hP⟩ ?_
  refine d_val (v := .agg #[.int .i64 1, .int .i64 ((a : Nat) : Int), .int .i64 ((b : Nat) : Int), .int .i64 0]) 4 (by rfl) (by kernel_rfl) (by kernel_rfl) (by kernel_rfl) (fun w' hs => by obtain ⟨ha, hb, hB4, hB11, hP⟩ := hs; exact R_loadA [.int .i64 1, .int .i64 ((a : Nat) : Int), .int .i64 ((b : Nat) : Int), .int .i64 0] (by kernel_rfl) (by kernel_rfl) (by kernel_rfl) (fun k u hk => by rw [hB11.cell]; exact get_part _ 0 _ k u rfl hk)) ⟨ha, hb, hB4, hB11, hP⟩ ?_
  refine d_one 5 (by kernel_rfl) (by rfl) (by kernel_rfl) (S_lookupG 1 a b 0 (by kernel_rfl) (by kernel_rfl) (key_nat 1 a b 0 (by omega) (by omega) (by omega) (by omega)) hM fun x22 ok23 hx24 => ?_)
  refine ⟨⟨ha, hb, hB4, hB11, hP⟩, ?_⟩
  refine dtk [6, 7, 8, 9, 10] #[true, true, true, true, true, true, true, true, true, true, true] [(22, .tuple #[.int .i64 ((x22 : Nat) : Int), .bool ok23]), (29, .int .i64 ((x22 : Nat) : Int)), (30, .bool ok23), (14, .int .i64 ((x22 : Nat) : Int)), (15, .bool ok23)] ⟨ha, hb, hB4, hB11, hP⟩ (by kernel_rfl) ?_
  refine d_done (by kernel_rfl) ?_
  refine W_seq ?_
  refine W_fg [(0, .pointer (some ⟨p, 0, none⟩)), (1, .int .i64 1), (2, .int .i64 ((a : Nat) : Int)), (3, .int .i64 ((b : Nat) : Int)), (4, .int .i64 0), (5, .func (.func 55) #[] #[.pointer (some ⟨ra, 0, none⟩), .pointer (some ⟨rb, 0, none⟩)]), (6, .pointer (some ⟨w.heap.size, 0, none⟩)), (12, .int .i64 0), (13, .pointer (some ⟨w1.heap.size, 0, none⟩)), (14, .int .i64 ((x22 : Nat) : Int)), (15, .bool ok23)] (by kernel_rfl) fun ρ => ?_
  refine W_region (by kernel_rfl) ?_
  refine sg [(31, .bool ok23)] (by kernel_rfl) ?_
  refine op_nil ?_
  refine W_cond (ok23) (by kernel_rfl) (by kernel_rfl) (fun hc25 => ?_) (fun hc25 => ?_)
  · replace hc25 : ok23 = true := (hc25)
    refine W_seq ?_
    refine W_region (by kernel_rfl) ?_
    refine sg [(32, .int .i64 ((x22 : Nat) : Int)), (12, .int .i64 ((x22 : Nat) : Int))] (by kernel_rfl) ?_
    refine op_nil ?_
    refine W_ret ?_
    exact ⟨_, Res_of (v := .int .i64 ((x22 : Nat) : Int)) (by kernel_rfl), ⟨F, n, cs, x22, rfl, ⟨hL, hI⟩, hMv, ⟨Nat.le_refl _, fun c hc => hc, (hx24 (by assumption)).1, (hx24 (by assumption)).2⟩, by omega⟩⟩
  · replace hc25 : ok23 = false := (hc25)
    refine W_skip ?_
    refine W_seq ?_
    refine W_region (by kernel_rfl) ?_
    refine st (by rfl) (S_val (v := .pointer (some ⟨p, 0, none⟩)) (R_load (v := .pointer (some ⟨p, 0, none⟩)) (by kernel_rfl) (by kernel_rfl) ((hB4.cell 0).trans rfl)) ?_)
    refine st (by rfl) (S_call (args := [.pointer (some ⟨p, 0, none⟩)]) (by kernel_rfl) (low_fresh F p n cs (MkE n cs) _ hL (by omega)) ?_)
    rintro _ w26 ⟨rfl, hL, hm27⟩
    have ha := ha.tch hm27.1 nF_ha
    have hb := hb.tch hm27.1 nF_hb
    have hMv := hMv.trans hm27
    have hB4 := hB4.tch hm27.1 nF_hB4
    have hB11 := hB11.tch hm27.1 nF_hB11
    refine sg [(16, .int .i64 ((2 * n : Nat) : Int))] (by kernel_rfl) ?_
    refine op_nil ?_
    refine W_seq ?_
    obtain ⟨A2, cp2, mb2, Lv2, hP, hO, hM, hC, fp, fm, fA, hlt⟩ := id hL
    refine W_drawT (fun w' => Blk w' ra 3 [.int .i64 ((a : Nat) : Int)] ∧ Blk w' rb 3 [.int .i64 ((b : Nat) : Int)] ∧ Blk w' (w.heap.size) 25 [.pointer (some ⟨p, 0, none⟩)] ∧ Blk w' (w1.heap.size) 34 [.int .i64 1, .int .i64 ((a : Nat) : Int), .int .i64 ((b : Nat) : Int), .int .i64 0] ∧ Blk w' p 78 [.int .i64 (((n + 1) : Nat) : Int), .slice A2 cs.length cp2, .map (some mb2)]) 6 (by kernel_rfl) (by kernel_rfl) (by kernel_rfl) fun w28 hT29 hh30 => ?_
    have ha := ha.tch0 hT29
    have hb := hb.tch0 hT29
    have hL := hL.tch0 hT29
    have hMv := hMv.then0 hT29
    have hB4 := hB4.tch0 hT29
    have hB11 := hB11.tch0 hT29
    have hP := hP.tch0 hT29
    have hO := hO.tch0 hT29
    have hM := hM.tch0 hT29
    have hC := hC.tch0 hT29
    have hlt := (fun b hb => Nat.lt_of_lt_of_le (hlt b hb) (hT29).size)
    refine ttk [5] #[false, false, false, false, false, true, false] [(40, .int .i64 ((2 * n : Nat) : Int))] ⟨ha, hb, hB4, hB11, hP⟩ (by kernel_rfl) ?_
    refine t_val (v := .pointer (some ⟨p, 0, none⟩)) 0 (by kernel_rfl) (by rfl) (by kernel_rfl) (by kernel_rfl) (by kernel_rfl) (fun w' hs => by obtain ⟨ha, hb, hB4, hB11, hP⟩ := hs; exact R_load (v := .pointer (some ⟨p, 0, none⟩)) (by kernel_rfl) (by kernel_rfl) ((hB4.cell 0).trans rfl)) ⟨ha, hb, hB4, hB11, hP⟩ ?_
    refine ttk [1, 2] #[true, true, true, false, false, true, false] [(36, .pointer (some ⟨p, 0, none⟩)), (37, .pointer (some ⟨p, 2, none⟩))] ⟨ha, hb, hB4, hB11, hP⟩ (by kernel_rfl) ?_
    refine t_val (v := .map (some mb2)) 3 (by kernel_rfl) (by rfl) (by kernel_rfl) (by kernel_rfl) (by kernel_rfl) (fun w' hs => by obtain ⟨ha, hb, hB4, hB11, hP⟩ := hs; exact R_load (v := .map (some mb2)) (by kernel_rfl) (by kernel_rfl) ((hP.cell 2).trans rfl)) ⟨ha, hb, hB4, hB11, hP⟩ ?_
    refine t_val (v := .agg #[.int .i64 1, .int .i64 ((a : Nat) : Int), .int .i64 ((b : Nat) : Int), .int .i64 0]) 4 (by kernel_rfl) (by rfl) (by kernel_rfl) (by kernel_rfl) (by kernel_rfl) (fun w' hs => by obtain ⟨ha, hb, hB4, hB11, hP⟩ := hs; exact R_loadA [.int .i64 1, .int .i64 ((a : Nat) : Int), .int .i64 ((b : Nat) : Int), .int .i64 0] (by kernel_rfl) (by kernel_rfl) (by kernel_rfl) (fun k u hk => by rw [hB11.cell]; exact get_part _ 0 _ k u rfl hk)) ⟨ha, hb, hB4, hB11, hP⟩ ?_
    refine t_one 6 (by kernel_rfl) (by rfl) (by kernel_rfl) (S_updateG (n := n) 1 a b 0 (by kernel_rfl) (by kernel_rfl) (by kernel_rfl) (key_nat 1 a b 0 (by omega) (by omega) (by omega) (by omega)) hP hO hM hC fp fm fA hlt fun w31 hT32 hs33 hL => ?_)
    have ha := ha.tch hT32 nF_ha
    have hb := hb.tch hT32 nF_hb
    have hMv := hMv.trans (.same hT32)
    have hB4 := hB4.tch hT32 nF_hB4
    have hB11 := hB11.tch hT32 nF_hB11
    refine ⟨fun h => absurd h (by decide), ?_⟩
    refine t_done (by kernel_rfl) ?_
    refine W_seq ?_
    refine W_fg [(0, .pointer (some ⟨p, 0, none⟩)), (1, .int .i64 1), (2, .int .i64 ((a : Nat) : Int)), (3, .int .i64 ((b : Nat) : Int)), (4, .int .i64 0), (5, .func (.func 55) #[] #[.pointer (some ⟨ra, 0, none⟩), .pointer (some ⟨rb, 0, none⟩)]), (6, .pointer (some ⟨w.heap.size, 0, none⟩)), (12, .int .i64 0), (13, .pointer (some ⟨w1.heap.size, 0, none⟩)), (14, .int .i64 ((x22 : Nat) : Int)), (15, .bool ok23), (16, .int .i64 ((2 * n : Nat) : Int)), (31, .bool ok23)] (by kernel_rfl) fun ρ => ?_
    refine W_region (by kernel_rfl) ?_
    refine sg [(41, .func (.func 55) #[] #[.pointer (some ⟨ra, 0, none⟩), .pointer (some ⟨rb, 0, none⟩)]), (42, .int .i64 ((2 * n : Nat) : Int)), (43, .func (.func 78) #[] #[.pointer (some ⟨w.heap.size, 0, none⟩)])] (by kernel_rfl) ?_
    have lt37 := ha.lt
    have lt38 := hb.lt
    have lt39 := hB4.lt
    have lt40 := hB11.lt
    refine st (by rfl) (S_call (args := [.int .i64 ((2 * n : Nat) : Int), .func (.func 78) #[] #[.pointer (some ⟨w.heap.size, 0, none⟩)], .pointer (some ⟨ra, 0, none⟩), .pointer (some ⟨rb, 0, none⟩)]) (by kernel_rfl) (clo1_ok F (w.heap.size) p (n + 1) (2 * n) a b ra rb cs (MkE (n + 1) (cs ++ gcl 1 a b 0 (2 * n))) _ hB4 ha hb nF_hB4 nF_ha nF_hb hL (by omega) (by omega) (by omega) (by omega)) ?_)
    rintro _ w34 ⟨rfl, F36, hL, hm35⟩
    have ha := ha.tch hm35.1 nF_ha
    have hb := hb.tch hm35.1 nF_hb
    have hMv := hMv.trans hm35
    have hB4 := hB4.tch hm35.1 nF_hB4
    have hB11 := hB11.tch hm35.1 nF_hB11
    replace nF_ha : ¬ F36 (ra) := fun e => (hm35.2 _ e).elim nF_ha (fun q => by omega)
    replace nF_hb : ¬ F36 (rb) := fun e => (hm35.2 _ e).elim nF_hb (fun q => by omega)
    replace nF_hB4 : ¬ F36 (w.heap.size) := fun e => (hm35.2 _ e).elim nF_hB4 (fun q => by omega)
    replace nF_hB11 : ¬ F36 (w1.heap.size) := fun e => (hm35.2 _ e).elim nF_hB11 (fun q => by omega)
    refine op_nil ?_
    refine W_seq ?_
    refine W_region (by kernel_rfl) ?_
    refine sg [(45, .int .i64 ((2 * n : Nat) : Int)), (12, .int .i64 ((2 * n : Nat) : Int))] (by kernel_rfl) ?_
    refine op_nil ?_
    refine W_ret ?_
    exact ⟨_, Res_of (v := .int .i64 ((2 * n : Nat) : Int)) (by kernel_rfl), ⟨_, n + 1, cs ++ gcl 1 a b 0 (2 * n), 2 * n, rfl, ⟨hL, hI.gate (by omega) (by omega) (by omega)⟩, hMv, ⟨by omega, fun c hc => List.mem_append.2 (.inl hc), (MkI.new n cs 1 a b 0).1, (MkI.new n cs 1 a b 0).2⟩, Nat.le_refl _⟩⟩

set_option maxRecDepth 100000 in
theorem gate2_ok (F : Nat → Prop) (p n c a b rc ra rb : Nat) (cs : List (List Nat)) (I : Nat → Prop) (w : World) (hG : GObj F w p n cs I) (hc : Blk w rc 3 [.int .i64 ((c : Nat) : Int)]) (ha : Blk w ra 3 [.int .i64 ((a : Nat) : Int)]) (hb : Blk w rb 3 [.int .i64 ((b : Nat) : Int)]) (nF_hc : ¬ F rc) (nF_ha : ¬ F ra) (nF_hb : ¬ F rb) (hxc : c / 2 < n) (hxa : a / 2 < n) (hxb : b / 2 < n) (hn : n ≤ 68719476736) : Ret Try.prog 54 [.pointer (some ⟨p, 0, none⟩), .int .i64 2, .int .i64 ((c : Nat) : Int), .int .i64 ((a : Nat) : Int), .int .i64 ((b : Nat) : Int), .func (.func 59) #[] #[.pointer (some ⟨rc, 0, none⟩), .pointer (some ⟨ra, 0, none⟩), .pointer (some ⟨rb, 0, none⟩)]] w fun v w' => ∃ F' n' cs' x, v = .int .i64 ((x : Nat) : Int) ∧ GObj F' w' p n' cs' I ∧ Mv F F' w w' ∧ GR n cs n' cs' x (fun be => gv 2 (lt_ be c) (lt_ be a) (lt_ be b)) ∧ n' ≤ n + 1 := by
  obtain ⟨hL, hI⟩ := hG
  have hMv := Mv.refl F w
  have hlen := hI.len
  have hpos := hI.pos
  refine enter Try.func54 rfl rfl ?_
  refine W_seq ?_
  refine W_region (by kernel_rfl) ?_
  have hlt_ := hL.lt
  have hz5 := hMv.1.size
  have lt6 := hc.lt
  have lt7 := ha.lt
  have lt8 := hb.lt
  refine st (by rfl) (S_new (v := .pointer (some ⟨w.heap.size, 0, none⟩)) (ob := .cells #[.pointer (some ⟨p, 0, none⟩)] 25) (by kernel_rfl) fun w1 hT2 hs3 hB4 => ?_)
  replace hB4 : Blk w1 (w.heap.size) 25 [.pointer (some ⟨p, 0, none⟩)] := hB4
  have hc := hc.tch0 hT2
  have ha := ha.tch0 hT2
  have hb := hb.tch0 hT2
  have hL := hL.tch0 hT2
  have hMv := hMv.then0 hT2
  have nF_hB4 : ¬ F (w.heap.size) := fun e => by have := hlt_ _ e; omega
  refine sg [(12, .int .i64 0)] (by kernel_rfl) ?_
  refine op_nil ?_
  refine W_seq ?_
  refine W_region (by kernel_rfl) ?_
  refine sg [(17, .int .i64 2), (18, .int .i64 ((c : Nat) : Int)), (19, .int .i64 ((a : Nat) : Int)), (20, .int .i64 ((b : Nat) : Int)), (21, .agg #[.int .i64 2, .int .i64 ((c : Nat) : Int), .int .i64 ((a : Nat) : Int), .int .i64 ((b : Nat) : Int)])] (by kernel_rfl) ?_
  have hlt_ := hL.lt
  have hz13 := hMv.1.size
  have lt14 := hc.lt
  have lt15 := ha.lt
  have lt16 := hb.lt
  have lt17 := hB4.lt
  refine st (by rfl) (S_new (v := .pointer (some ⟨w1.heap.size, 0, none⟩)) (ob := .cells #[.int .i64 0, .int .i64 0, .int .i64 0, .int .i64 0] 34) (by kernel_rfl) fun w9 hT10 hs11 hB12 => ?_)
  replace hB12 : Blk w9 (w1.heap.size) 34 [.int .i64 0, .int .i64 0, .int .i64 0, .int .i64 0] := hB12
  have hc := hc.tch0 hT10
  have ha := ha.tch0 hT10
  have hb := hb.tch0 hT10
  have hL := hL.tch0 hT10
  have hMv := hMv.then0 hT10
  have hB4 := hB4.tch0 hT10
  have nF_hB12 : ¬ F (w1.heap.size) := fun e => by have := hlt_ _ e; omega
  refine st (by rfl) (S_storeA (b := w1.heap.size) (j := 0) (cs := [.int .i64 2, .int .i64 ((c : Nat) : Int), .int .i64 ((a : Nat) : Int), .int .i64 ((b : Nat) : Int)]) (by kernel_rfl) (by kernel_rfl) (by kernel_rfl) (by simp [oneV]) hB12 (by simp) fun w18 hT19 hs20 hB12' => ?_)
  have hc := hc.tch hT19 (hc.ne hB12 (by decide))
  have ha := ha.tch hT19 (ha.ne hB12 (by decide))
  have hb := hb.tch hT19 (hb.ne hB12 (by decide))
  have hL := hL.tchS hT19 (fun c e q => by cases e; exact nF_hB12 q)
  have hMv := hMv.newst hT19 (by omega)
  have hB4 := hB4.tch hT19 (hB4.ne hB12 (by decide))
  replace hB12 : Blk w18 w1.heap.size 34 [.int .i64 2, .int .i64 ((c : Nat) : Int), .int .i64 ((a : Nat) : Int), .int .i64 ((b : Nat) : Int)] := hB12'
  refine op_nil ?_
  refine W_seq ?_
  refine W_seq ?_
  refine W_fg [(0, .pointer (some ⟨p, 0, none⟩)), (1, .int .i64 2), (2, .int .i64 ((c : Nat) : Int)), (3, .int .i64 ((a : Nat) : Int)), (4, .int .i64 ((b : Nat) : Int)), (5, .func (.func 59) #[] #[.pointer (some ⟨rc, 0, none⟩), .pointer (some ⟨ra, 0, none⟩), .pointer (some ⟨rb, 0, none⟩)]), (6, .pointer (some ⟨w.heap.size, 0, none⟩)), (12, .int .i64 0), (13, .pointer (some ⟨w1.heap.size, 0, none⟩))] (by kernel_rfl) fun ρ => ?_
  obtain ⟨A, cp, mb, Lv, hP, hO, hM, hC, fp, fm, fA, hlt⟩ := id hL
  refine W_draw (fun w' => Blk w' rc 3 [.int .i64 ((c : Nat) : Int)] ∧ Blk w' ra 3 [.int .i64 ((a : Nat) : Int)] ∧ Blk w' rb 3 [.int .i64 ((b : Nat) : Int)] ∧ Blk w' (w.heap.size) 25 [.pointer (some ⟨p, 0, none⟩)] ∧ Blk w' (w1.heap.size) 34 [.int .i64 2, .int .i64 ((c : Nat) : Int), .int .i64 ((a : Nat) : Int), .int .i64 ((b : Nat) : Int)] ∧ Blk w' p 78 [.int .i64 ((n : Nat) : Int), .slice A cs.length cp, .map (some mb)]) (by kernel_rfl) (by kernel_rfl) (by kernel_rfl) fun w21 hT22 hh23 => ?_
  have hc := hc.tch0 hT22
  have ha := ha.tch0 hT22
  have hb := hb.tch0 hT22
  have hL := hL.tch0 hT22
  have hMv := hMv.then0 hT22
  have hB4 := hB4.tch0 hT22
  have hB12 := hB12.tch0 hT22
  have hP := hP.tch0 hT22
  have hO := hO.tch0 hT22
  have hM := hM.tch0 hT22
  have hC := hC.tch0 hT22
  have hlt := (fun b hb => Nat.lt_of_lt_of_le (hlt b hb) (hT22).size)
  refine d_val (v := .pointer (some ⟨p, 0, none⟩)) 0 (by rfl) (by kernel_rfl) (by kernel_rfl) (by kernel_rfl) (fun w' hs => by obtain ⟨hc, ha, hb, hB4, hB12, hP⟩ := hs; exact R_load (v := .pointer (some ⟨p, 0, none⟩)) (by kernel_rfl) (by kernel_rfl) ((hB4.cell 0).trans rfl)) ⟨hc, ha, hb, hB4, hB12, hP⟩ ?_
  refine dtk [1, 2] #[true, true, true, false, false, false, false, false, false, false, false] [(24, .pointer (some ⟨p, 0, none⟩)), (25, .pointer (some ⟨p, 2, none⟩))] ⟨hc, ha, hb, hB4, hB12, hP⟩ (by kernel_rfl) ?_
  refine d_val (v := .map (some mb)) 3 (by rfl) (by kernel_rfl) (by kernel_rfl) (by kernel_rfl) (fun w' hs => by obtain ⟨hc, ha, hb, hB4, hB12, hP⟩ := hs; exact R_load (v := .map (some mb)) (by kernel_rfl) (by kernel_rfl) ((hP.cell 2).trans rfl)) ⟨hc, ha, hb, hB4, hB12, hP⟩ ?_
  refine d_val (v := .agg #[.int .i64 2, .int .i64 ((c : Nat) : Int), .int .i64 ((a : Nat) : Int), .int .i64 ((b : Nat) : Int)]) 4 (by rfl) (by kernel_rfl) (by kernel_rfl) (by kernel_rfl) (fun w' hs => by obtain ⟨hc, ha, hb, hB4, hB12, hP⟩ := hs; exact R_loadA [.int .i64 2, .int .i64 ((c : Nat) : Int), .int .i64 ((a : Nat) : Int), .int .i64 ((b : Nat) : Int)] (by kernel_rfl) (by kernel_rfl) (by kernel_rfl) (fun k u hk => by rw [hB12.cell]; exact get_part _ 0 _ k u rfl hk)) ⟨hc, ha, hb, hB4, hB12, hP⟩ ?_
  refine d_one 5 (by kernel_rfl) (by rfl) (by kernel_rfl) (S_lookupG 2 c a b (by kernel_rfl) (by kernel_rfl) (key_nat 2 c a b (by omega) (by omega) (by omega) (by omega)) hM fun x24 ok25 hx26 => ?_)
  refine ⟨⟨hc, ha, hb, hB4, hB12, hP⟩, ?_⟩
  refine dtk [6, 7, 8, 9, 10] #[true, true, true, true, true, true, true, true, true, true, true] [(22, .tuple #[.int .i64 ((x24 : Nat) : Int), .bool ok25]), (29, .int .i64 ((x24 : Nat) : Int)), (30, .bool ok25), (14, .int .i64 ((x24 : Nat) : Int)), (15, .bool ok25)] ⟨hc, ha, hb, hB4, hB12, hP⟩ (by kernel_rfl) ?_
  refine d_done (by kernel_rfl) ?_
  refine W_seq ?_
  refine W_fg [(0, .pointer (some ⟨p, 0, none⟩)), (1, .int .i64 2), (2, .int .i64 ((c : Nat) : Int)), (3, .int .i64 ((a : Nat) : Int)), (4, .int .i64 ((b : Nat) : Int)), (5, .func (.func 59) #[] #[.pointer (some ⟨rc, 0, none⟩), .pointer (some ⟨ra, 0, none⟩), .pointer (some ⟨rb, 0, none⟩)]), (6, .pointer (some ⟨w.heap.size, 0, none⟩)), (12, .int .i64 0), (13, .pointer (some ⟨w1.heap.size, 0, none⟩)), (14, .int .i64 ((x24 : Nat) : Int)), (15, .bool ok25)] (by kernel_rfl) fun ρ => ?_
  refine W_region (by kernel_rfl) ?_
  refine sg [(31, .bool ok25)] (by kernel_rfl) ?_
  refine op_nil ?_
  refine W_cond (ok25) (by kernel_rfl) (by kernel_rfl) (fun hc27 => ?_) (fun hc27 => ?_)
  · replace hc27 : ok25 = true := (hc27)
    refine W_seq ?_
    refine W_region (by kernel_rfl) ?_
    refine sg [(32, .int .i64 ((x24 : Nat) : Int)), (12, .int .i64 ((x24 : Nat) : Int))] (by kernel_rfl) ?_
    refine op_nil ?_
    refine W_ret ?_
    exact ⟨_, Res_of (v := .int .i64 ((x24 : Nat) : Int)) (by kernel_rfl), ⟨F, n, cs, x24, rfl, ⟨hL, hI⟩, hMv, ⟨Nat.le_refl _, fun c hc => hc, (hx26 (by assumption)).1, (hx26 (by assumption)).2⟩, by omega⟩⟩
  · replace hc27 : ok25 = false := (hc27)
    refine W_skip ?_
    refine W_seq ?_
    refine W_region (by kernel_rfl) ?_
    refine st (by rfl) (S_val (v := .pointer (some ⟨p, 0, none⟩)) (R_load (v := .pointer (some ⟨p, 0, none⟩)) (by kernel_rfl) (by kernel_rfl) ((hB4.cell 0).trans rfl)) ?_)
    refine st (by rfl) (S_call (args := [.pointer (some ⟨p, 0, none⟩)]) (by kernel_rfl) (low_fresh F p n cs (MkE n cs) _ hL (by omega)) ?_)
    rintro _ w28 ⟨rfl, hL, hm29⟩
    have hc := hc.tch hm29.1 nF_hc
    have ha := ha.tch hm29.1 nF_ha
    have hb := hb.tch hm29.1 nF_hb
    have hMv := hMv.trans hm29
    have hB4 := hB4.tch hm29.1 nF_hB4
    have hB12 := hB12.tch hm29.1 nF_hB12
    refine sg [(16, .int .i64 ((2 * n : Nat) : Int))] (by kernel_rfl) ?_
    refine op_nil ?_
    refine W_seq ?_
    obtain ⟨A2, cp2, mb2, Lv2, hP, hO, hM, hC, fp, fm, fA, hlt⟩ := id hL
    refine W_drawT (fun w' => Blk w' rc 3 [.int .i64 ((c : Nat) : Int)] ∧ Blk w' ra 3 [.int .i64 ((a : Nat) : Int)] ∧ Blk w' rb 3 [.int .i64 ((b : Nat) : Int)] ∧ Blk w' (w.heap.size) 25 [.pointer (some ⟨p, 0, none⟩)] ∧ Blk w' (w1.heap.size) 34 [.int .i64 2, .int .i64 ((c : Nat) : Int), .int .i64 ((a : Nat) : Int), .int .i64 ((b : Nat) : Int)] ∧ Blk w' p 78 [.int .i64 (((n + 1) : Nat) : Int), .slice A2 cs.length cp2, .map (some mb2)]) 6 (by kernel_rfl) (by kernel_rfl) (by kernel_rfl) fun w30 hT31 hh32 => ?_
    have hc := hc.tch0 hT31
    have ha := ha.tch0 hT31
    have hb := hb.tch0 hT31
    have hL := hL.tch0 hT31
    have hMv := hMv.then0 hT31
    have hB4 := hB4.tch0 hT31
    have hB12 := hB12.tch0 hT31
    have hP := hP.tch0 hT31
    have hO := hO.tch0 hT31
    have hM := hM.tch0 hT31
    have hC := hC.tch0 hT31
    have hlt := (fun b hb => Nat.lt_of_lt_of_le (hlt b hb) (hT31).size)
    refine ttk [5] #[false, false, false, false, false, true, false] [(40, .int .i64 ((2 * n : Nat) : Int))] ⟨hc, ha, hb, hB4, hB12, hP⟩ (by kernel_rfl) ?_
    refine t_val (v := .pointer (some ⟨p, 0, none⟩)) 0 (by kernel_rfl) (by rfl) (by kernel_rfl) (by kernel_rfl) (by kernel_rfl) (fun w' hs => by obtain ⟨hc, ha, hb, hB4, hB12, hP⟩ := hs; exact R_load (v := .pointer (some ⟨p, 0, none⟩)) (by kernel_rfl) (by kernel_rfl) ((hB4.cell 0).trans rfl)) ⟨hc, ha, hb, hB4, hB12, hP⟩ ?_
    refine ttk [1, 2] #[true, true, true, false, false, true, false] [(36, .pointer (some ⟨p, 0, none⟩)), (37, .pointer (some ⟨p, 2, none⟩))] ⟨hc, ha, hb, hB4, hB12, hP⟩ (by kernel_rfl) ?_
    refine t_val (v := .map (some mb2)) 3 (by kernel_rfl) (by rfl) (by kernel_rfl) (by kernel_rfl) (by kernel_rfl) (fun w' hs => by obtain ⟨hc, ha, hb, hB4, hB12, hP⟩ := hs; exact R_load (v := .map (some mb2)) (by kernel_rfl) (by kernel_rfl) ((hP.cell 2).trans rfl)) ⟨hc, ha, hb, hB4, hB12, hP⟩ ?_
    refine t_val (v := .agg #[.int .i64 2, .int .i64 ((c : Nat) : Int), .int .i64 ((a : Nat) : Int), .int .i64 ((b : Nat) : Int)]) 4 (by kernel_rfl) (by rfl) (by kernel_rfl) (by kernel_rfl) (by kernel_rfl) (fun w' hs => by obtain ⟨hc, ha, hb, hB4, hB12, hP⟩ := hs; exact R_loadA [.int .i64 2, .int .i64 ((c : Nat) : Int), .int .i64 ((a : Nat) : Int), .int .i64 ((b : Nat) : Int)] (by kernel_rfl) (by kernel_rfl) (by kernel_rfl) (fun k u hk => by rw [hB12.cell]; exact get_part _ 0 _ k u rfl hk)) ⟨hc, ha, hb, hB4, hB12, hP⟩ ?_
    refine t_one 6 (by kernel_rfl) (by rfl) (by kernel_rfl) (S_updateG (n := n) 2 c a b (by kernel_rfl) (by kernel_rfl) (by kernel_rfl) (key_nat 2 c a b (by omega) (by omega) (by omega) (by omega)) hP hO hM hC fp fm fA hlt fun w33 hT34 hs35 hL => ?_)
    have hc := hc.tch hT34 nF_hc
    have ha := ha.tch hT34 nF_ha
    have hb := hb.tch hT34 nF_hb
    have hMv := hMv.trans (.same hT34)
    have hB4 := hB4.tch hT34 nF_hB4
    have hB12 := hB12.tch hT34 nF_hB12
    refine ⟨fun h => absurd h (by decide), ?_⟩
    refine t_done (by kernel_rfl) ?_
    refine W_seq ?_
    refine W_fg [(0, .pointer (some ⟨p, 0, none⟩)), (1, .int .i64 2), (2, .int .i64 ((c : Nat) : Int)), (3, .int .i64 ((a : Nat) : Int)), (4, .int .i64 ((b : Nat) : Int)), (5, .func (.func 59) #[] #[.pointer (some ⟨rc, 0, none⟩), .pointer (some ⟨ra, 0, none⟩), .pointer (some ⟨rb, 0, none⟩)]), (6, .pointer (some ⟨w.heap.size, 0, none⟩)), (12, .int .i64 0), (13, .pointer (some ⟨w1.heap.size, 0, none⟩)), (14, .int .i64 ((x24 : Nat) : Int)), (15, .bool ok25), (16, .int .i64 ((2 * n : Nat) : Int)), (31, .bool ok25)] (by kernel_rfl) fun ρ => ?_
    refine W_region (by kernel_rfl) ?_
    refine sg [(41, .func (.func 59) #[] #[.pointer (some ⟨rc, 0, none⟩), .pointer (some ⟨ra, 0, none⟩), .pointer (some ⟨rb, 0, none⟩)]), (42, .int .i64 ((2 * n : Nat) : Int)), (43, .func (.func 78) #[] #[.pointer (some ⟨w.heap.size, 0, none⟩)])] (by kernel_rfl) ?_
    have lt39 := hc.lt
    have lt40 := ha.lt
    have lt41 := hb.lt
    have lt42 := hB4.lt
    have lt43 := hB12.lt
    refine st (by rfl) (S_call (args := [.int .i64 ((2 * n : Nat) : Int), .func (.func 78) #[] #[.pointer (some ⟨w.heap.size, 0, none⟩)], .pointer (some ⟨rc, 0, none⟩), .pointer (some ⟨ra, 0, none⟩), .pointer (some ⟨rb, 0, none⟩)]) (by kernel_rfl) (clo2_ok F (w.heap.size) p (n + 1) (2 * n) c a b rc ra rb cs (MkE (n + 1) (cs ++ gcl 2 c a b (2 * n))) _ hB4 hc ha hb nF_hB4 nF_hc nF_ha nF_hb hL (by omega) (by omega) (by omega) (by omega) (by omega)) ?_)
    rintro _ w36 ⟨rfl, F38, hL, hm37⟩
    have hc := hc.tch hm37.1 nF_hc
    have ha := ha.tch hm37.1 nF_ha
    have hb := hb.tch hm37.1 nF_hb
    have hMv := hMv.trans hm37
    have hB4 := hB4.tch hm37.1 nF_hB4
    have hB12 := hB12.tch hm37.1 nF_hB12
    replace nF_hc : ¬ F38 (rc) := fun e => (hm37.2 _ e).elim nF_hc (fun q => by omega)
    replace nF_ha : ¬ F38 (ra) := fun e => (hm37.2 _ e).elim nF_ha (fun q => by omega)
    replace nF_hb : ¬ F38 (rb) := fun e => (hm37.2 _ e).elim nF_hb (fun q => by omega)
    replace nF_hB4 : ¬ F38 (w.heap.size) := fun e => (hm37.2 _ e).elim nF_hB4 (fun q => by omega)
    replace nF_hB12 : ¬ F38 (w1.heap.size) := fun e => (hm37.2 _ e).elim nF_hB12 (fun q => by omega)
    refine op_nil ?_
    refine W_seq ?_
    refine W_region (by kernel_rfl) ?_
    refine sg [(45, .int .i64 ((2 * n : Nat) : Int)), (12, .int .i64 ((2 * n : Nat) : Int))] (by kernel_rfl) ?_
    refine op_nil ?_
    refine W_ret ?_
    exact ⟨_, Res_of (v := .int .i64 ((2 * n : Nat) : Int)) (by kernel_rfl), ⟨_, n + 1, cs ++ gcl 2 c a b (2 * n), 2 * n, rfl, ⟨hL, hI.gate (by omega) (by omega) (by omega)⟩, hMv, ⟨by omega, fun c hc => List.mem_append.2 (.inl hc), (MkI.new n cs 2 c a b).1, (MkI.new n cs 2 c a b).2⟩, Nat.le_refl _⟩⟩

end Go.Proofs.YtnlecdpiccgdpaaV

set_option linter.unusedVariables false
set_option linter.unusedSimpArgs false
namespace GateP
theorem xor_mod (a b : Nat) : (a ^^^ b) % 2 = (a + b) % 2 := by
  rw [← Nat.and_one_is_mod, Nat.and_xor_distrib_right, Nat.and_one_is_mod, Nat.and_one_is_mod]
  rcases (show a % 2 = 0 ∨ a % 2 = 1 by omega) with h | h <;> rcases (show b % 2 = 0 ∨ b % 2 = 1 by omega) with h' | h' <;> simp [h, h'] <;> omega
/-- A literal whose sign is turned, or not. -/
def xr (x t : Nat) : Nat := if t = 1 then nt x else x
theorem xor_bit (x t : Nat) (h : t < 2) : x ^^^ t = xr x t := by
  unfold xr
  rcases (show t = 0 ∨ t = 1 by omega) with h | h
  · subst h; simp
  · subst h; rw [xor_one]; simp
theorem xr_lt (x t : Nat) (h : x < 9223372036854775808) : xr x t < 9223372036854775808 := by unfold xr nt; split <;> (try split) <;> omega
theorem xr_div (x t : Nat) : xr x t / 2 = x / 2 := by unfold xr; split <;> simp [nt_div]
open Go in
theorem xor_i64 (a b : Nat) (ha : a < 9223372036854775808) (hb : b < 9223372036854775808) (hc : a ^^^ b < 9223372036854775808) : IntKind.i64.wrap ((BitVec.ofInt 64 (a : Int) ^^^ BitVec.ofInt 64 (b : Int)).toNat : Int) = ((a ^^^ b : Nat) : Int) := by
  have e : (BitVec.ofInt 64 (a : Int) ^^^ BitVec.ofInt 64 (b : Int)).toNat = a ^^^ b := by rw [BitVec.toNat_xor, bv_nat a ha, bv_nat b hb]
  rw [e, IntKind.wrap_i64]; omega
theorem xor_lt (a b : Nat) (ha : a < 9223372036854775808) (hb : b < 9223372036854775808) : a ^^^ b < 9223372036854775808 := Nat.xor_lt_two_pow (n := 63) ha hb
open Go in
theorem turn_i64 (a b : Nat) (ha : a < 9223372036854775808) (hb : b < 9223372036854775808) : IntKind.i64.wrap ((BitVec.ofInt 64 (IntKind.i64.wrap ((BitVec.ofInt 64 (a : Int) ^^^ BitVec.ofInt 64 (b : Int)).toNat : Int)) &&& BitVec.ofInt 64 1).toNat : Int) = (((a + b) % 2 : Nat) : Int) := by
  rw [xor_i64 a b ha hb (xor_lt a b ha hb), and_i64 _ (xor_lt a b ha hb), xor_mod]
open Go in
theorem xr_i64 (x t : Nat) (hx : x < 9223372036854775808) (ht : t < 2) : IntKind.i64.wrap ((BitVec.ofInt 64 (x : Int) ^^^ BitVec.ofInt 64 (t : Int)).toNat : Int) = ((xr x t : Nat) : Int) := by
  rw [xor_i64 x t hx (by omega) (xor_lt x t hx (by omega)), xor_bit x t ht]
open Go in
theorem andNot_i64 (x : Nat) (h : x < 9223372036854775808) : IntKind.i64.wrap ((BitVec.ofInt 64 (x : Int) &&& ~~~BitVec.ofInt 64 1).toNat : Int) = ((2 * (x / 2) : Nat) : Int) := by
  have e : (BitVec.ofInt 64 (x : Int) &&& ~~~BitVec.ofInt 64 1).toNat = 2 * (x / 2) := by
    have h1 : (BitVec.ofInt 64 (x : Int) &&& ~~~BitVec.ofInt 64 1) = (BitVec.ofInt 64 (x : Int) >>> 1) <<< 1 := by
      apply BitVec.eq_of_getLsbD_eq
      intro i hi
      simp only [BitVec.getLsbD_and, BitVec.getLsbD_not, BitVec.getLsbD_shiftLeft, BitVec.getLsbD_ushiftRight]
      rcases (show i = 0 ∨ 0 < i by omega) with q | q
      · subst q; simp
      · have e3 : (BitVec.ofInt 64 1).getLsbD i = false := by
          rw [show BitVec.ofInt 64 1 = 1#64 from rfl, BitVec.getLsbD_one]
          simp; omega
        rw [e3, show 1 + (i - 1) = i by omega]
        simp [hi]
        omega
    rw [h1, BitVec.toNat_shiftLeft, BitVec.toNat_ushiftRight, bv_nat x h]
    rw [Nat.shiftRight_eq_div_pow, Nat.shiftLeft_eq]
    omega
  rw [e, IntKind.wrap_i64]; omega
end GateP
namespace Go.Proofs.YtnlecdpiccgdpaaV
open Go Go.RowKit Go.Proofs
section
variable {n n1 n2 : Nat} {cs cs1 cs2 : List (List Nat)} {I : Nat → Prop} {x y a b c : Nat} {f g : (Nat → Bool) → Bool}
theorem GR.nt (h : GR n cs n1 cs1 x f) : GR n cs n1 cs1 (GateP.nt x) (fun be => !f be) := ⟨h.1, h.2.1, by rw [nt_div]; exact h.2.2.1, fun be hm => by rw [lt_nt, h.2.2.2 be hm]⟩
theorem GR.eq (h : GR n cs n1 cs1 x f) (e : ∀ be, Mod cs1 be → f be = g be) : GR n cs n1 cs1 x g := ⟨h.1, h.2.1, h.2.2.1, fun be hm => by rw [h.2.2.2 be hm, e be hm]⟩
theorem GR.trans (h : GR n cs n1 cs1 x f) (k : GR n1 cs1 n2 cs2 y g) : GR n cs n2 cs2 y g := ⟨Nat.le_trans h.1 k.1, fun c hc => k.2.1 c (h.2.1 c hc), k.2.2.1, k.2.2.2⟩
theorem GR.lit (hx : x / 2 < n) : GR n cs n cs x (fun be => lt_ be x) := ⟨Nat.le_refl _, fun _ h => h, hx, fun _ _ => rfl⟩
theorem lt_xr (be : Nat → Bool) (x t : Nat) : lt_ be (GateP.xr x t) = (lt_ be x != decide (t = 1)) := by
  unfold GateP.xr
  split
  · rename_i h; rw [lt_nt]; simp [h]
  · rename_i h; simp [h]
theorem GR.xr (h : GR n cs n1 cs1 x f) (t : Nat) : GR n cs n1 cs1 (GateP.xr x t) (fun be => f be != decide (t = 1)) := ⟨h.1, h.2.1, by rw [GateP.xr_div]; exact h.2.2.1, fun be hm => by rw [lt_xr, h.2.2.2 be hm]⟩
theorem GI.t1 (h : GI n cs I) {be : Nat → Bool} (hm : Mod cs be) : lt_ be 1 = false := by
  have := h.t0 hm
  have e : (1 : Nat) = GateP.nt 0 := rfl
  rw [e, lt_nt, this]; rfl
theorem lt_min (be : Nat → Bool) (a b : Nat) : (lt_ be (min a b) && lt_ be (max a b)) = (lt_ be a && lt_ be b) := by
  rcases Nat.le_total a b with h | h
  · rw [Nat.min_eq_left h, Nat.max_eq_right h]
  · rw [Nat.min_eq_right h, Nat.max_eq_left h, Bool.and_comm]
theorem lt_minx (be : Nat → Bool) (a b : Nat) : (lt_ be (min a b) != lt_ be (max a b)) = (lt_ be a != lt_ be b) := by
  rcases Nat.le_total a b with h | h
  · rw [Nat.min_eq_left h, Nat.max_eq_right h]
  · rw [Nat.min_eq_right h, Nat.max_eq_left h]
    cases lt_ be a <;> cases lt_ be b <;> rfl
theorem and_b (h : GI n cs I) (ha : a / 2 < n) (hb : b / 2 < n) (e : min a b = 0 ∨ min a b = max a b) : GR n cs n cs (max a b) (fun be => lt_ be a && lt_ be b) := ⟨Nat.le_refl _, fun _ h => h, by omega, fun be hm => by
  show _ = (_ && _)
  rw [← lt_min]
  rcases e with e | e
  · rw [e, h.t0 hm]; rfl
  · rw [e, Bool.and_self]⟩
theorem and_1 (h : GI n cs I) (e : min a b = 1 ∨ max a b = GateP.nt (min a b)) : GR n cs n cs 1 (fun be => lt_ be a && lt_ be b) := ⟨Nat.le_refl _, fun _ h => h, by have := h.pos; omega, fun be hm => by
  show _ = (_ && _)
  rw [← lt_min, h.t1 hm]
  rcases e with e | e
  · rw [e, h.t1 hm]; rfl
  · rw [e, lt_nt]; cases lt_ be (min a b) <;> rfl⟩
theorem and_g (h : GR n cs n1 cs1 x (fun be => gv 0 (lt_ be (min a b)) (lt_ be (max a b)) (lt_ be 0))) : GR n cs n1 cs1 x (fun be => lt_ be a && lt_ be b) := h.eq fun be hm => by
  show gv 0 _ _ _ = _
  unfold gv
  rw [if_pos rfl]; exact lt_min be a b
theorem lt_half (be : Nat → Bool) (a : Nat) : lt_ be (2 * (a / 2)) = (lt_ be a != decide (a % 2 = 1)) := by
  unfold lt_
  rw [show 2 * (a / 2) / 2 = a / 2 by omega, show 2 * (a / 2) % 2 = 0 by omega]
  cases be (a / 2) <;> cases decide (a % 2 = 1) <;> rfl
theorem dec_par (a b : Nat) : decide ((a + b) % 2 = 1) = (decide (a % 2 = 1) != decide (b % 2 = 1)) := by
  rcases (show a % 2 = 0 ∨ a % 2 = 1 by omega) with h | h <;> rcases (show b % 2 = 0 ∨ b % 2 = 1 by omega) with h' | h' <;> simp [h, h', Nat.add_mod]
theorem xor_sem (be : Nat → Bool) (a b : Nat) : ((lt_ be (min (2 * (a / 2)) (2 * (b / 2))) != lt_ be (max (2 * (a / 2)) (2 * (b / 2)))) != decide ((a + b) % 2 = 1)) = (lt_ be a != lt_ be b) := by
  rw [lt_minx, lt_half, lt_half, dec_par]
  cases lt_ be a <;> cases lt_ be b <;> cases decide (a % 2 = 1) <;> cases decide (b % 2 = 1) <;> rfl
theorem xor_same (h : GI n cs I) (e : min (2 * (a / 2)) (2 * (b / 2)) = max (2 * (a / 2)) (2 * (b / 2))) : GR n cs n cs (GateP.xr 1 ((a + b) % 2)) (fun be => lt_ be a != lt_ be b) := ⟨Nat.le_refl _, fun _ h => h, by rw [GateP.xr_div]; exact h.pos, fun be hm => by
  show _ = (_ != _)
  rw [lt_xr, ← xor_sem, e, h.t1 hm]; simp⟩
theorem xor_0 (h : GI n cs I) (ha : a / 2 < n) (hb : b / 2 < n) (e : min (2 * (a / 2)) (2 * (b / 2)) = 0) : GR n cs n cs (GateP.xr (GateP.nt (max (2 * (a / 2)) (2 * (b / 2)))) ((a + b) % 2)) (fun be => lt_ be a != lt_ be b) := ⟨Nat.le_refl _, fun _ h => h, by rw [GateP.xr_div, nt_div]; omega, fun be hm => by
  show _ = (_ != _)
  rw [lt_xr, lt_nt, ← xor_sem, e, h.t0 hm]; simp⟩
theorem xor_g (h : GR n cs n1 cs1 x (fun be => gv 1 (lt_ be (min (2 * (a / 2)) (2 * (b / 2)))) (lt_ be (max (2 * (a / 2)) (2 * (b / 2)))) (lt_ be 0))) : GR n cs n1 cs1 (GateP.xr x ((a + b) % 2)) (fun be => lt_ be a != lt_ be b) := (h.xr _).eq fun be hm => by
  show (gv 1 _ _ _ != _) = _
  unfold gv
  rw [if_neg (by omega), if_pos rfl]; exact xor_sem be a b
def ite_ (c a b : Bool) : Bool := (c && a) || (!c && b)
theorem ite_a (h : GI n cs I) (ha : a / 2 < n) (e : c = 0 ∨ a = b) : GR n cs n cs a (fun be => ite_ (lt_ be c) (lt_ be a) (lt_ be b)) := ⟨Nat.le_refl _, fun _ h => h, ha, fun be hm => by
  show _ = ite_ _ _ _
  unfold ite_
  rcases e with e | e
  · rw [e, h.t0 hm]; simp
  · rw [e]; cases lt_ be c <;> cases lt_ be b <;> rfl⟩
theorem ite_1 (h0 : GI n cs I) (h : GR n cs n1 cs1 x (fun be => lt_ be c || lt_ be b)) (e : a = 0 ∨ a = c) : GR n cs n1 cs1 x (fun be => ite_ (lt_ be c) (lt_ be a) (lt_ be b)) := h.eq fun be hm => by
  show (_ || _) = ite_ _ _ _
  unfold ite_
  rcases e with e | e
  · rw [e, h0.t0 (hm.sub h.2.1)]; cases lt_ be c <;> rfl
  · rw [e]; cases lt_ be c <;> rfl
theorem ite_2 (h0 : GI n cs I) (h : GR n cs n1 cs1 x (fun be => lt_ be (GateP.nt c) && lt_ be b)) (e : a = 1 ∨ a = GateP.nt c) : GR n cs n1 cs1 x (fun be => ite_ (lt_ be c) (lt_ be a) (lt_ be b)) := h.eq fun be hm => by
  show (_ && _) = ite_ _ _ _
  unfold ite_
  rw [lt_nt]
  rcases e with e | e
  · rw [e, h0.t1 (hm.sub h.2.1)]; cases lt_ be c <;> rfl
  · rw [e, lt_nt]; cases lt_ be c <;> rfl
theorem ite_3 (h0 : GI n cs I) (h : GR n cs n1 cs1 x (fun be => lt_ be (GateP.nt c) || lt_ be a)) (e : b = 0 ∨ b = GateP.nt c) : GR n cs n1 cs1 x (fun be => ite_ (lt_ be c) (lt_ be a) (lt_ be b)) := h.eq fun be hm => by
  show (_ || _) = ite_ _ _ _
  unfold ite_
  rw [lt_nt]
  rcases e with e | e
  · rw [e, h0.t0 (hm.sub h.2.1)]; cases lt_ be c <;> simp
  · rw [e, lt_nt]; cases lt_ be c <;> simp
theorem ite_4 (h0 : GI n cs I) (h : GR n cs n1 cs1 x (fun be => lt_ be c && lt_ be a)) (e : b = 1 ∨ b = c) : GR n cs n1 cs1 x (fun be => ite_ (lt_ be c) (lt_ be a) (lt_ be b)) := h.eq fun be hm => by
  show (_ && _) = ite_ _ _ _
  unfold ite_
  rcases e with e | e
  · rw [e, h0.t1 (hm.sub h.2.1)]; cases lt_ be c <;> simp
  · rw [e]; cases lt_ be c <;> simp
theorem ite_5 (h : GR n cs n1 cs1 x (fun be => lt_ be c != lt_ be a)) (e : b = GateP.nt a) : GR n cs n1 cs1 (GateP.nt x) (fun be => ite_ (lt_ be c) (lt_ be a) (lt_ be b)) := h.nt.eq fun be hm => by
  show (!(_ != _)) = ite_ _ _ _
  unfold ite_
  rw [e, lt_nt]; cases lt_ be c <;> cases lt_ be a <;> rfl
theorem ite_g (h : GR n cs n1 cs1 x (fun be => gv 2 (lt_ be c) (lt_ be a) (lt_ be b))) : GR n cs n1 cs1 x (fun be => ite_ (lt_ be c) (lt_ be a) (lt_ be b)) := h.eq fun be hm => by
  show gv 2 _ _ _ = ite_ _ _ _
  unfold gv ite_
  rw [if_neg (by omega), if_neg (by omega)]
theorem ite_sw (h : GR n cs n1 cs1 x (fun be => ite_ (lt_ be (GateP.nt c)) (lt_ be b) (lt_ be a))) : GR n cs n1 cs1 x (fun be => ite_ (lt_ be c) (lt_ be a) (lt_ be b)) := h.eq fun be hm => by
  show ite_ _ _ _ = ite_ _ _ _
  unfold ite_
  rw [lt_nt]; cases lt_ be c <;> cases lt_ be a <;> cases lt_ be b <;> rfl
theorem or_g (h : GR n cs n1 cs1 x (fun be => lt_ be (GateP.nt a) && lt_ be (GateP.nt b))) : GR n cs n1 cs1 (GateP.nt x) (fun be => lt_ be a || lt_ be b) := h.nt.eq fun be hm => by
  show (!(_ && _)) = (_ || _)
  rw [lt_nt, lt_nt]; cases lt_ be a <;> cases lt_ be b <;> rfl
end
/-- What comes of a call that makes a gate. -/
def GRet (F : Nat → Prop) (p n : Nat) (cs : List (List Nat)) (I : Nat → Prop) (w : World) (d : Nat) (f : (Nat → Bool) → Bool) (v : Value) (w' : World) : Prop :=
  ∃ F' n' cs' x, v = .int .i64 ((x : Nat) : Int) ∧ GObj F' w' p n' cs' I ∧ Mv F F' w w' ∧ GR n cs n' cs' x f ∧ n' ≤ n + d
theorem obad_ok (F : Nat → Prop) (p n g mm : Nat) (cs : List (List Nat)) (I : Nat → Prop) (l : List Int) (r : Bool) (w : World) (h : GObj F w p n cs I) (hG : Blk w g 3 (ints .i64 l)) (hm : l.length = mm) (hm2 : mm ≤ 1099511627776) (hl : ∀ x, x ∈ l → x ≤ 9223372036854775807) (hr : badB n l = r) : Ret Try.prog 53 [.pointer (some ⟨p, 0, none⟩), .slice (some ⟨g, 0, none⟩) mm mm] w fun v w' => v = .bool r ∧ Tch N0 w w' := by
  obtain ⟨⟨A, cp, mb, Lv, hP, _⟩, _⟩ := h
  subst hr
  exact bad_ok p n g mm _ _ l w hP hG hm hm2 hl
end Go.Proofs.YtnlecdpiccgdpaaV
