/- Walks of functions of the program and of the document's texts. The conditions stand with each theorem. -/
import Derived.Test.YtnlecdpiccgdpaaVx13
import Derived.Test.YtnlecdpiccgdpaaProg
import Derived.Test.YtnlecdpiccgdpaaVx4
import Derived.Test.YtnlecdpiccgdpaaArithP
set_option linter.unusedVariables false
set_option linter.unusedSimpArgs false
namespace Go.Proofs.YtnlecdpiccgdpaaV
open Go Go.RowKit Go.Proofs

/-- What comes of sum. -/
def SumR (F : Nat → Prop) (p n : Nat) (cs : List (List Nat)) (I : Nat → Prop) (w : World) (m : Nat) (f : (Nat → Bool) → Nat → Bool) (v : Value) (w' : World) : Prop :=
  ∃ F' n' cs' g r y, v = .tuple #[.slice (some ⟨g, 0, none⟩) m m, .int .i64 ((y : Nat) : Int)] ∧ r.length = m ∧ RdX F' w' m (some ⟨g, 0, none⟩) (nats r) ∧ w.heap.size ≤ g ∧ GObj F' w' p n' cs' I ∧ Mv F F' w w' ∧ Rw n cs n' cs' m r f ∧ n' ≤ n + 5 * m

set_option maxRecDepth 100000 in
theorem sum_ok (F : Nat → Prop) (p n mm ca cb : Nat) (A B : Option Addr) (a b : List Nat) (c : Nat) (cs : List (List Nat)) (I : Nat → Prop) (w : World) (hG : GObj F w p n cs I) (hA : RdX F w mm A (nats a)) (hB : RdX F w mm B (nats b)) (hfa : ∀ j, j < mm → a.getD j 0 / 2 < n) (hfb : ∀ j, j < mm → b.getD j 0 / 2 < n) (hm : 0 < mm) (hm2 : mm ≤ 1000) (hn : n ≤ 60000000000) (hc : c / 2 < n) : Ret Try.prog 71 [.pointer (some ⟨p, 0, none⟩), .slice A mm ca, .slice B mm cb, .int .i64 ((c : Nat) : Int)] w fun v w' => SumR F p n cs I w mm (fun be j => sumB (fun j => lt_ be (a.getD j 0)) (fun j => lt_ be (b.getD j 0)) (lt_ be c) j) v w' := by
  have hMv := Mv.refl F w
  have hla : a.length = mm := by have := hA.1.1; rw [nats_length] at this; omega
  have hlb : b.length = mm := by have := hB.1.1; rw [nats_length] at this; omega
  have hAr := hA.1
  have hBr := hB.1
  have lt_hA := hA.lt
  have lt_hB := hB.lt
  have ge_hA : ∀ c, blkOf A = some c → 0 ≤ c := fun c _ => Nat.zero_le c
  have ge_hB : ∀ c, blkOf B = some c → 0 ≤ c := fun c _ => Nat.zero_le c
  refine enter Try.func71 rfl rfl ?_
  refine W_seq ?_
  refine W_region (by kernel_rfl) ?_
  refine sg [(8, .slice none 0 0), (9, .int .i64 0)] (by kernel_rfl) ?_
  refine op_nil ?_
  refine W_seq ?_
  refine W_region (by kernel_rfl) ?_
  refine sg [(13, .slice A mm ca), (14, .int .i64 (mm : Int))] (by kernel_rfl) ?_
  have hlt_ := hG.1.lt
  have hz5 := hMv.1.size
  refine st (by rfl) (S_make 27 3 (.int .i64 0) 1 8 (k1 := .i64) (k2 := .i64) (l := (mm : Int)) (c := (mm : Int)) (by kernel_rfl) (by kernel_rfl) (by kernel_rfl) (by kernel_rfl) (by omega) (by omega) (by omega) (by omega) fun w1 hT2 hs3 hB4 => ?_)
  replace hB4 : Blk w1 (w.heap.size) 3 (nats (List.replicate ((mm : Int).toNat) 0) ++ []) := by rw [← mz_nats]; exact hB4
  have hG := hG.tch0 hT2
  have hMv := hMv.then0 hT2
  have hA := hA.tch0 hT2
  have hAr := hA.1
  have hB := hB.tch0 hT2
  have hBr := hB.1
  have nF_hB4 : ¬ F (w.heap.size) := fun e => by have := hlt_ _ e; omega
  refine sg [(10, .slice (some ⟨w.heap.size, 0, none⟩) ((mm : Int).toNat) ((mm : Int).toNat))] (by kernel_rfl) ?_
  refine op_nil ?_
  refine W_seq ?_
  refine W_seq ?_
  refine W_region (by kernel_rfl) ?_
  refine sg [(16, .slice A mm ca), (17, .int .i64 (mm : Int)), (18, .int .i64 0)] (by kernel_rfl) ?_
  refine op_nil ?_
  refine W_block ?_
  refine W_loop (fun m ρ w' => ∃ (F1 : Nat → Prop) (n1 : Nat) (cs1 : List (List Nat)) (o : List Nat) (cr i : Nat) (ρ0 : Env), ρ = updL ρ0 [(0, .pointer (some ⟨p, 0, none⟩)), (1, .slice A mm ca), (2, .slice B mm cb), (3, .int .i64 ((cr : Nat) : Int)), (8, .slice none 0 0), (9, .int .i64 0), (10, .slice (some ⟨w.heap.size, 0, none⟩) ((mm : Int).toNat) ((mm : Int).toNat)), (17, .int .i64 (mm : Int)), (18, .int .i64 ((i : Nat) : Int))] ∧ (i ≤ mm) ∧ (o.length = mm) ∧ (Rw n cs n1 cs1 i o (fun be j => sumB (fun j => lt_ be (a.getD j 0)) (fun j => lt_ be (b.getD j 0)) (lt_ be c) j)) ∧ (n1 ≤ n + 5 * i) ∧ (¬ F1 (w.heap.size)) ∧ (Lw n1 cs1 cr (fun be => cryB (fun j => lt_ be (a.getD j 0)) (fun j => lt_ be (b.getD j 0)) (lt_ be c) i)) ∧ GObj F1 w' p n1 cs1 I ∧ Mv F F1 w w' ∧ RdX F1 w' mm A (nats a) ∧ RdW w' 1 mm A (nats a) ∧ RdX F1 w' mm B (nats b) ∧ RdW w' 1 mm B (nats b) ∧ Blk w' (w.heap.size) 3 (nats o ++ []) ∧ m = mm - i) (m := mm - 0) ?_ ?_
  · refine ⟨F, n, cs, List.replicate mm 0, c, 0, _, updL_self (by kernel_rfl), by omega, by simp, Rw.zero _ _ _ _, by omega, nF_hB4, ⟨hc, fun be hm => rfl⟩, hG, hMv, hA, hAr, hB, hBr, hB4, rfl⟩
  · rintro m ρ w6 ⟨F1, n1, cs1, o, cr, i, ρ, rfl, hi, hol, hrw, hd, nF_hOut, hcr, hG, hMv, hA, hAr, hB, hBr, hOut, rfl⟩
    have hle_ := hrw.le
    have fa := fun q : i < mm => hfa i q
    have fb := fun q : i < mm => hfb i q
    have hpos := hG.2.pos
    have hcf := hcr.1
    refine W_seq ?_
    refine W_region (by kernel_rfl) ?_
    refine sg [(19, .bool (decide (((i : Nat) : Int) < (mm : Int))))] (by kernel_rfl) ?_
    refine op_nil ?_
    refine W_seq ?_
    refine W_cond (decide (((i : Nat) : Int) < (mm : Int))) (by kernel_rfl) (by kernel_rfl) (fun hc7 => ?_) (fun hc7 => ?_)
    · replace hc7 : ((i : Nat) : Int) < (mm : Int) := (of_decide_eq_true hc7)
      refine W_skip ?_
      refine W_seq ?_
      refine W_block ?_
      refine W_seq ?_
      refine W_region (by kernel_rfl) ?_
      refine sg [(20, .int .i64 ((i : Nat) : Int)), (11, .int .i64 ((i : Nat) : Int))] (by kernel_rfl) ?_
      refine op_nil ?_
      refine W_seq ?_
      refine W_draw (fun w' => RdW w' 1 mm A (nats a) ∧ RdW w' 1 mm B (nats b)) (by kernel_rfl) (by kernel_rfl) (by kernel_rfl) fun w8 hT9 hh10 => ?_
      have hG := hG.tch0 hT9
      have hMv := hMv.then0 hT9
      have hA := hA.tch0 hT9
      have hAr := hA.1
      have hB := hB.tch0 hT9
      have hBr := hB.1
      have hOut := hOut.tch0 hT9
      refine dtk [0, 1, 2, 5, 6] #[true, true, true, false, false, true, true, false, false, false, false] [(21, .pointer (some ⟨p, 0, none⟩)), (22, .slice A mm ca), (23, .int .i64 ((i : Nat) : Int)), (26, .slice B mm cb), (27, .int .i64 ((i : Nat) : Int))] ⟨hAr, hBr⟩ (by kernel_rfl) ?_
      refine d_val (v := ptrAt A i) 3 (by rfl) (by kernel_rfl) (by kernel_rfl) (by kernel_rfl) (fun w' hs => by obtain ⟨hAr, hBr⟩ := hs; exact R_indexRd1 (len := mm) (cap := ca) (k := .i64) (i := ((i : Nat) : Int)) (e := 3) i hAr (by kernel_rfl) (by kernel_rfl) (by kernel_rfl) (by kernel_rfl) rfl (by omega)) ⟨hAr, hBr⟩ ?_
      refine d_val (v := .int .i64 ((a.getD i 0 : Nat) : Int)) 4 (by rfl) (by kernel_rfl) (by kernel_rfl) (by kernel_rfl) (fun w' hs => by obtain ⟨hAr, hBr⟩ := hs; exact R_loadRd (v := .int .i64 ((a.getD i 0 : Nat) : Int)) hAr (by omega) (by kernel_rfl) (by kernel_rfl) (nats_at (l := a) (by omega))) ⟨hAr, hBr⟩ ?_
      refine d_val (v := ptrAt B i) 7 (by rfl) (by kernel_rfl) (by kernel_rfl) (by kernel_rfl) (fun w' hs => by obtain ⟨hAr, hBr⟩ := hs; exact R_indexRd1 (len := mm) (cap := cb) (k := .i64) (i := ((i : Nat) : Int)) (e := 3) i hBr (by kernel_rfl) (by kernel_rfl) (by kernel_rfl) (by kernel_rfl) rfl (by omega)) ⟨hAr, hBr⟩ ?_
      refine d_val (v := .int .i64 ((b.getD i 0 : Nat) : Int)) 8 (by rfl) (by kernel_rfl) (by kernel_rfl) (by kernel_rfl) (fun w' hs => by obtain ⟨hAr, hBr⟩ := hs; exact R_loadRd (v := .int .i64 ((b.getD i 0 : Nat) : Int)) hBr (by omega) (by kernel_rfl) (by kernel_rfl) (nats_at (l := b) (by omega))) ⟨hAr, hBr⟩ ?_
      have lt19 := hOut.lt
      refine d_one 9 (by kernel_rfl) (by rfl) (by kernel_rfl) (S_call (args := [.pointer (some ⟨p, 0, none⟩), .int .i64 ((a.getD i 0 : Nat) : Int), .int .i64 ((b.getD i 0 : Nat) : Int)]) (by kernel_rfl) (xor_ok F1 p n1 (a.getD i 0) (b.getD i 0) cs1 I _ hG (by omega) (by omega) (by omega)) ?_)
      rintro _ w11 ⟨F12, n13, cs14, x15, rfl, hG, hm16, hr17, hd18⟩
      have hMv := hMv.trans hm16
      have hA := hA.mv hm16
      have hAr := hA.1
      have hB := hB.mv hm16
      have hBr := hB.1
      have hOut := hOut.tch hm16.1 nF_hOut
      have hxb20 := hr17.2.2.1
      have hle21 := hr17.1
      replace nF_hOut : ¬ F12 (w.heap.size) := fun e => (hm16.2 _ e).elim nF_hOut (fun q => by omega)
      refine ⟨⟨hAr, hBr⟩, ?_⟩
      refine dtk [10] #[true, true, true, true, true, true, true, true, true, true, true] [(12, .int .i64 ((x15 : Nat) : Int))] ⟨hAr, hBr⟩ (by kernel_rfl) ?_
      refine d_done (by kernel_rfl) ?_
      refine W_seq ?_
      refine W_fg [(0, .pointer (some ⟨p, 0, none⟩)), (1, .slice A mm ca), (2, .slice B mm cb), (3, .int .i64 ((cr : Nat) : Int)), (8, .slice none 0 0), (9, .int .i64 0), (10, .slice (some ⟨w.heap.size, 0, none⟩) ((mm : Int).toNat) ((mm : Int).toNat)), (11, .int .i64 ((i : Nat) : Int)), (12, .int .i64 ((x15 : Nat) : Int)), (17, .int .i64 (mm : Int)), (18, .int .i64 ((i : Nat) : Int)), (19, .bool (decide (((i : Nat) : Int) < (mm : Int))))] (by kernel_rfl) fun ρ => ?_
      refine W_region (by kernel_rfl) ?_
      refine sg [(31, .slice (some ⟨w.heap.size, 0, none⟩) ((mm : Int).toNat) ((mm : Int).toNat)), (32, .int .i64 ((i : Nat) : Int)), (33, .pointer (some ⟨p, 0, none⟩)), (34, .int .i64 ((x15 : Nat) : Int)), (35, .int .i64 ((cr : Nat) : Int))] (by kernel_rfl) ?_
      have lt30 := hOut.lt
      refine st (by rfl) (S_call (args := [.pointer (some ⟨p, 0, none⟩), .int .i64 ((x15 : Nat) : Int), .int .i64 ((cr : Nat) : Int)]) (by kernel_rfl) (xor_ok F12 p n13 x15 cr cs14 I _ hG (by omega) (by omega) (by omega)) ?_)
      rintro _ w22 ⟨F23, n24, cs25, x26, rfl, hG, hm27, hr28, hd29⟩
      have hMv := hMv.trans hm27
      have hA := hA.mv hm27
      have hAr := hA.1
      have hB := hB.mv hm27
      have hBr := hB.1
      have hOut := hOut.tch hm27.1 nF_hOut
      have hxb31 := hr28.2.2.1
      have hle32 := hr28.1
      replace nF_hOut : ¬ F23 (w.heap.size) := fun e => (hm27.2 _ e).elim nF_hOut (fun q => by omega)
      refine stv (v := .pointer (some ⟨w.heap.size, i, none⟩)) (by rfl) (R_index0 (b := w.heap.size) (len := (mm : Int).toNat) (cap := (mm : Int).toNat) (k := .i64) (i := ((i : Nat) : Int)) (e := 3) i (by kernel_rfl) (by kernel_rfl) (by kernel_rfl) (by kernel_rfl) rfl (by first | omega | (simp only [List.length_set, List.length_map]; omega))) ?_
      refine st (by rfl) (S_store (b := w.heap.size) (j := i) (v := .int .i64 ((x26 : Nat) : Int)) (by kernel_rfl) (by kernel_rfl) (by kernel_rfl) (by rfl) hOut (by rw [List.length_append, nats_length]; (first | omega | (simp only [List.length_set, List.length_map]; omega))) fun w33 hT34 hs35 hOut' => ?_)
      have hG := hG.tchS hT34 (fun c e q => by cases e; exact nF_hOut q)
      have hMv := hMv.newst hT34 (by omega)
      have hA := hA.st hT34 (fun c hc e => by have h1 := lt_hA c hc; have h2 := ge_hA c hc; have : c = w.heap.size := e; omega)
      have hAr := hA.1
      have hB := hB.st hT34 (fun c hc e => by have h1 := lt_hB c hc; have h2 := ge_hB c hc; have : c = w.heap.size := e; omega)
      have hBr := hB.1
      replace hOut : Blk w33 (w.heap.size) 3 (nats (o.set i x26) ++ []) := (nats_setP (l := o) (sp := []) (i := i) x26 (by first | omega | (simp only [List.length_set, List.length_map]; omega))) ▸ hOut'
      refine op_nil ?_
      refine W_draw (fun w' => RdW w' 1 mm A (nats a) ∧ RdW w' 1 mm B (nats b)) (by kernel_rfl) (by kernel_rfl) (by kernel_rfl) fun w36 hT37 hh38 => ?_
      have hG := hG.tch0 hT37
      have hMv := hMv.then0 hT37
      have hA := hA.tch0 hT37
      have hAr := hA.1
      have hB := hB.tch0 hT37
      have hBr := hB.1
      have hOut := hOut.tch0 hT37
      refine dtk [0, 1, 2, 3, 6, 7, 11, 12, 13] #[true, true, true, true, false, false, true, true, false, false, false, true, true, true, false, false, false] [(38, .pointer (some ⟨p, 0, none⟩)), (39, .pointer (some ⟨p, 0, none⟩)), (40, .slice A mm ca), (41, .int .i64 ((i : Nat) : Int)), (44, .slice B mm cb), (45, .int .i64 ((i : Nat) : Int)), (49, .pointer (some ⟨p, 0, none⟩)), (50, .int .i64 ((x15 : Nat) : Int)), (51, .int .i64 ((cr : Nat) : Int))] ⟨hAr, hBr⟩ (by kernel_rfl) ?_
      refine d_val (v := ptrAt A i) 4 (by rfl) (by kernel_rfl) (by kernel_rfl) (by kernel_rfl) (fun w' hs => by obtain ⟨hAr, hBr⟩ := hs; exact R_indexRd1 (len := mm) (cap := ca) (k := .i64) (i := ((i : Nat) : Int)) (e := 3) i hAr (by kernel_rfl) (by kernel_rfl) (by kernel_rfl) (by kernel_rfl) rfl (by omega)) ⟨hAr, hBr⟩ ?_
      refine d_val (v := .int .i64 ((a.getD i 0 : Nat) : Int)) 5 (by rfl) (by kernel_rfl) (by kernel_rfl) (by kernel_rfl) (fun w' hs => by obtain ⟨hAr, hBr⟩ := hs; exact R_loadRd (v := .int .i64 ((a.getD i 0 : Nat) : Int)) hAr (by omega) (by kernel_rfl) (by kernel_rfl) (nats_at (l := a) (by omega))) ⟨hAr, hBr⟩ ?_
      refine d_val (v := ptrAt B i) 8 (by rfl) (by kernel_rfl) (by kernel_rfl) (by kernel_rfl) (fun w' hs => by obtain ⟨hAr, hBr⟩ := hs; exact R_indexRd1 (len := mm) (cap := cb) (k := .i64) (i := ((i : Nat) : Int)) (e := 3) i hBr (by kernel_rfl) (by kernel_rfl) (by kernel_rfl) (by kernel_rfl) rfl (by omega)) ⟨hAr, hBr⟩ ?_
      refine d_val (v := .int .i64 ((b.getD i 0 : Nat) : Int)) 9 (by rfl) (by kernel_rfl) (by kernel_rfl) (by kernel_rfl) (fun w' hs => by obtain ⟨hAr, hBr⟩ := hs; exact R_loadRd (v := .int .i64 ((b.getD i 0 : Nat) : Int)) hBr (by omega) (by kernel_rfl) (by kernel_rfl) (nats_at (l := b) (by omega))) ⟨hAr, hBr⟩ ?_
      have lt47 := hOut.lt
      refine d_one 10 (by kernel_rfl) (by rfl) (by kernel_rfl) (S_call (args := [.pointer (some ⟨p, 0, none⟩), .int .i64 ((a.getD i 0 : Nat) : Int), .int .i64 ((b.getD i 0 : Nat) : Int)]) (by kernel_rfl) (and_ok F23 p n24 (a.getD i 0) (b.getD i 0) cs25 I _ hG (by omega) (by omega) (by omega)) ?_)
      rintro _ w39 ⟨F40, n41, cs42, x43, rfl, hG, hm44, hr45, hd46⟩
      have hMv := hMv.trans hm44
      have hA := hA.mv hm44
      have hAr := hA.1
      have hB := hB.mv hm44
      have hBr := hB.1
      have hOut := hOut.tch hm44.1 nF_hOut
      have hxb48 := hr45.2.2.1
      have hle49 := hr45.1
      replace nF_hOut : ¬ F40 (w.heap.size) := fun e => (hm44.2 _ e).elim nF_hOut (fun q => by omega)
      refine ⟨⟨hAr, hBr⟩, ?_⟩
      have lt58 := hOut.lt
      refine d_one 14 (by kernel_rfl) (by rfl) (by kernel_rfl) (S_call (args := [.pointer (some ⟨p, 0, none⟩), .int .i64 ((x15 : Nat) : Int), .int .i64 ((cr : Nat) : Int)]) (by kernel_rfl) (and_ok F40 p n41 x15 cr cs42 I _ hG (by omega) (by omega) (by omega)) ?_)
      rintro _ w50 ⟨F51, n52, cs53, x54, rfl, hG, hm55, hr56, hd57⟩
      have hMv := hMv.trans hm55
      have hA := hA.mv hm55
      have hAr := hA.1
      have hB := hB.mv hm55
      have hBr := hB.1
      have hOut := hOut.tch hm55.1 nF_hOut
      have hxb59 := hr56.2.2.1
      have hle60 := hr56.1
      replace nF_hOut : ¬ F51 (w.heap.size) := fun e => (hm55.2 _ e).elim nF_hOut (fun q => by omega)
      refine ⟨⟨hAr, hBr⟩, ?_⟩
      have lt69 := hOut.lt
      refine d_one 15 (by kernel_rfl) (by rfl) (by kernel_rfl) (S_call (args := [.pointer (some ⟨p, 0, none⟩), .int .i64 ((x43 : Nat) : Int), .int .i64 ((x54 : Nat) : Int)]) (by kernel_rfl) (or_ok F51 p n52 x43 x54 cs53 I _ hG (by omega) (by omega) (by omega)) ?_)
      rintro _ w61 ⟨F62, n63, cs64, x65, rfl, hG, hm66, hr67, hd68⟩
      have hMv := hMv.trans hm66
      have hA := hA.mv hm66
      have hAr := hA.1
      have hB := hB.mv hm66
      have hBr := hB.1
      have hOut := hOut.tch hm66.1 nF_hOut
      have hxb70 := hr67.2.2.1
      have hle71 := hr67.1
      replace nF_hOut : ¬ F62 (w.heap.size) := fun e => (hm66.2 _ e).elim nF_hOut (fun q => by omega)
      refine ⟨⟨hAr, hBr⟩, ?_⟩
      refine dtk [16] #[true, true, true, true, true, true, true, true, true, true, true, true, true, true, true, true, true] [(3, .int .i64 ((x65 : Nat) : Int))] ⟨hAr, hBr⟩ (by kernel_rfl) ?_
      refine d_done (by kernel_rfl) ?_
      refine W_fg [(0, .pointer (some ⟨p, 0, none⟩)), (1, .slice A mm ca), (2, .slice B mm cb), (3, .int .i64 ((x65 : Nat) : Int)), (8, .slice none 0 0), (9, .int .i64 0), (10, .slice (some ⟨w.heap.size, 0, none⟩) ((mm : Int).toNat) ((mm : Int).toNat)), (11, .int .i64 ((i : Nat) : Int)), (12, .int .i64 ((x15 : Nat) : Int)), (17, .int .i64 (mm : Int)), (18, .int .i64 ((i : Nat) : Int)), (19, .bool (decide (((i : Nat) : Int) < (mm : Int))))] (by kernel_rfl) fun ρ => ?_
      refine W_region (by kernel_rfl) ?_
      refine sg [(54, .int .i64 (IntKind.i64.wrap (((i : Nat) : Int) + 1)))] (by kernel_rfl) ?_
      rw [show IntKind.i64.wrap (((i : Nat) : Int) + 1) = ((i : Nat) : Int) + 1 from wrap_i64 (by omega) (by omega)]
      refine fixR (y := ((i + 1 : Nat) : Int)) (by omega) ?_
      refine sg [(18, .int .i64 ((i + 1 : Nat) : Int))] (by kernel_rfl) ?_
      refine op_nil ?_
      refine ⟨_, ?_, F62, n63, cs64, o.set i x26, x65, i + 1, _, updL_self (by kernel_rfl), ?_, by rw [List.length_set]; exact hol, ((((hrw.far hr17).step hr28 (by omega) (fun be hm => by show (lt_ be x15 != lt_ be cr) = _; rw [hr17.2.2.2 be (hm.sub hr28.2.1), hcr.2 be ((hm.sub hr28.2.1).sub hr17.2.1)]; rfl)).far hr45).far hr56).far hr67, by omega, nF_hOut, (Lw.of hr67).eq (fun be hm => by
                    have m4 := hm.sub hr67.2.1
                    have m3 := m4.sub hr56.2.1
                    have m2 := m3.sub hr45.2.1
                    have m1 := m2.sub hr28.2.1
                    have m0 := m1.sub hr17.2.1
                    show (lt_ be x43 || lt_ be x54) = _
                    rw [show lt_ be x54 = (lt_ be x15 && lt_ be cr) from hr56.2.2.2 be m4, show lt_ be x43 = (lt_ be (a.getD i 0) && lt_ be (b.getD i 0)) from hr45.2.2.2 be m3, show lt_ be x15 = (lt_ be (a.getD i 0) != lt_ be (b.getD i 0)) from hr17.2.2.2 be m1, hcr.2 be m0]; rfl), hG, hMv, hA, hAr, hB, hBr, hOut, rfl⟩
      · omega
      · omega
    · replace hc7 : (mm : Int) ≤ ((i : Nat) : Int) := (Int.not_lt.1 (of_decide_eq_false hc7))
      refine W_exit ?_
      refine X_hit ?_
      refine W_seq ?_
      refine W_region (by kernel_rfl) ?_
      refine sg [(55, .slice (some ⟨w.heap.size, 0, none⟩) ((mm : Int).toNat) ((mm : Int).toNat)), (56, .int .i64 ((cr : Nat) : Int)), (8, .slice (some ⟨w.heap.size, 0, none⟩) ((mm : Int).toNat) ((mm : Int).toNat)), (9, .int .i64 ((cr : Nat) : Int))] (by kernel_rfl) ?_
      refine op_nil ?_
      refine W_ret ?_
      exact ⟨_, Res_of (v := .tuple #[.slice (some ⟨w.heap.size, 0, none⟩) ((mm : Int).toNat) ((mm : Int).toNat), .int .i64 ((cr : Nat) : Int)]) (by kernel_rfl), ⟨F1, n1, cs1, w.heap.size, o, _, rfl, hol, RdX.ofP hOut (by rw [nats_length]; exact hol) (by omega) nF_hOut, by omega, hG, hMv, (show i = mm by omega) ▸ hrw, by omega⟩⟩

set_option maxRecDepth 100000 in
theorem nots_ok (mm ca : Nat) (A : Option Addr) (a : List Nat) (w : World) (hA : RdW w 1 mm A (nats a)) (hm2 : mm ≤ 1000) (hsm : ∀ j, j < mm → a.getD j 0 < 4611686018427387904) : Ret Try.prog 72 [.slice A mm ca] w fun v w' => ∃ g r, v = .slice (some ⟨g, 0, none⟩) mm mm ∧ r.length = mm ∧ Blk w' g 3 (nats r ++ []) ∧ w.heap.size ≤ g ∧ (∀ j, j < mm → r.getD j 0 = GateP.nt (a.getD j 0)) ∧ Tch N0 w w' := by
  have hAc := hA
  have hla : a.length = mm := by have := hA.1; rw [nats_length] at this; omega
  refine enter Try.func72 rfl rfl ?_
  refine W_seq ?_
  refine W_region (by kernel_rfl) ?_
  refine sg [(2, .slice none 0 0)] (by kernel_rfl) ?_
  refine op_nil ?_
  refine W_seq ?_
  refine W_region (by kernel_rfl) ?_
  refine sg [(6, .slice A mm ca), (7, .int .i64 (mm : Int))] (by kernel_rfl) ?_
  refine st (by rfl) (S_make 27 3 (.int .i64 0) 1 8 (k1 := .i64) (k2 := .i64) (l := (mm : Int)) (c := (mm : Int)) (by kernel_rfl) (by kernel_rfl) (by kernel_rfl) (by kernel_rfl) (by omega) (by omega) (by omega) (by omega) fun w1 hT2 hs3 hB4 => ?_)
  replace hB4 : Blk w1 (w.heap.size) 3 (nats (List.replicate ((mm : Int).toNat) 0) ++ []) := by rw [← mz_nats]; exact hB4
  have hT0 := hT2
  have hAc := hA.tch0 hT0
  refine sg [(3, .slice (some ⟨w.heap.size, 0, none⟩) ((mm : Int).toNat) ((mm : Int).toNat))] (by kernel_rfl) ?_
  refine op_nil ?_
  refine W_seq ?_
  refine W_seq ?_
  refine W_region (by kernel_rfl) ?_
  refine sg [(9, .slice A mm ca), (10, .int .i64 (mm : Int)), (11, .int .i64 0)] (by kernel_rfl) ?_
  refine op_nil ?_
  refine W_block ?_
  refine W_loop (fun m ρ w' => ∃ (o : List Nat) (i : Nat) (ρ0 : Env), ρ = updL ρ0 [(0, .slice A mm ca), (2, .slice none 0 0), (3, .slice (some ⟨w.heap.size, 0, none⟩) ((mm : Int).toNat) ((mm : Int).toNat)), (9, .slice A mm ca), (10, .int .i64 (mm : Int)), (11, .int .i64 ((i : Nat) : Int))] ∧ (i ≤ mm) ∧ (o.length = mm) ∧ (∀ j, j < i → o.getD j 0 = GateP.nt (a.getD j 0)) ∧ Tch N0 w w' ∧ RdW w' 1 mm A (nats a) ∧ Blk w' (w.heap.size) 3 (nats o ++ []) ∧ m = mm - i) (m := mm - 0) ?_ ?_
  · refine ⟨List.replicate mm 0, 0, _, updL_self (by kernel_rfl), by omega, by simp, (fun j h => by omega), hT0, hAc, hB4, rfl⟩
  · rintro m ρ w5 ⟨o, i, ρ, rfl, hi, hol, hmv, hT0, hAc, hOut, rfl⟩
    have hsi := fun q : i < mm => hsm i q
    refine W_seq ?_
    refine W_region (by kernel_rfl) ?_
    refine sg [(12, .bool (decide (((i : Nat) : Int) < (mm : Int))))] (by kernel_rfl) ?_
    refine op_nil ?_
    refine W_seq ?_
    refine W_cond (decide (((i : Nat) : Int) < (mm : Int))) (by kernel_rfl) (by kernel_rfl) (fun hc6 => ?_) (fun hc6 => ?_)
    · replace hc6 : ((i : Nat) : Int) < (mm : Int) := (of_decide_eq_true hc6)
      refine W_skip ?_
      refine W_seq ?_
      refine W_block ?_
      refine W_seq ?_
      refine W_region (by kernel_rfl) ?_
      refine sg [(13, .int .i64 ((i : Nat) : Int))] (by kernel_rfl) ?_
      refine stv (v := ptrAt A i) (by rfl) (R_indexRd1 (len := mm) (cap := ca) (k := .i64) (i := ((i : Nat) : Int)) (e := 3) i hAc (by kernel_rfl) (by kernel_rfl) (by kernel_rfl) (by kernel_rfl) rfl (by omega)) ?_
      refine stv (v := .int .i64 ((a.getD i 0 : Nat) : Int)) (by rfl) (R_loadRd (v := .int .i64 ((a.getD i 0 : Nat) : Int)) hAc (by omega) (by kernel_rfl) (by kernel_rfl) (nats_at (l := a) (by omega))) ?_
      refine sg [(4, .int .i64 ((i : Nat) : Int)), (5, .int .i64 ((a.getD i 0 : Nat) : Int))] (by kernel_rfl) ?_
      refine op_nil ?_
      refine W_region (by kernel_rfl) ?_
      refine sg [(16, .slice (some ⟨w.heap.size, 0, none⟩) ((mm : Int).toNat) ((mm : Int).toNat)), (17, .int .i64 ((i : Nat) : Int)), (18, .int .i64 ((a.getD i 0 : Nat) : Int))] (by kernel_rfl) ?_
      refine st (by rfl) (S_call (args := [.int .i64 ((a.getD i 0 : Nat) : Int)]) (by kernel_rfl) (not_ok (a.getD i 0) _ (by omega)) ?_)
      rintro _ w7 ⟨rfl, hT8⟩
      have hT0 := hT0.t0 hT8
      have hAc := hA.tch0 hT0
      have hOut := hOut.tch0 hT8
      have hnt9 := GateP.nt_div (a.getD i 0)
      refine stv (v := .pointer (some ⟨w.heap.size, i, none⟩)) (by rfl) (R_index0 (b := w.heap.size) (len := (mm : Int).toNat) (cap := (mm : Int).toNat) (k := .i64) (i := ((i : Nat) : Int)) (e := 3) i (by kernel_rfl) (by kernel_rfl) (by kernel_rfl) (by kernel_rfl) rfl (by first | omega | (simp only [List.length_set, List.length_map]; omega))) ?_
      refine st (by rfl) (S_store (b := w.heap.size) (j := i) (v := .int .i64 ((GateP.nt (a.getD i 0) : Nat) : Int)) (by kernel_rfl) (by kernel_rfl) (by kernel_rfl) (by rfl) hOut (by rw [List.length_append, nats_length]; (first | omega | (simp only [List.length_set, List.length_map]; omega))) fun w10 hT11 hs12 hOut' => ?_)
      have hT0 := (hT0).then hT11 (fun c e => by have : c = w.heap.size := e; omega)
      have hAc := hA.tch0 hT0
      replace hOut : Blk w10 (w.heap.size) 3 (nats (o.set i (GateP.nt (a.getD i 0))) ++ []) := (nats_setP (l := o) (sp := []) (i := i) (GateP.nt (a.getD i 0)) (by first | omega | (simp only [List.length_set, List.length_map]; omega))) ▸ hOut'
      refine op_nil ?_
      refine W_fg [(0, .slice A mm ca), (2, .slice none 0 0), (3, .slice (some ⟨w.heap.size, 0, none⟩) ((mm : Int).toNat) ((mm : Int).toNat)), (4, .int .i64 ((i : Nat) : Int)), (5, .int .i64 ((a.getD i 0 : Nat) : Int)), (9, .slice A mm ca), (10, .int .i64 (mm : Int)), (11, .int .i64 ((i : Nat) : Int)), (12, .bool (decide (((i : Nat) : Int) < (mm : Int))))] (by kernel_rfl) fun ρ => ?_
      refine W_region (by kernel_rfl) ?_
      refine sg [(21, .int .i64 (IntKind.i64.wrap (((i : Nat) : Int) + 1)))] (by kernel_rfl) ?_
      rw [show IntKind.i64.wrap (((i : Nat) : Int) + 1) = ((i : Nat) : Int) + 1 from wrap_i64 (by omega) (by omega)]
      refine fixR (y := ((i + 1 : Nat) : Int)) (by omega) ?_
      refine sg [(11, .int .i64 ((i + 1 : Nat) : Int))] (by kernel_rfl) ?_
      refine op_nil ?_
      refine ⟨_, ?_, o.set i (GateP.nt (a.getD i 0)), i + 1, _, updL_self (by kernel_rfl), ?_, by rw [List.length_set]; exact hol, mv_put (by omega) hmv rfl, hT0, hAc, hOut, rfl⟩
      · omega
      · omega
    · replace hc6 : (mm : Int) ≤ ((i : Nat) : Int) := (Int.not_lt.1 (of_decide_eq_false hc6))
      refine W_exit ?_
      refine X_hit ?_
      refine W_seq ?_
      refine W_region (by kernel_rfl) ?_
      refine sg [(22, .slice (some ⟨w.heap.size, 0, none⟩) ((mm : Int).toNat) ((mm : Int).toNat)), (2, .slice (some ⟨w.heap.size, 0, none⟩) ((mm : Int).toNat) ((mm : Int).toNat))] (by kernel_rfl) ?_
      refine op_nil ?_
      refine W_ret ?_
      exact ⟨_, Res_of (v := .slice (some ⟨w.heap.size, 0, none⟩) ((mm : Int).toNat) ((mm : Int).toNat)) (by kernel_rfl), ⟨_, o, rfl, hol, hOut, by omega, fun j h => hmv j (by omega), hT0⟩⟩

set_option maxRecDepth 100000 in
theorem const_ok (p wd x : Nat) (w : World) (h1 : 1 ≤ wd) (h2 : wd ≤ 64) (hx : x < 18446744073709551616) : Ret Try.prog 46 [.pointer (some ⟨p, 0, none⟩), .int .i64 ((wd : Nat) : Int), .int .u64 ((x : Nat) : Int)] w fun v w' => ∃ g r, v = .slice (some ⟨g, 0, none⟩) wd wd ∧ r.length = wd ∧ Blk w' g 3 (nats r ++ []) ∧ w.heap.size ≤ g ∧ (∀ j, j < wd → r.getD j 0 = (if x.testBit j = true then 0 else 1)) ∧ Tch N0 w w' := by
  refine enter Try.func46 rfl rfl ?_
  refine W_seq ?_
  refine W_region (by kernel_rfl) ?_
  refine sg [(6, .slice none 0 0)] (by kernel_rfl) ?_
  refine op_nil ?_
  refine W_seq ?_
  refine W_seq ?_
  refine W_region (by kernel_rfl) ?_
  refine sg [(9, .pointer (some ⟨p, 0, none⟩)), (10, .bool false), (11, .bool false), (12, .int .i64 ((wd : Nat) : Int)), (13, .bool (decide (((wd : Nat) : Int) < 1))), (14, .bool (decide (((wd : Nat) : Int) < 1))), (15, .bool (decide (((wd : Nat) : Int) < 1)))] (by kernel_rfl) ?_
  cases hb1 : decide (((wd : Nat) : Int) < 1)
  · replace hb1 : 1 ≤ ((wd : Nat) : Int) := (Int.not_lt.1 (of_decide_eq_false hb1))
    refine sg [(16, .int .i64 ((wd : Nat) : Int)), (17, .bool (decide (((wd : Nat) : Int) > 64))), (18, .bool (decide (((wd : Nat) : Int) > 64)))] (by kernel_rfl) ?_
    refine op_nil ?_
    refine W_cond (decide (((wd : Nat) : Int) > 64)) (by kernel_rfl) (by kernel_rfl) (fun hc2 => ?_) (fun hc2 => ?_)
    · replace hc2 : 64 < ((wd : Nat) : Int) := (of_decide_eq_true hc2)
      exfalso; omega
    · replace hc2 : ((wd : Nat) : Int) ≤ 64 := (Int.not_lt.1 (of_decide_eq_false hc2))
      refine W_skip ?_
      refine W_seq ?_
      refine W_fg [(0, .pointer (some ⟨p, 0, none⟩)), (1, .int .i64 ((wd : Nat) : Int)), (2, .int .u64 ((x : Nat) : Int)), (6, .slice none 0 0), (18, .bool (decide (((wd : Nat) : Int) > 64)))] (by kernel_rfl) fun ρ => ?_
      refine W_region (by kernel_rfl) ?_
      refine sg [(19, .int .i64 ((wd : Nat) : Int))] (by kernel_rfl) ?_
      refine st (by rfl) (S_make 27 3 (.int .i64 0) 1 8 (k1 := .i64) (k2 := .i64) (l := ((wd : Nat) : Int)) (c := ((wd : Nat) : Int)) (by kernel_rfl) (by kernel_rfl) (by kernel_rfl) (by kernel_rfl) (by omega) (by omega) (by omega) (by omega) fun w3 hT4 hs5 hB6 => ?_)
      replace hB6 : Blk w3 (w.heap.size) 3 (nats (List.replicate (wd) 0) ++ []) := by rw [← mz_nats]; exact hB6
      have hT0 := hT4
      refine sg [(7, .slice (some ⟨w.heap.size, 0, none⟩) wd wd)] (by kernel_rfl) ?_
      refine op_nil ?_
      refine W_seq ?_
      refine W_seq ?_
      refine W_region (by kernel_rfl) ?_
      refine sg [(21, .slice (some ⟨w.heap.size, 0, none⟩) wd wd), (22, .int .i64 (wd : Int)), (23, .int .i64 0)] (by kernel_rfl) ?_
      refine op_nil ?_
      refine W_block ?_
      refine W_loop (fun m ρ w' => ∃ (o : List Nat) (i : Nat) (ρ0 : Env), ρ = updL ρ0 [(0, .pointer (some ⟨p, 0, none⟩)), (2, .int .u64 ((x : Nat) : Int)), (6, .slice none 0 0), (7, .slice (some ⟨w.heap.size, 0, none⟩) wd wd), (22, .int .i64 (wd : Int)), (23, .int .i64 ((i : Nat) : Int))] ∧ (i ≤ wd) ∧ (o.length = wd) ∧ (∀ j, j < i → o.getD j 0 = (if x.testBit j = true then 0 else 1)) ∧ Tch N0 w w' ∧ Blk w' (w.heap.size) 3 (nats o ++ []) ∧ m = wd - i) (m := wd - 0) ?_ ?_
      · refine ⟨List.replicate wd 0, 0, _, updL_self (by kernel_rfl), by omega, by simp, (fun j h => by omega), hT0, hB6, rfl⟩
      · rintro m ρ w7 ⟨o, i, ρ, rfl, hi, hol, hmv, hT0, hOut, rfl⟩
        refine W_seq ?_
        refine W_region (by kernel_rfl) ?_
        refine sg [(24, .bool (decide (((i : Nat) : Int) < (wd : Int))))] (by kernel_rfl) ?_
        refine op_nil ?_
        refine W_seq ?_
        refine W_cond (decide (((i : Nat) : Int) < (wd : Int))) (by kernel_rfl) (by kernel_rfl) (fun hc8 => ?_) (fun hc8 => ?_)
        · replace hc8 : ((i : Nat) : Int) < (wd : Int) := (of_decide_eq_true hc8)
          refine W_skip ?_
          refine W_seq ?_
          refine W_block ?_
          refine W_seq ?_
          refine W_region (by kernel_rfl) ?_
          refine sg [(25, .int .i64 ((i : Nat) : Int)), (8, .int .i64 ((i : Nat) : Int))] (by kernel_rfl) ?_
          refine op_nil ?_
          refine W_seq ?_
          refine W_region (by kernel_rfl) ?_
          refine sg [(26, .slice (some ⟨w.heap.size, 0, none⟩) wd wd), (27, .int .i64 ((i : Nat) : Int)), (28, .pointer (some ⟨p, 0, none⟩))] (by kernel_rfl) ?_
          refine st (by rfl) (S_call (args := [.pointer (some ⟨p, 0, none⟩)]) (by kernel_rfl) (true_ok p _) ?_)
          rintro _ w9 ⟨rfl, hT10⟩
          have hT0 := hT0.t0 hT10
          have hOut := hOut.tch0 hT10
          refine stv (v := .pointer (some ⟨w.heap.size, i, none⟩)) (by rfl) (R_index0 (b := w.heap.size) (len := wd) (cap := wd) (k := .i64) (i := ((i : Nat) : Int)) (e := 3) i (by kernel_rfl) (by kernel_rfl) (by kernel_rfl) (by kernel_rfl) rfl (by first | omega | (simp only [List.length_set, List.length_map]; omega))) ?_
          refine st (by rfl) (S_store (b := w.heap.size) (j := i) (v := .int .i64 0) (by kernel_rfl) (by kernel_rfl) (by kernel_rfl) (by rfl) hOut (by rw [List.length_append, nats_length]; (first | omega | (simp only [List.length_set, List.length_map]; omega))) fun w11 hT12 hs13 hOut' => ?_)
          have hT0 := (hT0).then hT12 (fun c e => by have : c = w.heap.size := e; omega)
          replace hOut : Blk w11 (w.heap.size) 3 (nats (o.set i 0) ++ []) := (nats_setP (l := o) (sp := []) (i := i) 0 (by first | omega | (simp only [List.length_set, List.length_map]; omega))) ▸ hOut'
          refine op_nil ?_
          refine W_seq ?_
          refine W_fg [(0, .pointer (some ⟨p, 0, none⟩)), (2, .int .u64 ((x : Nat) : Int)), (6, .slice none 0 0), (7, .slice (some ⟨w.heap.size, 0, none⟩) wd wd), (8, .int .i64 ((i : Nat) : Int)), (22, .int .i64 (wd : Int)), (23, .int .i64 ((i : Nat) : Int)), (24, .bool (decide (((i : Nat) : Int) < (wd : Int))))] (by kernel_rfl) fun ρ => ?_
          refine W_region (by kernel_rfl) ?_
          refine sg [(31, .int .u64 ((x : Nat) : Int)), (32, .int .i64 ((i : Nat) : Int))] (by kernel_rfl) ?_
          refine stv (v := .int .u64 ((x / pw i : Nat) : Int)) (by kernel_rfl) (R_shrP (k2 := .i64) x i (by kernel_rfl) (by kernel_rfl) (by omega)) ?_
          refine sg [(34, .int .u64 (IntKind.u64.wrap (BitVec.ofInt 64 ((x / pw i : Nat) : Int) &&& BitVec.ofInt 64 1).toNat))] (by kernel_rfl) ?_
          rw [and1_u (x / pw i) (Nat.lt_of_le_of_lt (Nat.div_le_self _ _) hx)]
          refine sg [(35, .bool (((x / pw i % 2 : Nat) : Int) == 0))] (by kernel_rfl) ?_
          refine op_nil ?_
          refine W_cond (((x / pw i % 2 : Nat) : Int) == 0) (by kernel_rfl) (by kernel_rfl) (fun hc14 => ?_) (fun hc14 => ?_)
          · replace hc14 : ((x / pw i % 2 : Nat) : Int) = 0 := (eq_of_beq hc14)
            have hg0 : (o.set i 0).getD i 0 = 0 := by rw [setN _ _ _ _ (by omega), if_pos rfl]
            refine W_region (by kernel_rfl) ?_
            refine sg [(36, .slice (some ⟨w.heap.size, 0, none⟩) wd wd), (37, .int .i64 ((i : Nat) : Int)), (38, .slice (some ⟨w.heap.size, 0, none⟩) wd wd), (39, .int .i64 ((i : Nat) : Int))] (by kernel_rfl) ?_
            refine stv (v := .pointer (some ⟨w.heap.size, i, none⟩)) (by rfl) (R_index0 (b := w.heap.size) (len := wd) (cap := wd) (k := .i64) (i := ((i : Nat) : Int)) (e := 3) i (by kernel_rfl) (by kernel_rfl) (by kernel_rfl) (by kernel_rfl) rfl (by first | omega | (simp only [List.length_set, List.length_map]; omega))) ?_
            refine st (by rfl) (S_val (v := .int .i64 (((o.set i 0).getD i 0 : Nat) : Int)) (R_load (v := .int .i64 (((o.set i 0).getD i 0 : Nat) : Int)) (by kernel_rfl) (by kernel_rfl) ((hOut.cell _).trans (nats_atP (by first | omega | (simp only [List.length_set, List.length_map]; omega))))) ?_)
            refine st (by rfl) (S_call (args := [.int .i64 (((o.set i 0).getD i 0 : Nat) : Int)]) (by kernel_rfl) (not_ok ((o.set i 0).getD i 0) _ (by omega)) ?_)
            rintro _ w15 ⟨rfl, hT16⟩
            have hT0 := hT0.t0 hT16
            have hOut := hOut.tch0 hT16
            have hnt17 := GateP.nt_div ((o.set i 0).getD i 0)
            refine stv (v := .pointer (some ⟨w.heap.size, i, none⟩)) (by rfl) (R_index0 (b := w.heap.size) (len := wd) (cap := wd) (k := .i64) (i := ((i : Nat) : Int)) (e := 3) i (by kernel_rfl) (by kernel_rfl) (by kernel_rfl) (by kernel_rfl) rfl (by first | omega | (simp only [List.length_set, List.length_map]; omega))) ?_
            refine st (by rfl) (S_store (b := w.heap.size) (j := i) (v := .int .i64 ((GateP.nt ((o.set i 0).getD i 0) : Nat) : Int)) (by kernel_rfl) (by kernel_rfl) (by kernel_rfl) (by rfl) hOut (by rw [List.length_append, nats_length]; (first | omega | (simp only [List.length_set, List.length_map]; omega))) fun w18 hT19 hs20 hOut' => ?_)
            have hT0 := (hT0).then hT19 (fun c e => by have : c = w.heap.size := e; omega)
            replace hOut : Blk w18 (w.heap.size) 3 (nats ((o.set i 0).set i (GateP.nt ((o.set i 0).getD i 0))) ++ []) := (nats_setP (l := o.set i 0) (sp := []) (i := i) (GateP.nt ((o.set i 0).getD i 0)) (by first | omega | (simp only [List.length_set, List.length_map]; omega))) ▸ hOut'
            refine op_nil ?_
            refine W_fg [(0, .pointer (some ⟨p, 0, none⟩)), (2, .int .u64 ((x : Nat) : Int)), (6, .slice none 0 0), (7, .slice (some ⟨w.heap.size, 0, none⟩) wd wd), (8, .int .i64 ((i : Nat) : Int)), (22, .int .i64 (wd : Int)), (23, .int .i64 ((i : Nat) : Int)), (24, .bool (decide (((i : Nat) : Int) < (wd : Int)))), (35, .bool (((x / pw i % 2 : Nat) : Int) == 0))] (by kernel_rfl) fun ρ => ?_
            refine W_region (by kernel_rfl) ?_
            refine sg [(44, .int .i64 (IntKind.i64.wrap (((i : Nat) : Int) + 1)))] (by kernel_rfl) ?_
            rw [show IntKind.i64.wrap (((i : Nat) : Int) + 1) = ((i : Nat) : Int) + 1 from wrap_i64 (by omega) (by omega)]
            refine fixR (y := ((i + 1 : Nat) : Int)) (by omega) ?_
            refine sg [(23, .int .i64 ((i + 1 : Nat) : Int))] (by kernel_rfl) ?_
            refine op_nil ?_
            refine ⟨_, ?_, (o.set i 0).set i (GateP.nt ((o.set i 0).getD i 0)), i + 1, _, updL_self (by kernel_rfl), ?_, by rw [List.length_set, List.length_set]; exact hol, mv_put2 (by omega) hmv (by rw [if_neg (by rw [← bit_div]; omega), hg0]; rfl), hT0, hOut, rfl⟩
            · omega
            · omega
          · replace hc14 : ((x / pw i % 2 : Nat) : Int) ≠ 0 := (ne_of_beq_false hc14)
            refine W_skip ?_
            refine W_region (by kernel_rfl) ?_
            refine sg [(44, .int .i64 (IntKind.i64.wrap (((i : Nat) : Int) + 1)))] (by kernel_rfl) ?_
            rw [show IntKind.i64.wrap (((i : Nat) : Int) + 1) = ((i : Nat) : Int) + 1 from wrap_i64 (by omega) (by omega)]
            refine fixR (y := ((i + 1 : Nat) : Int)) (by omega) ?_
            refine sg [(23, .int .i64 ((i + 1 : Nat) : Int))] (by kernel_rfl) ?_
            refine op_nil ?_
            refine ⟨_, ?_, o.set i 0, i + 1, _, updL_self (by kernel_rfl), ?_, by rw [List.length_set]; exact hol, mv_put (by omega) hmv (by rw [if_pos ((bit_div x i).1 (by omega))]), hT0, hOut, rfl⟩
            · omega
            · omega
        · replace hc8 : (wd : Int) ≤ ((i : Nat) : Int) := (Int.not_lt.1 (of_decide_eq_false hc8))
          refine W_exit ?_
          refine X_hit ?_
          refine W_seq ?_
          refine W_region (by kernel_rfl) ?_
          refine sg [(45, .slice (some ⟨w.heap.size, 0, none⟩) wd wd), (6, .slice (some ⟨w.heap.size, 0, none⟩) wd wd)] (by kernel_rfl) ?_
          refine op_nil ?_
          refine W_ret ?_
          exact ⟨_, Res_of (v := .slice (some ⟨w.heap.size, 0, none⟩) wd wd) (by kernel_rfl), ⟨_, o, rfl, hol, hOut, by omega, fun j h => hmv j (by omega), hT0⟩⟩
  · replace hb1 : ((wd : Nat) : Int) < 1 := (of_decide_eq_true hb1)
    exfalso; omega

set_option maxRecDepth 100000 in
theorem const_big (p : Nat) (W : Int) (x : Int) (w : World) (hW : W < 1 ∨ 64 < W) : Ret Try.prog 46 [.pointer (some ⟨p, 0, none⟩), .int .i64 W, .int .u64 x] w fun v w' => v = .slice none 0 0 ∧ Tch N0 w w' := by
  refine enter Try.func46 rfl rfl ?_
  refine W_seq ?_
  refine W_region (by kernel_rfl) ?_
  refine sg [(6, .slice none 0 0)] (by kernel_rfl) ?_
  refine op_nil ?_
  refine W_seq ?_
  refine W_seq ?_
  refine W_region (by kernel_rfl) ?_
  refine sg [(9, .pointer (some ⟨p, 0, none⟩)), (10, .bool false), (11, .bool false), (12, .int .i64 W), (13, .bool (decide (W < 1))), (14, .bool (decide (W < 1))), (15, .bool (decide (W < 1)))] (by kernel_rfl) ?_
  cases hb1 : decide (W < 1)
  · replace hb1 : 1 ≤ W := (Int.not_lt.1 (of_decide_eq_false hb1))
    refine sg [(16, .int .i64 W), (17, .bool (decide (W > 64))), (18, .bool (decide (W > 64)))] (by kernel_rfl) ?_
    refine op_nil ?_
    refine W_cond (decide (W > 64)) (by kernel_rfl) (by kernel_rfl) (fun hc2 => ?_) (fun hc2 => ?_)
    · replace hc2 : 64 < W := (of_decide_eq_true hc2)
      refine W_seq ?_
      refine W_fg [(0, .pointer (some ⟨p, 0, none⟩)), (1, .int .i64 W), (2, .int .u64 x), (6, .slice none 0 0), (18, .bool (decide (W > 64)))] (by kernel_rfl) fun ρ => ?_
      refine W_region (by kernel_rfl) ?_
      refine sg [(6, .slice none 0 0)] (by kernel_rfl) ?_
      refine op_nil ?_
      refine W_ret ?_
      exact ⟨_, Res_of (v := .slice none 0 0) (by kernel_rfl), ⟨rfl, Tch.refl _ _⟩⟩
    · replace hc2 : W ≤ 64 := (Int.not_lt.1 (of_decide_eq_false hc2))
      exfalso; omega
  · replace hb1 : W < 1 := (of_decide_eq_true hb1)
    refine sg [(16, undef), (17, undef), (18, .bool true)] (by kernel_rfl) ?_
    refine op_nil ?_
    refine W_cond true (by kernel_rfl) (by kernel_rfl) (fun _ => ?_) (fun h => nomatch h)
    refine W_seq ?_
    refine W_fg [(0, .pointer (some ⟨p, 0, none⟩)), (1, .int .i64 W), (2, .int .u64 x), (6, .slice none 0 0), (18, .bool true)] (by kernel_rfl) fun ρ => ?_
    refine W_region (by kernel_rfl) ?_
    refine sg [(6, .slice none 0 0)] (by kernel_rfl) ?_
    refine op_nil ?_
    refine W_ret ?_
    exact ⟨_, Res_of (v := .slice none 0 0) (by kernel_rfl), ⟨rfl, Tch.refl _ _⟩⟩

end Go.Proofs.YtnlecdpiccgdpaaV
