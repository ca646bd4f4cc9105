/- Walks of functions of the program and of the document's texts. The conditions stand with each theorem. -/
import Derived.Test.YtnlecdpiccgdpaaVx13
import Derived.Test.YtnlecdpiccgdpaaProg
import Derived.Test.YtnlecdpiccgdpaaVx4
import Derived.Test.YtnlecdpiccgdpaaA2
set_option linter.unusedVariables false
set_option linter.unusedSimpArgs false
namespace Go.Proofs.YtnlecdpiccgdpaaV
open Go Go.RowKit Go.Proofs

set_option maxRecDepth 100000 in
theorem equal_ok (F : Nat → Prop) (p n mm ca cb : Nat) (A B : Option Addr) (a b : List Nat)  (cs : List (List Nat)) (I : Nat → Prop) (w : World) (hG : GObj F w p n cs I) (hA : RdX F w mm A (nats a)) (hB : RdX F w mm B (nats b)) (hfa : ∀ j, j < mm → a.getD j 0 / 2 < n) (hfb : ∀ j, j < mm → b.getD j 0 / 2 < n) (hm : 0 < mm) (hm2 : mm ≤ 1000) (hn : n ≤ 50000000000) : Ret Try.prog 42 [.pointer (some ⟨p, 0, none⟩), .slice A mm ca, .slice B mm cb] w fun v w' => GRet F p n cs I w (2 * mm) (fun be => eqB (fun j => lt_ be (a.getD j 0)) (fun j => lt_ be (b.getD j 0)) mm) v w' := by
  have hMv := Mv.refl F w
  have hla : a.length = mm := by have := hA.1.1; rw [nats_length] at this; omega
  have hlb : b.length = mm := by have := hB.1.1; rw [nats_length] at this; omega
  have hAr := hA.1
  have hBr := hB.1
  have lt_hA := hA.lt
  have lt_hB := hB.lt
  have ge_hA : ∀ c, blkOf A = some c → 0 ≤ c := fun c _ => Nat.zero_le c
  have ge_hB : ∀ c, blkOf B = some c → 0 ≤ c := fun c _ => Nat.zero_le c
  have hff_a := hfa
  have hff_b := hfb
  have hpos := hG.2.pos
  refine enter Try.func42 rfl rfl ?_
  refine W_seq ?_
  refine W_region (by kernel_rfl) ?_
  refine sg [(6, .int .i64 0)] (by kernel_rfl) ?_
  refine op_nil ?_
  refine W_seq ?_
  refine W_seq ?_
  refine W_region (by kernel_rfl) ?_
  refine sg [(9, .pointer (some ⟨p, 0, none⟩)), (10, .slice A mm ca), (11, .slice B mm cb)] (by kernel_rfl) ?_
  have hlt_ := hG.1.lt
  have hz5 := hMv.1.size
  refine st (by rfl) (S_new (v := .slice (some ⟨w.heap.size, 0, none⟩) 2 2) (ob := .cells #[.slice A mm ca, .slice B mm cb] 27) (by kernel_rfl) fun w1 hT2 hs3 hB4 => ?_)
  replace hB4 : Blk w1 (w.heap.size) 27 [.slice A mm ca, .slice B mm cb] := hB4
  have hG := hG.tch0 hT2
  have hMv := hMv.then0 hT2
  have hA := hA.tch0 hT2
  have hAr := hA.1
  have hB := hB.tch0 hT2
  have hBr := hB.1
  have nF_hB4 : ¬ F (w.heap.size) := fun e => by have := hlt_ _ e; omega
  refine st (by rfl) (S_call (args := [.pointer (some ⟨p, 0, none⟩), .slice (some ⟨w.heap.size, 0, none⟩) 2 2]) (by kernel_rfl) (fine_nats p (w.heap.size) mm ca cb A B _ _ _ hB4 hAr hBr (by omega)) ?_)
  rintro _ w6 ⟨rfl, hT7⟩
  have hG := hG.tch0 hT7
  have hMv := hMv.then0 hT7
  have hA := hA.tch0 hT7
  have hAr := hA.1
  have hB := hB.tch0 hT7
  have hBr := hB.1
  have hB4 := hB4.tch0 hT7
  refine sg [(14, .bool false)] (by kernel_rfl) ?_
  refine op_nil ?_
  refine W_cond false (by kernel_rfl) (by kernel_rfl) (fun h => nomatch h) (fun _ => ?_)
  refine W_skip ?_
  refine W_seq ?_
  refine W_region (by kernel_rfl) ?_
  refine sg [(15, .pointer (some ⟨p, 0, none⟩))] (by kernel_rfl) ?_
  refine st (by rfl) (S_call (args := [.pointer (some ⟨p, 0, none⟩)]) (by kernel_rfl) (true_ok p _) ?_)
  rintro _ w8 ⟨rfl, hT9⟩
  have hG := hG.tch0 hT9
  have hMv := hMv.then0 hT9
  have hA := hA.tch0 hT9
  have hAr := hA.1
  have hB := hB.tch0 hT9
  have hBr := hB.1
  have hB4 := hB4.tch0 hT9
  refine sg [(7, .int .i64 0)] (by kernel_rfl) ?_
  refine op_nil ?_
  refine W_seq ?_
  refine W_seq ?_
  refine W_fg [(0, .pointer (some ⟨p, 0, none⟩)), (1, .slice A mm ca), (2, .slice B mm cb), (6, .int .i64 0), (7, .int .i64 0), (14, .bool false)] (by kernel_rfl) fun ρ => ?_
  refine W_region (by kernel_rfl) ?_
  refine sg [(17, .slice A mm ca), (18, .int .i64 (mm : Int)), (19, .int .i64 0)] (by kernel_rfl) ?_
  refine op_nil ?_
  refine W_block ?_
  refine W_loop (fun m ρ w' => ∃ (F1 : Nat → Prop) (n1 : Nat) (cs1 : List (List Nat)) (y i : Nat) (ρ0 : Env), ρ = updL ρ0 [(0, .pointer (some ⟨p, 0, none⟩)), (1, .slice A mm ca), (2, .slice B mm cb), (6, .int .i64 0), (7, .int .i64 ((y : Nat) : Int)), (18, .int .i64 (mm : Int)), (19, .int .i64 ((i : Nat) : Int))] ∧ (i ≤ mm) ∧ (Lw n1 cs1 y (fun be => eqB (fun j => lt_ be (a.getD j 0)) (fun j => lt_ be (b.getD j 0)) i)) ∧ (n ≤ n1) ∧ (∀ c, c ∈ cs → c ∈ cs1) ∧ (n1 ≤ n + 2 * i) ∧ GObj F1 w' p n1 cs1 I ∧ Mv F F1 w w' ∧ RdX F1 w' mm A (nats a) ∧ RdW w' 1 mm A (nats a) ∧ RdX F1 w' mm B (nats b) ∧ RdW w' 1 mm B (nats b) ∧ m = mm - i) (m := mm - 0) ?_ ?_
  · refine ⟨F, n, cs, 0, 0, _, updL_self (by kernel_rfl), by omega, ⟨by have := hG.2.pos; show (0 : Nat) / 2 < _; omega, fun be hm => hG.2.t0 hm⟩, by omega, (fun _ h => h), by omega, hG, hMv, hA, hAr, hB, hBr, rfl⟩
  · rintro m ρ w10 ⟨F1, n1, cs1, y, i, ρ, rfl, hi, hy, hle, hsub, hd, hG, hMv, hA, hAr, hB, hBr, rfl⟩
    have fa := fun q : i < mm => hfa i q
    have fb := fun q : i < mm => hfb i q
    have hpos := hG.2.pos
    have hyf := hy.1
    refine W_seq ?_
    refine W_region (by kernel_rfl) ?_
    refine sg [(20, .bool (decide (((i : Nat) : Int) < (mm : Int))))] (by kernel_rfl) ?_
    refine op_nil ?_
    refine W_seq ?_
    refine W_cond (decide (((i : Nat) : Int) < (mm : Int))) (by kernel_rfl) (by kernel_rfl) (fun hc11 => ?_) (fun hc11 => ?_)
    · replace hc11 : ((i : Nat) : Int) < (mm : Int) := (of_decide_eq_true hc11)
      refine W_skip ?_
      refine W_seq ?_
      refine W_block ?_
      refine W_seq ?_
      refine W_region (by kernel_rfl) ?_
      refine sg [(21, .int .i64 ((i : Nat) : Int)), (8, .int .i64 ((i : Nat) : Int))] (by kernel_rfl) ?_
      refine op_nil ?_
      refine W_draw (fun w' => RdW w' 1 mm A (nats a) ∧ RdW w' 1 mm B (nats b)) (by kernel_rfl) (by kernel_rfl) (by kernel_rfl) fun w12 hT13 hh14 => ?_
      have hG := hG.tch0 hT13
      have hMv := hMv.then0 hT13
      have hA := hA.tch0 hT13
      have hAr := hA.1
      have hB := hB.tch0 hT13
      have hBr := hB.1
      refine dtk [0, 1, 2, 3, 4, 7, 8] #[true, true, true, true, true, false, false, true, true, false, false, false, false, false, false] [(22, .pointer (some ⟨p, 0, none⟩)), (23, .int .i64 ((y : Nat) : Int)), (24, .pointer (some ⟨p, 0, none⟩)), (25, .slice A mm ca), (26, .int .i64 ((i : Nat) : Int)), (29, .slice B mm cb), (30, .int .i64 ((i : Nat) : Int))] ⟨hAr, hBr⟩ (by kernel_rfl) ?_
      refine d_val (v := ptrAt A i) 5 (by rfl) (by kernel_rfl) (by kernel_rfl) (by kernel_rfl) (fun w' hs => by obtain ⟨hAr, hBr⟩ := hs; exact R_indexRd1 (len := mm) (cap := ca) (k := .i64) (i := ((i : Nat) : Int)) (e := 3) i hAr (by kernel_rfl) (by kernel_rfl) (by kernel_rfl) (by kernel_rfl) rfl (by omega)) ⟨hAr, hBr⟩ ?_
      refine d_val (v := .int .i64 ((a.getD i 0 : Nat) : Int)) 6 (by rfl) (by kernel_rfl) (by kernel_rfl) (by kernel_rfl) (fun w' hs => by obtain ⟨hAr, hBr⟩ := hs; exact R_loadRd (v := .int .i64 ((a.getD i 0 : Nat) : Int)) hAr (by omega) (by kernel_rfl) (by kernel_rfl) (nats_at (l := a) (by omega))) ⟨hAr, hBr⟩ ?_
      refine d_val (v := ptrAt B i) 9 (by rfl) (by kernel_rfl) (by kernel_rfl) (by kernel_rfl) (fun w' hs => by obtain ⟨hAr, hBr⟩ := hs; exact R_indexRd1 (len := mm) (cap := cb) (k := .i64) (i := ((i : Nat) : Int)) (e := 3) i hBr (by kernel_rfl) (by kernel_rfl) (by kernel_rfl) (by kernel_rfl) rfl (by omega)) ⟨hAr, hBr⟩ ?_
      refine d_val (v := .int .i64 ((b.getD i 0 : Nat) : Int)) 10 (by rfl) (by kernel_rfl) (by kernel_rfl) (by kernel_rfl) (fun w' hs => by obtain ⟨hAr, hBr⟩ := hs; exact R_loadRd (v := .int .i64 ((b.getD i 0 : Nat) : Int)) hBr (by omega) (by kernel_rfl) (by kernel_rfl) (nats_at (l := b) (by omega))) ⟨hAr, hBr⟩ ?_
      refine d_one 11 (by kernel_rfl) (by rfl) (by kernel_rfl) (S_call (args := [.pointer (some ⟨p, 0, none⟩), .int .i64 ((a.getD i 0 : Nat) : Int), .int .i64 ((b.getD i 0 : Nat) : Int)]) (by kernel_rfl) (xor_ok F1 p n1 (a.getD i 0) (b.getD i 0) cs1 I _ hG (by omega) (by omega) (by omega)) ?_)
      rintro _ w15 ⟨F16, n17, cs18, x19, rfl, hG, hm20, hr21, hd22⟩
      have hMv := hMv.trans hm20
      have hA := hA.mv hm20
      have hAr := hA.1
      have hB := hB.mv hm20
      have hBr := hB.1
      have hxb23 := hr21.2.2.1
      have hle24 := hr21.1
      refine ⟨⟨hAr, hBr⟩, ?_⟩
      refine d_one 12 (by kernel_rfl) (by rfl) (by kernel_rfl) (S_call (args := [.int .i64 ((x19 : Nat) : Int)]) (by kernel_rfl) (not_ok x19 _ (by omega)) ?_)
      rintro _ w25 ⟨rfl, hT26⟩
      have hG := hG.tch0 hT26
      have hMv := hMv.then0 hT26
      have hA := hA.tch0 hT26
      have hAr := hA.1
      have hB := hB.tch0 hT26
      have hBr := hB.1
      have hnt27 := GateP.nt_div x19
      refine ⟨⟨hAr, hBr⟩, ?_⟩
      refine d_one 13 (by kernel_rfl) (by rfl) (by kernel_rfl) (S_call (args := [.pointer (some ⟨p, 0, none⟩), .int .i64 ((y : Nat) : Int), .int .i64 ((GateP.nt x19 : Nat) : Int)]) (by kernel_rfl) (and_ok F16 p n17 y (GateP.nt x19) cs18 I _ hG (by omega) (by omega) (by omega)) ?_)
      rintro _ w28 ⟨F29, n30, cs31, x32, rfl, hG, hm33, hr34, hd35⟩
      have hMv := hMv.trans hm33
      have hA := hA.mv hm33
      have hAr := hA.1
      have hB := hB.mv hm33
      have hBr := hB.1
      have hxb36 := hr34.2.2.1
      have hle37 := hr34.1
      refine ⟨⟨hAr, hBr⟩, ?_⟩
      refine dtk [14] #[true, true, true, true, true, true, true, true, true, true, true, true, true, true, true] [(7, .int .i64 ((x32 : Nat) : Int))] ⟨hAr, hBr⟩ (by kernel_rfl) ?_
      refine d_done (by kernel_rfl) ?_
      refine W_fg [(0, .pointer (some ⟨p, 0, none⟩)), (1, .slice A mm ca), (2, .slice B mm cb), (6, .int .i64 0), (7, .int .i64 ((x32 : Nat) : Int)), (8, .int .i64 ((i : Nat) : Int)), (18, .int .i64 (mm : Int)), (19, .int .i64 ((i : Nat) : Int)), (20, .bool (decide (((i : Nat) : Int) < (mm : Int))))] (by kernel_rfl) fun ρ => ?_
      refine W_region (by kernel_rfl) ?_
      refine sg [(36, .int .i64 (IntKind.i64.wrap (((i : Nat) : Int) + 1)))] (by kernel_rfl) ?_
      rw [show IntKind.i64.wrap (((i : Nat) : Int) + 1) = ((i : Nat) : Int) + 1 from wrap_i64 (by omega) (by omega)]
      refine fixR (y := ((i + 1 : Nat) : Int)) (by omega) ?_
      refine sg [(19, .int .i64 ((i + 1 : Nat) : Int))] (by kernel_rfl) ?_
      refine op_nil ?_
      refine ⟨_, ?_, F29, n30, cs31, x32, i + 1, _, updL_self (by kernel_rfl), ?_, (Lw.of hr34).eq (fun be hm => by show (lt_ be y && lt_ be (GateP.nt x19)) = _; rw [lt_nt, hy.2 be ((hm.sub hr34.2.1).sub hr21.2.1), hr21.2.2.2 be (hm.sub hr34.2.1)]; rfl), by omega, (fun c hc => hr34.2.1 c (hr21.2.1 c (hsub c hc))), by omega, hG, hMv, hA, hAr, hB, hBr, rfl⟩
      · omega
      · omega
    · replace hc11 : (mm : Int) ≤ ((i : Nat) : Int) := (Int.not_lt.1 (of_decide_eq_false hc11))
      refine W_exit ?_
      refine X_hit ?_
      refine W_seq ?_
      refine W_region (by kernel_rfl) ?_
      refine sg [(37, .int .i64 ((y : Nat) : Int)), (6, .int .i64 ((y : Nat) : Int))] (by kernel_rfl) ?_
      refine op_nil ?_
      refine W_ret ?_
      exact ⟨_, Res_of (v := .int .i64 ((y : Nat) : Int)) (by kernel_rfl), ⟨F1, n1, cs1, y, rfl, hG, hMv, ⟨hle, hsub, hy.1, fun be hm => by rw [hy.2 be hm, show i = mm by omega]⟩, by omega⟩⟩

set_option maxRecDepth 100000 in
theorem less_ok (F : Nat → Prop) (p n mm ca cb : Nat) (A B : Option Addr) (a b : List Nat)  (cs : List (List Nat)) (I : Nat → Prop) (w : World) (hG : GObj F w p n cs I) (hA : RdX F w mm A (nats a)) (hB : RdX F w mm B (nats b)) (hfa : ∀ j, j < mm → a.getD j 0 / 2 < n) (hfb : ∀ j, j < mm → b.getD j 0 / 2 < n) (hm : 0 < mm) (hm2 : mm ≤ 1000) (hn : n ≤ 50000000000) : Ret Try.prog 43 [.pointer (some ⟨p, 0, none⟩), .slice A mm ca, .slice B mm cb] w fun v w' => GRet F p n cs I w (2 * mm) (fun be => lsB (fun j => lt_ be (a.getD j 0)) (fun j => lt_ be (b.getD j 0)) mm) v w' := by
  have hMv := Mv.refl F w
  have hla : a.length = mm := by have := hA.1.1; rw [nats_length] at this; omega
  have hlb : b.length = mm := by have := hB.1.1; rw [nats_length] at this; omega
  have hAr := hA.1
  have hBr := hB.1
  have lt_hA := hA.lt
  have lt_hB := hB.lt
  have ge_hA : ∀ c, blkOf A = some c → 0 ≤ c := fun c _ => Nat.zero_le c
  have ge_hB : ∀ c, blkOf B = some c → 0 ≤ c := fun c _ => Nat.zero_le c
  have hff_a := hfa
  have hff_b := hfb
  have hpos := hG.2.pos
  refine enter Try.func43 rfl rfl ?_
  refine W_seq ?_
  refine W_region (by kernel_rfl) ?_
  refine sg [(6, .int .i64 0)] (by kernel_rfl) ?_
  refine op_nil ?_
  refine W_seq ?_
  refine W_seq ?_
  refine W_region (by kernel_rfl) ?_
  refine sg [(9, .pointer (some ⟨p, 0, none⟩)), (10, .slice A mm ca), (11, .slice B mm cb)] (by kernel_rfl) ?_
  have hlt_ := hG.1.lt
  have hz5 := hMv.1.size
  refine st (by rfl) (S_new (v := .slice (some ⟨w.heap.size, 0, none⟩) 2 2) (ob := .cells #[.slice A mm ca, .slice B mm cb] 27) (by kernel_rfl) fun w1 hT2 hs3 hB4 => ?_)
  replace hB4 : Blk w1 (w.heap.size) 27 [.slice A mm ca, .slice B mm cb] := hB4
  have hG := hG.tch0 hT2
  have hMv := hMv.then0 hT2
  have hA := hA.tch0 hT2
  have hAr := hA.1
  have hB := hB.tch0 hT2
  have hBr := hB.1
  have nF_hB4 : ¬ F (w.heap.size) := fun e => by have := hlt_ _ e; omega
  refine st (by rfl) (S_call (args := [.pointer (some ⟨p, 0, none⟩), .slice (some ⟨w.heap.size, 0, none⟩) 2 2]) (by kernel_rfl) (fine_nats p (w.heap.size) mm ca cb A B _ _ _ hB4 hAr hBr (by omega)) ?_)
  rintro _ w6 ⟨rfl, hT7⟩
  have hG := hG.tch0 hT7
  have hMv := hMv.then0 hT7
  have hA := hA.tch0 hT7
  have hAr := hA.1
  have hB := hB.tch0 hT7
  have hBr := hB.1
  have hB4 := hB4.tch0 hT7
  refine sg [(14, .bool false)] (by kernel_rfl) ?_
  refine op_nil ?_
  refine W_cond false (by kernel_rfl) (by kernel_rfl) (fun h => nomatch h) (fun _ => ?_)
  refine W_skip ?_
  refine W_seq ?_
  refine W_region (by kernel_rfl) ?_
  refine sg [(15, .pointer (some ⟨p, 0, none⟩))] (by kernel_rfl) ?_
  refine st (by rfl) (S_call (args := [.pointer (some ⟨p, 0, none⟩)]) (by kernel_rfl) (true_ok p _) ?_)
  rintro _ w8 ⟨rfl, hT9⟩
  have hG := hG.tch0 hT9
  have hMv := hMv.then0 hT9
  have hA := hA.tch0 hT9
  have hAr := hA.1
  have hB := hB.tch0 hT9
  have hBr := hB.1
  have hB4 := hB4.tch0 hT9
  refine st (by rfl) (S_call (args := [.int .i64 0]) (by kernel_rfl) (not_ok 0 _ (by omega)) ?_)
  rintro _ w10 ⟨rfl, hT11⟩
  have hG := hG.tch0 hT11
  have hMv := hMv.then0 hT11
  have hA := hA.tch0 hT11
  have hAr := hA.1
  have hB := hB.tch0 hT11
  have hBr := hB.1
  have hB4 := hB4.tch0 hT11
  have hnt12 := GateP.nt_div 0
  refine sg [(7, .int .i64 ((GateP.nt 0 : Nat) : Int))] (by kernel_rfl) ?_
  refine op_nil ?_
  refine W_seq ?_
  refine W_seq ?_
  refine W_fg [(0, .pointer (some ⟨p, 0, none⟩)), (1, .slice A mm ca), (2, .slice B mm cb), (6, .int .i64 0), (7, .int .i64 ((GateP.nt 0 : Nat) : Int)), (14, .bool false)] (by kernel_rfl) fun ρ => ?_
  refine W_region (by kernel_rfl) ?_
  refine sg [(18, .slice A mm ca), (19, .int .i64 (mm : Int)), (20, .int .i64 0)] (by kernel_rfl) ?_
  refine op_nil ?_
  refine W_block ?_
  refine W_loop (fun m ρ w' => ∃ (F1 : Nat → Prop) (n1 : Nat) (cs1 : List (List Nat)) (y i : Nat) (ρ0 : Env), ρ = updL ρ0 [(0, .pointer (some ⟨p, 0, none⟩)), (1, .slice A mm ca), (2, .slice B mm cb), (6, .int .i64 0), (7, .int .i64 ((y : Nat) : Int)), (19, .int .i64 (mm : Int)), (20, .int .i64 ((i : Nat) : Int))] ∧ (i ≤ mm) ∧ (Lw n1 cs1 y (fun be => lsB (fun j => lt_ be (a.getD j 0)) (fun j => lt_ be (b.getD j 0)) i)) ∧ (n ≤ n1) ∧ (∀ c, c ∈ cs → c ∈ cs1) ∧ (n1 ≤ n + 2 * i) ∧ GObj F1 w' p n1 cs1 I ∧ Mv F F1 w w' ∧ RdX F1 w' mm A (nats a) ∧ RdW w' 1 mm A (nats a) ∧ RdX F1 w' mm B (nats b) ∧ RdW w' 1 mm B (nats b) ∧ m = mm - i) (m := mm - 0) ?_ ?_
  · refine ⟨F, n, cs, GateP.nt 0, 0, _, updL_self (by kernel_rfl), by omega, ⟨by have := hG.2.pos; show (1 : Nat) / 2 < _; omega, fun be hm => hG.2.t1 hm⟩, by omega, (fun _ h => h), by omega, hG, hMv, hA, hAr, hB, hBr, rfl⟩
  · rintro m ρ w13 ⟨F1, n1, cs1, y, i, ρ, rfl, hi, hy, hle, hsub, hd, hG, hMv, hA, hAr, hB, hBr, rfl⟩
    have fa := fun q : i < mm => hfa i q
    have fb := fun q : i < mm => hfb i q
    have hpos := hG.2.pos
    have hyf := hy.1
    refine W_seq ?_
    refine W_region (by kernel_rfl) ?_
    refine sg [(21, .bool (decide (((i : Nat) : Int) < (mm : Int))))] (by kernel_rfl) ?_
    refine op_nil ?_
    refine W_seq ?_
    refine W_cond (decide (((i : Nat) : Int) < (mm : Int))) (by kernel_rfl) (by kernel_rfl) (fun hc14 => ?_) (fun hc14 => ?_)
    · replace hc14 : ((i : Nat) : Int) < (mm : Int) := (of_decide_eq_true hc14)
      refine W_skip ?_
      refine W_seq ?_
      refine W_block ?_
      refine W_seq ?_
      refine W_region (by kernel_rfl) ?_
      refine sg [(22, .int .i64 ((i : Nat) : Int)), (8, .int .i64 ((i : Nat) : Int))] (by kernel_rfl) ?_
      refine op_nil ?_
      refine W_draw (fun w' => RdW w' 1 mm A (nats a) ∧ RdW w' 1 mm B (nats b)) (by kernel_rfl) (by kernel_rfl) (by kernel_rfl) fun w15 hT16 hh17 => ?_
      have hG := hG.tch0 hT16
      have hMv := hMv.then0 hT16
      have hA := hA.tch0 hT16
      have hAr := hA.1
      have hB := hB.tch0 hT16
      have hBr := hB.1
      refine dtk [0, 1, 2, 3, 6, 7, 11, 12, 15] #[true, true, true, true, false, false, true, true, false, false, false, true, true, false, false, true, false, false] [(23, .pointer (some ⟨p, 0, none⟩)), (24, .pointer (some ⟨p, 0, none⟩)), (25, .slice A mm ca), (26, .int .i64 ((i : Nat) : Int)), (29, .slice B mm cb), (30, .int .i64 ((i : Nat) : Int)), (34, .slice B mm cb), (35, .int .i64 ((i : Nat) : Int)), (38, .int .i64 ((y : Nat) : Int))] ⟨hAr, hBr⟩ (by kernel_rfl) ?_
      refine d_val (v := ptrAt A i) 4 (by rfl) (by kernel_rfl) (by kernel_rfl) (by kernel_rfl) (fun w' hs => by obtain ⟨hAr, hBr⟩ := hs; exact R_indexRd1 (len := mm) (cap := ca) (k := .i64) (i := ((i : Nat) : Int)) (e := 3) i hAr (by kernel_rfl) (by kernel_rfl) (by kernel_rfl) (by kernel_rfl) rfl (by omega)) ⟨hAr, hBr⟩ ?_
      refine d_val (v := .int .i64 ((a.getD i 0 : Nat) : Int)) 5 (by rfl) (by kernel_rfl) (by kernel_rfl) (by kernel_rfl) (fun w' hs => by obtain ⟨hAr, hBr⟩ := hs; exact R_loadRd (v := .int .i64 ((a.getD i 0 : Nat) : Int)) hAr (by omega) (by kernel_rfl) (by kernel_rfl) (nats_at (l := a) (by omega))) ⟨hAr, hBr⟩ ?_
      refine d_val (v := ptrAt B i) 8 (by rfl) (by kernel_rfl) (by kernel_rfl) (by kernel_rfl) (fun w' hs => by obtain ⟨hAr, hBr⟩ := hs; exact R_indexRd1 (len := mm) (cap := cb) (k := .i64) (i := ((i : Nat) : Int)) (e := 3) i hBr (by kernel_rfl) (by kernel_rfl) (by kernel_rfl) (by kernel_rfl) rfl (by omega)) ⟨hAr, hBr⟩ ?_
      refine d_val (v := .int .i64 ((b.getD i 0 : Nat) : Int)) 9 (by rfl) (by kernel_rfl) (by kernel_rfl) (by kernel_rfl) (fun w' hs => by obtain ⟨hAr, hBr⟩ := hs; exact R_loadRd (v := .int .i64 ((b.getD i 0 : Nat) : Int)) hBr (by omega) (by kernel_rfl) (by kernel_rfl) (nats_at (l := b) (by omega))) ⟨hAr, hBr⟩ ?_
      refine d_val (v := ptrAt B i) 13 (by rfl) (by kernel_rfl) (by kernel_rfl) (by kernel_rfl) (fun w' hs => by obtain ⟨hAr, hBr⟩ := hs; exact R_indexRd1 (len := mm) (cap := cb) (k := .i64) (i := ((i : Nat) : Int)) (e := 3) i hBr (by kernel_rfl) (by kernel_rfl) (by kernel_rfl) (by kernel_rfl) rfl (by omega)) ⟨hAr, hBr⟩ ?_
      refine d_val (v := .int .i64 ((b.getD i 0 : Nat) : Int)) 14 (by rfl) (by kernel_rfl) (by kernel_rfl) (by kernel_rfl) (fun w' hs => by obtain ⟨hAr, hBr⟩ := hs; exact R_loadRd (v := .int .i64 ((b.getD i 0 : Nat) : Int)) hBr (by omega) (by kernel_rfl) (by kernel_rfl) (nats_at (l := b) (by omega))) ⟨hAr, hBr⟩ ?_
      refine d_one 10 (by kernel_rfl) (by rfl) (by kernel_rfl) (S_call (args := [.pointer (some ⟨p, 0, none⟩), .int .i64 ((a.getD i 0 : Nat) : Int), .int .i64 ((b.getD i 0 : Nat) : Int)]) (by kernel_rfl) (xor_ok F1 p n1 (a.getD i 0) (b.getD i 0) cs1 I _ hG (by omega) (by omega) (by omega)) ?_)
      rintro _ w18 ⟨F19, n20, cs21, x22, rfl, hG, hm23, hr24, hd25⟩
      have hMv := hMv.trans hm23
      have hA := hA.mv hm23
      have hAr := hA.1
      have hB := hB.mv hm23
      have hBr := hB.1
      have hxb26 := hr24.2.2.1
      have hle27 := hr24.1
      refine ⟨⟨hAr, hBr⟩, ?_⟩
      refine d_one 16 (by kernel_rfl) (by rfl) (by kernel_rfl) (S_call (args := [.pointer (some ⟨p, 0, none⟩), .int .i64 ((x22 : Nat) : Int), .int .i64 ((b.getD i 0 : Nat) : Int), .int .i64 ((y : Nat) : Int)]) (by kernel_rfl) (ite_ok F19 p n20 x22 (b.getD i 0) y cs21 I _ hG (by omega) (by omega) (by omega) (by omega)) ?_)
      rintro _ w28 ⟨F29, n30, cs31, x32, rfl, hG, hm33, hr34, hd35⟩
      have hMv := hMv.trans hm33
      have hA := hA.mv hm33
      have hAr := hA.1
      have hB := hB.mv hm33
      have hBr := hB.1
      have hxb36 := hr34.2.2.1
      have hle37 := hr34.1
      refine ⟨⟨hAr, hBr⟩, ?_⟩
      refine dtk [17] #[true, true, true, true, true, true, true, true, true, true, true, true, true, true, true, true, true, true] [(7, .int .i64 ((x32 : Nat) : Int))] ⟨hAr, hBr⟩ (by kernel_rfl) ?_
      refine d_done (by kernel_rfl) ?_
      refine W_fg [(0, .pointer (some ⟨p, 0, none⟩)), (1, .slice A mm ca), (2, .slice B mm cb), (6, .int .i64 0), (7, .int .i64 ((x32 : Nat) : Int)), (8, .int .i64 ((i : Nat) : Int)), (19, .int .i64 (mm : Int)), (20, .int .i64 ((i : Nat) : Int)), (21, .bool (decide (((i : Nat) : Int) < (mm : Int))))] (by kernel_rfl) fun ρ => ?_
      refine W_region (by kernel_rfl) ?_
      refine sg [(40, .int .i64 (IntKind.i64.wrap (((i : Nat) : Int) + 1)))] (by kernel_rfl) ?_
      rw [show IntKind.i64.wrap (((i : Nat) : Int) + 1) = ((i : Nat) : Int) + 1 from wrap_i64 (by omega) (by omega)]
      refine fixR (y := ((i + 1 : Nat) : Int)) (by omega) ?_
      refine sg [(20, .int .i64 ((i + 1 : Nat) : Int))] (by kernel_rfl) ?_
      refine op_nil ?_
      refine ⟨_, ?_, F29, n30, cs31, x32, i + 1, _, updL_self (by kernel_rfl), ?_, (Lw.of hr34).eq (fun be hm => by show ite_ (lt_ be x22) (lt_ be (b.getD i 0)) (lt_ be y) = _; rw [hy.2 be ((hm.sub hr34.2.1).sub hr24.2.1), hr24.2.2.2 be (hm.sub hr34.2.1)]; rfl), by omega, (fun c hc => hr34.2.1 c (hr24.2.1 c (hsub c hc))), by omega, hG, hMv, hA, hAr, hB, hBr, rfl⟩
      · omega
      · omega
    · replace hc14 : (mm : Int) ≤ ((i : Nat) : Int) := (Int.not_lt.1 (of_decide_eq_false hc14))
      refine W_exit ?_
      refine X_hit ?_
      refine W_seq ?_
      refine W_region (by kernel_rfl) ?_
      refine sg [(41, .int .i64 ((y : Nat) : Int)), (6, .int .i64 ((y : Nat) : Int))] (by kernel_rfl) ?_
      refine op_nil ?_
      refine W_ret ?_
      exact ⟨_, Res_of (v := .int .i64 ((y : Nat) : Int)) (by kernel_rfl), ⟨F1, n1, cs1, y, rfl, hG, hMv, ⟨hle, hsub, hy.1, fun be hm => by rw [hy.2 be hm, show i = mm by omega]⟩, by omega⟩⟩

end Go.Proofs.YtnlecdpiccgdpaaV
