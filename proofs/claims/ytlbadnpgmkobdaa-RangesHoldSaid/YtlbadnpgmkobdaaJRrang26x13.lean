/- Texts laid together: Walks of functions of the program and of the document's texts. The conditions stand with each theorem. An argument that is a row of words, opened. Walks of functions of the program and of the document's texts. The conditions stand with each theorem. -/
import Derived.Test.YtlbadnpgmkobdaaJRrang26x1
import Derived.Test.YtlbadnpgmkobdaaProg
import Derived.Test.YtlbadnpgmkobdaaJRrang26x12
import Derived.Test.YtlbadnpgmkobdaaJRrang26x4
import Derived.Test.YtlbadnpgmkobdaaJRrang26x8
set_option linter.unusedVariables false
set_option linter.unusedSimpArgs false
namespace Go.Proofs.YtlbadnpgmkobdaaV
open Go Go.RowKit Go.Proofs

set_option maxRecDepth 100000 in
set_option maxHeartbeats 4000000 in
theorem buildq_ok (Q : List Nd → Prop) (mo : Int) (L : Option Addr) (mm cl : Nat) (cells : List Value) (ds : Nat → Int × Int × Int × Int × Int × Int) (w : World) (hL : RdW w 6 mm L cells) (hDs : Deeds6 mm cells ds) (hm : mm ≤ 150) (hQ0 : Q []) (hQ : ∀ N k w a b c x, TJ N (newM mo) → Q N → Q (madeF N (newM mo) k w a b c x).2.2) : Ret Try.prog 13 [.int .i64 mo, .slice L mm cl] w fun v w' => ∃ p F A cp N, v = .tuple #[.pointer (some ⟨p, 0, none⟩), .agg #[.slice A N.length cp, .int .i64 (newM mo)]] ∧ Q N ∧ TObj F w' p (newM mo) N ∧ Own w' 0 32 6 (.slice A N.length cp) N.length (ncs N) ∧ (∀ b, F b → w.heap.size ≤ b) ∧ (∀ c, (Value.slice A N.length cp).ownBlock = some c → w.heap.size ≤ c ∧ ¬ F c) ∧ Tch N0 w w' := by
 refine enter Try.func13 rfl rfl ?_
 refine zQ ?_
 refine zS [(4, .pointer none)] ?_
 refine st (by rfl) (S_new (v := .pointer (some ⟨w.heap.size, 0, none⟩)) (ob := .cells #[.slice none 0 0, .int .i64 0] 27) (by kernel_rfl) fun w1 hT2 hs3 hB4 => ?_)
 replace hB4 : Blk w1 (w.heap.size) 27 [.slice none 0 0, .int .i64 0] := hB4
 have hT0 := hT2
 refine op_nil ?_
 refine zQ ?_
 refine zS [(14, .int .i64 mo)] ?_
 have hz_ := hT0.size
 have lt9 := hB4.lt
 refine zC (new_ok mo _) ?_
 rintro _ w5 ⟨p7, F8, rfl, hO, hT6, hFb⟩
 have hT0 := hT0.t0 hT6
 have hB4 := hB4.tch0 hT6
 have nF_hB4 : ¬ F8 (w.heap.size) := fun e => by have := hFb _ e; omega
 replace hFb := fun b hb => Nat.le_trans hz_ (hFb b hb)
 refine zS [(16, .int .i64 mo)] ?_
 refine zC (rnew_ok mo _) ?_
 rintro _ w10 ⟨rfl, hT11⟩
 have hT0 := hT0.t0 hT11
 have hB4 := hB4.tch0 hT11
 have hO := hO.tch0 hT11
 have hlt_ := hO.1.lt
 have lt16 := hB4.lt
 have z17 := hT0.size
 have l18 := hB4.lt
 refine st (by rfl) (S_new (v := .pointer (some ⟨w10.heap.size, 0, none⟩)) (ob := .cells #[.slice none 0 0, .int .i64 0] 27) (by kernel_rfl) fun w12 hT13 hs14 hB15 => ?_)
 replace hB15 : Blk w12 (w10.heap.size) 27 [.slice none 0 0, .int .i64 0] := hB15
 have hT0 := hT0.t0 hT13
 have hB4 := hB4.tch0 hT13
 have hO := hO.tch0 hT13
 have nF_hB15 : ¬ F8 (w10.heap.size) := fun e => by have := hlt_ _ e; omega
 refine zS [(6, .pointer (some ⟨p7, 0, none⟩))] ?_
 refine st (by rfl) (S_storeA (b := w10.heap.size) (j := 0) (cs := [.slice none 0 0, .int .i64 (newM mo)]) (by kernel_rfl) (by kernel_rfl) (by kernel_rfl) (by simp [oneV]) hB15 (by simp) fun w19 hT20 hs21 hB15' => ?_)
 have hT0 := (hT0).then hT20 (fun c e => by have : c = w10.heap.size := e; omega)
 have hB4 := hB4.tch hT20 (fun e => by have : w.heap.size = w10.heap.size := e; omega)
 have hO := hO.tchS hT20 (fun c e q => by cases e; exact nF_hB15 q)
 replace hB15 : Blk w19 w10.heap.size 27 [.slice none 0 0, .int .i64 (newM mo)] := hB15'
 refine op_nil ?_
 refine W_seq ?_
 refine W_seq ?_
 refine zF [(0, .int .i64 mo), (1, .slice L mm cl), (4, .pointer none), (5, .pointer (some ⟨w.heap.size, 0, none⟩)), (6, .pointer (some ⟨p7, 0, none⟩)), (7, .pointer (some ⟨w10.heap.size, 0, none⟩))] fun ρ => ?_
 refine zR ?_
 refine zS [(18, .pointer (some ⟨p7, 0, none⟩)), (19, .bool false)] ?_
 refine zO false (fun h => nomatch h) (fun _ => ?_)
 refine W_skip ?_
 refine W_seq ?_
 refine zQ ?_
 refine zS [(8, .int .i64 0)] ?_
 refine op_nil ?_
 refine W_block ?_
 refine W_loop (fun m ρ w' => ∃ (F : Nat → Prop) (A : Option Addr) (cp : Nat) (N : List Nd) (i : Nat) (ρ0 : Env), ρ = updL ρ0 [(0, .int .i64 mo), (1, .slice L mm cl), (4, .pointer none), (5, .pointer (some ⟨w.heap.size, 0, none⟩)), (6, .pointer (some ⟨p7, 0, none⟩)), (7, .pointer (some ⟨w10.heap.size, 0, none⟩)), (8, .int .i64 ((i : Nat) : Int))] ∧ (i ≤ mm) ∧ (∀ b, F b → w.heap.size ≤ b) ∧ (∀ c, (Value.slice A N.length cp).ownBlock = some c → w.heap.size ≤ c) ∧ (∀ c, (Value.slice A N.length cp).ownBlock = some c → ¬ F c) ∧ (¬ F (w10.heap.size)) ∧ (¬ F (w.heap.size)) ∧ (Q N) ∧ Tch N0 w w' ∧ TObj F w' p7 (newM mo) N ∧ Blk w' (w10.heap.size) 27 [.slice A N.length cp, .int .i64 (newM mo)] ∧ Blk w' (w.heap.size) 27 [.slice none 0 0, .int .i64 0] ∧ Own w' 0 32 6 (.slice A N.length cp) N.length (ncs N) ∧ RdW w' 6 mm L cells ∧ m = mm - i) (m := mm - 0) ?_ ?_
 ·
  refine ⟨F8, none, 0, [], 0, _, updL_self (by kernel_rfl), by omega, hFb, (fun c h => by cases h), (fun c h => by cases h), nF_hB15, nF_hB4, hQ0, hT0, hO, hB15, hB4, (Own.nil_ _ _ _ _), hL.tch0 hT0, rfl⟩
 ·
  rintro m ρ w22 ⟨F, A, cp, N, i, ρ, rfl, hi, hFb, nB_hD, nF_hD, nF_hBD, nF_hBR, hQN, hT0, hO, hBD, hBR, hD, hLc, rfl⟩
  have hJ0 := hO.2
  have ln0 := hO.2.ti.len
  have lm0 := hO.2.ti.most
  refine W_seq ?_
  refine zQ ?_
  refine zS [(21, .int .i64 ((i : Nat) : Int)), (22, .slice L mm cl), (23, .int .i64 (mm : Int)), (24, .bool (decide (((i : Nat) : Int) < (mm : Int))))] ?_
  refine zO (decide (((i : Nat) : Int) < (mm : Int))) (fun hc23 => ?_) (fun hc23 => ?_)
  ·
   replace hc23 : ((i : Nat) : Int) < (mm : Int) := (of_decide_eq_true hc23)
   refine W_skip ?_
   refine W_seq ?_
   refine W_block ?_
   refine zQ ?_
   refine zS [(28, .pointer (some ⟨p7, 0, none⟩)), (29, .slice L mm cl), (30, .int .i64 ((i : Nat) : Int))] ?_
   refine stv (v := ptrAt L (i * 6)) (by rfl) (R_indexRd (sz := 6) (len := mm) (cap := cl) (k := .i64) (i := ((i : Nat) : Int)) (e := 44) i hLc (by kernel_rfl) (by kernel_rfl) (by kernel_rfl) (by kernel_rfl) rfl (by omega)) ?_
   refine stv (v := .agg #[.int .i64 ((ds i).1), .int .i64 ((ds i).2.1), .int .i64 ((ds i).2.2.1), .int .i64 ((ds i).2.2.2.1), .int .i64 ((ds i).2.2.2.2.1), .int .u64 ((ds i).2.2.2.2.2)]) (by rfl) (R_loadRdA [.int .i64 ((ds i).1), .int .i64 ((ds i).2.1), .int .i64 ((ds i).2.2.1), .int .i64 ((ds i).2.2.2.1), .int .i64 ((ds i).2.2.2.2.1), .int .u64 ((ds i).2.2.2.2.2)] hLc (by omega) (by kernel_rfl) (by kernel_rfl) (by kernel_rfl) (hDs.part (by omega))) ?_
   have hz_ := hT0.size
   have lt27 := hBD.lt
   have lt28 := hBR.lt
   have lD_ := hD.lt
   obtain ⟨_, b0, b1, b2, b3, b4, b5⟩ := hDs i (by omega)
   refine zC (made_ok F p7 (newM mo) N ((ds i).1) ((ds i).2.1) ((ds i).2.2.1) ((ds i).2.2.2.1) ((ds i).2.2.2.2.1) ((ds i).2.2.2.2.2) _ hO b0 b1 b2 b3 b4 b5) ?_
   rintro _ w24 ⟨rfl, F25, hO, hm26⟩
   have hT0 := (hT0).then hm26.1 hFb
   have hBD := hBD.tch hm26.1 nF_hBD
   have hBR := hBR.tch hm26.1 nF_hBR
   have hD := hD.tch hm26.1 nF_hD
   have hLc := hL.tch0 hT0
   replace nF_hBD : ¬ F25 (w10.heap.size) := fun e => (hm26.2 _ e).elim nF_hBD (fun q => by omega)
   replace nF_hBR : ¬ F25 (w.heap.size) := fun e => (hm26.2 _ e).elim nF_hBR (fun q => by omega)
   replace nF_hD : ∀ c, (Value.slice A N.length cp).ownBlock = some c → ¬ F25 c := fun c hc e => (hm26.2 _ e).elim (nF_hD c hc) (fun q => by have := lD_ c hc; omega)
   replace hFb := hm26.ge hFb hz_
   refine zS [(27, .tuple #[.int .i64 ((madeF N (newM mo) ((ds i).1) ((ds i).2.1) ((ds i).2.2.1) ((ds i).2.2.2.1) ((ds i).2.2.2.2.1) ((ds i).2.2.2.2.2)).1), .int .i64 ((madeF N (newM mo) ((ds i).1) ((ds i).2.1) ((ds i).2.2.1) ((ds i).2.2.2.1) ((ds i).2.2.2.2.1) ((ds i).2.2.2.2.2)).2.1)]), (34, .int .i64 ((madeF N (newM mo) ((ds i).1) ((ds i).2.1) ((ds i).2.2.1) ((ds i).2.2.2.1) ((ds i).2.2.2.2.1) ((ds i).2.2.2.2.2)).1)), (35, .int .i64 ((madeF N (newM mo) ((ds i).1) ((ds i).2.1) ((ds i).2.2.1) ((ds i).2.2.2.1) ((ds i).2.2.2.2.1) ((ds i).2.2.2.2.2)).2.1)), (9, .int .i64 ((madeF N (newM mo) ((ds i).1) ((ds i).2.1) ((ds i).2.2.1) ((ds i).2.2.2.1) ((ds i).2.2.2.2.1) ((ds i).2.2.2.2.2)).1)), (10, .int .i64 ((madeF N (newM mo) ((ds i).1) ((ds i).2.1) ((ds i).2.2.1) ((ds i).2.2.2.1) ((ds i).2.2.2.2.1) ((ds i).2.2.2.2.2)).2.1))] ?_
   refine op_nil ?_
   refine W_seq ?_
   refine zF [(0, .int .i64 mo), (1, .slice L mm cl), (4, .pointer none), (5, .pointer (some ⟨w.heap.size, 0, none⟩)), (6, .pointer (some ⟨p7, 0, none⟩)), (7, .pointer (some ⟨w10.heap.size, 0, none⟩)), (8, .int .i64 ((i : Nat) : Int)), (9, .int .i64 ((madeF N (newM mo) ((ds i).1) ((ds i).2.1) ((ds i).2.2.1) ((ds i).2.2.2.1) ((ds i).2.2.2.2.1) ((ds i).2.2.2.2.2)).1)), (10, .int .i64 ((madeF N (newM mo) ((ds i).1) ((ds i).2.1) ((ds i).2.2.1) ((ds i).2.2.2.1) ((ds i).2.2.2.2.1) ((ds i).2.2.2.2.2)).2.1)), (24, .bool (decide (((i : Nat) : Int) < (mm : Int))))] fun ρ => ?_
   refine W_draw (fun w' => Blk w' (w10.heap.size) 27 [.slice A N.length cp, .int .i64 (newM mo)] ∧ RdW w' 6 mm L cells) (by kernel_rfl) (by kernel_rfl) (by kernel_rfl) fun w29 hT30 hh31 => ?_
   have hT0 := hT0.t0 hT30
   have hO := hO.tch0 hT30
   have hBD := hBD.tch0 hT30
   have hBR := hBR.tch0 hT30
   have hD := hD.tch0 hT30
   have hLc := hL.tch0 hT0
   refine zK [1, 2] #[false, true, true, false, false, false, false, false, false, false, false, false, false, false] [(38, .slice L mm cl), (39, .int .i64 ((i : Nat) : Int))] ⟨hBD, hLc⟩ ?_
   refine zV 0 rfl (.agg #[.slice A N.length cp, .int .i64 (newM mo)]) (fun _ ⟨hBD, hLc⟩ => R_loadA [.slice A N.length cp, .int .i64 (newM mo)] (by kernel_rfl) (by kernel_rfl) (by kernel_rfl) (fun k u hk => by rw [hBD.cell]; exact get_part _ 0 _ k u rfl hk)) ⟨hBD, hLc⟩ ?_
   refine zV 3 rfl (ptrAt L (i * 6)) (fun _ ⟨hBD, hLc⟩ => R_indexRd (sz := 6) (len := mm) (cap := cl) (k := .i64) (i := ((i : Nat) : Int)) (e := 44) i hLc (by kernel_rfl) (by kernel_rfl) (by kernel_rfl) (by kernel_rfl) rfl (by omega)) ⟨hBD, hLc⟩ ?_
   refine zV 4 rfl (.agg #[.int .i64 ((ds i).1), .int .i64 ((ds i).2.1), .int .i64 ((ds i).2.2.1), .int .i64 ((ds i).2.2.2.1), .int .i64 ((ds i).2.2.2.2.1), .int .u64 ((ds i).2.2.2.2.2)]) (fun _ ⟨hBD, hLc⟩ => R_loadRdA [.int .i64 ((ds i).1), .int .i64 ((ds i).2.1), .int .i64 ((ds i).2.2.1), .int .i64 ((ds i).2.2.2.1), .int .i64 ((ds i).2.2.2.2.1), .int .u64 ((ds i).2.2.2.2.2)] hLc (by omega) (by kernel_rfl) (by kernel_rfl) (by kernel_rfl) (hDs.part (by omega))) ⟨hBD, hLc⟩ ?_
   refine d_two 5 10 (by kernel_rfl) (by rfl) (by rfl) (by kernel_rfl) (by kernel_rfl) ?_ ?_
   ·
    have hzr := hT0.size
    have hl2 := hO.1.lt
    refine (S_call (args := [.agg #[.slice A N.length cp, .int .i64 (newM mo)], .agg #[.int .i64 ((ds i).1), .int .i64 ((ds i).2.1), .int .i64 ((ds i).2.2.1), .int .i64 ((ds i).2.2.2.1), .int .i64 ((ds i).2.2.2.2.1), .int .u64 ((ds i).2.2.2.2.2)]]) (by kernel_rfl) (meant_ok A cp (newM mo) N ((ds i).1) ((ds i).2.1) ((ds i).2.2.1) ((ds i).2.2.2.1) ((ds i).2.2.2.2.1) ((ds i).2.2.2.2.2) _ hD hJ0 b0 b1 b2 b3 b4 b5) ?_)
    rintro _ w32 ⟨A33, cp34, rfl, hD37, hw35, hT36⟩
    have hT0 := hT0.t0 hT36
    have hO := hO.tch0 hT36
    have hBD := hBD.tch0 hT36
    have hBR := hBR.tch0 hT36
    have hLc := hL.tch0 hT0
    have nB_hD37 : ∀ c, (Value.slice A33 (((madeF N (newM mo) ((ds i).1) ((ds i).2.1) ((ds i).2.2.1) ((ds i).2.2.2.1) ((ds i).2.2.2.2.1) ((ds i).2.2.2.2.2)).2.2).length) cp34).ownBlock = some c → w.heap.size ≤ c := fun c h => (hw35 c h).elim (nB_hD c) (fun q => by omega)
    have nF_hD37 : ∀ c, (Value.slice A33 (((madeF N (newM mo) ((ds i).1) ((ds i).2.1) ((ds i).2.2.1) ((ds i).2.2.2.1) ((ds i).2.2.2.2.1) ((ds i).2.2.2.2.2)).2.2).length) cp34).ownBlock = some c → ¬ F25 c := fun c h e => (hw35 c h).elim (fun q => nF_hD c q e) (fun q => by have := hl2 c e; omega)
    refine ⟨⟨hBD, hLc⟩, ?_⟩
    refine zK [6, 7, 8, 9] #[true, true, true, true, true, true, true, true, true, true, false, false, false, false] [(36, .tuple #[.agg #[.slice A33 (((madeF N (newM mo) ((ds i).1) ((ds i).2.1) ((ds i).2.2.1) ((ds i).2.2.2.1) ((ds i).2.2.2.2.1) ((ds i).2.2.2.2.2)).2.2).length) cp34, .int .i64 (newM mo)], .int .i64 ((madeF N (newM mo) ((ds i).1) ((ds i).2.1) ((ds i).2.2.1) ((ds i).2.2.2.1) ((ds i).2.2.2.2.1) ((ds i).2.2.2.2.2)).1), .int .i64 ((madeF N (newM mo) ((ds i).1) ((ds i).2.1) ((ds i).2.2.1) ((ds i).2.2.2.1) ((ds i).2.2.2.2.1) ((ds i).2.2.2.2.2)).2.1)]), (43, .agg #[.slice A33 (((madeF N (newM mo) ((ds i).1) ((ds i).2.1) ((ds i).2.2.1) ((ds i).2.2.2.1) ((ds i).2.2.2.2.1) ((ds i).2.2.2.2.2)).2.2).length) cp34, .int .i64 (newM mo)]), (44, .int .i64 ((madeF N (newM mo) ((ds i).1) ((ds i).2.1) ((ds i).2.2.1) ((ds i).2.2.2.1) ((ds i).2.2.2.2.1) ((ds i).2.2.2.2.2)).1)), (45, .int .i64 ((madeF N (newM mo) ((ds i).1) ((ds i).2.1) ((ds i).2.2.1) ((ds i).2.2.2.1) ((ds i).2.2.2.2.1) ((ds i).2.2.2.2.2)).2.1))] ⟨hBD, hLc⟩ ?_
    have hlt_ := hO.1.lt
    have lt42 := hBD.lt
    have lt43 := hBR.lt
    have lR_hD37 := hD37.lt
    have z44 := hT0.size
    have l45 := hBD.lt
    have l46 := hBR.lt
    refine zD 10 rfl (S_new (v := .pointer (some ⟨w32.heap.size, 0, none⟩)) (ob := .cells #[.slice none 0 0, .int .i64 0] 27) (by kernel_rfl) fun w38 hT39 hs40 hB41 => ?_)
    replace hB41 : Blk w38 (w32.heap.size) 27 [.slice none 0 0, .int .i64 0] := hB41
    have hT0 := hT0.t0 hT39
    have hO := hO.tch0 hT39
    have hBD := hBD.tch0 hT39
    have hBR := hBR.tch0 hT39
    have hLc := hL.tch0 hT0
    have hD37 := hD37.tch0 hT39
    have nF_hB41 : ¬ F25 (w32.heap.size) := fun e => by have := hlt_ _ e; omega
    refine ⟨⟨hBD, hLc⟩, ?_⟩
    refine zD 11 rfl (S_storeA (b := w32.heap.size) (j := 0) (cs := [.slice A33 (((madeF N (newM mo) ((ds i).1) ((ds i).2.1) ((ds i).2.2.1) ((ds i).2.2.2.1) ((ds i).2.2.2.2.1) ((ds i).2.2.2.2.2)).2.2).length) cp34, .int .i64 (newM mo)]) (by kernel_rfl) (by kernel_rfl) (by kernel_rfl) (by simp [oneV]) hB41 (by simp) fun w47 hT48 hs49 hB41' => ?_)
    have hT0 := (hT0).then hT48 (fun c e => by have : c = w32.heap.size := e; omega)
    have hO := hO.tchS hT48 (fun c e q => by cases e; exact nF_hB41 q)
    have hBD := hBD.tch hT48 (fun e => by have : w10.heap.size = w32.heap.size := e; omega)
    have hBR := hBR.tch hT48 (fun e => by have : w.heap.size = w32.heap.size := e; omega)
    have hLc := hL.tch0 hT0
    have hD37 := hD37.tch hT48 (fun c hc e => hD37.blk_ne hB41 (by decide) c hc e)
    replace hB41 : Blk w47 w32.heap.size 27 [.slice A33 (((madeF N (newM mo) ((ds i).1) ((ds i).2.1) ((ds i).2.2.1) ((ds i).2.2.2.1) ((ds i).2.2.2.2.1) ((ds i).2.2.2.2.2)).2.2).length) cp34, .int .i64 (newM mo)] := hB41'
    refine ⟨⟨hBD, hLc⟩, ?_⟩
    refine zK [12, 13] #[true, true, true, true, true, true, true, true, true, true, true, true, true, true] [(12, .int .i64 ((madeF N (newM mo) ((ds i).1) ((ds i).2.1) ((ds i).2.2.1) ((ds i).2.2.2.1) ((ds i).2.2.2.2.1) ((ds i).2.2.2.2.2)).1)), (13, .int .i64 ((madeF N (newM mo) ((ds i).1) ((ds i).2.1) ((ds i).2.2.1) ((ds i).2.2.2.1) ((ds i).2.2.2.2.1) ((ds i).2.2.2.2.2)).2.1))] ⟨hBD, hLc⟩ ?_
    refine d_done (by kernel_rfl) ?_
    refine W_seq ?_
    refine zF [(0, .int .i64 mo), (1, .slice L mm cl), (4, .pointer none), (5, .pointer (some ⟨w.heap.size, 0, none⟩)), (6, .pointer (some ⟨p7, 0, none⟩)), (7, .pointer (some ⟨w10.heap.size, 0, none⟩)), (8, .int .i64 ((i : Nat) : Int)), (9, .int .i64 ((madeF N (newM mo) ((ds i).1) ((ds i).2.1) ((ds i).2.2.1) ((ds i).2.2.2.1) ((ds i).2.2.2.2.1) ((ds i).2.2.2.2.2)).1)), (10, .int .i64 ((madeF N (newM mo) ((ds i).1) ((ds i).2.1) ((ds i).2.2.1) ((ds i).2.2.2.1) ((ds i).2.2.2.2.1) ((ds i).2.2.2.2.2)).2.1)), (11, .pointer (some ⟨w32.heap.size, 0, none⟩)), (12, .int .i64 ((madeF N (newM mo) ((ds i).1) ((ds i).2.1) ((ds i).2.2.1) ((ds i).2.2.2.1) ((ds i).2.2.2.2.1) ((ds i).2.2.2.2.2)).1)), (13, .int .i64 ((madeF N (newM mo) ((ds i).1) ((ds i).2.1) ((ds i).2.2.1) ((ds i).2.2.2.1) ((ds i).2.2.2.2.1) ((ds i).2.2.2.2.2)).2.1)), (24, .bool (decide (((i : Nat) : Int) < (mm : Int))))] fun ρ => ?_
    refine zR ?_
    refine st (by rfl) (S_val (v := .agg #[.slice A33 (((madeF N (newM mo) ((ds i).1) ((ds i).2.1) ((ds i).2.2.1) ((ds i).2.2.2.1) ((ds i).2.2.2.2.1) ((ds i).2.2.2.2.2)).2.2).length) cp34, .int .i64 (newM mo)]) (R_loadA [.slice A33 (((madeF N (newM mo) ((ds i).1) ((ds i).2.1) ((ds i).2.2.1) ((ds i).2.2.2.1) ((ds i).2.2.2.2.1) ((ds i).2.2.2.2.2)).2.2).length) cp34, .int .i64 (newM mo)] (by kernel_rfl) (by kernel_rfl) (by kernel_rfl) (fun k u hk => by rw [hB41.cell]; exact get_part _ 0 _ k u rfl hk)) ?_)
    refine st (by rfl) (S_storeA (b := w10.heap.size) (j := 0) (cs := [.slice A33 (((madeF N (newM mo) ((ds i).1) ((ds i).2.1) ((ds i).2.2.1) ((ds i).2.2.2.1) ((ds i).2.2.2.2.1) ((ds i).2.2.2.2.2)).2.2).length) cp34, .int .i64 (newM mo)]) (by kernel_rfl) (by kernel_rfl) (by kernel_rfl) (by simp [oneV]) hBD (by simp) fun w50 hT51 hs52 hBD' => ?_)
    have hT0 := (hT0).then hT51 (fun c e => by have : c = w10.heap.size := e; omega)
    have hO := hO.tchS hT51 (fun c e q => by cases e; exact nF_hBD q)
    have hBR := hBR.tch hT51 (fun e => by have : w.heap.size = w10.heap.size := e; omega)
    have hLc := hL.tch0 hT0
    have hD37 := hD37.tch hT51 (fun c hc e => hD37.blk_ne hBD (by decide) c hc e)
    have hB41 := hB41.tch hT51 (fun e => by have : w32.heap.size = w10.heap.size := e; omega)
    replace hBD : Blk w50 w10.heap.size 27 [.slice A33 (((madeF N (newM mo) ((ds i).1) ((ds i).2.1) ((ds i).2.2.1) ((ds i).2.2.2.1) ((ds i).2.2.2.2.1) ((ds i).2.2.2.2.2)).2.2).length) cp34, .int .i64 (newM mo)] := hBD'
    refine op_nil ?_
    refine W_seq ?_
    refine W_draw (fun w' => Blk w' (w10.heap.size) 27 [.slice A33 (((madeF N (newM mo) ((ds i).1) ((ds i).2.1) ((ds i).2.2.1) ((ds i).2.2.2.1) ((ds i).2.2.2.2.1) ((ds i).2.2.2.2.2)).2.2).length) cp34, .int .i64 (newM mo)]) (by kernel_rfl) (by kernel_rfl) (by kernel_rfl) fun w53 hT54 hh55 => ?_
    have hT0 := hT0.t0 hT54
    have hO := hO.tch0 hT54
    have hBD := hBD.tch0 hT54
    have hBR := hBR.tch0 hT54
    have hLc := hL.tch0 hT0
    have hD37 := hD37.tch0 hT54
    have hB41 := hB41.tch0 hT54
    refine zK [0, 1, 2, 3] #[true, true, true, true, false, false, false, false, false, false, false, false, false, false, false, false] [(47, .int .i64 ((madeF N (newM mo) ((ds i).1) ((ds i).2.1) ((ds i).2.2.1) ((ds i).2.2.2.1) ((ds i).2.2.2.2.1) ((ds i).2.2.2.2.2)).1)), (48, .int .i64 ((madeF N (newM mo) ((ds i).1) ((ds i).2.1) ((ds i).2.2.1) ((ds i).2.2.2.1) ((ds i).2.2.2.2.1) ((ds i).2.2.2.2.2)).1)), (49, .bool (((madeF N (newM mo) ((ds i).1) ((ds i).2.1) ((ds i).2.2.1) ((ds i).2.2.2.1) ((ds i).2.2.2.2.1) ((ds i).2.2.2.2.2)).1) != ((madeF N (newM mo) ((ds i).1) ((ds i).2.1) ((ds i).2.2.1) ((ds i).2.2.2.1) ((ds i).2.2.2.2.1) ((ds i).2.2.2.2.2)).1))), (50, .bool (((madeF N (newM mo) ((ds i).1) ((ds i).2.1) ((ds i).2.2.1) ((ds i).2.2.2.1) ((ds i).2.2.2.2.1) ((ds i).2.2.2.2.2)).1) != ((madeF N (newM mo) ((ds i).1) ((ds i).2.1) ((ds i).2.2.1) ((ds i).2.2.2.1) ((ds i).2.2.2.2.1) ((ds i).2.2.2.2.2)).1)))] hBD ?_
    cases hb56 : ((madeF N (newM mo) ((ds i).1) ((ds i).2.1) ((ds i).2.2.1) ((ds i).2.2.2.1) ((ds i).2.2.2.2.1) ((ds i).2.2.2.2.2)).1) != ((madeF N (newM mo) ((ds i).1) ((ds i).2.1) ((ds i).2.2.1) ((ds i).2.2.2.1) ((ds i).2.2.2.2.1) ((ds i).2.2.2.2.2)).1)
    ·
     replace hb56 : (madeF N (newM mo) ((ds i).1) ((ds i).2.1) ((ds i).2.2.1) ((ds i).2.2.2.1) ((ds i).2.2.2.2.1) ((ds i).2.2.2.2.2)).1 = (madeF N (newM mo) ((ds i).1) ((ds i).2.1) ((ds i).2.2.1) ((ds i).2.2.2.1) ((ds i).2.2.2.2.1) ((ds i).2.2.2.2.2)).1 := (bne_eq_false_iff_eq.1 hb56)
     refine zK [4, 5, 6, 7, 8] #[true, true, true, true, true, true, true, true, true, false, false, false, false, false, false, false] [(51, .int .i64 ((madeF N (newM mo) ((ds i).1) ((ds i).2.1) ((ds i).2.2.1) ((ds i).2.2.2.1) ((ds i).2.2.2.2.1) ((ds i).2.2.2.2.2)).2.1)), (52, .int .i64 ((madeF N (newM mo) ((ds i).1) ((ds i).2.1) ((ds i).2.2.1) ((ds i).2.2.2.1) ((ds i).2.2.2.2.1) ((ds i).2.2.2.2.2)).2.1)), (53, .bool (((madeF N (newM mo) ((ds i).1) ((ds i).2.1) ((ds i).2.2.1) ((ds i).2.2.2.1) ((ds i).2.2.2.2.1) ((ds i).2.2.2.2.2)).2.1) != ((madeF N (newM mo) ((ds i).1) ((ds i).2.1) ((ds i).2.2.1) ((ds i).2.2.2.1) ((ds i).2.2.2.2.1) ((ds i).2.2.2.2.2)).2.1))), (54, .bool (((madeF N (newM mo) ((ds i).1) ((ds i).2.1) ((ds i).2.2.1) ((ds i).2.2.2.1) ((ds i).2.2.2.2.1) ((ds i).2.2.2.2.2)).2.1) != ((madeF N (newM mo) ((ds i).1) ((ds i).2.1) ((ds i).2.2.1) ((ds i).2.2.2.1) ((ds i).2.2.2.2.1) ((ds i).2.2.2.2.2)).2.1))), (55, .bool (((madeF N (newM mo) ((ds i).1) ((ds i).2.1) ((ds i).2.2.1) ((ds i).2.2.2.1) ((ds i).2.2.2.2.1) ((ds i).2.2.2.2.2)).2.1) != ((madeF N (newM mo) ((ds i).1) ((ds i).2.1) ((ds i).2.2.1) ((ds i).2.2.2.1) ((ds i).2.2.2.2.1) ((ds i).2.2.2.2.2)).2.1)))] hBD ?_
     cases hb57 : ((madeF N (newM mo) ((ds i).1) ((ds i).2.1) ((ds i).2.2.1) ((ds i).2.2.2.1) ((ds i).2.2.2.2.1) ((ds i).2.2.2.2.2)).2.1) != ((madeF N (newM mo) ((ds i).1) ((ds i).2.1) ((ds i).2.2.1) ((ds i).2.2.2.1) ((ds i).2.2.2.2.1) ((ds i).2.2.2.2.2)).2.1)
     ·
      replace hb57 : (madeF N (newM mo) ((ds i).1) ((ds i).2.1) ((ds i).2.2.1) ((ds i).2.2.2.1) ((ds i).2.2.2.2.1) ((ds i).2.2.2.2.2)).2.1 = (madeF N (newM mo) ((ds i).1) ((ds i).2.1) ((ds i).2.2.1) ((ds i).2.2.2.1) ((ds i).2.2.2.2.1) ((ds i).2.2.2.2.2)).2.1 := (bne_eq_false_iff_eq.1 hb57)
      refine zK [9, 11] #[true, true, true, true, true, true, true, true, true, true, false, true, false, false, false, false] [(56, .pointer (some ⟨p7, 0, none⟩)), (58, .pointer (some ⟨w10.heap.size, 0, none⟩))] hBD ?_
      refine zV 12 rfl (.slice A33 (((madeF N (newM mo) ((ds i).1) ((ds i).2.1) ((ds i).2.2.1) ((ds i).2.2.2.1) ((ds i).2.2.2.2.1) ((ds i).2.2.2.2.2)).2.2).length) cp34) (fun _ hBD => R_load (v := .slice A33 (((madeF N (newM mo) ((ds i).1) ((ds i).2.1) ((ds i).2.2.1) ((ds i).2.2.2.1) ((ds i).2.2.2.2.1) ((ds i).2.2.2.2.2)).2.2).length) cp34) (by kernel_rfl) (by kernel_rfl) ((hBD.cell 0).trans rfl)) hBD ?_
      refine zK [13] #[true, true, true, true, true, true, true, true, true, true, false, true, true, true, false, false] [(60, .int .i64 (((madeF N (newM mo) ((ds i).1) ((ds i).2.1) ((ds i).2.2.1) ((ds i).2.2.2.1) ((ds i).2.2.2.2.1) ((ds i).2.2.2.2.2)).2.2).length : Int))] hBD ?_
      have ln_ := hO.2.ti.len
      have lm_ := hO.2.ti.most
      refine zD 10 rfl (S_call (args := [.pointer (some ⟨p7, 0, none⟩)]) (by kernel_rfl) (len_ok F25 p7 (newM mo) ((madeF N (newM mo) ((ds i).1) ((ds i).2.1) ((ds i).2.2.1) ((ds i).2.2.2.1) ((ds i).2.2.2.2.1) ((ds i).2.2.2.2.2)).2.2) _ _ hO.1 (by omega)) ?_)
      rintro _ w58 ⟨rfl, hT59⟩
      have hT0 := hT0.t0 hT59
      have hO := hO.tch0 hT59
      have hBD := hBD.tch0 hT59
      have hBR := hBR.tch0 hT59
      have hLc := hL.tch0 hT0
      have hD37 := hD37.tch0 hT59
      have hB41 := hB41.tch0 hT59
      refine ⟨hBD, ?_⟩
      refine zK [14, 15] #[true, true, true, true, true, true, true, true, true, true, true, true, true, true, true, true] [(61, .bool ((((madeF N (newM mo) ((ds i).1) ((ds i).2.1) ((ds i).2.2.1) ((ds i).2.2.2.1) ((ds i).2.2.2.2.1) ((ds i).2.2.2.2.2)).2.2).length : Int) != (((madeF N (newM mo) ((ds i).1) ((ds i).2.1) ((ds i).2.2.1) ((ds i).2.2.2.1) ((ds i).2.2.2.2.1) ((ds i).2.2.2.2.2)).2.2).length : Int))), (62, .bool ((((madeF N (newM mo) ((ds i).1) ((ds i).2.1) ((ds i).2.2.1) ((ds i).2.2.2.1) ((ds i).2.2.2.2.1) ((ds i).2.2.2.2.2)).2.2).length : Int) != (((madeF N (newM mo) ((ds i).1) ((ds i).2.1) ((ds i).2.2.1) ((ds i).2.2.2.1) ((ds i).2.2.2.2.1) ((ds i).2.2.2.2.2)).2.2).length : Int)))] hBD ?_
      refine d_done (by kernel_rfl) ?_
      refine zW ((((madeF N (newM mo) ((ds i).1) ((ds i).2.1) ((ds i).2.2.1) ((ds i).2.2.2.1) ((ds i).2.2.2.2.1) ((ds i).2.2.2.2.2)).2.2).length : Int) != (((madeF N (newM mo) ((ds i).1) ((ds i).2.1) ((ds i).2.2.1) ((ds i).2.2.2.1) ((ds i).2.2.2.2.1) ((ds i).2.2.2.2.2)).2.2).length : Int)) (fun hc60 => ?_) (fun hc60 => ?_)
      ·
       replace hc60 : (((madeF N (newM mo) ((ds i).1) ((ds i).2.1) ((ds i).2.2.1) ((ds i).2.2.2.1) ((ds i).2.2.2.2.1) ((ds i).2.2.2.2.2)).2.2).length : Int) ≠ (((madeF N (newM mo) ((ds i).1) ((ds i).2.1) ((ds i).2.2.1) ((ds i).2.2.2.1) ((ds i).2.2.2.2.1) ((ds i).2.2.2.2.2)).2.2).length : Int) := (bne_iff_ne.1 hc60)
       exact absurd rfl hc60
      ·
       replace hc60 : (((madeF N (newM mo) ((ds i).1) ((ds i).2.1) ((ds i).2.2.1) ((ds i).2.2.2.1) ((ds i).2.2.2.2.1) ((ds i).2.2.2.2.2)).2.2).length : Int) = (((madeF N (newM mo) ((ds i).1) ((ds i).2.1) ((ds i).2.2.1) ((ds i).2.2.2.1) ((ds i).2.2.2.2.1) ((ds i).2.2.2.2.2)).2.2).length : Int) := (bne_eq_false_iff_eq.1 hc60)
       refine W_skip ?_
       refine zF [(0, .int .i64 mo), (1, .slice L mm cl), (4, .pointer none), (5, .pointer (some ⟨w.heap.size, 0, none⟩)), (6, .pointer (some ⟨p7, 0, none⟩)), (7, .pointer (some ⟨w10.heap.size, 0, none⟩)), (8, .int .i64 ((i : Nat) : Int)), (9, .int .i64 ((madeF N (newM mo) ((ds i).1) ((ds i).2.1) ((ds i).2.2.1) ((ds i).2.2.2.1) ((ds i).2.2.2.2.1) ((ds i).2.2.2.2.2)).1)), (10, .int .i64 ((madeF N (newM mo) ((ds i).1) ((ds i).2.1) ((ds i).2.2.1) ((ds i).2.2.2.1) ((ds i).2.2.2.2.1) ((ds i).2.2.2.2.2)).2.1)), (11, .pointer (some ⟨w32.heap.size, 0, none⟩)), (12, .int .i64 ((madeF N (newM mo) ((ds i).1) ((ds i).2.1) ((ds i).2.2.1) ((ds i).2.2.2.1) ((ds i).2.2.2.2.1) ((ds i).2.2.2.2.2)).1)), (13, .int .i64 ((madeF N (newM mo) ((ds i).1) ((ds i).2.1) ((ds i).2.2.1) ((ds i).2.2.2.1) ((ds i).2.2.2.2.1) ((ds i).2.2.2.2.2)).2.1)), (24, .bool (decide (((i : Nat) : Int) < (mm : Int)))), (62, .bool ((((madeF N (newM mo) ((ds i).1) ((ds i).2.1) ((ds i).2.2.1) ((ds i).2.2.2.1) ((ds i).2.2.2.2.1) ((ds i).2.2.2.2.2)).2.2).length : Int) != (((madeF N (newM mo) ((ds i).1) ((ds i).2.1) ((ds i).2.2.1) ((ds i).2.2.2.1) ((ds i).2.2.2.2.1) ((ds i).2.2.2.2.2)).2.2).length : Int)))] fun ρ => ?_
       refine zR ?_
       refine zS [(25, .int .i64 ((i : Nat) : Int)), (26, .int .i64 (IntKind.i64.wrap (((i : Nat) : Int) + 1)))] ?_
       rw [show IntKind.i64.wrap (((i : Nat) : Int) + 1) = ((i : Nat) : Int) + 1 from wrap_i64 (by omega) (by omega)]
       refine fixR (y := ((i + 1 : Nat) : Int)) (by omega) ?_
       refine zS [(8, .int .i64 ((i + 1 : Nat) : Int))] ?_
       refine op_nil ?_
       refine ⟨_, ?_, F25, A33, cp34, (madeF N (newM mo) ((ds i).1) ((ds i).2.1) ((ds i).2.2.1) ((ds i).2.2.2.1) ((ds i).2.2.2.2.1) ((ds i).2.2.2.2.2)).2.2, i + 1, _, updL_self (by kernel_rfl), ?_, hFb, nB_hD37, nF_hD37, nF_hBD, nF_hBR, (hQ _ _ _ _ _ _ _ hJ0 hQN), hT0, hO, hBD, hBR, hD37, hLc, rfl⟩
       ·
        omega
       ·
        omega
     ·
      replace hb57 : (madeF N (newM mo) ((ds i).1) ((ds i).2.1) ((ds i).2.2.1) ((ds i).2.2.2.1) ((ds i).2.2.2.2.1) ((ds i).2.2.2.2.2)).2.1 ≠ (madeF N (newM mo) ((ds i).1) ((ds i).2.1) ((ds i).2.2.1) ((ds i).2.2.2.1) ((ds i).2.2.2.2.1) ((ds i).2.2.2.2.2)).2.1 := (bne_iff_ne.1 hb57)
      exact absurd rfl hb57
    ·
     replace hb56 : (madeF N (newM mo) ((ds i).1) ((ds i).2.1) ((ds i).2.2.1) ((ds i).2.2.2.1) ((ds i).2.2.2.2.1) ((ds i).2.2.2.2.2)).1 ≠ (madeF N (newM mo) ((ds i).1) ((ds i).2.1) ((ds i).2.2.1) ((ds i).2.2.2.1) ((ds i).2.2.2.2.1) ((ds i).2.2.2.2.2)).1 := (bne_iff_ne.1 hb56)
     exact absurd rfl hb56
   ·
    have hlt_ := hO.1.lt
    have lt65 := hBD.lt
    have lt66 := hBR.lt
    have lR_hD := hD.lt
    have z67 := hT0.size
    have l68 := hBD.lt
    have l69 := hBR.lt
    refine (S_new (v := .pointer (some ⟨w29.heap.size, 0, none⟩)) (ob := .cells #[.slice none 0 0, .int .i64 0] 27) (by kernel_rfl) fun w61 hT62 hs63 hB64 => ?_)
    replace hB64 : Blk w61 (w29.heap.size) 27 [.slice none 0 0, .int .i64 0] := hB64
    have hT0 := hT0.t0 hT62
    have hO := hO.tch0 hT62
    have hBD := hBD.tch0 hT62
    have hBR := hBR.tch0 hT62
    have hD := hD.tch0 hT62
    have hLc := hL.tch0 hT0
    have nF_hB64 : ¬ F25 (w29.heap.size) := fun e => by have := hlt_ _ e; omega
    refine ⟨⟨hBD, hLc⟩, ?_⟩
    have hzr := hT0.size
    have hl2 := hO.1.lt
    refine zD 5 rfl (S_call (args := [.agg #[.slice A N.length cp, .int .i64 (newM mo)], .agg #[.int .i64 ((ds i).1), .int .i64 ((ds i).2.1), .int .i64 ((ds i).2.2.1), .int .i64 ((ds i).2.2.2.1), .int .i64 ((ds i).2.2.2.2.1), .int .u64 ((ds i).2.2.2.2.2)]]) (by kernel_rfl) (meant_ok A cp (newM mo) N ((ds i).1) ((ds i).2.1) ((ds i).2.2.1) ((ds i).2.2.2.1) ((ds i).2.2.2.2.1) ((ds i).2.2.2.2.2) _ hD hJ0 b0 b1 b2 b3 b4 b5) ?_)
    rintro _ w70 ⟨A71, cp72, rfl, hD75, hw73, hT74⟩
    have hT0 := hT0.t0 hT74
    have hO := hO.tch0 hT74
    have hBD := hBD.tch0 hT74
    have hBR := hBR.tch0 hT74
    have hLc := hL.tch0 hT0
    have hB64 := hB64.tch0 hT74
    have nB_hD75 : ∀ c, (Value.slice A71 (((madeF N (newM mo) ((ds i).1) ((ds i).2.1) ((ds i).2.2.1) ((ds i).2.2.2.1) ((ds i).2.2.2.2.1) ((ds i).2.2.2.2.2)).2.2).length) cp72).ownBlock = some c → w.heap.size ≤ c := fun c h => (hw73 c h).elim (nB_hD c) (fun q => by omega)
    have nF_hD75 : ∀ c, (Value.slice A71 (((madeF N (newM mo) ((ds i).1) ((ds i).2.1) ((ds i).2.2.1) ((ds i).2.2.2.1) ((ds i).2.2.2.2.1) ((ds i).2.2.2.2.2)).2.2).length) cp72).ownBlock = some c → ¬ F25 c := fun c h e => (hw73 c h).elim (fun q => nF_hD c q e) (fun q => by have := hl2 c e; omega)
    refine ⟨⟨hBD, hLc⟩, ?_⟩
    refine zK [6, 7, 8, 9] #[true, true, true, true, true, true, true, true, true, true, true, false, false, false] [(36, .tuple #[.agg #[.slice A71 (((madeF N (newM mo) ((ds i).1) ((ds i).2.1) ((ds i).2.2.1) ((ds i).2.2.2.1) ((ds i).2.2.2.2.1) ((ds i).2.2.2.2.2)).2.2).length) cp72, .int .i64 (newM mo)], .int .i64 ((madeF N (newM mo) ((ds i).1) ((ds i).2.1) ((ds i).2.2.1) ((ds i).2.2.2.1) ((ds i).2.2.2.2.1) ((ds i).2.2.2.2.2)).1), .int .i64 ((madeF N (newM mo) ((ds i).1) ((ds i).2.1) ((ds i).2.2.1) ((ds i).2.2.2.1) ((ds i).2.2.2.2.1) ((ds i).2.2.2.2.2)).2.1)]), (43, .agg #[.slice A71 (((madeF N (newM mo) ((ds i).1) ((ds i).2.1) ((ds i).2.2.1) ((ds i).2.2.2.1) ((ds i).2.2.2.2.1) ((ds i).2.2.2.2.2)).2.2).length) cp72, .int .i64 (newM mo)]), (44, .int .i64 ((madeF N (newM mo) ((ds i).1) ((ds i).2.1) ((ds i).2.2.1) ((ds i).2.2.2.1) ((ds i).2.2.2.2.1) ((ds i).2.2.2.2.2)).1)), (45, .int .i64 ((madeF N (newM mo) ((ds i).1) ((ds i).2.1) ((ds i).2.2.1) ((ds i).2.2.2.1) ((ds i).2.2.2.2.1) ((ds i).2.2.2.2.2)).2.1))] ⟨hBD, hLc⟩ ?_
    refine zD 11 rfl (S_storeA (b := w29.heap.size) (j := 0) (cs := [.slice A71 (((madeF N (newM mo) ((ds i).1) ((ds i).2.1) ((ds i).2.2.1) ((ds i).2.2.2.1) ((ds i).2.2.2.2.1) ((ds i).2.2.2.2.2)).2.2).length) cp72, .int .i64 (newM mo)]) (by kernel_rfl) (by kernel_rfl) (by kernel_rfl) (by simp [oneV]) hB64 (by simp) fun w76 hT77 hs78 hB64' => ?_)
    have hT0 := (hT0).then hT77 (fun c e => by have : c = w29.heap.size := e; omega)
    have hO := hO.tchS hT77 (fun c e q => by cases e; exact nF_hB64 q)
    have hBD := hBD.tch hT77 (fun e => by have : w10.heap.size = w29.heap.size := e; omega)
    have hBR := hBR.tch hT77 (fun e => by have : w.heap.size = w29.heap.size := e; omega)
    have hLc := hL.tch0 hT0
    have hD75 := hD75.tch hT77 (fun c hc e => hD75.blk_ne hB64 (by decide) c hc e)
    replace hB64 : Blk w76 w29.heap.size 27 [.slice A71 (((madeF N (newM mo) ((ds i).1) ((ds i).2.1) ((ds i).2.2.1) ((ds i).2.2.2.1) ((ds i).2.2.2.2.1) ((ds i).2.2.2.2.2)).2.2).length) cp72, .int .i64 (newM mo)] := hB64'
    refine ⟨⟨hBD, hLc⟩, ?_⟩
    refine zK [12, 13] #[true, true, true, true, true, true, true, true, true, true, true, true, true, true] [(12, .int .i64 ((madeF N (newM mo) ((ds i).1) ((ds i).2.1) ((ds i).2.2.1) ((ds i).2.2.2.1) ((ds i).2.2.2.2.1) ((ds i).2.2.2.2.2)).1)), (13, .int .i64 ((madeF N (newM mo) ((ds i).1) ((ds i).2.1) ((ds i).2.2.1) ((ds i).2.2.2.1) ((ds i).2.2.2.2.1) ((ds i).2.2.2.2.2)).2.1))] ⟨hBD, hLc⟩ ?_
    refine d_done (by kernel_rfl) ?_
    refine W_seq ?_
    refine zF [(0, .int .i64 mo), (1, .slice L mm cl), (4, .pointer none), (5, .pointer (some ⟨w.heap.size, 0, none⟩)), (6, .pointer (some ⟨p7, 0, none⟩)), (7, .pointer (some ⟨w10.heap.size, 0, none⟩)), (8, .int .i64 ((i : Nat) : Int)), (9, .int .i64 ((madeF N (newM mo) ((ds i).1) ((ds i).2.1) ((ds i).2.2.1) ((ds i).2.2.2.1) ((ds i).2.2.2.2.1) ((ds i).2.2.2.2.2)).1)), (10, .int .i64 ((madeF N (newM mo) ((ds i).1) ((ds i).2.1) ((ds i).2.2.1) ((ds i).2.2.2.1) ((ds i).2.2.2.2.1) ((ds i).2.2.2.2.2)).2.1)), (11, .pointer (some ⟨w29.heap.size, 0, none⟩)), (12, .int .i64 ((madeF N (newM mo) ((ds i).1) ((ds i).2.1) ((ds i).2.2.1) ((ds i).2.2.2.1) ((ds i).2.2.2.2.1) ((ds i).2.2.2.2.2)).1)), (13, .int .i64 ((madeF N (newM mo) ((ds i).1) ((ds i).2.1) ((ds i).2.2.1) ((ds i).2.2.2.1) ((ds i).2.2.2.2.1) ((ds i).2.2.2.2.2)).2.1)), (24, .bool (decide (((i : Nat) : Int) < (mm : Int))))] fun ρ => ?_
    refine zR ?_
    refine st (by rfl) (S_val (v := .agg #[.slice A71 (((madeF N (newM mo) ((ds i).1) ((ds i).2.1) ((ds i).2.2.1) ((ds i).2.2.2.1) ((ds i).2.2.2.2.1) ((ds i).2.2.2.2.2)).2.2).length) cp72, .int .i64 (newM mo)]) (R_loadA [.slice A71 (((madeF N (newM mo) ((ds i).1) ((ds i).2.1) ((ds i).2.2.1) ((ds i).2.2.2.1) ((ds i).2.2.2.2.1) ((ds i).2.2.2.2.2)).2.2).length) cp72, .int .i64 (newM mo)] (by kernel_rfl) (by kernel_rfl) (by kernel_rfl) (fun k u hk => by rw [hB64.cell]; exact get_part _ 0 _ k u rfl hk)) ?_)
    refine st (by rfl) (S_storeA (b := w10.heap.size) (j := 0) (cs := [.slice A71 (((madeF N (newM mo) ((ds i).1) ((ds i).2.1) ((ds i).2.2.1) ((ds i).2.2.2.1) ((ds i).2.2.2.2.1) ((ds i).2.2.2.2.2)).2.2).length) cp72, .int .i64 (newM mo)]) (by kernel_rfl) (by kernel_rfl) (by kernel_rfl) (by simp [oneV]) hBD (by simp) fun w79 hT80 hs81 hBD' => ?_)
    have hT0 := (hT0).then hT80 (fun c e => by have : c = w10.heap.size := e; omega)
    have hO := hO.tchS hT80 (fun c e q => by cases e; exact nF_hBD q)
    have hBR := hBR.tch hT80 (fun e => by have : w.heap.size = w10.heap.size := e; omega)
    have hLc := hL.tch0 hT0
    have hB64 := hB64.tch hT80 (fun e => by have : w29.heap.size = w10.heap.size := e; omega)
    have hD75 := hD75.tch hT80 (fun c hc e => hD75.blk_ne hBD (by decide) c hc e)
    replace hBD : Blk w79 w10.heap.size 27 [.slice A71 (((madeF N (newM mo) ((ds i).1) ((ds i).2.1) ((ds i).2.2.1) ((ds i).2.2.2.1) ((ds i).2.2.2.2.1) ((ds i).2.2.2.2.2)).2.2).length) cp72, .int .i64 (newM mo)] := hBD'
    refine op_nil ?_
    refine W_seq ?_
    refine W_draw (fun w' => Blk w' (w10.heap.size) 27 [.slice A71 (((madeF N (newM mo) ((ds i).1) ((ds i).2.1) ((ds i).2.2.1) ((ds i).2.2.2.1) ((ds i).2.2.2.2.1) ((ds i).2.2.2.2.2)).2.2).length) cp72, .int .i64 (newM mo)]) (by kernel_rfl) (by kernel_rfl) (by kernel_rfl) fun w82 hT83 hh84 => ?_
    have hT0 := hT0.t0 hT83
    have hO := hO.tch0 hT83
    have hBD := hBD.tch0 hT83
    have hBR := hBR.tch0 hT83
    have hLc := hL.tch0 hT0
    have hB64 := hB64.tch0 hT83
    have hD75 := hD75.tch0 hT83
    refine zK [0, 1, 2, 3] #[true, true, true, true, false, false, false, false, false, false, false, false, false, false, false, false] [(47, .int .i64 ((madeF N (newM mo) ((ds i).1) ((ds i).2.1) ((ds i).2.2.1) ((ds i).2.2.2.1) ((ds i).2.2.2.2.1) ((ds i).2.2.2.2.2)).1)), (48, .int .i64 ((madeF N (newM mo) ((ds i).1) ((ds i).2.1) ((ds i).2.2.1) ((ds i).2.2.2.1) ((ds i).2.2.2.2.1) ((ds i).2.2.2.2.2)).1)), (49, .bool (((madeF N (newM mo) ((ds i).1) ((ds i).2.1) ((ds i).2.2.1) ((ds i).2.2.2.1) ((ds i).2.2.2.2.1) ((ds i).2.2.2.2.2)).1) != ((madeF N (newM mo) ((ds i).1) ((ds i).2.1) ((ds i).2.2.1) ((ds i).2.2.2.1) ((ds i).2.2.2.2.1) ((ds i).2.2.2.2.2)).1))), (50, .bool (((madeF N (newM mo) ((ds i).1) ((ds i).2.1) ((ds i).2.2.1) ((ds i).2.2.2.1) ((ds i).2.2.2.2.1) ((ds i).2.2.2.2.2)).1) != ((madeF N (newM mo) ((ds i).1) ((ds i).2.1) ((ds i).2.2.1) ((ds i).2.2.2.1) ((ds i).2.2.2.2.1) ((ds i).2.2.2.2.2)).1)))] hBD ?_
    cases hb85 : ((madeF N (newM mo) ((ds i).1) ((ds i).2.1) ((ds i).2.2.1) ((ds i).2.2.2.1) ((ds i).2.2.2.2.1) ((ds i).2.2.2.2.2)).1) != ((madeF N (newM mo) ((ds i).1) ((ds i).2.1) ((ds i).2.2.1) ((ds i).2.2.2.1) ((ds i).2.2.2.2.1) ((ds i).2.2.2.2.2)).1)
    ·
     replace hb85 : (madeF N (newM mo) ((ds i).1) ((ds i).2.1) ((ds i).2.2.1) ((ds i).2.2.2.1) ((ds i).2.2.2.2.1) ((ds i).2.2.2.2.2)).1 = (madeF N (newM mo) ((ds i).1) ((ds i).2.1) ((ds i).2.2.1) ((ds i).2.2.2.1) ((ds i).2.2.2.2.1) ((ds i).2.2.2.2.2)).1 := (bne_eq_false_iff_eq.1 hb85)
     refine zK [4, 5, 6, 7, 8] #[true, true, true, true, true, true, true, true, true, false, false, false, false, false, false, false] [(51, .int .i64 ((madeF N (newM mo) ((ds i).1) ((ds i).2.1) ((ds i).2.2.1) ((ds i).2.2.2.1) ((ds i).2.2.2.2.1) ((ds i).2.2.2.2.2)).2.1)), (52, .int .i64 ((madeF N (newM mo) ((ds i).1) ((ds i).2.1) ((ds i).2.2.1) ((ds i).2.2.2.1) ((ds i).2.2.2.2.1) ((ds i).2.2.2.2.2)).2.1)), (53, .bool (((madeF N (newM mo) ((ds i).1) ((ds i).2.1) ((ds i).2.2.1) ((ds i).2.2.2.1) ((ds i).2.2.2.2.1) ((ds i).2.2.2.2.2)).2.1) != ((madeF N (newM mo) ((ds i).1) ((ds i).2.1) ((ds i).2.2.1) ((ds i).2.2.2.1) ((ds i).2.2.2.2.1) ((ds i).2.2.2.2.2)).2.1))), (54, .bool (((madeF N (newM mo) ((ds i).1) ((ds i).2.1) ((ds i).2.2.1) ((ds i).2.2.2.1) ((ds i).2.2.2.2.1) ((ds i).2.2.2.2.2)).2.1) != ((madeF N (newM mo) ((ds i).1) ((ds i).2.1) ((ds i).2.2.1) ((ds i).2.2.2.1) ((ds i).2.2.2.2.1) ((ds i).2.2.2.2.2)).2.1))), (55, .bool (((madeF N (newM mo) ((ds i).1) ((ds i).2.1) ((ds i).2.2.1) ((ds i).2.2.2.1) ((ds i).2.2.2.2.1) ((ds i).2.2.2.2.2)).2.1) != ((madeF N (newM mo) ((ds i).1) ((ds i).2.1) ((ds i).2.2.1) ((ds i).2.2.2.1) ((ds i).2.2.2.2.1) ((ds i).2.2.2.2.2)).2.1)))] hBD ?_
     cases hb86 : ((madeF N (newM mo) ((ds i).1) ((ds i).2.1) ((ds i).2.2.1) ((ds i).2.2.2.1) ((ds i).2.2.2.2.1) ((ds i).2.2.2.2.2)).2.1) != ((madeF N (newM mo) ((ds i).1) ((ds i).2.1) ((ds i).2.2.1) ((ds i).2.2.2.1) ((ds i).2.2.2.2.1) ((ds i).2.2.2.2.2)).2.1)
     ·
      replace hb86 : (madeF N (newM mo) ((ds i).1) ((ds i).2.1) ((ds i).2.2.1) ((ds i).2.2.2.1) ((ds i).2.2.2.2.1) ((ds i).2.2.2.2.2)).2.1 = (madeF N (newM mo) ((ds i).1) ((ds i).2.1) ((ds i).2.2.1) ((ds i).2.2.2.1) ((ds i).2.2.2.2.1) ((ds i).2.2.2.2.2)).2.1 := (bne_eq_false_iff_eq.1 hb86)
      refine zK [9, 11] #[true, true, true, true, true, true, true, true, true, true, false, true, false, false, false, false] [(56, .pointer (some ⟨p7, 0, none⟩)), (58, .pointer (some ⟨w10.heap.size, 0, none⟩))] hBD ?_
      refine zV 12 rfl (.slice A71 (((madeF N (newM mo) ((ds i).1) ((ds i).2.1) ((ds i).2.2.1) ((ds i).2.2.2.1) ((ds i).2.2.2.2.1) ((ds i).2.2.2.2.2)).2.2).length) cp72) (fun _ hBD => R_load (v := .slice A71 (((madeF N (newM mo) ((ds i).1) ((ds i).2.1) ((ds i).2.2.1) ((ds i).2.2.2.1) ((ds i).2.2.2.2.1) ((ds i).2.2.2.2.2)).2.2).length) cp72) (by kernel_rfl) (by kernel_rfl) ((hBD.cell 0).trans rfl)) hBD ?_
      refine zK [13] #[true, true, true, true, true, true, true, true, true, true, false, true, true, true, false, false] [(60, .int .i64 (((madeF N (newM mo) ((ds i).1) ((ds i).2.1) ((ds i).2.2.1) ((ds i).2.2.2.1) ((ds i).2.2.2.2.1) ((ds i).2.2.2.2.2)).2.2).length : Int))] hBD ?_
      have ln_ := hO.2.ti.len
      have lm_ := hO.2.ti.most
      refine zD 10 rfl (S_call (args := [.pointer (some ⟨p7, 0, none⟩)]) (by kernel_rfl) (len_ok F25 p7 (newM mo) ((madeF N (newM mo) ((ds i).1) ((ds i).2.1) ((ds i).2.2.1) ((ds i).2.2.2.1) ((ds i).2.2.2.2.1) ((ds i).2.2.2.2.2)).2.2) _ _ hO.1 (by omega)) ?_)
      rintro _ w87 ⟨rfl, hT88⟩
      have hT0 := hT0.t0 hT88
      have hO := hO.tch0 hT88
      have hBD := hBD.tch0 hT88
      have hBR := hBR.tch0 hT88
      have hLc := hL.tch0 hT0
      have hB64 := hB64.tch0 hT88
      have hD75 := hD75.tch0 hT88
      refine ⟨hBD, ?_⟩
      refine zK [14, 15] #[true, true, true, true, true, true, true, true, true, true, true, true, true, true, true, true] [(61, .bool ((((madeF N (newM mo) ((ds i).1) ((ds i).2.1) ((ds i).2.2.1) ((ds i).2.2.2.1) ((ds i).2.2.2.2.1) ((ds i).2.2.2.2.2)).2.2).length : Int) != (((madeF N (newM mo) ((ds i).1) ((ds i).2.1) ((ds i).2.2.1) ((ds i).2.2.2.1) ((ds i).2.2.2.2.1) ((ds i).2.2.2.2.2)).2.2).length : Int))), (62, .bool ((((madeF N (newM mo) ((ds i).1) ((ds i).2.1) ((ds i).2.2.1) ((ds i).2.2.2.1) ((ds i).2.2.2.2.1) ((ds i).2.2.2.2.2)).2.2).length : Int) != (((madeF N (newM mo) ((ds i).1) ((ds i).2.1) ((ds i).2.2.1) ((ds i).2.2.2.1) ((ds i).2.2.2.2.1) ((ds i).2.2.2.2.2)).2.2).length : Int)))] hBD ?_
      refine d_done (by kernel_rfl) ?_
      refine zW ((((madeF N (newM mo) ((ds i).1) ((ds i).2.1) ((ds i).2.2.1) ((ds i).2.2.2.1) ((ds i).2.2.2.2.1) ((ds i).2.2.2.2.2)).2.2).length : Int) != (((madeF N (newM mo) ((ds i).1) ((ds i).2.1) ((ds i).2.2.1) ((ds i).2.2.2.1) ((ds i).2.2.2.2.1) ((ds i).2.2.2.2.2)).2.2).length : Int)) (fun hc89 => ?_) (fun hc89 => ?_)
      ·
       replace hc89 : (((madeF N (newM mo) ((ds i).1) ((ds i).2.1) ((ds i).2.2.1) ((ds i).2.2.2.1) ((ds i).2.2.2.2.1) ((ds i).2.2.2.2.2)).2.2).length : Int) ≠ (((madeF N (newM mo) ((ds i).1) ((ds i).2.1) ((ds i).2.2.1) ((ds i).2.2.2.1) ((ds i).2.2.2.2.1) ((ds i).2.2.2.2.2)).2.2).length : Int) := (bne_iff_ne.1 hc89)
       exact absurd rfl hc89
      ·
       replace hc89 : (((madeF N (newM mo) ((ds i).1) ((ds i).2.1) ((ds i).2.2.1) ((ds i).2.2.2.1) ((ds i).2.2.2.2.1) ((ds i).2.2.2.2.2)).2.2).length : Int) = (((madeF N (newM mo) ((ds i).1) ((ds i).2.1) ((ds i).2.2.1) ((ds i).2.2.2.1) ((ds i).2.2.2.2.1) ((ds i).2.2.2.2.2)).2.2).length : Int) := (bne_eq_false_iff_eq.1 hc89)
       refine W_skip ?_
       refine zF [(0, .int .i64 mo), (1, .slice L mm cl), (4, .pointer none), (5, .pointer (some ⟨w.heap.size, 0, none⟩)), (6, .pointer (some ⟨p7, 0, none⟩)), (7, .pointer (some ⟨w10.heap.size, 0, none⟩)), (8, .int .i64 ((i : Nat) : Int)), (9, .int .i64 ((madeF N (newM mo) ((ds i).1) ((ds i).2.1) ((ds i).2.2.1) ((ds i).2.2.2.1) ((ds i).2.2.2.2.1) ((ds i).2.2.2.2.2)).1)), (10, .int .i64 ((madeF N (newM mo) ((ds i).1) ((ds i).2.1) ((ds i).2.2.1) ((ds i).2.2.2.1) ((ds i).2.2.2.2.1) ((ds i).2.2.2.2.2)).2.1)), (11, .pointer (some ⟨w29.heap.size, 0, none⟩)), (12, .int .i64 ((madeF N (newM mo) ((ds i).1) ((ds i).2.1) ((ds i).2.2.1) ((ds i).2.2.2.1) ((ds i).2.2.2.2.1) ((ds i).2.2.2.2.2)).1)), (13, .int .i64 ((madeF N (newM mo) ((ds i).1) ((ds i).2.1) ((ds i).2.2.1) ((ds i).2.2.2.1) ((ds i).2.2.2.2.1) ((ds i).2.2.2.2.2)).2.1)), (24, .bool (decide (((i : Nat) : Int) < (mm : Int)))), (62, .bool ((((madeF N (newM mo) ((ds i).1) ((ds i).2.1) ((ds i).2.2.1) ((ds i).2.2.2.1) ((ds i).2.2.2.2.1) ((ds i).2.2.2.2.2)).2.2).length : Int) != (((madeF N (newM mo) ((ds i).1) ((ds i).2.1) ((ds i).2.2.1) ((ds i).2.2.2.1) ((ds i).2.2.2.2.1) ((ds i).2.2.2.2.2)).2.2).length : Int)))] fun ρ => ?_
       refine zR ?_
       refine zS [(25, .int .i64 ((i : Nat) : Int)), (26, .int .i64 (IntKind.i64.wrap (((i : Nat) : Int) + 1)))] ?_
       rw [show IntKind.i64.wrap (((i : Nat) : Int) + 1) = ((i : Nat) : Int) + 1 from wrap_i64 (by omega) (by omega)]
       refine fixR (y := ((i + 1 : Nat) : Int)) (by omega) ?_
       refine zS [(8, .int .i64 ((i + 1 : Nat) : Int))] ?_
       refine op_nil ?_
       refine ⟨_, ?_, F25, A71, cp72, (madeF N (newM mo) ((ds i).1) ((ds i).2.1) ((ds i).2.2.1) ((ds i).2.2.2.1) ((ds i).2.2.2.2.1) ((ds i).2.2.2.2.2)).2.2, i + 1, _, updL_self (by kernel_rfl), ?_, hFb, nB_hD75, nF_hD75, nF_hBD, nF_hBR, (hQ _ _ _ _ _ _ _ hJ0 hQN), hT0, hO, hBD, hBR, hD75, hLc, rfl⟩
       ·
        omega
       ·
        omega
     ·
      replace hb86 : (madeF N (newM mo) ((ds i).1) ((ds i).2.1) ((ds i).2.2.1) ((ds i).2.2.2.1) ((ds i).2.2.2.2.1) ((ds i).2.2.2.2.2)).2.1 ≠ (madeF N (newM mo) ((ds i).1) ((ds i).2.1) ((ds i).2.2.1) ((ds i).2.2.2.1) ((ds i).2.2.2.2.1) ((ds i).2.2.2.2.2)).2.1 := (bne_iff_ne.1 hb86)
      exact absurd rfl hb86
    ·
     replace hb85 : (madeF N (newM mo) ((ds i).1) ((ds i).2.1) ((ds i).2.2.1) ((ds i).2.2.2.1) ((ds i).2.2.2.2.1) ((ds i).2.2.2.2.2)).1 ≠ (madeF N (newM mo) ((ds i).1) ((ds i).2.1) ((ds i).2.2.1) ((ds i).2.2.2.1) ((ds i).2.2.2.2.1) ((ds i).2.2.2.2.2)).1 := (bne_iff_ne.1 hb85)
     exact absurd rfl hb85
  ·
   replace hc23 : (mm : Int) ≤ ((i : Nat) : Int) := (Int.not_lt.1 (of_decide_eq_false hc23))
   refine W_exit ?_
   refine X_hit ?_
   refine W_seq ?_
   refine W_draw (fun w' => Blk w' (w10.heap.size) 27 [.slice A N.length cp, .int .i64 (newM mo)]) (by kernel_rfl) (by kernel_rfl) (by kernel_rfl) fun w90 hT91 hh92 => ?_
   have hT0 := hT0.t0 hT91
   have hO := hO.tch0 hT91
   have hBD := hBD.tch0 hT91
   have hBR := hBR.tch0 hT91
   have hD := hD.tch0 hT91
   have hLc := hL.tch0 hT0
   refine zK [0, 2] #[true, false, true, false] [(64, .pointer (some ⟨p7, 0, none⟩)), (4, .pointer (some ⟨p7, 0, none⟩))] hBD ?_
   refine zV 1 rfl (.agg #[.slice A N.length cp, .int .i64 (newM mo)]) (fun _ hBD => R_loadA [.slice A N.length cp, .int .i64 (newM mo)] (by kernel_rfl) (by kernel_rfl) (by kernel_rfl) (fun k u hk => by rw [hBD.cell]; exact get_part _ 0 _ k u rfl hk)) hBD ?_
   refine zD 3 rfl (S_storeA (b := w.heap.size) (j := 0) (cs := [.slice A N.length cp, .int .i64 (newM mo)]) (by kernel_rfl) (by kernel_rfl) (by kernel_rfl) (by simp [oneV]) hBR (by simp) fun w93 hT94 hs95 hBR' => ?_)
   have hT0 := (hT0).then hT94 (fun c e => by have : c = w.heap.size := e; omega)
   have hO := hO.tchS hT94 (fun c e q => by cases e; exact nF_hBR q)
   have hBD := hBD.tch hT94 (fun e => by have : w10.heap.size = w.heap.size := e; omega)
   have hD := hD.tch hT94 (fun c hc e => hD.blk_ne hBR (by decide) c hc e)
   have hLc := hL.tch0 hT0
   replace hBR : Blk w93 w.heap.size 27 [.slice A N.length cp, .int .i64 (newM mo)] := hBR'
   refine ⟨hBD, ?_⟩
   refine d_done (by kernel_rfl) ?_
   refine W_ret ?_
   exact ⟨_, Res_tc (b := w.heap.size) (cs := [.slice A N.length cp, .int .i64 (newM mo)]) (by rfl) (by kernel_rfl) (by kernel_rfl) (by kernel_rfl) hBR (by kernel_rfl) (by kernel_rfl), ⟨_, F, A, cp, N, rfl, hQN, hO, hD, hFb, fun c h => ⟨nB_hD c h, nF_hD c h⟩, hT0⟩⟩

end Go.Proofs.YtlbadnpgmkobdaaV

set_option linter.unusedVariables false
set_option linter.unusedSimpArgs false
namespace Go.Proofs.YtlbadnpgmkobdaaV
open Go Go.RowKit Go.Proofs Go.ChangeShapes Go.WideShapes Go.Deep
def isU : Option Value → Int
 | some (.int _ x) => x
 | _ => 0
set_option maxRecDepth 100000 in
theorem open_words {H : Type} {enc : TypeId × Value → H} {W : World} {r : Reach} {b0 : Nat} {v : Value} {d : DataW H} {ps : List MemPlace} (hv : Value.okWide Try.prog W r b0 59 v) (h : DataW.Trod enc Try.prog W 0 (fun _ => true) true 59 v d ps) :
    ∃ L m cl xs, v = .slice L m cl ∧ RdW W 1 m L (ints .u64 xs) := by
  obtain ⟨a, len, cap, rfl⟩ := okWide_slice Try.underlying59 hv
  obtain ⟨fuel, hf⟩ := h
  rcases open_slice Try.underlying59 hf with ⟨e, _⟩ | ⟨a', len', cap', m, n, D, Pl, e, hb, hl, hm, hmm, _, hx⟩
  · simp only [Value.cells] at e
    have e2 : Value.slice a len cap = .slice none 0 0 := by simpa using e
    injection e2 with e3 e4 e5
    subst e3 e4 e5
    exact ⟨none, 0, 0, [], rfl, RdW.nil_ _ _ _⟩
  · simp only [Value.cells] at e
    have e2 : Value.slice a len cap = .slice (some a') len' cap' := by simpa using e
    injection e2 with e3 e4 e5
    subst e3 e4 e5
    have hlm : len ≤ m := by rw [hmm]; simp; exact hl
    have key : ∀ i, i < len → ∃ x : Int, W.cell? (a'.add i) = some (.int .u64 x) := by
      intro i hi
      obtain ⟨cs, h1, h2⟩ := hx i (by omega)
      obtain ⟨_, hcl, hc⟩ := World.cells?_some h1
      have hcl1 : cs.length = 1 := hcl
      obtain ⟨c0, rfl⟩ : ∃ c0, cs = [c0] := by
        match cs, hcl1 with
        | [c0], _ => exact ⟨c0, rfl⟩
      obtain ⟨x, ex, _, _⟩ := DataW.trod_int Try.underlying30 h2
      have ex' : [c0] = [Value.int .u64 x] := ex
      injection ex' with ex'
      subst ex'
      have hc0 := hc 0 (by show 0 < 1; omega)
      have z0 : (a'.add (i * Try.prog.cellsOf 30)).add 0 = a'.add i := by
        rw [show i * Try.prog.cellsOf 30 = i from (show i * 1 = i by omega)]
        simp [Addr.add]
      rw [z0] at hc0
      exact ⟨x, by simpa using hc0⟩
    by_cases h0 : len = 0
    · subst h0
      exact ⟨some a', 0, cap, [], rfl, RdW.nil_ _ _ _⟩
    · have hsp : a'.spot = none := by
        obtain ⟨x, hc⟩ := key 0 (by omega)
        have : a'.add 0 = a' := by simp [Addr.add]
        rw [this] at hc
        unfold World.cell? at hc
        split at hc
        · split at hc
          · cases hc
          · rename_i hh; simpa using hh
        · cases hc
      obtain ⟨b, off, spot⟩ := a'
      simp only at hsp
      subst hsp
      have hV : ∀ k, k < len → W.cell? ⟨b, off + k, none⟩ = some (.int .u64 (isU (W.cell? ⟨b, off + k, none⟩))) := by
        intro k hk
        obtain ⟨x, h1⟩ := key k hk
        simp only [add_at] at h1
        rw [h1]
        rfl
      have hlt : b < W.heap.size := cell_lt_ (hV 0 (by omega))
      refine ⟨some ⟨b, off, none⟩, len, cap, (List.range len).map (fun k => isU (W.cell? ⟨b, off + k, none⟩)), rfl, ⟨by simp [ints], by simp only [maxLen] at hm; omega, fun _ => ⟨b, off, rfl, hlt, fun k u hu => ?_⟩⟩⟩
      have hk : k < len := by
        rcases Nat.lt_or_ge k len with h' | h'
        · exact h'
        · rw [List.getElem?_eq_none (by simpa [ints] using h')] at hu; cases hu
      rw [hV k hk, ← hu]
      simp [ints, List.getElem?_map, List.getElem?_range hk]
end Go.Proofs.YtlbadnpgmkobdaaV

set_option linter.unusedVariables false
set_option linter.unusedSimpArgs false
namespace Go.Proofs.YtlbadnpgmkobdaaV
open Go Go.RowKit Go.Proofs

theorem rgF_nat {N : List Nd} {i : Nat} (h : i < N.length) : rgF N ((i : Nat) : Int) = ronN N (rl N i) (nth N i) := by
 unfold rgF isT
 rw [if_pos (decide_eq_true (by omega))]; rfl

set_option maxRecDepth 100000 in
set_option maxHeartbeats 4000000 in
theorem RangesHold_w (L : Option Addr) (mm cl : Nat) (cells : List Value) (ds : Nat → Int × Int × Int × Int × Int × Int) (C : Option Addr) (m1 cc : Nat) (ins : List Int) (w : World) (hL : RdW w 6 mm L cells) (hDs : Deeds6 mm cells ds) (hC : RdW w 1 m1 C (ints .u64 ins)) : Ret Try.prog 11 [.slice L mm cl, .slice C m1 cc] w fun v w' => v = .bool true ∧ Tch N0 w w' := by
 refine enter Try.func11 rfl rfl ?_
 refine zQ ?_
 refine zS [(4, .bool false)] ?_
 refine op_nil ?_
 refine W_seq ?_
 refine zQ ?_
 refine zS [(12, .slice L mm cl), (13, .int .i64 (mm : Int)), (14, .bool (decide ((mm : Int) > 80))), (15, .bool (decide ((mm : Int) > 80)))] ?_
 cases hb1 : decide ((mm : Int) > 80)
 ·
  replace hb1 : (mm : Int) ≤ 80 := (Int.not_lt.1 (of_decide_eq_false hb1))
  refine zS [(16, .slice C m1 cc), (17, .int .i64 (m1 : Int)), (18, .bool (decide ((m1 : Int) > 300))), (19, .bool (decide ((m1 : Int) > 300)))] ?_
  refine zO (decide ((m1 : Int) > 300)) (fun hc2 => ?_) (fun hc2 => ?_)
  ·
   replace hc2 : 300 < (m1 : Int) := (of_decide_eq_true hc2)
   refine W_seq ?_
   refine zF [(0, .slice L mm cl), (1, .slice C m1 cc), (4, .bool false), (19, .bool (decide ((m1 : Int) > 300)))] fun ρ => ?_
   refine zR ?_
   refine zC (awake52_ok _) ?_
   rintro _ w3 ⟨rfl, hT4⟩
   have hT0 := hT4
   refine zS [(4, .bool true)] ?_
   refine op_nil ?_
   refine W_ret ?_
   exact ⟨_, Res_of (v := .bool true) (by kernel_rfl), ⟨rfl, hT0⟩⟩
  ·
   replace hc2 : (m1 : Int) ≤ 300 := (Int.not_lt.1 (of_decide_eq_false hc2))
   refine W_skip ?_
   refine W_seq ?_
   refine zF [(0, .slice L mm cl), (1, .slice C m1 cc), (4, .bool false), (19, .bool (decide ((m1 : Int) > 300)))] fun ρ => ?_
   refine zR ?_
   refine zS [(22, .slice L mm cl)] ?_
   refine zC (buildq_ok TB 1000 L mm cl cells ds _ (hL) hDs (by omega) TB_nil (fun _ _ _ _ _ _ _ j q => made_TB j q _ _ _ _ _ _ _)) ?_
   rintro _ w5 ⟨p, F, A, cp, N, rfl, hB, hO, hD, hFb, hDb, hT6⟩
   have hT0 := hT6
   have ln0 := hO.2.ti.len
   have lm0 := hO.2.ti.most
   refine zS [(21, .tuple #[.pointer (some ⟨p, 0, none⟩), .agg #[.slice A N.length cp, .int .i64 (newM 1000)]]), (24, .pointer (some ⟨p, 0, none⟩)), (25, .agg #[.slice A N.length cp, .int .i64 (newM 1000)])] ?_
   have hlt_ := hO.1.lt
   have lR_hD := hD.lt
   have z11 := hT0.size
   refine st (by rfl) (S_new (v := .pointer (some ⟨w5.heap.size, 0, none⟩)) (ob := .cells #[.slice none 0 0, .int .i64 0] 27) (by kernel_rfl) fun w7 hT8 hs9 hB10 => ?_)
   replace hB10 : Blk w7 (w5.heap.size) 27 [.slice none 0 0, .int .i64 0] := hB10
   have hT0 := hT0.t0 hT8
   have hO := hO.tch0 hT8
   have hD := hD.tch0 hT8
   have nF_hB10 : ¬ F (w5.heap.size) := fun e => by have := hlt_ _ e; omega
   refine zS [(5, .pointer (some ⟨p, 0, none⟩))] ?_
   refine st (by rfl) (S_storeA (b := w5.heap.size) (j := 0) (cs := [.slice A N.length cp, .int .i64 (newM 1000)]) (by kernel_rfl) (by kernel_rfl) (by kernel_rfl) (by simp [oneV]) hB10 (by simp) fun w12 hT13 hs14 hB10' => ?_)
   have hT0 := (hT0).then hT13 (fun c e => by have : c = w5.heap.size := e; omega)
   have hO := hO.tchS hT13 (fun c e q => by cases e; exact nF_hB10 q)
   have hD := hD.tch hT13 (fun c hc e => hD.blk_ne hB10 (by decide) c hc e)
   replace hB10 : Blk w12 w5.heap.size 27 [.slice A N.length cp, .int .i64 (newM 1000)] := hB10'
   refine op_nil ?_
   refine W_seq ?_
   refine zQ ?_
   refine zS [(26, .pointer (some ⟨p, 0, none⟩)), (27, .bool false)] ?_
   refine zO false (fun h => nomatch h) (fun _ => ?_)
   refine W_skip ?_
   refine W_seq ?_
   refine zF [(0, .slice L mm cl), (1, .slice C m1 cc), (4, .bool false), (5, .pointer (some ⟨p, 0, none⟩)), (6, .pointer (some ⟨w5.heap.size, 0, none⟩)), (19, .bool (decide ((m1 : Int) > 300))), (27, .bool false)] fun ρ => ?_
   refine zR ?_
   refine st (by rfl) (S_val (v := .agg #[.slice A N.length cp, .int .i64 (newM 1000)]) (R_loadA [.slice A N.length cp, .int .i64 (newM 1000)] (by kernel_rfl) (by kernel_rfl) (by kernel_rfl) (fun k u hk => by rw [hB10.cell]; exact get_part _ 0 _ k u rfl hk)) ?_)
   refine zS [(29, .slice C m1 cc)] ?_
   refine zC (AllR_ok A cp (newM 1000) (newM 1000) N C m1 cc ins _ hD (by omega) hO.2 hB (hC.tch0 hT0)) ?_
   rintro _ w15 ⟨B, cb, vs, rfl, hvl, hvk, hV, hVb, hT16⟩
   have hT0 := hT0.t0 hT16
   have hO := hO.tch0 hT16
   have hD := hD.tch0 hT16
   have hB10 := hB10.tch0 hT16
   refine zS [(7, .slice B N.length cb)] ?_
   refine op_nil ?_
   refine W_seq ?_
   refine zQ ?_
   refine zS [(8, .int .i64 0)] ?_
   refine op_nil ?_
   refine W_block ?_
   refine W_loop (fun m ρ w' => ∃ (i : Nat) (ρ0 : Env), ρ = updL ρ0 [(5, .pointer (some ⟨p, 0, none⟩)), (6, .pointer (some ⟨w5.heap.size, 0, none⟩)), (7, .slice B N.length cb), (8, .int .i64 ((i : Nat) : Int))] ∧ (i ≤ N.length) ∧ Tch N0 w w' ∧ TObj F w' p (newM 1000) N ∧ Blk w' (w5.heap.size) 27 [.slice A N.length cp, .int .i64 (newM 1000)] ∧ Own w' 0 32 6 (.slice A N.length cp) N.length (ncs N) ∧ Own w' 0 30 1 (.slice B N.length cb) N.length (us vs) ∧ m = N.length - i) (m := N.length - 0) ?_ ?_
   ·
    refine ⟨0, _, updL_self (by kernel_rfl), by omega, hT0, hO, hB10, hD, hV, rfl⟩
   ·
    rintro m ρ w17 ⟨i, ρ, rfl, hi, hT0, hO, hBX, hD, hV, rfl⟩
    refine W_seq ?_
    refine zQ ?_
    refine zS [(31, .int .i64 ((i : Nat) : Int)), (32, .slice B N.length cb), (33, .int .i64 (N.length : Int)), (34, .bool (decide (((i : Nat) : Int) < (N.length : Int))))] ?_
    refine zO (decide (((i : Nat) : Int) < (N.length : Int))) (fun hc18 => ?_) (fun hc18 => ?_)
    ·
     replace hc18 : ((i : Nat) : Int) < (N.length : Int) := (of_decide_eq_true hc18)
     refine W_skip ?_
     refine W_seq ?_
     refine W_block ?_
     refine W_seq ?_
     have hwr := hO.2.wr _ (nth_mem (N := N) (i := i) (by omega))
     have hg := hvk i (by omega)
     have hg1 := hg.2.1
     have hg2 := hg.2.2
     refine zR ?_
     refine zS [(38, .pointer (some ⟨p, 0, none⟩)), (39, .int .i64 ((i : Nat) : Int))] ?_
     refine st (by rfl) (S_call (args := [.pointer (some ⟨p, 0, none⟩), .int .i64 ((i : Nat) : Int)]) (by kernel_rfl) ((by have q := Rg_ok F p (newM 1000) N _ ((i : Nat) : Int) _ hO.1 (by omega) hO.2 hB; rw [rgF_nat (by omega), erR_in (by omega)] at q; exact q)) ?_)
     rintro _ w19 ⟨rfl, hT20⟩
     have hT0 := hT0.t0 hT20
     have hO := hO.tch0 hT20
     have hBX := hBX.tch0 hT20
     have hD := hD.tch0 hT20
     have hV := hV.tch0 hT20
     refine zS [(37, .tuple #[.int .u64 (((ronN N (rl N i) (nth N i)).1 : Nat) : Int), .int .u64 (((ronN N (rl N i) (nth N i)).2 : Nat) : Int), .int .i64 0]), (41, .int .u64 (((ronN N (rl N i) (nth N i)).1 : Nat) : Int)), (42, .int .u64 (((ronN N (rl N i) (nth N i)).2 : Nat) : Int)), (43, .int .i64 0), (9, .int .u64 (((ronN N (rl N i) (nth N i)).1 : Nat) : Int)), (10, .int .u64 (((ronN N (rl N i) (nth N i)).2 : Nat) : Int)), (11, .int .i64 0)] ?_
     refine op_nil ?_
     refine W_seq ?_
     refine zF [(5, .pointer (some ⟨p, 0, none⟩)), (6, .pointer (some ⟨w5.heap.size, 0, none⟩)), (7, .slice B N.length cb), (8, .int .i64 ((i : Nat) : Int)), (9, .int .u64 (((ronN N (rl N i) (nth N i)).1 : Nat) : Int)), (10, .int .u64 (((ronN N (rl N i) (nth N i)).2 : Nat) : Int)), (11, .int .i64 0), (34, .bool (decide (((i : Nat) : Int) < (N.length : Int))))] fun ρ => ?_
     refine zR ?_
     refine zS [(44, .int .i64 0), (45, .bool false), (46, .bool false), (47, .slice B N.length cb), (48, .int .i64 ((i : Nat) : Int))] ?_
     refine stv (v := ptrAt B i) (by kernel_rfl) (R_indexRd1 (len := N.length) (cap := cb) (k := .i64) (i := ((i : Nat) : Int)) (e := 30) i hV.rdS (by kernel_rfl) (by kernel_rfl) (by kernel_rfl) (by kernel_rfl) rfl (by omega)) ?_
     refine stv (v := .int .u64 ((vs.getD i 0 : Nat) : Int)) (by kernel_rfl) (R_loadRd (v := .int .u64 ((vs.getD i 0 : Nat) : Int)) hV.rdS (by omega) (by kernel_rfl) (by kernel_rfl) (us_at (by omega))) ?_
     refine zS [(51, .int .u64 (((ronN N (rl N i) (nth N i)).1 : Nat) : Int)), (52, .bool (decide (((vs.getD i 0 : Nat) : Int) < (((ronN N (rl N i) (nth N i)).1 : Nat) : Int)))), (53, .bool (decide (((vs.getD i 0 : Nat) : Int) < (((ronN N (rl N i) (nth N i)).1 : Nat) : Int)))), (54, .bool (decide (((vs.getD i 0 : Nat) : Int) < (((ronN N (rl N i) (nth N i)).1 : Nat) : Int))))] ?_
     cases hb21 : decide (((vs.getD i 0 : Nat) : Int) < (((ronN N (rl N i) (nth N i)).1 : Nat) : Int))
     ·
      replace hb21 : (((ronN N (rl N i) (nth N i)).1 : Nat) : Int) ≤ ((vs.getD i 0 : Nat) : Int) := (Int.not_lt.1 (of_decide_eq_false hb21))
      refine zS [(55, .slice B N.length cb), (56, .int .i64 ((i : Nat) : Int))] ?_
      refine stv (v := ptrAt B i) (by kernel_rfl) (R_indexRd1 (len := N.length) (cap := cb) (k := .i64) (i := ((i : Nat) : Int)) (e := 30) i hV.rdS (by kernel_rfl) (by kernel_rfl) (by kernel_rfl) (by kernel_rfl) rfl (by omega)) ?_
      refine stv (v := .int .u64 ((vs.getD i 0 : Nat) : Int)) (by kernel_rfl) (R_loadRd (v := .int .u64 ((vs.getD i 0 : Nat) : Int)) hV.rdS (by omega) (by kernel_rfl) (by kernel_rfl) (us_at (by omega))) ?_
      refine zS [(59, .int .u64 (((ronN N (rl N i) (nth N i)).2 : Nat) : Int)), (60, .bool (decide (((vs.getD i 0 : Nat) : Int) > (((ronN N (rl N i) (nth N i)).2 : Nat) : Int)))), (61, .bool (decide (((vs.getD i 0 : Nat) : Int) > (((ronN N (rl N i) (nth N i)).2 : Nat) : Int))))] ?_
      refine zO (decide (((vs.getD i 0 : Nat) : Int) > (((ronN N (rl N i) (nth N i)).2 : Nat) : Int))) (fun hc22 => ?_) (fun hc22 => ?_)
      ·
       replace hc22 : (((ronN N (rl N i) (nth N i)).2 : Nat) : Int) < ((vs.getD i 0 : Nat) : Int) := (of_decide_eq_true hc22)
       exfalso; omega
      ·
       replace hc22 : ((vs.getD i 0 : Nat) : Int) ≤ (((ronN N (rl N i) (nth N i)).2 : Nat) : Int) := (Int.not_lt.1 (of_decide_eq_false hc22))
       refine W_skip ?_
       refine zF [(5, .pointer (some ⟨p, 0, none⟩)), (6, .pointer (some ⟨w5.heap.size, 0, none⟩)), (7, .slice B N.length cb), (8, .int .i64 ((i : Nat) : Int)), (9, .int .u64 (((ronN N (rl N i) (nth N i)).1 : Nat) : Int)), (10, .int .u64 (((ronN N (rl N i) (nth N i)).2 : Nat) : Int)), (11, .int .i64 0), (34, .bool (decide (((i : Nat) : Int) < (N.length : Int)))), (61, .bool (decide (((vs.getD i 0 : Nat) : Int) > (((ronN N (rl N i) (nth N i)).2 : Nat) : Int))))] fun ρ => ?_
       refine zR ?_
       refine zS [(35, .int .i64 ((i : Nat) : Int)), (36, .int .i64 (IntKind.i64.wrap (((i : Nat) : Int) + 1)))] ?_
       rw [show IntKind.i64.wrap (((i : Nat) : Int) + 1) = ((i : Nat) : Int) + 1 from wrap_i64 (by omega) (by omega)]
       refine fixR (y := ((i + 1 : Nat) : Int)) (by omega) ?_
       refine zS [(8, .int .i64 ((i + 1 : Nat) : Int))] ?_
       refine op_nil ?_
       refine ⟨_, ?_, i + 1, _, updL_self (by kernel_rfl), ?_, hT0, hO, hBX, hD, hV, rfl⟩
       ·
        omega
       ·
        omega
     ·
      replace hb21 : ((vs.getD i 0 : Nat) : Int) < (((ronN N (rl N i) (nth N i)).1 : Nat) : Int) := (of_decide_eq_true hb21)
      exfalso; omega
    ·
     replace hc18 : (N.length : Int) ≤ ((i : Nat) : Int) := (Int.not_lt.1 (of_decide_eq_false hc18))
     refine W_exit ?_
     refine X_hit ?_
     refine zQ ?_
     refine zC (awake52_ok _) ?_
     rintro _ w23 ⟨rfl, hT24⟩
     have hT0 := hT0.t0 hT24
     have hO := hO.tch0 hT24
     have hBX := hBX.tch0 hT24
     have hD := hD.tch0 hT24
     have hV := hV.tch0 hT24
     refine zS [(4, .bool true)] ?_
     refine op_nil ?_
     refine W_ret ?_
     exact ⟨_, Res_of (v := .bool true) (by kernel_rfl), ⟨rfl, hT0⟩⟩
 ·
  replace hb1 : 80 < (mm : Int) := (of_decide_eq_true hb1)
  refine zS [(16, undef), (17, undef), (18, undef), (19, .bool true)] ?_
  refine zO true (fun _ => ?_) (fun h => nomatch h)
  refine W_seq ?_
  refine zF [(0, .slice L mm cl), (1, .slice C m1 cc), (4, .bool false), (19, .bool true)] fun ρ => ?_
  refine zR ?_
  refine zC (awake52_ok _) ?_
  rintro _ w25 ⟨rfl, hT26⟩
  have hT0 := hT26
  refine zS [(4, .bool true)] ?_
  refine op_nil ?_
  refine W_ret ?_
  exact ⟨_, Res_of (v := .bool true) (by kernel_rfl), ⟨rfl, hT0⟩⟩

end Go.Proofs.YtlbadnpgmkobdaaV
