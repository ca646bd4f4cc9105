/- Texts laid together: Walks of functions of the program and of the document's texts. The conditions stand with each theorem. Walks of functions of the program and of the document's texts. The conditions stand with each theorem. -/
import Derived.Test.YtlbadnpgmkobdaaJRrang58x1
import Derived.Test.YtlbadnpgmkobdaaProg
import Derived.Test.YtlbadnpgmkobdaaJRrang58x12
import Derived.Test.YtlbadnpgmkobdaaJRrang58x4
set_option linter.unusedVariables false
set_option linter.unusedSimpArgs false
namespace Go.Proofs.YtlbadnpgmkobdaaV
open Go Go.RowKit Go.Proofs

set_option maxRecDepth 100000 in
set_option maxHeartbeats 4000000 in
theorem buildq_ok (Q : List Nd → Prop) (mo : Int) (L : Option Addr) (mm cl : Nat) (cells : List Value) (ds : Nat → Int × Int × Int × Int × Int × Int) (w : World) (hL : RdW w 6 mm L cells) (hDs : Deeds6 mm cells ds) (hm : mm ≤ 150) (hQ0 : Q []) (hQ : ∀ N k w a b c x, TJ N (newM mo) → Q N → Q (madeF N (newM mo) k w a b c x).2.2) : Ret Try.prog 13 [.int .i64 mo, .slice L mm cl] w fun v w' => ∃ p F A cp N, v = .tuple #[.pointer (some ⟨p, 0, none⟩), .agg #[.slice A N.length cp, .int .i64 (newM mo)]] ∧ Q N ∧ TObj F w' p (newM mo) N ∧ Own w' 0 32 6 (.slice A N.length cp) N.length (ncs N) ∧ (∀ b, F b → w.heap.size ≤ b) ∧ (∀ c, (Value.slice A N.length cp).ownBlock = some c → w.heap.size ≤ c ∧ ¬ F c) ∧ Tch N0 w w' := by
 refine enter Try.func13 rfl rfl ?_
 refine zQ ?_
 refine zS [(4, .pointer none)] ?_
 refine st (by rfl) (S_new (v := .pointer (some ⟨w.heap.size, 0, none⟩)) (ob := .cells #[.slice none 0 0, .int .i64 0] 27) (by kernel_rfl) fun w1 hT2 hs3 hB4 => ?_)
 replace hB4 : Blk w1 (w.heap.size) 27 [.slice none 0 0, .int .i64 0] := hB4
 have hT0 := hT2
 refine op_nil ?_
 refine zQ ?_
 refine zS [(14, .int .i64 mo)] ?_
 have hz_ := hT0.size
 have lt9 := hB4.lt
 refine zC (new_ok mo _) ?_
 rintro _ w5 ⟨p7, F8, rfl, hO, hT6, hFb⟩
 have hT0 := hT0.t0 hT6
 have hB4 := hB4.tch0 hT6
 have nF_hB4 : ¬ F8 (w.heap.size) := fun e => by have := hFb _ e; omega
 replace hFb := fun b hb => Nat.le_trans hz_ (hFb b hb)
 refine zS [(16, .int .i64 mo)] ?_
 refine zC (rnew_ok mo _) ?_
 rintro _ w10 ⟨rfl, hT11⟩
 have hT0 := hT0.t0 hT11
 have hB4 := hB4.tch0 hT11
 have hO := hO.tch0 hT11
 have hlt_ := hO.1.lt
 have lt16 := hB4.lt
 have z17 := hT0.size
 have l18 := hB4.lt
 refine st (by rfl) (S_new (v := .pointer (some ⟨w10.heap.size, 0, none⟩)) (ob := .cells #[.slice none 0 0, .int .i64 0] 27) (by kernel_rfl) fun w12 hT13 hs14 hB15 => ?_)
 replace hB15 : Blk w12 (w10.heap.size) 27 [.slice none 0 0, .int .i64 0] := hB15
 have hT0 := hT0.t0 hT13
 have hB4 := hB4.tch0 hT13
 have hO := hO.tch0 hT13
 have nF_hB15 : ¬ F8 (w10.heap.size) := fun e => by have := hlt_ _ e; omega
 refine zS [(6, .pointer (some ⟨p7, 0, none⟩))] ?_
 refine st (by rfl) (S_storeA (b := w10.heap.size) (j := 0) (cs := [.slice none 0 0, .int .i64 (newM mo)]) (by kernel_rfl) (by kernel_rfl) (by kernel_rfl) (by simp [oneV]) hB15 (by simp) fun w19 hT20 hs21 hB15' => ?_)
 have hT0 := (hT0).then hT20 (fun c e => by have : c = w10.heap.size := e; omega)
 have hB4 := hB4.tch hT20 (fun e => by have : w.heap.size = w10.heap.size := e; omega)
 have hO := hO.tchS hT20 (fun c e q => by cases e; exact nF_hB15 q)
 replace hB15 : Blk w19 w10.heap.size 27 [.slice none 0 0, .int .i64 (newM mo)] := hB15'
 refine op_nil ?_
 refine W_seq ?_
 refine W_seq ?_
 refine zF [(0, .int .i64 mo), (1, .slice L mm cl), (4, .pointer none), (5, .pointer (some ⟨w.heap.size, 0, none⟩)), (6, .pointer (some ⟨p7, 0, none⟩)), (7, .pointer (some ⟨w10.heap.size, 0, none⟩))] fun ρ => ?_
 refine zR ?_
 refine zS [(18, .pointer (some ⟨p7, 0, none⟩)), (19, .bool false)] ?_
 refine zO false (fun h => nomatch h) (fun _ => ?_)
 refine W_skip ?_
 refine W_seq ?_
 refine zQ ?_
 refine zS [(8, .int .i64 0)] ?_
 refine op_nil ?_
 refine W_block ?_
 refine W_loop (fun m ρ w' => ∃ (F : Nat → Prop) (A : Option Addr) (cp : Nat) (N : List Nd) (i : Nat) (ρ0 : Env), ρ = updL ρ0 [(0, .int .i64 mo), (1, .slice L mm cl), (4, .pointer none), (5, .pointer (some ⟨w.heap.size, 0, none⟩)), (6, .pointer (some ⟨p7, 0, none⟩)), (7, .pointer (some ⟨w10.heap.size, 0, none⟩)), (8, .int .i64 ((i : Nat) : Int))] ∧ (i ≤ mm) ∧ (∀ b, F b → w.heap.size ≤ b) ∧ (∀ c, (Value.slice A N.length cp).ownBlock = some c → w.heap.size ≤ c) ∧ (∀ c, (Value.slice A N.length cp).ownBlock = some c → ¬ F c) ∧ (¬ F (w10.heap.size)) ∧ (¬ F (w.heap.size)) ∧ (Q N) ∧ Tch N0 w w' ∧ TObj F w' p7 (newM mo) N ∧ Blk w' (w10.heap.size) 27 [.slice A N.length cp, .int .i64 (newM mo)] ∧ Blk w' (w.heap.size) 27 [.slice none 0 0, .int .i64 0] ∧ Own w' 0 32 6 (.slice A N.length cp) N.length (ncs N) ∧ RdW w' 6 mm L cells ∧ m = mm - i) (m := mm - 0) ?_ ?_
 ·
  refine ⟨F8, none, 0, [], 0, _, updL_self (by kernel_rfl), by omega, hFb, (fun c h => by cases h), (fun c h => by cases h), nF_hB15, nF_hB4, hQ0, hT0, hO, hB15, hB4, (Own.nil_ _ _ _ _), hL.tch0 hT0, rfl⟩
 ·
  rintro m ρ w22 ⟨F, A, cp, N, i, ρ, rfl, hi, hFb, nB_hD, nF_hD, nF_hBD, nF_hBR, hQN, hT0, hO, hBD, hBR, hD, hLc, rfl⟩
  have hJ0 := hO.2
  have ln0 := hO.2.ti.len
  have lm0 := hO.2.ti.most
  refine W_seq ?_
  refine zQ ?_
  refine zS [(21, .int .i64 ((i : Nat) : Int)), (22, .slice L mm cl), (23, .int .i64 (mm : Int)), (24, .bool (decide (((i : Nat) : Int) < (mm : Int))))] ?_
  refine zO (decide (((i : Nat) : Int) < (mm : Int))) (fun hc23 => ?_) (fun hc23 => ?_)
  ·
   replace hc23 : ((i : Nat) : Int) < (mm : Int) := (of_decide_eq_true hc23)
   refine W_skip ?_
   refine W_seq ?_
   refine W_block ?_
   refine zQ ?_
   refine zS [(28, .pointer (some ⟨p7, 0, none⟩)), (29, .slice L mm cl), (30, .int .i64 ((i : Nat) : Int))] ?_
   refine stv (v := ptrAt L (i * 6)) (by rfl) (R_indexRd (sz := 6) (len := mm) (cap := cl) (k := .i64) (i := ((i : Nat) : Int)) (e := 44) i hLc (by kernel_rfl) (by kernel_rfl) (by kernel_rfl) (by kernel_rfl) rfl (by omega)) ?_
   refine stv (v := .agg #[.int .i64 ((ds i).1), .int .i64 ((ds i).2.1), .int .i64 ((ds i).2.2.1), .int .i64 ((ds i).2.2.2.1), .int .i64 ((ds i).2.2.2.2.1), .int .u64 ((ds i).2.2.2.2.2)]) (by rfl) (R_loadRdA [.int .i64 ((ds i).1), .int .i64 ((ds i).2.1), .int .i64 ((ds i).2.2.1), .int .i64 ((ds i).2.2.2.1), .int .i64 ((ds i).2.2.2.2.1), .int .u64 ((ds i).2.2.2.2.2)] hLc (by omega) (by kernel_rfl) (by kernel_rfl) (by kernel_rfl) (hDs.part (by omega))) ?_
   have hz_ := hT0.size
   have lt27 := hBD.lt
   have lt28 := hBR.lt
   have lD_ := hD.lt
   obtain ⟨_, b0, b1, b2, b3, b4, b5⟩ := hDs i (by omega)
   refine zC (made_ok F p7 (newM mo) N ((ds i).1) ((ds i).2.1) ((ds i).2.2.1) ((ds i).2.2.2.1) ((ds i).2.2.2.2.1) ((ds i).2.2.2.2.2) _ hO b0 b1 b2 b3 b4 b5) ?_
   rintro _ w24 ⟨rfl, F25, hO, hm26⟩
   have hT0 := (hT0).then hm26.1 hFb
   have hBD := hBD.tch hm26.1 nF_hBD
   have hBR := hBR.tch hm26.1 nF_hBR
   have hD := hD.tch hm26.1 nF_hD
   have hLc := hL.tch0 hT0
   replace nF_hBD : ¬ F25 (w10.heap.size) := fun e => (hm26.2 _ e).elim nF_hBD (fun q => by omega)
   replace nF_hBR : ¬ F25 (w.heap.size) := fun e => (hm26.2 _ e).elim nF_hBR (fun q => by omega)
   replace nF_hD : ∀ c, (Value.slice A N.length cp).ownBlock = some c → ¬ F25 c := fun c hc e => (hm26.2 _ e).elim (nF_hD c hc) (fun q => by have := lD_ c hc; omega)
   replace hFb := hm26.ge hFb hz_
   refine zS [(27, .tuple #[.int .i64 ((madeF N (newM mo) ((ds i).1) ((ds i).2.1) ((ds i).2.2.1) ((ds i).2.2.2.1) ((ds i).2.2.2.2.1) ((ds i).2.2.2.2.2)).1), .int .i64 ((madeF N (newM mo) ((ds i).1) ((ds i).2.1) ((ds i).2.2.1) ((ds i).2.2.2.1) ((ds i).2.2.2.2.1) ((ds i).2.2.2.2.2)).2.1)]), (34, .int .i64 ((madeF N (newM mo) ((ds i).1) ((ds i).2.1) ((ds i).2.2.1) ((ds i).2.2.2.1) ((ds i).2.2.2.2.1) ((ds i).2.2.2.2.2)).1)), (35, .int .i64 ((madeF N (newM mo) ((ds i).1) ((ds i).2.1) ((ds i).2.2.1) ((ds i).2.2.2.1) ((ds i).2.2.2.2.1) ((ds i).2.2.2.2.2)).2.1)), (9, .int .i64 ((madeF N (newM mo) ((ds i).1) ((ds i).2.1) ((ds i).2.2.1) ((ds i).2.2.2.1) ((ds i).2.2.2.2.1) ((ds i).2.2.2.2.2)).1)), (10, .int .i64 ((madeF N (newM mo) ((ds i).1) ((ds i).2.1) ((ds i).2.2.1) ((ds i).2.2.2.1) ((ds i).2.2.2.2.1) ((ds i).2.2.2.2.2)).2.1))] ?_
   refine op_nil ?_
   refine W_seq ?_
   refine zF [(0, .int .i64 mo), (1, .slice L mm cl), (4, .pointer none), (5, .pointer (some ⟨w.heap.size, 0, none⟩)), (6, .pointer (some ⟨p7, 0, none⟩)), (7, .pointer (some ⟨w10.heap.size, 0, none⟩)), (8, .int .i64 ((i : Nat) : Int)), (9, .int .i64 ((madeF N (newM mo) ((ds i).1) ((ds i).2.1) ((ds i).2.2.1) ((ds i).2.2.2.1) ((ds i).2.2.2.2.1) ((ds i).2.2.2.2.2)).1)), (10, .int .i64 ((madeF N (newM mo) ((ds i).1) ((ds i).2.1) ((ds i).2.2.1) ((ds i).2.2.2.1) ((ds i).2.2.2.2.1) ((ds i).2.2.2.2.2)).2.1)), (24, .bool (decide (((i : Nat) : Int) < (mm : Int))))] fun ρ => ?_
   refine W_draw (fun w' => Blk w' (w10.heap.size) 27 [.slice A N.length cp, .int .i64 (newM mo)] ∧ RdW w' 6 mm L cells) (by kernel_rfl) (by kernel_rfl) (by kernel_rfl) fun w29 hT30 hh31 => ?_
   have hT0 := hT0.t0 hT30
   have hO := hO.tch0 hT30
   have hBD := hBD.tch0 hT30
   have hBR := hBR.tch0 hT30
   have hD := hD.tch0 hT30
   have hLc := hL.tch0 hT0
   refine zK [1, 2] #[false, true, true, false, false, false, false, false, false, false, false, false, false, false] [(38, .slice L mm cl), (39, .int .i64 ((i : Nat) : Int))] ⟨hBD, hLc⟩ ?_
   refine zV 0 rfl (.agg #[.slice A N.length cp, .int .i64 (newM mo)]) (fun _ ⟨hBD, hLc⟩ => R_loadA [.slice A N.length cp, .int .i64 (newM mo)] (by kernel_rfl) (by kernel_rfl) (by kernel_rfl) (fun k u hk => by rw [hBD.cell]; exact get_part _ 0 _ k u rfl hk)) ⟨hBD, hLc⟩ ?_
   refine zV 3 rfl (ptrAt L (i * 6)) (fun _ ⟨hBD, hLc⟩ => R_indexRd (sz := 6) (len := mm) (cap := cl) (k := .i64) (i := ((i : Nat) : Int)) (e := 44) i hLc (by kernel_rfl) (by kernel_rfl) (by kernel_rfl) (by kernel_rfl) rfl (by omega)) ⟨hBD, hLc⟩ ?_
   refine zV 4 rfl (.agg #[.int .i64 ((ds i).1), .int .i64 ((ds i).2.1), .int .i64 ((ds i).2.2.1), .int .i64 ((ds i).2.2.2.1), .int .i64 ((ds i).2.2.2.2.1), .int .u64 ((ds i).2.2.2.2.2)]) (fun _ ⟨hBD, hLc⟩ => R_loadRdA [.int .i64 ((ds i).1), .int .i64 ((ds i).2.1), .int .i64 ((ds i).2.2.1), .int .i64 ((ds i).2.2.2.1), .int .i64 ((ds i).2.2.2.2.1), .int .u64 ((ds i).2.2.2.2.2)] hLc (by omega) (by kernel_rfl) (by kernel_rfl) (by kernel_rfl) (hDs.part (by omega))) ⟨hBD, hLc⟩ ?_
   refine d_two 5 10 (by kernel_rfl) (by rfl) (by rfl) (by kernel_rfl) (by kernel_rfl) ?_ ?_
   ·
    have hzr := hT0.size
    have hl2 := hO.1.lt
    refine (S_call (args := [.agg #[.slice A N.length cp, .int .i64 (newM mo)], .agg #[.int .i64 ((ds i).1), .int .i64 ((ds i).2.1), .int .i64 ((ds i).2.2.1), .int .i64 ((ds i).2.2.2.1), .int .i64 ((ds i).2.2.2.2.1), .int .u64 ((ds i).2.2.2.2.2)]]) (by kernel_rfl) (meant_ok A cp (newM mo) N ((ds i).1) ((ds i).2.1) ((ds i).2.2.1) ((ds i).2.2.2.1) ((ds i).2.2.2.2.1) ((ds i).2.2.2.2.2) _ hD hJ0 b0 b1 b2 b3 b4 b5) ?_)
    rintro _ w32 ⟨A33, cp34, rfl, hD37, hw35, hT36⟩
    have hT0 := hT0.t0 hT36
    have hO := hO.tch0 hT36
    have hBD := hBD.tch0 hT36
    have hBR := hBR.tch0 hT36
    have hLc := hL.tch0 hT0
    have nB_hD37 : ∀ c, (Value.slice A33 (((madeF N (newM mo) ((ds i).1) ((ds i).2.1) ((ds i).2.2.1) ((ds i).2.2.2.1) ((ds i).2.2.2.2.1) ((ds i).2.2.2.2.2)).2.2).length) cp34).ownBlock = some c → w.heap.size ≤ c := fun c h => (hw35 c h).elim (nB_hD c) (fun q => by omega)
    have nF_hD37 : ∀ c, (Value.slice A33 (((madeF N (newM mo) ((ds i).1) ((ds i).2.1) ((ds i).2.2.1) ((ds i).2.2.2.1) ((ds i).2.2.2.2.1) ((ds i).2.2.2.2.2)).2.2).length) cp34).ownBlock = some c → ¬ F25 c := fun c h e => (hw35 c h).elim (fun q => nF_hD c q e) (fun q => by have := hl2 c e; omega)
    refine ⟨⟨hBD, hLc⟩, ?_⟩
    refine zK [6, 7, 8, 9] #[true, true, true, true, true, true, true, true, true, true, false, false, false, false] [(36, .tuple #[.agg #[.slice A33 (((madeF N (newM mo) ((ds i).1) ((ds i).2.1) ((ds i).2.2.1) ((ds i).2.2.2.1) ((ds i).2.2.2.2.1) ((ds i).2.2.2.2.2)).2.2).length) cp34, .int .i64 (newM mo)], .int .i64 ((madeF N (newM mo) ((ds i).1) ((ds i).2.1) ((ds i).2.2.1) ((ds i).2.2.2.1) ((ds i).2.2.2.2.1) ((ds i).2.2.2.2.2)).1), .int .i64 ((madeF N (newM mo) ((ds i).1) ((ds i).2.1) ((ds i).2.2.1) ((ds i).2.2.2.1) ((ds i).2.2.2.2.1) ((ds i).2.2.2.2.2)).2.1)]), (43, .agg #[.slice A33 (((madeF N (newM mo) ((ds i).1) ((ds i).2.1) ((ds i).2.2.1) ((ds i).2.2.2.1) ((ds i).2.2.2.2.1) ((ds i).2.2.2.2.2)).2.2).length) cp34, .int .i64 (newM mo)]), (44, .int .i64 ((madeF N (newM mo) ((ds i).1) ((ds i).2.1) ((ds i).2.2.1) ((ds i).2.2.2.1) ((ds i).2.2.2.2.1) ((ds i).2.2.2.2.2)).1)), (45, .int .i64 ((madeF N (newM mo) ((ds i).1) ((ds i).2.1) ((ds i).2.2.1) ((ds i).2.2.2.1) ((ds i).2.2.2.2.1) ((ds i).2.2.2.2.2)).2.1))] ⟨hBD, hLc⟩ ?_
    have hlt_ := hO.1.lt
    have lt42 := hBD.lt
    have lt43 := hBR.lt
    have lR_hD37 := hD37.lt
    have z44 := hT0.size
    have l45 := hBD.lt
    have l46 := hBR.lt
    refine zD 10 rfl (S_new (v := .pointer (some ⟨w32.heap.size, 0, none⟩)) (ob := .cells #[.slice none 0 0, .int .i64 0] 27) (by kernel_rfl) fun w38 hT39 hs40 hB41 => ?_)
    replace hB41 : Blk w38 (w32.heap.size) 27 [.slice none 0 0, .int .i64 0] := hB41
    have hT0 := hT0.t0 hT39
    have hO := hO.tch0 hT39
    have hBD := hBD.tch0 hT39
    have hBR := hBR.tch0 hT39
    have hLc := hL.tch0 hT0
    have hD37 := hD37.tch0 hT39
    have nF_hB41 : ¬ F25 (w32.heap.size) := fun e => by have := hlt_ _ e; omega
    refine ⟨⟨hBD, hLc⟩, ?_⟩
    refine zD 11 rfl (S_storeA (b := w32.heap.size) (j := 0) (cs := [.slice A33 (((madeF N (newM mo) ((ds i).1) ((ds i).2.1) ((ds i).2.2.1) ((ds i).2.2.2.1) ((ds i).2.2.2.2.1) ((ds i).2.2.2.2.2)).2.2).length) cp34, .int .i64 (newM mo)]) (by kernel_rfl) (by kernel_rfl) (by kernel_rfl) (by simp [oneV]) hB41 (by simp) fun w47 hT48 hs49 hB41' => ?_)
    have hT0 := (hT0).then hT48 (fun c e => by have : c = w32.heap.size := e; omega)
    have hO := hO.tchS hT48 (fun c e q => by cases e; exact nF_hB41 q)
    have hBD := hBD.tch hT48 (fun e => by have : w10.heap.size = w32.heap.size := e; omega)
    have hBR := hBR.tch hT48 (fun e => by have : w.heap.size = w32.heap.size := e; omega)
    have hLc := hL.tch0 hT0
    have hD37 := hD37.tch hT48 (fun c hc e => hD37.blk_ne hB41 (by decide) c hc e)
    replace hB41 : Blk w47 w32.heap.size 27 [.slice A33 (((madeF N (newM mo) ((ds i).1) ((ds i).2.1) ((ds i).2.2.1) ((ds i).2.2.2.1) ((ds i).2.2.2.2.1) ((ds i).2.2.2.2.2)).2.2).length) cp34, .int .i64 (newM mo)] := hB41'
    refine ⟨⟨hBD, hLc⟩, ?_⟩
    refine zK [12, 13] #[true, true, true, true, true, true, true, true, true, true, true, true, true, true] [(12, .int .i64 ((madeF N (newM mo) ((ds i).1) ((ds i).2.1) ((ds i).2.2.1) ((ds i).2.2.2.1) ((ds i).2.2.2.2.1) ((ds i).2.2.2.2.2)).1)), (13, .int .i64 ((madeF N (newM mo) ((ds i).1) ((ds i).2.1) ((ds i).2.2.1) ((ds i).2.2.2.1) ((ds i).2.2.2.2.1) ((ds i).2.2.2.2.2)).2.1))] ⟨hBD, hLc⟩ ?_
    refine d_done (by kernel_rfl) ?_
    refine W_seq ?_
    refine zF [(0, .int .i64 mo), (1, .slice L mm cl), (4, .pointer none), (5, .pointer (some ⟨w.heap.size, 0, none⟩)), (6, .pointer (some ⟨p7, 0, none⟩)), (7, .pointer (some ⟨w10.heap.size, 0, none⟩)), (8, .int .i64 ((i : Nat) : Int)), (9, .int .i64 ((madeF N (newM mo) ((ds i).1) ((ds i).2.1) ((ds i).2.2.1) ((ds i).2.2.2.1) ((ds i).2.2.2.2.1) ((ds i).2.2.2.2.2)).1)), (10, .int .i64 ((madeF N (newM mo) ((ds i).1) ((ds i).2.1) ((ds i).2.2.1) ((ds i).2.2.2.1) ((ds i).2.2.2.2.1) ((ds i).2.2.2.2.2)).2.1)), (11, .pointer (some ⟨w32.heap.size, 0, none⟩)), (12, .int .i64 ((madeF N (newM mo) ((ds i).1) ((ds i).2.1) ((ds i).2.2.1) ((ds i).2.2.2.1) ((ds i).2.2.2.2.1) ((ds i).2.2.2.2.2)).1)), (13, .int .i64 ((madeF N (newM mo) ((ds i).1) ((ds i).2.1) ((ds i).2.2.1) ((ds i).2.2.2.1) ((ds i).2.2.2.2.1) ((ds i).2.2.2.2.2)).2.1)), (24, .bool (decide (((i : Nat) : Int) < (mm : Int))))] fun ρ => ?_
    refine zR ?_
    refine st (by rfl) (S_val (v := .agg #[.slice A33 (((madeF N (newM mo) ((ds i).1) ((ds i).2.1) ((ds i).2.2.1) ((ds i).2.2.2.1) ((ds i).2.2.2.2.1) ((ds i).2.2.2.2.2)).2.2).length) cp34, .int .i64 (newM mo)]) (R_loadA [.slice A33 (((madeF N (newM mo) ((ds i).1) ((ds i).2.1) ((ds i).2.2.1) ((ds i).2.2.2.1) ((ds i).2.2.2.2.1) ((ds i).2.2.2.2.2)).2.2).length) cp34, .int .i64 (newM mo)] (by kernel_rfl) (by kernel_rfl) (by kernel_rfl) (fun k u hk => by rw [hB41.cell]; exact get_part _ 0 _ k u rfl hk)) ?_)
    refine st (by rfl) (S_storeA (b := w10.heap.size) (j := 0) (cs := [.slice A33 (((madeF N (newM mo) ((ds i).1) ((ds i).2.1) ((ds i).2.2.1) ((ds i).2.2.2.1) ((ds i).2.2.2.2.1) ((ds i).2.2.2.2.2)).2.2).length) cp34, .int .i64 (newM mo)]) (by kernel_rfl) (by kernel_rfl) (by kernel_rfl) (by simp [oneV]) hBD (by simp) fun w50 hT51 hs52 hBD' => ?_)
    have hT0 := (hT0).then hT51 (fun c e => by have : c = w10.heap.size := e; omega)
    have hO := hO.tchS hT51 (fun c e q => by cases e; exact nF_hBD q)
    have hBR := hBR.tch hT51 (fun e => by have : w.heap.size = w10.heap.size := e; omega)
    have hLc := hL.tch0 hT0
    have hD37 := hD37.tch hT51 (fun c hc e => hD37.blk_ne hBD (by decide) c hc e)
    have hB41 := hB41.tch hT51 (fun e => by have : w32.heap.size = w10.heap.size := e; omega)
    replace hBD : Blk w50 w10.heap.size 27 [.slice A33 (((madeF N (newM mo) ((ds i).1) ((ds i).2.1) ((ds i).2.2.1) ((ds i).2.2.2.1) ((ds i).2.2.2.2.1) ((ds i).2.2.2.2.2)).2.2).length) cp34, .int .i64 (newM mo)] := hBD'
    refine op_nil ?_
    refine W_seq ?_
    refine W_draw (fun w' => Blk w' (w10.heap.size) 27 [.slice A33 (((madeF N (newM mo) ((ds i).1) ((ds i).2.1) ((ds i).2.2.1) ((ds i).2.2.2.1) ((ds i).2.2.2.2.1) ((ds i).2.2.2.2.2)).2.2).length) cp34, .int .i64 (newM mo)]) (by kernel_rfl) (by kernel_rfl) (by kernel_rfl) fun w53 hT54 hh55 => ?_
    have hT0 := hT0.t0 hT54
    have hO := hO.tch0 hT54
    have hBD := hBD.tch0 hT54
    have hBR := hBR.tch0 hT54
    have hLc := hL.tch0 hT0
    have hD37 := hD37.tch0 hT54
    have hB41 := hB41.tch0 hT54
    refine zK [0, 1, 2, 3] #[true, true, true, true, false, false, false, false, false, false, false, false, false, false, false, false] [(47, .int .i64 ((madeF N (newM mo) ((ds i).1) ((ds i).2.1) ((ds i).2.2.1) ((ds i).2.2.2.1) ((ds i).2.2.2.2.1) ((ds i).2.2.2.2.2)).1)), (48, .int .i64 ((madeF N (newM mo) ((ds i).1) ((ds i).2.1) ((ds i).2.2.1) ((ds i).2.2.2.1) ((ds i).2.2.2.2.1) ((ds i).2.2.2.2.2)).1)), (49, .bool (((madeF N (newM mo) ((ds i).1) ((ds i).2.1) ((ds i).2.2.1) ((ds i).2.2.2.1) ((ds i).2.2.2.2.1) ((ds i).2.2.2.2.2)).1) != ((madeF N (newM mo) ((ds i).1) ((ds i).2.1) ((ds i).2.2.1) ((ds i).2.2.2.1) ((ds i).2.2.2.2.1) ((ds i).2.2.2.2.2)).1))), (50, .bool (((madeF N (newM mo) ((ds i).1) ((ds i).2.1) ((ds i).2.2.1) ((ds i).2.2.2.1) ((ds i).2.2.2.2.1) ((ds i).2.2.2.2.2)).1) != ((madeF N (newM mo) ((ds i).1) ((ds i).2.1) ((ds i).2.2.1) ((ds i).2.2.2.1) ((ds i).2.2.2.2.1) ((ds i).2.2.2.2.2)).1)))] hBD ?_
    cases hb56 : ((madeF N (newM mo) ((ds i).1) ((ds i).2.1) ((ds i).2.2.1) ((ds i).2.2.2.1) ((ds i).2.2.2.2.1) ((ds i).2.2.2.2.2)).1) != ((madeF N (newM mo) ((ds i).1) ((ds i).2.1) ((ds i).2.2.1) ((ds i).2.2.2.1) ((ds i).2.2.2.2.1) ((ds i).2.2.2.2.2)).1)
    ·
     replace hb56 : (madeF N (newM mo) ((ds i).1) ((ds i).2.1) ((ds i).2.2.1) ((ds i).2.2.2.1) ((ds i).2.2.2.2.1) ((ds i).2.2.2.2.2)).1 = (madeF N (newM mo) ((ds i).1) ((ds i).2.1) ((ds i).2.2.1) ((ds i).2.2.2.1) ((ds i).2.2.2.2.1) ((ds i).2.2.2.2.2)).1 := (bne_eq_false_iff_eq.1 hb56)
     refine zK [4, 5, 6, 7, 8] #[true, true, true, true, true, true, true, true, true, false, false, false, false, false, false, false] [(51, .int .i64 ((madeF N (newM mo) ((ds i).1) ((ds i).2.1) ((ds i).2.2.1) ((ds i).2.2.2.1) ((ds i).2.2.2.2.1) ((ds i).2.2.2.2.2)).2.1)), (52, .int .i64 ((madeF N (newM mo) ((ds i).1) ((ds i).2.1) ((ds i).2.2.1) ((ds i).2.2.2.1) ((ds i).2.2.2.2.1) ((ds i).2.2.2.2.2)).2.1)), (53, .bool (((madeF N (newM mo) ((ds i).1) ((ds i).2.1) ((ds i).2.2.1) ((ds i).2.2.2.1) ((ds i).2.2.2.2.1) ((ds i).2.2.2.2.2)).2.1) != ((madeF N (newM mo) ((ds i).1) ((ds i).2.1) ((ds i).2.2.1) ((ds i).2.2.2.1) ((ds i).2.2.2.2.1) ((ds i).2.2.2.2.2)).2.1))), (54, .bool (((madeF N (newM mo) ((ds i).1) ((ds i).2.1) ((ds i).2.2.1) ((ds i).2.2.2.1) ((ds i).2.2.2.2.1) ((ds i).2.2.2.2.2)).2.1) != ((madeF N (newM mo) ((ds i).1) ((ds i).2.1) ((ds i).2.2.1) ((ds i).2.2.2.1) ((ds i).2.2.2.2.1) ((ds i).2.2.2.2.2)).2.1))), (55, .bool (((madeF N (newM mo) ((ds i).1) ((ds i).2.1) ((ds i).2.2.1) ((ds i).2.2.2.1) ((ds i).2.2.2.2.1) ((ds i).2.2.2.2.2)).2.1) != ((madeF N (newM mo) ((ds i).1) ((ds i).2.1) ((ds i).2.2.1) ((ds i).2.2.2.1) ((ds i).2.2.2.2.1) ((ds i).2.2.2.2.2)).2.1)))] hBD ?_
     cases hb57 : ((madeF N (newM mo) ((ds i).1) ((ds i).2.1) ((ds i).2.2.1) ((ds i).2.2.2.1) ((ds i).2.2.2.2.1) ((ds i).2.2.2.2.2)).2.1) != ((madeF N (newM mo) ((ds i).1) ((ds i).2.1) ((ds i).2.2.1) ((ds i).2.2.2.1) ((ds i).2.2.2.2.1) ((ds i).2.2.2.2.2)).2.1)
     ·
      replace hb57 : (madeF N (newM mo) ((ds i).1) ((ds i).2.1) ((ds i).2.2.1) ((ds i).2.2.2.1) ((ds i).2.2.2.2.1) ((ds i).2.2.2.2.2)).2.1 = (madeF N (newM mo) ((ds i).1) ((ds i).2.1) ((ds i).2.2.1) ((ds i).2.2.2.1) ((ds i).2.2.2.2.1) ((ds i).2.2.2.2.2)).2.1 := (bne_eq_false_iff_eq.1 hb57)
      refine zK [9, 11] #[true, true, true, true, true, true, true, true, true, true, false, true, false, false, false, false] [(56, .pointer (some ⟨p7, 0, none⟩)), (58, .pointer (some ⟨w10.heap.size, 0, none⟩))] hBD ?_
      refine zV 12 rfl (.slice A33 (((madeF N (newM mo) ((ds i).1) ((ds i).2.1) ((ds i).2.2.1) ((ds i).2.2.2.1) ((ds i).2.2.2.2.1) ((ds i).2.2.2.2.2)).2.2).length) cp34) (fun _ hBD => R_load (v := .slice A33 (((madeF N (newM mo) ((ds i).1) ((ds i).2.1) ((ds i).2.2.1) ((ds i).2.2.2.1) ((ds i).2.2.2.2.1) ((ds i).2.2.2.2.2)).2.2).length) cp34) (by kernel_rfl) (by kernel_rfl) ((hBD.cell 0).trans rfl)) hBD ?_
      refine zK [13] #[true, true, true, true, true, true, true, true, true, true, false, true, true, true, false, false] [(60, .int .i64 (((madeF N (newM mo) ((ds i).1) ((ds i).2.1) ((ds i).2.2.1) ((ds i).2.2.2.1) ((ds i).2.2.2.2.1) ((ds i).2.2.2.2.2)).2.2).length : Int))] hBD ?_
      have ln_ := hO.2.ti.len
      have lm_ := hO.2.ti.most
      refine zD 10 rfl (S_call (args := [.pointer (some ⟨p7, 0, none⟩)]) (by kernel_rfl) (len_ok F25 p7 (newM mo) ((madeF N (newM mo) ((ds i).1) ((ds i).2.1) ((ds i).2.2.1) ((ds i).2.2.2.1) ((ds i).2.2.2.2.1) ((ds i).2.2.2.2.2)).2.2) _ _ hO.1 (by omega)) ?_)
      rintro _ w58 ⟨rfl, hT59⟩
      have hT0 := hT0.t0 hT59
      have hO := hO.tch0 hT59
      have hBD := hBD.tch0 hT59
      have hBR := hBR.tch0 hT59
      have hLc := hL.tch0 hT0
      have hD37 := hD37.tch0 hT59
      have hB41 := hB41.tch0 hT59
      refine ⟨hBD, ?_⟩
      refine zK [14, 15] #[true, true, true, true, true, true, true, true, true, true, true, true, true, true, true, true] [(61, .bool ((((madeF N (newM mo) ((ds i).1) ((ds i).2.1) ((ds i).2.2.1) ((ds i).2.2.2.1) ((ds i).2.2.2.2.1) ((ds i).2.2.2.2.2)).2.2).length : Int) != (((madeF N (newM mo) ((ds i).1) ((ds i).2.1) ((ds i).2.2.1) ((ds i).2.2.2.1) ((ds i).2.2.2.2.1) ((ds i).2.2.2.2.2)).2.2).length : Int))), (62, .bool ((((madeF N (newM mo) ((ds i).1) ((ds i).2.1) ((ds i).2.2.1) ((ds i).2.2.2.1) ((ds i).2.2.2.2.1) ((ds i).2.2.2.2.2)).2.2).length : Int) != (((madeF N (newM mo) ((ds i).1) ((ds i).2.1) ((ds i).2.2.1) ((ds i).2.2.2.1) ((ds i).2.2.2.2.1) ((ds i).2.2.2.2.2)).2.2).length : Int)))] hBD ?_
      refine d_done (by kernel_rfl) ?_
      refine zW ((((madeF N (newM mo) ((ds i).1) ((ds i).2.1) ((ds i).2.2.1) ((ds i).2.2.2.1) ((ds i).2.2.2.2.1) ((ds i).2.2.2.2.2)).2.2).length : Int) != (((madeF N (newM mo) ((ds i).1) ((ds i).2.1) ((ds i).2.2.1) ((ds i).2.2.2.1) ((ds i).2.2.2.2.1) ((ds i).2.2.2.2.2)).2.2).length : Int)) (fun hc60 => ?_) (fun hc60 => ?_)
      ·
       replace hc60 : (((madeF N (newM mo) ((ds i).1) ((ds i).2.1) ((ds i).2.2.1) ((ds i).2.2.2.1) ((ds i).2.2.2.2.1) ((ds i).2.2.2.2.2)).2.2).length : Int) ≠ (((madeF N (newM mo) ((ds i).1) ((ds i).2.1) ((ds i).2.2.1) ((ds i).2.2.2.1) ((ds i).2.2.2.2.1) ((ds i).2.2.2.2.2)).2.2).length : Int) := (bne_iff_ne.1 hc60)
       exact absurd rfl hc60
      ·
       replace hc60 : (((madeF N (newM mo) ((ds i).1) ((ds i).2.1) ((ds i).2.2.1) ((ds i).2.2.2.1) ((ds i).2.2.2.2.1) ((ds i).2.2.2.2.2)).2.2).length : Int) = (((madeF N (newM mo) ((ds i).1) ((ds i).2.1) ((ds i).2.2.1) ((ds i).2.2.2.1) ((ds i).2.2.2.2.1) ((ds i).2.2.2.2.2)).2.2).length : Int) := (bne_eq_false_iff_eq.1 hc60)
       refine W_skip ?_
       refine zF [(0, .int .i64 mo), (1, .slice L mm cl), (4, .pointer none), (5, .pointer (some ⟨w.heap.size, 0, none⟩)), (6, .pointer (some ⟨p7, 0, none⟩)), (7, .pointer (some ⟨w10.heap.size, 0, none⟩)), (8, .int .i64 ((i : Nat) : Int)), (9, .int .i64 ((madeF N (newM mo) ((ds i).1) ((ds i).2.1) ((ds i).2.2.1) ((ds i).2.2.2.1) ((ds i).2.2.2.2.1) ((ds i).2.2.2.2.2)).1)), (10, .int .i64 ((madeF N (newM mo) ((ds i).1) ((ds i).2.1) ((ds i).2.2.1) ((ds i).2.2.2.1) ((ds i).2.2.2.2.1) ((ds i).2.2.2.2.2)).2.1)), (11, .pointer (some ⟨w32.heap.size, 0, none⟩)), (12, .int .i64 ((madeF N (newM mo) ((ds i).1) ((ds i).2.1) ((ds i).2.2.1) ((ds i).2.2.2.1) ((ds i).2.2.2.2.1) ((ds i).2.2.2.2.2)).1)), (13, .int .i64 ((madeF N (newM mo) ((ds i).1) ((ds i).2.1) ((ds i).2.2.1) ((ds i).2.2.2.1) ((ds i).2.2.2.2.1) ((ds i).2.2.2.2.2)).2.1)), (24, .bool (decide (((i : Nat) : Int) < (mm : Int)))), (62, .bool ((((madeF N (newM mo) ((ds i).1) ((ds i).2.1) ((ds i).2.2.1) ((ds i).2.2.2.1) ((ds i).2.2.2.2.1) ((ds i).2.2.2.2.2)).2.2).length : Int) != (((madeF N (newM mo) ((ds i).1) ((ds i).2.1) ((ds i).2.2.1) ((ds i).2.2.2.1) ((ds i).2.2.2.2.1) ((ds i).2.2.2.2.2)).2.2).length : Int)))] fun ρ => ?_
       refine zR ?_
       refine zS [(25, .int .i64 ((i : Nat) : Int)), (26, .int .i64 (IntKind.i64.wrap (((i : Nat) : Int) + 1)))] ?_
       rw [show IntKind.i64.wrap (((i : Nat) : Int) + 1) = ((i : Nat) : Int) + 1 from wrap_i64 (by omega) (by omega)]
       refine fixR (y := ((i + 1 : Nat) : Int)) (by omega) ?_
       refine zS [(8, .int .i64 ((i + 1 : Nat) : Int))] ?_
       refine op_nil ?_
       refine ⟨_, ?_, F25, A33, cp34, (madeF N (newM mo) ((ds i).1) ((ds i).2.1) ((ds i).2.2.1) ((ds i).2.2.2.1) ((ds i).2.2.2.2.1) ((ds i).2.2.2.2.2)).2.2, i + 1, _, updL_self (by kernel_rfl), ?_, hFb, nB_hD37, nF_hD37, nF_hBD, nF_hBR, (hQ _ _ _ _ _ _ _ hJ0 hQN), hT0, hO, hBD, hBR, hD37, hLc, rfl⟩
       ·
        omega
       ·
        omega
     ·
      replace hb57 : (madeF N (newM mo) ((ds i).1) ((ds i).2.1) ((ds i).2.2.1) ((ds i).2.2.2.1) ((ds i).2.2.2.2.1) ((ds i).2.2.2.2.2)).2.1 ≠ (madeF N (newM mo) ((ds i).1) ((ds i).2.1) ((ds i).2.2.1) ((ds i).2.2.2.1) ((ds i).2.2.2.2.1) ((ds i).2.2.2.2.2)).2.1 := (bne_iff_ne.1 hb57)
      exact absurd rfl hb57
    ·
     replace hb56 : (madeF N (newM mo) ((ds i).1) ((ds i).2.1) ((ds i).2.2.1) ((ds i).2.2.2.1) ((ds i).2.2.2.2.1) ((ds i).2.2.2.2.2)).1 ≠ (madeF N (newM mo) ((ds i).1) ((ds i).2.1) ((ds i).2.2.1) ((ds i).2.2.2.1) ((ds i).2.2.2.2.1) ((ds i).2.2.2.2.2)).1 := (bne_iff_ne.1 hb56)
     exact absurd rfl hb56
   ·
    have hlt_ := hO.1.lt
    have lt65 := hBD.lt
    have lt66 := hBR.lt
    have lR_hD := hD.lt
    have z67 := hT0.size
    have l68 := hBD.lt
    have l69 := hBR.lt
    refine (S_new (v := .pointer (some ⟨w29.heap.size, 0, none⟩)) (ob := .cells #[.slice none 0 0, .int .i64 0] 27) (by kernel_rfl) fun w61 hT62 hs63 hB64 => ?_)
    replace hB64 : Blk w61 (w29.heap.size) 27 [.slice none 0 0, .int .i64 0] := hB64
    have hT0 := hT0.t0 hT62
    have hO := hO.tch0 hT62
    have hBD := hBD.tch0 hT62
    have hBR := hBR.tch0 hT62
    have hD := hD.tch0 hT62
    have hLc := hL.tch0 hT0
    have nF_hB64 : ¬ F25 (w29.heap.size) := fun e => by have := hlt_ _ e; omega
    refine ⟨⟨hBD, hLc⟩, ?_⟩
    have hzr := hT0.size
    have hl2 := hO.1.lt
    refine zD 5 rfl (S_call (args := [.agg #[.slice A N.length cp, .int .i64 (newM mo)], .agg #[.int .i64 ((ds i).1), .int .i64 ((ds i).2.1), .int .i64 ((ds i).2.2.1), .int .i64 ((ds i).2.2.2.1), .int .i64 ((ds i).2.2.2.2.1), .int .u64 ((ds i).2.2.2.2.2)]]) (by kernel_rfl) (meant_ok A cp (newM mo) N ((ds i).1) ((ds i).2.1) ((ds i).2.2.1) ((ds i).2.2.2.1) ((ds i).2.2.2.2.1) ((ds i).2.2.2.2.2) _ hD hJ0 b0 b1 b2 b3 b4 b5) ?_)
    rintro _ w70 ⟨A71, cp72, rfl, hD75, hw73, hT74⟩
    have hT0 := hT0.t0 hT74
    have hO := hO.tch0 hT74
    have hBD := hBD.tch0 hT74
    have hBR := hBR.tch0 hT74
    have hLc := hL.tch0 hT0
    have hB64 := hB64.tch0 hT74
    have nB_hD75 : ∀ c, (Value.slice A71 (((madeF N (newM mo) ((ds i).1) ((ds i).2.1) ((ds i).2.2.1) ((ds i).2.2.2.1) ((ds i).2.2.2.2.1) ((ds i).2.2.2.2.2)).2.2).length) cp72).ownBlock = some c → w.heap.size ≤ c := fun c h => (hw73 c h).elim (nB_hD c) (fun q => by omega)
    have nF_hD75 : ∀ c, (Value.slice A71 (((madeF N (newM mo) ((ds i).1) ((ds i).2.1) ((ds i).2.2.1) ((ds i).2.2.2.1) ((ds i).2.2.2.2.1) ((ds i).2.2.2.2.2)).2.2).length) cp72).ownBlock = some c → ¬ F25 c := fun c h e => (hw73 c h).elim (fun q => nF_hD c q e) (fun q => by have := hl2 c e; omega)
    refine ⟨⟨hBD, hLc⟩, ?_⟩
    refine zK [6, 7, 8, 9] #[true, true, true, true, true, true, true, true, true, true, true, false, false, false] [(36, .tuple #[.agg #[.slice A71 (((madeF N (newM mo) ((ds i).1) ((ds i).2.1) ((ds i).2.2.1) ((ds i).2.2.2.1) ((ds i).2.2.2.2.1) ((ds i).2.2.2.2.2)).2.2).length) cp72, .int .i64 (newM mo)], .int .i64 ((madeF N (newM mo) ((ds i).1) ((ds i).2.1) ((ds i).2.2.1) ((ds i).2.2.2.1) ((ds i).2.2.2.2.1) ((ds i).2.2.2.2.2)).1), .int .i64 ((madeF N (newM mo) ((ds i).1) ((ds i).2.1) ((ds i).2.2.1) ((ds i).2.2.2.1) ((ds i).2.2.2.2.1) ((ds i).2.2.2.2.2)).2.1)]), (43, .agg #[.slice A71 (((madeF N (newM mo) ((ds i).1) ((ds i).2.1) ((ds i).2.2.1) ((ds i).2.2.2.1) ((ds i).2.2.2.2.1) ((ds i).2.2.2.2.2)).2.2).length) cp72, .int .i64 (newM mo)]), (44, .int .i64 ((madeF N (newM mo) ((ds i).1) ((ds i).2.1) ((ds i).2.2.1) ((ds i).2.2.2.1) ((ds i).2.2.2.2.1) ((ds i).2.2.2.2.2)).1)), (45, .int .i64 ((madeF N (newM mo) ((ds i).1) ((ds i).2.1) ((ds i).2.2.1) ((ds i).2.2.2.1) ((ds i).2.2.2.2.1) ((ds i).2.2.2.2.2)).2.1))] ⟨hBD, hLc⟩ ?_
    refine zD 11 rfl (S_storeA (b := w29.heap.size) (j := 0) (cs := [.slice A71 (((madeF N (newM mo) ((ds i).1) ((ds i).2.1) ((ds i).2.2.1) ((ds i).2.2.2.1) ((ds i).2.2.2.2.1) ((ds i).2.2.2.2.2)).2.2).length) cp72, .int .i64 (newM mo)]) (by kernel_rfl) (by kernel_rfl) (by kernel_rfl) (by simp [oneV]) hB64 (by simp) fun w76 hT77 hs78 hB64' => ?_)
    have hT0 := (hT0).then hT77 (fun c e => by have : c = w29.heap.size := e; omega)
    have hO := hO.tchS hT77 (fun c e q => by cases e; exact nF_hB64 q)
    have hBD := hBD.tch hT77 (fun e => by have : w10.heap.size = w29.heap.size := e; omega)
    have hBR := hBR.tch hT77 (fun e => by have : w.heap.size = w29.heap.size := e; omega)
    have hLc := hL.tch0 hT0
    have hD75 := hD75.tch hT77 (fun c hc e => hD75.blk_ne hB64 (by decide) c hc e)
    replace hB64 : Blk w76 w29.heap.size 27 [.slice A71 (((madeF N (newM mo) ((ds i).1) ((ds i).2.1) ((ds i).2.2.1) ((ds i).2.2.2.1) ((ds i).2.2.2.2.1) ((ds i).2.2.2.2.2)).2.2).length) cp72, .int .i64 (newM mo)] := hB64'
    refine ⟨⟨hBD, hLc⟩, ?_⟩
    refine zK [12, 13] #[true, true, true, true, true, true, true, true, true, true, true, true, true, true] [(12, .int .i64 ((madeF N (newM mo) ((ds i).1) ((ds i).2.1) ((ds i).2.2.1) ((ds i).2.2.2.1) ((ds i).2.2.2.2.1) ((ds i).2.2.2.2.2)).1)), (13, .int .i64 ((madeF N (newM mo) ((ds i).1) ((ds i).2.1) ((ds i).2.2.1) ((ds i).2.2.2.1) ((ds i).2.2.2.2.1) ((ds i).2.2.2.2.2)).2.1))] ⟨hBD, hLc⟩ ?_
    refine d_done (by kernel_rfl) ?_
    refine W_seq ?_
    refine zF [(0, .int .i64 mo), (1, .slice L mm cl), (4, .pointer none), (5, .pointer (some ⟨w.heap.size, 0, none⟩)), (6, .pointer (some ⟨p7, 0, none⟩)), (7, .pointer (some ⟨w10.heap.size, 0, none⟩)), (8, .int .i64 ((i : Nat) : Int)), (9, .int .i64 ((madeF N (newM mo) ((ds i).1) ((ds i).2.1) ((ds i).2.2.1) ((ds i).2.2.2.1) ((ds i).2.2.2.2.1) ((ds i).2.2.2.2.2)).1)), (10, .int .i64 ((madeF N (newM mo) ((ds i).1) ((ds i).2.1) ((ds i).2.2.1) ((ds i).2.2.2.1) ((ds i).2.2.2.2.1) ((ds i).2.2.2.2.2)).2.1)), (11, .pointer (some ⟨w29.heap.size, 0, none⟩)), (12, .int .i64 ((madeF N (newM mo) ((ds i).1) ((ds i).2.1) ((ds i).2.2.1) ((ds i).2.2.2.1) ((ds i).2.2.2.2.1) ((ds i).2.2.2.2.2)).1)), (13, .int .i64 ((madeF N (newM mo) ((ds i).1) ((ds i).2.1) ((ds i).2.2.1) ((ds i).2.2.2.1) ((ds i).2.2.2.2.1) ((ds i).2.2.2.2.2)).2.1)), (24, .bool (decide (((i : Nat) : Int) < (mm : Int))))] fun ρ => ?_
    refine zR ?_
    refine st (by rfl) (S_val (v := .agg #[.slice A71 (((madeF N (newM mo) ((ds i).1) ((ds i).2.1) ((ds i).2.2.1) ((ds i).2.2.2.1) ((ds i).2.2.2.2.1) ((ds i).2.2.2.2.2)).2.2).length) cp72, .int .i64 (newM mo)]) (R_loadA [.slice A71 (((madeF N (newM mo) ((ds i).1) ((ds i).2.1) ((ds i).2.2.1) ((ds i).2.2.2.1) ((ds i).2.2.2.2.1) ((ds i).2.2.2.2.2)).2.2).length) cp72, .int .i64 (newM mo)] (by kernel_rfl) (by kernel_rfl) (by kernel_rfl) (fun k u hk => by rw [hB64.cell]; exact get_part _ 0 _ k u rfl hk)) ?_)
    refine st (by rfl) (S_storeA (b := w10.heap.size) (j := 0) (cs := [.slice A71 (((madeF N (newM mo) ((ds i).1) ((ds i).2.1) ((ds i).2.2.1) ((ds i).2.2.2.1) ((ds i).2.2.2.2.1) ((ds i).2.2.2.2.2)).2.2).length) cp72, .int .i64 (newM mo)]) (by kernel_rfl) (by kernel_rfl) (by kernel_rfl) (by simp [oneV]) hBD (by simp) fun w79 hT80 hs81 hBD' => ?_)
    have hT0 := (hT0).then hT80 (fun c e => by have : c = w10.heap.size := e; omega)
    have hO := hO.tchS hT80 (fun c e q => by cases e; exact nF_hBD q)
    have hBR := hBR.tch hT80 (fun e => by have : w.heap.size = w10.heap.size := e; omega)
    have hLc := hL.tch0 hT0
    have hB64 := hB64.tch hT80 (fun e => by have : w29.heap.size = w10.heap.size := e; omega)
    have hD75 := hD75.tch hT80 (fun c hc e => hD75.blk_ne hBD (by decide) c hc e)
    replace hBD : Blk w79 w10.heap.size 27 [.slice A71 (((madeF N (newM mo) ((ds i).1) ((ds i).2.1) ((ds i).2.2.1) ((ds i).2.2.2.1) ((ds i).2.2.2.2.1) ((ds i).2.2.2.2.2)).2.2).length) cp72, .int .i64 (newM mo)] := hBD'
    refine op_nil ?_
    refine W_seq ?_
    refine W_draw (fun w' => Blk w' (w10.heap.size) 27 [.slice A71 (((madeF N (newM mo) ((ds i).1) ((ds i).2.1) ((ds i).2.2.1) ((ds i).2.2.2.1) ((ds i).2.2.2.2.1) ((ds i).2.2.2.2.2)).2.2).length) cp72, .int .i64 (newM mo)]) (by kernel_rfl) (by kernel_rfl) (by kernel_rfl) fun w82 hT83 hh84 => ?_
    have hT0 := hT0.t0 hT83
    have hO := hO.tch0 hT83
    have hBD := hBD.tch0 hT83
    have hBR := hBR.tch0 hT83
    have hLc := hL.tch0 hT0
    have hB64 := hB64.tch0 hT83
    have hD75 := hD75.tch0 hT83
    refine zK [0, 1, 2, 3] #[true, true, true, true, false, false, false, false, false, false, false, false, false, false, false, false] [(47, .int .i64 ((madeF N (newM mo) ((ds i).1) ((ds i).2.1) ((ds i).2.2.1) ((ds i).2.2.2.1) ((ds i).2.2.2.2.1) ((ds i).2.2.2.2.2)).1)), (48, .int .i64 ((madeF N (newM mo) ((ds i).1) ((ds i).2.1) ((ds i).2.2.1) ((ds i).2.2.2.1) ((ds i).2.2.2.2.1) ((ds i).2.2.2.2.2)).1)), (49, .bool (((madeF N (newM mo) ((ds i).1) ((ds i).2.1) ((ds i).2.2.1) ((ds i).2.2.2.1) ((ds i).2.2.2.2.1) ((ds i).2.2.2.2.2)).1) != ((madeF N (newM mo) ((ds i).1) ((ds i).2.1) ((ds i).2.2.1) ((ds i).2.2.2.1) ((ds i).2.2.2.2.1) ((ds i).2.2.2.2.2)).1))), (50, .bool (((madeF N (newM mo) ((ds i).1) ((ds i).2.1) ((ds i).2.2.1) ((ds i).2.2.2.1) ((ds i).2.2.2.2.1) ((ds i).2.2.2.2.2)).1) != ((madeF N (newM mo) ((ds i).1) ((ds i).2.1) ((ds i).2.2.1) ((ds i).2.2.2.1) ((ds i).2.2.2.2.1) ((ds i).2.2.2.2.2)).1)))] hBD ?_
    cases hb85 : ((madeF N (newM mo) ((ds i).1) ((ds i).2.1) ((ds i).2.2.1) ((ds i).2.2.2.1) ((ds i).2.2.2.2.1) ((ds i).2.2.2.2.2)).1) != ((madeF N (newM mo) ((ds i).1) ((ds i).2.1) ((ds i).2.2.1) ((ds i).2.2.2.1) ((ds i).2.2.2.2.1) ((ds i).2.2.2.2.2)).1)
    ·
     replace hb85 : (madeF N (newM mo) ((ds i).1) ((ds i).2.1) ((ds i).2.2.1) ((ds i).2.2.2.1) ((ds i).2.2.2.2.1) ((ds i).2.2.2.2.2)).1 = (madeF N (newM mo) ((ds i).1) ((ds i).2.1) ((ds i).2.2.1) ((ds i).2.2.2.1) ((ds i).2.2.2.2.1) ((ds i).2.2.2.2.2)).1 := (bne_eq_false_iff_eq.1 hb85)
     refine zK [4, 5, 6, 7, 8] #[true, true, true, true, true, true, true, true, true, false, false, false, false, false, false, false] [(51, .int .i64 ((madeF N (newM mo) ((ds i).1) ((ds i).2.1) ((ds i).2.2.1) ((ds i).2.2.2.1) ((ds i).2.2.2.2.1) ((ds i).2.2.2.2.2)).2.1)), (52, .int .i64 ((madeF N (newM mo) ((ds i).1) ((ds i).2.1) ((ds i).2.2.1) ((ds i).2.2.2.1) ((ds i).2.2.2.2.1) ((ds i).2.2.2.2.2)).2.1)), (53, .bool (((madeF N (newM mo) ((ds i).1) ((ds i).2.1) ((ds i).2.2.1) ((ds i).2.2.2.1) ((ds i).2.2.2.2.1) ((ds i).2.2.2.2.2)).2.1) != ((madeF N (newM mo) ((ds i).1) ((ds i).2.1) ((ds i).2.2.1) ((ds i).2.2.2.1) ((ds i).2.2.2.2.1) ((ds i).2.2.2.2.2)).2.1))), (54, .bool (((madeF N (newM mo) ((ds i).1) ((ds i).2.1) ((ds i).2.2.1) ((ds i).2.2.2.1) ((ds i).2.2.2.2.1) ((ds i).2.2.2.2.2)).2.1) != ((madeF N (newM mo) ((ds i).1) ((ds i).2.1) ((ds i).2.2.1) ((ds i).2.2.2.1) ((ds i).2.2.2.2.1) ((ds i).2.2.2.2.2)).2.1))), (55, .bool (((madeF N (newM mo) ((ds i).1) ((ds i).2.1) ((ds i).2.2.1) ((ds i).2.2.2.1) ((ds i).2.2.2.2.1) ((ds i).2.2.2.2.2)).2.1) != ((madeF N (newM mo) ((ds i).1) ((ds i).2.1) ((ds i).2.2.1) ((ds i).2.2.2.1) ((ds i).2.2.2.2.1) ((ds i).2.2.2.2.2)).2.1)))] hBD ?_
     cases hb86 : ((madeF N (newM mo) ((ds i).1) ((ds i).2.1) ((ds i).2.2.1) ((ds i).2.2.2.1) ((ds i).2.2.2.2.1) ((ds i).2.2.2.2.2)).2.1) != ((madeF N (newM mo) ((ds i).1) ((ds i).2.1) ((ds i).2.2.1) ((ds i).2.2.2.1) ((ds i).2.2.2.2.1) ((ds i).2.2.2.2.2)).2.1)
     ·
      replace hb86 : (madeF N (newM mo) ((ds i).1) ((ds i).2.1) ((ds i).2.2.1) ((ds i).2.2.2.1) ((ds i).2.2.2.2.1) ((ds i).2.2.2.2.2)).2.1 = (madeF N (newM mo) ((ds i).1) ((ds i).2.1) ((ds i).2.2.1) ((ds i).2.2.2.1) ((ds i).2.2.2.2.1) ((ds i).2.2.2.2.2)).2.1 := (bne_eq_false_iff_eq.1 hb86)
      refine zK [9, 11] #[true, true, true, true, true, true, true, true, true, true, false, true, false, false, false, false] [(56, .pointer (some ⟨p7, 0, none⟩)), (58, .pointer (some ⟨w10.heap.size, 0, none⟩))] hBD ?_
      refine zV 12 rfl (.slice A71 (((madeF N (newM mo) ((ds i).1) ((ds i).2.1) ((ds i).2.2.1) ((ds i).2.2.2.1) ((ds i).2.2.2.2.1) ((ds i).2.2.2.2.2)).2.2).length) cp72) (fun _ hBD => R_load (v := .slice A71 (((madeF N (newM mo) ((ds i).1) ((ds i).2.1) ((ds i).2.2.1) ((ds i).2.2.2.1) ((ds i).2.2.2.2.1) ((ds i).2.2.2.2.2)).2.2).length) cp72) (by kernel_rfl) (by kernel_rfl) ((hBD.cell 0).trans rfl)) hBD ?_
      refine zK [13] #[true, true, true, true, true, true, true, true, true, true, false, true, true, true, false, false] [(60, .int .i64 (((madeF N (newM mo) ((ds i).1) ((ds i).2.1) ((ds i).2.2.1) ((ds i).2.2.2.1) ((ds i).2.2.2.2.1) ((ds i).2.2.2.2.2)).2.2).length : Int))] hBD ?_
      have ln_ := hO.2.ti.len
      have lm_ := hO.2.ti.most
      refine zD 10 rfl (S_call (args := [.pointer (some ⟨p7, 0, none⟩)]) (by kernel_rfl) (len_ok F25 p7 (newM mo) ((madeF N (newM mo) ((ds i).1) ((ds i).2.1) ((ds i).2.2.1) ((ds i).2.2.2.1) ((ds i).2.2.2.2.1) ((ds i).2.2.2.2.2)).2.2) _ _ hO.1 (by omega)) ?_)
      rintro _ w87 ⟨rfl, hT88⟩
      have hT0 := hT0.t0 hT88
      have hO := hO.tch0 hT88
      have hBD := hBD.tch0 hT88
      have hBR := hBR.tch0 hT88
      have hLc := hL.tch0 hT0
      have hB64 := hB64.tch0 hT88
      have hD75 := hD75.tch0 hT88
      refine ⟨hBD, ?_⟩
      refine zK [14, 15] #[true, true, true, true, true, true, true, true, true, true, true, true, true, true, true, true] [(61, .bool ((((madeF N (newM mo) ((ds i).1) ((ds i).2.1) ((ds i).2.2.1) ((ds i).2.2.2.1) ((ds i).2.2.2.2.1) ((ds i).2.2.2.2.2)).2.2).length : Int) != (((madeF N (newM mo) ((ds i).1) ((ds i).2.1) ((ds i).2.2.1) ((ds i).2.2.2.1) ((ds i).2.2.2.2.1) ((ds i).2.2.2.2.2)).2.2).length : Int))), (62, .bool ((((madeF N (newM mo) ((ds i).1) ((ds i).2.1) ((ds i).2.2.1) ((ds i).2.2.2.1) ((ds i).2.2.2.2.1) ((ds i).2.2.2.2.2)).2.2).length : Int) != (((madeF N (newM mo) ((ds i).1) ((ds i).2.1) ((ds i).2.2.1) ((ds i).2.2.2.1) ((ds i).2.2.2.2.1) ((ds i).2.2.2.2.2)).2.2).length : Int)))] hBD ?_
      refine d_done (by kernel_rfl) ?_
      refine zW ((((madeF N (newM mo) ((ds i).1) ((ds i).2.1) ((ds i).2.2.1) ((ds i).2.2.2.1) ((ds i).2.2.2.2.1) ((ds i).2.2.2.2.2)).2.2).length : Int) != (((madeF N (newM mo) ((ds i).1) ((ds i).2.1) ((ds i).2.2.1) ((ds i).2.2.2.1) ((ds i).2.2.2.2.1) ((ds i).2.2.2.2.2)).2.2).length : Int)) (fun hc89 => ?_) (fun hc89 => ?_)
      ·
       replace hc89 : (((madeF N (newM mo) ((ds i).1) ((ds i).2.1) ((ds i).2.2.1) ((ds i).2.2.2.1) ((ds i).2.2.2.2.1) ((ds i).2.2.2.2.2)).2.2).length : Int) ≠ (((madeF N (newM mo) ((ds i).1) ((ds i).2.1) ((ds i).2.2.1) ((ds i).2.2.2.1) ((ds i).2.2.2.2.1) ((ds i).2.2.2.2.2)).2.2).length : Int) := (bne_iff_ne.1 hc89)
       exact absurd rfl hc89
      ·
       replace hc89 : (((madeF N (newM mo) ((ds i).1) ((ds i).2.1) ((ds i).2.2.1) ((ds i).2.2.2.1) ((ds i).2.2.2.2.1) ((ds i).2.2.2.2.2)).2.2).length : Int) = (((madeF N (newM mo) ((ds i).1) ((ds i).2.1) ((ds i).2.2.1) ((ds i).2.2.2.1) ((ds i).2.2.2.2.1) ((ds i).2.2.2.2.2)).2.2).length : Int) := (bne_eq_false_iff_eq.1 hc89)
       refine W_skip ?_
       refine zF [(0, .int .i64 mo), (1, .slice L mm cl), (4, .pointer none), (5, .pointer (some ⟨w.heap.size, 0, none⟩)), (6, .pointer (some ⟨p7, 0, none⟩)), (7, .pointer (some ⟨w10.heap.size, 0, none⟩)), (8, .int .i64 ((i : Nat) : Int)), (9, .int .i64 ((madeF N (newM mo) ((ds i).1) ((ds i).2.1) ((ds i).2.2.1) ((ds i).2.2.2.1) ((ds i).2.2.2.2.1) ((ds i).2.2.2.2.2)).1)), (10, .int .i64 ((madeF N (newM mo) ((ds i).1) ((ds i).2.1) ((ds i).2.2.1) ((ds i).2.2.2.1) ((ds i).2.2.2.2.1) ((ds i).2.2.2.2.2)).2.1)), (11, .pointer (some ⟨w29.heap.size, 0, none⟩)), (12, .int .i64 ((madeF N (newM mo) ((ds i).1) ((ds i).2.1) ((ds i).2.2.1) ((ds i).2.2.2.1) ((ds i).2.2.2.2.1) ((ds i).2.2.2.2.2)).1)), (13, .int .i64 ((madeF N (newM mo) ((ds i).1) ((ds i).2.1) ((ds i).2.2.1) ((ds i).2.2.2.1) ((ds i).2.2.2.2.1) ((ds i).2.2.2.2.2)).2.1)), (24, .bool (decide (((i : Nat) : Int) < (mm : Int)))), (62, .bool ((((madeF N (newM mo) ((ds i).1) ((ds i).2.1) ((ds i).2.2.1) ((ds i).2.2.2.1) ((ds i).2.2.2.2.1) ((ds i).2.2.2.2.2)).2.2).length : Int) != (((madeF N (newM mo) ((ds i).1) ((ds i).2.1) ((ds i).2.2.1) ((ds i).2.2.2.1) ((ds i).2.2.2.2.1) ((ds i).2.2.2.2.2)).2.2).length : Int)))] fun ρ => ?_
       refine zR ?_
       refine zS [(25, .int .i64 ((i : Nat) : Int)), (26, .int .i64 (IntKind.i64.wrap (((i : Nat) : Int) + 1)))] ?_
       rw [show IntKind.i64.wrap (((i : Nat) : Int) + 1) = ((i : Nat) : Int) + 1 from wrap_i64 (by omega) (by omega)]
       refine fixR (y := ((i + 1 : Nat) : Int)) (by omega) ?_
       refine zS [(8, .int .i64 ((i + 1 : Nat) : Int))] ?_
       refine op_nil ?_
       refine ⟨_, ?_, F25, A71, cp72, (madeF N (newM mo) ((ds i).1) ((ds i).2.1) ((ds i).2.2.1) ((ds i).2.2.2.1) ((ds i).2.2.2.2.1) ((ds i).2.2.2.2.2)).2.2, i + 1, _, updL_self (by kernel_rfl), ?_, hFb, nB_hD75, nF_hD75, nF_hBD, nF_hBR, (hQ _ _ _ _ _ _ _ hJ0 hQN), hT0, hO, hBD, hBR, hD75, hLc, rfl⟩
       ·
        omega
       ·
        omega
     ·
      replace hb86 : (madeF N (newM mo) ((ds i).1) ((ds i).2.1) ((ds i).2.2.1) ((ds i).2.2.2.1) ((ds i).2.2.2.2.1) ((ds i).2.2.2.2.2)).2.1 ≠ (madeF N (newM mo) ((ds i).1) ((ds i).2.1) ((ds i).2.2.1) ((ds i).2.2.2.1) ((ds i).2.2.2.2.1) ((ds i).2.2.2.2.2)).2.1 := (bne_iff_ne.1 hb86)
      exact absurd rfl hb86
    ·
     replace hb85 : (madeF N (newM mo) ((ds i).1) ((ds i).2.1) ((ds i).2.2.1) ((ds i).2.2.2.1) ((ds i).2.2.2.2.1) ((ds i).2.2.2.2.2)).1 ≠ (madeF N (newM mo) ((ds i).1) ((ds i).2.1) ((ds i).2.2.1) ((ds i).2.2.2.1) ((ds i).2.2.2.2.1) ((ds i).2.2.2.2.2)).1 := (bne_iff_ne.1 hb85)
     exact absurd rfl hb85
  ·
   replace hc23 : (mm : Int) ≤ ((i : Nat) : Int) := (Int.not_lt.1 (of_decide_eq_false hc23))
   refine W_exit ?_
   refine X_hit ?_
   refine W_seq ?_
   refine W_draw (fun w' => Blk w' (w10.heap.size) 27 [.slice A N.length cp, .int .i64 (newM mo)]) (by kernel_rfl) (by kernel_rfl) (by kernel_rfl) fun w90 hT91 hh92 => ?_
   have hT0 := hT0.t0 hT91
   have hO := hO.tch0 hT91
   have hBD := hBD.tch0 hT91
   have hBR := hBR.tch0 hT91
   have hD := hD.tch0 hT91
   have hLc := hL.tch0 hT0
   refine zK [0, 2] #[true, false, true, false] [(64, .pointer (some ⟨p7, 0, none⟩)), (4, .pointer (some ⟨p7, 0, none⟩))] hBD ?_
   refine zV 1 rfl (.agg #[.slice A N.length cp, .int .i64 (newM mo)]) (fun _ hBD => R_loadA [.slice A N.length cp, .int .i64 (newM mo)] (by kernel_rfl) (by kernel_rfl) (by kernel_rfl) (fun k u hk => by rw [hBD.cell]; exact get_part _ 0 _ k u rfl hk)) hBD ?_
   refine zD 3 rfl (S_storeA (b := w.heap.size) (j := 0) (cs := [.slice A N.length cp, .int .i64 (newM mo)]) (by kernel_rfl) (by kernel_rfl) (by kernel_rfl) (by simp [oneV]) hBR (by simp) fun w93 hT94 hs95 hBR' => ?_)
   have hT0 := (hT0).then hT94 (fun c e => by have : c = w.heap.size := e; omega)
   have hO := hO.tchS hT94 (fun c e q => by cases e; exact nF_hBR q)
   have hBD := hBD.tch hT94 (fun e => by have : w10.heap.size = w.heap.size := e; omega)
   have hD := hD.tch hT94 (fun c hc e => hD.blk_ne hBR (by decide) c hc e)
   have hLc := hL.tch0 hT0
   replace hBR : Blk w93 w.heap.size 27 [.slice A N.length cp, .int .i64 (newM mo)] := hBR'
   refine ⟨hBD, ?_⟩
   refine d_done (by kernel_rfl) ?_
   refine W_ret ?_
   exact ⟨_, Res_tc (b := w.heap.size) (cs := [.slice A N.length cp, .int .i64 (newM mo)]) (by rfl) (by kernel_rfl) (by kernel_rfl) (by kernel_rfl) hBR (by kernel_rfl) (by kernel_rfl), ⟨_, F, A, cp, N, rfl, hQN, hO, hD, hFb, fun c h => ⟨nB_hD c h, nF_hD c h⟩, hT0⟩⟩

end Go.Proofs.YtlbadnpgmkobdaaV

set_option linter.unusedVariables false
set_option linter.unusedSimpArgs false
namespace Go.Proofs.YtlbadnpgmkobdaaV
open Go Go.RowKit Go.Proofs

set_option maxRecDepth 100000 in
set_option maxHeartbeats 4000000 in
theorem RangesLooks_w (L : Option Addr) (mm cl : Nat) (cells : List Value) (ds : Nat → Int × Int × Int × Int × Int × Int) (x : Int) (w : World) (hL : RdW w 6 mm L cells) (hDs : Deeds6 mm cells ds) : Ret Try.prog 10 [.slice L mm cl, .int .i64 x] w fun v w' => v = .bool true ∧ Tch N0 w w' := by
 refine enter Try.func10 rfl rfl ?_
 refine zQ ?_
 refine zS [(4, .bool false)] ?_
 refine op_nil ?_
 refine W_seq ?_
 refine zQ ?_
 refine zS [(20, .slice L mm cl), (21, .int .i64 (mm : Int)), (22, .bool (decide ((mm : Int) > 80)))] ?_
 refine zO (decide ((mm : Int) > 80)) (fun hc1 => ?_) (fun hc1 => ?_)
 ·
  replace hc1 : 80 < (mm : Int) := (of_decide_eq_true hc1)
  refine zQ ?_
  refine zC (awake52_ok _) ?_
  rintro _ w2 ⟨rfl, hT3⟩
  have hT0 := hT3
  refine zS [(4, .bool true)] ?_
  refine op_nil ?_
  refine W_ret ?_
  exact ⟨_, Res_of (v := .bool true) (by kernel_rfl), ⟨rfl, hT0⟩⟩
 ·
  replace hc1 : (mm : Int) ≤ 80 := (Int.not_lt.1 (of_decide_eq_false hc1))
  refine W_skip ?_
  refine zQ ?_
  refine zS [(25, .slice L mm cl)] ?_
  refine zC (buildq_ok TB 1000 L mm cl cells ds _ (hL) hDs (by omega) TB_nil (fun _ _ _ _ _ _ _ j q => made_TB j q _ _ _ _ _ _ _)) ?_
  rintro _ w4 ⟨p, F, A, cp, N, rfl, hB, hO, hD, hFb, hDb, hT5⟩
  have hT0 := hT5
  have ln0 := hO.2.ti.len
  have lm0 := hO.2.ti.most
  refine zS [(24, .tuple #[.pointer (some ⟨p, 0, none⟩), .agg #[.slice A N.length cp, .int .i64 (newM 1000)]]), (27, .pointer (some ⟨p, 0, none⟩)), (28, .agg #[.slice A N.length cp, .int .i64 (newM 1000)])] ?_
  have hlt_ := hO.1.lt
  have lR_hD := hD.lt
  have z10 := hT0.size
  refine st (by rfl) (S_new (v := .pointer (some ⟨w4.heap.size, 0, none⟩)) (ob := .cells #[.slice none 0 0, .int .i64 0] 27) (by kernel_rfl) fun w6 hT7 hs8 hB9 => ?_)
  replace hB9 : Blk w6 (w4.heap.size) 27 [.slice none 0 0, .int .i64 0] := hB9
  have hT0 := hT0.t0 hT7
  have hO := hO.tch0 hT7
  have hD := hD.tch0 hT7
  have nF_hB9 : ¬ F (w4.heap.size) := fun e => by have := hlt_ _ e; omega
  refine zS [(5, .pointer (some ⟨p, 0, none⟩))] ?_
  refine st (by rfl) (S_storeA (b := w4.heap.size) (j := 0) (cs := [.slice A N.length cp, .int .i64 (newM 1000)]) (by kernel_rfl) (by kernel_rfl) (by kernel_rfl) (by simp [oneV]) hB9 (by simp) fun w11 hT12 hs13 hB9' => ?_)
  have hT0 := (hT0).then hT12 (fun c e => by have : c = w4.heap.size := e; omega)
  have hO := hO.tchS hT12 (fun c e q => by cases e; exact nF_hB9 q)
  have hD := hD.tch hT12 (fun c hc e => hD.blk_ne hB9 (by decide) c hc e)
  replace hB9 : Blk w11 w4.heap.size 27 [.slice A N.length cp, .int .i64 (newM 1000)] := hB9'
  refine op_nil ?_
  refine W_seq ?_
  refine W_seq ?_
  refine zF [(0, .slice L mm cl), (1, .int .i64 x), (4, .bool false), (5, .pointer (some ⟨p, 0, none⟩)), (6, .pointer (some ⟨w4.heap.size, 0, none⟩)), (22, .bool (decide ((mm : Int) > 80)))] fun ρ => ?_
  refine zR ?_
  refine zS [(29, .pointer (some ⟨p, 0, none⟩)), (30, .bool false)] ?_
  refine zO false (fun h => nomatch h) (fun _ => ?_)
  refine W_skip ?_
  refine W_seq ?_
  refine zQ ?_
  refine zS [(7, .int .i64 (-1))] ?_
  refine op_nil ?_
  refine W_block ?_
  refine W_loop (fun m ρ w' => ∃ (i : Nat) (ρ0 : Env), ρ = updL ρ0 [(1, .int .i64 x), (5, .pointer (some ⟨p, 0, none⟩)), (6, .pointer (some ⟨w4.heap.size, 0, none⟩)), (7, .int .i64 (((i : Nat) : Int) - 1))] ∧ (i ≤ N.length + 1) ∧ Tch N0 w w' ∧ TObj F w' p (newM 1000) N ∧ Blk w' (w4.heap.size) 27 [.slice A N.length cp, .int .i64 (newM 1000)] ∧ Own w' 0 32 6 (.slice A N.length cp) N.length (ncs N) ∧ m = N.length + 1 - i) (m := N.length + 1 - 0) ?_ ?_
  ·
   refine ⟨0, _, updL_self (by kernel_rfl), by omega, hT0, hO, hB9, hD, rfl⟩
  ·
   rintro m ρ w14 ⟨i, ρ, rfl, hi, hT0, hO, hBX, hD, rfl⟩
   refine W_seq ?_
   refine zQ ?_
   refine zS [(31, .int .i64 (((i : Nat) : Int) - 1)), (32, .pointer (some ⟨w4.heap.size, 0, none⟩))] ?_
   refine zL (.slice A N.length cp) ((hBX.cell 0).trans rfl) ?_
   refine zS [(34, .int .i64 (N.length : Int)), (35, .bool (decide (((i : Nat) : Int) - 1 < (N.length : Int))))] ?_
   refine zO (decide (((i : Nat) : Int) - 1 < (N.length : Int))) (fun hc15 => ?_) (fun hc15 => ?_)
   ·
    replace hc15 : ((i : Nat) : Int) - 1 < (N.length : Int) := (of_decide_eq_true hc15)
    refine W_skip ?_
    refine W_seq ?_
    refine W_block ?_
    refine zQ ?_
    refine zS [(39, .pointer (some ⟨p, 0, none⟩)), (40, .int .i64 (((i : Nat) : Int) - 1))] ?_
    refine zC (Rg_ok F p (newM 1000) N _ (((i : Nat) : Int) - 1) _ hO.1 (by omega) hO.2 hB) ?_
    rintro _ w16 ⟨rfl, hT17⟩
    have hT0 := hT0.t0 hT17
    have hO := hO.tch0 hT17
    have hBX := hBX.tch0 hT17
    have hD := hD.tch0 hT17
    refine zS [(38, .tuple #[.int .u64 (((rgF N (((i : Nat) : Int) - 1)).1 : Nat) : Int), .int .u64 (((rgF N (((i : Nat) : Int) - 1)).2 : Nat) : Int), .int .i64 (erR N (((i : Nat) : Int) - 1))]), (42, .int .u64 (((rgF N (((i : Nat) : Int) - 1)).1 : Nat) : Int)), (43, .int .u64 (((rgF N (((i : Nat) : Int) - 1)).2 : Nat) : Int)), (44, .int .i64 (erR N (((i : Nat) : Int) - 1))), (8, .int .u64 (((rgF N (((i : Nat) : Int) - 1)).1 : Nat) : Int)), (9, .int .u64 (((rgF N (((i : Nat) : Int) - 1)).2 : Nat) : Int)), (10, .int .i64 (erR N (((i : Nat) : Int) - 1)))] ?_
    refine op_nil ?_
    refine W_seq ?_
    refine zF [(1, .int .i64 x), (5, .pointer (some ⟨p, 0, none⟩)), (6, .pointer (some ⟨w4.heap.size, 0, none⟩)), (7, .int .i64 (((i : Nat) : Int) - 1)), (8, .int .u64 (((rgF N (((i : Nat) : Int) - 1)).1 : Nat) : Int)), (9, .int .u64 (((rgF N (((i : Nat) : Int) - 1)).2 : Nat) : Int)), (10, .int .i64 (erR N (((i : Nat) : Int) - 1))), (35, .bool (decide (((i : Nat) : Int) - 1 < (N.length : Int))))] fun ρ => ?_
    refine zR ?_
    refine st (by rfl) (S_val (v := .agg #[.slice A N.length cp, .int .i64 (newM 1000)]) (R_loadA [.slice A N.length cp, .int .i64 (newM 1000)] (by kernel_rfl) (by kernel_rfl) (by kernel_rfl) (fun k u hk => by rw [hBX.cell]; exact get_part _ 0 _ k u rfl hk)) ?_)
    refine zS [(47, .int .i64 (((i : Nat) : Int) - 1))] ?_
    refine zC (rRg_ok A cp (newM 1000) (newM 1000) N (((i : Nat) : Int) - 1) _ hD (by omega) hO.2 hB) ?_
    rintro _ w18 ⟨rfl, hT19⟩
    have hT0 := hT0.t0 hT19
    have hO := hO.tch0 hT19
    have hBX := hBX.tch0 hT19
    have hD := hD.tch0 hT19
    refine zS [(45, .tuple #[.int .u64 (((rgF N (((i : Nat) : Int) - 1)).1 : Nat) : Int), .int .u64 (((rgF N (((i : Nat) : Int) - 1)).2 : Nat) : Int), .int .i64 (erR N (((i : Nat) : Int) - 1))]), (49, .int .u64 (((rgF N (((i : Nat) : Int) - 1)).1 : Nat) : Int)), (50, .int .u64 (((rgF N (((i : Nat) : Int) - 1)).2 : Nat) : Int)), (51, .int .i64 (erR N (((i : Nat) : Int) - 1))), (11, .int .u64 (((rgF N (((i : Nat) : Int) - 1)).1 : Nat) : Int)), (12, .int .u64 (((rgF N (((i : Nat) : Int) - 1)).2 : Nat) : Int)), (13, .int .i64 (erR N (((i : Nat) : Int) - 1)))] ?_
    refine op_nil ?_
    refine W_seq ?_
    refine zF [(1, .int .i64 x), (5, .pointer (some ⟨p, 0, none⟩)), (6, .pointer (some ⟨w4.heap.size, 0, none⟩)), (7, .int .i64 (((i : Nat) : Int) - 1)), (8, .int .u64 (((rgF N (((i : Nat) : Int) - 1)).1 : Nat) : Int)), (9, .int .u64 (((rgF N (((i : Nat) : Int) - 1)).2 : Nat) : Int)), (10, .int .i64 (erR N (((i : Nat) : Int) - 1))), (11, .int .u64 (((rgF N (((i : Nat) : Int) - 1)).1 : Nat) : Int)), (12, .int .u64 (((rgF N (((i : Nat) : Int) - 1)).2 : Nat) : Int)), (13, .int .i64 (erR N (((i : Nat) : Int) - 1))), (35, .bool (decide (((i : Nat) : Int) - 1 < (N.length : Int))))] fun ρ => ?_
    refine zR ?_
    refine zS [(52, .int .u64 (((rgF N (((i : Nat) : Int) - 1)).1 : Nat) : Int)), (53, .int .u64 (((rgF N (((i : Nat) : Int) - 1)).1 : Nat) : Int)), (54, .bool ((((rgF N (((i : Nat) : Int) - 1)).1 : Nat) : Int) != (((rgF N (((i : Nat) : Int) - 1)).1 : Nat) : Int))), (55, .bool ((((rgF N (((i : Nat) : Int) - 1)).1 : Nat) : Int) != (((rgF N (((i : Nat) : Int) - 1)).1 : Nat) : Int)))] ?_
    cases hb20 : (((rgF N (((i : Nat) : Int) - 1)).1 : Nat) : Int) != (((rgF N (((i : Nat) : Int) - 1)).1 : Nat) : Int)
    ·
     replace hb20 : (((rgF N (((i : Nat) : Int) - 1)).1 : Nat) : Int) = (((rgF N (((i : Nat) : Int) - 1)).1 : Nat) : Int) := (bne_eq_false_iff_eq.1 hb20)
     refine zS [(56, .int .u64 (((rgF N (((i : Nat) : Int) - 1)).2 : Nat) : Int)), (57, .int .u64 (((rgF N (((i : Nat) : Int) - 1)).2 : Nat) : Int)), (58, .bool ((((rgF N (((i : Nat) : Int) - 1)).2 : Nat) : Int) != (((rgF N (((i : Nat) : Int) - 1)).2 : Nat) : Int))), (59, .bool ((((rgF N (((i : Nat) : Int) - 1)).2 : Nat) : Int) != (((rgF N (((i : Nat) : Int) - 1)).2 : Nat) : Int))), (60, .bool ((((rgF N (((i : Nat) : Int) - 1)).2 : Nat) : Int) != (((rgF N (((i : Nat) : Int) - 1)).2 : Nat) : Int)))] ?_
     cases hb21 : (((rgF N (((i : Nat) : Int) - 1)).2 : Nat) : Int) != (((rgF N (((i : Nat) : Int) - 1)).2 : Nat) : Int)
     ·
      replace hb21 : (((rgF N (((i : Nat) : Int) - 1)).2 : Nat) : Int) = (((rgF N (((i : Nat) : Int) - 1)).2 : Nat) : Int) := (bne_eq_false_iff_eq.1 hb21)
      refine zS [(61, .int .i64 (erR N (((i : Nat) : Int) - 1))), (62, .int .i64 (erR N (((i : Nat) : Int) - 1))), (63, .bool ((erR N (((i : Nat) : Int) - 1)) != (erR N (((i : Nat) : Int) - 1)))), (64, .bool ((erR N (((i : Nat) : Int) - 1)) != (erR N (((i : Nat) : Int) - 1))))] ?_
      refine zO ((erR N (((i : Nat) : Int) - 1)) != (erR N (((i : Nat) : Int) - 1))) (fun hc22 => ?_) (fun hc22 => ?_)
      ·
       replace hc22 : erR N (((i : Nat) : Int) - 1) ≠ erR N (((i : Nat) : Int) - 1) := (bne_iff_ne.1 hc22)
       exact absurd rfl hc22
      ·
       replace hc22 : erR N (((i : Nat) : Int) - 1) = erR N (((i : Nat) : Int) - 1) := (bne_eq_false_iff_eq.1 hc22)
       refine W_skip ?_
       refine zF [(1, .int .i64 x), (5, .pointer (some ⟨p, 0, none⟩)), (6, .pointer (some ⟨w4.heap.size, 0, none⟩)), (7, .int .i64 (((i : Nat) : Int) - 1)), (8, .int .u64 (((rgF N (((i : Nat) : Int) - 1)).1 : Nat) : Int)), (9, .int .u64 (((rgF N (((i : Nat) : Int) - 1)).2 : Nat) : Int)), (10, .int .i64 (erR N (((i : Nat) : Int) - 1))), (11, .int .u64 (((rgF N (((i : Nat) : Int) - 1)).1 : Nat) : Int)), (12, .int .u64 (((rgF N (((i : Nat) : Int) - 1)).2 : Nat) : Int)), (13, .int .i64 (erR N (((i : Nat) : Int) - 1))), (35, .bool (decide (((i : Nat) : Int) - 1 < (N.length : Int)))), (64, .bool ((erR N (((i : Nat) : Int) - 1)) != (erR N (((i : Nat) : Int) - 1))))] fun ρ => ?_
       refine zR ?_
       refine zS [(36, .int .i64 (((i : Nat) : Int) - 1)), (37, .int .i64 (IntKind.i64.wrap ((((i : Nat) : Int) - 1) + 1)))] ?_
       rw [show IntKind.i64.wrap ((((i : Nat) : Int) - 1) + 1) = (((i : Nat) : Int) - 1) + 1 from wrap_i64 (by omega) (by omega)]
       refine fixR (y := (((i + 1 : Nat) : Int) - 1)) (by omega) ?_
       refine zS [(7, .int .i64 (((i + 1 : Nat) : Int) - 1))] ?_
       refine op_nil ?_
       refine ⟨_, ?_, i + 1, _, updL_self (by kernel_rfl), ?_, hT0, hO, hBX, hD, rfl⟩
       ·
        omega
       ·
        omega
     ·
      replace hb21 : (((rgF N (((i : Nat) : Int) - 1)).2 : Nat) : Int) ≠ (((rgF N (((i : Nat) : Int) - 1)).2 : Nat) : Int) := (bne_iff_ne.1 hb21)
      exact absurd rfl hb21
    ·
     replace hb20 : (((rgF N (((i : Nat) : Int) - 1)).1 : Nat) : Int) ≠ (((rgF N (((i : Nat) : Int) - 1)).1 : Nat) : Int) := (bne_iff_ne.1 hb20)
     exact absurd rfl hb20
   ·
    replace hc15 : (N.length : Int) ≤ ((i : Nat) : Int) - 1 := (Int.not_lt.1 (of_decide_eq_false hc15))
    refine W_exit ?_
    refine X_hit ?_
    refine zQ ?_
    refine zS [(66, .pointer (some ⟨p, 0, none⟩)), (67, .int .i64 x)] ?_
    refine zC (Rg_ok F p (newM 1000) N _ x _ hO.1 (by omega) hO.2 hB) ?_
    rintro _ w23 ⟨rfl, hT24⟩
    have hT0 := hT0.t0 hT24
    have hO := hO.tch0 hT24
    have hBX := hBX.tch0 hT24
    have hD := hD.tch0 hT24
    refine zS [(65, .tuple #[.int .u64 (((rgF N x).1 : Nat) : Int), .int .u64 (((rgF N x).2 : Nat) : Int), .int .i64 (erR N x)]), (69, .int .u64 (((rgF N x).1 : Nat) : Int)), (70, .int .u64 (((rgF N x).2 : Nat) : Int)), (71, .int .i64 (erR N x)), (14, .int .u64 (((rgF N x).1 : Nat) : Int)), (15, .int .u64 (((rgF N x).2 : Nat) : Int)), (16, .int .i64 (erR N x))] ?_
    refine op_nil ?_
    refine W_seq ?_
    refine zF [(1, .int .i64 x), (5, .pointer (some ⟨p, 0, none⟩)), (6, .pointer (some ⟨w4.heap.size, 0, none⟩)), (7, .int .i64 (((i : Nat) : Int) - 1)), (14, .int .u64 (((rgF N x).1 : Nat) : Int)), (15, .int .u64 (((rgF N x).2 : Nat) : Int)), (16, .int .i64 (erR N x)), (35, .bool (decide (((i : Nat) : Int) - 1 < (N.length : Int))))] fun ρ => ?_
    refine zR ?_
    refine st (by rfl) (S_val (v := .agg #[.slice A N.length cp, .int .i64 (newM 1000)]) (R_loadA [.slice A N.length cp, .int .i64 (newM 1000)] (by kernel_rfl) (by kernel_rfl) (by kernel_rfl) (fun k u hk => by rw [hBX.cell]; exact get_part _ 0 _ k u rfl hk)) ?_)
    refine zS [(74, .int .i64 x)] ?_
    refine zC (rRg_ok A cp (newM 1000) (newM 1000) N x _ hD (by omega) hO.2 hB) ?_
    rintro _ w25 ⟨rfl, hT26⟩
    have hT0 := hT0.t0 hT26
    have hO := hO.tch0 hT26
    have hBX := hBX.tch0 hT26
    have hD := hD.tch0 hT26
    refine zS [(72, .tuple #[.int .u64 (((rgF N x).1 : Nat) : Int), .int .u64 (((rgF N x).2 : Nat) : Int), .int .i64 (erR N x)]), (76, .int .u64 (((rgF N x).1 : Nat) : Int)), (77, .int .u64 (((rgF N x).2 : Nat) : Int)), (78, .int .i64 (erR N x)), (17, .int .u64 (((rgF N x).1 : Nat) : Int)), (18, .int .u64 (((rgF N x).2 : Nat) : Int)), (19, .int .i64 (erR N x))] ?_
    refine op_nil ?_
    refine W_seq ?_
    refine zF [(1, .int .i64 x), (5, .pointer (some ⟨p, 0, none⟩)), (6, .pointer (some ⟨w4.heap.size, 0, none⟩)), (7, .int .i64 (((i : Nat) : Int) - 1)), (14, .int .u64 (((rgF N x).1 : Nat) : Int)), (15, .int .u64 (((rgF N x).2 : Nat) : Int)), (16, .int .i64 (erR N x)), (17, .int .u64 (((rgF N x).1 : Nat) : Int)), (18, .int .u64 (((rgF N x).2 : Nat) : Int)), (19, .int .i64 (erR N x)), (35, .bool (decide (((i : Nat) : Int) - 1 < (N.length : Int))))] fun ρ => ?_
    refine zR ?_
    refine zS [(79, .int .u64 (((rgF N x).1 : Nat) : Int)), (80, .int .u64 (((rgF N x).1 : Nat) : Int)), (81, .bool ((((rgF N x).1 : Nat) : Int) == (((rgF N x).1 : Nat) : Int))), (82, .bool ((((rgF N x).1 : Nat) : Int) == (((rgF N x).1 : Nat) : Int)))] ?_
    cases hb27 : (((rgF N x).1 : Nat) : Int) == (((rgF N x).1 : Nat) : Int)
    ·
     replace hb27 : (((rgF N x).1 : Nat) : Int) ≠ (((rgF N x).1 : Nat) : Int) := (ne_of_beq_false hb27)
     exact absurd rfl hb27
    ·
     replace hb27 : (((rgF N x).1 : Nat) : Int) = (((rgF N x).1 : Nat) : Int) := (eq_of_beq hb27)
     refine zS [(83, .int .u64 (((rgF N x).2 : Nat) : Int)), (84, .int .u64 (((rgF N x).2 : Nat) : Int)), (85, .bool ((((rgF N x).2 : Nat) : Int) == (((rgF N x).2 : Nat) : Int))), (86, .bool ((((rgF N x).2 : Nat) : Int) == (((rgF N x).2 : Nat) : Int))), (87, .bool ((((rgF N x).2 : Nat) : Int) == (((rgF N x).2 : Nat) : Int)))] ?_
     cases hb28 : (((rgF N x).2 : Nat) : Int) == (((rgF N x).2 : Nat) : Int)
     ·
      replace hb28 : (((rgF N x).2 : Nat) : Int) ≠ (((rgF N x).2 : Nat) : Int) := (ne_of_beq_false hb28)
      exact absurd rfl hb28
     ·
      replace hb28 : (((rgF N x).2 : Nat) : Int) = (((rgF N x).2 : Nat) : Int) := (eq_of_beq hb28)
      refine zS [(88, .int .i64 (erR N x)), (89, .int .i64 (erR N x)), (90, .bool ((erR N x) == (erR N x))), (91, .bool ((erR N x) == (erR N x))), (92, .bool ((erR N x) == (erR N x)))] ?_
      cases hb29 : (erR N x) == (erR N x)
      ·
       replace hb29 : erR N x ≠ erR N x := (ne_of_beq_false hb29)
       exact absurd rfl hb29
      ·
       replace hb29 : erR N x = erR N x := (eq_of_beq hb29)
       refine zC (awake52_ok _) ?_
       rintro _ w30 ⟨rfl, hT31⟩
       have hT0 := hT0.t0 hT31
       have hO := hO.tch0 hT31
       have hBX := hBX.tch0 hT31
       have hD := hD.tch0 hT31
       refine zS [(94, .bool true), (4, .bool true)] ?_
       refine op_nil ?_
       refine W_ret ?_
       exact ⟨_, Res_of (v := .bool true) (by kernel_rfl), ⟨rfl, hT0⟩⟩

end Go.Proofs.YtlbadnpgmkobdaaV
