/- Texts laid together: Walks of functions of the program and of the document's texts. The conditions stand with each theorem. Walks of functions of the program and of the document's texts. The conditions stand with each theorem. Walks of functions of the program and of the document's texts. The conditions stand with each theorem. Walks of functions of the program and of the document's texts. The conditions stand with each theorem. -/
import Derived.Test.YtlbadnpgmkobdaaJRrang26x1
import Derived.Test.YtlbadnpgmkobdaaProg
import Derived.Test.YtlbadnpgmkobdaaJRrang26x8
import Derived.Test.YtlbadnpgmkobdaaJRrang26x6
set_option linter.unusedVariables false
set_option linter.unusedSimpArgs false
namespace Go.Proofs.YtlbadnpgmkobdaaV
open Go Go.RowKit Go.Proofs

set_option maxRecDepth 100000 in
set_option maxHeartbeats 1000000 in
theorem once_ok (F : Nat → Prop) (p : Nat) (most : Int) (N : List Nd) (W : Value → Value → Prop) (mb id : Nat) (w : World) (hL : TLow F w p most N W) (hN : N.length ≤ 65536) (hB : TB N) (hid : id < N.length) (hM0 : MapE Try.prog 3 w mb (fun _ _ => False)) (hmF : ¬ F mb) : Ret Try.prog 100 [.pointer (some ⟨p, 0, none⟩), .int .i64 ((id : Nat) : Int), .map (some mb), .func (.func 101) #[] #[]] w fun v w' => ∃ hd : List Bool, hd.getD id false = true ∧ MapE Try.prog 3 w' mb (hdR N hd) ∧ Tch (one mb) w w' := by
 have hF : Tch (one mb) w w := Tch.refl _ _
 have hL0 := hL
 have hM : MapE Try.prog 3 w mb (hdR N (List.replicate N.length false)) := hM0.congr (fun x y => hdR_nil _ _ x y)
 have hmlt := hM0.lt
 refine enter Try.func100 rfl rfl ?_
 refine zQ ?_
 have hz5 := hF.size
 have hlt_ := hL.lt
 refine st (by rfl) (S_new (v := .pointer (some ⟨w.heap.size, 0, none⟩)) (ob := .cells #[.map (some mb)] 137) (by kernel_rfl) fun w1 hT2 hs3 hB4 => ?_)
 replace hB4 : Blk w1 (w.heap.size) 137 [.map (some mb)] := hB4
 have hL := hL.tch0 hT2
 have hF := hF.then0 hT2
 have hM := hM.tch0 hT2
 have nF_hB4 : ¬ F (w.heap.size) := fun e => by have := hlt_ _ e; omega
 have hz10 := hF.size
 have lt11 := hB4.lt
 have hlt_ := hL.lt
 refine st (by rfl) (S_new (v := .pointer (some ⟨w1.heap.size, 0, none⟩)) (ob := .cells #[.int .i64 0, .int .i64 0, .int .i64 0, .int .i64 0, .int .i64 0, .int .u64 0] 32) (by kernel_rfl) fun w6 hT7 hs8 hB9 => ?_)
 replace hB9 : Blk w6 (w1.heap.size) 32 [.int .i64 0, .int .i64 0, .int .i64 0, .int .i64 0, .int .i64 0, .int .u64 0] := hB9
 have hL := hL.tch0 hT7
 have hF := hF.then0 hT7
 have hM := hM.tch0 hT7
 have hB4 := hB4.tch0 hT7
 have nF_hB9 : ¬ F (w1.heap.size) := fun e => by have := hlt_ _ e; omega
 refine op_nil ?_
 refine zQ ?_
 refine zS [(18, .int .i64 ((id : Nat) : Int))] ?_
 have hz16 := hF.size
 have lt17 := hB4.lt
 have lt18 := hB9.lt
 have hlt_ := hL.lt
 refine st (by rfl) (S_new (v := .slice (some ⟨w6.heap.size, 0, none⟩) 1 1) (ob := .cells #[.int .i64 ((id : Nat) : Int)] 3) (by kernel_rfl) fun w12 hT13 hs14 hB15 => ?_)
 replace hB15 : Blk w12 (w6.heap.size) 3 [.int .i64 ((id : Nat) : Int)] := hB15
 have hL := hL.tch0 hT13
 have hF := hF.then0 hT13
 have hM := hM.tch0 hT13
 have hB4 := hB4.tch0 hT13
 have hB9 := hB9.tch0 hT13
 have nF_hB15 : ¬ F (w6.heap.size) := fun e => by have := hlt_ _ e; omega
 refine zS [(9, .slice (some ⟨w6.heap.size, 0, none⟩) 1 1)] ?_
 refine op_nil ?_
 refine W_seq ?_
 refine W_block ?_
 have hWt0 : Own _ 0 3 1 (.slice (some ⟨w6.heap.size, 0, none⟩) 1 1) 1 (nats [id]) := Blk.own1 (sp := []) (by rw [List.append_nil]; exact hB15) rfl rfl (Nat.le_refl _) (by simp only [maxLen]; omega)
 have nF_hB15 : ¬ F (w6.heap.size) := fun e => by have := hL0.lt _ e; omega
 have nF_hB6 := nF_hB4
 have nF_hB8 := nF_hB9
 have hg6 : w.heap.size ≤ w.heap.size := by omega
 have hg8 : w.heap.size ≤ w1.heap.size := by omega
 refine W_loopL (fun m ρ w' => ∃ (hd : List Bool) (wt : List Nat) (A : Option Addr) (cp k : Nat) (ρ0 : Env), ρ = updL ρ0 [(0, .pointer (some ⟨p, 0, none⟩)), (1, .int .i64 ((id : Nat) : Int)), (3, .func (.func 101) #[] #[]), (6, .pointer (some ⟨w.heap.size, 0, none⟩)), (8, .pointer (some ⟨w1.heap.size, 0, none⟩)), (9, .slice A k cp)] ∧ (Wst N.length id hd wt) ∧ (wt.length = k) ∧ (∀ c, (Value.slice A k cp).ownBlock = some c → w.heap.size ≤ c) ∧ (∀ c, (Value.slice A k cp).ownBlock = some c → ¬ F c) ∧ TLow F w' p most N W ∧ Tch (one mb) w w' ∧ MapE Try.prog 3 w' mb (hdR N hd) ∧ Blk w' (w.heap.size) 137 [.map (some mb)] ∧ Blk w' (w1.heap.size) 32 [.int .i64 0, .int .i64 0, .int .i64 0, .int .i64 0, .int .i64 0, .int .u64 0] ∧ Own w' 0 3 1 (.slice A k cp) k (nats wt) ∧ m = (offs hd, sec N.length hd wt)) (m := (offs (List.replicate N.length false), sec N.length (List.replicate N.length false) [id])) ?_ ?_
 ·
  refine ⟨List.replicate N.length false, [id], some ⟨w6.heap.size, 0, none⟩, 1, 1, _, updL_self (by kernel_rfl), Wst.start hid, rfl, (fun c h => by have e : w6.heap.size = c := (by injection h); omega), (fun c h e => by have e2 : w6.heap.size = c := (by injection h); exact nF_hB15 (e2 ▸ e)), hL, hF, hM, hB4, hB9, hWt0, rfl⟩
 ·
  rintro m ρ w19 ⟨hd, wt, A, cp, k, ρ, rfl, hW, hwl, nB_hWt, nF_hWt, hL, hF, hM, hB6, hB8, hWt, rfl⟩
  have hfl := hW.2.2.2.len
  rw [hwl] at hfl
  refine W_seq ?_
  refine zQ ?_
  refine zS [(20, .slice A k cp), (21, .int .i64 (k : Int)), (22, .bool (decide ((k : Int) > 0)))] ?_
  refine zO (decide ((k : Int) > 0)) (fun hc20 => ?_) (fun hc20 => ?_)
  ·
   replace hc20 : 0 < (k : Int) := (of_decide_eq_true hc20)
   refine W_skip ?_
   refine W_block ?_
   refine W_seq ?_
   have h0 : wt ≠ [] := fun e => by rw [e] at hwl; simp at hwl; omega
   have hlast := hW.last h0
   obtain ⟨tp, htl⟩ : ∃ tp, lastN wt = tp := ⟨_, rfl⟩
   have htp : wt.getD (k - 1) 0 = tp := by rw [← htl, ← hwl]; rfl
   have htn : tp < N.length := htl ▸ hlast
   have hkl := kids_lt (hB tp htn)
   have hrm := hW.room h0
   rw [htl, hwl] at hrm
   refine zR ?_
   refine zS [(23, .slice A k cp), (24, .slice A k cp), (25, .int .i64 (k : Int)), (26, .int .i64 (IntKind.i64.wrap ((k : Int) - 1)))] ?_
   rw [show IntKind.i64.wrap ((k : Int) - 1) = (k : Int) - 1 from wrap_i64 (by omega) (by omega)]
   refine fixR (y := ((k - 1 : Nat) : Int)) (by omega) ?_
   refine stv (v := ptrAt A (k - 1)) (by rfl) (R_indexRd1 (len := k) (cap := cp) (k := .i64) (i := ((k - 1 : Nat) : Int)) (e := 3) (k - 1) hWt.rdS (by kernel_rfl) (by kernel_rfl) (by kernel_rfl) (by kernel_rfl) rfl (by omega)) ?_
   refine stv (v := .int .i64 ((wt.getD (k - 1) 0 : Nat) : Int)) (by rfl) (R_loadRd (v := .int .i64 ((wt.getD (k - 1) 0 : Nat) : Int)) hWt.rdS (by omega) (by kernel_rfl) (by kernel_rfl) (nats_at (l := wt) (by omega))) ?_
   rw [htp]
   refine zS [(10, .int .i64 ((tp : Nat) : Int))] ?_
   refine op_nil ?_
   refine W_seq ?_
   refine zF [(0, .pointer (some ⟨p, 0, none⟩)), (1, .int .i64 ((id : Nat) : Int)), (3, .func (.func 101) #[] #[]), (6, .pointer (some ⟨w.heap.size, 0, none⟩)), (8, .pointer (some ⟨w1.heap.size, 0, none⟩)), (9, .slice A k cp), (10, .int .i64 ((tp : Nat) : Int)), (22, .bool (decide ((k : Int) > 0)))] fun ρ => ?_
   refine zR ?_
   refine zS [(30, .pointer (some ⟨p, 0, none⟩)), (31, .int .i64 ((tp : Nat) : Int))] ?_
   refine zC (node_at F p most N W tp _ hL (by omega) htn) ?_
   rintro _ w21 ⟨rfl, hT22⟩
   have hL := hL.tch0 hT22
   have hF := hF.then0 hT22
   have hM := hM.tch0 hT22
   have hB6 := hB6.tch0 hT22
   have hB8 := hB8.tch0 hT22
   have hWt := hWt.tch0 hT22
   refine zS [(29, .tuple #[.agg #[.int .i64 (nO (nth N tp)), .int .i64 (nW (nth N tp)), .int .i64 (nA (nth N tp)), .int .i64 (nB (nth N tp)), .int .i64 (nC (nth N tp)), .int .u64 (nV (nth N tp))], .bool true]), (33, .agg #[.int .i64 (nO (nth N tp)), .int .i64 (nW (nth N tp)), .int .i64 (nA (nth N tp)), .int .i64 (nB (nth N tp)), .int .i64 (nC (nth N tp)), .int .u64 (nV (nth N tp))]), (34, .bool true)] ?_
   have hz27 := hF.size
   have lt28 := hB6.lt
   have lt29 := hB8.lt
   have lR_hWt := hWt.lt
   have hlt_ := hL.lt
   refine st (by rfl) (S_new (v := .pointer (some ⟨w21.heap.size, 0, none⟩)) (ob := .cells #[.int .i64 0, .int .i64 0, .int .i64 0, .int .i64 0, .int .i64 0, .int .u64 0] 32) (by kernel_rfl) fun w23 hT24 hs25 hB26 => ?_)
   replace hB26 : Blk w23 (w21.heap.size) 32 [.int .i64 0, .int .i64 0, .int .i64 0, .int .i64 0, .int .i64 0, .int .u64 0] := hB26
   have hL := hL.tch0 hT24
   have hF := hF.then0 hT24
   have hM := hM.tch0 hT24
   have hB6 := hB6.tch0 hT24
   have hB8 := hB8.tch0 hT24
   have hWt := hWt.tch0 hT24
   have nF_hB26 : ¬ F (w21.heap.size) := fun e => by have := hlt_ _ e; omega
   refine st (by rfl) (S_storeA (b := w21.heap.size) (j := 0) (cs := [.int .i64 (nO (nth N tp)), .int .i64 (nW (nth N tp)), .int .i64 (nA (nth N tp)), .int .i64 (nB (nth N tp)), .int .i64 (nC (nth N tp)), .int .u64 (nV (nth N tp))]) (by kernel_rfl) (by kernel_rfl) (by kernel_rfl) (by simp [oneV]) hB26 (by simp) fun w30 hT31 hs32 hB26' => ?_)
   have hL := hL.tchS hT31 (fun c e q => by cases e; exact nF_hB26 q)
   have hF := Tch.trans hF hT31 (fun _ _ e => e) (fun c hc e => by have : c = w21.heap.size := e; omega)
   have hM := hM.tch hT31 (fun e => hM.ne hB26 e)
   have hB6 := hB6.tch hT31 (hB6.ne hB26 (by decide))
   have hB8 := hB8.tch hT31 (fun e => by have : w1.heap.size = w21.heap.size := e; omega)
   have hWt := hWt.tch hT31 (fun c hc e => hWt.blk_ne hB26 (by decide) c hc e)
   replace hB26 : Blk w30 w21.heap.size 32 [.int .i64 (nO (nth N tp)), .int .i64 (nW (nth N tp)), .int .i64 (nA (nth N tp)), .int .i64 (nB (nth N tp)), .int .i64 (nC (nth N tp)), .int .u64 (nV (nth N tp))] := hB26'
   refine zS [(12, .bool true)] ?_
   refine op_nil ?_
   refine W_seq ?_
   refine zF [(0, .pointer (some ⟨p, 0, none⟩)), (1, .int .i64 ((id : Nat) : Int)), (3, .func (.func 101) #[] #[]), (6, .pointer (some ⟨w.heap.size, 0, none⟩)), (8, .pointer (some ⟨w1.heap.size, 0, none⟩)), (9, .slice A k cp), (10, .int .i64 ((tp : Nat) : Int)), (11, .pointer (some ⟨w21.heap.size, 0, none⟩)), (22, .bool (decide ((k : Int) > 0)))] fun ρ => ?_
   refine zR ?_
   refine zS [(13, .bool false)] ?_
   refine op_nil ?_
   refine W_seq ?_
   refine zQ ?_
   refine st (by rfl) (S_val (v := .agg #[.int .i64 (nO (nth N tp)), .int .i64 (nW (nth N tp)), .int .i64 (nA (nth N tp)), .int .i64 (nB (nth N tp)), .int .i64 (nC (nth N tp)), .int .u64 (nV (nth N tp))]) (R_loadA [.int .i64 (nO (nth N tp)), .int .i64 (nW (nth N tp)), .int .i64 (nA (nth N tp)), .int .i64 (nB (nth N tp)), .int .i64 (nC (nth N tp)), .int .u64 (nV (nth N tp))] (by kernel_rfl) (by kernel_rfl) (by kernel_rfl) (fun k u hk => by rw [hB26.cell]; exact get_part _ 0 _ k u rfl hk)) ?_)
   have hlK := hF.size
   have lW_ := hWt.lt
   have hltL := hL.lt
   refine zC (kids_ok N tp (nth N tp) _ (hB tp htn)) ?_
   rintro _ w33 ⟨K, mk_, rfl, hmk, hKd, nK_, hT34⟩
   have hL := hL.tch0 hT34
   have hF := hF.then0 hT34
   have hM := hM.tch0 hT34
   have hB6 := hB6.tch0 hT34
   have hB8 := hB8.tch0 hT34
   have hWt := hWt.tch0 hT34
   have hB26 := hB26.tch0 hT34
   have nB_hKd : ∀ c, (Value.slice K mk_ mk_).ownBlock = some c → w.heap.size ≤ c := fun c h => by have := nK_ c h; omega
   have nF_hKd : ∀ c, (Value.slice K mk_ mk_).ownBlock = some c → ¬ F c := fun c h e => by have := nK_ c h; have := hltL c e; omega
   have dj0 : ∀ c, (Value.slice A k cp).ownBlock = some c → (Value.slice K mk_ mk_).ownBlock = some c → False := fun c h1 h2 => by have := nK_ c h2; have := lW_ c h1; omega
   refine zS [(37, .int .i64 (mk_ : Int)), (38, .int .i64 0)] ?_
   refine op_nil ?_
   refine W_block ?_
   have nF_hB11 := nF_hB26
   have hg11 : w.heap.size ≤ w21.heap.size := by omega
   refine W_loop (fun m ρ w' => ∃ (A1 : Option Addr) (cp1 : Nat) (wt1 : List Nat) (k1 : Nat) (mr : Bool) (j : Nat) (ρ0 : Env), ρ = updL ρ0 [(0, .pointer (some ⟨p, 0, none⟩)), (1, .int .i64 ((id : Nat) : Int)), (3, .func (.func 101) #[] #[]), (6, .pointer (some ⟨w.heap.size, 0, none⟩)), (8, .pointer (some ⟨w1.heap.size, 0, none⟩)), (9, .slice A1 k1 cp1), (10, .int .i64 ((tp : Nat) : Int)), (11, .pointer (some ⟨w21.heap.size, 0, none⟩)), (13, .bool mr), (36, .slice K mk_ mk_), (37, .int .i64 (mk_ : Int)), (38, .int .i64 ((j : Nat) : Int))] ∧ (j ≤ mk_) ∧ (wt1.length = k1) ∧ (Kst N.length hd (kidsN (nth N tp)) wt wt1 mr) ∧ (∀ c, (Value.slice A1 k1 cp1).ownBlock = some c → w.heap.size ≤ c) ∧ (∀ c, (Value.slice A1 k1 cp1).ownBlock = some c → ¬ F c) ∧ (∀ c, (Value.slice A1 k1 cp1).ownBlock = some c → (Value.slice K mk_ mk_).ownBlock = some c → False) ∧ (k1 ≤ k + j) ∧ TLow F w' p most N W ∧ Tch (one mb) w w' ∧ MapE Try.prog 3 w' mb (hdR N hd) ∧ Blk w' (w.heap.size) 137 [.map (some mb)] ∧ Blk w' (w1.heap.size) 32 [.int .i64 0, .int .i64 0, .int .i64 0, .int .i64 0, .int .i64 0, .int .u64 0] ∧ Own w' 0 3 1 (.slice A1 k1 cp1) k1 (nats wt1) ∧ Blk w' (w21.heap.size) 32 [.int .i64 (nO (nth N tp)), .int .i64 (nW (nth N tp)), .int .i64 (nA (nth N tp)), .int .i64 (nB (nth N tp)), .int .i64 (nC (nth N tp)), .int .u64 (nV (nth N tp))] ∧ Own w' 0 3 1 (.slice K mk_ mk_) mk_ (nats (kidsN (nth N tp))) ∧ m = mk_ - j) (m := mk_ - 0) ?_ ?_
   ·
    refine ⟨A, cp, wt, k, false, 0, _, updL_self (by kernel_rfl), by omega, hwl, Kst.start hW, nB_hWt, nF_hWt, dj0, by omega, hL, hF, hM, hB6, hB8, hWt, hB26, hKd, rfl⟩
   ·
    rintro m ρ w35 ⟨A1, cp1, wt1, k1, mr, j, ρ, rfl, hj, hwl1, hKs, nB_hWt, nF_hWt, dj_hWt_hKd, hmr, hL, hF, hM, hB6, hB8, hWt, hB11, hKd, rfl⟩
    have hfl1 := hKs.2.2.2.2.len
    rw [hwl1] at hfl1
    have hkj : j < mk_ → (kidsN (nth N tp)).getD j 0 ∈ kidsN (nth N tp) := fun q => mem_getD (by omega)
    refine zQ ?_
    refine zS [(39, .bool (decide (((j : Nat) : Int) < (mk_ : Int))))] ?_
    refine op_nil ?_
    refine W_seq ?_
    refine zW (decide (((j : Nat) : Int) < (mk_ : Int))) (fun hc36 => ?_) (fun hc36 => ?_)
    ·
     replace hc36 : ((j : Nat) : Int) < (mk_ : Int) := (of_decide_eq_true hc36)
     refine W_skip ?_
     refine W_seq ?_
     refine W_block ?_
     refine zQ ?_
     refine stv (v := ptrAt K j) (by rfl) (R_indexRd1 (len := mk_) (cap := mk_) (k := .i64) (i := ((j : Nat) : Int)) (e := 3) j hKd.rdS (by kernel_rfl) (by kernel_rfl) (by kernel_rfl) (by kernel_rfl) rfl (by omega)) ?_
     refine stv (v := .int .i64 (((kidsN (nth N tp)).getD j 0 : Nat) : Int)) (by rfl) (R_loadRd (v := .int .i64 (((kidsN (nth N tp)).getD j 0 : Nat) : Int)) hKd.rdS (by omega) (by kernel_rfl) (by kernel_rfl) (nats_at (l := (kidsN (nth N tp))) (by omega))) ?_
     refine zS [(15, .int .i64 (((kidsN (nth N tp)).getD j 0 : Nat) : Int))] ?_
     refine op_nil ?_
     refine zQ ?_
     refine zL (.map (some mb)) ((hB6.cell 0).trans rfl) ?_
     refine zS [(44, .int .i64 (((kidsN (nth N tp)).getD j 0 : Nat) : Int))] ?_
     have hkm := hkj (by omega)
     have hk3 := kids_len (nth N tp)
     have hkt := hkl _ hkm
     have hkn : ((kidsN (nth N tp)).getD j 0) < N.length := by have := hkl _ hkm; omega
     refine st (by rfl) (S_lookupE true 3 32 (nodeV nd0) key_law3 (by kernel_rfl) (by kernel_rfl) (by kernel_rfl) (by kernel_rfl) (key_int (x := ((((kidsN (nth N tp)).getD j 0) : Nat) : Int)) (by unfold b64; omega)) hM fun vz ok hv => ?_)
     obtain ⟨z, rfl, rfl⟩ := look_hd hkn hv
     refine zS [(42, .tuple #[.agg #[.int .i64 (nO z), .int .i64 (nW z), .int .i64 (nA z), .int .i64 (nB z), .int .i64 (nC z), .int .u64 (nV z)], .bool (hd.getD ((kidsN (nth N tp)).getD j 0) false)]), (46, .agg #[.int .i64 (nO z), .int .i64 (nW z), .int .i64 (nA z), .int .i64 (nB z), .int .i64 (nC z), .int .u64 (nV z)]), (47, .bool (hd.getD ((kidsN (nth N tp)).getD j 0) false))] ?_
     have hz41 := hF.size
     have lt42 := hB6.lt
     have lt43 := hB8.lt
     have lR_hWt := hWt.lt
     have lt44 := hB11.lt
     have lR_hKd := hKd.lt
     have hlt_ := hL.lt
     refine st (by rfl) (S_new (v := .pointer (some ⟨w35.heap.size, 0, none⟩)) (ob := .cells #[.int .i64 0, .int .i64 0, .int .i64 0, .int .i64 0, .int .i64 0, .int .u64 0] 32) (by kernel_rfl) fun w37 hT38 hs39 hB40 => ?_)
     replace hB40 : Blk w37 (w35.heap.size) 32 [.int .i64 0, .int .i64 0, .int .i64 0, .int .i64 0, .int .i64 0, .int .u64 0] := hB40
     have hL := hL.tch0 hT38
     have hF := hF.then0 hT38
     have hM := hM.tch0 hT38
     have hB6 := hB6.tch0 hT38
     have hB8 := hB8.tch0 hT38
     have hWt := hWt.tch0 hT38
     have hB11 := hB11.tch0 hT38
     have hKd := hKd.tch0 hT38
     have nF_hB40 : ¬ F (w35.heap.size) := fun e => by have := hlt_ _ e; omega
     refine st (by rfl) (S_storeA (b := w35.heap.size) (j := 0) (cs := [.int .i64 (nO z), .int .i64 (nW z), .int .i64 (nA z), .int .i64 (nB z), .int .i64 (nC z), .int .u64 (nV z)]) (by kernel_rfl) (by kernel_rfl) (by kernel_rfl) (by simp [oneV]) hB40 (by simp) fun w45 hT46 hs47 hB40' => ?_)
     have hL := hL.tchS hT46 (fun c e q => by cases e; exact nF_hB40 q)
     have hF := Tch.trans hF hT46 (fun _ _ e => e) (fun c hc e => by have : c = w35.heap.size := e; omega)
     have hM := hM.tch hT46 (fun e => hM.ne hB40 e)
     have hB6 := hB6.tch hT46 (hB6.ne hB40 (by decide))
     have hB8 := hB8.tch hT46 (fun e => by have : w1.heap.size = w35.heap.size := e; omega)
     have hWt := hWt.tch hT46 (fun c hc e => hWt.blk_ne hB40 (by decide) c hc e)
     have hB11 := hB11.tch hT46 (fun e => by have : w21.heap.size = w35.heap.size := e; omega)
     have hKd := hKd.tch hT46 (fun c hc e => hKd.blk_ne hB40 (by decide) c hc e)
     replace hB40 : Blk w45 w35.heap.size 32 [.int .i64 (nO z), .int .i64 (nW z), .int .i64 (nA z), .int .i64 (nB z), .int .i64 (nC z), .int .u64 (nV z)] := hB40'
     refine zS [(17, .bool (hd.getD ((kidsN (nth N tp)).getD j 0) false))] ?_
     refine op_nil ?_
     refine W_seq ?_
     refine zF [(0, .pointer (some ⟨p, 0, none⟩)), (1, .int .i64 ((id : Nat) : Int)), (3, .func (.func 101) #[] #[]), (6, .pointer (some ⟨w.heap.size, 0, none⟩)), (8, .pointer (some ⟨w1.heap.size, 0, none⟩)), (9, .slice A1 k1 cp1), (10, .int .i64 ((tp : Nat) : Int)), (11, .pointer (some ⟨w21.heap.size, 0, none⟩)), (13, .bool mr), (15, .int .i64 (((kidsN (nth N tp)).getD j 0 : Nat) : Int)), (17, .bool (hd.getD ((kidsN (nth N tp)).getD j 0) false)), (36, .slice K mk_ mk_), (37, .int .i64 (mk_ : Int)), (38, .int .i64 ((j : Nat) : Int)), (39, .bool (decide (((j : Nat) : Int) < (mk_ : Int))))] fun ρ => ?_
     refine zR ?_
     refine zS [(48, .bool (hd.getD ((kidsN (nth N tp)).getD j 0) false)), (49, .bool (!(hd.getD ((kidsN (nth N tp)).getD j 0) false)))] ?_
     refine zO (!(hd.getD ((kidsN (nth N tp)).getD j 0) false)) (fun hc48 => ?_) (fun hc48 => ?_)
     ·
      replace hc48 : hd.getD ((kidsN (nth N tp)).getD j 0) false = false := ((not_t hc48))
      refine zQ ?_
      refine zS [(50, .slice A1 k1 cp1), (51, .int .i64 (((kidsN (nth N tp)).getD j 0 : Nat) : Int))] ?_
      have hz53 := hF.size
      have lt54 := hB6.lt
      have lt55 := hB8.lt
      have lR_hWt := hWt.lt
      have lt56 := hB11.lt
      have lR_hKd := hKd.lt
      have lt57 := hB40.lt
      have hlt_ := hL.lt
      refine st (by rfl) (S_new (v := .slice (some ⟨w45.heap.size, 0, none⟩) 1 1) (ob := .cells #[.int .i64 (((kidsN (nth N tp)).getD j 0 : Nat) : Int)] 3) (by kernel_rfl) fun w49 hT50 hs51 hB52 => ?_)
      replace hB52 : Blk w49 (w45.heap.size) 3 [.int .i64 (((kidsN (nth N tp)).getD j 0 : Nat) : Int)] := hB52
      have hL := hL.tch0 hT50
      have hF := hF.then0 hT50
      have hM := hM.tch0 hT50
      have hB6 := hB6.tch0 hT50
      have hB8 := hB8.tch0 hT50
      have hWt := hWt.tch0 hT50
      have hB11 := hB11.tch0 hT50
      have hKd := hKd.tch0 hT50
      have hB40 := hB40.tch0 hT50
      have nF_hB52 : ¬ F (w45.heap.size) := fun e => by have := hlt_ _ e; omega
      have hz_ := hF.size
      have hGl_ := hL.lt
      have lR_hWt := hWt.lt
      have lR_hKd := hKd.lt
      refine st (by rfl) (S_appendR 126 3 (.int .i64 0) 1 8 (n := k1) (m := 1) (A := A1) (cp := cp1) (cells := nats wt1) (news := [.int .i64 (((kidsN (nth N tp)).getD j 0 : Nat) : Int)]) (b := w45.heap.size) (off := 0) (c := 1) (by kernel_rfl) (by kernel_rfl) (by decide) (by kernel_rfl) (by kernel_rfl) (by kernel_rfl) hWt (by rfl) (fun k u hk => by rw [Nat.zero_add, hB52.cell]; exact hk) (by simp [oneV]) (by simp only [maxLen]; omega) (by omega) fun A58 cp59 w60 hO61 hw62 hT63 => ?_)
      have hL := hL.tchS hT63 (fun c e => nF_hWt c e)
      have hF := Tch.trans hF hT63 (fun _ _ e => e) (fun c hc e => by have := nB_hWt c e; omega)
      have hM := hM.tch hT63 (fun e => hWt.ne_mapE hM _ e rfl)
      have hB6 := hB6.tch hT63 (fun e => hWt.blk_ne hB6 (by decide) _ e rfl)
      have hB8 := hB8.tch hT63 (fun e => hWt.blk_ne hB8 (by decide) _ e rfl)
      have hB11 := hB11.tch hT63 (fun e => hWt.blk_ne hB11 (by decide) _ e rfl)
      have hKd := hKd.tch hT63 (fun c hc e => dj_hWt_hKd c e hc)
      have hB40 := hB40.tch hT63 (fun e => hWt.blk_ne hB40 (by decide) _ e rfl)
      have hWt : Own w60 0 3 1 (.slice A58 (k1 + 1) cp59) (k1 + 1) (nats (wt1 ++ [(kidsN (nth N tp)).getD j 0])) := by rw [nats_append]; exact hO61
      have nF_hWt : ∀ c, (Value.slice A58 (k1 + 1) cp59).ownBlock = some c → ¬ F c := fun c hc => (hw62 c hc).elim (nF_hWt c) (fun q e => by have := hGl_ _ e; omega)
      have nB_hWt : ∀ c, (Value.slice A58 (k1 + 1) cp59).ownBlock = some c → w.heap.size ≤ c := fun c hc => (hw62 c hc).elim (nB_hWt c) (fun q => by omega)
      have dj_hWt_hKd : ∀ c, (Value.slice A58 (k1 + 1) cp59).ownBlock = some c → (Value.slice K (mk_) mk_).ownBlock = some c → False := fun c h1 h2 => (hw62 c h1).elim (fun q => dj_hWt_hKd c q h2) (fun q => by have := lR_hKd c h2; omega)
      refine zS [(9, .slice A58 (k1 + 1) cp59)] ?_
      refine op_nil ?_
      refine zR ?_
      refine zS [(13, .bool true)] ?_
      refine op_nil ?_
      refine zF [(0, .pointer (some ⟨p, 0, none⟩)), (1, .int .i64 ((id : Nat) : Int)), (3, .func (.func 101) #[] #[]), (6, .pointer (some ⟨w.heap.size, 0, none⟩)), (8, .pointer (some ⟨w1.heap.size, 0, none⟩)), (9, .slice A58 (k1 + 1) cp59), (10, .int .i64 ((tp : Nat) : Int)), (11, .pointer (some ⟨w21.heap.size, 0, none⟩)), (13, .bool true), (15, .int .i64 (((kidsN (nth N tp)).getD j 0 : Nat) : Int)), (17, .bool (hd.getD ((kidsN (nth N tp)).getD j 0) false)), (36, .slice K mk_ mk_), (37, .int .i64 (mk_ : Int)), (38, .int .i64 ((j : Nat) : Int)), (39, .bool (decide (((j : Nat) : Int) < (mk_ : Int)))), (49, .bool (!(hd.getD ((kidsN (nth N tp)).getD j 0) false)))] fun ρ => ?_
      refine zR ?_
      refine zS [(54, .int .i64 (IntKind.i64.wrap (((j : Nat) : Int) + 1)))] ?_
      rw [show IntKind.i64.wrap (((j : Nat) : Int) + 1) = ((j : Nat) : Int) + 1 from wrap_i64 (by omega) (by omega)]
      refine fixR (y := ((j + 1 : Nat) : Int)) (by omega) ?_
      refine zS [(38, .int .i64 ((j + 1 : Nat) : Int))] ?_
      refine op_nil ?_
      refine ⟨_, ?_, A58, cp59, wt1 ++ [(kidsN (nth N tp)).getD j 0], k1 + 1, true, j + 1, _, updL_self (by kernel_rfl), ?_, by rw [List.length_append]; exact congrArg (· + 1) hwl1, hKs.push hkm (by omega) (by omega) (by assumption), nB_hWt, nF_hWt, dj_hWt_hKd, by omega, hL, hF, hM, hB6, hB8, hWt, hB11, hKd, rfl⟩
      ·
       omega
      ·
       omega
     ·
      replace hc48 : hd.getD ((kidsN (nth N tp)).getD j 0) false = true := ((not_f hc48))
      refine W_skip ?_
      refine zR ?_
      refine zS [(54, .int .i64 (IntKind.i64.wrap (((j : Nat) : Int) + 1)))] ?_
      rw [show IntKind.i64.wrap (((j : Nat) : Int) + 1) = ((j : Nat) : Int) + 1 from wrap_i64 (by omega) (by omega)]
      refine fixR (y := ((j + 1 : Nat) : Int)) (by omega) ?_
      refine zS [(38, .int .i64 ((j + 1 : Nat) : Int))] ?_
      refine op_nil ?_
      refine ⟨_, ?_, A1, cp1, wt1, k1, mr, j + 1, _, updL_self (by kernel_rfl), ?_, hwl1, hKs, nB_hWt, nF_hWt, dj_hWt_hKd, by omega, hL, hF, hM, hB6, hB8, hWt, hB11, hKd, rfl⟩
      ·
       omega
      ·
       omega
    ·
     replace hc36 : (mk_ : Int) ≤ ((j : Nat) : Int) := (Int.not_lt.1 (of_decide_eq_false hc36))
     refine W_exit ?_
     refine X_hit ?_
     refine W_seq ?_
     refine zQ ?_
     refine zS [(55, .bool mr)] ?_
     refine zO (mr) (fun hc64 => ?_) (fun hc64 => ?_)
     ·
      replace hc64 : mr = true := (hc64)
      refine W_exit ?_
      refine X_hit ?_
      obtain ⟨ws, x, hws, hxk, hxf⟩ := hKs.2.1 (by assumption)
      refine ⟨_, by rw [hws]; exact lex_more h0 htl (hkl x hxk) htn hxf, hd, wt1, A1, cp1, k1, _, updL_self (by kernel_rfl), hW.more hKs, hwl1, nB_hWt, nF_hWt, hL, hF, hM, hB6, hB8, hWt, rfl⟩
     ·
      replace hc64 : mr = false := (hc64)
      refine W_skip ?_
      refine W_seq ?_
      have hne1 : wt1 ≠ [] := fun e => h0 (by rw [← hKs.1 (by assumption)]; exact e)
      have hk1 : 0 < k1 := by rw [← hwl1]; exact List.length_pos_iff.2 hne1
      have hcg := hWt.capge
      refine zR ?_
      refine zS [(56, .slice A1 k1 cp1), (57, .slice A1 k1 cp1), (58, .int .i64 (k1 : Int)), (59, .int .i64 (IntKind.i64.wrap ((k1 : Int) - 1)))] ?_
      rw [show IntKind.i64.wrap ((k1 : Int) - 1) = (k1 : Int) - 1 from wrap_i64 (by omega) (by omega)]
      refine fixR (y := ((k1 - 1 : Nat) : Int)) (by omega) ?_
      refine stv (v := .slice (slA A1 0 cp1) (k1 - 1) cp1) (by rfl) (R_sliceH (A := A1) (n := k1) (cp := cp1) (k1 - 1) (by kernel_rfl) (by kernel_rfl) (by kernel_rfl) (by kernel_rfl) (by omega)) ?_
      obtain ⟨esl, hCut⟩ := hWt.cutS (m := k1 - 1) (by omega) (by omega)
      rw [esl]
      replace nB_hWt : ∀ c, (Value.slice A1 (k1 - 1) cp1).ownBlock = some c → w.heap.size ≤ c := fun c h => nB_hWt c (by rw [own_len A1 k1 (k1 - 1) cp1]; exact h)
      replace nF_hWt : ∀ c, (Value.slice A1 (k1 - 1) cp1).ownBlock = some c → ¬ F c := fun c h => nF_hWt c (by rw [own_len A1 k1 (k1 - 1) cp1]; exact h)
      have hWt : Own w35 0 3 1 (.slice A1 (k1 - 1) cp1) (k1 - 1) (nats (wt1.take (k1 - 1))) := by unfold nats at hCut ⊢; rw [List.map_take]; exact hCut
      refine zS [(9, .slice A1 (k1 - 1) cp1)] ?_
      refine op_nil ?_
      refine zF [(0, .pointer (some ⟨p, 0, none⟩)), (1, .int .i64 ((id : Nat) : Int)), (3, .func (.func 101) #[] #[]), (6, .pointer (some ⟨w.heap.size, 0, none⟩)), (8, .pointer (some ⟨w1.heap.size, 0, none⟩)), (9, .slice A1 (k1 - 1) cp1), (10, .int .i64 ((tp : Nat) : Int)), (11, .pointer (some ⟨w21.heap.size, 0, none⟩)), (13, .bool mr), (36, .slice K mk_ mk_), (37, .int .i64 (mk_ : Int)), (38, .int .i64 ((j : Nat) : Int)), (39, .bool (decide (((j : Nat) : Int) < (mk_ : Int)))), (55, .bool mr)] fun ρ => ?_
      refine W_draw (fun w' => Blk w' (w.heap.size) 137 [.map (some mb)] ∧ Blk w' (w21.heap.size) 32 [.int .i64 (nO (nth N tp)), .int .i64 (nW (nth N tp)), .int .i64 (nA (nth N tp)), .int .i64 (nB (nth N tp)), .int .i64 (nC (nth N tp)), .int .u64 (nV (nth N tp))]) (by kernel_rfl) (by kernel_rfl) (by kernel_rfl) fun w65 hT66 hh67 => ?_
      have hL := hL.tch0 hT66
      have hF := hF.then0 hT66
      have hM := hM.tch0 hT66
      have hB6 := hB6.tch0 hT66
      have hB8 := hB8.tch0 hT66
      have hB11 := hB11.tch0 hT66
      have hKd := hKd.tch0 hT66
      have hWt := hWt.tch0 hT66
      refine zK [1, 2, 4] #[false, true, true, false, true, false, false] [(62, .int .i64 ((tp : Nat) : Int)), (63, .func (.func 101) #[] #[]), (65, .func (.func 117) #[] #[.pointer (some ⟨w.heap.size, 0, none⟩)])] ⟨hB6, hB11⟩ ?_
      refine zV 0 rfl (.map (some mb)) (fun _ ⟨hB6, hB11⟩ => R_load (v := .map (some mb)) (by kernel_rfl) (by kernel_rfl) ((hB6.cell 0).trans rfl)) ⟨hB6, hB11⟩ ?_
      refine zV 3 rfl (.agg #[.int .i64 (nO (nth N tp)), .int .i64 (nW (nth N tp)), .int .i64 (nA (nth N tp)), .int .i64 (nB (nth N tp)), .int .i64 (nC (nth N tp)), .int .u64 (nV (nth N tp))]) (fun _ ⟨hB6, hB11⟩ => R_loadA [.int .i64 (nO (nth N tp)), .int .i64 (nW (nth N tp)), .int .i64 (nA (nth N tp)), .int .i64 (nB (nth N tp)), .int .i64 (nC (nth N tp)), .int .u64 (nV (nth N tp))] (by kernel_rfl) (by kernel_rfl) (by kernel_rfl) (fun k u hk => by rw [hB11.cell]; exact get_part _ 0 _ k u rfl hk)) ⟨hB6, hB11⟩ ?_
      refine zD 5 rfl (S_call (args := [.agg #[.int .i64 (nO (nth N tp)), .int .i64 (nW (nth N tp)), .int .i64 (nA (nth N tp)), .int .i64 (nB (nth N tp)), .int .i64 (nC (nth N tp)), .int .u64 (nV (nth N tp))], .func (.func 117) #[] #[.pointer (some ⟨w.heap.size, 0, none⟩)]]) (by kernel_rfl) (same_nd (nth N tp) _ _) ?_)
      rintro _ w68 ⟨rfl, hT69⟩
      have hL := hL.tch0 hT69
      have hF := hF.then0 hT69
      have hM := hM.tch0 hT69
      have hB6 := hB6.tch0 hT69
      have hB8 := hB8.tch0 hT69
      have hB11 := hB11.tch0 hT69
      have hKd := hKd.tch0 hT69
      have hWt := hWt.tch0 hT69
      refine ⟨⟨hB6, hB11⟩, ?_⟩
      refine zD 6 rfl (S_updateE 3 32 key_law3 (by kernel_rfl) (key := .int .i64 ((tp : Nat) : Int)) (val := nodeV (nth N tp)) (by kernel_rfl) (by kernel_rfl) (by kernel_rfl) (key_int (by unfold b64; omega)) hM fun w70 hT71 hs72 hM1 => ?_)
      replace hF := Tch.trans hF hT71 (fun _ _ e => e) (fun _ _ e => e)
      have hB6 := hB6.tch hT71 (fun e => hM.ne hB6 (Eq.symm e))
      have hB8 := hB8.tch hT71 (fun e => hM.ne hB8 (Eq.symm e))
      have hB11 := hB11.tch hT71 (fun e => hM.ne hB11 (Eq.symm e))
      have hKd := hKd.tch hT71 (fun c hc e => hKd.ne_mapE hM c hc e)
      have hWt := hWt.tch hT71 (fun c hc e => hWt.ne_mapE hM c hc e)
      have hL := hL.tchS hT71 (fun c e q => by have : c = mb := e; rw [this] at q; exact hmF q)
      have hM : MapE Try.prog 3 w70 mb (hdR N (hd.set tp true)) := hM1.congr (hdR_set htn hW.1)
      refine ⟨⟨hB6, hB11⟩, ?_⟩
      refine d_done (by kernel_rfl) ?_
      have hwe : wt1 = wt := hKs.1 (by assumption)
      have hkk : k1 - 1 = wt.length - 1 := by rw [← hwl1, hwe]
      refine ⟨_, by rw [hkk, hwe]; exact lex_pop h0 htl (by rw [hW.1]; exact htn) hW.2.1, hd.set tp true, wt1.take (k1 - 1), A1, cp1, k1 - 1, _, updL_self (by kernel_rfl), by rw [hkk, hwe]; exact hW.pop h0 htl htn, by rw [List.length_take]; omega, nB_hWt, nF_hWt, hL, hF, hM, hB6, hB8, hWt, rfl⟩
  ·
   replace hc20 : (k : Int) ≤ 0 := (Int.not_lt.1 (of_decide_eq_false hc20))
   refine W_exit ?_
   refine X_hit ?_
   refine zQ ?_
   refine zL (.map (some mb)) ((hB6.cell 0).trans rfl) ?_
   refine zS [(68, .int .i64 ((id : Nat) : Int))] ?_
   refine st (by rfl) (S_lookupE false 3 32 (nodeV nd0) key_law3 (by kernel_rfl) (by kernel_rfl) (by kernel_rfl) (by kernel_rfl) (key_int (x := ((id : Nat) : Int)) (by unfold b64; omega)) hM fun vz ok hv => ?_)
   obtain ⟨z, rfl, _⟩ := look_hd hid hv
   refine st (by rfl) (S_storeA (b := w1.heap.size) (j := 0) (cs := [.int .i64 (nO z), .int .i64 (nW z), .int .i64 (nA z), .int .i64 (nB z), .int .i64 (nC z), .int .u64 (nV z)]) (by kernel_rfl) (by kernel_rfl) (by kernel_rfl) (by simp [oneV]) hB8 (by simp) fun w73 hT74 hs75 hB8' => ?_)
   have hL := hL.tchS hT74 (fun c e q => by cases e; exact nF_hB8 q)
   have hF := Tch.trans hF hT74 (fun _ _ e => e) (fun c hc e => by have : c = w1.heap.size := e; omega)
   have hM := hM.tch hT74 (fun e => hM.ne hB8 e)
   have hB6 := hB6.tch hT74 (hB6.ne hB8 (by decide))
   have hWt := hWt.tch hT74 (fun c hc e => hWt.blk_ne hB8 (by decide) c hc e)
   replace hB8 : Blk w73 w1.heap.size 32 [.int .i64 (nO z), .int .i64 (nW z), .int .i64 (nA z), .int .i64 (nB z), .int .i64 (nC z), .int .u64 (nV z)] := hB8'
   refine op_nil ?_
   refine W_ret ?_
   exact ⟨_, Res_cell (b := w1.heap.size) (cs := [.int .i64 (nO z), .int .i64 (nW z), .int .i64 (nA z), .int .i64 (nB z), .int .i64 (nC z), .int .u64 (nV z)]) (by rfl) (by kernel_rfl) (by kernel_rfl) hB8 (by kernel_rfl) (by kernel_rfl), ⟨hd, hW.2.2.1.resolve_left (fun q => by rw [show wt = [] from List.eq_nil_of_length_eq_zero (by omega)] at q; cases q), hM, hF⟩⟩

end Go.Proofs.YtlbadnpgmkobdaaV

set_option linter.unusedVariables false
set_option linter.unusedSimpArgs false
namespace Go.Proofs.YtlbadnpgmkobdaaV
open Go Go.RowKit Go.Proofs

set_option maxRecDepth 100000 in
theorem below_ok (F : Nat → Prop) (p : Nat) (most : Int) (N : List Nd) (W : Value → Value → Prop) (ix : Int) (w : World) (hL : TLow F w p most N W) (hN : N.length ≤ 65536) (hB : TB N) : Ret Try.prog 75 [.pointer (some ⟨p, 0, none⟩), .int .i64 ix] w fun v w' => ∃ mb R, v = .map (some mb) ∧ MapE Try.prog 3 w' mb R ∧ ((isT N ix = true ∧ ∃ x y, R x y) ∨ (isT N ix = false ∧ ∀ x y, ¬ R x y)) ∧ Tch N0 w w' := by
 have hltF := hL.lt
 refine enter Try.func75 rfl rfl ?_
 refine zQ ?_
 refine zS [(4, .map none)] ?_
 refine op_nil ?_
 refine zQ ?_
 refine st (by rfl) (S_makeMapE 3 fun w1 hT2 hs3 hM0 => ?_)
 have hT0 := hT2
 have hL := hL.tch0 hT2
 have hmlt := hM0.lt
 refine zS [(5, .map (some w.heap.size))] ?_
 refine op_nil ?_
 refine W_seq ?_
 refine zQ ?_
 refine zS [(10, .pointer (some ⟨p, 0, none⟩)), (11, .int .i64 ix)] ?_
 refine zC (node_ok F p most N W ix _ hL hN) ?_
 rintro _ w4 ⟨rfl, hT5⟩
 have hT0 := hT0.t0 hT5
 have hL := hL.tch0 hT5
 have hM0 := hM0.tch0 hT5
 refine zS [(9, .tuple #[.agg #[.int .i64 (nO (ndF N ix)), .int .i64 (nW (ndF N ix)), .int .i64 (nA (ndF N ix)), .int .i64 (nB (ndF N ix)), .int .i64 (nC (ndF N ix)), .int .u64 (nV (ndF N ix))], .bool (isT N ix)]), (13, .agg #[.int .i64 (nO (ndF N ix)), .int .i64 (nW (ndF N ix)), .int .i64 (nA (ndF N ix)), .int .i64 (nB (ndF N ix)), .int .i64 (nC (ndF N ix)), .int .u64 (nV (ndF N ix))]), (14, .bool (isT N ix))] ?_
 have hlt_ := hL.lt
 have hz10 := hT0.size
 have z11 := hT0.size
 refine st (by rfl) (S_new (v := .pointer (some ⟨w4.heap.size, 0, none⟩)) (ob := .cells #[.int .i64 0, .int .i64 0, .int .i64 0, .int .i64 0, .int .i64 0, .int .u64 0] 32) (by kernel_rfl) fun w6 hT7 hs8 hB9 => ?_)
 replace hB9 : Blk w6 (w4.heap.size) 32 [.int .i64 0, .int .i64 0, .int .i64 0, .int .i64 0, .int .i64 0, .int .u64 0] := hB9
 have hT0 := hT0.t0 hT7
 have hL := hL.tch0 hT7
 have hM0 := hM0.tch0 hT7
 have nF_hB9 : ¬ F (w4.heap.size) := fun e => by have := hlt_ _ e; omega
 refine st (by rfl) (S_storeA (b := w4.heap.size) (j := 0) (cs := [.int .i64 (nO (ndF N ix)), .int .i64 (nW (ndF N ix)), .int .i64 (nA (ndF N ix)), .int .i64 (nB (ndF N ix)), .int .i64 (nC (ndF N ix)), .int .u64 (nV (ndF N ix))]) (by kernel_rfl) (by kernel_rfl) (by kernel_rfl) (by simp [oneV]) hB9 (by simp) fun w12 hT13 hs14 hB9' => ?_)
 have hT0 := (hT0).then hT13 (fun c e => by have : c = w4.heap.size := e; omega)
 have hL := hL.tchS hT13 (fun c e q => by cases e; exact nF_hB9 q)
 have hM0 := hM0.tch hT13 (fun e => hM0.ne hB9 e)
 replace hB9 : Blk w12 w4.heap.size 32 [.int .i64 (nO (ndF N ix)), .int .i64 (nW (ndF N ix)), .int .i64 (nA (ndF N ix)), .int .i64 (nB (ndF N ix)), .int .i64 (nC (ndF N ix)), .int .u64 (nV (ndF N ix))] := hB9'
 refine zS [(7, .bool (isT N ix))] ?_
 refine op_nil ?_
 refine W_seq ?_
 refine zF [(0, .pointer (some ⟨p, 0, none⟩)), (1, .int .i64 ix), (4, .map none), (5, .map (some w.heap.size)), (7, .bool (isT N ix))] fun ρ => ?_
 refine zR ?_
 refine zS [(15, .bool (isT N ix))] ?_
 refine zO (isT N ix) (fun hc15 => ?_) (fun hc15 => ?_)
 ·
  replace hc15 : 0 ≤ ix ∧ ix < (N.length : Int) := (of_decide_eq_true hc15)
  refine zR ?_
  refine zS [(16, .pointer (some ⟨p, 0, none⟩)), (17, .int .i64 ix), (18, .map (some w.heap.size))] ?_
  obtain ⟨id, hix⟩ : ∃ id : Nat, ix = (id : Int) := ⟨ix.toNat, by omega⟩
  refine st (by rfl) (S_call (args := [.pointer (some ⟨p, 0, none⟩), .int .i64 ix, .map (some w.heap.size), .func (.func 101) #[] #[]]) (by kernel_rfl) ((by rw [hix]; exact once_ok F p most N W (w.heap.size) id _ hL hN hB (by omega) hM0 (fun e => by have := hltF _ e; omega))) ?_)
  rintro vq w16 ⟨hd, hhd, hM, hTo17⟩
  have hT0 := (hT0).then hTo17 (fun c e => by have : c = w.heap.size := e; omega)
  have hL := hL.tchS hTo17 (fun c e q => by have : c = w.heap.size := e; have := hltF _ q; omega)
  have hB9 := hB9.tch hTo17 (fun e => hM0.ne hB9 (Eq.symm e))
  refine op_nil ?_
  refine zQ ?_
  refine zS [(20, .map (some w.heap.size)), (4, .map (some w.heap.size))] ?_
  refine op_nil ?_
  refine W_ret ?_
  exact ⟨_, Res_of (v := .map (some w.heap.size)) (by kernel_rfl), ⟨w.heap.size, _, rfl, hM, .inl ⟨by unfold isT; exact decide_eq_true (by omega), _, _, id, by omega, hhd, rfl, rfl⟩, hT0⟩⟩
 ·
  replace hc15 : ¬ (0 ≤ ix ∧ ix < (N.length : Int)) := (of_decide_eq_false hc15)
  refine W_skip ?_
  refine zQ ?_
  refine zS [(20, .map (some w.heap.size)), (4, .map (some w.heap.size))] ?_
  refine op_nil ?_
  refine W_ret ?_
  exact ⟨_, Res_of (v := .map (some w.heap.size)) (by kernel_rfl), ⟨w.heap.size, _, rfl, hM0, .inr ⟨by unfold isT; exact decide_eq_false (by omega), fun _ _ e => e⟩, hT0⟩⟩

set_option maxRecDepth 100000 in
theorem size_ok (F : Nat → Prop) (p : Nat) (most : Int) (N : List Nd) (W : Value → Value → Prop) (ix : Int) (w : World) (hL : TLow F w p most N W) (hN : N.length ≤ 65536) (hB : TB N) : Ret Try.prog 49 [.pointer (some ⟨p, 0, none⟩), .int .i64 ix] w fun v w' => ∃ m : Nat, v = .int .i64 ((m : Nat) : Int) ∧ ((m : Int) = 0 ↔ isT N ix = false) ∧ Tch N0 w w' := by
 refine enter Try.func49 rfl rfl ?_
 refine zQ ?_
 refine zS [(4, .int .i64 0)] ?_
 refine op_nil ?_
 refine zQ ?_
 refine zS [(5, .pointer (some ⟨p, 0, none⟩)), (6, .int .i64 ix)] ?_
 refine zC (below_ok F p most N W ix _ hL hN hB) ?_
 rintro _ w1 ⟨mb, R, rfl, hM, hR, hT2⟩
 have hT0 := hT2
 have hL := hL.tch0 hT2
 refine st (by rfl) ?_
 obtain ⟨m, hm, hm1, hm2⟩ := R_lenM (P := Try.prog) 3 32 (by kernel_rfl) (by kernel_rfl) hM
 refine S_val hm ?_
 refine zS [(4, .int .i64 ((m : Nat) : Int))] ?_
 refine op_nil ?_
 refine W_ret ?_
 exact ⟨_, Res_of (v := .int .i64 ((m : Nat) : Int)) (by kernel_rfl), ⟨m, rfl, by rcases hR with ⟨q, r⟩ | ⟨q, r⟩; (have := hm1 r; rw [q]; constructor; (intro h; omega); intro h; cases h); (have := hm2 r; rw [q]; constructor; (intro _; rfl); intro _; omega), hT0⟩⟩

end Go.Proofs.YtlbadnpgmkobdaaV

set_option linter.unusedVariables false
set_option linter.unusedSimpArgs false
namespace Go.Proofs.YtlbadnpgmkobdaaV
open Go Go.RowKit Go.Proofs

theorem mask_okN (x : Nat) (w : World) (h : x ≤ 64) : Ret Try.prog 56 [.int .i64 ((x : Nat) : Int)] w fun v w' => v = .int .u64 ((pw x - 1 : Nat) : Int) ∧ Tch N0 w w' := by
 rw [← mask_nat h]; exact mask_ok _ w

end Go.Proofs.YtlbadnpgmkobdaaV

set_option linter.unusedVariables false
set_option linter.unusedSimpArgs false
namespace Go.Proofs.YtlbadnpgmkobdaaV
open Go Go.RowKit Go.Proofs

def lenTab : ByteArray := ⟨#[0, 1, 2, 2, 3, 3, 3, 3, 4, 4, 4, 4, 4, 4, 4, 4, 5, 5, 5, 5, 5, 5, 5, 5, 5, 5, 5, 5, 5, 5, 5, 5, 6, 6, 6, 6, 6, 6, 6, 6, 6, 6, 6, 6, 6, 6, 6, 6, 6, 6, 6, 6, 6, 6, 6, 6, 6, 6, 6, 6, 6, 6, 6, 6, 7, 7, 7, 7, 7, 7, 7, 7, 7, 7, 7, 7, 7, 7, 7, 7, 7, 7, 7, 7, 7, 7, 7, 7, 7, 7, 7, 7, 7, 7, 7, 7, 7, 7, 7, 7, 7, 7, 7, 7, 7, 7, 7, 7, 7, 7, 7, 7, 7, 7, 7, 7, 7, 7, 7, 7, 7, 7, 7, 7, 7, 7, 7, 7, 8, 8, 8, 8, 8, 8, 8, 8, 8, 8, 8, 8, 8, 8, 8, 8, 8, 8, 8, 8, 8, 8, 8, 8, 8, 8, 8, 8, 8, 8, 8, 8, 8, 8, 8, 8, 8, 8, 8, 8, 8, 8, 8, 8, 8, 8, 8, 8, 8, 8, 8, 8, 8, 8, 8, 8, 8, 8, 8, 8, 8, 8, 8, 8, 8, 8, 8, 8, 8, 8, 8, 8, 8, 8, 8, 8, 8, 8, 8, 8, 8, 8, 8, 8, 8, 8, 8, 8, 8, 8, 8, 8, 8, 8, 8, 8, 8, 8, 8, 8, 8, 8, 8, 8, 8, 8, 8, 8, 8, 8, 8, 8, 8, 8, 8, 8, 8, 8, 8, 8, 8, 8, 8, 8, 8, 8, 8, 8]⟩
theorem lenTab_all : (List.range 256).all (fun n => lenTab[n]? == some (UInt8.ofNat (bl n)) && decide ((UInt8.ofNat (bl n)).toNat = bl n)) = true := by kernel_rfl
theorem lenTab_at {n : Nat} (h : n < 256) : ∃ b : UInt8, lenTab[n]? = some b ∧ b.toNat = bl n := by
 have := List.all_eq_true.1 lenTab_all n (List.mem_range.2 h)
 simp only [Bool.and_eq_true, beq_iff_eq, decide_eq_true_eq] at this
 exact ⟨_, this.1, this.2⟩
section
variable {ρ : Env} {w : World}
theorem R_lenTab {d : Option Tmp} {y x : Operand} {ty : TypeId} {pos : String} {af : Array Edge} {g : Option (Nat × Bool)} (n : Nat) (hy : evR ρ y = .string lenTab) (hx : evR ρ x = .int .u8 ((n : Nat) : Int)) (h : n < 256) :
  (execOp (evR ρ) ⟨d, .index 9 y x, ty, pos, af, g⟩).run Try.prog w = .ok (.value (.int .u8 ((bl n : Nat) : Int))) w := by
 obtain ⟨b, h1, h2⟩ := lenTab_at h
 simp only [execOp, hx, hy]
 simp [Instr.index, asIntOf, run_underlying Try.underlying9, h1, h2]
theorem keyT113 : Try.prog.keyTypeAt 3 113 = true := by kernel_rfl
theorem tiled113 : Try.prog.tiled 3 113 = true := by kernel_rfl
theorem cells113 : Try.prog.cellsOf 113 = 2 := by kernel_rfl
theorem keyT113' : Try.prog.keyType 113 = true := by kernel_rfl
theorem key_law113 : Go.Maps.Keyed Try.prog 113 := .of_law (Go.deep_law (m := 3) (by omega) keyT113 tiled113 (by rw [Try.underlying113]))
set_option maxRecDepth 100000 in
theorem key_sp {x : K} (h1 : x.1 < 18446744073709551616) (h2 : x.2 < 18446744073709551616) : ∃ l, keyOf Try.prog 113 (kV x) = some l := by
 have k0 := wf_u64 (x := ((x.1 : Nat) : Int)) (by unfold u64; omega)
 have k1 := wf_u64 (x := ((x.2 : Nat) : Int)) (by unfold u64; omega)
 obtain ⟨m, hm⟩ : ∃ m, Try.prog.types.size = m + 1 := ⟨_, rfl⟩
 have hf : (kV x).formed Try.prog 113 = true := by
  unfold kV Value.formed
  rw [Try.underlying113]
  simp [cells113]
 unfold keyOf
 rw [Try.underlying113]
 simp only [keyT113', hf, Bool.and_self, if_true, hm]
 unfold Program.keyLits
 rw [Try.underlying113]
 simp [kV, cells113, cells30, Value.cells, lits30, k0, k1]
theorem kV_inj {x y : K} (h : kV x = kV y) : x = y := by
 unfold kV at h
 injection h with h
 have h2 := congrArg Array.toList h
 simp only [List.cons.injEq, Value.int.injEq, true_and, and_true] at h2
 exact Prod.ext (by omega) (by omega)
theorem eqg113 : Try.prog.eqGuardType Try.prog.depth 113 = false := by kernel_rfl
set_option maxRecDepth 100000 in
theorem equal_sp (w : World) {x y : K} (h1 : x.1 < 18446744073709551616) (h2 : x.2 < 18446744073709551616) (h3 : y.1 < 18446744073709551616) (h4 : y.2 < 18446744073709551616) : (Op.equal 113 (kV x) (kV y)).run Try.prog w = .ok (decide (x = y)) w := by
 obtain ⟨l1, q1⟩ := key_sp h1 h2
 obtain ⟨l2, q2⟩ := key_sp h3 h4
 obtain ⟨r, hr, hi⟩ := Go.run_equal_deep w (m := 3) (by omega) keyT113 (by rw [Try.underlying113]) q1 q2
 rw [hr]
 congr 1
 have : r = true ↔ x = y := hi.trans ⟨fun e => kV_inj (key_law113.inj q1 (e ▸ q2)), fun e => by subst e; rw [q1] at q2; injection q2⟩
 cases r <;> simp_all
set_option maxRecDepth 100000 in
theorem R_eqSp {d : Option Tmp} {u : TypeId} {x y : Operand} {ty : TypeId} {pos : String} {af : Array Edge} {g : Option (Nat × Bool)} (a b : K) (hx : evR ρ x = kV a) (hy : evR ρ y = kV b) (h1 : a.1 < 18446744073709551616) (h2 : a.2 < 18446744073709551616) (h3 : b.1 < 18446744073709551616) (h4 : b.2 < 18446744073709551616) :
  (execOp (evR ρ) ⟨d, .binOp .eql 113 x y u, ty, pos, af, g⟩).run Try.prog w = .ok (.value (.bool (decide (a = b)))) w := by
 have e := equal_sp w h1 h2 h3 h4
 simp only [execOp, hx, hy]
 obtain ⟨c1, q1⟩ : ∃ c, kV a = .agg c := ⟨_, rfl⟩
 obtain ⟨c2, q2⟩ : ∃ c, kV b = .agg c := ⟨_, rfl⟩
 rw [q1, q2] at e ⊢
 simp [eqGuard, run_underlying Try.underlying113, eqg113, binOp, e]
end
theorem min_u (a b : Nat) : (if ((b : Nat) : Int) < ((a : Nat) : Int) then ((b : Nat) : Int) else ((a : Nat) : Int)) = ((min a b : Nat) : Int) := by split <;> omega
theorem max_u (a b : Nat) : (if ((a : Nat) : Int) < ((b : Nat) : Int) then ((b : Nat) : Int) else ((a : Nat) : Int)) = ((max a b : Nat) : Int) := by split <;> omega
theorem min_lt64 {a b : Nat} (h : a < 18446744073709551616) : min a b < 18446744073709551616 := by omega
theorem max_lt64 {a b : Nat} (h : a < 18446744073709551616) (h2 : b < 18446744073709551616) : max a b < 18446744073709551616 := by omega

set_option maxRecDepth 100000 in
theorem mul64_ok (x y : Nat) (w : World) (hx : x < 18446744073709551616) (hy : y < 18446744073709551616) : Ret Try.prog 109 [.int .u64 ((x : Nat) : Int), .int .u64 ((y : Nat) : Int)] w fun v w' => v = .tuple #[.int .u64 ((x * y / 18446744073709551616 : Nat) : Int), .int .u64 ((x * y % 18446744073709551616 : Nat) : Int)] ∧ Tch N0 w w' := by
 refine enter Try.func109 rfl rfl ?_
 refine zQ ?_
 refine zS [(4, .int .u64 0), (5, .int .u64 0)] ?_
 refine op_nil ?_
 refine zQ ?_
 refine zS [(14, .int .u64 ((x : Nat) : Int)), (15, .int .u64 (IntKind.u64.wrap (BitVec.ofInt 64 ((x : Nat) : Int) &&& BitVec.ofInt 64 4294967295).toNat))] ?_
 rw [show IntKind.u64.wrap (BitVec.ofInt 64 ((x : Nat) : Int) &&& BitVec.ofInt 64 4294967295).toNat = ((x &&& 4294967295 : Nat) : Int) from and_u x 4294967295 hx (by omega)]
 have hu1 : x &&& 4294967295 < 18446744073709551616 := and_lt hx
 refine zS [(6, .int .u64 ((x &&& 4294967295 : Nat) : Int))] ?_
 refine op_nil ?_
 refine zQ ?_
 refine zS [(16, .int .u64 ((x : Nat) : Int))] ?_
 refine stv (v := .int .u64 ((x / pw 32 : Nat) : Int)) (by rfl) (R_shrP (k2 := .u64) x 32 (by kernel_rfl) (by kernel_rfl) (by omega)) ?_
 have hu2 : x / pw 32 < 18446744073709551616 := div_lt64 hx
 refine zS [(7, .int .u64 ((x / pw 32 : Nat) : Int))] ?_
 refine op_nil ?_
 refine W_seq ?_
 refine zF [(0, .int .u64 ((x : Nat) : Int)), (1, .int .u64 ((y : Nat) : Int)), (4, .int .u64 0), (5, .int .u64 0), (6, .int .u64 ((x &&& 4294967295 : Nat) : Int)), (7, .int .u64 ((x / pw 32 : Nat) : Int))] fun ρ => ?_
 refine zR ?_
 refine zS [(18, .int .u64 ((y : Nat) : Int)), (19, .int .u64 (IntKind.u64.wrap (BitVec.ofInt 64 ((y : Nat) : Int) &&& BitVec.ofInt 64 4294967295).toNat))] ?_
 rw [show IntKind.u64.wrap (BitVec.ofInt 64 ((y : Nat) : Int) &&& BitVec.ofInt 64 4294967295).toNat = ((y &&& 4294967295 : Nat) : Int) from and_u y 4294967295 hy (by omega)]
 have hu3 : y &&& 4294967295 < 18446744073709551616 := and_lt hy
 refine zS [(8, .int .u64 ((y &&& 4294967295 : Nat) : Int))] ?_
 refine op_nil ?_
 refine zQ ?_
 refine zS [(20, .int .u64 ((y : Nat) : Int))] ?_
 refine stv (v := .int .u64 ((y / pw 32 : Nat) : Int)) (by rfl) (R_shrP (k2 := .u64) y 32 (by kernel_rfl) (by kernel_rfl) (by omega)) ?_
 have hu4 : y / pw 32 < 18446744073709551616 := div_lt64 hy
 refine zS [(9, .int .u64 ((y / pw 32 : Nat) : Int))] ?_
 refine op_nil ?_
 refine zQ ?_
 refine zS [(22, .int .u64 ((x &&& 4294967295 : Nat) : Int)), (23, .int .u64 ((y &&& 4294967295 : Nat) : Int)), (24, .int .u64 (IntKind.u64.wrap (((x &&& 4294967295 : Nat) : Int) * ((y &&& 4294967295 : Nat) : Int))))] ?_
 rw [show IntKind.u64.wrap (((x &&& 4294967295 : Nat) : Int) * ((y &&& 4294967295 : Nat) : Int)) = (((x &&& 4294967295) * (y &&& 4294967295) % 18446744073709551616 : Nat) : Int) from u64_mul (x &&& 4294967295) (y &&& 4294967295)]
 have hu5 : (x &&& 4294967295) * (y &&& 4294967295) % 18446744073709551616 < 18446744073709551616 := mod_lt64 _
 refine zS [(10, .int .u64 (((x &&& 4294967295) * (y &&& 4294967295) % 18446744073709551616 : Nat) : Int))] ?_
 refine op_nil ?_
 refine W_seq ?_
 refine zF [(0, .int .u64 ((x : Nat) : Int)), (1, .int .u64 ((y : Nat) : Int)), (4, .int .u64 0), (5, .int .u64 0), (6, .int .u64 ((x &&& 4294967295 : Nat) : Int)), (7, .int .u64 ((x / pw 32 : Nat) : Int)), (8, .int .u64 ((y &&& 4294967295 : Nat) : Int)), (9, .int .u64 ((y / pw 32 : Nat) : Int)), (10, .int .u64 (((x &&& 4294967295) * (y &&& 4294967295) % 18446744073709551616 : Nat) : Int))] fun ρ => ?_
 refine zR ?_
 refine zS [(25, .int .u64 ((x / pw 32 : Nat) : Int)), (26, .int .u64 ((y &&& 4294967295 : Nat) : Int)), (27, .int .u64 (IntKind.u64.wrap (((x / pw 32 : Nat) : Int) * ((y &&& 4294967295 : Nat) : Int))))] ?_
 rw [show IntKind.u64.wrap (((x / pw 32 : Nat) : Int) * ((y &&& 4294967295 : Nat) : Int)) = (((x / pw 32) * (y &&& 4294967295) % 18446744073709551616 : Nat) : Int) from u64_mul (x / pw 32) (y &&& 4294967295)]
 have hu6 : (x / pw 32) * (y &&& 4294967295) % 18446744073709551616 < 18446744073709551616 := mod_lt64 _
 refine zS [(28, .int .u64 (((x &&& 4294967295) * (y &&& 4294967295) % 18446744073709551616 : Nat) : Int))] ?_
 refine stv (v := .int .u64 ((((x &&& 4294967295) * (y &&& 4294967295) % 18446744073709551616) / pw 32 : Nat) : Int)) (by rfl) (R_shrP (k2 := .u64) ((x &&& 4294967295) * (y &&& 4294967295) % 18446744073709551616) 32 (by kernel_rfl) (by kernel_rfl) (by omega)) ?_
 have hu7 : ((x &&& 4294967295) * (y &&& 4294967295) % 18446744073709551616) / pw 32 < 18446744073709551616 := div_lt64 hu5
 refine zS [(30, .int .u64 (IntKind.u64.wrap ((((x / pw 32) * (y &&& 4294967295) % 18446744073709551616 : Nat) : Int) + ((((x &&& 4294967295) * (y &&& 4294967295) % 18446744073709551616) / pw 32 : Nat) : Int))))] ?_
 rw [show IntKind.u64.wrap ((((x / pw 32) * (y &&& 4294967295) % 18446744073709551616 : Nat) : Int) + ((((x &&& 4294967295) * (y &&& 4294967295) % 18446744073709551616) / pw 32 : Nat) : Int)) = (((((x / pw 32) * (y &&& 4294967295) % 18446744073709551616) + (((x &&& 4294967295) * (y &&& 4294967295) % 18446744073709551616) / pw 32)) % 18446744073709551616 : Nat) : Int) from u64_add ((x / pw 32) * (y &&& 4294967295) % 18446744073709551616) (((x &&& 4294967295) * (y &&& 4294967295) % 18446744073709551616) / pw 32)]
 have hu8 : (((x / pw 32) * (y &&& 4294967295) % 18446744073709551616) + (((x &&& 4294967295) * (y &&& 4294967295) % 18446744073709551616) / pw 32)) % 18446744073709551616 < 18446744073709551616 := mod_lt64 _
 refine zS [(11, .int .u64 (((((x / pw 32) * (y &&& 4294967295) % 18446744073709551616) + (((x &&& 4294967295) * (y &&& 4294967295) % 18446744073709551616) / pw 32)) % 18446744073709551616 : Nat) : Int))] ?_
 refine op_nil ?_
 refine zQ ?_
 refine zS [(31, .int .u64 (((((x / pw 32) * (y &&& 4294967295) % 18446744073709551616) + (((x &&& 4294967295) * (y &&& 4294967295) % 18446744073709551616) / pw 32)) % 18446744073709551616 : Nat) : Int)), (32, .int .u64 (IntKind.u64.wrap (BitVec.ofInt 64 (((((x / pw 32) * (y &&& 4294967295) % 18446744073709551616) + (((x &&& 4294967295) * (y &&& 4294967295) % 18446744073709551616) / pw 32)) % 18446744073709551616 : Nat) : Int) &&& BitVec.ofInt 64 4294967295).toNat))] ?_
 rw [show IntKind.u64.wrap (BitVec.ofInt 64 (((((x / pw 32) * (y &&& 4294967295) % 18446744073709551616) + (((x &&& 4294967295) * (y &&& 4294967295) % 18446744073709551616) / pw 32)) % 18446744073709551616 : Nat) : Int) &&& BitVec.ofInt 64 4294967295).toNat = ((((((x / pw 32) * (y &&& 4294967295) % 18446744073709551616) + (((x &&& 4294967295) * (y &&& 4294967295) % 18446744073709551616) / pw 32)) % 18446744073709551616) &&& 4294967295 : Nat) : Int) from and_u ((((x / pw 32) * (y &&& 4294967295) % 18446744073709551616) + (((x &&& 4294967295) * (y &&& 4294967295) % 18446744073709551616) / pw 32)) % 18446744073709551616) 4294967295 hu8 (by omega)]
 have hu9 : ((((x / pw 32) * (y &&& 4294967295) % 18446744073709551616) + (((x &&& 4294967295) * (y &&& 4294967295) % 18446744073709551616) / pw 32)) % 18446744073709551616) &&& 4294967295 < 18446744073709551616 := and_lt hu8
 refine zS [(12, .int .u64 ((((((x / pw 32) * (y &&& 4294967295) % 18446744073709551616) + (((x &&& 4294967295) * (y &&& 4294967295) % 18446744073709551616) / pw 32)) % 18446744073709551616) &&& 4294967295 : Nat) : Int))] ?_
 refine op_nil ?_
 refine W_seq ?_
 refine zF [(0, .int .u64 ((x : Nat) : Int)), (1, .int .u64 ((y : Nat) : Int)), (4, .int .u64 0), (5, .int .u64 0), (6, .int .u64 ((x &&& 4294967295 : Nat) : Int)), (7, .int .u64 ((x / pw 32 : Nat) : Int)), (8, .int .u64 ((y &&& 4294967295 : Nat) : Int)), (9, .int .u64 ((y / pw 32 : Nat) : Int)), (10, .int .u64 (((x &&& 4294967295) * (y &&& 4294967295) % 18446744073709551616 : Nat) : Int)), (11, .int .u64 (((((x / pw 32) * (y &&& 4294967295) % 18446744073709551616) + (((x &&& 4294967295) * (y &&& 4294967295) % 18446744073709551616) / pw 32)) % 18446744073709551616 : Nat) : Int)), (12, .int .u64 ((((((x / pw 32) * (y &&& 4294967295) % 18446744073709551616) + (((x &&& 4294967295) * (y &&& 4294967295) % 18446744073709551616) / pw 32)) % 18446744073709551616) &&& 4294967295 : Nat) : Int))] fun ρ => ?_
 refine zR ?_
 refine zS [(33, .int .u64 (((((x / pw 32) * (y &&& 4294967295) % 18446744073709551616) + (((x &&& 4294967295) * (y &&& 4294967295) % 18446744073709551616) / pw 32)) % 18446744073709551616 : Nat) : Int))] ?_
 refine stv (v := .int .u64 ((((((x / pw 32) * (y &&& 4294967295) % 18446744073709551616) + (((x &&& 4294967295) * (y &&& 4294967295) % 18446744073709551616) / pw 32)) % 18446744073709551616) / pw 32 : Nat) : Int)) (by rfl) (R_shrP (k2 := .u64) ((((x / pw 32) * (y &&& 4294967295) % 18446744073709551616) + (((x &&& 4294967295) * (y &&& 4294967295) % 18446744073709551616) / pw 32)) % 18446744073709551616) 32 (by kernel_rfl) (by kernel_rfl) (by omega)) ?_
 have hu10 : ((((x / pw 32) * (y &&& 4294967295) % 18446744073709551616) + (((x &&& 4294967295) * (y &&& 4294967295) % 18446744073709551616) / pw 32)) % 18446744073709551616) / pw 32 < 18446744073709551616 := div_lt64 hu8
 refine zS [(13, .int .u64 ((((((x / pw 32) * (y &&& 4294967295) % 18446744073709551616) + (((x &&& 4294967295) * (y &&& 4294967295) % 18446744073709551616) / pw 32)) % 18446744073709551616) / pw 32 : Nat) : Int))] ?_
 refine op_nil ?_
 refine zQ ?_
 refine zS [(35, .int .u64 ((((((x / pw 32) * (y &&& 4294967295) % 18446744073709551616) + (((x &&& 4294967295) * (y &&& 4294967295) % 18446744073709551616) / pw 32)) % 18446744073709551616) &&& 4294967295 : Nat) : Int)), (36, .int .u64 ((x &&& 4294967295 : Nat) : Int)), (37, .int .u64 ((y / pw 32 : Nat) : Int)), (38, .int .u64 (IntKind.u64.wrap (((x &&& 4294967295 : Nat) : Int) * ((y / pw 32 : Nat) : Int))))] ?_
 rw [show IntKind.u64.wrap (((x &&& 4294967295 : Nat) : Int) * ((y / pw 32 : Nat) : Int)) = (((x &&& 4294967295) * (y / pw 32) % 18446744073709551616 : Nat) : Int) from u64_mul (x &&& 4294967295) (y / pw 32)]
 have hu11 : (x &&& 4294967295) * (y / pw 32) % 18446744073709551616 < 18446744073709551616 := mod_lt64 _
 refine zS [(39, .int .u64 (IntKind.u64.wrap (((((((x / pw 32) * (y &&& 4294967295) % 18446744073709551616) + (((x &&& 4294967295) * (y &&& 4294967295) % 18446744073709551616) / pw 32)) % 18446744073709551616) &&& 4294967295 : Nat) : Int) + (((x &&& 4294967295) * (y / pw 32) % 18446744073709551616 : Nat) : Int))))] ?_
 rw [show IntKind.u64.wrap (((((((x / pw 32) * (y &&& 4294967295) % 18446744073709551616) + (((x &&& 4294967295) * (y &&& 4294967295) % 18446744073709551616) / pw 32)) % 18446744073709551616) &&& 4294967295 : Nat) : Int) + (((x &&& 4294967295) * (y / pw 32) % 18446744073709551616 : Nat) : Int)) = ((((((((x / pw 32) * (y &&& 4294967295) % 18446744073709551616) + (((x &&& 4294967295) * (y &&& 4294967295) % 18446744073709551616) / pw 32)) % 18446744073709551616) &&& 4294967295) + ((x &&& 4294967295) * (y / pw 32) % 18446744073709551616)) % 18446744073709551616 : Nat) : Int) from u64_add (((((x / pw 32) * (y &&& 4294967295) % 18446744073709551616) + (((x &&& 4294967295) * (y &&& 4294967295) % 18446744073709551616) / pw 32)) % 18446744073709551616) &&& 4294967295) ((x &&& 4294967295) * (y / pw 32) % 18446744073709551616)]
 have hu12 : ((((((x / pw 32) * (y &&& 4294967295) % 18446744073709551616) + (((x &&& 4294967295) * (y &&& 4294967295) % 18446744073709551616) / pw 32)) % 18446744073709551616) &&& 4294967295) + ((x &&& 4294967295) * (y / pw 32) % 18446744073709551616)) % 18446744073709551616 < 18446744073709551616 := mod_lt64 _
 refine zS [(12, .int .u64 ((((((((x / pw 32) * (y &&& 4294967295) % 18446744073709551616) + (((x &&& 4294967295) * (y &&& 4294967295) % 18446744073709551616) / pw 32)) % 18446744073709551616) &&& 4294967295) + ((x &&& 4294967295) * (y / pw 32) % 18446744073709551616)) % 18446744073709551616 : Nat) : Int))] ?_
 refine op_nil ?_
 refine W_seq ?_
 refine zF [(0, .int .u64 ((x : Nat) : Int)), (1, .int .u64 ((y : Nat) : Int)), (4, .int .u64 0), (5, .int .u64 0), (6, .int .u64 ((x &&& 4294967295 : Nat) : Int)), (7, .int .u64 ((x / pw 32 : Nat) : Int)), (8, .int .u64 ((y &&& 4294967295 : Nat) : Int)), (9, .int .u64 ((y / pw 32 : Nat) : Int)), (10, .int .u64 (((x &&& 4294967295) * (y &&& 4294967295) % 18446744073709551616 : Nat) : Int)), (11, .int .u64 (((((x / pw 32) * (y &&& 4294967295) % 18446744073709551616) + (((x &&& 4294967295) * (y &&& 4294967295) % 18446744073709551616) / pw 32)) % 18446744073709551616 : Nat) : Int)), (12, .int .u64 ((((((((x / pw 32) * (y &&& 4294967295) % 18446744073709551616) + (((x &&& 4294967295) * (y &&& 4294967295) % 18446744073709551616) / pw 32)) % 18446744073709551616) &&& 4294967295) + ((x &&& 4294967295) * (y / pw 32) % 18446744073709551616)) % 18446744073709551616 : Nat) : Int)), (13, .int .u64 ((((((x / pw 32) * (y &&& 4294967295) % 18446744073709551616) + (((x &&& 4294967295) * (y &&& 4294967295) % 18446744073709551616) / pw 32)) % 18446744073709551616) / pw 32 : Nat) : Int))] fun ρ => ?_
 refine zR ?_
 refine zS [(40, .int .u64 ((x / pw 32 : Nat) : Int)), (41, .int .u64 ((y / pw 32 : Nat) : Int)), (42, .int .u64 (IntKind.u64.wrap (((x / pw 32 : Nat) : Int) * ((y / pw 32 : Nat) : Int))))] ?_
 rw [show IntKind.u64.wrap (((x / pw 32 : Nat) : Int) * ((y / pw 32 : Nat) : Int)) = (((x / pw 32) * (y / pw 32) % 18446744073709551616 : Nat) : Int) from u64_mul (x / pw 32) (y / pw 32)]
 have hu13 : (x / pw 32) * (y / pw 32) % 18446744073709551616 < 18446744073709551616 := mod_lt64 _
 refine zS [(43, .int .u64 ((((((x / pw 32) * (y &&& 4294967295) % 18446744073709551616) + (((x &&& 4294967295) * (y &&& 4294967295) % 18446744073709551616) / pw 32)) % 18446744073709551616) / pw 32 : Nat) : Int)), (44, .int .u64 (IntKind.u64.wrap ((((x / pw 32) * (y / pw 32) % 18446744073709551616 : Nat) : Int) + ((((((x / pw 32) * (y &&& 4294967295) % 18446744073709551616) + (((x &&& 4294967295) * (y &&& 4294967295) % 18446744073709551616) / pw 32)) % 18446744073709551616) / pw 32 : Nat) : Int))))] ?_
 rw [show IntKind.u64.wrap ((((x / pw 32) * (y / pw 32) % 18446744073709551616 : Nat) : Int) + ((((((x / pw 32) * (y &&& 4294967295) % 18446744073709551616) + (((x &&& 4294967295) * (y &&& 4294967295) % 18446744073709551616) / pw 32)) % 18446744073709551616) / pw 32 : Nat) : Int)) = (((((x / pw 32) * (y / pw 32) % 18446744073709551616) + (((((x / pw 32) * (y &&& 4294967295) % 18446744073709551616) + (((x &&& 4294967295) * (y &&& 4294967295) % 18446744073709551616) / pw 32)) % 18446744073709551616) / pw 32)) % 18446744073709551616 : Nat) : Int) from u64_add ((x / pw 32) * (y / pw 32) % 18446744073709551616) (((((x / pw 32) * (y &&& 4294967295) % 18446744073709551616) + (((x &&& 4294967295) * (y &&& 4294967295) % 18446744073709551616) / pw 32)) % 18446744073709551616) / pw 32)]
 have hu14 : (((x / pw 32) * (y / pw 32) % 18446744073709551616) + (((((x / pw 32) * (y &&& 4294967295) % 18446744073709551616) + (((x &&& 4294967295) * (y &&& 4294967295) % 18446744073709551616) / pw 32)) % 18446744073709551616) / pw 32)) % 18446744073709551616 < 18446744073709551616 := mod_lt64 _
 refine zS [(45, .int .u64 ((((((((x / pw 32) * (y &&& 4294967295) % 18446744073709551616) + (((x &&& 4294967295) * (y &&& 4294967295) % 18446744073709551616) / pw 32)) % 18446744073709551616) &&& 4294967295) + ((x &&& 4294967295) * (y / pw 32) % 18446744073709551616)) % 18446744073709551616 : Nat) : Int))] ?_
 refine stv (v := .int .u64 (((((((((x / pw 32) * (y &&& 4294967295) % 18446744073709551616) + (((x &&& 4294967295) * (y &&& 4294967295) % 18446744073709551616) / pw 32)) % 18446744073709551616) &&& 4294967295) + ((x &&& 4294967295) * (y / pw 32) % 18446744073709551616)) % 18446744073709551616) / pw 32 : Nat) : Int)) (by rfl) (R_shrP (k2 := .u64) (((((((x / pw 32) * (y &&& 4294967295) % 18446744073709551616) + (((x &&& 4294967295) * (y &&& 4294967295) % 18446744073709551616) / pw 32)) % 18446744073709551616) &&& 4294967295) + ((x &&& 4294967295) * (y / pw 32) % 18446744073709551616)) % 18446744073709551616) 32 (by kernel_rfl) (by kernel_rfl) (by omega)) ?_
 have hu15 : (((((((x / pw 32) * (y &&& 4294967295) % 18446744073709551616) + (((x &&& 4294967295) * (y &&& 4294967295) % 18446744073709551616) / pw 32)) % 18446744073709551616) &&& 4294967295) + ((x &&& 4294967295) * (y / pw 32) % 18446744073709551616)) % 18446744073709551616) / pw 32 < 18446744073709551616 := div_lt64 hu12
 refine zS [(47, .int .u64 (IntKind.u64.wrap ((((((x / pw 32) * (y / pw 32) % 18446744073709551616) + (((((x / pw 32) * (y &&& 4294967295) % 18446744073709551616) + (((x &&& 4294967295) * (y &&& 4294967295) % 18446744073709551616) / pw 32)) % 18446744073709551616) / pw 32)) % 18446744073709551616 : Nat) : Int) + (((((((((x / pw 32) * (y &&& 4294967295) % 18446744073709551616) + (((x &&& 4294967295) * (y &&& 4294967295) % 18446744073709551616) / pw 32)) % 18446744073709551616) &&& 4294967295) + ((x &&& 4294967295) * (y / pw 32) % 18446744073709551616)) % 18446744073709551616) / pw 32 : Nat) : Int))))] ?_
 rw [show IntKind.u64.wrap ((((((x / pw 32) * (y / pw 32) % 18446744073709551616) + (((((x / pw 32) * (y &&& 4294967295) % 18446744073709551616) + (((x &&& 4294967295) * (y &&& 4294967295) % 18446744073709551616) / pw 32)) % 18446744073709551616) / pw 32)) % 18446744073709551616 : Nat) : Int) + (((((((((x / pw 32) * (y &&& 4294967295) % 18446744073709551616) + (((x &&& 4294967295) * (y &&& 4294967295) % 18446744073709551616) / pw 32)) % 18446744073709551616) &&& 4294967295) + ((x &&& 4294967295) * (y / pw 32) % 18446744073709551616)) % 18446744073709551616) / pw 32 : Nat) : Int)) = (((((((x / pw 32) * (y / pw 32) % 18446744073709551616) + (((((x / pw 32) * (y &&& 4294967295) % 18446744073709551616) + (((x &&& 4294967295) * (y &&& 4294967295) % 18446744073709551616) / pw 32)) % 18446744073709551616) / pw 32)) % 18446744073709551616) + ((((((((x / pw 32) * (y &&& 4294967295) % 18446744073709551616) + (((x &&& 4294967295) * (y &&& 4294967295) % 18446744073709551616) / pw 32)) % 18446744073709551616) &&& 4294967295) + ((x &&& 4294967295) * (y / pw 32) % 18446744073709551616)) % 18446744073709551616) / pw 32)) % 18446744073709551616 : Nat) : Int) from u64_add ((((x / pw 32) * (y / pw 32) % 18446744073709551616) + (((((x / pw 32) * (y &&& 4294967295) % 18446744073709551616) + (((x &&& 4294967295) * (y &&& 4294967295) % 18446744073709551616) / pw 32)) % 18446744073709551616) / pw 32)) % 18446744073709551616) ((((((((x / pw 32) * (y &&& 4294967295) % 18446744073709551616) + (((x &&& 4294967295) * (y &&& 4294967295) % 18446744073709551616) / pw 32)) % 18446744073709551616) &&& 4294967295) + ((x &&& 4294967295) * (y / pw 32) % 18446744073709551616)) % 18446744073709551616) / pw 32)]
 have hu16 : (((((x / pw 32) * (y / pw 32) % 18446744073709551616) + (((((x / pw 32) * (y &&& 4294967295) % 18446744073709551616) + (((x &&& 4294967295) * (y &&& 4294967295) % 18446744073709551616) / pw 32)) % 18446744073709551616) / pw 32)) % 18446744073709551616) + ((((((((x / pw 32) * (y &&& 4294967295) % 18446744073709551616) + (((x &&& 4294967295) * (y &&& 4294967295) % 18446744073709551616) / pw 32)) % 18446744073709551616) &&& 4294967295) + ((x &&& 4294967295) * (y / pw 32) % 18446744073709551616)) % 18446744073709551616) / pw 32)) % 18446744073709551616 < 18446744073709551616 := mod_lt64 _
 refine zS [(4, .int .u64 (((((((x / pw 32) * (y / pw 32) % 18446744073709551616) + (((((x / pw 32) * (y &&& 4294967295) % 18446744073709551616) + (((x &&& 4294967295) * (y &&& 4294967295) % 18446744073709551616) / pw 32)) % 18446744073709551616) / pw 32)) % 18446744073709551616) + ((((((((x / pw 32) * (y &&& 4294967295) % 18446744073709551616) + (((x &&& 4294967295) * (y &&& 4294967295) % 18446744073709551616) / pw 32)) % 18446744073709551616) &&& 4294967295) + ((x &&& 4294967295) * (y / pw 32) % 18446744073709551616)) % 18446744073709551616) / pw 32)) % 18446744073709551616 : Nat) : Int))] ?_
 refine op_nil ?_
 refine W_seq ?_
 refine zF [(0, .int .u64 ((x : Nat) : Int)), (1, .int .u64 ((y : Nat) : Int)), (4, .int .u64 (((((((x / pw 32) * (y / pw 32) % 18446744073709551616) + (((((x / pw 32) * (y &&& 4294967295) % 18446744073709551616) + (((x &&& 4294967295) * (y &&& 4294967295) % 18446744073709551616) / pw 32)) % 18446744073709551616) / pw 32)) % 18446744073709551616) + ((((((((x / pw 32) * (y &&& 4294967295) % 18446744073709551616) + (((x &&& 4294967295) * (y &&& 4294967295) % 18446744073709551616) / pw 32)) % 18446744073709551616) &&& 4294967295) + ((x &&& 4294967295) * (y / pw 32) % 18446744073709551616)) % 18446744073709551616) / pw 32)) % 18446744073709551616 : Nat) : Int)), (5, .int .u64 0), (6, .int .u64 ((x &&& 4294967295 : Nat) : Int)), (7, .int .u64 ((x / pw 32 : Nat) : Int)), (8, .int .u64 ((y &&& 4294967295 : Nat) : Int)), (9, .int .u64 ((y / pw 32 : Nat) : Int)), (10, .int .u64 (((x &&& 4294967295) * (y &&& 4294967295) % 18446744073709551616 : Nat) : Int)), (11, .int .u64 (((((x / pw 32) * (y &&& 4294967295) % 18446744073709551616) + (((x &&& 4294967295) * (y &&& 4294967295) % 18446744073709551616) / pw 32)) % 18446744073709551616 : Nat) : Int)), (12, .int .u64 ((((((((x / pw 32) * (y &&& 4294967295) % 18446744073709551616) + (((x &&& 4294967295) * (y &&& 4294967295) % 18446744073709551616) / pw 32)) % 18446744073709551616) &&& 4294967295) + ((x &&& 4294967295) * (y / pw 32) % 18446744073709551616)) % 18446744073709551616 : Nat) : Int)), (13, .int .u64 ((((((x / pw 32) * (y &&& 4294967295) % 18446744073709551616) + (((x &&& 4294967295) * (y &&& 4294967295) % 18446744073709551616) / pw 32)) % 18446744073709551616) / pw 32 : Nat) : Int))] fun ρ => ?_
 refine zR ?_
 refine zS [(48, .int .u64 ((x : Nat) : Int)), (49, .int .u64 ((y : Nat) : Int)), (50, .int .u64 (IntKind.u64.wrap (((x : Nat) : Int) * ((y : Nat) : Int))))] ?_
 rw [show IntKind.u64.wrap (((x : Nat) : Int) * ((y : Nat) : Int)) = ((x * y % 18446744073709551616 : Nat) : Int) from u64_mul x y]
 have hu17 : x * y % 18446744073709551616 < 18446744073709551616 := mod_lt64 _
 refine zS [(5, .int .u64 ((x * y % 18446744073709551616 : Nat) : Int))] ?_
 refine op_nil ?_
 refine W_ret ?_
 exact ⟨_, Res_of (v := .tuple #[.int .u64 (((((((x / pw 32) * (y / pw 32) % 18446744073709551616) + (((((x / pw 32) * (y &&& 4294967295) % 18446744073709551616) + (((x &&& 4294967295) * (y &&& 4294967295) % 18446744073709551616) / pw 32)) % 18446744073709551616) / pw 32)) % 18446744073709551616) + ((((((((x / pw 32) * (y &&& 4294967295) % 18446744073709551616) + (((x &&& 4294967295) * (y &&& 4294967295) % 18446744073709551616) / pw 32)) % 18446744073709551616) &&& 4294967295) + ((x &&& 4294967295) * (y / pw 32) % 18446744073709551616)) % 18446744073709551616) / pw 32)) % 18446744073709551616 : Nat) : Int), .int .u64 ((x * y % 18446744073709551616 : Nat) : Int)]) (by kernel_rfl), ⟨by rw [mul_hi hx hy], Tch.refl _ _⟩⟩

set_option maxRecDepth 100000 in
theorem len64_ok (x : Nat) (w : World) (hx : x < 18446744073709551616) : Ret Try.prog 110 [.int .u64 ((x : Nat) : Int)] w fun v w' => v = .int .i64 ((bl x : Nat) : Int) ∧ Tch N0 w w' := by
 have q32 : pw 32 = 4294967296 := rfl
 have q16 : pw 16 = 65536 := rfl
 have q8 : pw 8 = 256 := rfl
 refine enter Try.func110 rfl rfl ?_
 refine zQ ?_
 refine zS [(2, .int .i64 0)] ?_
 refine op_nil ?_
 refine W_seq ?_
 refine zQ ?_
 refine zS [(3, .int .u64 ((x : Nat) : Int)), (4, .bool (decide (((x : Nat) : Int) ≥ 4294967296)))] ?_
 refine zO (decide (((x : Nat) : Int) ≥ 4294967296)) (fun hc1 => ?_) (fun hc1 => ?_)
 ·
  replace hc1 : 4294967296 ≤ ((x : Nat) : Int) := (of_decide_eq_true hc1)
  refine zQ ?_
  refine zS [(5, .int .u64 ((x : Nat) : Int))] ?_
  refine stv (v := .int .u64 ((x / 4294967296 : Nat) : Int)) (by rfl) (R_shrP (k2 := .u64) x 32 (by kernel_rfl) (by kernel_rfl) (by omega)) ?_
  have hu2 : x / 4294967296 < 18446744073709551616 := by omega
  refine zS [(0, .int .u64 ((x / 4294967296 : Nat) : Int))] ?_
  refine op_nil ?_
  refine zR ?_
  refine zS [(2, .int .i64 32)] ?_
  refine op_nil ?_
  refine W_seq ?_
  refine zQ ?_
  refine zS [(7, .int .u64 ((x / 4294967296 : Nat) : Int)), (8, .bool (decide (((x / 4294967296 : Nat) : Int) ≥ 65536)))] ?_
  refine zO (decide (((x / 4294967296 : Nat) : Int) ≥ 65536)) (fun hc3 => ?_) (fun hc3 => ?_)
  ·
   replace hc3 : 65536 ≤ ((x / 4294967296 : Nat) : Int) := (of_decide_eq_true hc3)
   refine W_seq ?_
   refine zF [(0, .int .u64 ((x / 4294967296 : Nat) : Int)), (2, .int .i64 32), (4, .bool (decide (((x : Nat) : Int) ≥ 4294967296))), (8, .bool (decide (((x / 4294967296 : Nat) : Int) ≥ 65536)))] fun ρ => ?_
   refine zR ?_
   refine zS [(9, .int .u64 ((x / 4294967296 : Nat) : Int))] ?_
   refine stv (v := .int .u64 (((x / 4294967296) / 65536 : Nat) : Int)) (by rfl) (R_shrP (k2 := .u64) (x / 4294967296) 16 (by kernel_rfl) (by kernel_rfl) (by omega)) ?_
   have hu4 : (x / 4294967296) / 65536 < 18446744073709551616 := by omega
   refine zS [(0, .int .u64 (((x / 4294967296) / 65536 : Nat) : Int))] ?_
   refine op_nil ?_
   refine zR ?_
   refine zS [(11, .int .i64 32), (12, .int .i64 48), (2, .int .i64 48)] ?_
   refine op_nil ?_
   refine W_seq ?_
   refine zQ ?_
   refine zS [(13, .int .u64 (((x / 4294967296) / 65536 : Nat) : Int)), (14, .bool (decide ((((x / 4294967296) / 65536 : Nat) : Int) ≥ 256)))] ?_
   refine zO (decide ((((x / 4294967296) / 65536 : Nat) : Int) ≥ 256)) (fun hc5 => ?_) (fun hc5 => ?_)
   ·
    replace hc5 : 256 ≤ (((x / 4294967296) / 65536 : Nat) : Int) := (of_decide_eq_true hc5)
    refine W_seq ?_
    refine zF [(0, .int .u64 (((x / 4294967296) / 65536 : Nat) : Int)), (2, .int .i64 48), (4, .bool (decide (((x : Nat) : Int) ≥ 4294967296))), (8, .bool (decide (((x / 4294967296 : Nat) : Int) ≥ 65536))), (14, .bool (decide ((((x / 4294967296) / 65536 : Nat) : Int) ≥ 256)))] fun ρ => ?_
    refine zR ?_
    refine zS [(15, .int .u64 (((x / 4294967296) / 65536 : Nat) : Int))] ?_
    refine stv (v := .int .u64 ((((x / 4294967296) / 65536) / 256 : Nat) : Int)) (by rfl) (R_shrP (k2 := .u64) ((x / 4294967296) / 65536) 8 (by kernel_rfl) (by kernel_rfl) (by omega)) ?_
    have hu6 : ((x / 4294967296) / 65536) / 256 < 18446744073709551616 := by omega
    refine zS [(0, .int .u64 ((((x / 4294967296) / 65536) / 256 : Nat) : Int))] ?_
    refine op_nil ?_
    refine zR ?_
    refine zS [(17, .int .i64 48), (18, .int .i64 56), (2, .int .i64 56)] ?_
    refine op_nil ?_
    refine zQ ?_
    refine zS [(19, .int .i64 56), (20, .int .u64 ((((x / 4294967296) / 65536) / 256 : Nat) : Int)), (21, .int .u8 (IntKind.u8.wrap ((((x / 4294967296) / 65536) / 256 : Nat) : Int)))] ?_
    rw [show IntKind.u8.wrap ((((x / 4294967296) / 65536) / 256 : Nat) : Int) = ((((x / 4294967296) / 65536) / 256 : Nat) : Int) from wrap_u8 (by omega) (by omega)]
    have hX : ((x / 4294967296) / 65536) / 256 < 256 := by omega
    have hbl : bl (((x / 4294967296) / 65536) / 256) ≤ 8 := bl_le64 (n := 8) hX
    refine stv (v := .int .u8 ((bl (((x / 4294967296) / 65536) / 256) : Nat) : Int)) (by rfl) (R_lenTab (((x / 4294967296) / 65536) / 256) (by kernel_rfl) (by kernel_rfl) hX) ?_
    refine zS [(23, .int .i64 (IntKind.i64.wrap ((bl (((x / 4294967296) / 65536) / 256) : Nat) : Int)))] ?_
    rw [show IntKind.i64.wrap ((bl (((x / 4294967296) / 65536) / 256) : Nat) : Int) = ((bl (((x / 4294967296) / 65536) / 256) : Nat) : Int) from wrap_i64 (by omega) (by omega)]
    refine zS [(24, .int .i64 (IntKind.i64.wrap (56 + ((bl (((x / 4294967296) / 65536) / 256) : Nat) : Int))))] ?_
    rw [show IntKind.i64.wrap (56 + ((bl (((x / 4294967296) / 65536) / 256) : Nat) : Int)) = 56 + ((bl (((x / 4294967296) / 65536) / 256) : Nat) : Int) from wrap_i64 (by omega) (by omega)]
    refine zS [(2, .int .i64 (56 + ((bl (((x / 4294967296) / 65536) / 256) : Nat) : Int)))] ?_
    refine op_nil ?_
    refine W_ret ?_
    refine ⟨_, Res_of (v := .int .i64 (56 + ((bl (((x / 4294967296) / 65536) / 256) : Nat) : Int))) (by kernel_rfl), ?_⟩
    have e32 : bl (x / 4294967296) + 32 = bl x := bl_div (x := x) (k := 32) (by have : pw 32 = 4294967296 := rfl; omega)
    have e16 : bl ((x / 4294967296) / 65536) + 16 = bl (x / 4294967296) := bl_div (x := x / 4294967296) (k := 16) (by have : pw 16 = 65536 := rfl; omega)
    have e8 : bl (((x / 4294967296) / 65536) / 256) + 8 = bl ((x / 4294967296) / 65536) := bl_div (x := (x / 4294967296) / 65536) (k := 8) (by have : pw 8 = 256 := rfl; omega)
    exact ⟨congrArg (Value.int .i64) (by omega), Tch.refl _ _⟩
   ·
    replace hc5 : (((x / 4294967296) / 65536 : Nat) : Int) < 256 := (Int.not_le.1 (of_decide_eq_false hc5))
    refine W_skip ?_
    refine W_seq ?_
    refine zF [(0, .int .u64 (((x / 4294967296) / 65536 : Nat) : Int)), (2, .int .i64 48), (4, .bool (decide (((x : Nat) : Int) ≥ 4294967296))), (8, .bool (decide (((x / 4294967296 : Nat) : Int) ≥ 65536))), (14, .bool (decide ((((x / 4294967296) / 65536 : Nat) : Int) ≥ 256)))] fun ρ => ?_
    refine zR ?_
    refine zS [(19, .int .i64 48), (20, .int .u64 (((x / 4294967296) / 65536 : Nat) : Int)), (21, .int .u8 (IntKind.u8.wrap (((x / 4294967296) / 65536 : Nat) : Int)))] ?_
    rw [show IntKind.u8.wrap (((x / 4294967296) / 65536 : Nat) : Int) = (((x / 4294967296) / 65536 : Nat) : Int) from wrap_u8 (by omega) (by omega)]
    have hX : (x / 4294967296) / 65536 < 256 := by omega
    have hbl : bl ((x / 4294967296) / 65536) ≤ 8 := bl_le64 (n := 8) hX
    refine stv (v := .int .u8 ((bl ((x / 4294967296) / 65536) : Nat) : Int)) (by rfl) (R_lenTab ((x / 4294967296) / 65536) (by kernel_rfl) (by kernel_rfl) hX) ?_
    refine zS [(23, .int .i64 (IntKind.i64.wrap ((bl ((x / 4294967296) / 65536) : Nat) : Int)))] ?_
    rw [show IntKind.i64.wrap ((bl ((x / 4294967296) / 65536) : Nat) : Int) = ((bl ((x / 4294967296) / 65536) : Nat) : Int) from wrap_i64 (by omega) (by omega)]
    refine zS [(24, .int .i64 (IntKind.i64.wrap (48 + ((bl ((x / 4294967296) / 65536) : Nat) : Int))))] ?_
    rw [show IntKind.i64.wrap (48 + ((bl ((x / 4294967296) / 65536) : Nat) : Int)) = 48 + ((bl ((x / 4294967296) / 65536) : Nat) : Int) from wrap_i64 (by omega) (by omega)]
    refine zS [(2, .int .i64 (48 + ((bl ((x / 4294967296) / 65536) : Nat) : Int)))] ?_
    refine op_nil ?_
    refine W_ret ?_
    refine ⟨_, Res_of (v := .int .i64 (48 + ((bl ((x / 4294967296) / 65536) : Nat) : Int))) (by kernel_rfl), ?_⟩
    have e32 : bl (x / 4294967296) + 32 = bl x := bl_div (x := x) (k := 32) (by have : pw 32 = 4294967296 := rfl; omega)
    have e16 : bl ((x / 4294967296) / 65536) + 16 = bl (x / 4294967296) := bl_div (x := x / 4294967296) (k := 16) (by have : pw 16 = 65536 := rfl; omega)
    exact ⟨congrArg (Value.int .i64) (by omega), Tch.refl _ _⟩
  ·
   replace hc3 : ((x / 4294967296 : Nat) : Int) < 65536 := (Int.not_le.1 (of_decide_eq_false hc3))
   refine W_skip ?_
   refine W_seq ?_
   refine W_seq ?_
   refine zF [(0, .int .u64 ((x / 4294967296 : Nat) : Int)), (2, .int .i64 32), (4, .bool (decide (((x : Nat) : Int) ≥ 4294967296))), (8, .bool (decide (((x / 4294967296 : Nat) : Int) ≥ 65536)))] fun ρ => ?_
   refine zR ?_
   refine zS [(13, .int .u64 ((x / 4294967296 : Nat) : Int)), (14, .bool (decide (((x / 4294967296 : Nat) : Int) ≥ 256)))] ?_
   refine zO (decide (((x / 4294967296 : Nat) : Int) ≥ 256)) (fun hc7 => ?_) (fun hc7 => ?_)
   ·
    replace hc7 : 256 ≤ ((x / 4294967296 : Nat) : Int) := (of_decide_eq_true hc7)
    refine zQ ?_
    refine zS [(15, .int .u64 ((x / 4294967296 : Nat) : Int))] ?_
    refine stv (v := .int .u64 (((x / 4294967296) / 256 : Nat) : Int)) (by rfl) (R_shrP (k2 := .u64) (x / 4294967296) 8 (by kernel_rfl) (by kernel_rfl) (by omega)) ?_
    have hu8 : (x / 4294967296) / 256 < 18446744073709551616 := by omega
    refine zS [(0, .int .u64 (((x / 4294967296) / 256 : Nat) : Int))] ?_
    refine op_nil ?_
    refine zR ?_
    refine zS [(17, .int .i64 32), (18, .int .i64 40), (2, .int .i64 40)] ?_
    refine op_nil ?_
    refine W_seq ?_
    refine zF [(0, .int .u64 (((x / 4294967296) / 256 : Nat) : Int)), (2, .int .i64 40), (4, .bool (decide (((x : Nat) : Int) ≥ 4294967296))), (8, .bool (decide (((x / 4294967296 : Nat) : Int) ≥ 65536))), (14, .bool (decide (((x / 4294967296 : Nat) : Int) ≥ 256)))] fun ρ => ?_
    refine zR ?_
    refine zS [(19, .int .i64 40), (20, .int .u64 (((x / 4294967296) / 256 : Nat) : Int)), (21, .int .u8 (IntKind.u8.wrap (((x / 4294967296) / 256 : Nat) : Int)))] ?_
    rw [show IntKind.u8.wrap (((x / 4294967296) / 256 : Nat) : Int) = (((x / 4294967296) / 256 : Nat) : Int) from wrap_u8 (by omega) (by omega)]
    have hX : (x / 4294967296) / 256 < 256 := by omega
    have hbl : bl ((x / 4294967296) / 256) ≤ 8 := bl_le64 (n := 8) hX
    refine stv (v := .int .u8 ((bl ((x / 4294967296) / 256) : Nat) : Int)) (by rfl) (R_lenTab ((x / 4294967296) / 256) (by kernel_rfl) (by kernel_rfl) hX) ?_
    refine zS [(23, .int .i64 (IntKind.i64.wrap ((bl ((x / 4294967296) / 256) : Nat) : Int)))] ?_
    rw [show IntKind.i64.wrap ((bl ((x / 4294967296) / 256) : Nat) : Int) = ((bl ((x / 4294967296) / 256) : Nat) : Int) from wrap_i64 (by omega) (by omega)]
    refine zS [(24, .int .i64 (IntKind.i64.wrap (40 + ((bl ((x / 4294967296) / 256) : Nat) : Int))))] ?_
    rw [show IntKind.i64.wrap (40 + ((bl ((x / 4294967296) / 256) : Nat) : Int)) = 40 + ((bl ((x / 4294967296) / 256) : Nat) : Int) from wrap_i64 (by omega) (by omega)]
    refine zS [(2, .int .i64 (40 + ((bl ((x / 4294967296) / 256) : Nat) : Int)))] ?_
    refine op_nil ?_
    refine W_ret ?_
    refine ⟨_, Res_of (v := .int .i64 (40 + ((bl ((x / 4294967296) / 256) : Nat) : Int))) (by kernel_rfl), ?_⟩
    have e32 : bl (x / 4294967296) + 32 = bl x := bl_div (x := x) (k := 32) (by have : pw 32 = 4294967296 := rfl; omega)
    have e8 : bl ((x / 4294967296) / 256) + 8 = bl (x / 4294967296) := bl_div (x := x / 4294967296) (k := 8) (by have : pw 8 = 256 := rfl; omega)
    exact ⟨congrArg (Value.int .i64) (by omega), Tch.refl _ _⟩
   ·
    replace hc7 : ((x / 4294967296 : Nat) : Int) < 256 := (Int.not_le.1 (of_decide_eq_false hc7))
    refine W_skip ?_
    refine zQ ?_
    refine zS [(19, .int .i64 32), (20, .int .u64 ((x / 4294967296 : Nat) : Int)), (21, .int .u8 (IntKind.u8.wrap ((x / 4294967296 : Nat) : Int)))] ?_
    rw [show IntKind.u8.wrap ((x / 4294967296 : Nat) : Int) = ((x / 4294967296 : Nat) : Int) from wrap_u8 (by omega) (by omega)]
    have hX : x / 4294967296 < 256 := by omega
    have hbl : bl (x / 4294967296) ≤ 8 := bl_le64 (n := 8) hX
    refine stv (v := .int .u8 ((bl (x / 4294967296) : Nat) : Int)) (by rfl) (R_lenTab (x / 4294967296) (by kernel_rfl) (by kernel_rfl) hX) ?_
    refine zS [(23, .int .i64 (IntKind.i64.wrap ((bl (x / 4294967296) : Nat) : Int)))] ?_
    rw [show IntKind.i64.wrap ((bl (x / 4294967296) : Nat) : Int) = ((bl (x / 4294967296) : Nat) : Int) from wrap_i64 (by omega) (by omega)]
    refine zS [(24, .int .i64 (IntKind.i64.wrap (32 + ((bl (x / 4294967296) : Nat) : Int))))] ?_
    rw [show IntKind.i64.wrap (32 + ((bl (x / 4294967296) : Nat) : Int)) = 32 + ((bl (x / 4294967296) : Nat) : Int) from wrap_i64 (by omega) (by omega)]
    refine zS [(2, .int .i64 (32 + ((bl (x / 4294967296) : Nat) : Int)))] ?_
    refine op_nil ?_
    refine W_ret ?_
    refine ⟨_, Res_of (v := .int .i64 (32 + ((bl (x / 4294967296) : Nat) : Int))) (by kernel_rfl), ?_⟩
    have e32 : bl (x / 4294967296) + 32 = bl x := bl_div (x := x) (k := 32) (by have : pw 32 = 4294967296 := rfl; omega)
    exact ⟨congrArg (Value.int .i64) (by omega), Tch.refl _ _⟩
 ·
  replace hc1 : ((x : Nat) : Int) < 4294967296 := (Int.not_le.1 (of_decide_eq_false hc1))
  refine W_skip ?_
  refine W_seq ?_
  refine zQ ?_
  refine zS [(7, .int .u64 ((x : Nat) : Int)), (8, .bool (decide (((x : Nat) : Int) ≥ 65536)))] ?_
  refine zO (decide (((x : Nat) : Int) ≥ 65536)) (fun hc9 => ?_) (fun hc9 => ?_)
  ·
   replace hc9 : 65536 ≤ ((x : Nat) : Int) := (of_decide_eq_true hc9)
   refine zQ ?_
   refine zS [(9, .int .u64 ((x : Nat) : Int))] ?_
   refine stv (v := .int .u64 ((x / 65536 : Nat) : Int)) (by rfl) (R_shrP (k2 := .u64) x 16 (by kernel_rfl) (by kernel_rfl) (by omega)) ?_
   have hu10 : x / 65536 < 18446744073709551616 := by omega
   refine zS [(0, .int .u64 ((x / 65536 : Nat) : Int))] ?_
   refine op_nil ?_
   refine zF [(0, .int .u64 ((x / 65536 : Nat) : Int)), (2, .int .i64 0), (4, .bool (decide (((x : Nat) : Int) ≥ 4294967296))), (8, .bool (decide (((x : Nat) : Int) ≥ 65536)))] fun ρ => ?_
   refine zR ?_
   refine zS [(11, .int .i64 0), (12, .int .i64 16), (2, .int .i64 16)] ?_
   refine op_nil ?_
   refine W_seq ?_
   refine zQ ?_
   refine zS [(13, .int .u64 ((x / 65536 : Nat) : Int)), (14, .bool (decide (((x / 65536 : Nat) : Int) ≥ 256)))] ?_
   refine zO (decide (((x / 65536 : Nat) : Int) ≥ 256)) (fun hc11 => ?_) (fun hc11 => ?_)
   ·
    replace hc11 : 256 ≤ ((x / 65536 : Nat) : Int) := (of_decide_eq_true hc11)
    refine zQ ?_
    refine zS [(15, .int .u64 ((x / 65536 : Nat) : Int))] ?_
    refine stv (v := .int .u64 (((x / 65536) / 256 : Nat) : Int)) (by rfl) (R_shrP (k2 := .u64) (x / 65536) 8 (by kernel_rfl) (by kernel_rfl) (by omega)) ?_
    have hu12 : (x / 65536) / 256 < 18446744073709551616 := by omega
    refine zS [(0, .int .u64 (((x / 65536) / 256 : Nat) : Int))] ?_
    refine op_nil ?_
    refine zF [(0, .int .u64 (((x / 65536) / 256 : Nat) : Int)), (2, .int .i64 16), (4, .bool (decide (((x : Nat) : Int) ≥ 4294967296))), (8, .bool (decide (((x : Nat) : Int) ≥ 65536))), (14, .bool (decide (((x / 65536 : Nat) : Int) ≥ 256)))] fun ρ => ?_
    refine zR ?_
    refine zS [(17, .int .i64 16), (18, .int .i64 24), (2, .int .i64 24)] ?_
    refine op_nil ?_
    refine zQ ?_
    refine zS [(19, .int .i64 24), (20, .int .u64 (((x / 65536) / 256 : Nat) : Int)), (21, .int .u8 (IntKind.u8.wrap (((x / 65536) / 256 : Nat) : Int)))] ?_
    rw [show IntKind.u8.wrap (((x / 65536) / 256 : Nat) : Int) = (((x / 65536) / 256 : Nat) : Int) from wrap_u8 (by omega) (by omega)]
    have hX : (x / 65536) / 256 < 256 := by omega
    have hbl : bl ((x / 65536) / 256) ≤ 8 := bl_le64 (n := 8) hX
    refine stv (v := .int .u8 ((bl ((x / 65536) / 256) : Nat) : Int)) (by rfl) (R_lenTab ((x / 65536) / 256) (by kernel_rfl) (by kernel_rfl) hX) ?_
    refine zS [(23, .int .i64 (IntKind.i64.wrap ((bl ((x / 65536) / 256) : Nat) : Int)))] ?_
    rw [show IntKind.i64.wrap ((bl ((x / 65536) / 256) : Nat) : Int) = ((bl ((x / 65536) / 256) : Nat) : Int) from wrap_i64 (by omega) (by omega)]
    refine zS [(24, .int .i64 (IntKind.i64.wrap (24 + ((bl ((x / 65536) / 256) : Nat) : Int))))] ?_
    rw [show IntKind.i64.wrap (24 + ((bl ((x / 65536) / 256) : Nat) : Int)) = 24 + ((bl ((x / 65536) / 256) : Nat) : Int) from wrap_i64 (by omega) (by omega)]
    refine zS [(2, .int .i64 (24 + ((bl ((x / 65536) / 256) : Nat) : Int)))] ?_
    refine op_nil ?_
    refine W_ret ?_
    refine ⟨_, Res_of (v := .int .i64 (24 + ((bl ((x / 65536) / 256) : Nat) : Int))) (by kernel_rfl), ?_⟩
    have e16 : bl (x / 65536) + 16 = bl x := bl_div (x := x) (k := 16) (by have : pw 16 = 65536 := rfl; omega)
    have e8 : bl ((x / 65536) / 256) + 8 = bl (x / 65536) := bl_div (x := x / 65536) (k := 8) (by have : pw 8 = 256 := rfl; omega)
    exact ⟨congrArg (Value.int .i64) (by omega), Tch.refl _ _⟩
   ·
    replace hc11 : ((x / 65536 : Nat) : Int) < 256 := (Int.not_le.1 (of_decide_eq_false hc11))
    refine W_skip ?_
    refine zQ ?_
    refine zS [(19, .int .i64 16), (20, .int .u64 ((x / 65536 : Nat) : Int)), (21, .int .u8 (IntKind.u8.wrap ((x / 65536 : Nat) : Int)))] ?_
    rw [show IntKind.u8.wrap ((x / 65536 : Nat) : Int) = ((x / 65536 : Nat) : Int) from wrap_u8 (by omega) (by omega)]
    have hX : x / 65536 < 256 := by omega
    have hbl : bl (x / 65536) ≤ 8 := bl_le64 (n := 8) hX
    refine stv (v := .int .u8 ((bl (x / 65536) : Nat) : Int)) (by rfl) (R_lenTab (x / 65536) (by kernel_rfl) (by kernel_rfl) hX) ?_
    refine zS [(23, .int .i64 (IntKind.i64.wrap ((bl (x / 65536) : Nat) : Int)))] ?_
    rw [show IntKind.i64.wrap ((bl (x / 65536) : Nat) : Int) = ((bl (x / 65536) : Nat) : Int) from wrap_i64 (by omega) (by omega)]
    refine zS [(24, .int .i64 (IntKind.i64.wrap (16 + ((bl (x / 65536) : Nat) : Int))))] ?_
    rw [show IntKind.i64.wrap (16 + ((bl (x / 65536) : Nat) : Int)) = 16 + ((bl (x / 65536) : Nat) : Int) from wrap_i64 (by omega) (by omega)]
    refine zS [(2, .int .i64 (16 + ((bl (x / 65536) : Nat) : Int)))] ?_
    refine op_nil ?_
    refine W_ret ?_
    refine ⟨_, Res_of (v := .int .i64 (16 + ((bl (x / 65536) : Nat) : Int))) (by kernel_rfl), ?_⟩
    have e16 : bl (x / 65536) + 16 = bl x := bl_div (x := x) (k := 16) (by have : pw 16 = 65536 := rfl; omega)
    exact ⟨congrArg (Value.int .i64) (by omega), Tch.refl _ _⟩
  ·
   replace hc9 : ((x : Nat) : Int) < 65536 := (Int.not_le.1 (of_decide_eq_false hc9))
   refine W_skip ?_
   refine W_seq ?_
   refine zQ ?_
   refine zS [(13, .int .u64 ((x : Nat) : Int)), (14, .bool (decide (((x : Nat) : Int) ≥ 256)))] ?_
   refine zO (decide (((x : Nat) : Int) ≥ 256)) (fun hc13 => ?_) (fun hc13 => ?_)
   ·
    replace hc13 : 256 ≤ ((x : Nat) : Int) := (of_decide_eq_true hc13)
    refine zQ ?_
    refine zS [(15, .int .u64 ((x : Nat) : Int))] ?_
    refine stv (v := .int .u64 ((x / 256 : Nat) : Int)) (by rfl) (R_shrP (k2 := .u64) x 8 (by kernel_rfl) (by kernel_rfl) (by omega)) ?_
    have hu14 : x / 256 < 18446744073709551616 := by omega
    refine zS [(0, .int .u64 ((x / 256 : Nat) : Int))] ?_
    refine op_nil ?_
    refine zF [(0, .int .u64 ((x / 256 : Nat) : Int)), (2, .int .i64 0), (4, .bool (decide (((x : Nat) : Int) ≥ 4294967296))), (8, .bool (decide (((x : Nat) : Int) ≥ 65536))), (14, .bool (decide (((x : Nat) : Int) ≥ 256)))] fun ρ => ?_
    refine zR ?_
    refine zS [(17, .int .i64 0), (18, .int .i64 8), (2, .int .i64 8)] ?_
    refine op_nil ?_
    refine zQ ?_
    refine zS [(19, .int .i64 8), (20, .int .u64 ((x / 256 : Nat) : Int)), (21, .int .u8 (IntKind.u8.wrap ((x / 256 : Nat) : Int)))] ?_
    rw [show IntKind.u8.wrap ((x / 256 : Nat) : Int) = ((x / 256 : Nat) : Int) from wrap_u8 (by omega) (by omega)]
    have hX : x / 256 < 256 := by omega
    have hbl : bl (x / 256) ≤ 8 := bl_le64 (n := 8) hX
    refine stv (v := .int .u8 ((bl (x / 256) : Nat) : Int)) (by rfl) (R_lenTab (x / 256) (by kernel_rfl) (by kernel_rfl) hX) ?_
    refine zS [(23, .int .i64 (IntKind.i64.wrap ((bl (x / 256) : Nat) : Int)))] ?_
    rw [show IntKind.i64.wrap ((bl (x / 256) : Nat) : Int) = ((bl (x / 256) : Nat) : Int) from wrap_i64 (by omega) (by omega)]
    refine zS [(24, .int .i64 (IntKind.i64.wrap (8 + ((bl (x / 256) : Nat) : Int))))] ?_
    rw [show IntKind.i64.wrap (8 + ((bl (x / 256) : Nat) : Int)) = 8 + ((bl (x / 256) : Nat) : Int) from wrap_i64 (by omega) (by omega)]
    refine zS [(2, .int .i64 (8 + ((bl (x / 256) : Nat) : Int)))] ?_
    refine op_nil ?_
    refine W_ret ?_
    refine ⟨_, Res_of (v := .int .i64 (8 + ((bl (x / 256) : Nat) : Int))) (by kernel_rfl), ?_⟩
    have e8 : bl (x / 256) + 8 = bl x := bl_div (x := x) (k := 8) (by have : pw 8 = 256 := rfl; omega)
    exact ⟨congrArg (Value.int .i64) (by omega), Tch.refl _ _⟩
   ·
    replace hc13 : ((x : Nat) : Int) < 256 := (Int.not_le.1 (of_decide_eq_false hc13))
    refine W_skip ?_
    refine zQ ?_
    refine zS [(19, .int .i64 0), (20, .int .u64 ((x : Nat) : Int)), (21, .int .u8 (IntKind.u8.wrap ((x : Nat) : Int)))] ?_
    rw [show IntKind.u8.wrap ((x : Nat) : Int) = ((x : Nat) : Int) from wrap_u8 (by omega) (by omega)]
    have hX : x < 256 := by omega
    have hbl : bl x ≤ 8 := bl_le64 (n := 8) hX
    refine stv (v := .int .u8 ((bl x : Nat) : Int)) (by rfl) (R_lenTab x (by kernel_rfl) (by kernel_rfl) hX) ?_
    refine zS [(23, .int .i64 (IntKind.i64.wrap ((bl x : Nat) : Int)))] ?_
    rw [show IntKind.i64.wrap ((bl x : Nat) : Int) = ((bl x : Nat) : Int) from wrap_i64 (by omega) (by omega)]
    refine zS [(24, .int .i64 (IntKind.i64.wrap (0 + ((bl x : Nat) : Int))))] ?_
    rw [show IntKind.i64.wrap (0 + ((bl x : Nat) : Int)) = 0 + ((bl x : Nat) : Int) from wrap_i64 (by omega) (by omega)]
    refine zS [(2, .int .i64 (0 + ((bl x : Nat) : Int)))] ?_
    refine op_nil ?_
    refine W_ret ?_
    refine ⟨_, Res_of (v := .int .i64 (0 + ((bl x : Nat) : Int))) (by kernel_rfl), ?_⟩
    skip
    exact ⟨congrArg (Value.int .i64) (by omega), Tch.refl _ _⟩

set_option maxRecDepth 100000 in
theorem all_ok (wd : Nat) (w : World) (hw : wd ≤ 64) : Ret Try.prog 91 [.int .i64 ((wd : Nat) : Int)] w fun v w' => v = .agg #[.int .u64 (((rall wd).1 : Nat) : Int), .int .u64 (((rall wd).2 : Nat) : Int)] ∧ Tch N0 w w' := by
 refine enter Try.func91 rfl rfl ?_
 refine zQ ?_
 refine st (by rfl) (S_new (v := .pointer (some ⟨w.heap.size, 0, none⟩)) (ob := .cells #[.int .u64 0, .int .u64 0] 113) (by kernel_rfl) fun w1 hT2 hs3 hB4 => ?_)
 replace hB4 : Blk w1 (w.heap.size) 113 [.int .u64 0, .int .u64 0] := hB4
 have hT0 := hT2
 refine op_nil ?_
 refine zQ ?_
 refine zS [(3, .int .i64 ((wd : Nat) : Int))] ?_
 refine zC (mask_okN wd _ (by omega)) ?_
 rintro _ w5 ⟨rfl, hT6⟩
 have hT0 := hT0.t0 hT6
 have hB4 := hB4.tch0 hT6
 have hu7 := pwm_lt (x := wd) (by omega)
 refine zS [(5, .agg #[.int .u64 0, .int .u64 ((pw wd - 1 : Nat) : Int)])] ?_
 refine st (by rfl) (S_storeA (b := w.heap.size) (j := 0) (cs := [.int .u64 0, .int .u64 ((pw wd - 1 : Nat) : Int)]) (by kernel_rfl) (by kernel_rfl) (by kernel_rfl) (by simp [oneV]) hB4 (by simp) fun w8 hT9 hs10 hB4' => ?_)
 have hT0 := (hT0).then hT9 (fun c e => by have : c = w.heap.size := e; omega)
 replace hB4 : Blk w8 w.heap.size 113 [.int .u64 0, .int .u64 ((pw wd - 1 : Nat) : Int)] := hB4'
 refine op_nil ?_
 refine W_ret ?_
 exact ⟨_, Res_cell (b := w.heap.size) (cs := [.int .u64 0, .int .u64 ((pw wd - 1 : Nat) : Int)]) (by rfl) (by kernel_rfl) (by kernel_rfl) hB4 (by kernel_rfl) (by kernel_rfl), ⟨rfl, hT0⟩⟩

set_option maxRecDepth 100000 in
theorem truth_ok (m n : Bool) (w : World) : Ret Try.prog 111 [.bool m, .bool n] w fun v w' => v = .agg #[.int .u64 (((rtruth m n).1 : Nat) : Int), .int .u64 (((rtruth m n).2 : Nat) : Int)] ∧ Tch N0 w w' := by
 refine enter Try.func111 rfl rfl ?_
 refine zQ ?_
 refine st (by rfl) (S_new (v := .pointer (some ⟨w.heap.size, 0, none⟩)) (ob := .cells #[.int .u64 0, .int .u64 0] 113) (by kernel_rfl) fun w1 hT2 hs3 hB4 => ?_)
 replace hB4 : Blk w1 (w.heap.size) 113 [.int .u64 0, .int .u64 0] := hB4
 have hT0 := hT2
 refine op_nil ?_
 refine W_seq ?_
 refine W_block ?_
 refine zQ ?_
 refine zS [(6, .bool m), (5, .bool m)] ?_
 refine zO (m) (fun hc5 => ?_) (fun hc5 => ?_)
 ·
  replace hc5 : m = true := (hc5)
  refine zQ ?_
  refine zS [(7, .agg #[.int .u64 1, .int .u64 1])] ?_
  refine st (by rfl) (S_storeA (b := w.heap.size) (j := 0) (cs := [.int .u64 1, .int .u64 1]) (by kernel_rfl) (by kernel_rfl) (by kernel_rfl) (by simp [oneV]) hB4 (by simp) fun w6 hT7 hs8 hB4' => ?_)
  have hT0 := (hT0).then hT7 (fun c e => by have : c = w.heap.size := e; omega)
  replace hB4 : Blk w6 w.heap.size 113 [.int .u64 1, .int .u64 1] := hB4'
  refine op_nil ?_
  refine W_ret ?_
  exact ⟨_, Res_cell (b := w.heap.size) (cs := [.int .u64 1, .int .u64 1]) (by rfl) (by kernel_rfl) (by kernel_rfl) hB4 (by kernel_rfl) (by kernel_rfl), ⟨by simp [rtruth, *], hT0⟩⟩
 ·
  replace hc5 : m = false := (hc5)
  refine zQ ?_
  refine zS [(9, .bool n), (8, .bool n)] ?_
  refine zO (n) (fun hc9 => ?_) (fun hc9 => ?_)
  ·
   replace hc9 : n = true := (hc9)
   refine zQ ?_
   refine zS [(10, .agg #[.int .u64 0, .int .u64 0])] ?_
   refine st (by rfl) (S_storeA (b := w.heap.size) (j := 0) (cs := [.int .u64 0, .int .u64 0]) (by kernel_rfl) (by kernel_rfl) (by kernel_rfl) (by simp [oneV]) hB4 (by simp) fun w10 hT11 hs12 hB4' => ?_)
   have hT0 := (hT0).then hT11 (fun c e => by have : c = w.heap.size := e; omega)
   replace hB4 : Blk w10 w.heap.size 113 [.int .u64 0, .int .u64 0] := hB4'
   refine op_nil ?_
   refine W_ret ?_
   exact ⟨_, Res_cell (b := w.heap.size) (cs := [.int .u64 0, .int .u64 0]) (by rfl) (by kernel_rfl) (by kernel_rfl) hB4 (by kernel_rfl) (by kernel_rfl), ⟨by simp [rtruth, *], hT0⟩⟩
  ·
   replace hc9 : n = false := (hc9)
   refine W_skip ?_
   refine zQ ?_
   refine zS [(11, .agg #[.int .u64 0, .int .u64 1])] ?_
   refine st (by rfl) (S_storeA (b := w.heap.size) (j := 0) (cs := [.int .u64 0, .int .u64 1]) (by kernel_rfl) (by kernel_rfl) (by kernel_rfl) (by simp [oneV]) hB4 (by simp) fun w13 hT14 hs15 hB4' => ?_)
   have hT0 := (hT0).then hT14 (fun c e => by have : c = w.heap.size := e; omega)
   replace hB4 : Blk w13 w.heap.size 113 [.int .u64 0, .int .u64 1] := hB4'
   refine op_nil ?_
   refine W_ret ?_
   exact ⟨_, Res_cell (b := w.heap.size) (cs := [.int .u64 0, .int .u64 1]) (by rfl) (by kernel_rfl) (by kernel_rfl) hB4 (by kernel_rfl) (by kernel_rfl), ⟨by simp [rtruth, *], hT0⟩⟩

end Go.Proofs.YtlbadnpgmkobdaaV
