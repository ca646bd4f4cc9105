/- Texts laid together: Walks of functions of the program and of the document's texts. The conditions stand with each theorem. Walks of functions of the program and of the document's texts. The conditions stand with each theorem. Walks of functions of the program and of the document's texts. The conditions stand with each theorem. -/
import Derived.Test.YtlbadnpgmkobdaaJKkbit24x1
import Derived.Test.YtlbadnpgmkobdaaProg
import Derived.Test.YtlbadnpgmkobdaaJKkbit24x8
import Derived.Test.YtlbadnpgmkobdaaJKkbit24x6
set_option linter.unusedVariables false
set_option linter.unusedSimpArgs false
namespace Go.Proofs.YtlbadnpgmkobdaaV
open Go Go.RowKit Go.Proofs

set_option maxRecDepth 100000 in
set_option maxHeartbeats 1000000 in
theorem once_ok (F : Nat → Prop) (p : Nat) (most : Int) (N : List Nd) (W : Value → Value → Prop) (mb id : Nat) (w : World) (hL : TLow F w p most N W) (hN : N.length ≤ 65536) (hB : TB N) (hid : id < N.length) (hM0 : MapE Try.prog 3 w mb (fun _ _ => False)) (hmF : ¬ F mb) : Ret Try.prog 100 [.pointer (some ⟨p, 0, none⟩), .int .i64 ((id : Nat) : Int), .map (some mb), .func (.func 101) #[] #[]] w fun v w' => ∃ hd : List Bool, hd.getD id false = true ∧ MapE Try.prog 3 w' mb (hdR N hd) ∧ Tch (one mb) w w' := by
 have hF : Tch (one mb) w w := Tch.refl _ _
 have hL0 := hL
 have hM : MapE Try.prog 3 w mb (hdR N (List.replicate N.length false)) := hM0.congr (fun x y => hdR_nil _ _ x y)
 have hmlt := hM0.lt
 refine enter Try.func100 rfl rfl ?_
 refine zQ ?_
 have hz5 := hF.size
 have hlt_ := hL.lt
 refine st (by rfl) (S_new (v := .pointer (some ⟨w.heap.size, 0, none⟩)) (ob := .cells #[.map (some mb)] 137) (by kernel_rfl) fun w1 hT2 hs3 hB4 => ?_)
 replace hB4 : Blk w1 (w.heap.size) 137 [.map (some mb)] := hB4
 have hL := hL.tch0 hT2
 have hF := hF.then0 hT2
 have hM := hM.tch0 hT2
 have nF_hB4 : ¬ F (w.heap.size) := fun e => by have := hlt_ _ e; omega
 have hz10 := hF.size
 have lt11 := hB4.lt
 have hlt_ := hL.lt
 refine st (by rfl) (S_new (v := .pointer (some ⟨w1.heap.size, 0, none⟩)) (ob := .cells #[.int .i64 0, .int .i64 0, .int .i64 0, .int .i64 0, .int .i64 0, .int .u64 0] 32) (by kernel_rfl) fun w6 hT7 hs8 hB9 => ?_)
 replace hB9 : Blk w6 (w1.heap.size) 32 [.int .i64 0, .int .i64 0, .int .i64 0, .int .i64 0, .int .i64 0, .int .u64 0] := hB9
 have hL := hL.tch0 hT7
 have hF := hF.then0 hT7
 have hM := hM.tch0 hT7
 have hB4 := hB4.tch0 hT7
 have nF_hB9 : ¬ F (w1.heap.size) := fun e => by have := hlt_ _ e; omega
 refine op_nil ?_
 refine zQ ?_
 refine zS [(18, .int .i64 ((id : Nat) : Int))] ?_
 have hz16 := hF.size
 have lt17 := hB4.lt
 have lt18 := hB9.lt
 have hlt_ := hL.lt
 refine st (by rfl) (S_new (v := .slice (some ⟨w6.heap.size, 0, none⟩) 1 1) (ob := .cells #[.int .i64 ((id : Nat) : Int)] 3) (by kernel_rfl) fun w12 hT13 hs14 hB15 => ?_)
 replace hB15 : Blk w12 (w6.heap.size) 3 [.int .i64 ((id : Nat) : Int)] := hB15
 have hL := hL.tch0 hT13
 have hF := hF.then0 hT13
 have hM := hM.tch0 hT13
 have hB4 := hB4.tch0 hT13
 have hB9 := hB9.tch0 hT13
 have nF_hB15 : ¬ F (w6.heap.size) := fun e => by have := hlt_ _ e; omega
 refine zS [(9, .slice (some ⟨w6.heap.size, 0, none⟩) 1 1)] ?_
 refine op_nil ?_
 refine W_seq ?_
 refine W_block ?_
 have hWt0 : Own _ 0 3 1 (.slice (some ⟨w6.heap.size, 0, none⟩) 1 1) 1 (nats [id]) := Blk.own1 (sp := []) (by rw [List.append_nil]; exact hB15) rfl rfl (Nat.le_refl _) (by simp only [maxLen]; omega)
 have nF_hB15 : ¬ F (w6.heap.size) := fun e => by have := hL0.lt _ e; omega
 have nF_hB6 := nF_hB4
 have nF_hB8 := nF_hB9
 have hg6 : w.heap.size ≤ w.heap.size := by omega
 have hg8 : w.heap.size ≤ w1.heap.size := by omega
 refine W_loopL (fun m ρ w' => ∃ (hd : List Bool) (wt : List Nat) (A : Option Addr) (cp k : Nat) (ρ0 : Env), ρ = updL ρ0 [(0, .pointer (some ⟨p, 0, none⟩)), (1, .int .i64 ((id : Nat) : Int)), (3, .func (.func 101) #[] #[]), (6, .pointer (some ⟨w.heap.size, 0, none⟩)), (8, .pointer (some ⟨w1.heap.size, 0, none⟩)), (9, .slice A k cp)] ∧ (Wst N.length id hd wt) ∧ (wt.length = k) ∧ (∀ c, (Value.slice A k cp).ownBlock = some c → w.heap.size ≤ c) ∧ (∀ c, (Value.slice A k cp).ownBlock = some c → ¬ F c) ∧ TLow F w' p most N W ∧ Tch (one mb) w w' ∧ MapE Try.prog 3 w' mb (hdR N hd) ∧ Blk w' (w.heap.size) 137 [.map (some mb)] ∧ Blk w' (w1.heap.size) 32 [.int .i64 0, .int .i64 0, .int .i64 0, .int .i64 0, .int .i64 0, .int .u64 0] ∧ Own w' 0 3 1 (.slice A k cp) k (nats wt) ∧ m = (offs hd, sec N.length hd wt)) (m := (offs (List.replicate N.length false), sec N.length (List.replicate N.length false) [id])) ?_ ?_
 ·
  refine ⟨List.replicate N.length false, [id], some ⟨w6.heap.size, 0, none⟩, 1, 1, _, updL_self (by kernel_rfl), Wst.start hid, rfl, (fun c h => by have e : w6.heap.size = c := (by injection h); omega), (fun c h e => by have e2 : w6.heap.size = c := (by injection h); exact nF_hB15 (e2 ▸ e)), hL, hF, hM, hB4, hB9, hWt0, rfl⟩
 ·
  rintro m ρ w19 ⟨hd, wt, A, cp, k, ρ, rfl, hW, hwl, nB_hWt, nF_hWt, hL, hF, hM, hB6, hB8, hWt, rfl⟩
  have hfl := hW.2.2.2.len
  rw [hwl] at hfl
  refine W_seq ?_
  refine zQ ?_
  refine zS [(20, .slice A k cp), (21, .int .i64 (k : Int)), (22, .bool (decide ((k : Int) > 0)))] ?_
  refine zO (decide ((k : Int) > 0)) (fun hc20 => ?_) (fun hc20 => ?_)
  ·
   replace hc20 : 0 < (k : Int) := (of_decide_eq_true hc20)
   refine W_skip ?_
   refine W_block ?_
   refine W_seq ?_
   have h0 : wt ≠ [] := fun e => by rw [e] at hwl; simp at hwl; omega
   have hlast := hW.last h0
   obtain ⟨tp, htl⟩ : ∃ tp, lastN wt = tp := ⟨_, rfl⟩
   have htp : wt.getD (k - 1) 0 = tp := by rw [← htl, ← hwl]; rfl
   have htn : tp < N.length := htl ▸ hlast
   have hkl := kids_lt (hB tp htn)
   have hrm := hW.room h0
   rw [htl, hwl] at hrm
   refine zR ?_
   refine zS [(23, .slice A k cp), (24, .slice A k cp), (25, .int .i64 (k : Int)), (26, .int .i64 (IntKind.i64.wrap ((k : Int) - 1)))] ?_
   rw [show IntKind.i64.wrap ((k : Int) - 1) = (k : Int) - 1 from wrap_i64 (by omega) (by omega)]
   refine fixR (y := ((k - 1 : Nat) : Int)) (by omega) ?_
   refine stv (v := ptrAt A (k - 1)) (by rfl) (R_indexRd1 (len := k) (cap := cp) (k := .i64) (i := ((k - 1 : Nat) : Int)) (e := 3) (k - 1) hWt.rdS (by kernel_rfl) (by kernel_rfl) (by kernel_rfl) (by kernel_rfl) rfl (by omega)) ?_
   refine stv (v := .int .i64 ((wt.getD (k - 1) 0 : Nat) : Int)) (by rfl) (R_loadRd (v := .int .i64 ((wt.getD (k - 1) 0 : Nat) : Int)) hWt.rdS (by omega) (by kernel_rfl) (by kernel_rfl) (nats_at (l := wt) (by omega))) ?_
   rw [htp]
   refine zS [(10, .int .i64 ((tp : Nat) : Int))] ?_
   refine op_nil ?_
   refine W_seq ?_
   refine zF [(0, .pointer (some ⟨p, 0, none⟩)), (1, .int .i64 ((id : Nat) : Int)), (3, .func (.func 101) #[] #[]), (6, .pointer (some ⟨w.heap.size, 0, none⟩)), (8, .pointer (some ⟨w1.heap.size, 0, none⟩)), (9, .slice A k cp), (10, .int .i64 ((tp : Nat) : Int)), (22, .bool (decide ((k : Int) > 0)))] fun ρ => ?_
   refine zR ?_
   refine zS [(30, .pointer (some ⟨p, 0, none⟩)), (31, .int .i64 ((tp : Nat) : Int))] ?_
   refine zC (node_at F p most N W tp _ hL (by omega) htn) ?_
   rintro _ w21 ⟨rfl, hT22⟩
   have hL := hL.tch0 hT22
   have hF := hF.then0 hT22
   have hM := hM.tch0 hT22
   have hB6 := hB6.tch0 hT22
   have hB8 := hB8.tch0 hT22
   have hWt := hWt.tch0 hT22
   refine zS [(29, .tuple #[.agg #[.int .i64 (nO (nth N tp)), .int .i64 (nW (nth N tp)), .int .i64 (nA (nth N tp)), .int .i64 (nB (nth N tp)), .int .i64 (nC (nth N tp)), .int .u64 (nV (nth N tp))], .bool true]), (33, .agg #[.int .i64 (nO (nth N tp)), .int .i64 (nW (nth N tp)), .int .i64 (nA (nth N tp)), .int .i64 (nB (nth N tp)), .int .i64 (nC (nth N tp)), .int .u64 (nV (nth N tp))]), (34, .bool true)] ?_
   have hz27 := hF.size
   have lt28 := hB6.lt
   have lt29 := hB8.lt
   have lR_hWt := hWt.lt
   have hlt_ := hL.lt
   refine st (by rfl) (S_new (v := .pointer (some ⟨w21.heap.size, 0, none⟩)) (ob := .cells #[.int .i64 0, .int .i64 0, .int .i64 0, .int .i64 0, .int .i64 0, .int .u64 0] 32) (by kernel_rfl) fun w23 hT24 hs25 hB26 => ?_)
   replace hB26 : Blk w23 (w21.heap.size) 32 [.int .i64 0, .int .i64 0, .int .i64 0, .int .i64 0, .int .i64 0, .int .u64 0] := hB26
   have hL := hL.tch0 hT24
   have hF := hF.then0 hT24
   have hM := hM.tch0 hT24
   have hB6 := hB6.tch0 hT24
   have hB8 := hB8.tch0 hT24
   have hWt := hWt.tch0 hT24
   have nF_hB26 : ¬ F (w21.heap.size) := fun e => by have := hlt_ _ e; omega
   refine st (by rfl) (S_storeA (b := w21.heap.size) (j := 0) (cs := [.int .i64 (nO (nth N tp)), .int .i64 (nW (nth N tp)), .int .i64 (nA (nth N tp)), .int .i64 (nB (nth N tp)), .int .i64 (nC (nth N tp)), .int .u64 (nV (nth N tp))]) (by kernel_rfl) (by kernel_rfl) (by kernel_rfl) (by simp [oneV]) hB26 (by simp) fun w30 hT31 hs32 hB26' => ?_)
   have hL := hL.tchS hT31 (fun c e q => by cases e; exact nF_hB26 q)
   have hF := Tch.trans hF hT31 (fun _ _ e => e) (fun c hc e => by have : c = w21.heap.size := e; omega)
   have hM := hM.tch hT31 (fun e => hM.ne hB26 e)
   have hB6 := hB6.tch hT31 (hB6.ne hB26 (by decide))
   have hB8 := hB8.tch hT31 (fun e => by have : w1.heap.size = w21.heap.size := e; omega)
   have hWt := hWt.tch hT31 (fun c hc e => hWt.blk_ne hB26 (by decide) c hc e)
   replace hB26 : Blk w30 w21.heap.size 32 [.int .i64 (nO (nth N tp)), .int .i64 (nW (nth N tp)), .int .i64 (nA (nth N tp)), .int .i64 (nB (nth N tp)), .int .i64 (nC (nth N tp)), .int .u64 (nV (nth N tp))] := hB26'
   refine zS [(12, .bool true)] ?_
   refine op_nil ?_
   refine W_seq ?_
   refine zF [(0, .pointer (some ⟨p, 0, none⟩)), (1, .int .i64 ((id : Nat) : Int)), (3, .func (.func 101) #[] #[]), (6, .pointer (some ⟨w.heap.size, 0, none⟩)), (8, .pointer (some ⟨w1.heap.size, 0, none⟩)), (9, .slice A k cp), (10, .int .i64 ((tp : Nat) : Int)), (11, .pointer (some ⟨w21.heap.size, 0, none⟩)), (22, .bool (decide ((k : Int) > 0)))] fun ρ => ?_
   refine zR ?_
   refine zS [(13, .bool false)] ?_
   refine op_nil ?_
   refine W_seq ?_
   refine zQ ?_
   refine st (by rfl) (S_val (v := .agg #[.int .i64 (nO (nth N tp)), .int .i64 (nW (nth N tp)), .int .i64 (nA (nth N tp)), .int .i64 (nB (nth N tp)), .int .i64 (nC (nth N tp)), .int .u64 (nV (nth N tp))]) (R_loadA [.int .i64 (nO (nth N tp)), .int .i64 (nW (nth N tp)), .int .i64 (nA (nth N tp)), .int .i64 (nB (nth N tp)), .int .i64 (nC (nth N tp)), .int .u64 (nV (nth N tp))] (by kernel_rfl) (by kernel_rfl) (by kernel_rfl) (fun k u hk => by rw [hB26.cell]; exact get_part _ 0 _ k u rfl hk)) ?_)
   have hlK := hF.size
   have lW_ := hWt.lt
   have hltL := hL.lt
   refine zC (kids_ok N tp (nth N tp) _ (hB tp htn)) ?_
   rintro _ w33 ⟨K, mk_, rfl, hmk, hKd, nK_, hT34⟩
   have hL := hL.tch0 hT34
   have hF := hF.then0 hT34
   have hM := hM.tch0 hT34
   have hB6 := hB6.tch0 hT34
   have hB8 := hB8.tch0 hT34
   have hWt := hWt.tch0 hT34
   have hB26 := hB26.tch0 hT34
   have nB_hKd : ∀ c, (Value.slice K mk_ mk_).ownBlock = some c → w.heap.size ≤ c := fun c h => by have := nK_ c h; omega
   have nF_hKd : ∀ c, (Value.slice K mk_ mk_).ownBlock = some c → ¬ F c := fun c h e => by have := nK_ c h; have := hltL c e; omega
   have dj0 : ∀ c, (Value.slice A k cp).ownBlock = some c → (Value.slice K mk_ mk_).ownBlock = some c → False := fun c h1 h2 => by have := nK_ c h2; have := lW_ c h1; omega
   refine zS [(37, .int .i64 (mk_ : Int)), (38, .int .i64 0)] ?_
   refine op_nil ?_
   refine W_block ?_
   have nF_hB11 := nF_hB26
   have hg11 : w.heap.size ≤ w21.heap.size := by omega
   refine W_loop (fun m ρ w' => ∃ (A1 : Option Addr) (cp1 : Nat) (wt1 : List Nat) (k1 : Nat) (mr : Bool) (j : Nat) (ρ0 : Env), ρ = updL ρ0 [(0, .pointer (some ⟨p, 0, none⟩)), (1, .int .i64 ((id : Nat) : Int)), (3, .func (.func 101) #[] #[]), (6, .pointer (some ⟨w.heap.size, 0, none⟩)), (8, .pointer (some ⟨w1.heap.size, 0, none⟩)), (9, .slice A1 k1 cp1), (10, .int .i64 ((tp : Nat) : Int)), (11, .pointer (some ⟨w21.heap.size, 0, none⟩)), (13, .bool mr), (36, .slice K mk_ mk_), (37, .int .i64 (mk_ : Int)), (38, .int .i64 ((j : Nat) : Int))] ∧ (j ≤ mk_) ∧ (wt1.length = k1) ∧ (Kst N.length hd (kidsN (nth N tp)) wt wt1 mr) ∧ (∀ c, (Value.slice A1 k1 cp1).ownBlock = some c → w.heap.size ≤ c) ∧ (∀ c, (Value.slice A1 k1 cp1).ownBlock = some c → ¬ F c) ∧ (∀ c, (Value.slice A1 k1 cp1).ownBlock = some c → (Value.slice K mk_ mk_).ownBlock = some c → False) ∧ (k1 ≤ k + j) ∧ TLow F w' p most N W ∧ Tch (one mb) w w' ∧ MapE Try.prog 3 w' mb (hdR N hd) ∧ Blk w' (w.heap.size) 137 [.map (some mb)] ∧ Blk w' (w1.heap.size) 32 [.int .i64 0, .int .i64 0, .int .i64 0, .int .i64 0, .int .i64 0, .int .u64 0] ∧ Own w' 0 3 1 (.slice A1 k1 cp1) k1 (nats wt1) ∧ Blk w' (w21.heap.size) 32 [.int .i64 (nO (nth N tp)), .int .i64 (nW (nth N tp)), .int .i64 (nA (nth N tp)), .int .i64 (nB (nth N tp)), .int .i64 (nC (nth N tp)), .int .u64 (nV (nth N tp))] ∧ Own w' 0 3 1 (.slice K mk_ mk_) mk_ (nats (kidsN (nth N tp))) ∧ m = mk_ - j) (m := mk_ - 0) ?_ ?_
   ·
    refine ⟨A, cp, wt, k, false, 0, _, updL_self (by kernel_rfl), by omega, hwl, Kst.start hW, nB_hWt, nF_hWt, dj0, by omega, hL, hF, hM, hB6, hB8, hWt, hB26, hKd, rfl⟩
   ·
    rintro m ρ w35 ⟨A1, cp1, wt1, k1, mr, j, ρ, rfl, hj, hwl1, hKs, nB_hWt, nF_hWt, dj_hWt_hKd, hmr, hL, hF, hM, hB6, hB8, hWt, hB11, hKd, rfl⟩
    have hfl1 := hKs.2.2.2.2.len
    rw [hwl1] at hfl1
    have hkj : j < mk_ → (kidsN (nth N tp)).getD j 0 ∈ kidsN (nth N tp) := fun q => mem_getD (by omega)
    refine zQ ?_
    refine zS [(39, .bool (decide (((j : Nat) : Int) < (mk_ : Int))))] ?_
    refine op_nil ?_
    refine W_seq ?_
    refine zW (decide (((j : Nat) : Int) < (mk_ : Int))) (fun hc36 => ?_) (fun hc36 => ?_)
    ·
     replace hc36 : ((j : Nat) : Int) < (mk_ : Int) := (of_decide_eq_true hc36)
     refine W_skip ?_
     refine W_seq ?_
     refine W_block ?_
     refine zQ ?_
     refine stv (v := ptrAt K j) (by rfl) (R_indexRd1 (len := mk_) (cap := mk_) (k := .i64) (i := ((j : Nat) : Int)) (e := 3) j hKd.rdS (by kernel_rfl) (by kernel_rfl) (by kernel_rfl) (by kernel_rfl) rfl (by omega)) ?_
     refine stv (v := .int .i64 (((kidsN (nth N tp)).getD j 0 : Nat) : Int)) (by rfl) (R_loadRd (v := .int .i64 (((kidsN (nth N tp)).getD j 0 : Nat) : Int)) hKd.rdS (by omega) (by kernel_rfl) (by kernel_rfl) (nats_at (l := (kidsN (nth N tp))) (by omega))) ?_
     refine zS [(15, .int .i64 (((kidsN (nth N tp)).getD j 0 : Nat) : Int))] ?_
     refine op_nil ?_
     refine zQ ?_
     refine zL (.map (some mb)) ((hB6.cell 0).trans rfl) ?_
     refine zS [(44, .int .i64 (((kidsN (nth N tp)).getD j 0 : Nat) : Int))] ?_
     have hkm := hkj (by omega)
     have hk3 := kids_len (nth N tp)
     have hkt := hkl _ hkm
     have hkn : ((kidsN (nth N tp)).getD j 0) < N.length := by have := hkl _ hkm; omega
     refine st (by rfl) (S_lookupE true 3 32 (nodeV nd0) key_law3 (by kernel_rfl) (by kernel_rfl) (by kernel_rfl) (by kernel_rfl) (key_int (x := ((((kidsN (nth N tp)).getD j 0) : Nat) : Int)) (by unfold b64; omega)) hM fun vz ok hv => ?_)
     obtain ⟨z, rfl, rfl⟩ := look_hd hkn hv
     refine zS [(42, .tuple #[.agg #[.int .i64 (nO z), .int .i64 (nW z), .int .i64 (nA z), .int .i64 (nB z), .int .i64 (nC z), .int .u64 (nV z)], .bool (hd.getD ((kidsN (nth N tp)).getD j 0) false)]), (46, .agg #[.int .i64 (nO z), .int .i64 (nW z), .int .i64 (nA z), .int .i64 (nB z), .int .i64 (nC z), .int .u64 (nV z)]), (47, .bool (hd.getD ((kidsN (nth N tp)).getD j 0) false))] ?_
     have hz41 := hF.size
     have lt42 := hB6.lt
     have lt43 := hB8.lt
     have lR_hWt := hWt.lt
     have lt44 := hB11.lt
     have lR_hKd := hKd.lt
     have hlt_ := hL.lt
     refine st (by rfl) (S_new (v := .pointer (some ⟨w35.heap.size, 0, none⟩)) (ob := .cells #[.int .i64 0, .int .i64 0, .int .i64 0, .int .i64 0, .int .i64 0, .int .u64 0] 32) (by kernel_rfl) fun w37 hT38 hs39 hB40 => ?_)
     replace hB40 : Blk w37 (w35.heap.size) 32 [.int .i64 0, .int .i64 0, .int .i64 0, .int .i64 0, .int .i64 0, .int .u64 0] := hB40
     have hL := hL.tch0 hT38
     have hF := hF.then0 hT38
     have hM := hM.tch0 hT38
     have hB6 := hB6.tch0 hT38
     have hB8 := hB8.tch0 hT38
     have hWt := hWt.tch0 hT38
     have hB11 := hB11.tch0 hT38
     have hKd := hKd.tch0 hT38
     have nF_hB40 : ¬ F (w35.heap.size) := fun e => by have := hlt_ _ e; omega
     refine st (by rfl) (S_storeA (b := w35.heap.size) (j := 0) (cs := [.int .i64 (nO z), .int .i64 (nW z), .int .i64 (nA z), .int .i64 (nB z), .int .i64 (nC z), .int .u64 (nV z)]) (by kernel_rfl) (by kernel_rfl) (by kernel_rfl) (by simp [oneV]) hB40 (by simp) fun w45 hT46 hs47 hB40' => ?_)
     have hL := hL.tchS hT46 (fun c e q => by cases e; exact nF_hB40 q)
     have hF := Tch.trans hF hT46 (fun _ _ e => e) (fun c hc e => by have : c = w35.heap.size := e; omega)
     have hM := hM.tch hT46 (fun e => hM.ne hB40 e)
     have hB6 := hB6.tch hT46 (hB6.ne hB40 (by decide))
     have hB8 := hB8.tch hT46 (fun e => by have : w1.heap.size = w35.heap.size := e; omega)
     have hWt := hWt.tch hT46 (fun c hc e => hWt.blk_ne hB40 (by decide) c hc e)
     have hB11 := hB11.tch hT46 (fun e => by have : w21.heap.size = w35.heap.size := e; omega)
     have hKd := hKd.tch hT46 (fun c hc e => hKd.blk_ne hB40 (by decide) c hc e)
     replace hB40 : Blk w45 w35.heap.size 32 [.int .i64 (nO z), .int .i64 (nW z), .int .i64 (nA z), .int .i64 (nB z), .int .i64 (nC z), .int .u64 (nV z)] := hB40'
     refine zS [(17, .bool (hd.getD ((kidsN (nth N tp)).getD j 0) false))] ?_
     refine op_nil ?_
     refine W_seq ?_
     refine zF [(0, .pointer (some ⟨p, 0, none⟩)), (1, .int .i64 ((id : Nat) : Int)), (3, .func (.func 101) #[] #[]), (6, .pointer (some ⟨w.heap.size, 0, none⟩)), (8, .pointer (some ⟨w1.heap.size, 0, none⟩)), (9, .slice A1 k1 cp1), (10, .int .i64 ((tp : Nat) : Int)), (11, .pointer (some ⟨w21.heap.size, 0, none⟩)), (13, .bool mr), (15, .int .i64 (((kidsN (nth N tp)).getD j 0 : Nat) : Int)), (17, .bool (hd.getD ((kidsN (nth N tp)).getD j 0) false)), (36, .slice K mk_ mk_), (37, .int .i64 (mk_ : Int)), (38, .int .i64 ((j : Nat) : Int)), (39, .bool (decide (((j : Nat) : Int) < (mk_ : Int))))] fun ρ => ?_
     refine zR ?_
     refine zS [(48, .bool (hd.getD ((kidsN (nth N tp)).getD j 0) false)), (49, .bool (!(hd.getD ((kidsN (nth N tp)).getD j 0) false)))] ?_
     refine zO (!(hd.getD ((kidsN (nth N tp)).getD j 0) false)) (fun hc48 => ?_) (fun hc48 => ?_)
     ·
      replace hc48 : hd.getD ((kidsN (nth N tp)).getD j 0) false = false := ((not_t hc48))
      refine zQ ?_
      refine zS [(50, .slice A1 k1 cp1), (51, .int .i64 (((kidsN (nth N tp)).getD j 0 : Nat) : Int))] ?_
      have hz53 := hF.size
      have lt54 := hB6.lt
      have lt55 := hB8.lt
      have lR_hWt := hWt.lt
      have lt56 := hB11.lt
      have lR_hKd := hKd.lt
      have lt57 := hB40.lt
      have hlt_ := hL.lt
      refine st (by rfl) (S_new (v := .slice (some ⟨w45.heap.size, 0, none⟩) 1 1) (ob := .cells #[.int .i64 (((kidsN (nth N tp)).getD j 0 : Nat) : Int)] 3) (by kernel_rfl) fun w49 hT50 hs51 hB52 => ?_)
      replace hB52 : Blk w49 (w45.heap.size) 3 [.int .i64 (((kidsN (nth N tp)).getD j 0 : Nat) : Int)] := hB52
      have hL := hL.tch0 hT50
      have hF := hF.then0 hT50
      have hM := hM.tch0 hT50
      have hB6 := hB6.tch0 hT50
      have hB8 := hB8.tch0 hT50
      have hWt := hWt.tch0 hT50
      have hB11 := hB11.tch0 hT50
      have hKd := hKd.tch0 hT50
      have hB40 := hB40.tch0 hT50
      have nF_hB52 : ¬ F (w45.heap.size) := fun e => by have := hlt_ _ e; omega
      have hz_ := hF.size
      have hGl_ := hL.lt
      have lR_hWt := hWt.lt
      have lR_hKd := hKd.lt
      refine st (by rfl) (S_appendR 126 3 (.int .i64 0) 1 8 (n := k1) (m := 1) (A := A1) (cp := cp1) (cells := nats wt1) (news := [.int .i64 (((kidsN (nth N tp)).getD j 0 : Nat) : Int)]) (b := w45.heap.size) (off := 0) (c := 1) (by kernel_rfl) (by kernel_rfl) (by decide) (by kernel_rfl) (by kernel_rfl) (by kernel_rfl) hWt (by rfl) (fun k u hk => by rw [Nat.zero_add, hB52.cell]; exact hk) (by simp [oneV]) (by simp only [maxLen]; omega) (by omega) fun A58 cp59 w60 hO61 hw62 hT63 => ?_)
      have hL := hL.tchS hT63 (fun c e => nF_hWt c e)
      have hF := Tch.trans hF hT63 (fun _ _ e => e) (fun c hc e => by have := nB_hWt c e; omega)
      have hM := hM.tch hT63 (fun e => hWt.ne_mapE hM _ e rfl)
      have hB6 := hB6.tch hT63 (fun e => hWt.blk_ne hB6 (by decide) _ e rfl)
      have hB8 := hB8.tch hT63 (fun e => hWt.blk_ne hB8 (by decide) _ e rfl)
      have hB11 := hB11.tch hT63 (fun e => hWt.blk_ne hB11 (by decide) _ e rfl)
      have hKd := hKd.tch hT63 (fun c hc e => dj_hWt_hKd c e hc)
      have hB40 := hB40.tch hT63 (fun e => hWt.blk_ne hB40 (by decide) _ e rfl)
      have hWt : Own w60 0 3 1 (.slice A58 (k1 + 1) cp59) (k1 + 1) (nats (wt1 ++ [(kidsN (nth N tp)).getD j 0])) := by rw [nats_append]; exact hO61
      have nF_hWt : ∀ c, (Value.slice A58 (k1 + 1) cp59).ownBlock = some c → ¬ F c := fun c hc => (hw62 c hc).elim (nF_hWt c) (fun q e => by have := hGl_ _ e; omega)
      have nB_hWt : ∀ c, (Value.slice A58 (k1 + 1) cp59).ownBlock = some c → w.heap.size ≤ c := fun c hc => (hw62 c hc).elim (nB_hWt c) (fun q => by omega)
      have dj_hWt_hKd : ∀ c, (Value.slice A58 (k1 + 1) cp59).ownBlock = some c → (Value.slice K (mk_) mk_).ownBlock = some c → False := fun c h1 h2 => (hw62 c h1).elim (fun q => dj_hWt_hKd c q h2) (fun q => by have := lR_hKd c h2; omega)
      refine zS [(9, .slice A58 (k1 + 1) cp59)] ?_
      refine op_nil ?_
      refine zR ?_
      refine zS [(13, .bool true)] ?_
      refine op_nil ?_
      refine zF [(0, .pointer (some ⟨p, 0, none⟩)), (1, .int .i64 ((id : Nat) : Int)), (3, .func (.func 101) #[] #[]), (6, .pointer (some ⟨w.heap.size, 0, none⟩)), (8, .pointer (some ⟨w1.heap.size, 0, none⟩)), (9, .slice A58 (k1 + 1) cp59), (10, .int .i64 ((tp : Nat) : Int)), (11, .pointer (some ⟨w21.heap.size, 0, none⟩)), (13, .bool true), (15, .int .i64 (((kidsN (nth N tp)).getD j 0 : Nat) : Int)), (17, .bool (hd.getD ((kidsN (nth N tp)).getD j 0) false)), (36, .slice K mk_ mk_), (37, .int .i64 (mk_ : Int)), (38, .int .i64 ((j : Nat) : Int)), (39, .bool (decide (((j : Nat) : Int) < (mk_ : Int)))), (49, .bool (!(hd.getD ((kidsN (nth N tp)).getD j 0) false)))] fun ρ => ?_
      refine zR ?_
      refine zS [(54, .int .i64 (IntKind.i64.wrap (((j : Nat) : Int) + 1)))] ?_
      rw [show IntKind.i64.wrap (((j : Nat) : Int) + 1) = ((j : Nat) : Int) + 1 from wrap_i64 (by omega) (by omega)]
      refine fixR (y := ((j + 1 : Nat) : Int)) (by omega) ?_
      refine zS [(38, .int .i64 ((j + 1 : Nat) : Int))] ?_
      refine op_nil ?_
      refine ⟨_, ?_, A58, cp59, wt1 ++ [(kidsN (nth N tp)).getD j 0], k1 + 1, true, j + 1, _, updL_self (by kernel_rfl), ?_, by rw [List.length_append]; exact congrArg (· + 1) hwl1, hKs.push hkm (by omega) (by omega) (by assumption), nB_hWt, nF_hWt, dj_hWt_hKd, by omega, hL, hF, hM, hB6, hB8, hWt, hB11, hKd, rfl⟩
      ·
       omega
      ·
       omega
     ·
      replace hc48 : hd.getD ((kidsN (nth N tp)).getD j 0) false = true := ((not_f hc48))
      refine W_skip ?_
      refine zR ?_
      refine zS [(54, .int .i64 (IntKind.i64.wrap (((j : Nat) : Int) + 1)))] ?_
      rw [show IntKind.i64.wrap (((j : Nat) : Int) + 1) = ((j : Nat) : Int) + 1 from wrap_i64 (by omega) (by omega)]
      refine fixR (y := ((j + 1 : Nat) : Int)) (by omega) ?_
      refine zS [(38, .int .i64 ((j + 1 : Nat) : Int))] ?_
      refine op_nil ?_
      refine ⟨_, ?_, A1, cp1, wt1, k1, mr, j + 1, _, updL_self (by kernel_rfl), ?_, hwl1, hKs, nB_hWt, nF_hWt, dj_hWt_hKd, by omega, hL, hF, hM, hB6, hB8, hWt, hB11, hKd, rfl⟩
      ·
       omega
      ·
       omega
    ·
     replace hc36 : (mk_ : Int) ≤ ((j : Nat) : Int) := (Int.not_lt.1 (of_decide_eq_false hc36))
     refine W_exit ?_
     refine X_hit ?_
     refine W_seq ?_
     refine zQ ?_
     refine zS [(55, .bool mr)] ?_
     refine zO (mr) (fun hc64 => ?_) (fun hc64 => ?_)
     ·
      replace hc64 : mr = true := (hc64)
      refine W_exit ?_
      refine X_hit ?_
      obtain ⟨ws, x, hws, hxk, hxf⟩ := hKs.2.1 (by assumption)
      refine ⟨_, by rw [hws]; exact lex_more h0 htl (hkl x hxk) htn hxf, hd, wt1, A1, cp1, k1, _, updL_self (by kernel_rfl), hW.more hKs, hwl1, nB_hWt, nF_hWt, hL, hF, hM, hB6, hB8, hWt, rfl⟩
     ·
      replace hc64 : mr = false := (hc64)
      refine W_skip ?_
      refine W_seq ?_
      have hne1 : wt1 ≠ [] := fun e => h0 (by rw [← hKs.1 (by assumption)]; exact e)
      have hk1 : 0 < k1 := by rw [← hwl1]; exact List.length_pos_iff.2 hne1
      have hcg := hWt.capge
      refine zR ?_
      refine zS [(56, .slice A1 k1 cp1), (57, .slice A1 k1 cp1), (58, .int .i64 (k1 : Int)), (59, .int .i64 (IntKind.i64.wrap ((k1 : Int) - 1)))] ?_
      rw [show IntKind.i64.wrap ((k1 : Int) - 1) = (k1 : Int) - 1 from wrap_i64 (by omega) (by omega)]
      refine fixR (y := ((k1 - 1 : Nat) : Int)) (by omega) ?_
      refine stv (v := .slice (slA A1 0 cp1) (k1 - 1) cp1) (by rfl) (R_sliceH (A := A1) (n := k1) (cp := cp1) (k1 - 1) (by kernel_rfl) (by kernel_rfl) (by kernel_rfl) (by kernel_rfl) (by omega)) ?_
      obtain ⟨esl, hCut⟩ := hWt.cutS (m := k1 - 1) (by omega) (by omega)
      rw [esl]
      replace nB_hWt : ∀ c, (Value.slice A1 (k1 - 1) cp1).ownBlock = some c → w.heap.size ≤ c := fun c h => nB_hWt c (by rw [own_len A1 k1 (k1 - 1) cp1]; exact h)
      replace nF_hWt : ∀ c, (Value.slice A1 (k1 - 1) cp1).ownBlock = some c → ¬ F c := fun c h => nF_hWt c (by rw [own_len A1 k1 (k1 - 1) cp1]; exact h)
      have hWt : Own w35 0 3 1 (.slice A1 (k1 - 1) cp1) (k1 - 1) (nats (wt1.take (k1 - 1))) := by unfold nats at hCut ⊢; rw [List.map_take]; exact hCut
      refine zS [(9, .slice A1 (k1 - 1) cp1)] ?_
      refine op_nil ?_
      refine zF [(0, .pointer (some ⟨p, 0, none⟩)), (1, .int .i64 ((id : Nat) : Int)), (3, .func (.func 101) #[] #[]), (6, .pointer (some ⟨w.heap.size, 0, none⟩)), (8, .pointer (some ⟨w1.heap.size, 0, none⟩)), (9, .slice A1 (k1 - 1) cp1), (10, .int .i64 ((tp : Nat) : Int)), (11, .pointer (some ⟨w21.heap.size, 0, none⟩)), (13, .bool mr), (36, .slice K mk_ mk_), (37, .int .i64 (mk_ : Int)), (38, .int .i64 ((j : Nat) : Int)), (39, .bool (decide (((j : Nat) : Int) < (mk_ : Int)))), (55, .bool mr)] fun ρ => ?_
      refine W_draw (fun w' => Blk w' (w.heap.size) 137 [.map (some mb)] ∧ Blk w' (w21.heap.size) 32 [.int .i64 (nO (nth N tp)), .int .i64 (nW (nth N tp)), .int .i64 (nA (nth N tp)), .int .i64 (nB (nth N tp)), .int .i64 (nC (nth N tp)), .int .u64 (nV (nth N tp))]) (by kernel_rfl) (by kernel_rfl) (by kernel_rfl) fun w65 hT66 hh67 => ?_
      have hL := hL.tch0 hT66
      have hF := hF.then0 hT66
      have hM := hM.tch0 hT66
      have hB6 := hB6.tch0 hT66
      have hB8 := hB8.tch0 hT66
      have hB11 := hB11.tch0 hT66
      have hKd := hKd.tch0 hT66
      have hWt := hWt.tch0 hT66
      refine zK [1, 2, 4] #[false, true, true, false, true, false, false] [(62, .int .i64 ((tp : Nat) : Int)), (63, .func (.func 101) #[] #[]), (65, .func (.func 117) #[] #[.pointer (some ⟨w.heap.size, 0, none⟩)])] ⟨hB6, hB11⟩ ?_
      refine zV 0 rfl (.map (some mb)) (fun _ ⟨hB6, hB11⟩ => R_load (v := .map (some mb)) (by kernel_rfl) (by kernel_rfl) ((hB6.cell 0).trans rfl)) ⟨hB6, hB11⟩ ?_
      refine zV 3 rfl (.agg #[.int .i64 (nO (nth N tp)), .int .i64 (nW (nth N tp)), .int .i64 (nA (nth N tp)), .int .i64 (nB (nth N tp)), .int .i64 (nC (nth N tp)), .int .u64 (nV (nth N tp))]) (fun _ ⟨hB6, hB11⟩ => R_loadA [.int .i64 (nO (nth N tp)), .int .i64 (nW (nth N tp)), .int .i64 (nA (nth N tp)), .int .i64 (nB (nth N tp)), .int .i64 (nC (nth N tp)), .int .u64 (nV (nth N tp))] (by kernel_rfl) (by kernel_rfl) (by kernel_rfl) (fun k u hk => by rw [hB11.cell]; exact get_part _ 0 _ k u rfl hk)) ⟨hB6, hB11⟩ ?_
      refine zD 5 rfl (S_call (args := [.agg #[.int .i64 (nO (nth N tp)), .int .i64 (nW (nth N tp)), .int .i64 (nA (nth N tp)), .int .i64 (nB (nth N tp)), .int .i64 (nC (nth N tp)), .int .u64 (nV (nth N tp))], .func (.func 117) #[] #[.pointer (some ⟨w.heap.size, 0, none⟩)]]) (by kernel_rfl) (same_nd (nth N tp) _ _) ?_)
      rintro _ w68 ⟨rfl, hT69⟩
      have hL := hL.tch0 hT69
      have hF := hF.then0 hT69
      have hM := hM.tch0 hT69
      have hB6 := hB6.tch0 hT69
      have hB8 := hB8.tch0 hT69
      have hB11 := hB11.tch0 hT69
      have hKd := hKd.tch0 hT69
      have hWt := hWt.tch0 hT69
      refine ⟨⟨hB6, hB11⟩, ?_⟩
      refine zD 6 rfl (S_updateE 3 32 key_law3 (by kernel_rfl) (key := .int .i64 ((tp : Nat) : Int)) (val := nodeV (nth N tp)) (by kernel_rfl) (by kernel_rfl) (by kernel_rfl) (key_int (by unfold b64; omega)) hM fun w70 hT71 hs72 hM1 => ?_)
      replace hF := Tch.trans hF hT71 (fun _ _ e => e) (fun _ _ e => e)
      have hB6 := hB6.tch hT71 (fun e => hM.ne hB6 (Eq.symm e))
      have hB8 := hB8.tch hT71 (fun e => hM.ne hB8 (Eq.symm e))
      have hB11 := hB11.tch hT71 (fun e => hM.ne hB11 (Eq.symm e))
      have hKd := hKd.tch hT71 (fun c hc e => hKd.ne_mapE hM c hc e)
      have hWt := hWt.tch hT71 (fun c hc e => hWt.ne_mapE hM c hc e)
      have hL := hL.tchS hT71 (fun c e q => by have : c = mb := e; rw [this] at q; exact hmF q)
      have hM : MapE Try.prog 3 w70 mb (hdR N (hd.set tp true)) := hM1.congr (hdR_set htn hW.1)
      refine ⟨⟨hB6, hB11⟩, ?_⟩
      refine d_done (by kernel_rfl) ?_
      have hwe : wt1 = wt := hKs.1 (by assumption)
      have hkk : k1 - 1 = wt.length - 1 := by rw [← hwl1, hwe]
      refine ⟨_, by rw [hkk, hwe]; exact lex_pop h0 htl (by rw [hW.1]; exact htn) hW.2.1, hd.set tp true, wt1.take (k1 - 1), A1, cp1, k1 - 1, _, updL_self (by kernel_rfl), by rw [hkk, hwe]; exact hW.pop h0 htl htn, by rw [List.length_take]; omega, nB_hWt, nF_hWt, hL, hF, hM, hB6, hB8, hWt, rfl⟩
  ·
   replace hc20 : (k : Int) ≤ 0 := (Int.not_lt.1 (of_decide_eq_false hc20))
   refine W_exit ?_
   refine X_hit ?_
   refine zQ ?_
   refine zL (.map (some mb)) ((hB6.cell 0).trans rfl) ?_
   refine zS [(68, .int .i64 ((id : Nat) : Int))] ?_
   refine st (by rfl) (S_lookupE false 3 32 (nodeV nd0) key_law3 (by kernel_rfl) (by kernel_rfl) (by kernel_rfl) (by kernel_rfl) (key_int (x := ((id : Nat) : Int)) (by unfold b64; omega)) hM fun vz ok hv => ?_)
   obtain ⟨z, rfl, _⟩ := look_hd hid hv
   refine st (by rfl) (S_storeA (b := w1.heap.size) (j := 0) (cs := [.int .i64 (nO z), .int .i64 (nW z), .int .i64 (nA z), .int .i64 (nB z), .int .i64 (nC z), .int .u64 (nV z)]) (by kernel_rfl) (by kernel_rfl) (by kernel_rfl) (by simp [oneV]) hB8 (by simp) fun w73 hT74 hs75 hB8' => ?_)
   have hL := hL.tchS hT74 (fun c e q => by cases e; exact nF_hB8 q)
   have hF := Tch.trans hF hT74 (fun _ _ e => e) (fun c hc e => by have : c = w1.heap.size := e; omega)
   have hM := hM.tch hT74 (fun e => hM.ne hB8 e)
   have hB6 := hB6.tch hT74 (hB6.ne hB8 (by decide))
   have hWt := hWt.tch hT74 (fun c hc e => hWt.blk_ne hB8 (by decide) c hc e)
   replace hB8 : Blk w73 w1.heap.size 32 [.int .i64 (nO z), .int .i64 (nW z), .int .i64 (nA z), .int .i64 (nB z), .int .i64 (nC z), .int .u64 (nV z)] := hB8'
   refine op_nil ?_
   refine W_ret ?_
   exact ⟨_, Res_cell (b := w1.heap.size) (cs := [.int .i64 (nO z), .int .i64 (nW z), .int .i64 (nA z), .int .i64 (nB z), .int .i64 (nC z), .int .u64 (nV z)]) (by rfl) (by kernel_rfl) (by kernel_rfl) hB8 (by kernel_rfl) (by kernel_rfl), ⟨hd, hW.2.2.1.resolve_left (fun q => by rw [show wt = [] from List.eq_nil_of_length_eq_zero (by omega)] at q; cases q), hM, hF⟩⟩

end Go.Proofs.YtlbadnpgmkobdaaV

set_option linter.unusedVariables false
set_option linter.unusedSimpArgs false
namespace Go.Proofs.YtlbadnpgmkobdaaV
open Go Go.RowKit Go.Proofs

set_option maxRecDepth 100000 in
theorem below_ok (F : Nat → Prop) (p : Nat) (most : Int) (N : List Nd) (W : Value → Value → Prop) (ix : Int) (w : World) (hL : TLow F w p most N W) (hN : N.length ≤ 65536) (hB : TB N) : Ret Try.prog 75 [.pointer (some ⟨p, 0, none⟩), .int .i64 ix] w fun v w' => ∃ mb R, v = .map (some mb) ∧ MapE Try.prog 3 w' mb R ∧ ((isT N ix = true ∧ ∃ x y, R x y) ∨ (isT N ix = false ∧ ∀ x y, ¬ R x y)) ∧ Tch N0 w w' := by
 have hltF := hL.lt
 refine enter Try.func75 rfl rfl ?_
 refine zQ ?_
 refine zS [(4, .map none)] ?_
 refine op_nil ?_
 refine zQ ?_
 refine st (by rfl) (S_makeMapE 3 fun w1 hT2 hs3 hM0 => ?_)
 have hT0 := hT2
 have hL := hL.tch0 hT2
 have hmlt := hM0.lt
 refine zS [(5, .map (some w.heap.size))] ?_
 refine op_nil ?_
 refine W_seq ?_
 refine zQ ?_
 refine zS [(10, .pointer (some ⟨p, 0, none⟩)), (11, .int .i64 ix)] ?_
 refine zC (node_ok F p most N W ix _ hL hN) ?_
 rintro _ w4 ⟨rfl, hT5⟩
 have hT0 := hT0.t0 hT5
 have hL := hL.tch0 hT5
 have hM0 := hM0.tch0 hT5
 refine zS [(9, .tuple #[.agg #[.int .i64 (nO (ndF N ix)), .int .i64 (nW (ndF N ix)), .int .i64 (nA (ndF N ix)), .int .i64 (nB (ndF N ix)), .int .i64 (nC (ndF N ix)), .int .u64 (nV (ndF N ix))], .bool (isT N ix)]), (13, .agg #[.int .i64 (nO (ndF N ix)), .int .i64 (nW (ndF N ix)), .int .i64 (nA (ndF N ix)), .int .i64 (nB (ndF N ix)), .int .i64 (nC (ndF N ix)), .int .u64 (nV (ndF N ix))]), (14, .bool (isT N ix))] ?_
 have hlt_ := hL.lt
 have hz10 := hT0.size
 have z11 := hT0.size
 refine st (by rfl) (S_new (v := .pointer (some ⟨w4.heap.size, 0, none⟩)) (ob := .cells #[.int .i64 0, .int .i64 0, .int .i64 0, .int .i64 0, .int .i64 0, .int .u64 0] 32) (by kernel_rfl) fun w6 hT7 hs8 hB9 => ?_)
 replace hB9 : Blk w6 (w4.heap.size) 32 [.int .i64 0, .int .i64 0, .int .i64 0, .int .i64 0, .int .i64 0, .int .u64 0] := hB9
 have hT0 := hT0.t0 hT7
 have hL := hL.tch0 hT7
 have hM0 := hM0.tch0 hT7
 have nF_hB9 : ¬ F (w4.heap.size) := fun e => by have := hlt_ _ e; omega
 refine st (by rfl) (S_storeA (b := w4.heap.size) (j := 0) (cs := [.int .i64 (nO (ndF N ix)), .int .i64 (nW (ndF N ix)), .int .i64 (nA (ndF N ix)), .int .i64 (nB (ndF N ix)), .int .i64 (nC (ndF N ix)), .int .u64 (nV (ndF N ix))]) (by kernel_rfl) (by kernel_rfl) (by kernel_rfl) (by simp [oneV]) hB9 (by simp) fun w12 hT13 hs14 hB9' => ?_)
 have hT0 := (hT0).then hT13 (fun c e => by have : c = w4.heap.size := e; omega)
 have hL := hL.tchS hT13 (fun c e q => by cases e; exact nF_hB9 q)
 have hM0 := hM0.tch hT13 (fun e => hM0.ne hB9 e)
 replace hB9 : Blk w12 w4.heap.size 32 [.int .i64 (nO (ndF N ix)), .int .i64 (nW (ndF N ix)), .int .i64 (nA (ndF N ix)), .int .i64 (nB (ndF N ix)), .int .i64 (nC (ndF N ix)), .int .u64 (nV (ndF N ix))] := hB9'
 refine zS [(7, .bool (isT N ix))] ?_
 refine op_nil ?_
 refine W_seq ?_
 refine zF [(0, .pointer (some ⟨p, 0, none⟩)), (1, .int .i64 ix), (4, .map none), (5, .map (some w.heap.size)), (7, .bool (isT N ix))] fun ρ => ?_
 refine zR ?_
 refine zS [(15, .bool (isT N ix))] ?_
 refine zO (isT N ix) (fun hc15 => ?_) (fun hc15 => ?_)
 ·
  replace hc15 : 0 ≤ ix ∧ ix < (N.length : Int) := (of_decide_eq_true hc15)
  refine zR ?_
  refine zS [(16, .pointer (some ⟨p, 0, none⟩)), (17, .int .i64 ix), (18, .map (some w.heap.size))] ?_
  obtain ⟨id, hix⟩ : ∃ id : Nat, ix = (id : Int) := ⟨ix.toNat, by omega⟩
  refine st (by rfl) (S_call (args := [.pointer (some ⟨p, 0, none⟩), .int .i64 ix, .map (some w.heap.size), .func (.func 101) #[] #[]]) (by kernel_rfl) ((by rw [hix]; exact once_ok F p most N W (w.heap.size) id _ hL hN hB (by omega) hM0 (fun e => by have := hltF _ e; omega))) ?_)
  rintro vq w16 ⟨hd, hhd, hM, hTo17⟩
  have hT0 := (hT0).then hTo17 (fun c e => by have : c = w.heap.size := e; omega)
  have hL := hL.tchS hTo17 (fun c e q => by have : c = w.heap.size := e; have := hltF _ q; omega)
  have hB9 := hB9.tch hTo17 (fun e => hM0.ne hB9 (Eq.symm e))
  refine op_nil ?_
  refine zQ ?_
  refine zS [(20, .map (some w.heap.size)), (4, .map (some w.heap.size))] ?_
  refine op_nil ?_
  refine W_ret ?_
  exact ⟨_, Res_of (v := .map (some w.heap.size)) (by kernel_rfl), ⟨w.heap.size, _, rfl, hM, .inl ⟨by unfold isT; exact decide_eq_true (by omega), _, _, id, by omega, hhd, rfl, rfl⟩, hT0⟩⟩
 ·
  replace hc15 : ¬ (0 ≤ ix ∧ ix < (N.length : Int)) := (of_decide_eq_false hc15)
  refine W_skip ?_
  refine zQ ?_
  refine zS [(20, .map (some w.heap.size)), (4, .map (some w.heap.size))] ?_
  refine op_nil ?_
  refine W_ret ?_
  exact ⟨_, Res_of (v := .map (some w.heap.size)) (by kernel_rfl), ⟨w.heap.size, _, rfl, hM0, .inr ⟨by unfold isT; exact decide_eq_false (by omega), fun _ _ e => e⟩, hT0⟩⟩

set_option maxRecDepth 100000 in
theorem size_ok (F : Nat → Prop) (p : Nat) (most : Int) (N : List Nd) (W : Value → Value → Prop) (ix : Int) (w : World) (hL : TLow F w p most N W) (hN : N.length ≤ 65536) (hB : TB N) : Ret Try.prog 49 [.pointer (some ⟨p, 0, none⟩), .int .i64 ix] w fun v w' => ∃ m : Nat, v = .int .i64 ((m : Nat) : Int) ∧ ((m : Int) = 0 ↔ isT N ix = false) ∧ Tch N0 w w' := by
 refine enter Try.func49 rfl rfl ?_
 refine zQ ?_
 refine zS [(4, .int .i64 0)] ?_
 refine op_nil ?_
 refine zQ ?_
 refine zS [(5, .pointer (some ⟨p, 0, none⟩)), (6, .int .i64 ix)] ?_
 refine zC (below_ok F p most N W ix _ hL hN hB) ?_
 rintro _ w1 ⟨mb, R, rfl, hM, hR, hT2⟩
 have hT0 := hT2
 have hL := hL.tch0 hT2
 refine st (by rfl) ?_
 obtain ⟨m, hm, hm1, hm2⟩ := R_lenM (P := Try.prog) 3 32 (by kernel_rfl) (by kernel_rfl) hM
 refine S_val hm ?_
 refine zS [(4, .int .i64 ((m : Nat) : Int))] ?_
 refine op_nil ?_
 refine W_ret ?_
 exact ⟨_, Res_of (v := .int .i64 ((m : Nat) : Int)) (by kernel_rfl), ⟨m, rfl, by rcases hR with ⟨q, r⟩ | ⟨q, r⟩; (have := hm1 r; rw [q]; constructor; (intro h; omega); intro h; cases h); (have := hm2 r; rw [q]; constructor; (intro _; rfl); intro _; omega), hT0⟩⟩

end Go.Proofs.YtlbadnpgmkobdaaV

set_option linter.unusedVariables false
set_option linter.unusedSimpArgs false
namespace Go.Proofs.YtlbadnpgmkobdaaV
open Go Go.RowKit Go.Proofs

theorem mask_okN (x : Nat) (w : World) (h : x ≤ 64) : Ret Try.prog 56 [.int .i64 ((x : Nat) : Int)] w fun v w' => v = .int .u64 ((pw x - 1 : Nat) : Int) ∧ Tch N0 w w' := by
 rw [← mask_nat h]; exact mask_ok _ w

set_option maxRecDepth 100000 in
theorem zeros_ok (a b : Nat) (w : World) (ha : a < 18446744073709551616) (hb : b < 18446744073709551616) : Ret Try.prog 76 [.agg #[.int .u64 ((a : Nat) : Int), .int .u64 ((b : Nat) : Int)]] w fun v w' => v = .int .u64 ((andn a b : Nat) : Int) ∧ Tch N0 w w' := by
 refine enter Try.func76 rfl rfl ?_
 refine zQ ?_
 refine st (by rfl) (S_new (v := .pointer (some ⟨w.heap.size, 0, none⟩)) (ob := .cells #[.int .u64 ((a : Nat) : Int), .int .u64 ((b : Nat) : Int)] 100) (by kernel_rfl) fun w1 hT2 hs3 hB4 => ?_)
 replace hB4 : Blk w1 (w.heap.size) 100 [.int .u64 ((a : Nat) : Int), .int .u64 ((b : Nat) : Int)] := hB4
 have hT0 := hT2
 refine zS [(2, .int .u64 0)] ?_
 refine op_nil ?_
 refine zQ ?_
 refine zS [(3, .pointer (some ⟨w.heap.size, 0, none⟩))] ?_
 refine zL (.int .u64 ((a : Nat) : Int)) ((hB4.cell 0).trans rfl) ?_
 refine zS [(5, .pointer (some ⟨w.heap.size, 1, none⟩))] ?_
 refine zL (.int .u64 ((b : Nat) : Int)) ((hB4.cell 1).trans rfl) ?_
 refine zS [(7, .int .u64 (IntKind.u64.wrap (BitVec.ofInt 64 ((a : Nat) : Int) &&& ~~~BitVec.ofInt 64 ((b : Nat) : Int)).toNat))] ?_
 rw [show IntKind.u64.wrap (BitVec.ofInt 64 ((a : Nat) : Int) &&& ~~~BitVec.ofInt 64 ((b : Nat) : Int)).toNat = ((andn a b : Nat) : Int) from andn_u a b ha hb]
 have hu5 : andn a b < 18446744073709551616 := andn_lt ha
 refine zS [(2, .int .u64 ((andn a b : Nat) : Int))] ?_
 refine op_nil ?_
 refine W_ret ?_
 exact ⟨_, Res_of (v := .int .u64 ((andn a b : Nat) : Int)) (by kernel_rfl), ⟨rfl, hT0⟩⟩

set_option maxRecDepth 100000 in
theorem kgate6_ok (wd : Nat) (x y : K)  (w : World) (hx : KI wd x) (hy : KI wd y) (hw : wd ≤ 64) : Ret Try.prog 77 [.int .i64 6, .agg #[.int .u64 ((x.1 : Nat) : Int), .int .u64 ((x.2 : Nat) : Int)], .agg #[.int .u64 ((y.1 : Nat) : Int), .int .u64 ((y.2 : Nat) : Int)]] w fun v w' => v = .agg #[.int .u64 (((kgate 6 wd x y).1 : Nat) : Int), .int .u64 (((kgate 6 wd x y).2 : Nat) : Int)] ∧ Tch N0 w w' := by
 have ux1 := hx.u1 hw
 have ux2 := hx.u2 hw
 have uy1 := hy.u1 hw
 have uy2 := hy.u2 hw
 refine enter Try.func77 rfl rfl ?_
 refine zQ ?_
 refine st (by rfl) (S_new (v := .pointer (some ⟨w.heap.size, 0, none⟩)) (ob := .cells #[.int .u64 ((x.1 : Nat) : Int), .int .u64 ((x.2 : Nat) : Int)] 100) (by kernel_rfl) fun w1 hT2 hs3 hB4 => ?_)
 replace hB4 : Blk w1 (w.heap.size) 100 [.int .u64 ((x.1 : Nat) : Int), .int .u64 ((x.2 : Nat) : Int)] := hB4
 have hT0 := hT2
 have z9 := hT0.size
 have l10 := hB4.lt
 refine st (by rfl) (S_new (v := .pointer (some ⟨w1.heap.size, 0, none⟩)) (ob := .cells #[.int .u64 ((y.1 : Nat) : Int), .int .u64 ((y.2 : Nat) : Int)] 100) (by kernel_rfl) fun w5 hT6 hs7 hB8 => ?_)
 replace hB8 : Blk w5 (w1.heap.size) 100 [.int .u64 ((y.1 : Nat) : Int), .int .u64 ((y.2 : Nat) : Int)] := hB8
 have hT0 := hT0.t0 hT6
 have hB4 := hB4.tch0 hT6
 have z15 := hT0.size
 have l16 := hB4.lt
 have l17 := hB8.lt
 refine st (by rfl) (S_new (v := .pointer (some ⟨w5.heap.size, 0, none⟩)) (ob := .cells #[.int .u64 0, .int .u64 0] 100) (by kernel_rfl) fun w11 hT12 hs13 hB14 => ?_)
 replace hB14 : Blk w11 (w5.heap.size) 100 [.int .u64 0, .int .u64 0] := hB14
 have hT0 := hT0.t0 hT12
 have hB4 := hB4.tch0 hT12
 have hB8 := hB8.tch0 hT12
 refine op_nil ?_
 refine zQ ?_
 refine zS [(8, .pointer (some ⟨w.heap.size, 0, none⟩))] ?_
 refine zL (.int .u64 ((x.1 : Nat) : Int)) ((hB4.cell 0).trans rfl) ?_
 refine zS [(10, .pointer (some ⟨w1.heap.size, 0, none⟩))] ?_
 refine zL (.int .u64 ((y.1 : Nat) : Int)) ((hB8.cell 0).trans rfl) ?_
 refine zS [(12, .int .u64 (IntKind.u64.wrap (BitVec.ofInt 64 ((x.1 : Nat) : Int) &&& BitVec.ofInt 64 ((y.1 : Nat) : Int)).toNat))] ?_
 rw [show IntKind.u64.wrap (BitVec.ofInt 64 ((x.1 : Nat) : Int) &&& BitVec.ofInt 64 ((y.1 : Nat) : Int)).toNat = ((x.1 &&& y.1 : Nat) : Int) from and_u x.1 y.1 ux1 uy1]
 have hu18 : x.1 &&& y.1 < 18446744073709551616 := and_lt ux1
 refine zS [(7, .int .u64 ((x.1 &&& y.1 : Nat) : Int))] ?_
 refine op_nil ?_
 refine W_seq ?_
 refine zQ ?_
 refine zS [(13, .int .i64 6)] ?_
 refine op_nil ?_
 refine W_block ?_
 refine zQ ?_
 refine zS [(15, .bool true), (14, .bool true)] ?_
 refine zO true (fun _ => ?_) (fun h => nomatch h)
 refine W_seq ?_
 refine W_draw (fun w' => Blk w' (w.heap.size) 100 [.int .u64 ((x.1 : Nat) : Int), .int .u64 ((x.2 : Nat) : Int)] ∧ Blk w' (w1.heap.size) 100 [.int .u64 ((y.1 : Nat) : Int), .int .u64 ((y.2 : Nat) : Int)]) (by kernel_rfl) (by kernel_rfl) (by kernel_rfl) fun w19 hT20 hh21 => ?_
 have hT0 := hT0.t0 hT20
 have hB4 := hB4.tch0 hT20
 have hB8 := hB8.tch0 hT20
 have hB14 := hB14.tch0 hT20
 refine zK [0, 7, 9] #[true, false, false, false, false, false, false, true, false, true, false, false, false, false] [(16, .int .u64 ((x.1 &&& y.1 : Nat) : Int)), (23, .pointer (some ⟨w.heap.size, 1, none⟩)), (25, .pointer (some ⟨w1.heap.size, 1, none⟩))] ⟨hB4, hB8⟩ ?_
 refine zV 1 rfl (.agg #[.int .u64 ((x.1 : Nat) : Int), .int .u64 ((x.2 : Nat) : Int)]) (fun _ ⟨hB4, hB8⟩ => R_loadA [.int .u64 ((x.1 : Nat) : Int), .int .u64 ((x.2 : Nat) : Int)] (by kernel_rfl) (by kernel_rfl) (by kernel_rfl) (fun k u hk => by rw [hB4.cell]; exact get_part _ 0 _ k u rfl hk)) ⟨hB4, hB8⟩ ?_
 refine zV 4 rfl (.agg #[.int .u64 ((y.1 : Nat) : Int), .int .u64 ((y.2 : Nat) : Int)]) (fun _ ⟨hB4, hB8⟩ => R_loadA [.int .u64 ((y.1 : Nat) : Int), .int .u64 ((y.2 : Nat) : Int)] (by kernel_rfl) (by kernel_rfl) (by kernel_rfl) (fun k u hk => by rw [hB8.cell]; exact get_part _ 0 _ k u rfl hk)) ⟨hB4, hB8⟩ ?_
 refine zV 8 rfl (.int .u64 ((x.2 : Nat) : Int)) (fun _ ⟨hB4, hB8⟩ => R_load (v := .int .u64 ((x.2 : Nat) : Int)) (by kernel_rfl) (by kernel_rfl) ((hB4.cell 1).trans rfl)) ⟨hB4, hB8⟩ ?_
 refine zV 10 rfl (.int .u64 ((y.2 : Nat) : Int)) (fun _ ⟨hB4, hB8⟩ => R_load (v := .int .u64 ((y.2 : Nat) : Int)) (by kernel_rfl) (by kernel_rfl) ((hB8.cell 1).trans rfl)) ⟨hB4, hB8⟩ ?_
 refine zK [11] #[true, true, false, false, true, false, false, true, true, true, true, true, false, false] [(27, .int .u64 (IntKind.u64.wrap (BitVec.ofInt 64 ((x.2 : Nat) : Int) &&& BitVec.ofInt 64 ((y.2 : Nat) : Int)).toNat))] ⟨hB4, hB8⟩ ?_
 rw [show IntKind.u64.wrap (BitVec.ofInt 64 ((x.2 : Nat) : Int) &&& BitVec.ofInt 64 ((y.2 : Nat) : Int)).toNat = ((x.2 &&& y.2 : Nat) : Int) from and_u x.2 y.2 ux2 uy2]
 have hu22 : x.2 &&& y.2 < 18446744073709551616 := and_lt ux2
 refine zD 2 rfl (S_call (args := [.agg #[.int .u64 ((x.1 : Nat) : Int), .int .u64 ((x.2 : Nat) : Int)]]) (by kernel_rfl) (zeros_ok x.1 x.2 _ ux1 ux2) ?_)
 rintro _ w23 ⟨rfl, hT24⟩
 have hT0 := hT0.t0 hT24
 have hB4 := hB4.tch0 hT24
 have hB8 := hB8.tch0 hT24
 have hB14 := hB14.tch0 hT24
 have hu25 : andn x.1 x.2 < 18446744073709551616 := andn_lt ux1
 refine ⟨⟨hB4, hB8⟩, ?_⟩
 refine zK [3] #[true, true, true, true, true, false, false, true, true, true, true, true, false, false] [(19, .int .u64 (IntKind.u64.wrap (BitVec.ofInt 64 ((x.1 &&& y.1 : Nat) : Int) ||| BitVec.ofInt 64 ((andn x.1 x.2 : Nat) : Int)).toNat))] ⟨hB4, hB8⟩ ?_
 rw [show IntKind.u64.wrap (BitVec.ofInt 64 ((x.1 &&& y.1 : Nat) : Int) ||| BitVec.ofInt 64 ((andn x.1 x.2 : Nat) : Int)).toNat = (((x.1 &&& y.1) ||| (andn x.1 x.2) : Nat) : Int) from or_u (x.1 &&& y.1) (andn x.1 x.2) hu18 hu25]
 have hu26 : (x.1 &&& y.1) ||| (andn x.1 x.2) < 18446744073709551616 := or_lt hu18 hu25
 refine zD 5 rfl (S_call (args := [.agg #[.int .u64 ((y.1 : Nat) : Int), .int .u64 ((y.2 : Nat) : Int)]]) (by kernel_rfl) (zeros_ok y.1 y.2 _ uy1 uy2) ?_)
 rintro _ w27 ⟨rfl, hT28⟩
 have hT0 := hT0.t0 hT28
 have hB4 := hB4.tch0 hT28
 have hB8 := hB8.tch0 hT28
 have hB14 := hB14.tch0 hT28
 have hu29 : andn y.1 y.2 < 18446744073709551616 := andn_lt uy1
 refine ⟨⟨hB4, hB8⟩, ?_⟩
 refine zK [6] #[true, true, true, true, true, true, true, true, true, true, true, true, false, false] [(22, .int .u64 (IntKind.u64.wrap (BitVec.ofInt 64 (((x.1 &&& y.1) ||| (andn x.1 x.2) : Nat) : Int) ||| BitVec.ofInt 64 ((andn y.1 y.2 : Nat) : Int)).toNat))] ⟨hB4, hB8⟩ ?_
 rw [show IntKind.u64.wrap (BitVec.ofInt 64 (((x.1 &&& y.1) ||| (andn x.1 x.2) : Nat) : Int) ||| BitVec.ofInt 64 ((andn y.1 y.2 : Nat) : Int)).toNat = ((((x.1 &&& y.1) ||| (andn x.1 x.2)) ||| (andn y.1 y.2) : Nat) : Int) from or_u ((x.1 &&& y.1) ||| (andn x.1 x.2)) (andn y.1 y.2) hu26 hu29]
 have hu30 : ((x.1 &&& y.1) ||| (andn x.1 x.2)) ||| (andn y.1 y.2) < 18446744073709551616 := or_lt hu26 hu29
 refine zK [12] #[true, true, true, true, true, true, true, true, true, true, true, true, true, false] [(28, .agg #[.int .u64 ((((x.1 &&& y.1) ||| (andn x.1 x.2)) ||| (andn y.1 y.2) : Nat) : Int), .int .u64 ((x.2 &&& y.2 : Nat) : Int)])] ⟨hB4, hB8⟩ ?_
 refine zD 13 rfl (S_storeA (b := w5.heap.size) (j := 0) (cs := [.int .u64 ((((x.1 &&& y.1) ||| (andn x.1 x.2)) ||| (andn y.1 y.2) : Nat) : Int), .int .u64 ((x.2 &&& y.2 : Nat) : Int)]) (by kernel_rfl) (by kernel_rfl) (by kernel_rfl) (by simp [oneV]) hB14 (by simp) fun w31 hT32 hs33 hB14' => ?_)
 have hT0 := (hT0).then hT32 (fun c e => by have : c = w5.heap.size := e; omega)
 have hB4 := hB4.tch hT32 (fun e => by have : w.heap.size = w5.heap.size := e; omega)
 have hB8 := hB8.tch hT32 (fun e => by have : w1.heap.size = w5.heap.size := e; omega)
 replace hB14 : Blk w31 w5.heap.size 100 [.int .u64 ((((x.1 &&& y.1) ||| (andn x.1 x.2)) ||| (andn y.1 y.2) : Nat) : Int), .int .u64 ((x.2 &&& y.2 : Nat) : Int)] := hB14'
 refine ⟨⟨hB4, hB8⟩, ?_⟩
 refine d_done (by kernel_rfl) ?_
 refine W_ret ?_
 exact ⟨_, Res_cell (b := w5.heap.size) (cs := [.int .u64 ((((x.1 &&& y.1) ||| (andn x.1 x.2)) ||| (andn y.1 y.2) : Nat) : Int), .int .u64 ((x.2 &&& y.2 : Nat) : Int)]) (by rfl) (by kernel_rfl) (by kernel_rfl) hB14 (by kernel_rfl) (by kernel_rfl), ⟨congrArg kV (kg6 hx hy), hT0⟩⟩

set_option maxRecDepth 100000 in
theorem kgate7_ok (wd : Nat) (x y : K)  (w : World) (hx : KI wd x) (hy : KI wd y) (hw : wd ≤ 64) : Ret Try.prog 77 [.int .i64 7, .agg #[.int .u64 ((x.1 : Nat) : Int), .int .u64 ((x.2 : Nat) : Int)], .agg #[.int .u64 ((y.1 : Nat) : Int), .int .u64 ((y.2 : Nat) : Int)]] w fun v w' => v = .agg #[.int .u64 (((kgate 7 wd x y).1 : Nat) : Int), .int .u64 (((kgate 7 wd x y).2 : Nat) : Int)] ∧ Tch N0 w w' := by
 have ux1 := hx.u1 hw
 have ux2 := hx.u2 hw
 have uy1 := hy.u1 hw
 have uy2 := hy.u2 hw
 refine enter Try.func77 rfl rfl ?_
 refine zQ ?_
 refine st (by rfl) (S_new (v := .pointer (some ⟨w.heap.size, 0, none⟩)) (ob := .cells #[.int .u64 ((x.1 : Nat) : Int), .int .u64 ((x.2 : Nat) : Int)] 100) (by kernel_rfl) fun w1 hT2 hs3 hB4 => ?_)
 replace hB4 : Blk w1 (w.heap.size) 100 [.int .u64 ((x.1 : Nat) : Int), .int .u64 ((x.2 : Nat) : Int)] := hB4
 have hT0 := hT2
 have z9 := hT0.size
 have l10 := hB4.lt
 refine st (by rfl) (S_new (v := .pointer (some ⟨w1.heap.size, 0, none⟩)) (ob := .cells #[.int .u64 ((y.1 : Nat) : Int), .int .u64 ((y.2 : Nat) : Int)] 100) (by kernel_rfl) fun w5 hT6 hs7 hB8 => ?_)
 replace hB8 : Blk w5 (w1.heap.size) 100 [.int .u64 ((y.1 : Nat) : Int), .int .u64 ((y.2 : Nat) : Int)] := hB8
 have hT0 := hT0.t0 hT6
 have hB4 := hB4.tch0 hT6
 have z15 := hT0.size
 have l16 := hB4.lt
 have l17 := hB8.lt
 refine st (by rfl) (S_new (v := .pointer (some ⟨w5.heap.size, 0, none⟩)) (ob := .cells #[.int .u64 0, .int .u64 0] 100) (by kernel_rfl) fun w11 hT12 hs13 hB14 => ?_)
 replace hB14 : Blk w11 (w5.heap.size) 100 [.int .u64 0, .int .u64 0] := hB14
 have hT0 := hT0.t0 hT12
 have hB4 := hB4.tch0 hT12
 have hB8 := hB8.tch0 hT12
 refine op_nil ?_
 refine zQ ?_
 refine zS [(8, .pointer (some ⟨w.heap.size, 0, none⟩))] ?_
 refine zL (.int .u64 ((x.1 : Nat) : Int)) ((hB4.cell 0).trans rfl) ?_
 refine zS [(10, .pointer (some ⟨w1.heap.size, 0, none⟩))] ?_
 refine zL (.int .u64 ((y.1 : Nat) : Int)) ((hB8.cell 0).trans rfl) ?_
 refine zS [(12, .int .u64 (IntKind.u64.wrap (BitVec.ofInt 64 ((x.1 : Nat) : Int) &&& BitVec.ofInt 64 ((y.1 : Nat) : Int)).toNat))] ?_
 rw [show IntKind.u64.wrap (BitVec.ofInt 64 ((x.1 : Nat) : Int) &&& BitVec.ofInt 64 ((y.1 : Nat) : Int)).toNat = ((x.1 &&& y.1 : Nat) : Int) from and_u x.1 y.1 ux1 uy1]
 have hu18 : x.1 &&& y.1 < 18446744073709551616 := and_lt ux1
 refine zS [(7, .int .u64 ((x.1 &&& y.1 : Nat) : Int))] ?_
 refine op_nil ?_
 refine W_seq ?_
 refine zQ ?_
 refine zS [(13, .int .i64 7)] ?_
 refine op_nil ?_
 refine W_block ?_
 refine zQ ?_
 refine zS [(15, .bool false), (14, .bool false)] ?_
 refine zO false (fun h => nomatch h) (fun _ => ?_)
 refine zQ ?_
 refine zS [(30, .bool true), (29, .bool true)] ?_
 refine zO true (fun _ => ?_) (fun h => nomatch h)
 refine zQ ?_
 refine zS [(31, .int .u64 ((x.1 &&& y.1 : Nat) : Int)), (32, .pointer (some ⟨w.heap.size, 1, none⟩))] ?_
 refine zL (.int .u64 ((x.2 : Nat) : Int)) ((hB4.cell 1).trans rfl) ?_
 refine zS [(34, .int .u64 (IntKind.u64.wrap (BitVec.ofInt 64 ((x.1 &&& y.1 : Nat) : Int) ||| BitVec.ofInt 64 ((x.2 : Nat) : Int)).toNat))] ?_
 rw [show IntKind.u64.wrap (BitVec.ofInt 64 ((x.1 &&& y.1 : Nat) : Int) ||| BitVec.ofInt 64 ((x.2 : Nat) : Int)).toNat = (((x.1 &&& y.1) ||| x.2 : Nat) : Int) from or_u (x.1 &&& y.1) x.2 hu18 ux2]
 have hu19 : (x.1 &&& y.1) ||| x.2 < 18446744073709551616 := or_lt hu18 ux2
 refine zS [(35, .pointer (some ⟨w1.heap.size, 1, none⟩))] ?_
 refine zL (.int .u64 ((y.2 : Nat) : Int)) ((hB8.cell 1).trans rfl) ?_
 refine zS [(37, .int .u64 (IntKind.u64.wrap (BitVec.ofInt 64 (((x.1 &&& y.1) ||| x.2 : Nat) : Int) ||| BitVec.ofInt 64 ((y.2 : Nat) : Int)).toNat))] ?_
 rw [show IntKind.u64.wrap (BitVec.ofInt 64 (((x.1 &&& y.1) ||| x.2 : Nat) : Int) ||| BitVec.ofInt 64 ((y.2 : Nat) : Int)).toNat = ((((x.1 &&& y.1) ||| x.2) ||| y.2 : Nat) : Int) from or_u ((x.1 &&& y.1) ||| x.2) y.2 hu19 uy2]
 have hu20 : ((x.1 &&& y.1) ||| x.2) ||| y.2 < 18446744073709551616 := or_lt hu19 uy2
 refine zS [(38, .pointer (some ⟨w.heap.size, 1, none⟩))] ?_
 refine zL (.int .u64 ((x.2 : Nat) : Int)) ((hB4.cell 1).trans rfl) ?_
 refine zS [(40, .pointer (some ⟨w1.heap.size, 1, none⟩))] ?_
 refine zL (.int .u64 ((y.2 : Nat) : Int)) ((hB8.cell 1).trans rfl) ?_
 refine zS [(42, .int .u64 (IntKind.u64.wrap (BitVec.ofInt 64 ((x.2 : Nat) : Int) ||| BitVec.ofInt 64 ((y.2 : Nat) : Int)).toNat))] ?_
 rw [show IntKind.u64.wrap (BitVec.ofInt 64 ((x.2 : Nat) : Int) ||| BitVec.ofInt 64 ((y.2 : Nat) : Int)).toNat = ((x.2 ||| y.2 : Nat) : Int) from or_u x.2 y.2 ux2 uy2]
 have hu21 : x.2 ||| y.2 < 18446744073709551616 := or_lt ux2 uy2
 refine zS [(43, .agg #[.int .u64 ((((x.1 &&& y.1) ||| x.2) ||| y.2 : Nat) : Int), .int .u64 ((x.2 ||| y.2 : Nat) : Int)])] ?_
 refine st (by rfl) (S_storeA (b := w5.heap.size) (j := 0) (cs := [.int .u64 ((((x.1 &&& y.1) ||| x.2) ||| y.2 : Nat) : Int), .int .u64 ((x.2 ||| y.2 : Nat) : Int)]) (by kernel_rfl) (by kernel_rfl) (by kernel_rfl) (by simp [oneV]) hB14 (by simp) fun w22 hT23 hs24 hB14' => ?_)
 have hT0 := (hT0).then hT23 (fun c e => by have : c = w5.heap.size := e; omega)
 have hB4 := hB4.tch hT23 (fun e => by have : w.heap.size = w5.heap.size := e; omega)
 have hB8 := hB8.tch hT23 (fun e => by have : w1.heap.size = w5.heap.size := e; omega)
 replace hB14 : Blk w22 w5.heap.size 100 [.int .u64 ((((x.1 &&& y.1) ||| x.2) ||| y.2 : Nat) : Int), .int .u64 ((x.2 ||| y.2 : Nat) : Int)] := hB14'
 refine op_nil ?_
 refine W_ret ?_
 exact ⟨_, Res_cell (b := w5.heap.size) (cs := [.int .u64 ((((x.1 &&& y.1) ||| x.2) ||| y.2 : Nat) : Int), .int .u64 ((x.2 ||| y.2 : Nat) : Int)]) (by rfl) (by kernel_rfl) (by kernel_rfl) hB14 (by kernel_rfl) (by kernel_rfl), ⟨congrArg kV (kg7 hx hy), hT0⟩⟩

set_option maxRecDepth 100000 in
theorem kgate8_ok (wd : Nat) (x y : K)  (w : World) (hx : KI wd x) (hy : KI wd y) (hw : wd ≤ 64) : Ret Try.prog 77 [.int .i64 8, .agg #[.int .u64 ((x.1 : Nat) : Int), .int .u64 ((x.2 : Nat) : Int)], .agg #[.int .u64 ((y.1 : Nat) : Int), .int .u64 ((y.2 : Nat) : Int)]] w fun v w' => v = .agg #[.int .u64 (((kgate 8 wd x y).1 : Nat) : Int), .int .u64 (((kgate 8 wd x y).2 : Nat) : Int)] ∧ Tch N0 w w' := by
 have ux1 := hx.u1 hw
 have ux2 := hx.u2 hw
 have uy1 := hy.u1 hw
 have uy2 := hy.u2 hw
 refine enter Try.func77 rfl rfl ?_
 refine zQ ?_
 refine st (by rfl) (S_new (v := .pointer (some ⟨w.heap.size, 0, none⟩)) (ob := .cells #[.int .u64 ((x.1 : Nat) : Int), .int .u64 ((x.2 : Nat) : Int)] 100) (by kernel_rfl) fun w1 hT2 hs3 hB4 => ?_)
 replace hB4 : Blk w1 (w.heap.size) 100 [.int .u64 ((x.1 : Nat) : Int), .int .u64 ((x.2 : Nat) : Int)] := hB4
 have hT0 := hT2
 have z9 := hT0.size
 have l10 := hB4.lt
 refine st (by rfl) (S_new (v := .pointer (some ⟨w1.heap.size, 0, none⟩)) (ob := .cells #[.int .u64 ((y.1 : Nat) : Int), .int .u64 ((y.2 : Nat) : Int)] 100) (by kernel_rfl) fun w5 hT6 hs7 hB8 => ?_)
 replace hB8 : Blk w5 (w1.heap.size) 100 [.int .u64 ((y.1 : Nat) : Int), .int .u64 ((y.2 : Nat) : Int)] := hB8
 have hT0 := hT0.t0 hT6
 have hB4 := hB4.tch0 hT6
 have z15 := hT0.size
 have l16 := hB4.lt
 have l17 := hB8.lt
 refine st (by rfl) (S_new (v := .pointer (some ⟨w5.heap.size, 0, none⟩)) (ob := .cells #[.int .u64 0, .int .u64 0] 100) (by kernel_rfl) fun w11 hT12 hs13 hB14 => ?_)
 replace hB14 : Blk w11 (w5.heap.size) 100 [.int .u64 0, .int .u64 0] := hB14
 have hT0 := hT0.t0 hT12
 have hB4 := hB4.tch0 hT12
 have hB8 := hB8.tch0 hT12
 refine op_nil ?_
 refine zQ ?_
 refine zS [(8, .pointer (some ⟨w.heap.size, 0, none⟩))] ?_
 refine zL (.int .u64 ((x.1 : Nat) : Int)) ((hB4.cell 0).trans rfl) ?_
 refine zS [(10, .pointer (some ⟨w1.heap.size, 0, none⟩))] ?_
 refine zL (.int .u64 ((y.1 : Nat) : Int)) ((hB8.cell 0).trans rfl) ?_
 refine zS [(12, .int .u64 (IntKind.u64.wrap (BitVec.ofInt 64 ((x.1 : Nat) : Int) &&& BitVec.ofInt 64 ((y.1 : Nat) : Int)).toNat))] ?_
 rw [show IntKind.u64.wrap (BitVec.ofInt 64 ((x.1 : Nat) : Int) &&& BitVec.ofInt 64 ((y.1 : Nat) : Int)).toNat = ((x.1 &&& y.1 : Nat) : Int) from and_u x.1 y.1 ux1 uy1]
 have hu18 : x.1 &&& y.1 < 18446744073709551616 := and_lt ux1
 refine zS [(7, .int .u64 ((x.1 &&& y.1 : Nat) : Int))] ?_
 refine op_nil ?_
 refine W_seq ?_
 refine zQ ?_
 refine zS [(13, .int .i64 8)] ?_
 refine op_nil ?_
 refine W_block ?_
 refine zQ ?_
 refine zS [(15, .bool false), (14, .bool false)] ?_
 refine zO false (fun h => nomatch h) (fun _ => ?_)
 refine zQ ?_
 refine zS [(30, .bool false), (29, .bool false)] ?_
 refine zO false (fun h => nomatch h) (fun _ => ?_)
 refine W_skip ?_
 refine zQ ?_
 refine zS [(44, .int .u64 ((x.1 &&& y.1 : Nat) : Int)), (45, .pointer (some ⟨w.heap.size, 1, none⟩))] ?_
 refine zL (.int .u64 ((x.2 : Nat) : Int)) ((hB4.cell 1).trans rfl) ?_
 refine zS [(47, .pointer (some ⟨w1.heap.size, 1, none⟩))] ?_
 refine zL (.int .u64 ((y.2 : Nat) : Int)) ((hB8.cell 1).trans rfl) ?_
 refine zS [(49, .int .u64 (IntKind.u64.wrap (BitVec.ofInt 64 ((x.2 : Nat) : Int) ^^^ BitVec.ofInt 64 ((y.2 : Nat) : Int)).toNat))] ?_
 rw [show IntKind.u64.wrap (BitVec.ofInt 64 ((x.2 : Nat) : Int) ^^^ BitVec.ofInt 64 ((y.2 : Nat) : Int)).toNat = ((x.2 ^^^ y.2 : Nat) : Int) from xor_u x.2 y.2 ux2 uy2]
 have hu19 : x.2 ^^^ y.2 < 18446744073709551616 := xor_lt ux2 uy2
 refine zS [(50, .int .u64 ((x.1 &&& y.1 : Nat) : Int)), (51, .int .u64 (IntKind.u64.wrap (BitVec.ofInt 64 ((x.2 ^^^ y.2 : Nat) : Int) &&& BitVec.ofInt 64 ((x.1 &&& y.1 : Nat) : Int)).toNat))] ?_
 rw [show IntKind.u64.wrap (BitVec.ofInt 64 ((x.2 ^^^ y.2 : Nat) : Int) &&& BitVec.ofInt 64 ((x.1 &&& y.1 : Nat) : Int)).toNat = (((x.2 ^^^ y.2) &&& (x.1 &&& y.1) : Nat) : Int) from and_u (x.2 ^^^ y.2) (x.1 &&& y.1) hu19 hu18]
 have hu20 : (x.2 ^^^ y.2) &&& (x.1 &&& y.1) < 18446744073709551616 := and_lt hu19
 refine zS [(52, .agg #[.int .u64 ((x.1 &&& y.1 : Nat) : Int), .int .u64 (((x.2 ^^^ y.2) &&& (x.1 &&& y.1) : Nat) : Int)])] ?_
 refine st (by rfl) (S_storeA (b := w5.heap.size) (j := 0) (cs := [.int .u64 ((x.1 &&& y.1 : Nat) : Int), .int .u64 (((x.2 ^^^ y.2) &&& (x.1 &&& y.1) : Nat) : Int)]) (by kernel_rfl) (by kernel_rfl) (by kernel_rfl) (by simp [oneV]) hB14 (by simp) fun w21 hT22 hs23 hB14' => ?_)
 have hT0 := (hT0).then hT22 (fun c e => by have : c = w5.heap.size := e; omega)
 have hB4 := hB4.tch hT22 (fun e => by have : w.heap.size = w5.heap.size := e; omega)
 have hB8 := hB8.tch hT22 (fun e => by have : w1.heap.size = w5.heap.size := e; omega)
 replace hB14 : Blk w21 w5.heap.size 100 [.int .u64 ((x.1 &&& y.1 : Nat) : Int), .int .u64 (((x.2 ^^^ y.2) &&& (x.1 &&& y.1) : Nat) : Int)] := hB14'
 refine op_nil ?_
 refine W_ret ?_
 exact ⟨_, Res_cell (b := w5.heap.size) (cs := [.int .u64 ((x.1 &&& y.1 : Nat) : Int), .int .u64 (((x.2 ^^^ y.2) &&& (x.1 &&& y.1) : Nat) : Int)]) (by rfl) (by kernel_rfl) (by kernel_rfl) hB14 (by kernel_rfl) (by kernel_rfl), ⟨congrArg kV (kg8 hx hy), hT0⟩⟩

set_option maxRecDepth 100000 in
theorem ksum_ok (wd : Nat) (x y : K)  (w : World) (hx : KI wd x) (hy : KI wd y) (hw : wd ≤ 64) : Ret Try.prog 78 [.int .i64 ((wd : Nat) : Int), .agg #[.int .u64 ((x.1 : Nat) : Int), .int .u64 ((x.2 : Nat) : Int)], .agg #[.int .u64 ((y.1 : Nat) : Int), .int .u64 ((y.2 : Nat) : Int)]] w fun v w' => v = .agg #[.int .u64 (((ksum wd x y).1 : Nat) : Int), .int .u64 (((ksum wd x y).2 : Nat) : Int)] ∧ Tch N0 w w' := by
 have ux1 := hx.u1 hw
 have ux2 := hx.u2 hw
 have uy1 := hy.u1 hw
 have uy2 := hy.u2 hw
 refine enter Try.func78 rfl rfl ?_
 refine zQ ?_
 refine st (by rfl) (S_new (v := .pointer (some ⟨w.heap.size, 0, none⟩)) (ob := .cells #[.int .u64 ((x.1 : Nat) : Int), .int .u64 ((x.2 : Nat) : Int)] 100) (by kernel_rfl) fun w1 hT2 hs3 hB4 => ?_)
 replace hB4 : Blk w1 (w.heap.size) 100 [.int .u64 ((x.1 : Nat) : Int), .int .u64 ((x.2 : Nat) : Int)] := hB4
 have hT0 := hT2
 have z9 := hT0.size
 have l10 := hB4.lt
 refine st (by rfl) (S_new (v := .pointer (some ⟨w1.heap.size, 0, none⟩)) (ob := .cells #[.int .u64 ((y.1 : Nat) : Int), .int .u64 ((y.2 : Nat) : Int)] 100) (by kernel_rfl) fun w5 hT6 hs7 hB8 => ?_)
 replace hB8 : Blk w5 (w1.heap.size) 100 [.int .u64 ((y.1 : Nat) : Int), .int .u64 ((y.2 : Nat) : Int)] := hB8
 have hT0 := hT0.t0 hT6
 have hB4 := hB4.tch0 hT6
 have z15 := hT0.size
 have l16 := hB4.lt
 have l17 := hB8.lt
 refine st (by rfl) (S_new (v := .pointer (some ⟨w5.heap.size, 0, none⟩)) (ob := .cells #[.int .u64 0, .int .u64 0] 100) (by kernel_rfl) fun w11 hT12 hs13 hB14 => ?_)
 replace hB14 : Blk w11 (w5.heap.size) 100 [.int .u64 0, .int .u64 0] := hB14
 have hT0 := hT0.t0 hT12
 have hB4 := hB4.tch0 hT12
 have hB8 := hB8.tch0 hT12
 refine op_nil ?_
 refine zQ ?_
 refine zS [(7, .int .i64 0)] ?_
 refine op_nil ?_
 refine W_seq ?_
 refine zQ ?_
 refine zS [(10, .int .i64 ((wd : Nat) : Int)), (11, .int .i64 0)] ?_
 refine op_nil ?_
 refine W_block ?_
 refine W_loop (fun m ρ w' => ∃ (i : Nat) (ρ0 : Env), ρ = updL ρ0 [(4, .pointer (some ⟨w.heap.size, 0, none⟩)), (5, .pointer (some ⟨w1.heap.size, 0, none⟩)), (6, .pointer (some ⟨w5.heap.size, 0, none⟩)), (7, .int .i64 ((i : Nat) : Int)), (10, .int .i64 ((wd : Nat) : Int)), (11, .int .i64 ((i : Nat) : Int))] ∧ (i ≤ wd) ∧ (∀ s, s < i → bothB x y s = true) ∧ Tch N0 w w' ∧ Blk w' (w.heap.size) 100 [.int .u64 ((x.1 : Nat) : Int), .int .u64 ((x.2 : Nat) : Int)] ∧ Blk w' (w1.heap.size) 100 [.int .u64 ((y.1 : Nat) : Int), .int .u64 ((y.2 : Nat) : Int)] ∧ Blk w' (w5.heap.size) 100 [.int .u64 0, .int .u64 0] ∧ m = wd - i) (m := wd - 0) ?_ ?_
 ·
  refine ⟨0, _, updL_self (by kernel_rfl), by omega, (fun s h => by omega), hT0, hB4, hB8, hB14, rfl⟩
 ·
  rintro m ρ w18 ⟨i, ρ, rfl, hi, hb, hT0, hQ0, hQ1, hQ2, rfl⟩
  refine zQ ?_
  refine zS [(12, .bool (decide (((i : Nat) : Int) < ((wd : Nat) : Int))))] ?_
  refine op_nil ?_
  refine W_seq ?_
  refine zW (decide (((i : Nat) : Int) < ((wd : Nat) : Int))) (fun hc19 => ?_) (fun hc19 => ?_)
  ·
   replace hc19 : ((i : Nat) : Int) < ((wd : Nat) : Int) := (of_decide_eq_true hc19)
   refine W_skip ?_
   refine W_seq ?_
   refine W_block ?_
   refine zQ ?_
   refine zS [(13, .int .i64 ((i : Nat) : Int)), (8, .int .i64 ((i : Nat) : Int))] ?_
   refine op_nil ?_
   refine W_seq ?_
   refine zQ ?_
   refine zS [(14, .pointer (some ⟨w.heap.size, 0, none⟩))] ?_
   refine zL (.int .u64 ((x.1 : Nat) : Int)) ((hQ0.cell 0).trans rfl) ?_
   refine zS [(16, .pointer (some ⟨w1.heap.size, 0, none⟩))] ?_
   refine zL (.int .u64 ((y.1 : Nat) : Int)) ((hQ1.cell 0).trans rfl) ?_
   refine zS [(18, .int .u64 (IntKind.u64.wrap (BitVec.ofInt 64 ((x.1 : Nat) : Int) &&& BitVec.ofInt 64 ((y.1 : Nat) : Int)).toNat))] ?_
   rw [show IntKind.u64.wrap (BitVec.ofInt 64 ((x.1 : Nat) : Int) &&& BitVec.ofInt 64 ((y.1 : Nat) : Int)).toNat = ((x.1 &&& y.1 : Nat) : Int) from and_u x.1 y.1 ux1 uy1]
   have hu20 : x.1 &&& y.1 < 18446744073709551616 := and_lt ux1
   refine zS [(19, .int .i64 ((i : Nat) : Int))] ?_
   refine stv (v := .int .u64 (((x.1 &&& y.1) / pw i : Nat) : Int)) (by rfl) (R_shrP (k2 := .i64) (x.1 &&& y.1) i (by kernel_rfl) (by kernel_rfl) (by omega)) ?_
   have hu21 : (x.1 &&& y.1) / pw i < 18446744073709551616 := div_lt64 hu20
   refine zS [(21, .int .u64 (IntKind.u64.wrap (BitVec.ofInt 64 (((x.1 &&& y.1) / pw i : Nat) : Int) &&& BitVec.ofInt 64 1).toNat))] ?_
   rw [show IntKind.u64.wrap (BitVec.ofInt 64 (((x.1 &&& y.1) / pw i : Nat) : Int) &&& BitVec.ofInt 64 1).toNat = ((((x.1 &&& y.1) / pw i) &&& 1 : Nat) : Int) from and_u ((x.1 &&& y.1) / pw i) 1 hu21 (by omega)]
   have hu22 : ((x.1 &&& y.1) / pw i) &&& 1 < 18446744073709551616 := and_lt hu21
   refine zS [(22, .bool (((((x.1 &&& y.1) / pw i) &&& 1 : Nat) : Int) == 0))] ?_
   refine zO (((((x.1 &&& y.1) / pw i) &&& 1 : Nat) : Int) == 0) (fun hc23 => ?_) (fun hc23 => ?_)
   ·
    replace hc23 : ((((x.1 &&& y.1) / pw i) &&& 1 : Nat) : Int) = 0 := (eq_of_beq hc23)
    refine W_exit ?_
    refine X_miss rfl ?_
    refine X_hit ?_
    refine zQ ?_
    refine zS [(26, .int .i64 ((i : Nat) : Int))] ?_
    refine zC (mask_okN i _ (by omega)) ?_
    rintro _ w24 ⟨rfl, hT25⟩
    have hT0 := hT0.t0 hT25
    have hQ0 := hQ0.tch0 hT25
    have hQ1 := hQ1.tch0 hT25
    have hQ2 := hQ2.tch0 hT25
    have hu26 := pwm_lt (x := i) (by omega)
    refine zS [(9, .int .u64 ((pw i - 1 : Nat) : Int))] ?_
    refine op_nil ?_
    refine zQ ?_
    refine zS [(28, .int .u64 ((pw i - 1 : Nat) : Int)), (29, .pointer (some ⟨w.heap.size, 1, none⟩))] ?_
    refine zL (.int .u64 ((x.2 : Nat) : Int)) ((hQ0.cell 1).trans rfl) ?_
    refine zS [(31, .pointer (some ⟨w1.heap.size, 1, none⟩))] ?_
    refine zL (.int .u64 ((y.2 : Nat) : Int)) ((hQ1.cell 1).trans rfl) ?_
    refine zS [(33, .int .u64 (IntKind.u64.wrap (((x.2 : Nat) : Int) + ((y.2 : Nat) : Int))))] ?_
    rw [show IntKind.u64.wrap (((x.2 : Nat) : Int) + ((y.2 : Nat) : Int)) = (((x.2 + y.2) % 18446744073709551616 : Nat) : Int) from u64_add x.2 y.2]
    have hu27 : (x.2 + y.2) % 18446744073709551616 < 18446744073709551616 := mod_lt64 _
    refine zS [(34, .int .u64 ((pw i - 1 : Nat) : Int)), (35, .int .u64 (IntKind.u64.wrap (BitVec.ofInt 64 (((x.2 + y.2) % 18446744073709551616 : Nat) : Int) &&& BitVec.ofInt 64 ((pw i - 1 : Nat) : Int)).toNat))] ?_
    rw [show IntKind.u64.wrap (BitVec.ofInt 64 (((x.2 + y.2) % 18446744073709551616 : Nat) : Int) &&& BitVec.ofInt 64 ((pw i - 1 : Nat) : Int)).toNat = ((((x.2 + y.2) % 18446744073709551616) &&& (pw i - 1) : Nat) : Int) from and_u ((x.2 + y.2) % 18446744073709551616) (pw i - 1) hu27 hu26]
    have hu28 : ((x.2 + y.2) % 18446744073709551616) &&& (pw i - 1) < 18446744073709551616 := and_lt hu27
    refine zS [(36, .agg #[.int .u64 ((pw i - 1 : Nat) : Int), .int .u64 ((((x.2 + y.2) % 18446744073709551616) &&& (pw i - 1) : Nat) : Int)])] ?_
    refine st (by rfl) (S_storeA (b := w5.heap.size) (j := 0) (cs := [.int .u64 ((pw i - 1 : Nat) : Int), .int .u64 ((((x.2 + y.2) % 18446744073709551616) &&& (pw i - 1) : Nat) : Int)]) (by kernel_rfl) (by kernel_rfl) (by kernel_rfl) (by simp [oneV]) hQ2 (by simp) fun w29 hT30 hs31 hQ2' => ?_)
    have hT0 := (hT0).then hT30 (fun c e => by have : c = w5.heap.size := e; omega)
    have hQ0 := hQ0.tch hT30 (fun e => by have : w.heap.size = w5.heap.size := e; omega)
    have hQ1 := hQ1.tch hT30 (fun e => by have : w1.heap.size = w5.heap.size := e; omega)
    replace hQ2 : Blk w29 w5.heap.size 100 [.int .u64 ((pw i - 1 : Nat) : Int), .int .u64 ((((x.2 + y.2) % 18446744073709551616) &&& (pw i - 1) : Nat) : Int)] := hQ2'
    refine op_nil ?_
    refine W_ret ?_
    refine ⟨_, Res_cell (b := w5.heap.size) (cs := [.int .u64 ((pw i - 1 : Nat) : Int), .int .u64 ((((x.2 + y.2) % 18446744073709551616) &&& (pw i - 1) : Nat) : Int)]) (by rfl) (by kernel_rfl) (by kernel_rfl) hQ2 (by kernel_rfl) (by kernel_rfl), ?_⟩
    have hor : i = wd ∨ bothB x y i = false := by first | exact .inl (by omega) | exact .inr (both_f (by assumption))
    have e := ksum_eq hi hb hor
    rw [← sum_fin (by omega)] at e
    exact ⟨congrArg kV e, hT0⟩
   ·
    replace hc23 : ((((x.1 &&& y.1) / pw i) &&& 1 : Nat) : Int) ≠ 0 := (ne_of_beq_false hc23)
    refine W_skip ?_
    refine zR ?_
    refine zS [(23, .int .i64 ((i : Nat) : Int)), (24, .int .i64 (IntKind.i64.wrap (((i : Nat) : Int) + 1)))] ?_
    rw [show IntKind.i64.wrap (((i : Nat) : Int) + 1) = ((i : Nat) : Int) + 1 from wrap_i64 (by omega) (by omega)]
    refine fixR (y := ((i + 1 : Nat) : Int)) (by omega) ?_
    refine zS [(7, .int .i64 ((i + 1 : Nat) : Int))] ?_
    refine op_nil ?_
    refine zR ?_
    refine zS [(25, .int .i64 (IntKind.i64.wrap (((i : Nat) : Int) + 1)))] ?_
    rw [show IntKind.i64.wrap (((i : Nat) : Int) + 1) = ((i : Nat) : Int) + 1 from wrap_i64 (by omega) (by omega)]
    refine fixR (y := ((i + 1 : Nat) : Int)) (by omega) ?_
    refine zS [(11, .int .i64 ((i + 1 : Nat) : Int))] ?_
    refine op_nil ?_
    refine ⟨_, ?_, i + 1, _, updL_self (by kernel_rfl), ?_, (fun s h => by by_cases e : s = i; (rw [e]; exact both_t (by assumption)); exact hb s (by omega)), hT0, hQ0, hQ1, hQ2, rfl⟩
    ·
     omega
    ·
     omega
  ·
   replace hc19 : ((wd : Nat) : Int) ≤ ((i : Nat) : Int) := (Int.not_lt.1 (of_decide_eq_false hc19))
   refine W_exit ?_
   refine X_hit ?_
   refine zQ ?_
   refine zS [(26, .int .i64 ((i : Nat) : Int))] ?_
   refine zC (mask_okN i _ (by omega)) ?_
   rintro _ w32 ⟨rfl, hT33⟩
   have hT0 := hT0.t0 hT33
   have hQ0 := hQ0.tch0 hT33
   have hQ1 := hQ1.tch0 hT33
   have hQ2 := hQ2.tch0 hT33
   have hu34 := pwm_lt (x := i) (by omega)
   refine zS [(9, .int .u64 ((pw i - 1 : Nat) : Int))] ?_
   refine op_nil ?_
   refine zQ ?_
   refine zS [(28, .int .u64 ((pw i - 1 : Nat) : Int)), (29, .pointer (some ⟨w.heap.size, 1, none⟩))] ?_
   refine zL (.int .u64 ((x.2 : Nat) : Int)) ((hQ0.cell 1).trans rfl) ?_
   refine zS [(31, .pointer (some ⟨w1.heap.size, 1, none⟩))] ?_
   refine zL (.int .u64 ((y.2 : Nat) : Int)) ((hQ1.cell 1).trans rfl) ?_
   refine zS [(33, .int .u64 (IntKind.u64.wrap (((x.2 : Nat) : Int) + ((y.2 : Nat) : Int))))] ?_
   rw [show IntKind.u64.wrap (((x.2 : Nat) : Int) + ((y.2 : Nat) : Int)) = (((x.2 + y.2) % 18446744073709551616 : Nat) : Int) from u64_add x.2 y.2]
   have hu35 : (x.2 + y.2) % 18446744073709551616 < 18446744073709551616 := mod_lt64 _
   refine zS [(34, .int .u64 ((pw i - 1 : Nat) : Int)), (35, .int .u64 (IntKind.u64.wrap (BitVec.ofInt 64 (((x.2 + y.2) % 18446744073709551616 : Nat) : Int) &&& BitVec.ofInt 64 ((pw i - 1 : Nat) : Int)).toNat))] ?_
   rw [show IntKind.u64.wrap (BitVec.ofInt 64 (((x.2 + y.2) % 18446744073709551616 : Nat) : Int) &&& BitVec.ofInt 64 ((pw i - 1 : Nat) : Int)).toNat = ((((x.2 + y.2) % 18446744073709551616) &&& (pw i - 1) : Nat) : Int) from and_u ((x.2 + y.2) % 18446744073709551616) (pw i - 1) hu35 hu34]
   have hu36 : ((x.2 + y.2) % 18446744073709551616) &&& (pw i - 1) < 18446744073709551616 := and_lt hu35
   refine zS [(36, .agg #[.int .u64 ((pw i - 1 : Nat) : Int), .int .u64 ((((x.2 + y.2) % 18446744073709551616) &&& (pw i - 1) : Nat) : Int)])] ?_
   refine st (by rfl) (S_storeA (b := w5.heap.size) (j := 0) (cs := [.int .u64 ((pw i - 1 : Nat) : Int), .int .u64 ((((x.2 + y.2) % 18446744073709551616) &&& (pw i - 1) : Nat) : Int)]) (by kernel_rfl) (by kernel_rfl) (by kernel_rfl) (by simp [oneV]) hQ2 (by simp) fun w37 hT38 hs39 hQ2' => ?_)
   have hT0 := (hT0).then hT38 (fun c e => by have : c = w5.heap.size := e; omega)
   have hQ0 := hQ0.tch hT38 (fun e => by have : w.heap.size = w5.heap.size := e; omega)
   have hQ1 := hQ1.tch hT38 (fun e => by have : w1.heap.size = w5.heap.size := e; omega)
   replace hQ2 : Blk w37 w5.heap.size 100 [.int .u64 ((pw i - 1 : Nat) : Int), .int .u64 ((((x.2 + y.2) % 18446744073709551616) &&& (pw i - 1) : Nat) : Int)] := hQ2'
   refine op_nil ?_
   refine W_ret ?_
   refine ⟨_, Res_cell (b := w5.heap.size) (cs := [.int .u64 ((pw i - 1 : Nat) : Int), .int .u64 ((((x.2 + y.2) % 18446744073709551616) &&& (pw i - 1) : Nat) : Int)]) (by rfl) (by kernel_rfl) (by kernel_rfl) hQ2 (by kernel_rfl) (by kernel_rfl), ?_⟩
   have hor : i = wd ∨ bothB x y i = false := by first | exact .inl (by omega) | exact .inr (both_f (by assumption))
   have e := ksum_eq hi hb hor
   rw [← sum_fin (by omega)] at e
   exact ⟨congrArg kV e, hT0⟩

set_option maxRecDepth 100000 in
theorem keq_ok (wd : Nat) (x y : K)  (w : World) (hx : KI wd x) (hy : KI wd y) (hw : wd ≤ 64) : Ret Try.prog 79 [.int .i64 ((wd : Nat) : Int), .agg #[.int .u64 ((x.1 : Nat) : Int), .int .u64 ((x.2 : Nat) : Int)], .agg #[.int .u64 ((y.1 : Nat) : Int), .int .u64 ((y.2 : Nat) : Int)]] w fun v w' => v = .agg #[.int .u64 (((keq wd x y).1 : Nat) : Int), .int .u64 (((keq wd x y).2 : Nat) : Int)] ∧ Tch N0 w w' := by
 have ux1 := hx.u1 hw
 have ux2 := hx.u2 hw
 have uy1 := hy.u1 hw
 have uy2 := hy.u2 hw
 refine enter Try.func79 rfl rfl ?_
 refine zQ ?_
 refine st (by rfl) (S_new (v := .pointer (some ⟨w.heap.size, 0, none⟩)) (ob := .cells #[.int .u64 ((x.1 : Nat) : Int), .int .u64 ((x.2 : Nat) : Int)] 100) (by kernel_rfl) fun w1 hT2 hs3 hB4 => ?_)
 replace hB4 : Blk w1 (w.heap.size) 100 [.int .u64 ((x.1 : Nat) : Int), .int .u64 ((x.2 : Nat) : Int)] := hB4
 have hT0 := hT2
 have z9 := hT0.size
 have l10 := hB4.lt
 refine st (by rfl) (S_new (v := .pointer (some ⟨w1.heap.size, 0, none⟩)) (ob := .cells #[.int .u64 ((y.1 : Nat) : Int), .int .u64 ((y.2 : Nat) : Int)] 100) (by kernel_rfl) fun w5 hT6 hs7 hB8 => ?_)
 replace hB8 : Blk w5 (w1.heap.size) 100 [.int .u64 ((y.1 : Nat) : Int), .int .u64 ((y.2 : Nat) : Int)] := hB8
 have hT0 := hT0.t0 hT6
 have hB4 := hB4.tch0 hT6
 have z15 := hT0.size
 have l16 := hB4.lt
 have l17 := hB8.lt
 refine st (by rfl) (S_new (v := .pointer (some ⟨w5.heap.size, 0, none⟩)) (ob := .cells #[.int .u64 0, .int .u64 0] 100) (by kernel_rfl) fun w11 hT12 hs13 hB14 => ?_)
 replace hB14 : Blk w11 (w5.heap.size) 100 [.int .u64 0, .int .u64 0] := hB14
 have hT0 := hT0.t0 hT12
 have hB4 := hB4.tch0 hT12
 have hB8 := hB8.tch0 hT12
 refine op_nil ?_
 refine zQ ?_
 refine zS [(8, .pointer (some ⟨w.heap.size, 0, none⟩))] ?_
 refine zL (.int .u64 ((x.1 : Nat) : Int)) ((hB4.cell 0).trans rfl) ?_
 refine zS [(10, .pointer (some ⟨w1.heap.size, 0, none⟩))] ?_
 refine zL (.int .u64 ((y.1 : Nat) : Int)) ((hB8.cell 0).trans rfl) ?_
 refine zS [(12, .int .u64 (IntKind.u64.wrap (BitVec.ofInt 64 ((x.1 : Nat) : Int) &&& BitVec.ofInt 64 ((y.1 : Nat) : Int)).toNat))] ?_
 rw [show IntKind.u64.wrap (BitVec.ofInt 64 ((x.1 : Nat) : Int) &&& BitVec.ofInt 64 ((y.1 : Nat) : Int)).toNat = ((x.1 &&& y.1 : Nat) : Int) from and_u x.1 y.1 ux1 uy1]
 have hu18 : x.1 &&& y.1 < 18446744073709551616 := and_lt ux1
 refine zS [(7, .int .u64 ((x.1 &&& y.1 : Nat) : Int))] ?_
 refine op_nil ?_
 refine W_seq ?_
 refine W_block ?_
 refine zQ ?_
 refine zS [(14, .pointer (some ⟨w.heap.size, 1, none⟩))] ?_
 refine zL (.int .u64 ((x.2 : Nat) : Int)) ((hB4.cell 1).trans rfl) ?_
 refine zS [(16, .pointer (some ⟨w1.heap.size, 1, none⟩))] ?_
 refine zL (.int .u64 ((y.2 : Nat) : Int)) ((hB8.cell 1).trans rfl) ?_
 refine zS [(18, .int .u64 (IntKind.u64.wrap (BitVec.ofInt 64 ((x.2 : Nat) : Int) ^^^ BitVec.ofInt 64 ((y.2 : Nat) : Int)).toNat))] ?_
 rw [show IntKind.u64.wrap (BitVec.ofInt 64 ((x.2 : Nat) : Int) ^^^ BitVec.ofInt 64 ((y.2 : Nat) : Int)).toNat = ((x.2 ^^^ y.2 : Nat) : Int) from xor_u x.2 y.2 ux2 uy2]
 have hu19 : x.2 ^^^ y.2 < 18446744073709551616 := xor_lt ux2 uy2
 refine zS [(19, .int .u64 ((x.1 &&& y.1 : Nat) : Int)), (20, .int .u64 (IntKind.u64.wrap (BitVec.ofInt 64 ((x.2 ^^^ y.2 : Nat) : Int) &&& BitVec.ofInt 64 ((x.1 &&& y.1 : Nat) : Int)).toNat))] ?_
 rw [show IntKind.u64.wrap (BitVec.ofInt 64 ((x.2 ^^^ y.2 : Nat) : Int) &&& BitVec.ofInt 64 ((x.1 &&& y.1 : Nat) : Int)).toNat = (((x.2 ^^^ y.2) &&& (x.1 &&& y.1) : Nat) : Int) from and_u (x.2 ^^^ y.2) (x.1 &&& y.1) hu19 hu18]
 have hu20 : (x.2 ^^^ y.2) &&& (x.1 &&& y.1) < 18446744073709551616 := and_lt hu19
 refine zS [(21, .bool ((((x.2 ^^^ y.2) &&& (x.1 &&& y.1) : Nat) : Int) != 0)), (13, .bool ((((x.2 ^^^ y.2) &&& (x.1 &&& y.1) : Nat) : Int) != 0))] ?_
 refine zO ((((x.2 ^^^ y.2) &&& (x.1 &&& y.1) : Nat) : Int) != 0) (fun hc21 => ?_) (fun hc21 => ?_)
 ·
  replace hc21 : (((x.2 ^^^ y.2) &&& (x.1 &&& y.1) : Nat) : Int) ≠ 0 := (bne_iff_ne.1 hc21)
  refine zQ ?_
  refine zS [(22, .agg #[.int .u64 1, .int .u64 0])] ?_
  refine st (by rfl) (S_storeA (b := w5.heap.size) (j := 0) (cs := [.int .u64 1, .int .u64 0]) (by kernel_rfl) (by kernel_rfl) (by kernel_rfl) (by simp [oneV]) hB14 (by simp) fun w22 hT23 hs24 hB14' => ?_)
  have hT0 := (hT0).then hT23 (fun c e => by have : c = w5.heap.size := e; omega)
  have hB4 := hB4.tch hT23 (fun e => by have : w.heap.size = w5.heap.size := e; omega)
  have hB8 := hB8.tch hT23 (fun e => by have : w1.heap.size = w5.heap.size := e; omega)
  replace hB14 : Blk w22 w5.heap.size 100 [.int .u64 1, .int .u64 0] := hB14'
  refine op_nil ?_
  refine W_ret ?_
  refine ⟨_, Res_cell (b := w5.heap.size) (cs := [.int .u64 1, .int .u64 0]) (by rfl) (by kernel_rfl) (by kernel_rfl) hB14 (by kernel_rfl) (by kernel_rfl), ?_⟩
  have e : keq wd x y = (1, 0) := by unfold keq; rw [← keq_d hx, ← keq_b hx]; rw [if_pos (by omega)]
  rw [e]
  exact ⟨rfl, hT0⟩
 ·
  replace hc21 : (((x.2 ^^^ y.2) &&& (x.1 &&& y.1) : Nat) : Int) = 0 := (bne_eq_false_iff_eq.1 hc21)
  refine zQ ?_
  refine zS [(24, .int .u64 ((x.1 &&& y.1 : Nat) : Int)), (25, .int .i64 ((wd : Nat) : Int))] ?_
  refine zC (mask_okN wd _ (by omega)) ?_
  rintro _ w25 ⟨rfl, hT26⟩
  have hT0 := hT0.t0 hT26
  have hB4 := hB4.tch0 hT26
  have hB8 := hB8.tch0 hT26
  have hB14 := hB14.tch0 hT26
  have hu27 := pwm_lt (x := wd) (by omega)
  refine zS [(27, .bool (((x.1 &&& y.1 : Nat) : Int) == ((pw wd - 1 : Nat) : Int))), (23, .bool (((x.1 &&& y.1 : Nat) : Int) == ((pw wd - 1 : Nat) : Int)))] ?_
  refine zO (((x.1 &&& y.1 : Nat) : Int) == ((pw wd - 1 : Nat) : Int)) (fun hc28 => ?_) (fun hc28 => ?_)
  ·
   replace hc28 : ((x.1 &&& y.1 : Nat) : Int) = ((pw wd - 1 : Nat) : Int) := (eq_of_beq hc28)
   refine zQ ?_
   refine zS [(28, .agg #[.int .u64 1, .int .u64 1])] ?_
   refine st (by rfl) (S_storeA (b := w5.heap.size) (j := 0) (cs := [.int .u64 1, .int .u64 1]) (by kernel_rfl) (by kernel_rfl) (by kernel_rfl) (by simp [oneV]) hB14 (by simp) fun w29 hT30 hs31 hB14' => ?_)
   have hT0 := (hT0).then hT30 (fun c e => by have : c = w5.heap.size := e; omega)
   have hB4 := hB4.tch hT30 (fun e => by have : w.heap.size = w5.heap.size := e; omega)
   have hB8 := hB8.tch hT30 (fun e => by have : w1.heap.size = w5.heap.size := e; omega)
   replace hB14 : Blk w29 w5.heap.size 100 [.int .u64 1, .int .u64 1] := hB14'
   refine op_nil ?_
   refine W_ret ?_
   refine ⟨_, Res_cell (b := w5.heap.size) (cs := [.int .u64 1, .int .u64 1]) (by rfl) (by kernel_rfl) (by kernel_rfl) hB14 (by kernel_rfl) (by kernel_rfl), ?_⟩
   have e : keq wd x y = (1, 1) := by unfold keq; rw [← keq_d hx, ← keq_b hx]; rw [if_neg (by omega), if_pos (by omega)]
   rw [e]
   exact ⟨rfl, hT0⟩
  ·
   replace hc28 : ((x.1 &&& y.1 : Nat) : Int) ≠ ((pw wd - 1 : Nat) : Int) := (ne_of_beq_false hc28)
   refine W_skip ?_
   refine zQ ?_
   refine zS [(29, .agg #[.int .u64 0, .int .u64 0])] ?_
   refine st (by rfl) (S_storeA (b := w5.heap.size) (j := 0) (cs := [.int .u64 0, .int .u64 0]) (by kernel_rfl) (by kernel_rfl) (by kernel_rfl) (by simp [oneV]) hB14 (by simp) fun w32 hT33 hs34 hB14' => ?_)
   have hT0 := (hT0).then hT33 (fun c e => by have : c = w5.heap.size := e; omega)
   have hB4 := hB4.tch hT33 (fun e => by have : w.heap.size = w5.heap.size := e; omega)
   have hB8 := hB8.tch hT33 (fun e => by have : w1.heap.size = w5.heap.size := e; omega)
   replace hB14 : Blk w32 w5.heap.size 100 [.int .u64 0, .int .u64 0] := hB14'
   refine op_nil ?_
   refine W_ret ?_
   refine ⟨_, Res_cell (b := w5.heap.size) (cs := [.int .u64 0, .int .u64 0]) (by rfl) (by kernel_rfl) (by kernel_rfl) hB14 (by kernel_rfl) (by kernel_rfl), ?_⟩
   have e : keq wd x y = (0, 0) := by unfold keq; rw [← keq_d hx, ← keq_b hx]; rw [if_neg (by omega), if_neg (by omega)]
   rw [e]
   exact ⟨rfl, hT0⟩

set_option maxRecDepth 100000 in
theorem kmv9_ok (wd : Nat) (x : K) (by_ : Nat) (w : World) (hx : KI wd x) (hw : wd ≤ 64) (hb : by_ < 18446744073709551616) : Ret Try.prog 80 [.int .i64 9, .int .i64 ((wd : Nat) : Int), .agg #[.int .u64 ((x.1 : Nat) : Int), .int .u64 ((x.2 : Nat) : Int)], .int .u64 ((by_ : Nat) : Int)] w fun v w' => v = .agg #[.int .u64 (((kmv 9 wd x by_).1 : Nat) : Int), .int .u64 (((kmv 9 wd x by_).2 : Nat) : Int)] ∧ Tch N0 w w' := by
 have ux1 := hx.u1 hw
 have ux2 := hx.u2 hw
 refine enter Try.func80 rfl rfl ?_
 refine zQ ?_
 refine st (by rfl) (S_new (v := .pointer (some ⟨w.heap.size, 0, none⟩)) (ob := .cells #[.int .u64 ((x.1 : Nat) : Int), .int .u64 ((x.2 : Nat) : Int)] 100) (by kernel_rfl) fun w1 hT2 hs3 hB4 => ?_)
 replace hB4 : Blk w1 (w.heap.size) 100 [.int .u64 ((x.1 : Nat) : Int), .int .u64 ((x.2 : Nat) : Int)] := hB4
 have hT0 := hT2
 have z9 := hT0.size
 have l10 := hB4.lt
 refine st (by rfl) (S_new (v := .pointer (some ⟨w1.heap.size, 0, none⟩)) (ob := .cells #[.int .u64 0, .int .u64 0] 100) (by kernel_rfl) fun w5 hT6 hs7 hB8 => ?_)
 replace hB8 : Blk w5 (w1.heap.size) 100 [.int .u64 0, .int .u64 0] := hB8
 have hT0 := hT0.t0 hT6
 have hB4 := hB4.tch0 hT6
 refine op_nil ?_
 refine zQ ?_
 refine zS [(10, .int .i64 ((wd : Nat) : Int))] ?_
 refine zC (mask_okN wd _ (by omega)) ?_
 rintro _ w11 ⟨rfl, hT12⟩
 have hT0 := hT0.t0 hT12
 have hB4 := hB4.tch0 hT12
 have hB8 := hB8.tch0 hT12
 have hu13 := pwm_lt (x := wd) (by omega)
 refine zS [(9, .int .u64 ((pw wd - 1 : Nat) : Int))] ?_
 refine op_nil ?_
 refine W_seq ?_
 refine zQ ?_
 refine zS [(12, .int .u64 ((by_ : Nat) : Int)), (13, .int .i64 ((wd : Nat) : Int)), (14, .int .u64 (IntKind.u64.wrap ((wd : Nat) : Int)))] ?_
 rw [show IntKind.u64.wrap ((wd : Nat) : Int) = ((wd : Nat) : Int) from wrap_u64 (by omega) (by omega)]
 refine zS [(15, .bool (decide (((by_ : Nat) : Int) ≥ ((wd : Nat) : Int))))] ?_
 refine zO (decide (((by_ : Nat) : Int) ≥ ((wd : Nat) : Int))) (fun hc14 => ?_) (fun hc14 => ?_)
 ·
  replace hc14 : ((wd : Nat) : Int) ≤ ((by_ : Nat) : Int) := (of_decide_eq_true hc14)
  refine zQ ?_
  refine zS [(16, .int .u64 ((pw wd - 1 : Nat) : Int)), (17, .agg #[.int .u64 ((pw wd - 1 : Nat) : Int), .int .u64 0])] ?_
  refine st (by rfl) (S_storeA (b := w1.heap.size) (j := 0) (cs := [.int .u64 ((pw wd - 1 : Nat) : Int), .int .u64 0]) (by kernel_rfl) (by kernel_rfl) (by kernel_rfl) (by simp [oneV]) hB8 (by simp) fun w15 hT16 hs17 hB8' => ?_)
  have hT0 := (hT0).then hT16 (fun c e => by have : c = w1.heap.size := e; omega)
  have hB4 := hB4.tch hT16 (fun e => by have : w.heap.size = w1.heap.size := e; omega)
  replace hB8 : Blk w15 w1.heap.size 100 [.int .u64 ((pw wd - 1 : Nat) : Int), .int .u64 0] := hB8'
  refine op_nil ?_
  refine W_ret ?_
  exact ⟨_, Res_cell (b := w1.heap.size) (cs := [.int .u64 ((pw wd - 1 : Nat) : Int), .int .u64 0]) (by rfl) (by kernel_rfl) (by kernel_rfl) hB8 (by kernel_rfl) (by kernel_rfl), ⟨congrArg kV (kmv_far (op := 9) (x := x) (by omega)), hT0⟩⟩
 ·
  replace hc14 : ((by_ : Nat) : Int) < ((wd : Nat) : Int) := (Int.not_le.1 (of_decide_eq_false hc14))
  refine W_skip ?_
  refine W_seq ?_
  refine zQ ?_
  refine zS [(18, .int .i64 9), (19, .bool true)] ?_
  refine zO true (fun _ => ?_) (fun h => nomatch h)
  refine W_seq ?_
  refine W_draw (fun w' => Blk w' (w.heap.size) 100 [.int .u64 ((x.1 : Nat) : Int), .int .u64 ((x.2 : Nat) : Int)]) (by kernel_rfl) (by kernel_rfl) (by kernel_rfl) fun w18 hT19 hh20 => ?_
  have hT0 := hT0.t0 hT19
  have hB4 := hB4.tch0 hT19
  have hB8 := hB8.tch0 hT19
  refine zK [0, 2, 4, 8, 10, 12, 14] #[true, false, true, false, true, false, false, false, true, false, true, false, true, false, true, false, false, false] [(20, .pointer (some ⟨w.heap.size, 0, none⟩)), (22, .int .u64 ((by_ : Nat) : Int)), (24, .int .u64 ((by_ : Nat) : Int)), (28, .int .u64 ((pw wd - 1 : Nat) : Int)), (30, .pointer (some ⟨w.heap.size, 1, none⟩)), (32, .int .u64 ((by_ : Nat) : Int)), (34, .int .u64 ((pw wd - 1 : Nat) : Int))] hB4 ?_
  refine zV 1 rfl (.int .u64 ((x.1 : Nat) : Int)) (fun _ hB4 => R_load (v := .int .u64 ((x.1 : Nat) : Int)) (by kernel_rfl) (by kernel_rfl) ((hB4.cell 0).trans rfl)) hB4 ?_
  refine zK [5] #[true, true, true, false, true, true, false, false, true, false, true, false, true, false, true, false, false, false] [(25, .int .i64 (IntKind.i64.wrap ((by_ : Nat) : Int)))] hB4 ?_
  rw [show IntKind.i64.wrap ((by_ : Nat) : Int) = ((by_ : Nat) : Int) from wrap_i64 (by omega) (by omega)]
  refine zV 3 rfl (.int .u64 ((x.1 * pw by_ % 18446744073709551616 : Nat) : Int)) (fun _ hB4 => R_shlP (k2 := .u64) x.1 by_ (by kernel_rfl) (by kernel_rfl) (by omega)) hB4 ?_
  have hu21 : x.1 * pw by_ % 18446744073709551616 < 18446744073709551616 := mod_lt64 _
  refine zV 11 rfl (.int .u64 ((x.2 : Nat) : Int)) (fun _ hB4 => R_load (v := .int .u64 ((x.2 : Nat) : Int)) (by kernel_rfl) (by kernel_rfl) ((hB4.cell 1).trans rfl)) hB4 ?_
  refine zV 13 rfl (.int .u64 ((x.2 * pw by_ % 18446744073709551616 : Nat) : Int)) (fun _ hB4 => R_shlP (k2 := .u64) x.2 by_ (by kernel_rfl) (by kernel_rfl) (by omega)) hB4 ?_
  have hu22 : x.2 * pw by_ % 18446744073709551616 < 18446744073709551616 := mod_lt64 _
  refine zK [15] #[true, true, true, true, true, true, false, false, true, false, true, true, true, true, true, true, false, false] [(35, .int .u64 (IntKind.u64.wrap (BitVec.ofInt 64 ((x.2 * pw by_ % 18446744073709551616 : Nat) : Int) &&& BitVec.ofInt 64 ((pw wd - 1 : Nat) : Int)).toNat))] hB4 ?_
  rw [show IntKind.u64.wrap (BitVec.ofInt 64 ((x.2 * pw by_ % 18446744073709551616 : Nat) : Int) &&& BitVec.ofInt 64 ((pw wd - 1 : Nat) : Int)).toNat = (((x.2 * pw by_ % 18446744073709551616) &&& (pw wd - 1) : Nat) : Int) from and_u (x.2 * pw by_ % 18446744073709551616) (pw wd - 1) hu22 hu13]
  have hu23 : (x.2 * pw by_ % 18446744073709551616) &&& (pw wd - 1) < 18446744073709551616 := and_lt hu22
  refine zD 6 rfl (S_call (args := [.int .i64 ((by_ : Nat) : Int)]) (by kernel_rfl) (mask_okN by_ _ (by omega)) ?_)
  rintro _ w24 ⟨rfl, hT25⟩
  have hT0 := hT0.t0 hT25
  have hB4 := hB4.tch0 hT25
  have hB8 := hB8.tch0 hT25
  have hu26 := pwm_lt (x := by_) (by omega)
  refine ⟨hB4, ?_⟩
  refine zK [7] #[true, true, true, true, true, true, true, true, true, false, true, true, true, true, true, true, false, false] [(27, .int .u64 (IntKind.u64.wrap (BitVec.ofInt 64 ((x.1 * pw by_ % 18446744073709551616 : Nat) : Int) ||| BitVec.ofInt 64 ((pw by_ - 1 : Nat) : Int)).toNat))] hB4 ?_
  rw [show IntKind.u64.wrap (BitVec.ofInt 64 ((x.1 * pw by_ % 18446744073709551616 : Nat) : Int) ||| BitVec.ofInt 64 ((pw by_ - 1 : Nat) : Int)).toNat = (((x.1 * pw by_ % 18446744073709551616) ||| (pw by_ - 1) : Nat) : Int) from or_u (x.1 * pw by_ % 18446744073709551616) (pw by_ - 1) hu21 hu26]
  have hu27 : (x.1 * pw by_ % 18446744073709551616) ||| (pw by_ - 1) < 18446744073709551616 := or_lt hu21 hu26
  refine zK [9] #[true, true, true, true, true, true, true, true, true, true, true, true, true, true, true, true, false, false] [(29, .int .u64 (IntKind.u64.wrap (BitVec.ofInt 64 (((x.1 * pw by_ % 18446744073709551616) ||| (pw by_ - 1) : Nat) : Int) &&& BitVec.ofInt 64 ((pw wd - 1 : Nat) : Int)).toNat))] hB4 ?_
  rw [show IntKind.u64.wrap (BitVec.ofInt 64 (((x.1 * pw by_ % 18446744073709551616) ||| (pw by_ - 1) : Nat) : Int) &&& BitVec.ofInt 64 ((pw wd - 1 : Nat) : Int)).toNat = ((((x.1 * pw by_ % 18446744073709551616) ||| (pw by_ - 1)) &&& (pw wd - 1) : Nat) : Int) from and_u ((x.1 * pw by_ % 18446744073709551616) ||| (pw by_ - 1)) (pw wd - 1) hu27 hu13]
  have hu28 : ((x.1 * pw by_ % 18446744073709551616) ||| (pw by_ - 1)) &&& (pw wd - 1) < 18446744073709551616 := and_lt hu27
  refine zK [16] #[true, true, true, true, true, true, true, true, true, true, true, true, true, true, true, true, true, false] [(36, .agg #[.int .u64 ((((x.1 * pw by_ % 18446744073709551616) ||| (pw by_ - 1)) &&& (pw wd - 1) : Nat) : Int), .int .u64 (((x.2 * pw by_ % 18446744073709551616) &&& (pw wd - 1) : Nat) : Int)])] hB4 ?_
  refine zD 17 rfl (S_storeA (b := w1.heap.size) (j := 0) (cs := [.int .u64 ((((x.1 * pw by_ % 18446744073709551616) ||| (pw by_ - 1)) &&& (pw wd - 1) : Nat) : Int), .int .u64 (((x.2 * pw by_ % 18446744073709551616) &&& (pw wd - 1) : Nat) : Int)]) (by kernel_rfl) (by kernel_rfl) (by kernel_rfl) (by simp [oneV]) hB8 (by simp) fun w29 hT30 hs31 hB8' => ?_)
  have hT0 := (hT0).then hT30 (fun c e => by have : c = w1.heap.size := e; omega)
  have hB4 := hB4.tch hT30 (fun e => by have : w.heap.size = w1.heap.size := e; omega)
  replace hB8 : Blk w29 w1.heap.size 100 [.int .u64 ((((x.1 * pw by_ % 18446744073709551616) ||| (pw by_ - 1)) &&& (pw wd - 1) : Nat) : Int), .int .u64 (((x.2 * pw by_ % 18446744073709551616) &&& (pw wd - 1) : Nat) : Int)] := hB8'
  refine ⟨hB4, ?_⟩
  refine d_done (by kernel_rfl) ?_
  refine W_ret ?_
  exact ⟨_, Res_cell (b := w1.heap.size) (cs := [.int .u64 ((((x.1 * pw by_ % 18446744073709551616) ||| (pw by_ - 1)) &&& (pw wd - 1) : Nat) : Int), .int .u64 (((x.2 * pw by_ % 18446744073709551616) &&& (pw wd - 1) : Nat) : Int)]) (by rfl) (by kernel_rfl) (by kernel_rfl) hB8 (by kernel_rfl) (by kernel_rfl), ⟨congrArg kV (kmv9 hx hw (by omega)), hT0⟩⟩

set_option maxRecDepth 100000 in
theorem kmv10_ok (wd : Nat) (x : K) (by_ : Nat) (w : World) (hx : KI wd x) (hw : wd ≤ 64) (hb : by_ < 18446744073709551616) : Ret Try.prog 80 [.int .i64 10, .int .i64 ((wd : Nat) : Int), .agg #[.int .u64 ((x.1 : Nat) : Int), .int .u64 ((x.2 : Nat) : Int)], .int .u64 ((by_ : Nat) : Int)] w fun v w' => v = .agg #[.int .u64 (((kmv 10 wd x by_).1 : Nat) : Int), .int .u64 (((kmv 10 wd x by_).2 : Nat) : Int)] ∧ Tch N0 w w' := by
 have ux1 := hx.u1 hw
 have ux2 := hx.u2 hw
 refine enter Try.func80 rfl rfl ?_
 refine zQ ?_
 refine st (by rfl) (S_new (v := .pointer (some ⟨w.heap.size, 0, none⟩)) (ob := .cells #[.int .u64 ((x.1 : Nat) : Int), .int .u64 ((x.2 : Nat) : Int)] 100) (by kernel_rfl) fun w1 hT2 hs3 hB4 => ?_)
 replace hB4 : Blk w1 (w.heap.size) 100 [.int .u64 ((x.1 : Nat) : Int), .int .u64 ((x.2 : Nat) : Int)] := hB4
 have hT0 := hT2
 have z9 := hT0.size
 have l10 := hB4.lt
 refine st (by rfl) (S_new (v := .pointer (some ⟨w1.heap.size, 0, none⟩)) (ob := .cells #[.int .u64 0, .int .u64 0] 100) (by kernel_rfl) fun w5 hT6 hs7 hB8 => ?_)
 replace hB8 : Blk w5 (w1.heap.size) 100 [.int .u64 0, .int .u64 0] := hB8
 have hT0 := hT0.t0 hT6
 have hB4 := hB4.tch0 hT6
 refine op_nil ?_
 refine zQ ?_
 refine zS [(10, .int .i64 ((wd : Nat) : Int))] ?_
 refine zC (mask_okN wd _ (by omega)) ?_
 rintro _ w11 ⟨rfl, hT12⟩
 have hT0 := hT0.t0 hT12
 have hB4 := hB4.tch0 hT12
 have hB8 := hB8.tch0 hT12
 have hu13 := pwm_lt (x := wd) (by omega)
 refine zS [(9, .int .u64 ((pw wd - 1 : Nat) : Int))] ?_
 refine op_nil ?_
 refine W_seq ?_
 refine zQ ?_
 refine zS [(12, .int .u64 ((by_ : Nat) : Int)), (13, .int .i64 ((wd : Nat) : Int)), (14, .int .u64 (IntKind.u64.wrap ((wd : Nat) : Int)))] ?_
 rw [show IntKind.u64.wrap ((wd : Nat) : Int) = ((wd : Nat) : Int) from wrap_u64 (by omega) (by omega)]
 refine zS [(15, .bool (decide (((by_ : Nat) : Int) ≥ ((wd : Nat) : Int))))] ?_
 refine zO (decide (((by_ : Nat) : Int) ≥ ((wd : Nat) : Int))) (fun hc14 => ?_) (fun hc14 => ?_)
 ·
  replace hc14 : ((wd : Nat) : Int) ≤ ((by_ : Nat) : Int) := (of_decide_eq_true hc14)
  refine zQ ?_
  refine zS [(16, .int .u64 ((pw wd - 1 : Nat) : Int)), (17, .agg #[.int .u64 ((pw wd - 1 : Nat) : Int), .int .u64 0])] ?_
  refine st (by rfl) (S_storeA (b := w1.heap.size) (j := 0) (cs := [.int .u64 ((pw wd - 1 : Nat) : Int), .int .u64 0]) (by kernel_rfl) (by kernel_rfl) (by kernel_rfl) (by simp [oneV]) hB8 (by simp) fun w15 hT16 hs17 hB8' => ?_)
  have hT0 := (hT0).then hT16 (fun c e => by have : c = w1.heap.size := e; omega)
  have hB4 := hB4.tch hT16 (fun e => by have : w.heap.size = w1.heap.size := e; omega)
  replace hB8 : Blk w15 w1.heap.size 100 [.int .u64 ((pw wd - 1 : Nat) : Int), .int .u64 0] := hB8'
  refine op_nil ?_
  refine W_ret ?_
  exact ⟨_, Res_cell (b := w1.heap.size) (cs := [.int .u64 ((pw wd - 1 : Nat) : Int), .int .u64 0]) (by rfl) (by kernel_rfl) (by kernel_rfl) hB8 (by kernel_rfl) (by kernel_rfl), ⟨congrArg kV (kmv_far (op := 10) (x := x) (by omega)), hT0⟩⟩
 ·
  replace hc14 : ((by_ : Nat) : Int) < ((wd : Nat) : Int) := (Int.not_le.1 (of_decide_eq_false hc14))
  refine W_skip ?_
  refine W_seq ?_
  refine zQ ?_
  refine zS [(18, .int .i64 10), (19, .bool false)] ?_
  refine zO false (fun h => nomatch h) (fun _ => ?_)
  refine W_skip ?_
  refine zQ ?_
  refine zS [(37, .pointer (some ⟨w.heap.size, 0, none⟩))] ?_
  refine zL (.int .u64 ((x.1 : Nat) : Int)) ((hB4.cell 0).trans rfl) ?_
  refine zS [(39, .int .u64 ((by_ : Nat) : Int))] ?_
  refine stv (v := .int .u64 ((x.1 / pw by_ : Nat) : Int)) (by rfl) (R_shrP (k2 := .u64) x.1 by_ (by kernel_rfl) (by kernel_rfl) (by omega)) ?_
  have hu18 : x.1 / pw by_ < 18446744073709551616 := div_lt64 ux1
  refine zS [(41, .int .u64 ((pw wd - 1 : Nat) : Int)), (42, .int .u64 ((pw wd - 1 : Nat) : Int)), (43, .int .u64 ((by_ : Nat) : Int))] ?_
  refine stv (v := .int .u64 (((pw wd - 1) / pw by_ : Nat) : Int)) (by rfl) (R_shrP (k2 := .u64) (pw wd - 1) by_ (by kernel_rfl) (by kernel_rfl) (by omega)) ?_
  have hu19 : (pw wd - 1) / pw by_ < 18446744073709551616 := div_lt64 hu13
  refine zS [(45, .int .u64 (IntKind.u64.wrap (BitVec.ofInt 64 ((pw wd - 1 : Nat) : Int) &&& ~~~BitVec.ofInt 64 (((pw wd - 1) / pw by_ : Nat) : Int)).toNat))] ?_
  rw [show IntKind.u64.wrap (BitVec.ofInt 64 ((pw wd - 1 : Nat) : Int) &&& ~~~BitVec.ofInt 64 (((pw wd - 1) / pw by_ : Nat) : Int)).toNat = ((andn (pw wd - 1) ((pw wd - 1) / pw by_) : Nat) : Int) from andn_u (pw wd - 1) ((pw wd - 1) / pw by_) hu13 hu19]
  have hu20 : andn (pw wd - 1) ((pw wd - 1) / pw by_) < 18446744073709551616 := andn_lt hu13
  refine zS [(46, .int .u64 (IntKind.u64.wrap (BitVec.ofInt 64 ((x.1 / pw by_ : Nat) : Int) ||| BitVec.ofInt 64 ((andn (pw wd - 1) ((pw wd - 1) / pw by_) : Nat) : Int)).toNat))] ?_
  rw [show IntKind.u64.wrap (BitVec.ofInt 64 ((x.1 / pw by_ : Nat) : Int) ||| BitVec.ofInt 64 ((andn (pw wd - 1) ((pw wd - 1) / pw by_) : Nat) : Int)).toNat = (((x.1 / pw by_) ||| (andn (pw wd - 1) ((pw wd - 1) / pw by_)) : Nat) : Int) from or_u (x.1 / pw by_) (andn (pw wd - 1) ((pw wd - 1) / pw by_)) hu18 hu20]
  have hu21 : (x.1 / pw by_) ||| (andn (pw wd - 1) ((pw wd - 1) / pw by_)) < 18446744073709551616 := or_lt hu18 hu20
  refine zS [(47, .pointer (some ⟨w.heap.size, 1, none⟩))] ?_
  refine zL (.int .u64 ((x.2 : Nat) : Int)) ((hB4.cell 1).trans rfl) ?_
  refine zS [(49, .int .u64 ((by_ : Nat) : Int))] ?_
  refine stv (v := .int .u64 ((x.2 / pw by_ : Nat) : Int)) (by rfl) (R_shrP (k2 := .u64) x.2 by_ (by kernel_rfl) (by kernel_rfl) (by omega)) ?_
  have hu22 : x.2 / pw by_ < 18446744073709551616 := div_lt64 ux2
  refine zS [(51, .agg #[.int .u64 (((x.1 / pw by_) ||| (andn (pw wd - 1) ((pw wd - 1) / pw by_)) : Nat) : Int), .int .u64 ((x.2 / pw by_ : Nat) : Int)])] ?_
  refine st (by rfl) (S_storeA (b := w1.heap.size) (j := 0) (cs := [.int .u64 (((x.1 / pw by_) ||| (andn (pw wd - 1) ((pw wd - 1) / pw by_)) : Nat) : Int), .int .u64 ((x.2 / pw by_ : Nat) : Int)]) (by kernel_rfl) (by kernel_rfl) (by kernel_rfl) (by simp [oneV]) hB8 (by simp) fun w23 hT24 hs25 hB8' => ?_)
  have hT0 := (hT0).then hT24 (fun c e => by have : c = w1.heap.size := e; omega)
  have hB4 := hB4.tch hT24 (fun e => by have : w.heap.size = w1.heap.size := e; omega)
  replace hB8 : Blk w23 w1.heap.size 100 [.int .u64 (((x.1 / pw by_) ||| (andn (pw wd - 1) ((pw wd - 1) / pw by_)) : Nat) : Int), .int .u64 ((x.2 / pw by_ : Nat) : Int)] := hB8'
  refine op_nil ?_
  refine W_ret ?_
  exact ⟨_, Res_cell (b := w1.heap.size) (cs := [.int .u64 (((x.1 / pw by_) ||| (andn (pw wd - 1) ((pw wd - 1) / pw by_)) : Nat) : Int), .int .u64 ((x.2 / pw by_ : Nat) : Int)]) (by rfl) (by kernel_rfl) (by kernel_rfl) hB8 (by kernel_rfl) (by kernel_rfl), ⟨congrArg kV (kmv10 hx hw (by omega)), hT0⟩⟩

set_option maxRecDepth 100000 in
theorem kwide25_ok (W wd : Nat) (x : K) (na nb nc nv : Int) (w : World) (hx : KI wd x) (h1 : 1 ≤ wd) (hlt : wd ≤ W) (hW : W ≤ 64) : Ret Try.prog 82 [.agg #[.int .i64 25, .int .i64 ((W : Nat) : Int), .int .i64 na, .int .i64 nb, .int .i64 nc, .int .u64 nv], .int .i64 ((wd : Nat) : Int), .agg #[.int .u64 ((x.1 : Nat) : Int), .int .u64 ((x.2 : Nat) : Int)]] w fun v w' => v = .agg #[.int .u64 (((kpart W 0 wd x true false).1 : Nat) : Int), .int .u64 (((kpart W 0 wd x true false).2 : Nat) : Int)] ∧ Tch N0 w w' := by
 have hw : wd ≤ 64 := by omega
 have ux1 := hx.u1 hw
 have ux2 := hx.u2 hw
 refine enter Try.func82 rfl rfl ?_
 refine zQ ?_
 refine st (by rfl) (S_new (v := .pointer (some ⟨w.heap.size, 0, none⟩)) (ob := .cells #[.int .i64 25, .int .i64 ((W : Nat) : Int), .int .i64 na, .int .i64 nb, .int .i64 nc, .int .u64 nv] 32) (by kernel_rfl) fun w1 hT2 hs3 hB4 => ?_)
 replace hB4 : Blk w1 (w.heap.size) 32 [.int .i64 25, .int .i64 ((W : Nat) : Int), .int .i64 na, .int .i64 nb, .int .i64 nc, .int .u64 nv] := hB4
 have hT0 := hT2
 have z9 := hT0.size
 have l10 := hB4.lt
 refine st (by rfl) (S_new (v := .pointer (some ⟨w1.heap.size, 0, none⟩)) (ob := .cells #[.int .u64 ((x.1 : Nat) : Int), .int .u64 ((x.2 : Nat) : Int)] 100) (by kernel_rfl) fun w5 hT6 hs7 hB8 => ?_)
 replace hB8 : Blk w5 (w1.heap.size) 100 [.int .u64 ((x.1 : Nat) : Int), .int .u64 ((x.2 : Nat) : Int)] := hB8
 have hT0 := hT0.t0 hT6
 have hB4 := hB4.tch0 hT6
 have z15 := hT0.size
 have l16 := hB4.lt
 have l17 := hB8.lt
 refine st (by rfl) (S_new (v := .pointer (some ⟨w5.heap.size, 0, none⟩)) (ob := .cells #[.int .u64 0, .int .u64 0] 100) (by kernel_rfl) fun w11 hT12 hs13 hB14 => ?_)
 replace hB14 : Blk w11 (w5.heap.size) 100 [.int .u64 0, .int .u64 0] := hB14
 have hT0 := hT0.t0 hT12
 have hB4 := hB4.tch0 hT12
 have hB8 := hB8.tch0 hT12
 refine op_nil ?_
 refine zQ ?_
 refine zS [(9, .pointer (some ⟨w.heap.size, 1, none⟩))] ?_
 refine zL (.int .i64 ((W : Nat) : Int)) ((hB4.cell 1).trans rfl) ?_
 refine zC (mask_okN W _ (by omega)) ?_
 rintro _ w18 ⟨rfl, hT19⟩
 have hT0 := hT0.t0 hT19
 have hB4 := hB4.tch0 hT19
 have hB8 := hB8.tch0 hT19
 have hB14 := hB14.tch0 hT19
 have hu20 := pwm_lt (x := W) (by omega)
 refine zS [(12, .int .i64 ((wd : Nat) : Int))] ?_
 refine zC (mask_okN wd _ (by omega)) ?_
 rintro _ w21 ⟨rfl, hT22⟩
 have hT0 := hT0.t0 hT22
 have hB4 := hB4.tch0 hT22
 have hB8 := hB8.tch0 hT22
 have hB14 := hB14.tch0 hT22
 have hu23 := pwm_lt (x := wd) (by omega)
 refine zS [(14, .int .u64 (IntKind.u64.wrap (BitVec.ofInt 64 ((pw W - 1 : Nat) : Int) &&& ~~~BitVec.ofInt 64 ((pw wd - 1 : Nat) : Int)).toNat))] ?_
 rw [show IntKind.u64.wrap (BitVec.ofInt 64 ((pw W - 1 : Nat) : Int) &&& ~~~BitVec.ofInt 64 ((pw wd - 1 : Nat) : Int)).toNat = ((andn (pw W - 1) (pw wd - 1) : Nat) : Int) from andn_u (pw W - 1) (pw wd - 1) hu20 hu23]
 have hu24 : andn (pw W - 1) (pw wd - 1) < 18446744073709551616 := andn_lt hu20
 refine zS [(7, .int .u64 ((andn (pw W - 1) (pw wd - 1) : Nat) : Int))] ?_
 refine op_nil ?_
 refine zQ ?_
 refine zS [(15, .int .i64 ((wd : Nat) : Int)), (16, .int .i64 (IntKind.i64.wrap (((wd : Nat) : Int) - 1)))] ?_
 rw [show IntKind.i64.wrap (((wd : Nat) : Int) - 1) = ((wd : Nat) : Int) - 1 from wrap_i64 (by omega) (by omega)]
 refine fixR (y := ((wd - 1 : Nat) : Int)) (by omega) ?_
 refine stv (v := .int .u64 ((pw (wd - 1) : Nat) : Int)) (by rfl) (R_shl1 (k2 := .i64) (wd - 1) (by kernel_rfl) (by kernel_rfl) (by omega)) ?_
 have hu25 : pw (wd - 1) < 18446744073709551616 := (by have := pw_u64 (i := (wd - 1)) (by omega); omega)
 refine zS [(8, .int .u64 ((pw (wd - 1) : Nat) : Int))] ?_
 refine op_nil ?_
 refine W_seq ?_
 refine W_block ?_
 refine W_seq ?_
 refine zQ ?_
 refine zS [(19, .pointer (some ⟨w.heap.size, 0, none⟩))] ?_
 refine zL (.int .i64 25) ((hB4.cell 0).trans rfl) ?_
 refine zS [(21, .bool true), (18, .bool true)] ?_
 refine zO true (fun _ => ?_) (fun h => nomatch h)
 refine W_skip ?_
 refine zW true (fun _ => ?_) (fun h => nomatch h)
 refine zQ ?_
 refine zS [(27, .pointer (some ⟨w1.heap.size, 0, none⟩))] ?_
 refine zL (.int .u64 ((x.1 : Nat) : Int)) ((hB8.cell 0).trans rfl) ?_
 refine zS [(29, .int .u64 ((andn (pw W - 1) (pw wd - 1) : Nat) : Int)), (30, .int .u64 (IntKind.u64.wrap (BitVec.ofInt 64 ((x.1 : Nat) : Int) ||| BitVec.ofInt 64 ((andn (pw W - 1) (pw wd - 1) : Nat) : Int)).toNat))] ?_
 rw [show IntKind.u64.wrap (BitVec.ofInt 64 ((x.1 : Nat) : Int) ||| BitVec.ofInt 64 ((andn (pw W - 1) (pw wd - 1) : Nat) : Int)).toNat = ((x.1 ||| (andn (pw W - 1) (pw wd - 1)) : Nat) : Int) from or_u x.1 (andn (pw W - 1) (pw wd - 1)) ux1 hu24]
 have hu26 : x.1 ||| (andn (pw W - 1) (pw wd - 1)) < 18446744073709551616 := or_lt ux1 hu24
 refine zS [(31, .pointer (some ⟨w1.heap.size, 1, none⟩))] ?_
 refine zL (.int .u64 ((x.2 : Nat) : Int)) ((hB8.cell 1).trans rfl) ?_
 refine zS [(33, .agg #[.int .u64 ((x.1 ||| (andn (pw W - 1) (pw wd - 1)) : Nat) : Int), .int .u64 ((x.2 : Nat) : Int)])] ?_
 refine st (by rfl) (S_storeA (b := w5.heap.size) (j := 0) (cs := [.int .u64 ((x.1 ||| (andn (pw W - 1) (pw wd - 1)) : Nat) : Int), .int .u64 ((x.2 : Nat) : Int)]) (by kernel_rfl) (by kernel_rfl) (by kernel_rfl) (by simp [oneV]) hB14 (by simp) fun w27 hT28 hs29 hB14' => ?_)
 have hT0 := (hT0).then hT28 (fun c e => by have : c = w5.heap.size := e; omega)
 have hB4 := hB4.tch hT28 (hB4.ne hB14 (by decide))
 have hB8 := hB8.tch hT28 (fun e => by have : w1.heap.size = w5.heap.size := e; omega)
 replace hB14 : Blk w27 w5.heap.size 100 [.int .u64 ((x.1 ||| (andn (pw W - 1) (pw wd - 1)) : Nat) : Int), .int .u64 ((x.2 : Nat) : Int)] := hB14'
 refine op_nil ?_
 refine W_ret ?_
 exact ⟨_, Res_cell (b := w5.heap.size) (cs := [.int .u64 ((x.1 ||| (andn (pw W - 1) (pw wd - 1)) : Nat) : Int), .int .u64 ((x.2 : Nat) : Int)]) (by rfl) (by kernel_rfl) (by kernel_rfl) hB14 (by kernel_rfl) (by kernel_rfl), ⟨congrArg kV (kz_eq hx hlt), hT0⟩⟩

set_option maxRecDepth 100000 in
theorem kwide26_ok (W wd : Nat) (x : K) (na nb nc nv : Int) (w : World) (hx : KI wd x) (h1 : 1 ≤ wd) (hlt : wd ≤ W) (hW : W ≤ 64) : Ret Try.prog 82 [.agg #[.int .i64 26, .int .i64 ((W : Nat) : Int), .int .i64 na, .int .i64 nb, .int .i64 nc, .int .u64 nv], .int .i64 ((wd : Nat) : Int), .agg #[.int .u64 ((x.1 : Nat) : Int), .int .u64 ((x.2 : Nat) : Int)]] w fun v w' => v = .agg #[.int .u64 (((kpart W 0 wd x (x.1.testBit (wd - 1)) (x.2.testBit (wd - 1))).1 : Nat) : Int), .int .u64 (((kpart W 0 wd x (x.1.testBit (wd - 1)) (x.2.testBit (wd - 1))).2 : Nat) : Int)] ∧ Tch N0 w w' := by
 have hw : wd ≤ 64 := by omega
 have ux1 := hx.u1 hw
 have ux2 := hx.u2 hw
 refine enter Try.func82 rfl rfl ?_
 refine zQ ?_
 refine st (by rfl) (S_new (v := .pointer (some ⟨w.heap.size, 0, none⟩)) (ob := .cells #[.int .i64 26, .int .i64 ((W : Nat) : Int), .int .i64 na, .int .i64 nb, .int .i64 nc, .int .u64 nv] 32) (by kernel_rfl) fun w1 hT2 hs3 hB4 => ?_)
 replace hB4 : Blk w1 (w.heap.size) 32 [.int .i64 26, .int .i64 ((W : Nat) : Int), .int .i64 na, .int .i64 nb, .int .i64 nc, .int .u64 nv] := hB4
 have hT0 := hT2
 have z9 := hT0.size
 have l10 := hB4.lt
 refine st (by rfl) (S_new (v := .pointer (some ⟨w1.heap.size, 0, none⟩)) (ob := .cells #[.int .u64 ((x.1 : Nat) : Int), .int .u64 ((x.2 : Nat) : Int)] 100) (by kernel_rfl) fun w5 hT6 hs7 hB8 => ?_)
 replace hB8 : Blk w5 (w1.heap.size) 100 [.int .u64 ((x.1 : Nat) : Int), .int .u64 ((x.2 : Nat) : Int)] := hB8
 have hT0 := hT0.t0 hT6
 have hB4 := hB4.tch0 hT6
 have z15 := hT0.size
 have l16 := hB4.lt
 have l17 := hB8.lt
 refine st (by rfl) (S_new (v := .pointer (some ⟨w5.heap.size, 0, none⟩)) (ob := .cells #[.int .u64 0, .int .u64 0] 100) (by kernel_rfl) fun w11 hT12 hs13 hB14 => ?_)
 replace hB14 : Blk w11 (w5.heap.size) 100 [.int .u64 0, .int .u64 0] := hB14
 have hT0 := hT0.t0 hT12
 have hB4 := hB4.tch0 hT12
 have hB8 := hB8.tch0 hT12
 refine op_nil ?_
 refine zQ ?_
 refine zS [(9, .pointer (some ⟨w.heap.size, 1, none⟩))] ?_
 refine zL (.int .i64 ((W : Nat) : Int)) ((hB4.cell 1).trans rfl) ?_
 refine zC (mask_okN W _ (by omega)) ?_
 rintro _ w18 ⟨rfl, hT19⟩
 have hT0 := hT0.t0 hT19
 have hB4 := hB4.tch0 hT19
 have hB8 := hB8.tch0 hT19
 have hB14 := hB14.tch0 hT19
 have hu20 := pwm_lt (x := W) (by omega)
 refine zS [(12, .int .i64 ((wd : Nat) : Int))] ?_
 refine zC (mask_okN wd _ (by omega)) ?_
 rintro _ w21 ⟨rfl, hT22⟩
 have hT0 := hT0.t0 hT22
 have hB4 := hB4.tch0 hT22
 have hB8 := hB8.tch0 hT22
 have hB14 := hB14.tch0 hT22
 have hu23 := pwm_lt (x := wd) (by omega)
 refine zS [(14, .int .u64 (IntKind.u64.wrap (BitVec.ofInt 64 ((pw W - 1 : Nat) : Int) &&& ~~~BitVec.ofInt 64 ((pw wd - 1 : Nat) : Int)).toNat))] ?_
 rw [show IntKind.u64.wrap (BitVec.ofInt 64 ((pw W - 1 : Nat) : Int) &&& ~~~BitVec.ofInt 64 ((pw wd - 1 : Nat) : Int)).toNat = ((andn (pw W - 1) (pw wd - 1) : Nat) : Int) from andn_u (pw W - 1) (pw wd - 1) hu20 hu23]
 have hu24 : andn (pw W - 1) (pw wd - 1) < 18446744073709551616 := andn_lt hu20
 refine zS [(7, .int .u64 ((andn (pw W - 1) (pw wd - 1) : Nat) : Int))] ?_
 refine op_nil ?_
 refine zQ ?_
 refine zS [(15, .int .i64 ((wd : Nat) : Int)), (16, .int .i64 (IntKind.i64.wrap (((wd : Nat) : Int) - 1)))] ?_
 rw [show IntKind.i64.wrap (((wd : Nat) : Int) - 1) = ((wd : Nat) : Int) - 1 from wrap_i64 (by omega) (by omega)]
 refine fixR (y := ((wd - 1 : Nat) : Int)) (by omega) ?_
 refine stv (v := .int .u64 ((pw (wd - 1) : Nat) : Int)) (by rfl) (R_shl1 (k2 := .i64) (wd - 1) (by kernel_rfl) (by kernel_rfl) (by omega)) ?_
 have hu25 : pw (wd - 1) < 18446744073709551616 := (by have := pw_u64 (i := (wd - 1)) (by omega); omega)
 refine zS [(8, .int .u64 ((pw (wd - 1) : Nat) : Int))] ?_
 refine op_nil ?_
 refine W_seq ?_
 refine W_block ?_
 refine W_seq ?_
 refine zQ ?_
 refine zS [(19, .pointer (some ⟨w.heap.size, 0, none⟩))] ?_
 refine zL (.int .i64 26) ((hB4.cell 0).trans rfl) ?_
 refine zS [(21, .bool false), (18, .bool false)] ?_
 refine zO false (fun h => nomatch h) (fun _ => ?_)
 refine zR ?_
 refine st (by rfl) (S_val (v := .agg #[.int .u64 ((x.1 : Nat) : Int), .int .u64 ((x.2 : Nat) : Int)]) (R_loadA [.int .u64 ((x.1 : Nat) : Int), .int .u64 ((x.2 : Nat) : Int)] (by kernel_rfl) (by kernel_rfl) (by kernel_rfl) (fun k u hk => by rw [hB8.cell]; exact get_part _ 0 _ k u rfl hk)) ?_)
 refine zC (zeros_ok x.1 x.2 _ ux1 ux2) ?_
 rintro _ w26 ⟨rfl, hT27⟩
 have hT0 := hT0.t0 hT27
 have hB4 := hB4.tch0 hT27
 have hB8 := hB8.tch0 hT27
 have hB14 := hB14.tch0 hT27
 have hu28 : andn x.1 x.2 < 18446744073709551616 := andn_lt ux1
 refine zS [(24, .int .u64 ((pw (wd - 1) : Nat) : Int)), (25, .int .u64 (IntKind.u64.wrap (BitVec.ofInt 64 ((andn x.1 x.2 : Nat) : Int) &&& BitVec.ofInt 64 ((pw (wd - 1) : Nat) : Int)).toNat))] ?_
 rw [show IntKind.u64.wrap (BitVec.ofInt 64 ((andn x.1 x.2 : Nat) : Int) &&& BitVec.ofInt 64 ((pw (wd - 1) : Nat) : Int)).toNat = (((andn x.1 x.2) &&& (pw (wd - 1)) : Nat) : Int) from and_u (andn x.1 x.2) (pw (wd - 1)) hu28 hu25]
 have hu29 : (andn x.1 x.2) &&& (pw (wd - 1)) < 18446744073709551616 := and_lt hu28
 refine zS [(26, .bool ((((andn x.1 x.2) &&& (pw (wd - 1)) : Nat) : Int) != 0)), (18, .bool ((((andn x.1 x.2) &&& (pw (wd - 1)) : Nat) : Int) != 0))] ?_
 refine zO ((((andn x.1 x.2) &&& (pw (wd - 1)) : Nat) : Int) != 0) (fun hc30 => ?_) (fun hc30 => ?_)
 ·
  replace hc30 : (((andn x.1 x.2) &&& (pw (wd - 1)) : Nat) : Int) ≠ 0 := (bne_iff_ne.1 hc30)
  refine zQ ?_
  refine zS [(27, .pointer (some ⟨w1.heap.size, 0, none⟩))] ?_
  refine zL (.int .u64 ((x.1 : Nat) : Int)) ((hB8.cell 0).trans rfl) ?_
  refine zS [(29, .int .u64 ((andn (pw W - 1) (pw wd - 1) : Nat) : Int)), (30, .int .u64 (IntKind.u64.wrap (BitVec.ofInt 64 ((x.1 : Nat) : Int) ||| BitVec.ofInt 64 ((andn (pw W - 1) (pw wd - 1) : Nat) : Int)).toNat))] ?_
  rw [show IntKind.u64.wrap (BitVec.ofInt 64 ((x.1 : Nat) : Int) ||| BitVec.ofInt 64 ((andn (pw W - 1) (pw wd - 1) : Nat) : Int)).toNat = ((x.1 ||| (andn (pw W - 1) (pw wd - 1)) : Nat) : Int) from or_u x.1 (andn (pw W - 1) (pw wd - 1)) ux1 hu24]
  have hu31 : x.1 ||| (andn (pw W - 1) (pw wd - 1)) < 18446744073709551616 := or_lt ux1 hu24
  refine zS [(31, .pointer (some ⟨w1.heap.size, 1, none⟩))] ?_
  refine zL (.int .u64 ((x.2 : Nat) : Int)) ((hB8.cell 1).trans rfl) ?_
  refine zS [(33, .agg #[.int .u64 ((x.1 ||| (andn (pw W - 1) (pw wd - 1)) : Nat) : Int), .int .u64 ((x.2 : Nat) : Int)])] ?_
  refine st (by rfl) (S_storeA (b := w5.heap.size) (j := 0) (cs := [.int .u64 ((x.1 ||| (andn (pw W - 1) (pw wd - 1)) : Nat) : Int), .int .u64 ((x.2 : Nat) : Int)]) (by kernel_rfl) (by kernel_rfl) (by kernel_rfl) (by simp [oneV]) hB14 (by simp) fun w32 hT33 hs34 hB14' => ?_)
  have hT0 := (hT0).then hT33 (fun c e => by have : c = w5.heap.size := e; omega)
  have hB4 := hB4.tch hT33 (hB4.ne hB14 (by decide))
  have hB8 := hB8.tch hT33 (fun e => by have : w1.heap.size = w5.heap.size := e; omega)
  replace hB14 : Blk w32 w5.heap.size 100 [.int .u64 ((x.1 ||| (andn (pw W - 1) (pw wd - 1)) : Nat) : Int), .int .u64 ((x.2 : Nat) : Int)] := hB14'
  refine op_nil ?_
  refine W_ret ?_
  refine ⟨_, Res_cell (b := w5.heap.size) (cs := [.int .u64 ((x.1 ||| (andn (pw W - 1) (pw wd - 1)) : Nat) : Int), .int .u64 ((x.2 : Nat) : Int)]) (by rfl) (by kernel_rfl) (by kernel_rfl) hB14 (by kernel_rfl) (by kernel_rfl), ?_⟩
  have e := ks_eq (w := W) hx hlt h1
  rw [if_pos (by rw [← andn_bit]; exact (top_bit _ _).1 (by assumption))] at e
  exact ⟨congrArg kV e, hT0⟩
 ·
  replace hc30 : (((andn x.1 x.2) &&& (pw (wd - 1)) : Nat) : Int) = 0 := (bne_eq_false_iff_eq.1 hc30)
  refine zQ ?_
  refine zS [(35, .pointer (some ⟨w1.heap.size, 1, none⟩))] ?_
  refine zL (.int .u64 ((x.2 : Nat) : Int)) ((hB8.cell 1).trans rfl) ?_
  refine zS [(37, .int .u64 ((pw (wd - 1) : Nat) : Int)), (38, .int .u64 (IntKind.u64.wrap (BitVec.ofInt 64 ((x.2 : Nat) : Int) &&& BitVec.ofInt 64 ((pw (wd - 1) : Nat) : Int)).toNat))] ?_
  rw [show IntKind.u64.wrap (BitVec.ofInt 64 ((x.2 : Nat) : Int) &&& BitVec.ofInt 64 ((pw (wd - 1) : Nat) : Int)).toNat = ((x.2 &&& (pw (wd - 1)) : Nat) : Int) from and_u x.2 (pw (wd - 1)) ux2 hu25]
  have hu35 : x.2 &&& (pw (wd - 1)) < 18446744073709551616 := and_lt ux2
  refine zS [(39, .bool (((x.2 &&& (pw (wd - 1)) : Nat) : Int) != 0)), (34, .bool (((x.2 &&& (pw (wd - 1)) : Nat) : Int) != 0))] ?_
  refine zO (((x.2 &&& (pw (wd - 1)) : Nat) : Int) != 0) (fun hc36 => ?_) (fun hc36 => ?_)
  ·
   replace hc36 : ((x.2 &&& (pw (wd - 1)) : Nat) : Int) ≠ 0 := (bne_iff_ne.1 hc36)
   refine zQ ?_
   refine zS [(40, .pointer (some ⟨w1.heap.size, 0, none⟩))] ?_
   refine zL (.int .u64 ((x.1 : Nat) : Int)) ((hB8.cell 0).trans rfl) ?_
   refine zS [(42, .int .u64 ((andn (pw W - 1) (pw wd - 1) : Nat) : Int)), (43, .int .u64 (IntKind.u64.wrap (BitVec.ofInt 64 ((x.1 : Nat) : Int) ||| BitVec.ofInt 64 ((andn (pw W - 1) (pw wd - 1) : Nat) : Int)).toNat))] ?_
   rw [show IntKind.u64.wrap (BitVec.ofInt 64 ((x.1 : Nat) : Int) ||| BitVec.ofInt 64 ((andn (pw W - 1) (pw wd - 1) : Nat) : Int)).toNat = ((x.1 ||| (andn (pw W - 1) (pw wd - 1)) : Nat) : Int) from or_u x.1 (andn (pw W - 1) (pw wd - 1)) ux1 hu24]
   have hu37 : x.1 ||| (andn (pw W - 1) (pw wd - 1)) < 18446744073709551616 := or_lt ux1 hu24
   refine zS [(44, .pointer (some ⟨w1.heap.size, 1, none⟩))] ?_
   refine zL (.int .u64 ((x.2 : Nat) : Int)) ((hB8.cell 1).trans rfl) ?_
   refine zS [(46, .int .u64 ((andn (pw W - 1) (pw wd - 1) : Nat) : Int)), (47, .int .u64 (IntKind.u64.wrap (BitVec.ofInt 64 ((x.2 : Nat) : Int) ||| BitVec.ofInt 64 ((andn (pw W - 1) (pw wd - 1) : Nat) : Int)).toNat))] ?_
   rw [show IntKind.u64.wrap (BitVec.ofInt 64 ((x.2 : Nat) : Int) ||| BitVec.ofInt 64 ((andn (pw W - 1) (pw wd - 1) : Nat) : Int)).toNat = ((x.2 ||| (andn (pw W - 1) (pw wd - 1)) : Nat) : Int) from or_u x.2 (andn (pw W - 1) (pw wd - 1)) ux2 hu24]
   have hu38 : x.2 ||| (andn (pw W - 1) (pw wd - 1)) < 18446744073709551616 := or_lt ux2 hu24
   refine zS [(48, .agg #[.int .u64 ((x.1 ||| (andn (pw W - 1) (pw wd - 1)) : Nat) : Int), .int .u64 ((x.2 ||| (andn (pw W - 1) (pw wd - 1)) : Nat) : Int)])] ?_
   refine st (by rfl) (S_storeA (b := w5.heap.size) (j := 0) (cs := [.int .u64 ((x.1 ||| (andn (pw W - 1) (pw wd - 1)) : Nat) : Int), .int .u64 ((x.2 ||| (andn (pw W - 1) (pw wd - 1)) : Nat) : Int)]) (by kernel_rfl) (by kernel_rfl) (by kernel_rfl) (by simp [oneV]) hB14 (by simp) fun w39 hT40 hs41 hB14' => ?_)
   have hT0 := (hT0).then hT40 (fun c e => by have : c = w5.heap.size := e; omega)
   have hB4 := hB4.tch hT40 (hB4.ne hB14 (by decide))
   have hB8 := hB8.tch hT40 (fun e => by have : w1.heap.size = w5.heap.size := e; omega)
   replace hB14 : Blk w39 w5.heap.size 100 [.int .u64 ((x.1 ||| (andn (pw W - 1) (pw wd - 1)) : Nat) : Int), .int .u64 ((x.2 ||| (andn (pw W - 1) (pw wd - 1)) : Nat) : Int)] := hB14'
   refine op_nil ?_
   refine W_ret ?_
   refine ⟨_, Res_cell (b := w5.heap.size) (cs := [.int .u64 ((x.1 ||| (andn (pw W - 1) (pw wd - 1)) : Nat) : Int), .int .u64 ((x.2 ||| (andn (pw W - 1) (pw wd - 1)) : Nat) : Int)]) (by rfl) (by kernel_rfl) (by kernel_rfl) hB14 (by kernel_rfl) (by kernel_rfl), ?_⟩
   have e := ks_eq (w := W) hx hlt h1
   rw [if_neg (by rw [← andn_bit]; exact fun q => absurd ((top_bit _ _).2 q) (by omega)), if_pos ((top_bit _ _).1 (by assumption))] at e
   exact ⟨congrArg kV e, hT0⟩
  ·
   replace hc36 : ((x.2 &&& (pw (wd - 1)) : Nat) : Int) = 0 := (bne_eq_false_iff_eq.1 hc36)
   refine W_skip ?_
   refine zQ ?_
   refine st (by rfl) (S_val (v := .agg #[.int .u64 ((x.1 : Nat) : Int), .int .u64 ((x.2 : Nat) : Int)]) (R_loadA [.int .u64 ((x.1 : Nat) : Int), .int .u64 ((x.2 : Nat) : Int)] (by kernel_rfl) (by kernel_rfl) (by kernel_rfl) (fun k u hk => by rw [hB8.cell]; exact get_part _ 0 _ k u rfl hk)) ?_)
   refine st (by rfl) (S_storeA (b := w5.heap.size) (j := 0) (cs := [.int .u64 ((x.1 : Nat) : Int), .int .u64 ((x.2 : Nat) : Int)]) (by kernel_rfl) (by kernel_rfl) (by kernel_rfl) (by simp [oneV]) hB14 (by simp) fun w42 hT43 hs44 hB14' => ?_)
   have hT0 := (hT0).then hT43 (fun c e => by have : c = w5.heap.size := e; omega)
   have hB4 := hB4.tch hT43 (hB4.ne hB14 (by decide))
   have hB8 := hB8.tch hT43 (fun e => by have : w1.heap.size = w5.heap.size := e; omega)
   replace hB14 : Blk w42 w5.heap.size 100 [.int .u64 ((x.1 : Nat) : Int), .int .u64 ((x.2 : Nat) : Int)] := hB14'
   refine op_nil ?_
   refine W_ret ?_
   refine ⟨_, Res_cell (b := w5.heap.size) (cs := [.int .u64 ((x.1 : Nat) : Int), .int .u64 ((x.2 : Nat) : Int)]) (by rfl) (by kernel_rfl) (by kernel_rfl) hB14 (by kernel_rfl) (by kernel_rfl), ?_⟩
   have e := ks_eq (w := W) hx hlt h1
   rw [if_neg (by rw [← andn_bit]; exact fun q => absurd ((top_bit _ _).2 q) (by omega)), if_neg (fun q => absurd ((top_bit _ _).2 q) (by omega))] at e
   exact ⟨congrArg kV e, hT0⟩

end Go.Proofs.YtlbadnpgmkobdaaV
