/- Texts laid together: Walks of functions of the program and of the document's texts. The conditions stand with each theorem. Walks of functions of the program and of the document's texts. The conditions stand with each theorem. The calculus' words for maps whose content is told exactly. Whether two places of failures are the same. Walks of functions of the program and of the document's texts. The conditions stand with each theorem. -/
import Derived.Test.YtlkjhkennbdbnaaJRrepo32x1
import Derived.Test.YtlkjhkennbdbnaaProg
import Derived.Test.YtlkjhkennbdbnaaJRrepo32x2
import Derived.DeepKeys4
import Derived.MapKept
import Derived.Maps.Keyed
set_option linter.unusedVariables false
set_option linter.unusedSimpArgs false
namespace Go.Proofs.YtlkjhkennbdbnaaV
open Go Go.RowKit Go.Proofs

theorem by_lowI {x : Int} (h : 0 ≤ x) : Value.int .u8 (IntKind.u8.wrap x) = .int .u8 (((UInt8.ofNat x.toNat).toNat : Nat) : Int) := by
 have := by_low x.toNat
 rwa [show ((x.toNat : Nat) : Int) = x by omega] at this
theorem lo1 {v : Value} {x : Nat} (h : v = .int .u8 (((UInt8.ofNat x).toNat : Nat) : Int)) : [v] = u8s (be 1 x) := by rw [be1_nat, h]; rfl
theorem lo2 {v v' : Value} {x y : Nat} (h : v = .int .u8 (((UInt8.ofNat x).toNat : Nat) : Int)) (h' : v' = .int .u8 (((UInt8.ofNat y).toNat : Nat) : Int)) : [v, v'] = u8s (be 1 x ++ be 1 y) := by rw [be1_nat, be1_nat, h, h']; rfl
def hdP (V E S U : Int) (n : Nat) : Tx := be 1 V.toNat ++ be 1 E.toNat ++ be 4 S.toNat ++ be 4 U.toNat ++ be 2 n
def preP (V E S U : Int) (l : List T6) (j : Nat) : Tx := hdP V E S U l.length ++ ((l.take j).map core).flatMap encC
def encH (t : Co) : Tx := be 1 t.1.length ++ t.1 ++ be 2 t.2.1.toNat ++ be 2 t.2.2.1.toNat ++ be 2 t.2.2.2.2.2.toNat ++ be 1 t.2.2.2.2.1.toNat ++ be 1 t.2.2.2.1.length
def preI (V E S U : Int) (l : List T6) (j i : Nat) : Tx := preP V E S U l j ++ encH (core (tq l j)) ++ ((tq l j).img.take i).flatMap (be 8)
theorem preP_0 (V E S U : Int) (l : List T6) : preP V E S U l 0 = hdP V E S U l.length := by simp [preP]
theorem preP_all (V E S U : Int) (l : List T6) : preP V E S U l l.length = encR V E S U (cores l) := by
 unfold preP encR hdP; rw [List.take_length, cores_length]; rfl
theorem preI_0 (V E S U : Int) (l : List T6) (j : Nat) : preI V E S U l j 0 = preP V E S U l j ++ encH (core (tq l j)) := by simp [preI]
theorem preI_step {V E S U : Int} {l : List T6} {j i : Nat} (h : i < (tq l j).img.length) : preI V E S U l j (i + 1) = preI V E S U l j i ++ be 8 ((tq l j).img.getD i 0) := by
 unfold preI
 have e : (tq l j).img.take (i + 1) = (tq l j).img.take i ++ [(tq l j).img[i]] := List.take_succ_eq_append_getElem h
 have e2 : (tq l j).img.getD i 0 = (tq l j).img[i] := by rw [List.getD_eq_getElem?_getD, List.getElem?_eq_getElem h]; rfl
 rw [e, e2, List.flatMap_append]; simp
theorem preI_all {V E S U : Int} {l : List T6} {j : Nat} (h : j < l.length) : preI V E S U l j (tq l j).img.length = preP V E S U l (j + 1) := by
 unfold preI preP
 rw [List.take_length, take_snoc core l h, List.flatMap_append]
 simp [encC, encH, core]
theorem img_lt {w : World} {A : Option Addr} {l : List T6} (h : TsW w A l) {j i : Nat} (hj : j < l.length) (hi : i < (tq l j).img.length) : (tq l j).img.getD i 0 < 18446744073709551616 := by
 refine (h.wf hj).2.2.2.2 _ ?_
 rw [List.getD_eq_getElem?_getD, List.getElem?_eq_getElem hi]; exact List.getElem_mem hi
theorem may_el {V E S U : Int} {l : List T6} (h : mayR V E S U (cores l) = true) {j : Nat} (hj : j < l.length) : mayC (core (tq l j)) = true := by
 unfold mayR at h
 rw [Bool.and_eq_true] at h
 exact List.all_eq_true.1 h.2 _ (List.mem_of_getElem? (core_tq hj))
theorem may_hd {V E S U : Int} {l : List T6} (h : mayR V E S U (cores l) = true) : (0 ≤ V ∧ V ≤ 3) ∧ (0 ≤ E ∧ E ≤ 255) ∧ (0 ≤ S ∧ S ≤ 1073741824) ∧ (0 ≤ U ∧ U ≤ 1073741824) ∧ l.length ≤ 65535 := by
 unfold mayR mayH at h
 rw [Bool.and_eq_true, cores_length] at h
 exact of_decide_eq_true h.1

theorem enc_pos (V E S U : Int) (l : List T6) : 0 < (preP V E S U l l.length).length := by
 unfold preP hdP
 simp only [List.length_append, be_length]; omega

set_option maxRecDepth 100000 in
set_option maxHeartbeats 2000000 in
theorem put_ok (V E S U : Int) (A : Option Addr) (c : Nat) (l : List T6) (w : World) (hR : TsW w A l) : Ret Try.prog 8 [.agg #[.int .i64 V, .int .i64 E, .slice A l.length c, .int .i64 S, .int .i64 U]] w fun v w' => v = .tuple #[.string (bsT (putT V E S U (cores l))), .int .i64 (putE V E S U (cores l))] ∧ Tch N0 w w' := by
 have hXm := hR.rd.2.1
 refine enter Try.func8 rfl rfl ?_
 refine zQ ?_
 refine st (by rfl) (S_new (v := .pointer (some ⟨w.heap.size, 0, none⟩)) (ob := .cells #[.int .i64 V, .int .i64 E, .slice A l.length c, .int .i64 S, .int .i64 U] 25) (by kernel_rfl) fun w1 hT2 hs3 hB4 => ?_)
 replace hB4 : Blk w1 (w.heap.size) 25 [.int .i64 V, .int .i64 E, .slice A l.length c, .int .i64 S, .int .i64 U] := hB4
 have hT0 := hT2
 refine zS [(2, .string (bsT ([]))), (3, .int .i64 0)] ?_
 refine op_nil ?_
 refine W_seq ?_
 refine zQ ?_
 refine st (by rfl) (S_val (v := .agg #[.int .i64 V, .int .i64 E, .slice A l.length c, .int .i64 S, .int .i64 U]) (R_loadA [.int .i64 V, .int .i64 E, .slice A l.length c, .int .i64 S, .int .i64 U] (by kernel_rfl) (by kernel_rfl) (by kernel_rfl) (fun k u hk => by rw [hB4.cell]; exact get_part _ 0 _ k u rfl hk)) ?_)
 refine zC (may_ok V E S U A c l _ (hR.tch0 hT0)) ?_
 rintro _ w5 ⟨rfl, hT6⟩
 have hT0 := hT0.t0 hT6
 have hB4 := hB4.tch0 hT6
 refine zS [(13, .bool (!(mayR V E S U (cores l))))] ?_
 refine zO (!(mayR V E S U (cores l))) (fun hc7 => ?_) (fun hc7 => ?_)
 ·
  replace hc7 : mayR V E S U (cores l) = false := ((not_t hc7))
  refine zQ ?_
  refine zS [(2, .string (bsT ([]))), (3, .int .i64 4)] ?_
  refine op_nil ?_
  refine W_ret ?_
  refine ⟨_, Res_of (v := .tuple #[.string (bsT ([])), .int .i64 4]) (by kernel_rfl), ?_⟩
  have hq := put_f (V := V) (E := E) (S := S) (U := U) (by assumption)
  rw [hq.1, hq.2]
  exact ⟨rfl, hT0⟩
 ·
  replace hc7 : mayR V E S U (cores l) = true := ((not_f hc7))
  refine W_skip ?_
  refine zQ ?_
  refine zS [(14, .pointer (some ⟨w.heap.size, 0, none⟩))] ?_
  refine zL (.int .i64 V) ((hB4.cell 0).trans rfl) ?_
  refine zS [(16, .int .u8 (IntKind.u8.wrap V)), (17, .pointer (some ⟨w.heap.size, 1, none⟩))] ?_
  refine zL (.int .i64 E) ((hB4.cell 1).trans rfl) ?_
  refine zS [(19, .int .u8 (IntKind.u8.wrap E))] ?_
  have hz12 := hT0.size
  have lt13 := hB4.lt
  refine st (by rfl) (S_new (v := .slice (some ⟨w5.heap.size, 0, none⟩) 2 2) (ob := .cells #[.int .u8 (IntKind.u8.wrap V), .int .u8 (IntKind.u8.wrap E)] 5) (by kernel_rfl) fun w8 hT9 hs10 hB11 => ?_)
  replace hB11 : Blk w8 (w5.heap.size) 5 [.int .u8 (IntKind.u8.wrap V), .int .u8 (IntKind.u8.wrap E)] := hB11
  have hT0 := hT0.t0 hT9
  have hB4 := hB4.tch0 hT9
  refine zS [(4, .slice (some ⟨w5.heap.size, 0, none⟩) 2 2)] ?_
  refine op_nil ?_
  refine W_seq ?_
  refine zF [(0, .agg #[.int .i64 V, .int .i64 E, .slice A l.length c, .int .i64 S, .int .i64 U]), (1, .pointer (some ⟨w.heap.size, 0, none⟩)), (2, .string (bsT ([]))), (3, .int .i64 0), (4, .slice (some ⟨w5.heap.size, 0, none⟩) 2 2), (13, .bool (!(mayR V E S U (cores l))))] fun ρ => ?_
  have hmay : mayR V E S U (cores l) = true := by assumption
  have hm := may_hd hmay
  have hz_ := hT0.size
  have hO := hB11.own (base := 0) (sz := 1) (n := 2) (Nat.zero_le _) rfl (by decide)
  rw [lo2 (by_lowI (by omega)) (by_lowI (by omega))] at hO
  have nB_hO : ∀ c, (Value.slice (some ⟨w5.heap.size, 0, none⟩) 2 2).ownBlock = some c → w.heap.size ≤ c := fun c hc => by have e : w5.heap.size = c := Option.some.inj hc; omega
  refine W_draw (fun w' => Blk w' (w.heap.size) 25 [.int .i64 V, .int .i64 E, .slice A l.length c, .int .i64 S, .int .i64 U]) (by kernel_rfl) (by kernel_rfl) (by kernel_rfl) fun w14 hT15 hh16 => ?_
  have hT0 := hT0.t0 hT15
  have hB4 := hB4.tch0 hT15
  have hO := hO.tch0 hT15
  refine zK [0, 1, 5] #[true, true, false, false, false, true, false, false, false, false] [(21, .slice (some ⟨w5.heap.size, 0, none⟩) 2 2), (22, .pointer (some ⟨w.heap.size, 3, none⟩)), (26, .pointer (some ⟨w.heap.size, 4, none⟩))] hB4 ?_
  refine zV 2 rfl (.int .i64 S) (fun _ hB4 => R_load (v := .int .i64 S) (by kernel_rfl) (by kernel_rfl) ((hB4.cell 3).trans rfl)) hB4 ?_
  refine zK [3] #[true, true, true, true, false, true, false, false, false, false] [(24, .int .u64 (IntKind.u64.wrap S))] hB4 ?_
  rw [show IntKind.u64.wrap S = S from wrap_u64 (by omega) (by omega)]
  refine fixD (y := ((S.toNat : Nat) : Int)) (by omega) ?_
  refine zV 6 rfl (.int .i64 U) (fun _ hB4 => R_load (v := .int .i64 U) (by kernel_rfl) (by kernel_rfl) ((hB4.cell 4).trans rfl)) hB4 ?_
  refine zK [7] #[true, true, true, true, false, true, true, true, false, false] [(28, .int .u64 (IntKind.u64.wrap U))] hB4 ?_
  rw [show IntKind.u64.wrap U = U from wrap_u64 (by omega) (by omega)]
  refine fixD (y := ((U.toNat : Nat) : Int)) (by omega) ?_
  have hz_ := hT0.size
  refine zD 4 rfl (S_call (args := [.slice (some ⟨w5.heap.size, 0, none⟩) 2 2, .int .u64 ((S.toNat : Nat) : Int), .int .i64 4]) (by kernel_rfl) (num4_ok (some ⟨w5.heap.size, 0, none⟩) 2 2 (be 1 V.toNat ++ be 1 E.toNat) S.toNat _ hO (by omega) (by omega)) ?_)
  rintro _ w17 ⟨A18, c18, rfl, hO18, hw18, hT18⟩
  have hT0 := (hT0).then hT18 nB_hO
  have hB4 := hB4.tch hT18 (fun e => hO.blk_ne hB4 (by decide) _ e rfl)
  have hO := hO18
  have nB_hO : ∀ c, (Value.slice A18 (2 + 4) c18).ownBlock = some c → w.heap.size ≤ c := fun c hc => (hw18 c hc).elim (nB_hO c) (fun q => by omega)
  refine ⟨hB4, ?_⟩
  have hz_ := hT0.size
  refine zD 8 rfl (S_call (args := [.slice A18 (2 + 4) c18, .int .u64 ((U.toNat : Nat) : Int), .int .i64 4]) (by kernel_rfl) (num4_ok A18 (2 + 4) c18 (be 1 V.toNat ++ be 1 E.toNat ++ be 4 S.toNat) U.toNat _ hO (by omega) (by omega)) ?_)
  rintro _ w19 ⟨A20, c20, rfl, hO20, hw20, hT20⟩
  have hT0 := (hT0).then hT20 nB_hO
  have hB4 := hB4.tch hT20 (fun e => hO.blk_ne hB4 (by decide) _ e rfl)
  have hO := hO20
  have nB_hO : ∀ c, (Value.slice A20 (2 + 4 + 4) c20).ownBlock = some c → w.heap.size ≤ c := fun c hc => (hw20 c hc).elim (nB_hO c) (fun q => by omega)
  refine ⟨hB4, ?_⟩
  refine zK [9] #[true, true, true, true, true, true, true, true, true, true] [(4, .slice A20 (2 + 4 + 4) c20)] hB4 ?_
  refine d_done (by kernel_rfl) ?_
  refine W_seq ?_
  refine zF [(0, .agg #[.int .i64 V, .int .i64 E, .slice A l.length c, .int .i64 S, .int .i64 U]), (1, .pointer (some ⟨w.heap.size, 0, none⟩)), (2, .string (bsT ([]))), (3, .int .i64 0), (4, .slice A20 (2 + 4 + 4) c20), (13, .bool (!(mayR V E S U (cores l))))] fun ρ => ?_
  refine zR ?_
  refine zS [(30, .slice A20 (2 + 4 + 4) c20), (31, .pointer (some ⟨w.heap.size, 2, none⟩))] ?_
  refine zL (.slice A l.length c) ((hB4.cell 2).trans rfl) ?_
  refine zS [(33, .int .i64 (l.length : Int)), (34, .int .u64 (IntKind.u64.wrap (l.length : Int)))] ?_
  rw [show IntKind.u64.wrap (l.length : Int) = (l.length : Int) from wrap_u64 (by omega) (by omega)]
  refine fixR (y := ((l.length : Nat) : Int)) (by omega) ?_
  have hz_ := hT0.size
  refine zC (num2_ok A20 (2 + 4 + 4) c20 (be 1 V.toNat ++ be 1 E.toNat ++ be 4 S.toNat ++ be 4 U.toNat) l.length _ hO (by omega) (by omega)) ?_
  rintro _ w21 ⟨A22, c22, rfl, hO22, hw22, hT22⟩
  have hT0 := (hT0).then hT22 nB_hO
  have hB4 := hB4.tch hT22 (fun e => hO.blk_ne hB4 (by decide) _ e rfl)
  have hO := hO22
  have nB_hO : ∀ c, (Value.slice A22 (2 + 4 + 4 + 2) c22).ownBlock = some c → w.heap.size ≤ c := fun c hc => (hw22 c hc).elim (nB_hO c) (fun q => by omega)
  refine zS [(4, .slice A22 (2 + 4 + 4 + 2) c22)] ?_
  refine op_nil ?_
  refine W_seq ?_
  refine zQ ?_
  refine zS [(36, .pointer (some ⟨w.heap.size, 2, none⟩))] ?_
  refine zL (.slice A l.length c) ((hB4.cell 2).trans rfl) ?_
  refine zS [(38, .int .i64 (l.length : Int)), (39, .int .i64 0)] ?_
  refine op_nil ?_
  refine W_block ?_
  refine W_loop (fun m ρ w' => ∃ (B : Option Addr) (n cb j : Nat) (ρ0 : Env), ρ = updL ρ0 [(1, .pointer (some ⟨w.heap.size, 0, none⟩)), (4, .slice B n cb), (37, .slice A l.length c), (38, .int .i64 (l.length : Int)), (39, .int .i64 ((j : Nat) : Int))] ∧ (j ≤ l.length) ∧ (n ≤ 12 + 2400 * j) ∧ (∀ c, (Value.slice B n cb).ownBlock = some c → w.heap.size ≤ c) ∧ Tch N0 w w' ∧ Blk w' (w.heap.size) 25 [.int .i64 V, .int .i64 E, .slice A l.length c, .int .i64 S, .int .i64 U] ∧ Own w' 0 5 1 (.slice B n cb) n (u8s (preP V E S U l j)) ∧ m = l.length + 1 - j) (m := l.length + 1 - 0) ?_ ?_
  ·
   refine ⟨A22, 2 + 4 + 4 + 2, c22, 0, _, updL_self (by kernel_rfl), by omega, by omega, nB_hO, hT0, hB4, (by have q := hO; rw [show be 1 V.toNat ++ be 1 E.toNat ++ be 4 S.toNat ++ be 4 U.toNat ++ be 2 l.length = preP V E S U l 0 from by rw [preP_0]; unfold hdP; simp only [List.append_assoc]] at q; exact q), rfl⟩
  ·
   rintro m ρ w23 ⟨B, n, cb, j, ρ, rfl, hj, hn, nB_hO, hT0, hB4, hO, rfl⟩
   refine zQ ?_
   refine zS [(40, .bool (decide (((j : Nat) : Int) < (l.length : Int))))] ?_
   refine op_nil ?_
   refine W_seq ?_
   refine zW (decide (((j : Nat) : Int) < (l.length : Int))) (fun hc24 => ?_) (fun hc24 => ?_)
   ·
    replace hc24 : ((j : Nat) : Int) < (l.length : Int) := (of_decide_eq_true hc24)
    refine W_skip ?_
    refine W_seq ?_
    refine W_block ?_
    refine W_seq ?_
    have hmc := may_el hmay (j := j) (by omega)
    rw [mayC_core] at hmc
    have hmc := of_decide_eq_true hmc
    refine zR ?_
    refine stv (v := ptrAt A (j * 6)) (by rfl) (R_indexRd (sz := 6) (len := l.length) (cap := c) (k := .i64) (i := ((j : Nat) : Int)) (e := 43) j (hR.rd.tch0 hT0) (by kernel_rfl) (by kernel_rfl) (by kernel_rfl) (by kernel_rfl) rfl (by omega)) ?_
    refine stv (v := .agg #[.slice ((tq l j).iA) ((tq l j).inp.length) ((tq l j).iC), .int .i64 ((tq l j).pt), .int .i64 ((tq l j).ms), .slice ((tq l j).gA) ((tq l j).img.length) ((tq l j).gC), .int .i64 ((tq l j).kd), .int .i64 ((tq l j).cd)]) (by rfl) (R_loadRdA [.slice ((tq l j).iA) ((tq l j).inp.length) ((tq l j).iC), .int .i64 ((tq l j).pt), .int .i64 ((tq l j).ms), .slice ((tq l j).gA) ((tq l j).img.length) ((tq l j).gC), .int .i64 ((tq l j).kd), .int .i64 ((tq l j).cd)] (hR.rd.tch0 hT0) (by omega) (by kernel_rfl) (by kernel_rfl) (by kernel_rfl) (tcs_part l (by omega))) ?_
    have hz29 := hT0.size
    have lt30 := hB4.lt
    have lR_hO := hO.lt
    refine st (by rfl) (S_new (v := .pointer (some ⟨w23.heap.size, 0, none⟩)) (ob := .cells #[.slice none 0 0, .int .i64 0, .int .i64 0, .slice none 0 0, .int .i64 0, .int .i64 0] 43) (by kernel_rfl) fun w25 hT26 hs27 hB28 => ?_)
    replace hB28 : Blk w25 (w23.heap.size) 43 [.slice none 0 0, .int .i64 0, .int .i64 0, .slice none 0 0, .int .i64 0, .int .i64 0] := hB28
    have hT0 := hT0.t0 hT26
    have hB4 := hB4.tch0 hT26
    have hO := hO.tch0 hT26
    refine st (by rfl) (S_storeA (b := w23.heap.size) (j := 0) (cs := [.slice ((tq l j).iA) ((tq l j).inp.length) ((tq l j).iC), .int .i64 ((tq l j).pt), .int .i64 ((tq l j).ms), .slice ((tq l j).gA) ((tq l j).img.length) ((tq l j).gC), .int .i64 ((tq l j).kd), .int .i64 ((tq l j).cd)]) (by kernel_rfl) (by kernel_rfl) (by kernel_rfl) (by simp [oneV]) hB28 (by simp) fun w31 hT32 hs33 hB28' => ?_)
    have hT0 := (hT0).then hT32 (fun c e => by have : c = w23.heap.size := e; omega)
    have hB4 := hB4.tch hT32 (hB4.ne hB28 (by decide))
    have hO := hO.tch hT32 (fun c hc e => hO.blk_ne hB28 (by decide) c hc e)
    replace hB28 : Blk w31 w23.heap.size 43 [.slice ((tq l j).iA) ((tq l j).inp.length) ((tq l j).iC), .int .i64 ((tq l j).pt), .int .i64 ((tq l j).ms), .slice ((tq l j).gA) ((tq l j).img.length) ((tq l j).gC), .int .i64 ((tq l j).kd), .int .i64 ((tq l j).cd)] := hB28'
    refine op_nil ?_
    refine W_seq ?_
    refine W_draw (fun w' => Blk w' (w23.heap.size) 43 [.slice ((tq l j).iA) ((tq l j).inp.length) ((tq l j).iC), .int .i64 ((tq l j).pt), .int .i64 ((tq l j).ms), .slice ((tq l j).gA) ((tq l j).img.length) ((tq l j).gC), .int .i64 ((tq l j).kd), .int .i64 ((tq l j).cd)]) (by kernel_rfl) (by kernel_rfl) (by kernel_rfl) fun w34 hT35 hh36 => ?_
    have hT0 := hT0.t0 hT35
    have hB4 := hB4.tch0 hT35
    have hO := hO.tch0 hT35
    have hB28 := hB28.tch0 hT35
    refine zK [0, 1, 7] #[true, true, false, false, false, false, false, true, false, false, false] [(43, .slice B n cb), (44, .pointer (some ⟨w23.heap.size, 0, none⟩)), (50, .pointer (some ⟨w23.heap.size, 0, none⟩))] hB28 ?_
    refine zV 2 rfl (.slice ((tq l j).iA) ((tq l j).inp.length) ((tq l j).iC)) (fun _ hB28 => R_load (v := .slice ((tq l j).iA) ((tq l j).inp.length) ((tq l j).iC)) (by kernel_rfl) (by kernel_rfl) ((hB28.cell 0).trans rfl)) hB28 ?_
    refine zK [3, 4] #[true, true, true, true, true, false, false, true, false, false, false] [(46, .int .i64 ((tq l j).inp.length : Int)), (47, .int .u8 (IntKind.u8.wrap ((tq l j).inp.length : Int)))] hB28 ?_
    refine zV 8 rfl (.slice ((tq l j).iA) ((tq l j).inp.length) ((tq l j).iC)) (fun _ hB28 => R_load (v := .slice ((tq l j).iA) ((tq l j).inp.length) ((tq l j).iC)) (by kernel_rfl) (by kernel_rfl) ((hB28.cell 0).trans rfl)) hB28 ?_
    have hz41 := hT0.size
    have lt42 := hB4.lt
    have lR_hO := hO.lt
    have lt43 := hB28.lt
    refine zD 5 rfl (S_new (v := .slice (some ⟨w34.heap.size, 0, none⟩) 1 1) (ob := .cells #[.int .u8 (IntKind.u8.wrap ((tq l j).inp.length : Int))] 5) (by kernel_rfl) fun w37 hT38 hs39 hB40 => ?_)
    replace hB40 : Blk w37 (w34.heap.size) 5 [.int .u8 (IntKind.u8.wrap ((tq l j).inp.length : Int))] := hB40
    have hT0 := hT0.t0 hT38
    have hB4 := hB4.tch0 hT38
    have hO := hO.tch0 hT38
    have hB28 := hB28.tch0 hT38
    refine ⟨hB28, ?_⟩
    have hz_ := hT0.size
    have lt_hB4 := hB4.lt
    have lt_hB28 := hB28.lt
    have lt_hB40 := hB40.lt
    refine zD 6 rfl (S_appendR 39 5 (.int .u8 0) 1 1 (n := n) (m := 1) (A := B) (cp := cb) (cells := u8s (preP V E S U l j)) (news := [.int .u8 (IntKind.u8.wrap ((tq l j).inp.length : Int))]) (b := w34.heap.size) (off := 0) (c := 1) (by kernel_rfl) (by kernel_rfl) (by decide) (by kernel_rfl) (by kernel_rfl) (by kernel_rfl) hO (by rfl) (fun k u hk => by rw [Nat.zero_add, hB40.cell]; exact hk) (by simp [oneV]) (by simp only [maxLen]; omega) (by omega) fun A44 c44 w44 hO44 hw44 hT44 => ?_)
    rw [lo1 (by_low _), ← u8s_app] at hO44
    have hT0 := (hT0).then hT44 nB_hO
    have hB4 := hB4.tch hT44 (fun e => hO.blk_ne hB4 (by decide) _ e rfl)
    have hB28 := hB28.tch hT44 (fun e => hO.blk_ne hB28 (by decide) _ e rfl)
    have hO := hO44
    have nB_hO : ∀ c, (Value.slice A44 (n + 1) c44).ownBlock = some c → w.heap.size ≤ c := fun c hc => (hw44 c hc).elim (nB_hO c) (fun q => by omega)
    refine ⟨hB28, ?_⟩
    have hz_ := hT0.size
    refine zD 9 rfl (S_appendY 39 5 (.int .u8 0) 1 (c := (tq l j).iC) (n := n + 1) (m := (tq l j).inp.length) (A := A44) (cp := c44) (cells := u8s (preP V E S U l j ++ be 1 ((tq l j).inp.length))) (news := u8s ((tq l j).inp)) (by kernel_rfl) (by kernel_rfl) (by kernel_rfl) (by kernel_rfl) (by kernel_rfl) hO ((hR.ri (by omega)).tch0 hT0) (u8s_one _) (by simp only [maxLen]; omega) (by omega) fun A45 c45 w45 hO45 hw45 hT45 => ?_)
    rw [← u8s_app] at hO45
    have hT0 := (hT0).then hT45 nB_hO
    have hB4 := hB4.tch hT45 (fun e => hO.blk_ne hB4 (by decide) _ e rfl)
    have hB28 := hB28.tch hT45 (fun e => hO.blk_ne hB28 (by decide) _ e rfl)
    have hO := hO45
    have nB_hO : ∀ c, (Value.slice A45 (n + 1 + (tq l j).inp.length) c45).ownBlock = some c → w.heap.size ≤ c := fun c hc => (hw45 c hc).elim (nB_hO c) (fun q => by omega)
    refine ⟨hB28, ?_⟩
    refine zK [10] #[true, true, true, true, true, true, true, true, true, true, true] [(4, .slice A45 (n + 1 + (tq l j).inp.length) c45)] hB28 ?_
    refine d_done (by kernel_rfl) ?_
    refine W_seq ?_
    refine W_seq ?_
    refine zF [(1, .pointer (some ⟨w.heap.size, 0, none⟩)), (4, .slice A45 (n + 1 + (tq l j).inp.length) c45), (6, .pointer (some ⟨w23.heap.size, 0, none⟩)), (37, .slice A l.length c), (38, .int .i64 (l.length : Int)), (39, .int .i64 ((j : Nat) : Int)), (40, .bool (decide (((j : Nat) : Int) < (l.length : Int))))] fun ρ => ?_
    refine zR ?_
    refine zS [(53, .pointer (some ⟨w23.heap.size, 1, none⟩))] ?_
    refine zL (.int .i64 ((tq l j).pt)) ((hB28.cell 1).trans rfl) ?_
    refine zS [(55, .pointer (some ⟨w23.heap.size, 2, none⟩))] ?_
    refine zL (.int .i64 ((tq l j).ms)) ((hB28.cell 2).trans rfl) ?_
    refine zS [(57, .pointer (some ⟨w23.heap.size, 5, none⟩))] ?_
    refine zL (.int .i64 ((tq l j).cd)) ((hB28.cell 5).trans rfl) ?_
    refine zS [(59, .agg #[.int .i64 ((tq l j).pt), .int .i64 ((tq l j).ms), .int .i64 ((tq l j).cd)]), (60, .int .i64 0)] ?_
    refine op_nil ?_
    refine W_block ?_
    refine W_un 4 ?_
    refine Un_s ?_
    refine W_seq ?_
    refine zF [(1, .pointer (some ⟨w.heap.size, 0, none⟩)), (4, .slice A45 (n + 1 + (tq l j).inp.length) c45), (6, .pointer (some ⟨w23.heap.size, 0, none⟩)), (37, .slice A l.length c), (38, .int .i64 (l.length : Int)), (39, .int .i64 ((j : Nat) : Int)), (40, .bool (decide (((j : Nat) : Int) < (l.length : Int)))), (59, .agg #[.int .i64 ((tq l j).pt), .int .i64 ((tq l j).ms), .int .i64 ((tq l j).cd)]), (60, .int .i64 0)] fun ρ => ?_
    refine zR ?_
    refine zS [(61, .bool true)] ?_
    refine op_nil ?_
    refine W_seq ?_
    refine zW true (fun _ => ?_) (fun h => nomatch h)
    refine W_skip ?_
    refine W_seq ?_
    refine W_block ?_
    refine zQ ?_
    refine zS [(62, .int .i64 ((tq l j).pt)), (8, .int .i64 ((tq l j).pt))] ?_
    refine op_nil ?_
    refine zR ?_
    refine zS [(63, .slice A45 (n + 1 + (tq l j).inp.length) c45), (64, .int .i64 ((tq l j).pt)), (65, .int .u64 (IntKind.u64.wrap ((tq l j).pt)))] ?_
    rw [show IntKind.u64.wrap ((tq l j).pt) = (tq l j).pt from wrap_u64 (by omega) (by omega)]
    refine fixR (y := ((((tq l j).pt).toNat : Nat) : Int)) (by omega) ?_
    have hz_ := hT0.size
    refine zC (num2_ok A45 (n + 1 + (tq l j).inp.length) c45 (preP V E S U l j ++ be 1 ((tq l j).inp.length) ++ ((tq l j).inp)) (((tq l j).pt).toNat) _ hO (by omega) (by omega)) ?_
    rintro _ w46 ⟨A47, c47, rfl, hO47, hw47, hT47⟩
    have hT0 := (hT0).then hT47 nB_hO
    have hB4 := hB4.tch hT47 (fun e => hO.blk_ne hB4 (by decide) _ e rfl)
    have hB28 := hB28.tch hT47 (fun e => hO.blk_ne hB28 (by decide) _ e rfl)
    have hO := hO47
    have nB_hO : ∀ c, (Value.slice A47 (n + 1 + (tq l j).inp.length + 2) c47).ownBlock = some c → w.heap.size ≤ c := fun c hc => (hw47 c hc).elim (nB_hO c) (fun q => by omega)
    refine zS [(4, .slice A47 (n + 1 + (tq l j).inp.length + 2) c47)] ?_
    refine op_nil ?_
    refine zF [(1, .pointer (some ⟨w.heap.size, 0, none⟩)), (4, .slice A47 (n + 1 + (tq l j).inp.length + 2) c47), (6, .pointer (some ⟨w23.heap.size, 0, none⟩)), (8, .int .i64 ((tq l j).pt)), (37, .slice A l.length c), (38, .int .i64 (l.length : Int)), (39, .int .i64 ((j : Nat) : Int)), (40, .bool (decide (((j : Nat) : Int) < (l.length : Int)))), (59, .agg #[.int .i64 ((tq l j).pt), .int .i64 ((tq l j).ms), .int .i64 ((tq l j).cd)]), (60, .int .i64 0), (61, .bool true)] fun ρ => ?_
    refine zR ?_
    refine zS [(67, .int .i64 1), (60, .int .i64 1)] ?_
    refine op_nil ?_
    refine Un_s ?_
    refine zQ ?_
    refine zS [(61, .bool true)] ?_
    refine op_nil ?_
    refine W_seq ?_
    refine zW true (fun _ => ?_) (fun h => nomatch h)
    refine W_skip ?_
    refine W_seq ?_
    refine W_block ?_
    refine zQ ?_
    refine zS [(62, .int .i64 ((tq l j).ms)), (8, .int .i64 ((tq l j).ms))] ?_
    refine op_nil ?_
    refine zR ?_
    refine zS [(63, .slice A47 (n + 1 + (tq l j).inp.length + 2) c47), (64, .int .i64 ((tq l j).ms)), (65, .int .u64 (IntKind.u64.wrap ((tq l j).ms)))] ?_
    rw [show IntKind.u64.wrap ((tq l j).ms) = (tq l j).ms from wrap_u64 (by omega) (by omega)]
    refine fixR (y := ((((tq l j).ms).toNat : Nat) : Int)) (by omega) ?_
    have hz_ := hT0.size
    refine zC (num2_ok A47 (n + 1 + (tq l j).inp.length + 2) c47 (preP V E S U l j ++ be 1 ((tq l j).inp.length) ++ ((tq l j).inp) ++ be 2 (((tq l j).pt).toNat)) (((tq l j).ms).toNat) _ hO (by omega) (by omega)) ?_
    rintro _ w48 ⟨A49, c49, rfl, hO49, hw49, hT49⟩
    have hT0 := (hT0).then hT49 nB_hO
    have hB4 := hB4.tch hT49 (fun e => hO.blk_ne hB4 (by decide) _ e rfl)
    have hB28 := hB28.tch hT49 (fun e => hO.blk_ne hB28 (by decide) _ e rfl)
    have hO := hO49
    have nB_hO : ∀ c, (Value.slice A49 (n + 1 + (tq l j).inp.length + 2 + 2) c49).ownBlock = some c → w.heap.size ≤ c := fun c hc => (hw49 c hc).elim (nB_hO c) (fun q => by omega)
    refine zS [(4, .slice A49 (n + 1 + (tq l j).inp.length + 2 + 2) c49)] ?_
    refine op_nil ?_
    refine zF [(1, .pointer (some ⟨w.heap.size, 0, none⟩)), (4, .slice A49 (n + 1 + (tq l j).inp.length + 2 + 2) c49), (6, .pointer (some ⟨w23.heap.size, 0, none⟩)), (8, .int .i64 ((tq l j).ms)), (37, .slice A l.length c), (38, .int .i64 (l.length : Int)), (39, .int .i64 ((j : Nat) : Int)), (40, .bool (decide (((j : Nat) : Int) < (l.length : Int)))), (59, .agg #[.int .i64 ((tq l j).pt), .int .i64 ((tq l j).ms), .int .i64 ((tq l j).cd)]), (60, .int .i64 1), (61, .bool true)] fun ρ => ?_
    refine zR ?_
    refine zS [(67, .int .i64 2), (60, .int .i64 2)] ?_
    refine op_nil ?_
    refine Un_s ?_
    refine zQ ?_
    refine zS [(61, .bool true)] ?_
    refine op_nil ?_
    refine W_seq ?_
    refine zW true (fun _ => ?_) (fun h => nomatch h)
    refine W_skip ?_
    refine W_seq ?_
    refine W_block ?_
    refine zQ ?_
    refine zS [(62, .int .i64 ((tq l j).cd)), (8, .int .i64 ((tq l j).cd))] ?_
    refine op_nil ?_
    refine zR ?_
    refine zS [(63, .slice A49 (n + 1 + (tq l j).inp.length + 2 + 2) c49), (64, .int .i64 ((tq l j).cd)), (65, .int .u64 (IntKind.u64.wrap ((tq l j).cd)))] ?_
    rw [show IntKind.u64.wrap ((tq l j).cd) = (tq l j).cd from wrap_u64 (by omega) (by omega)]
    refine fixR (y := ((((tq l j).cd).toNat : Nat) : Int)) (by omega) ?_
    have hz_ := hT0.size
    refine zC (num2_ok A49 (n + 1 + (tq l j).inp.length + 2 + 2) c49 (preP V E S U l j ++ be 1 ((tq l j).inp.length) ++ ((tq l j).inp) ++ be 2 (((tq l j).pt).toNat) ++ be 2 (((tq l j).ms).toNat)) (((tq l j).cd).toNat) _ hO (by omega) (by omega)) ?_
    rintro _ w50 ⟨A51, c51, rfl, hO51, hw51, hT51⟩
    have hT0 := (hT0).then hT51 nB_hO
    have hB4 := hB4.tch hT51 (fun e => hO.blk_ne hB4 (by decide) _ e rfl)
    have hB28 := hB28.tch hT51 (fun e => hO.blk_ne hB28 (by decide) _ e rfl)
    have hO := hO51
    have nB_hO : ∀ c, (Value.slice A51 (n + 1 + (tq l j).inp.length + 2 + 2 + 2) c51).ownBlock = some c → w.heap.size ≤ c := fun c hc => (hw51 c hc).elim (nB_hO c) (fun q => by omega)
    refine zS [(4, .slice A51 (n + 1 + (tq l j).inp.length + 2 + 2 + 2) c51)] ?_
    refine op_nil ?_
    refine zF [(1, .pointer (some ⟨w.heap.size, 0, none⟩)), (4, .slice A51 (n + 1 + (tq l j).inp.length + 2 + 2 + 2) c51), (6, .pointer (some ⟨w23.heap.size, 0, none⟩)), (8, .int .i64 ((tq l j).cd)), (37, .slice A l.length c), (38, .int .i64 (l.length : Int)), (39, .int .i64 ((j : Nat) : Int)), (40, .bool (decide (((j : Nat) : Int) < (l.length : Int)))), (59, .agg #[.int .i64 ((tq l j).pt), .int .i64 ((tq l j).ms), .int .i64 ((tq l j).cd)]), (60, .int .i64 2), (61, .bool true)] fun ρ => ?_
    refine zR ?_
    refine zS [(67, .int .i64 3), (60, .int .i64 3)] ?_
    refine op_nil ?_
    refine Un_s ?_
    refine zQ ?_
    refine zS [(61, .bool false)] ?_
    refine op_nil ?_
    refine W_seq ?_
    refine zW false (fun h => nomatch h) (fun _ => ?_)
    refine W_exit ?_
    refine X_hit ?_
    refine zQ ?_
    refine zS [(68, .slice A51 (n + 1 + (tq l j).inp.length + 2 + 2 + 2) c51), (69, .pointer (some ⟨w23.heap.size, 4, none⟩))] ?_
    refine zL (.int .i64 ((tq l j).kd)) ((hB28.cell 4).trans rfl) ?_
    refine zS [(71, .int .u8 (IntKind.u8.wrap ((tq l j).kd))), (72, .pointer (some ⟨w23.heap.size, 3, none⟩))] ?_
    refine zL (.slice ((tq l j).gA) ((tq l j).img.length) ((tq l j).gC)) ((hB28.cell 3).trans rfl) ?_
    refine zS [(74, .int .i64 ((tq l j).img.length : Int)), (75, .int .u8 (IntKind.u8.wrap ((tq l j).img.length : Int)))] ?_
    have hz56 := hT0.size
    have lt57 := hB4.lt
    have lt58 := hB28.lt
    have lR_hO := hO.lt
    refine st (by rfl) (S_new (v := .slice (some ⟨w50.heap.size, 0, none⟩) 2 2) (ob := .cells #[.int .u8 (IntKind.u8.wrap ((tq l j).kd)), .int .u8 (IntKind.u8.wrap ((tq l j).img.length : Int))] 5) (by kernel_rfl) fun w52 hT53 hs54 hB55 => ?_)
    replace hB55 : Blk w52 (w50.heap.size) 5 [.int .u8 (IntKind.u8.wrap ((tq l j).kd)), .int .u8 (IntKind.u8.wrap ((tq l j).img.length : Int))] := hB55
    have hT0 := hT0.t0 hT53
    have hB4 := hB4.tch0 hT53
    have hB28 := hB28.tch0 hT53
    have hO := hO.tch0 hT53
    have hz_ := hT0.size
    have lt_hB4 := hB4.lt
    have lt_hB28 := hB28.lt
    have lt_hB55 := hB55.lt
    refine st (by rfl) (S_appendR 39 5 (.int .u8 0) 1 1 (n := n + 1 + (tq l j).inp.length + 2 + 2 + 2) (m := 2) (A := A51) (cp := c51) (cells := u8s (preP V E S U l j ++ be 1 ((tq l j).inp.length) ++ ((tq l j).inp) ++ be 2 (((tq l j).pt).toNat) ++ be 2 (((tq l j).ms).toNat) ++ be 2 (((tq l j).cd).toNat))) (news := [.int .u8 (IntKind.u8.wrap ((tq l j).kd)), .int .u8 (IntKind.u8.wrap ((tq l j).img.length : Int))]) (b := w50.heap.size) (off := 0) (c := 2) (by kernel_rfl) (by kernel_rfl) (by decide) (by kernel_rfl) (by kernel_rfl) (by kernel_rfl) hO (by rfl) (fun k u hk => by rw [Nat.zero_add, hB55.cell]; exact hk) (by simp [oneV]) (by simp only [maxLen]; omega) (by omega) fun A59 c59 w59 hO59 hw59 hT59 => ?_)
    rw [lo2 (by_lowI (by omega)) (by_low _), ← u8s_app] at hO59
    have hT0 := (hT0).then hT59 nB_hO
    have hB4 := hB4.tch hT59 (fun e => hO.blk_ne hB4 (by decide) _ e rfl)
    have hB28 := hB28.tch hT59 (fun e => hO.blk_ne hB28 (by decide) _ e rfl)
    have hO := hO59
    have nB_hO : ∀ c, (Value.slice A59 (n + 1 + (tq l j).inp.length + 2 + 2 + 2 + 2) c59).ownBlock = some c → w.heap.size ≤ c := fun c hc => (hw59 c hc).elim (nB_hO c) (fun q => by omega)
    refine zS [(4, .slice A59 (n + 1 + (tq l j).inp.length + 2 + 2 + 2 + 2) c59)] ?_
    refine op_nil ?_
    refine W_seq ?_
    refine zF [(1, .pointer (some ⟨w.heap.size, 0, none⟩)), (4, .slice A59 (n + 1 + (tq l j).inp.length + 2 + 2 + 2 + 2) c59), (6, .pointer (some ⟨w23.heap.size, 0, none⟩)), (8, .int .i64 ((tq l j).cd)), (37, .slice A l.length c), (38, .int .i64 (l.length : Int)), (39, .int .i64 ((j : Nat) : Int)), (40, .bool (decide (((j : Nat) : Int) < (l.length : Int)))), (59, .agg #[.int .i64 ((tq l j).pt), .int .i64 ((tq l j).ms), .int .i64 ((tq l j).cd)]), (60, .int .i64 3), (61, .bool false)] fun ρ => ?_
    refine zR ?_
    refine zS [(78, .pointer (some ⟨w23.heap.size, 3, none⟩))] ?_
    refine zL (.slice ((tq l j).gA) ((tq l j).img.length) ((tq l j).gC)) ((hB28.cell 3).trans rfl) ?_
    refine zS [(80, .int .i64 ((tq l j).img.length : Int)), (81, .int .i64 0)] ?_
    refine op_nil ?_
    refine W_block ?_
    refine W_loop (fun m ρ w' => ∃ (C : Option Addr) (n2 cc i2 : Nat) (ρ0 : Env), ρ = updL ρ0 [(1, .pointer (some ⟨w.heap.size, 0, none⟩)), (4, .slice C n2 cc), (37, .slice A l.length c), (38, .int .i64 (l.length : Int)), (39, .int .i64 ((j : Nat) : Int)), (79, .slice ((tq l j).gA) ((tq l j).img.length) ((tq l j).gC)), (80, .int .i64 ((tq l j).img.length : Int)), (81, .int .i64 ((i2 : Nat) : Int))] ∧ (i2 ≤ (tq l j).img.length) ∧ (n2 ≤ 12 + 2400 * j + 300 + 8 * i2) ∧ (∀ c, (Value.slice C n2 cc).ownBlock = some c → w.heap.size ≤ c) ∧ Tch N0 w w' ∧ Blk w' (w.heap.size) 25 [.int .i64 V, .int .i64 E, .slice A l.length c, .int .i64 S, .int .i64 U] ∧ Own w' 0 5 1 (.slice C n2 cc) n2 (u8s (preI V E S U l j i2)) ∧ m = (tq l j).img.length + 1 - i2) (m := (tq l j).img.length + 1 - 0) ?_ ?_
    ·
     refine ⟨A59, n + 1 + (tq l j).inp.length + 2 + 2 + 2 + 2, c59, 0, _, updL_self (by kernel_rfl), by omega, by omega, nB_hO, hT0, hB4, (by have q := hO; rw [show preP V E S U l j ++ be 1 ((tq l j).inp.length) ++ ((tq l j).inp) ++ be 2 (((tq l j).pt).toNat) ++ be 2 (((tq l j).ms).toNat) ++ be 2 (((tq l j).cd).toNat) ++ (be 1 ((tq l j).kd.toNat) ++ be 1 ((tq l j).img.length)) = preI V E S U l j 0 from by rw [preI_0]; unfold encH core; simp only [List.append_assoc]] at q; exact q), rfl⟩
    ·
     rintro m ρ w60 ⟨C, n2, cc, i2, ρ, rfl, hi2, hn2, nB_hO, hT0, hB4, hO, rfl⟩
     refine zQ ?_
     refine zS [(82, .bool (decide (((i2 : Nat) : Int) < ((tq l j).img.length : Int))))] ?_
     refine op_nil ?_
     refine W_seq ?_
     refine zW (decide (((i2 : Nat) : Int) < ((tq l j).img.length : Int))) (fun hc61 => ?_) (fun hc61 => ?_)
     ·
      replace hc61 : ((i2 : Nat) : Int) < ((tq l j).img.length : Int) := (of_decide_eq_true hc61)
      refine W_skip ?_
      refine W_seq ?_
      refine W_block ?_
      refine zQ ?_
      refine stv (v := ptrAt ((tq l j).gA) i2) (by rfl) (R_indexRd1 (len := (tq l j).img.length) (cap := (tq l j).gC) (k := .i64) (i := ((i2 : Nat) : Int)) (e := 44) i2 ((hR.rg (by omega)).tch0 hT0) (by kernel_rfl) (by kernel_rfl) (by kernel_rfl) (by kernel_rfl) rfl (by omega)) ?_
      refine stv (v := .int .u64 (((tq l j).img.getD i2 0 : Nat) : Int)) (by rfl) (R_loadRd (v := .int .u64 (((tq l j).img.getD i2 0 : Nat) : Int)) ((hR.rg (by omega)).tch0 hT0) (by omega) (by kernel_rfl) (by kernel_rfl) (u64s_at (by omega))) ?_
      refine zS [(10, .int .u64 (((tq l j).img.getD i2 0 : Nat) : Int))] ?_
      refine op_nil ?_
      have hil := img_lt hR (j := j) (i := i2) (by omega) (by omega)
      refine zR ?_
      refine zS [(85, .slice C n2 cc), (86, .int .u64 (((tq l j).img.getD i2 0 : Nat) : Int))] ?_
      have hz_ := hT0.size
      refine zC (num8_ok C n2 cc (preI V E S U l j i2) ((tq l j).img.getD i2 0) _ hO (by omega) (by omega)) ?_
      rintro _ w62 ⟨A63, c63, rfl, hO63, hw63, hT63⟩
      have hT0 := (hT0).then hT63 nB_hO
      have hB4 := hB4.tch hT63 (fun e => hO.blk_ne hB4 (by decide) _ e rfl)
      have hO := hO63
      have nB_hO : ∀ c, (Value.slice A63 (n2 + 8) c63).ownBlock = some c → w.heap.size ≤ c := fun c hc => (hw63 c hc).elim (nB_hO c) (fun q => by omega)
      refine zS [(4, .slice A63 (n2 + 8) c63)] ?_
      refine op_nil ?_
      refine zF [(1, .pointer (some ⟨w.heap.size, 0, none⟩)), (4, .slice A63 (n2 + 8) c63), (10, .int .u64 (((tq l j).img.getD i2 0 : Nat) : Int)), (37, .slice A l.length c), (38, .int .i64 (l.length : Int)), (39, .int .i64 ((j : Nat) : Int)), (79, .slice ((tq l j).gA) ((tq l j).img.length) ((tq l j).gC)), (80, .int .i64 ((tq l j).img.length : Int)), (81, .int .i64 ((i2 : Nat) : Int)), (82, .bool (decide (((i2 : Nat) : Int) < ((tq l j).img.length : Int))))] fun ρ => ?_
      refine zR ?_
      refine zS [(88, .int .i64 (IntKind.i64.wrap (((i2 : Nat) : Int) + 1)))] ?_
      rw [show IntKind.i64.wrap (((i2 : Nat) : Int) + 1) = ((i2 : Nat) : Int) + 1 from wrap_i64 (by omega) (by omega)]
      refine fixR (y := ((i2 + 1 : Nat) : Int)) (by omega) ?_
      refine zS [(81, .int .i64 ((i2 + 1 : Nat) : Int))] ?_
      refine op_nil ?_
      refine ⟨_, (by omega), A63, n2 + 8, c63, i2 + 1, _, updL_self (by kernel_rfl), (by omega), (by omega), nB_hO, hT0, hB4, (by have q := hO; rw [← preI_step (by omega)] at q; exact q), rfl⟩
     ·
      replace hc61 : ((tq l j).img.length : Int) ≤ ((i2 : Nat) : Int) := (Int.not_lt.1 (of_decide_eq_false hc61))
      refine W_exit ?_
      refine X_hit ?_
      refine zR ?_
      refine zS [(89, .int .i64 (IntKind.i64.wrap (((j : Nat) : Int) + 1)))] ?_
      rw [show IntKind.i64.wrap (((j : Nat) : Int) + 1) = ((j : Nat) : Int) + 1 from wrap_i64 (by omega) (by omega)]
      refine fixR (y := ((j + 1 : Nat) : Int)) (by omega) ?_
      refine zS [(39, .int .i64 ((j + 1 : Nat) : Int))] ?_
      refine op_nil ?_
      refine ⟨_, (by omega), C, n2, cc, j + 1, _, updL_self (by kernel_rfl), (by omega), (by omega), nB_hO, hT0, hB4, (by have q := hO; rw [show i2 = (tq l j).img.length by omega, preI_all (by omega)] at q; exact q), rfl⟩
   ·
    replace hc24 : (l.length : Int) ≤ ((j : Nat) : Int) := (Int.not_lt.1 (of_decide_eq_false hc24))
    refine W_exit ?_
    refine X_hit ?_
    refine W_seq ?_
    have hjl : j = l.length := by omega
    subst hjl
    have hOl := hO.1
    rw [u8s_length] at hOl
    obtain ⟨g, sp, hA9, hG, hsl, _, _⟩ := hO.blk1 (by have := enc_pos V E S U l; omega)
    subst hA9
    refine zR ?_
    refine zS [(90, .slice (some ⟨g, 0, none⟩) n cb)] ?_
    refine stv (v := .string (bsT (preP V E S U l l.length))) (by rfl) (R_b2s (l := preP V E S U l l.length) (len := n) (cap := cb) (by kernel_rfl) (by kernel_rfl) (by kernel_rfl) (by kernel_rfl) (by omega) (blk_pre hG)) ?_
    refine zS [(2, .string (bsT (preP V E S U l l.length))), (3, .int .i64 0)] ?_
    refine op_nil ?_
    refine W_ret ?_
    refine ⟨_, Res_of (v := .tuple #[.string (bsT (preP V E S U l l.length)), .int .i64 0]) (by kernel_rfl), ?_⟩
    have hq := put_t hmay
    rw [hq.1, hq.2, ← preP_all]
    exact ⟨rfl, hT0⟩

end Go.Proofs.YtlkjhkennbdbnaaV

set_option linter.unusedVariables false
set_option linter.unusedSimpArgs false
namespace Go.Proofs.YtlkjhkennbdbnaaV
open Go Go.RowKit Go.Proofs

end Go.Proofs.YtlkjhkennbdbnaaV

set_option linter.unusedVariables false
set_option linter.unusedSimpArgs false
namespace Go.Proofs.YtlkjhkennbdbnaaV
open Go Go.RowKit
/-- A map in memory: just these keys and elements. -/
def MapE (P : Program) (k : TypeId) (w : World) (b : Nat) (R : Value → Value → Prop) : Prop :=
 ∃ es clock, w.heap[b]? = some (.map es clock) ∧ (∀ e ∈ es.toList, ∃ l, keyOf P k e.key = some l) ∧ (∀ x y, R x y ↔ ∃ e ∈ es.toList, e.key = x ∧ e.val = y) ∧ (∀ (i j : Nat) (e e' : MapEntry), es.toList[i]? = some e → es.toList[j]? = some e' → e.key = e'.key → i = j)
theorem MapE.lt {P : Program} {k : TypeId} {w : World} {b : Nat} {R : Value → Value → Prop} (h : MapE P k w b R) : b < w.heap.size := by
 obtain ⟨es, clock, hb, _⟩ := h; exact (Array.getElem?_eq_some_iff.1 hb).1
theorem MapE.tch {P : Program} {k : TypeId} {S : Nat → Prop} {w w' : World} {b : Nat} {R : Value → Value → Prop} (h : MapE P k w b R) (t : Tch S w w') (hs : ¬ S b) : MapE P k w' b R := by
 have hl := h.lt
 obtain ⟨es, clock, hb, q⟩ := h; exact ⟨es, clock, (t.block b hl hs).trans hb, q⟩
theorem MapE.tch0 {P : Program} {k : TypeId} {w w' : World} {b : Nat} {R : Value → Value → Prop} (h : MapE P k w b R) (t : Tch N0 w w') : MapE P k w' b R := h.tch t (fun e => e)
theorem MapE.congr {P : Program} {k : TypeId} {w : World} {b : Nat} {R R' : Value → Value → Prop} (h : MapE P k w b R) (hi : ∀ x y, R' x y ↔ R x y) : MapE P k w b R' := by
 obtain ⟨es, clock, hb, q1, q2, q3⟩ := h; exact ⟨es, clock, hb, q1, fun x y => (hi x y).trans (q2 x y), q3⟩
theorem MapE.ne {P : Program} {k : TypeId} {w : World} {b c : Nat} {R : Value → Value → Prop} {t : TypeId} {l : List Value} (h : MapE P k w b R) (hc : Blk w c t l) : b ≠ c := by
 rintro rfl
 obtain ⟨es, clock, hb, q⟩ := h
 unfold Blk at hc
 rw [hb] at hc; cases hc
section
variable {P : Program} {ρ : Env} {w : World} {J : Env → World → Prop}
end
end Go.Proofs.YtlkjhkennbdbnaaV

set_option linter.unusedVariables false
set_option linter.unusedSimpArgs false
namespace Go.Proofs.YtlkjhkennbdbnaaV
open Go Go.RowKit Go.Proofs
def v4 (a b c d : Int) : Value := .agg #[.int .i64 a, .int .i64 b, .int .i64 c, .int .i64 d]
theorem v4_inj {a b c d a' b' c' d' : Int} (h : v4 a b c d = v4 a' b' c' d') : a = a' ∧ b = b' ∧ c = c' ∧ d = d' := by
 unfold v4 at h
 injection h with h
 have h2 := congrArg Array.toList h
 simp only [List.cons.injEq, Value.int.injEq, true_and, and_true] at h2
 exact h2
theorem keyT85 : Try.prog.keyTypeAt 3 85 = true := by kernel_rfl
theorem tiled85 : Try.prog.tiled 3 85 = true := by kernel_rfl
theorem key_law85 : Go.Maps.Keyed Try.prog 85 := .of_law (Go.deep_law (m := 3) (by omega) keyT85 tiled85 (by rw [Try.underlying85]))
theorem cells3 : Try.prog.cellsOf 3 = 1 := by kernel_rfl
theorem cells85 : Try.prog.cellsOf 85 = 4 := by kernel_rfl
theorem keyT85' : Try.prog.keyType 85 = true := by kernel_rfl
theorem wf_i64 {x : Int} (h : b64 x) : (Lit.int .i64 x).wf = true := by
 unfold b64 at h
 simp only [Lit.wf, IntKind.min, IntKind.max, Bool.and_eq_true, decide_eq_true_eq]
 simp [IntKind.signed, IntKind.bits]
 omega
theorem lits3 (m : Nat) (x : Int) (h : (Lit.int .i64 x).wf = true) : Try.prog.keyLits (m + 1) 3 [.int .i64 x] = some [.int .i64 x] := by
 simp [Program.keyLits, Try.underlying3, h]
set_option maxRecDepth 100000 in
theorem key_v4 {a b c d : Int} (h0 : b64 a) (h1 : b64 b) (h2 : b64 c) (h3 : b64 d) : ∃ l, keyOf Try.prog 85 (v4 a b c d) = some l := by
 have k0 := wf_i64 h0
 have k1 := wf_i64 h1
 have k2 := wf_i64 h2
 have k3 := wf_i64 h3
 obtain ⟨m, hm⟩ : ∃ m, Try.prog.types.size = m + 1 := ⟨_, rfl⟩
 have hf : (v4 a b c d).formed Try.prog 85 = true := by
  unfold v4 Value.formed
  rw [Try.underlying85]
  simp [cells85]
 unfold keyOf
 rw [Try.underlying85]
 simp only [keyT85', hf, Bool.and_self, if_true, hm]
 unfold Program.keyLits
 rw [Try.underlying85]
 simp [v4, cells85, cells3, Value.cells, lits3, k0, k1, k2, k3]
theorem eqg85 : Try.prog.eqGuardType Try.prog.depth 85 = false := by kernel_rfl
set_option maxRecDepth 100000 in
theorem equal_v4 (w : World) {a b c d a' b' c' d' : Int} (h0 : b64 a) (h1 : b64 b) (h2 : b64 c) (h3 : b64 d) (g0 : b64 a') (g1 : b64 b') (g2 : b64 c') (g3 : b64 d') : (Op.equal 85 (v4 a b c d) (v4 a' b' c' d')).run Try.prog w = .ok (decide (a = a' ∧ b = b' ∧ c = c' ∧ d = d')) w := by
 obtain ⟨l1, k1⟩ := key_v4 h0 h1 h2 h3
 obtain ⟨l2, k2⟩ := key_v4 g0 g1 g2 g3
 obtain ⟨r, hr, hi⟩ := Go.run_equal_deep w (m := 3) (by omega) keyT85 (by rw [Try.underlying85]) k1 k2
 rw [hr]
 congr 1
 have : r = true ↔ (a = a' ∧ b = b' ∧ c = c' ∧ d = d') := hi.trans ⟨fun e => v4_inj (key_law85.inj k1 (e ▸ k2)), fun e => by obtain ⟨rfl, rfl, rfl, rfl⟩ := e; rw [k1] at k2; injection k2⟩
 cases r <;> simp_all
section
variable {ρ : Env} {w : World}
set_option maxRecDepth 100000 in
theorem R_eq4 {e : Option Tmp} {u : TypeId} {x y : Operand} {ty : TypeId} {pos : String} {af : Array Edge} {g : Option (Nat × Bool)} {a b c d a' b' c' d' : Int} (hx : evR ρ x = v4 a b c d) (hy : evR ρ y = v4 a' b' c' d') (h0 : b64 a) (h1 : b64 b) (h2 : b64 c) (h3 : b64 d) (g0 : b64 a') (g1 : b64 b') (g2 : b64 c') (g3 : b64 d') :
  (execOp (evR ρ) ⟨e, .binOp .eql 85 x y u, ty, pos, af, g⟩).run Try.prog w = .ok (.value (.bool (decide (a = a' ∧ b = b' ∧ c = c' ∧ d = d')))) w := by
 have q := equal_v4 w h0 h1 h2 h3 g0 g1 g2 g3
 simp only [execOp, hx, hy]
 unfold v4 at q ⊢
 simp [eqGuard, run_underlying Try.underlying85, eqg85, binOp, q]
end
/-! ### Whether reports are the same -/
def sameR (V E S U : Int) (l : List Co) (V' E' S' U' : Int) (l' : List Co) : Bool := decide (V = V' ∧ E = E' ∧ S = S' ∧ U = U') && decide (l = l')
theorem ext_getD {α : Type} {d : α} {a b : List α} (hl : a.length = b.length) (h : ∀ i, i < a.length → a.getD i d = b.getD i d) : a = b := by
 apply List.ext_getElem hl
 intro i h1 h2
 have := h i h1
 rwa [List.getD_eq_getElem?_getD, List.getD_eq_getElem?_getD, List.getElem?_eq_getElem h1, List.getElem?_eq_getElem h2] at this
theorem cores_ne {l m : List T6} {j : Nat} (h1 : j < l.length) (h2 : j < m.length) (h : ¬ core (tq l j) = core (tq m j)) : cores l ≠ cores m := fun e => h (by
 have a := core_tq h1
 have b := core_tq h2
 rw [e] at a
 exact Option.some.inj (a.symm.trans b))
theorem cores_eq {l m : List T6} (hl : l.length = m.length) (h : ∀ i, i < l.length → core (tq l i) = core (tq m i)) : cores l = cores m := by
 apply List.ext_getElem?
 intro i
 by_cases hi : i < l.length
 ·
  rw [core_tq hi, core_tq (by omega), h i hi]
 ·
  rw [List.getElem?_eq_none (by rw [cores_length]; omega), List.getElem?_eq_none (by rw [cores_length]; omega)]
end Go.Proofs.YtlkjhkennbdbnaaV

set_option linter.unusedVariables false
set_option linter.unusedSimpArgs false
namespace Go.Proofs.YtlkjhkennbdbnaaV
open Go Go.RowKit Go.Proofs

theorem u8_eq {x y : UInt8} (h : ((x.toNat : Nat) : Int) = ((y.toNat : Nat) : Int)) : x = y := UInt8.toNat_inj.1 (by omega)
theorem core_iff {t u : T6} : core t = core u ↔ (t.inp = u.inp ∧ t.pt = u.pt ∧ t.ms = u.ms ∧ t.img = u.img ∧ t.kd = u.kd ∧ t.cd = u.cd) := by
 unfold core; simp only [Prod.mk.injEq]

set_option maxRecDepth 100000 in
theorem eqb_ok (a b : Tx) (A B : Option Addr) (ca cb : Nat) (w : World) (hA : RdW w 1 a.length A (u8s a)) (hB : RdW w 1 b.length B (u8s b)) : Ret Try.prog 46 [.slice A a.length ca, .slice B b.length cb] w fun v w' => v = .bool (decide (a = b)) ∧ Tch N0 w w' := by
 have hAm := hA.2.1
 have hBm := hB.2.1
 have hAr := hA
 have hBr := hB
 refine enter Try.func46 rfl rfl ?_
 refine zQ ?_
 refine zS [(4, .bool false)] ?_
 refine op_nil ?_
 refine W_seq ?_
 refine zQ ?_
 refine zS [(6, .slice A a.length ca), (7, .int .i64 (a.length : Int)), (8, .slice B b.length cb), (9, .int .i64 (b.length : Int)), (10, .bool ((a.length : Int) != (b.length : Int)))] ?_
 refine zO ((a.length : Int) != (b.length : Int)) (fun hc1 => ?_) (fun hc1 => ?_)
 ·
  replace hc1 : (a.length : Int) ≠ (b.length : Int) := (bne_iff_ne.1 hc1)
  refine zQ ?_
  refine zS [(4, .bool false)] ?_
  refine op_nil ?_
  refine W_ret ?_
  exact ⟨_, Res_of (v := .bool false) (by kernel_rfl), ⟨congrArg Value.bool (decide_eq_false (fun e => by subst e; first | omega | (exfalso; omega) | exact absurd rfl (by assumption))).symm, Tch.refl _ _⟩⟩
 ·
  replace hc1 : (a.length : Int) = (b.length : Int) := (bne_eq_false_iff_eq.1 hc1)
  refine W_skip ?_
  refine W_seq ?_
  refine zQ ?_
  refine zS [(11, .slice A a.length ca), (12, .int .i64 (a.length : Int)), (13, .int .i64 0)] ?_
  refine op_nil ?_
  refine W_block ?_
  refine W_loop (fun m ρ w' => ∃ (j : Nat) (ρ0 : Env), ρ = updL ρ0 [(0, .slice A a.length ca), (1, .slice B b.length cb), (12, .int .i64 (a.length : Int)), (13, .int .i64 ((j : Nat) : Int))] ∧ (j ≤ a.length) ∧ (∀ i, i < j → a.getD i 0 = b.getD i 0) ∧ Tch N0 w w' ∧ RdW w' 1 a.length A (u8s a) ∧ RdW w' 1 b.length B (u8s b) ∧ m = a.length + 1 - j) (m := a.length + 1 - 0) ?_ ?_
  ·
   refine ⟨0, _, updL_self (by kernel_rfl), by omega, (fun i h => by omega), Tch.refl _ _, hAr, hBr, rfl⟩
  ·
   rintro m ρ w2 ⟨j, ρ, rfl, hj, hall, hT0, hAr, hBr, rfl⟩
   refine zQ ?_
   refine zS [(14, .bool (decide (((j : Nat) : Int) < (a.length : Int))))] ?_
   refine op_nil ?_
   refine W_seq ?_
   refine zW (decide (((j : Nat) : Int) < (a.length : Int))) (fun hc3 => ?_) (fun hc3 => ?_)
   ·
    replace hc3 : ((j : Nat) : Int) < (a.length : Int) := (of_decide_eq_true hc3)
    refine W_skip ?_
    refine W_seq ?_
    refine W_block ?_
    refine zQ ?_
    refine zS [(15, .int .i64 ((j : Nat) : Int)), (5, .int .i64 ((j : Nat) : Int))] ?_
    refine op_nil ?_
    refine W_seq ?_
    refine W_draw (fun w' => RdW w' 1 a.length A (u8s a) ∧ RdW w' 1 b.length B (u8s b)) (by kernel_rfl) (by kernel_rfl) (by kernel_rfl) fun w4 hT5 hh6 => ?_
    have hT0 := hT0.t0 hT5
    have hAr := hA.tch0 hT0
    have hBr := hB.tch0 hT0
    refine zK [0, 1, 4, 5] #[true, true, false, false, true, true, false, false, false] [(16, .slice A a.length ca), (17, .int .i64 ((j : Nat) : Int)), (20, .slice B b.length cb), (21, .int .i64 ((j : Nat) : Int))] ⟨hAr, hBr⟩ ?_
    refine zV 2 rfl (ptrAt A j) (fun _ ⟨hAr, hBr⟩ => R_indexRd1 (len := a.length) (cap := ca) (k := .i64) (i := ((j : Nat) : Int)) (e := 5) j hAr (by kernel_rfl) (by kernel_rfl) (by kernel_rfl) (by kernel_rfl) rfl (by omega)) ⟨hAr, hBr⟩ ?_
    refine zV 3 rfl (.int .u8 (((a.getD j 0).toNat : Nat) : Int)) (fun _ ⟨hAr, hBr⟩ => R_loadRd (v := .int .u8 (((a.getD j 0).toNat : Nat) : Int)) hAr (by omega) (by kernel_rfl) (by kernel_rfl) (u8s_at (by omega))) ⟨hAr, hBr⟩ ?_
    refine zV 6 rfl (ptrAt B j) (fun _ ⟨hAr, hBr⟩ => R_indexRd1 (len := b.length) (cap := cb) (k := .i64) (i := ((j : Nat) : Int)) (e := 5) j hBr (by kernel_rfl) (by kernel_rfl) (by kernel_rfl) (by kernel_rfl) rfl (by omega)) ⟨hAr, hBr⟩ ?_
    refine zV 7 rfl (.int .u8 (((b.getD j 0).toNat : Nat) : Int)) (fun _ ⟨hAr, hBr⟩ => R_loadRd (v := .int .u8 (((b.getD j 0).toNat : Nat) : Int)) hBr (by omega) (by kernel_rfl) (by kernel_rfl) (u8s_at (by omega))) ⟨hAr, hBr⟩ ?_
    refine zK [8] #[true, true, true, true, true, true, true, true, true] [(24, .bool ((((a.getD j 0).toNat : Nat) : Int) != (((b.getD j 0).toNat : Nat) : Int)))] ⟨hAr, hBr⟩ ?_
    refine d_done (by kernel_rfl) ?_
    refine zW ((((a.getD j 0).toNat : Nat) : Int) != (((b.getD j 0).toNat : Nat) : Int)) (fun hc7 => ?_) (fun hc7 => ?_)
    ·
     replace hc7 : (((a.getD j 0).toNat : Nat) : Int) ≠ (((b.getD j 0).toNat : Nat) : Int) := (bne_iff_ne.1 hc7)
     refine W_seq ?_
     refine zF [(0, .slice A a.length ca), (1, .slice B b.length cb), (5, .int .i64 ((j : Nat) : Int)), (12, .int .i64 (a.length : Int)), (13, .int .i64 ((j : Nat) : Int)), (14, .bool (decide (((j : Nat) : Int) < (a.length : Int)))), (24, .bool ((((a.getD j 0).toNat : Nat) : Int) != (((b.getD j 0).toNat : Nat) : Int)))] fun ρ => ?_
     refine zR ?_
     refine zS [(4, .bool false)] ?_
     refine op_nil ?_
     refine W_ret ?_
     exact ⟨_, Res_of (v := .bool false) (by kernel_rfl), ⟨congrArg Value.bool (decide_eq_false (fun e => by subst e; first | omega | (exfalso; omega) | exact absurd rfl (by assumption))).symm, hT0⟩⟩
    ·
     replace hc7 : (((a.getD j 0).toNat : Nat) : Int) = (((b.getD j 0).toNat : Nat) : Int) := (bne_eq_false_iff_eq.1 hc7)
     refine W_skip ?_
     refine zF [(0, .slice A a.length ca), (1, .slice B b.length cb), (5, .int .i64 ((j : Nat) : Int)), (12, .int .i64 (a.length : Int)), (13, .int .i64 ((j : Nat) : Int)), (14, .bool (decide (((j : Nat) : Int) < (a.length : Int)))), (24, .bool ((((a.getD j 0).toNat : Nat) : Int) != (((b.getD j 0).toNat : Nat) : Int)))] fun ρ => ?_
     refine zR ?_
     refine zS [(25, .int .i64 (IntKind.i64.wrap (((j : Nat) : Int) + 1)))] ?_
     rw [show IntKind.i64.wrap (((j : Nat) : Int) + 1) = ((j : Nat) : Int) + 1 from wrap_i64 (by omega) (by omega)]
     refine fixR (y := ((j + 1 : Nat) : Int)) (by omega) ?_
     refine zS [(13, .int .i64 ((j + 1 : Nat) : Int))] ?_
     refine op_nil ?_
     refine ⟨_, (by omega), j + 1, _, updL_self (by kernel_rfl), (by omega), (fun i h => (Nat.lt_or_eq_of_le (Nat.le_of_lt_succ h)).elim (hall i) (fun e => by rw [e]; exact u8_eq (by omega))), hT0, hAr, hBr, rfl⟩
   ·
    replace hc3 : (a.length : Int) ≤ ((j : Nat) : Int) := (Int.not_lt.1 (of_decide_eq_false hc3))
    refine W_exit ?_
    refine X_hit ?_
    refine zQ ?_
    refine zS [(4, .bool true)] ?_
    refine op_nil ?_
    refine W_ret ?_
    exact ⟨_, Res_of (v := .bool true) (by kernel_rfl), ⟨congrArg Value.bool (decide_eq_true (ext_getD (d := 0) (by omega) (fun i h => hall i (by omega)))).symm, hT0⟩⟩

set_option maxRecDepth 100000 in
theorem eqw_ok (a b : List Nat) (A B : Option Addr) (ca cb : Nat) (w : World) (hA : RdW w 1 a.length A (u64s a)) (hB : RdW w 1 b.length B (u64s b)) : Ret Try.prog 47 [.slice A a.length ca, .slice B b.length cb] w fun v w' => v = .bool (decide (a = b)) ∧ Tch N0 w w' := by
 have hAm := hA.2.1
 have hBm := hB.2.1
 have hAr := hA
 have hBr := hB
 refine enter Try.func47 rfl rfl ?_
 refine zQ ?_
 refine zS [(4, .bool false)] ?_
 refine op_nil ?_
 refine W_seq ?_
 refine zQ ?_
 refine zS [(6, .slice A a.length ca), (7, .int .i64 (a.length : Int)), (8, .slice B b.length cb), (9, .int .i64 (b.length : Int)), (10, .bool ((a.length : Int) != (b.length : Int)))] ?_
 refine zO ((a.length : Int) != (b.length : Int)) (fun hc1 => ?_) (fun hc1 => ?_)
 ·
  replace hc1 : (a.length : Int) ≠ (b.length : Int) := (bne_iff_ne.1 hc1)
  refine zQ ?_
  refine zS [(4, .bool false)] ?_
  refine op_nil ?_
  refine W_ret ?_
  exact ⟨_, Res_of (v := .bool false) (by kernel_rfl), ⟨congrArg Value.bool (decide_eq_false (fun e => by subst e; first | omega | (exfalso; omega) | exact absurd rfl (by assumption))).symm, Tch.refl _ _⟩⟩
 ·
  replace hc1 : (a.length : Int) = (b.length : Int) := (bne_eq_false_iff_eq.1 hc1)
  refine W_skip ?_
  refine W_seq ?_
  refine zQ ?_
  refine zS [(11, .slice A a.length ca), (12, .int .i64 (a.length : Int)), (13, .int .i64 0)] ?_
  refine op_nil ?_
  refine W_block ?_
  refine W_loop (fun m ρ w' => ∃ (j : Nat) (ρ0 : Env), ρ = updL ρ0 [(0, .slice A a.length ca), (1, .slice B b.length cb), (12, .int .i64 (a.length : Int)), (13, .int .i64 ((j : Nat) : Int))] ∧ (j ≤ a.length) ∧ (∀ i, i < j → a.getD i 0 = b.getD i 0) ∧ Tch N0 w w' ∧ RdW w' 1 a.length A (u64s a) ∧ RdW w' 1 b.length B (u64s b) ∧ m = a.length + 1 - j) (m := a.length + 1 - 0) ?_ ?_
  ·
   refine ⟨0, _, updL_self (by kernel_rfl), by omega, (fun i h => by omega), Tch.refl _ _, hAr, hBr, rfl⟩
  ·
   rintro m ρ w2 ⟨j, ρ, rfl, hj, hall, hT0, hAr, hBr, rfl⟩
   refine zQ ?_
   refine zS [(14, .bool (decide (((j : Nat) : Int) < (a.length : Int))))] ?_
   refine op_nil ?_
   refine W_seq ?_
   refine zW (decide (((j : Nat) : Int) < (a.length : Int))) (fun hc3 => ?_) (fun hc3 => ?_)
   ·
    replace hc3 : ((j : Nat) : Int) < (a.length : Int) := (of_decide_eq_true hc3)
    refine W_skip ?_
    refine W_seq ?_
    refine W_block ?_
    refine zQ ?_
    refine zS [(15, .int .i64 ((j : Nat) : Int)), (5, .int .i64 ((j : Nat) : Int))] ?_
    refine op_nil ?_
    refine W_seq ?_
    refine W_draw (fun w' => RdW w' 1 a.length A (u64s a) ∧ RdW w' 1 b.length B (u64s b)) (by kernel_rfl) (by kernel_rfl) (by kernel_rfl) fun w4 hT5 hh6 => ?_
    have hT0 := hT0.t0 hT5
    have hAr := hA.tch0 hT0
    have hBr := hB.tch0 hT0
    refine zK [0, 1, 4, 5] #[true, true, false, false, true, true, false, false, false] [(16, .slice A a.length ca), (17, .int .i64 ((j : Nat) : Int)), (20, .slice B b.length cb), (21, .int .i64 ((j : Nat) : Int))] ⟨hAr, hBr⟩ ?_
    refine zV 2 rfl (ptrAt A j) (fun _ ⟨hAr, hBr⟩ => R_indexRd1 (len := a.length) (cap := ca) (k := .i64) (i := ((j : Nat) : Int)) (e := 44) j hAr (by kernel_rfl) (by kernel_rfl) (by kernel_rfl) (by kernel_rfl) rfl (by omega)) ⟨hAr, hBr⟩ ?_
    refine zV 3 rfl (.int .u64 ((a.getD j 0 : Nat) : Int)) (fun _ ⟨hAr, hBr⟩ => R_loadRd (v := .int .u64 ((a.getD j 0 : Nat) : Int)) hAr (by omega) (by kernel_rfl) (by kernel_rfl) (u64s_at (by omega))) ⟨hAr, hBr⟩ ?_
    refine zV 6 rfl (ptrAt B j) (fun _ ⟨hAr, hBr⟩ => R_indexRd1 (len := b.length) (cap := cb) (k := .i64) (i := ((j : Nat) : Int)) (e := 44) j hBr (by kernel_rfl) (by kernel_rfl) (by kernel_rfl) (by kernel_rfl) rfl (by omega)) ⟨hAr, hBr⟩ ?_
    refine zV 7 rfl (.int .u64 ((b.getD j 0 : Nat) : Int)) (fun _ ⟨hAr, hBr⟩ => R_loadRd (v := .int .u64 ((b.getD j 0 : Nat) : Int)) hBr (by omega) (by kernel_rfl) (by kernel_rfl) (u64s_at (by omega))) ⟨hAr, hBr⟩ ?_
    refine zK [8] #[true, true, true, true, true, true, true, true, true] [(24, .bool (((a.getD j 0 : Nat) : Int) != ((b.getD j 0 : Nat) : Int)))] ⟨hAr, hBr⟩ ?_
    refine d_done (by kernel_rfl) ?_
    refine zW (((a.getD j 0 : Nat) : Int) != ((b.getD j 0 : Nat) : Int)) (fun hc7 => ?_) (fun hc7 => ?_)
    ·
     replace hc7 : ((a.getD j 0 : Nat) : Int) ≠ ((b.getD j 0 : Nat) : Int) := (bne_iff_ne.1 hc7)
     refine W_seq ?_
     refine zF [(0, .slice A a.length ca), (1, .slice B b.length cb), (5, .int .i64 ((j : Nat) : Int)), (12, .int .i64 (a.length : Int)), (13, .int .i64 ((j : Nat) : Int)), (14, .bool (decide (((j : Nat) : Int) < (a.length : Int)))), (24, .bool (((a.getD j 0 : Nat) : Int) != ((b.getD j 0 : Nat) : Int)))] fun ρ => ?_
     refine zR ?_
     refine zS [(4, .bool false)] ?_
     refine op_nil ?_
     refine W_ret ?_
     exact ⟨_, Res_of (v := .bool false) (by kernel_rfl), ⟨congrArg Value.bool (decide_eq_false (fun e => by subst e; first | omega | (exfalso; omega) | exact absurd rfl (by assumption))).symm, hT0⟩⟩
    ·
     replace hc7 : ((a.getD j 0 : Nat) : Int) = ((b.getD j 0 : Nat) : Int) := (bne_eq_false_iff_eq.1 hc7)
     refine W_skip ?_
     refine zF [(0, .slice A a.length ca), (1, .slice B b.length cb), (5, .int .i64 ((j : Nat) : Int)), (12, .int .i64 (a.length : Int)), (13, .int .i64 ((j : Nat) : Int)), (14, .bool (decide (((j : Nat) : Int) < (a.length : Int)))), (24, .bool (((a.getD j 0 : Nat) : Int) != ((b.getD j 0 : Nat) : Int)))] fun ρ => ?_
     refine zR ?_
     refine zS [(25, .int .i64 (IntKind.i64.wrap (((j : Nat) : Int) + 1)))] ?_
     rw [show IntKind.i64.wrap (((j : Nat) : Int) + 1) = ((j : Nat) : Int) + 1 from wrap_i64 (by omega) (by omega)]
     refine fixR (y := ((j + 1 : Nat) : Int)) (by omega) ?_
     refine zS [(13, .int .i64 ((j + 1 : Nat) : Int))] ?_
     refine op_nil ?_
     refine ⟨_, (by omega), j + 1, _, updL_self (by kernel_rfl), (by omega), (fun i h => (Nat.lt_or_eq_of_le (Nat.le_of_lt_succ h)).elim (hall i) (fun e => by rw [e]; exact by omega)), hT0, hAr, hBr, rfl⟩
   ·
    replace hc3 : (a.length : Int) ≤ ((j : Nat) : Int) := (Int.not_lt.1 (of_decide_eq_false hc3))
    refine W_exit ?_
    refine X_hit ?_
    refine zQ ?_
    refine zS [(4, .bool true)] ?_
    refine op_nil ?_
    refine W_ret ?_
    exact ⟨_, Res_of (v := .bool true) (by kernel_rfl), ⟨congrArg Value.bool (decide_eq_true (ext_getD (d := 0) (by omega) (fun i h => hall i (by omega)))).symm, hT0⟩⟩

set_option maxRecDepth 100000 in
theorem words_ok (a b : List Nat) (A B : Option Addr) (ca cb : Nat) (w : World) (hA : RdW w 1 a.length A (u64s a)) (hB : RdW w 1 b.length B (u64s b)) : Ret Try.prog 59 [.slice A a.length ca, .slice B b.length cb] w fun v w' => v = .bool (decide (a = b)) ∧ Tch N0 w w' := by
 have hAm := hA.2.1
 have hBm := hB.2.1
 have hAr := hA
 have hBr := hB
 refine enter Try.func59 rfl rfl ?_
 refine zQ ?_
 refine zS [(4, .bool false)] ?_
 refine op_nil ?_
 refine W_seq ?_
 refine zQ ?_
 refine zS [(6, .slice A a.length ca), (7, .int .i64 (a.length : Int)), (8, .slice B b.length cb), (9, .int .i64 (b.length : Int)), (10, .bool ((a.length : Int) != (b.length : Int)))] ?_
 refine zO ((a.length : Int) != (b.length : Int)) (fun hc1 => ?_) (fun hc1 => ?_)
 ·
  replace hc1 : (a.length : Int) ≠ (b.length : Int) := (bne_iff_ne.1 hc1)
  refine zQ ?_
  refine zS [(4, .bool false)] ?_
  refine op_nil ?_
  refine W_ret ?_
  exact ⟨_, Res_of (v := .bool false) (by kernel_rfl), ⟨congrArg Value.bool (decide_eq_false (fun e => by subst e; first | omega | (exfalso; omega) | exact absurd rfl (by assumption))).symm, Tch.refl _ _⟩⟩
 ·
  replace hc1 : (a.length : Int) = (b.length : Int) := (bne_eq_false_iff_eq.1 hc1)
  refine W_skip ?_
  refine W_seq ?_
  refine zQ ?_
  refine zS [(5, .int .i64 0)] ?_
  refine op_nil ?_
  refine W_block ?_
  refine W_loop (fun m ρ w' => ∃ (j : Nat) (ρ0 : Env), ρ = updL ρ0 [(0, .slice A a.length ca), (1, .slice B b.length cb), (5, .int .i64 ((j : Nat) : Int))] ∧ (j ≤ a.length) ∧ (∀ i, i < j → a.getD i 0 = b.getD i 0) ∧ Tch N0 w w' ∧ RdW w' 1 a.length A (u64s a) ∧ RdW w' 1 b.length B (u64s b) ∧ m = a.length + 1 - j) (m := a.length + 1 - 0) ?_ ?_
  ·
   refine ⟨0, _, updL_self (by kernel_rfl), by omega, (fun i h => by omega), Tch.refl _ _, hAr, hBr, rfl⟩
  ·
   rintro m ρ w2 ⟨j, ρ, rfl, hj, hall, hT0, hAr, hBr, rfl⟩
   refine W_seq ?_
   refine zQ ?_
   refine zS [(11, .int .i64 ((j : Nat) : Int)), (12, .slice A a.length ca), (13, .int .i64 (a.length : Int)), (14, .bool (decide (((j : Nat) : Int) < (a.length : Int))))] ?_
   refine zO (decide (((j : Nat) : Int) < (a.length : Int))) (fun hc3 => ?_) (fun hc3 => ?_)
   ·
    replace hc3 : ((j : Nat) : Int) < (a.length : Int) := (of_decide_eq_true hc3)
    refine W_skip ?_
    refine W_seq ?_
    refine W_block ?_
    refine W_seq ?_
    refine W_draw (fun w' => RdW w' 1 a.length A (u64s a) ∧ RdW w' 1 b.length B (u64s b)) (by kernel_rfl) (by kernel_rfl) (by kernel_rfl) fun w4 hT5 hh6 => ?_
    have hT0 := hT0.t0 hT5
    have hAr := hA.tch0 hT0
    have hBr := hB.tch0 hT0
    refine zK [0, 1, 4, 5] #[true, true, false, false, true, true, false, false, false] [(17, .slice A a.length ca), (18, .int .i64 ((j : Nat) : Int)), (21, .slice B b.length cb), (22, .int .i64 ((j : Nat) : Int))] ⟨hAr, hBr⟩ ?_
    refine zV 2 rfl (ptrAt A j) (fun _ ⟨hAr, hBr⟩ => R_indexRd1 (len := a.length) (cap := ca) (k := .i64) (i := ((j : Nat) : Int)) (e := 44) j hAr (by kernel_rfl) (by kernel_rfl) (by kernel_rfl) (by kernel_rfl) rfl (by omega)) ⟨hAr, hBr⟩ ?_
    refine zV 3 rfl (.int .u64 ((a.getD j 0 : Nat) : Int)) (fun _ ⟨hAr, hBr⟩ => R_loadRd (v := .int .u64 ((a.getD j 0 : Nat) : Int)) hAr (by omega) (by kernel_rfl) (by kernel_rfl) (u64s_at (by omega))) ⟨hAr, hBr⟩ ?_
    refine zV 6 rfl (ptrAt B j) (fun _ ⟨hAr, hBr⟩ => R_indexRd1 (len := b.length) (cap := cb) (k := .i64) (i := ((j : Nat) : Int)) (e := 44) j hBr (by kernel_rfl) (by kernel_rfl) (by kernel_rfl) (by kernel_rfl) rfl (by omega)) ⟨hAr, hBr⟩ ?_
    refine zV 7 rfl (.int .u64 ((b.getD j 0 : Nat) : Int)) (fun _ ⟨hAr, hBr⟩ => R_loadRd (v := .int .u64 ((b.getD j 0 : Nat) : Int)) hBr (by omega) (by kernel_rfl) (by kernel_rfl) (u64s_at (by omega))) ⟨hAr, hBr⟩ ?_
    refine zK [8] #[true, true, true, true, true, true, true, true, true] [(25, .bool (((a.getD j 0 : Nat) : Int) != ((b.getD j 0 : Nat) : Int)))] ⟨hAr, hBr⟩ ?_
    refine d_done (by kernel_rfl) ?_
    refine zW (((a.getD j 0 : Nat) : Int) != ((b.getD j 0 : Nat) : Int)) (fun hc7 => ?_) (fun hc7 => ?_)
    ·
     replace hc7 : ((a.getD j 0 : Nat) : Int) ≠ ((b.getD j 0 : Nat) : Int) := (bne_iff_ne.1 hc7)
     refine W_seq ?_
     refine zF [(0, .slice A a.length ca), (1, .slice B b.length cb), (5, .int .i64 ((j : Nat) : Int)), (14, .bool (decide (((j : Nat) : Int) < (a.length : Int)))), (25, .bool (((a.getD j 0 : Nat) : Int) != ((b.getD j 0 : Nat) : Int)))] fun ρ => ?_
     refine zR ?_
     refine zS [(4, .bool false)] ?_
     refine op_nil ?_
     refine W_ret ?_
     exact ⟨_, Res_of (v := .bool false) (by kernel_rfl), ⟨congrArg Value.bool (decide_eq_false (fun e => by subst e; first | omega | (exfalso; omega) | exact absurd rfl (by assumption))).symm, hT0⟩⟩
    ·
     replace hc7 : ((a.getD j 0 : Nat) : Int) = ((b.getD j 0 : Nat) : Int) := (bne_eq_false_iff_eq.1 hc7)
     refine W_skip ?_
     refine zF [(0, .slice A a.length ca), (1, .slice B b.length cb), (5, .int .i64 ((j : Nat) : Int)), (14, .bool (decide (((j : Nat) : Int) < (a.length : Int)))), (25, .bool (((a.getD j 0 : Nat) : Int) != ((b.getD j 0 : Nat) : Int)))] fun ρ => ?_
     refine zR ?_
     refine zS [(15, .int .i64 ((j : Nat) : Int)), (16, .int .i64 (IntKind.i64.wrap (((j : Nat) : Int) + 1)))] ?_
     rw [show IntKind.i64.wrap (((j : Nat) : Int) + 1) = ((j : Nat) : Int) + 1 from wrap_i64 (by omega) (by omega)]
     refine fixR (y := ((j + 1 : Nat) : Int)) (by omega) ?_
     refine zS [(5, .int .i64 ((j + 1 : Nat) : Int))] ?_
     refine op_nil ?_
     refine ⟨_, (by omega), j + 1, _, updL_self (by kernel_rfl), (by omega), (fun i h => (Nat.lt_or_eq_of_le (Nat.le_of_lt_succ h)).elim (hall i) (fun e => by rw [e]; exact by omega)), hT0, hAr, hBr, rfl⟩
   ·
    replace hc3 : (a.length : Int) ≤ ((j : Nat) : Int) := (Int.not_lt.1 (of_decide_eq_false hc3))
    refine W_exit ?_
    refine X_hit ?_
    refine zQ ?_
    refine zS [(4, .bool true)] ?_
    refine op_nil ?_
    refine W_ret ?_
    exact ⟨_, Res_of (v := .bool true) (by kernel_rfl), ⟨congrArg Value.bool (decide_eq_true (ext_getD (d := 0) (by omega) (fun i h => hall i (by omega)))).symm, hT0⟩⟩

set_option maxRecDepth 100000 in
theorem vof_ok (t : T6) (w : World) : Ret Try.prog 45 [.agg #[.slice t.iA t.inp.length t.iC, .int .i64 t.pt, .int .i64 t.ms, .slice t.gA t.img.length t.gC, .int .i64 t.kd, .int .i64 t.cd]] w fun v w' => v = v4 t.pt t.ms t.kd t.cd ∧ Tch N0 w w' := by
 refine enter Try.func45 rfl rfl ?_
 refine zQ ?_
 refine st (by rfl) (S_new (v := .pointer (some ⟨w.heap.size, 0, none⟩)) (ob := .cells #[.slice t.iA t.inp.length t.iC, .int .i64 t.pt, .int .i64 t.ms, .slice t.gA t.img.length t.gC, .int .i64 t.kd, .int .i64 t.cd] 43) (by kernel_rfl) fun w1 hT2 hs3 hB4 => ?_)
 replace hB4 : Blk w1 (w.heap.size) 43 [.slice t.iA t.inp.length t.iC, .int .i64 t.pt, .int .i64 t.ms, .slice t.gA t.img.length t.gC, .int .i64 t.kd, .int .i64 t.cd] := hB4
 have hT0 := hT2
 have hz9 := hT0.size
 have lt10 := hB4.lt
 refine st (by rfl) (S_new (v := .pointer (some ⟨w1.heap.size, 0, none⟩)) (ob := .cells #[.int .i64 0, .int .i64 0, .int .i64 0, .int .i64 0] 85) (by kernel_rfl) fun w5 hT6 hs7 hB8 => ?_)
 replace hB8 : Blk w5 (w1.heap.size) 85 [.int .i64 0, .int .i64 0, .int .i64 0, .int .i64 0] := hB8
 have hT0 := hT0.t0 hT6
 have hB4 := hB4.tch0 hT6
 refine op_nil ?_
 refine zQ ?_
 refine zS [(3, .pointer (some ⟨w.heap.size, 1, none⟩))] ?_
 refine zL (.int .i64 t.pt) ((hB4.cell 1).trans rfl) ?_
 refine zS [(5, .pointer (some ⟨w.heap.size, 2, none⟩))] ?_
 refine zL (.int .i64 t.ms) ((hB4.cell 2).trans rfl) ?_
 refine zS [(7, .pointer (some ⟨w.heap.size, 4, none⟩))] ?_
 refine zL (.int .i64 t.kd) ((hB4.cell 4).trans rfl) ?_
 refine zS [(9, .pointer (some ⟨w.heap.size, 5, none⟩))] ?_
 refine zL (.int .i64 t.cd) ((hB4.cell 5).trans rfl) ?_
 refine zS [(11, .agg #[.int .i64 t.pt, .int .i64 t.ms, .int .i64 t.kd, .int .i64 t.cd])] ?_
 refine st (by rfl) (S_storeA (b := w1.heap.size) (j := 0) (cs := [.int .i64 t.pt, .int .i64 t.ms, .int .i64 t.kd, .int .i64 t.cd]) (by kernel_rfl) (by kernel_rfl) (by kernel_rfl) (by simp [oneV]) hB8 (by simp) fun w11 hT12 hs13 hB8' => ?_)
 have hT0 := (hT0).then hT12 (fun c e => by have : c = w1.heap.size := e; omega)
 have hB4 := hB4.tch hT12 (hB4.ne hB8 (by decide))
 replace hB8 : Blk w11 w1.heap.size 85 [.int .i64 t.pt, .int .i64 t.ms, .int .i64 t.kd, .int .i64 t.cd] := hB8'
 refine op_nil ?_
 refine W_ret ?_
 exact ⟨_, Res_cell (b := w1.heap.size) (cs := [.int .i64 t.pt, .int .i64 t.ms, .int .i64 t.kd, .int .i64 t.cd]) (by rfl) (by kernel_rfl) (by kernel_rfl) hB8 (by kernel_rfl) (by kernel_rfl), ⟨rfl, hT0⟩⟩

set_option maxRecDepth 100000 in
set_option maxHeartbeats 1000000 in
theorem rsame_ok (t u : T6) (w : World) (hT : TmW w t) (hU : TmW w u) : Ret Try.prog 48 [.agg #[.slice t.iA t.inp.length t.iC, .int .i64 t.pt, .int .i64 t.ms, .slice t.gA t.img.length t.gC, .int .i64 t.kd, .int .i64 t.cd], .agg #[.slice u.iA u.inp.length u.iC, .int .i64 u.pt, .int .i64 u.ms, .slice u.gA u.img.length u.gC, .int .i64 u.kd, .int .i64 u.cd]] w fun v w' => v = .bool (decide (core t = core u)) ∧ Tch N0 w w' := by
 refine enter Try.func48 rfl rfl ?_
 refine zQ ?_
 refine st (by rfl) (S_new (v := .pointer (some ⟨w.heap.size, 0, none⟩)) (ob := .cells #[.slice t.iA t.inp.length t.iC, .int .i64 t.pt, .int .i64 t.ms, .slice t.gA t.img.length t.gC, .int .i64 t.kd, .int .i64 t.cd] 43) (by kernel_rfl) fun w1 hT2 hs3 hB4 => ?_)
 replace hB4 : Blk w1 (w.heap.size) 43 [.slice t.iA t.inp.length t.iC, .int .i64 t.pt, .int .i64 t.ms, .slice t.gA t.img.length t.gC, .int .i64 t.kd, .int .i64 t.cd] := hB4
 have hT0 := hT2
 have hz9 := hT0.size
 have lt10 := hB4.lt
 refine st (by rfl) (S_new (v := .pointer (some ⟨w1.heap.size, 0, none⟩)) (ob := .cells #[.slice u.iA u.inp.length u.iC, .int .i64 u.pt, .int .i64 u.ms, .slice u.gA u.img.length u.gC, .int .i64 u.kd, .int .i64 u.cd] 43) (by kernel_rfl) fun w5 hT6 hs7 hB8 => ?_)
 replace hB8 : Blk w5 (w1.heap.size) 43 [.slice u.iA u.inp.length u.iC, .int .i64 u.pt, .int .i64 u.ms, .slice u.gA u.img.length u.gC, .int .i64 u.kd, .int .i64 u.cd] := hB8
 have hT0 := hT0.t0 hT6
 have hB4 := hB4.tch0 hT6
 refine zS [(4, .bool false)] ?_
 refine op_nil ?_
 refine zQ ?_
 refine zS [(5, .pointer (some ⟨w.heap.size, 0, none⟩))] ?_
 refine zL (.slice t.iA t.inp.length t.iC) ((hB4.cell 0).trans rfl) ?_
 refine stv (v := .string (bsT t.inp)) (by rfl) (R_b2sR (len := t.inp.length) (cap := t.iC) (by kernel_rfl) (by kernel_rfl) (by kernel_rfl) (by kernel_rfl) (hT.ri.tch0 hT0)) ?_
 refine zS [(8, .pointer (some ⟨w1.heap.size, 0, none⟩))] ?_
 refine zL (.slice u.iA u.inp.length u.iC) ((hB8.cell 0).trans rfl) ?_
 refine stv (v := .string (bsT u.inp)) (by rfl) (R_b2sR (len := u.inp.length) (cap := u.iC) (by kernel_rfl) (by kernel_rfl) (by kernel_rfl) (by kernel_rfl) (hU.ri.tch0 hT0)) ?_
 refine stv (v := .bool (decide (t.inp = u.inp))) (by rfl) (R_seq (a := t.inp) (b := u.inp) (by kernel_rfl) (by kernel_rfl)) ?_
 refine zS [(12, .bool (decide (t.inp = u.inp)))] ?_
 cases hb11 : decide (t.inp = u.inp)
 ·
  replace hb11 : ¬ (t.inp = u.inp) := (of_decide_eq_false hb11)
  refine zS [(13, undef), (14, undef), (15, undef), (16, undef), (17, undef), (18, .bool false), (19, .bool false), (20, undef), (21, undef), (22, undef), (23, undef), (24, undef), (25, .bool false), (26, .bool false), (27, undef), (28, undef), (29, undef), (30, undef), (31, undef), (32, .bool false), (33, .bool false), (34, undef), (35, undef), (36, undef)] ?_
  refine zS [(37, undef), (38, undef), (39, .bool false), (40, .bool false), (41, undef), (42, undef), (43, undef), (44, undef), (45, undef), (46, .bool false), (4, .bool false)] ?_
  refine op_nil ?_
  refine W_ret ?_
  exact ⟨_, Res_of (v := .bool false) (by kernel_rfl), ⟨congrArg Value.bool (decide_eq_false (fun e => by have q := core_iff.1 e; obtain ⟨q1, q2, q3, q4, q5, q6⟩ := q; first | exact absurd q1 (by assumption) | exact absurd q4 (by assumption) | omega)).symm, hT0⟩⟩
 ·
  replace hb11 : t.inp = u.inp := (of_decide_eq_true hb11)
  refine zS [(13, .pointer (some ⟨w.heap.size, 1, none⟩))] ?_
  refine zL (.int .i64 t.pt) ((hB4.cell 1).trans rfl) ?_
  refine zS [(15, .pointer (some ⟨w1.heap.size, 1, none⟩))] ?_
  refine zL (.int .i64 u.pt) ((hB8.cell 1).trans rfl) ?_
  refine zS [(17, .bool (t.pt == u.pt)), (18, .bool (t.pt == u.pt)), (19, .bool (t.pt == u.pt))] ?_
  cases hb12 : t.pt == u.pt
  ·
   replace hb12 : t.pt ≠ u.pt := (ne_of_beq_false hb12)
   refine zS [(20, undef), (21, undef), (22, undef), (23, undef), (24, undef), (25, .bool false), (26, .bool false), (27, undef), (28, undef), (29, undef), (30, undef), (31, undef), (32, .bool false), (33, .bool false), (34, undef), (35, undef), (36, undef), (37, undef), (38, undef), (39, .bool false), (40, .bool false), (41, undef), (42, undef), (43, undef)] ?_
   refine zS [(44, undef), (45, undef), (46, .bool false), (4, .bool false)] ?_
   refine op_nil ?_
   refine W_ret ?_
   exact ⟨_, Res_of (v := .bool false) (by kernel_rfl), ⟨congrArg Value.bool (decide_eq_false (fun e => by have q := core_iff.1 e; obtain ⟨q1, q2, q3, q4, q5, q6⟩ := q; first | exact absurd q1 (by assumption) | exact absurd q4 (by assumption) | omega)).symm, hT0⟩⟩
  ·
   replace hb12 : t.pt = u.pt := (eq_of_beq hb12)
   refine zS [(20, .pointer (some ⟨w.heap.size, 2, none⟩))] ?_
   refine zL (.int .i64 t.ms) ((hB4.cell 2).trans rfl) ?_
   refine zS [(22, .pointer (some ⟨w1.heap.size, 2, none⟩))] ?_
   refine zL (.int .i64 u.ms) ((hB8.cell 2).trans rfl) ?_
   refine zS [(24, .bool (t.ms == u.ms)), (25, .bool (t.ms == u.ms)), (26, .bool (t.ms == u.ms))] ?_
   cases hb13 : t.ms == u.ms
   ·
    replace hb13 : t.ms ≠ u.ms := (ne_of_beq_false hb13)
    refine zS [(27, undef), (28, undef), (29, undef), (30, undef), (31, undef), (32, .bool false), (33, .bool false), (34, undef), (35, undef), (36, undef), (37, undef), (38, undef), (39, .bool false), (40, .bool false), (41, undef), (42, undef), (43, undef), (44, undef), (45, undef), (46, .bool false), (4, .bool false)] ?_
    refine op_nil ?_
    refine W_ret ?_
    exact ⟨_, Res_of (v := .bool false) (by kernel_rfl), ⟨congrArg Value.bool (decide_eq_false (fun e => by have q := core_iff.1 e; obtain ⟨q1, q2, q3, q4, q5, q6⟩ := q; first | exact absurd q1 (by assumption) | exact absurd q4 (by assumption) | omega)).symm, hT0⟩⟩
   ·
    replace hb13 : t.ms = u.ms := (eq_of_beq hb13)
    refine zS [(27, .pointer (some ⟨w.heap.size, 3, none⟩))] ?_
    refine zL (.slice t.gA t.img.length t.gC) ((hB4.cell 3).trans rfl) ?_
    refine zS [(29, .pointer (some ⟨w1.heap.size, 3, none⟩))] ?_
    refine zL (.slice u.gA u.img.length u.gC) ((hB8.cell 3).trans rfl) ?_
    refine zC (words_ok t.img u.img t.gA u.gA t.gC u.gC _ (hT.rg.tch0 hT0) (hU.rg.tch0 hT0)) ?_
    rintro _ w14 ⟨rfl, hT15⟩
    have hT0 := hT0.t0 hT15
    have hB4 := hB4.tch0 hT15
    have hB8 := hB8.tch0 hT15
    refine zS [(32, .bool (decide (t.img = u.img))), (33, .bool (decide (t.img = u.img)))] ?_
    cases hb16 : decide (t.img = u.img)
    ·
     replace hb16 : ¬ (t.img = u.img) := (of_decide_eq_false hb16)
     refine zS [(34, undef), (35, undef), (36, undef), (37, undef), (38, undef), (39, .bool false), (40, .bool false), (41, undef), (42, undef), (43, undef), (44, undef), (45, undef), (46, .bool false), (4, .bool false)] ?_
     refine op_nil ?_
     refine W_ret ?_
     exact ⟨_, Res_of (v := .bool false) (by kernel_rfl), ⟨congrArg Value.bool (decide_eq_false (fun e => by have q := core_iff.1 e; obtain ⟨q1, q2, q3, q4, q5, q6⟩ := q; first | exact absurd q1 (by assumption) | exact absurd q4 (by assumption) | omega)).symm, hT0⟩⟩
    ·
     replace hb16 : (t.img = u.img) := (of_decide_eq_true hb16)
     refine zS [(34, .pointer (some ⟨w.heap.size, 4, none⟩))] ?_
     refine zL (.int .i64 t.kd) ((hB4.cell 4).trans rfl) ?_
     refine zS [(36, .pointer (some ⟨w1.heap.size, 4, none⟩))] ?_
     refine zL (.int .i64 u.kd) ((hB8.cell 4).trans rfl) ?_
     refine zS [(38, .bool (t.kd == u.kd)), (39, .bool (t.kd == u.kd)), (40, .bool (t.kd == u.kd))] ?_
     cases hb17 : t.kd == u.kd
     ·
      replace hb17 : t.kd ≠ u.kd := (ne_of_beq_false hb17)
      refine zS [(41, undef), (42, undef), (43, undef), (44, undef), (45, undef), (46, .bool false), (4, .bool false)] ?_
      refine op_nil ?_
      refine W_ret ?_
      exact ⟨_, Res_of (v := .bool false) (by kernel_rfl), ⟨congrArg Value.bool (decide_eq_false (fun e => by have q := core_iff.1 e; obtain ⟨q1, q2, q3, q4, q5, q6⟩ := q; first | exact absurd q1 (by assumption) | exact absurd q4 (by assumption) | omega)).symm, hT0⟩⟩
     ·
      replace hb17 : t.kd = u.kd := (eq_of_beq hb17)
      refine zS [(41, .pointer (some ⟨w.heap.size, 5, none⟩))] ?_
      refine zL (.int .i64 t.cd) ((hB4.cell 5).trans rfl) ?_
      refine zS [(43, .pointer (some ⟨w1.heap.size, 5, none⟩))] ?_
      refine zL (.int .i64 u.cd) ((hB8.cell 5).trans rfl) ?_
      refine zS [(45, .bool (t.cd == u.cd)), (46, .bool (t.cd == u.cd)), (4, .bool (t.cd == u.cd))] ?_
      refine op_nil ?_
      refine W_ret ?_
      exact ⟨_, Res_of (v := .bool (t.cd == u.cd)) (by kernel_rfl), ⟨congrArg Value.bool (by rw [Bool.eq_iff_iff, beq_iff_eq, decide_eq_true_eq, core_iff]; exact ⟨fun h => ⟨by assumption, by omega, by omega, by assumption, by omega, by omega⟩, fun h => h.2.2.2.2.2⟩), hT0⟩⟩

set_option maxRecDepth 100000 in
set_option maxHeartbeats 1000000 in
theorem vsame_ok (t u : T6) (w : World) (hT : TmW w t) (hU : TmW w u) : Ret Try.prog 32 [.agg #[.slice t.iA t.inp.length t.iC, .int .i64 t.pt, .int .i64 t.ms, .slice t.gA t.img.length t.gC, .int .i64 t.kd, .int .i64 t.cd], .agg #[.slice u.iA u.inp.length u.iC, .int .i64 u.pt, .int .i64 u.ms, .slice u.gA u.img.length u.gC, .int .i64 u.kd, .int .i64 u.cd]] w fun v w' => v = .bool (decide (core t = core u)) ∧ Tch N0 w w' := by
 refine enter Try.func32 rfl rfl ?_
 refine zQ ?_
 refine st (by rfl) (S_new (v := .pointer (some ⟨w.heap.size, 0, none⟩)) (ob := .cells #[.slice t.iA t.inp.length t.iC, .int .i64 t.pt, .int .i64 t.ms, .slice t.gA t.img.length t.gC, .int .i64 t.kd, .int .i64 t.cd] 43) (by kernel_rfl) fun w1 hT2 hs3 hB4 => ?_)
 replace hB4 : Blk w1 (w.heap.size) 43 [.slice t.iA t.inp.length t.iC, .int .i64 t.pt, .int .i64 t.ms, .slice t.gA t.img.length t.gC, .int .i64 t.kd, .int .i64 t.cd] := hB4
 have hT0 := hT2
 have hz9 := hT0.size
 have lt10 := hB4.lt
 refine st (by rfl) (S_new (v := .pointer (some ⟨w1.heap.size, 0, none⟩)) (ob := .cells #[.slice u.iA u.inp.length u.iC, .int .i64 u.pt, .int .i64 u.ms, .slice u.gA u.img.length u.gC, .int .i64 u.kd, .int .i64 u.cd] 43) (by kernel_rfl) fun w5 hT6 hs7 hB8 => ?_)
 replace hB8 : Blk w5 (w1.heap.size) 43 [.slice u.iA u.inp.length u.iC, .int .i64 u.pt, .int .i64 u.ms, .slice u.gA u.img.length u.gC, .int .i64 u.kd, .int .i64 u.cd] := hB8
 have hT0 := hT0.t0 hT6
 have hB4 := hB4.tch0 hT6
 refine zS [(4, .bool false)] ?_
 refine op_nil ?_
 refine W_seq ?_
 refine W_draw (fun w' => Blk w' (w.heap.size) 43 [.slice t.iA t.inp.length t.iC, .int .i64 t.pt, .int .i64 t.ms, .slice t.gA t.img.length t.gC, .int .i64 t.kd, .int .i64 t.cd] ∧ Blk w' (w1.heap.size) 43 [.slice u.iA u.inp.length u.iC, .int .i64 u.pt, .int .i64 u.ms, .slice u.gA u.img.length u.gC, .int .i64 u.kd, .int .i64 u.cd]) (by kernel_rfl) (by kernel_rfl) (by kernel_rfl) fun w11 hT12 hh13 => ?_
 have hT0 := hT0.t0 hT12
 have hB4 := hB4.tch0 hT12
 have hB8 := hB8.tch0 hT12
 refine zV 0 rfl (.agg #[.slice t.iA t.inp.length t.iC, .int .i64 t.pt, .int .i64 t.ms, .slice t.gA t.img.length t.gC, .int .i64 t.kd, .int .i64 t.cd]) (fun _ ⟨hB4, hB8⟩ => R_loadA [.slice t.iA t.inp.length t.iC, .int .i64 t.pt, .int .i64 t.ms, .slice t.gA t.img.length t.gC, .int .i64 t.kd, .int .i64 t.cd] (by kernel_rfl) (by kernel_rfl) (by kernel_rfl) (fun k u hk => by rw [hB4.cell]; exact get_part _ 0 _ k u rfl hk)) ⟨hB4, hB8⟩ ?_
 refine zV 2 rfl (.agg #[.slice u.iA u.inp.length u.iC, .int .i64 u.pt, .int .i64 u.ms, .slice u.gA u.img.length u.gC, .int .i64 u.kd, .int .i64 u.cd]) (fun _ ⟨hB4, hB8⟩ => R_loadA [.slice u.iA u.inp.length u.iC, .int .i64 u.pt, .int .i64 u.ms, .slice u.gA u.img.length u.gC, .int .i64 u.kd, .int .i64 u.cd] (by kernel_rfl) (by kernel_rfl) (by kernel_rfl) (fun k u hk => by rw [hB8.cell]; exact get_part _ 0 _ k u rfl hk)) ⟨hB4, hB8⟩ ?_
 refine zD 1 rfl (S_call (args := [.agg #[.slice t.iA t.inp.length t.iC, .int .i64 t.pt, .int .i64 t.ms, .slice t.gA t.img.length t.gC, .int .i64 t.kd, .int .i64 t.cd]]) (by kernel_rfl) (vof_ok t _) ?_)
 rintro _ w14 ⟨rfl, hT15⟩
 have hT0 := hT0.t0 hT15
 have hB4 := hB4.tch0 hT15
 have hB8 := hB8.tch0 hT15
 refine ⟨⟨hB4, hB8⟩, ?_⟩
 refine zD 3 rfl (S_call (args := [.agg #[.slice u.iA u.inp.length u.iC, .int .i64 u.pt, .int .i64 u.ms, .slice u.gA u.img.length u.gC, .int .i64 u.kd, .int .i64 u.cd]]) (by kernel_rfl) (vof_ok u _) ?_)
 rintro _ w16 ⟨rfl, hT17⟩
 have hT0 := hT0.t0 hT17
 have hB4 := hB4.tch0 hT17
 have hB8 := hB8.tch0 hT17
 refine ⟨⟨hB4, hB8⟩, ?_⟩
 refine zV 4 rfl (.bool (decide (t.pt = u.pt ∧ t.ms = u.ms ∧ t.kd = u.kd ∧ t.cd = u.cd))) (fun _ ⟨hB4, hB8⟩ => R_eq4 (by kernel_rfl) (by kernel_rfl) hT.wf.1 hT.wf.2.1 hT.wf.2.2.1 hT.wf.2.2.2.1 hU.wf.1 hU.wf.2.1 hU.wf.2.2.1 hU.wf.2.2.2.1) ⟨hB4, hB8⟩ ?_
 refine zK [5] #[true, true, true, true, true, true, false, false, false, false, false, false, false, false, false, false, false, false, false, false] [(10, .bool (decide (t.pt = u.pt ∧ t.ms = u.ms ∧ t.kd = u.kd ∧ t.cd = u.cd)))] ⟨hB4, hB8⟩ ?_
 cases hb18 : decide (t.pt = u.pt ∧ t.ms = u.ms ∧ t.kd = u.kd ∧ t.cd = u.cd)
 ·
  replace hb18 : ¬ (t.pt = u.pt ∧ t.ms = u.ms ∧ t.kd = u.kd ∧ t.cd = u.cd) := (of_decide_eq_false hb18)
  refine zK [6, 8, 7, 9, 10, 11, 12, 13, 15, 14, 16, 17, 18, 19] #[true, true, true, true, true, true, true, true, true, true, true, true, true, true, true, true, true, true, true, true] [(11, undef), (13, undef), (12, undef), (14, undef), (15, undef), (16, .bool false), (17, .bool false), (18, undef), (20, undef), (19, undef), (21, undef), (22, undef), (23, .bool false), (4, .bool false)] ⟨hB4, hB8⟩ ?_
  refine d_done (by kernel_rfl) ?_
  refine W_ret ?_
  exact ⟨_, Res_of (v := .bool false) (by kernel_rfl), ⟨congrArg Value.bool (decide_eq_false (fun e => by have q := core_iff.1 e; obtain ⟨q1, q2, q3, q4, q5, q6⟩ := q; first | exact absurd q1 (by assumption) | exact absurd q4 (by assumption) | omega)).symm, hT0⟩⟩
 ·
  replace hb18 : (t.pt = u.pt ∧ t.ms = u.ms ∧ t.kd = u.kd ∧ t.cd = u.cd) := (of_decide_eq_true hb18)
  refine zK [6, 8] #[true, true, true, true, true, true, true, false, true, false, false, false, false, false, false, false, false, false, false, false] [(11, .pointer (some ⟨w.heap.size, 0, none⟩)), (13, .pointer (some ⟨w1.heap.size, 0, none⟩))] ⟨hB4, hB8⟩ ?_
  refine zV 7 rfl (.slice t.iA t.inp.length t.iC) (fun _ ⟨hB4, hB8⟩ => R_load (v := .slice t.iA t.inp.length t.iC) (by kernel_rfl) (by kernel_rfl) ((hB4.cell 0).trans rfl)) ⟨hB4, hB8⟩ ?_
  refine zV 9 rfl (.slice u.iA u.inp.length u.iC) (fun _ ⟨hB4, hB8⟩ => R_load (v := .slice u.iA u.inp.length u.iC) (by kernel_rfl) (by kernel_rfl) ((hB8.cell 0).trans rfl)) ⟨hB4, hB8⟩ ?_
  refine zD 10 rfl (S_call (args := [.slice t.iA t.inp.length t.iC, .slice u.iA u.inp.length u.iC]) (by kernel_rfl) (eqb_ok t.inp u.inp t.iA u.iA t.iC u.iC _ (hT.ri.tch0 hT0) (hU.ri.tch0 hT0)) ?_)
  rintro _ w19 ⟨rfl, hT20⟩
  have hT0 := hT0.t0 hT20
  have hB4 := hB4.tch0 hT20
  have hB8 := hB8.tch0 hT20
  refine ⟨⟨hB4, hB8⟩, ?_⟩
  refine zK [11, 12] #[true, true, true, true, true, true, true, true, true, true, true, true, true, false, false, false, false, false, false, false] [(16, .bool (decide (t.inp = u.inp))), (17, .bool (decide (t.inp = u.inp)))] ⟨hB4, hB8⟩ ?_
  cases hb21 : decide (t.inp = u.inp)
  ·
   replace hb21 : ¬ (t.inp = u.inp) := (of_decide_eq_false hb21)
   refine zK [13, 15, 14, 16, 17, 18, 19] #[true, true, true, true, true, true, true, true, true, true, true, true, true, true, true, true, true, true, true, true] [(18, undef), (20, undef), (19, undef), (21, undef), (22, undef), (23, .bool false), (4, .bool false)] ⟨hB4, hB8⟩ ?_
   refine d_done (by kernel_rfl) ?_
   refine W_ret ?_
   exact ⟨_, Res_of (v := .bool false) (by kernel_rfl), ⟨congrArg Value.bool (decide_eq_false (fun e => by have q := core_iff.1 e; obtain ⟨q1, q2, q3, q4, q5, q6⟩ := q; first | exact absurd q1 (by assumption) | exact absurd q4 (by assumption) | omega)).symm, hT0⟩⟩
  ·
   replace hb21 : (t.inp = u.inp) := (of_decide_eq_true hb21)
   refine zK [13, 15] #[true, true, true, true, true, true, true, true, true, true, true, true, true, true, false, true, false, false, false, false] [(18, .pointer (some ⟨w.heap.size, 3, none⟩)), (20, .pointer (some ⟨w1.heap.size, 3, none⟩))] ⟨hB4, hB8⟩ ?_
   refine zV 14 rfl (.slice t.gA t.img.length t.gC) (fun _ ⟨hB4, hB8⟩ => R_load (v := .slice t.gA t.img.length t.gC) (by kernel_rfl) (by kernel_rfl) ((hB4.cell 3).trans rfl)) ⟨hB4, hB8⟩ ?_
   refine zV 16 rfl (.slice u.gA u.img.length u.gC) (fun _ ⟨hB4, hB8⟩ => R_load (v := .slice u.gA u.img.length u.gC) (by kernel_rfl) (by kernel_rfl) ((hB8.cell 3).trans rfl)) ⟨hB4, hB8⟩ ?_
   refine zD 17 rfl (S_call (args := [.slice t.gA t.img.length t.gC, .slice u.gA u.img.length u.gC]) (by kernel_rfl) (eqw_ok t.img u.img t.gA u.gA t.gC u.gC _ (hT.rg.tch0 hT0) (hU.rg.tch0 hT0)) ?_)
   rintro _ w22 ⟨rfl, hT23⟩
   have hT0 := hT0.t0 hT23
   have hB4 := hB4.tch0 hT23
   have hB8 := hB8.tch0 hT23
   refine ⟨⟨hB4, hB8⟩, ?_⟩
   refine zK [18, 19] #[true, true, true, true, true, true, true, true, true, true, true, true, true, true, true, true, true, true, true, true] [(23, .bool (decide (t.img = u.img))), (4, .bool (decide (t.img = u.img)))] ⟨hB4, hB8⟩ ?_
   refine d_done (by kernel_rfl) ?_
   refine W_ret ?_
   exact ⟨_, Res_of (v := .bool (decide (t.img = u.img))) (by kernel_rfl), ⟨congrArg Value.bool (by rw [decide_eq_decide, core_iff]; exact ⟨fun h => ⟨by assumption, by omega, by omega, h, by omega, by omega⟩, fun h => h.2.2.2.1⟩), hT0⟩⟩

set_option maxRecDepth 100000 in
theorem eqf_ok (A B : Option Addr) (ca cb : Nat) (l m_ : List T6) (w : World) (hL : TsW w A l) (hM : TsW w B m_) : Ret Try.prog 31 [.slice A l.length ca, .slice B m_.length cb, .func (.func 32) #[] #[]] w fun v w' => v = .bool (decide (cores l = cores m_)) ∧ Tch N0 w w' := by
 have hLm := hL.rd.2.1
 have hMm := hM.rd.2.1
 refine enter Try.func31 rfl rfl ?_
 refine zQ ?_
 refine zS [(6, .bool false)] ?_
 refine op_nil ?_
 refine W_seq ?_
 refine zQ ?_
 refine zS [(10, .slice A l.length ca), (11, .int .i64 (l.length : Int)), (12, .slice B m_.length cb), (13, .int .i64 (m_.length : Int)), (14, .bool ((l.length : Int) != (m_.length : Int)))] ?_
 refine zO ((l.length : Int) != (m_.length : Int)) (fun hc1 => ?_) (fun hc1 => ?_)
 ·
  replace hc1 : (l.length : Int) ≠ (m_.length : Int) := (bne_iff_ne.1 hc1)
  refine zQ ?_
  refine zS [(6, .bool false)] ?_
  refine op_nil ?_
  refine W_ret ?_
  exact ⟨_, Res_of (v := .bool false) (by kernel_rfl), ⟨congrArg Value.bool (decide_eq_false (by first | exact cores_ne (j := j) (by omega) (by omega) (by assumption) | exact (fun e => by have q := congrArg List.length e; rw [cores_length, cores_length] at q; omega))).symm, Tch.refl _ _⟩⟩
 ·
  replace hc1 : (l.length : Int) = (m_.length : Int) := (bne_eq_false_iff_eq.1 hc1)
  refine W_skip ?_
  refine W_seq ?_
  refine zQ ?_
  refine zS [(15, .slice A l.length ca), (16, .int .i64 (l.length : Int)), (17, .int .i64 0)] ?_
  refine op_nil ?_
  refine W_block ?_
  refine W_loop (fun m ρ w' => ∃ (j : Nat) (ρ0 : Env), ρ = updL ρ0 [(0, .slice A l.length ca), (1, .slice B m_.length cb), (2, .func (.func 32) #[] #[]), (15, .slice A l.length ca), (16, .int .i64 (l.length : Int)), (17, .int .i64 ((j : Nat) : Int))] ∧ (j ≤ l.length) ∧ (∀ i, i < j → core (tq l i) = core (tq m_ i)) ∧ Tch N0 w w' ∧ m = l.length + 1 - j) (m := l.length + 1 - 0) ?_ ?_
  ·
   refine ⟨0, _, updL_self (by kernel_rfl), by omega, (fun i h => by omega), Tch.refl _ _, rfl⟩
  ·
   rintro m ρ w2 ⟨j, ρ, rfl, hj, hall, hT0, rfl⟩
   refine zQ ?_
   refine zS [(18, .bool (decide (((j : Nat) : Int) < (l.length : Int))))] ?_
   refine op_nil ?_
   refine W_seq ?_
   refine zW (decide (((j : Nat) : Int) < (l.length : Int))) (fun hc3 => ?_) (fun hc3 => ?_)
   ·
    replace hc3 : ((j : Nat) : Int) < (l.length : Int) := (of_decide_eq_true hc3)
    refine W_skip ?_
    refine W_seq ?_
    refine W_block ?_
    refine zQ ?_
    refine zS [(19, .int .i64 ((j : Nat) : Int))] ?_
    refine stv (v := ptrAt A (j * 6)) (by rfl) (R_indexRd (sz := 6) (len := l.length) (cap := ca) (k := .i64) (i := ((j : Nat) : Int)) (e := 43) j (hL.rd.tch0 hT0) (by kernel_rfl) (by kernel_rfl) (by kernel_rfl) (by kernel_rfl) rfl (by omega)) ?_
    refine stv (v := .agg #[.slice ((tq l j).iA) ((tq l j).inp.length) ((tq l j).iC), .int .i64 ((tq l j).pt), .int .i64 ((tq l j).ms), .slice ((tq l j).gA) ((tq l j).img.length) ((tq l j).gC), .int .i64 ((tq l j).kd), .int .i64 ((tq l j).cd)]) (by rfl) (R_loadRdA [.slice ((tq l j).iA) ((tq l j).inp.length) ((tq l j).iC), .int .i64 ((tq l j).pt), .int .i64 ((tq l j).ms), .slice ((tq l j).gA) ((tq l j).img.length) ((tq l j).gC), .int .i64 ((tq l j).kd), .int .i64 ((tq l j).cd)] (hL.rd.tch0 hT0) (by omega) (by kernel_rfl) (by kernel_rfl) (by kernel_rfl) (tcs_part l (by omega))) ?_
    have hz8 := hT0.size
    refine st (by rfl) (S_new (v := .pointer (some ⟨w2.heap.size, 0, none⟩)) (ob := .cells #[.slice none 0 0, .int .i64 0, .int .i64 0, .slice none 0 0, .int .i64 0, .int .i64 0] 43) (by kernel_rfl) fun w4 hT5 hs6 hB7 => ?_)
    replace hB7 : Blk w4 (w2.heap.size) 43 [.slice none 0 0, .int .i64 0, .int .i64 0, .slice none 0 0, .int .i64 0, .int .i64 0] := hB7
    have hT0 := hT0.t0 hT5
    refine zS [(7, .int .i64 ((j : Nat) : Int))] ?_
    refine st (by rfl) (S_storeA (b := w2.heap.size) (j := 0) (cs := [.slice ((tq l j).iA) ((tq l j).inp.length) ((tq l j).iC), .int .i64 ((tq l j).pt), .int .i64 ((tq l j).ms), .slice ((tq l j).gA) ((tq l j).img.length) ((tq l j).gC), .int .i64 ((tq l j).kd), .int .i64 ((tq l j).cd)]) (by kernel_rfl) (by kernel_rfl) (by kernel_rfl) (by simp [oneV]) hB7 (by simp) fun w9 hT10 hs11 hB7' => ?_)
    have hT0 := (hT0).then hT10 (fun c e => by have : c = w2.heap.size := e; omega)
    replace hB7 : Blk w9 w2.heap.size 43 [.slice ((tq l j).iA) ((tq l j).inp.length) ((tq l j).iC), .int .i64 ((tq l j).pt), .int .i64 ((tq l j).ms), .slice ((tq l j).gA) ((tq l j).img.length) ((tq l j).gC), .int .i64 ((tq l j).kd), .int .i64 ((tq l j).cd)] := hB7'
    refine op_nil ?_
    refine zQ ?_
    refine zS [(22, .slice B m_.length cb), (23, .int .i64 ((j : Nat) : Int))] ?_
    refine stv (v := ptrAt B (j * 6)) (by rfl) (R_indexRd (sz := 6) (len := m_.length) (cap := cb) (k := .i64) (i := ((j : Nat) : Int)) (e := 43) j (hM.rd.tch0 hT0) (by kernel_rfl) (by kernel_rfl) (by kernel_rfl) (by kernel_rfl) rfl (by omega)) ?_
    refine stv (v := .agg #[.slice ((tq m_ j).iA) ((tq m_ j).inp.length) ((tq m_ j).iC), .int .i64 ((tq m_ j).pt), .int .i64 ((tq m_ j).ms), .slice ((tq m_ j).gA) ((tq m_ j).img.length) ((tq m_ j).gC), .int .i64 ((tq m_ j).kd), .int .i64 ((tq m_ j).cd)]) (by rfl) (R_loadRdA [.slice ((tq m_ j).iA) ((tq m_ j).inp.length) ((tq m_ j).iC), .int .i64 ((tq m_ j).pt), .int .i64 ((tq m_ j).ms), .slice ((tq m_ j).gA) ((tq m_ j).img.length) ((tq m_ j).gC), .int .i64 ((tq m_ j).kd), .int .i64 ((tq m_ j).cd)] (hM.rd.tch0 hT0) (by omega) (by kernel_rfl) (by kernel_rfl) (by kernel_rfl) (tcs_part m_ (by omega))) ?_
    have hz16 := hT0.size
    have lt17 := hB7.lt
    refine st (by rfl) (S_new (v := .pointer (some ⟨w9.heap.size, 0, none⟩)) (ob := .cells #[.slice none 0 0, .int .i64 0, .int .i64 0, .slice none 0 0, .int .i64 0, .int .i64 0] 43) (by kernel_rfl) fun w12 hT13 hs14 hB15 => ?_)
    replace hB15 : Blk w12 (w9.heap.size) 43 [.slice none 0 0, .int .i64 0, .int .i64 0, .slice none 0 0, .int .i64 0, .int .i64 0] := hB15
    have hT0 := hT0.t0 hT13
    have hB7 := hB7.tch0 hT13
    refine st (by rfl) (S_storeA (b := w9.heap.size) (j := 0) (cs := [.slice ((tq m_ j).iA) ((tq m_ j).inp.length) ((tq m_ j).iC), .int .i64 ((tq m_ j).pt), .int .i64 ((tq m_ j).ms), .slice ((tq m_ j).gA) ((tq m_ j).img.length) ((tq m_ j).gC), .int .i64 ((tq m_ j).kd), .int .i64 ((tq m_ j).cd)]) (by kernel_rfl) (by kernel_rfl) (by kernel_rfl) (by simp [oneV]) hB15 (by simp) fun w18 hT19 hs20 hB15' => ?_)
    have hT0 := (hT0).then hT19 (fun c e => by have : c = w9.heap.size := e; omega)
    have hB7 := hB7.tch hT19 (fun e => by have : w2.heap.size = w9.heap.size := e; omega)
    replace hB15 : Blk w18 w9.heap.size 43 [.slice ((tq m_ j).iA) ((tq m_ j).inp.length) ((tq m_ j).iC), .int .i64 ((tq m_ j).pt), .int .i64 ((tq m_ j).ms), .slice ((tq m_ j).gA) ((tq m_ j).img.length) ((tq m_ j).gC), .int .i64 ((tq m_ j).kd), .int .i64 ((tq m_ j).cd)] := hB15'
    refine op_nil ?_
    refine W_seq ?_
    refine zF [(0, .slice A l.length ca), (1, .slice B m_.length cb), (2, .func (.func 32) #[] #[]), (7, .int .i64 ((j : Nat) : Int)), (8, .pointer (some ⟨w2.heap.size, 0, none⟩)), (9, .pointer (some ⟨w9.heap.size, 0, none⟩)), (15, .slice A l.length ca), (16, .int .i64 (l.length : Int)), (17, .int .i64 ((j : Nat) : Int)), (18, .bool (decide (((j : Nat) : Int) < (l.length : Int))))] fun ρ => ?_
    refine zR ?_
    refine zS [(26, .func (.func 32) #[] #[])] ?_
    refine st (by rfl) (S_val (v := .agg #[.slice ((tq l j).iA) ((tq l j).inp.length) ((tq l j).iC), .int .i64 ((tq l j).pt), .int .i64 ((tq l j).ms), .slice ((tq l j).gA) ((tq l j).img.length) ((tq l j).gC), .int .i64 ((tq l j).kd), .int .i64 ((tq l j).cd)]) (R_loadA [.slice ((tq l j).iA) ((tq l j).inp.length) ((tq l j).iC), .int .i64 ((tq l j).pt), .int .i64 ((tq l j).ms), .slice ((tq l j).gA) ((tq l j).img.length) ((tq l j).gC), .int .i64 ((tq l j).kd), .int .i64 ((tq l j).cd)] (by kernel_rfl) (by kernel_rfl) (by kernel_rfl) (fun k u hk => by rw [hB7.cell]; exact get_part _ 0 _ k u rfl hk)) ?_)
    refine st (by rfl) (S_val (v := .agg #[.slice ((tq m_ j).iA) ((tq m_ j).inp.length) ((tq m_ j).iC), .int .i64 ((tq m_ j).pt), .int .i64 ((tq m_ j).ms), .slice ((tq m_ j).gA) ((tq m_ j).img.length) ((tq m_ j).gC), .int .i64 ((tq m_ j).kd), .int .i64 ((tq m_ j).cd)]) (R_loadA [.slice ((tq m_ j).iA) ((tq m_ j).inp.length) ((tq m_ j).iC), .int .i64 ((tq m_ j).pt), .int .i64 ((tq m_ j).ms), .slice ((tq m_ j).gA) ((tq m_ j).img.length) ((tq m_ j).gC), .int .i64 ((tq m_ j).kd), .int .i64 ((tq m_ j).cd)] (by kernel_rfl) (by kernel_rfl) (by kernel_rfl) (fun k u hk => by rw [hB15.cell]; exact get_part _ 0 _ k u rfl hk)) ?_)
    refine zC (vsame_ok (tq l j) (tq m_ j) _ ((hL.el _ (tq_mem (by omega))).tch0 hT0) ((hM.el _ (tq_mem (by omega))).tch0 hT0)) ?_
    rintro _ w21 ⟨rfl, hT22⟩
    have hT0 := hT0.t0 hT22
    have hB7 := hB7.tch0 hT22
    have hB15 := hB15.tch0 hT22
    refine zS [(30, .bool (!(decide (core (tq l j) = core (tq m_ j)))))] ?_
    refine zO (!(decide (core (tq l j) = core (tq m_ j)))) (fun hc23 => ?_) (fun hc23 => ?_)
    ·
     replace hc23 : ¬ (core (tq l j) = core (tq m_ j)) := (of_decide_eq_false (not_t hc23))
     refine zQ ?_
     refine zS [(6, .bool false)] ?_
     refine op_nil ?_
     refine W_ret ?_
     exact ⟨_, Res_of (v := .bool false) (by kernel_rfl), ⟨congrArg Value.bool (decide_eq_false (by first | exact cores_ne (j := j) (by omega) (by omega) (by assumption) | exact (fun e => by have q := congrArg List.length e; rw [cores_length, cores_length] at q; omega))).symm, hT0⟩⟩
    ·
     replace hc23 : (core (tq l j) = core (tq m_ j)) := (of_decide_eq_true (not_f hc23))
     refine W_skip ?_
     refine zR ?_
     refine zS [(31, .int .i64 (IntKind.i64.wrap (((j : Nat) : Int) + 1)))] ?_
     rw [show IntKind.i64.wrap (((j : Nat) : Int) + 1) = ((j : Nat) : Int) + 1 from wrap_i64 (by omega) (by omega)]
     refine fixR (y := ((j + 1 : Nat) : Int)) (by omega) ?_
     refine zS [(17, .int .i64 ((j + 1 : Nat) : Int))] ?_
     refine op_nil ?_
     refine ⟨_, (by omega), j + 1, _, updL_self (by kernel_rfl), (by omega), (fun i h => (Nat.lt_or_eq_of_le (Nat.le_of_lt_succ h)).elim (hall i) (fun e => by rw [e]; assumption)), hT0, rfl⟩
   ·
    replace hc3 : (l.length : Int) ≤ ((j : Nat) : Int) := (Int.not_lt.1 (of_decide_eq_false hc3))
    refine W_exit ?_
    refine X_hit ?_
    refine zQ ?_
    refine zS [(6, .bool true)] ?_
    refine op_nil ?_
    refine W_ret ?_
    exact ⟨_, Res_of (v := .bool true) (by kernel_rfl), ⟨congrArg Value.bool (decide_eq_true (cores_eq (by omega) (fun i h => hall i (by omega)))).symm, hT0⟩⟩

set_option maxRecDepth 100000 in
theorem allsame_ok (A B : Option Addr) (ca cb : Nat) (l m_ : List T6) (w : World) (hL : TsW w A l) (hM : TsW w B m_) : Ret Try.prog 33 [.slice A l.length ca, .slice B m_.length cb] w fun v w' => v = .bool (decide (cores l = cores m_)) ∧ Tch N0 w w' := by
 have hLm := hL.rd.2.1
 have hMm := hM.rd.2.1
 have hLr := hL.rd
 have hMr := hM.rd
 refine enter Try.func33 rfl rfl ?_
 refine zQ ?_
 refine zS [(4, .bool false)] ?_
 refine op_nil ?_
 refine W_seq ?_
 refine zQ ?_
 refine zS [(6, .slice A l.length ca), (7, .int .i64 (l.length : Int)), (8, .slice B m_.length cb), (9, .int .i64 (m_.length : Int)), (10, .bool ((l.length : Int) != (m_.length : Int)))] ?_
 refine zO ((l.length : Int) != (m_.length : Int)) (fun hc1 => ?_) (fun hc1 => ?_)
 ·
  replace hc1 : (l.length : Int) ≠ (m_.length : Int) := (bne_iff_ne.1 hc1)
  refine zQ ?_
  refine zS [(4, .bool false)] ?_
  refine op_nil ?_
  refine W_ret ?_
  exact ⟨_, Res_of (v := .bool false) (by kernel_rfl), ⟨congrArg Value.bool (decide_eq_false (by first | exact cores_ne (j := j) (by omega) (by omega) (by assumption) | exact (fun e => by have q := congrArg List.length e; rw [cores_length, cores_length] at q; omega))).symm, Tch.refl _ _⟩⟩
 ·
  replace hc1 : (l.length : Int) = (m_.length : Int) := (bne_eq_false_iff_eq.1 hc1)
  refine W_skip ?_
  refine W_seq ?_
  refine zQ ?_
  refine zS [(5, .int .i64 0)] ?_
  refine op_nil ?_
  refine W_block ?_
  refine W_loop (fun m ρ w' => ∃ (j : Nat) (ρ0 : Env), ρ = updL ρ0 [(0, .slice A l.length ca), (1, .slice B m_.length cb), (5, .int .i64 ((j : Nat) : Int))] ∧ (j ≤ l.length) ∧ (∀ i, i < j → core (tq l i) = core (tq m_ i)) ∧ Tch N0 w w' ∧ RdW w' 6 l.length A (tcs l) ∧ RdW w' 6 m_.length B (tcs m_) ∧ m = l.length + 1 - j) (m := l.length + 1 - 0) ?_ ?_
  ·
   refine ⟨0, _, updL_self (by kernel_rfl), by omega, (fun i h => by omega), Tch.refl _ _, hLr, hMr, rfl⟩
  ·
   rintro m ρ w2 ⟨j, ρ, rfl, hj, hall, hT0, hLr, hMr, rfl⟩
   refine W_seq ?_
   refine zQ ?_
   refine zS [(11, .int .i64 ((j : Nat) : Int)), (12, .slice A l.length ca), (13, .int .i64 (l.length : Int)), (14, .bool (decide (((j : Nat) : Int) < (l.length : Int))))] ?_
   refine zO (decide (((j : Nat) : Int) < (l.length : Int))) (fun hc3 => ?_) (fun hc3 => ?_)
   ·
    replace hc3 : ((j : Nat) : Int) < (l.length : Int) := (of_decide_eq_true hc3)
    refine W_skip ?_
    refine W_seq ?_
    refine W_block ?_
    refine W_seq ?_
    refine W_draw (fun w' => RdW w' 6 l.length A (tcs l) ∧ RdW w' 6 m_.length B (tcs m_)) (by kernel_rfl) (by kernel_rfl) (by kernel_rfl) fun w4 hT5 hh6 => ?_
    have hT0 := hT0.t0 hT5
    have hLr := hL.rd.tch0 hT0
    have hMr := hM.rd.tch0 hT0
    refine zK [0, 1, 4, 5] #[true, true, false, false, true, true, false, false, false, false] [(17, .slice A l.length ca), (18, .int .i64 ((j : Nat) : Int)), (21, .slice B m_.length cb), (22, .int .i64 ((j : Nat) : Int))] ⟨hLr, hMr⟩ ?_
    refine zV 2 rfl (ptrAt A (j * 6)) (fun _ ⟨hLr, hMr⟩ => R_indexRd (sz := 6) (len := l.length) (cap := ca) (k := .i64) (i := ((j : Nat) : Int)) (e := 43) j hLr (by kernel_rfl) (by kernel_rfl) (by kernel_rfl) (by kernel_rfl) rfl (by omega)) ⟨hLr, hMr⟩ ?_
    refine zV 3 rfl (.agg #[.slice ((tq l j).iA) ((tq l j).inp.length) ((tq l j).iC), .int .i64 ((tq l j).pt), .int .i64 ((tq l j).ms), .slice ((tq l j).gA) ((tq l j).img.length) ((tq l j).gC), .int .i64 ((tq l j).kd), .int .i64 ((tq l j).cd)]) (fun _ ⟨hLr, hMr⟩ => R_loadRdA [.slice ((tq l j).iA) ((tq l j).inp.length) ((tq l j).iC), .int .i64 ((tq l j).pt), .int .i64 ((tq l j).ms), .slice ((tq l j).gA) ((tq l j).img.length) ((tq l j).gC), .int .i64 ((tq l j).kd), .int .i64 ((tq l j).cd)] hLr (by omega) (by kernel_rfl) (by kernel_rfl) (by kernel_rfl) (tcs_part l (by omega))) ⟨hLr, hMr⟩ ?_
    refine zV 6 rfl (ptrAt B (j * 6)) (fun _ ⟨hLr, hMr⟩ => R_indexRd (sz := 6) (len := m_.length) (cap := cb) (k := .i64) (i := ((j : Nat) : Int)) (e := 43) j hMr (by kernel_rfl) (by kernel_rfl) (by kernel_rfl) (by kernel_rfl) rfl (by omega)) ⟨hLr, hMr⟩ ?_
    refine zV 7 rfl (.agg #[.slice ((tq m_ j).iA) ((tq m_ j).inp.length) ((tq m_ j).iC), .int .i64 ((tq m_ j).pt), .int .i64 ((tq m_ j).ms), .slice ((tq m_ j).gA) ((tq m_ j).img.length) ((tq m_ j).gC), .int .i64 ((tq m_ j).kd), .int .i64 ((tq m_ j).cd)]) (fun _ ⟨hLr, hMr⟩ => R_loadRdA [.slice ((tq m_ j).iA) ((tq m_ j).inp.length) ((tq m_ j).iC), .int .i64 ((tq m_ j).pt), .int .i64 ((tq m_ j).ms), .slice ((tq m_ j).gA) ((tq m_ j).img.length) ((tq m_ j).gC), .int .i64 ((tq m_ j).kd), .int .i64 ((tq m_ j).cd)] hMr (by omega) (by kernel_rfl) (by kernel_rfl) (by kernel_rfl) (tcs_part m_ (by omega))) ⟨hLr, hMr⟩ ?_
    refine zD 8 rfl (S_call (args := [.agg #[.slice ((tq l j).iA) ((tq l j).inp.length) ((tq l j).iC), .int .i64 ((tq l j).pt), .int .i64 ((tq l j).ms), .slice ((tq l j).gA) ((tq l j).img.length) ((tq l j).gC), .int .i64 ((tq l j).kd), .int .i64 ((tq l j).cd)], .agg #[.slice ((tq m_ j).iA) ((tq m_ j).inp.length) ((tq m_ j).iC), .int .i64 ((tq m_ j).pt), .int .i64 ((tq m_ j).ms), .slice ((tq m_ j).gA) ((tq m_ j).img.length) ((tq m_ j).gC), .int .i64 ((tq m_ j).kd), .int .i64 ((tq m_ j).cd)]]) (by kernel_rfl) (rsame_ok (tq l j) (tq m_ j) _ ((hL.el _ (tq_mem (by omega))).tch0 hT0) ((hM.el _ (tq_mem (by omega))).tch0 hT0)) ?_)
    rintro _ w7 ⟨rfl, hT8⟩
    have hT0 := hT0.t0 hT8
    have hLr := hL.rd.tch0 hT0
    have hMr := hM.rd.tch0 hT0
    refine ⟨⟨hLr, hMr⟩, ?_⟩
    refine zK [9] #[true, true, true, true, true, true, true, true, true, true] [(26, .bool (!(decide (core (tq l j) = core (tq m_ j)))))] ⟨hLr, hMr⟩ ?_
    refine d_done (by kernel_rfl) ?_
    refine zW (!(decide (core (tq l j) = core (tq m_ j)))) (fun hc9 => ?_) (fun hc9 => ?_)
    ·
     replace hc9 : ¬ (core (tq l j) = core (tq m_ j)) := (of_decide_eq_false (not_t hc9))
     refine W_seq ?_
     refine zF [(0, .slice A l.length ca), (1, .slice B m_.length cb), (5, .int .i64 ((j : Nat) : Int)), (14, .bool (decide (((j : Nat) : Int) < (l.length : Int)))), (26, .bool (!(decide (core (tq l j) = core (tq m_ j)))))] fun ρ => ?_
     refine zR ?_
     refine zS [(4, .bool false)] ?_
     refine op_nil ?_
     refine W_ret ?_
     exact ⟨_, Res_of (v := .bool false) (by kernel_rfl), ⟨congrArg Value.bool (decide_eq_false (by first | exact cores_ne (j := j) (by omega) (by omega) (by assumption) | exact (fun e => by have q := congrArg List.length e; rw [cores_length, cores_length] at q; omega))).symm, hT0⟩⟩
    ·
     replace hc9 : (core (tq l j) = core (tq m_ j)) := (of_decide_eq_true (not_f hc9))
     refine W_skip ?_
     refine zF [(0, .slice A l.length ca), (1, .slice B m_.length cb), (5, .int .i64 ((j : Nat) : Int)), (14, .bool (decide (((j : Nat) : Int) < (l.length : Int)))), (26, .bool (!(decide (core (tq l j) = core (tq m_ j)))))] fun ρ => ?_
     refine zR ?_
     refine zS [(15, .int .i64 ((j : Nat) : Int)), (16, .int .i64 (IntKind.i64.wrap (((j : Nat) : Int) + 1)))] ?_
     rw [show IntKind.i64.wrap (((j : Nat) : Int) + 1) = ((j : Nat) : Int) + 1 from wrap_i64 (by omega) (by omega)]
     refine fixR (y := ((j + 1 : Nat) : Int)) (by omega) ?_
     refine zS [(5, .int .i64 ((j + 1 : Nat) : Int))] ?_
     refine op_nil ?_
     refine ⟨_, (by omega), j + 1, _, updL_self (by kernel_rfl), (by omega), (fun i h => (Nat.lt_or_eq_of_le (Nat.le_of_lt_succ h)).elim (hall i) (fun e => by rw [e]; assumption)), hT0, hLr, hMr, rfl⟩
   ·
    replace hc3 : (l.length : Int) ≤ ((j : Nat) : Int) := (Int.not_lt.1 (of_decide_eq_false hc3))
    refine W_exit ?_
    refine X_hit ?_
    refine zQ ?_
    refine zS [(4, .bool true)] ?_
    refine op_nil ?_
    refine W_ret ?_
    exact ⟨_, Res_of (v := .bool true) (by kernel_rfl), ⟨congrArg Value.bool (decide_eq_true (cores_eq (by omega) (fun i h => hall i (by omega)))).symm, hT0⟩⟩

set_option maxRecDepth 100000 in
theorem same_ok (V E S U V' E' S' U' : Int) (A B : Option Addr) (ca cb : Nat) (l m_ : List T6) (w : World) (hL : TsW w A l) (hM : TsW w B m_) : Ret Try.prog 12 [.agg #[.int .i64 V, .int .i64 E, .slice A l.length ca, .int .i64 S, .int .i64 U], .agg #[.int .i64 V', .int .i64 E', .slice B m_.length cb, .int .i64 S', .int .i64 U']] w fun v w' => v = .bool (sameR V E S U (cores l) V' E' S' U' (cores m_)) ∧ Tch N0 w w' := by
 refine enter Try.func12 rfl rfl ?_
 refine zQ ?_
 refine st (by rfl) (S_new (v := .pointer (some ⟨w.heap.size, 0, none⟩)) (ob := .cells #[.int .i64 V, .int .i64 E, .slice A l.length ca, .int .i64 S, .int .i64 U] 25) (by kernel_rfl) fun w1 hT2 hs3 hB4 => ?_)
 replace hB4 : Blk w1 (w.heap.size) 25 [.int .i64 V, .int .i64 E, .slice A l.length ca, .int .i64 S, .int .i64 U] := hB4
 have hT0 := hT2
 have hz9 := hT0.size
 have lt10 := hB4.lt
 refine st (by rfl) (S_new (v := .pointer (some ⟨w1.heap.size, 0, none⟩)) (ob := .cells #[.int .i64 V', .int .i64 E', .slice B m_.length cb, .int .i64 S', .int .i64 U'] 25) (by kernel_rfl) fun w5 hT6 hs7 hB8 => ?_)
 replace hB8 : Blk w5 (w1.heap.size) 25 [.int .i64 V', .int .i64 E', .slice B m_.length cb, .int .i64 S', .int .i64 U'] := hB8
 have hT0 := hT0.t0 hT6
 have hB4 := hB4.tch0 hT6
 refine zS [(4, .bool false)] ?_
 refine op_nil ?_
 refine zQ ?_
 refine zS [(5, .pointer (some ⟨w.heap.size, 0, none⟩))] ?_
 refine zL (.int .i64 V) ((hB4.cell 0).trans rfl) ?_
 refine zS [(7, .pointer (some ⟨w1.heap.size, 0, none⟩))] ?_
 refine zL (.int .i64 V') ((hB8.cell 0).trans rfl) ?_
 refine zS [(9, .bool (V == V')), (10, .bool (V == V'))] ?_
 cases hb11 : V == V'
 ·
  replace hb11 : V ≠ V' := (ne_of_beq_false hb11)
  refine zS [(11, undef), (12, undef), (13, undef), (14, undef), (15, undef), (16, .bool false), (17, .bool false), (18, undef), (19, undef), (20, undef), (21, undef), (22, undef), (23, .bool false), (24, .bool false), (25, undef), (26, undef), (27, undef), (28, undef), (29, undef), (30, .bool false), (31, .bool false), (32, undef), (33, undef), (34, undef)] ?_
  refine zS [(35, undef), (36, undef), (37, .bool false), (4, .bool false)] ?_
  refine op_nil ?_
  refine W_ret ?_
  exact ⟨_, Res_of (v := .bool false) (by kernel_rfl), ⟨congrArg Value.bool (by unfold sameR; rw [decide_eq_false (by omega)]; rfl), hT0⟩⟩
 ·
  replace hb11 : V = V' := (eq_of_beq hb11)
  refine zS [(11, .pointer (some ⟨w.heap.size, 1, none⟩))] ?_
  refine zL (.int .i64 E) ((hB4.cell 1).trans rfl) ?_
  refine zS [(13, .pointer (some ⟨w1.heap.size, 1, none⟩))] ?_
  refine zL (.int .i64 E') ((hB8.cell 1).trans rfl) ?_
  refine zS [(15, .bool (E == E')), (16, .bool (E == E')), (17, .bool (E == E'))] ?_
  cases hb12 : E == E'
  ·
   replace hb12 : E ≠ E' := (ne_of_beq_false hb12)
   refine zS [(18, undef), (19, undef), (20, undef), (21, undef), (22, undef), (23, .bool false), (24, .bool false), (25, undef), (26, undef), (27, undef), (28, undef), (29, undef), (30, .bool false), (31, .bool false), (32, undef), (33, undef), (34, undef), (35, undef), (36, undef), (37, .bool false), (4, .bool false)] ?_
   refine op_nil ?_
   refine W_ret ?_
   exact ⟨_, Res_of (v := .bool false) (by kernel_rfl), ⟨congrArg Value.bool (by unfold sameR; rw [decide_eq_false (by omega)]; rfl), hT0⟩⟩
  ·
   replace hb12 : E = E' := (eq_of_beq hb12)
   refine zS [(18, .pointer (some ⟨w.heap.size, 3, none⟩))] ?_
   refine zL (.int .i64 S) ((hB4.cell 3).trans rfl) ?_
   refine zS [(20, .pointer (some ⟨w1.heap.size, 3, none⟩))] ?_
   refine zL (.int .i64 S') ((hB8.cell 3).trans rfl) ?_
   refine zS [(22, .bool (S == S')), (23, .bool (S == S')), (24, .bool (S == S'))] ?_
   cases hb13 : S == S'
   ·
    replace hb13 : S ≠ S' := (ne_of_beq_false hb13)
    refine zS [(25, undef), (26, undef), (27, undef), (28, undef), (29, undef), (30, .bool false), (31, .bool false), (32, undef), (33, undef), (34, undef), (35, undef), (36, undef), (37, .bool false), (4, .bool false)] ?_
    refine op_nil ?_
    refine W_ret ?_
    exact ⟨_, Res_of (v := .bool false) (by kernel_rfl), ⟨congrArg Value.bool (by unfold sameR; rw [decide_eq_false (by omega)]; rfl), hT0⟩⟩
   ·
    replace hb13 : S = S' := (eq_of_beq hb13)
    refine zS [(25, .pointer (some ⟨w.heap.size, 4, none⟩))] ?_
    refine zL (.int .i64 U) ((hB4.cell 4).trans rfl) ?_
    refine zS [(27, .pointer (some ⟨w1.heap.size, 4, none⟩))] ?_
    refine zL (.int .i64 U') ((hB8.cell 4).trans rfl) ?_
    refine zS [(29, .bool (U == U')), (30, .bool (U == U')), (31, .bool (U == U'))] ?_
    cases hb14 : U == U'
    ·
     replace hb14 : U ≠ U' := (ne_of_beq_false hb14)
     refine zS [(32, undef), (33, undef), (34, undef), (35, undef), (36, undef), (37, .bool false), (4, .bool false)] ?_
     refine op_nil ?_
     refine W_ret ?_
     exact ⟨_, Res_of (v := .bool false) (by kernel_rfl), ⟨congrArg Value.bool (by unfold sameR; rw [decide_eq_false (by omega)]; rfl), hT0⟩⟩
    ·
     replace hb14 : U = U' := (eq_of_beq hb14)
     refine zS [(32, .pointer (some ⟨w.heap.size, 2, none⟩))] ?_
     refine zL (.slice A l.length ca) ((hB4.cell 2).trans rfl) ?_
     refine zS [(34, .pointer (some ⟨w1.heap.size, 2, none⟩))] ?_
     refine zL (.slice B m_.length cb) ((hB8.cell 2).trans rfl) ?_
     refine zC (eqf_ok A B ca cb l m_ _ (hL.tch0 hT0) (hM.tch0 hT0)) ?_
     rintro _ w15 ⟨rfl, hT16⟩
     have hT0 := hT0.t0 hT16
     have hB4 := hB4.tch0 hT16
     have hB8 := hB8.tch0 hT16
     refine zS [(37, .bool (decide (cores l = cores m_))), (4, .bool (decide (cores l = cores m_)))] ?_
     refine op_nil ?_
     refine W_ret ?_
     exact ⟨_, Res_of (v := .bool (decide (cores l = cores m_))) (by kernel_rfl), ⟨congrArg Value.bool (by unfold sameR; rw [decide_eq_true (show V = V' ∧ E = E' ∧ S = S' ∧ U = U' by omega)]; rfl), hT0⟩⟩

set_option maxRecDepth 100000 in
theorem rsameR_ok (V E S U V' E' S' U' : Int) (A B : Option Addr) (ca cb : Nat) (l m_ : List T6) (w : World) (hL : TsW w A l) (hM : TsW w B m_) : Ret Try.prog 13 [.agg #[.int .i64 V, .int .i64 E, .slice A l.length ca, .int .i64 S, .int .i64 U], .agg #[.int .i64 V', .int .i64 E', .slice B m_.length cb, .int .i64 S', .int .i64 U']] w fun v w' => v = .bool (sameR V E S U (cores l) V' E' S' U' (cores m_)) ∧ Tch N0 w w' := by
 refine enter Try.func13 rfl rfl ?_
 refine zQ ?_
 refine st (by rfl) (S_new (v := .pointer (some ⟨w.heap.size, 0, none⟩)) (ob := .cells #[.int .i64 V, .int .i64 E, .slice A l.length ca, .int .i64 S, .int .i64 U] 25) (by kernel_rfl) fun w1 hT2 hs3 hB4 => ?_)
 replace hB4 : Blk w1 (w.heap.size) 25 [.int .i64 V, .int .i64 E, .slice A l.length ca, .int .i64 S, .int .i64 U] := hB4
 have hT0 := hT2
 have hz9 := hT0.size
 have lt10 := hB4.lt
 refine st (by rfl) (S_new (v := .pointer (some ⟨w1.heap.size, 0, none⟩)) (ob := .cells #[.int .i64 V', .int .i64 E', .slice B m_.length cb, .int .i64 S', .int .i64 U'] 25) (by kernel_rfl) fun w5 hT6 hs7 hB8 => ?_)
 replace hB8 : Blk w5 (w1.heap.size) 25 [.int .i64 V', .int .i64 E', .slice B m_.length cb, .int .i64 S', .int .i64 U'] := hB8
 have hT0 := hT0.t0 hT6
 have hB4 := hB4.tch0 hT6
 refine zS [(4, .bool false)] ?_
 refine op_nil ?_
 refine zQ ?_
 refine zS [(5, .pointer (some ⟨w.heap.size, 0, none⟩))] ?_
 refine zL (.int .i64 V) ((hB4.cell 0).trans rfl) ?_
 refine zS [(7, .pointer (some ⟨w1.heap.size, 0, none⟩))] ?_
 refine zL (.int .i64 V') ((hB8.cell 0).trans rfl) ?_
 refine zS [(9, .bool (V == V')), (10, .bool (V == V'))] ?_
 cases hb11 : V == V'
 ·
  replace hb11 : V ≠ V' := (ne_of_beq_false hb11)
  refine zS [(11, undef), (12, undef), (13, undef), (14, undef), (15, undef), (16, .bool false), (17, .bool false), (18, undef), (19, undef), (20, undef), (21, undef), (22, undef), (23, .bool false), (24, .bool false), (25, undef), (26, undef), (27, undef), (28, undef), (29, undef), (30, .bool false), (31, .bool false), (32, undef), (33, undef), (34, undef)] ?_
  refine zS [(35, undef), (36, undef), (37, .bool false), (4, .bool false)] ?_
  refine op_nil ?_
  refine W_ret ?_
  exact ⟨_, Res_of (v := .bool false) (by kernel_rfl), ⟨congrArg Value.bool (by unfold sameR; rw [decide_eq_false (by omega)]; rfl), hT0⟩⟩
 ·
  replace hb11 : V = V' := (eq_of_beq hb11)
  refine zS [(11, .pointer (some ⟨w.heap.size, 1, none⟩))] ?_
  refine zL (.int .i64 E) ((hB4.cell 1).trans rfl) ?_
  refine zS [(13, .pointer (some ⟨w1.heap.size, 1, none⟩))] ?_
  refine zL (.int .i64 E') ((hB8.cell 1).trans rfl) ?_
  refine zS [(15, .bool (E == E')), (16, .bool (E == E')), (17, .bool (E == E'))] ?_
  cases hb12 : E == E'
  ·
   replace hb12 : E ≠ E' := (ne_of_beq_false hb12)
   refine zS [(18, undef), (19, undef), (20, undef), (21, undef), (22, undef), (23, .bool false), (24, .bool false), (25, undef), (26, undef), (27, undef), (28, undef), (29, undef), (30, .bool false), (31, .bool false), (32, undef), (33, undef), (34, undef), (35, undef), (36, undef), (37, .bool false), (4, .bool false)] ?_
   refine op_nil ?_
   refine W_ret ?_
   exact ⟨_, Res_of (v := .bool false) (by kernel_rfl), ⟨congrArg Value.bool (by unfold sameR; rw [decide_eq_false (by omega)]; rfl), hT0⟩⟩
  ·
   replace hb12 : E = E' := (eq_of_beq hb12)
   refine zS [(18, .pointer (some ⟨w.heap.size, 3, none⟩))] ?_
   refine zL (.int .i64 S) ((hB4.cell 3).trans rfl) ?_
   refine zS [(20, .pointer (some ⟨w1.heap.size, 3, none⟩))] ?_
   refine zL (.int .i64 S') ((hB8.cell 3).trans rfl) ?_
   refine zS [(22, .bool (S == S')), (23, .bool (S == S')), (24, .bool (S == S'))] ?_
   cases hb13 : S == S'
   ·
    replace hb13 : S ≠ S' := (ne_of_beq_false hb13)
    refine zS [(25, undef), (26, undef), (27, undef), (28, undef), (29, undef), (30, .bool false), (31, .bool false), (32, undef), (33, undef), (34, undef), (35, undef), (36, undef), (37, .bool false), (4, .bool false)] ?_
    refine op_nil ?_
    refine W_ret ?_
    exact ⟨_, Res_of (v := .bool false) (by kernel_rfl), ⟨congrArg Value.bool (by unfold sameR; rw [decide_eq_false (by omega)]; rfl), hT0⟩⟩
   ·
    replace hb13 : S = S' := (eq_of_beq hb13)
    refine zS [(25, .pointer (some ⟨w.heap.size, 4, none⟩))] ?_
    refine zL (.int .i64 U) ((hB4.cell 4).trans rfl) ?_
    refine zS [(27, .pointer (some ⟨w1.heap.size, 4, none⟩))] ?_
    refine zL (.int .i64 U') ((hB8.cell 4).trans rfl) ?_
    refine zS [(29, .bool (U == U')), (30, .bool (U == U')), (31, .bool (U == U'))] ?_
    cases hb14 : U == U'
    ·
     replace hb14 : U ≠ U' := (ne_of_beq_false hb14)
     refine zS [(32, undef), (33, undef), (34, undef), (35, undef), (36, undef), (37, .bool false), (4, .bool false)] ?_
     refine op_nil ?_
     refine W_ret ?_
     exact ⟨_, Res_of (v := .bool false) (by kernel_rfl), ⟨congrArg Value.bool (by unfold sameR; rw [decide_eq_false (by omega)]; rfl), hT0⟩⟩
    ·
     replace hb14 : U = U' := (eq_of_beq hb14)
     refine zS [(32, .pointer (some ⟨w.heap.size, 2, none⟩))] ?_
     refine zL (.slice A l.length ca) ((hB4.cell 2).trans rfl) ?_
     refine zS [(34, .pointer (some ⟨w1.heap.size, 2, none⟩))] ?_
     refine zL (.slice B m_.length cb) ((hB8.cell 2).trans rfl) ?_
     refine zC (allsame_ok A B ca cb l m_ _ (hL.tch0 hT0) (hM.tch0 hT0)) ?_
     rintro _ w15 ⟨rfl, hT16⟩
     have hT0 := hT0.t0 hT16
     have hB4 := hB4.tch0 hT16
     have hB8 := hB8.tch0 hT16
     refine zS [(37, .bool (decide (cores l = cores m_))), (4, .bool (decide (cores l = cores m_)))] ?_
     refine op_nil ?_
     refine W_ret ?_
     exact ⟨_, Res_of (v := .bool (decide (cores l = cores m_))) (by kernel_rfl), ⟨congrArg Value.bool (by unfold sameR; rw [decide_eq_true (show V = V' ∧ E = E' ∧ S = S' ∧ U = U' by omega)]; rfl), hT0⟩⟩

end Go.Proofs.YtlkjhkennbdbnaaV
