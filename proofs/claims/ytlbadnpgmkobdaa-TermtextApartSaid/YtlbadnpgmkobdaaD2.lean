/- Walks of functions of the program and of the document's texts. The conditions stand with each theorem. -/
import Derived.Test.YtlbadnpgmkobdaaJTterm4x1
import Derived.Test.YtlbadnpgmkobdaaJTterm4x1
import Derived.Test.YtlbadnpgmkobdaaProg
import Derived.Test.YtlbadnpgmkobdaaJTterm4x4
set_option linter.unusedVariables false
set_option linter.unusedSimpArgs false
namespace Go.Proofs.YtlbadnpgmkobdaaV
open Go Go.RowKit Go.Proofs

set_option maxRecDepth 100000 in
theorem runa_ok (A : Option Addr) (cp : Nat) (most : Int) (N : List Nd) (o : Int) (a : Int) (w : World) (hD : Own w 0 32 6 (.slice A N.length cp) N.length (ncs N)) (hJ : TJ N most) (ho : b64 o) (ha : b64 a) : Ret Try.prog 61 [.agg #[.slice A N.length cp, .int .i64 most], .int .i64 o, .int .i64 a] w fun v w' => DRet A cp most N w (unaF N most o a) v w' := by
 have hlen := hJ.ti.len
 have hmost := hJ.ti.most
 have hu_o := ho; unfold b64 at hu_o
 have hu_a := ha; unfold b64 at hu_a
 refine enter Try.func61 rfl rfl ?_
 refine zQ ?_
 refine st (by rfl) (S_new (v := .pointer (some ⟨w.heap.size, 0, none⟩)) (ob := .cells #[.slice A N.length cp, .int .i64 most] 27) (by kernel_rfl) fun w1 hT2 hs3 hB4 => ?_)
 replace hB4 : Blk w1 (w.heap.size) 27 [.slice A N.length cp, .int .i64 most] := hB4
 have hT0 := hT2
 have hD := hD.tch0 hT2
 have z9 := hT0.size
 have l10 := hB4.lt
 refine st (by rfl) (S_new (v := .pointer (some ⟨w1.heap.size, 0, none⟩)) (ob := .cells #[.slice none 0 0, .int .i64 0] 27) (by kernel_rfl) fun w5 hT6 hs7 hB8 => ?_)
 replace hB8 : Blk w5 (w1.heap.size) 27 [.slice none 0 0, .int .i64 0] := hB8
 have hT0 := hT0.t0 hT6
 have hD := hD.tch0 hT6
 have hB4 := hB4.tch0 hT6
 refine zS [(7, .int .i64 0), (8, .int .i64 0)] ?_
 refine op_nil ?_
 refine W_seq ?_
 refine zQ ?_
 refine zS [(9, .int .i64 o), (10, .bool (o != 15)), (11, .bool (o != 15))] ?_
 cases hb11 : o != 15
 ·
  replace hb11 : o = 15 := (bne_eq_false_iff_eq.1 hb11)
  refine zS [(12, undef), (13, undef), (14, .bool false)] ?_
  refine zO false (fun h => nomatch h) (fun _ => ?_)
  refine W_skip ?_
  refine W_seq ?_
  refine W_seq ?_
  refine zF [(0, .agg #[.slice A N.length cp, .int .i64 most]), (1, .int .i64 o), (2, .int .i64 a), (3, .pointer (some ⟨w.heap.size, 0, none⟩)), (6, .pointer (some ⟨w1.heap.size, 0, none⟩)), (7, .int .i64 0), (8, .int .i64 0), (14, .bool false)] fun ρ => ?_
  refine zR ?_
  refine st (by rfl) (S_val (v := .agg #[.slice A N.length cp, .int .i64 most]) (R_loadA [.slice A N.length cp, .int .i64 most] (by kernel_rfl) (by kernel_rfl) (by kernel_rfl) (fun k u hk => by rw [hB4.cell]; exact get_part _ 0 _ k u rfl hk)) ?_)
  refine zS [(17, .int .i64 a)] ?_
  refine zC (ris_ok A cp most N a _ hD) ?_
  rintro _ w12 ⟨rfl, hT13⟩
  have hT0 := hT0.t0 hT13
  have hD := hD.tch0 hT13
  have hB4 := hB4.tch0 hT13
  have hB8 := hB8.tch0 hT13
  refine zS [(19, .bool (!(isT N a)))] ?_
  refine zO (!(isT N a)) (fun hc14 => ?_) (fun hc14 => ?_)
  ·
   replace hc14 : ¬ (0 ≤ a ∧ a < (N.length : Int)) := (of_decide_eq_false (not_t hc14))
   refine zQ ?_
   refine st (by rfl) (S_val (v := .agg #[.slice A N.length cp, .int .i64 most]) (R_loadA [.slice A N.length cp, .int .i64 most] (by kernel_rfl) (by kernel_rfl) (by kernel_rfl) (fun k u hk => by rw [hB4.cell]; exact get_part _ 0 _ k u rfl hk)) ?_)
   refine st (by rfl) (S_storeA (b := w1.heap.size) (j := 0) (cs := [.slice A N.length cp, .int .i64 most]) (by kernel_rfl) (by kernel_rfl) (by kernel_rfl) (by simp [oneV]) hB8 (by simp) fun w15 hT16 hs17 hB8' => ?_)
   have hT0 := (hT0).then hT16 (fun c e => by have : c = w1.heap.size := e; omega)
   have hD := hD.tch hT16 (fun c hc e => hD.blk_ne hB8 (by decide) c hc e)
   have hB4 := hB4.tch hT16 (fun e => by have : w.heap.size = w1.heap.size := e; omega)
   replace hB8 : Blk w15 w1.heap.size 27 [.slice A N.length cp, .int .i64 most] := hB8'
   refine zS [(7, .int .i64 0), (8, .int .i64 11)] ?_
   refine op_nil ?_
   refine W_ret ?_
   refine ⟨_, Res_cell2 (b := w1.heap.size) (cs := [.slice A N.length cp, .int .i64 most]) (by rfl) (by kernel_rfl) (by kernel_rfl) (by kernel_rfl) (by kernel_rfl) hB8 (by kernel_rfl) (by kernel_rfl), ?_⟩
   have e : unaF N most o a = (0, 11, N) := by unfold unaF; rw [if_neg (by first | omega | assumption | exact bad1.2 (by omega) | exact bad2.2 (by omega) | exact bad3.2 (by omega) | exact nb (bad1f.2 (by omega)) | exact nb (bad2f.2 (by omega)) | exact nb (bad3f.2 (by omega))), if_pos (by first | omega | assumption | exact bad1.2 (by omega) | exact bad2.2 (by omega) | exact bad3.2 (by omega) | exact nb (bad1f.2 (by omega)) | exact nb (bad2f.2 (by omega)) | exact nb (bad3f.2 (by omega)))]
   rw [e]
   exact ⟨A, cp, rfl, hD, fun c h => .inl h, hT0⟩
  ·
   replace hc14 : 0 ≤ a ∧ a < (N.length : Int) := (of_decide_eq_true (not_f hc14))
   refine W_skip ?_
   refine W_seq ?_
   have wd_a := hJ.wid (x := a) (by omega) (by omega)
   refine W_draw (fun w' => Blk w' (w.heap.size) 27 [.slice A N.length cp, .int .i64 most]) (by kernel_rfl) (by kernel_rfl) (by kernel_rfl) fun w18 hT19 hh20 => ?_
   have hT0 := hT0.t0 hT19
   have hD := hD.tch0 hT19
   have hB4 := hB4.tch0 hT19
   have hB8 := hB8.tch0 hT19
   refine zK [1, 3, 5] #[false, true, false, true, false, true, false, false, false, false, false, false, false, false] [(22, .int .i64 o), (24, .int .i64 a), (26, .int .i64 a)] hB4 ?_
   refine zV 0 rfl (.agg #[.slice A N.length cp, .int .i64 most]) (fun _ hB4 => R_loadA [.slice A N.length cp, .int .i64 most] (by kernel_rfl) (by kernel_rfl) (by kernel_rfl) (fun k u hk => by rw [hB4.cell]; exact get_part _ 0 _ k u rfl hk)) hB4 ?_
   refine zV 2 rfl (.agg #[.slice A N.length cp, .int .i64 most]) (fun _ hB4 => R_loadA [.slice A N.length cp, .int .i64 most] (by kernel_rfl) (by kernel_rfl) (by kernel_rfl) (fun k u hk => by rw [hB4.cell]; exact get_part _ 0 _ k u rfl hk)) hB4 ?_
   refine zD 4 rfl (S_call (args := [.agg #[.slice A N.length cp, .int .i64 most], .int .i64 a]) (by kernel_rfl) (rwid_ok A cp most N a _ hD) ?_)
   rintro _ w21 ⟨rfl, hT22⟩
   have hT0 := hT0.t0 hT22
   have hD := hD.tch0 hT22
   have hB4 := hB4.tch0 hT22
   have hB8 := hB8.tch0 hT22
   refine ⟨hB4, ?_⟩
   refine zK [6] #[true, true, true, true, true, true, true, false, false, false, false, false, false, false] [(27, .agg #[.int .i64 o, .int .i64 (widF N a), .int .i64 a, .int .i64 0, .int .i64 0, .int .u64 0])] hB4 ?_
   have hzr := hT0.size
   have hwf : nwf (o, widF N a, a, 0, 0, 0) := nwf_of (by unfold b64 at *; omega) (by unfold b64 at *; omega) (by unfold b64 at *; omega) (by unfold b64 at *; omega) (by unfold b64 at *; omega) (by unfold u64; omega)
   refine zD 7 rfl (S_call (args := [.agg #[.slice A N.length cp, .int .i64 most], .agg #[.int .i64 o, .int .i64 (widF N a), .int .i64 a, .int .i64 0, .int .i64 0, .int .u64 0]]) (by kernel_rfl) (rmade_ok A cp most N (o, widF N a, a, 0, 0, 0) _ hD hJ.ti hwf) ?_)
   rintro _ w23 ⟨A24, cp25, rfl, hD28, hw26, hT27⟩
   have hT0 := hT0.t0 hT27
   have hD := hD.tch0 hT27
   have hB4 := hB4.tch0 hT27
   have hB8 := hB8.tch0 hT27
   refine ⟨hB4, ?_⟩
   refine zK [8, 9, 10] #[true, true, true, true, true, true, true, true, true, true, true, false, false, false] [(29, .agg #[.slice A24 ((mk N most (o, widF N a, a, 0, 0, 0)).2.2.length) cp25, .int .i64 most]), (30, .int .i64 ((mk N most (o, widF N a, a, 0, 0, 0)).1)), (31, .int .i64 ((mk N most (o, widF N a, a, 0, 0, 0)).2.1))] hB4 ?_
   refine zD 11 rfl (S_storeA (b := w1.heap.size) (j := 0) (cs := [.slice A24 ((mk N most (o, widF N a, a, 0, 0, 0)).2.2.length) cp25, .int .i64 most]) (by kernel_rfl) (by kernel_rfl) (by kernel_rfl) (by simp [oneV]) hB8 (by simp) fun w29 hT30 hs31 hB8' => ?_)
   have hT0 := (hT0).then hT30 (fun c e => by have : c = w1.heap.size := e; omega)
   have hD := hD.tch hT30 (fun c hc e => hD.blk_ne hB8 (by decide) c hc e)
   have hB4 := hB4.tch hT30 (fun e => by have : w.heap.size = w1.heap.size := e; omega)
   have hD28 := hD28.tch hT30 (fun c hc e => hD28.blk_ne hB8 (by decide) c hc e)
   replace hB8 : Blk w29 w1.heap.size 27 [.slice A24 ((mk N most (o, widF N a, a, 0, 0, 0)).2.2.length) cp25, .int .i64 most] := hB8'
   refine ⟨hB4, ?_⟩
   refine zK [12, 13] #[true, true, true, true, true, true, true, true, true, true, true, true, true, true] [(7, .int .i64 ((mk N most (o, widF N a, a, 0, 0, 0)).1)), (8, .int .i64 ((mk N most (o, widF N a, a, 0, 0, 0)).2.1))] hB4 ?_
   refine d_done (by kernel_rfl) ?_
   refine W_ret ?_
   refine ⟨_, Res_cell2 (b := w1.heap.size) (cs := [.slice A24 ((mk N most (o, widF N a, a, 0, 0, 0)).2.2.length) cp25, .int .i64 most]) (by rfl) (by kernel_rfl) (by kernel_rfl) (by kernel_rfl) (by kernel_rfl) hB8 (by kernel_rfl) (by kernel_rfl), ?_⟩
   have e : unaF N most o a = mk N most (o, widF N a, a, 0, 0, 0) := by unfold unaF; rw [if_neg (by first | omega | assumption | exact bad1.2 (by omega) | exact bad2.2 (by omega) | exact bad3.2 (by omega) | exact nb (bad1f.2 (by omega)) | exact nb (bad2f.2 (by omega)) | exact nb (bad3f.2 (by omega))), if_neg (by first | omega | assumption | exact bad1.2 (by omega) | exact bad2.2 (by omega) | exact bad3.2 (by omega) | exact nb (bad1f.2 (by omega)) | exact nb (bad2f.2 (by omega)) | exact nb (bad3f.2 (by omega)))]
   rw [e]
   exact ⟨A24, cp25, rfl, hD28, fun c h => (hw26 c h).imp id (fun q => Nat.le_trans hzr q), hT0⟩
 ·
  replace hb11 : o ≠ 15 := (bne_iff_ne.1 hb11)
  refine zS [(12, .int .i64 o), (13, .bool (o != 16)), (14, .bool (o != 16))] ?_
  refine zO (o != 16) (fun hc32 => ?_) (fun hc32 => ?_)
  ·
   replace hc32 : o ≠ 16 := (bne_iff_ne.1 hc32)
   refine W_seq ?_
   refine zF [(0, .agg #[.slice A N.length cp, .int .i64 most]), (1, .int .i64 o), (2, .int .i64 a), (3, .pointer (some ⟨w.heap.size, 0, none⟩)), (6, .pointer (some ⟨w1.heap.size, 0, none⟩)), (7, .int .i64 0), (8, .int .i64 0), (14, .bool (o != 16))] fun ρ => ?_
   refine zR ?_
   refine st (by rfl) (S_val (v := .agg #[.slice A N.length cp, .int .i64 most]) (R_loadA [.slice A N.length cp, .int .i64 most] (by kernel_rfl) (by kernel_rfl) (by kernel_rfl) (fun k u hk => by rw [hB4.cell]; exact get_part _ 0 _ k u rfl hk)) ?_)
   refine st (by rfl) (S_storeA (b := w1.heap.size) (j := 0) (cs := [.slice A N.length cp, .int .i64 most]) (by kernel_rfl) (by kernel_rfl) (by kernel_rfl) (by simp [oneV]) hB8 (by simp) fun w33 hT34 hs35 hB8' => ?_)
   have hT0 := (hT0).then hT34 (fun c e => by have : c = w1.heap.size := e; omega)
   have hD := hD.tch hT34 (fun c hc e => hD.blk_ne hB8 (by decide) c hc e)
   have hB4 := hB4.tch hT34 (fun e => by have : w.heap.size = w1.heap.size := e; omega)
   replace hB8 : Blk w33 w1.heap.size 27 [.slice A N.length cp, .int .i64 most] := hB8'
   refine zS [(7, .int .i64 0), (8, .int .i64 3)] ?_
   refine op_nil ?_
   refine W_ret ?_
   refine ⟨_, Res_cell2 (b := w1.heap.size) (cs := [.slice A N.length cp, .int .i64 most]) (by rfl) (by kernel_rfl) (by kernel_rfl) (by kernel_rfl) (by kernel_rfl) hB8 (by kernel_rfl) (by kernel_rfl), ?_⟩
   have e : unaF N most o a = (0, 3, N) := by unfold unaF; rw [if_pos (by first | omega | assumption | exact bad1.2 (by omega) | exact bad2.2 (by omega) | exact bad3.2 (by omega) | exact nb (bad1f.2 (by omega)) | exact nb (bad2f.2 (by omega)) | exact nb (bad3f.2 (by omega)))]
   rw [e]
   exact ⟨A, cp, rfl, hD, fun c h => .inl h, hT0⟩
  ·
   replace hc32 : o = 16 := (bne_eq_false_iff_eq.1 hc32)
   refine W_skip ?_
   refine W_seq ?_
   refine W_seq ?_
   refine zF [(0, .agg #[.slice A N.length cp, .int .i64 most]), (1, .int .i64 o), (2, .int .i64 a), (3, .pointer (some ⟨w.heap.size, 0, none⟩)), (6, .pointer (some ⟨w1.heap.size, 0, none⟩)), (7, .int .i64 0), (8, .int .i64 0), (14, .bool (o != 16))] fun ρ => ?_
   refine zR ?_
   refine st (by rfl) (S_val (v := .agg #[.slice A N.length cp, .int .i64 most]) (R_loadA [.slice A N.length cp, .int .i64 most] (by kernel_rfl) (by kernel_rfl) (by kernel_rfl) (fun k u hk => by rw [hB4.cell]; exact get_part _ 0 _ k u rfl hk)) ?_)
   refine zS [(17, .int .i64 a)] ?_
   refine zC (ris_ok A cp most N a _ hD) ?_
   rintro _ w36 ⟨rfl, hT37⟩
   have hT0 := hT0.t0 hT37
   have hD := hD.tch0 hT37
   have hB4 := hB4.tch0 hT37
   have hB8 := hB8.tch0 hT37
   refine zS [(19, .bool (!(isT N a)))] ?_
   refine zO (!(isT N a)) (fun hc38 => ?_) (fun hc38 => ?_)
   ·
    replace hc38 : ¬ (0 ≤ a ∧ a < (N.length : Int)) := (of_decide_eq_false (not_t hc38))
    refine zQ ?_
    refine st (by rfl) (S_val (v := .agg #[.slice A N.length cp, .int .i64 most]) (R_loadA [.slice A N.length cp, .int .i64 most] (by kernel_rfl) (by kernel_rfl) (by kernel_rfl) (fun k u hk => by rw [hB4.cell]; exact get_part _ 0 _ k u rfl hk)) ?_)
    refine st (by rfl) (S_storeA (b := w1.heap.size) (j := 0) (cs := [.slice A N.length cp, .int .i64 most]) (by kernel_rfl) (by kernel_rfl) (by kernel_rfl) (by simp [oneV]) hB8 (by simp) fun w39 hT40 hs41 hB8' => ?_)
    have hT0 := (hT0).then hT40 (fun c e => by have : c = w1.heap.size := e; omega)
    have hD := hD.tch hT40 (fun c hc e => hD.blk_ne hB8 (by decide) c hc e)
    have hB4 := hB4.tch hT40 (fun e => by have : w.heap.size = w1.heap.size := e; omega)
    replace hB8 : Blk w39 w1.heap.size 27 [.slice A N.length cp, .int .i64 most] := hB8'
    refine zS [(7, .int .i64 0), (8, .int .i64 11)] ?_
    refine op_nil ?_
    refine W_ret ?_
    refine ⟨_, Res_cell2 (b := w1.heap.size) (cs := [.slice A N.length cp, .int .i64 most]) (by rfl) (by kernel_rfl) (by kernel_rfl) (by kernel_rfl) (by kernel_rfl) hB8 (by kernel_rfl) (by kernel_rfl), ?_⟩
    have e : unaF N most o a = (0, 11, N) := by unfold unaF; rw [if_neg (by first | omega | assumption | exact bad1.2 (by omega) | exact bad2.2 (by omega) | exact bad3.2 (by omega) | exact nb (bad1f.2 (by omega)) | exact nb (bad2f.2 (by omega)) | exact nb (bad3f.2 (by omega))), if_pos (by first | omega | assumption | exact bad1.2 (by omega) | exact bad2.2 (by omega) | exact bad3.2 (by omega) | exact nb (bad1f.2 (by omega)) | exact nb (bad2f.2 (by omega)) | exact nb (bad3f.2 (by omega)))]
    rw [e]
    exact ⟨A, cp, rfl, hD, fun c h => .inl h, hT0⟩
   ·
    replace hc38 : 0 ≤ a ∧ a < (N.length : Int) := (of_decide_eq_true (not_f hc38))
    refine W_skip ?_
    refine W_seq ?_
    have wd_a := hJ.wid (x := a) (by omega) (by omega)
    refine W_draw (fun w' => Blk w' (w.heap.size) 27 [.slice A N.length cp, .int .i64 most]) (by kernel_rfl) (by kernel_rfl) (by kernel_rfl) fun w42 hT43 hh44 => ?_
    have hT0 := hT0.t0 hT43
    have hD := hD.tch0 hT43
    have hB4 := hB4.tch0 hT43
    have hB8 := hB8.tch0 hT43
    refine zK [1, 3, 5] #[false, true, false, true, false, true, false, false, false, false, false, false, false, false] [(22, .int .i64 o), (24, .int .i64 a), (26, .int .i64 a)] hB4 ?_
    refine zV 0 rfl (.agg #[.slice A N.length cp, .int .i64 most]) (fun _ hB4 => R_loadA [.slice A N.length cp, .int .i64 most] (by kernel_rfl) (by kernel_rfl) (by kernel_rfl) (fun k u hk => by rw [hB4.cell]; exact get_part _ 0 _ k u rfl hk)) hB4 ?_
    refine zV 2 rfl (.agg #[.slice A N.length cp, .int .i64 most]) (fun _ hB4 => R_loadA [.slice A N.length cp, .int .i64 most] (by kernel_rfl) (by kernel_rfl) (by kernel_rfl) (fun k u hk => by rw [hB4.cell]; exact get_part _ 0 _ k u rfl hk)) hB4 ?_
    refine zD 4 rfl (S_call (args := [.agg #[.slice A N.length cp, .int .i64 most], .int .i64 a]) (by kernel_rfl) (rwid_ok A cp most N a _ hD) ?_)
    rintro _ w45 ⟨rfl, hT46⟩
    have hT0 := hT0.t0 hT46
    have hD := hD.tch0 hT46
    have hB4 := hB4.tch0 hT46
    have hB8 := hB8.tch0 hT46
    refine ⟨hB4, ?_⟩
    refine zK [6] #[true, true, true, true, true, true, true, false, false, false, false, false, false, false] [(27, .agg #[.int .i64 o, .int .i64 (widF N a), .int .i64 a, .int .i64 0, .int .i64 0, .int .u64 0])] hB4 ?_
    have hzr := hT0.size
    have hwf : nwf (o, widF N a, a, 0, 0, 0) := nwf_of (by unfold b64 at *; omega) (by unfold b64 at *; omega) (by unfold b64 at *; omega) (by unfold b64 at *; omega) (by unfold b64 at *; omega) (by unfold u64; omega)
    refine zD 7 rfl (S_call (args := [.agg #[.slice A N.length cp, .int .i64 most], .agg #[.int .i64 o, .int .i64 (widF N a), .int .i64 a, .int .i64 0, .int .i64 0, .int .u64 0]]) (by kernel_rfl) (rmade_ok A cp most N (o, widF N a, a, 0, 0, 0) _ hD hJ.ti hwf) ?_)
    rintro _ w47 ⟨A48, cp49, rfl, hD52, hw50, hT51⟩
    have hT0 := hT0.t0 hT51
    have hD := hD.tch0 hT51
    have hB4 := hB4.tch0 hT51
    have hB8 := hB8.tch0 hT51
    refine ⟨hB4, ?_⟩
    refine zK [8, 9, 10] #[true, true, true, true, true, true, true, true, true, true, true, false, false, false] [(29, .agg #[.slice A48 ((mk N most (o, widF N a, a, 0, 0, 0)).2.2.length) cp49, .int .i64 most]), (30, .int .i64 ((mk N most (o, widF N a, a, 0, 0, 0)).1)), (31, .int .i64 ((mk N most (o, widF N a, a, 0, 0, 0)).2.1))] hB4 ?_
    refine zD 11 rfl (S_storeA (b := w1.heap.size) (j := 0) (cs := [.slice A48 ((mk N most (o, widF N a, a, 0, 0, 0)).2.2.length) cp49, .int .i64 most]) (by kernel_rfl) (by kernel_rfl) (by kernel_rfl) (by simp [oneV]) hB8 (by simp) fun w53 hT54 hs55 hB8' => ?_)
    have hT0 := (hT0).then hT54 (fun c e => by have : c = w1.heap.size := e; omega)
    have hD := hD.tch hT54 (fun c hc e => hD.blk_ne hB8 (by decide) c hc e)
    have hB4 := hB4.tch hT54 (fun e => by have : w.heap.size = w1.heap.size := e; omega)
    have hD52 := hD52.tch hT54 (fun c hc e => hD52.blk_ne hB8 (by decide) c hc e)
    replace hB8 : Blk w53 w1.heap.size 27 [.slice A48 ((mk N most (o, widF N a, a, 0, 0, 0)).2.2.length) cp49, .int .i64 most] := hB8'
    refine ⟨hB4, ?_⟩
    refine zK [12, 13] #[true, true, true, true, true, true, true, true, true, true, true, true, true, true] [(7, .int .i64 ((mk N most (o, widF N a, a, 0, 0, 0)).1)), (8, .int .i64 ((mk N most (o, widF N a, a, 0, 0, 0)).2.1))] hB4 ?_
    refine d_done (by kernel_rfl) ?_
    refine W_ret ?_
    refine ⟨_, Res_cell2 (b := w1.heap.size) (cs := [.slice A48 ((mk N most (o, widF N a, a, 0, 0, 0)).2.2.length) cp49, .int .i64 most]) (by rfl) (by kernel_rfl) (by kernel_rfl) (by kernel_rfl) (by kernel_rfl) hB8 (by kernel_rfl) (by kernel_rfl), ?_⟩
    have e : unaF N most o a = mk N most (o, widF N a, a, 0, 0, 0) := by unfold unaF; rw [if_neg (by first | omega | assumption | exact bad1.2 (by omega) | exact bad2.2 (by omega) | exact bad3.2 (by omega) | exact nb (bad1f.2 (by omega)) | exact nb (bad2f.2 (by omega)) | exact nb (bad3f.2 (by omega))), if_neg (by first | omega | assumption | exact bad1.2 (by omega) | exact bad2.2 (by omega) | exact bad3.2 (by omega) | exact nb (bad1f.2 (by omega)) | exact nb (bad2f.2 (by omega)) | exact nb (bad3f.2 (by omega)))]
    rw [e]
    exact ⟨A48, cp49, rfl, hD52, fun c h => (hw50 c h).imp id (fun q => Nat.le_trans hzr q), hT0⟩

set_option maxRecDepth 100000 in
theorem rbin_ok (A : Option Addr) (cp : Nat) (most : Int) (N : List Nd) (o : Int) (a : Int) (b : Int) (w : World) (hD : Own w 0 32 6 (.slice A N.length cp) N.length (ncs N)) (hJ : TJ N most) (ho : b64 o) (ha : b64 a) (hb : b64 b) : Ret Try.prog 62 [.agg #[.slice A N.length cp, .int .i64 most], .int .i64 o, .int .i64 a, .int .i64 b] w fun v w' => DRet A cp most N w (binF N most o a b) v w' := by
 have hlen := hJ.ti.len
 have hmost := hJ.ti.most
 have hu_o := ho; unfold b64 at hu_o
 have hu_a := ha; unfold b64 at hu_a
 have hu_b := hb; unfold b64 at hu_b
 refine enter Try.func62 rfl rfl ?_
 refine zQ ?_
 refine st (by rfl) (S_new (v := .pointer (some ⟨w.heap.size, 0, none⟩)) (ob := .cells #[.slice A N.length cp, .int .i64 most] 27) (by kernel_rfl) fun w1 hT2 hs3 hB4 => ?_)
 replace hB4 : Blk w1 (w.heap.size) 27 [.slice A N.length cp, .int .i64 most] := hB4
 have hT0 := hT2
 have hD := hD.tch0 hT2
 have z9 := hT0.size
 have l10 := hB4.lt
 refine st (by rfl) (S_new (v := .pointer (some ⟨w1.heap.size, 0, none⟩)) (ob := .cells #[.slice none 0 0, .int .i64 0] 27) (by kernel_rfl) fun w5 hT6 hs7 hB8 => ?_)
 replace hB8 : Blk w5 (w1.heap.size) 27 [.slice none 0 0, .int .i64 0] := hB8
 have hT0 := hT0.t0 hT6
 have hD := hD.tch0 hT6
 have hB4 := hB4.tch0 hT6
 refine zS [(9, .int .i64 0), (10, .int .i64 0)] ?_
 refine op_nil ?_
 refine W_seq ?_
 refine zQ ?_
 refine zS [(12, .int .i64 o), (13, .bool (decide (o < 1))), (14, .bool (decide (o < 1)))] ?_
 cases hb11 : decide (o < 1)
 ·
  replace hb11 : 1 ≤ o := (Int.not_lt.1 (of_decide_eq_false hb11))
  refine zS [(15, .int .i64 o), (16, .bool (decide (o > 14))), (17, .bool (decide (o > 14)))] ?_
  refine zO (decide (o > 14)) (fun hc12 => ?_) (fun hc12 => ?_)
  ·
   replace hc12 : 14 < o := (of_decide_eq_true hc12)
   refine W_seq ?_
   refine zF [(0, .agg #[.slice A N.length cp, .int .i64 most]), (1, .int .i64 o), (2, .int .i64 a), (3, .int .i64 b), (4, .pointer (some ⟨w.heap.size, 0, none⟩)), (8, .pointer (some ⟨w1.heap.size, 0, none⟩)), (9, .int .i64 0), (10, .int .i64 0), (17, .bool (decide (o > 14)))] fun ρ => ?_
   refine zR ?_
   refine st (by rfl) (S_val (v := .agg #[.slice A N.length cp, .int .i64 most]) (R_loadA [.slice A N.length cp, .int .i64 most] (by kernel_rfl) (by kernel_rfl) (by kernel_rfl) (fun k u hk => by rw [hB4.cell]; exact get_part _ 0 _ k u rfl hk)) ?_)
   refine st (by rfl) (S_storeA (b := w1.heap.size) (j := 0) (cs := [.slice A N.length cp, .int .i64 most]) (by kernel_rfl) (by kernel_rfl) (by kernel_rfl) (by simp [oneV]) hB8 (by simp) fun w13 hT14 hs15 hB8' => ?_)
   have hT0 := (hT0).then hT14 (fun c e => by have : c = w1.heap.size := e; omega)
   have hD := hD.tch hT14 (fun c hc e => hD.blk_ne hB8 (by decide) c hc e)
   have hB4 := hB4.tch hT14 (fun e => by have : w.heap.size = w1.heap.size := e; omega)
   replace hB8 : Blk w13 w1.heap.size 27 [.slice A N.length cp, .int .i64 most] := hB8'
   refine zS [(9, .int .i64 0), (10, .int .i64 3)] ?_
   refine op_nil ?_
   refine W_ret ?_
   refine ⟨_, Res_cell2 (b := w1.heap.size) (cs := [.slice A N.length cp, .int .i64 most]) (by rfl) (by kernel_rfl) (by kernel_rfl) (by kernel_rfl) (by kernel_rfl) hB8 (by kernel_rfl) (by kernel_rfl), ?_⟩
   have e : binF N most o a b = (0, 3, N) := by unfold binF; rw [if_pos (by first | omega | assumption | exact bad1.2 (by omega) | exact bad2.2 (by omega) | exact bad3.2 (by omega) | exact nb (bad1f.2 (by omega)) | exact nb (bad2f.2 (by omega)) | exact nb (bad3f.2 (by omega)))]
   rw [e]
   exact ⟨A, cp, rfl, hD, fun c h => .inl h, hT0⟩
  ·
   replace hc12 : o ≤ 14 := (Int.not_lt.1 (of_decide_eq_false hc12))
   refine W_skip ?_
   refine W_seq ?_
   refine W_seq ?_
   refine zF [(0, .agg #[.slice A N.length cp, .int .i64 most]), (1, .int .i64 o), (2, .int .i64 a), (3, .int .i64 b), (4, .pointer (some ⟨w.heap.size, 0, none⟩)), (8, .pointer (some ⟨w1.heap.size, 0, none⟩)), (9, .int .i64 0), (10, .int .i64 0), (17, .bool (decide (o > 14)))] fun ρ => ?_
   refine zR ?_
   refine st (by rfl) (S_val (v := .agg #[.slice A N.length cp, .int .i64 most]) (R_loadA [.slice A N.length cp, .int .i64 most] (by kernel_rfl) (by kernel_rfl) (by kernel_rfl) (fun k u hk => by rw [hB4.cell]; exact get_part _ 0 _ k u rfl hk)) ?_)
   refine zS [(20, .int .i64 a)] ?_
   refine zC (ris_ok A cp most N a _ hD) ?_
   rintro _ w16 ⟨rfl, hT17⟩
   have hT0 := hT0.t0 hT17
   have hD := hD.tch0 hT17
   have hB4 := hB4.tch0 hT17
   have hB8 := hB8.tch0 hT17
   refine zS [(22, .bool (!(isT N a))), (23, .bool (!(isT N a)))] ?_
   cases hb18 : isT N a
   ·
    replace hb18 : ¬ (0 ≤ a ∧ a < (N.length : Int)) := (of_decide_eq_false hb18)
    refine zS [(24, undef), (25, undef), (26, undef), (27, undef), (28, .bool true)] ?_
    refine zO true (fun _ => ?_) (fun h => nomatch h)
    refine W_seq ?_
    refine zF [(0, .agg #[.slice A N.length cp, .int .i64 most]), (1, .int .i64 o), (2, .int .i64 a), (3, .int .i64 b), (4, .pointer (some ⟨w.heap.size, 0, none⟩)), (8, .pointer (some ⟨w1.heap.size, 0, none⟩)), (9, .int .i64 0), (10, .int .i64 0), (17, .bool (decide (o > 14))), (28, .bool true)] fun ρ => ?_
    refine zR ?_
    refine st (by rfl) (S_val (v := .agg #[.slice A N.length cp, .int .i64 most]) (R_loadA [.slice A N.length cp, .int .i64 most] (by kernel_rfl) (by kernel_rfl) (by kernel_rfl) (fun k u hk => by rw [hB4.cell]; exact get_part _ 0 _ k u rfl hk)) ?_)
    refine st (by rfl) (S_storeA (b := w1.heap.size) (j := 0) (cs := [.slice A N.length cp, .int .i64 most]) (by kernel_rfl) (by kernel_rfl) (by kernel_rfl) (by simp [oneV]) hB8 (by simp) fun w19 hT20 hs21 hB8' => ?_)
    have hT0 := (hT0).then hT20 (fun c e => by have : c = w1.heap.size := e; omega)
    have hD := hD.tch hT20 (fun c hc e => hD.blk_ne hB8 (by decide) c hc e)
    have hB4 := hB4.tch hT20 (fun e => by have : w.heap.size = w1.heap.size := e; omega)
    replace hB8 : Blk w19 w1.heap.size 27 [.slice A N.length cp, .int .i64 most] := hB8'
    refine zS [(9, .int .i64 0), (10, .int .i64 11)] ?_
    refine op_nil ?_
    refine W_ret ?_
    refine ⟨_, Res_cell2 (b := w1.heap.size) (cs := [.slice A N.length cp, .int .i64 most]) (by rfl) (by kernel_rfl) (by kernel_rfl) (by kernel_rfl) (by kernel_rfl) hB8 (by kernel_rfl) (by kernel_rfl), ?_⟩
    have e : binF N most o a b = (0, 11, N) := by unfold binF; rw [if_neg (by first | omega | assumption | exact bad1.2 (by omega) | exact bad2.2 (by omega) | exact bad3.2 (by omega) | exact nb (bad1f.2 (by omega)) | exact nb (bad2f.2 (by omega)) | exact nb (bad3f.2 (by omega))), if_pos (by first | omega | assumption | exact bad1.2 (by omega) | exact bad2.2 (by omega) | exact bad3.2 (by omega) | exact nb (bad1f.2 (by omega)) | exact nb (bad2f.2 (by omega)) | exact nb (bad3f.2 (by omega)))]
    rw [e]
    exact ⟨A, cp, rfl, hD, fun c h => .inl h, hT0⟩
   ·
    replace hb18 : 0 ≤ a ∧ a < (N.length : Int) := (of_decide_eq_true hb18)
    refine st (by kernel_rfl) (S_val (v := .agg #[.slice A N.length cp, .int .i64 most]) (R_loadA [.slice A N.length cp, .int .i64 most] (by kernel_rfl) (by kernel_rfl) (by kernel_rfl) (fun k u hk => by rw [hB4.cell]; exact get_part _ 0 _ k u rfl hk)) ?_)
    refine zS [(25, .int .i64 b)] ?_
    refine zC (ris_ok A cp most N b _ hD) ?_
    rintro _ w22 ⟨rfl, hT23⟩
    have hT0 := hT0.t0 hT23
    have hD := hD.tch0 hT23
    have hB4 := hB4.tch0 hT23
    have hB8 := hB8.tch0 hT23
    refine zS [(27, .bool (!(isT N b))), (28, .bool (!(isT N b)))] ?_
    refine zO (!(isT N b)) (fun hc24 => ?_) (fun hc24 => ?_)
    ·
     replace hc24 : ¬ (0 ≤ b ∧ b < (N.length : Int)) := (of_decide_eq_false (not_t hc24))
     refine W_seq ?_
     refine zF [(0, .agg #[.slice A N.length cp, .int .i64 most]), (1, .int .i64 o), (2, .int .i64 a), (3, .int .i64 b), (4, .pointer (some ⟨w.heap.size, 0, none⟩)), (8, .pointer (some ⟨w1.heap.size, 0, none⟩)), (9, .int .i64 0), (10, .int .i64 0), (17, .bool (decide (o > 14))), (28, .bool (!(isT N b)))] fun ρ => ?_
     refine zR ?_
     refine st (by rfl) (S_val (v := .agg #[.slice A N.length cp, .int .i64 most]) (R_loadA [.slice A N.length cp, .int .i64 most] (by kernel_rfl) (by kernel_rfl) (by kernel_rfl) (fun k u hk => by rw [hB4.cell]; exact get_part _ 0 _ k u rfl hk)) ?_)
     refine st (by rfl) (S_storeA (b := w1.heap.size) (j := 0) (cs := [.slice A N.length cp, .int .i64 most]) (by kernel_rfl) (by kernel_rfl) (by kernel_rfl) (by simp [oneV]) hB8 (by simp) fun w25 hT26 hs27 hB8' => ?_)
     have hT0 := (hT0).then hT26 (fun c e => by have : c = w1.heap.size := e; omega)
     have hD := hD.tch hT26 (fun c hc e => hD.blk_ne hB8 (by decide) c hc e)
     have hB4 := hB4.tch hT26 (fun e => by have : w.heap.size = w1.heap.size := e; omega)
     replace hB8 : Blk w25 w1.heap.size 27 [.slice A N.length cp, .int .i64 most] := hB8'
     refine zS [(9, .int .i64 0), (10, .int .i64 11)] ?_
     refine op_nil ?_
     refine W_ret ?_
     refine ⟨_, Res_cell2 (b := w1.heap.size) (cs := [.slice A N.length cp, .int .i64 most]) (by rfl) (by kernel_rfl) (by kernel_rfl) (by kernel_rfl) (by kernel_rfl) hB8 (by kernel_rfl) (by kernel_rfl), ?_⟩
     have e : binF N most o a b = (0, 11, N) := by unfold binF; rw [if_neg (by first | omega | assumption | exact bad1.2 (by omega) | exact bad2.2 (by omega) | exact bad3.2 (by omega) | exact nb (bad1f.2 (by omega)) | exact nb (bad2f.2 (by omega)) | exact nb (bad3f.2 (by omega))), if_pos (by first | omega | assumption | exact bad1.2 (by omega) | exact bad2.2 (by omega) | exact bad3.2 (by omega) | exact nb (bad1f.2 (by omega)) | exact nb (bad2f.2 (by omega)) | exact nb (bad3f.2 (by omega)))]
     rw [e]
     exact ⟨A, cp, rfl, hD, fun c h => .inl h, hT0⟩
    ·
     replace hc24 : 0 ≤ b ∧ b < (N.length : Int) := (of_decide_eq_true (not_f hc24))
     refine W_skip ?_
     refine W_seq ?_
     refine zF [(0, .agg #[.slice A N.length cp, .int .i64 most]), (1, .int .i64 o), (2, .int .i64 a), (3, .int .i64 b), (4, .pointer (some ⟨w.heap.size, 0, none⟩)), (8, .pointer (some ⟨w1.heap.size, 0, none⟩)), (9, .int .i64 0), (10, .int .i64 0), (17, .bool (decide (o > 14))), (28, .bool (!(isT N b)))] fun ρ => ?_
     have wd_a := hJ.wid (x := a) (by omega) (by omega)
     have wd_b := hJ.wid (x := b) (by omega) (by omega)
     refine zR ?_
     refine st (by rfl) (S_val (v := .agg #[.slice A N.length cp, .int .i64 most]) (R_loadA [.slice A N.length cp, .int .i64 most] (by kernel_rfl) (by kernel_rfl) (by kernel_rfl) (fun k u hk => by rw [hB4.cell]; exact get_part _ 0 _ k u rfl hk)) ?_)
     refine zS [(31, .int .i64 a)] ?_
     refine zC (rwid_ok A cp most N a _ hD) ?_
     rintro _ w28 ⟨rfl, hT29⟩
     have hT0 := hT0.t0 hT29
     have hD := hD.tch0 hT29
     have hB4 := hB4.tch0 hT29
     have hB8 := hB8.tch0 hT29
     refine zS [(11, .int .i64 (widF N a))] ?_
     refine op_nil ?_
     refine W_seq ?_
     refine zQ ?_
     refine zS [(33, .int .i64 (widF N a))] ?_
     refine st (by rfl) (S_val (v := .agg #[.slice A N.length cp, .int .i64 most]) (R_loadA [.slice A N.length cp, .int .i64 most] (by kernel_rfl) (by kernel_rfl) (by kernel_rfl) (fun k u hk => by rw [hB4.cell]; exact get_part _ 0 _ k u rfl hk)) ?_)
     refine zS [(35, .int .i64 b)] ?_
     refine zC (rwid_ok A cp most N b _ hD) ?_
     rintro _ w30 ⟨rfl, hT31⟩
     have hT0 := hT0.t0 hT31
     have hD := hD.tch0 hT31
     have hB4 := hB4.tch0 hT31
     have hB8 := hB8.tch0 hT31
     refine zS [(37, .bool ((widF N a) != (widF N b)))] ?_
     refine zO ((widF N a) != (widF N b)) (fun hc32 => ?_) (fun hc32 => ?_)
     ·
      replace hc32 : widF N a ≠ widF N b := (bne_iff_ne.1 hc32)
      refine W_seq ?_
      refine zF [(0, .agg #[.slice A N.length cp, .int .i64 most]), (1, .int .i64 o), (2, .int .i64 a), (3, .int .i64 b), (4, .pointer (some ⟨w.heap.size, 0, none⟩)), (8, .pointer (some ⟨w1.heap.size, 0, none⟩)), (9, .int .i64 0), (10, .int .i64 0), (11, .int .i64 (widF N a)), (17, .bool (decide (o > 14))), (28, .bool (!(isT N b))), (37, .bool ((widF N a) != (widF N b)))] fun ρ => ?_
      refine zR ?_
      refine st (by rfl) (S_val (v := .agg #[.slice A N.length cp, .int .i64 most]) (R_loadA [.slice A N.length cp, .int .i64 most] (by kernel_rfl) (by kernel_rfl) (by kernel_rfl) (fun k u hk => by rw [hB4.cell]; exact get_part _ 0 _ k u rfl hk)) ?_)
      refine st (by rfl) (S_storeA (b := w1.heap.size) (j := 0) (cs := [.slice A N.length cp, .int .i64 most]) (by kernel_rfl) (by kernel_rfl) (by kernel_rfl) (by simp [oneV]) hB8 (by simp) fun w33 hT34 hs35 hB8' => ?_)
      have hT0 := (hT0).then hT34 (fun c e => by have : c = w1.heap.size := e; omega)
      have hD := hD.tch hT34 (fun c hc e => hD.blk_ne hB8 (by decide) c hc e)
      have hB4 := hB4.tch hT34 (fun e => by have : w.heap.size = w1.heap.size := e; omega)
      replace hB8 : Blk w33 w1.heap.size 27 [.slice A N.length cp, .int .i64 most] := hB8'
      refine zS [(9, .int .i64 0), (10, .int .i64 2)] ?_
      refine op_nil ?_
      refine W_ret ?_
      refine ⟨_, Res_cell2 (b := w1.heap.size) (cs := [.slice A N.length cp, .int .i64 most]) (by rfl) (by kernel_rfl) (by kernel_rfl) (by kernel_rfl) (by kernel_rfl) hB8 (by kernel_rfl) (by kernel_rfl), ?_⟩
      have e : binF N most o a b = (0, 2, N) := by unfold binF; rw [if_neg (by first | omega | assumption | exact bad1.2 (by omega) | exact bad2.2 (by omega) | exact bad3.2 (by omega) | exact nb (bad1f.2 (by omega)) | exact nb (bad2f.2 (by omega)) | exact nb (bad3f.2 (by omega))), if_neg (by first | omega | assumption | exact bad1.2 (by omega) | exact bad2.2 (by omega) | exact bad3.2 (by omega) | exact nb (bad1f.2 (by omega)) | exact nb (bad2f.2 (by omega)) | exact nb (bad3f.2 (by omega))), if_pos (by first | omega | assumption | exact bad1.2 (by omega) | exact bad2.2 (by omega) | exact bad3.2 (by omega) | exact nb (bad1f.2 (by omega)) | exact nb (bad2f.2 (by omega)) | exact nb (bad3f.2 (by omega)))]
      rw [e]
      exact ⟨A, cp, rfl, hD, fun c h => .inl h, hT0⟩
     ·
      replace hc32 : widF N a = widF N b := (bne_eq_false_iff_eq.1 hc32)
      refine W_skip ?_
      refine W_seq ?_
      refine W_seq ?_
      refine zF [(0, .agg #[.slice A N.length cp, .int .i64 most]), (1, .int .i64 o), (2, .int .i64 a), (3, .int .i64 b), (4, .pointer (some ⟨w.heap.size, 0, none⟩)), (8, .pointer (some ⟨w1.heap.size, 0, none⟩)), (9, .int .i64 0), (10, .int .i64 0), (11, .int .i64 (widF N a)), (17, .bool (decide (o > 14))), (28, .bool (!(isT N b))), (37, .bool ((widF N a) != (widF N b)))] fun ρ => ?_
      refine zR ?_
      refine zS [(39, .int .i64 o), (40, .bool (decide (o ≥ 12)))] ?_
      refine zO (decide (o ≥ 12)) (fun hc36 => ?_) (fun hc36 => ?_)
      ·
       replace hc36 : 12 ≤ o := (of_decide_eq_true hc36)
       refine zR ?_
       refine zS [(11, .int .i64 1)] ?_
       refine op_nil ?_
       refine zQ ?_
       refine st (by rfl) (S_val (v := .agg #[.slice A N.length cp, .int .i64 most]) (R_loadA [.slice A N.length cp, .int .i64 most] (by kernel_rfl) (by kernel_rfl) (by kernel_rfl) (fun k u hk => by rw [hB4.cell]; exact get_part _ 0 _ k u rfl hk)) ?_)
       refine zS [(42, .int .i64 o), (43, .int .i64 1), (44, .int .i64 a), (45, .int .i64 b), (46, .agg #[.int .i64 o, .int .i64 1, .int .i64 a, .int .i64 b, .int .i64 0, .int .u64 0])] ?_
       have hzr := hT0.size
       have hwf : nwf (o, 1, a, b, 0, 0) := nwf_of (by unfold b64 at *; omega) (by unfold b64 at *; omega) (by unfold b64 at *; omega) (by unfold b64 at *; omega) (by unfold b64 at *; omega) (by unfold u64; omega)
       refine zC (rmade_ok A cp most N (o, 1, a, b, 0, 0) _ hD hJ.ti hwf) ?_
       rintro _ w37 ⟨A38, cp39, rfl, hD42, hw40, hT41⟩
       have hT0 := hT0.t0 hT41
       have hD := hD.tch0 hT41
       have hB4 := hB4.tch0 hT41
       have hB8 := hB8.tch0 hT41
       refine zS [(48, .agg #[.slice A38 ((mk N most (o, 1, a, b, 0, 0)).2.2.length) cp39, .int .i64 most]), (49, .int .i64 ((mk N most (o, 1, a, b, 0, 0)).1)), (50, .int .i64 ((mk N most (o, 1, a, b, 0, 0)).2.1))] ?_
       refine st (by rfl) (S_storeA (b := w1.heap.size) (j := 0) (cs := [.slice A38 ((mk N most (o, 1, a, b, 0, 0)).2.2.length) cp39, .int .i64 most]) (by kernel_rfl) (by kernel_rfl) (by kernel_rfl) (by simp [oneV]) hB8 (by simp) fun w43 hT44 hs45 hB8' => ?_)
       have hT0 := (hT0).then hT44 (fun c e => by have : c = w1.heap.size := e; omega)
       have hD := hD.tch hT44 (fun c hc e => hD.blk_ne hB8 (by decide) c hc e)
       have hB4 := hB4.tch hT44 (fun e => by have : w.heap.size = w1.heap.size := e; omega)
       have hD42 := hD42.tch hT44 (fun c hc e => hD42.blk_ne hB8 (by decide) c hc e)
       replace hB8 : Blk w43 w1.heap.size 27 [.slice A38 ((mk N most (o, 1, a, b, 0, 0)).2.2.length) cp39, .int .i64 most] := hB8'
       refine zS [(9, .int .i64 ((mk N most (o, 1, a, b, 0, 0)).1)), (10, .int .i64 ((mk N most (o, 1, a, b, 0, 0)).2.1))] ?_
       refine op_nil ?_
       refine W_ret ?_
       refine ⟨_, Res_cell2 (b := w1.heap.size) (cs := [.slice A38 ((mk N most (o, 1, a, b, 0, 0)).2.2.length) cp39, .int .i64 most]) (by rfl) (by kernel_rfl) (by kernel_rfl) (by kernel_rfl) (by kernel_rfl) hB8 (by kernel_rfl) (by kernel_rfl), ?_⟩
       have e : binF N most o a b = mk N most (o, 1, a, b, 0, 0) := by unfold binF; rw [if_neg (by first | omega | assumption | exact bad1.2 (by omega) | exact bad2.2 (by omega) | exact bad3.2 (by omega) | exact nb (bad1f.2 (by omega)) | exact nb (bad2f.2 (by omega)) | exact nb (bad3f.2 (by omega))), if_neg (by first | omega | assumption | exact bad1.2 (by omega) | exact bad2.2 (by omega) | exact bad3.2 (by omega) | exact nb (bad1f.2 (by omega)) | exact nb (bad2f.2 (by omega)) | exact nb (bad3f.2 (by omega))), if_neg (by first | omega | assumption | exact bad1.2 (by omega) | exact bad2.2 (by omega) | exact bad3.2 (by omega) | exact nb (bad1f.2 (by omega)) | exact nb (bad2f.2 (by omega)) | exact nb (bad3f.2 (by omega))), if_pos (by first | omega | assumption | exact bad1.2 (by omega) | exact bad2.2 (by omega) | exact bad3.2 (by omega) | exact nb (bad1f.2 (by omega)) | exact nb (bad2f.2 (by omega)) | exact nb (bad3f.2 (by omega)))]
       rw [e]
       exact ⟨A38, cp39, rfl, hD42, fun c h => (hw40 c h).imp id (fun q => Nat.le_trans hzr q), hT0⟩
      ·
       replace hc36 : o < 12 := (Int.not_le.1 (of_decide_eq_false hc36))
       refine W_skip ?_
       refine zQ ?_
       refine st (by rfl) (S_val (v := .agg #[.slice A N.length cp, .int .i64 most]) (R_loadA [.slice A N.length cp, .int .i64 most] (by kernel_rfl) (by kernel_rfl) (by kernel_rfl) (fun k u hk => by rw [hB4.cell]; exact get_part _ 0 _ k u rfl hk)) ?_)
       refine zS [(42, .int .i64 o), (43, .int .i64 (widF N a)), (44, .int .i64 a), (45, .int .i64 b), (46, .agg #[.int .i64 o, .int .i64 (widF N a), .int .i64 a, .int .i64 b, .int .i64 0, .int .u64 0])] ?_
       have hzr := hT0.size
       have hwf : nwf (o, widF N a, a, b, 0, 0) := nwf_of (by unfold b64 at *; omega) (by unfold b64 at *; omega) (by unfold b64 at *; omega) (by unfold b64 at *; omega) (by unfold b64 at *; omega) (by unfold u64; omega)
       refine zC (rmade_ok A cp most N (o, widF N a, a, b, 0, 0) _ hD hJ.ti hwf) ?_
       rintro _ w46 ⟨A47, cp48, rfl, hD51, hw49, hT50⟩
       have hT0 := hT0.t0 hT50
       have hD := hD.tch0 hT50
       have hB4 := hB4.tch0 hT50
       have hB8 := hB8.tch0 hT50
       refine zS [(48, .agg #[.slice A47 ((mk N most (o, widF N a, a, b, 0, 0)).2.2.length) cp48, .int .i64 most]), (49, .int .i64 ((mk N most (o, widF N a, a, b, 0, 0)).1)), (50, .int .i64 ((mk N most (o, widF N a, a, b, 0, 0)).2.1))] ?_
       refine st (by rfl) (S_storeA (b := w1.heap.size) (j := 0) (cs := [.slice A47 ((mk N most (o, widF N a, a, b, 0, 0)).2.2.length) cp48, .int .i64 most]) (by kernel_rfl) (by kernel_rfl) (by kernel_rfl) (by simp [oneV]) hB8 (by simp) fun w52 hT53 hs54 hB8' => ?_)
       have hT0 := (hT0).then hT53 (fun c e => by have : c = w1.heap.size := e; omega)
       have hD := hD.tch hT53 (fun c hc e => hD.blk_ne hB8 (by decide) c hc e)
       have hB4 := hB4.tch hT53 (fun e => by have : w.heap.size = w1.heap.size := e; omega)
       have hD51 := hD51.tch hT53 (fun c hc e => hD51.blk_ne hB8 (by decide) c hc e)
       replace hB8 : Blk w52 w1.heap.size 27 [.slice A47 ((mk N most (o, widF N a, a, b, 0, 0)).2.2.length) cp48, .int .i64 most] := hB8'
       refine zS [(9, .int .i64 ((mk N most (o, widF N a, a, b, 0, 0)).1)), (10, .int .i64 ((mk N most (o, widF N a, a, b, 0, 0)).2.1))] ?_
       refine op_nil ?_
       refine W_ret ?_
       refine ⟨_, Res_cell2 (b := w1.heap.size) (cs := [.slice A47 ((mk N most (o, widF N a, a, b, 0, 0)).2.2.length) cp48, .int .i64 most]) (by rfl) (by kernel_rfl) (by kernel_rfl) (by kernel_rfl) (by kernel_rfl) hB8 (by kernel_rfl) (by kernel_rfl), ?_⟩
       have e : binF N most o a b = mk N most (o, widF N a, a, b, 0, 0) := by unfold binF; rw [if_neg (by first | omega | assumption | exact bad1.2 (by omega) | exact bad2.2 (by omega) | exact bad3.2 (by omega) | exact nb (bad1f.2 (by omega)) | exact nb (bad2f.2 (by omega)) | exact nb (bad3f.2 (by omega))), if_neg (by first | omega | assumption | exact bad1.2 (by omega) | exact bad2.2 (by omega) | exact bad3.2 (by omega) | exact nb (bad1f.2 (by omega)) | exact nb (bad2f.2 (by omega)) | exact nb (bad3f.2 (by omega))), if_neg (by first | omega | assumption | exact bad1.2 (by omega) | exact bad2.2 (by omega) | exact bad3.2 (by omega) | exact nb (bad1f.2 (by omega)) | exact nb (bad2f.2 (by omega)) | exact nb (bad3f.2 (by omega))), if_neg (by first | omega | assumption | exact bad1.2 (by omega) | exact bad2.2 (by omega) | exact bad3.2 (by omega) | exact nb (bad1f.2 (by omega)) | exact nb (bad2f.2 (by omega)) | exact nb (bad3f.2 (by omega)))]
       rw [e]
       exact ⟨A47, cp48, rfl, hD51, fun c h => (hw49 c h).imp id (fun q => Nat.le_trans hzr q), hT0⟩
 ·
  replace hb11 : o < 1 := (of_decide_eq_true hb11)
  refine zS [(15, undef), (16, undef), (17, .bool true)] ?_
  refine zO true (fun _ => ?_) (fun h => nomatch h)
  refine W_seq ?_
  refine zF [(0, .agg #[.slice A N.length cp, .int .i64 most]), (1, .int .i64 o), (2, .int .i64 a), (3, .int .i64 b), (4, .pointer (some ⟨w.heap.size, 0, none⟩)), (8, .pointer (some ⟨w1.heap.size, 0, none⟩)), (9, .int .i64 0), (10, .int .i64 0), (17, .bool true)] fun ρ => ?_
  refine zR ?_
  refine st (by rfl) (S_val (v := .agg #[.slice A N.length cp, .int .i64 most]) (R_loadA [.slice A N.length cp, .int .i64 most] (by kernel_rfl) (by kernel_rfl) (by kernel_rfl) (fun k u hk => by rw [hB4.cell]; exact get_part _ 0 _ k u rfl hk)) ?_)
  refine st (by rfl) (S_storeA (b := w1.heap.size) (j := 0) (cs := [.slice A N.length cp, .int .i64 most]) (by kernel_rfl) (by kernel_rfl) (by kernel_rfl) (by simp [oneV]) hB8 (by simp) fun w55 hT56 hs57 hB8' => ?_)
  have hT0 := (hT0).then hT56 (fun c e => by have : c = w1.heap.size := e; omega)
  have hD := hD.tch hT56 (fun c hc e => hD.blk_ne hB8 (by decide) c hc e)
  have hB4 := hB4.tch hT56 (fun e => by have : w.heap.size = w1.heap.size := e; omega)
  replace hB8 : Blk w55 w1.heap.size 27 [.slice A N.length cp, .int .i64 most] := hB8'
  refine zS [(9, .int .i64 0), (10, .int .i64 3)] ?_
  refine op_nil ?_
  refine W_ret ?_
  refine ⟨_, Res_cell2 (b := w1.heap.size) (cs := [.slice A N.length cp, .int .i64 most]) (by rfl) (by kernel_rfl) (by kernel_rfl) (by kernel_rfl) (by kernel_rfl) hB8 (by kernel_rfl) (by kernel_rfl), ?_⟩
  have e : binF N most o a b = (0, 3, N) := by unfold binF; rw [if_pos (by first | omega | assumption | exact bad1.2 (by omega) | exact bad2.2 (by omega) | exact bad3.2 (by omega) | exact nb (bad1f.2 (by omega)) | exact nb (bad2f.2 (by omega)) | exact nb (bad3f.2 (by omega)))]
  rw [e]
  exact ⟨A, cp, rfl, hD, fun c h => .inl h, hT0⟩

set_option maxRecDepth 100000 in
theorem rite_ok (A : Option Addr) (cp : Nat) (most : Int) (N : List Nd) (c : Int) (a : Int) (b : Int) (w : World) (hD : Own w 0 32 6 (.slice A N.length cp) N.length (ncs N)) (hJ : TJ N most) (hc : b64 c) (ha : b64 a) (hb : b64 b) : Ret Try.prog 63 [.agg #[.slice A N.length cp, .int .i64 most], .int .i64 c, .int .i64 a, .int .i64 b] w fun v w' => DRet A cp most N w (iteF N most c a b) v w' := by
 have hlen := hJ.ti.len
 have hmost := hJ.ti.most
 have hu_c := hc; unfold b64 at hu_c
 have hu_a := ha; unfold b64 at hu_a
 have hu_b := hb; unfold b64 at hu_b
 refine enter Try.func63 rfl rfl ?_
 refine zQ ?_
 refine st (by rfl) (S_new (v := .pointer (some ⟨w.heap.size, 0, none⟩)) (ob := .cells #[.slice A N.length cp, .int .i64 most] 27) (by kernel_rfl) fun w1 hT2 hs3 hB4 => ?_)
 replace hB4 : Blk w1 (w.heap.size) 27 [.slice A N.length cp, .int .i64 most] := hB4
 have hT0 := hT2
 have hD := hD.tch0 hT2
 have z9 := hT0.size
 have l10 := hB4.lt
 refine st (by rfl) (S_new (v := .pointer (some ⟨w1.heap.size, 0, none⟩)) (ob := .cells #[.slice none 0 0, .int .i64 0] 27) (by kernel_rfl) fun w5 hT6 hs7 hB8 => ?_)
 replace hB8 : Blk w5 (w1.heap.size) 27 [.slice none 0 0, .int .i64 0] := hB8
 have hT0 := hT0.t0 hT6
 have hD := hD.tch0 hT6
 have hB4 := hB4.tch0 hT6
 refine zS [(9, .int .i64 0), (10, .int .i64 0)] ?_
 refine op_nil ?_
 refine W_seq ?_
 refine zQ ?_
 refine st (by rfl) (S_val (v := .agg #[.slice A N.length cp, .int .i64 most]) (R_loadA [.slice A N.length cp, .int .i64 most] (by kernel_rfl) (by kernel_rfl) (by kernel_rfl) (fun k u hk => by rw [hB4.cell]; exact get_part _ 0 _ k u rfl hk)) ?_)
 refine zS [(12, .int .i64 c)] ?_
 refine zC (ris_ok A cp most N c _ hD) ?_
 rintro _ w11 ⟨rfl, hT12⟩
 have hT0 := hT0.t0 hT12
 have hD := hD.tch0 hT12
 have hB4 := hB4.tch0 hT12
 have hB8 := hB8.tch0 hT12
 refine zS [(14, .bool (!(isT N c))), (15, .bool (!(isT N c)))] ?_
 cases hb13 : isT N c
 ·
  replace hb13 : ¬ (0 ≤ c ∧ c < (N.length : Int)) := (of_decide_eq_false hb13)
  refine zS [(16, undef), (17, undef), (18, undef), (19, undef), (20, .bool true), (21, .bool true), (22, undef), (23, undef), (24, undef), (25, undef), (26, .bool true)] ?_
  refine zO true (fun _ => ?_) (fun h => nomatch h)
  refine W_seq ?_
  refine zF [(0, .agg #[.slice A N.length cp, .int .i64 most]), (1, .int .i64 c), (2, .int .i64 a), (3, .int .i64 b), (4, .pointer (some ⟨w.heap.size, 0, none⟩)), (8, .pointer (some ⟨w1.heap.size, 0, none⟩)), (9, .int .i64 0), (10, .int .i64 0), (26, .bool true)] fun ρ => ?_
  refine zR ?_
  refine st (by rfl) (S_val (v := .agg #[.slice A N.length cp, .int .i64 most]) (R_loadA [.slice A N.length cp, .int .i64 most] (by kernel_rfl) (by kernel_rfl) (by kernel_rfl) (fun k u hk => by rw [hB4.cell]; exact get_part _ 0 _ k u rfl hk)) ?_)
  refine st (by rfl) (S_storeA (b := w1.heap.size) (j := 0) (cs := [.slice A N.length cp, .int .i64 most]) (by kernel_rfl) (by kernel_rfl) (by kernel_rfl) (by simp [oneV]) hB8 (by simp) fun w14 hT15 hs16 hB8' => ?_)
  have hT0 := (hT0).then hT15 (fun c e => by have : c = w1.heap.size := e; omega)
  have hD := hD.tch hT15 (fun c hc e => hD.blk_ne hB8 (by decide) c hc e)
  have hB4 := hB4.tch hT15 (fun e => by have : w.heap.size = w1.heap.size := e; omega)
  replace hB8 : Blk w14 w1.heap.size 27 [.slice A N.length cp, .int .i64 most] := hB8'
  refine zS [(9, .int .i64 0), (10, .int .i64 11)] ?_
  refine op_nil ?_
  refine W_ret ?_
  refine ⟨_, Res_cell2 (b := w1.heap.size) (cs := [.slice A N.length cp, .int .i64 most]) (by rfl) (by kernel_rfl) (by kernel_rfl) (by kernel_rfl) (by kernel_rfl) hB8 (by kernel_rfl) (by kernel_rfl), ?_⟩
  have e : iteF N most c a b = (0, 11, N) := by unfold iteF; rw [if_pos (by first | omega | assumption | exact bad1.2 (by omega) | exact bad2.2 (by omega) | exact bad3.2 (by omega) | exact nb (bad1f.2 (by omega)) | exact nb (bad2f.2 (by omega)) | exact nb (bad3f.2 (by omega)))]
  rw [e]
  exact ⟨A, cp, rfl, hD, fun c h => .inl h, hT0⟩
 ·
  replace hb13 : 0 ≤ c ∧ c < (N.length : Int) := (of_decide_eq_true hb13)
  refine st (by kernel_rfl) (S_val (v := .agg #[.slice A N.length cp, .int .i64 most]) (R_loadA [.slice A N.length cp, .int .i64 most] (by kernel_rfl) (by kernel_rfl) (by kernel_rfl) (fun k u hk => by rw [hB4.cell]; exact get_part _ 0 _ k u rfl hk)) ?_)
  refine zS [(17, .int .i64 a)] ?_
  refine zC (ris_ok A cp most N a _ hD) ?_
  rintro _ w17 ⟨rfl, hT18⟩
  have hT0 := hT0.t0 hT18
  have hD := hD.tch0 hT18
  have hB4 := hB4.tch0 hT18
  have hB8 := hB8.tch0 hT18
  refine zS [(19, .bool (!(isT N a))), (20, .bool (!(isT N a))), (21, .bool (!(isT N a)))] ?_
  cases hb19 : isT N a
  ·
   replace hb19 : ¬ (0 ≤ a ∧ a < (N.length : Int)) := (of_decide_eq_false hb19)
   refine zS [(22, undef), (23, undef), (24, undef), (25, undef), (26, .bool true)] ?_
   refine zO true (fun _ => ?_) (fun h => nomatch h)
   refine W_seq ?_
   refine zF [(0, .agg #[.slice A N.length cp, .int .i64 most]), (1, .int .i64 c), (2, .int .i64 a), (3, .int .i64 b), (4, .pointer (some ⟨w.heap.size, 0, none⟩)), (8, .pointer (some ⟨w1.heap.size, 0, none⟩)), (9, .int .i64 0), (10, .int .i64 0), (26, .bool true)] fun ρ => ?_
   refine zR ?_
   refine st (by rfl) (S_val (v := .agg #[.slice A N.length cp, .int .i64 most]) (R_loadA [.slice A N.length cp, .int .i64 most] (by kernel_rfl) (by kernel_rfl) (by kernel_rfl) (fun k u hk => by rw [hB4.cell]; exact get_part _ 0 _ k u rfl hk)) ?_)
   refine st (by rfl) (S_storeA (b := w1.heap.size) (j := 0) (cs := [.slice A N.length cp, .int .i64 most]) (by kernel_rfl) (by kernel_rfl) (by kernel_rfl) (by simp [oneV]) hB8 (by simp) fun w20 hT21 hs22 hB8' => ?_)
   have hT0 := (hT0).then hT21 (fun c e => by have : c = w1.heap.size := e; omega)
   have hD := hD.tch hT21 (fun c hc e => hD.blk_ne hB8 (by decide) c hc e)
   have hB4 := hB4.tch hT21 (fun e => by have : w.heap.size = w1.heap.size := e; omega)
   replace hB8 : Blk w20 w1.heap.size 27 [.slice A N.length cp, .int .i64 most] := hB8'
   refine zS [(9, .int .i64 0), (10, .int .i64 11)] ?_
   refine op_nil ?_
   refine W_ret ?_
   refine ⟨_, Res_cell2 (b := w1.heap.size) (cs := [.slice A N.length cp, .int .i64 most]) (by rfl) (by kernel_rfl) (by kernel_rfl) (by kernel_rfl) (by kernel_rfl) hB8 (by kernel_rfl) (by kernel_rfl), ?_⟩
   have e : iteF N most c a b = (0, 11, N) := by unfold iteF; rw [if_pos (by first | omega | assumption | exact bad1.2 (by omega) | exact bad2.2 (by omega) | exact bad3.2 (by omega) | exact nb (bad1f.2 (by omega)) | exact nb (bad2f.2 (by omega)) | exact nb (bad3f.2 (by omega)))]
   rw [e]
   exact ⟨A, cp, rfl, hD, fun c h => .inl h, hT0⟩
  ·
   replace hb19 : 0 ≤ a ∧ a < (N.length : Int) := (of_decide_eq_true hb19)
   refine st (by kernel_rfl) (S_val (v := .agg #[.slice A N.length cp, .int .i64 most]) (R_loadA [.slice A N.length cp, .int .i64 most] (by kernel_rfl) (by kernel_rfl) (by kernel_rfl) (fun k u hk => by rw [hB4.cell]; exact get_part _ 0 _ k u rfl hk)) ?_)
   refine zS [(23, .int .i64 b)] ?_
   refine zC (ris_ok A cp most N b _ hD) ?_
   rintro _ w23 ⟨rfl, hT24⟩
   have hT0 := hT0.t0 hT24
   have hD := hD.tch0 hT24
   have hB4 := hB4.tch0 hT24
   have hB8 := hB8.tch0 hT24
   refine zS [(25, .bool (!(isT N b))), (26, .bool (!(isT N b)))] ?_
   refine zO (!(isT N b)) (fun hc25 => ?_) (fun hc25 => ?_)
   ·
    replace hc25 : ¬ (0 ≤ b ∧ b < (N.length : Int)) := (of_decide_eq_false (not_t hc25))
    refine W_seq ?_
    refine zF [(0, .agg #[.slice A N.length cp, .int .i64 most]), (1, .int .i64 c), (2, .int .i64 a), (3, .int .i64 b), (4, .pointer (some ⟨w.heap.size, 0, none⟩)), (8, .pointer (some ⟨w1.heap.size, 0, none⟩)), (9, .int .i64 0), (10, .int .i64 0), (26, .bool (!(isT N b)))] fun ρ => ?_
    refine zR ?_
    refine st (by rfl) (S_val (v := .agg #[.slice A N.length cp, .int .i64 most]) (R_loadA [.slice A N.length cp, .int .i64 most] (by kernel_rfl) (by kernel_rfl) (by kernel_rfl) (fun k u hk => by rw [hB4.cell]; exact get_part _ 0 _ k u rfl hk)) ?_)
    refine st (by rfl) (S_storeA (b := w1.heap.size) (j := 0) (cs := [.slice A N.length cp, .int .i64 most]) (by kernel_rfl) (by kernel_rfl) (by kernel_rfl) (by simp [oneV]) hB8 (by simp) fun w26 hT27 hs28 hB8' => ?_)
    have hT0 := (hT0).then hT27 (fun c e => by have : c = w1.heap.size := e; omega)
    have hD := hD.tch hT27 (fun c hc e => hD.blk_ne hB8 (by decide) c hc e)
    have hB4 := hB4.tch hT27 (fun e => by have : w.heap.size = w1.heap.size := e; omega)
    replace hB8 : Blk w26 w1.heap.size 27 [.slice A N.length cp, .int .i64 most] := hB8'
    refine zS [(9, .int .i64 0), (10, .int .i64 11)] ?_
    refine op_nil ?_
    refine W_ret ?_
    refine ⟨_, Res_cell2 (b := w1.heap.size) (cs := [.slice A N.length cp, .int .i64 most]) (by rfl) (by kernel_rfl) (by kernel_rfl) (by kernel_rfl) (by kernel_rfl) hB8 (by kernel_rfl) (by kernel_rfl), ?_⟩
    have e : iteF N most c a b = (0, 11, N) := by unfold iteF; rw [if_pos (by first | omega | assumption | exact bad1.2 (by omega) | exact bad2.2 (by omega) | exact bad3.2 (by omega) | exact nb (bad1f.2 (by omega)) | exact nb (bad2f.2 (by omega)) | exact nb (bad3f.2 (by omega)))]
    rw [e]
    exact ⟨A, cp, rfl, hD, fun c h => .inl h, hT0⟩
   ·
    replace hc25 : 0 ≤ b ∧ b < (N.length : Int) := (of_decide_eq_true (not_f hc25))
    refine W_skip ?_
    refine W_seq ?_
    refine W_seq ?_
    refine zF [(0, .agg #[.slice A N.length cp, .int .i64 most]), (1, .int .i64 c), (2, .int .i64 a), (3, .int .i64 b), (4, .pointer (some ⟨w.heap.size, 0, none⟩)), (8, .pointer (some ⟨w1.heap.size, 0, none⟩)), (9, .int .i64 0), (10, .int .i64 0), (26, .bool (!(isT N b)))] fun ρ => ?_
    have wd_c := hJ.wid (x := c) (by omega) (by omega)
    have wd_a := hJ.wid (x := a) (by omega) (by omega)
    have wd_b := hJ.wid (x := b) (by omega) (by omega)
    refine W_draw (fun w' => Blk w' (w.heap.size) 27 [.slice A N.length cp, .int .i64 most]) (by kernel_rfl) (by kernel_rfl) (by kernel_rfl) fun w29 hT30 hh31 => ?_
    have hT0 := hT0.t0 hT30
    have hD := hD.tch0 hT30
    have hB4 := hB4.tch0 hT30
    have hB8 := hB8.tch0 hT30
    refine zK [1] #[false, true, false, false, false, false, false, false, false, false, false, false, false] [(29, .int .i64 c)] hB4 ?_
    refine zV 0 rfl (.agg #[.slice A N.length cp, .int .i64 most]) (fun _ hB4 => R_loadA [.slice A N.length cp, .int .i64 most] (by kernel_rfl) (by kernel_rfl) (by kernel_rfl) (fun k u hk => by rw [hB4.cell]; exact get_part _ 0 _ k u rfl hk)) hB4 ?_
    refine zD 2 rfl (S_call (args := [.agg #[.slice A N.length cp, .int .i64 most], .int .i64 c]) (by kernel_rfl) (rwid_ok A cp most N c _ hD) ?_)
    rintro _ w32 ⟨rfl, hT33⟩
    have hT0 := hT0.t0 hT33
    have hD := hD.tch0 hT33
    have hB4 := hB4.tch0 hT33
    have hB8 := hB8.tch0 hT33
    refine ⟨hB4, ?_⟩
    refine zK [3, 4] #[true, true, true, true, true, false, false, false, false, false, false, false, false] [(31, .bool ((widF N c) != 1)), (32, .bool ((widF N c) != 1))] hB4 ?_
    cases hb34 : (widF N c) != 1
    ·
     replace hb34 : widF N c = 1 := (bne_eq_false_iff_eq.1 hb34)
     refine zK [6, 9] #[true, true, true, true, true, false, true, false, false, true, false, false, false] [(34, .int .i64 a), (37, .int .i64 b)] hB4 ?_
     refine zV 5 rfl (.agg #[.slice A N.length cp, .int .i64 most]) (fun _ hB4 => R_loadA [.slice A N.length cp, .int .i64 most] (by kernel_rfl) (by kernel_rfl) (by kernel_rfl) (fun k u hk => by rw [hB4.cell]; exact get_part _ 0 _ k u rfl hk)) hB4 ?_
     refine zV 8 rfl (.agg #[.slice A N.length cp, .int .i64 most]) (fun _ hB4 => R_loadA [.slice A N.length cp, .int .i64 most] (by kernel_rfl) (by kernel_rfl) (by kernel_rfl) (fun k u hk => by rw [hB4.cell]; exact get_part _ 0 _ k u rfl hk)) hB4 ?_
     refine zD 7 rfl (S_call (args := [.agg #[.slice A N.length cp, .int .i64 most], .int .i64 a]) (by kernel_rfl) (rwid_ok A cp most N a _ hD) ?_)
     rintro _ w35 ⟨rfl, hT36⟩
     have hT0 := hT0.t0 hT36
     have hD := hD.tch0 hT36
     have hB4 := hB4.tch0 hT36
     have hB8 := hB8.tch0 hT36
     refine ⟨hB4, ?_⟩
     refine zD 10 rfl (S_call (args := [.agg #[.slice A N.length cp, .int .i64 most], .int .i64 b]) (by kernel_rfl) (rwid_ok A cp most N b _ hD) ?_)
     rintro _ w37 ⟨rfl, hT38⟩
     have hT0 := hT0.t0 hT38
     have hD := hD.tch0 hT38
     have hB4 := hB4.tch0 hT38
     have hB8 := hB8.tch0 hT38
     refine ⟨hB4, ?_⟩
     refine zK [11, 12] #[true, true, true, true, true, true, true, true, true, true, true, true, true] [(39, .bool ((widF N a) != (widF N b))), (40, .bool ((widF N a) != (widF N b)))] hB4 ?_
     refine d_done (by kernel_rfl) ?_
     refine zW ((widF N a) != (widF N b)) (fun hc39 => ?_) (fun hc39 => ?_)
     ·
      replace hc39 : widF N a ≠ widF N b := (bne_iff_ne.1 hc39)
      refine W_seq ?_
      refine zF [(0, .agg #[.slice A N.length cp, .int .i64 most]), (1, .int .i64 c), (2, .int .i64 a), (3, .int .i64 b), (4, .pointer (some ⟨w.heap.size, 0, none⟩)), (8, .pointer (some ⟨w1.heap.size, 0, none⟩)), (9, .int .i64 0), (10, .int .i64 0), (26, .bool (!(isT N b))), (40, .bool ((widF N a) != (widF N b)))] fun ρ => ?_
      refine zR ?_
      refine st (by rfl) (S_val (v := .agg #[.slice A N.length cp, .int .i64 most]) (R_loadA [.slice A N.length cp, .int .i64 most] (by kernel_rfl) (by kernel_rfl) (by kernel_rfl) (fun k u hk => by rw [hB4.cell]; exact get_part _ 0 _ k u rfl hk)) ?_)
      refine st (by rfl) (S_storeA (b := w1.heap.size) (j := 0) (cs := [.slice A N.length cp, .int .i64 most]) (by kernel_rfl) (by kernel_rfl) (by kernel_rfl) (by simp [oneV]) hB8 (by simp) fun w40 hT41 hs42 hB8' => ?_)
      have hT0 := (hT0).then hT41 (fun c e => by have : c = w1.heap.size := e; omega)
      have hD := hD.tch hT41 (fun c hc e => hD.blk_ne hB8 (by decide) c hc e)
      have hB4 := hB4.tch hT41 (fun e => by have : w.heap.size = w1.heap.size := e; omega)
      replace hB8 : Blk w40 w1.heap.size 27 [.slice A N.length cp, .int .i64 most] := hB8'
      refine zS [(9, .int .i64 0), (10, .int .i64 2)] ?_
      refine op_nil ?_
      refine W_ret ?_
      refine ⟨_, Res_cell2 (b := w1.heap.size) (cs := [.slice A N.length cp, .int .i64 most]) (by rfl) (by kernel_rfl) (by kernel_rfl) (by kernel_rfl) (by kernel_rfl) hB8 (by kernel_rfl) (by kernel_rfl), ?_⟩
      have e : iteF N most c a b = (0, 2, N) := by unfold iteF; rw [if_neg (by first | omega | assumption | exact bad1.2 (by omega) | exact bad2.2 (by omega) | exact bad3.2 (by omega) | exact nb (bad1f.2 (by omega)) | exact nb (bad2f.2 (by omega)) | exact nb (bad3f.2 (by omega))), if_pos (by first | omega | assumption | exact bad1.2 (by omega) | exact bad2.2 (by omega) | exact bad3.2 (by omega) | exact nb (bad1f.2 (by omega)) | exact nb (bad2f.2 (by omega)) | exact nb (bad3f.2 (by omega)))]
      rw [e]
      exact ⟨A, cp, rfl, hD, fun c h => .inl h, hT0⟩
     ·
      replace hc39 : widF N a = widF N b := (bne_eq_false_iff_eq.1 hc39)
      refine W_skip ?_
      refine W_seq ?_
      refine zF [(0, .agg #[.slice A N.length cp, .int .i64 most]), (1, .int .i64 c), (2, .int .i64 a), (3, .int .i64 b), (4, .pointer (some ⟨w.heap.size, 0, none⟩)), (8, .pointer (some ⟨w1.heap.size, 0, none⟩)), (9, .int .i64 0), (10, .int .i64 0), (26, .bool (!(isT N b))), (40, .bool ((widF N a) != (widF N b)))] fun ρ => ?_
      refine W_draw (fun w' => Blk w' (w.heap.size) 27 [.slice A N.length cp, .int .i64 most]) (by kernel_rfl) (by kernel_rfl) (by kernel_rfl) fun w43 hT44 hh45 => ?_
      have hT0 := hT0.t0 hT44
      have hD := hD.tch0 hT44
      have hB4 := hB4.tch0 hT44
      have hB8 := hB8.tch0 hT44
      refine zK [2, 4, 5, 6] #[false, false, true, false, true, true, true, false, false, false, false, false, false, false, false] [(44, .int .i64 a), (46, .int .i64 c), (47, .int .i64 a), (48, .int .i64 b)] hB4 ?_
      refine zV 0 rfl (.agg #[.slice A N.length cp, .int .i64 most]) (fun _ hB4 => R_loadA [.slice A N.length cp, .int .i64 most] (by kernel_rfl) (by kernel_rfl) (by kernel_rfl) (fun k u hk => by rw [hB4.cell]; exact get_part _ 0 _ k u rfl hk)) hB4 ?_
      refine zV 1 rfl (.agg #[.slice A N.length cp, .int .i64 most]) (fun _ hB4 => R_loadA [.slice A N.length cp, .int .i64 most] (by kernel_rfl) (by kernel_rfl) (by kernel_rfl) (fun k u hk => by rw [hB4.cell]; exact get_part _ 0 _ k u rfl hk)) hB4 ?_
      refine zD 3 rfl (S_call (args := [.agg #[.slice A N.length cp, .int .i64 most], .int .i64 a]) (by kernel_rfl) (rwid_ok A cp most N a _ hD) ?_)
      rintro _ w46 ⟨rfl, hT47⟩
      have hT0 := hT0.t0 hT47
      have hD := hD.tch0 hT47
      have hB4 := hB4.tch0 hT47
      have hB8 := hB8.tch0 hT47
      refine ⟨hB4, ?_⟩
      refine zK [7] #[true, true, true, true, true, true, true, true, false, false, false, false, false, false, false] [(49, .agg #[.int .i64 22, .int .i64 (widF N a), .int .i64 c, .int .i64 a, .int .i64 b, .int .u64 0])] hB4 ?_
      have hzr := hT0.size
      have hwf : nwf (22, widF N a, c, a, b, 0) := nwf_of (by unfold b64 at *; omega) (by unfold b64 at *; omega) (by unfold b64 at *; omega) (by unfold b64 at *; omega) (by unfold b64 at *; omega) (by unfold u64; omega)
      refine zD 8 rfl (S_call (args := [.agg #[.slice A N.length cp, .int .i64 most], .agg #[.int .i64 22, .int .i64 (widF N a), .int .i64 c, .int .i64 a, .int .i64 b, .int .u64 0]]) (by kernel_rfl) (rmade_ok A cp most N (22, widF N a, c, a, b, 0) _ hD hJ.ti hwf) ?_)
      rintro _ w48 ⟨A49, cp50, rfl, hD53, hw51, hT52⟩
      have hT0 := hT0.t0 hT52
      have hD := hD.tch0 hT52
      have hB4 := hB4.tch0 hT52
      have hB8 := hB8.tch0 hT52
      refine ⟨hB4, ?_⟩
      refine zK [9, 10, 11] #[true, true, true, true, true, true, true, true, true, true, true, true, false, false, false] [(51, .agg #[.slice A49 ((mk N most (22, widF N a, c, a, b, 0)).2.2.length) cp50, .int .i64 most]), (52, .int .i64 ((mk N most (22, widF N a, c, a, b, 0)).1)), (53, .int .i64 ((mk N most (22, widF N a, c, a, b, 0)).2.1))] hB4 ?_
      refine zD 12 rfl (S_storeA (b := w1.heap.size) (j := 0) (cs := [.slice A49 ((mk N most (22, widF N a, c, a, b, 0)).2.2.length) cp50, .int .i64 most]) (by kernel_rfl) (by kernel_rfl) (by kernel_rfl) (by simp [oneV]) hB8 (by simp) fun w54 hT55 hs56 hB8' => ?_)
      have hT0 := (hT0).then hT55 (fun c e => by have : c = w1.heap.size := e; omega)
      have hD := hD.tch hT55 (fun c hc e => hD.blk_ne hB8 (by decide) c hc e)
      have hB4 := hB4.tch hT55 (fun e => by have : w.heap.size = w1.heap.size := e; omega)
      have hD53 := hD53.tch hT55 (fun c hc e => hD53.blk_ne hB8 (by decide) c hc e)
      replace hB8 : Blk w54 w1.heap.size 27 [.slice A49 ((mk N most (22, widF N a, c, a, b, 0)).2.2.length) cp50, .int .i64 most] := hB8'
      refine ⟨hB4, ?_⟩
      refine zK [13, 14] #[true, true, true, true, true, true, true, true, true, true, true, true, true, true, true] [(9, .int .i64 ((mk N most (22, widF N a, c, a, b, 0)).1)), (10, .int .i64 ((mk N most (22, widF N a, c, a, b, 0)).2.1))] hB4 ?_
      refine d_done (by kernel_rfl) ?_
      refine W_ret ?_
      refine ⟨_, Res_cell2 (b := w1.heap.size) (cs := [.slice A49 ((mk N most (22, widF N a, c, a, b, 0)).2.2.length) cp50, .int .i64 most]) (by rfl) (by kernel_rfl) (by kernel_rfl) (by kernel_rfl) (by kernel_rfl) hB8 (by kernel_rfl) (by kernel_rfl), ?_⟩
      have e : iteF N most c a b = mk N most (22, widF N a, c, a, b, 0) := by unfold iteF; rw [if_neg (by first | omega | assumption | exact bad1.2 (by omega) | exact bad2.2 (by omega) | exact bad3.2 (by omega) | exact nb (bad1f.2 (by omega)) | exact nb (bad2f.2 (by omega)) | exact nb (bad3f.2 (by omega))), if_neg (by first | omega | assumption | exact bad1.2 (by omega) | exact bad2.2 (by omega) | exact bad3.2 (by omega) | exact nb (bad1f.2 (by omega)) | exact nb (bad2f.2 (by omega)) | exact nb (bad3f.2 (by omega)))]
      rw [e]
      exact ⟨A49, cp50, rfl, hD53, fun c h => (hw51 c h).imp id (fun q => Nat.le_trans hzr q), hT0⟩
    ·
     replace hb34 : widF N c ≠ 1 := (bne_iff_ne.1 hb34)
     refine zK [5, 6, 8, 9, 7, 10, 11, 12] #[true, true, true, true, true, true, true, true, true, true, true, true, true] [(33, undef), (34, undef), (36, undef), (37, undef), (35, undef), (38, undef), (39, undef), (40, .bool true)] hB4 ?_
     refine d_done (by kernel_rfl) ?_
     refine zW true (fun _ => ?_) (fun h => nomatch h)
     refine W_seq ?_
     refine zF [(0, .agg #[.slice A N.length cp, .int .i64 most]), (1, .int .i64 c), (2, .int .i64 a), (3, .int .i64 b), (4, .pointer (some ⟨w.heap.size, 0, none⟩)), (8, .pointer (some ⟨w1.heap.size, 0, none⟩)), (9, .int .i64 0), (10, .int .i64 0), (26, .bool (!(isT N b))), (40, .bool true)] fun ρ => ?_
     refine zR ?_
     refine st (by rfl) (S_val (v := .agg #[.slice A N.length cp, .int .i64 most]) (R_loadA [.slice A N.length cp, .int .i64 most] (by kernel_rfl) (by kernel_rfl) (by kernel_rfl) (fun k u hk => by rw [hB4.cell]; exact get_part _ 0 _ k u rfl hk)) ?_)
     refine st (by rfl) (S_storeA (b := w1.heap.size) (j := 0) (cs := [.slice A N.length cp, .int .i64 most]) (by kernel_rfl) (by kernel_rfl) (by kernel_rfl) (by simp [oneV]) hB8 (by simp) fun w57 hT58 hs59 hB8' => ?_)
     have hT0 := (hT0).then hT58 (fun c e => by have : c = w1.heap.size := e; omega)
     have hD := hD.tch hT58 (fun c hc e => hD.blk_ne hB8 (by decide) c hc e)
     have hB4 := hB4.tch hT58 (fun e => by have : w.heap.size = w1.heap.size := e; omega)
     replace hB8 : Blk w57 w1.heap.size 27 [.slice A N.length cp, .int .i64 most] := hB8'
     refine zS [(9, .int .i64 0), (10, .int .i64 2)] ?_
     refine op_nil ?_
     refine W_ret ?_
     refine ⟨_, Res_cell2 (b := w1.heap.size) (cs := [.slice A N.length cp, .int .i64 most]) (by rfl) (by kernel_rfl) (by kernel_rfl) (by kernel_rfl) (by kernel_rfl) hB8 (by kernel_rfl) (by kernel_rfl), ?_⟩
     have e : iteF N most c a b = (0, 2, N) := by unfold iteF; rw [if_neg (by first | omega | assumption | exact bad1.2 (by omega) | exact bad2.2 (by omega) | exact bad3.2 (by omega) | exact nb (bad1f.2 (by omega)) | exact nb (bad2f.2 (by omega)) | exact nb (bad3f.2 (by omega))), if_pos (by first | omega | assumption | exact bad1.2 (by omega) | exact bad2.2 (by omega) | exact bad3.2 (by omega) | exact nb (bad1f.2 (by omega)) | exact nb (bad2f.2 (by omega)) | exact nb (bad3f.2 (by omega)))]
     rw [e]
     exact ⟨A, cp, rfl, hD, fun c h => .inl h, hT0⟩

set_option maxRecDepth 100000 in
theorem rext_ok (A : Option Addr) (cp : Nat) (most : Int) (N : List Nd) (a : Int) (lo : Int) (wd : Int) (w : World) (hD : Own w 0 32 6 (.slice A N.length cp) N.length (ncs N)) (hJ : TJ N most) (ha : b64 a) (hlo : b64 lo) (hwd : b64 wd) : Ret Try.prog 64 [.agg #[.slice A N.length cp, .int .i64 most], .int .i64 a, .int .i64 lo, .int .i64 wd] w fun v w' => DRet A cp most N w (extF N most a lo wd) v w' := by
 have hlen := hJ.ti.len
 have hmost := hJ.ti.most
 have hu_a := ha; unfold b64 at hu_a
 have hu_lo := hlo; unfold b64 at hu_lo
 have hu_wd := hwd; unfold b64 at hu_wd
 refine enter Try.func64 rfl rfl ?_
 refine zQ ?_
 refine st (by rfl) (S_new (v := .pointer (some ⟨w.heap.size, 0, none⟩)) (ob := .cells #[.slice A N.length cp, .int .i64 most] 27) (by kernel_rfl) fun w1 hT2 hs3 hB4 => ?_)
 replace hB4 : Blk w1 (w.heap.size) 27 [.slice A N.length cp, .int .i64 most] := hB4
 have hT0 := hT2
 have hD := hD.tch0 hT2
 have z9 := hT0.size
 have l10 := hB4.lt
 refine st (by rfl) (S_new (v := .pointer (some ⟨w1.heap.size, 0, none⟩)) (ob := .cells #[.slice none 0 0, .int .i64 0] 27) (by kernel_rfl) fun w5 hT6 hs7 hB8 => ?_)
 replace hB8 : Blk w5 (w1.heap.size) 27 [.slice none 0 0, .int .i64 0] := hB8
 have hT0 := hT0.t0 hT6
 have hD := hD.tch0 hT6
 have hB4 := hB4.tch0 hT6
 refine zS [(9, .int .i64 0), (10, .int .i64 0)] ?_
 refine op_nil ?_
 refine W_seq ?_
 refine zQ ?_
 refine st (by rfl) (S_val (v := .agg #[.slice A N.length cp, .int .i64 most]) (R_loadA [.slice A N.length cp, .int .i64 most] (by kernel_rfl) (by kernel_rfl) (by kernel_rfl) (fun k u hk => by rw [hB4.cell]; exact get_part _ 0 _ k u rfl hk)) ?_)
 refine zS [(12, .int .i64 a)] ?_
 refine zC (ris_ok A cp most N a _ hD) ?_
 rintro _ w11 ⟨rfl, hT12⟩
 have hT0 := hT0.t0 hT12
 have hD := hD.tch0 hT12
 have hB4 := hB4.tch0 hT12
 have hB8 := hB8.tch0 hT12
 refine zS [(14, .bool (!(isT N a)))] ?_
 refine zO (!(isT N a)) (fun hc13 => ?_) (fun hc13 => ?_)
 ·
  replace hc13 : ¬ (0 ≤ a ∧ a < (N.length : Int)) := (of_decide_eq_false (not_t hc13))
  refine W_seq ?_
  refine zF [(0, .agg #[.slice A N.length cp, .int .i64 most]), (1, .int .i64 a), (2, .int .i64 lo), (3, .int .i64 wd), (4, .pointer (some ⟨w.heap.size, 0, none⟩)), (8, .pointer (some ⟨w1.heap.size, 0, none⟩)), (9, .int .i64 0), (10, .int .i64 0), (14, .bool (!(isT N a)))] fun ρ => ?_
  refine zR ?_
  refine st (by rfl) (S_val (v := .agg #[.slice A N.length cp, .int .i64 most]) (R_loadA [.slice A N.length cp, .int .i64 most] (by kernel_rfl) (by kernel_rfl) (by kernel_rfl) (fun k u hk => by rw [hB4.cell]; exact get_part _ 0 _ k u rfl hk)) ?_)
  refine st (by rfl) (S_storeA (b := w1.heap.size) (j := 0) (cs := [.slice A N.length cp, .int .i64 most]) (by kernel_rfl) (by kernel_rfl) (by kernel_rfl) (by simp [oneV]) hB8 (by simp) fun w14 hT15 hs16 hB8' => ?_)
  have hT0 := (hT0).then hT15 (fun c e => by have : c = w1.heap.size := e; omega)
  have hD := hD.tch hT15 (fun c hc e => hD.blk_ne hB8 (by decide) c hc e)
  have hB4 := hB4.tch hT15 (fun e => by have : w.heap.size = w1.heap.size := e; omega)
  replace hB8 : Blk w14 w1.heap.size 27 [.slice A N.length cp, .int .i64 most] := hB8'
  refine zS [(9, .int .i64 0), (10, .int .i64 11)] ?_
  refine op_nil ?_
  refine W_ret ?_
  refine ⟨_, Res_cell2 (b := w1.heap.size) (cs := [.slice A N.length cp, .int .i64 most]) (by rfl) (by kernel_rfl) (by kernel_rfl) (by kernel_rfl) (by kernel_rfl) hB8 (by kernel_rfl) (by kernel_rfl), ?_⟩
  have e : extF N most a lo wd = (0, 11, N) := by unfold extF; rw [if_pos (by first | omega | assumption | exact bad1.2 (by omega) | exact bad2.2 (by omega) | exact bad3.2 (by omega) | exact nb (bad1f.2 (by omega)) | exact nb (bad2f.2 (by omega)) | exact nb (bad3f.2 (by omega)))]
  rw [e]
  exact ⟨A, cp, rfl, hD, fun c h => .inl h, hT0⟩
 ·
  replace hc13 : 0 ≤ a ∧ a < (N.length : Int) := (of_decide_eq_true (not_f hc13))
  refine W_skip ?_
  refine W_seq ?_
  refine W_seq ?_
  refine zF [(0, .agg #[.slice A N.length cp, .int .i64 most]), (1, .int .i64 a), (2, .int .i64 lo), (3, .int .i64 wd), (4, .pointer (some ⟨w.heap.size, 0, none⟩)), (8, .pointer (some ⟨w1.heap.size, 0, none⟩)), (9, .int .i64 0), (10, .int .i64 0), (14, .bool (!(isT N a)))] fun ρ => ?_
  have wd_a := hJ.wid (x := a) (by omega) (by omega)
  refine zR ?_
  refine zS [(16, .int .i64 wd), (17, .bool (decide (wd < 1))), (18, .bool (decide (wd < 1)))] ?_
  cases hb17 : decide (wd < 1)
  ·
   replace hb17 : 1 ≤ wd := (Int.not_lt.1 (of_decide_eq_false hb17))
   refine zS [(19, .int .i64 wd)] ?_
   refine st (by kernel_rfl) (S_val (v := .agg #[.slice A N.length cp, .int .i64 most]) (R_loadA [.slice A N.length cp, .int .i64 most] (by kernel_rfl) (by kernel_rfl) (by kernel_rfl) (fun k u hk => by rw [hB4.cell]; exact get_part _ 0 _ k u rfl hk)) ?_)
   refine zS [(21, .int .i64 a)] ?_
   refine zC (rwid_ok A cp most N a _ hD) ?_
   rintro _ w18 ⟨rfl, hT19⟩
   have hT0 := hT0.t0 hT19
   have hD := hD.tch0 hT19
   have hB4 := hB4.tch0 hT19
   have hB8 := hB8.tch0 hT19
   refine zS [(23, .bool (decide (wd > widF N a))), (24, .bool (decide (wd > widF N a))), (25, .bool (decide (wd > widF N a)))] ?_
   cases hb20 : decide (wd > widF N a)
   ·
    replace hb20 : wd ≤ widF N a := (Int.not_lt.1 (of_decide_eq_false hb20))
    refine zS [(26, .int .i64 lo), (27, .bool (decide (lo < 0))), (28, .bool (decide (lo < 0))), (29, .bool (decide (lo < 0)))] ?_
    cases hb21 : decide (lo < 0)
    ·
     replace hb21 : 0 ≤ lo := (Int.not_lt.1 (of_decide_eq_false hb21))
     refine zS [(30, .int .i64 lo)] ?_
     refine st (by kernel_rfl) (S_val (v := .agg #[.slice A N.length cp, .int .i64 most]) (R_loadA [.slice A N.length cp, .int .i64 most] (by kernel_rfl) (by kernel_rfl) (by kernel_rfl) (fun k u hk => by rw [hB4.cell]; exact get_part _ 0 _ k u rfl hk)) ?_)
     refine zS [(32, .int .i64 a)] ?_
     refine zC (rwid_ok A cp most N a _ hD) ?_
     rintro _ w22 ⟨rfl, hT23⟩
     have hT0 := hT0.t0 hT23
     have hD := hD.tch0 hT23
     have hB4 := hB4.tch0 hT23
     have hB8 := hB8.tch0 hT23
     refine zS [(34, .int .i64 wd), (35, .int .i64 (IntKind.i64.wrap ((widF N a) - wd)))] ?_
     rw [show IntKind.i64.wrap ((widF N a) - wd) = (widF N a) - wd from wrap_i64 (by omega) (by omega)]
     refine zS [(36, .bool (decide (lo > (widF N a) - wd))), (37, .bool (decide (lo > (widF N a) - wd)))] ?_
     refine zO (decide (lo > (widF N a) - wd)) (fun hc24 => ?_) (fun hc24 => ?_)
     ·
      replace hc24 : (widF N a) - wd < lo := (of_decide_eq_true hc24)
      refine W_seq ?_
      refine zF [(0, .agg #[.slice A N.length cp, .int .i64 most]), (1, .int .i64 a), (2, .int .i64 lo), (3, .int .i64 wd), (4, .pointer (some ⟨w.heap.size, 0, none⟩)), (8, .pointer (some ⟨w1.heap.size, 0, none⟩)), (9, .int .i64 0), (10, .int .i64 0), (14, .bool (!(isT N a))), (37, .bool (decide (lo > (widF N a) - wd)))] fun ρ => ?_
      refine zR ?_
      refine st (by rfl) (S_val (v := .agg #[.slice A N.length cp, .int .i64 most]) (R_loadA [.slice A N.length cp, .int .i64 most] (by kernel_rfl) (by kernel_rfl) (by kernel_rfl) (fun k u hk => by rw [hB4.cell]; exact get_part _ 0 _ k u rfl hk)) ?_)
      refine st (by rfl) (S_storeA (b := w1.heap.size) (j := 0) (cs := [.slice A N.length cp, .int .i64 most]) (by kernel_rfl) (by kernel_rfl) (by kernel_rfl) (by simp [oneV]) hB8 (by simp) fun w25 hT26 hs27 hB8' => ?_)
      have hT0 := (hT0).then hT26 (fun c e => by have : c = w1.heap.size := e; omega)
      have hD := hD.tch hT26 (fun c hc e => hD.blk_ne hB8 (by decide) c hc e)
      have hB4 := hB4.tch hT26 (fun e => by have : w.heap.size = w1.heap.size := e; omega)
      replace hB8 : Blk w25 w1.heap.size 27 [.slice A N.length cp, .int .i64 most] := hB8'
      refine zS [(9, .int .i64 0), (10, .int .i64 2)] ?_
      refine op_nil ?_
      refine W_ret ?_
      refine ⟨_, Res_cell2 (b := w1.heap.size) (cs := [.slice A N.length cp, .int .i64 most]) (by rfl) (by kernel_rfl) (by kernel_rfl) (by kernel_rfl) (by kernel_rfl) hB8 (by kernel_rfl) (by kernel_rfl), ?_⟩
      have e : extF N most a lo wd = (0, 2, N) := by unfold extF; rw [if_neg (by first | omega | assumption | exact bad1.2 (by omega) | exact bad2.2 (by omega) | exact bad3.2 (by omega) | exact nb (bad1f.2 (by omega)) | exact nb (bad2f.2 (by omega)) | exact nb (bad3f.2 (by omega))), if_pos (by first | omega | assumption | exact bad1.2 (by omega) | exact bad2.2 (by omega) | exact bad3.2 (by omega) | exact nb (bad1f.2 (by omega)) | exact nb (bad2f.2 (by omega)) | exact nb (bad3f.2 (by omega)))]
      rw [e]
      exact ⟨A, cp, rfl, hD, fun c h => .inl h, hT0⟩
     ·
      replace hc24 : lo ≤ (widF N a) - wd := (Int.not_lt.1 (of_decide_eq_false hc24))
      refine W_skip ?_
      refine W_seq ?_
      refine zF [(0, .agg #[.slice A N.length cp, .int .i64 most]), (1, .int .i64 a), (2, .int .i64 lo), (3, .int .i64 wd), (4, .pointer (some ⟨w.heap.size, 0, none⟩)), (8, .pointer (some ⟨w1.heap.size, 0, none⟩)), (9, .int .i64 0), (10, .int .i64 0), (14, .bool (!(isT N a))), (37, .bool (decide (lo > (widF N a) - wd)))] fun ρ => ?_
      refine zR ?_
      refine st (by rfl) (S_val (v := .agg #[.slice A N.length cp, .int .i64 most]) (R_loadA [.slice A N.length cp, .int .i64 most] (by kernel_rfl) (by kernel_rfl) (by kernel_rfl) (fun k u hk => by rw [hB4.cell]; exact get_part _ 0 _ k u rfl hk)) ?_)
      refine zS [(40, .int .i64 wd), (41, .int .i64 a), (42, .int .i64 lo), (43, .agg #[.int .i64 23, .int .i64 wd, .int .i64 a, .int .i64 lo, .int .i64 0, .int .u64 0])] ?_
      have hzr := hT0.size
      have hwf : nwf (23, wd, a, lo, 0, 0) := nwf_of (by unfold b64 at *; omega) (by unfold b64 at *; omega) (by unfold b64 at *; omega) (by unfold b64 at *; omega) (by unfold b64 at *; omega) (by unfold u64; omega)
      refine zC (rmade_ok A cp most N (23, wd, a, lo, 0, 0) _ hD hJ.ti hwf) ?_
      rintro _ w28 ⟨A29, cp30, rfl, hD33, hw31, hT32⟩
      have hT0 := hT0.t0 hT32
      have hD := hD.tch0 hT32
      have hB4 := hB4.tch0 hT32
      have hB8 := hB8.tch0 hT32
      refine zS [(45, .agg #[.slice A29 ((mk N most (23, wd, a, lo, 0, 0)).2.2.length) cp30, .int .i64 most]), (46, .int .i64 ((mk N most (23, wd, a, lo, 0, 0)).1)), (47, .int .i64 ((mk N most (23, wd, a, lo, 0, 0)).2.1))] ?_
      refine st (by rfl) (S_storeA (b := w1.heap.size) (j := 0) (cs := [.slice A29 ((mk N most (23, wd, a, lo, 0, 0)).2.2.length) cp30, .int .i64 most]) (by kernel_rfl) (by kernel_rfl) (by kernel_rfl) (by simp [oneV]) hB8 (by simp) fun w34 hT35 hs36 hB8' => ?_)
      have hT0 := (hT0).then hT35 (fun c e => by have : c = w1.heap.size := e; omega)
      have hD := hD.tch hT35 (fun c hc e => hD.blk_ne hB8 (by decide) c hc e)
      have hB4 := hB4.tch hT35 (fun e => by have : w.heap.size = w1.heap.size := e; omega)
      have hD33 := hD33.tch hT35 (fun c hc e => hD33.blk_ne hB8 (by decide) c hc e)
      replace hB8 : Blk w34 w1.heap.size 27 [.slice A29 ((mk N most (23, wd, a, lo, 0, 0)).2.2.length) cp30, .int .i64 most] := hB8'
      refine zS [(9, .int .i64 ((mk N most (23, wd, a, lo, 0, 0)).1)), (10, .int .i64 ((mk N most (23, wd, a, lo, 0, 0)).2.1))] ?_
      refine op_nil ?_
      refine W_ret ?_
      refine ⟨_, Res_cell2 (b := w1.heap.size) (cs := [.slice A29 ((mk N most (23, wd, a, lo, 0, 0)).2.2.length) cp30, .int .i64 most]) (by rfl) (by kernel_rfl) (by kernel_rfl) (by kernel_rfl) (by kernel_rfl) hB8 (by kernel_rfl) (by kernel_rfl), ?_⟩
      have e : extF N most a lo wd = mk N most (23, wd, a, lo, 0, 0) := by unfold extF; rw [if_neg (by first | omega | assumption | exact bad1.2 (by omega) | exact bad2.2 (by omega) | exact bad3.2 (by omega) | exact nb (bad1f.2 (by omega)) | exact nb (bad2f.2 (by omega)) | exact nb (bad3f.2 (by omega))), if_neg (by first | omega | assumption | exact bad1.2 (by omega) | exact bad2.2 (by omega) | exact bad3.2 (by omega) | exact nb (bad1f.2 (by omega)) | exact nb (bad2f.2 (by omega)) | exact nb (bad3f.2 (by omega)))]
      rw [e]
      exact ⟨A29, cp30, rfl, hD33, fun c h => (hw31 c h).imp id (fun q => Nat.le_trans hzr q), hT0⟩
    ·
     replace hb21 : lo < 0 := (of_decide_eq_true hb21)
     refine zS [(30, undef), (31, undef), (32, undef), (33, undef), (34, undef), (35, undef), (36, undef), (37, .bool true)] ?_
     refine zO true (fun _ => ?_) (fun h => nomatch h)
     refine W_seq ?_
     refine zF [(0, .agg #[.slice A N.length cp, .int .i64 most]), (1, .int .i64 a), (2, .int .i64 lo), (3, .int .i64 wd), (4, .pointer (some ⟨w.heap.size, 0, none⟩)), (8, .pointer (some ⟨w1.heap.size, 0, none⟩)), (9, .int .i64 0), (10, .int .i64 0), (14, .bool (!(isT N a))), (37, .bool true)] fun ρ => ?_
     refine zR ?_
     refine st (by rfl) (S_val (v := .agg #[.slice A N.length cp, .int .i64 most]) (R_loadA [.slice A N.length cp, .int .i64 most] (by kernel_rfl) (by kernel_rfl) (by kernel_rfl) (fun k u hk => by rw [hB4.cell]; exact get_part _ 0 _ k u rfl hk)) ?_)
     refine st (by rfl) (S_storeA (b := w1.heap.size) (j := 0) (cs := [.slice A N.length cp, .int .i64 most]) (by kernel_rfl) (by kernel_rfl) (by kernel_rfl) (by simp [oneV]) hB8 (by simp) fun w37 hT38 hs39 hB8' => ?_)
     have hT0 := (hT0).then hT38 (fun c e => by have : c = w1.heap.size := e; omega)
     have hD := hD.tch hT38 (fun c hc e => hD.blk_ne hB8 (by decide) c hc e)
     have hB4 := hB4.tch hT38 (fun e => by have : w.heap.size = w1.heap.size := e; omega)
     replace hB8 : Blk w37 w1.heap.size 27 [.slice A N.length cp, .int .i64 most] := hB8'
     refine zS [(9, .int .i64 0), (10, .int .i64 2)] ?_
     refine op_nil ?_
     refine W_ret ?_
     refine ⟨_, Res_cell2 (b := w1.heap.size) (cs := [.slice A N.length cp, .int .i64 most]) (by rfl) (by kernel_rfl) (by kernel_rfl) (by kernel_rfl) (by kernel_rfl) hB8 (by kernel_rfl) (by kernel_rfl), ?_⟩
     have e : extF N most a lo wd = (0, 2, N) := by unfold extF; rw [if_neg (by first | omega | assumption | exact bad1.2 (by omega) | exact bad2.2 (by omega) | exact bad3.2 (by omega) | exact nb (bad1f.2 (by omega)) | exact nb (bad2f.2 (by omega)) | exact nb (bad3f.2 (by omega))), if_pos (by first | omega | assumption | exact bad1.2 (by omega) | exact bad2.2 (by omega) | exact bad3.2 (by omega) | exact nb (bad1f.2 (by omega)) | exact nb (bad2f.2 (by omega)) | exact nb (bad3f.2 (by omega)))]
     rw [e]
     exact ⟨A, cp, rfl, hD, fun c h => .inl h, hT0⟩
   ·
    replace hb20 : widF N a < wd := (of_decide_eq_true hb20)
    refine zS [(26, undef), (27, undef), (28, .bool true), (29, .bool true), (30, undef), (31, undef), (32, undef), (33, undef), (34, undef), (35, undef), (36, undef), (37, .bool true)] ?_
    refine zO true (fun _ => ?_) (fun h => nomatch h)
    refine W_seq ?_
    refine zF [(0, .agg #[.slice A N.length cp, .int .i64 most]), (1, .int .i64 a), (2, .int .i64 lo), (3, .int .i64 wd), (4, .pointer (some ⟨w.heap.size, 0, none⟩)), (8, .pointer (some ⟨w1.heap.size, 0, none⟩)), (9, .int .i64 0), (10, .int .i64 0), (14, .bool (!(isT N a))), (37, .bool true)] fun ρ => ?_
    refine zR ?_
    refine st (by rfl) (S_val (v := .agg #[.slice A N.length cp, .int .i64 most]) (R_loadA [.slice A N.length cp, .int .i64 most] (by kernel_rfl) (by kernel_rfl) (by kernel_rfl) (fun k u hk => by rw [hB4.cell]; exact get_part _ 0 _ k u rfl hk)) ?_)
    refine st (by rfl) (S_storeA (b := w1.heap.size) (j := 0) (cs := [.slice A N.length cp, .int .i64 most]) (by kernel_rfl) (by kernel_rfl) (by kernel_rfl) (by simp [oneV]) hB8 (by simp) fun w40 hT41 hs42 hB8' => ?_)
    have hT0 := (hT0).then hT41 (fun c e => by have : c = w1.heap.size := e; omega)
    have hD := hD.tch hT41 (fun c hc e => hD.blk_ne hB8 (by decide) c hc e)
    have hB4 := hB4.tch hT41 (fun e => by have : w.heap.size = w1.heap.size := e; omega)
    replace hB8 : Blk w40 w1.heap.size 27 [.slice A N.length cp, .int .i64 most] := hB8'
    refine zS [(9, .int .i64 0), (10, .int .i64 2)] ?_
    refine op_nil ?_
    refine W_ret ?_
    refine ⟨_, Res_cell2 (b := w1.heap.size) (cs := [.slice A N.length cp, .int .i64 most]) (by rfl) (by kernel_rfl) (by kernel_rfl) (by kernel_rfl) (by kernel_rfl) hB8 (by kernel_rfl) (by kernel_rfl), ?_⟩
    have e : extF N most a lo wd = (0, 2, N) := by unfold extF; rw [if_neg (by first | omega | assumption | exact bad1.2 (by omega) | exact bad2.2 (by omega) | exact bad3.2 (by omega) | exact nb (bad1f.2 (by omega)) | exact nb (bad2f.2 (by omega)) | exact nb (bad3f.2 (by omega))), if_pos (by first | omega | assumption | exact bad1.2 (by omega) | exact bad2.2 (by omega) | exact bad3.2 (by omega) | exact nb (bad1f.2 (by omega)) | exact nb (bad2f.2 (by omega)) | exact nb (bad3f.2 (by omega)))]
    rw [e]
    exact ⟨A, cp, rfl, hD, fun c h => .inl h, hT0⟩
  ·
   replace hb17 : wd < 1 := (of_decide_eq_true hb17)
   refine zS [(19, undef), (20, undef), (21, undef), (22, undef), (23, undef), (24, .bool true), (25, .bool true), (26, undef), (27, undef), (28, .bool true), (29, .bool true), (30, undef), (31, undef), (32, undef), (33, undef), (34, undef), (35, undef), (36, undef), (37, .bool true)] ?_
   refine zO true (fun _ => ?_) (fun h => nomatch h)
   refine W_seq ?_
   refine zF [(0, .agg #[.slice A N.length cp, .int .i64 most]), (1, .int .i64 a), (2, .int .i64 lo), (3, .int .i64 wd), (4, .pointer (some ⟨w.heap.size, 0, none⟩)), (8, .pointer (some ⟨w1.heap.size, 0, none⟩)), (9, .int .i64 0), (10, .int .i64 0), (14, .bool (!(isT N a))), (37, .bool true)] fun ρ => ?_
   refine zR ?_
   refine st (by rfl) (S_val (v := .agg #[.slice A N.length cp, .int .i64 most]) (R_loadA [.slice A N.length cp, .int .i64 most] (by kernel_rfl) (by kernel_rfl) (by kernel_rfl) (fun k u hk => by rw [hB4.cell]; exact get_part _ 0 _ k u rfl hk)) ?_)
   refine st (by rfl) (S_storeA (b := w1.heap.size) (j := 0) (cs := [.slice A N.length cp, .int .i64 most]) (by kernel_rfl) (by kernel_rfl) (by kernel_rfl) (by simp [oneV]) hB8 (by simp) fun w43 hT44 hs45 hB8' => ?_)
   have hT0 := (hT0).then hT44 (fun c e => by have : c = w1.heap.size := e; omega)
   have hD := hD.tch hT44 (fun c hc e => hD.blk_ne hB8 (by decide) c hc e)
   have hB4 := hB4.tch hT44 (fun e => by have : w.heap.size = w1.heap.size := e; omega)
   replace hB8 : Blk w43 w1.heap.size 27 [.slice A N.length cp, .int .i64 most] := hB8'
   refine zS [(9, .int .i64 0), (10, .int .i64 2)] ?_
   refine op_nil ?_
   refine W_ret ?_
   refine ⟨_, Res_cell2 (b := w1.heap.size) (cs := [.slice A N.length cp, .int .i64 most]) (by rfl) (by kernel_rfl) (by kernel_rfl) (by kernel_rfl) (by kernel_rfl) hB8 (by kernel_rfl) (by kernel_rfl), ?_⟩
   have e : extF N most a lo wd = (0, 2, N) := by unfold extF; rw [if_neg (by first | omega | assumption | exact bad1.2 (by omega) | exact bad2.2 (by omega) | exact bad3.2 (by omega) | exact nb (bad1f.2 (by omega)) | exact nb (bad2f.2 (by omega)) | exact nb (bad3f.2 (by omega))), if_pos (by first | omega | assumption | exact bad1.2 (by omega) | exact bad2.2 (by omega) | exact bad3.2 (by omega) | exact nb (bad1f.2 (by omega)) | exact nb (bad2f.2 (by omega)) | exact nb (bad3f.2 (by omega)))]
   rw [e]
   exact ⟨A, cp, rfl, hD, fun c h => .inl h, hT0⟩

set_option maxRecDepth 100000 in
theorem rcat_ok (A : Option Addr) (cp : Nat) (most : Int) (N : List Nd) (a : Int) (b : Int) (w : World) (hD : Own w 0 32 6 (.slice A N.length cp) N.length (ncs N)) (hJ : TJ N most) (ha : b64 a) (hb : b64 b) : Ret Try.prog 65 [.agg #[.slice A N.length cp, .int .i64 most], .int .i64 a, .int .i64 b] w fun v w' => DRet A cp most N w (catF N most a b) v w' := by
 have hlen := hJ.ti.len
 have hmost := hJ.ti.most
 have hu_a := ha; unfold b64 at hu_a
 have hu_b := hb; unfold b64 at hu_b
 refine enter Try.func65 rfl rfl ?_
 refine zQ ?_
 refine st (by rfl) (S_new (v := .pointer (some ⟨w.heap.size, 0, none⟩)) (ob := .cells #[.slice A N.length cp, .int .i64 most] 27) (by kernel_rfl) fun w1 hT2 hs3 hB4 => ?_)
 replace hB4 : Blk w1 (w.heap.size) 27 [.slice A N.length cp, .int .i64 most] := hB4
 have hT0 := hT2
 have hD := hD.tch0 hT2
 have z9 := hT0.size
 have l10 := hB4.lt
 refine st (by rfl) (S_new (v := .pointer (some ⟨w1.heap.size, 0, none⟩)) (ob := .cells #[.slice none 0 0, .int .i64 0] 27) (by kernel_rfl) fun w5 hT6 hs7 hB8 => ?_)
 replace hB8 : Blk w5 (w1.heap.size) 27 [.slice none 0 0, .int .i64 0] := hB8
 have hT0 := hT0.t0 hT6
 have hD := hD.tch0 hT6
 have hB4 := hB4.tch0 hT6
 refine zS [(7, .int .i64 0), (8, .int .i64 0)] ?_
 refine op_nil ?_
 refine W_seq ?_
 refine zQ ?_
 refine st (by rfl) (S_val (v := .agg #[.slice A N.length cp, .int .i64 most]) (R_loadA [.slice A N.length cp, .int .i64 most] (by kernel_rfl) (by kernel_rfl) (by kernel_rfl) (fun k u hk => by rw [hB4.cell]; exact get_part _ 0 _ k u rfl hk)) ?_)
 refine zS [(10, .int .i64 a)] ?_
 refine zC (ris_ok A cp most N a _ hD) ?_
 rintro _ w11 ⟨rfl, hT12⟩
 have hT0 := hT0.t0 hT12
 have hD := hD.tch0 hT12
 have hB4 := hB4.tch0 hT12
 have hB8 := hB8.tch0 hT12
 refine zS [(12, .bool (!(isT N a))), (13, .bool (!(isT N a)))] ?_
 cases hb13 : isT N a
 ·
  replace hb13 : ¬ (0 ≤ a ∧ a < (N.length : Int)) := (of_decide_eq_false hb13)
  refine zS [(14, undef), (15, undef), (16, undef), (17, undef), (18, .bool true)] ?_
  refine zO true (fun _ => ?_) (fun h => nomatch h)
  refine W_seq ?_
  refine zF [(0, .agg #[.slice A N.length cp, .int .i64 most]), (1, .int .i64 a), (2, .int .i64 b), (3, .pointer (some ⟨w.heap.size, 0, none⟩)), (6, .pointer (some ⟨w1.heap.size, 0, none⟩)), (7, .int .i64 0), (8, .int .i64 0), (18, .bool true)] fun ρ => ?_
  refine zR ?_
  refine st (by rfl) (S_val (v := .agg #[.slice A N.length cp, .int .i64 most]) (R_loadA [.slice A N.length cp, .int .i64 most] (by kernel_rfl) (by kernel_rfl) (by kernel_rfl) (fun k u hk => by rw [hB4.cell]; exact get_part _ 0 _ k u rfl hk)) ?_)
  refine st (by rfl) (S_storeA (b := w1.heap.size) (j := 0) (cs := [.slice A N.length cp, .int .i64 most]) (by kernel_rfl) (by kernel_rfl) (by kernel_rfl) (by simp [oneV]) hB8 (by simp) fun w14 hT15 hs16 hB8' => ?_)
  have hT0 := (hT0).then hT15 (fun c e => by have : c = w1.heap.size := e; omega)
  have hD := hD.tch hT15 (fun c hc e => hD.blk_ne hB8 (by decide) c hc e)
  have hB4 := hB4.tch hT15 (fun e => by have : w.heap.size = w1.heap.size := e; omega)
  replace hB8 : Blk w14 w1.heap.size 27 [.slice A N.length cp, .int .i64 most] := hB8'
  refine zS [(7, .int .i64 0), (8, .int .i64 11)] ?_
  refine op_nil ?_
  refine W_ret ?_
  refine ⟨_, Res_cell2 (b := w1.heap.size) (cs := [.slice A N.length cp, .int .i64 most]) (by rfl) (by kernel_rfl) (by kernel_rfl) (by kernel_rfl) (by kernel_rfl) hB8 (by kernel_rfl) (by kernel_rfl), ?_⟩
  have e : catF N most a b = (0, 11, N) := by unfold catF; rw [if_pos (by first | omega | assumption | exact bad1.2 (by omega) | exact bad2.2 (by omega) | exact bad3.2 (by omega) | exact nb (bad1f.2 (by omega)) | exact nb (bad2f.2 (by omega)) | exact nb (bad3f.2 (by omega)))]
  rw [e]
  exact ⟨A, cp, rfl, hD, fun c h => .inl h, hT0⟩
 ·
  replace hb13 : 0 ≤ a ∧ a < (N.length : Int) := (of_decide_eq_true hb13)
  refine st (by kernel_rfl) (S_val (v := .agg #[.slice A N.length cp, .int .i64 most]) (R_loadA [.slice A N.length cp, .int .i64 most] (by kernel_rfl) (by kernel_rfl) (by kernel_rfl) (fun k u hk => by rw [hB4.cell]; exact get_part _ 0 _ k u rfl hk)) ?_)
  refine zS [(15, .int .i64 b)] ?_
  refine zC (ris_ok A cp most N b _ hD) ?_
  rintro _ w17 ⟨rfl, hT18⟩
  have hT0 := hT0.t0 hT18
  have hD := hD.tch0 hT18
  have hB4 := hB4.tch0 hT18
  have hB8 := hB8.tch0 hT18
  refine zS [(17, .bool (!(isT N b))), (18, .bool (!(isT N b)))] ?_
  refine zO (!(isT N b)) (fun hc19 => ?_) (fun hc19 => ?_)
  ·
   replace hc19 : ¬ (0 ≤ b ∧ b < (N.length : Int)) := (of_decide_eq_false (not_t hc19))
   refine W_seq ?_
   refine zF [(0, .agg #[.slice A N.length cp, .int .i64 most]), (1, .int .i64 a), (2, .int .i64 b), (3, .pointer (some ⟨w.heap.size, 0, none⟩)), (6, .pointer (some ⟨w1.heap.size, 0, none⟩)), (7, .int .i64 0), (8, .int .i64 0), (18, .bool (!(isT N b)))] fun ρ => ?_
   refine zR ?_
   refine st (by rfl) (S_val (v := .agg #[.slice A N.length cp, .int .i64 most]) (R_loadA [.slice A N.length cp, .int .i64 most] (by kernel_rfl) (by kernel_rfl) (by kernel_rfl) (fun k u hk => by rw [hB4.cell]; exact get_part _ 0 _ k u rfl hk)) ?_)
   refine st (by rfl) (S_storeA (b := w1.heap.size) (j := 0) (cs := [.slice A N.length cp, .int .i64 most]) (by kernel_rfl) (by kernel_rfl) (by kernel_rfl) (by simp [oneV]) hB8 (by simp) fun w20 hT21 hs22 hB8' => ?_)
   have hT0 := (hT0).then hT21 (fun c e => by have : c = w1.heap.size := e; omega)
   have hD := hD.tch hT21 (fun c hc e => hD.blk_ne hB8 (by decide) c hc e)
   have hB4 := hB4.tch hT21 (fun e => by have : w.heap.size = w1.heap.size := e; omega)
   replace hB8 : Blk w20 w1.heap.size 27 [.slice A N.length cp, .int .i64 most] := hB8'
   refine zS [(7, .int .i64 0), (8, .int .i64 11)] ?_
   refine op_nil ?_
   refine W_ret ?_
   refine ⟨_, Res_cell2 (b := w1.heap.size) (cs := [.slice A N.length cp, .int .i64 most]) (by rfl) (by kernel_rfl) (by kernel_rfl) (by kernel_rfl) (by kernel_rfl) hB8 (by kernel_rfl) (by kernel_rfl), ?_⟩
   have e : catF N most a b = (0, 11, N) := by unfold catF; rw [if_pos (by first | omega | assumption | exact bad1.2 (by omega) | exact bad2.2 (by omega) | exact bad3.2 (by omega) | exact nb (bad1f.2 (by omega)) | exact nb (bad2f.2 (by omega)) | exact nb (bad3f.2 (by omega)))]
   rw [e]
   exact ⟨A, cp, rfl, hD, fun c h => .inl h, hT0⟩
  ·
   replace hc19 : 0 ≤ b ∧ b < (N.length : Int) := (of_decide_eq_true (not_f hc19))
   refine W_skip ?_
   refine W_seq ?_
   refine W_seq ?_
   refine zF [(0, .agg #[.slice A N.length cp, .int .i64 most]), (1, .int .i64 a), (2, .int .i64 b), (3, .pointer (some ⟨w.heap.size, 0, none⟩)), (6, .pointer (some ⟨w1.heap.size, 0, none⟩)), (7, .int .i64 0), (8, .int .i64 0), (18, .bool (!(isT N b)))] fun ρ => ?_
   have wd_a := hJ.wid (x := a) (by omega) (by omega)
   have wd_b := hJ.wid (x := b) (by omega) (by omega)
   refine W_draw (fun w' => Blk w' (w.heap.size) 27 [.slice A N.length cp, .int .i64 most]) (by kernel_rfl) (by kernel_rfl) (by kernel_rfl) fun w23 hT24 hh25 => ?_
   have hT0 := hT0.t0 hT24
   have hD := hD.tch0 hT24
   have hB4 := hB4.tch0 hT24
   have hB8 := hB8.tch0 hT24
   refine zK [1, 4] #[false, true, false, false, true, false, false, false] [(21, .int .i64 a), (24, .int .i64 b)] hB4 ?_
   refine zV 0 rfl (.agg #[.slice A N.length cp, .int .i64 most]) (fun _ hB4 => R_loadA [.slice A N.length cp, .int .i64 most] (by kernel_rfl) (by kernel_rfl) (by kernel_rfl) (fun k u hk => by rw [hB4.cell]; exact get_part _ 0 _ k u rfl hk)) hB4 ?_
   refine zV 3 rfl (.agg #[.slice A N.length cp, .int .i64 most]) (fun _ hB4 => R_loadA [.slice A N.length cp, .int .i64 most] (by kernel_rfl) (by kernel_rfl) (by kernel_rfl) (fun k u hk => by rw [hB4.cell]; exact get_part _ 0 _ k u rfl hk)) hB4 ?_
   refine zD 2 rfl (S_call (args := [.agg #[.slice A N.length cp, .int .i64 most], .int .i64 a]) (by kernel_rfl) (rwid_ok A cp most N a _ hD) ?_)
   rintro _ w26 ⟨rfl, hT27⟩
   have hT0 := hT0.t0 hT27
   have hD := hD.tch0 hT27
   have hB4 := hB4.tch0 hT27
   have hB8 := hB8.tch0 hT27
   refine ⟨hB4, ?_⟩
   refine zD 5 rfl (S_call (args := [.agg #[.slice A N.length cp, .int .i64 most], .int .i64 b]) (by kernel_rfl) (rwid_ok A cp most N b _ hD) ?_)
   rintro _ w28 ⟨rfl, hT29⟩
   have hT0 := hT0.t0 hT29
   have hD := hD.tch0 hT29
   have hB4 := hB4.tch0 hT29
   have hB8 := hB8.tch0 hT29
   refine ⟨hB4, ?_⟩
   refine zK [6] #[true, true, true, true, true, true, true, false] [(26, .int .i64 (IntKind.i64.wrap ((widF N a) + (widF N b))))] hB4 ?_
   rw [show IntKind.i64.wrap ((widF N a) + (widF N b)) = (widF N a) + (widF N b) from wrap_i64 (by omega) (by omega)]
   refine zK [7] #[true, true, true, true, true, true, true, true] [(27, .bool (decide ((widF N a) + (widF N b) > 64)))] hB4 ?_
   refine d_done (by kernel_rfl) ?_
   refine zW (decide ((widF N a) + (widF N b) > 64)) (fun hc30 => ?_) (fun hc30 => ?_)
   ·
    replace hc30 : 64 < (widF N a) + (widF N b) := (of_decide_eq_true hc30)
    refine W_seq ?_
    refine zF [(0, .agg #[.slice A N.length cp, .int .i64 most]), (1, .int .i64 a), (2, .int .i64 b), (3, .pointer (some ⟨w.heap.size, 0, none⟩)), (6, .pointer (some ⟨w1.heap.size, 0, none⟩)), (7, .int .i64 0), (8, .int .i64 0), (18, .bool (!(isT N b))), (27, .bool (decide ((widF N a) + (widF N b) > 64)))] fun ρ => ?_
    refine zR ?_
    refine st (by rfl) (S_val (v := .agg #[.slice A N.length cp, .int .i64 most]) (R_loadA [.slice A N.length cp, .int .i64 most] (by kernel_rfl) (by kernel_rfl) (by kernel_rfl) (fun k u hk => by rw [hB4.cell]; exact get_part _ 0 _ k u rfl hk)) ?_)
    refine st (by rfl) (S_storeA (b := w1.heap.size) (j := 0) (cs := [.slice A N.length cp, .int .i64 most]) (by kernel_rfl) (by kernel_rfl) (by kernel_rfl) (by simp [oneV]) hB8 (by simp) fun w31 hT32 hs33 hB8' => ?_)
    have hT0 := (hT0).then hT32 (fun c e => by have : c = w1.heap.size := e; omega)
    have hD := hD.tch hT32 (fun c hc e => hD.blk_ne hB8 (by decide) c hc e)
    have hB4 := hB4.tch hT32 (fun e => by have : w.heap.size = w1.heap.size := e; omega)
    replace hB8 : Blk w31 w1.heap.size 27 [.slice A N.length cp, .int .i64 most] := hB8'
    refine zS [(7, .int .i64 0), (8, .int .i64 2)] ?_
    refine op_nil ?_
    refine W_ret ?_
    refine ⟨_, Res_cell2 (b := w1.heap.size) (cs := [.slice A N.length cp, .int .i64 most]) (by rfl) (by kernel_rfl) (by kernel_rfl) (by kernel_rfl) (by kernel_rfl) hB8 (by kernel_rfl) (by kernel_rfl), ?_⟩
    have e : catF N most a b = (0, 2, N) := by unfold catF; rw [if_neg (by first | omega | assumption | exact bad1.2 (by omega) | exact bad2.2 (by omega) | exact bad3.2 (by omega) | exact nb (bad1f.2 (by omega)) | exact nb (bad2f.2 (by omega)) | exact nb (bad3f.2 (by omega))), if_pos (by first | omega | assumption | exact bad1.2 (by omega) | exact bad2.2 (by omega) | exact bad3.2 (by omega) | exact nb (bad1f.2 (by omega)) | exact nb (bad2f.2 (by omega)) | exact nb (bad3f.2 (by omega)))]
    rw [e]
    exact ⟨A, cp, rfl, hD, fun c h => .inl h, hT0⟩
   ·
    replace hc30 : (widF N a) + (widF N b) ≤ 64 := (Int.not_lt.1 (of_decide_eq_false hc30))
    refine W_skip ?_
    refine W_seq ?_
    refine zF [(0, .agg #[.slice A N.length cp, .int .i64 most]), (1, .int .i64 a), (2, .int .i64 b), (3, .pointer (some ⟨w.heap.size, 0, none⟩)), (6, .pointer (some ⟨w1.heap.size, 0, none⟩)), (7, .int .i64 0), (8, .int .i64 0), (18, .bool (!(isT N b))), (27, .bool (decide ((widF N a) + (widF N b) > 64)))] fun ρ => ?_
    refine W_draw (fun w' => Blk w' (w.heap.size) 27 [.slice A N.length cp, .int .i64 most]) (by kernel_rfl) (by kernel_rfl) (by kernel_rfl) fun w34 hT35 hh36 => ?_
    have hT0 := hT0.t0 hT35
    have hD := hD.tch0 hT35
    have hB4 := hB4.tch0 hT35
    have hB8 := hB8.tch0 hT35
    refine zK [2, 5, 8, 9] #[false, false, true, false, false, true, false, false, true, true, false, false, false, false, false, false, false, false] [(31, .int .i64 a), (34, .int .i64 b), (37, .int .i64 a), (38, .int .i64 b)] hB4 ?_
    refine zV 0 rfl (.agg #[.slice A N.length cp, .int .i64 most]) (fun _ hB4 => R_loadA [.slice A N.length cp, .int .i64 most] (by kernel_rfl) (by kernel_rfl) (by kernel_rfl) (fun k u hk => by rw [hB4.cell]; exact get_part _ 0 _ k u rfl hk)) hB4 ?_
    refine zV 1 rfl (.agg #[.slice A N.length cp, .int .i64 most]) (fun _ hB4 => R_loadA [.slice A N.length cp, .int .i64 most] (by kernel_rfl) (by kernel_rfl) (by kernel_rfl) (fun k u hk => by rw [hB4.cell]; exact get_part _ 0 _ k u rfl hk)) hB4 ?_
    refine zV 4 rfl (.agg #[.slice A N.length cp, .int .i64 most]) (fun _ hB4 => R_loadA [.slice A N.length cp, .int .i64 most] (by kernel_rfl) (by kernel_rfl) (by kernel_rfl) (fun k u hk => by rw [hB4.cell]; exact get_part _ 0 _ k u rfl hk)) hB4 ?_
    refine zD 3 rfl (S_call (args := [.agg #[.slice A N.length cp, .int .i64 most], .int .i64 a]) (by kernel_rfl) (rwid_ok A cp most N a _ hD) ?_)
    rintro _ w37 ⟨rfl, hT38⟩
    have hT0 := hT0.t0 hT38
    have hD := hD.tch0 hT38
    have hB4 := hB4.tch0 hT38
    have hB8 := hB8.tch0 hT38
    refine ⟨hB4, ?_⟩
    refine zD 6 rfl (S_call (args := [.agg #[.slice A N.length cp, .int .i64 most], .int .i64 b]) (by kernel_rfl) (rwid_ok A cp most N b _ hD) ?_)
    rintro _ w39 ⟨rfl, hT40⟩
    have hT0 := hT0.t0 hT40
    have hD := hD.tch0 hT40
    have hB4 := hB4.tch0 hT40
    have hB8 := hB8.tch0 hT40
    refine ⟨hB4, ?_⟩
    refine zK [7] #[true, true, true, true, true, true, true, true, true, true, false, false, false, false, false, false, false, false] [(36, .int .i64 (IntKind.i64.wrap ((widF N a) + (widF N b))))] hB4 ?_
    rw [show IntKind.i64.wrap ((widF N a) + (widF N b)) = (widF N a) + (widF N b) from wrap_i64 (by omega) (by omega)]
    refine zK [10] #[true, true, true, true, true, true, true, true, true, true, true, false, false, false, false, false, false, false] [(39, .agg #[.int .i64 24, .int .i64 ((widF N a) + (widF N b)), .int .i64 a, .int .i64 b, .int .i64 0, .int .u64 0])] hB4 ?_
    have hzr := hT0.size
    have hwf : nwf (24, (widF N a) + (widF N b), a, b, 0, 0) := nwf_of (by unfold b64 at *; omega) (by unfold b64 at *; omega) (by unfold b64 at *; omega) (by unfold b64 at *; omega) (by unfold b64 at *; omega) (by unfold u64; omega)
    refine zD 11 rfl (S_call (args := [.agg #[.slice A N.length cp, .int .i64 most], .agg #[.int .i64 24, .int .i64 ((widF N a) + (widF N b)), .int .i64 a, .int .i64 b, .int .i64 0, .int .u64 0]]) (by kernel_rfl) (rmade_ok A cp most N (24, (widF N a) + (widF N b), a, b, 0, 0) _ hD hJ.ti hwf) ?_)
    rintro _ w41 ⟨A42, cp43, rfl, hD46, hw44, hT45⟩
    have hT0 := hT0.t0 hT45
    have hD := hD.tch0 hT45
    have hB4 := hB4.tch0 hT45
    have hB8 := hB8.tch0 hT45
    refine ⟨hB4, ?_⟩
    refine zK [12, 13, 14] #[true, true, true, true, true, true, true, true, true, true, true, true, true, true, true, false, false, false] [(41, .agg #[.slice A42 ((mk N most (24, (widF N a) + (widF N b), a, b, 0, 0)).2.2.length) cp43, .int .i64 most]), (42, .int .i64 ((mk N most (24, (widF N a) + (widF N b), a, b, 0, 0)).1)), (43, .int .i64 ((mk N most (24, (widF N a) + (widF N b), a, b, 0, 0)).2.1))] hB4 ?_
    refine zD 15 rfl (S_storeA (b := w1.heap.size) (j := 0) (cs := [.slice A42 ((mk N most (24, (widF N a) + (widF N b), a, b, 0, 0)).2.2.length) cp43, .int .i64 most]) (by kernel_rfl) (by kernel_rfl) (by kernel_rfl) (by simp [oneV]) hB8 (by simp) fun w47 hT48 hs49 hB8' => ?_)
    have hT0 := (hT0).then hT48 (fun c e => by have : c = w1.heap.size := e; omega)
    have hD := hD.tch hT48 (fun c hc e => hD.blk_ne hB8 (by decide) c hc e)
    have hB4 := hB4.tch hT48 (fun e => by have : w.heap.size = w1.heap.size := e; omega)
    have hD46 := hD46.tch hT48 (fun c hc e => hD46.blk_ne hB8 (by decide) c hc e)
    replace hB8 : Blk w47 w1.heap.size 27 [.slice A42 ((mk N most (24, (widF N a) + (widF N b), a, b, 0, 0)).2.2.length) cp43, .int .i64 most] := hB8'
    refine ⟨hB4, ?_⟩
    refine zK [16, 17] #[true, true, true, true, true, true, true, true, true, true, true, true, true, true, true, true, true, true] [(7, .int .i64 ((mk N most (24, (widF N a) + (widF N b), a, b, 0, 0)).1)), (8, .int .i64 ((mk N most (24, (widF N a) + (widF N b), a, b, 0, 0)).2.1))] hB4 ?_
    refine d_done (by kernel_rfl) ?_
    refine W_ret ?_
    refine ⟨_, Res_cell2 (b := w1.heap.size) (cs := [.slice A42 ((mk N most (24, (widF N a) + (widF N b), a, b, 0, 0)).2.2.length) cp43, .int .i64 most]) (by rfl) (by kernel_rfl) (by kernel_rfl) (by kernel_rfl) (by kernel_rfl) hB8 (by kernel_rfl) (by kernel_rfl), ?_⟩
    have e : catF N most a b = mk N most (24, (widF N a) + (widF N b), a, b, 0, 0) := by unfold catF; rw [if_neg (by first | omega | assumption | exact bad1.2 (by omega) | exact bad2.2 (by omega) | exact bad3.2 (by omega) | exact nb (bad1f.2 (by omega)) | exact nb (bad2f.2 (by omega)) | exact nb (bad3f.2 (by omega))), if_neg (by first | omega | assumption | exact bad1.2 (by omega) | exact bad2.2 (by omega) | exact bad3.2 (by omega) | exact nb (bad1f.2 (by omega)) | exact nb (bad2f.2 (by omega)) | exact nb (bad3f.2 (by omega)))]
    rw [e]
    exact ⟨A42, cp43, rfl, hD46, fun c h => (hw44 c h).imp id (fun q => Nat.le_trans hzr q), hT0⟩

set_option maxRecDepth 100000 in
theorem rexd_ok (A : Option Addr) (cp : Nat) (most : Int) (N : List Nd) (a : Int) (wd : Int) (sgd : Bool) (w : World) (hD : Own w 0 32 6 (.slice A N.length cp) N.length (ncs N)) (hJ : TJ N most) (ha : b64 a) (hwd : b64 wd) : Ret Try.prog 66 [.agg #[.slice A N.length cp, .int .i64 most], .int .i64 a, .int .i64 wd, .bool sgd] w fun v w' => DRet A cp most N w (exdF N most a wd sgd) v w' := by
 have hlen := hJ.ti.len
 have hmost := hJ.ti.most
 have hu_a := ha; unfold b64 at hu_a
 have hu_wd := hwd; unfold b64 at hu_wd
 refine enter Try.func66 rfl rfl ?_
 refine zQ ?_
 refine st (by rfl) (S_new (v := .pointer (some ⟨w.heap.size, 0, none⟩)) (ob := .cells #[.slice A N.length cp, .int .i64 most] 27) (by kernel_rfl) fun w1 hT2 hs3 hB4 => ?_)
 replace hB4 : Blk w1 (w.heap.size) 27 [.slice A N.length cp, .int .i64 most] := hB4
 have hT0 := hT2
 have hD := hD.tch0 hT2
 have z9 := hT0.size
 have l10 := hB4.lt
 refine st (by rfl) (S_new (v := .pointer (some ⟨w1.heap.size, 0, none⟩)) (ob := .cells #[.slice none 0 0, .int .i64 0] 27) (by kernel_rfl) fun w5 hT6 hs7 hB8 => ?_)
 replace hB8 : Blk w5 (w1.heap.size) 27 [.slice none 0 0, .int .i64 0] := hB8
 have hT0 := hT0.t0 hT6
 have hD := hD.tch0 hT6
 have hB4 := hB4.tch0 hT6
 refine zS [(9, .int .i64 0), (10, .int .i64 0)] ?_
 refine op_nil ?_
 refine W_seq ?_
 refine zQ ?_
 refine st (by rfl) (S_val (v := .agg #[.slice A N.length cp, .int .i64 most]) (R_loadA [.slice A N.length cp, .int .i64 most] (by kernel_rfl) (by kernel_rfl) (by kernel_rfl) (fun k u hk => by rw [hB4.cell]; exact get_part _ 0 _ k u rfl hk)) ?_)
 refine zS [(12, .int .i64 a)] ?_
 refine zC (ris_ok A cp most N a _ hD) ?_
 rintro _ w11 ⟨rfl, hT12⟩
 have hT0 := hT0.t0 hT12
 have hD := hD.tch0 hT12
 have hB4 := hB4.tch0 hT12
 have hB8 := hB8.tch0 hT12
 refine zS [(14, .bool (!(isT N a)))] ?_
 refine zO (!(isT N a)) (fun hc13 => ?_) (fun hc13 => ?_)
 ·
  replace hc13 : ¬ (0 ≤ a ∧ a < (N.length : Int)) := (of_decide_eq_false (not_t hc13))
  refine W_seq ?_
  refine zF [(0, .agg #[.slice A N.length cp, .int .i64 most]), (1, .int .i64 a), (2, .int .i64 wd), (3, .bool sgd), (4, .pointer (some ⟨w.heap.size, 0, none⟩)), (8, .pointer (some ⟨w1.heap.size, 0, none⟩)), (9, .int .i64 0), (10, .int .i64 0), (14, .bool (!(isT N a)))] fun ρ => ?_
  refine zR ?_
  refine st (by rfl) (S_val (v := .agg #[.slice A N.length cp, .int .i64 most]) (R_loadA [.slice A N.length cp, .int .i64 most] (by kernel_rfl) (by kernel_rfl) (by kernel_rfl) (fun k u hk => by rw [hB4.cell]; exact get_part _ 0 _ k u rfl hk)) ?_)
  refine st (by rfl) (S_storeA (b := w1.heap.size) (j := 0) (cs := [.slice A N.length cp, .int .i64 most]) (by kernel_rfl) (by kernel_rfl) (by kernel_rfl) (by simp [oneV]) hB8 (by simp) fun w14 hT15 hs16 hB8' => ?_)
  have hT0 := (hT0).then hT15 (fun c e => by have : c = w1.heap.size := e; omega)
  have hD := hD.tch hT15 (fun c hc e => hD.blk_ne hB8 (by decide) c hc e)
  have hB4 := hB4.tch hT15 (fun e => by have : w.heap.size = w1.heap.size := e; omega)
  replace hB8 : Blk w14 w1.heap.size 27 [.slice A N.length cp, .int .i64 most] := hB8'
  refine zS [(9, .int .i64 0), (10, .int .i64 11)] ?_
  refine op_nil ?_
  refine W_ret ?_
  refine ⟨_, Res_cell2 (b := w1.heap.size) (cs := [.slice A N.length cp, .int .i64 most]) (by rfl) (by kernel_rfl) (by kernel_rfl) (by kernel_rfl) (by kernel_rfl) hB8 (by kernel_rfl) (by kernel_rfl), ?_⟩
  have e : exdF N most a wd sgd = (0, 11, N) := by unfold exdF; rw [if_pos (by first | omega | assumption | exact bad1.2 (by omega) | exact bad2.2 (by omega) | exact bad3.2 (by omega) | exact nb (bad1f.2 (by omega)) | exact nb (bad2f.2 (by omega)) | exact nb (bad3f.2 (by omega)))]
  rw [e]
  exact ⟨A, cp, rfl, hD, fun c h => .inl h, hT0⟩
 ·
  replace hc13 : 0 ≤ a ∧ a < (N.length : Int) := (of_decide_eq_true (not_f hc13))
  refine W_skip ?_
  refine W_seq ?_
  refine W_seq ?_
  refine zF [(0, .agg #[.slice A N.length cp, .int .i64 most]), (1, .int .i64 a), (2, .int .i64 wd), (3, .bool sgd), (4, .pointer (some ⟨w.heap.size, 0, none⟩)), (8, .pointer (some ⟨w1.heap.size, 0, none⟩)), (9, .int .i64 0), (10, .int .i64 0), (14, .bool (!(isT N a)))] fun ρ => ?_
  have wd_a := hJ.wid (x := a) (by omega) (by omega)
  refine zR ?_
  refine zS [(16, .int .i64 wd)] ?_
  refine st (by rfl) (S_val (v := .agg #[.slice A N.length cp, .int .i64 most]) (R_loadA [.slice A N.length cp, .int .i64 most] (by kernel_rfl) (by kernel_rfl) (by kernel_rfl) (fun k u hk => by rw [hB4.cell]; exact get_part _ 0 _ k u rfl hk)) ?_)
  refine zS [(18, .int .i64 a)] ?_
  refine zC (rwid_ok A cp most N a _ hD) ?_
  rintro _ w17 ⟨rfl, hT18⟩
  have hT0 := hT0.t0 hT18
  have hD := hD.tch0 hT18
  have hB4 := hB4.tch0 hT18
  have hB8 := hB8.tch0 hT18
  refine zS [(20, .bool (decide (wd < widF N a))), (21, .bool (decide (wd < widF N a)))] ?_
  cases hb19 : decide (wd < widF N a)
  ·
   replace hb19 : widF N a ≤ wd := (Int.not_lt.1 (of_decide_eq_false hb19))
   refine zS [(22, .int .i64 wd), (23, .bool (decide (wd > 64))), (24, .bool (decide (wd > 64)))] ?_
   refine zO (decide (wd > 64)) (fun hc20 => ?_) (fun hc20 => ?_)
   ·
    replace hc20 : 64 < wd := (of_decide_eq_true hc20)
    refine W_seq ?_
    refine zF [(0, .agg #[.slice A N.length cp, .int .i64 most]), (1, .int .i64 a), (2, .int .i64 wd), (3, .bool sgd), (4, .pointer (some ⟨w.heap.size, 0, none⟩)), (8, .pointer (some ⟨w1.heap.size, 0, none⟩)), (9, .int .i64 0), (10, .int .i64 0), (14, .bool (!(isT N a))), (24, .bool (decide (wd > 64)))] fun ρ => ?_
    refine zR ?_
    refine st (by rfl) (S_val (v := .agg #[.slice A N.length cp, .int .i64 most]) (R_loadA [.slice A N.length cp, .int .i64 most] (by kernel_rfl) (by kernel_rfl) (by kernel_rfl) (fun k u hk => by rw [hB4.cell]; exact get_part _ 0 _ k u rfl hk)) ?_)
    refine st (by rfl) (S_storeA (b := w1.heap.size) (j := 0) (cs := [.slice A N.length cp, .int .i64 most]) (by kernel_rfl) (by kernel_rfl) (by kernel_rfl) (by simp [oneV]) hB8 (by simp) fun w21 hT22 hs23 hB8' => ?_)
    have hT0 := (hT0).then hT22 (fun c e => by have : c = w1.heap.size := e; omega)
    have hD := hD.tch hT22 (fun c hc e => hD.blk_ne hB8 (by decide) c hc e)
    have hB4 := hB4.tch hT22 (fun e => by have : w.heap.size = w1.heap.size := e; omega)
    replace hB8 : Blk w21 w1.heap.size 27 [.slice A N.length cp, .int .i64 most] := hB8'
    refine zS [(9, .int .i64 0), (10, .int .i64 2)] ?_
    refine op_nil ?_
    refine W_ret ?_
    refine ⟨_, Res_cell2 (b := w1.heap.size) (cs := [.slice A N.length cp, .int .i64 most]) (by rfl) (by kernel_rfl) (by kernel_rfl) (by kernel_rfl) (by kernel_rfl) hB8 (by kernel_rfl) (by kernel_rfl), ?_⟩
    have e : exdF N most a wd sgd = (0, 2, N) := by unfold exdF; rw [if_neg (by first | omega | assumption | exact bad1.2 (by omega) | exact bad2.2 (by omega) | exact bad3.2 (by omega) | exact nb (bad1f.2 (by omega)) | exact nb (bad2f.2 (by omega)) | exact nb (bad3f.2 (by omega))), if_pos (by first | omega | assumption | exact bad1.2 (by omega) | exact bad2.2 (by omega) | exact bad3.2 (by omega) | exact nb (bad1f.2 (by omega)) | exact nb (bad2f.2 (by omega)) | exact nb (bad3f.2 (by omega)))]
    rw [e]
    exact ⟨A, cp, rfl, hD, fun c h => .inl h, hT0⟩
   ·
    replace hc20 : wd ≤ 64 := (Int.not_lt.1 (of_decide_eq_false hc20))
    refine W_skip ?_
    refine W_seq ?_
    refine W_seq ?_
    refine zF [(0, .agg #[.slice A N.length cp, .int .i64 most]), (1, .int .i64 a), (2, .int .i64 wd), (3, .bool sgd), (4, .pointer (some ⟨w.heap.size, 0, none⟩)), (8, .pointer (some ⟨w1.heap.size, 0, none⟩)), (9, .int .i64 0), (10, .int .i64 0), (14, .bool (!(isT N a))), (24, .bool (decide (wd > 64)))] fun ρ => ?_
    refine zR ?_
    refine zS [(26, .int .i64 wd)] ?_
    refine st (by rfl) (S_val (v := .agg #[.slice A N.length cp, .int .i64 most]) (R_loadA [.slice A N.length cp, .int .i64 most] (by kernel_rfl) (by kernel_rfl) (by kernel_rfl) (fun k u hk => by rw [hB4.cell]; exact get_part _ 0 _ k u rfl hk)) ?_)
    refine zS [(28, .int .i64 a)] ?_
    refine zC (rwid_ok A cp most N a _ hD) ?_
    rintro _ w24 ⟨rfl, hT25⟩
    have hT0 := hT0.t0 hT25
    have hD := hD.tch0 hT25
    have hB4 := hB4.tch0 hT25
    have hB8 := hB8.tch0 hT25
    refine zS [(30, .bool (wd == (widF N a)))] ?_
    refine zO (wd == (widF N a)) (fun hc26 => ?_) (fun hc26 => ?_)
    ·
     replace hc26 : wd = widF N a := (eq_of_beq hc26)
     refine zQ ?_
     refine st (by rfl) (S_val (v := .agg #[.slice A N.length cp, .int .i64 most]) (R_loadA [.slice A N.length cp, .int .i64 most] (by kernel_rfl) (by kernel_rfl) (by kernel_rfl) (fun k u hk => by rw [hB4.cell]; exact get_part _ 0 _ k u rfl hk)) ?_)
     refine zS [(32, .int .i64 a)] ?_
     refine st (by rfl) (S_storeA (b := w1.heap.size) (j := 0) (cs := [.slice A N.length cp, .int .i64 most]) (by kernel_rfl) (by kernel_rfl) (by kernel_rfl) (by simp [oneV]) hB8 (by simp) fun w27 hT28 hs29 hB8' => ?_)
     have hT0 := (hT0).then hT28 (fun c e => by have : c = w1.heap.size := e; omega)
     have hD := hD.tch hT28 (fun c hc e => hD.blk_ne hB8 (by decide) c hc e)
     have hB4 := hB4.tch hT28 (fun e => by have : w.heap.size = w1.heap.size := e; omega)
     replace hB8 : Blk w27 w1.heap.size 27 [.slice A N.length cp, .int .i64 most] := hB8'
     refine zS [(9, .int .i64 a), (10, .int .i64 0)] ?_
     refine op_nil ?_
     refine W_ret ?_
     refine ⟨_, Res_cell2 (b := w1.heap.size) (cs := [.slice A N.length cp, .int .i64 most]) (by rfl) (by kernel_rfl) (by kernel_rfl) (by kernel_rfl) (by kernel_rfl) hB8 (by kernel_rfl) (by kernel_rfl), ?_⟩
     have e : exdF N most a wd sgd = (a, 0, N) := by unfold exdF; rw [if_neg (by first | omega | assumption | exact bad1.2 (by omega) | exact bad2.2 (by omega) | exact bad3.2 (by omega) | exact nb (bad1f.2 (by omega)) | exact nb (bad2f.2 (by omega)) | exact nb (bad3f.2 (by omega))), if_neg (by first | omega | assumption | exact bad1.2 (by omega) | exact bad2.2 (by omega) | exact bad3.2 (by omega) | exact nb (bad1f.2 (by omega)) | exact nb (bad2f.2 (by omega)) | exact nb (bad3f.2 (by omega))), if_pos (by first | omega | assumption | exact bad1.2 (by omega) | exact bad2.2 (by omega) | exact bad3.2 (by omega) | exact nb (bad1f.2 (by omega)) | exact nb (bad2f.2 (by omega)) | exact nb (bad3f.2 (by omega)))]
     rw [e]
     exact ⟨A, cp, rfl, hD, fun c h => .inl h, hT0⟩
    ·
     replace hc26 : wd ≠ widF N a := (ne_of_beq_false hc26)
     refine W_skip ?_
     refine W_seq ?_
     refine zQ ?_
     refine zS [(33, .bool sgd)] ?_
     refine zO (sgd) (fun hc30 => ?_) (fun hc30 => ?_)
     ·
      replace hc30 : sgd = true := (hc30)
      refine zQ ?_
      refine st (by rfl) (S_val (v := .agg #[.slice A N.length cp, .int .i64 most]) (R_loadA [.slice A N.length cp, .int .i64 most] (by kernel_rfl) (by kernel_rfl) (by kernel_rfl) (fun k u hk => by rw [hB4.cell]; exact get_part _ 0 _ k u rfl hk)) ?_)
      refine zS [(35, .int .i64 wd), (36, .int .i64 a), (37, .agg #[.int .i64 26, .int .i64 wd, .int .i64 a, .int .i64 0, .int .i64 0, .int .u64 0])] ?_
      have hzr := hT0.size
      have hwf : nwf (26, wd, a, 0, 0, 0) := nwf_of (by unfold b64 at *; omega) (by unfold b64 at *; omega) (by unfold b64 at *; omega) (by unfold b64 at *; omega) (by unfold b64 at *; omega) (by unfold u64; omega)
      refine zC (rmade_ok A cp most N (26, wd, a, 0, 0, 0) _ hD hJ.ti hwf) ?_
      rintro _ w31 ⟨A32, cp33, rfl, hD36, hw34, hT35⟩
      have hT0 := hT0.t0 hT35
      have hD := hD.tch0 hT35
      have hB4 := hB4.tch0 hT35
      have hB8 := hB8.tch0 hT35
      refine zS [(39, .agg #[.slice A32 ((mk N most (26, wd, a, 0, 0, 0)).2.2.length) cp33, .int .i64 most]), (40, .int .i64 ((mk N most (26, wd, a, 0, 0, 0)).1)), (41, .int .i64 ((mk N most (26, wd, a, 0, 0, 0)).2.1))] ?_
      refine st (by rfl) (S_storeA (b := w1.heap.size) (j := 0) (cs := [.slice A32 ((mk N most (26, wd, a, 0, 0, 0)).2.2.length) cp33, .int .i64 most]) (by kernel_rfl) (by kernel_rfl) (by kernel_rfl) (by simp [oneV]) hB8 (by simp) fun w37 hT38 hs39 hB8' => ?_)
      have hT0 := (hT0).then hT38 (fun c e => by have : c = w1.heap.size := e; omega)
      have hD := hD.tch hT38 (fun c hc e => hD.blk_ne hB8 (by decide) c hc e)
      have hB4 := hB4.tch hT38 (fun e => by have : w.heap.size = w1.heap.size := e; omega)
      have hD36 := hD36.tch hT38 (fun c hc e => hD36.blk_ne hB8 (by decide) c hc e)
      replace hB8 : Blk w37 w1.heap.size 27 [.slice A32 ((mk N most (26, wd, a, 0, 0, 0)).2.2.length) cp33, .int .i64 most] := hB8'
      refine zS [(9, .int .i64 ((mk N most (26, wd, a, 0, 0, 0)).1)), (10, .int .i64 ((mk N most (26, wd, a, 0, 0, 0)).2.1))] ?_
      refine op_nil ?_
      refine W_ret ?_
      refine ⟨_, Res_cell2 (b := w1.heap.size) (cs := [.slice A32 ((mk N most (26, wd, a, 0, 0, 0)).2.2.length) cp33, .int .i64 most]) (by rfl) (by kernel_rfl) (by kernel_rfl) (by kernel_rfl) (by kernel_rfl) hB8 (by kernel_rfl) (by kernel_rfl), ?_⟩
      have e : exdF N most a wd sgd = mk N most (26, wd, a, 0, 0, 0) := by unfold exdF; rw [if_neg (by first | omega | assumption | exact bad1.2 (by omega) | exact bad2.2 (by omega) | exact bad3.2 (by omega) | exact nb (bad1f.2 (by omega)) | exact nb (bad2f.2 (by omega)) | exact nb (bad3f.2 (by omega))), if_neg (by first | omega | assumption | exact bad1.2 (by omega) | exact bad2.2 (by omega) | exact bad3.2 (by omega) | exact nb (bad1f.2 (by omega)) | exact nb (bad2f.2 (by omega)) | exact nb (bad3f.2 (by omega))), if_neg (by first | omega | assumption | exact bad1.2 (by omega) | exact bad2.2 (by omega) | exact bad3.2 (by omega) | exact nb (bad1f.2 (by omega)) | exact nb (bad2f.2 (by omega)) | exact nb (bad3f.2 (by omega))), if_pos (by first | assumption | exact nb (by assumption))]
      rw [e]
      exact ⟨A32, cp33, rfl, hD36, fun c h => (hw34 c h).imp id (fun q => Nat.le_trans hzr q), hT0⟩
     ·
      replace hc30 : sgd = false := (hc30)
      refine W_skip ?_
      refine zQ ?_
      refine st (by rfl) (S_val (v := .agg #[.slice A N.length cp, .int .i64 most]) (R_loadA [.slice A N.length cp, .int .i64 most] (by kernel_rfl) (by kernel_rfl) (by kernel_rfl) (fun k u hk => by rw [hB4.cell]; exact get_part _ 0 _ k u rfl hk)) ?_)
      refine zS [(43, .int .i64 wd), (44, .int .i64 a), (45, .agg #[.int .i64 25, .int .i64 wd, .int .i64 a, .int .i64 0, .int .i64 0, .int .u64 0])] ?_
      have hzr := hT0.size
      have hwf : nwf (25, wd, a, 0, 0, 0) := nwf_of (by unfold b64 at *; omega) (by unfold b64 at *; omega) (by unfold b64 at *; omega) (by unfold b64 at *; omega) (by unfold b64 at *; omega) (by unfold u64; omega)
      refine zC (rmade_ok A cp most N (25, wd, a, 0, 0, 0) _ hD hJ.ti hwf) ?_
      rintro _ w40 ⟨A41, cp42, rfl, hD45, hw43, hT44⟩
      have hT0 := hT0.t0 hT44
      have hD := hD.tch0 hT44
      have hB4 := hB4.tch0 hT44
      have hB8 := hB8.tch0 hT44
      refine zS [(47, .agg #[.slice A41 ((mk N most (25, wd, a, 0, 0, 0)).2.2.length) cp42, .int .i64 most]), (48, .int .i64 ((mk N most (25, wd, a, 0, 0, 0)).1)), (49, .int .i64 ((mk N most (25, wd, a, 0, 0, 0)).2.1))] ?_
      refine st (by rfl) (S_storeA (b := w1.heap.size) (j := 0) (cs := [.slice A41 ((mk N most (25, wd, a, 0, 0, 0)).2.2.length) cp42, .int .i64 most]) (by kernel_rfl) (by kernel_rfl) (by kernel_rfl) (by simp [oneV]) hB8 (by simp) fun w46 hT47 hs48 hB8' => ?_)
      have hT0 := (hT0).then hT47 (fun c e => by have : c = w1.heap.size := e; omega)
      have hD := hD.tch hT47 (fun c hc e => hD.blk_ne hB8 (by decide) c hc e)
      have hB4 := hB4.tch hT47 (fun e => by have : w.heap.size = w1.heap.size := e; omega)
      have hD45 := hD45.tch hT47 (fun c hc e => hD45.blk_ne hB8 (by decide) c hc e)
      replace hB8 : Blk w46 w1.heap.size 27 [.slice A41 ((mk N most (25, wd, a, 0, 0, 0)).2.2.length) cp42, .int .i64 most] := hB8'
      refine zS [(9, .int .i64 ((mk N most (25, wd, a, 0, 0, 0)).1)), (10, .int .i64 ((mk N most (25, wd, a, 0, 0, 0)).2.1))] ?_
      refine op_nil ?_
      refine W_ret ?_
      refine ⟨_, Res_cell2 (b := w1.heap.size) (cs := [.slice A41 ((mk N most (25, wd, a, 0, 0, 0)).2.2.length) cp42, .int .i64 most]) (by rfl) (by kernel_rfl) (by kernel_rfl) (by kernel_rfl) (by kernel_rfl) hB8 (by kernel_rfl) (by kernel_rfl), ?_⟩
      have e : exdF N most a wd sgd = mk N most (25, wd, a, 0, 0, 0) := by unfold exdF; rw [if_neg (by first | omega | assumption | exact bad1.2 (by omega) | exact bad2.2 (by omega) | exact bad3.2 (by omega) | exact nb (bad1f.2 (by omega)) | exact nb (bad2f.2 (by omega)) | exact nb (bad3f.2 (by omega))), if_neg (by first | omega | assumption | exact bad1.2 (by omega) | exact bad2.2 (by omega) | exact bad3.2 (by omega) | exact nb (bad1f.2 (by omega)) | exact nb (bad2f.2 (by omega)) | exact nb (bad3f.2 (by omega))), if_neg (by first | omega | assumption | exact bad1.2 (by omega) | exact bad2.2 (by omega) | exact bad3.2 (by omega) | exact nb (bad1f.2 (by omega)) | exact nb (bad2f.2 (by omega)) | exact nb (bad3f.2 (by omega))), if_neg (by first | assumption | exact nb (by assumption))]
      rw [e]
      exact ⟨A41, cp42, rfl, hD45, fun c h => (hw43 c h).imp id (fun q => Nat.le_trans hzr q), hT0⟩
  ·
   replace hb19 : wd < widF N a := (of_decide_eq_true hb19)
   refine zS [(22, undef), (23, undef), (24, .bool true)] ?_
   refine zO true (fun _ => ?_) (fun h => nomatch h)
   refine W_seq ?_
   refine zF [(0, .agg #[.slice A N.length cp, .int .i64 most]), (1, .int .i64 a), (2, .int .i64 wd), (3, .bool sgd), (4, .pointer (some ⟨w.heap.size, 0, none⟩)), (8, .pointer (some ⟨w1.heap.size, 0, none⟩)), (9, .int .i64 0), (10, .int .i64 0), (14, .bool (!(isT N a))), (24, .bool true)] fun ρ => ?_
   refine zR ?_
   refine st (by rfl) (S_val (v := .agg #[.slice A N.length cp, .int .i64 most]) (R_loadA [.slice A N.length cp, .int .i64 most] (by kernel_rfl) (by kernel_rfl) (by kernel_rfl) (fun k u hk => by rw [hB4.cell]; exact get_part _ 0 _ k u rfl hk)) ?_)
   refine st (by rfl) (S_storeA (b := w1.heap.size) (j := 0) (cs := [.slice A N.length cp, .int .i64 most]) (by kernel_rfl) (by kernel_rfl) (by kernel_rfl) (by simp [oneV]) hB8 (by simp) fun w49 hT50 hs51 hB8' => ?_)
   have hT0 := (hT0).then hT50 (fun c e => by have : c = w1.heap.size := e; omega)
   have hD := hD.tch hT50 (fun c hc e => hD.blk_ne hB8 (by decide) c hc e)
   have hB4 := hB4.tch hT50 (fun e => by have : w.heap.size = w1.heap.size := e; omega)
   replace hB8 : Blk w49 w1.heap.size 27 [.slice A N.length cp, .int .i64 most] := hB8'
   refine zS [(9, .int .i64 0), (10, .int .i64 2)] ?_
   refine op_nil ?_
   refine W_ret ?_
   refine ⟨_, Res_cell2 (b := w1.heap.size) (cs := [.slice A N.length cp, .int .i64 most]) (by rfl) (by kernel_rfl) (by kernel_rfl) (by kernel_rfl) (by kernel_rfl) hB8 (by kernel_rfl) (by kernel_rfl), ?_⟩
   have e : exdF N most a wd sgd = (0, 2, N) := by unfold exdF; rw [if_neg (by first | omega | assumption | exact bad1.2 (by omega) | exact bad2.2 (by omega) | exact bad3.2 (by omega) | exact nb (bad1f.2 (by omega)) | exact nb (bad2f.2 (by omega)) | exact nb (bad3f.2 (by omega))), if_pos (by first | omega | assumption | exact bad1.2 (by omega) | exact bad2.2 (by omega) | exact bad3.2 (by omega) | exact nb (bad1f.2 (by omega)) | exact nb (bad2f.2 (by omega)) | exact nb (bad3f.2 (by omega)))]
   rw [e]
   exact ⟨A, cp, rfl, hD, fun c h => .inl h, hT0⟩

set_option maxRecDepth 100000 in
theorem rcst_ok (A : Option Addr) (cp : Nat) (most : Int) (N : List Nd) (wd : Int) (x : Int) (w : World) (hD : Own w 0 32 6 (.slice A N.length cp) N.length (ncs N)) (hJ : TJ N most) (hwd : b64 wd) (hx : u64 x) : Ret Try.prog 59 [.agg #[.slice A N.length cp, .int .i64 most], .int .i64 wd, .int .u64 x] w fun v w' => DRet A cp most N w (constF N most wd x) v w' := by
 have hlen := hJ.ti.len
 have hmost := hJ.ti.most
 have hu_wd := hwd; unfold b64 at hu_wd
 refine enter Try.func59 rfl rfl ?_
 refine zQ ?_
 refine st (by rfl) (S_new (v := .pointer (some ⟨w.heap.size, 0, none⟩)) (ob := .cells #[.slice A N.length cp, .int .i64 most] 27) (by kernel_rfl) fun w1 hT2 hs3 hB4 => ?_)
 replace hB4 : Blk w1 (w.heap.size) 27 [.slice A N.length cp, .int .i64 most] := hB4
 have hT0 := hT2
 have hD := hD.tch0 hT2
 have z9 := hT0.size
 have l10 := hB4.lt
 refine st (by rfl) (S_new (v := .pointer (some ⟨w1.heap.size, 0, none⟩)) (ob := .cells #[.slice none 0 0, .int .i64 0] 27) (by kernel_rfl) fun w5 hT6 hs7 hB8 => ?_)
 replace hB8 : Blk w5 (w1.heap.size) 27 [.slice none 0 0, .int .i64 0] := hB8
 have hT0 := hT0.t0 hT6
 have hD := hD.tch0 hT6
 have hB4 := hB4.tch0 hT6
 refine zS [(7, .int .i64 0), (8, .int .i64 0)] ?_
 refine op_nil ?_
 refine W_seq ?_
 refine zQ ?_
 refine zS [(9, .int .i64 wd)] ?_
 refine zC (rfits_ok wd _) ?_
 rintro _ w11 ⟨rfl, hT12⟩
 have hT0 := hT0.t0 hT12
 have hD := hD.tch0 hT12
 have hB4 := hB4.tch0 hT12
 have hB8 := hB8.tch0 hT12
 refine zS [(11, .bool (!(fitsW wd)))] ?_
 refine zO (!(fitsW wd)) (fun hc13 => ?_) (fun hc13 => ?_)
 ·
  replace hc13 : ¬ (1 ≤ wd ∧ wd ≤ 64) := (of_decide_eq_false (not_t hc13))
  refine zQ ?_
  refine st (by rfl) (S_val (v := .agg #[.slice A N.length cp, .int .i64 most]) (R_loadA [.slice A N.length cp, .int .i64 most] (by kernel_rfl) (by kernel_rfl) (by kernel_rfl) (fun k u hk => by rw [hB4.cell]; exact get_part _ 0 _ k u rfl hk)) ?_)
  refine st (by rfl) (S_storeA (b := w1.heap.size) (j := 0) (cs := [.slice A N.length cp, .int .i64 most]) (by kernel_rfl) (by kernel_rfl) (by kernel_rfl) (by simp [oneV]) hB8 (by simp) fun w14 hT15 hs16 hB8' => ?_)
  have hT0 := (hT0).then hT15 (fun c e => by have : c = w1.heap.size := e; omega)
  have hD := hD.tch hT15 (fun c hc e => hD.blk_ne hB8 (by decide) c hc e)
  have hB4 := hB4.tch hT15 (fun e => by have : w.heap.size = w1.heap.size := e; omega)
  replace hB8 : Blk w14 w1.heap.size 27 [.slice A N.length cp, .int .i64 most] := hB8'
  refine zS [(7, .int .i64 0), (8, .int .i64 2)] ?_
  refine op_nil ?_
  refine W_ret ?_
  refine ⟨_, Res_cell2 (b := w1.heap.size) (cs := [.slice A N.length cp, .int .i64 most]) (by rfl) (by kernel_rfl) (by kernel_rfl) (by kernel_rfl) (by kernel_rfl) hB8 (by kernel_rfl) (by kernel_rfl), ?_⟩
  have e : constF N most wd x = (0, 2, N) := by unfold constF; rw [if_pos (by first | omega | assumption | exact bad1.2 (by omega) | exact bad2.2 (by omega) | exact bad3.2 (by omega) | exact nb (bad1f.2 (by omega)) | exact nb (bad2f.2 (by omega)) | exact nb (bad3f.2 (by omega)))]
  rw [e]
  exact ⟨A, cp, rfl, hD, fun c h => .inl h, hT0⟩
 ·
  replace hc13 : 1 ≤ wd ∧ wd ≤ 64 := (of_decide_eq_true (not_f hc13))
  refine W_skip ?_
  refine W_seq ?_
  refine W_draw (fun w' => Blk w' (w.heap.size) 27 [.slice A N.length cp, .int .i64 most]) (by kernel_rfl) (by kernel_rfl) (by kernel_rfl) fun w17 hT18 hh19 => ?_
  have hT0 := hT0.t0 hT18
  have hD := hD.tch0 hT18
  have hB4 := hB4.tch0 hT18
  have hB8 := hB8.tch0 hT18
  refine zK [1, 2, 3] #[false, true, true, true, false, false, false, false, false, false, false, false, false] [(14, .int .i64 wd), (15, .int .i64 wd), (16, .int .u64 x)] hB4 ?_
  refine zV 0 rfl (.agg #[.slice A N.length cp, .int .i64 most]) (fun _ hB4 => R_loadA [.slice A N.length cp, .int .i64 most] (by kernel_rfl) (by kernel_rfl) (by kernel_rfl) (fun k u hk => by rw [hB4.cell]; exact get_part _ 0 _ k u rfl hk)) hB4 ?_
  refine zD 4 rfl (S_call (args := [.int .i64 wd, .int .u64 x]) (by kernel_rfl) (rcut_ok wd x _) ?_)
  rintro _ w20 ⟨rfl, hT21⟩
  have hT0 := hT0.t0 hT21
  have hD := hD.tch0 hT21
  have hB4 := hB4.tch0 hT21
  have hB8 := hB8.tch0 hT21
  refine ⟨hB4, ?_⟩
  refine zK [5] #[true, true, true, true, true, true, false, false, false, false, false, false, false] [(18, .agg #[.int .i64 20, .int .i64 wd, .int .i64 0, .int .i64 0, .int .i64 0, .int .u64 (cutF wd x)])] hB4 ?_
  have hzr := hT0.size
  have hwf : nwf (20, wd, 0, 0, 0, cutF wd x) := nwf_of (by unfold b64 at *; omega) (by unfold b64 at *; omega) (by unfold b64 at *; omega) (by unfold b64 at *; omega) (by unfold b64 at *; omega) (cut_u64 _ _)
  refine zD 6 rfl (S_call (args := [.agg #[.slice A N.length cp, .int .i64 most], .agg #[.int .i64 20, .int .i64 wd, .int .i64 0, .int .i64 0, .int .i64 0, .int .u64 (cutF wd x)]]) (by kernel_rfl) (rmade_ok A cp most N (20, wd, 0, 0, 0, cutF wd x) _ hD hJ.ti hwf) ?_)
  rintro _ w22 ⟨A23, cp24, rfl, hD27, hw25, hT26⟩
  have hT0 := hT0.t0 hT26
  have hD := hD.tch0 hT26
  have hB4 := hB4.tch0 hT26
  have hB8 := hB8.tch0 hT26
  refine ⟨hB4, ?_⟩
  refine zK [7, 8, 9] #[true, true, true, true, true, true, true, true, true, true, false, false, false] [(20, .agg #[.slice A23 ((mk N most (20, wd, 0, 0, 0, cutF wd x)).2.2.length) cp24, .int .i64 most]), (21, .int .i64 ((mk N most (20, wd, 0, 0, 0, cutF wd x)).1)), (22, .int .i64 ((mk N most (20, wd, 0, 0, 0, cutF wd x)).2.1))] hB4 ?_
  refine zD 10 rfl (S_storeA (b := w1.heap.size) (j := 0) (cs := [.slice A23 ((mk N most (20, wd, 0, 0, 0, cutF wd x)).2.2.length) cp24, .int .i64 most]) (by kernel_rfl) (by kernel_rfl) (by kernel_rfl) (by simp [oneV]) hB8 (by simp) fun w28 hT29 hs30 hB8' => ?_)
  have hT0 := (hT0).then hT29 (fun c e => by have : c = w1.heap.size := e; omega)
  have hD := hD.tch hT29 (fun c hc e => hD.blk_ne hB8 (by decide) c hc e)
  have hB4 := hB4.tch hT29 (fun e => by have : w.heap.size = w1.heap.size := e; omega)
  have hD27 := hD27.tch hT29 (fun c hc e => hD27.blk_ne hB8 (by decide) c hc e)
  replace hB8 : Blk w28 w1.heap.size 27 [.slice A23 ((mk N most (20, wd, 0, 0, 0, cutF wd x)).2.2.length) cp24, .int .i64 most] := hB8'
  refine ⟨hB4, ?_⟩
  refine zK [11, 12] #[true, true, true, true, true, true, true, true, true, true, true, true, true] [(7, .int .i64 ((mk N most (20, wd, 0, 0, 0, cutF wd x)).1)), (8, .int .i64 ((mk N most (20, wd, 0, 0, 0, cutF wd x)).2.1))] hB4 ?_
  refine d_done (by kernel_rfl) ?_
  refine W_ret ?_
  refine ⟨_, Res_cell2 (b := w1.heap.size) (cs := [.slice A23 ((mk N most (20, wd, 0, 0, 0, cutF wd x)).2.2.length) cp24, .int .i64 most]) (by rfl) (by kernel_rfl) (by kernel_rfl) (by kernel_rfl) (by kernel_rfl) hB8 (by kernel_rfl) (by kernel_rfl), ?_⟩
  have e : constF N most wd x = mk N most (20, wd, 0, 0, 0, cutF wd x) := by unfold constF; rw [if_neg (by first | omega | assumption | exact bad1.2 (by omega) | exact bad2.2 (by omega) | exact bad3.2 (by omega) | exact nb (bad1f.2 (by omega)) | exact nb (bad2f.2 (by omega)) | exact nb (bad3f.2 (by omega)))]
  rw [e]
  exact ⟨A23, cp24, rfl, hD27, fun c h => (hw25 c h).imp id (fun q => Nat.le_trans hzr q), hT0⟩

set_option maxRecDepth 100000 in
theorem rvar_ok (A : Option Addr) (cp : Nat) (most : Int) (N : List Nd) (wd : Int) (ix : Int) (w : World) (hD : Own w 0 32 6 (.slice A N.length cp) N.length (ncs N)) (hJ : TJ N most) (hwd : b64 wd) (hix : b64 ix) : Ret Try.prog 60 [.agg #[.slice A N.length cp, .int .i64 most], .int .i64 wd, .int .i64 ix] w fun v w' => DRet A cp most N w (varF N most wd ix) v w' := by
 have hlen := hJ.ti.len
 have hmost := hJ.ti.most
 have hu_wd := hwd; unfold b64 at hu_wd
 have hu_ix := hix; unfold b64 at hu_ix
 refine enter Try.func60 rfl rfl ?_
 refine zQ ?_
 refine st (by rfl) (S_new (v := .pointer (some ⟨w.heap.size, 0, none⟩)) (ob := .cells #[.slice A N.length cp, .int .i64 most] 27) (by kernel_rfl) fun w1 hT2 hs3 hB4 => ?_)
 replace hB4 : Blk w1 (w.heap.size) 27 [.slice A N.length cp, .int .i64 most] := hB4
 have hT0 := hT2
 have hD := hD.tch0 hT2
 have z9 := hT0.size
 have l10 := hB4.lt
 refine st (by rfl) (S_new (v := .pointer (some ⟨w1.heap.size, 0, none⟩)) (ob := .cells #[.slice none 0 0, .int .i64 0] 27) (by kernel_rfl) fun w5 hT6 hs7 hB8 => ?_)
 replace hB8 : Blk w5 (w1.heap.size) 27 [.slice none 0 0, .int .i64 0] := hB8
 have hT0 := hT0.t0 hT6
 have hD := hD.tch0 hT6
 have hB4 := hB4.tch0 hT6
 refine zS [(7, .int .i64 0), (8, .int .i64 0)] ?_
 refine op_nil ?_
 refine W_seq ?_
 refine zQ ?_
 refine zS [(10, .int .i64 wd)] ?_
 refine zC (rfits_ok wd _) ?_
 rintro _ w11 ⟨rfl, hT12⟩
 have hT0 := hT0.t0 hT12
 have hD := hD.tch0 hT12
 have hB4 := hB4.tch0 hT12
 have hB8 := hB8.tch0 hT12
 refine zS [(12, .bool (!(fitsW wd)))] ?_
 refine zO (!(fitsW wd)) (fun hc13 => ?_) (fun hc13 => ?_)
 ·
  replace hc13 : ¬ (1 ≤ wd ∧ wd ≤ 64) := (of_decide_eq_false (not_t hc13))
  refine zQ ?_
  refine st (by rfl) (S_val (v := .agg #[.slice A N.length cp, .int .i64 most]) (R_loadA [.slice A N.length cp, .int .i64 most] (by kernel_rfl) (by kernel_rfl) (by kernel_rfl) (fun k u hk => by rw [hB4.cell]; exact get_part _ 0 _ k u rfl hk)) ?_)
  refine st (by rfl) (S_storeA (b := w1.heap.size) (j := 0) (cs := [.slice A N.length cp, .int .i64 most]) (by kernel_rfl) (by kernel_rfl) (by kernel_rfl) (by simp [oneV]) hB8 (by simp) fun w14 hT15 hs16 hB8' => ?_)
  have hT0 := (hT0).then hT15 (fun c e => by have : c = w1.heap.size := e; omega)
  have hD := hD.tch hT15 (fun c hc e => hD.blk_ne hB8 (by decide) c hc e)
  have hB4 := hB4.tch hT15 (fun e => by have : w.heap.size = w1.heap.size := e; omega)
  replace hB8 : Blk w14 w1.heap.size 27 [.slice A N.length cp, .int .i64 most] := hB8'
  refine zS [(7, .int .i64 0), (8, .int .i64 2)] ?_
  refine op_nil ?_
  refine W_ret ?_
  refine ⟨_, Res_cell2 (b := w1.heap.size) (cs := [.slice A N.length cp, .int .i64 most]) (by rfl) (by kernel_rfl) (by kernel_rfl) (by kernel_rfl) (by kernel_rfl) hB8 (by kernel_rfl) (by kernel_rfl), ?_⟩
  have e : varF N most wd ix = (0, 2, N) := by unfold varF; rw [if_pos (by first | omega | assumption | exact bad1.2 (by omega) | exact bad2.2 (by omega) | exact bad3.2 (by omega) | exact nb (bad1f.2 (by omega)) | exact nb (bad2f.2 (by omega)) | exact nb (bad3f.2 (by omega)))]
  rw [e]
  exact ⟨A, cp, rfl, hD, fun c h => .inl h, hT0⟩
 ·
  replace hc13 : 1 ≤ wd ∧ wd ≤ 64 := (of_decide_eq_true (not_f hc13))
  refine W_skip ?_
  refine W_seq ?_
  refine zQ ?_
  refine zS [(14, .int .i64 ix), (15, .bool (decide (ix < 0))), (16, .bool (decide (ix < 0)))] ?_
  cases hb17 : decide (ix < 0)
  ·
   replace hb17 : 0 ≤ ix := (Int.not_lt.1 (of_decide_eq_false hb17))
   refine zS [(17, .int .i64 ix), (18, .bool (decide (ix > 255))), (19, .bool (decide (ix > 255)))] ?_
   refine zO (decide (ix > 255)) (fun hc18 => ?_) (fun hc18 => ?_)
   ·
    replace hc18 : 255 < ix := (of_decide_eq_true hc18)
    refine W_seq ?_
    refine zF [(0, .agg #[.slice A N.length cp, .int .i64 most]), (1, .int .i64 wd), (2, .int .i64 ix), (3, .pointer (some ⟨w.heap.size, 0, none⟩)), (6, .pointer (some ⟨w1.heap.size, 0, none⟩)), (7, .int .i64 0), (8, .int .i64 0), (12, .bool (!(fitsW wd))), (19, .bool (decide (ix > 255)))] fun ρ => ?_
    refine zR ?_
    refine st (by rfl) (S_val (v := .agg #[.slice A N.length cp, .int .i64 most]) (R_loadA [.slice A N.length cp, .int .i64 most] (by kernel_rfl) (by kernel_rfl) (by kernel_rfl) (fun k u hk => by rw [hB4.cell]; exact get_part _ 0 _ k u rfl hk)) ?_)
    refine st (by rfl) (S_storeA (b := w1.heap.size) (j := 0) (cs := [.slice A N.length cp, .int .i64 most]) (by kernel_rfl) (by kernel_rfl) (by kernel_rfl) (by simp [oneV]) hB8 (by simp) fun w19 hT20 hs21 hB8' => ?_)
    have hT0 := (hT0).then hT20 (fun c e => by have : c = w1.heap.size := e; omega)
    have hD := hD.tch hT20 (fun c hc e => hD.blk_ne hB8 (by decide) c hc e)
    have hB4 := hB4.tch hT20 (fun e => by have : w.heap.size = w1.heap.size := e; omega)
    replace hB8 : Blk w19 w1.heap.size 27 [.slice A N.length cp, .int .i64 most] := hB8'
    refine zS [(7, .int .i64 0), (8, .int .i64 10)] ?_
    refine op_nil ?_
    refine W_ret ?_
    refine ⟨_, Res_cell2 (b := w1.heap.size) (cs := [.slice A N.length cp, .int .i64 most]) (by rfl) (by kernel_rfl) (by kernel_rfl) (by kernel_rfl) (by kernel_rfl) hB8 (by kernel_rfl) (by kernel_rfl), ?_⟩
    have e : varF N most wd ix = (0, 10, N) := by unfold varF; rw [if_neg (by first | omega | assumption | exact bad1.2 (by omega) | exact bad2.2 (by omega) | exact bad3.2 (by omega) | exact nb (bad1f.2 (by omega)) | exact nb (bad2f.2 (by omega)) | exact nb (bad3f.2 (by omega))), if_pos (by first | omega | assumption | exact bad1.2 (by omega) | exact bad2.2 (by omega) | exact bad3.2 (by omega) | exact nb (bad1f.2 (by omega)) | exact nb (bad2f.2 (by omega)) | exact nb (bad3f.2 (by omega)))]
    rw [e]
    exact ⟨A, cp, rfl, hD, fun c h => .inl h, hT0⟩
   ·
    replace hc18 : ix ≤ 255 := (Int.not_lt.1 (of_decide_eq_false hc18))
    refine W_skip ?_
    refine W_seq ?_
    refine W_seq ?_
    refine zF [(0, .agg #[.slice A N.length cp, .int .i64 most]), (1, .int .i64 wd), (2, .int .i64 ix), (3, .pointer (some ⟨w.heap.size, 0, none⟩)), (6, .pointer (some ⟨w1.heap.size, 0, none⟩)), (7, .int .i64 0), (8, .int .i64 0), (12, .bool (!(fitsW wd))), (19, .bool (decide (ix > 255)))] fun ρ => ?_
    refine zR ?_
    refine zS [(9, .int .i64 0)] ?_
    refine op_nil ?_
    refine W_block ?_
    refine W_loop (fun m ρ w' => ∃ (i : Nat) (ρ0 : Env), ρ = updL ρ0 [(1, .int .i64 wd), (2, .int .i64 ix), (3, .pointer (some ⟨w.heap.size, 0, none⟩)), (6, .pointer (some ⟨w1.heap.size, 0, none⟩)), (7, .int .i64 0), (8, .int .i64 0), (9, .int .i64 ((i : Nat) : Int))] ∧ (i ≤ N.length) ∧ (∀ j, j < i → ¬ (nO (nth N j) = 21 ∧ nA (nth N j) = ix ∧ nW (nth N j) ≠ wd)) ∧ Tch N0 w w' ∧ Own w' 0 32 6 (.slice A N.length cp) N.length (ncs N) ∧ Blk w' (w.heap.size) 27 [.slice A N.length cp, .int .i64 most] ∧ Blk w' (w1.heap.size) 27 [.slice none 0 0, .int .i64 0] ∧ m = N.length - i) (m := N.length - 0) ?_ ?_
    ·
     refine ⟨0, _, updL_self (by kernel_rfl), by omega, fun j h => by omega, hT0, hD, hB4, hB8, rfl⟩
    ·
     rintro m ρ w22 ⟨i, ρ, rfl, hi, hne, hT0, hD, hB4, hB8, rfl⟩
     refine W_seq ?_
     refine zQ ?_
     refine zS [(21, .int .i64 ((i : Nat) : Int)), (22, .pointer (some ⟨w.heap.size, 0, none⟩))] ?_
     refine zL (.slice A N.length cp) ((hB4.cell 0).trans rfl) ?_
     refine zS [(24, .int .i64 (N.length : Int)), (25, .bool (decide (((i : Nat) : Int) < (N.length : Int))))] ?_
     refine zO (decide (((i : Nat) : Int) < (N.length : Int))) (fun hc23 => ?_) (fun hc23 => ?_)
     ·
      replace hc23 : ((i : Nat) : Int) < (N.length : Int) := (of_decide_eq_true hc23)
      refine W_skip ?_
      refine W_seq ?_
      refine W_block ?_
      refine zQ ?_
      refine zS [(28, .pointer (some ⟨w.heap.size, 0, none⟩))] ?_
      refine zL (.slice A N.length cp) ((hB4.cell 0).trans rfl) ?_
      refine zS [(30, .int .i64 ((i : Nat) : Int))] ?_
      refine stv (v := ptrAt A (i * 6)) (by rfl) (R_indexRd (sz := 6) (len := N.length) (cap := cp) (k := .i64) (i := ((i : Nat) : Int)) (e := 32) i hD.rdS (by kernel_rfl) (by kernel_rfl) (by kernel_rfl) (by kernel_rfl) rfl (by omega)) ?_
      refine stv (v := ptrAt A (i * 6)) (by rfl) (R_fieldRd (m := 0) hD.rdS (by omega) (by kernel_rfl) (fun _ _ => by rfl)) ?_
      refine stv (v := .int .i64 (nO (nth N i))) (by rfl) (R_loadRd (v := .int .i64 (nO (nth N i))) hD.rdS (by omega) (by kernel_rfl) (by kernel_rfl) ((ncs_part N (by omega) 0 _ rfl))) ?_
      refine zS [(34, .bool ((nO (nth N i)) == 21)), (35, .bool ((nO (nth N i)) == 21))] ?_
      cases hb24 : (nO (nth N i)) == 21
      ·
       replace hb24 : nO (nth N i) ≠ 21 := (ne_of_beq_false hb24)
       refine zS [(36, undef), (37, undef), (38, undef), (39, undef), (40, undef), (41, undef), (42, undef), (43, undef), (44, .bool false), (45, .bool false), (46, undef), (47, undef), (48, undef), (49, undef), (50, undef), (51, undef), (52, undef), (53, undef), (54, .bool false)] ?_
       refine zO false (fun h => nomatch h) (fun _ => ?_)
       refine W_skip ?_
       refine zF [(1, .int .i64 wd), (2, .int .i64 ix), (3, .pointer (some ⟨w.heap.size, 0, none⟩)), (6, .pointer (some ⟨w1.heap.size, 0, none⟩)), (7, .int .i64 0), (8, .int .i64 0), (9, .int .i64 ((i : Nat) : Int)), (25, .bool (decide (((i : Nat) : Int) < (N.length : Int)))), (54, .bool false)] fun ρ => ?_
       refine zR ?_
       refine zS [(26, .int .i64 ((i : Nat) : Int)), (27, .int .i64 (IntKind.i64.wrap (((i : Nat) : Int) + 1)))] ?_
       rw [show IntKind.i64.wrap (((i : Nat) : Int) + 1) = ((i : Nat) : Int) + 1 from wrap_i64 (by omega) (by omega)]
       refine fixR (y := ((i + 1 : Nat) : Int)) (by omega) ?_
       refine zS [(9, .int .i64 ((i + 1 : Nat) : Int))] ?_
       refine op_nil ?_
       refine ⟨_, ?_, i + 1, _, updL_self (by kernel_rfl), ?_, ?_, hT0, hD, hB4, hB8, rfl⟩
       ·
        omega
       ·
        omega
       ·
        intro j hj; by_cases e : j = i; (subst e; omega); exact hne j (by omega)
      ·
       replace hb24 : nO (nth N i) = 21 := (eq_of_beq hb24)
       refine zS [(36, .pointer (some ⟨w.heap.size, 0, none⟩))] ?_
       refine zL (.slice A N.length cp) ((hB4.cell 0).trans rfl) ?_
       refine zS [(38, .int .i64 ((i : Nat) : Int))] ?_
       refine stv (v := ptrAt A (i * 6)) (by kernel_rfl) (R_indexRd (sz := 6) (len := N.length) (cap := cp) (k := .i64) (i := ((i : Nat) : Int)) (e := 32) i hD.rdS (by kernel_rfl) (by kernel_rfl) (by kernel_rfl) (by kernel_rfl) rfl (by omega)) ?_
       refine stv (v := ptrAt A (i * 6 + 2)) (by kernel_rfl) (R_fieldRd (m := 2) hD.rdS (by omega) (by kernel_rfl) (fun _ _ => by rfl)) ?_
       refine stv (v := .int .i64 (nA (nth N i))) (by kernel_rfl) (R_loadRd (v := .int .i64 (nA (nth N i))) hD.rdS (by omega) (by kernel_rfl) (by kernel_rfl) ((ncs_part N (by omega) 2 _ rfl))) ?_
       refine zS [(42, .int .i64 ix), (43, .bool ((nA (nth N i)) == ix)), (44, .bool ((nA (nth N i)) == ix)), (45, .bool ((nA (nth N i)) == ix))] ?_
       cases hb25 : (nA (nth N i)) == ix
       ·
        replace hb25 : nA (nth N i) ≠ ix := (ne_of_beq_false hb25)
        refine zS [(46, undef), (47, undef), (48, undef), (49, undef), (50, undef), (51, undef), (52, undef), (53, undef), (54, .bool false)] ?_
        refine zO false (fun h => nomatch h) (fun _ => ?_)
        refine W_skip ?_
        refine zF [(1, .int .i64 wd), (2, .int .i64 ix), (3, .pointer (some ⟨w.heap.size, 0, none⟩)), (6, .pointer (some ⟨w1.heap.size, 0, none⟩)), (7, .int .i64 0), (8, .int .i64 0), (9, .int .i64 ((i : Nat) : Int)), (25, .bool (decide (((i : Nat) : Int) < (N.length : Int)))), (54, .bool false)] fun ρ => ?_
        refine zR ?_
        refine zS [(26, .int .i64 ((i : Nat) : Int)), (27, .int .i64 (IntKind.i64.wrap (((i : Nat) : Int) + 1)))] ?_
        rw [show IntKind.i64.wrap (((i : Nat) : Int) + 1) = ((i : Nat) : Int) + 1 from wrap_i64 (by omega) (by omega)]
        refine fixR (y := ((i + 1 : Nat) : Int)) (by omega) ?_
        refine zS [(9, .int .i64 ((i + 1 : Nat) : Int))] ?_
        refine op_nil ?_
        refine ⟨_, ?_, i + 1, _, updL_self (by kernel_rfl), ?_, ?_, hT0, hD, hB4, hB8, rfl⟩
        ·
         omega
        ·
         omega
        ·
         intro j hj; by_cases e : j = i; (subst e; omega); exact hne j (by omega)
       ·
        replace hb25 : nA (nth N i) = ix := (eq_of_beq hb25)
        refine zS [(46, .pointer (some ⟨w.heap.size, 0, none⟩))] ?_
        refine zL (.slice A N.length cp) ((hB4.cell 0).trans rfl) ?_
        refine zS [(48, .int .i64 ((i : Nat) : Int))] ?_
        refine stv (v := ptrAt A (i * 6)) (by kernel_rfl) (R_indexRd (sz := 6) (len := N.length) (cap := cp) (k := .i64) (i := ((i : Nat) : Int)) (e := 32) i hD.rdS (by kernel_rfl) (by kernel_rfl) (by kernel_rfl) (by kernel_rfl) rfl (by omega)) ?_
        refine stv (v := ptrAt A (i * 6 + 1)) (by kernel_rfl) (R_fieldRd (m := 1) hD.rdS (by omega) (by kernel_rfl) (fun _ _ => by rfl)) ?_
        refine stv (v := .int .i64 (nW (nth N i))) (by kernel_rfl) (R_loadRd (v := .int .i64 (nW (nth N i))) hD.rdS (by omega) (by kernel_rfl) (by kernel_rfl) ((ncs_part N (by omega) 1 _ rfl))) ?_
        refine zS [(52, .int .i64 wd), (53, .bool ((nW (nth N i)) != wd)), (54, .bool ((nW (nth N i)) != wd))] ?_
        refine zO ((nW (nth N i)) != wd) (fun hc26 => ?_) (fun hc26 => ?_)
        ·
         replace hc26 : nW (nth N i) ≠ wd := (bne_iff_ne.1 hc26)
         refine W_seq ?_
         refine zF [(1, .int .i64 wd), (2, .int .i64 ix), (3, .pointer (some ⟨w.heap.size, 0, none⟩)), (6, .pointer (some ⟨w1.heap.size, 0, none⟩)), (7, .int .i64 0), (8, .int .i64 0), (9, .int .i64 ((i : Nat) : Int)), (25, .bool (decide (((i : Nat) : Int) < (N.length : Int)))), (54, .bool ((nW (nth N i)) != wd))] fun ρ => ?_
         have hvb : varBad N wd ix := var_seen (i := i) (by omega) (by omega) (by omega) (by omega)
         refine zR ?_
         refine st (by rfl) (S_val (v := .agg #[.slice A N.length cp, .int .i64 most]) (R_loadA [.slice A N.length cp, .int .i64 most] (by kernel_rfl) (by kernel_rfl) (by kernel_rfl) (fun k u hk => by rw [hB4.cell]; exact get_part _ 0 _ k u rfl hk)) ?_)
         refine st (by rfl) (S_storeA (b := w1.heap.size) (j := 0) (cs := [.slice A N.length cp, .int .i64 most]) (by kernel_rfl) (by kernel_rfl) (by kernel_rfl) (by simp [oneV]) hB8 (by simp) fun w27 hT28 hs29 hB8' => ?_)
         have hT0 := (hT0).then hT28 (fun c e => by have : c = w1.heap.size := e; omega)
         have hD := hD.tch hT28 (fun c hc e => hD.blk_ne hB8 (by decide) c hc e)
         have hB4 := hB4.tch hT28 (fun e => by have : w.heap.size = w1.heap.size := e; omega)
         replace hB8 : Blk w27 w1.heap.size 27 [.slice A N.length cp, .int .i64 most] := hB8'
         refine zS [(7, .int .i64 0), (8, .int .i64 2)] ?_
         refine op_nil ?_
         refine W_ret ?_
         refine ⟨_, Res_cell2 (b := w1.heap.size) (cs := [.slice A N.length cp, .int .i64 most]) (by rfl) (by kernel_rfl) (by kernel_rfl) (by kernel_rfl) (by kernel_rfl) hB8 (by kernel_rfl) (by kernel_rfl), ?_⟩
         have e : varF N most wd ix = (0, 2, N) := by unfold varF; rw [if_neg (by first | omega | assumption | exact bad1.2 (by omega) | exact bad2.2 (by omega) | exact bad3.2 (by omega) | exact nb (bad1f.2 (by omega)) | exact nb (bad2f.2 (by omega)) | exact nb (bad3f.2 (by omega))), if_neg (by first | omega | assumption | exact bad1.2 (by omega) | exact bad2.2 (by omega) | exact bad3.2 (by omega) | exact nb (bad1f.2 (by omega)) | exact nb (bad2f.2 (by omega)) | exact nb (bad3f.2 (by omega))), if_pos (by first | omega | assumption | exact bad1.2 (by omega) | exact bad2.2 (by omega) | exact bad3.2 (by omega) | exact nb (bad1f.2 (by omega)) | exact nb (bad2f.2 (by omega)) | exact nb (bad3f.2 (by omega)))]
         rw [e]
         exact ⟨A, cp, rfl, hD, fun c h => .inl h, hT0⟩
        ·
         replace hc26 : nW (nth N i) = wd := (bne_eq_false_iff_eq.1 hc26)
         refine W_skip ?_
         refine zF [(1, .int .i64 wd), (2, .int .i64 ix), (3, .pointer (some ⟨w.heap.size, 0, none⟩)), (6, .pointer (some ⟨w1.heap.size, 0, none⟩)), (7, .int .i64 0), (8, .int .i64 0), (9, .int .i64 ((i : Nat) : Int)), (25, .bool (decide (((i : Nat) : Int) < (N.length : Int)))), (54, .bool ((nW (nth N i)) != wd))] fun ρ => ?_
         refine zR ?_
         refine zS [(26, .int .i64 ((i : Nat) : Int)), (27, .int .i64 (IntKind.i64.wrap (((i : Nat) : Int) + 1)))] ?_
         rw [show IntKind.i64.wrap (((i : Nat) : Int) + 1) = ((i : Nat) : Int) + 1 from wrap_i64 (by omega) (by omega)]
         refine fixR (y := ((i + 1 : Nat) : Int)) (by omega) ?_
         refine zS [(9, .int .i64 ((i + 1 : Nat) : Int))] ?_
         refine op_nil ?_
         refine ⟨_, ?_, i + 1, _, updL_self (by kernel_rfl), ?_, ?_, hT0, hD, hB4, hB8, rfl⟩
         ·
          omega
         ·
          omega
         ·
          intro j hj; by_cases e : j = i; (subst e; omega); exact hne j (by omega)
     ·
      replace hc23 : (N.length : Int) ≤ ((i : Nat) : Int) := (Int.not_lt.1 (of_decide_eq_false hc23))
      refine W_exit ?_
      refine X_hit ?_
      refine W_seq ?_
      have hvb : ¬ varBad N wd ix := var_none (i := i) (by omega) hne
      refine zR ?_
      refine st (by rfl) (S_val (v := .agg #[.slice A N.length cp, .int .i64 most]) (R_loadA [.slice A N.length cp, .int .i64 most] (by kernel_rfl) (by kernel_rfl) (by kernel_rfl) (fun k u hk => by rw [hB4.cell]; exact get_part _ 0 _ k u rfl hk)) ?_)
      refine zS [(57, .int .i64 wd), (58, .int .i64 ix), (59, .agg #[.int .i64 21, .int .i64 wd, .int .i64 ix, .int .i64 0, .int .i64 0, .int .u64 0])] ?_
      have hzr := hT0.size
      have hwf : nwf (21, wd, ix, 0, 0, 0) := nwf_of (by unfold b64 at *; omega) (by unfold b64 at *; omega) (by unfold b64 at *; omega) (by unfold b64 at *; omega) (by unfold b64 at *; omega) (by unfold u64; omega)
      refine zC (rmade_ok A cp most N (21, wd, ix, 0, 0, 0) _ hD hJ.ti hwf) ?_
      rintro _ w30 ⟨A31, cp32, rfl, hD35, hw33, hT34⟩
      have hT0 := hT0.t0 hT34
      have hD := hD.tch0 hT34
      have hB4 := hB4.tch0 hT34
      have hB8 := hB8.tch0 hT34
      refine zS [(61, .agg #[.slice A31 ((mk N most (21, wd, ix, 0, 0, 0)).2.2.length) cp32, .int .i64 most]), (62, .int .i64 ((mk N most (21, wd, ix, 0, 0, 0)).1)), (63, .int .i64 ((mk N most (21, wd, ix, 0, 0, 0)).2.1))] ?_
      refine st (by rfl) (S_storeA (b := w1.heap.size) (j := 0) (cs := [.slice A31 ((mk N most (21, wd, ix, 0, 0, 0)).2.2.length) cp32, .int .i64 most]) (by kernel_rfl) (by kernel_rfl) (by kernel_rfl) (by simp [oneV]) hB8 (by simp) fun w36 hT37 hs38 hB8' => ?_)
      have hT0 := (hT0).then hT37 (fun c e => by have : c = w1.heap.size := e; omega)
      have hD := hD.tch hT37 (fun c hc e => hD.blk_ne hB8 (by decide) c hc e)
      have hB4 := hB4.tch hT37 (fun e => by have : w.heap.size = w1.heap.size := e; omega)
      have hD35 := hD35.tch hT37 (fun c hc e => hD35.blk_ne hB8 (by decide) c hc e)
      replace hB8 : Blk w36 w1.heap.size 27 [.slice A31 ((mk N most (21, wd, ix, 0, 0, 0)).2.2.length) cp32, .int .i64 most] := hB8'
      refine zS [(7, .int .i64 ((mk N most (21, wd, ix, 0, 0, 0)).1)), (8, .int .i64 ((mk N most (21, wd, ix, 0, 0, 0)).2.1))] ?_
      refine op_nil ?_
      refine W_ret ?_
      refine ⟨_, Res_cell2 (b := w1.heap.size) (cs := [.slice A31 ((mk N most (21, wd, ix, 0, 0, 0)).2.2.length) cp32, .int .i64 most]) (by rfl) (by kernel_rfl) (by kernel_rfl) (by kernel_rfl) (by kernel_rfl) hB8 (by kernel_rfl) (by kernel_rfl), ?_⟩
      have e : varF N most wd ix = mk N most (21, wd, ix, 0, 0, 0) := by unfold varF; rw [if_neg (by first | omega | assumption | exact bad1.2 (by omega) | exact bad2.2 (by omega) | exact bad3.2 (by omega) | exact nb (bad1f.2 (by omega)) | exact nb (bad2f.2 (by omega)) | exact nb (bad3f.2 (by omega))), if_neg (by first | omega | assumption | exact bad1.2 (by omega) | exact bad2.2 (by omega) | exact bad3.2 (by omega) | exact nb (bad1f.2 (by omega)) | exact nb (bad2f.2 (by omega)) | exact nb (bad3f.2 (by omega))), if_neg (by first | omega | assumption | exact bad1.2 (by omega) | exact bad2.2 (by omega) | exact bad3.2 (by omega) | exact nb (bad1f.2 (by omega)) | exact nb (bad2f.2 (by omega)) | exact nb (bad3f.2 (by omega)))]
      rw [e]
      exact ⟨A31, cp32, rfl, hD35, fun c h => (hw33 c h).imp id (fun q => Nat.le_trans hzr q), hT0⟩
  ·
   replace hb17 : ix < 0 := (of_decide_eq_true hb17)
   refine zS [(17, undef), (18, undef), (19, .bool true)] ?_
   refine zO true (fun _ => ?_) (fun h => nomatch h)
   refine W_seq ?_
   refine zF [(0, .agg #[.slice A N.length cp, .int .i64 most]), (1, .int .i64 wd), (2, .int .i64 ix), (3, .pointer (some ⟨w.heap.size, 0, none⟩)), (6, .pointer (some ⟨w1.heap.size, 0, none⟩)), (7, .int .i64 0), (8, .int .i64 0), (12, .bool (!(fitsW wd))), (19, .bool true)] fun ρ => ?_
   refine zR ?_
   refine st (by rfl) (S_val (v := .agg #[.slice A N.length cp, .int .i64 most]) (R_loadA [.slice A N.length cp, .int .i64 most] (by kernel_rfl) (by kernel_rfl) (by kernel_rfl) (fun k u hk => by rw [hB4.cell]; exact get_part _ 0 _ k u rfl hk)) ?_)
   refine st (by rfl) (S_storeA (b := w1.heap.size) (j := 0) (cs := [.slice A N.length cp, .int .i64 most]) (by kernel_rfl) (by kernel_rfl) (by kernel_rfl) (by simp [oneV]) hB8 (by simp) fun w39 hT40 hs41 hB8' => ?_)
   have hT0 := (hT0).then hT40 (fun c e => by have : c = w1.heap.size := e; omega)
   have hD := hD.tch hT40 (fun c hc e => hD.blk_ne hB8 (by decide) c hc e)
   have hB4 := hB4.tch hT40 (fun e => by have : w.heap.size = w1.heap.size := e; omega)
   replace hB8 : Blk w39 w1.heap.size 27 [.slice A N.length cp, .int .i64 most] := hB8'
   refine zS [(7, .int .i64 0), (8, .int .i64 10)] ?_
   refine op_nil ?_
   refine W_ret ?_
   refine ⟨_, Res_cell2 (b := w1.heap.size) (cs := [.slice A N.length cp, .int .i64 most]) (by rfl) (by kernel_rfl) (by kernel_rfl) (by kernel_rfl) (by kernel_rfl) hB8 (by kernel_rfl) (by kernel_rfl), ?_⟩
   have e : varF N most wd ix = (0, 10, N) := by unfold varF; rw [if_neg (by first | omega | assumption | exact bad1.2 (by omega) | exact bad2.2 (by omega) | exact bad3.2 (by omega) | exact nb (bad1f.2 (by omega)) | exact nb (bad2f.2 (by omega)) | exact nb (bad3f.2 (by omega))), if_pos (by first | omega | assumption | exact bad1.2 (by omega) | exact bad2.2 (by omega) | exact bad3.2 (by omega) | exact nb (bad1f.2 (by omega)) | exact nb (bad2f.2 (by omega)) | exact nb (bad3f.2 (by omega)))]
   rw [e]
   exact ⟨A, cp, rfl, hD, fun c h => .inl h, hT0⟩

end Go.Proofs.YtlbadnpgmkobdaaV
