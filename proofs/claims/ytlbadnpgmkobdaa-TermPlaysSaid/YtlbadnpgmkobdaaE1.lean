/- Walks of functions of the program and of the document's texts. The conditions stand with each theorem. -/
import Derived.Test.YtlbadnpgmkobdaaProg
import Derived.Test.YtlbadnpgmkobdaaPlayP
import Derived.Test.YtlbadnpgmkobdaaT6
import Derived.Test.YtlbadnpgmkobdaaU6
set_option linter.unusedVariables false
set_option linter.unusedSimpArgs false
namespace Go.Proofs.YtlbadnpgmkobdaaV
open Go Go.RowKit Go.Proofs

set_option maxRecDepth 100000 in
theorem meant_ok (A : Option Addr) (cp : Nat) (most : Int) (N : List Nd) (k wd a b c x : Int) (w : World) (hD : Own w 0 32 6 (.slice A N.length cp) N.length (ncs N)) (hJ : TJ N most) (hk : b64 k) (hwd : b64 wd) (ha : b64 a) (hb : b64 b) (hc : b64 c) (hx : u64 x) : Ret Try.prog 43 [.agg #[.slice A N.length cp, .int .i64 most], .agg #[.int .i64 k, .int .i64 wd, .int .i64 a, .int .i64 b, .int .i64 c, .int .u64 x]] w fun v w' => DRet A cp most N w (madeF N most k wd a b c x) v w' := by
  refine enter Try.func43 rfl rfl ?_
  refine W_seq ?_
  refine W_region (by kernel_rfl) ?_
  refine st (by rfl) (S_new (v := .pointer (some ⟨w.heap.size, 0, none⟩)) (ob := .cells #[.slice A N.length cp, .int .i64 most] 27) (by kernel_rfl) fun w1 hT2 hs3 hB4 => ?_)
  replace hB4 : Blk w1 (w.heap.size) 27 [.slice A N.length cp, .int .i64 most] := hB4
  have hT0 := hT2
  have hD := hD.tch0 hT2
  have z9 := hT0.size
  have l10 := hB4.lt
  refine st (by rfl) (S_new (v := .pointer (some ⟨w1.heap.size, 0, none⟩)) (ob := .cells #[.int .i64 k, .int .i64 wd, .int .i64 a, .int .i64 b, .int .i64 c, .int .u64 x] 44) (by kernel_rfl) fun w5 hT6 hs7 hB8 => ?_)
  replace hB8 : Blk w5 (w1.heap.size) 44 [.int .i64 k, .int .i64 wd, .int .i64 a, .int .i64 b, .int .i64 c, .int .u64 x] := hB8
  have hT0 := hT0.t0 hT6
  have hD := hD.tch0 hT6
  have hB4 := hB4.tch0 hT6
  have z15 := hT0.size
  have l16 := hB4.lt
  have l17 := hB8.lt
  refine st (by rfl) (S_new (v := .pointer (some ⟨w5.heap.size, 0, none⟩)) (ob := .cells #[.slice none 0 0, .int .i64 0] 27) (by kernel_rfl) fun w11 hT12 hs13 hB14 => ?_)
  replace hB14 : Blk w11 (w5.heap.size) 27 [.slice none 0 0, .int .i64 0] := hB14
  have hT0 := hT0.t0 hT12
  have hD := hD.tch0 hT12
  have hB4 := hB4.tch0 hT12
  have hB8 := hB8.tch0 hT12
  refine seg2 (ρ' := upd (upd (upd (upd (upd (ini [.agg #[.slice A N.length cp, .int .i64 most], .agg #[.int .i64 k, .int .i64 wd, .int .i64 a, .int .i64 b, .int .i64 c, .int .u64 x]]) 2 (.pointer (some ⟨w.heap.size, 0, none⟩))) 3 (.pointer (some ⟨w1.heap.size, 0, none⟩))) 4 (.pointer (some ⟨w5.heap.size, 0, none⟩))) 5 (.int .i64 0)) 6 (.int .i64 0)) (by kernel_rfl) ?_
  refine op_nil ?_
  refine W_seq ?_
  refine W_seq ?_
  refine W_region (by kernel_rfl) ?_
  refine seg1 (ρ' := upd (upd (upd (upd (upd (upd (ini [.agg #[.slice A N.length cp, .int .i64 most], .agg #[.int .i64 k, .int .i64 wd, .int .i64 a, .int .i64 b, .int .i64 c, .int .u64 x]]) 2 (.pointer (some ⟨w.heap.size, 0, none⟩))) 3 (.pointer (some ⟨w1.heap.size, 0, none⟩))) 4 (.pointer (some ⟨w5.heap.size, 0, none⟩))) 5 (.int .i64 0)) 6 (.int .i64 0)) 7 (.pointer (some ⟨w1.heap.size, 0, none⟩))) (by kernel_rfl) ?_
  refine st (by rfl) (S_val (v := .int .i64 k) (R_load (v := .int .i64 k) (by kernel_rfl) (by kernel_rfl) ((hB8.cell 0).trans rfl)) ?_)
  refine op_nil ?_
  refine W_block ?_
  refine W_seq ?_
  refine W_region (by kernel_rfl) ?_
  refine seg2 (ρ' := upd (upd (upd (upd (upd (upd (upd (upd (upd (ini [.agg #[.slice A N.length cp, .int .i64 most], .agg #[.int .i64 k, .int .i64 wd, .int .i64 a, .int .i64 b, .int .i64 c, .int .u64 x]]) 2 (.pointer (some ⟨w.heap.size, 0, none⟩))) 3 (.pointer (some ⟨w1.heap.size, 0, none⟩))) 4 (.pointer (some ⟨w5.heap.size, 0, none⟩))) 5 (.int .i64 0)) 6 (.int .i64 0)) 7 (.pointer (some ⟨w1.heap.size, 0, none⟩))) 8 (.int .i64 k)) 10 (.bool (k == 0))) 9 (.bool (k == 0))) (by kernel_rfl) ?_
  refine op_nil ?_
  refine W_cond (k == 0) (by kernel_rfl) (by kernel_rfl) (fun hc18 => ?_) (fun hc18 => ?_)
  · replace hc18 : k = 0 := (eq_of_beq hc18)
    refine W_seq ?_
    refine W_fg [(0, .agg #[.slice A N.length cp, .int .i64 most]), (1, .agg #[.int .i64 k, .int .i64 wd, .int .i64 a, .int .i64 b, .int .i64 c, .int .u64 x]), (2, .pointer (some ⟨w.heap.size, 0, none⟩)), (3, .pointer (some ⟨w1.heap.size, 0, none⟩)), (4, .pointer (some ⟨w5.heap.size, 0, none⟩)), (5, .int .i64 0), (6, .int .i64 0), (8, .int .i64 k), (9, .bool (k == 0))] (by kernel_rfl) fun ρ => ?_
    refine W_region (by kernel_rfl) ?_
    refine st (by rfl) (S_val (v := .agg #[.slice A N.length cp, .int .i64 most]) (R_loadA [.slice A N.length cp, .int .i64 most] (by kernel_rfl) (by kernel_rfl) (by kernel_rfl) (fun k u hk => by rw [hB4.cell]; exact get_part _ 0 _ k u rfl hk)) ?_)
    refine seg1 (ρ' := upd (upd (updL ρ [(0, .agg #[.slice A N.length cp, .int .i64 most]), (1, .agg #[.int .i64 k, .int .i64 wd, .int .i64 a, .int .i64 b, .int .i64 c, .int .u64 x]), (2, .pointer (some ⟨w.heap.size, 0, none⟩)), (3, .pointer (some ⟨w1.heap.size, 0, none⟩)), (4, .pointer (some ⟨w5.heap.size, 0, none⟩)), (5, .int .i64 0), (6, .int .i64 0), (8, .int .i64 k), (9, .bool (k == 0))]) 11 (.agg #[.slice A N.length cp, .int .i64 most])) 12 (.pointer (some ⟨w1.heap.size, 1, none⟩))) (by kernel_rfl) ?_
    refine st (by rfl) (S_val (v := .int .i64 wd) (R_load (v := .int .i64 wd) (by kernel_rfl) (by kernel_rfl) ((hB8.cell 1).trans rfl)) ?_)
    refine seg1 (ρ' := upd (upd (upd (upd (updL ρ [(0, .agg #[.slice A N.length cp, .int .i64 most]), (1, .agg #[.int .i64 k, .int .i64 wd, .int .i64 a, .int .i64 b, .int .i64 c, .int .u64 x]), (2, .pointer (some ⟨w.heap.size, 0, none⟩)), (3, .pointer (some ⟨w1.heap.size, 0, none⟩)), (4, .pointer (some ⟨w5.heap.size, 0, none⟩)), (5, .int .i64 0), (6, .int .i64 0), (8, .int .i64 k), (9, .bool (k == 0))]) 11 (.agg #[.slice A N.length cp, .int .i64 most])) 12 (.pointer (some ⟨w1.heap.size, 1, none⟩))) 13 (.int .i64 wd)) 14 (.pointer (some ⟨w1.heap.size, 5, none⟩))) (by kernel_rfl) ?_
    refine st (by rfl) (S_val (v := .int .u64 x) (R_load (v := .int .u64 x) (by kernel_rfl) (by kernel_rfl) ((hB8.cell 5).trans rfl)) ?_)
    have hzr := hT0.size
    refine st (by rfl) (S_call (args := [.agg #[.slice A N.length cp, .int .i64 most], .int .i64 wd, .int .u64 x]) (by kernel_rfl) (rcst_ok A cp most N wd x _ hD hJ (by assumption) (by assumption)) ?_)
    rintro _ w19 ⟨A20, cp21, rfl, hD24, hw22, hT23⟩
    have hT0 := hT0.t0 hT23
    have hD := hD.tch0 hT23
    have hB4 := hB4.tch0 hT23
    have hB8 := hB8.tch0 hT23
    have hB14 := hB14.tch0 hT23
    refine seg3 (ρ' := upd (upd (upd (upd (upd (upd (upd (upd (upd (updL ρ [(0, .agg #[.slice A N.length cp, .int .i64 most]), (1, .agg #[.int .i64 k, .int .i64 wd, .int .i64 a, .int .i64 b, .int .i64 c, .int .u64 x]), (2, .pointer (some ⟨w.heap.size, 0, none⟩)), (3, .pointer (some ⟨w1.heap.size, 0, none⟩)), (4, .pointer (some ⟨w5.heap.size, 0, none⟩)), (5, .int .i64 0), (6, .int .i64 0), (8, .int .i64 k), (9, .bool (k == 0))]) 11 (.agg #[.slice A N.length cp, .int .i64 most])) 12 (.pointer (some ⟨w1.heap.size, 1, none⟩))) 13 (.int .i64 wd)) 14 (.pointer (some ⟨w1.heap.size, 5, none⟩))) 15 (.int .u64 x)) 16 (.tuple #[.agg #[.slice A20 (((constF N most wd x).2.2).length) cp21, .int .i64 most], .int .i64 ((constF N most wd x).1), .int .i64 ((constF N most wd x).2.1)])) 17 (.agg #[.slice A20 (((constF N most wd x).2.2).length) cp21, .int .i64 most])) 18 (.int .i64 ((constF N most wd x).1))) 19 (.int .i64 ((constF N most wd x).2.1))) (by kernel_rfl) ?_
    refine st (by rfl) (S_storeA (b := w5.heap.size) (j := 0) (cs := [.slice A20 (((constF N most wd x).2.2).length) cp21, .int .i64 most]) (by kernel_rfl) (by kernel_rfl) (by kernel_rfl) (by simp [oneV]) hB14 (by simp) fun w25 hT26 hs27 hB14' => ?_)
    have hT0 := (hT0).then hT26 (fun c e => by have : c = w5.heap.size := e; omega)
    have hD := hD.tch hT26 (fun c hc e => hD.blk_ne hB14 (by decide) c hc e)
    have hB4 := hB4.tch hT26 (fun e => by have : w.heap.size = w5.heap.size := e; omega)
    have hB8 := hB8.tch hT26 (hB8.ne hB14 (by decide))
    have hD24 := hD24.tch hT26 (fun c hc e => hD24.blk_ne hB14 (by decide) c hc e)
    replace hB14 : Blk w25 w5.heap.size 27 [.slice A20 (((constF N most wd x).2.2).length) cp21, .int .i64 most] := hB14'
    refine seg2 (ρ' := upd (upd (upd (upd (upd (upd (upd (upd (upd (upd (upd (updL ρ [(0, .agg #[.slice A N.length cp, .int .i64 most]), (1, .agg #[.int .i64 k, .int .i64 wd, .int .i64 a, .int .i64 b, .int .i64 c, .int .u64 x]), (2, .pointer (some ⟨w.heap.size, 0, none⟩)), (3, .pointer (some ⟨w1.heap.size, 0, none⟩)), (4, .pointer (some ⟨w5.heap.size, 0, none⟩)), (5, .int .i64 0), (6, .int .i64 0), (8, .int .i64 k), (9, .bool (k == 0))]) 11 (.agg #[.slice A N.length cp, .int .i64 most])) 12 (.pointer (some ⟨w1.heap.size, 1, none⟩))) 13 (.int .i64 wd)) 14 (.pointer (some ⟨w1.heap.size, 5, none⟩))) 15 (.int .u64 x)) 16 (.tuple #[.agg #[.slice A20 (((constF N most wd x).2.2).length) cp21, .int .i64 most], .int .i64 ((constF N most wd x).1), .int .i64 ((constF N most wd x).2.1)])) 17 (.agg #[.slice A20 (((constF N most wd x).2.2).length) cp21, .int .i64 most])) 18 (.int .i64 ((constF N most wd x).1))) 19 (.int .i64 ((constF N most wd x).2.1))) 5 (.int .i64 ((constF N most wd x).1))) 6 (.int .i64 ((constF N most wd x).2.1))) (by kernel_rfl) ?_
    refine op_nil ?_
    refine W_ret ?_
    refine ⟨_, Res_cell2 (b := w5.heap.size) (cs := [.slice A20 (((constF N most wd x).2.2).length) cp21, .int .i64 most]) (by rfl) (by kernel_rfl) (by kernel_rfl) (by kernel_rfl) (by kernel_rfl) hB14 (by kernel_rfl) (by kernel_rfl), ?_⟩
    have e : madeF N most k wd a b c x = constF N most wd x := by unfold madeF; rw [if_pos (by omega)]
    rw [e]
    exact ⟨A20, cp21, rfl, hD24, fun c h => (hw22 c h).imp id (fun q => Nat.le_trans hzr q), hT0⟩
  · replace hc18 : k ≠ 0 := (ne_of_beq_false hc18)
    refine W_seq ?_
    refine W_fg [(0, .agg #[.slice A N.length cp, .int .i64 most]), (1, .agg #[.int .i64 k, .int .i64 wd, .int .i64 a, .int .i64 b, .int .i64 c, .int .u64 x]), (2, .pointer (some ⟨w.heap.size, 0, none⟩)), (3, .pointer (some ⟨w1.heap.size, 0, none⟩)), (4, .pointer (some ⟨w5.heap.size, 0, none⟩)), (5, .int .i64 0), (6, .int .i64 0), (8, .int .i64 k), (9, .bool (k == 0))] (by kernel_rfl) fun ρ => ?_
    refine W_region (by kernel_rfl) ?_
    refine seg2 (ρ' := upd (upd (updL ρ [(0, .agg #[.slice A N.length cp, .int .i64 most]), (1, .agg #[.int .i64 k, .int .i64 wd, .int .i64 a, .int .i64 b, .int .i64 c, .int .u64 x]), (2, .pointer (some ⟨w.heap.size, 0, none⟩)), (3, .pointer (some ⟨w1.heap.size, 0, none⟩)), (4, .pointer (some ⟨w5.heap.size, 0, none⟩)), (5, .int .i64 0), (6, .int .i64 0), (8, .int .i64 k), (9, .bool (k == 0))]) 21 (.bool (k == 1))) 20 (.bool (k == 1))) (by kernel_rfl) ?_
    refine op_nil ?_
    refine W_cond (k == 1) (by kernel_rfl) (by kernel_rfl) (fun hc28 => ?_) (fun hc28 => ?_)
    · replace hc28 : k = 1 := (eq_of_beq hc28)
      refine W_seq ?_
      refine W_region (by kernel_rfl) ?_
      refine st (by rfl) (S_val (v := .agg #[.slice A N.length cp, .int .i64 most]) (R_loadA [.slice A N.length cp, .int .i64 most] (by kernel_rfl) (by kernel_rfl) (by kernel_rfl) (fun k u hk => by rw [hB4.cell]; exact get_part _ 0 _ k u rfl hk)) ?_)
      refine seg1 (ρ' := upd (upd (upd (upd (updL ρ [(0, .agg #[.slice A N.length cp, .int .i64 most]), (1, .agg #[.int .i64 k, .int .i64 wd, .int .i64 a, .int .i64 b, .int .i64 c, .int .u64 x]), (2, .pointer (some ⟨w.heap.size, 0, none⟩)), (3, .pointer (some ⟨w1.heap.size, 0, none⟩)), (4, .pointer (some ⟨w5.heap.size, 0, none⟩)), (5, .int .i64 0), (6, .int .i64 0), (8, .int .i64 k), (9, .bool (k == 0))]) 21 (.bool (k == 1))) 20 (.bool (k == 1))) 22 (.agg #[.slice A N.length cp, .int .i64 most])) 23 (.pointer (some ⟨w1.heap.size, 1, none⟩))) (by kernel_rfl) ?_
      refine st (by rfl) (S_val (v := .int .i64 wd) (R_load (v := .int .i64 wd) (by kernel_rfl) (by kernel_rfl) ((hB8.cell 1).trans rfl)) ?_)
      refine seg1 (ρ' := upd (upd (upd (upd (upd (upd (updL ρ [(0, .agg #[.slice A N.length cp, .int .i64 most]), (1, .agg #[.int .i64 k, .int .i64 wd, .int .i64 a, .int .i64 b, .int .i64 c, .int .u64 x]), (2, .pointer (some ⟨w.heap.size, 0, none⟩)), (3, .pointer (some ⟨w1.heap.size, 0, none⟩)), (4, .pointer (some ⟨w5.heap.size, 0, none⟩)), (5, .int .i64 0), (6, .int .i64 0), (8, .int .i64 k), (9, .bool (k == 0))]) 21 (.bool (k == 1))) 20 (.bool (k == 1))) 22 (.agg #[.slice A N.length cp, .int .i64 most])) 23 (.pointer (some ⟨w1.heap.size, 1, none⟩))) 24 (.int .i64 wd)) 25 (.pointer (some ⟨w1.heap.size, 2, none⟩))) (by kernel_rfl) ?_
      refine st (by rfl) (S_val (v := .int .i64 a) (R_load (v := .int .i64 a) (by kernel_rfl) (by kernel_rfl) ((hB8.cell 2).trans rfl)) ?_)
      have hzr := hT0.size
      refine st (by rfl) (S_call (args := [.agg #[.slice A N.length cp, .int .i64 most], .int .i64 wd, .int .i64 a]) (by kernel_rfl) (rvar_ok A cp most N wd a _ hD hJ (by assumption) (by assumption)) ?_)
      rintro _ w29 ⟨A30, cp31, rfl, hD34, hw32, hT33⟩
      have hT0 := hT0.t0 hT33
      have hD := hD.tch0 hT33
      have hB4 := hB4.tch0 hT33
      have hB8 := hB8.tch0 hT33
      have hB14 := hB14.tch0 hT33
      refine seg3 (ρ' := upd (upd (upd (upd (upd (upd (upd (upd (upd (upd (upd (updL ρ [(0, .agg #[.slice A N.length cp, .int .i64 most]), (1, .agg #[.int .i64 k, .int .i64 wd, .int .i64 a, .int .i64 b, .int .i64 c, .int .u64 x]), (2, .pointer (some ⟨w.heap.size, 0, none⟩)), (3, .pointer (some ⟨w1.heap.size, 0, none⟩)), (4, .pointer (some ⟨w5.heap.size, 0, none⟩)), (5, .int .i64 0), (6, .int .i64 0), (8, .int .i64 k), (9, .bool (k == 0))]) 21 (.bool (k == 1))) 20 (.bool (k == 1))) 22 (.agg #[.slice A N.length cp, .int .i64 most])) 23 (.pointer (some ⟨w1.heap.size, 1, none⟩))) 24 (.int .i64 wd)) 25 (.pointer (some ⟨w1.heap.size, 2, none⟩))) 26 (.int .i64 a)) 27 (.tuple #[.agg #[.slice A30 (((varF N most wd a).2.2).length) cp31, .int .i64 most], .int .i64 ((varF N most wd a).1), .int .i64 ((varF N most wd a).2.1)])) 28 (.agg #[.slice A30 (((varF N most wd a).2.2).length) cp31, .int .i64 most])) 29 (.int .i64 ((varF N most wd a).1))) 30 (.int .i64 ((varF N most wd a).2.1))) (by kernel_rfl) ?_
      refine st (by rfl) (S_storeA (b := w5.heap.size) (j := 0) (cs := [.slice A30 (((varF N most wd a).2.2).length) cp31, .int .i64 most]) (by kernel_rfl) (by kernel_rfl) (by kernel_rfl) (by simp [oneV]) hB14 (by simp) fun w35 hT36 hs37 hB14' => ?_)
      have hT0 := (hT0).then hT36 (fun c e => by have : c = w5.heap.size := e; omega)
      have hD := hD.tch hT36 (fun c hc e => hD.blk_ne hB14 (by decide) c hc e)
      have hB4 := hB4.tch hT36 (fun e => by have : w.heap.size = w5.heap.size := e; omega)
      have hB8 := hB8.tch hT36 (hB8.ne hB14 (by decide))
      have hD34 := hD34.tch hT36 (fun c hc e => hD34.blk_ne hB14 (by decide) c hc e)
      replace hB14 : Blk w35 w5.heap.size 27 [.slice A30 (((varF N most wd a).2.2).length) cp31, .int .i64 most] := hB14'
      refine seg2 (ρ' := upd (upd (upd (upd (upd (upd (upd (upd (upd (upd (upd (upd (upd (updL ρ [(0, .agg #[.slice A N.length cp, .int .i64 most]), (1, .agg #[.int .i64 k, .int .i64 wd, .int .i64 a, .int .i64 b, .int .i64 c, .int .u64 x]), (2, .pointer (some ⟨w.heap.size, 0, none⟩)), (3, .pointer (some ⟨w1.heap.size, 0, none⟩)), (4, .pointer (some ⟨w5.heap.size, 0, none⟩)), (5, .int .i64 0), (6, .int .i64 0), (8, .int .i64 k), (9, .bool (k == 0))]) 21 (.bool (k == 1))) 20 (.bool (k == 1))) 22 (.agg #[.slice A N.length cp, .int .i64 most])) 23 (.pointer (some ⟨w1.heap.size, 1, none⟩))) 24 (.int .i64 wd)) 25 (.pointer (some ⟨w1.heap.size, 2, none⟩))) 26 (.int .i64 a)) 27 (.tuple #[.agg #[.slice A30 (((varF N most wd a).2.2).length) cp31, .int .i64 most], .int .i64 ((varF N most wd a).1), .int .i64 ((varF N most wd a).2.1)])) 28 (.agg #[.slice A30 (((varF N most wd a).2.2).length) cp31, .int .i64 most])) 29 (.int .i64 ((varF N most wd a).1))) 30 (.int .i64 ((varF N most wd a).2.1))) 5 (.int .i64 ((varF N most wd a).1))) 6 (.int .i64 ((varF N most wd a).2.1))) (by kernel_rfl) ?_
      refine op_nil ?_
      refine W_ret ?_
      refine ⟨_, Res_cell2 (b := w5.heap.size) (cs := [.slice A30 (((varF N most wd a).2.2).length) cp31, .int .i64 most]) (by rfl) (by kernel_rfl) (by kernel_rfl) (by kernel_rfl) (by kernel_rfl) hB14 (by kernel_rfl) (by kernel_rfl), ?_⟩
      have e : madeF N most k wd a b c x = varF N most wd a := by unfold madeF; rw [if_neg (by omega), if_pos (by omega)]
      rw [e]
      exact ⟨A30, cp31, rfl, hD34, fun c h => (hw32 c h).imp id (fun q => Nat.le_trans hzr q), hT0⟩
    · replace hc28 : k ≠ 1 := (ne_of_beq_false hc28)
      refine W_seq ?_
      refine W_region (by kernel_rfl) ?_
      refine seg2 (ρ' := upd (upd (upd (upd (updL ρ [(0, .agg #[.slice A N.length cp, .int .i64 most]), (1, .agg #[.int .i64 k, .int .i64 wd, .int .i64 a, .int .i64 b, .int .i64 c, .int .u64 x]), (2, .pointer (some ⟨w.heap.size, 0, none⟩)), (3, .pointer (some ⟨w1.heap.size, 0, none⟩)), (4, .pointer (some ⟨w5.heap.size, 0, none⟩)), (5, .int .i64 0), (6, .int .i64 0), (8, .int .i64 k), (9, .bool (k == 0))]) 21 (.bool (k == 1))) 20 (.bool (k == 1))) 32 (.bool (k == 2))) 31 (.bool (k == 2))) (by kernel_rfl) ?_
      refine op_nil ?_
      refine W_cond (k == 2) (by kernel_rfl) (by kernel_rfl) (fun hc38 => ?_) (fun hc38 => ?_)
      · replace hc38 : k = 2 := (eq_of_beq hc38)
        refine W_seq ?_
        refine W_region (by kernel_rfl) ?_
        refine st (by rfl) (S_val (v := .agg #[.slice A N.length cp, .int .i64 most]) (R_loadA [.slice A N.length cp, .int .i64 most] (by kernel_rfl) (by kernel_rfl) (by kernel_rfl) (fun k u hk => by rw [hB4.cell]; exact get_part _ 0 _ k u rfl hk)) ?_)
        refine seg1 (ρ' := upd (upd (upd (upd (upd (upd (updL ρ [(0, .agg #[.slice A N.length cp, .int .i64 most]), (1, .agg #[.int .i64 k, .int .i64 wd, .int .i64 a, .int .i64 b, .int .i64 c, .int .u64 x]), (2, .pointer (some ⟨w.heap.size, 0, none⟩)), (3, .pointer (some ⟨w1.heap.size, 0, none⟩)), (4, .pointer (some ⟨w5.heap.size, 0, none⟩)), (5, .int .i64 0), (6, .int .i64 0), (8, .int .i64 k), (9, .bool (k == 0))]) 21 (.bool (k == 1))) 20 (.bool (k == 1))) 32 (.bool (k == 2))) 31 (.bool (k == 2))) 33 (.agg #[.slice A N.length cp, .int .i64 most])) 34 (.pointer (some ⟨w1.heap.size, 2, none⟩))) (by kernel_rfl) ?_
        refine st (by rfl) (S_val (v := .int .i64 a) (R_load (v := .int .i64 a) (by kernel_rfl) (by kernel_rfl) ((hB8.cell 2).trans rfl)) ?_)
        refine seg1 (ρ' := upd (upd (upd (upd (upd (upd (upd (upd (updL ρ [(0, .agg #[.slice A N.length cp, .int .i64 most]), (1, .agg #[.int .i64 k, .int .i64 wd, .int .i64 a, .int .i64 b, .int .i64 c, .int .u64 x]), (2, .pointer (some ⟨w.heap.size, 0, none⟩)), (3, .pointer (some ⟨w1.heap.size, 0, none⟩)), (4, .pointer (some ⟨w5.heap.size, 0, none⟩)), (5, .int .i64 0), (6, .int .i64 0), (8, .int .i64 k), (9, .bool (k == 0))]) 21 (.bool (k == 1))) 20 (.bool (k == 1))) 32 (.bool (k == 2))) 31 (.bool (k == 2))) 33 (.agg #[.slice A N.length cp, .int .i64 most])) 34 (.pointer (some ⟨w1.heap.size, 2, none⟩))) 35 (.int .i64 a)) 36 (.pointer (some ⟨w1.heap.size, 3, none⟩))) (by kernel_rfl) ?_
        refine st (by rfl) (S_val (v := .int .i64 b) (R_load (v := .int .i64 b) (by kernel_rfl) (by kernel_rfl) ((hB8.cell 3).trans rfl)) ?_)
        have hzr := hT0.size
        refine st (by rfl) (S_call (args := [.agg #[.slice A N.length cp, .int .i64 most], .int .i64 a, .int .i64 b]) (by kernel_rfl) (runa_ok A cp most N a b _ hD hJ (by assumption) (by assumption)) ?_)
        rintro _ w39 ⟨A40, cp41, rfl, hD44, hw42, hT43⟩
        have hT0 := hT0.t0 hT43
        have hD := hD.tch0 hT43
        have hB4 := hB4.tch0 hT43
        have hB8 := hB8.tch0 hT43
        have hB14 := hB14.tch0 hT43
        refine seg3 (ρ' := upd (upd (upd (upd (upd (upd (upd (upd (upd (upd (upd (upd (upd (updL ρ [(0, .agg #[.slice A N.length cp, .int .i64 most]), (1, .agg #[.int .i64 k, .int .i64 wd, .int .i64 a, .int .i64 b, .int .i64 c, .int .u64 x]), (2, .pointer (some ⟨w.heap.size, 0, none⟩)), (3, .pointer (some ⟨w1.heap.size, 0, none⟩)), (4, .pointer (some ⟨w5.heap.size, 0, none⟩)), (5, .int .i64 0), (6, .int .i64 0), (8, .int .i64 k), (9, .bool (k == 0))]) 21 (.bool (k == 1))) 20 (.bool (k == 1))) 32 (.bool (k == 2))) 31 (.bool (k == 2))) 33 (.agg #[.slice A N.length cp, .int .i64 most])) 34 (.pointer (some ⟨w1.heap.size, 2, none⟩))) 35 (.int .i64 a)) 36 (.pointer (some ⟨w1.heap.size, 3, none⟩))) 37 (.int .i64 b)) 38 (.tuple #[.agg #[.slice A40 (((unaF N most a b).2.2).length) cp41, .int .i64 most], .int .i64 ((unaF N most a b).1), .int .i64 ((unaF N most a b).2.1)])) 39 (.agg #[.slice A40 (((unaF N most a b).2.2).length) cp41, .int .i64 most])) 40 (.int .i64 ((unaF N most a b).1))) 41 (.int .i64 ((unaF N most a b).2.1))) (by kernel_rfl) ?_
        refine st (by rfl) (S_storeA (b := w5.heap.size) (j := 0) (cs := [.slice A40 (((unaF N most a b).2.2).length) cp41, .int .i64 most]) (by kernel_rfl) (by kernel_rfl) (by kernel_rfl) (by simp [oneV]) hB14 (by simp) fun w45 hT46 hs47 hB14' => ?_)
        have hT0 := (hT0).then hT46 (fun c e => by have : c = w5.heap.size := e; omega)
        have hD := hD.tch hT46 (fun c hc e => hD.blk_ne hB14 (by decide) c hc e)
        have hB4 := hB4.tch hT46 (fun e => by have : w.heap.size = w5.heap.size := e; omega)
        have hB8 := hB8.tch hT46 (hB8.ne hB14 (by decide))
        have hD44 := hD44.tch hT46 (fun c hc e => hD44.blk_ne hB14 (by decide) c hc e)
        replace hB14 : Blk w45 w5.heap.size 27 [.slice A40 (((unaF N most a b).2.2).length) cp41, .int .i64 most] := hB14'
        refine seg2 (ρ' := upd (upd (upd (upd (upd (upd (upd (upd (upd (upd (upd (upd (upd (upd (upd (updL ρ [(0, .agg #[.slice A N.length cp, .int .i64 most]), (1, .agg #[.int .i64 k, .int .i64 wd, .int .i64 a, .int .i64 b, .int .i64 c, .int .u64 x]), (2, .pointer (some ⟨w.heap.size, 0, none⟩)), (3, .pointer (some ⟨w1.heap.size, 0, none⟩)), (4, .pointer (some ⟨w5.heap.size, 0, none⟩)), (5, .int .i64 0), (6, .int .i64 0), (8, .int .i64 k), (9, .bool (k == 0))]) 21 (.bool (k == 1))) 20 (.bool (k == 1))) 32 (.bool (k == 2))) 31 (.bool (k == 2))) 33 (.agg #[.slice A N.length cp, .int .i64 most])) 34 (.pointer (some ⟨w1.heap.size, 2, none⟩))) 35 (.int .i64 a)) 36 (.pointer (some ⟨w1.heap.size, 3, none⟩))) 37 (.int .i64 b)) 38 (.tuple #[.agg #[.slice A40 (((unaF N most a b).2.2).length) cp41, .int .i64 most], .int .i64 ((unaF N most a b).1), .int .i64 ((unaF N most a b).2.1)])) 39 (.agg #[.slice A40 (((unaF N most a b).2.2).length) cp41, .int .i64 most])) 40 (.int .i64 ((unaF N most a b).1))) 41 (.int .i64 ((unaF N most a b).2.1))) 5 (.int .i64 ((unaF N most a b).1))) 6 (.int .i64 ((unaF N most a b).2.1))) (by kernel_rfl) ?_
        refine op_nil ?_
        refine W_ret ?_
        refine ⟨_, Res_cell2 (b := w5.heap.size) (cs := [.slice A40 (((unaF N most a b).2.2).length) cp41, .int .i64 most]) (by rfl) (by kernel_rfl) (by kernel_rfl) (by kernel_rfl) (by kernel_rfl) hB14 (by kernel_rfl) (by kernel_rfl), ?_⟩
        have e : madeF N most k wd a b c x = unaF N most a b := by unfold madeF; rw [if_neg (by omega), if_neg (by omega), if_pos (by omega)]
        rw [e]
        exact ⟨A40, cp41, rfl, hD44, fun c h => (hw42 c h).imp id (fun q => Nat.le_trans hzr q), hT0⟩
      · replace hc38 : k ≠ 2 := (ne_of_beq_false hc38)
        refine W_seq ?_
        refine W_region (by kernel_rfl) ?_
        refine seg2 (ρ' := upd (upd (upd (upd (upd (upd (updL ρ [(0, .agg #[.slice A N.length cp, .int .i64 most]), (1, .agg #[.int .i64 k, .int .i64 wd, .int .i64 a, .int .i64 b, .int .i64 c, .int .u64 x]), (2, .pointer (some ⟨w.heap.size, 0, none⟩)), (3, .pointer (some ⟨w1.heap.size, 0, none⟩)), (4, .pointer (some ⟨w5.heap.size, 0, none⟩)), (5, .int .i64 0), (6, .int .i64 0), (8, .int .i64 k), (9, .bool (k == 0))]) 21 (.bool (k == 1))) 20 (.bool (k == 1))) 32 (.bool (k == 2))) 31 (.bool (k == 2))) 43 (.bool (k == 3))) 42 (.bool (k == 3))) (by kernel_rfl) ?_
        refine op_nil ?_
        refine W_cond (k == 3) (by kernel_rfl) (by kernel_rfl) (fun hc48 => ?_) (fun hc48 => ?_)
        · replace hc48 : k = 3 := (eq_of_beq hc48)
          refine W_seq ?_
          refine W_region (by kernel_rfl) ?_
          refine st (by rfl) (S_val (v := .agg #[.slice A N.length cp, .int .i64 most]) (R_loadA [.slice A N.length cp, .int .i64 most] (by kernel_rfl) (by kernel_rfl) (by kernel_rfl) (fun k u hk => by rw [hB4.cell]; exact get_part _ 0 _ k u rfl hk)) ?_)
          refine seg1 (ρ' := upd (upd (upd (upd (upd (upd (upd (upd (updL ρ [(0, .agg #[.slice A N.length cp, .int .i64 most]), (1, .agg #[.int .i64 k, .int .i64 wd, .int .i64 a, .int .i64 b, .int .i64 c, .int .u64 x]), (2, .pointer (some ⟨w.heap.size, 0, none⟩)), (3, .pointer (some ⟨w1.heap.size, 0, none⟩)), (4, .pointer (some ⟨w5.heap.size, 0, none⟩)), (5, .int .i64 0), (6, .int .i64 0), (8, .int .i64 k), (9, .bool (k == 0))]) 21 (.bool (k == 1))) 20 (.bool (k == 1))) 32 (.bool (k == 2))) 31 (.bool (k == 2))) 43 (.bool (k == 3))) 42 (.bool (k == 3))) 44 (.agg #[.slice A N.length cp, .int .i64 most])) 45 (.pointer (some ⟨w1.heap.size, 2, none⟩))) (by kernel_rfl) ?_
          refine st (by rfl) (S_val (v := .int .i64 a) (R_load (v := .int .i64 a) (by kernel_rfl) (by kernel_rfl) ((hB8.cell 2).trans rfl)) ?_)
          refine seg1 (ρ' := upd (upd (upd (upd (upd (upd (upd (upd (upd (upd (updL ρ [(0, .agg #[.slice A N.length cp, .int .i64 most]), (1, .agg #[.int .i64 k, .int .i64 wd, .int .i64 a, .int .i64 b, .int .i64 c, .int .u64 x]), (2, .pointer (some ⟨w.heap.size, 0, none⟩)), (3, .pointer (some ⟨w1.heap.size, 0, none⟩)), (4, .pointer (some ⟨w5.heap.size, 0, none⟩)), (5, .int .i64 0), (6, .int .i64 0), (8, .int .i64 k), (9, .bool (k == 0))]) 21 (.bool (k == 1))) 20 (.bool (k == 1))) 32 (.bool (k == 2))) 31 (.bool (k == 2))) 43 (.bool (k == 3))) 42 (.bool (k == 3))) 44 (.agg #[.slice A N.length cp, .int .i64 most])) 45 (.pointer (some ⟨w1.heap.size, 2, none⟩))) 46 (.int .i64 a)) 47 (.pointer (some ⟨w1.heap.size, 3, none⟩))) (by kernel_rfl) ?_
          refine st (by rfl) (S_val (v := .int .i64 b) (R_load (v := .int .i64 b) (by kernel_rfl) (by kernel_rfl) ((hB8.cell 3).trans rfl)) ?_)
          refine seg1 (ρ' := upd (upd (upd (upd (upd (upd (upd (upd (upd (upd (upd (upd (updL ρ [(0, .agg #[.slice A N.length cp, .int .i64 most]), (1, .agg #[.int .i64 k, .int .i64 wd, .int .i64 a, .int .i64 b, .int .i64 c, .int .u64 x]), (2, .pointer (some ⟨w.heap.size, 0, none⟩)), (3, .pointer (some ⟨w1.heap.size, 0, none⟩)), (4, .pointer (some ⟨w5.heap.size, 0, none⟩)), (5, .int .i64 0), (6, .int .i64 0), (8, .int .i64 k), (9, .bool (k == 0))]) 21 (.bool (k == 1))) 20 (.bool (k == 1))) 32 (.bool (k == 2))) 31 (.bool (k == 2))) 43 (.bool (k == 3))) 42 (.bool (k == 3))) 44 (.agg #[.slice A N.length cp, .int .i64 most])) 45 (.pointer (some ⟨w1.heap.size, 2, none⟩))) 46 (.int .i64 a)) 47 (.pointer (some ⟨w1.heap.size, 3, none⟩))) 48 (.int .i64 b)) 49 (.pointer (some ⟨w1.heap.size, 4, none⟩))) (by kernel_rfl) ?_
          refine st (by rfl) (S_val (v := .int .i64 c) (R_load (v := .int .i64 c) (by kernel_rfl) (by kernel_rfl) ((hB8.cell 4).trans rfl)) ?_)
          have hzr := hT0.size
          refine st (by rfl) (S_call (args := [.agg #[.slice A N.length cp, .int .i64 most], .int .i64 a, .int .i64 b, .int .i64 c]) (by kernel_rfl) (rbin_ok A cp most N a b c _ hD hJ (by assumption) (by assumption) (by assumption)) ?_)
          rintro _ w49 ⟨A50, cp51, rfl, hD54, hw52, hT53⟩
          have hT0 := hT0.t0 hT53
          have hD := hD.tch0 hT53
          have hB4 := hB4.tch0 hT53
          have hB8 := hB8.tch0 hT53
          have hB14 := hB14.tch0 hT53
          refine seg3 (ρ' := upd (upd (upd (upd (upd (upd (upd (upd (upd (upd (upd (upd (upd (upd (upd (upd (upd (updL ρ [(0, .agg #[.slice A N.length cp, .int .i64 most]), (1, .agg #[.int .i64 k, .int .i64 wd, .int .i64 a, .int .i64 b, .int .i64 c, .int .u64 x]), (2, .pointer (some ⟨w.heap.size, 0, none⟩)), (3, .pointer (some ⟨w1.heap.size, 0, none⟩)), (4, .pointer (some ⟨w5.heap.size, 0, none⟩)), (5, .int .i64 0), (6, .int .i64 0), (8, .int .i64 k), (9, .bool (k == 0))]) 21 (.bool (k == 1))) 20 (.bool (k == 1))) 32 (.bool (k == 2))) 31 (.bool (k == 2))) 43 (.bool (k == 3))) 42 (.bool (k == 3))) 44 (.agg #[.slice A N.length cp, .int .i64 most])) 45 (.pointer (some ⟨w1.heap.size, 2, none⟩))) 46 (.int .i64 a)) 47 (.pointer (some ⟨w1.heap.size, 3, none⟩))) 48 (.int .i64 b)) 49 (.pointer (some ⟨w1.heap.size, 4, none⟩))) 50 (.int .i64 c)) 51 (.tuple #[.agg #[.slice A50 (((binF N most a b c).2.2).length) cp51, .int .i64 most], .int .i64 ((binF N most a b c).1), .int .i64 ((binF N most a b c).2.1)])) 52 (.agg #[.slice A50 (((binF N most a b c).2.2).length) cp51, .int .i64 most])) 53 (.int .i64 ((binF N most a b c).1))) 54 (.int .i64 ((binF N most a b c).2.1))) (by kernel_rfl) ?_
          refine st (by rfl) (S_storeA (b := w5.heap.size) (j := 0) (cs := [.slice A50 (((binF N most a b c).2.2).length) cp51, .int .i64 most]) (by kernel_rfl) (by kernel_rfl) (by kernel_rfl) (by simp [oneV]) hB14 (by simp) fun w55 hT56 hs57 hB14' => ?_)
          have hT0 := (hT0).then hT56 (fun c e => by have : c = w5.heap.size := e; omega)
          have hD := hD.tch hT56 (fun c hc e => hD.blk_ne hB14 (by decide) c hc e)
          have hB4 := hB4.tch hT56 (fun e => by have : w.heap.size = w5.heap.size := e; omega)
          have hB8 := hB8.tch hT56 (hB8.ne hB14 (by decide))
          have hD54 := hD54.tch hT56 (fun c hc e => hD54.blk_ne hB14 (by decide) c hc e)
          replace hB14 : Blk w55 w5.heap.size 27 [.slice A50 (((binF N most a b c).2.2).length) cp51, .int .i64 most] := hB14'
          refine seg2 (ρ' := upd (upd (upd (upd (upd (upd (upd (upd (upd (upd (upd (upd (upd (upd (upd (upd (upd (upd (upd (updL ρ [(0, .agg #[.slice A N.length cp, .int .i64 most]), (1, .agg #[.int .i64 k, .int .i64 wd, .int .i64 a, .int .i64 b, .int .i64 c, .int .u64 x]), (2, .pointer (some ⟨w.heap.size, 0, none⟩)), (3, .pointer (some ⟨w1.heap.size, 0, none⟩)), (4, .pointer (some ⟨w5.heap.size, 0, none⟩)), (5, .int .i64 0), (6, .int .i64 0), (8, .int .i64 k), (9, .bool (k == 0))]) 21 (.bool (k == 1))) 20 (.bool (k == 1))) 32 (.bool (k == 2))) 31 (.bool (k == 2))) 43 (.bool (k == 3))) 42 (.bool (k == 3))) 44 (.agg #[.slice A N.length cp, .int .i64 most])) 45 (.pointer (some ⟨w1.heap.size, 2, none⟩))) 46 (.int .i64 a)) 47 (.pointer (some ⟨w1.heap.size, 3, none⟩))) 48 (.int .i64 b)) 49 (.pointer (some ⟨w1.heap.size, 4, none⟩))) 50 (.int .i64 c)) 51 (.tuple #[.agg #[.slice A50 (((binF N most a b c).2.2).length) cp51, .int .i64 most], .int .i64 ((binF N most a b c).1), .int .i64 ((binF N most a b c).2.1)])) 52 (.agg #[.slice A50 (((binF N most a b c).2.2).length) cp51, .int .i64 most])) 53 (.int .i64 ((binF N most a b c).1))) 54 (.int .i64 ((binF N most a b c).2.1))) 5 (.int .i64 ((binF N most a b c).1))) 6 (.int .i64 ((binF N most a b c).2.1))) (by kernel_rfl) ?_
          refine op_nil ?_
          refine W_ret ?_
          refine ⟨_, Res_cell2 (b := w5.heap.size) (cs := [.slice A50 (((binF N most a b c).2.2).length) cp51, .int .i64 most]) (by rfl) (by kernel_rfl) (by kernel_rfl) (by kernel_rfl) (by kernel_rfl) hB14 (by kernel_rfl) (by kernel_rfl), ?_⟩
          have e : madeF N most k wd a b c x = binF N most a b c := by unfold madeF; rw [if_neg (by omega), if_neg (by omega), if_neg (by omega), if_pos (by omega)]
          rw [e]
          exact ⟨A50, cp51, rfl, hD54, fun c h => (hw52 c h).imp id (fun q => Nat.le_trans hzr q), hT0⟩
        · replace hc48 : k ≠ 3 := (ne_of_beq_false hc48)
          refine W_seq ?_
          refine W_region (by kernel_rfl) ?_
          refine seg2 (ρ' := upd (upd (upd (upd (upd (upd (upd (upd (updL ρ [(0, .agg #[.slice A N.length cp, .int .i64 most]), (1, .agg #[.int .i64 k, .int .i64 wd, .int .i64 a, .int .i64 b, .int .i64 c, .int .u64 x]), (2, .pointer (some ⟨w.heap.size, 0, none⟩)), (3, .pointer (some ⟨w1.heap.size, 0, none⟩)), (4, .pointer (some ⟨w5.heap.size, 0, none⟩)), (5, .int .i64 0), (6, .int .i64 0), (8, .int .i64 k), (9, .bool (k == 0))]) 21 (.bool (k == 1))) 20 (.bool (k == 1))) 32 (.bool (k == 2))) 31 (.bool (k == 2))) 43 (.bool (k == 3))) 42 (.bool (k == 3))) 56 (.bool (k == 4))) 55 (.bool (k == 4))) (by kernel_rfl) ?_
          refine op_nil ?_
          refine W_cond (k == 4) (by kernel_rfl) (by kernel_rfl) (fun hc58 => ?_) (fun hc58 => ?_)
          · replace hc58 : k = 4 := (eq_of_beq hc58)
            refine W_seq ?_
            refine W_fg [(0, .agg #[.slice A N.length cp, .int .i64 most]), (1, .agg #[.int .i64 k, .int .i64 wd, .int .i64 a, .int .i64 b, .int .i64 c, .int .u64 x]), (2, .pointer (some ⟨w.heap.size, 0, none⟩)), (3, .pointer (some ⟨w1.heap.size, 0, none⟩)), (4, .pointer (some ⟨w5.heap.size, 0, none⟩)), (5, .int .i64 0), (6, .int .i64 0), (8, .int .i64 k), (9, .bool (k == 0)), (20, .bool (k == 1)), (31, .bool (k == 2)), (42, .bool (k == 3)), (55, .bool (k == 4))] (by kernel_rfl) fun ρ => ?_
            refine W_region (by kernel_rfl) ?_
            refine st (by rfl) (S_val (v := .agg #[.slice A N.length cp, .int .i64 most]) (R_loadA [.slice A N.length cp, .int .i64 most] (by kernel_rfl) (by kernel_rfl) (by kernel_rfl) (fun k u hk => by rw [hB4.cell]; exact get_part _ 0 _ k u rfl hk)) ?_)
            refine seg1 (ρ' := upd (upd (updL ρ [(0, .agg #[.slice A N.length cp, .int .i64 most]), (1, .agg #[.int .i64 k, .int .i64 wd, .int .i64 a, .int .i64 b, .int .i64 c, .int .u64 x]), (2, .pointer (some ⟨w.heap.size, 0, none⟩)), (3, .pointer (some ⟨w1.heap.size, 0, none⟩)), (4, .pointer (some ⟨w5.heap.size, 0, none⟩)), (5, .int .i64 0), (6, .int .i64 0), (8, .int .i64 k), (9, .bool (k == 0)), (20, .bool (k == 1)), (31, .bool (k == 2)), (42, .bool (k == 3)), (55, .bool (k == 4))]) 57 (.agg #[.slice A N.length cp, .int .i64 most])) 58 (.pointer (some ⟨w1.heap.size, 2, none⟩))) (by kernel_rfl) ?_
            refine st (by rfl) (S_val (v := .int .i64 a) (R_load (v := .int .i64 a) (by kernel_rfl) (by kernel_rfl) ((hB8.cell 2).trans rfl)) ?_)
            refine seg1 (ρ' := upd (upd (upd (upd (updL ρ [(0, .agg #[.slice A N.length cp, .int .i64 most]), (1, .agg #[.int .i64 k, .int .i64 wd, .int .i64 a, .int .i64 b, .int .i64 c, .int .u64 x]), (2, .pointer (some ⟨w.heap.size, 0, none⟩)), (3, .pointer (some ⟨w1.heap.size, 0, none⟩)), (4, .pointer (some ⟨w5.heap.size, 0, none⟩)), (5, .int .i64 0), (6, .int .i64 0), (8, .int .i64 k), (9, .bool (k == 0)), (20, .bool (k == 1)), (31, .bool (k == 2)), (42, .bool (k == 3)), (55, .bool (k == 4))]) 57 (.agg #[.slice A N.length cp, .int .i64 most])) 58 (.pointer (some ⟨w1.heap.size, 2, none⟩))) 59 (.int .i64 a)) 60 (.pointer (some ⟨w1.heap.size, 3, none⟩))) (by kernel_rfl) ?_
            refine st (by rfl) (S_val (v := .int .i64 b) (R_load (v := .int .i64 b) (by kernel_rfl) (by kernel_rfl) ((hB8.cell 3).trans rfl)) ?_)
            refine seg1 (ρ' := upd (upd (upd (upd (upd (upd (updL ρ [(0, .agg #[.slice A N.length cp, .int .i64 most]), (1, .agg #[.int .i64 k, .int .i64 wd, .int .i64 a, .int .i64 b, .int .i64 c, .int .u64 x]), (2, .pointer (some ⟨w.heap.size, 0, none⟩)), (3, .pointer (some ⟨w1.heap.size, 0, none⟩)), (4, .pointer (some ⟨w5.heap.size, 0, none⟩)), (5, .int .i64 0), (6, .int .i64 0), (8, .int .i64 k), (9, .bool (k == 0)), (20, .bool (k == 1)), (31, .bool (k == 2)), (42, .bool (k == 3)), (55, .bool (k == 4))]) 57 (.agg #[.slice A N.length cp, .int .i64 most])) 58 (.pointer (some ⟨w1.heap.size, 2, none⟩))) 59 (.int .i64 a)) 60 (.pointer (some ⟨w1.heap.size, 3, none⟩))) 61 (.int .i64 b)) 62 (.pointer (some ⟨w1.heap.size, 4, none⟩))) (by kernel_rfl) ?_
            refine st (by rfl) (S_val (v := .int .i64 c) (R_load (v := .int .i64 c) (by kernel_rfl) (by kernel_rfl) ((hB8.cell 4).trans rfl)) ?_)
            have hzr := hT0.size
            refine st (by rfl) (S_call (args := [.agg #[.slice A N.length cp, .int .i64 most], .int .i64 a, .int .i64 b, .int .i64 c]) (by kernel_rfl) (rite_ok A cp most N a b c _ hD hJ (by assumption) (by assumption) (by assumption)) ?_)
            rintro _ w59 ⟨A60, cp61, rfl, hD64, hw62, hT63⟩
            have hT0 := hT0.t0 hT63
            have hD := hD.tch0 hT63
            have hB4 := hB4.tch0 hT63
            have hB8 := hB8.tch0 hT63
            have hB14 := hB14.tch0 hT63
            refine seg3 (ρ' := upd (upd (upd (upd (upd (upd (upd (upd (upd (upd (upd (updL ρ [(0, .agg #[.slice A N.length cp, .int .i64 most]), (1, .agg #[.int .i64 k, .int .i64 wd, .int .i64 a, .int .i64 b, .int .i64 c, .int .u64 x]), (2, .pointer (some ⟨w.heap.size, 0, none⟩)), (3, .pointer (some ⟨w1.heap.size, 0, none⟩)), (4, .pointer (some ⟨w5.heap.size, 0, none⟩)), (5, .int .i64 0), (6, .int .i64 0), (8, .int .i64 k), (9, .bool (k == 0)), (20, .bool (k == 1)), (31, .bool (k == 2)), (42, .bool (k == 3)), (55, .bool (k == 4))]) 57 (.agg #[.slice A N.length cp, .int .i64 most])) 58 (.pointer (some ⟨w1.heap.size, 2, none⟩))) 59 (.int .i64 a)) 60 (.pointer (some ⟨w1.heap.size, 3, none⟩))) 61 (.int .i64 b)) 62 (.pointer (some ⟨w1.heap.size, 4, none⟩))) 63 (.int .i64 c)) 64 (.tuple #[.agg #[.slice A60 (((iteF N most a b c).2.2).length) cp61, .int .i64 most], .int .i64 ((iteF N most a b c).1), .int .i64 ((iteF N most a b c).2.1)])) 65 (.agg #[.slice A60 (((iteF N most a b c).2.2).length) cp61, .int .i64 most])) 66 (.int .i64 ((iteF N most a b c).1))) 67 (.int .i64 ((iteF N most a b c).2.1))) (by kernel_rfl) ?_
            refine st (by rfl) (S_storeA (b := w5.heap.size) (j := 0) (cs := [.slice A60 (((iteF N most a b c).2.2).length) cp61, .int .i64 most]) (by kernel_rfl) (by kernel_rfl) (by kernel_rfl) (by simp [oneV]) hB14 (by simp) fun w65 hT66 hs67 hB14' => ?_)
            have hT0 := (hT0).then hT66 (fun c e => by have : c = w5.heap.size := e; omega)
            have hD := hD.tch hT66 (fun c hc e => hD.blk_ne hB14 (by decide) c hc e)
            have hB4 := hB4.tch hT66 (fun e => by have : w.heap.size = w5.heap.size := e; omega)
            have hB8 := hB8.tch hT66 (hB8.ne hB14 (by decide))
            have hD64 := hD64.tch hT66 (fun c hc e => hD64.blk_ne hB14 (by decide) c hc e)
            replace hB14 : Blk w65 w5.heap.size 27 [.slice A60 (((iteF N most a b c).2.2).length) cp61, .int .i64 most] := hB14'
            refine seg2 (ρ' := upd (upd (upd (upd (upd (upd (upd (upd (upd (upd (upd (upd (upd (updL ρ [(0, .agg #[.slice A N.length cp, .int .i64 most]), (1, .agg #[.int .i64 k, .int .i64 wd, .int .i64 a, .int .i64 b, .int .i64 c, .int .u64 x]), (2, .pointer (some ⟨w.heap.size, 0, none⟩)), (3, .pointer (some ⟨w1.heap.size, 0, none⟩)), (4, .pointer (some ⟨w5.heap.size, 0, none⟩)), (5, .int .i64 0), (6, .int .i64 0), (8, .int .i64 k), (9, .bool (k == 0)), (20, .bool (k == 1)), (31, .bool (k == 2)), (42, .bool (k == 3)), (55, .bool (k == 4))]) 57 (.agg #[.slice A N.length cp, .int .i64 most])) 58 (.pointer (some ⟨w1.heap.size, 2, none⟩))) 59 (.int .i64 a)) 60 (.pointer (some ⟨w1.heap.size, 3, none⟩))) 61 (.int .i64 b)) 62 (.pointer (some ⟨w1.heap.size, 4, none⟩))) 63 (.int .i64 c)) 64 (.tuple #[.agg #[.slice A60 (((iteF N most a b c).2.2).length) cp61, .int .i64 most], .int .i64 ((iteF N most a b c).1), .int .i64 ((iteF N most a b c).2.1)])) 65 (.agg #[.slice A60 (((iteF N most a b c).2.2).length) cp61, .int .i64 most])) 66 (.int .i64 ((iteF N most a b c).1))) 67 (.int .i64 ((iteF N most a b c).2.1))) 5 (.int .i64 ((iteF N most a b c).1))) 6 (.int .i64 ((iteF N most a b c).2.1))) (by kernel_rfl) ?_
            refine op_nil ?_
            refine W_ret ?_
            refine ⟨_, Res_cell2 (b := w5.heap.size) (cs := [.slice A60 (((iteF N most a b c).2.2).length) cp61, .int .i64 most]) (by rfl) (by kernel_rfl) (by kernel_rfl) (by kernel_rfl) (by kernel_rfl) hB14 (by kernel_rfl) (by kernel_rfl), ?_⟩
            have e : madeF N most k wd a b c x = iteF N most a b c := by unfold madeF; rw [if_neg (by omega), if_neg (by omega), if_neg (by omega), if_neg (by omega), if_pos (by omega)]
            rw [e]
            exact ⟨A60, cp61, rfl, hD64, fun c h => (hw62 c h).imp id (fun q => Nat.le_trans hzr q), hT0⟩
          · replace hc58 : k ≠ 4 := (ne_of_beq_false hc58)
            refine W_seq ?_
            refine W_fg [(0, .agg #[.slice A N.length cp, .int .i64 most]), (1, .agg #[.int .i64 k, .int .i64 wd, .int .i64 a, .int .i64 b, .int .i64 c, .int .u64 x]), (2, .pointer (some ⟨w.heap.size, 0, none⟩)), (3, .pointer (some ⟨w1.heap.size, 0, none⟩)), (4, .pointer (some ⟨w5.heap.size, 0, none⟩)), (5, .int .i64 0), (6, .int .i64 0), (8, .int .i64 k), (9, .bool (k == 0)), (20, .bool (k == 1)), (31, .bool (k == 2)), (42, .bool (k == 3)), (55, .bool (k == 4))] (by kernel_rfl) fun ρ => ?_
            refine W_region (by kernel_rfl) ?_
            refine seg2 (ρ' := upd (upd (updL ρ [(0, .agg #[.slice A N.length cp, .int .i64 most]), (1, .agg #[.int .i64 k, .int .i64 wd, .int .i64 a, .int .i64 b, .int .i64 c, .int .u64 x]), (2, .pointer (some ⟨w.heap.size, 0, none⟩)), (3, .pointer (some ⟨w1.heap.size, 0, none⟩)), (4, .pointer (some ⟨w5.heap.size, 0, none⟩)), (5, .int .i64 0), (6, .int .i64 0), (8, .int .i64 k), (9, .bool (k == 0)), (20, .bool (k == 1)), (31, .bool (k == 2)), (42, .bool (k == 3)), (55, .bool (k == 4))]) 69 (.bool (k == 5))) 68 (.bool (k == 5))) (by kernel_rfl) ?_
            refine op_nil ?_
            refine W_cond (k == 5) (by kernel_rfl) (by kernel_rfl) (fun hc68 => ?_) (fun hc68 => ?_)
            · replace hc68 : k = 5 := (eq_of_beq hc68)
              refine W_seq ?_
              refine W_region (by kernel_rfl) ?_
              refine st (by rfl) (S_val (v := .agg #[.slice A N.length cp, .int .i64 most]) (R_loadA [.slice A N.length cp, .int .i64 most] (by kernel_rfl) (by kernel_rfl) (by kernel_rfl) (fun k u hk => by rw [hB4.cell]; exact get_part _ 0 _ k u rfl hk)) ?_)
              refine seg1 (ρ' := upd (upd (upd (upd (updL ρ [(0, .agg #[.slice A N.length cp, .int .i64 most]), (1, .agg #[.int .i64 k, .int .i64 wd, .int .i64 a, .int .i64 b, .int .i64 c, .int .u64 x]), (2, .pointer (some ⟨w.heap.size, 0, none⟩)), (3, .pointer (some ⟨w1.heap.size, 0, none⟩)), (4, .pointer (some ⟨w5.heap.size, 0, none⟩)), (5, .int .i64 0), (6, .int .i64 0), (8, .int .i64 k), (9, .bool (k == 0)), (20, .bool (k == 1)), (31, .bool (k == 2)), (42, .bool (k == 3)), (55, .bool (k == 4))]) 69 (.bool (k == 5))) 68 (.bool (k == 5))) 70 (.agg #[.slice A N.length cp, .int .i64 most])) 71 (.pointer (some ⟨w1.heap.size, 2, none⟩))) (by kernel_rfl) ?_
              refine st (by rfl) (S_val (v := .int .i64 a) (R_load (v := .int .i64 a) (by kernel_rfl) (by kernel_rfl) ((hB8.cell 2).trans rfl)) ?_)
              refine seg1 (ρ' := upd (upd (upd (upd (upd (upd (updL ρ [(0, .agg #[.slice A N.length cp, .int .i64 most]), (1, .agg #[.int .i64 k, .int .i64 wd, .int .i64 a, .int .i64 b, .int .i64 c, .int .u64 x]), (2, .pointer (some ⟨w.heap.size, 0, none⟩)), (3, .pointer (some ⟨w1.heap.size, 0, none⟩)), (4, .pointer (some ⟨w5.heap.size, 0, none⟩)), (5, .int .i64 0), (6, .int .i64 0), (8, .int .i64 k), (9, .bool (k == 0)), (20, .bool (k == 1)), (31, .bool (k == 2)), (42, .bool (k == 3)), (55, .bool (k == 4))]) 69 (.bool (k == 5))) 68 (.bool (k == 5))) 70 (.agg #[.slice A N.length cp, .int .i64 most])) 71 (.pointer (some ⟨w1.heap.size, 2, none⟩))) 72 (.int .i64 a)) 73 (.pointer (some ⟨w1.heap.size, 3, none⟩))) (by kernel_rfl) ?_
              refine st (by rfl) (S_val (v := .int .i64 b) (R_load (v := .int .i64 b) (by kernel_rfl) (by kernel_rfl) ((hB8.cell 3).trans rfl)) ?_)
              refine seg1 (ρ' := upd (upd (upd (upd (upd (upd (upd (upd (updL ρ [(0, .agg #[.slice A N.length cp, .int .i64 most]), (1, .agg #[.int .i64 k, .int .i64 wd, .int .i64 a, .int .i64 b, .int .i64 c, .int .u64 x]), (2, .pointer (some ⟨w.heap.size, 0, none⟩)), (3, .pointer (some ⟨w1.heap.size, 0, none⟩)), (4, .pointer (some ⟨w5.heap.size, 0, none⟩)), (5, .int .i64 0), (6, .int .i64 0), (8, .int .i64 k), (9, .bool (k == 0)), (20, .bool (k == 1)), (31, .bool (k == 2)), (42, .bool (k == 3)), (55, .bool (k == 4))]) 69 (.bool (k == 5))) 68 (.bool (k == 5))) 70 (.agg #[.slice A N.length cp, .int .i64 most])) 71 (.pointer (some ⟨w1.heap.size, 2, none⟩))) 72 (.int .i64 a)) 73 (.pointer (some ⟨w1.heap.size, 3, none⟩))) 74 (.int .i64 b)) 75 (.pointer (some ⟨w1.heap.size, 1, none⟩))) (by kernel_rfl) ?_
              refine st (by rfl) (S_val (v := .int .i64 wd) (R_load (v := .int .i64 wd) (by kernel_rfl) (by kernel_rfl) ((hB8.cell 1).trans rfl)) ?_)
              have hzr := hT0.size
              refine st (by rfl) (S_call (args := [.agg #[.slice A N.length cp, .int .i64 most], .int .i64 a, .int .i64 b, .int .i64 wd]) (by kernel_rfl) (rext_ok A cp most N a b wd _ hD hJ (by assumption) (by assumption) (by assumption)) ?_)
              rintro _ w69 ⟨A70, cp71, rfl, hD74, hw72, hT73⟩
              have hT0 := hT0.t0 hT73
              have hD := hD.tch0 hT73
              have hB4 := hB4.tch0 hT73
              have hB8 := hB8.tch0 hT73
              have hB14 := hB14.tch0 hT73
              refine seg3 (ρ' := upd (upd (upd (upd (upd (upd (upd (upd (upd (upd (upd (upd (upd (updL ρ [(0, .agg #[.slice A N.length cp, .int .i64 most]), (1, .agg #[.int .i64 k, .int .i64 wd, .int .i64 a, .int .i64 b, .int .i64 c, .int .u64 x]), (2, .pointer (some ⟨w.heap.size, 0, none⟩)), (3, .pointer (some ⟨w1.heap.size, 0, none⟩)), (4, .pointer (some ⟨w5.heap.size, 0, none⟩)), (5, .int .i64 0), (6, .int .i64 0), (8, .int .i64 k), (9, .bool (k == 0)), (20, .bool (k == 1)), (31, .bool (k == 2)), (42, .bool (k == 3)), (55, .bool (k == 4))]) 69 (.bool (k == 5))) 68 (.bool (k == 5))) 70 (.agg #[.slice A N.length cp, .int .i64 most])) 71 (.pointer (some ⟨w1.heap.size, 2, none⟩))) 72 (.int .i64 a)) 73 (.pointer (some ⟨w1.heap.size, 3, none⟩))) 74 (.int .i64 b)) 75 (.pointer (some ⟨w1.heap.size, 1, none⟩))) 76 (.int .i64 wd)) 77 (.tuple #[.agg #[.slice A70 (((extF N most a b wd).2.2).length) cp71, .int .i64 most], .int .i64 ((extF N most a b wd).1), .int .i64 ((extF N most a b wd).2.1)])) 78 (.agg #[.slice A70 (((extF N most a b wd).2.2).length) cp71, .int .i64 most])) 79 (.int .i64 ((extF N most a b wd).1))) 80 (.int .i64 ((extF N most a b wd).2.1))) (by kernel_rfl) ?_
              refine st (by rfl) (S_storeA (b := w5.heap.size) (j := 0) (cs := [.slice A70 (((extF N most a b wd).2.2).length) cp71, .int .i64 most]) (by kernel_rfl) (by kernel_rfl) (by kernel_rfl) (by simp [oneV]) hB14 (by simp) fun w75 hT76 hs77 hB14' => ?_)
              have hT0 := (hT0).then hT76 (fun c e => by have : c = w5.heap.size := e; omega)
              have hD := hD.tch hT76 (fun c hc e => hD.blk_ne hB14 (by decide) c hc e)
              have hB4 := hB4.tch hT76 (fun e => by have : w.heap.size = w5.heap.size := e; omega)
              have hB8 := hB8.tch hT76 (hB8.ne hB14 (by decide))
              have hD74 := hD74.tch hT76 (fun c hc e => hD74.blk_ne hB14 (by decide) c hc e)
              replace hB14 : Blk w75 w5.heap.size 27 [.slice A70 (((extF N most a b wd).2.2).length) cp71, .int .i64 most] := hB14'
              refine seg2 (ρ' := upd (upd (upd (upd (upd (upd (upd (upd (upd (upd (upd (upd (upd (upd (upd (updL ρ [(0, .agg #[.slice A N.length cp, .int .i64 most]), (1, .agg #[.int .i64 k, .int .i64 wd, .int .i64 a, .int .i64 b, .int .i64 c, .int .u64 x]), (2, .pointer (some ⟨w.heap.size, 0, none⟩)), (3, .pointer (some ⟨w1.heap.size, 0, none⟩)), (4, .pointer (some ⟨w5.heap.size, 0, none⟩)), (5, .int .i64 0), (6, .int .i64 0), (8, .int .i64 k), (9, .bool (k == 0)), (20, .bool (k == 1)), (31, .bool (k == 2)), (42, .bool (k == 3)), (55, .bool (k == 4))]) 69 (.bool (k == 5))) 68 (.bool (k == 5))) 70 (.agg #[.slice A N.length cp, .int .i64 most])) 71 (.pointer (some ⟨w1.heap.size, 2, none⟩))) 72 (.int .i64 a)) 73 (.pointer (some ⟨w1.heap.size, 3, none⟩))) 74 (.int .i64 b)) 75 (.pointer (some ⟨w1.heap.size, 1, none⟩))) 76 (.int .i64 wd)) 77 (.tuple #[.agg #[.slice A70 (((extF N most a b wd).2.2).length) cp71, .int .i64 most], .int .i64 ((extF N most a b wd).1), .int .i64 ((extF N most a b wd).2.1)])) 78 (.agg #[.slice A70 (((extF N most a b wd).2.2).length) cp71, .int .i64 most])) 79 (.int .i64 ((extF N most a b wd).1))) 80 (.int .i64 ((extF N most a b wd).2.1))) 5 (.int .i64 ((extF N most a b wd).1))) 6 (.int .i64 ((extF N most a b wd).2.1))) (by kernel_rfl) ?_
              refine op_nil ?_
              refine W_ret ?_
              refine ⟨_, Res_cell2 (b := w5.heap.size) (cs := [.slice A70 (((extF N most a b wd).2.2).length) cp71, .int .i64 most]) (by rfl) (by kernel_rfl) (by kernel_rfl) (by kernel_rfl) (by kernel_rfl) hB14 (by kernel_rfl) (by kernel_rfl), ?_⟩
              have e : madeF N most k wd a b c x = extF N most a b wd := by unfold madeF; rw [if_neg (by omega), if_neg (by omega), if_neg (by omega), if_neg (by omega), if_neg (by omega), if_pos (by omega)]
              rw [e]
              exact ⟨A70, cp71, rfl, hD74, fun c h => (hw72 c h).imp id (fun q => Nat.le_trans hzr q), hT0⟩
            · replace hc68 : k ≠ 5 := (ne_of_beq_false hc68)
              refine W_seq ?_
              refine W_region (by kernel_rfl) ?_
              refine seg2 (ρ' := upd (upd (upd (upd (updL ρ [(0, .agg #[.slice A N.length cp, .int .i64 most]), (1, .agg #[.int .i64 k, .int .i64 wd, .int .i64 a, .int .i64 b, .int .i64 c, .int .u64 x]), (2, .pointer (some ⟨w.heap.size, 0, none⟩)), (3, .pointer (some ⟨w1.heap.size, 0, none⟩)), (4, .pointer (some ⟨w5.heap.size, 0, none⟩)), (5, .int .i64 0), (6, .int .i64 0), (8, .int .i64 k), (9, .bool (k == 0)), (20, .bool (k == 1)), (31, .bool (k == 2)), (42, .bool (k == 3)), (55, .bool (k == 4))]) 69 (.bool (k == 5))) 68 (.bool (k == 5))) 82 (.bool (k == 6))) 81 (.bool (k == 6))) (by kernel_rfl) ?_
              refine op_nil ?_
              refine W_cond (k == 6) (by kernel_rfl) (by kernel_rfl) (fun hc78 => ?_) (fun hc78 => ?_)
              · replace hc78 : k = 6 := (eq_of_beq hc78)
                refine W_seq ?_
                refine W_region (by kernel_rfl) ?_
                refine st (by rfl) (S_val (v := .agg #[.slice A N.length cp, .int .i64 most]) (R_loadA [.slice A N.length cp, .int .i64 most] (by kernel_rfl) (by kernel_rfl) (by kernel_rfl) (fun k u hk => by rw [hB4.cell]; exact get_part _ 0 _ k u rfl hk)) ?_)
                refine seg1 (ρ' := upd (upd (upd (upd (upd (upd (updL ρ [(0, .agg #[.slice A N.length cp, .int .i64 most]), (1, .agg #[.int .i64 k, .int .i64 wd, .int .i64 a, .int .i64 b, .int .i64 c, .int .u64 x]), (2, .pointer (some ⟨w.heap.size, 0, none⟩)), (3, .pointer (some ⟨w1.heap.size, 0, none⟩)), (4, .pointer (some ⟨w5.heap.size, 0, none⟩)), (5, .int .i64 0), (6, .int .i64 0), (8, .int .i64 k), (9, .bool (k == 0)), (20, .bool (k == 1)), (31, .bool (k == 2)), (42, .bool (k == 3)), (55, .bool (k == 4))]) 69 (.bool (k == 5))) 68 (.bool (k == 5))) 82 (.bool (k == 6))) 81 (.bool (k == 6))) 83 (.agg #[.slice A N.length cp, .int .i64 most])) 84 (.pointer (some ⟨w1.heap.size, 2, none⟩))) (by kernel_rfl) ?_
                refine st (by rfl) (S_val (v := .int .i64 a) (R_load (v := .int .i64 a) (by kernel_rfl) (by kernel_rfl) ((hB8.cell 2).trans rfl)) ?_)
                refine seg1 (ρ' := upd (upd (upd (upd (upd (upd (upd (upd (updL ρ [(0, .agg #[.slice A N.length cp, .int .i64 most]), (1, .agg #[.int .i64 k, .int .i64 wd, .int .i64 a, .int .i64 b, .int .i64 c, .int .u64 x]), (2, .pointer (some ⟨w.heap.size, 0, none⟩)), (3, .pointer (some ⟨w1.heap.size, 0, none⟩)), (4, .pointer (some ⟨w5.heap.size, 0, none⟩)), (5, .int .i64 0), (6, .int .i64 0), (8, .int .i64 k), (9, .bool (k == 0)), (20, .bool (k == 1)), (31, .bool (k == 2)), (42, .bool (k == 3)), (55, .bool (k == 4))]) 69 (.bool (k == 5))) 68 (.bool (k == 5))) 82 (.bool (k == 6))) 81 (.bool (k == 6))) 83 (.agg #[.slice A N.length cp, .int .i64 most])) 84 (.pointer (some ⟨w1.heap.size, 2, none⟩))) 85 (.int .i64 a)) 86 (.pointer (some ⟨w1.heap.size, 3, none⟩))) (by kernel_rfl) ?_
                refine st (by rfl) (S_val (v := .int .i64 b) (R_load (v := .int .i64 b) (by kernel_rfl) (by kernel_rfl) ((hB8.cell 3).trans rfl)) ?_)
                have hzr := hT0.size
                refine st (by rfl) (S_call (args := [.agg #[.slice A N.length cp, .int .i64 most], .int .i64 a, .int .i64 b]) (by kernel_rfl) (rcat_ok A cp most N a b _ hD hJ (by assumption) (by assumption)) ?_)
                rintro _ w79 ⟨A80, cp81, rfl, hD84, hw82, hT83⟩
                have hT0 := hT0.t0 hT83
                have hD := hD.tch0 hT83
                have hB4 := hB4.tch0 hT83
                have hB8 := hB8.tch0 hT83
                have hB14 := hB14.tch0 hT83
                refine seg3 (ρ' := upd (upd (upd (upd (upd (upd (upd (upd (upd (upd (upd (upd (upd (updL ρ [(0, .agg #[.slice A N.length cp, .int .i64 most]), (1, .agg #[.int .i64 k, .int .i64 wd, .int .i64 a, .int .i64 b, .int .i64 c, .int .u64 x]), (2, .pointer (some ⟨w.heap.size, 0, none⟩)), (3, .pointer (some ⟨w1.heap.size, 0, none⟩)), (4, .pointer (some ⟨w5.heap.size, 0, none⟩)), (5, .int .i64 0), (6, .int .i64 0), (8, .int .i64 k), (9, .bool (k == 0)), (20, .bool (k == 1)), (31, .bool (k == 2)), (42, .bool (k == 3)), (55, .bool (k == 4))]) 69 (.bool (k == 5))) 68 (.bool (k == 5))) 82 (.bool (k == 6))) 81 (.bool (k == 6))) 83 (.agg #[.slice A N.length cp, .int .i64 most])) 84 (.pointer (some ⟨w1.heap.size, 2, none⟩))) 85 (.int .i64 a)) 86 (.pointer (some ⟨w1.heap.size, 3, none⟩))) 87 (.int .i64 b)) 88 (.tuple #[.agg #[.slice A80 (((catF N most a b).2.2).length) cp81, .int .i64 most], .int .i64 ((catF N most a b).1), .int .i64 ((catF N most a b).2.1)])) 89 (.agg #[.slice A80 (((catF N most a b).2.2).length) cp81, .int .i64 most])) 90 (.int .i64 ((catF N most a b).1))) 91 (.int .i64 ((catF N most a b).2.1))) (by kernel_rfl) ?_
                refine st (by rfl) (S_storeA (b := w5.heap.size) (j := 0) (cs := [.slice A80 (((catF N most a b).2.2).length) cp81, .int .i64 most]) (by kernel_rfl) (by kernel_rfl) (by kernel_rfl) (by simp [oneV]) hB14 (by simp) fun w85 hT86 hs87 hB14' => ?_)
                have hT0 := (hT0).then hT86 (fun c e => by have : c = w5.heap.size := e; omega)
                have hD := hD.tch hT86 (fun c hc e => hD.blk_ne hB14 (by decide) c hc e)
                have hB4 := hB4.tch hT86 (fun e => by have : w.heap.size = w5.heap.size := e; omega)
                have hB8 := hB8.tch hT86 (hB8.ne hB14 (by decide))
                have hD84 := hD84.tch hT86 (fun c hc e => hD84.blk_ne hB14 (by decide) c hc e)
                replace hB14 : Blk w85 w5.heap.size 27 [.slice A80 (((catF N most a b).2.2).length) cp81, .int .i64 most] := hB14'
                refine seg2 (ρ' := upd (upd (upd (upd (upd (upd (upd (upd (upd (upd (upd (upd (upd (upd (upd (updL ρ [(0, .agg #[.slice A N.length cp, .int .i64 most]), (1, .agg #[.int .i64 k, .int .i64 wd, .int .i64 a, .int .i64 b, .int .i64 c, .int .u64 x]), (2, .pointer (some ⟨w.heap.size, 0, none⟩)), (3, .pointer (some ⟨w1.heap.size, 0, none⟩)), (4, .pointer (some ⟨w5.heap.size, 0, none⟩)), (5, .int .i64 0), (6, .int .i64 0), (8, .int .i64 k), (9, .bool (k == 0)), (20, .bool (k == 1)), (31, .bool (k == 2)), (42, .bool (k == 3)), (55, .bool (k == 4))]) 69 (.bool (k == 5))) 68 (.bool (k == 5))) 82 (.bool (k == 6))) 81 (.bool (k == 6))) 83 (.agg #[.slice A N.length cp, .int .i64 most])) 84 (.pointer (some ⟨w1.heap.size, 2, none⟩))) 85 (.int .i64 a)) 86 (.pointer (some ⟨w1.heap.size, 3, none⟩))) 87 (.int .i64 b)) 88 (.tuple #[.agg #[.slice A80 (((catF N most a b).2.2).length) cp81, .int .i64 most], .int .i64 ((catF N most a b).1), .int .i64 ((catF N most a b).2.1)])) 89 (.agg #[.slice A80 (((catF N most a b).2.2).length) cp81, .int .i64 most])) 90 (.int .i64 ((catF N most a b).1))) 91 (.int .i64 ((catF N most a b).2.1))) 5 (.int .i64 ((catF N most a b).1))) 6 (.int .i64 ((catF N most a b).2.1))) (by kernel_rfl) ?_
                refine op_nil ?_
                refine W_ret ?_
                refine ⟨_, Res_cell2 (b := w5.heap.size) (cs := [.slice A80 (((catF N most a b).2.2).length) cp81, .int .i64 most]) (by rfl) (by kernel_rfl) (by kernel_rfl) (by kernel_rfl) (by kernel_rfl) hB14 (by kernel_rfl) (by kernel_rfl), ?_⟩
                have e : madeF N most k wd a b c x = catF N most a b := by unfold madeF; rw [if_neg (by omega), if_neg (by omega), if_neg (by omega), if_neg (by omega), if_neg (by omega), if_neg (by omega), if_pos (by omega)]
                rw [e]
                exact ⟨A80, cp81, rfl, hD84, fun c h => (hw82 c h).imp id (fun q => Nat.le_trans hzr q), hT0⟩
              · replace hc78 : k ≠ 6 := (ne_of_beq_false hc78)
                refine W_skip ?_
                refine W_seq ?_
                refine W_region (by kernel_rfl) ?_
                refine st (by rfl) (S_val (v := .agg #[.slice A N.length cp, .int .i64 most]) (R_loadA [.slice A N.length cp, .int .i64 most] (by kernel_rfl) (by kernel_rfl) (by kernel_rfl) (fun k u hk => by rw [hB4.cell]; exact get_part _ 0 _ k u rfl hk)) ?_)
                refine seg1 (ρ' := upd (upd (upd (upd (upd (upd (updL ρ [(0, .agg #[.slice A N.length cp, .int .i64 most]), (1, .agg #[.int .i64 k, .int .i64 wd, .int .i64 a, .int .i64 b, .int .i64 c, .int .u64 x]), (2, .pointer (some ⟨w.heap.size, 0, none⟩)), (3, .pointer (some ⟨w1.heap.size, 0, none⟩)), (4, .pointer (some ⟨w5.heap.size, 0, none⟩)), (5, .int .i64 0), (6, .int .i64 0), (8, .int .i64 k), (9, .bool (k == 0)), (20, .bool (k == 1)), (31, .bool (k == 2)), (42, .bool (k == 3)), (55, .bool (k == 4))]) 69 (.bool (k == 5))) 68 (.bool (k == 5))) 82 (.bool (k == 6))) 81 (.bool (k == 6))) 92 (.agg #[.slice A N.length cp, .int .i64 most])) 93 (.pointer (some ⟨w1.heap.size, 2, none⟩))) (by kernel_rfl) ?_
                refine st (by rfl) (S_val (v := .int .i64 a) (R_load (v := .int .i64 a) (by kernel_rfl) (by kernel_rfl) ((hB8.cell 2).trans rfl)) ?_)
                refine seg1 (ρ' := upd (upd (upd (upd (upd (upd (upd (upd (updL ρ [(0, .agg #[.slice A N.length cp, .int .i64 most]), (1, .agg #[.int .i64 k, .int .i64 wd, .int .i64 a, .int .i64 b, .int .i64 c, .int .u64 x]), (2, .pointer (some ⟨w.heap.size, 0, none⟩)), (3, .pointer (some ⟨w1.heap.size, 0, none⟩)), (4, .pointer (some ⟨w5.heap.size, 0, none⟩)), (5, .int .i64 0), (6, .int .i64 0), (8, .int .i64 k), (9, .bool (k == 0)), (20, .bool (k == 1)), (31, .bool (k == 2)), (42, .bool (k == 3)), (55, .bool (k == 4))]) 69 (.bool (k == 5))) 68 (.bool (k == 5))) 82 (.bool (k == 6))) 81 (.bool (k == 6))) 92 (.agg #[.slice A N.length cp, .int .i64 most])) 93 (.pointer (some ⟨w1.heap.size, 2, none⟩))) 94 (.int .i64 a)) 95 (.pointer (some ⟨w1.heap.size, 1, none⟩))) (by kernel_rfl) ?_
                refine st (by rfl) (S_val (v := .int .i64 wd) (R_load (v := .int .i64 wd) (by kernel_rfl) (by kernel_rfl) ((hB8.cell 1).trans rfl)) ?_)
                refine seg1 (ρ' := upd (upd (upd (upd (upd (upd (upd (upd (upd (upd (updL ρ [(0, .agg #[.slice A N.length cp, .int .i64 most]), (1, .agg #[.int .i64 k, .int .i64 wd, .int .i64 a, .int .i64 b, .int .i64 c, .int .u64 x]), (2, .pointer (some ⟨w.heap.size, 0, none⟩)), (3, .pointer (some ⟨w1.heap.size, 0, none⟩)), (4, .pointer (some ⟨w5.heap.size, 0, none⟩)), (5, .int .i64 0), (6, .int .i64 0), (8, .int .i64 k), (9, .bool (k == 0)), (20, .bool (k == 1)), (31, .bool (k == 2)), (42, .bool (k == 3)), (55, .bool (k == 4))]) 69 (.bool (k == 5))) 68 (.bool (k == 5))) 82 (.bool (k == 6))) 81 (.bool (k == 6))) 92 (.agg #[.slice A N.length cp, .int .i64 most])) 93 (.pointer (some ⟨w1.heap.size, 2, none⟩))) 94 (.int .i64 a)) 95 (.pointer (some ⟨w1.heap.size, 1, none⟩))) 96 (.int .i64 wd)) 97 (.pointer (some ⟨w1.heap.size, 3, none⟩))) (by kernel_rfl) ?_
                refine st (by rfl) (S_val (v := .int .i64 b) (R_load (v := .int .i64 b) (by kernel_rfl) (by kernel_rfl) ((hB8.cell 3).trans rfl)) ?_)
                refine seg2 (ρ' := upd (upd (upd (upd (upd (upd (upd (upd (upd (upd (upd (upd (upd (updL ρ [(0, .agg #[.slice A N.length cp, .int .i64 most]), (1, .agg #[.int .i64 k, .int .i64 wd, .int .i64 a, .int .i64 b, .int .i64 c, .int .u64 x]), (2, .pointer (some ⟨w.heap.size, 0, none⟩)), (3, .pointer (some ⟨w1.heap.size, 0, none⟩)), (4, .pointer (some ⟨w5.heap.size, 0, none⟩)), (5, .int .i64 0), (6, .int .i64 0), (8, .int .i64 k), (9, .bool (k == 0)), (20, .bool (k == 1)), (31, .bool (k == 2)), (42, .bool (k == 3)), (55, .bool (k == 4))]) 69 (.bool (k == 5))) 68 (.bool (k == 5))) 82 (.bool (k == 6))) 81 (.bool (k == 6))) 92 (.agg #[.slice A N.length cp, .int .i64 most])) 93 (.pointer (some ⟨w1.heap.size, 2, none⟩))) 94 (.int .i64 a)) 95 (.pointer (some ⟨w1.heap.size, 1, none⟩))) 96 (.int .i64 wd)) 97 (.pointer (some ⟨w1.heap.size, 3, none⟩))) 98 (.int .i64 b)) 99 (.int .i64 (b.tmod 2))) 100 (.bool ((b.tmod 2) != 0))) (by kernel_rfl) ?_
                have hzr := hT0.size
                refine st (by rfl) (S_call (args := [.agg #[.slice A N.length cp, .int .i64 most], .int .i64 a, .int .i64 wd, .bool ((b.tmod 2) != 0)]) (by kernel_rfl) (rexd_ok A cp most N a wd ((b.tmod 2) != 0) _ hD hJ (by assumption) (by assumption)) ?_)
                rintro _ w88 ⟨A89, cp90, rfl, hD93, hw91, hT92⟩
                have hT0 := hT0.t0 hT92
                have hD := hD.tch0 hT92
                have hB4 := hB4.tch0 hT92
                have hB8 := hB8.tch0 hT92
                have hB14 := hB14.tch0 hT92
                refine seg3 (ρ' := upd (upd (upd (upd (upd (upd (upd (upd (upd (upd (upd (upd (upd (upd (upd (upd (upd (updL ρ [(0, .agg #[.slice A N.length cp, .int .i64 most]), (1, .agg #[.int .i64 k, .int .i64 wd, .int .i64 a, .int .i64 b, .int .i64 c, .int .u64 x]), (2, .pointer (some ⟨w.heap.size, 0, none⟩)), (3, .pointer (some ⟨w1.heap.size, 0, none⟩)), (4, .pointer (some ⟨w5.heap.size, 0, none⟩)), (5, .int .i64 0), (6, .int .i64 0), (8, .int .i64 k), (9, .bool (k == 0)), (20, .bool (k == 1)), (31, .bool (k == 2)), (42, .bool (k == 3)), (55, .bool (k == 4))]) 69 (.bool (k == 5))) 68 (.bool (k == 5))) 82 (.bool (k == 6))) 81 (.bool (k == 6))) 92 (.agg #[.slice A N.length cp, .int .i64 most])) 93 (.pointer (some ⟨w1.heap.size, 2, none⟩))) 94 (.int .i64 a)) 95 (.pointer (some ⟨w1.heap.size, 1, none⟩))) 96 (.int .i64 wd)) 97 (.pointer (some ⟨w1.heap.size, 3, none⟩))) 98 (.int .i64 b)) 99 (.int .i64 (b.tmod 2))) 100 (.bool ((b.tmod 2) != 0))) 101 (.tuple #[.agg #[.slice A89 (((exdF N most a wd ((b.tmod 2) != 0)).2.2).length) cp90, .int .i64 most], .int .i64 ((exdF N most a wd ((b.tmod 2) != 0)).1), .int .i64 ((exdF N most a wd ((b.tmod 2) != 0)).2.1)])) 102 (.agg #[.slice A89 (((exdF N most a wd ((b.tmod 2) != 0)).2.2).length) cp90, .int .i64 most])) 103 (.int .i64 ((exdF N most a wd ((b.tmod 2) != 0)).1))) 104 (.int .i64 ((exdF N most a wd ((b.tmod 2) != 0)).2.1))) (by kernel_rfl) ?_
                refine st (by rfl) (S_storeA (b := w5.heap.size) (j := 0) (cs := [.slice A89 (((exdF N most a wd ((b.tmod 2) != 0)).2.2).length) cp90, .int .i64 most]) (by kernel_rfl) (by kernel_rfl) (by kernel_rfl) (by simp [oneV]) hB14 (by simp) fun w94 hT95 hs96 hB14' => ?_)
                have hT0 := (hT0).then hT95 (fun c e => by have : c = w5.heap.size := e; omega)
                have hD := hD.tch hT95 (fun c hc e => hD.blk_ne hB14 (by decide) c hc e)
                have hB4 := hB4.tch hT95 (fun e => by have : w.heap.size = w5.heap.size := e; omega)
                have hB8 := hB8.tch hT95 (hB8.ne hB14 (by decide))
                have hD93 := hD93.tch hT95 (fun c hc e => hD93.blk_ne hB14 (by decide) c hc e)
                replace hB14 : Blk w94 w5.heap.size 27 [.slice A89 (((exdF N most a wd ((b.tmod 2) != 0)).2.2).length) cp90, .int .i64 most] := hB14'
                refine seg2 (ρ' := upd (upd (upd (upd (upd (upd (upd (upd (upd (upd (upd (upd (upd (upd (upd (upd (upd (upd (upd (updL ρ [(0, .agg #[.slice A N.length cp, .int .i64 most]), (1, .agg #[.int .i64 k, .int .i64 wd, .int .i64 a, .int .i64 b, .int .i64 c, .int .u64 x]), (2, .pointer (some ⟨w.heap.size, 0, none⟩)), (3, .pointer (some ⟨w1.heap.size, 0, none⟩)), (4, .pointer (some ⟨w5.heap.size, 0, none⟩)), (5, .int .i64 0), (6, .int .i64 0), (8, .int .i64 k), (9, .bool (k == 0)), (20, .bool (k == 1)), (31, .bool (k == 2)), (42, .bool (k == 3)), (55, .bool (k == 4))]) 69 (.bool (k == 5))) 68 (.bool (k == 5))) 82 (.bool (k == 6))) 81 (.bool (k == 6))) 92 (.agg #[.slice A N.length cp, .int .i64 most])) 93 (.pointer (some ⟨w1.heap.size, 2, none⟩))) 94 (.int .i64 a)) 95 (.pointer (some ⟨w1.heap.size, 1, none⟩))) 96 (.int .i64 wd)) 97 (.pointer (some ⟨w1.heap.size, 3, none⟩))) 98 (.int .i64 b)) 99 (.int .i64 (b.tmod 2))) 100 (.bool ((b.tmod 2) != 0))) 101 (.tuple #[.agg #[.slice A89 (((exdF N most a wd ((b.tmod 2) != 0)).2.2).length) cp90, .int .i64 most], .int .i64 ((exdF N most a wd ((b.tmod 2) != 0)).1), .int .i64 ((exdF N most a wd ((b.tmod 2) != 0)).2.1)])) 102 (.agg #[.slice A89 (((exdF N most a wd ((b.tmod 2) != 0)).2.2).length) cp90, .int .i64 most])) 103 (.int .i64 ((exdF N most a wd ((b.tmod 2) != 0)).1))) 104 (.int .i64 ((exdF N most a wd ((b.tmod 2) != 0)).2.1))) 5 (.int .i64 ((exdF N most a wd ((b.tmod 2) != 0)).1))) 6 (.int .i64 ((exdF N most a wd ((b.tmod 2) != 0)).2.1))) (by kernel_rfl) ?_
                refine op_nil ?_
                refine W_ret ?_
                refine ⟨_, Res_cell2 (b := w5.heap.size) (cs := [.slice A89 (((exdF N most a wd ((b.tmod 2) != 0)).2.2).length) cp90, .int .i64 most]) (by rfl) (by kernel_rfl) (by kernel_rfl) (by kernel_rfl) (by kernel_rfl) hB14 (by kernel_rfl) (by kernel_rfl), ?_⟩
                have e : madeF N most k wd a b c x = exdF N most a wd ((b.tmod 2) != 0) := by unfold madeF; rw [if_neg (by omega), if_neg (by omega), if_neg (by omega), if_neg (by omega), if_neg (by omega), if_neg (by omega), if_neg (by omega)]
                rw [e]
                exact ⟨A89, cp90, rfl, hD93, fun c h => (hw91 c h).imp id (fun q => Nat.le_trans hzr q), hT0⟩

set_option maxRecDepth 100000 in
theorem rnew_ok (mo : Int) (w : World) : Ret Try.prog 42 [.int .i64 mo] w fun v w' => v = .agg #[.slice none 0 0, .int .i64 (newM mo)] ∧ Tch N0 w w' := by
  refine enter Try.func42 rfl rfl ?_
  refine W_seq ?_
  refine W_region (by kernel_rfl) ?_
  refine st (by rfl) (S_new (v := .pointer (some ⟨w.heap.size, 0, none⟩)) (ob := .cells #[.slice none 0 0, .int .i64 0] 27) (by kernel_rfl) fun w1 hT2 hs3 hB4 => ?_)
  replace hB4 : Blk w1 (w.heap.size) 27 [.slice none 0 0, .int .i64 0] := hB4
  have hT0 := hT2
  refine op_nil ?_
  refine W_seq ?_
  refine W_seq ?_
  refine W_region (by kernel_rfl) ?_
  refine seg3 (ρ' := upd (upd (upd (upd (ini [.int .i64 mo]) 2 (.pointer (some ⟨w.heap.size, 0, none⟩))) 3 (.int .i64 mo)) 4 (.bool (decide (mo < 0)))) 5 (.bool (decide (mo < 0)))) (by kernel_rfl) ?_
  cases hb5 : decide (mo < 0)
  · replace hb5 : 0 ≤ mo := (Int.not_lt.1 (of_decide_eq_false hb5))
    refine seg3 (ρ' := upd (upd (upd (upd (upd (upd (upd (ini [.int .i64 mo]) 2 (.pointer (some ⟨w.heap.size, 0, none⟩))) 3 (.int .i64 mo)) 4 (.bool false)) 5 (.bool false)) 6 (.int .i64 mo)) 7 (.bool (decide (mo > 65536)))) 8 (.bool (decide (mo > 65536)))) (by kernel_rfl) ?_
    refine op_nil ?_
    refine W_cond (decide (mo > 65536)) (by kernel_rfl) (by kernel_rfl) (fun hc6 => ?_) (fun hc6 => ?_)
    · replace hc6 : 65536 < mo := (of_decide_eq_true hc6)
      refine W_region (by kernel_rfl) ?_
      refine seg1 (ρ' := upd (upd (upd (upd (upd (upd (upd (upd (ini [.int .i64 mo]) 2 (.pointer (some ⟨w.heap.size, 0, none⟩))) 3 (.int .i64 mo)) 4 (.bool false)) 5 (.bool false)) 6 (.int .i64 mo)) 7 (.bool (decide (mo > 65536)))) 8 (.bool (decide (mo > 65536)))) 0 (.int .i64 0)) (by kernel_rfl) ?_
      refine op_nil ?_
      refine W_seq ?_
      refine W_fg [(0, .int .i64 0), (2, .pointer (some ⟨w.heap.size, 0, none⟩)), (8, .bool (decide (mo > 65536)))] (by kernel_rfl) fun ρ => ?_
      refine W_region (by kernel_rfl) ?_
      refine seg2 (ρ' := upd (upd (updL ρ [(0, .int .i64 0), (2, .pointer (some ⟨w.heap.size, 0, none⟩)), (8, .bool (decide (mo > 65536)))]) 9 (.int .i64 0)) 10 (.agg #[.slice none 0 0, .int .i64 0])) (by kernel_rfl) ?_
      refine st (by rfl) (S_storeA (b := w.heap.size) (j := 0) (cs := [.slice none 0 0, .int .i64 0]) (by kernel_rfl) (by kernel_rfl) (by kernel_rfl) (by simp [oneV]) hB4 (by simp) fun w7 hT8 hs9 hB4' => ?_)
      have hT0 := (hT0).then hT8 (fun c e => by have : c = w.heap.size := e; omega)
      replace hB4 : Blk w7 w.heap.size 27 [.slice none 0 0, .int .i64 0] := hB4'
      refine op_nil ?_
      refine W_ret ?_
      refine ⟨_, Res_cell (b := w.heap.size) (cs := [.slice none 0 0, .int .i64 0]) (by rfl) (by kernel_rfl) (by kernel_rfl) hB4 (by kernel_rfl) (by kernel_rfl), ?_⟩
      have e : newM mo = 0 := by unfold newM; first | rw [if_pos (by omega)] | rw [if_neg (by omega)]
      rw [e]
      exact ⟨rfl, hT0⟩
    · replace hc6 : mo ≤ 65536 := (Int.not_lt.1 (of_decide_eq_false hc6))
      refine W_skip ?_
      refine W_seq ?_
      refine W_region (by kernel_rfl) ?_
      refine seg2 (ρ' := upd (upd (upd (upd (upd (upd (upd (upd (upd (ini [.int .i64 mo]) 2 (.pointer (some ⟨w.heap.size, 0, none⟩))) 3 (.int .i64 mo)) 4 (.bool false)) 5 (.bool false)) 6 (.int .i64 mo)) 7 (.bool (decide (mo > 65536)))) 8 (.bool (decide (mo > 65536)))) 9 (.int .i64 mo)) 10 (.agg #[.slice none 0 0, .int .i64 mo])) (by kernel_rfl) ?_
      refine st (by rfl) (S_storeA (b := w.heap.size) (j := 0) (cs := [.slice none 0 0, .int .i64 mo]) (by kernel_rfl) (by kernel_rfl) (by kernel_rfl) (by simp [oneV]) hB4 (by simp) fun w10 hT11 hs12 hB4' => ?_)
      have hT0 := (hT0).then hT11 (fun c e => by have : c = w.heap.size := e; omega)
      replace hB4 : Blk w10 w.heap.size 27 [.slice none 0 0, .int .i64 mo] := hB4'
      refine op_nil ?_
      refine W_ret ?_
      refine ⟨_, Res_cell (b := w.heap.size) (cs := [.slice none 0 0, .int .i64 mo]) (by rfl) (by kernel_rfl) (by kernel_rfl) hB4 (by kernel_rfl) (by kernel_rfl), ?_⟩
      have e : newM mo = mo := by unfold newM; first | rw [if_pos (by omega)] | rw [if_neg (by omega)]
      rw [e]
      exact ⟨rfl, hT0⟩
  · replace hb5 : mo < 0 := (of_decide_eq_true hb5)
    refine seg3 (ρ' := upd (upd (upd (upd (upd (upd (upd (ini [.int .i64 mo]) 2 (.pointer (some ⟨w.heap.size, 0, none⟩))) 3 (.int .i64 mo)) 4 (.bool true)) 5 (.bool true)) 6 (undef)) 7 (undef)) 8 (.bool true)) (by kernel_rfl) ?_
    refine op_nil ?_
    refine W_cond true (by kernel_rfl) (by kernel_rfl) (fun _ => ?_) (fun h => nomatch h)
    refine W_region (by kernel_rfl) ?_
    refine seg1 (ρ' := upd (upd (upd (upd (upd (upd (upd (upd (ini [.int .i64 mo]) 2 (.pointer (some ⟨w.heap.size, 0, none⟩))) 3 (.int .i64 mo)) 4 (.bool true)) 5 (.bool true)) 6 (undef)) 7 (undef)) 8 (.bool true)) 0 (.int .i64 0)) (by kernel_rfl) ?_
    refine op_nil ?_
    refine W_seq ?_
    refine W_fg [(0, .int .i64 0), (2, .pointer (some ⟨w.heap.size, 0, none⟩)), (8, .bool true)] (by kernel_rfl) fun ρ => ?_
    refine W_region (by kernel_rfl) ?_
    refine seg2 (ρ' := upd (upd (updL ρ [(0, .int .i64 0), (2, .pointer (some ⟨w.heap.size, 0, none⟩)), (8, .bool true)]) 9 (.int .i64 0)) 10 (.agg #[.slice none 0 0, .int .i64 0])) (by kernel_rfl) ?_
    refine st (by rfl) (S_storeA (b := w.heap.size) (j := 0) (cs := [.slice none 0 0, .int .i64 0]) (by kernel_rfl) (by kernel_rfl) (by kernel_rfl) (by simp [oneV]) hB4 (by simp) fun w13 hT14 hs15 hB4' => ?_)
    have hT0 := (hT0).then hT14 (fun c e => by have : c = w.heap.size := e; omega)
    replace hB4 : Blk w13 w.heap.size 27 [.slice none 0 0, .int .i64 0] := hB4'
    refine op_nil ?_
    refine W_ret ?_
    refine ⟨_, Res_cell (b := w.heap.size) (cs := [.slice none 0 0, .int .i64 0]) (by rfl) (by kernel_rfl) (by kernel_rfl) hB4 (by kernel_rfl) (by kernel_rfl), ?_⟩
    have e : newM mo = 0 := by unfold newM; first | rw [if_pos (by omega)] | rw [if_neg (by omega)]
    rw [e]
    exact ⟨rfl, hT0⟩

end Go.Proofs.YtlbadnpgmkobdaaV
