/- Walks of functions of the program and of the document's texts. The conditions stand with each theorem. -/
import Derived.Test.YtlbadnpgmkobdaaProg
import Derived.Test.YtlbadnpgmkobdaaE2
set_option linter.unusedVariables false
set_option linter.unusedSimpArgs false
namespace Go.Proofs.YtlbadnpgmkobdaaV
open Go Go.RowKit Go.Proofs

set_option maxRecDepth 100000 in
set_option maxHeartbeats 4000000 in
theorem TermPlays_w (mo : Int) (L : Option Addr) (mm cl : Nat) (cells : List Value) (ds : Nat → Int × Int × Int × Int × Int × Int) (x : Int) (w : World) (hL : RdW w 6 mm L cells) (hDs : Deeds6 mm cells ds) : Ret Try.prog 3 [.int .i64 mo, .slice L mm cl, .int .i64 x] w fun v w' => v = .bool true ∧ Tch N0 w w' := by
  refine enter Try.func3 rfl rfl ?_
  refine W_seq ?_
  refine W_region (by kernel_rfl) ?_
  refine seg1 (ρ' := upd (ini [.int .i64 mo, .slice L mm cl, .int .i64 x]) 6 (.bool false)) (by kernel_rfl) ?_
  refine op_nil ?_
  refine W_seq ?_
  refine W_seq ?_
  refine W_region (by kernel_rfl) ?_
  refine seg3 (ρ' := upd (upd (upd (upd (ini [.int .i64 mo, .slice L mm cl, .int .i64 x]) 6 (.bool false)) 14 (.slice L mm cl)) 15 (.int .i64 (mm : Int))) 16 (.bool (decide ((mm : Int) > 150)))) (by kernel_rfl) ?_
  refine op_nil ?_
  refine W_cond (decide ((mm : Int) > 150)) (by kernel_rfl) (by kernel_rfl) (fun hc1 => ?_) (fun hc1 => ?_)
  · replace hc1 : 150 < (mm : Int) := (of_decide_eq_true hc1)
    refine W_seq ?_
    refine W_region (by kernel_rfl) ?_
    refine st (by rfl) (S_call (args := []) (by kernel_rfl) (awake15_ok _) ?_)
    rintro _ w2 ⟨rfl, hT3⟩
    have hT0 := hT3
    refine seg1 (ρ' := upd (upd (upd (upd (upd (upd (ini [.int .i64 mo, .slice L mm cl, .int .i64 x]) 6 (.bool false)) 14 (.slice L mm cl)) 15 (.int .i64 (mm : Int))) 16 (.bool (decide ((mm : Int) > 150)))) 17 (.bool true)) 6 (.bool true)) (by kernel_rfl) ?_
    refine op_nil ?_
    refine W_ret ?_
    exact ⟨_, Res_of (v := .bool true) (by kernel_rfl), ⟨rfl, hT0⟩⟩
  · replace hc1 : (mm : Int) ≤ 150 := (Int.not_lt.1 (of_decide_eq_false hc1))
    refine W_skip ?_
    refine W_seq ?_
    refine W_region (by kernel_rfl) ?_
    refine seg2 (ρ' := upd (upd (upd (upd (upd (upd (ini [.int .i64 mo, .slice L mm cl, .int .i64 x]) 6 (.bool false)) 14 (.slice L mm cl)) 15 (.int .i64 (mm : Int))) 16 (.bool (decide ((mm : Int) > 150)))) 19 (.int .i64 mo)) 20 (.slice L mm cl)) (by kernel_rfl) ?_
    refine st (by rfl) (S_call (args := [.int .i64 mo, .slice L mm cl]) (by kernel_rfl) (build_ok mo L mm cl cells ds _ (hL) hDs (by omega)) ?_)
    rintro _ w4 ⟨p, F, A, cp, N, rfl, hO, hD, hFb, hDb, hT5⟩
    have hT0 := hT5
    have ln0 := hO.2.ti.len
    have lm0 := hO.2.ti.most
    refine seg3 (ρ' := upd (upd (upd (upd (upd (upd (upd (upd (upd (upd (ini [.int .i64 mo, .slice L mm cl, .int .i64 x]) 6 (.bool false)) 14 (.slice L mm cl)) 15 (.int .i64 (mm : Int))) 16 (.bool (decide ((mm : Int) > 150)))) 19 (.int .i64 mo)) 20 (.slice L mm cl)) 21 (.tuple #[.pointer (some ⟨p, 0, none⟩), .agg #[.slice A N.length cp, .int .i64 (newM mo)]])) 18 (.tuple #[.pointer (some ⟨p, 0, none⟩), .agg #[.slice A N.length cp, .int .i64 (newM mo)]])) 22 (.pointer (some ⟨p, 0, none⟩))) 23 (.agg #[.slice A N.length cp, .int .i64 (newM mo)])) (by kernel_rfl) ?_
    have hlt_ := hO.1.lt
    have lR_hD := hD.lt
    have z10 := hT0.size
    refine st (by rfl) (S_new (v := .pointer (some ⟨w4.heap.size, 0, none⟩)) (ob := .cells #[.slice none 0 0, .int .i64 0] 27) (by kernel_rfl) fun w6 hT7 hs8 hB9 => ?_)
    replace hB9 : Blk w6 (w4.heap.size) 27 [.slice none 0 0, .int .i64 0] := hB9
    have hT0 := hT0.t0 hT7
    have hO := hO.tch0 hT7
    have hD := hD.tch0 hT7
    have nF_hB9 : ¬ F (w4.heap.size) := fun e => by have := hlt_ _ e; omega
    refine seg1 (ρ' := upd (upd (upd (upd (upd (upd (upd (upd (upd (upd (upd (upd (ini [.int .i64 mo, .slice L mm cl, .int .i64 x]) 6 (.bool false)) 14 (.slice L mm cl)) 15 (.int .i64 (mm : Int))) 16 (.bool (decide ((mm : Int) > 150)))) 19 (.int .i64 mo)) 20 (.slice L mm cl)) 21 (.tuple #[.pointer (some ⟨p, 0, none⟩), .agg #[.slice A N.length cp, .int .i64 (newM mo)]])) 18 (.tuple #[.pointer (some ⟨p, 0, none⟩), .agg #[.slice A N.length cp, .int .i64 (newM mo)]])) 22 (.pointer (some ⟨p, 0, none⟩))) 23 (.agg #[.slice A N.length cp, .int .i64 (newM mo)])) 8 (.pointer (some ⟨w4.heap.size, 0, none⟩))) 7 (.pointer (some ⟨p, 0, none⟩))) (by kernel_rfl) ?_
    refine st (by rfl) (S_storeA (b := w4.heap.size) (j := 0) (cs := [.slice A N.length cp, .int .i64 (newM mo)]) (by kernel_rfl) (by kernel_rfl) (by kernel_rfl) (by simp [oneV]) hB9 (by simp) fun w11 hT12 hs13 hB9' => ?_)
    have hT0 := (hT0).then hT12 (fun c e => by have : c = w4.heap.size := e; omega)
    have hO := hO.tchS hT12 (fun c e q => by cases e; exact nF_hB9 q)
    have hD := hD.tch hT12 (fun c hc e => hD.blk_ne hB9 (by decide) c hc e)
    replace hB9 : Blk w11 w4.heap.size 27 [.slice A N.length cp, .int .i64 (newM mo)] := hB9'
    refine op_nil ?_
    refine W_seq ?_
    refine W_seq ?_
    refine W_fg [(0, .int .i64 mo), (1, .slice L mm cl), (2, .int .i64 x), (6, .bool false), (7, .pointer (some ⟨p, 0, none⟩)), (8, .pointer (some ⟨w4.heap.size, 0, none⟩)), (16, .bool (decide ((mm : Int) > 150)))] (by kernel_rfl) fun ρ => ?_
    refine W_region (by kernel_rfl) ?_
    refine seg2 (ρ' := upd (upd (updL ρ [(0, .int .i64 mo), (1, .slice L mm cl), (2, .int .i64 x), (6, .bool false), (7, .pointer (some ⟨p, 0, none⟩)), (8, .pointer (some ⟨w4.heap.size, 0, none⟩)), (16, .bool (decide ((mm : Int) > 150)))]) 24 (.pointer (some ⟨p, 0, none⟩))) 25 (.bool false)) (by kernel_rfl) ?_
    refine op_nil ?_
    refine W_cond false (by kernel_rfl) (by kernel_rfl) (fun h => nomatch h) (fun _ => ?_)
    refine W_skip ?_
    refine W_seq ?_
    refine W_seq ?_
    have nF_hBX := nF_hB9
    refine W_region (by kernel_rfl) ?_
    refine seg1 (ρ' := upd (upd (upd (updL ρ [(0, .int .i64 mo), (1, .slice L mm cl), (2, .int .i64 x), (6, .bool false), (7, .pointer (some ⟨p, 0, none⟩)), (8, .pointer (some ⟨w4.heap.size, 0, none⟩)), (16, .bool (decide ((mm : Int) > 150)))]) 24 (.pointer (some ⟨p, 0, none⟩))) 25 (.bool false)) 9 (.int .i64 0)) (by kernel_rfl) ?_
    refine op_nil ?_
    refine W_block ?_
    refine W_loop (fun m ρ w' => ∃ (i : Nat) (ρ0 : Env), ρ = updL ρ0 [(0, .int .i64 mo), (1, .slice L mm cl), (2, .int .i64 x), (7, .pointer (some ⟨p, 0, none⟩)), (8, .pointer (some ⟨w4.heap.size, 0, none⟩)), (9, .int .i64 ((i : Nat) : Int))] ∧ (i ≤ N.length) ∧ Tch N0 w w' ∧ TObj F w' p (newM mo) N ∧ Blk w' (w4.heap.size) 27 [.slice A N.length cp, .int .i64 (newM mo)] ∧ Own w' 0 32 6 (.slice A N.length cp) N.length (ncs N) ∧ m = N.length - i) (m := N.length - 0) ?_ ?_
    · refine ⟨0, _, updL_self (by kernel_rfl), by omega, hT0, hO, hB9, hD, rfl⟩
    · rintro m ρ w14 ⟨i, ρ, rfl, hi, hT0, hO, hBX, hD, rfl⟩
      refine W_seq ?_
      refine W_seq ?_
      refine W_region (by kernel_rfl) ?_
      refine seg2 (ρ' := upd (upd (updL ρ [(0, .int .i64 mo), (1, .slice L mm cl), (2, .int .i64 x), (7, .pointer (some ⟨p, 0, none⟩)), (8, .pointer (some ⟨w4.heap.size, 0, none⟩)), (9, .int .i64 ((i : Nat) : Int))]) 26 (.int .i64 ((i : Nat) : Int))) 27 (.pointer (some ⟨w4.heap.size, 0, none⟩))) (by kernel_rfl) ?_
      refine st (by rfl) (S_val (v := .slice A N.length cp) (R_load (v := .slice A N.length cp) (by kernel_rfl) (by kernel_rfl) ((hBX.cell 0).trans rfl)) ?_)
      refine seg2 (ρ' := upd (upd (upd (upd (upd (updL ρ [(0, .int .i64 mo), (1, .slice L mm cl), (2, .int .i64 x), (7, .pointer (some ⟨p, 0, none⟩)), (8, .pointer (some ⟨w4.heap.size, 0, none⟩)), (9, .int .i64 ((i : Nat) : Int))]) 26 (.int .i64 ((i : Nat) : Int))) 27 (.pointer (some ⟨w4.heap.size, 0, none⟩))) 28 (.slice A N.length cp)) 29 (.int .i64 (N.length : Int))) 30 (.bool (decide (((i : Nat) : Int) < (N.length : Int))))) (by kernel_rfl) ?_
      refine op_nil ?_
      refine W_cond (decide (((i : Nat) : Int) < (N.length : Int))) (by kernel_rfl) (by kernel_rfl) (fun hc15 => ?_) (fun hc15 => ?_)
      · replace hc15 : ((i : Nat) : Int) < (N.length : Int) := (of_decide_eq_true hc15)
        refine W_skip ?_
        refine W_seq ?_
        refine W_block ?_
        refine W_seq ?_
        refine W_region (by kernel_rfl) ?_
        refine seg2 (ρ' := upd (upd (upd (upd (upd (upd (upd (updL ρ [(0, .int .i64 mo), (1, .slice L mm cl), (2, .int .i64 x), (7, .pointer (some ⟨p, 0, none⟩)), (8, .pointer (some ⟨w4.heap.size, 0, none⟩)), (9, .int .i64 ((i : Nat) : Int))]) 26 (.int .i64 ((i : Nat) : Int))) 27 (.pointer (some ⟨w4.heap.size, 0, none⟩))) 28 (.slice A N.length cp)) 29 (.int .i64 (N.length : Int))) 30 (.bool (decide (((i : Nat) : Int) < (N.length : Int))))) 34 (.pointer (some ⟨p, 0, none⟩))) 35 (.int .i64 ((i : Nat) : Int))) (by kernel_rfl) ?_
        refine st (by rfl) (S_call (args := [.pointer (some ⟨p, 0, none⟩), .int .i64 ((i : Nat) : Int)]) (by kernel_rfl) (node_at F p (newM mo) N _ i _ hO.1 (by omega) (by omega)) ?_)
        rintro _ w16 ⟨rfl, hT17⟩
        have hT0 := hT0.t0 hT17
        have hO := hO.tch0 hT17
        have hBX := hBX.tch0 hT17
        have hD := hD.tch0 hT17
        refine seg3 (ρ' := upd (upd (upd (upd (upd (upd (upd (upd (upd (upd (upd (updL ρ [(0, .int .i64 mo), (1, .slice L mm cl), (2, .int .i64 x), (7, .pointer (some ⟨p, 0, none⟩)), (8, .pointer (some ⟨w4.heap.size, 0, none⟩)), (9, .int .i64 ((i : Nat) : Int))]) 26 (.int .i64 ((i : Nat) : Int))) 27 (.pointer (some ⟨w4.heap.size, 0, none⟩))) 28 (.slice A N.length cp)) 29 (.int .i64 (N.length : Int))) 30 (.bool (decide (((i : Nat) : Int) < (N.length : Int))))) 34 (.pointer (some ⟨p, 0, none⟩))) 35 (.int .i64 ((i : Nat) : Int))) 36 (.tuple #[.agg #[.int .i64 (nO (nth N i)), .int .i64 (nW (nth N i)), .int .i64 (nA (nth N i)), .int .i64 (nB (nth N i)), .int .i64 (nC (nth N i)), .int .u64 (nV (nth N i))], .bool true])) 33 (.tuple #[.agg #[.int .i64 (nO (nth N i)), .int .i64 (nW (nth N i)), .int .i64 (nA (nth N i)), .int .i64 (nB (nth N i)), .int .i64 (nC (nth N i)), .int .u64 (nV (nth N i))], .bool true])) 37 (.agg #[.int .i64 (nO (nth N i)), .int .i64 (nW (nth N i)), .int .i64 (nA (nth N i)), .int .i64 (nB (nth N i)), .int .i64 (nC (nth N i)), .int .u64 (nV (nth N i))])) 38 (.bool true)) (by kernel_rfl) ?_
        have hlt_ := hO.1.lt
        have lt22 := hBX.lt
        have lR_hD := hD.lt
        have z23 := hT0.size
        have l24 := hBX.lt
        refine st (by rfl) (S_new (v := .pointer (some ⟨w16.heap.size, 0, none⟩)) (ob := .cells #[.int .i64 0, .int .i64 0, .int .i64 0, .int .i64 0, .int .i64 0, .int .u64 0] 32) (by kernel_rfl) fun w18 hT19 hs20 hB21 => ?_)
        replace hB21 : Blk w18 (w16.heap.size) 32 [.int .i64 0, .int .i64 0, .int .i64 0, .int .i64 0, .int .i64 0, .int .u64 0] := hB21
        have hT0 := hT0.t0 hT19
        have hO := hO.tch0 hT19
        have hBX := hBX.tch0 hT19
        have hD := hD.tch0 hT19
        have nF_hB21 : ¬ F (w16.heap.size) := fun e => by have := hlt_ _ e; omega
        refine st (by rfl) (S_storeA (b := w16.heap.size) (j := 0) (cs := [.int .i64 (nO (nth N i)), .int .i64 (nW (nth N i)), .int .i64 (nA (nth N i)), .int .i64 (nB (nth N i)), .int .i64 (nC (nth N i)), .int .u64 (nV (nth N i))]) (by kernel_rfl) (by kernel_rfl) (by kernel_rfl) (by simp [oneV]) hB21 (by simp) fun w25 hT26 hs27 hB21' => ?_)
        have hT0 := (hT0).then hT26 (fun c e => by have : c = w16.heap.size := e; omega)
        have hO := hO.tchS hT26 (fun c e q => by cases e; exact nF_hB21 q)
        have hBX := hBX.tch hT26 (hBX.ne hB21 (by decide))
        have hD := hD.tch hT26 (fun c hc e => by have h1 := lR_hD c hc; have : c = w16.heap.size := e; omega)
        replace hB21 : Blk w25 w16.heap.size 32 [.int .i64 (nO (nth N i)), .int .i64 (nW (nth N i)), .int .i64 (nA (nth N i)), .int .i64 (nB (nth N i)), .int .i64 (nC (nth N i)), .int .u64 (nV (nth N i))] := hB21'
        refine seg1 (ρ' := upd (upd (upd (upd (upd (upd (upd (upd (upd (upd (upd (upd (upd (updL ρ [(0, .int .i64 mo), (1, .slice L mm cl), (2, .int .i64 x), (7, .pointer (some ⟨p, 0, none⟩)), (8, .pointer (some ⟨w4.heap.size, 0, none⟩)), (9, .int .i64 ((i : Nat) : Int))]) 26 (.int .i64 ((i : Nat) : Int))) 27 (.pointer (some ⟨w4.heap.size, 0, none⟩))) 28 (.slice A N.length cp)) 29 (.int .i64 (N.length : Int))) 30 (.bool (decide (((i : Nat) : Int) < (N.length : Int))))) 34 (.pointer (some ⟨p, 0, none⟩))) 35 (.int .i64 ((i : Nat) : Int))) 36 (.tuple #[.agg #[.int .i64 (nO (nth N i)), .int .i64 (nW (nth N i)), .int .i64 (nA (nth N i)), .int .i64 (nB (nth N i)), .int .i64 (nC (nth N i)), .int .u64 (nV (nth N i))], .bool true])) 33 (.tuple #[.agg #[.int .i64 (nO (nth N i)), .int .i64 (nW (nth N i)), .int .i64 (nA (nth N i)), .int .i64 (nB (nth N i)), .int .i64 (nC (nth N i)), .int .u64 (nV (nth N i))], .bool true])) 37 (.agg #[.int .i64 (nO (nth N i)), .int .i64 (nW (nth N i)), .int .i64 (nA (nth N i)), .int .i64 (nB (nth N i)), .int .i64 (nC (nth N i)), .int .u64 (nV (nth N i))])) 38 (.bool true)) 10 (.pointer (some ⟨w16.heap.size, 0, none⟩))) 11 (.bool true)) (by kernel_rfl) ?_
        refine op_nil ?_
        refine W_seq ?_
        refine W_fg [(0, .int .i64 mo), (1, .slice L mm cl), (2, .int .i64 x), (7, .pointer (some ⟨p, 0, none⟩)), (8, .pointer (some ⟨w4.heap.size, 0, none⟩)), (9, .int .i64 ((i : Nat) : Int)), (10, .pointer (some ⟨w16.heap.size, 0, none⟩)), (11, .bool true), (30, .bool (decide (((i : Nat) : Int) < (N.length : Int))))] (by kernel_rfl) fun ρ => ?_
        refine W_draw (fun w' => Blk w' (w4.heap.size) 27 [.slice A N.length cp, .int .i64 (newM mo)] ∧ Blk w' (w16.heap.size) 32 [.int .i64 (nO (nth N i)), .int .i64 (nW (nth N i)), .int .i64 (nA (nth N i)), .int .i64 (nB (nth N i)), .int .i64 (nC (nth N i)), .int .u64 (nV (nth N i))] ∧ Own w' 0 32 6 (.slice A N.length cp) N.length (ncs N)) (by kernel_rfl) (by kernel_rfl) (by kernel_rfl) fun w28 hT29 hh30 => ?_
        have hT0 := hT0.t0 hT29
        have hO := hO.tch0 hT29
        have hBX := hBX.tch0 hT29
        have hD := hD.tch0 hT29
        have hB21 := hB21.tch0 hT29
        refine d_takes [1, 3] (listed' := #[false, true, false, true, false, false, false, false, false, false, false, false, false, false, false, false, false, false, false]) (ρ' := upd (upd (updL ρ [(0, .int .i64 mo), (1, .slice L mm cl), (2, .int .i64 x), (7, .pointer (some ⟨p, 0, none⟩)), (8, .pointer (some ⟨w4.heap.size, 0, none⟩)), (9, .int .i64 ((i : Nat) : Int)), (10, .pointer (some ⟨w16.heap.size, 0, none⟩)), (11, .bool true), (30, .bool (decide (((i : Nat) : Int) < (N.length : Int))))]) 40 (.pointer (some ⟨w4.heap.size, 0, none⟩))) 42 (.int .i64 ((i : Nat) : Int))) ⟨hBX, hB21, hD⟩ (by kernel_rfl) ?_
        refine d_val (v := .agg #[.int .i64 (nO (nth N i)), .int .i64 (nW (nth N i)), .int .i64 (nA (nth N i)), .int .i64 (nB (nth N i)), .int .i64 (nC (nth N i)), .int .u64 (nV (nth N i))]) 0 (by rfl) (by kernel_rfl) (by kernel_rfl) (by kernel_rfl) (fun w' hs => by obtain ⟨hBX, hB21, hD⟩ := hs; exact R_loadA [.int .i64 (nO (nth N i)), .int .i64 (nW (nth N i)), .int .i64 (nA (nth N i)), .int .i64 (nB (nth N i)), .int .i64 (nC (nth N i)), .int .u64 (nV (nth N i))] (by kernel_rfl) (by kernel_rfl) (by kernel_rfl) (fun k u hk => by rw [hB21.cell]; exact get_part _ 0 _ k u rfl hk)) ⟨hBX, hB21, hD⟩ ?_
        refine d_val (v := .slice A N.length cp) 2 (by rfl) (by kernel_rfl) (by kernel_rfl) (by kernel_rfl) (fun w' hs => by obtain ⟨hBX, hB21, hD⟩ := hs; exact R_load (v := .slice A N.length cp) (by kernel_rfl) (by kernel_rfl) ((hBX.cell 0).trans rfl)) ⟨hBX, hB21, hD⟩ ?_
        refine d_val (v := ptrAt A (i * 6)) 4 (by rfl) (by kernel_rfl) (by kernel_rfl) (by kernel_rfl) (fun w' hs => by obtain ⟨hBX, hB21, hD⟩ := hs; exact R_indexRd (sz := 6) (len := N.length) (cap := cp) (k := .i64) (i := ((i : Nat) : Int)) (e := 32) i hD.rdS (by kernel_rfl) (by kernel_rfl) (by kernel_rfl) (by kernel_rfl) rfl (by omega)) ⟨hBX, hB21, hD⟩ ?_
        refine d_val (v := .agg #[.int .i64 (nO (nth N i)), .int .i64 (nW (nth N i)), .int .i64 (nA (nth N i)), .int .i64 (nB (nth N i)), .int .i64 (nC (nth N i)), .int .u64 (nV (nth N i))]) 5 (by rfl) (by kernel_rfl) (by kernel_rfl) (by kernel_rfl) (fun w' hs => by obtain ⟨hBX, hB21, hD⟩ := hs; exact R_loadRdA [.int .i64 (nO (nth N i)), .int .i64 (nW (nth N i)), .int .i64 (nA (nth N i)), .int .i64 (nB (nth N i)), .int .i64 (nC (nth N i)), .int .u64 (nV (nth N i))] hD.rdS (by omega) (by kernel_rfl) (by kernel_rfl) (by kernel_rfl) (ncs_part N (by omega))) ⟨hBX, hB21, hD⟩ ?_
        refine d_one 6 (by kernel_rfl) (by rfl) (by kernel_rfl) (S_val (v := .bool false) (R_neNd_f (nth N i) (nth N i) (by kernel_rfl) (by kernel_rfl) (hO.2.ti.wf _ (nth_mem (by omega))) rfl) ?_)
        refine ⟨⟨hBX, hB21, hD⟩, ?_⟩
        refine d_takes [7, 8, 9, 10, 11, 12, 13, 15] (listed' := #[true, true, true, true, true, true, true, true, true, true, true, true, true, true, false, true, false, false, false]) (ρ' := upd (upd (upd (upd (upd (upd (upd (upd (upd (upd (upd (upd (upd (upd (upd (updL ρ [(0, .int .i64 mo), (1, .slice L mm cl), (2, .int .i64 x), (7, .pointer (some ⟨p, 0, none⟩)), (8, .pointer (some ⟨w4.heap.size, 0, none⟩)), (9, .int .i64 ((i : Nat) : Int)), (10, .pointer (some ⟨w16.heap.size, 0, none⟩)), (11, .bool true), (30, .bool (decide (((i : Nat) : Int) < (N.length : Int))))]) 40 (.pointer (some ⟨w4.heap.size, 0, none⟩))) 42 (.int .i64 ((i : Nat) : Int))) 39 (.agg #[.int .i64 (nO (nth N i)), .int .i64 (nW (nth N i)), .int .i64 (nA (nth N i)), .int .i64 (nB (nth N i)), .int .i64 (nC (nth N i)), .int .u64 (nV (nth N i))])) 41 (.slice A N.length cp)) 43 (ptrAt A (i * 6))) 44 (.agg #[.int .i64 (nO (nth N i)), .int .i64 (nW (nth N i)), .int .i64 (nA (nth N i)), .int .i64 (nB (nth N i)), .int .i64 (nC (nth N i)), .int .u64 (nV (nth N i))])) 45 (.bool false)) 46 (.bool false)) 47 (.bool true)) 48 (.bool false)) 49 (.bool false)) 50 (.bool false)) 51 (.pointer (some ⟨p, 0, none⟩))) 52 (.int .i64 ((i : Nat) : Int))) 54 (.pointer (some ⟨w16.heap.size, 1, none⟩))) ⟨hBX, hB21, hD⟩ (by kernel_rfl) ?_
        refine d_val (v := .int .i64 (nW (nth N i))) 16 (by rfl) (by kernel_rfl) (by kernel_rfl) (by kernel_rfl) (fun w' hs => by obtain ⟨hBX, hB21, hD⟩ := hs; exact R_load (v := .int .i64 (nW (nth N i))) (by kernel_rfl) (by kernel_rfl) ((hB21.cell 1).trans rfl)) ⟨hBX, hB21, hD⟩ ?_
        refine d_one 14 (by kernel_rfl) (by rfl) (by kernel_rfl) (S_call (args := [.pointer (some ⟨p, 0, none⟩), .int .i64 ((i : Nat) : Int)]) (by kernel_rfl) (width_at F p (newM mo) N _ i _ hO.1 (by omega) (by omega)) ?_)
        rintro _ w31 ⟨rfl, hT32⟩
        have hT0 := hT0.t0 hT32
        have hO := hO.tch0 hT32
        have hBX := hBX.tch0 hT32
        have hD := hD.tch0 hT32
        have hB21 := hB21.tch0 hT32
        refine ⟨⟨hBX, hB21, hD⟩, ?_⟩
        refine d_takes [17, 18] (listed' := #[true, true, true, true, true, true, true, true, true, true, true, true, true, true, true, true, true, true, true]) (ρ' := upd (upd (upd (upd (upd (upd (upd (upd (upd (upd (upd (upd (upd (upd (upd (upd (upd (upd (upd (updL ρ [(0, .int .i64 mo), (1, .slice L mm cl), (2, .int .i64 x), (7, .pointer (some ⟨p, 0, none⟩)), (8, .pointer (some ⟨w4.heap.size, 0, none⟩)), (9, .int .i64 ((i : Nat) : Int)), (10, .pointer (some ⟨w16.heap.size, 0, none⟩)), (11, .bool true), (30, .bool (decide (((i : Nat) : Int) < (N.length : Int))))]) 40 (.pointer (some ⟨w4.heap.size, 0, none⟩))) 42 (.int .i64 ((i : Nat) : Int))) 39 (.agg #[.int .i64 (nO (nth N i)), .int .i64 (nW (nth N i)), .int .i64 (nA (nth N i)), .int .i64 (nB (nth N i)), .int .i64 (nC (nth N i)), .int .u64 (nV (nth N i))])) 41 (.slice A N.length cp)) 43 (ptrAt A (i * 6))) 44 (.agg #[.int .i64 (nO (nth N i)), .int .i64 (nW (nth N i)), .int .i64 (nA (nth N i)), .int .i64 (nB (nth N i)), .int .i64 (nC (nth N i)), .int .u64 (nV (nth N i))])) 45 (.bool false)) 46 (.bool false)) 47 (.bool true)) 48 (.bool false)) 49 (.bool false)) 50 (.bool false)) 51 (.pointer (some ⟨p, 0, none⟩))) 52 (.int .i64 ((i : Nat) : Int))) 54 (.pointer (some ⟨w16.heap.size, 1, none⟩))) 55 (.int .i64 (nW (nth N i)))) 53 (.int .i64 (nW (nth N i)))) 56 (.bool ((nW (nth N i)) != (nW (nth N i))))) 57 (.bool ((nW (nth N i)) != (nW (nth N i))))) ⟨hBX, hB21, hD⟩ (by kernel_rfl) ?_
        refine d_done (by kernel_rfl) ?_
        refine W_cond ((nW (nth N i)) != (nW (nth N i))) (by kernel_rfl) (by kernel_rfl) (fun hc33 => ?_) (fun hc33 => ?_)
        · replace hc33 : nW (nth N i) ≠ nW (nth N i) := (bne_iff_ne.1 hc33)
          exact absurd rfl hc33
        · replace hc33 : nW (nth N i) = nW (nth N i) := (bne_eq_false_iff_eq.1 hc33)
          refine W_skip ?_
          refine W_fg [(0, .int .i64 mo), (1, .slice L mm cl), (2, .int .i64 x), (7, .pointer (some ⟨p, 0, none⟩)), (8, .pointer (some ⟨w4.heap.size, 0, none⟩)), (9, .int .i64 ((i : Nat) : Int)), (10, .pointer (some ⟨w16.heap.size, 0, none⟩)), (11, .bool true), (30, .bool (decide (((i : Nat) : Int) < (N.length : Int)))), (57, .bool ((nW (nth N i)) != (nW (nth N i))))] (by kernel_rfl) fun ρ => ?_
          refine W_region (by kernel_rfl) ?_
          refine seg2 (ρ' := upd (upd (updL ρ [(0, .int .i64 mo), (1, .slice L mm cl), (2, .int .i64 x), (7, .pointer (some ⟨p, 0, none⟩)), (8, .pointer (some ⟨w4.heap.size, 0, none⟩)), (9, .int .i64 ((i : Nat) : Int)), (10, .pointer (some ⟨w16.heap.size, 0, none⟩)), (11, .bool true), (30, .bool (decide (((i : Nat) : Int) < (N.length : Int)))), (57, .bool ((nW (nth N i)) != (nW (nth N i))))]) 31 (.int .i64 ((i : Nat) : Int))) 32 (.int .i64 (IntKind.i64.wrap (((i : Nat) : Int) + 1)))) (by kernel_rfl) ?_
          rw [show IntKind.i64.wrap (((i : Nat) : Int) + 1) = ((i : Nat) : Int) + 1 from wrap_i64 (by omega) (by omega)]
          rw [show upd (upd (updL ρ [(0, .int .i64 mo), (1, .slice L mm cl), (2, .int .i64 x), (7, .pointer (some ⟨p, 0, none⟩)), (8, .pointer (some ⟨w4.heap.size, 0, none⟩)), (9, .int .i64 ((i : Nat) : Int)), (10, .pointer (some ⟨w16.heap.size, 0, none⟩)), (11, .bool true), (30, .bool (decide (((i : Nat) : Int) < (N.length : Int)))), (57, .bool ((nW (nth N i)) != (nW (nth N i))))]) 31 (.int .i64 ((i : Nat) : Int))) 32 (.int .i64 (((i : Nat) : Int) + 1)) = upd (upd (updL ρ [(0, .int .i64 mo), (1, .slice L mm cl), (2, .int .i64 x), (7, .pointer (some ⟨p, 0, none⟩)), (8, .pointer (some ⟨w4.heap.size, 0, none⟩)), (9, .int .i64 ((i : Nat) : Int)), (10, .pointer (some ⟨w16.heap.size, 0, none⟩)), (11, .bool true), (30, .bool (decide (((i : Nat) : Int) < (N.length : Int)))), (57, .bool ((nW (nth N i)) != (nW (nth N i))))]) 31 (.int .i64 ((i : Nat) : Int))) 32 (.int .i64 ((i + 1 : Nat) : Int)) from congrArg (fun z => upd (upd (updL ρ [(0, .int .i64 mo), (1, .slice L mm cl), (2, .int .i64 x), (7, .pointer (some ⟨p, 0, none⟩)), (8, .pointer (some ⟨w4.heap.size, 0, none⟩)), (9, .int .i64 ((i : Nat) : Int)), (10, .pointer (some ⟨w16.heap.size, 0, none⟩)), (11, .bool true), (30, .bool (decide (((i : Nat) : Int) < (N.length : Int)))), (57, .bool ((nW (nth N i)) != (nW (nth N i))))]) 31 (.int .i64 ((i : Nat) : Int))) 32 (.int .i64 z)) (by omega)]
          refine seg1 (ρ' := upd (upd (upd (updL ρ [(0, .int .i64 mo), (1, .slice L mm cl), (2, .int .i64 x), (7, .pointer (some ⟨p, 0, none⟩)), (8, .pointer (some ⟨w4.heap.size, 0, none⟩)), (9, .int .i64 ((i : Nat) : Int)), (10, .pointer (some ⟨w16.heap.size, 0, none⟩)), (11, .bool true), (30, .bool (decide (((i : Nat) : Int) < (N.length : Int)))), (57, .bool ((nW (nth N i)) != (nW (nth N i))))]) 31 (.int .i64 ((i : Nat) : Int))) 32 (.int .i64 ((i + 1 : Nat) : Int))) 9 (.int .i64 ((i + 1 : Nat) : Int))) (by kernel_rfl) ?_
          refine op_nil ?_
          refine ⟨_, ?_, i + 1, _, updL_self (by kernel_rfl), ?_, hT0, hO, hBX, hD, rfl⟩
          · omega
          · omega
      · replace hc15 : (N.length : Int) ≤ ((i : Nat) : Int) := (Int.not_lt.1 (of_decide_eq_false hc15))
        refine W_exit ?_
        refine X_hit ?_
        refine W_seq ?_
        refine W_region (by kernel_rfl) ?_
        refine seg2 (ρ' := upd (upd (upd (upd (upd (upd (upd (updL ρ [(0, .int .i64 mo), (1, .slice L mm cl), (2, .int .i64 x), (7, .pointer (some ⟨p, 0, none⟩)), (8, .pointer (some ⟨w4.heap.size, 0, none⟩)), (9, .int .i64 ((i : Nat) : Int))]) 26 (.int .i64 ((i : Nat) : Int))) 27 (.pointer (some ⟨w4.heap.size, 0, none⟩))) 28 (.slice A N.length cp)) 29 (.int .i64 (N.length : Int))) 30 (.bool (decide (((i : Nat) : Int) < (N.length : Int))))) 59 (.pointer (some ⟨p, 0, none⟩))) 60 (.int .i64 x)) (by kernel_rfl) ?_
        refine st (by rfl) (S_call (args := [.pointer (some ⟨p, 0, none⟩), .int .i64 x]) (by kernel_rfl) (node_ok F p (newM mo) N _ x _ hO.1 (by omega)) ?_)
        rintro _ w34 ⟨rfl, hT35⟩
        have hT0 := hT0.t0 hT35
        have hO := hO.tch0 hT35
        have hBX := hBX.tch0 hT35
        have hD := hD.tch0 hT35
        refine seg3 (ρ' := upd (upd (upd (upd (upd (upd (upd (upd (upd (upd (upd (updL ρ [(0, .int .i64 mo), (1, .slice L mm cl), (2, .int .i64 x), (7, .pointer (some ⟨p, 0, none⟩)), (8, .pointer (some ⟨w4.heap.size, 0, none⟩)), (9, .int .i64 ((i : Nat) : Int))]) 26 (.int .i64 ((i : Nat) : Int))) 27 (.pointer (some ⟨w4.heap.size, 0, none⟩))) 28 (.slice A N.length cp)) 29 (.int .i64 (N.length : Int))) 30 (.bool (decide (((i : Nat) : Int) < (N.length : Int))))) 59 (.pointer (some ⟨p, 0, none⟩))) 60 (.int .i64 x)) 61 (.tuple #[.agg #[.int .i64 (nO (ndF N x)), .int .i64 (nW (ndF N x)), .int .i64 (nA (ndF N x)), .int .i64 (nB (ndF N x)), .int .i64 (nC (ndF N x)), .int .u64 (nV (ndF N x))], .bool (isT N x)])) 58 (.tuple #[.agg #[.int .i64 (nO (ndF N x)), .int .i64 (nW (ndF N x)), .int .i64 (nA (ndF N x)), .int .i64 (nB (ndF N x)), .int .i64 (nC (ndF N x)), .int .u64 (nV (ndF N x))], .bool (isT N x)])) 62 (.agg #[.int .i64 (nO (ndF N x)), .int .i64 (nW (ndF N x)), .int .i64 (nA (ndF N x)), .int .i64 (nB (ndF N x)), .int .i64 (nC (ndF N x)), .int .u64 (nV (ndF N x))])) 63 (.bool (isT N x))) (by kernel_rfl) ?_
        have hlt_ := hO.1.lt
        have lt40 := hBX.lt
        have lR_hD := hD.lt
        have z41 := hT0.size
        have l42 := hBX.lt
        refine st (by rfl) (S_new (v := .pointer (some ⟨w34.heap.size, 0, none⟩)) (ob := .cells #[.int .i64 0, .int .i64 0, .int .i64 0, .int .i64 0, .int .i64 0, .int .u64 0] 32) (by kernel_rfl) fun w36 hT37 hs38 hB39 => ?_)
        replace hB39 : Blk w36 (w34.heap.size) 32 [.int .i64 0, .int .i64 0, .int .i64 0, .int .i64 0, .int .i64 0, .int .u64 0] := hB39
        have hT0 := hT0.t0 hT37
        have hO := hO.tch0 hT37
        have hBX := hBX.tch0 hT37
        have hD := hD.tch0 hT37
        have nF_hB39 : ¬ F (w34.heap.size) := fun e => by have := hlt_ _ e; omega
        refine st (by rfl) (S_storeA (b := w34.heap.size) (j := 0) (cs := [.int .i64 (nO (ndF N x)), .int .i64 (nW (ndF N x)), .int .i64 (nA (ndF N x)), .int .i64 (nB (ndF N x)), .int .i64 (nC (ndF N x)), .int .u64 (nV (ndF N x))]) (by kernel_rfl) (by kernel_rfl) (by kernel_rfl) (by simp [oneV]) hB39 (by simp) fun w43 hT44 hs45 hB39' => ?_)
        have hT0 := (hT0).then hT44 (fun c e => by have : c = w34.heap.size := e; omega)
        have hO := hO.tchS hT44 (fun c e q => by cases e; exact nF_hB39 q)
        have hBX := hBX.tch hT44 (hBX.ne hB39 (by decide))
        have hD := hD.tch hT44 (fun c hc e => by have h1 := lR_hD c hc; have : c = w34.heap.size := e; omega)
        replace hB39 : Blk w43 w34.heap.size 32 [.int .i64 (nO (ndF N x)), .int .i64 (nW (ndF N x)), .int .i64 (nA (ndF N x)), .int .i64 (nB (ndF N x)), .int .i64 (nC (ndF N x)), .int .u64 (nV (ndF N x))] := hB39'
        refine seg1 (ρ' := upd (upd (upd (upd (upd (upd (upd (upd (upd (upd (upd (upd (upd (updL ρ [(0, .int .i64 mo), (1, .slice L mm cl), (2, .int .i64 x), (7, .pointer (some ⟨p, 0, none⟩)), (8, .pointer (some ⟨w4.heap.size, 0, none⟩)), (9, .int .i64 ((i : Nat) : Int))]) 26 (.int .i64 ((i : Nat) : Int))) 27 (.pointer (some ⟨w4.heap.size, 0, none⟩))) 28 (.slice A N.length cp)) 29 (.int .i64 (N.length : Int))) 30 (.bool (decide (((i : Nat) : Int) < (N.length : Int))))) 59 (.pointer (some ⟨p, 0, none⟩))) 60 (.int .i64 x)) 61 (.tuple #[.agg #[.int .i64 (nO (ndF N x)), .int .i64 (nW (ndF N x)), .int .i64 (nA (ndF N x)), .int .i64 (nB (ndF N x)), .int .i64 (nC (ndF N x)), .int .u64 (nV (ndF N x))], .bool (isT N x)])) 58 (.tuple #[.agg #[.int .i64 (nO (ndF N x)), .int .i64 (nW (ndF N x)), .int .i64 (nA (ndF N x)), .int .i64 (nB (ndF N x)), .int .i64 (nC (ndF N x)), .int .u64 (nV (ndF N x))], .bool (isT N x)])) 62 (.agg #[.int .i64 (nO (ndF N x)), .int .i64 (nW (ndF N x)), .int .i64 (nA (ndF N x)), .int .i64 (nB (ndF N x)), .int .i64 (nC (ndF N x)), .int .u64 (nV (ndF N x))])) 63 (.bool (isT N x))) 12 (.pointer (some ⟨w34.heap.size, 0, none⟩))) 13 (.bool (isT N x))) (by kernel_rfl) ?_
        refine op_nil ?_
        refine W_seq ?_
        refine W_fg [(0, .int .i64 mo), (1, .slice L mm cl), (2, .int .i64 x), (7, .pointer (some ⟨p, 0, none⟩)), (8, .pointer (some ⟨w4.heap.size, 0, none⟩)), (9, .int .i64 ((i : Nat) : Int)), (12, .pointer (some ⟨w34.heap.size, 0, none⟩)), (13, .bool (isT N x)), (30, .bool (decide (((i : Nat) : Int) < (N.length : Int))))] (by kernel_rfl) fun ρ => ?_
        refine W_draw (fun w' => Blk w' (w4.heap.size) 27 [.slice A N.length cp, .int .i64 (newM mo)] ∧ Blk w' (w34.heap.size) 32 [.int .i64 (nO (ndF N x)), .int .i64 (nW (ndF N x)), .int .i64 (nA (ndF N x)), .int .i64 (nB (ndF N x)), .int .i64 (nC (ndF N x)), .int .u64 (nV (ndF N x))] ∧ Own w' 0 32 6 (.slice A N.length cp) N.length (ncs N)) (by kernel_rfl) (by kernel_rfl) (by kernel_rfl) fun w46 hT47 hh48 => ?_
        have hT0 := hT0.t0 hT47
        have hO := hO.tch0 hT47
        have hBX := hBX.tch0 hT47
        have hD := hD.tch0 hT47
        have hB39 := hB39.tch0 hT47
        refine d_takes [0, 2] (listed' := #[true, false, true, false, false, false, false, false, false, false, false, false, false, false, false, false, false, false, false, false, false, false, false, false, false, false]) (ρ' := upd (upd (updL ρ [(0, .int .i64 mo), (1, .slice L mm cl), (2, .int .i64 x), (7, .pointer (some ⟨p, 0, none⟩)), (8, .pointer (some ⟨w4.heap.size, 0, none⟩)), (9, .int .i64 ((i : Nat) : Int)), (12, .pointer (some ⟨w34.heap.size, 0, none⟩)), (13, .bool (isT N x)), (30, .bool (decide (((i : Nat) : Int) < (N.length : Int))))]) 64 (.bool (isT N x))) 66 (.int .i64 x)) ⟨hBX, hB39, hD⟩ (by kernel_rfl) ?_
        refine d_val (v := .agg #[.slice A N.length cp, .int .i64 (newM mo)]) 1 (by rfl) (by kernel_rfl) (by kernel_rfl) (by kernel_rfl) (fun w' hs => by obtain ⟨hBX, hB39, hD⟩ := hs; exact R_loadA [.slice A N.length cp, .int .i64 (newM mo)] (by kernel_rfl) (by kernel_rfl) (by kernel_rfl) (fun k u hk => by rw [hBX.cell]; exact get_part _ 0 _ k u rfl hk)) ⟨hBX, hB39, hD⟩ ?_
        refine d_one 3 (by kernel_rfl) (by rfl) (by kernel_rfl) (S_call (args := [.agg #[.slice A N.length cp, .int .i64 (newM mo)], .int .i64 x]) (by kernel_rfl) (ris_ok A cp (newM mo) N x _ hD) ?_)
        rintro _ w49 ⟨rfl, hT50⟩
        have hT0 := hT0.t0 hT50
        have hO := hO.tch0 hT50
        have hBX := hBX.tch0 hT50
        have hD := hD.tch0 hT50
        have hB39 := hB39.tch0 hT50
        refine ⟨⟨hBX, hB39, hD⟩, ?_⟩
        refine d_takes [4, 5] (listed' := #[true, true, true, true, true, true, false, false, false, false, false, false, false, false, false, false, false, false, false, false, false, false, false, false, false, false]) (ρ' := upd (upd (upd (upd (upd (upd (updL ρ [(0, .int .i64 mo), (1, .slice L mm cl), (2, .int .i64 x), (7, .pointer (some ⟨p, 0, none⟩)), (8, .pointer (some ⟨w4.heap.size, 0, none⟩)), (9, .int .i64 ((i : Nat) : Int)), (12, .pointer (some ⟨w34.heap.size, 0, none⟩)), (13, .bool (isT N x)), (30, .bool (decide (((i : Nat) : Int) < (N.length : Int))))]) 64 (.bool (isT N x))) 66 (.int .i64 x)) 65 (.agg #[.slice A N.length cp, .int .i64 (newM mo)])) 67 (.bool (isT N x))) 68 (.bool ((isT N x) == (isT N x)))) 69 (.bool ((isT N x) == (isT N x)))) ⟨hBX, hB39, hD⟩ (by kernel_rfl) ?_
        cases hb51 : (isT N x) == (isT N x)
        · replace hb51 : (isT N x) ≠ (isT N x) := (ne_of_beq_false hb51)
          exact absurd rfl hb51
        · replace hb51 : isT N x = isT N x := (eq_of_beq hb51)
          refine d_takes [6, 7] (listed' := #[true, true, true, true, true, true, true, true, false, false, false, false, false, false, false, false, false, false, false, false, false, false, false, false, false, false]) (ρ' := upd (upd (upd (upd (upd (upd (upd (upd (updL ρ [(0, .int .i64 mo), (1, .slice L mm cl), (2, .int .i64 x), (7, .pointer (some ⟨p, 0, none⟩)), (8, .pointer (some ⟨w4.heap.size, 0, none⟩)), (9, .int .i64 ((i : Nat) : Int)), (12, .pointer (some ⟨w34.heap.size, 0, none⟩)), (13, .bool (isT N x)), (30, .bool (decide (((i : Nat) : Int) < (N.length : Int))))]) 64 (.bool (isT N x))) 66 (.int .i64 x)) 65 (.agg #[.slice A N.length cp, .int .i64 (newM mo)])) 67 (.bool (isT N x))) 68 (.bool true)) 69 (.bool true)) 70 (.bool (isT N x))) 71 (.bool (isT N x))) ⟨hBX, hB39, hD⟩ (by kernel_rfl) ?_
          cases hb52 : isT N x
          · replace hb52 : ¬ (0 ≤ x ∧ x < (N.length : Int)) := (of_decide_eq_false hb52)
            refine d_takes [9] (listed' := #[true, true, true, true, true, true, true, true, false, true, false, false, false, false, false, false, false, false, false, false, false, false, false, false, false, false]) (ρ' := upd (upd (upd (upd (upd (upd (upd (upd (upd (updL ρ [(0, .int .i64 mo), (1, .slice L mm cl), (2, .int .i64 x), (7, .pointer (some ⟨p, 0, none⟩)), (8, .pointer (some ⟨w4.heap.size, 0, none⟩)), (9, .int .i64 ((i : Nat) : Int)), (12, .pointer (some ⟨w34.heap.size, 0, none⟩)), (13, .bool (false)), (30, .bool (decide (((i : Nat) : Int) < (N.length : Int))))]) 64 (.bool false)) 66 (.int .i64 x)) 65 (.agg #[.slice A N.length cp, .int .i64 (newM mo)])) 67 (.bool false)) 68 (.bool true)) 69 (.bool true)) 70 (.bool false)) 71 (.bool false)) 73 (.agg #[.int .i64 0, .int .i64 0, .int .i64 0, .int .i64 0, .int .i64 0, .int .u64 0])) ⟨hBX, hB39, hD⟩ (by kernel_rfl) ?_
            refine d_val (v := .agg #[.int .i64 (nO (ndF N x)), .int .i64 (nW (ndF N x)), .int .i64 (nA (ndF N x)), .int .i64 (nB (ndF N x)), .int .i64 (nC (ndF N x)), .int .u64 (nV (ndF N x))]) 8 (by rfl) (by kernel_rfl) (by kernel_rfl) (by kernel_rfl) (fun w' hs => by obtain ⟨hBX, hB39, hD⟩ := hs; exact R_loadA [.int .i64 (nO (ndF N x)), .int .i64 (nW (ndF N x)), .int .i64 (nA (ndF N x)), .int .i64 (nB (ndF N x)), .int .i64 (nC (ndF N x)), .int .u64 (nV (ndF N x))] (by kernel_rfl) (by kernel_rfl) (by kernel_rfl) (fun k u hk => by rw [hB39.cell]; exact get_part _ 0 _ k u rfl hk)) ⟨hBX, hB39, hD⟩ ?_
            refine d_one 10 (by kernel_rfl) (by rfl) (by kernel_rfl) (S_val (v := .bool true) (R_eqNd_t (ndF N x) nd0 (by kernel_rfl) (by kernel_rfl) (ndF_wf hO.2.ti) (ndF_out (by omega))) ?_)
            refine ⟨⟨hBX, hB39, hD⟩, ?_⟩
            refine d_takes [11, 12, 13, 14, 15, 18] (listed' := #[true, true, true, true, true, true, true, true, true, true, true, true, true, true, true, true, false, false, true, false, false, false, false, false, false, false]) (ρ' := upd (upd (upd (upd (upd (upd (upd (upd (upd (upd (upd (upd (upd (upd (upd (upd (upd (updL ρ [(0, .int .i64 mo), (1, .slice L mm cl), (2, .int .i64 x), (7, .pointer (some ⟨p, 0, none⟩)), (8, .pointer (some ⟨w4.heap.size, 0, none⟩)), (9, .int .i64 ((i : Nat) : Int)), (12, .pointer (some ⟨w34.heap.size, 0, none⟩)), (13, .bool (false)), (30, .bool (decide (((i : Nat) : Int) < (N.length : Int))))]) 64 (.bool false)) 66 (.int .i64 x)) 65 (.agg #[.slice A N.length cp, .int .i64 (newM mo)])) 67 (.bool false)) 68 (.bool true)) 69 (.bool true)) 70 (.bool false)) 71 (.bool false)) 73 (.agg #[.int .i64 0, .int .i64 0, .int .i64 0, .int .i64 0, .int .i64 0, .int .u64 0])) 72 (.agg #[.int .i64 (nO (ndF N x)), .int .i64 (nW (ndF N x)), .int .i64 (nA (ndF N x)), .int .i64 (nB (ndF N x)), .int .i64 (nC (ndF N x)), .int .u64 (nV (ndF N x))])) 74 (.bool true)) 75 (.bool true)) 76 (.bool true)) 77 (.bool true)) 78 (.pointer (some ⟨p, 0, none⟩))) 79 (.int .i64 x)) 82 (.int .i64 x)) ⟨hBX, hB39, hD⟩ (by kernel_rfl) ?_
            refine d_val (v := .agg #[.slice A N.length cp, .int .i64 (newM mo)]) 17 (by rfl) (by kernel_rfl) (by kernel_rfl) (by kernel_rfl) (fun w' hs => by obtain ⟨hBX, hB39, hD⟩ := hs; exact R_loadA [.slice A N.length cp, .int .i64 (newM mo)] (by kernel_rfl) (by kernel_rfl) (by kernel_rfl) (fun k u hk => by rw [hBX.cell]; exact get_part _ 0 _ k u rfl hk)) ⟨hBX, hB39, hD⟩ ?_
            refine d_one 16 (by kernel_rfl) (by rfl) (by kernel_rfl) (S_call (args := [.pointer (some ⟨p, 0, none⟩), .int .i64 x]) (by kernel_rfl) (width_ok F p (newM mo) N _ x _ hO.1 (by omega)) ?_)
            rintro _ w53 ⟨rfl, hT54⟩
            have hT0 := hT0.t0 hT54
            have hO := hO.tch0 hT54
            have hBX := hBX.tch0 hT54
            have hD := hD.tch0 hT54
            have hB39 := hB39.tch0 hT54
            refine ⟨⟨hBX, hB39, hD⟩, ?_⟩
            refine d_one 19 (by kernel_rfl) (by rfl) (by kernel_rfl) (S_call (args := [.agg #[.slice A N.length cp, .int .i64 (newM mo)], .int .i64 x]) (by kernel_rfl) (rwid_ok A cp (newM mo) N x _ hD) ?_)
            rintro _ w55 ⟨rfl, hT56⟩
            have hT0 := hT0.t0 hT56
            have hO := hO.tch0 hT56
            have hBX := hBX.tch0 hT56
            have hD := hD.tch0 hT56
            have hB39 := hB39.tch0 hT56
            refine ⟨⟨hBX, hB39, hD⟩, ?_⟩
            refine d_takes [20, 21, 22] (listed' := #[true, true, true, true, true, true, true, true, true, true, true, true, true, true, true, true, true, true, true, true, true, true, true, false, false, false]) (ρ' := upd (upd (upd (upd (upd (upd (upd (upd (upd (upd (upd (upd (upd (upd (upd (upd (upd (upd (upd (upd (upd (upd (upd (updL ρ [(0, .int .i64 mo), (1, .slice L mm cl), (2, .int .i64 x), (7, .pointer (some ⟨p, 0, none⟩)), (8, .pointer (some ⟨w4.heap.size, 0, none⟩)), (9, .int .i64 ((i : Nat) : Int)), (12, .pointer (some ⟨w34.heap.size, 0, none⟩)), (13, .bool (false)), (30, .bool (decide (((i : Nat) : Int) < (N.length : Int))))]) 64 (.bool false)) 66 (.int .i64 x)) 65 (.agg #[.slice A N.length cp, .int .i64 (newM mo)])) 67 (.bool false)) 68 (.bool true)) 69 (.bool true)) 70 (.bool false)) 71 (.bool false)) 73 (.agg #[.int .i64 0, .int .i64 0, .int .i64 0, .int .i64 0, .int .i64 0, .int .u64 0])) 72 (.agg #[.int .i64 (nO (ndF N x)), .int .i64 (nW (ndF N x)), .int .i64 (nA (ndF N x)), .int .i64 (nB (ndF N x)), .int .i64 (nC (ndF N x)), .int .u64 (nV (ndF N x))])) 74 (.bool true)) 75 (.bool true)) 76 (.bool true)) 77 (.bool true)) 78 (.pointer (some ⟨p, 0, none⟩))) 79 (.int .i64 x)) 82 (.int .i64 x)) 81 (.agg #[.slice A N.length cp, .int .i64 (newM mo)])) 80 (.int .i64 (widF N x))) 83 (.int .i64 (widF N x))) 84 (.bool ((widF N x) == (widF N x)))) 85 (.bool ((widF N x) == (widF N x)))) 86 (.bool ((widF N x) == (widF N x)))) ⟨hBX, hB39, hD⟩ (by kernel_rfl) ?_
            cases hb57 : (widF N x) == (widF N x)
            · replace hb57 : widF N x ≠ widF N x := (ne_of_beq_false hb57)
              exact absurd rfl hb57
            · replace hb57 : widF N x = widF N x := (eq_of_beq hb57)
              refine d_one 23 (by kernel_rfl) (by rfl) (by kernel_rfl) (S_call (args := []) (by kernel_rfl) (awake15_ok _) ?_)
              rintro _ w58 ⟨rfl, hT59⟩
              have hT0 := hT0.t0 hT59
              have hO := hO.tch0 hT59
              have hBX := hBX.tch0 hT59
              have hD := hD.tch0 hT59
              have hB39 := hB39.tch0 hT59
              refine ⟨⟨hBX, hB39, hD⟩, ?_⟩
              refine d_takes [24, 25] (listed' := #[true, true, true, true, true, true, true, true, true, true, true, true, true, true, true, true, true, true, true, true, true, true, true, true, true, true]) (ρ' := upd (upd (upd (upd (upd (upd (upd (upd (upd (upd (upd (upd (upd (upd (upd (upd (upd (upd (upd (upd (upd (upd (upd (upd (upd (upd (updL ρ [(0, .int .i64 mo), (1, .slice L mm cl), (2, .int .i64 x), (7, .pointer (some ⟨p, 0, none⟩)), (8, .pointer (some ⟨w4.heap.size, 0, none⟩)), (9, .int .i64 ((i : Nat) : Int)), (12, .pointer (some ⟨w34.heap.size, 0, none⟩)), (13, .bool (false)), (30, .bool (decide (((i : Nat) : Int) < (N.length : Int))))]) 64 (.bool false)) 66 (.int .i64 x)) 65 (.agg #[.slice A N.length cp, .int .i64 (newM mo)])) 67 (.bool false)) 68 (.bool true)) 69 (.bool true)) 70 (.bool false)) 71 (.bool false)) 73 (.agg #[.int .i64 0, .int .i64 0, .int .i64 0, .int .i64 0, .int .i64 0, .int .u64 0])) 72 (.agg #[.int .i64 (nO (ndF N x)), .int .i64 (nW (ndF N x)), .int .i64 (nA (ndF N x)), .int .i64 (nB (ndF N x)), .int .i64 (nC (ndF N x)), .int .u64 (nV (ndF N x))])) 74 (.bool true)) 75 (.bool true)) 76 (.bool true)) 77 (.bool true)) 78 (.pointer (some ⟨p, 0, none⟩))) 79 (.int .i64 x)) 82 (.int .i64 x)) 81 (.agg #[.slice A N.length cp, .int .i64 (newM mo)])) 80 (.int .i64 (widF N x))) 83 (.int .i64 (widF N x))) 84 (.bool true)) 85 (.bool true)) 86 (.bool true)) 87 (.bool true)) 88 (.bool true)) 6 (.bool true)) ⟨hBX, hB39, hD⟩ (by kernel_rfl) ?_
              refine d_done (by kernel_rfl) ?_
              refine W_ret ?_
              exact ⟨_, Res_of (v := .bool true) (by kernel_rfl), ⟨rfl, hT0⟩⟩
          · replace hb52 : 0 ≤ x ∧ x < (N.length : Int) := (of_decide_eq_true hb52)
            refine d_takes [8, 9, 10, 11, 12, 13, 14, 15, 18] (listed' := #[true, true, true, true, true, true, true, true, true, true, true, true, true, true, true, true, false, false, true, false, false, false, false, false, false, false]) (ρ' := upd (upd (upd (upd (upd (upd (upd (upd (upd (upd (upd (upd (upd (upd (upd (upd (upd (updL ρ [(0, .int .i64 mo), (1, .slice L mm cl), (2, .int .i64 x), (7, .pointer (some ⟨p, 0, none⟩)), (8, .pointer (some ⟨w4.heap.size, 0, none⟩)), (9, .int .i64 ((i : Nat) : Int)), (12, .pointer (some ⟨w34.heap.size, 0, none⟩)), (13, .bool (true)), (30, .bool (decide (((i : Nat) : Int) < (N.length : Int))))]) 64 (.bool true)) 66 (.int .i64 x)) 65 (.agg #[.slice A N.length cp, .int .i64 (newM mo)])) 67 (.bool true)) 68 (.bool true)) 69 (.bool true)) 70 (.bool true)) 71 (.bool true)) 72 (undef)) 73 (undef)) 74 (undef)) 75 (.bool true)) 76 (.bool true)) 77 (.bool true)) 78 (.pointer (some ⟨p, 0, none⟩))) 79 (.int .i64 x)) 82 (.int .i64 x)) ⟨hBX, hB39, hD⟩ (by kernel_rfl) ?_
            refine d_val (v := .agg #[.slice A N.length cp, .int .i64 (newM mo)]) 17 (by rfl) (by kernel_rfl) (by kernel_rfl) (by kernel_rfl) (fun w' hs => by obtain ⟨hBX, hB39, hD⟩ := hs; exact R_loadA [.slice A N.length cp, .int .i64 (newM mo)] (by kernel_rfl) (by kernel_rfl) (by kernel_rfl) (fun k u hk => by rw [hBX.cell]; exact get_part _ 0 _ k u rfl hk)) ⟨hBX, hB39, hD⟩ ?_
            refine d_one 16 (by kernel_rfl) (by rfl) (by kernel_rfl) (S_call (args := [.pointer (some ⟨p, 0, none⟩), .int .i64 x]) (by kernel_rfl) (width_ok F p (newM mo) N _ x _ hO.1 (by omega)) ?_)
            rintro _ w60 ⟨rfl, hT61⟩
            have hT0 := hT0.t0 hT61
            have hO := hO.tch0 hT61
            have hBX := hBX.tch0 hT61
            have hD := hD.tch0 hT61
            have hB39 := hB39.tch0 hT61
            refine ⟨⟨hBX, hB39, hD⟩, ?_⟩
            refine d_one 19 (by kernel_rfl) (by rfl) (by kernel_rfl) (S_call (args := [.agg #[.slice A N.length cp, .int .i64 (newM mo)], .int .i64 x]) (by kernel_rfl) (rwid_ok A cp (newM mo) N x _ hD) ?_)
            rintro _ w62 ⟨rfl, hT63⟩
            have hT0 := hT0.t0 hT63
            have hO := hO.tch0 hT63
            have hBX := hBX.tch0 hT63
            have hD := hD.tch0 hT63
            have hB39 := hB39.tch0 hT63
            refine ⟨⟨hBX, hB39, hD⟩, ?_⟩
            refine d_takes [20, 21, 22] (listed' := #[true, true, true, true, true, true, true, true, true, true, true, true, true, true, true, true, true, true, true, true, true, true, true, false, false, false]) (ρ' := upd (upd (upd (upd (upd (upd (upd (upd (upd (upd (upd (upd (upd (upd (upd (upd (upd (upd (upd (upd (upd (upd (upd (updL ρ [(0, .int .i64 mo), (1, .slice L mm cl), (2, .int .i64 x), (7, .pointer (some ⟨p, 0, none⟩)), (8, .pointer (some ⟨w4.heap.size, 0, none⟩)), (9, .int .i64 ((i : Nat) : Int)), (12, .pointer (some ⟨w34.heap.size, 0, none⟩)), (13, .bool (true)), (30, .bool (decide (((i : Nat) : Int) < (N.length : Int))))]) 64 (.bool true)) 66 (.int .i64 x)) 65 (.agg #[.slice A N.length cp, .int .i64 (newM mo)])) 67 (.bool true)) 68 (.bool true)) 69 (.bool true)) 70 (.bool true)) 71 (.bool true)) 72 (undef)) 73 (undef)) 74 (undef)) 75 (.bool true)) 76 (.bool true)) 77 (.bool true)) 78 (.pointer (some ⟨p, 0, none⟩))) 79 (.int .i64 x)) 82 (.int .i64 x)) 81 (.agg #[.slice A N.length cp, .int .i64 (newM mo)])) 80 (.int .i64 (widF N x))) 83 (.int .i64 (widF N x))) 84 (.bool ((widF N x) == (widF N x)))) 85 (.bool ((widF N x) == (widF N x)))) 86 (.bool ((widF N x) == (widF N x)))) ⟨hBX, hB39, hD⟩ (by kernel_rfl) ?_
            cases hb64 : (widF N x) == (widF N x)
            · replace hb64 : widF N x ≠ widF N x := (ne_of_beq_false hb64)
              exact absurd rfl hb64
            · replace hb64 : widF N x = widF N x := (eq_of_beq hb64)
              refine d_one 23 (by kernel_rfl) (by rfl) (by kernel_rfl) (S_call (args := []) (by kernel_rfl) (awake15_ok _) ?_)
              rintro _ w65 ⟨rfl, hT66⟩
              have hT0 := hT0.t0 hT66
              have hO := hO.tch0 hT66
              have hBX := hBX.tch0 hT66
              have hD := hD.tch0 hT66
              have hB39 := hB39.tch0 hT66
              refine ⟨⟨hBX, hB39, hD⟩, ?_⟩
              refine d_takes [24, 25] (listed' := #[true, true, true, true, true, true, true, true, true, true, true, true, true, true, true, true, true, true, true, true, true, true, true, true, true, true]) (ρ' := upd (upd (upd (upd (upd (upd (upd (upd (upd (upd (upd (upd (upd (upd (upd (upd (upd (upd (upd (upd (upd (upd (upd (upd (upd (upd (updL ρ [(0, .int .i64 mo), (1, .slice L mm cl), (2, .int .i64 x), (7, .pointer (some ⟨p, 0, none⟩)), (8, .pointer (some ⟨w4.heap.size, 0, none⟩)), (9, .int .i64 ((i : Nat) : Int)), (12, .pointer (some ⟨w34.heap.size, 0, none⟩)), (13, .bool (true)), (30, .bool (decide (((i : Nat) : Int) < (N.length : Int))))]) 64 (.bool true)) 66 (.int .i64 x)) 65 (.agg #[.slice A N.length cp, .int .i64 (newM mo)])) 67 (.bool true)) 68 (.bool true)) 69 (.bool true)) 70 (.bool true)) 71 (.bool true)) 72 (undef)) 73 (undef)) 74 (undef)) 75 (.bool true)) 76 (.bool true)) 77 (.bool true)) 78 (.pointer (some ⟨p, 0, none⟩))) 79 (.int .i64 x)) 82 (.int .i64 x)) 81 (.agg #[.slice A N.length cp, .int .i64 (newM mo)])) 80 (.int .i64 (widF N x))) 83 (.int .i64 (widF N x))) 84 (.bool true)) 85 (.bool true)) 86 (.bool true)) 87 (.bool true)) 88 (.bool true)) 6 (.bool true)) ⟨hBX, hB39, hD⟩ (by kernel_rfl) ?_
              refine d_done (by kernel_rfl) ?_
              refine W_ret ?_
              exact ⟨_, Res_of (v := .bool true) (by kernel_rfl), ⟨rfl, hT0⟩⟩

end Go.Proofs.YtlbadnpgmkobdaaV
