/- Walks of functions of the program and of the document's texts: each call returns what the plain function says, and turns nothing that lay. The conditions stand with each theorem. -/
import Derived.Test.YthfjceemphhgcaaProg
import Derived.Test.YthfjceemphhgcaaVx2
import Derived.Test.YthfjceemphhgcaaU3
set_option linter.unusedVariables false
set_option linter.unusedSimpArgs false
namespace Go.Proofs.YthfjceemphhgcaaV
open Go Go.RowKit Go.Proofs

set_option maxRecDepth 100000 in
set_option maxHeartbeats 2000000 in
theorem OrderPlays_w (n : Int) (L : Option Addr) (mm cl_ : Nat) (cells : List Value) (ds : Nat → Int × Int × Int) (w : World) (hL : RdW w 3 mm L cells) (hD : Deeds mm cells ds) : Ret Try.prog 6 [.int .i64 n, .slice L mm cl_] w fun v w' => v = .bool true ∧ Tch N0 w w' := by
  refine enter Try.func6 rfl rfl ?_
  refine W_seq ?_
  refine W_region (by kernel_rfl) ?_
  refine seg1 (ρ' := upd (ini [.int .i64 n, .slice L mm cl_]) 4 (.bool false)) (by kernel_rfl) ?_
  refine op_nil ?_
  refine W_seq ?_
  refine W_seq ?_
  refine W_region (by kernel_rfl) ?_
  refine seg4 (ρ' := upd (upd (upd (upd (upd (ini [.int .i64 n, .slice L mm cl_]) 4 (.bool false)) 13 (.slice L mm cl_)) 14 (.int .i64 (mm : Int))) 15 (.bool (decide ((mm : Int) > 150)))) 16 (.bool (decide ((mm : Int) > 150)))) (by kernel_rfl) ?_
  cases hb1 : decide ((mm : Int) > 150)
  · replace hb1 : (mm : Int) ≤ 150 := (Int.not_lt.1 (of_decide_eq_false hb1))
    refine seg3 (ρ' := upd (upd (upd (upd (upd (upd (upd (upd (ini [.int .i64 n, .slice L mm cl_]) 4 (.bool false)) 13 (.slice L mm cl_)) 14 (.int .i64 (mm : Int))) 15 (.bool false)) 16 (.bool false)) 17 (.int .i64 n)) 18 (.bool (decide (n > 200)))) 19 (.bool (decide (n > 200)))) (by kernel_rfl) ?_
    refine op_nil ?_
    refine W_cond (decide (n > 200)) (by kernel_rfl) (by kernel_rfl) (fun hc2 => ?_) (fun hc2 => ?_)
    · replace hc2 : 200 < n := (of_decide_eq_true hc2)
      refine W_seq ?_
      refine W_fg [(0, .int .i64 n), (1, .slice L mm cl_), (4, .bool false), (19, .bool (decide (n > 200)))] (by kernel_rfl) fun ρ => ?_
      refine W_region (by kernel_rfl) ?_
      refine st (by rfl) (S_call (args := []) (by kernel_rfl) (awake8_ok _) ?_)
      rintro _ w3 ⟨rfl, hT4⟩
      have hT0 := hT4
      refine seg1 (ρ' := upd (upd (updL ρ [(0, .int .i64 n), (1, .slice L mm cl_), (4, .bool false), (19, .bool (decide (n > 200)))]) 20 (.bool true)) 4 (.bool true)) (by kernel_rfl) ?_
      refine op_nil ?_
      refine W_ret ?_
      exact ⟨_, Res_of (v := .bool true) (by kernel_rfl), ⟨rfl, hT0⟩⟩
    · replace hc2 : n ≤ 200 := (Int.not_lt.1 (of_decide_eq_false hc2))
      refine W_skip ?_
      refine W_seq ?_
      refine W_fg [(0, .int .i64 n), (1, .slice L mm cl_), (4, .bool false), (19, .bool (decide (n > 200)))] (by kernel_rfl) fun ρ => ?_
      refine W_region (by kernel_rfl) ?_
      refine seg1 (ρ' := upd (updL ρ [(0, .int .i64 n), (1, .slice L mm cl_), (4, .bool false), (19, .bool (decide (n > 200)))]) 21 (.int .i64 n)) (by kernel_rfl) ?_
      refine st (by rfl) (S_call (args := [.int .i64 n]) (by kernel_rfl) (new_ok n _) ?_)
      rintro _ w5 ⟨F7, p8, rfl, hO, hT6, hFb⟩
      have hT0 := hT6
      refine seg1 (ρ' := upd (upd (upd (updL ρ [(0, .int .i64 n), (1, .slice L mm cl_), (4, .bool false), (19, .bool (decide (n > 200)))]) 21 (.int .i64 n)) 22 (.pointer (some ⟨p8, 0, none⟩))) 23 (.int .i64 n)) (by kernel_rfl) ?_
      refine st (by rfl) (S_call (args := [.int .i64 n]) (by kernel_rfl) (rnew_ok F7 n _ hO.F_lt) ?_)
      rintro _ w9 ⟨gA11, gB12, rfl, hA, hB, hT10⟩
      have hT0 := hT0.t0 hT10
      have hO := hO.tch0 hT10
      have hlt_ := hO.F_lt
      have z17 := hT0.size
      refine st (by rfl) (S_new (v := .pointer (some ⟨w9.heap.size, 0, none⟩)) (ob := .cells #[.slice none 0 0, .slice none 0 0] 35) (by kernel_rfl) fun w13 hT14 hs15 hB16 => ?_)
      replace hB16 : Blk w13 (w9.heap.size) 35 [.slice none 0 0, .slice none 0 0] := hB16
      have hT0 := hT0.t0 hT14
      have hO := hO.tch0 hT14
      have hA := hA.tch0 hT14
      have hB := hB.tch0 hT14
      have nF_hB16 : ¬ F7 (w9.heap.size) := fun e => by have := hlt_ _ e; omega
      refine seg1 (ρ' := upd (upd (upd (upd (upd (upd (updL ρ [(0, .int .i64 n), (1, .slice L mm cl_), (4, .bool false), (19, .bool (decide (n > 200)))]) 21 (.int .i64 n)) 22 (.pointer (some ⟨p8, 0, none⟩))) 23 (.int .i64 n)) 24 (.agg #[.slice (some ⟨gA11, 0, none⟩) (cl n) (cl n), .slice (some ⟨gB12, 0, none⟩) (cl n) (cl n)])) 6 (.pointer (some ⟨w9.heap.size, 0, none⟩))) 5 (.pointer (some ⟨p8, 0, none⟩))) (by kernel_rfl) ?_
      refine st (by rfl) (S_storeA (b := w9.heap.size) (j := 0) (cs := [.slice (some ⟨gA11, 0, none⟩) (cl n) (cl n), .slice (some ⟨gB12, 0, none⟩) (cl n) (cl n)]) (by kernel_rfl) (by kernel_rfl) (by kernel_rfl) (by simp [oneV]) hB16 (by simp) fun w18 hT19 hs20 hB16' => ?_)
      have hT0 := (hT0).then hT19 (fun c e => by have : c = w9.heap.size := e; omega)
      have hO := hO.tchS hT19 (fun c e q => by cases e; exact nF_hB16 q)
      have hA := hA.tch1 hB16 (by decide) hT19
      have hB := hB.tch1 hB16 (by decide) hT19
      replace hB16 : Blk w18 w9.heap.size 35 [.slice (some ⟨gA11, 0, none⟩) (cl n) (cl n), .slice (some ⟨gB12, 0, none⟩) (cl n) (cl n)] := hB16'
      refine op_nil ?_
      refine W_seq ?_
      refine W_seq ?_
      refine W_region (by kernel_rfl) ?_
      refine seg2 (ρ' := upd (upd (upd (upd (upd (upd (upd (upd (updL ρ [(0, .int .i64 n), (1, .slice L mm cl_), (4, .bool false), (19, .bool (decide (n > 200)))]) 21 (.int .i64 n)) 22 (.pointer (some ⟨p8, 0, none⟩))) 23 (.int .i64 n)) 24 (.agg #[.slice (some ⟨gA11, 0, none⟩) (cl n) (cl n), .slice (some ⟨gB12, 0, none⟩) (cl n) (cl n)])) 6 (.pointer (some ⟨w9.heap.size, 0, none⟩))) 5 (.pointer (some ⟨p8, 0, none⟩))) 25 (.pointer (some ⟨p8, 0, none⟩))) 26 (.bool false)) (by kernel_rfl) ?_
      refine op_nil ?_
      refine W_cond false (by kernel_rfl) (by kernel_rfl) (fun h => nomatch h) (fun _ => ?_)
      refine W_skip ?_
      refine W_seq ?_
      refine W_seq ?_
      refine W_fg [(0, .int .i64 n), (1, .slice L mm cl_), (4, .bool false), (5, .pointer (some ⟨p8, 0, none⟩)), (6, .pointer (some ⟨w9.heap.size, 0, none⟩)), (19, .bool (decide (n > 200))), (26, .bool false)] (by kernel_rfl) fun ρ => ?_
      have hBx := hB16
      have nF_hBx := nF_hB16
      refine W_region (by kernel_rfl) ?_
      refine seg1 (ρ' := upd (updL ρ [(0, .int .i64 n), (1, .slice L mm cl_), (4, .bool false), (5, .pointer (some ⟨p8, 0, none⟩)), (6, .pointer (some ⟨w9.heap.size, 0, none⟩)), (19, .bool (decide (n > 200))), (26, .bool false)]) 7 (.int .i64 0)) (by kernel_rfl) ?_
      refine op_nil ?_
      refine W_block ?_
      refine W_loop (fun m ρ w' => ∃ (F : Nat → Prop) (hp : List Nat) (ac : List Int) (A B : Option Addr) (ca cb : Nat) (wt : List Bool) (i : Nat) (ρ0 : Env), ρ = updL ρ0 [(0, .int .i64 n), (1, .slice L mm cl_), (4, .bool false), (5, .pointer (some ⟨p8, 0, none⟩)), (6, .pointer (some ⟨w9.heap.size, 0, none⟩)), (7, .int .i64 ((i : Nat) : Int))] ∧ (okA ac) ∧ (Rel (cl n) hp wt) ∧ (i ≤ mm) ∧ (∀ b, F b → w.heap.size ≤ b) ∧ (¬ F (w9.heap.size)) ∧ Tch N0 w w' ∧ Ord F w' p8 (cl n) hp ac ∧ RdT F 3 w' (cl n) A (ints .i64 ac) ∧ RdT F 4 w' (cl n) B (boolsV wt) ∧ Blk w' (w9.heap.size) 35 [.slice A (cl n) ca, .slice B (cl n) cb] ∧ RdW w' 3 mm L cells ∧ m = mm - i) (m := mm - 0) ?_ ?_
      · refine ⟨F7, [], List.replicate (cl n) 0, some ⟨gA11, 0, none⟩, some ⟨gB12, 0, none⟩, (cl n), (cl n), List.replicate (cl n) false, 0, _, updL_self (by kernel_rfl), okA_zero _, Rel.zero _, by omega, hFb, nF_hBx, hT0, hO, hA, hB, hBx, hL.tch0 hT0, rfl⟩
      · rintro m ρ w21 ⟨F, hp, ac, A, B, ca, cb, wt, i, ρ, rfl, hac, hRel, hi, hFb, nF_hBx, hT0, hO, hA, hB, hBx, hLc, rfl⟩
        refine W_seq ?_
        refine W_seq ?_
        refine W_region (by kernel_rfl) ?_
        refine seg4 (ρ' := upd (upd (upd (upd (updL ρ [(0, .int .i64 n), (1, .slice L mm cl_), (4, .bool false), (5, .pointer (some ⟨p8, 0, none⟩)), (6, .pointer (some ⟨w9.heap.size, 0, none⟩)), (7, .int .i64 ((i : Nat) : Int))]) 27 (.int .i64 ((i : Nat) : Int))) 28 (.slice L mm cl_)) 29 (.int .i64 (mm : Int))) 30 (.bool (decide (((i : Nat) : Int) < (mm : Int))))) (by kernel_rfl) ?_
        refine op_nil ?_
        refine W_cond (decide (((i : Nat) : Int) < (mm : Int))) (by kernel_rfl) (by kernel_rfl) (fun hc22 => ?_) (fun hc22 => ?_)
        · replace hc22 : ((i : Nat) : Int) < (mm : Int) := (of_decide_eq_true hc22)
          refine W_skip ?_
          refine W_seq ?_
          refine W_block ?_
          refine W_seq ?_
          refine W_draw (fun w' => Blk w' (w9.heap.size) 35 [.slice A (cl n) ca, .slice B (cl n) cb] ∧ RdW w' 3 mm L cells) (by kernel_rfl) (by kernel_rfl) (by kernel_rfl) fun w23 hT24 hh25 => ?_
          have hT0 := hT0.t0 hT24
          have hO := hO.tch0 hT24
          have hA := hA.tch0 hT24
          have hB := hB.tch0 hT24
          have hBx := hBx.tch0 hT24
          have hLc := hL.tch0 hT0
          refine d_takes [0, 2, 3] (listed' := #[true, false, true, true, false, false, false, false, false, false, false, false, false]) (ρ' := upd (upd (upd (upd (upd (upd (upd (updL ρ [(0, .int .i64 n), (1, .slice L mm cl_), (4, .bool false), (5, .pointer (some ⟨p8, 0, none⟩)), (6, .pointer (some ⟨w9.heap.size, 0, none⟩)), (7, .int .i64 ((i : Nat) : Int))]) 27 (.int .i64 ((i : Nat) : Int))) 28 (.slice L mm cl_)) 29 (.int .i64 (mm : Int))) 30 (.bool (decide (((i : Nat) : Int) < (mm : Int))))) 34 (.pointer (some ⟨p8, 0, none⟩))) 36 (.slice L mm cl_)) 37 (.int .i64 ((i : Nat) : Int))) ⟨hBx, hLc⟩ (by kernel_rfl) ?_
          refine d_val (v := .agg #[.slice A (cl n) ca, .slice B (cl n) cb]) 1 (by rfl) (by kernel_rfl) (by kernel_rfl) (by kernel_rfl) (fun w' hs => by obtain ⟨hBx, hLc⟩ := hs; exact R_loadA [.slice A (cl n) ca, .slice B (cl n) cb] (by kernel_rfl) (by kernel_rfl) (by kernel_rfl) (fun k u hk => by rw [hBx.cell]; exact get_part _ 0 _ k u rfl hk)) ⟨hBx, hLc⟩ ?_
          refine d_val (v := ptrAt L (i * 3)) 4 (by rfl) (by kernel_rfl) (by kernel_rfl) (by kernel_rfl) (fun w' hs => by obtain ⟨hBx, hLc⟩ := hs; exact R_indexRd (sz := 3) (len := mm) (cap := cl_) (k := .i64) (i := ((i : Nat) : Int)) (e := 40) i hLc (by kernel_rfl) (by kernel_rfl) (by kernel_rfl) (by kernel_rfl) rfl (by omega)) ⟨hBx, hLc⟩ ?_
          refine d_two 5 10 (by kernel_rfl) (by rfl) (by rfl) (by kernel_rfl) (by kernel_rfl) ?_ ?_
          · refine (S_val (v := .agg #[.int .i64 ((ds i).1), .int .i64 ((ds i).2.1), .int .i64 ((ds i).2.2)]) (R_loadRdA [.int .i64 ((ds i).1), .int .i64 ((ds i).2.1), .int .i64 ((ds i).2.2)] hLc (by omega) (by kernel_rfl) (by kernel_rfl) (by kernel_rfl) (hD.part (by omega))) ?_)
            refine ⟨⟨hBx, hLc⟩, ?_⟩
            refine d_two 6 10 (by kernel_rfl) (by rfl) (by rfl) (by kernel_rfl) (by kernel_rfl) ?_ ?_
            · have lt_hBx := hBx.lt
              have hz_ := hT0.size
              refine (S_call (args := [.pointer (some ⟨p8, 0, none⟩), .agg #[.slice A (cl n) ca, .slice B (cl n) cb], .agg #[.int .i64 ((ds i).1), .int .i64 ((ds i).2.1), .int .i64 ((ds i).2.2)]]) (by kernel_rfl) (do_ok F p8 (cl n) hp ac A B ca cb ac wt ((ds i).1) ((ds i).2.1) ((ds i).2.2) _ hO hA hB hac) ?_)
              rintro _ w26 ⟨F27, hp28, ac29, A30, B31, ca32, cb33, aw34, wt35, r36, rfl, hO, hA, hB, hac, hmv37, hrel⟩
              have hT0 := (hT0).then hmv37.1 hFb
              have hBx := hBx.tch hmv37.1 nF_hBx
              have hLc := hL.tch0 hT0
              replace nF_hBx : ¬ F27 (w9.heap.size) := fun e => (hmv37.2 _ e).elim nF_hBx (fun q => by omega)
              replace hFb := hmv37.ge hFb hz_
              obtain ⟨hr1, hr2, hRel⟩ := hrel rfl hRel
              subst hr1 hr2
              have hwl := hRel.1
              have hal := hO.acLen
              refine ⟨⟨hBx, hLc⟩, ?_⟩
              refine d_takes [7, 8, 9] (listed' := #[true, true, true, true, true, true, true, true, true, true, false, false, false]) (ρ' := upd (upd (upd (upd (upd (upd (upd (upd (upd (upd (upd (upd (upd (upd (updL ρ [(0, .int .i64 n), (1, .slice L mm cl_), (4, .bool false), (5, .pointer (some ⟨p8, 0, none⟩)), (6, .pointer (some ⟨w9.heap.size, 0, none⟩)), (7, .int .i64 ((i : Nat) : Int))]) 27 (.int .i64 ((i : Nat) : Int))) 28 (.slice L mm cl_)) 29 (.int .i64 (mm : Int))) 30 (.bool (decide (((i : Nat) : Int) < (mm : Int))))) 34 (.pointer (some ⟨p8, 0, none⟩))) 36 (.slice L mm cl_)) 37 (.int .i64 ((i : Nat) : Int))) 35 (.agg #[.slice A (cl n) ca, .slice B (cl n) cb])) 38 (ptrAt L (i * 3))) 39 (.agg #[.int .i64 ((ds i).1), .int .i64 ((ds i).2.1), .int .i64 ((ds i).2.2)])) 40 (.tuple #[.agg #[.slice A30 (cl n) ca32, .slice B31 (cl n) cb33], .bool true])) 33 (.tuple #[.agg #[.slice A30 (cl n) ca32, .slice B31 (cl n) cb33], .bool true])) 41 (.agg #[.slice A30 (cl n) ca32, .slice B31 (cl n) cb33])) 42 (.bool true)) ⟨hBx, hLc⟩ (by kernel_rfl) ?_
              have hlt_ := hO.F_lt
              have z42 := hT0.size
              have l43 := hBx.lt
              refine d_one 10 (by kernel_rfl) (by rfl) (by kernel_rfl) (S_new (v := .pointer (some ⟨w26.heap.size, 0, none⟩)) (ob := .cells #[.slice none 0 0, .slice none 0 0] 35) (by kernel_rfl) fun w38 hT39 hs40 hB41 => ?_)
              replace hB41 : Blk w38 (w26.heap.size) 35 [.slice none 0 0, .slice none 0 0] := hB41
              have hT0 := hT0.t0 hT39
              have hO := hO.tch0 hT39
              have hBx := hBx.tch0 hT39
              have hLc := hL.tch0 hT0
              have hA := hA.tch0 hT39
              have hB := hB.tch0 hT39
              have nF_hB41 : ¬ F27 (w26.heap.size) := fun e => by have := hlt_ _ e; omega
              refine ⟨⟨hBx, hLc⟩, ?_⟩
              refine d_one 11 (by kernel_rfl) (by rfl) (by kernel_rfl) (S_storeA (b := w26.heap.size) (j := 0) (cs := [.slice A30 (cl n) ca32, .slice B31 (cl n) cb33]) (by kernel_rfl) (by kernel_rfl) (by kernel_rfl) (by simp [oneV]) hB41 (by simp) fun w44 hT45 hs46 hB41' => ?_)
              have hT0 := (hT0).then hT45 (fun c e => by have : c = w26.heap.size := e; omega)
              have hO := hO.tchS hT45 (fun c e q => by cases e; exact nF_hB41 q)
              have hBx := hBx.tch hT45 (fun e => by have : w9.heap.size = w26.heap.size := e; omega)
              have hLc := hL.tch0 hT0
              have hA := hA.tch1 hB41 (by decide) hT45
              have hB := hB.tch1 hB41 (by decide) hT45
              replace hB41 : Blk w44 w26.heap.size 35 [.slice A30 (cl n) ca32, .slice B31 (cl n) cb33] := hB41'
              refine ⟨⟨hBx, hLc⟩, ?_⟩
              refine d_takes [12] (listed' := #[true, true, true, true, true, true, true, true, true, true, true, true, true]) (ρ' := upd (upd (upd (upd (upd (upd (upd (upd (upd (upd (upd (upd (upd (upd (upd (upd (updL ρ [(0, .int .i64 n), (1, .slice L mm cl_), (4, .bool false), (5, .pointer (some ⟨p8, 0, none⟩)), (6, .pointer (some ⟨w9.heap.size, 0, none⟩)), (7, .int .i64 ((i : Nat) : Int))]) 27 (.int .i64 ((i : Nat) : Int))) 28 (.slice L mm cl_)) 29 (.int .i64 (mm : Int))) 30 (.bool (decide (((i : Nat) : Int) < (mm : Int))))) 34 (.pointer (some ⟨p8, 0, none⟩))) 36 (.slice L mm cl_)) 37 (.int .i64 ((i : Nat) : Int))) 35 (.agg #[.slice A (cl n) ca, .slice B (cl n) cb])) 38 (ptrAt L (i * 3))) 39 (.agg #[.int .i64 ((ds i).1), .int .i64 ((ds i).2.1), .int .i64 ((ds i).2.2)])) 40 (.tuple #[.agg #[.slice A30 (cl n) ca32, .slice B31 (cl n) cb33], .bool true])) 33 (.tuple #[.agg #[.slice A30 (cl n) ca32, .slice B31 (cl n) cb33], .bool true])) 41 (.agg #[.slice A30 (cl n) ca32, .slice B31 (cl n) cb33])) 42 (.bool true)) 8 (.pointer (some ⟨w26.heap.size, 0, none⟩))) 9 (.bool true)) ⟨hBx, hLc⟩ (by kernel_rfl) ?_
              refine d_done (by kernel_rfl) ?_
              refine W_seq ?_
              refine W_fg [(0, .int .i64 n), (1, .slice L mm cl_), (4, .bool false), (5, .pointer (some ⟨p8, 0, none⟩)), (6, .pointer (some ⟨w9.heap.size, 0, none⟩)), (7, .int .i64 ((i : Nat) : Int)), (8, .pointer (some ⟨w26.heap.size, 0, none⟩)), (9, .bool true), (30, .bool (decide (((i : Nat) : Int) < (mm : Int))))] (by kernel_rfl) fun ρ => ?_
              refine W_region (by kernel_rfl) ?_
              refine st (by rfl) (S_val (v := .agg #[.slice A30 (cl n) ca32, .slice B31 (cl n) cb33]) (R_loadA [.slice A30 (cl n) ca32, .slice B31 (cl n) cb33] (by kernel_rfl) (by kernel_rfl) (by kernel_rfl) (fun k u hk => by rw [hB41.cell]; exact get_part _ 0 _ k u rfl hk)) ?_)
              refine st (by rfl) (S_storeA (b := w9.heap.size) (j := 0) (cs := [.slice A30 (cl n) ca32, .slice B31 (cl n) cb33]) (by kernel_rfl) (by kernel_rfl) (by kernel_rfl) (by simp [oneV]) hBx (by simp) fun w47 hT48 hs49 hBx' => ?_)
              have hT0 := (hT0).then hT48 (fun c e => by have : c = w9.heap.size := e; omega)
              have hO := hO.tchS hT48 (fun c e q => by cases e; exact nF_hBx q)
              have hLc := hL.tch0 hT0
              have hA := hA.tch1 hBx (by decide) hT48
              have hB := hB.tch1 hBx (by decide) hT48
              have hB41 := hB41.tch hT48 (fun e => by have : w26.heap.size = w9.heap.size := e; omega)
              replace hBx : Blk w47 w9.heap.size 35 [.slice A30 (cl n) ca32, .slice B31 (cl n) cb33] := hBx'
              refine op_nil ?_
              refine W_seq ?_
              refine W_region (by kernel_rfl) ?_
              refine seg2 (ρ' := upd (upd (upd (updL ρ [(0, .int .i64 n), (1, .slice L mm cl_), (4, .bool false), (5, .pointer (some ⟨p8, 0, none⟩)), (6, .pointer (some ⟨w9.heap.size, 0, none⟩)), (7, .int .i64 ((i : Nat) : Int)), (8, .pointer (some ⟨w26.heap.size, 0, none⟩)), (9, .bool true), (30, .bool (decide (((i : Nat) : Int) < (mm : Int))))]) 43 (.agg #[.slice A30 (cl n) ca32, .slice B31 (cl n) cb33])) 44 (.slice L mm cl_)) 45 (.int .i64 ((i : Nat) : Int))) (by kernel_rfl) ?_
              refine stv (v := ptrAt L (i * 3)) (by rfl) (R_indexRd (sz := 3) (len := mm) (cap := cl_) (k := .i64) (i := ((i : Nat) : Int)) (e := 40) i hLc (by kernel_rfl) (by kernel_rfl) (by kernel_rfl) (by kernel_rfl) rfl (by omega)) ?_
              refine stv (v := ptrAt L (i * 3 + 1)) (by rfl) (R_fieldRd (m := 1) hLc (by omega) (by kernel_rfl) (fun _ _ => by rfl)) ?_
              refine stv (v := .int .i64 ((ds i).2.1)) (by rfl) (R_loadRd (v := .int .i64 ((ds i).2.1)) hLc (by omega) (by kernel_rfl) (by kernel_rfl) ((hD i (by omega)).2.1)) ?_
              refine seg1 (ρ' := upd (upd (upd (upd (upd (upd (upd (updL ρ [(0, .int .i64 n), (1, .slice L mm cl_), (4, .bool false), (5, .pointer (some ⟨p8, 0, none⟩)), (6, .pointer (some ⟨w9.heap.size, 0, none⟩)), (7, .int .i64 ((i : Nat) : Int)), (8, .pointer (some ⟨w26.heap.size, 0, none⟩)), (9, .bool true), (30, .bool (decide (((i : Nat) : Int) < (mm : Int))))]) 43 (.agg #[.slice A30 (cl n) ca32, .slice B31 (cl n) cb33])) 44 (.slice L mm cl_)) 45 (.int .i64 ((i : Nat) : Int))) 46 (ptrAt L (i * 3))) 47 (ptrAt L (i * 3 + 1))) 48 (.int .i64 ((ds i).2.1))) 10 (.int .i64 ((ds i).2.1))) (by kernel_rfl) ?_
              refine op_nil ?_
              refine W_seq ?_
              refine W_region (by kernel_rfl) ?_
              refine st (by rfl) (S_val (v := .agg #[.slice A30 (cl n) ca32, .slice B31 (cl n) cb33]) (R_loadA [.slice A30 (cl n) ca32, .slice B31 (cl n) cb33] (by kernel_rfl) (by kernel_rfl) (by kernel_rfl) (fun k u hk => by rw [hBx.cell]; exact get_part _ 0 _ k u rfl hk)) ?_)
              refine seg1 (ρ' := upd (upd (upd (upd (upd (upd (upd (upd (upd (updL ρ [(0, .int .i64 n), (1, .slice L mm cl_), (4, .bool false), (5, .pointer (some ⟨p8, 0, none⟩)), (6, .pointer (some ⟨w9.heap.size, 0, none⟩)), (7, .int .i64 ((i : Nat) : Int)), (8, .pointer (some ⟨w26.heap.size, 0, none⟩)), (9, .bool true), (30, .bool (decide (((i : Nat) : Int) < (mm : Int))))]) 43 (.agg #[.slice A30 (cl n) ca32, .slice B31 (cl n) cb33])) 44 (.slice L mm cl_)) 45 (.int .i64 ((i : Nat) : Int))) 46 (ptrAt L (i * 3))) 47 (ptrAt L (i * 3 + 1))) 48 (.int .i64 ((ds i).2.1))) 10 (.int .i64 ((ds i).2.1))) 49 (.agg #[.slice A30 (cl n) ca32, .slice B31 (cl n) cb33])) 50 (.int .i64 ((ds i).2.1))) (by kernel_rfl) ?_
              refine st (by rfl) (S_call (args := [.agg #[.slice A30 (cl n) ca32, .slice B31 (cl n) cb33], .int .i64 ((ds i).2.1)]) (by kernel_rfl) (ris_ok (cl n) A30 ca32 (.slice B31 (cl n) cb33) ((ds i).2.1) _) ?_)
              rintro _ w50 ⟨rfl, hT51⟩
              have hT0 := hT0.t0 hT51
              have hO := hO.tch0 hT51
              have hBx := hBx.tch0 hT51
              have hLc := hL.tch0 hT0
              have hA := hA.tch0 hT51
              have hB := hB.tch0 hT51
              have hB41 := hB41.tch0 hT51
              refine seg1 (ρ' := upd (upd (upd (upd (upd (upd (upd (upd (upd (upd (upd (updL ρ [(0, .int .i64 n), (1, .slice L mm cl_), (4, .bool false), (5, .pointer (some ⟨p8, 0, none⟩)), (6, .pointer (some ⟨w9.heap.size, 0, none⟩)), (7, .int .i64 ((i : Nat) : Int)), (8, .pointer (some ⟨w26.heap.size, 0, none⟩)), (9, .bool true), (30, .bool (decide (((i : Nat) : Int) < (mm : Int))))]) 43 (.agg #[.slice A30 (cl n) ca32, .slice B31 (cl n) cb33])) 44 (.slice L mm cl_)) 45 (.int .i64 ((i : Nat) : Int))) 46 (ptrAt L (i * 3))) 47 (ptrAt L (i * 3 + 1))) 48 (.int .i64 ((ds i).2.1))) 10 (.int .i64 ((ds i).2.1))) 49 (.agg #[.slice A30 (cl n) ca32, .slice B31 (cl n) cb33])) 50 (.int .i64 ((ds i).2.1))) 51 (.bool (isB (cl n) ((ds i).2.1)))) 52 (.bool (isB (cl n) ((ds i).2.1)))) (by kernel_rfl) ?_
              cases hb52 : isB (cl n) ((ds i).2.1)
              · replace hb52 : (ds i).2.1 < 0 ∨ ((cl n) : Int) ≤ (ds i).2.1 := (isB_f hb52)
                refine seg7 (ρ' := upd (upd (upd (upd (upd (upd (upd (upd (upd (upd (upd (upd (upd (upd (upd (upd (upd (upd (updL ρ [(0, .int .i64 n), (1, .slice L mm cl_), (4, .bool false), (5, .pointer (some ⟨p8, 0, none⟩)), (6, .pointer (some ⟨w9.heap.size, 0, none⟩)), (7, .int .i64 ((i : Nat) : Int)), (8, .pointer (some ⟨w26.heap.size, 0, none⟩)), (9, .bool true), (30, .bool (decide (((i : Nat) : Int) < (mm : Int))))]) 43 (.agg #[.slice A30 (cl n) ca32, .slice B31 (cl n) cb33])) 44 (.slice L mm cl_)) 45 (.int .i64 ((i : Nat) : Int))) 46 (ptrAt L (i * 3))) 47 (ptrAt L (i * 3 + 1))) 48 (.int .i64 ((ds i).2.1))) 10 (.int .i64 ((ds i).2.1))) 49 (.agg #[.slice A30 (cl n) ca32, .slice B31 (cl n) cb33])) 50 (.int .i64 ((ds i).2.1))) 51 (.bool false)) 52 (.bool false)) 53 (undef)) 54 (undef)) 55 (undef)) 56 (undef)) 57 (undef)) 58 (.bool false)) 11 (.bool false)) (by kernel_rfl) ?_
                refine op_nil ?_
                refine W_seq ?_
                refine W_fg [(0, .int .i64 n), (1, .slice L mm cl_), (4, .bool false), (5, .pointer (some ⟨p8, 0, none⟩)), (6, .pointer (some ⟨w9.heap.size, 0, none⟩)), (7, .int .i64 ((i : Nat) : Int)), (8, .pointer (some ⟨w26.heap.size, 0, none⟩)), (9, .bool true), (10, .int .i64 ((ds i).2.1)), (11, .bool false), (30, .bool (decide (((i : Nat) : Int) < (mm : Int))))] (by kernel_rfl) fun ρ => ?_
                refine W_region (by kernel_rfl) ?_
                refine seg1 (ρ' := upd (updL ρ [(0, .int .i64 n), (1, .slice L mm cl_), (4, .bool false), (5, .pointer (some ⟨p8, 0, none⟩)), (6, .pointer (some ⟨w9.heap.size, 0, none⟩)), (7, .int .i64 ((i : Nat) : Int)), (8, .pointer (some ⟨w26.heap.size, 0, none⟩)), (9, .bool true), (10, .int .i64 ((ds i).2.1)), (11, .bool false), (30, .bool (decide (((i : Nat) : Int) < (mm : Int))))]) 12 (.int .i64 0)) (by kernel_rfl) ?_
                refine op_nil ?_
                refine W_seq ?_
                refine W_seq ?_
                refine W_region (by kernel_rfl) ?_
                refine st (by rfl) (S_val (v := .agg #[.slice A30 (cl n) ca32, .slice B31 (cl n) cb33]) (R_loadA [.slice A30 (cl n) ca32, .slice B31 (cl n) cb33] (by kernel_rfl) (by kernel_rfl) (by kernel_rfl) (fun k u hk => by rw [hBx.cell]; exact get_part _ 0 _ k u rfl hk)) ?_)
                refine seg1 (ρ' := upd (upd (upd (updL ρ [(0, .int .i64 n), (1, .slice L mm cl_), (4, .bool false), (5, .pointer (some ⟨p8, 0, none⟩)), (6, .pointer (some ⟨w9.heap.size, 0, none⟩)), (7, .int .i64 ((i : Nat) : Int)), (8, .pointer (some ⟨w26.heap.size, 0, none⟩)), (9, .bool true), (10, .int .i64 ((ds i).2.1)), (11, .bool false), (30, .bool (decide (((i : Nat) : Int) < (mm : Int))))]) 12 (.int .i64 0)) 59 (.agg #[.slice A30 (cl n) ca32, .slice B31 (cl n) cb33])) 60 (.int .i64 ((ds i).2.1))) (by kernel_rfl) ?_
                refine st (by rfl) (S_call (args := [.agg #[.slice A30 (cl n) ca32, .slice B31 (cl n) cb33], .int .i64 ((ds i).2.1)]) (by kernel_rfl) (ris_ok (cl n) A30 ca32 (.slice B31 (cl n) cb33) ((ds i).2.1) _) ?_)
                rintro _ w53 ⟨rfl, hT54⟩
                have hT0 := hT0.t0 hT54
                have hO := hO.tch0 hT54
                have hBx := hBx.tch0 hT54
                have hLc := hL.tch0 hT0
                have hA := hA.tch0 hT54
                have hB := hB.tch0 hT54
                have hB41 := hB41.tch0 hT54
                refine op_nil ?_
                refine W_cond (isB (cl n) ((ds i).2.1)) (by kernel_rfl) (by kernel_rfl) (fun hc55 => ?_) (fun hc55 => ?_)
                · replace hc55 : 0 ≤ (ds i).2.1 ∧ (ds i).2.1 < ((cl n) : Int) := (isB_t hc55)
                  exfalso; omega
                · replace hc55 : (ds i).2.1 < 0 ∨ ((cl n) : Int) ≤ (ds i).2.1 := (isB_f hc55)
                  refine W_skip ?_
                  refine W_seq ?_
                  refine W_draw (fun w' => Blk w' (w9.heap.size) 35 [.slice A30 (cl n) ca32, .slice B31 (cl n) cb33]) (by kernel_rfl) (by kernel_rfl) (by kernel_rfl) fun w56 hT57 hh58 => ?_
                  have hT0 := hT0.t0 hT57
                  have hO := hO.tch0 hT57
                  have hBx := hBx.tch0 hT57
                  have hLc := hL.tch0 hT0
                  have hA := hA.tch0 hT57
                  have hB := hB.tch0 hT57
                  have hB41 := hB41.tch0 hT57
                  refine d_takes [0, 1, 2, 3] (listed' := #[true, true, true, true, false, false, false, false, false, false, false, false, false, false, false, false, false, false, false, false, false, false, false]) (ρ' := upd (upd (upd (upd (upd (upd (upd (upd (updL ρ [(0, .int .i64 n), (1, .slice L mm cl_), (4, .bool false), (5, .pointer (some ⟨p8, 0, none⟩)), (6, .pointer (some ⟨w9.heap.size, 0, none⟩)), (7, .int .i64 ((i : Nat) : Int)), (8, .pointer (some ⟨w26.heap.size, 0, none⟩)), (9, .bool true), (10, .int .i64 ((ds i).2.1)), (11, .bool false), (30, .bool (decide (((i : Nat) : Int) < (mm : Int))))]) 12 (.int .i64 0)) 59 (.agg #[.slice A30 (cl n) ca32, .slice B31 (cl n) cb33])) 60 (.int .i64 ((ds i).2.1))) 61 (.bool (isB (cl n) ((ds i).2.1)))) 67 (.bool true)) 68 (.bool false)) 69 (.bool false)) 70 (.pointer (some ⟨p8, 0, none⟩))) hBx (by kernel_rfl) ?_
                  refine d_val (v := .agg #[.slice A30 (cl n) ca32, .slice B31 (cl n) cb33]) 5 (by rfl) (by kernel_rfl) (by kernel_rfl) (by kernel_rfl) (fun w' hs => by have hBx := hs; exact R_loadA [.slice A30 (cl n) ca32, .slice B31 (cl n) cb33] (by kernel_rfl) (by kernel_rfl) (by kernel_rfl) (fun k u hk => by rw [hBx.cell]; exact get_part _ 0 _ k u rfl hk)) hBx ?_
                  refine d_one 4 (by kernel_rfl) (by rfl) (by kernel_rfl) (S_call (args := [.pointer (some ⟨p8, 0, none⟩)]) (by kernel_rfl) (len_ok F27 p8 (cl n) hp28 aw34 _ hO) ?_)
                  rintro _ w59 ⟨rfl, hT60⟩
                  have hT0 := hT0.t0 hT60
                  have hO := hO.tch0 hT60
                  have hBx := hBx.tch0 hT60
                  have hLc := hL.tch0 hT0
                  have hA := hA.tch0 hT60
                  have hB := hB.tch0 hT60
                  have hB41 := hB41.tch0 hT60
                  refine ⟨hBx, ?_⟩
                  refine d_one 6 (by kernel_rfl) (by rfl) (by kernel_rfl) (S_call (args := [.agg #[.slice A30 (cl n) ca32, .slice B31 (cl n) cb33]]) (by kernel_rfl) (rlen_lit (cl n) A30 B31 ca32 cb33 aw34 wt35 hp28 _ hA.1 hB.1 (cl_le n) hRel hO.nodup hO.lt_) ?_)
                  rintro _ w61 ⟨rfl, hT62⟩
                  have hT0 := hT0.t0 hT62
                  have hO := hO.tch0 hT62
                  have hBx := hBx.tch0 hT62
                  have hLc := hL.tch0 hT0
                  have hA := hA.tch0 hT62
                  have hB := hB.tch0 hT62
                  have hB41 := hB41.tch0 hT62
                  refine ⟨hBx, ?_⟩
                  refine d_takes [7, 8, 9] (listed' := #[true, true, true, true, true, true, true, true, true, true, false, false, false, false, false, false, false, false, false, false, false, false, false]) (ρ' := upd (upd (upd (upd (upd (upd (upd (upd (upd (upd (upd (upd (upd (upd (updL ρ [(0, .int .i64 n), (1, .slice L mm cl_), (4, .bool false), (5, .pointer (some ⟨p8, 0, none⟩)), (6, .pointer (some ⟨w9.heap.size, 0, none⟩)), (7, .int .i64 ((i : Nat) : Int)), (8, .pointer (some ⟨w26.heap.size, 0, none⟩)), (9, .bool true), (10, .int .i64 ((ds i).2.1)), (11, .bool false), (30, .bool (decide (((i : Nat) : Int) < (mm : Int))))]) 12 (.int .i64 0)) 59 (.agg #[.slice A30 (cl n) ca32, .slice B31 (cl n) cb33])) 60 (.int .i64 ((ds i).2.1))) 61 (.bool (isB (cl n) ((ds i).2.1)))) 67 (.bool true)) 68 (.bool false)) 69 (.bool false)) 70 (.pointer (some ⟨p8, 0, none⟩))) 72 (.agg #[.slice A30 (cl n) ca32, .slice B31 (cl n) cb33])) 71 (.int .i64 (hp28.length : Int))) 73 (.int .i64 (hp28.length : Int))) 74 (.bool ((hp28.length : Int) != (hp28.length : Int)))) 75 (.bool ((hp28.length : Int) != (hp28.length : Int)))) 76 (.bool ((hp28.length : Int) != (hp28.length : Int)))) hBx (by kernel_rfl) ?_
                  cases hb63 : (hp28.length : Int) != (hp28.length : Int)
                  · replace hb63 : (hp28.length : Int) = (hp28.length : Int) := (bne_eq_false_iff_eq.1 hb63)
                    refine d_takes [10, 11, 13] (listed' := #[true, true, true, true, true, true, true, true, true, true, true, true, false, true, false, false, false, false, false, false, false, false, false]) (ρ' := upd (upd (upd (upd (upd (upd (upd (upd (upd (upd (upd (upd (upd (upd (upd (upd (upd (updL ρ [(0, .int .i64 n), (1, .slice L mm cl_), (4, .bool false), (5, .pointer (some ⟨p8, 0, none⟩)), (6, .pointer (some ⟨w9.heap.size, 0, none⟩)), (7, .int .i64 ((i : Nat) : Int)), (8, .pointer (some ⟨w26.heap.size, 0, none⟩)), (9, .bool true), (10, .int .i64 ((ds i).2.1)), (11, .bool false), (30, .bool (decide (((i : Nat) : Int) < (mm : Int))))]) 12 (.int .i64 0)) 59 (.agg #[.slice A30 (cl n) ca32, .slice B31 (cl n) cb33])) 60 (.int .i64 ((ds i).2.1))) 61 (.bool (isB (cl n) ((ds i).2.1)))) 67 (.bool true)) 68 (.bool false)) 69 (.bool false)) 70 (.pointer (some ⟨p8, 0, none⟩))) 72 (.agg #[.slice A30 (cl n) ca32, .slice B31 (cl n) cb33])) 71 (.int .i64 (hp28.length : Int))) 73 (.int .i64 (hp28.length : Int))) 74 (.bool false)) 75 (.bool false)) 76 (.bool false)) 77 (.pointer (some ⟨p8, 0, none⟩))) 78 (.int .i64 ((ds i).2.1))) 80 (.bool false)) hBx (by kernel_rfl) ?_
                    refine d_one 12 (by kernel_rfl) (by rfl) (by kernel_rfl) (S_call (args := [.pointer (some ⟨p8, 0, none⟩), .int .i64 ((ds i).2.1)]) (by kernel_rfl) (has_lit F27 p8 (cl n) hp28 aw34 ((ds i).2.1) false _ hO (has_f hO.lt_ (by omega))) ?_)
                    rintro _ w64 ⟨rfl, hT65⟩
                    have hT0 := hT0.t0 hT65
                    have hO := hO.tch0 hT65
                    have hBx := hBx.tch0 hT65
                    have hLc := hL.tch0 hT0
                    have hA := hA.tch0 hT65
                    have hB := hB.tch0 hT65
                    have hB41 := hB41.tch0 hT65
                    refine ⟨hBx, ?_⟩
                    refine d_takes [14, 15, 16, 17, 18, 20] (listed' := #[true, true, true, true, true, true, true, true, true, true, true, true, true, true, true, true, true, true, true, false, true, false, false]) (ρ' := upd (upd (upd (upd (upd (upd (upd (upd (upd (upd (upd (upd (upd (upd (upd (upd (upd (upd (upd (upd (upd (upd (upd (upd (updL ρ [(0, .int .i64 n), (1, .slice L mm cl_), (4, .bool false), (5, .pointer (some ⟨p8, 0, none⟩)), (6, .pointer (some ⟨w9.heap.size, 0, none⟩)), (7, .int .i64 ((i : Nat) : Int)), (8, .pointer (some ⟨w26.heap.size, 0, none⟩)), (9, .bool true), (10, .int .i64 ((ds i).2.1)), (11, .bool false), (30, .bool (decide (((i : Nat) : Int) < (mm : Int))))]) 12 (.int .i64 0)) 59 (.agg #[.slice A30 (cl n) ca32, .slice B31 (cl n) cb33])) 60 (.int .i64 ((ds i).2.1))) 61 (.bool (isB (cl n) ((ds i).2.1)))) 67 (.bool true)) 68 (.bool false)) 69 (.bool false)) 70 (.pointer (some ⟨p8, 0, none⟩))) 72 (.agg #[.slice A30 (cl n) ca32, .slice B31 (cl n) cb33])) 71 (.int .i64 (hp28.length : Int))) 73 (.int .i64 (hp28.length : Int))) 74 (.bool false)) 75 (.bool false)) 76 (.bool false)) 77 (.pointer (some ⟨p8, 0, none⟩))) 78 (.int .i64 ((ds i).2.1))) 80 (.bool false)) 79 (.bool false)) 81 (.bool false)) 82 (.bool false)) 83 (.bool false)) 84 (.pointer (some ⟨p8, 0, none⟩))) 85 (.int .i64 ((ds i).2.1))) 87 (.int .i64 0)) hBx (by kernel_rfl) ?_
                    refine d_one 19 (by kernel_rfl) (by rfl) (by kernel_rfl) (S_call (args := [.pointer (some ⟨p8, 0, none⟩), .int .i64 ((ds i).2.1)]) (by kernel_rfl) (act_lit F27 p8 (cl n) hp28 aw34 ((ds i).2.1) 0 _ hO (act_f hO.acLen (by omega))) ?_)
                    rintro _ w66 ⟨rfl, hT67⟩
                    have hT0 := hT0.t0 hT67
                    have hO := hO.tch0 hT67
                    have hBx := hBx.tch0 hT67
                    have hLc := hL.tch0 hT0
                    have hA := hA.tch0 hT67
                    have hB := hB.tch0 hT67
                    have hB41 := hB41.tch0 hT67
                    refine ⟨hBx, ?_⟩
                    refine d_takes [21, 22] (listed' := #[true, true, true, true, true, true, true, true, true, true, true, true, true, true, true, true, true, true, true, true, true, true, true]) (ρ' := upd (upd (upd (upd (upd (upd (upd (upd (upd (upd (upd (upd (upd (upd (upd (upd (upd (upd (upd (upd (upd (upd (upd (upd (upd (upd (upd (updL ρ [(0, .int .i64 n), (1, .slice L mm cl_), (4, .bool false), (5, .pointer (some ⟨p8, 0, none⟩)), (6, .pointer (some ⟨w9.heap.size, 0, none⟩)), (7, .int .i64 ((i : Nat) : Int)), (8, .pointer (some ⟨w26.heap.size, 0, none⟩)), (9, .bool true), (10, .int .i64 ((ds i).2.1)), (11, .bool false), (30, .bool (decide (((i : Nat) : Int) < (mm : Int))))]) 12 (.int .i64 0)) 59 (.agg #[.slice A30 (cl n) ca32, .slice B31 (cl n) cb33])) 60 (.int .i64 ((ds i).2.1))) 61 (.bool (isB (cl n) ((ds i).2.1)))) 67 (.bool true)) 68 (.bool false)) 69 (.bool false)) 70 (.pointer (some ⟨p8, 0, none⟩))) 72 (.agg #[.slice A30 (cl n) ca32, .slice B31 (cl n) cb33])) 71 (.int .i64 (hp28.length : Int))) 73 (.int .i64 (hp28.length : Int))) 74 (.bool false)) 75 (.bool false)) 76 (.bool false)) 77 (.pointer (some ⟨p8, 0, none⟩))) 78 (.int .i64 ((ds i).2.1))) 80 (.bool false)) 79 (.bool false)) 81 (.bool false)) 82 (.bool false)) 83 (.bool false)) 84 (.pointer (some ⟨p8, 0, none⟩))) 85 (.int .i64 ((ds i).2.1))) 87 (.int .i64 0)) 86 (.int .i64 0)) 88 (.bool false)) 89 (.bool false)) hBx (by kernel_rfl) ?_
                    refine d_done (by kernel_rfl) ?_
                    refine W_cond false (by kernel_rfl) (by kernel_rfl) (fun h => nomatch h) (fun _ => ?_)
                    refine W_skip ?_
                    refine W_fg [(0, .int .i64 n), (1, .slice L mm cl_), (4, .bool false), (5, .pointer (some ⟨p8, 0, none⟩)), (6, .pointer (some ⟨w9.heap.size, 0, none⟩)), (7, .int .i64 ((i : Nat) : Int)), (8, .pointer (some ⟨w26.heap.size, 0, none⟩)), (9, .bool true), (10, .int .i64 ((ds i).2.1)), (11, .bool false), (12, .int .i64 0), (30, .bool (decide (((i : Nat) : Int) < (mm : Int)))), (61, .bool (isB (cl n) ((ds i).2.1))), (89, .bool false)] (by kernel_rfl) fun ρ => ?_
                    refine W_region (by kernel_rfl) ?_
                    refine seg2 (ρ' := upd (upd (updL ρ [(0, .int .i64 n), (1, .slice L mm cl_), (4, .bool false), (5, .pointer (some ⟨p8, 0, none⟩)), (6, .pointer (some ⟨w9.heap.size, 0, none⟩)), (7, .int .i64 ((i : Nat) : Int)), (8, .pointer (some ⟨w26.heap.size, 0, none⟩)), (9, .bool true), (10, .int .i64 ((ds i).2.1)), (11, .bool false), (12, .int .i64 0), (30, .bool (decide (((i : Nat) : Int) < (mm : Int)))), (61, .bool (isB (cl n) ((ds i).2.1))), (89, .bool false)]) 31 (.int .i64 ((i : Nat) : Int))) 32 (.int .i64 (IntKind.i64.wrap (((i : Nat) : Int) + 1)))) (by kernel_rfl) ?_
                    rw [show IntKind.i64.wrap (((i : Nat) : Int) + 1) = ((i : Nat) : Int) + 1 from wrap_i64 (by omega) (by omega)]
                    rw [show upd (upd (updL ρ [(0, .int .i64 n), (1, .slice L mm cl_), (4, .bool false), (5, .pointer (some ⟨p8, 0, none⟩)), (6, .pointer (some ⟨w9.heap.size, 0, none⟩)), (7, .int .i64 ((i : Nat) : Int)), (8, .pointer (some ⟨w26.heap.size, 0, none⟩)), (9, .bool true), (10, .int .i64 ((ds i).2.1)), (11, .bool false), (12, .int .i64 0), (30, .bool (decide (((i : Nat) : Int) < (mm : Int)))), (61, .bool (isB (cl n) ((ds i).2.1))), (89, .bool false)]) 31 (.int .i64 ((i : Nat) : Int))) 32 (.int .i64 (((i : Nat) : Int) + 1)) = upd (upd (updL ρ [(0, .int .i64 n), (1, .slice L mm cl_), (4, .bool false), (5, .pointer (some ⟨p8, 0, none⟩)), (6, .pointer (some ⟨w9.heap.size, 0, none⟩)), (7, .int .i64 ((i : Nat) : Int)), (8, .pointer (some ⟨w26.heap.size, 0, none⟩)), (9, .bool true), (10, .int .i64 ((ds i).2.1)), (11, .bool false), (12, .int .i64 0), (30, .bool (decide (((i : Nat) : Int) < (mm : Int)))), (61, .bool (isB (cl n) ((ds i).2.1))), (89, .bool false)]) 31 (.int .i64 ((i : Nat) : Int))) 32 (.int .i64 ((i + 1 : Nat) : Int)) from congrArg (fun z => upd (upd (updL ρ [(0, .int .i64 n), (1, .slice L mm cl_), (4, .bool false), (5, .pointer (some ⟨p8, 0, none⟩)), (6, .pointer (some ⟨w9.heap.size, 0, none⟩)), (7, .int .i64 ((i : Nat) : Int)), (8, .pointer (some ⟨w26.heap.size, 0, none⟩)), (9, .bool true), (10, .int .i64 ((ds i).2.1)), (11, .bool false), (12, .int .i64 0), (30, .bool (decide (((i : Nat) : Int) < (mm : Int)))), (61, .bool (isB (cl n) ((ds i).2.1))), (89, .bool false)]) 31 (.int .i64 ((i : Nat) : Int))) 32 (.int .i64 z)) (by omega)]
                    refine seg1 (ρ' := upd (upd (upd (updL ρ [(0, .int .i64 n), (1, .slice L mm cl_), (4, .bool false), (5, .pointer (some ⟨p8, 0, none⟩)), (6, .pointer (some ⟨w9.heap.size, 0, none⟩)), (7, .int .i64 ((i : Nat) : Int)), (8, .pointer (some ⟨w26.heap.size, 0, none⟩)), (9, .bool true), (10, .int .i64 ((ds i).2.1)), (11, .bool false), (12, .int .i64 0), (30, .bool (decide (((i : Nat) : Int) < (mm : Int)))), (61, .bool (isB (cl n) ((ds i).2.1))), (89, .bool false)]) 31 (.int .i64 ((i : Nat) : Int))) 32 (.int .i64 ((i + 1 : Nat) : Int))) 7 (.int .i64 ((i + 1 : Nat) : Int))) (by kernel_rfl) ?_
                    refine op_nil ?_
                    refine ⟨_, ?_, F27, hp28, aw34, A30, B31, ca32, cb33, wt35, i + 1, _, updL_self (by kernel_rfl), hac, hRel, ?_, hFb, nF_hBx, hT0, hO, hA, hB, hBx, hLc, rfl⟩
                    · omega
                    · omega
                  · replace hb63 : (hp28.length : Int) ≠ (hp28.length : Int) := (bne_iff_ne.1 hb63)
                    exact absurd rfl hb63
              · replace hb52 : 0 ≤ (ds i).2.1 ∧ (ds i).2.1 < ((cl n) : Int) := (isB_t hb52)
                refine seg1 (ρ' := upd (upd (upd (upd (upd (upd (upd (upd (upd (upd (upd (upd (updL ρ [(0, .int .i64 n), (1, .slice L mm cl_), (4, .bool false), (5, .pointer (some ⟨p8, 0, none⟩)), (6, .pointer (some ⟨w9.heap.size, 0, none⟩)), (7, .int .i64 ((i : Nat) : Int)), (8, .pointer (some ⟨w26.heap.size, 0, none⟩)), (9, .bool true), (30, .bool (decide (((i : Nat) : Int) < (mm : Int))))]) 43 (.agg #[.slice A30 (cl n) ca32, .slice B31 (cl n) cb33])) 44 (.slice L mm cl_)) 45 (.int .i64 ((i : Nat) : Int))) 46 (ptrAt L (i * 3))) 47 (ptrAt L (i * 3 + 1))) 48 (.int .i64 ((ds i).2.1))) 10 (.int .i64 ((ds i).2.1))) 49 (.agg #[.slice A30 (cl n) ca32, .slice B31 (cl n) cb33])) 50 (.int .i64 ((ds i).2.1))) 51 (.bool true)) 52 (.bool true)) 53 (.pointer (some ⟨w9.heap.size, 1, none⟩))) (by kernel_rfl) ?_
                refine st (by kernel_rfl) (S_val (v := .slice B31 (cl n) cb33) (R_load (v := .slice B31 (cl n) cb33) (by kernel_rfl) (by kernel_rfl) ((hBx.cell 1).trans rfl)) ?_)
                refine seg1 (ρ' := upd (upd (upd (upd (upd (upd (upd (upd (upd (upd (upd (upd (upd (upd (updL ρ [(0, .int .i64 n), (1, .slice L mm cl_), (4, .bool false), (5, .pointer (some ⟨p8, 0, none⟩)), (6, .pointer (some ⟨w9.heap.size, 0, none⟩)), (7, .int .i64 ((i : Nat) : Int)), (8, .pointer (some ⟨w26.heap.size, 0, none⟩)), (9, .bool true), (30, .bool (decide (((i : Nat) : Int) < (mm : Int))))]) 43 (.agg #[.slice A30 (cl n) ca32, .slice B31 (cl n) cb33])) 44 (.slice L mm cl_)) 45 (.int .i64 ((i : Nat) : Int))) 46 (ptrAt L (i * 3))) 47 (ptrAt L (i * 3 + 1))) 48 (.int .i64 ((ds i).2.1))) 10 (.int .i64 ((ds i).2.1))) 49 (.agg #[.slice A30 (cl n) ca32, .slice B31 (cl n) cb33])) 50 (.int .i64 ((ds i).2.1))) 51 (.bool true)) 52 (.bool true)) 53 (.pointer (some ⟨w9.heap.size, 1, none⟩))) 54 (.slice B31 (cl n) cb33)) 55 (.int .i64 ((ds i).2.1))) (by kernel_rfl) ?_
                refine stv (v := ptrAt B31 (((ds i).2.1).toNat)) (by kernel_rfl) (R_indexRd1 (len := (cl n)) (cap := cb33) (k := .i64) (i := (ds i).2.1) (e := 4) (((ds i).2.1).toNat) hB.1 (by kernel_rfl) (by kernel_rfl) (by kernel_rfl) (by kernel_rfl) (by omega) (by omega)) ?_
                refine stv (v := .bool (wt35.getD (((ds i).2.1).toNat) false)) (by kernel_rfl) (R_loadRd (v := .bool (wt35.getD (((ds i).2.1).toNat) false)) hB.1 (by omega) (by kernel_rfl) (by kernel_rfl) (boolsV_at wt35 (by omega))) ?_
                refine seg2 (ρ' := upd (upd (upd (upd (upd (upd (upd (upd (upd (upd (upd (upd (upd (upd (upd (upd (upd (upd (updL ρ [(0, .int .i64 n), (1, .slice L mm cl_), (4, .bool false), (5, .pointer (some ⟨p8, 0, none⟩)), (6, .pointer (some ⟨w9.heap.size, 0, none⟩)), (7, .int .i64 ((i : Nat) : Int)), (8, .pointer (some ⟨w26.heap.size, 0, none⟩)), (9, .bool true), (30, .bool (decide (((i : Nat) : Int) < (mm : Int))))]) 43 (.agg #[.slice A30 (cl n) ca32, .slice B31 (cl n) cb33])) 44 (.slice L mm cl_)) 45 (.int .i64 ((i : Nat) : Int))) 46 (ptrAt L (i * 3))) 47 (ptrAt L (i * 3 + 1))) 48 (.int .i64 ((ds i).2.1))) 10 (.int .i64 ((ds i).2.1))) 49 (.agg #[.slice A30 (cl n) ca32, .slice B31 (cl n) cb33])) 50 (.int .i64 ((ds i).2.1))) 51 (.bool true)) 52 (.bool true)) 53 (.pointer (some ⟨w9.heap.size, 1, none⟩))) 54 (.slice B31 (cl n) cb33)) 55 (.int .i64 ((ds i).2.1))) 56 (ptrAt B31 (((ds i).2.1).toNat))) 57 (.bool (wt35.getD (((ds i).2.1).toNat) false))) 58 (.bool (wt35.getD (((ds i).2.1).toNat) false))) 11 (.bool (wt35.getD (((ds i).2.1).toNat) false))) (by kernel_rfl) ?_
                refine op_nil ?_
                refine W_seq ?_
                refine W_fg [(0, .int .i64 n), (1, .slice L mm cl_), (4, .bool false), (5, .pointer (some ⟨p8, 0, none⟩)), (6, .pointer (some ⟨w9.heap.size, 0, none⟩)), (7, .int .i64 ((i : Nat) : Int)), (8, .pointer (some ⟨w26.heap.size, 0, none⟩)), (9, .bool true), (10, .int .i64 ((ds i).2.1)), (11, .bool (wt35.getD (((ds i).2.1).toNat) false)), (30, .bool (decide (((i : Nat) : Int) < (mm : Int))))] (by kernel_rfl) fun ρ => ?_
                refine W_region (by kernel_rfl) ?_
                refine seg1 (ρ' := upd (updL ρ [(0, .int .i64 n), (1, .slice L mm cl_), (4, .bool false), (5, .pointer (some ⟨p8, 0, none⟩)), (6, .pointer (some ⟨w9.heap.size, 0, none⟩)), (7, .int .i64 ((i : Nat) : Int)), (8, .pointer (some ⟨w26.heap.size, 0, none⟩)), (9, .bool true), (10, .int .i64 ((ds i).2.1)), (11, .bool (wt35.getD (((ds i).2.1).toNat) false)), (30, .bool (decide (((i : Nat) : Int) < (mm : Int))))]) 12 (.int .i64 0)) (by kernel_rfl) ?_
                refine op_nil ?_
                refine W_seq ?_
                refine W_seq ?_
                refine W_region (by kernel_rfl) ?_
                refine st (by rfl) (S_val (v := .agg #[.slice A30 (cl n) ca32, .slice B31 (cl n) cb33]) (R_loadA [.slice A30 (cl n) ca32, .slice B31 (cl n) cb33] (by kernel_rfl) (by kernel_rfl) (by kernel_rfl) (fun k u hk => by rw [hBx.cell]; exact get_part _ 0 _ k u rfl hk)) ?_)
                refine seg1 (ρ' := upd (upd (upd (updL ρ [(0, .int .i64 n), (1, .slice L mm cl_), (4, .bool false), (5, .pointer (some ⟨p8, 0, none⟩)), (6, .pointer (some ⟨w9.heap.size, 0, none⟩)), (7, .int .i64 ((i : Nat) : Int)), (8, .pointer (some ⟨w26.heap.size, 0, none⟩)), (9, .bool true), (10, .int .i64 ((ds i).2.1)), (11, .bool (wt35.getD (((ds i).2.1).toNat) false)), (30, .bool (decide (((i : Nat) : Int) < (mm : Int))))]) 12 (.int .i64 0)) 59 (.agg #[.slice A30 (cl n) ca32, .slice B31 (cl n) cb33])) 60 (.int .i64 ((ds i).2.1))) (by kernel_rfl) ?_
                refine st (by rfl) (S_call (args := [.agg #[.slice A30 (cl n) ca32, .slice B31 (cl n) cb33], .int .i64 ((ds i).2.1)]) (by kernel_rfl) (ris_ok (cl n) A30 ca32 (.slice B31 (cl n) cb33) ((ds i).2.1) _) ?_)
                rintro _ w68 ⟨rfl, hT69⟩
                have hT0 := hT0.t0 hT69
                have hO := hO.tch0 hT69
                have hBx := hBx.tch0 hT69
                have hLc := hL.tch0 hT0
                have hA := hA.tch0 hT69
                have hB := hB.tch0 hT69
                have hB41 := hB41.tch0 hT69
                refine op_nil ?_
                refine W_cond (isB (cl n) ((ds i).2.1)) (by kernel_rfl) (by kernel_rfl) (fun hc70 => ?_) (fun hc70 => ?_)
                · replace hc70 : 0 ≤ (ds i).2.1 ∧ (ds i).2.1 < ((cl n) : Int) := (isB_t hc70)
                  refine W_region (by kernel_rfl) ?_
                  refine seg1 (ρ' := upd (upd (upd (upd (upd (updL ρ [(0, .int .i64 n), (1, .slice L mm cl_), (4, .bool false), (5, .pointer (some ⟨p8, 0, none⟩)), (6, .pointer (some ⟨w9.heap.size, 0, none⟩)), (7, .int .i64 ((i : Nat) : Int)), (8, .pointer (some ⟨w26.heap.size, 0, none⟩)), (9, .bool true), (10, .int .i64 ((ds i).2.1)), (11, .bool (wt35.getD (((ds i).2.1).toNat) false)), (30, .bool (decide (((i : Nat) : Int) < (mm : Int))))]) 12 (.int .i64 0)) 59 (.agg #[.slice A30 (cl n) ca32, .slice B31 (cl n) cb33])) 60 (.int .i64 ((ds i).2.1))) 61 (.bool (isB (cl n) ((ds i).2.1)))) 62 (.pointer (some ⟨w9.heap.size, 0, none⟩))) (by kernel_rfl) ?_
                  refine st (by rfl) (S_val (v := .slice A30 (cl n) ca32) (R_load (v := .slice A30 (cl n) ca32) (by kernel_rfl) (by kernel_rfl) ((hBx.cell 0).trans rfl)) ?_)
                  refine seg1 (ρ' := upd (upd (upd (upd (upd (upd (upd (updL ρ [(0, .int .i64 n), (1, .slice L mm cl_), (4, .bool false), (5, .pointer (some ⟨p8, 0, none⟩)), (6, .pointer (some ⟨w9.heap.size, 0, none⟩)), (7, .int .i64 ((i : Nat) : Int)), (8, .pointer (some ⟨w26.heap.size, 0, none⟩)), (9, .bool true), (10, .int .i64 ((ds i).2.1)), (11, .bool (wt35.getD (((ds i).2.1).toNat) false)), (30, .bool (decide (((i : Nat) : Int) < (mm : Int))))]) 12 (.int .i64 0)) 59 (.agg #[.slice A30 (cl n) ca32, .slice B31 (cl n) cb33])) 60 (.int .i64 ((ds i).2.1))) 61 (.bool (isB (cl n) ((ds i).2.1)))) 62 (.pointer (some ⟨w9.heap.size, 0, none⟩))) 63 (.slice A30 (cl n) ca32)) 64 (.int .i64 ((ds i).2.1))) (by kernel_rfl) ?_
                  refine stv (v := ptrAt A30 (((ds i).2.1).toNat)) (by rfl) (R_indexRd1 (len := (cl n)) (cap := ca32) (k := .i64) (i := (ds i).2.1) (e := 3) (((ds i).2.1).toNat) hA.1 (by kernel_rfl) (by kernel_rfl) (by kernel_rfl) (by kernel_rfl) (by omega) (by omega)) ?_
                  refine stv (v := .int .i64 (aw34.getD (((ds i).2.1).toNat) 0)) (by rfl) (R_loadRd (v := .int .i64 (aw34.getD (((ds i).2.1).toNat) 0)) hA.1 (by omega) (by kernel_rfl) (by kernel_rfl) (ints_at .i64 aw34 (by omega))) ?_
                  refine seg1 (ρ' := upd (upd (upd (upd (upd (upd (upd (upd (upd (upd (updL ρ [(0, .int .i64 n), (1, .slice L mm cl_), (4, .bool false), (5, .pointer (some ⟨p8, 0, none⟩)), (6, .pointer (some ⟨w9.heap.size, 0, none⟩)), (7, .int .i64 ((i : Nat) : Int)), (8, .pointer (some ⟨w26.heap.size, 0, none⟩)), (9, .bool true), (10, .int .i64 ((ds i).2.1)), (11, .bool (wt35.getD (((ds i).2.1).toNat) false)), (30, .bool (decide (((i : Nat) : Int) < (mm : Int))))]) 12 (.int .i64 0)) 59 (.agg #[.slice A30 (cl n) ca32, .slice B31 (cl n) cb33])) 60 (.int .i64 ((ds i).2.1))) 61 (.bool (isB (cl n) ((ds i).2.1)))) 62 (.pointer (some ⟨w9.heap.size, 0, none⟩))) 63 (.slice A30 (cl n) ca32)) 64 (.int .i64 ((ds i).2.1))) 65 (ptrAt A30 (((ds i).2.1).toNat))) 66 (.int .i64 (aw34.getD (((ds i).2.1).toNat) 0))) 12 (.int .i64 (aw34.getD (((ds i).2.1).toNat) 0))) (by kernel_rfl) ?_
                  refine op_nil ?_
                  refine W_seq ?_
                  refine W_fg [(0, .int .i64 n), (1, .slice L mm cl_), (4, .bool false), (5, .pointer (some ⟨p8, 0, none⟩)), (6, .pointer (some ⟨w9.heap.size, 0, none⟩)), (7, .int .i64 ((i : Nat) : Int)), (8, .pointer (some ⟨w26.heap.size, 0, none⟩)), (9, .bool true), (10, .int .i64 ((ds i).2.1)), (11, .bool (wt35.getD (((ds i).2.1).toNat) false)), (12, .int .i64 (aw34.getD (((ds i).2.1).toNat) 0)), (30, .bool (decide (((i : Nat) : Int) < (mm : Int)))), (61, .bool (isB (cl n) ((ds i).2.1)))] (by kernel_rfl) fun ρ => ?_
                  refine W_draw (fun w' => Blk w' (w9.heap.size) 35 [.slice A30 (cl n) ca32, .slice B31 (cl n) cb33]) (by kernel_rfl) (by kernel_rfl) (by kernel_rfl) fun w71 hT72 hh73 => ?_
                  have hT0 := hT0.t0 hT72
                  have hO := hO.tch0 hT72
                  have hBx := hBx.tch0 hT72
                  have hLc := hL.tch0 hT0
                  have hA := hA.tch0 hT72
                  have hB := hB.tch0 hT72
                  have hB41 := hB41.tch0 hT72
                  refine d_takes [0, 1, 2, 3] (listed' := #[true, true, true, true, false, false, false, false, false, false, false, false, false, false, false, false, false, false, false, false, false, false, false]) (ρ' := upd (upd (upd (upd (updL ρ [(0, .int .i64 n), (1, .slice L mm cl_), (4, .bool false), (5, .pointer (some ⟨p8, 0, none⟩)), (6, .pointer (some ⟨w9.heap.size, 0, none⟩)), (7, .int .i64 ((i : Nat) : Int)), (8, .pointer (some ⟨w26.heap.size, 0, none⟩)), (9, .bool true), (10, .int .i64 ((ds i).2.1)), (11, .bool (wt35.getD (((ds i).2.1).toNat) false)), (12, .int .i64 (aw34.getD (((ds i).2.1).toNat) 0)), (30, .bool (decide (((i : Nat) : Int) < (mm : Int)))), (61, .bool (isB (cl n) ((ds i).2.1)))]) 67 (.bool true)) 68 (.bool false)) 69 (.bool false)) 70 (.pointer (some ⟨p8, 0, none⟩))) hBx (by kernel_rfl) ?_
                  refine d_val (v := .agg #[.slice A30 (cl n) ca32, .slice B31 (cl n) cb33]) 5 (by rfl) (by kernel_rfl) (by kernel_rfl) (by kernel_rfl) (fun w' hs => by have hBx := hs; exact R_loadA [.slice A30 (cl n) ca32, .slice B31 (cl n) cb33] (by kernel_rfl) (by kernel_rfl) (by kernel_rfl) (fun k u hk => by rw [hBx.cell]; exact get_part _ 0 _ k u rfl hk)) hBx ?_
                  refine d_one 4 (by kernel_rfl) (by rfl) (by kernel_rfl) (S_call (args := [.pointer (some ⟨p8, 0, none⟩)]) (by kernel_rfl) (len_ok F27 p8 (cl n) hp28 aw34 _ hO) ?_)
                  rintro _ w74 ⟨rfl, hT75⟩
                  have hT0 := hT0.t0 hT75
                  have hO := hO.tch0 hT75
                  have hBx := hBx.tch0 hT75
                  have hLc := hL.tch0 hT0
                  have hA := hA.tch0 hT75
                  have hB := hB.tch0 hT75
                  have hB41 := hB41.tch0 hT75
                  refine ⟨hBx, ?_⟩
                  refine d_one 6 (by kernel_rfl) (by rfl) (by kernel_rfl) (S_call (args := [.agg #[.slice A30 (cl n) ca32, .slice B31 (cl n) cb33]]) (by kernel_rfl) (rlen_lit (cl n) A30 B31 ca32 cb33 aw34 wt35 hp28 _ hA.1 hB.1 (cl_le n) hRel hO.nodup hO.lt_) ?_)
                  rintro _ w76 ⟨rfl, hT77⟩
                  have hT0 := hT0.t0 hT77
                  have hO := hO.tch0 hT77
                  have hBx := hBx.tch0 hT77
                  have hLc := hL.tch0 hT0
                  have hA := hA.tch0 hT77
                  have hB := hB.tch0 hT77
                  have hB41 := hB41.tch0 hT77
                  refine ⟨hBx, ?_⟩
                  refine d_takes [7, 8, 9] (listed' := #[true, true, true, true, true, true, true, true, true, true, false, false, false, false, false, false, false, false, false, false, false, false, false]) (ρ' := upd (upd (upd (upd (upd (upd (upd (upd (upd (upd (updL ρ [(0, .int .i64 n), (1, .slice L mm cl_), (4, .bool false), (5, .pointer (some ⟨p8, 0, none⟩)), (6, .pointer (some ⟨w9.heap.size, 0, none⟩)), (7, .int .i64 ((i : Nat) : Int)), (8, .pointer (some ⟨w26.heap.size, 0, none⟩)), (9, .bool true), (10, .int .i64 ((ds i).2.1)), (11, .bool (wt35.getD (((ds i).2.1).toNat) false)), (12, .int .i64 (aw34.getD (((ds i).2.1).toNat) 0)), (30, .bool (decide (((i : Nat) : Int) < (mm : Int)))), (61, .bool (isB (cl n) ((ds i).2.1)))]) 67 (.bool true)) 68 (.bool false)) 69 (.bool false)) 70 (.pointer (some ⟨p8, 0, none⟩))) 72 (.agg #[.slice A30 (cl n) ca32, .slice B31 (cl n) cb33])) 71 (.int .i64 (hp28.length : Int))) 73 (.int .i64 (hp28.length : Int))) 74 (.bool ((hp28.length : Int) != (hp28.length : Int)))) 75 (.bool ((hp28.length : Int) != (hp28.length : Int)))) 76 (.bool ((hp28.length : Int) != (hp28.length : Int)))) hBx (by kernel_rfl) ?_
                  cases hb78 : (hp28.length : Int) != (hp28.length : Int)
                  · replace hb78 : (hp28.length : Int) = (hp28.length : Int) := (bne_eq_false_iff_eq.1 hb78)
                    refine d_takes [10, 11, 13] (listed' := #[true, true, true, true, true, true, true, true, true, true, true, true, false, true, false, false, false, false, false, false, false, false, false]) (ρ' := upd (upd (upd (upd (upd (upd (upd (upd (upd (upd (upd (upd (upd (updL ρ [(0, .int .i64 n), (1, .slice L mm cl_), (4, .bool false), (5, .pointer (some ⟨p8, 0, none⟩)), (6, .pointer (some ⟨w9.heap.size, 0, none⟩)), (7, .int .i64 ((i : Nat) : Int)), (8, .pointer (some ⟨w26.heap.size, 0, none⟩)), (9, .bool true), (10, .int .i64 ((ds i).2.1)), (11, .bool (wt35.getD (((ds i).2.1).toNat) false)), (12, .int .i64 (aw34.getD (((ds i).2.1).toNat) 0)), (30, .bool (decide (((i : Nat) : Int) < (mm : Int)))), (61, .bool (isB (cl n) ((ds i).2.1)))]) 67 (.bool true)) 68 (.bool false)) 69 (.bool false)) 70 (.pointer (some ⟨p8, 0, none⟩))) 72 (.agg #[.slice A30 (cl n) ca32, .slice B31 (cl n) cb33])) 71 (.int .i64 (hp28.length : Int))) 73 (.int .i64 (hp28.length : Int))) 74 (.bool false)) 75 (.bool false)) 76 (.bool false)) 77 (.pointer (some ⟨p8, 0, none⟩))) 78 (.int .i64 ((ds i).2.1))) 80 (.bool (wt35.getD (((ds i).2.1).toNat) false))) hBx (by kernel_rfl) ?_
                    refine d_one 12 (by kernel_rfl) (by rfl) (by kernel_rfl) (S_call (args := [.pointer (some ⟨p8, 0, none⟩), .int .i64 ((ds i).2.1)]) (by kernel_rfl) (has_lit F27 p8 (cl n) hp28 aw34 ((ds i).2.1) (wt35.getD (((ds i).2.1).toNat) false) _ hO (hRel.has_t (by omega) (by omega))) ?_)
                    rintro _ w79 ⟨rfl, hT80⟩
                    have hT0 := hT0.t0 hT80
                    have hO := hO.tch0 hT80
                    have hBx := hBx.tch0 hT80
                    have hLc := hL.tch0 hT0
                    have hA := hA.tch0 hT80
                    have hB := hB.tch0 hT80
                    have hB41 := hB41.tch0 hT80
                    refine ⟨hBx, ?_⟩
                    refine d_takes [14, 15, 16] (listed' := #[true, true, true, true, true, true, true, true, true, true, true, true, true, true, true, true, true, false, false, false, false, false, false]) (ρ' := upd (upd (upd (upd (upd (upd (upd (upd (upd (upd (upd (upd (upd (upd (upd (upd (upd (updL ρ [(0, .int .i64 n), (1, .slice L mm cl_), (4, .bool false), (5, .pointer (some ⟨p8, 0, none⟩)), (6, .pointer (some ⟨w9.heap.size, 0, none⟩)), (7, .int .i64 ((i : Nat) : Int)), (8, .pointer (some ⟨w26.heap.size, 0, none⟩)), (9, .bool true), (10, .int .i64 ((ds i).2.1)), (11, .bool (wt35.getD (((ds i).2.1).toNat) false)), (12, .int .i64 (aw34.getD (((ds i).2.1).toNat) 0)), (30, .bool (decide (((i : Nat) : Int) < (mm : Int)))), (61, .bool (isB (cl n) ((ds i).2.1)))]) 67 (.bool true)) 68 (.bool false)) 69 (.bool false)) 70 (.pointer (some ⟨p8, 0, none⟩))) 72 (.agg #[.slice A30 (cl n) ca32, .slice B31 (cl n) cb33])) 71 (.int .i64 (hp28.length : Int))) 73 (.int .i64 (hp28.length : Int))) 74 (.bool false)) 75 (.bool false)) 76 (.bool false)) 77 (.pointer (some ⟨p8, 0, none⟩))) 78 (.int .i64 ((ds i).2.1))) 80 (.bool (wt35.getD (((ds i).2.1).toNat) false))) 79 (.bool (wt35.getD (((ds i).2.1).toNat) false))) 81 (.bool (!((wt35.getD (((ds i).2.1).toNat) false) == (wt35.getD (((ds i).2.1).toNat) false))))) 82 (.bool (!((wt35.getD (((ds i).2.1).toNat) false) == (wt35.getD (((ds i).2.1).toNat) false))))) 83 (.bool (!((wt35.getD (((ds i).2.1).toNat) false) == (wt35.getD (((ds i).2.1).toNat) false))))) hBx (by kernel_rfl) ?_
                    cases hb81 : (wt35.getD (((ds i).2.1).toNat) false) == (wt35.getD (((ds i).2.1).toNat) false)
                    · replace hb81 : (wt35.getD (((ds i).2.1).toNat) false) ≠ (wt35.getD (((ds i).2.1).toNat) false) := (ne_of_beq_false hb81)
                      exact absurd rfl hb81
                    · replace hb81 : wt35.getD (((ds i).2.1).toNat) false = wt35.getD (((ds i).2.1).toNat) false := (eq_of_beq hb81)
                      refine d_takes [17, 18, 20] (listed' := #[true, true, true, true, true, true, true, true, true, true, true, true, true, true, true, true, true, true, true, false, true, false, false]) (ρ' := upd (upd (upd (upd (upd (upd (upd (upd (upd (upd (upd (upd (upd (upd (upd (upd (upd (upd (upd (upd (updL ρ [(0, .int .i64 n), (1, .slice L mm cl_), (4, .bool false), (5, .pointer (some ⟨p8, 0, none⟩)), (6, .pointer (some ⟨w9.heap.size, 0, none⟩)), (7, .int .i64 ((i : Nat) : Int)), (8, .pointer (some ⟨w26.heap.size, 0, none⟩)), (9, .bool true), (10, .int .i64 ((ds i).2.1)), (11, .bool (wt35.getD (((ds i).2.1).toNat) false)), (12, .int .i64 (aw34.getD (((ds i).2.1).toNat) 0)), (30, .bool (decide (((i : Nat) : Int) < (mm : Int)))), (61, .bool (isB (cl n) ((ds i).2.1)))]) 67 (.bool true)) 68 (.bool false)) 69 (.bool false)) 70 (.pointer (some ⟨p8, 0, none⟩))) 72 (.agg #[.slice A30 (cl n) ca32, .slice B31 (cl n) cb33])) 71 (.int .i64 (hp28.length : Int))) 73 (.int .i64 (hp28.length : Int))) 74 (.bool false)) 75 (.bool false)) 76 (.bool false)) 77 (.pointer (some ⟨p8, 0, none⟩))) 78 (.int .i64 ((ds i).2.1))) 80 (.bool (wt35.getD (((ds i).2.1).toNat) false))) 79 (.bool (wt35.getD (((ds i).2.1).toNat) false))) 81 (.bool false)) 82 (.bool false)) 83 (.bool false)) 84 (.pointer (some ⟨p8, 0, none⟩))) 85 (.int .i64 ((ds i).2.1))) 87 (.int .i64 (aw34.getD (((ds i).2.1).toNat) 0))) hBx (by kernel_rfl) ?_
                      refine d_one 19 (by kernel_rfl) (by rfl) (by kernel_rfl) (S_call (args := [.pointer (some ⟨p8, 0, none⟩), .int .i64 ((ds i).2.1)]) (by kernel_rfl) (act_lit F27 p8 (cl n) hp28 aw34 ((ds i).2.1) (aw34.getD (((ds i).2.1).toNat) 0) _ hO (act_t hO.acLen (by omega) (by omega))) ?_)
                      rintro _ w82 ⟨rfl, hT83⟩
                      have hT0 := hT0.t0 hT83
                      have hO := hO.tch0 hT83
                      have hBx := hBx.tch0 hT83
                      have hLc := hL.tch0 hT0
                      have hA := hA.tch0 hT83
                      have hB := hB.tch0 hT83
                      have hB41 := hB41.tch0 hT83
                      refine ⟨hBx, ?_⟩
                      refine d_takes [21, 22] (listed' := #[true, true, true, true, true, true, true, true, true, true, true, true, true, true, true, true, true, true, true, true, true, true, true]) (ρ' := upd (upd (upd (upd (upd (upd (upd (upd (upd (upd (upd (upd (upd (upd (upd (upd (upd (upd (upd (upd (upd (upd (upd (updL ρ [(0, .int .i64 n), (1, .slice L mm cl_), (4, .bool false), (5, .pointer (some ⟨p8, 0, none⟩)), (6, .pointer (some ⟨w9.heap.size, 0, none⟩)), (7, .int .i64 ((i : Nat) : Int)), (8, .pointer (some ⟨w26.heap.size, 0, none⟩)), (9, .bool true), (10, .int .i64 ((ds i).2.1)), (11, .bool (wt35.getD (((ds i).2.1).toNat) false)), (12, .int .i64 (aw34.getD (((ds i).2.1).toNat) 0)), (30, .bool (decide (((i : Nat) : Int) < (mm : Int)))), (61, .bool (isB (cl n) ((ds i).2.1)))]) 67 (.bool true)) 68 (.bool false)) 69 (.bool false)) 70 (.pointer (some ⟨p8, 0, none⟩))) 72 (.agg #[.slice A30 (cl n) ca32, .slice B31 (cl n) cb33])) 71 (.int .i64 (hp28.length : Int))) 73 (.int .i64 (hp28.length : Int))) 74 (.bool false)) 75 (.bool false)) 76 (.bool false)) 77 (.pointer (some ⟨p8, 0, none⟩))) 78 (.int .i64 ((ds i).2.1))) 80 (.bool (wt35.getD (((ds i).2.1).toNat) false))) 79 (.bool (wt35.getD (((ds i).2.1).toNat) false))) 81 (.bool false)) 82 (.bool false)) 83 (.bool false)) 84 (.pointer (some ⟨p8, 0, none⟩))) 85 (.int .i64 ((ds i).2.1))) 87 (.int .i64 (aw34.getD (((ds i).2.1).toNat) 0))) 86 (.int .i64 (aw34.getD (((ds i).2.1).toNat) 0))) 88 (.bool ((aw34.getD (((ds i).2.1).toNat) 0) != (aw34.getD (((ds i).2.1).toNat) 0)))) 89 (.bool ((aw34.getD (((ds i).2.1).toNat) 0) != (aw34.getD (((ds i).2.1).toNat) 0)))) hBx (by kernel_rfl) ?_
                      refine d_done (by kernel_rfl) ?_
                      refine W_cond ((aw34.getD (((ds i).2.1).toNat) 0) != (aw34.getD (((ds i).2.1).toNat) 0)) (by kernel_rfl) (by kernel_rfl) (fun hc84 => ?_) (fun hc84 => ?_)
                      · replace hc84 : aw34.getD (((ds i).2.1).toNat) 0 ≠ aw34.getD (((ds i).2.1).toNat) 0 := (bne_iff_ne.1 hc84)
                        exact absurd rfl hc84
                      · replace hc84 : aw34.getD (((ds i).2.1).toNat) 0 = aw34.getD (((ds i).2.1).toNat) 0 := (bne_eq_false_iff_eq.1 hc84)
                        refine W_skip ?_
                        refine W_fg [(0, .int .i64 n), (1, .slice L mm cl_), (4, .bool false), (5, .pointer (some ⟨p8, 0, none⟩)), (6, .pointer (some ⟨w9.heap.size, 0, none⟩)), (7, .int .i64 ((i : Nat) : Int)), (8, .pointer (some ⟨w26.heap.size, 0, none⟩)), (9, .bool true), (10, .int .i64 ((ds i).2.1)), (11, .bool (wt35.getD (((ds i).2.1).toNat) false)), (12, .int .i64 (aw34.getD (((ds i).2.1).toNat) 0)), (30, .bool (decide (((i : Nat) : Int) < (mm : Int)))), (61, .bool (isB (cl n) ((ds i).2.1))), (89, .bool ((aw34.getD (((ds i).2.1).toNat) 0) != (aw34.getD (((ds i).2.1).toNat) 0)))] (by kernel_rfl) fun ρ => ?_
                        refine W_region (by kernel_rfl) ?_
                        refine seg2 (ρ' := upd (upd (updL ρ [(0, .int .i64 n), (1, .slice L mm cl_), (4, .bool false), (5, .pointer (some ⟨p8, 0, none⟩)), (6, .pointer (some ⟨w9.heap.size, 0, none⟩)), (7, .int .i64 ((i : Nat) : Int)), (8, .pointer (some ⟨w26.heap.size, 0, none⟩)), (9, .bool true), (10, .int .i64 ((ds i).2.1)), (11, .bool (wt35.getD (((ds i).2.1).toNat) false)), (12, .int .i64 (aw34.getD (((ds i).2.1).toNat) 0)), (30, .bool (decide (((i : Nat) : Int) < (mm : Int)))), (61, .bool (isB (cl n) ((ds i).2.1))), (89, .bool ((aw34.getD (((ds i).2.1).toNat) 0) != (aw34.getD (((ds i).2.1).toNat) 0)))]) 31 (.int .i64 ((i : Nat) : Int))) 32 (.int .i64 (IntKind.i64.wrap (((i : Nat) : Int) + 1)))) (by kernel_rfl) ?_
                        rw [show IntKind.i64.wrap (((i : Nat) : Int) + 1) = ((i : Nat) : Int) + 1 from wrap_i64 (by omega) (by omega)]
                        rw [show upd (upd (updL ρ [(0, .int .i64 n), (1, .slice L mm cl_), (4, .bool false), (5, .pointer (some ⟨p8, 0, none⟩)), (6, .pointer (some ⟨w9.heap.size, 0, none⟩)), (7, .int .i64 ((i : Nat) : Int)), (8, .pointer (some ⟨w26.heap.size, 0, none⟩)), (9, .bool true), (10, .int .i64 ((ds i).2.1)), (11, .bool (wt35.getD (((ds i).2.1).toNat) false)), (12, .int .i64 (aw34.getD (((ds i).2.1).toNat) 0)), (30, .bool (decide (((i : Nat) : Int) < (mm : Int)))), (61, .bool (isB (cl n) ((ds i).2.1))), (89, .bool ((aw34.getD (((ds i).2.1).toNat) 0) != (aw34.getD (((ds i).2.1).toNat) 0)))]) 31 (.int .i64 ((i : Nat) : Int))) 32 (.int .i64 (((i : Nat) : Int) + 1)) = upd (upd (updL ρ [(0, .int .i64 n), (1, .slice L mm cl_), (4, .bool false), (5, .pointer (some ⟨p8, 0, none⟩)), (6, .pointer (some ⟨w9.heap.size, 0, none⟩)), (7, .int .i64 ((i : Nat) : Int)), (8, .pointer (some ⟨w26.heap.size, 0, none⟩)), (9, .bool true), (10, .int .i64 ((ds i).2.1)), (11, .bool (wt35.getD (((ds i).2.1).toNat) false)), (12, .int .i64 (aw34.getD (((ds i).2.1).toNat) 0)), (30, .bool (decide (((i : Nat) : Int) < (mm : Int)))), (61, .bool (isB (cl n) ((ds i).2.1))), (89, .bool ((aw34.getD (((ds i).2.1).toNat) 0) != (aw34.getD (((ds i).2.1).toNat) 0)))]) 31 (.int .i64 ((i : Nat) : Int))) 32 (.int .i64 ((i + 1 : Nat) : Int)) from congrArg (fun z => upd (upd (updL ρ [(0, .int .i64 n), (1, .slice L mm cl_), (4, .bool false), (5, .pointer (some ⟨p8, 0, none⟩)), (6, .pointer (some ⟨w9.heap.size, 0, none⟩)), (7, .int .i64 ((i : Nat) : Int)), (8, .pointer (some ⟨w26.heap.size, 0, none⟩)), (9, .bool true), (10, .int .i64 ((ds i).2.1)), (11, .bool (wt35.getD (((ds i).2.1).toNat) false)), (12, .int .i64 (aw34.getD (((ds i).2.1).toNat) 0)), (30, .bool (decide (((i : Nat) : Int) < (mm : Int)))), (61, .bool (isB (cl n) ((ds i).2.1))), (89, .bool ((aw34.getD (((ds i).2.1).toNat) 0) != (aw34.getD (((ds i).2.1).toNat) 0)))]) 31 (.int .i64 ((i : Nat) : Int))) 32 (.int .i64 z)) (by omega)]
                        refine seg1 (ρ' := upd (upd (upd (updL ρ [(0, .int .i64 n), (1, .slice L mm cl_), (4, .bool false), (5, .pointer (some ⟨p8, 0, none⟩)), (6, .pointer (some ⟨w9.heap.size, 0, none⟩)), (7, .int .i64 ((i : Nat) : Int)), (8, .pointer (some ⟨w26.heap.size, 0, none⟩)), (9, .bool true), (10, .int .i64 ((ds i).2.1)), (11, .bool (wt35.getD (((ds i).2.1).toNat) false)), (12, .int .i64 (aw34.getD (((ds i).2.1).toNat) 0)), (30, .bool (decide (((i : Nat) : Int) < (mm : Int)))), (61, .bool (isB (cl n) ((ds i).2.1))), (89, .bool ((aw34.getD (((ds i).2.1).toNat) 0) != (aw34.getD (((ds i).2.1).toNat) 0)))]) 31 (.int .i64 ((i : Nat) : Int))) 32 (.int .i64 ((i + 1 : Nat) : Int))) 7 (.int .i64 ((i + 1 : Nat) : Int))) (by kernel_rfl) ?_
                        refine op_nil ?_
                        refine ⟨_, ?_, F27, hp28, aw34, A30, B31, ca32, cb33, wt35, i + 1, _, updL_self (by kernel_rfl), hac, hRel, ?_, hFb, nF_hBx, hT0, hO, hA, hB, hBx, hLc, rfl⟩
                        · omega
                        · omega
                  · replace hb78 : (hp28.length : Int) ≠ (hp28.length : Int) := (bne_iff_ne.1 hb78)
                    exact absurd rfl hb78
                · replace hc70 : (ds i).2.1 < 0 ∨ ((cl n) : Int) ≤ (ds i).2.1 := (isB_f hc70)
                  exfalso; omega
            · have hlt_ := hO.F_lt
              have z89 := hT0.size
              have l90 := hBx.lt
              refine (S_new (v := .pointer (some ⟨w23.heap.size, 0, none⟩)) (ob := .cells #[.slice none 0 0, .slice none 0 0] 35) (by kernel_rfl) fun w85 hT86 hs87 hB88 => ?_)
              replace hB88 : Blk w85 (w23.heap.size) 35 [.slice none 0 0, .slice none 0 0] := hB88
              have hT0 := hT0.t0 hT86
              have hO := hO.tch0 hT86
              have hA := hA.tch0 hT86
              have hB := hB.tch0 hT86
              have hBx := hBx.tch0 hT86
              have hLc := hL.tch0 hT0
              have nF_hB88 : ¬ F (w23.heap.size) := fun e => by have := hlt_ _ e; omega
              refine ⟨⟨hBx, hLc⟩, ?_⟩
              have lt_hBx := hBx.lt
              have lt_hB88 := hB88.lt
              have hz_ := hT0.size
              refine d_one 6 (by kernel_rfl) (by rfl) (by kernel_rfl) (S_call (args := [.pointer (some ⟨p8, 0, none⟩), .agg #[.slice A (cl n) ca, .slice B (cl n) cb], .agg #[.int .i64 ((ds i).1), .int .i64 ((ds i).2.1), .int .i64 ((ds i).2.2)]]) (by kernel_rfl) (do_ok F p8 (cl n) hp ac A B ca cb ac wt ((ds i).1) ((ds i).2.1) ((ds i).2.2) _ hO hA hB hac) ?_)
              rintro _ w91 ⟨F92, hp93, ac94, A95, B96, ca97, cb98, aw99, wt100, r101, rfl, hO, hA, hB, hac, hmv102, hrel⟩
              have hT0 := (hT0).then hmv102.1 hFb
              have hBx := hBx.tch hmv102.1 nF_hBx
              have hLc := hL.tch0 hT0
              have hB88 := hB88.tch hmv102.1 nF_hB88
              replace nF_hBx : ¬ F92 (w9.heap.size) := fun e => (hmv102.2 _ e).elim nF_hBx (fun q => by omega)
              replace nF_hB88 : ¬ F92 (w23.heap.size) := fun e => (hmv102.2 _ e).elim nF_hB88 (fun q => by omega)
              replace hFb := hmv102.ge hFb hz_
              obtain ⟨hr1, hr2, hRel⟩ := hrel rfl hRel
              subst hr1 hr2
              have hwl := hRel.1
              have hal := hO.acLen
              refine ⟨⟨hBx, hLc⟩, ?_⟩
              refine d_takes [7, 8, 9] (listed' := #[true, true, true, true, true, true, true, true, true, true, true, false, false]) (ρ' := upd (upd (upd (upd (upd (upd (upd (upd (upd (upd (upd (upd (upd (upd (upd (updL ρ [(0, .int .i64 n), (1, .slice L mm cl_), (4, .bool false), (5, .pointer (some ⟨p8, 0, none⟩)), (6, .pointer (some ⟨w9.heap.size, 0, none⟩)), (7, .int .i64 ((i : Nat) : Int))]) 27 (.int .i64 ((i : Nat) : Int))) 28 (.slice L mm cl_)) 29 (.int .i64 (mm : Int))) 30 (.bool (decide (((i : Nat) : Int) < (mm : Int))))) 34 (.pointer (some ⟨p8, 0, none⟩))) 36 (.slice L mm cl_)) 37 (.int .i64 ((i : Nat) : Int))) 35 (.agg #[.slice A (cl n) ca, .slice B (cl n) cb])) 38 (ptrAt L (i * 3))) 39 (.agg #[.int .i64 ((ds i).1), .int .i64 ((ds i).2.1), .int .i64 ((ds i).2.2)])) 8 (.pointer (some ⟨w23.heap.size, 0, none⟩))) 40 (.tuple #[.agg #[.slice A95 (cl n) ca97, .slice B96 (cl n) cb98], .bool true])) 33 (.tuple #[.agg #[.slice A95 (cl n) ca97, .slice B96 (cl n) cb98], .bool true])) 41 (.agg #[.slice A95 (cl n) ca97, .slice B96 (cl n) cb98])) 42 (.bool true)) ⟨hBx, hLc⟩ (by kernel_rfl) ?_
              refine d_one 11 (by kernel_rfl) (by rfl) (by kernel_rfl) (S_storeA (b := w23.heap.size) (j := 0) (cs := [.slice A95 (cl n) ca97, .slice B96 (cl n) cb98]) (by kernel_rfl) (by kernel_rfl) (by kernel_rfl) (by simp [oneV]) hB88 (by simp) fun w103 hT104 hs105 hB88' => ?_)
              have hT0 := (hT0).then hT104 (fun c e => by have : c = w23.heap.size := e; omega)
              have hO := hO.tchS hT104 (fun c e q => by cases e; exact nF_hB88 q)
              have hBx := hBx.tch hT104 (fun e => by have : w9.heap.size = w23.heap.size := e; omega)
              have hLc := hL.tch0 hT0
              have hA := hA.tch1 hB88 (by decide) hT104
              have hB := hB.tch1 hB88 (by decide) hT104
              replace hB88 : Blk w103 w23.heap.size 35 [.slice A95 (cl n) ca97, .slice B96 (cl n) cb98] := hB88'
              refine ⟨⟨hBx, hLc⟩, ?_⟩
              refine d_takes [12] (listed' := #[true, true, true, true, true, true, true, true, true, true, true, true, true]) (ρ' := upd (upd (upd (upd (upd (upd (upd (upd (upd (upd (upd (upd (upd (upd (upd (upd (updL ρ [(0, .int .i64 n), (1, .slice L mm cl_), (4, .bool false), (5, .pointer (some ⟨p8, 0, none⟩)), (6, .pointer (some ⟨w9.heap.size, 0, none⟩)), (7, .int .i64 ((i : Nat) : Int))]) 27 (.int .i64 ((i : Nat) : Int))) 28 (.slice L mm cl_)) 29 (.int .i64 (mm : Int))) 30 (.bool (decide (((i : Nat) : Int) < (mm : Int))))) 34 (.pointer (some ⟨p8, 0, none⟩))) 36 (.slice L mm cl_)) 37 (.int .i64 ((i : Nat) : Int))) 35 (.agg #[.slice A (cl n) ca, .slice B (cl n) cb])) 38 (ptrAt L (i * 3))) 39 (.agg #[.int .i64 ((ds i).1), .int .i64 ((ds i).2.1), .int .i64 ((ds i).2.2)])) 8 (.pointer (some ⟨w23.heap.size, 0, none⟩))) 40 (.tuple #[.agg #[.slice A95 (cl n) ca97, .slice B96 (cl n) cb98], .bool true])) 33 (.tuple #[.agg #[.slice A95 (cl n) ca97, .slice B96 (cl n) cb98], .bool true])) 41 (.agg #[.slice A95 (cl n) ca97, .slice B96 (cl n) cb98])) 42 (.bool true)) 9 (.bool true)) ⟨hBx, hLc⟩ (by kernel_rfl) ?_
              refine d_done (by kernel_rfl) ?_
              refine W_seq ?_
              refine W_fg [(0, .int .i64 n), (1, .slice L mm cl_), (4, .bool false), (5, .pointer (some ⟨p8, 0, none⟩)), (6, .pointer (some ⟨w9.heap.size, 0, none⟩)), (7, .int .i64 ((i : Nat) : Int)), (8, .pointer (some ⟨w23.heap.size, 0, none⟩)), (9, .bool true), (30, .bool (decide (((i : Nat) : Int) < (mm : Int))))] (by kernel_rfl) fun ρ => ?_
              refine W_region (by kernel_rfl) ?_
              refine st (by rfl) (S_val (v := .agg #[.slice A95 (cl n) ca97, .slice B96 (cl n) cb98]) (R_loadA [.slice A95 (cl n) ca97, .slice B96 (cl n) cb98] (by kernel_rfl) (by kernel_rfl) (by kernel_rfl) (fun k u hk => by rw [hB88.cell]; exact get_part _ 0 _ k u rfl hk)) ?_)
              refine st (by rfl) (S_storeA (b := w9.heap.size) (j := 0) (cs := [.slice A95 (cl n) ca97, .slice B96 (cl n) cb98]) (by kernel_rfl) (by kernel_rfl) (by kernel_rfl) (by simp [oneV]) hBx (by simp) fun w106 hT107 hs108 hBx' => ?_)
              have hT0 := (hT0).then hT107 (fun c e => by have : c = w9.heap.size := e; omega)
              have hO := hO.tchS hT107 (fun c e q => by cases e; exact nF_hBx q)
              have hLc := hL.tch0 hT0
              have hB88 := hB88.tch hT107 (fun e => by have : w23.heap.size = w9.heap.size := e; omega)
              have hA := hA.tch1 hBx (by decide) hT107
              have hB := hB.tch1 hBx (by decide) hT107
              replace hBx : Blk w106 w9.heap.size 35 [.slice A95 (cl n) ca97, .slice B96 (cl n) cb98] := hBx'
              refine op_nil ?_
              refine W_seq ?_
              refine W_region (by kernel_rfl) ?_
              refine seg2 (ρ' := upd (upd (upd (updL ρ [(0, .int .i64 n), (1, .slice L mm cl_), (4, .bool false), (5, .pointer (some ⟨p8, 0, none⟩)), (6, .pointer (some ⟨w9.heap.size, 0, none⟩)), (7, .int .i64 ((i : Nat) : Int)), (8, .pointer (some ⟨w23.heap.size, 0, none⟩)), (9, .bool true), (30, .bool (decide (((i : Nat) : Int) < (mm : Int))))]) 43 (.agg #[.slice A95 (cl n) ca97, .slice B96 (cl n) cb98])) 44 (.slice L mm cl_)) 45 (.int .i64 ((i : Nat) : Int))) (by kernel_rfl) ?_
              refine stv (v := ptrAt L (i * 3)) (by rfl) (R_indexRd (sz := 3) (len := mm) (cap := cl_) (k := .i64) (i := ((i : Nat) : Int)) (e := 40) i hLc (by kernel_rfl) (by kernel_rfl) (by kernel_rfl) (by kernel_rfl) rfl (by omega)) ?_
              refine stv (v := ptrAt L (i * 3 + 1)) (by rfl) (R_fieldRd (m := 1) hLc (by omega) (by kernel_rfl) (fun _ _ => by rfl)) ?_
              refine stv (v := .int .i64 ((ds i).2.1)) (by rfl) (R_loadRd (v := .int .i64 ((ds i).2.1)) hLc (by omega) (by kernel_rfl) (by kernel_rfl) ((hD i (by omega)).2.1)) ?_
              refine seg1 (ρ' := upd (upd (upd (upd (upd (upd (upd (updL ρ [(0, .int .i64 n), (1, .slice L mm cl_), (4, .bool false), (5, .pointer (some ⟨p8, 0, none⟩)), (6, .pointer (some ⟨w9.heap.size, 0, none⟩)), (7, .int .i64 ((i : Nat) : Int)), (8, .pointer (some ⟨w23.heap.size, 0, none⟩)), (9, .bool true), (30, .bool (decide (((i : Nat) : Int) < (mm : Int))))]) 43 (.agg #[.slice A95 (cl n) ca97, .slice B96 (cl n) cb98])) 44 (.slice L mm cl_)) 45 (.int .i64 ((i : Nat) : Int))) 46 (ptrAt L (i * 3))) 47 (ptrAt L (i * 3 + 1))) 48 (.int .i64 ((ds i).2.1))) 10 (.int .i64 ((ds i).2.1))) (by kernel_rfl) ?_
              refine op_nil ?_
              refine W_seq ?_
              refine W_region (by kernel_rfl) ?_
              refine st (by rfl) (S_val (v := .agg #[.slice A95 (cl n) ca97, .slice B96 (cl n) cb98]) (R_loadA [.slice A95 (cl n) ca97, .slice B96 (cl n) cb98] (by kernel_rfl) (by kernel_rfl) (by kernel_rfl) (fun k u hk => by rw [hBx.cell]; exact get_part _ 0 _ k u rfl hk)) ?_)
              refine seg1 (ρ' := upd (upd (upd (upd (upd (upd (upd (upd (upd (updL ρ [(0, .int .i64 n), (1, .slice L mm cl_), (4, .bool false), (5, .pointer (some ⟨p8, 0, none⟩)), (6, .pointer (some ⟨w9.heap.size, 0, none⟩)), (7, .int .i64 ((i : Nat) : Int)), (8, .pointer (some ⟨w23.heap.size, 0, none⟩)), (9, .bool true), (30, .bool (decide (((i : Nat) : Int) < (mm : Int))))]) 43 (.agg #[.slice A95 (cl n) ca97, .slice B96 (cl n) cb98])) 44 (.slice L mm cl_)) 45 (.int .i64 ((i : Nat) : Int))) 46 (ptrAt L (i * 3))) 47 (ptrAt L (i * 3 + 1))) 48 (.int .i64 ((ds i).2.1))) 10 (.int .i64 ((ds i).2.1))) 49 (.agg #[.slice A95 (cl n) ca97, .slice B96 (cl n) cb98])) 50 (.int .i64 ((ds i).2.1))) (by kernel_rfl) ?_
              refine st (by rfl) (S_call (args := [.agg #[.slice A95 (cl n) ca97, .slice B96 (cl n) cb98], .int .i64 ((ds i).2.1)]) (by kernel_rfl) (ris_ok (cl n) A95 ca97 (.slice B96 (cl n) cb98) ((ds i).2.1) _) ?_)
              rintro _ w109 ⟨rfl, hT110⟩
              have hT0 := hT0.t0 hT110
              have hO := hO.tch0 hT110
              have hBx := hBx.tch0 hT110
              have hLc := hL.tch0 hT0
              have hB88 := hB88.tch0 hT110
              have hA := hA.tch0 hT110
              have hB := hB.tch0 hT110
              refine seg1 (ρ' := upd (upd (upd (upd (upd (upd (upd (upd (upd (upd (upd (updL ρ [(0, .int .i64 n), (1, .slice L mm cl_), (4, .bool false), (5, .pointer (some ⟨p8, 0, none⟩)), (6, .pointer (some ⟨w9.heap.size, 0, none⟩)), (7, .int .i64 ((i : Nat) : Int)), (8, .pointer (some ⟨w23.heap.size, 0, none⟩)), (9, .bool true), (30, .bool (decide (((i : Nat) : Int) < (mm : Int))))]) 43 (.agg #[.slice A95 (cl n) ca97, .slice B96 (cl n) cb98])) 44 (.slice L mm cl_)) 45 (.int .i64 ((i : Nat) : Int))) 46 (ptrAt L (i * 3))) 47 (ptrAt L (i * 3 + 1))) 48 (.int .i64 ((ds i).2.1))) 10 (.int .i64 ((ds i).2.1))) 49 (.agg #[.slice A95 (cl n) ca97, .slice B96 (cl n) cb98])) 50 (.int .i64 ((ds i).2.1))) 51 (.bool (isB (cl n) ((ds i).2.1)))) 52 (.bool (isB (cl n) ((ds i).2.1)))) (by kernel_rfl) ?_
              cases hb111 : isB (cl n) ((ds i).2.1)
              · replace hb111 : (ds i).2.1 < 0 ∨ ((cl n) : Int) ≤ (ds i).2.1 := (isB_f hb111)
                refine seg7 (ρ' := upd (upd (upd (upd (upd (upd (upd (upd (upd (upd (upd (upd (upd (upd (upd (upd (upd (upd (updL ρ [(0, .int .i64 n), (1, .slice L mm cl_), (4, .bool false), (5, .pointer (some ⟨p8, 0, none⟩)), (6, .pointer (some ⟨w9.heap.size, 0, none⟩)), (7, .int .i64 ((i : Nat) : Int)), (8, .pointer (some ⟨w23.heap.size, 0, none⟩)), (9, .bool true), (30, .bool (decide (((i : Nat) : Int) < (mm : Int))))]) 43 (.agg #[.slice A95 (cl n) ca97, .slice B96 (cl n) cb98])) 44 (.slice L mm cl_)) 45 (.int .i64 ((i : Nat) : Int))) 46 (ptrAt L (i * 3))) 47 (ptrAt L (i * 3 + 1))) 48 (.int .i64 ((ds i).2.1))) 10 (.int .i64 ((ds i).2.1))) 49 (.agg #[.slice A95 (cl n) ca97, .slice B96 (cl n) cb98])) 50 (.int .i64 ((ds i).2.1))) 51 (.bool false)) 52 (.bool false)) 53 (undef)) 54 (undef)) 55 (undef)) 56 (undef)) 57 (undef)) 58 (.bool false)) 11 (.bool false)) (by kernel_rfl) ?_
                refine op_nil ?_
                refine W_seq ?_
                refine W_fg [(0, .int .i64 n), (1, .slice L mm cl_), (4, .bool false), (5, .pointer (some ⟨p8, 0, none⟩)), (6, .pointer (some ⟨w9.heap.size, 0, none⟩)), (7, .int .i64 ((i : Nat) : Int)), (8, .pointer (some ⟨w23.heap.size, 0, none⟩)), (9, .bool true), (10, .int .i64 ((ds i).2.1)), (11, .bool false), (30, .bool (decide (((i : Nat) : Int) < (mm : Int))))] (by kernel_rfl) fun ρ => ?_
                refine W_region (by kernel_rfl) ?_
                refine seg1 (ρ' := upd (updL ρ [(0, .int .i64 n), (1, .slice L mm cl_), (4, .bool false), (5, .pointer (some ⟨p8, 0, none⟩)), (6, .pointer (some ⟨w9.heap.size, 0, none⟩)), (7, .int .i64 ((i : Nat) : Int)), (8, .pointer (some ⟨w23.heap.size, 0, none⟩)), (9, .bool true), (10, .int .i64 ((ds i).2.1)), (11, .bool false), (30, .bool (decide (((i : Nat) : Int) < (mm : Int))))]) 12 (.int .i64 0)) (by kernel_rfl) ?_
                refine op_nil ?_
                refine W_seq ?_
                refine W_seq ?_
                refine W_region (by kernel_rfl) ?_
                refine st (by rfl) (S_val (v := .agg #[.slice A95 (cl n) ca97, .slice B96 (cl n) cb98]) (R_loadA [.slice A95 (cl n) ca97, .slice B96 (cl n) cb98] (by kernel_rfl) (by kernel_rfl) (by kernel_rfl) (fun k u hk => by rw [hBx.cell]; exact get_part _ 0 _ k u rfl hk)) ?_)
                refine seg1 (ρ' := upd (upd (upd (updL ρ [(0, .int .i64 n), (1, .slice L mm cl_), (4, .bool false), (5, .pointer (some ⟨p8, 0, none⟩)), (6, .pointer (some ⟨w9.heap.size, 0, none⟩)), (7, .int .i64 ((i : Nat) : Int)), (8, .pointer (some ⟨w23.heap.size, 0, none⟩)), (9, .bool true), (10, .int .i64 ((ds i).2.1)), (11, .bool false), (30, .bool (decide (((i : Nat) : Int) < (mm : Int))))]) 12 (.int .i64 0)) 59 (.agg #[.slice A95 (cl n) ca97, .slice B96 (cl n) cb98])) 60 (.int .i64 ((ds i).2.1))) (by kernel_rfl) ?_
                refine st (by rfl) (S_call (args := [.agg #[.slice A95 (cl n) ca97, .slice B96 (cl n) cb98], .int .i64 ((ds i).2.1)]) (by kernel_rfl) (ris_ok (cl n) A95 ca97 (.slice B96 (cl n) cb98) ((ds i).2.1) _) ?_)
                rintro _ w112 ⟨rfl, hT113⟩
                have hT0 := hT0.t0 hT113
                have hO := hO.tch0 hT113
                have hBx := hBx.tch0 hT113
                have hLc := hL.tch0 hT0
                have hB88 := hB88.tch0 hT113
                have hA := hA.tch0 hT113
                have hB := hB.tch0 hT113
                refine op_nil ?_
                refine W_cond (isB (cl n) ((ds i).2.1)) (by kernel_rfl) (by kernel_rfl) (fun hc114 => ?_) (fun hc114 => ?_)
                · replace hc114 : 0 ≤ (ds i).2.1 ∧ (ds i).2.1 < ((cl n) : Int) := (isB_t hc114)
                  exfalso; omega
                · replace hc114 : (ds i).2.1 < 0 ∨ ((cl n) : Int) ≤ (ds i).2.1 := (isB_f hc114)
                  refine W_skip ?_
                  refine W_seq ?_
                  refine W_draw (fun w' => Blk w' (w9.heap.size) 35 [.slice A95 (cl n) ca97, .slice B96 (cl n) cb98]) (by kernel_rfl) (by kernel_rfl) (by kernel_rfl) fun w115 hT116 hh117 => ?_
                  have hT0 := hT0.t0 hT116
                  have hO := hO.tch0 hT116
                  have hBx := hBx.tch0 hT116
                  have hLc := hL.tch0 hT0
                  have hB88 := hB88.tch0 hT116
                  have hA := hA.tch0 hT116
                  have hB := hB.tch0 hT116
                  refine d_takes [0, 1, 2, 3] (listed' := #[true, true, true, true, false, false, false, false, false, false, false, false, false, false, false, false, false, false, false, false, false, false, false]) (ρ' := upd (upd (upd (upd (upd (upd (upd (upd (updL ρ [(0, .int .i64 n), (1, .slice L mm cl_), (4, .bool false), (5, .pointer (some ⟨p8, 0, none⟩)), (6, .pointer (some ⟨w9.heap.size, 0, none⟩)), (7, .int .i64 ((i : Nat) : Int)), (8, .pointer (some ⟨w23.heap.size, 0, none⟩)), (9, .bool true), (10, .int .i64 ((ds i).2.1)), (11, .bool false), (30, .bool (decide (((i : Nat) : Int) < (mm : Int))))]) 12 (.int .i64 0)) 59 (.agg #[.slice A95 (cl n) ca97, .slice B96 (cl n) cb98])) 60 (.int .i64 ((ds i).2.1))) 61 (.bool (isB (cl n) ((ds i).2.1)))) 67 (.bool true)) 68 (.bool false)) 69 (.bool false)) 70 (.pointer (some ⟨p8, 0, none⟩))) hBx (by kernel_rfl) ?_
                  refine d_val (v := .agg #[.slice A95 (cl n) ca97, .slice B96 (cl n) cb98]) 5 (by rfl) (by kernel_rfl) (by kernel_rfl) (by kernel_rfl) (fun w' hs => by have hBx := hs; exact R_loadA [.slice A95 (cl n) ca97, .slice B96 (cl n) cb98] (by kernel_rfl) (by kernel_rfl) (by kernel_rfl) (fun k u hk => by rw [hBx.cell]; exact get_part _ 0 _ k u rfl hk)) hBx ?_
                  refine d_one 4 (by kernel_rfl) (by rfl) (by kernel_rfl) (S_call (args := [.pointer (some ⟨p8, 0, none⟩)]) (by kernel_rfl) (len_ok F92 p8 (cl n) hp93 aw99 _ hO) ?_)
                  rintro _ w118 ⟨rfl, hT119⟩
                  have hT0 := hT0.t0 hT119
                  have hO := hO.tch0 hT119
                  have hBx := hBx.tch0 hT119
                  have hLc := hL.tch0 hT0
                  have hB88 := hB88.tch0 hT119
                  have hA := hA.tch0 hT119
                  have hB := hB.tch0 hT119
                  refine ⟨hBx, ?_⟩
                  refine d_one 6 (by kernel_rfl) (by rfl) (by kernel_rfl) (S_call (args := [.agg #[.slice A95 (cl n) ca97, .slice B96 (cl n) cb98]]) (by kernel_rfl) (rlen_lit (cl n) A95 B96 ca97 cb98 aw99 wt100 hp93 _ hA.1 hB.1 (cl_le n) hRel hO.nodup hO.lt_) ?_)
                  rintro _ w120 ⟨rfl, hT121⟩
                  have hT0 := hT0.t0 hT121
                  have hO := hO.tch0 hT121
                  have hBx := hBx.tch0 hT121
                  have hLc := hL.tch0 hT0
                  have hB88 := hB88.tch0 hT121
                  have hA := hA.tch0 hT121
                  have hB := hB.tch0 hT121
                  refine ⟨hBx, ?_⟩
                  refine d_takes [7, 8, 9] (listed' := #[true, true, true, true, true, true, true, true, true, true, false, false, false, false, false, false, false, false, false, false, false, false, false]) (ρ' := upd (upd (upd (upd (upd (upd (upd (upd (upd (upd (upd (upd (upd (upd (updL ρ [(0, .int .i64 n), (1, .slice L mm cl_), (4, .bool false), (5, .pointer (some ⟨p8, 0, none⟩)), (6, .pointer (some ⟨w9.heap.size, 0, none⟩)), (7, .int .i64 ((i : Nat) : Int)), (8, .pointer (some ⟨w23.heap.size, 0, none⟩)), (9, .bool true), (10, .int .i64 ((ds i).2.1)), (11, .bool false), (30, .bool (decide (((i : Nat) : Int) < (mm : Int))))]) 12 (.int .i64 0)) 59 (.agg #[.slice A95 (cl n) ca97, .slice B96 (cl n) cb98])) 60 (.int .i64 ((ds i).2.1))) 61 (.bool (isB (cl n) ((ds i).2.1)))) 67 (.bool true)) 68 (.bool false)) 69 (.bool false)) 70 (.pointer (some ⟨p8, 0, none⟩))) 72 (.agg #[.slice A95 (cl n) ca97, .slice B96 (cl n) cb98])) 71 (.int .i64 (hp93.length : Int))) 73 (.int .i64 (hp93.length : Int))) 74 (.bool ((hp93.length : Int) != (hp93.length : Int)))) 75 (.bool ((hp93.length : Int) != (hp93.length : Int)))) 76 (.bool ((hp93.length : Int) != (hp93.length : Int)))) hBx (by kernel_rfl) ?_
                  cases hb122 : (hp93.length : Int) != (hp93.length : Int)
                  · replace hb122 : (hp93.length : Int) = (hp93.length : Int) := (bne_eq_false_iff_eq.1 hb122)
                    refine d_takes [10, 11, 13] (listed' := #[true, true, true, true, true, true, true, true, true, true, true, true, false, true, false, false, false, false, false, false, false, false, false]) (ρ' := upd (upd (upd (upd (upd (upd (upd (upd (upd (upd (upd (upd (upd (upd (upd (upd (upd (updL ρ [(0, .int .i64 n), (1, .slice L mm cl_), (4, .bool false), (5, .pointer (some ⟨p8, 0, none⟩)), (6, .pointer (some ⟨w9.heap.size, 0, none⟩)), (7, .int .i64 ((i : Nat) : Int)), (8, .pointer (some ⟨w23.heap.size, 0, none⟩)), (9, .bool true), (10, .int .i64 ((ds i).2.1)), (11, .bool false), (30, .bool (decide (((i : Nat) : Int) < (mm : Int))))]) 12 (.int .i64 0)) 59 (.agg #[.slice A95 (cl n) ca97, .slice B96 (cl n) cb98])) 60 (.int .i64 ((ds i).2.1))) 61 (.bool (isB (cl n) ((ds i).2.1)))) 67 (.bool true)) 68 (.bool false)) 69 (.bool false)) 70 (.pointer (some ⟨p8, 0, none⟩))) 72 (.agg #[.slice A95 (cl n) ca97, .slice B96 (cl n) cb98])) 71 (.int .i64 (hp93.length : Int))) 73 (.int .i64 (hp93.length : Int))) 74 (.bool false)) 75 (.bool false)) 76 (.bool false)) 77 (.pointer (some ⟨p8, 0, none⟩))) 78 (.int .i64 ((ds i).2.1))) 80 (.bool false)) hBx (by kernel_rfl) ?_
                    refine d_one 12 (by kernel_rfl) (by rfl) (by kernel_rfl) (S_call (args := [.pointer (some ⟨p8, 0, none⟩), .int .i64 ((ds i).2.1)]) (by kernel_rfl) (has_lit F92 p8 (cl n) hp93 aw99 ((ds i).2.1) false _ hO (has_f hO.lt_ (by omega))) ?_)
                    rintro _ w123 ⟨rfl, hT124⟩
                    have hT0 := hT0.t0 hT124
                    have hO := hO.tch0 hT124
                    have hBx := hBx.tch0 hT124
                    have hLc := hL.tch0 hT0
                    have hB88 := hB88.tch0 hT124
                    have hA := hA.tch0 hT124
                    have hB := hB.tch0 hT124
                    refine ⟨hBx, ?_⟩
                    refine d_takes [14, 15, 16, 17, 18, 20] (listed' := #[true, true, true, true, true, true, true, true, true, true, true, true, true, true, true, true, true, true, true, false, true, false, false]) (ρ' := upd (upd (upd (upd (upd (upd (upd (upd (upd (upd (upd (upd (upd (upd (upd (upd (upd (upd (upd (upd (upd (upd (upd (upd (updL ρ [(0, .int .i64 n), (1, .slice L mm cl_), (4, .bool false), (5, .pointer (some ⟨p8, 0, none⟩)), (6, .pointer (some ⟨w9.heap.size, 0, none⟩)), (7, .int .i64 ((i : Nat) : Int)), (8, .pointer (some ⟨w23.heap.size, 0, none⟩)), (9, .bool true), (10, .int .i64 ((ds i).2.1)), (11, .bool false), (30, .bool (decide (((i : Nat) : Int) < (mm : Int))))]) 12 (.int .i64 0)) 59 (.agg #[.slice A95 (cl n) ca97, .slice B96 (cl n) cb98])) 60 (.int .i64 ((ds i).2.1))) 61 (.bool (isB (cl n) ((ds i).2.1)))) 67 (.bool true)) 68 (.bool false)) 69 (.bool false)) 70 (.pointer (some ⟨p8, 0, none⟩))) 72 (.agg #[.slice A95 (cl n) ca97, .slice B96 (cl n) cb98])) 71 (.int .i64 (hp93.length : Int))) 73 (.int .i64 (hp93.length : Int))) 74 (.bool false)) 75 (.bool false)) 76 (.bool false)) 77 (.pointer (some ⟨p8, 0, none⟩))) 78 (.int .i64 ((ds i).2.1))) 80 (.bool false)) 79 (.bool false)) 81 (.bool false)) 82 (.bool false)) 83 (.bool false)) 84 (.pointer (some ⟨p8, 0, none⟩))) 85 (.int .i64 ((ds i).2.1))) 87 (.int .i64 0)) hBx (by kernel_rfl) ?_
                    refine d_one 19 (by kernel_rfl) (by rfl) (by kernel_rfl) (S_call (args := [.pointer (some ⟨p8, 0, none⟩), .int .i64 ((ds i).2.1)]) (by kernel_rfl) (act_lit F92 p8 (cl n) hp93 aw99 ((ds i).2.1) 0 _ hO (act_f hO.acLen (by omega))) ?_)
                    rintro _ w125 ⟨rfl, hT126⟩
                    have hT0 := hT0.t0 hT126
                    have hO := hO.tch0 hT126
                    have hBx := hBx.tch0 hT126
                    have hLc := hL.tch0 hT0
                    have hB88 := hB88.tch0 hT126
                    have hA := hA.tch0 hT126
                    have hB := hB.tch0 hT126
                    refine ⟨hBx, ?_⟩
                    refine d_takes [21, 22] (listed' := #[true, true, true, true, true, true, true, true, true, true, true, true, true, true, true, true, true, true, true, true, true, true, true]) (ρ' := upd (upd (upd (upd (upd (upd (upd (upd (upd (upd (upd (upd (upd (upd (upd (upd (upd (upd (upd (upd (upd (upd (upd (upd (upd (upd (upd (updL ρ [(0, .int .i64 n), (1, .slice L mm cl_), (4, .bool false), (5, .pointer (some ⟨p8, 0, none⟩)), (6, .pointer (some ⟨w9.heap.size, 0, none⟩)), (7, .int .i64 ((i : Nat) : Int)), (8, .pointer (some ⟨w23.heap.size, 0, none⟩)), (9, .bool true), (10, .int .i64 ((ds i).2.1)), (11, .bool false), (30, .bool (decide (((i : Nat) : Int) < (mm : Int))))]) 12 (.int .i64 0)) 59 (.agg #[.slice A95 (cl n) ca97, .slice B96 (cl n) cb98])) 60 (.int .i64 ((ds i).2.1))) 61 (.bool (isB (cl n) ((ds i).2.1)))) 67 (.bool true)) 68 (.bool false)) 69 (.bool false)) 70 (.pointer (some ⟨p8, 0, none⟩))) 72 (.agg #[.slice A95 (cl n) ca97, .slice B96 (cl n) cb98])) 71 (.int .i64 (hp93.length : Int))) 73 (.int .i64 (hp93.length : Int))) 74 (.bool false)) 75 (.bool false)) 76 (.bool false)) 77 (.pointer (some ⟨p8, 0, none⟩))) 78 (.int .i64 ((ds i).2.1))) 80 (.bool false)) 79 (.bool false)) 81 (.bool false)) 82 (.bool false)) 83 (.bool false)) 84 (.pointer (some ⟨p8, 0, none⟩))) 85 (.int .i64 ((ds i).2.1))) 87 (.int .i64 0)) 86 (.int .i64 0)) 88 (.bool false)) 89 (.bool false)) hBx (by kernel_rfl) ?_
                    refine d_done (by kernel_rfl) ?_
                    refine W_cond false (by kernel_rfl) (by kernel_rfl) (fun h => nomatch h) (fun _ => ?_)
                    refine W_skip ?_
                    refine W_fg [(0, .int .i64 n), (1, .slice L mm cl_), (4, .bool false), (5, .pointer (some ⟨p8, 0, none⟩)), (6, .pointer (some ⟨w9.heap.size, 0, none⟩)), (7, .int .i64 ((i : Nat) : Int)), (8, .pointer (some ⟨w23.heap.size, 0, none⟩)), (9, .bool true), (10, .int .i64 ((ds i).2.1)), (11, .bool false), (12, .int .i64 0), (30, .bool (decide (((i : Nat) : Int) < (mm : Int)))), (61, .bool (isB (cl n) ((ds i).2.1))), (89, .bool false)] (by kernel_rfl) fun ρ => ?_
                    refine W_region (by kernel_rfl) ?_
                    refine seg2 (ρ' := upd (upd (updL ρ [(0, .int .i64 n), (1, .slice L mm cl_), (4, .bool false), (5, .pointer (some ⟨p8, 0, none⟩)), (6, .pointer (some ⟨w9.heap.size, 0, none⟩)), (7, .int .i64 ((i : Nat) : Int)), (8, .pointer (some ⟨w23.heap.size, 0, none⟩)), (9, .bool true), (10, .int .i64 ((ds i).2.1)), (11, .bool false), (12, .int .i64 0), (30, .bool (decide (((i : Nat) : Int) < (mm : Int)))), (61, .bool (isB (cl n) ((ds i).2.1))), (89, .bool false)]) 31 (.int .i64 ((i : Nat) : Int))) 32 (.int .i64 (IntKind.i64.wrap (((i : Nat) : Int) + 1)))) (by kernel_rfl) ?_
                    rw [show IntKind.i64.wrap (((i : Nat) : Int) + 1) = ((i : Nat) : Int) + 1 from wrap_i64 (by omega) (by omega)]
                    rw [show upd (upd (updL ρ [(0, .int .i64 n), (1, .slice L mm cl_), (4, .bool false), (5, .pointer (some ⟨p8, 0, none⟩)), (6, .pointer (some ⟨w9.heap.size, 0, none⟩)), (7, .int .i64 ((i : Nat) : Int)), (8, .pointer (some ⟨w23.heap.size, 0, none⟩)), (9, .bool true), (10, .int .i64 ((ds i).2.1)), (11, .bool false), (12, .int .i64 0), (30, .bool (decide (((i : Nat) : Int) < (mm : Int)))), (61, .bool (isB (cl n) ((ds i).2.1))), (89, .bool false)]) 31 (.int .i64 ((i : Nat) : Int))) 32 (.int .i64 (((i : Nat) : Int) + 1)) = upd (upd (updL ρ [(0, .int .i64 n), (1, .slice L mm cl_), (4, .bool false), (5, .pointer (some ⟨p8, 0, none⟩)), (6, .pointer (some ⟨w9.heap.size, 0, none⟩)), (7, .int .i64 ((i : Nat) : Int)), (8, .pointer (some ⟨w23.heap.size, 0, none⟩)), (9, .bool true), (10, .int .i64 ((ds i).2.1)), (11, .bool false), (12, .int .i64 0), (30, .bool (decide (((i : Nat) : Int) < (mm : Int)))), (61, .bool (isB (cl n) ((ds i).2.1))), (89, .bool false)]) 31 (.int .i64 ((i : Nat) : Int))) 32 (.int .i64 ((i + 1 : Nat) : Int)) from congrArg (fun z => upd (upd (updL ρ [(0, .int .i64 n), (1, .slice L mm cl_), (4, .bool false), (5, .pointer (some ⟨p8, 0, none⟩)), (6, .pointer (some ⟨w9.heap.size, 0, none⟩)), (7, .int .i64 ((i : Nat) : Int)), (8, .pointer (some ⟨w23.heap.size, 0, none⟩)), (9, .bool true), (10, .int .i64 ((ds i).2.1)), (11, .bool false), (12, .int .i64 0), (30, .bool (decide (((i : Nat) : Int) < (mm : Int)))), (61, .bool (isB (cl n) ((ds i).2.1))), (89, .bool false)]) 31 (.int .i64 ((i : Nat) : Int))) 32 (.int .i64 z)) (by omega)]
                    refine seg1 (ρ' := upd (upd (upd (updL ρ [(0, .int .i64 n), (1, .slice L mm cl_), (4, .bool false), (5, .pointer (some ⟨p8, 0, none⟩)), (6, .pointer (some ⟨w9.heap.size, 0, none⟩)), (7, .int .i64 ((i : Nat) : Int)), (8, .pointer (some ⟨w23.heap.size, 0, none⟩)), (9, .bool true), (10, .int .i64 ((ds i).2.1)), (11, .bool false), (12, .int .i64 0), (30, .bool (decide (((i : Nat) : Int) < (mm : Int)))), (61, .bool (isB (cl n) ((ds i).2.1))), (89, .bool false)]) 31 (.int .i64 ((i : Nat) : Int))) 32 (.int .i64 ((i + 1 : Nat) : Int))) 7 (.int .i64 ((i + 1 : Nat) : Int))) (by kernel_rfl) ?_
                    refine op_nil ?_
                    refine ⟨_, ?_, F92, hp93, aw99, A95, B96, ca97, cb98, wt100, i + 1, _, updL_self (by kernel_rfl), hac, hRel, ?_, hFb, nF_hBx, hT0, hO, hA, hB, hBx, hLc, rfl⟩
                    · omega
                    · omega
                  · replace hb122 : (hp93.length : Int) ≠ (hp93.length : Int) := (bne_iff_ne.1 hb122)
                    exact absurd rfl hb122
              · replace hb111 : 0 ≤ (ds i).2.1 ∧ (ds i).2.1 < ((cl n) : Int) := (isB_t hb111)
                refine seg1 (ρ' := upd (upd (upd (upd (upd (upd (upd (upd (upd (upd (upd (upd (updL ρ [(0, .int .i64 n), (1, .slice L mm cl_), (4, .bool false), (5, .pointer (some ⟨p8, 0, none⟩)), (6, .pointer (some ⟨w9.heap.size, 0, none⟩)), (7, .int .i64 ((i : Nat) : Int)), (8, .pointer (some ⟨w23.heap.size, 0, none⟩)), (9, .bool true), (30, .bool (decide (((i : Nat) : Int) < (mm : Int))))]) 43 (.agg #[.slice A95 (cl n) ca97, .slice B96 (cl n) cb98])) 44 (.slice L mm cl_)) 45 (.int .i64 ((i : Nat) : Int))) 46 (ptrAt L (i * 3))) 47 (ptrAt L (i * 3 + 1))) 48 (.int .i64 ((ds i).2.1))) 10 (.int .i64 ((ds i).2.1))) 49 (.agg #[.slice A95 (cl n) ca97, .slice B96 (cl n) cb98])) 50 (.int .i64 ((ds i).2.1))) 51 (.bool true)) 52 (.bool true)) 53 (.pointer (some ⟨w9.heap.size, 1, none⟩))) (by kernel_rfl) ?_
                refine st (by kernel_rfl) (S_val (v := .slice B96 (cl n) cb98) (R_load (v := .slice B96 (cl n) cb98) (by kernel_rfl) (by kernel_rfl) ((hBx.cell 1).trans rfl)) ?_)
                refine seg1 (ρ' := upd (upd (upd (upd (upd (upd (upd (upd (upd (upd (upd (upd (upd (upd (updL ρ [(0, .int .i64 n), (1, .slice L mm cl_), (4, .bool false), (5, .pointer (some ⟨p8, 0, none⟩)), (6, .pointer (some ⟨w9.heap.size, 0, none⟩)), (7, .int .i64 ((i : Nat) : Int)), (8, .pointer (some ⟨w23.heap.size, 0, none⟩)), (9, .bool true), (30, .bool (decide (((i : Nat) : Int) < (mm : Int))))]) 43 (.agg #[.slice A95 (cl n) ca97, .slice B96 (cl n) cb98])) 44 (.slice L mm cl_)) 45 (.int .i64 ((i : Nat) : Int))) 46 (ptrAt L (i * 3))) 47 (ptrAt L (i * 3 + 1))) 48 (.int .i64 ((ds i).2.1))) 10 (.int .i64 ((ds i).2.1))) 49 (.agg #[.slice A95 (cl n) ca97, .slice B96 (cl n) cb98])) 50 (.int .i64 ((ds i).2.1))) 51 (.bool true)) 52 (.bool true)) 53 (.pointer (some ⟨w9.heap.size, 1, none⟩))) 54 (.slice B96 (cl n) cb98)) 55 (.int .i64 ((ds i).2.1))) (by kernel_rfl) ?_
                refine stv (v := ptrAt B96 (((ds i).2.1).toNat)) (by kernel_rfl) (R_indexRd1 (len := (cl n)) (cap := cb98) (k := .i64) (i := (ds i).2.1) (e := 4) (((ds i).2.1).toNat) hB.1 (by kernel_rfl) (by kernel_rfl) (by kernel_rfl) (by kernel_rfl) (by omega) (by omega)) ?_
                refine stv (v := .bool (wt100.getD (((ds i).2.1).toNat) false)) (by kernel_rfl) (R_loadRd (v := .bool (wt100.getD (((ds i).2.1).toNat) false)) hB.1 (by omega) (by kernel_rfl) (by kernel_rfl) (boolsV_at wt100 (by omega))) ?_
                refine seg2 (ρ' := upd (upd (upd (upd (upd (upd (upd (upd (upd (upd (upd (upd (upd (upd (upd (upd (upd (upd (updL ρ [(0, .int .i64 n), (1, .slice L mm cl_), (4, .bool false), (5, .pointer (some ⟨p8, 0, none⟩)), (6, .pointer (some ⟨w9.heap.size, 0, none⟩)), (7, .int .i64 ((i : Nat) : Int)), (8, .pointer (some ⟨w23.heap.size, 0, none⟩)), (9, .bool true), (30, .bool (decide (((i : Nat) : Int) < (mm : Int))))]) 43 (.agg #[.slice A95 (cl n) ca97, .slice B96 (cl n) cb98])) 44 (.slice L mm cl_)) 45 (.int .i64 ((i : Nat) : Int))) 46 (ptrAt L (i * 3))) 47 (ptrAt L (i * 3 + 1))) 48 (.int .i64 ((ds i).2.1))) 10 (.int .i64 ((ds i).2.1))) 49 (.agg #[.slice A95 (cl n) ca97, .slice B96 (cl n) cb98])) 50 (.int .i64 ((ds i).2.1))) 51 (.bool true)) 52 (.bool true)) 53 (.pointer (some ⟨w9.heap.size, 1, none⟩))) 54 (.slice B96 (cl n) cb98)) 55 (.int .i64 ((ds i).2.1))) 56 (ptrAt B96 (((ds i).2.1).toNat))) 57 (.bool (wt100.getD (((ds i).2.1).toNat) false))) 58 (.bool (wt100.getD (((ds i).2.1).toNat) false))) 11 (.bool (wt100.getD (((ds i).2.1).toNat) false))) (by kernel_rfl) ?_
                refine op_nil ?_
                refine W_seq ?_
                refine W_fg [(0, .int .i64 n), (1, .slice L mm cl_), (4, .bool false), (5, .pointer (some ⟨p8, 0, none⟩)), (6, .pointer (some ⟨w9.heap.size, 0, none⟩)), (7, .int .i64 ((i : Nat) : Int)), (8, .pointer (some ⟨w23.heap.size, 0, none⟩)), (9, .bool true), (10, .int .i64 ((ds i).2.1)), (11, .bool (wt100.getD (((ds i).2.1).toNat) false)), (30, .bool (decide (((i : Nat) : Int) < (mm : Int))))] (by kernel_rfl) fun ρ => ?_
                refine W_region (by kernel_rfl) ?_
                refine seg1 (ρ' := upd (updL ρ [(0, .int .i64 n), (1, .slice L mm cl_), (4, .bool false), (5, .pointer (some ⟨p8, 0, none⟩)), (6, .pointer (some ⟨w9.heap.size, 0, none⟩)), (7, .int .i64 ((i : Nat) : Int)), (8, .pointer (some ⟨w23.heap.size, 0, none⟩)), (9, .bool true), (10, .int .i64 ((ds i).2.1)), (11, .bool (wt100.getD (((ds i).2.1).toNat) false)), (30, .bool (decide (((i : Nat) : Int) < (mm : Int))))]) 12 (.int .i64 0)) (by kernel_rfl) ?_
                refine op_nil ?_
                refine W_seq ?_
                refine W_seq ?_
                refine W_region (by kernel_rfl) ?_
                refine st (by rfl) (S_val (v := .agg #[.slice A95 (cl n) ca97, .slice B96 (cl n) cb98]) (R_loadA [.slice A95 (cl n) ca97, .slice B96 (cl n) cb98] (by kernel_rfl) (by kernel_rfl) (by kernel_rfl) (fun k u hk => by rw [hBx.cell]; exact get_part _ 0 _ k u rfl hk)) ?_)
                refine seg1 (ρ' := upd (upd (upd (updL ρ [(0, .int .i64 n), (1, .slice L mm cl_), (4, .bool false), (5, .pointer (some ⟨p8, 0, none⟩)), (6, .pointer (some ⟨w9.heap.size, 0, none⟩)), (7, .int .i64 ((i : Nat) : Int)), (8, .pointer (some ⟨w23.heap.size, 0, none⟩)), (9, .bool true), (10, .int .i64 ((ds i).2.1)), (11, .bool (wt100.getD (((ds i).2.1).toNat) false)), (30, .bool (decide (((i : Nat) : Int) < (mm : Int))))]) 12 (.int .i64 0)) 59 (.agg #[.slice A95 (cl n) ca97, .slice B96 (cl n) cb98])) 60 (.int .i64 ((ds i).2.1))) (by kernel_rfl) ?_
                refine st (by rfl) (S_call (args := [.agg #[.slice A95 (cl n) ca97, .slice B96 (cl n) cb98], .int .i64 ((ds i).2.1)]) (by kernel_rfl) (ris_ok (cl n) A95 ca97 (.slice B96 (cl n) cb98) ((ds i).2.1) _) ?_)
                rintro _ w127 ⟨rfl, hT128⟩
                have hT0 := hT0.t0 hT128
                have hO := hO.tch0 hT128
                have hBx := hBx.tch0 hT128
                have hLc := hL.tch0 hT0
                have hB88 := hB88.tch0 hT128
                have hA := hA.tch0 hT128
                have hB := hB.tch0 hT128
                refine op_nil ?_
                refine W_cond (isB (cl n) ((ds i).2.1)) (by kernel_rfl) (by kernel_rfl) (fun hc129 => ?_) (fun hc129 => ?_)
                · replace hc129 : 0 ≤ (ds i).2.1 ∧ (ds i).2.1 < ((cl n) : Int) := (isB_t hc129)
                  refine W_region (by kernel_rfl) ?_
                  refine seg1 (ρ' := upd (upd (upd (upd (upd (updL ρ [(0, .int .i64 n), (1, .slice L mm cl_), (4, .bool false), (5, .pointer (some ⟨p8, 0, none⟩)), (6, .pointer (some ⟨w9.heap.size, 0, none⟩)), (7, .int .i64 ((i : Nat) : Int)), (8, .pointer (some ⟨w23.heap.size, 0, none⟩)), (9, .bool true), (10, .int .i64 ((ds i).2.1)), (11, .bool (wt100.getD (((ds i).2.1).toNat) false)), (30, .bool (decide (((i : Nat) : Int) < (mm : Int))))]) 12 (.int .i64 0)) 59 (.agg #[.slice A95 (cl n) ca97, .slice B96 (cl n) cb98])) 60 (.int .i64 ((ds i).2.1))) 61 (.bool (isB (cl n) ((ds i).2.1)))) 62 (.pointer (some ⟨w9.heap.size, 0, none⟩))) (by kernel_rfl) ?_
                  refine st (by rfl) (S_val (v := .slice A95 (cl n) ca97) (R_load (v := .slice A95 (cl n) ca97) (by kernel_rfl) (by kernel_rfl) ((hBx.cell 0).trans rfl)) ?_)
                  refine seg1 (ρ' := upd (upd (upd (upd (upd (upd (upd (updL ρ [(0, .int .i64 n), (1, .slice L mm cl_), (4, .bool false), (5, .pointer (some ⟨p8, 0, none⟩)), (6, .pointer (some ⟨w9.heap.size, 0, none⟩)), (7, .int .i64 ((i : Nat) : Int)), (8, .pointer (some ⟨w23.heap.size, 0, none⟩)), (9, .bool true), (10, .int .i64 ((ds i).2.1)), (11, .bool (wt100.getD (((ds i).2.1).toNat) false)), (30, .bool (decide (((i : Nat) : Int) < (mm : Int))))]) 12 (.int .i64 0)) 59 (.agg #[.slice A95 (cl n) ca97, .slice B96 (cl n) cb98])) 60 (.int .i64 ((ds i).2.1))) 61 (.bool (isB (cl n) ((ds i).2.1)))) 62 (.pointer (some ⟨w9.heap.size, 0, none⟩))) 63 (.slice A95 (cl n) ca97)) 64 (.int .i64 ((ds i).2.1))) (by kernel_rfl) ?_
                  refine stv (v := ptrAt A95 (((ds i).2.1).toNat)) (by rfl) (R_indexRd1 (len := (cl n)) (cap := ca97) (k := .i64) (i := (ds i).2.1) (e := 3) (((ds i).2.1).toNat) hA.1 (by kernel_rfl) (by kernel_rfl) (by kernel_rfl) (by kernel_rfl) (by omega) (by omega)) ?_
                  refine stv (v := .int .i64 (aw99.getD (((ds i).2.1).toNat) 0)) (by rfl) (R_loadRd (v := .int .i64 (aw99.getD (((ds i).2.1).toNat) 0)) hA.1 (by omega) (by kernel_rfl) (by kernel_rfl) (ints_at .i64 aw99 (by omega))) ?_
                  refine seg1 (ρ' := upd (upd (upd (upd (upd (upd (upd (upd (upd (upd (updL ρ [(0, .int .i64 n), (1, .slice L mm cl_), (4, .bool false), (5, .pointer (some ⟨p8, 0, none⟩)), (6, .pointer (some ⟨w9.heap.size, 0, none⟩)), (7, .int .i64 ((i : Nat) : Int)), (8, .pointer (some ⟨w23.heap.size, 0, none⟩)), (9, .bool true), (10, .int .i64 ((ds i).2.1)), (11, .bool (wt100.getD (((ds i).2.1).toNat) false)), (30, .bool (decide (((i : Nat) : Int) < (mm : Int))))]) 12 (.int .i64 0)) 59 (.agg #[.slice A95 (cl n) ca97, .slice B96 (cl n) cb98])) 60 (.int .i64 ((ds i).2.1))) 61 (.bool (isB (cl n) ((ds i).2.1)))) 62 (.pointer (some ⟨w9.heap.size, 0, none⟩))) 63 (.slice A95 (cl n) ca97)) 64 (.int .i64 ((ds i).2.1))) 65 (ptrAt A95 (((ds i).2.1).toNat))) 66 (.int .i64 (aw99.getD (((ds i).2.1).toNat) 0))) 12 (.int .i64 (aw99.getD (((ds i).2.1).toNat) 0))) (by kernel_rfl) ?_
                  refine op_nil ?_
                  refine W_seq ?_
                  refine W_fg [(0, .int .i64 n), (1, .slice L mm cl_), (4, .bool false), (5, .pointer (some ⟨p8, 0, none⟩)), (6, .pointer (some ⟨w9.heap.size, 0, none⟩)), (7, .int .i64 ((i : Nat) : Int)), (8, .pointer (some ⟨w23.heap.size, 0, none⟩)), (9, .bool true), (10, .int .i64 ((ds i).2.1)), (11, .bool (wt100.getD (((ds i).2.1).toNat) false)), (12, .int .i64 (aw99.getD (((ds i).2.1).toNat) 0)), (30, .bool (decide (((i : Nat) : Int) < (mm : Int)))), (61, .bool (isB (cl n) ((ds i).2.1)))] (by kernel_rfl) fun ρ => ?_
                  refine W_draw (fun w' => Blk w' (w9.heap.size) 35 [.slice A95 (cl n) ca97, .slice B96 (cl n) cb98]) (by kernel_rfl) (by kernel_rfl) (by kernel_rfl) fun w130 hT131 hh132 => ?_
                  have hT0 := hT0.t0 hT131
                  have hO := hO.tch0 hT131
                  have hBx := hBx.tch0 hT131
                  have hLc := hL.tch0 hT0
                  have hB88 := hB88.tch0 hT131
                  have hA := hA.tch0 hT131
                  have hB := hB.tch0 hT131
                  refine d_takes [0, 1, 2, 3] (listed' := #[true, true, true, true, false, false, false, false, false, false, false, false, false, false, false, false, false, false, false, false, false, false, false]) (ρ' := upd (upd (upd (upd (updL ρ [(0, .int .i64 n), (1, .slice L mm cl_), (4, .bool false), (5, .pointer (some ⟨p8, 0, none⟩)), (6, .pointer (some ⟨w9.heap.size, 0, none⟩)), (7, .int .i64 ((i : Nat) : Int)), (8, .pointer (some ⟨w23.heap.size, 0, none⟩)), (9, .bool true), (10, .int .i64 ((ds i).2.1)), (11, .bool (wt100.getD (((ds i).2.1).toNat) false)), (12, .int .i64 (aw99.getD (((ds i).2.1).toNat) 0)), (30, .bool (decide (((i : Nat) : Int) < (mm : Int)))), (61, .bool (isB (cl n) ((ds i).2.1)))]) 67 (.bool true)) 68 (.bool false)) 69 (.bool false)) 70 (.pointer (some ⟨p8, 0, none⟩))) hBx (by kernel_rfl) ?_
                  refine d_val (v := .agg #[.slice A95 (cl n) ca97, .slice B96 (cl n) cb98]) 5 (by rfl) (by kernel_rfl) (by kernel_rfl) (by kernel_rfl) (fun w' hs => by have hBx := hs; exact R_loadA [.slice A95 (cl n) ca97, .slice B96 (cl n) cb98] (by kernel_rfl) (by kernel_rfl) (by kernel_rfl) (fun k u hk => by rw [hBx.cell]; exact get_part _ 0 _ k u rfl hk)) hBx ?_
                  refine d_one 4 (by kernel_rfl) (by rfl) (by kernel_rfl) (S_call (args := [.pointer (some ⟨p8, 0, none⟩)]) (by kernel_rfl) (len_ok F92 p8 (cl n) hp93 aw99 _ hO) ?_)
                  rintro _ w133 ⟨rfl, hT134⟩
                  have hT0 := hT0.t0 hT134
                  have hO := hO.tch0 hT134
                  have hBx := hBx.tch0 hT134
                  have hLc := hL.tch0 hT0
                  have hB88 := hB88.tch0 hT134
                  have hA := hA.tch0 hT134
                  have hB := hB.tch0 hT134
                  refine ⟨hBx, ?_⟩
                  refine d_one 6 (by kernel_rfl) (by rfl) (by kernel_rfl) (S_call (args := [.agg #[.slice A95 (cl n) ca97, .slice B96 (cl n) cb98]]) (by kernel_rfl) (rlen_lit (cl n) A95 B96 ca97 cb98 aw99 wt100 hp93 _ hA.1 hB.1 (cl_le n) hRel hO.nodup hO.lt_) ?_)
                  rintro _ w135 ⟨rfl, hT136⟩
                  have hT0 := hT0.t0 hT136
                  have hO := hO.tch0 hT136
                  have hBx := hBx.tch0 hT136
                  have hLc := hL.tch0 hT0
                  have hB88 := hB88.tch0 hT136
                  have hA := hA.tch0 hT136
                  have hB := hB.tch0 hT136
                  refine ⟨hBx, ?_⟩
                  refine d_takes [7, 8, 9] (listed' := #[true, true, true, true, true, true, true, true, true, true, false, false, false, false, false, false, false, false, false, false, false, false, false]) (ρ' := upd (upd (upd (upd (upd (upd (upd (upd (upd (upd (updL ρ [(0, .int .i64 n), (1, .slice L mm cl_), (4, .bool false), (5, .pointer (some ⟨p8, 0, none⟩)), (6, .pointer (some ⟨w9.heap.size, 0, none⟩)), (7, .int .i64 ((i : Nat) : Int)), (8, .pointer (some ⟨w23.heap.size, 0, none⟩)), (9, .bool true), (10, .int .i64 ((ds i).2.1)), (11, .bool (wt100.getD (((ds i).2.1).toNat) false)), (12, .int .i64 (aw99.getD (((ds i).2.1).toNat) 0)), (30, .bool (decide (((i : Nat) : Int) < (mm : Int)))), (61, .bool (isB (cl n) ((ds i).2.1)))]) 67 (.bool true)) 68 (.bool false)) 69 (.bool false)) 70 (.pointer (some ⟨p8, 0, none⟩))) 72 (.agg #[.slice A95 (cl n) ca97, .slice B96 (cl n) cb98])) 71 (.int .i64 (hp93.length : Int))) 73 (.int .i64 (hp93.length : Int))) 74 (.bool ((hp93.length : Int) != (hp93.length : Int)))) 75 (.bool ((hp93.length : Int) != (hp93.length : Int)))) 76 (.bool ((hp93.length : Int) != (hp93.length : Int)))) hBx (by kernel_rfl) ?_
                  cases hb137 : (hp93.length : Int) != (hp93.length : Int)
                  · replace hb137 : (hp93.length : Int) = (hp93.length : Int) := (bne_eq_false_iff_eq.1 hb137)
                    refine d_takes [10, 11, 13] (listed' := #[true, true, true, true, true, true, true, true, true, true, true, true, false, true, false, false, false, false, false, false, false, false, false]) (ρ' := upd (upd (upd (upd (upd (upd (upd (upd (upd (upd (upd (upd (upd (updL ρ [(0, .int .i64 n), (1, .slice L mm cl_), (4, .bool false), (5, .pointer (some ⟨p8, 0, none⟩)), (6, .pointer (some ⟨w9.heap.size, 0, none⟩)), (7, .int .i64 ((i : Nat) : Int)), (8, .pointer (some ⟨w23.heap.size, 0, none⟩)), (9, .bool true), (10, .int .i64 ((ds i).2.1)), (11, .bool (wt100.getD (((ds i).2.1).toNat) false)), (12, .int .i64 (aw99.getD (((ds i).2.1).toNat) 0)), (30, .bool (decide (((i : Nat) : Int) < (mm : Int)))), (61, .bool (isB (cl n) ((ds i).2.1)))]) 67 (.bool true)) 68 (.bool false)) 69 (.bool false)) 70 (.pointer (some ⟨p8, 0, none⟩))) 72 (.agg #[.slice A95 (cl n) ca97, .slice B96 (cl n) cb98])) 71 (.int .i64 (hp93.length : Int))) 73 (.int .i64 (hp93.length : Int))) 74 (.bool false)) 75 (.bool false)) 76 (.bool false)) 77 (.pointer (some ⟨p8, 0, none⟩))) 78 (.int .i64 ((ds i).2.1))) 80 (.bool (wt100.getD (((ds i).2.1).toNat) false))) hBx (by kernel_rfl) ?_
                    refine d_one 12 (by kernel_rfl) (by rfl) (by kernel_rfl) (S_call (args := [.pointer (some ⟨p8, 0, none⟩), .int .i64 ((ds i).2.1)]) (by kernel_rfl) (has_lit F92 p8 (cl n) hp93 aw99 ((ds i).2.1) (wt100.getD (((ds i).2.1).toNat) false) _ hO (hRel.has_t (by omega) (by omega))) ?_)
                    rintro _ w138 ⟨rfl, hT139⟩
                    have hT0 := hT0.t0 hT139
                    have hO := hO.tch0 hT139
                    have hBx := hBx.tch0 hT139
                    have hLc := hL.tch0 hT0
                    have hB88 := hB88.tch0 hT139
                    have hA := hA.tch0 hT139
                    have hB := hB.tch0 hT139
                    refine ⟨hBx, ?_⟩
                    refine d_takes [14, 15, 16] (listed' := #[true, true, true, true, true, true, true, true, true, true, true, true, true, true, true, true, true, false, false, false, false, false, false]) (ρ' := upd (upd (upd (upd (upd (upd (upd (upd (upd (upd (upd (upd (upd (upd (upd (upd (upd (updL ρ [(0, .int .i64 n), (1, .slice L mm cl_), (4, .bool false), (5, .pointer (some ⟨p8, 0, none⟩)), (6, .pointer (some ⟨w9.heap.size, 0, none⟩)), (7, .int .i64 ((i : Nat) : Int)), (8, .pointer (some ⟨w23.heap.size, 0, none⟩)), (9, .bool true), (10, .int .i64 ((ds i).2.1)), (11, .bool (wt100.getD (((ds i).2.1).toNat) false)), (12, .int .i64 (aw99.getD (((ds i).2.1).toNat) 0)), (30, .bool (decide (((i : Nat) : Int) < (mm : Int)))), (61, .bool (isB (cl n) ((ds i).2.1)))]) 67 (.bool true)) 68 (.bool false)) 69 (.bool false)) 70 (.pointer (some ⟨p8, 0, none⟩))) 72 (.agg #[.slice A95 (cl n) ca97, .slice B96 (cl n) cb98])) 71 (.int .i64 (hp93.length : Int))) 73 (.int .i64 (hp93.length : Int))) 74 (.bool false)) 75 (.bool false)) 76 (.bool false)) 77 (.pointer (some ⟨p8, 0, none⟩))) 78 (.int .i64 ((ds i).2.1))) 80 (.bool (wt100.getD (((ds i).2.1).toNat) false))) 79 (.bool (wt100.getD (((ds i).2.1).toNat) false))) 81 (.bool (!((wt100.getD (((ds i).2.1).toNat) false) == (wt100.getD (((ds i).2.1).toNat) false))))) 82 (.bool (!((wt100.getD (((ds i).2.1).toNat) false) == (wt100.getD (((ds i).2.1).toNat) false))))) 83 (.bool (!((wt100.getD (((ds i).2.1).toNat) false) == (wt100.getD (((ds i).2.1).toNat) false))))) hBx (by kernel_rfl) ?_
                    cases hb140 : (wt100.getD (((ds i).2.1).toNat) false) == (wt100.getD (((ds i).2.1).toNat) false)
                    · replace hb140 : (wt100.getD (((ds i).2.1).toNat) false) ≠ (wt100.getD (((ds i).2.1).toNat) false) := (ne_of_beq_false hb140)
                      exact absurd rfl hb140
                    · replace hb140 : wt100.getD (((ds i).2.1).toNat) false = wt100.getD (((ds i).2.1).toNat) false := (eq_of_beq hb140)
                      refine d_takes [17, 18, 20] (listed' := #[true, true, true, true, true, true, true, true, true, true, true, true, true, true, true, true, true, true, true, false, true, false, false]) (ρ' := upd (upd (upd (upd (upd (upd (upd (upd (upd (upd (upd (upd (upd (upd (upd (upd (upd (upd (upd (upd (updL ρ [(0, .int .i64 n), (1, .slice L mm cl_), (4, .bool false), (5, .pointer (some ⟨p8, 0, none⟩)), (6, .pointer (some ⟨w9.heap.size, 0, none⟩)), (7, .int .i64 ((i : Nat) : Int)), (8, .pointer (some ⟨w23.heap.size, 0, none⟩)), (9, .bool true), (10, .int .i64 ((ds i).2.1)), (11, .bool (wt100.getD (((ds i).2.1).toNat) false)), (12, .int .i64 (aw99.getD (((ds i).2.1).toNat) 0)), (30, .bool (decide (((i : Nat) : Int) < (mm : Int)))), (61, .bool (isB (cl n) ((ds i).2.1)))]) 67 (.bool true)) 68 (.bool false)) 69 (.bool false)) 70 (.pointer (some ⟨p8, 0, none⟩))) 72 (.agg #[.slice A95 (cl n) ca97, .slice B96 (cl n) cb98])) 71 (.int .i64 (hp93.length : Int))) 73 (.int .i64 (hp93.length : Int))) 74 (.bool false)) 75 (.bool false)) 76 (.bool false)) 77 (.pointer (some ⟨p8, 0, none⟩))) 78 (.int .i64 ((ds i).2.1))) 80 (.bool (wt100.getD (((ds i).2.1).toNat) false))) 79 (.bool (wt100.getD (((ds i).2.1).toNat) false))) 81 (.bool false)) 82 (.bool false)) 83 (.bool false)) 84 (.pointer (some ⟨p8, 0, none⟩))) 85 (.int .i64 ((ds i).2.1))) 87 (.int .i64 (aw99.getD (((ds i).2.1).toNat) 0))) hBx (by kernel_rfl) ?_
                      refine d_one 19 (by kernel_rfl) (by rfl) (by kernel_rfl) (S_call (args := [.pointer (some ⟨p8, 0, none⟩), .int .i64 ((ds i).2.1)]) (by kernel_rfl) (act_lit F92 p8 (cl n) hp93 aw99 ((ds i).2.1) (aw99.getD (((ds i).2.1).toNat) 0) _ hO (act_t hO.acLen (by omega) (by omega))) ?_)
                      rintro _ w141 ⟨rfl, hT142⟩
                      have hT0 := hT0.t0 hT142
                      have hO := hO.tch0 hT142
                      have hBx := hBx.tch0 hT142
                      have hLc := hL.tch0 hT0
                      have hB88 := hB88.tch0 hT142
                      have hA := hA.tch0 hT142
                      have hB := hB.tch0 hT142
                      refine ⟨hBx, ?_⟩
                      refine d_takes [21, 22] (listed' := #[true, true, true, true, true, true, true, true, true, true, true, true, true, true, true, true, true, true, true, true, true, true, true]) (ρ' := upd (upd (upd (upd (upd (upd (upd (upd (upd (upd (upd (upd (upd (upd (upd (upd (upd (upd (upd (upd (upd (upd (upd (updL ρ [(0, .int .i64 n), (1, .slice L mm cl_), (4, .bool false), (5, .pointer (some ⟨p8, 0, none⟩)), (6, .pointer (some ⟨w9.heap.size, 0, none⟩)), (7, .int .i64 ((i : Nat) : Int)), (8, .pointer (some ⟨w23.heap.size, 0, none⟩)), (9, .bool true), (10, .int .i64 ((ds i).2.1)), (11, .bool (wt100.getD (((ds i).2.1).toNat) false)), (12, .int .i64 (aw99.getD (((ds i).2.1).toNat) 0)), (30, .bool (decide (((i : Nat) : Int) < (mm : Int)))), (61, .bool (isB (cl n) ((ds i).2.1)))]) 67 (.bool true)) 68 (.bool false)) 69 (.bool false)) 70 (.pointer (some ⟨p8, 0, none⟩))) 72 (.agg #[.slice A95 (cl n) ca97, .slice B96 (cl n) cb98])) 71 (.int .i64 (hp93.length : Int))) 73 (.int .i64 (hp93.length : Int))) 74 (.bool false)) 75 (.bool false)) 76 (.bool false)) 77 (.pointer (some ⟨p8, 0, none⟩))) 78 (.int .i64 ((ds i).2.1))) 80 (.bool (wt100.getD (((ds i).2.1).toNat) false))) 79 (.bool (wt100.getD (((ds i).2.1).toNat) false))) 81 (.bool false)) 82 (.bool false)) 83 (.bool false)) 84 (.pointer (some ⟨p8, 0, none⟩))) 85 (.int .i64 ((ds i).2.1))) 87 (.int .i64 (aw99.getD (((ds i).2.1).toNat) 0))) 86 (.int .i64 (aw99.getD (((ds i).2.1).toNat) 0))) 88 (.bool ((aw99.getD (((ds i).2.1).toNat) 0) != (aw99.getD (((ds i).2.1).toNat) 0)))) 89 (.bool ((aw99.getD (((ds i).2.1).toNat) 0) != (aw99.getD (((ds i).2.1).toNat) 0)))) hBx (by kernel_rfl) ?_
                      refine d_done (by kernel_rfl) ?_
                      refine W_cond ((aw99.getD (((ds i).2.1).toNat) 0) != (aw99.getD (((ds i).2.1).toNat) 0)) (by kernel_rfl) (by kernel_rfl) (fun hc143 => ?_) (fun hc143 => ?_)
                      · replace hc143 : aw99.getD (((ds i).2.1).toNat) 0 ≠ aw99.getD (((ds i).2.1).toNat) 0 := (bne_iff_ne.1 hc143)
                        exact absurd rfl hc143
                      · replace hc143 : aw99.getD (((ds i).2.1).toNat) 0 = aw99.getD (((ds i).2.1).toNat) 0 := (bne_eq_false_iff_eq.1 hc143)
                        refine W_skip ?_
                        refine W_fg [(0, .int .i64 n), (1, .slice L mm cl_), (4, .bool false), (5, .pointer (some ⟨p8, 0, none⟩)), (6, .pointer (some ⟨w9.heap.size, 0, none⟩)), (7, .int .i64 ((i : Nat) : Int)), (8, .pointer (some ⟨w23.heap.size, 0, none⟩)), (9, .bool true), (10, .int .i64 ((ds i).2.1)), (11, .bool (wt100.getD (((ds i).2.1).toNat) false)), (12, .int .i64 (aw99.getD (((ds i).2.1).toNat) 0)), (30, .bool (decide (((i : Nat) : Int) < (mm : Int)))), (61, .bool (isB (cl n) ((ds i).2.1))), (89, .bool ((aw99.getD (((ds i).2.1).toNat) 0) != (aw99.getD (((ds i).2.1).toNat) 0)))] (by kernel_rfl) fun ρ => ?_
                        refine W_region (by kernel_rfl) ?_
                        refine seg2 (ρ' := upd (upd (updL ρ [(0, .int .i64 n), (1, .slice L mm cl_), (4, .bool false), (5, .pointer (some ⟨p8, 0, none⟩)), (6, .pointer (some ⟨w9.heap.size, 0, none⟩)), (7, .int .i64 ((i : Nat) : Int)), (8, .pointer (some ⟨w23.heap.size, 0, none⟩)), (9, .bool true), (10, .int .i64 ((ds i).2.1)), (11, .bool (wt100.getD (((ds i).2.1).toNat) false)), (12, .int .i64 (aw99.getD (((ds i).2.1).toNat) 0)), (30, .bool (decide (((i : Nat) : Int) < (mm : Int)))), (61, .bool (isB (cl n) ((ds i).2.1))), (89, .bool ((aw99.getD (((ds i).2.1).toNat) 0) != (aw99.getD (((ds i).2.1).toNat) 0)))]) 31 (.int .i64 ((i : Nat) : Int))) 32 (.int .i64 (IntKind.i64.wrap (((i : Nat) : Int) + 1)))) (by kernel_rfl) ?_
                        rw [show IntKind.i64.wrap (((i : Nat) : Int) + 1) = ((i : Nat) : Int) + 1 from wrap_i64 (by omega) (by omega)]
                        rw [show upd (upd (updL ρ [(0, .int .i64 n), (1, .slice L mm cl_), (4, .bool false), (5, .pointer (some ⟨p8, 0, none⟩)), (6, .pointer (some ⟨w9.heap.size, 0, none⟩)), (7, .int .i64 ((i : Nat) : Int)), (8, .pointer (some ⟨w23.heap.size, 0, none⟩)), (9, .bool true), (10, .int .i64 ((ds i).2.1)), (11, .bool (wt100.getD (((ds i).2.1).toNat) false)), (12, .int .i64 (aw99.getD (((ds i).2.1).toNat) 0)), (30, .bool (decide (((i : Nat) : Int) < (mm : Int)))), (61, .bool (isB (cl n) ((ds i).2.1))), (89, .bool ((aw99.getD (((ds i).2.1).toNat) 0) != (aw99.getD (((ds i).2.1).toNat) 0)))]) 31 (.int .i64 ((i : Nat) : Int))) 32 (.int .i64 (((i : Nat) : Int) + 1)) = upd (upd (updL ρ [(0, .int .i64 n), (1, .slice L mm cl_), (4, .bool false), (5, .pointer (some ⟨p8, 0, none⟩)), (6, .pointer (some ⟨w9.heap.size, 0, none⟩)), (7, .int .i64 ((i : Nat) : Int)), (8, .pointer (some ⟨w23.heap.size, 0, none⟩)), (9, .bool true), (10, .int .i64 ((ds i).2.1)), (11, .bool (wt100.getD (((ds i).2.1).toNat) false)), (12, .int .i64 (aw99.getD (((ds i).2.1).toNat) 0)), (30, .bool (decide (((i : Nat) : Int) < (mm : Int)))), (61, .bool (isB (cl n) ((ds i).2.1))), (89, .bool ((aw99.getD (((ds i).2.1).toNat) 0) != (aw99.getD (((ds i).2.1).toNat) 0)))]) 31 (.int .i64 ((i : Nat) : Int))) 32 (.int .i64 ((i + 1 : Nat) : Int)) from congrArg (fun z => upd (upd (updL ρ [(0, .int .i64 n), (1, .slice L mm cl_), (4, .bool false), (5, .pointer (some ⟨p8, 0, none⟩)), (6, .pointer (some ⟨w9.heap.size, 0, none⟩)), (7, .int .i64 ((i : Nat) : Int)), (8, .pointer (some ⟨w23.heap.size, 0, none⟩)), (9, .bool true), (10, .int .i64 ((ds i).2.1)), (11, .bool (wt100.getD (((ds i).2.1).toNat) false)), (12, .int .i64 (aw99.getD (((ds i).2.1).toNat) 0)), (30, .bool (decide (((i : Nat) : Int) < (mm : Int)))), (61, .bool (isB (cl n) ((ds i).2.1))), (89, .bool ((aw99.getD (((ds i).2.1).toNat) 0) != (aw99.getD (((ds i).2.1).toNat) 0)))]) 31 (.int .i64 ((i : Nat) : Int))) 32 (.int .i64 z)) (by omega)]
                        refine seg1 (ρ' := upd (upd (upd (updL ρ [(0, .int .i64 n), (1, .slice L mm cl_), (4, .bool false), (5, .pointer (some ⟨p8, 0, none⟩)), (6, .pointer (some ⟨w9.heap.size, 0, none⟩)), (7, .int .i64 ((i : Nat) : Int)), (8, .pointer (some ⟨w23.heap.size, 0, none⟩)), (9, .bool true), (10, .int .i64 ((ds i).2.1)), (11, .bool (wt100.getD (((ds i).2.1).toNat) false)), (12, .int .i64 (aw99.getD (((ds i).2.1).toNat) 0)), (30, .bool (decide (((i : Nat) : Int) < (mm : Int)))), (61, .bool (isB (cl n) ((ds i).2.1))), (89, .bool ((aw99.getD (((ds i).2.1).toNat) 0) != (aw99.getD (((ds i).2.1).toNat) 0)))]) 31 (.int .i64 ((i : Nat) : Int))) 32 (.int .i64 ((i + 1 : Nat) : Int))) 7 (.int .i64 ((i + 1 : Nat) : Int))) (by kernel_rfl) ?_
                        refine op_nil ?_
                        refine ⟨_, ?_, F92, hp93, aw99, A95, B96, ca97, cb98, wt100, i + 1, _, updL_self (by kernel_rfl), hac, hRel, ?_, hFb, nF_hBx, hT0, hO, hA, hB, hBx, hLc, rfl⟩
                        · omega
                        · omega
                  · replace hb137 : (hp93.length : Int) ≠ (hp93.length : Int) := (bne_iff_ne.1 hb137)
                    exact absurd rfl hb137
                · replace hc129 : (ds i).2.1 < 0 ∨ ((cl n) : Int) ≤ (ds i).2.1 := (isB_f hc129)
                  exfalso; omega
          · have hlt_ := hO.F_lt
            have z148 := hT0.size
            have l149 := hBx.lt
            refine (S_new (v := .pointer (some ⟨w23.heap.size, 0, none⟩)) (ob := .cells #[.slice none 0 0, .slice none 0 0] 35) (by kernel_rfl) fun w144 hT145 hs146 hB147 => ?_)
            replace hB147 : Blk w144 (w23.heap.size) 35 [.slice none 0 0, .slice none 0 0] := hB147
            have hT0 := hT0.t0 hT145
            have hO := hO.tch0 hT145
            have hA := hA.tch0 hT145
            have hB := hB.tch0 hT145
            have hBx := hBx.tch0 hT145
            have hLc := hL.tch0 hT0
            have nF_hB147 : ¬ F (w23.heap.size) := fun e => by have := hlt_ _ e; omega
            refine ⟨⟨hBx, hLc⟩, ?_⟩
            refine d_one 5 (by kernel_rfl) (by rfl) (by kernel_rfl) (S_val (v := .agg #[.int .i64 ((ds i).1), .int .i64 ((ds i).2.1), .int .i64 ((ds i).2.2)]) (R_loadRdA [.int .i64 ((ds i).1), .int .i64 ((ds i).2.1), .int .i64 ((ds i).2.2)] hLc (by omega) (by kernel_rfl) (by kernel_rfl) (by kernel_rfl) (hD.part (by omega))) ?_)
            refine ⟨⟨hBx, hLc⟩, ?_⟩
            have lt_hBx := hBx.lt
            have lt_hB147 := hB147.lt
            have hz_ := hT0.size
            refine d_one 6 (by kernel_rfl) (by rfl) (by kernel_rfl) (S_call (args := [.pointer (some ⟨p8, 0, none⟩), .agg #[.slice A (cl n) ca, .slice B (cl n) cb], .agg #[.int .i64 ((ds i).1), .int .i64 ((ds i).2.1), .int .i64 ((ds i).2.2)]]) (by kernel_rfl) (do_ok F p8 (cl n) hp ac A B ca cb ac wt ((ds i).1) ((ds i).2.1) ((ds i).2.2) _ hO hA hB hac) ?_)
            rintro _ w150 ⟨F151, hp152, ac153, A154, B155, ca156, cb157, aw158, wt159, r160, rfl, hO, hA, hB, hac, hmv161, hrel⟩
            have hT0 := (hT0).then hmv161.1 hFb
            have hBx := hBx.tch hmv161.1 nF_hBx
            have hLc := hL.tch0 hT0
            have hB147 := hB147.tch hmv161.1 nF_hB147
            replace nF_hBx : ¬ F151 (w9.heap.size) := fun e => (hmv161.2 _ e).elim nF_hBx (fun q => by omega)
            replace nF_hB147 : ¬ F151 (w23.heap.size) := fun e => (hmv161.2 _ e).elim nF_hB147 (fun q => by omega)
            replace hFb := hmv161.ge hFb hz_
            obtain ⟨hr1, hr2, hRel⟩ := hrel rfl hRel
            subst hr1 hr2
            have hwl := hRel.1
            have hal := hO.acLen
            refine ⟨⟨hBx, hLc⟩, ?_⟩
            refine d_takes [7, 8, 9] (listed' := #[true, true, true, true, true, true, true, true, true, true, true, false, false]) (ρ' := upd (upd (upd (upd (upd (upd (upd (upd (upd (upd (upd (upd (upd (upd (upd (updL ρ [(0, .int .i64 n), (1, .slice L mm cl_), (4, .bool false), (5, .pointer (some ⟨p8, 0, none⟩)), (6, .pointer (some ⟨w9.heap.size, 0, none⟩)), (7, .int .i64 ((i : Nat) : Int))]) 27 (.int .i64 ((i : Nat) : Int))) 28 (.slice L mm cl_)) 29 (.int .i64 (mm : Int))) 30 (.bool (decide (((i : Nat) : Int) < (mm : Int))))) 34 (.pointer (some ⟨p8, 0, none⟩))) 36 (.slice L mm cl_)) 37 (.int .i64 ((i : Nat) : Int))) 35 (.agg #[.slice A (cl n) ca, .slice B (cl n) cb])) 38 (ptrAt L (i * 3))) 8 (.pointer (some ⟨w23.heap.size, 0, none⟩))) 39 (.agg #[.int .i64 ((ds i).1), .int .i64 ((ds i).2.1), .int .i64 ((ds i).2.2)])) 40 (.tuple #[.agg #[.slice A154 (cl n) ca156, .slice B155 (cl n) cb157], .bool true])) 33 (.tuple #[.agg #[.slice A154 (cl n) ca156, .slice B155 (cl n) cb157], .bool true])) 41 (.agg #[.slice A154 (cl n) ca156, .slice B155 (cl n) cb157])) 42 (.bool true)) ⟨hBx, hLc⟩ (by kernel_rfl) ?_
            refine d_one 11 (by kernel_rfl) (by rfl) (by kernel_rfl) (S_storeA (b := w23.heap.size) (j := 0) (cs := [.slice A154 (cl n) ca156, .slice B155 (cl n) cb157]) (by kernel_rfl) (by kernel_rfl) (by kernel_rfl) (by simp [oneV]) hB147 (by simp) fun w162 hT163 hs164 hB147' => ?_)
            have hT0 := (hT0).then hT163 (fun c e => by have : c = w23.heap.size := e; omega)
            have hO := hO.tchS hT163 (fun c e q => by cases e; exact nF_hB147 q)
            have hBx := hBx.tch hT163 (fun e => by have : w9.heap.size = w23.heap.size := e; omega)
            have hLc := hL.tch0 hT0
            have hA := hA.tch1 hB147 (by decide) hT163
            have hB := hB.tch1 hB147 (by decide) hT163
            replace hB147 : Blk w162 w23.heap.size 35 [.slice A154 (cl n) ca156, .slice B155 (cl n) cb157] := hB147'
            refine ⟨⟨hBx, hLc⟩, ?_⟩
            refine d_takes [12] (listed' := #[true, true, true, true, true, true, true, true, true, true, true, true, true]) (ρ' := upd (upd (upd (upd (upd (upd (upd (upd (upd (upd (upd (upd (upd (upd (upd (upd (updL ρ [(0, .int .i64 n), (1, .slice L mm cl_), (4, .bool false), (5, .pointer (some ⟨p8, 0, none⟩)), (6, .pointer (some ⟨w9.heap.size, 0, none⟩)), (7, .int .i64 ((i : Nat) : Int))]) 27 (.int .i64 ((i : Nat) : Int))) 28 (.slice L mm cl_)) 29 (.int .i64 (mm : Int))) 30 (.bool (decide (((i : Nat) : Int) < (mm : Int))))) 34 (.pointer (some ⟨p8, 0, none⟩))) 36 (.slice L mm cl_)) 37 (.int .i64 ((i : Nat) : Int))) 35 (.agg #[.slice A (cl n) ca, .slice B (cl n) cb])) 38 (ptrAt L (i * 3))) 8 (.pointer (some ⟨w23.heap.size, 0, none⟩))) 39 (.agg #[.int .i64 ((ds i).1), .int .i64 ((ds i).2.1), .int .i64 ((ds i).2.2)])) 40 (.tuple #[.agg #[.slice A154 (cl n) ca156, .slice B155 (cl n) cb157], .bool true])) 33 (.tuple #[.agg #[.slice A154 (cl n) ca156, .slice B155 (cl n) cb157], .bool true])) 41 (.agg #[.slice A154 (cl n) ca156, .slice B155 (cl n) cb157])) 42 (.bool true)) 9 (.bool true)) ⟨hBx, hLc⟩ (by kernel_rfl) ?_
            refine d_done (by kernel_rfl) ?_
            refine W_seq ?_
            refine W_fg [(0, .int .i64 n), (1, .slice L mm cl_), (4, .bool false), (5, .pointer (some ⟨p8, 0, none⟩)), (6, .pointer (some ⟨w9.heap.size, 0, none⟩)), (7, .int .i64 ((i : Nat) : Int)), (8, .pointer (some ⟨w23.heap.size, 0, none⟩)), (9, .bool true), (30, .bool (decide (((i : Nat) : Int) < (mm : Int))))] (by kernel_rfl) fun ρ => ?_
            refine W_region (by kernel_rfl) ?_
            refine st (by rfl) (S_val (v := .agg #[.slice A154 (cl n) ca156, .slice B155 (cl n) cb157]) (R_loadA [.slice A154 (cl n) ca156, .slice B155 (cl n) cb157] (by kernel_rfl) (by kernel_rfl) (by kernel_rfl) (fun k u hk => by rw [hB147.cell]; exact get_part _ 0 _ k u rfl hk)) ?_)
            refine st (by rfl) (S_storeA (b := w9.heap.size) (j := 0) (cs := [.slice A154 (cl n) ca156, .slice B155 (cl n) cb157]) (by kernel_rfl) (by kernel_rfl) (by kernel_rfl) (by simp [oneV]) hBx (by simp) fun w165 hT166 hs167 hBx' => ?_)
            have hT0 := (hT0).then hT166 (fun c e => by have : c = w9.heap.size := e; omega)
            have hO := hO.tchS hT166 (fun c e q => by cases e; exact nF_hBx q)
            have hLc := hL.tch0 hT0
            have hB147 := hB147.tch hT166 (fun e => by have : w23.heap.size = w9.heap.size := e; omega)
            have hA := hA.tch1 hBx (by decide) hT166
            have hB := hB.tch1 hBx (by decide) hT166
            replace hBx : Blk w165 w9.heap.size 35 [.slice A154 (cl n) ca156, .slice B155 (cl n) cb157] := hBx'
            refine op_nil ?_
            refine W_seq ?_
            refine W_region (by kernel_rfl) ?_
            refine seg2 (ρ' := upd (upd (upd (updL ρ [(0, .int .i64 n), (1, .slice L mm cl_), (4, .bool false), (5, .pointer (some ⟨p8, 0, none⟩)), (6, .pointer (some ⟨w9.heap.size, 0, none⟩)), (7, .int .i64 ((i : Nat) : Int)), (8, .pointer (some ⟨w23.heap.size, 0, none⟩)), (9, .bool true), (30, .bool (decide (((i : Nat) : Int) < (mm : Int))))]) 43 (.agg #[.slice A154 (cl n) ca156, .slice B155 (cl n) cb157])) 44 (.slice L mm cl_)) 45 (.int .i64 ((i : Nat) : Int))) (by kernel_rfl) ?_
            refine stv (v := ptrAt L (i * 3)) (by rfl) (R_indexRd (sz := 3) (len := mm) (cap := cl_) (k := .i64) (i := ((i : Nat) : Int)) (e := 40) i hLc (by kernel_rfl) (by kernel_rfl) (by kernel_rfl) (by kernel_rfl) rfl (by omega)) ?_
            refine stv (v := ptrAt L (i * 3 + 1)) (by rfl) (R_fieldRd (m := 1) hLc (by omega) (by kernel_rfl) (fun _ _ => by rfl)) ?_
            refine stv (v := .int .i64 ((ds i).2.1)) (by rfl) (R_loadRd (v := .int .i64 ((ds i).2.1)) hLc (by omega) (by kernel_rfl) (by kernel_rfl) ((hD i (by omega)).2.1)) ?_
            refine seg1 (ρ' := upd (upd (upd (upd (upd (upd (upd (updL ρ [(0, .int .i64 n), (1, .slice L mm cl_), (4, .bool false), (5, .pointer (some ⟨p8, 0, none⟩)), (6, .pointer (some ⟨w9.heap.size, 0, none⟩)), (7, .int .i64 ((i : Nat) : Int)), (8, .pointer (some ⟨w23.heap.size, 0, none⟩)), (9, .bool true), (30, .bool (decide (((i : Nat) : Int) < (mm : Int))))]) 43 (.agg #[.slice A154 (cl n) ca156, .slice B155 (cl n) cb157])) 44 (.slice L mm cl_)) 45 (.int .i64 ((i : Nat) : Int))) 46 (ptrAt L (i * 3))) 47 (ptrAt L (i * 3 + 1))) 48 (.int .i64 ((ds i).2.1))) 10 (.int .i64 ((ds i).2.1))) (by kernel_rfl) ?_
            refine op_nil ?_
            refine W_seq ?_
            refine W_region (by kernel_rfl) ?_
            refine st (by rfl) (S_val (v := .agg #[.slice A154 (cl n) ca156, .slice B155 (cl n) cb157]) (R_loadA [.slice A154 (cl n) ca156, .slice B155 (cl n) cb157] (by kernel_rfl) (by kernel_rfl) (by kernel_rfl) (fun k u hk => by rw [hBx.cell]; exact get_part _ 0 _ k u rfl hk)) ?_)
            refine seg1 (ρ' := upd (upd (upd (upd (upd (upd (upd (upd (upd (updL ρ [(0, .int .i64 n), (1, .slice L mm cl_), (4, .bool false), (5, .pointer (some ⟨p8, 0, none⟩)), (6, .pointer (some ⟨w9.heap.size, 0, none⟩)), (7, .int .i64 ((i : Nat) : Int)), (8, .pointer (some ⟨w23.heap.size, 0, none⟩)), (9, .bool true), (30, .bool (decide (((i : Nat) : Int) < (mm : Int))))]) 43 (.agg #[.slice A154 (cl n) ca156, .slice B155 (cl n) cb157])) 44 (.slice L mm cl_)) 45 (.int .i64 ((i : Nat) : Int))) 46 (ptrAt L (i * 3))) 47 (ptrAt L (i * 3 + 1))) 48 (.int .i64 ((ds i).2.1))) 10 (.int .i64 ((ds i).2.1))) 49 (.agg #[.slice A154 (cl n) ca156, .slice B155 (cl n) cb157])) 50 (.int .i64 ((ds i).2.1))) (by kernel_rfl) ?_
            refine st (by rfl) (S_call (args := [.agg #[.slice A154 (cl n) ca156, .slice B155 (cl n) cb157], .int .i64 ((ds i).2.1)]) (by kernel_rfl) (ris_ok (cl n) A154 ca156 (.slice B155 (cl n) cb157) ((ds i).2.1) _) ?_)
            rintro _ w168 ⟨rfl, hT169⟩
            have hT0 := hT0.t0 hT169
            have hO := hO.tch0 hT169
            have hBx := hBx.tch0 hT169
            have hLc := hL.tch0 hT0
            have hB147 := hB147.tch0 hT169
            have hA := hA.tch0 hT169
            have hB := hB.tch0 hT169
            refine seg1 (ρ' := upd (upd (upd (upd (upd (upd (upd (upd (upd (upd (upd (updL ρ [(0, .int .i64 n), (1, .slice L mm cl_), (4, .bool false), (5, .pointer (some ⟨p8, 0, none⟩)), (6, .pointer (some ⟨w9.heap.size, 0, none⟩)), (7, .int .i64 ((i : Nat) : Int)), (8, .pointer (some ⟨w23.heap.size, 0, none⟩)), (9, .bool true), (30, .bool (decide (((i : Nat) : Int) < (mm : Int))))]) 43 (.agg #[.slice A154 (cl n) ca156, .slice B155 (cl n) cb157])) 44 (.slice L mm cl_)) 45 (.int .i64 ((i : Nat) : Int))) 46 (ptrAt L (i * 3))) 47 (ptrAt L (i * 3 + 1))) 48 (.int .i64 ((ds i).2.1))) 10 (.int .i64 ((ds i).2.1))) 49 (.agg #[.slice A154 (cl n) ca156, .slice B155 (cl n) cb157])) 50 (.int .i64 ((ds i).2.1))) 51 (.bool (isB (cl n) ((ds i).2.1)))) 52 (.bool (isB (cl n) ((ds i).2.1)))) (by kernel_rfl) ?_
            cases hb170 : isB (cl n) ((ds i).2.1)
            · replace hb170 : (ds i).2.1 < 0 ∨ ((cl n) : Int) ≤ (ds i).2.1 := (isB_f hb170)
              refine seg7 (ρ' := upd (upd (upd (upd (upd (upd (upd (upd (upd (upd (upd (upd (upd (upd (upd (upd (upd (upd (updL ρ [(0, .int .i64 n), (1, .slice L mm cl_), (4, .bool false), (5, .pointer (some ⟨p8, 0, none⟩)), (6, .pointer (some ⟨w9.heap.size, 0, none⟩)), (7, .int .i64 ((i : Nat) : Int)), (8, .pointer (some ⟨w23.heap.size, 0, none⟩)), (9, .bool true), (30, .bool (decide (((i : Nat) : Int) < (mm : Int))))]) 43 (.agg #[.slice A154 (cl n) ca156, .slice B155 (cl n) cb157])) 44 (.slice L mm cl_)) 45 (.int .i64 ((i : Nat) : Int))) 46 (ptrAt L (i * 3))) 47 (ptrAt L (i * 3 + 1))) 48 (.int .i64 ((ds i).2.1))) 10 (.int .i64 ((ds i).2.1))) 49 (.agg #[.slice A154 (cl n) ca156, .slice B155 (cl n) cb157])) 50 (.int .i64 ((ds i).2.1))) 51 (.bool false)) 52 (.bool false)) 53 (undef)) 54 (undef)) 55 (undef)) 56 (undef)) 57 (undef)) 58 (.bool false)) 11 (.bool false)) (by kernel_rfl) ?_
              refine op_nil ?_
              refine W_seq ?_
              refine W_fg [(0, .int .i64 n), (1, .slice L mm cl_), (4, .bool false), (5, .pointer (some ⟨p8, 0, none⟩)), (6, .pointer (some ⟨w9.heap.size, 0, none⟩)), (7, .int .i64 ((i : Nat) : Int)), (8, .pointer (some ⟨w23.heap.size, 0, none⟩)), (9, .bool true), (10, .int .i64 ((ds i).2.1)), (11, .bool false), (30, .bool (decide (((i : Nat) : Int) < (mm : Int))))] (by kernel_rfl) fun ρ => ?_
              refine W_region (by kernel_rfl) ?_
              refine seg1 (ρ' := upd (updL ρ [(0, .int .i64 n), (1, .slice L mm cl_), (4, .bool false), (5, .pointer (some ⟨p8, 0, none⟩)), (6, .pointer (some ⟨w9.heap.size, 0, none⟩)), (7, .int .i64 ((i : Nat) : Int)), (8, .pointer (some ⟨w23.heap.size, 0, none⟩)), (9, .bool true), (10, .int .i64 ((ds i).2.1)), (11, .bool false), (30, .bool (decide (((i : Nat) : Int) < (mm : Int))))]) 12 (.int .i64 0)) (by kernel_rfl) ?_
              refine op_nil ?_
              refine W_seq ?_
              refine W_seq ?_
              refine W_region (by kernel_rfl) ?_
              refine st (by rfl) (S_val (v := .agg #[.slice A154 (cl n) ca156, .slice B155 (cl n) cb157]) (R_loadA [.slice A154 (cl n) ca156, .slice B155 (cl n) cb157] (by kernel_rfl) (by kernel_rfl) (by kernel_rfl) (fun k u hk => by rw [hBx.cell]; exact get_part _ 0 _ k u rfl hk)) ?_)
              refine seg1 (ρ' := upd (upd (upd (updL ρ [(0, .int .i64 n), (1, .slice L mm cl_), (4, .bool false), (5, .pointer (some ⟨p8, 0, none⟩)), (6, .pointer (some ⟨w9.heap.size, 0, none⟩)), (7, .int .i64 ((i : Nat) : Int)), (8, .pointer (some ⟨w23.heap.size, 0, none⟩)), (9, .bool true), (10, .int .i64 ((ds i).2.1)), (11, .bool false), (30, .bool (decide (((i : Nat) : Int) < (mm : Int))))]) 12 (.int .i64 0)) 59 (.agg #[.slice A154 (cl n) ca156, .slice B155 (cl n) cb157])) 60 (.int .i64 ((ds i).2.1))) (by kernel_rfl) ?_
              refine st (by rfl) (S_call (args := [.agg #[.slice A154 (cl n) ca156, .slice B155 (cl n) cb157], .int .i64 ((ds i).2.1)]) (by kernel_rfl) (ris_ok (cl n) A154 ca156 (.slice B155 (cl n) cb157) ((ds i).2.1) _) ?_)
              rintro _ w171 ⟨rfl, hT172⟩
              have hT0 := hT0.t0 hT172
              have hO := hO.tch0 hT172
              have hBx := hBx.tch0 hT172
              have hLc := hL.tch0 hT0
              have hB147 := hB147.tch0 hT172
              have hA := hA.tch0 hT172
              have hB := hB.tch0 hT172
              refine op_nil ?_
              refine W_cond (isB (cl n) ((ds i).2.1)) (by kernel_rfl) (by kernel_rfl) (fun hc173 => ?_) (fun hc173 => ?_)
              · replace hc173 : 0 ≤ (ds i).2.1 ∧ (ds i).2.1 < ((cl n) : Int) := (isB_t hc173)
                exfalso; omega
              · replace hc173 : (ds i).2.1 < 0 ∨ ((cl n) : Int) ≤ (ds i).2.1 := (isB_f hc173)
                refine W_skip ?_
                refine W_seq ?_
                refine W_draw (fun w' => Blk w' (w9.heap.size) 35 [.slice A154 (cl n) ca156, .slice B155 (cl n) cb157]) (by kernel_rfl) (by kernel_rfl) (by kernel_rfl) fun w174 hT175 hh176 => ?_
                have hT0 := hT0.t0 hT175
                have hO := hO.tch0 hT175
                have hBx := hBx.tch0 hT175
                have hLc := hL.tch0 hT0
                have hB147 := hB147.tch0 hT175
                have hA := hA.tch0 hT175
                have hB := hB.tch0 hT175
                refine d_takes [0, 1, 2, 3] (listed' := #[true, true, true, true, false, false, false, false, false, false, false, false, false, false, false, false, false, false, false, false, false, false, false]) (ρ' := upd (upd (upd (upd (upd (upd (upd (upd (updL ρ [(0, .int .i64 n), (1, .slice L mm cl_), (4, .bool false), (5, .pointer (some ⟨p8, 0, none⟩)), (6, .pointer (some ⟨w9.heap.size, 0, none⟩)), (7, .int .i64 ((i : Nat) : Int)), (8, .pointer (some ⟨w23.heap.size, 0, none⟩)), (9, .bool true), (10, .int .i64 ((ds i).2.1)), (11, .bool false), (30, .bool (decide (((i : Nat) : Int) < (mm : Int))))]) 12 (.int .i64 0)) 59 (.agg #[.slice A154 (cl n) ca156, .slice B155 (cl n) cb157])) 60 (.int .i64 ((ds i).2.1))) 61 (.bool (isB (cl n) ((ds i).2.1)))) 67 (.bool true)) 68 (.bool false)) 69 (.bool false)) 70 (.pointer (some ⟨p8, 0, none⟩))) hBx (by kernel_rfl) ?_
                refine d_val (v := .agg #[.slice A154 (cl n) ca156, .slice B155 (cl n) cb157]) 5 (by rfl) (by kernel_rfl) (by kernel_rfl) (by kernel_rfl) (fun w' hs => by have hBx := hs; exact R_loadA [.slice A154 (cl n) ca156, .slice B155 (cl n) cb157] (by kernel_rfl) (by kernel_rfl) (by kernel_rfl) (fun k u hk => by rw [hBx.cell]; exact get_part _ 0 _ k u rfl hk)) hBx ?_
                refine d_one 4 (by kernel_rfl) (by rfl) (by kernel_rfl) (S_call (args := [.pointer (some ⟨p8, 0, none⟩)]) (by kernel_rfl) (len_ok F151 p8 (cl n) hp152 aw158 _ hO) ?_)
                rintro _ w177 ⟨rfl, hT178⟩
                have hT0 := hT0.t0 hT178
                have hO := hO.tch0 hT178
                have hBx := hBx.tch0 hT178
                have hLc := hL.tch0 hT0
                have hB147 := hB147.tch0 hT178
                have hA := hA.tch0 hT178
                have hB := hB.tch0 hT178
                refine ⟨hBx, ?_⟩
                refine d_one 6 (by kernel_rfl) (by rfl) (by kernel_rfl) (S_call (args := [.agg #[.slice A154 (cl n) ca156, .slice B155 (cl n) cb157]]) (by kernel_rfl) (rlen_lit (cl n) A154 B155 ca156 cb157 aw158 wt159 hp152 _ hA.1 hB.1 (cl_le n) hRel hO.nodup hO.lt_) ?_)
                rintro _ w179 ⟨rfl, hT180⟩
                have hT0 := hT0.t0 hT180
                have hO := hO.tch0 hT180
                have hBx := hBx.tch0 hT180
                have hLc := hL.tch0 hT0
                have hB147 := hB147.tch0 hT180
                have hA := hA.tch0 hT180
                have hB := hB.tch0 hT180
                refine ⟨hBx, ?_⟩
                refine d_takes [7, 8, 9] (listed' := #[true, true, true, true, true, true, true, true, true, true, false, false, false, false, false, false, false, false, false, false, false, false, false]) (ρ' := upd (upd (upd (upd (upd (upd (upd (upd (upd (upd (upd (upd (upd (upd (updL ρ [(0, .int .i64 n), (1, .slice L mm cl_), (4, .bool false), (5, .pointer (some ⟨p8, 0, none⟩)), (6, .pointer (some ⟨w9.heap.size, 0, none⟩)), (7, .int .i64 ((i : Nat) : Int)), (8, .pointer (some ⟨w23.heap.size, 0, none⟩)), (9, .bool true), (10, .int .i64 ((ds i).2.1)), (11, .bool false), (30, .bool (decide (((i : Nat) : Int) < (mm : Int))))]) 12 (.int .i64 0)) 59 (.agg #[.slice A154 (cl n) ca156, .slice B155 (cl n) cb157])) 60 (.int .i64 ((ds i).2.1))) 61 (.bool (isB (cl n) ((ds i).2.1)))) 67 (.bool true)) 68 (.bool false)) 69 (.bool false)) 70 (.pointer (some ⟨p8, 0, none⟩))) 72 (.agg #[.slice A154 (cl n) ca156, .slice B155 (cl n) cb157])) 71 (.int .i64 (hp152.length : Int))) 73 (.int .i64 (hp152.length : Int))) 74 (.bool ((hp152.length : Int) != (hp152.length : Int)))) 75 (.bool ((hp152.length : Int) != (hp152.length : Int)))) 76 (.bool ((hp152.length : Int) != (hp152.length : Int)))) hBx (by kernel_rfl) ?_
                cases hb181 : (hp152.length : Int) != (hp152.length : Int)
                · replace hb181 : (hp152.length : Int) = (hp152.length : Int) := (bne_eq_false_iff_eq.1 hb181)
                  refine d_takes [10, 11, 13] (listed' := #[true, true, true, true, true, true, true, true, true, true, true, true, false, true, false, false, false, false, false, false, false, false, false]) (ρ' := upd (upd (upd (upd (upd (upd (upd (upd (upd (upd (upd (upd (upd (upd (upd (upd (upd (updL ρ [(0, .int .i64 n), (1, .slice L mm cl_), (4, .bool false), (5, .pointer (some ⟨p8, 0, none⟩)), (6, .pointer (some ⟨w9.heap.size, 0, none⟩)), (7, .int .i64 ((i : Nat) : Int)), (8, .pointer (some ⟨w23.heap.size, 0, none⟩)), (9, .bool true), (10, .int .i64 ((ds i).2.1)), (11, .bool false), (30, .bool (decide (((i : Nat) : Int) < (mm : Int))))]) 12 (.int .i64 0)) 59 (.agg #[.slice A154 (cl n) ca156, .slice B155 (cl n) cb157])) 60 (.int .i64 ((ds i).2.1))) 61 (.bool (isB (cl n) ((ds i).2.1)))) 67 (.bool true)) 68 (.bool false)) 69 (.bool false)) 70 (.pointer (some ⟨p8, 0, none⟩))) 72 (.agg #[.slice A154 (cl n) ca156, .slice B155 (cl n) cb157])) 71 (.int .i64 (hp152.length : Int))) 73 (.int .i64 (hp152.length : Int))) 74 (.bool false)) 75 (.bool false)) 76 (.bool false)) 77 (.pointer (some ⟨p8, 0, none⟩))) 78 (.int .i64 ((ds i).2.1))) 80 (.bool false)) hBx (by kernel_rfl) ?_
                  refine d_one 12 (by kernel_rfl) (by rfl) (by kernel_rfl) (S_call (args := [.pointer (some ⟨p8, 0, none⟩), .int .i64 ((ds i).2.1)]) (by kernel_rfl) (has_lit F151 p8 (cl n) hp152 aw158 ((ds i).2.1) false _ hO (has_f hO.lt_ (by omega))) ?_)
                  rintro _ w182 ⟨rfl, hT183⟩
                  have hT0 := hT0.t0 hT183
                  have hO := hO.tch0 hT183
                  have hBx := hBx.tch0 hT183
                  have hLc := hL.tch0 hT0
                  have hB147 := hB147.tch0 hT183
                  have hA := hA.tch0 hT183
                  have hB := hB.tch0 hT183
                  refine ⟨hBx, ?_⟩
                  refine d_takes [14, 15, 16, 17, 18, 20] (listed' := #[true, true, true, true, true, true, true, true, true, true, true, true, true, true, true, true, true, true, true, false, true, false, false]) (ρ' := upd (upd (upd (upd (upd (upd (upd (upd (upd (upd (upd (upd (upd (upd (upd (upd (upd (upd (upd (upd (upd (upd (upd (upd (updL ρ [(0, .int .i64 n), (1, .slice L mm cl_), (4, .bool false), (5, .pointer (some ⟨p8, 0, none⟩)), (6, .pointer (some ⟨w9.heap.size, 0, none⟩)), (7, .int .i64 ((i : Nat) : Int)), (8, .pointer (some ⟨w23.heap.size, 0, none⟩)), (9, .bool true), (10, .int .i64 ((ds i).2.1)), (11, .bool false), (30, .bool (decide (((i : Nat) : Int) < (mm : Int))))]) 12 (.int .i64 0)) 59 (.agg #[.slice A154 (cl n) ca156, .slice B155 (cl n) cb157])) 60 (.int .i64 ((ds i).2.1))) 61 (.bool (isB (cl n) ((ds i).2.1)))) 67 (.bool true)) 68 (.bool false)) 69 (.bool false)) 70 (.pointer (some ⟨p8, 0, none⟩))) 72 (.agg #[.slice A154 (cl n) ca156, .slice B155 (cl n) cb157])) 71 (.int .i64 (hp152.length : Int))) 73 (.int .i64 (hp152.length : Int))) 74 (.bool false)) 75 (.bool false)) 76 (.bool false)) 77 (.pointer (some ⟨p8, 0, none⟩))) 78 (.int .i64 ((ds i).2.1))) 80 (.bool false)) 79 (.bool false)) 81 (.bool false)) 82 (.bool false)) 83 (.bool false)) 84 (.pointer (some ⟨p8, 0, none⟩))) 85 (.int .i64 ((ds i).2.1))) 87 (.int .i64 0)) hBx (by kernel_rfl) ?_
                  refine d_one 19 (by kernel_rfl) (by rfl) (by kernel_rfl) (S_call (args := [.pointer (some ⟨p8, 0, none⟩), .int .i64 ((ds i).2.1)]) (by kernel_rfl) (act_lit F151 p8 (cl n) hp152 aw158 ((ds i).2.1) 0 _ hO (act_f hO.acLen (by omega))) ?_)
                  rintro _ w184 ⟨rfl, hT185⟩
                  have hT0 := hT0.t0 hT185
                  have hO := hO.tch0 hT185
                  have hBx := hBx.tch0 hT185
                  have hLc := hL.tch0 hT0
                  have hB147 := hB147.tch0 hT185
                  have hA := hA.tch0 hT185
                  have hB := hB.tch0 hT185
                  refine ⟨hBx, ?_⟩
                  refine d_takes [21, 22] (listed' := #[true, true, true, true, true, true, true, true, true, true, true, true, true, true, true, true, true, true, true, true, true, true, true]) (ρ' := upd (upd (upd (upd (upd (upd (upd (upd (upd (upd (upd (upd (upd (upd (upd (upd (upd (upd (upd (upd (upd (upd (upd (upd (upd (upd (upd (updL ρ [(0, .int .i64 n), (1, .slice L mm cl_), (4, .bool false), (5, .pointer (some ⟨p8, 0, none⟩)), (6, .pointer (some ⟨w9.heap.size, 0, none⟩)), (7, .int .i64 ((i : Nat) : Int)), (8, .pointer (some ⟨w23.heap.size, 0, none⟩)), (9, .bool true), (10, .int .i64 ((ds i).2.1)), (11, .bool false), (30, .bool (decide (((i : Nat) : Int) < (mm : Int))))]) 12 (.int .i64 0)) 59 (.agg #[.slice A154 (cl n) ca156, .slice B155 (cl n) cb157])) 60 (.int .i64 ((ds i).2.1))) 61 (.bool (isB (cl n) ((ds i).2.1)))) 67 (.bool true)) 68 (.bool false)) 69 (.bool false)) 70 (.pointer (some ⟨p8, 0, none⟩))) 72 (.agg #[.slice A154 (cl n) ca156, .slice B155 (cl n) cb157])) 71 (.int .i64 (hp152.length : Int))) 73 (.int .i64 (hp152.length : Int))) 74 (.bool false)) 75 (.bool false)) 76 (.bool false)) 77 (.pointer (some ⟨p8, 0, none⟩))) 78 (.int .i64 ((ds i).2.1))) 80 (.bool false)) 79 (.bool false)) 81 (.bool false)) 82 (.bool false)) 83 (.bool false)) 84 (.pointer (some ⟨p8, 0, none⟩))) 85 (.int .i64 ((ds i).2.1))) 87 (.int .i64 0)) 86 (.int .i64 0)) 88 (.bool false)) 89 (.bool false)) hBx (by kernel_rfl) ?_
                  refine d_done (by kernel_rfl) ?_
                  refine W_cond false (by kernel_rfl) (by kernel_rfl) (fun h => nomatch h) (fun _ => ?_)
                  refine W_skip ?_
                  refine W_fg [(0, .int .i64 n), (1, .slice L mm cl_), (4, .bool false), (5, .pointer (some ⟨p8, 0, none⟩)), (6, .pointer (some ⟨w9.heap.size, 0, none⟩)), (7, .int .i64 ((i : Nat) : Int)), (8, .pointer (some ⟨w23.heap.size, 0, none⟩)), (9, .bool true), (10, .int .i64 ((ds i).2.1)), (11, .bool false), (12, .int .i64 0), (30, .bool (decide (((i : Nat) : Int) < (mm : Int)))), (61, .bool (isB (cl n) ((ds i).2.1))), (89, .bool false)] (by kernel_rfl) fun ρ => ?_
                  refine W_region (by kernel_rfl) ?_
                  refine seg2 (ρ' := upd (upd (updL ρ [(0, .int .i64 n), (1, .slice L mm cl_), (4, .bool false), (5, .pointer (some ⟨p8, 0, none⟩)), (6, .pointer (some ⟨w9.heap.size, 0, none⟩)), (7, .int .i64 ((i : Nat) : Int)), (8, .pointer (some ⟨w23.heap.size, 0, none⟩)), (9, .bool true), (10, .int .i64 ((ds i).2.1)), (11, .bool false), (12, .int .i64 0), (30, .bool (decide (((i : Nat) : Int) < (mm : Int)))), (61, .bool (isB (cl n) ((ds i).2.1))), (89, .bool false)]) 31 (.int .i64 ((i : Nat) : Int))) 32 (.int .i64 (IntKind.i64.wrap (((i : Nat) : Int) + 1)))) (by kernel_rfl) ?_
                  rw [show IntKind.i64.wrap (((i : Nat) : Int) + 1) = ((i : Nat) : Int) + 1 from wrap_i64 (by omega) (by omega)]
                  rw [show upd (upd (updL ρ [(0, .int .i64 n), (1, .slice L mm cl_), (4, .bool false), (5, .pointer (some ⟨p8, 0, none⟩)), (6, .pointer (some ⟨w9.heap.size, 0, none⟩)), (7, .int .i64 ((i : Nat) : Int)), (8, .pointer (some ⟨w23.heap.size, 0, none⟩)), (9, .bool true), (10, .int .i64 ((ds i).2.1)), (11, .bool false), (12, .int .i64 0), (30, .bool (decide (((i : Nat) : Int) < (mm : Int)))), (61, .bool (isB (cl n) ((ds i).2.1))), (89, .bool false)]) 31 (.int .i64 ((i : Nat) : Int))) 32 (.int .i64 (((i : Nat) : Int) + 1)) = upd (upd (updL ρ [(0, .int .i64 n), (1, .slice L mm cl_), (4, .bool false), (5, .pointer (some ⟨p8, 0, none⟩)), (6, .pointer (some ⟨w9.heap.size, 0, none⟩)), (7, .int .i64 ((i : Nat) : Int)), (8, .pointer (some ⟨w23.heap.size, 0, none⟩)), (9, .bool true), (10, .int .i64 ((ds i).2.1)), (11, .bool false), (12, .int .i64 0), (30, .bool (decide (((i : Nat) : Int) < (mm : Int)))), (61, .bool (isB (cl n) ((ds i).2.1))), (89, .bool false)]) 31 (.int .i64 ((i : Nat) : Int))) 32 (.int .i64 ((i + 1 : Nat) : Int)) from congrArg (fun z => upd (upd (updL ρ [(0, .int .i64 n), (1, .slice L mm cl_), (4, .bool false), (5, .pointer (some ⟨p8, 0, none⟩)), (6, .pointer (some ⟨w9.heap.size, 0, none⟩)), (7, .int .i64 ((i : Nat) : Int)), (8, .pointer (some ⟨w23.heap.size, 0, none⟩)), (9, .bool true), (10, .int .i64 ((ds i).2.1)), (11, .bool false), (12, .int .i64 0), (30, .bool (decide (((i : Nat) : Int) < (mm : Int)))), (61, .bool (isB (cl n) ((ds i).2.1))), (89, .bool false)]) 31 (.int .i64 ((i : Nat) : Int))) 32 (.int .i64 z)) (by omega)]
                  refine seg1 (ρ' := upd (upd (upd (updL ρ [(0, .int .i64 n), (1, .slice L mm cl_), (4, .bool false), (5, .pointer (some ⟨p8, 0, none⟩)), (6, .pointer (some ⟨w9.heap.size, 0, none⟩)), (7, .int .i64 ((i : Nat) : Int)), (8, .pointer (some ⟨w23.heap.size, 0, none⟩)), (9, .bool true), (10, .int .i64 ((ds i).2.1)), (11, .bool false), (12, .int .i64 0), (30, .bool (decide (((i : Nat) : Int) < (mm : Int)))), (61, .bool (isB (cl n) ((ds i).2.1))), (89, .bool false)]) 31 (.int .i64 ((i : Nat) : Int))) 32 (.int .i64 ((i + 1 : Nat) : Int))) 7 (.int .i64 ((i + 1 : Nat) : Int))) (by kernel_rfl) ?_
                  refine op_nil ?_
                  refine ⟨_, ?_, F151, hp152, aw158, A154, B155, ca156, cb157, wt159, i + 1, _, updL_self (by kernel_rfl), hac, hRel, ?_, hFb, nF_hBx, hT0, hO, hA, hB, hBx, hLc, rfl⟩
                  · omega
                  · omega
                · replace hb181 : (hp152.length : Int) ≠ (hp152.length : Int) := (bne_iff_ne.1 hb181)
                  exact absurd rfl hb181
            · replace hb170 : 0 ≤ (ds i).2.1 ∧ (ds i).2.1 < ((cl n) : Int) := (isB_t hb170)
              refine seg1 (ρ' := upd (upd (upd (upd (upd (upd (upd (upd (upd (upd (upd (upd (updL ρ [(0, .int .i64 n), (1, .slice L mm cl_), (4, .bool false), (5, .pointer (some ⟨p8, 0, none⟩)), (6, .pointer (some ⟨w9.heap.size, 0, none⟩)), (7, .int .i64 ((i : Nat) : Int)), (8, .pointer (some ⟨w23.heap.size, 0, none⟩)), (9, .bool true), (30, .bool (decide (((i : Nat) : Int) < (mm : Int))))]) 43 (.agg #[.slice A154 (cl n) ca156, .slice B155 (cl n) cb157])) 44 (.slice L mm cl_)) 45 (.int .i64 ((i : Nat) : Int))) 46 (ptrAt L (i * 3))) 47 (ptrAt L (i * 3 + 1))) 48 (.int .i64 ((ds i).2.1))) 10 (.int .i64 ((ds i).2.1))) 49 (.agg #[.slice A154 (cl n) ca156, .slice B155 (cl n) cb157])) 50 (.int .i64 ((ds i).2.1))) 51 (.bool true)) 52 (.bool true)) 53 (.pointer (some ⟨w9.heap.size, 1, none⟩))) (by kernel_rfl) ?_
              refine st (by kernel_rfl) (S_val (v := .slice B155 (cl n) cb157) (R_load (v := .slice B155 (cl n) cb157) (by kernel_rfl) (by kernel_rfl) ((hBx.cell 1).trans rfl)) ?_)
              refine seg1 (ρ' := upd (upd (upd (upd (upd (upd (upd (upd (upd (upd (upd (upd (upd (upd (updL ρ [(0, .int .i64 n), (1, .slice L mm cl_), (4, .bool false), (5, .pointer (some ⟨p8, 0, none⟩)), (6, .pointer (some ⟨w9.heap.size, 0, none⟩)), (7, .int .i64 ((i : Nat) : Int)), (8, .pointer (some ⟨w23.heap.size, 0, none⟩)), (9, .bool true), (30, .bool (decide (((i : Nat) : Int) < (mm : Int))))]) 43 (.agg #[.slice A154 (cl n) ca156, .slice B155 (cl n) cb157])) 44 (.slice L mm cl_)) 45 (.int .i64 ((i : Nat) : Int))) 46 (ptrAt L (i * 3))) 47 (ptrAt L (i * 3 + 1))) 48 (.int .i64 ((ds i).2.1))) 10 (.int .i64 ((ds i).2.1))) 49 (.agg #[.slice A154 (cl n) ca156, .slice B155 (cl n) cb157])) 50 (.int .i64 ((ds i).2.1))) 51 (.bool true)) 52 (.bool true)) 53 (.pointer (some ⟨w9.heap.size, 1, none⟩))) 54 (.slice B155 (cl n) cb157)) 55 (.int .i64 ((ds i).2.1))) (by kernel_rfl) ?_
              refine stv (v := ptrAt B155 (((ds i).2.1).toNat)) (by kernel_rfl) (R_indexRd1 (len := (cl n)) (cap := cb157) (k := .i64) (i := (ds i).2.1) (e := 4) (((ds i).2.1).toNat) hB.1 (by kernel_rfl) (by kernel_rfl) (by kernel_rfl) (by kernel_rfl) (by omega) (by omega)) ?_
              refine stv (v := .bool (wt159.getD (((ds i).2.1).toNat) false)) (by kernel_rfl) (R_loadRd (v := .bool (wt159.getD (((ds i).2.1).toNat) false)) hB.1 (by omega) (by kernel_rfl) (by kernel_rfl) (boolsV_at wt159 (by omega))) ?_
              refine seg2 (ρ' := upd (upd (upd (upd (upd (upd (upd (upd (upd (upd (upd (upd (upd (upd (upd (upd (upd (upd (updL ρ [(0, .int .i64 n), (1, .slice L mm cl_), (4, .bool false), (5, .pointer (some ⟨p8, 0, none⟩)), (6, .pointer (some ⟨w9.heap.size, 0, none⟩)), (7, .int .i64 ((i : Nat) : Int)), (8, .pointer (some ⟨w23.heap.size, 0, none⟩)), (9, .bool true), (30, .bool (decide (((i : Nat) : Int) < (mm : Int))))]) 43 (.agg #[.slice A154 (cl n) ca156, .slice B155 (cl n) cb157])) 44 (.slice L mm cl_)) 45 (.int .i64 ((i : Nat) : Int))) 46 (ptrAt L (i * 3))) 47 (ptrAt L (i * 3 + 1))) 48 (.int .i64 ((ds i).2.1))) 10 (.int .i64 ((ds i).2.1))) 49 (.agg #[.slice A154 (cl n) ca156, .slice B155 (cl n) cb157])) 50 (.int .i64 ((ds i).2.1))) 51 (.bool true)) 52 (.bool true)) 53 (.pointer (some ⟨w9.heap.size, 1, none⟩))) 54 (.slice B155 (cl n) cb157)) 55 (.int .i64 ((ds i).2.1))) 56 (ptrAt B155 (((ds i).2.1).toNat))) 57 (.bool (wt159.getD (((ds i).2.1).toNat) false))) 58 (.bool (wt159.getD (((ds i).2.1).toNat) false))) 11 (.bool (wt159.getD (((ds i).2.1).toNat) false))) (by kernel_rfl) ?_
              refine op_nil ?_
              refine W_seq ?_
              refine W_fg [(0, .int .i64 n), (1, .slice L mm cl_), (4, .bool false), (5, .pointer (some ⟨p8, 0, none⟩)), (6, .pointer (some ⟨w9.heap.size, 0, none⟩)), (7, .int .i64 ((i : Nat) : Int)), (8, .pointer (some ⟨w23.heap.size, 0, none⟩)), (9, .bool true), (10, .int .i64 ((ds i).2.1)), (11, .bool (wt159.getD (((ds i).2.1).toNat) false)), (30, .bool (decide (((i : Nat) : Int) < (mm : Int))))] (by kernel_rfl) fun ρ => ?_
              refine W_region (by kernel_rfl) ?_
              refine seg1 (ρ' := upd (updL ρ [(0, .int .i64 n), (1, .slice L mm cl_), (4, .bool false), (5, .pointer (some ⟨p8, 0, none⟩)), (6, .pointer (some ⟨w9.heap.size, 0, none⟩)), (7, .int .i64 ((i : Nat) : Int)), (8, .pointer (some ⟨w23.heap.size, 0, none⟩)), (9, .bool true), (10, .int .i64 ((ds i).2.1)), (11, .bool (wt159.getD (((ds i).2.1).toNat) false)), (30, .bool (decide (((i : Nat) : Int) < (mm : Int))))]) 12 (.int .i64 0)) (by kernel_rfl) ?_
              refine op_nil ?_
              refine W_seq ?_
              refine W_seq ?_
              refine W_region (by kernel_rfl) ?_
              refine st (by rfl) (S_val (v := .agg #[.slice A154 (cl n) ca156, .slice B155 (cl n) cb157]) (R_loadA [.slice A154 (cl n) ca156, .slice B155 (cl n) cb157] (by kernel_rfl) (by kernel_rfl) (by kernel_rfl) (fun k u hk => by rw [hBx.cell]; exact get_part _ 0 _ k u rfl hk)) ?_)
              refine seg1 (ρ' := upd (upd (upd (updL ρ [(0, .int .i64 n), (1, .slice L mm cl_), (4, .bool false), (5, .pointer (some ⟨p8, 0, none⟩)), (6, .pointer (some ⟨w9.heap.size, 0, none⟩)), (7, .int .i64 ((i : Nat) : Int)), (8, .pointer (some ⟨w23.heap.size, 0, none⟩)), (9, .bool true), (10, .int .i64 ((ds i).2.1)), (11, .bool (wt159.getD (((ds i).2.1).toNat) false)), (30, .bool (decide (((i : Nat) : Int) < (mm : Int))))]) 12 (.int .i64 0)) 59 (.agg #[.slice A154 (cl n) ca156, .slice B155 (cl n) cb157])) 60 (.int .i64 ((ds i).2.1))) (by kernel_rfl) ?_
              refine st (by rfl) (S_call (args := [.agg #[.slice A154 (cl n) ca156, .slice B155 (cl n) cb157], .int .i64 ((ds i).2.1)]) (by kernel_rfl) (ris_ok (cl n) A154 ca156 (.slice B155 (cl n) cb157) ((ds i).2.1) _) ?_)
              rintro _ w186 ⟨rfl, hT187⟩
              have hT0 := hT0.t0 hT187
              have hO := hO.tch0 hT187
              have hBx := hBx.tch0 hT187
              have hLc := hL.tch0 hT0
              have hB147 := hB147.tch0 hT187
              have hA := hA.tch0 hT187
              have hB := hB.tch0 hT187
              refine op_nil ?_
              refine W_cond (isB (cl n) ((ds i).2.1)) (by kernel_rfl) (by kernel_rfl) (fun hc188 => ?_) (fun hc188 => ?_)
              · replace hc188 : 0 ≤ (ds i).2.1 ∧ (ds i).2.1 < ((cl n) : Int) := (isB_t hc188)
                refine W_region (by kernel_rfl) ?_
                refine seg1 (ρ' := upd (upd (upd (upd (upd (updL ρ [(0, .int .i64 n), (1, .slice L mm cl_), (4, .bool false), (5, .pointer (some ⟨p8, 0, none⟩)), (6, .pointer (some ⟨w9.heap.size, 0, none⟩)), (7, .int .i64 ((i : Nat) : Int)), (8, .pointer (some ⟨w23.heap.size, 0, none⟩)), (9, .bool true), (10, .int .i64 ((ds i).2.1)), (11, .bool (wt159.getD (((ds i).2.1).toNat) false)), (30, .bool (decide (((i : Nat) : Int) < (mm : Int))))]) 12 (.int .i64 0)) 59 (.agg #[.slice A154 (cl n) ca156, .slice B155 (cl n) cb157])) 60 (.int .i64 ((ds i).2.1))) 61 (.bool (isB (cl n) ((ds i).2.1)))) 62 (.pointer (some ⟨w9.heap.size, 0, none⟩))) (by kernel_rfl) ?_
                refine st (by rfl) (S_val (v := .slice A154 (cl n) ca156) (R_load (v := .slice A154 (cl n) ca156) (by kernel_rfl) (by kernel_rfl) ((hBx.cell 0).trans rfl)) ?_)
                refine seg1 (ρ' := upd (upd (upd (upd (upd (upd (upd (updL ρ [(0, .int .i64 n), (1, .slice L mm cl_), (4, .bool false), (5, .pointer (some ⟨p8, 0, none⟩)), (6, .pointer (some ⟨w9.heap.size, 0, none⟩)), (7, .int .i64 ((i : Nat) : Int)), (8, .pointer (some ⟨w23.heap.size, 0, none⟩)), (9, .bool true), (10, .int .i64 ((ds i).2.1)), (11, .bool (wt159.getD (((ds i).2.1).toNat) false)), (30, .bool (decide (((i : Nat) : Int) < (mm : Int))))]) 12 (.int .i64 0)) 59 (.agg #[.slice A154 (cl n) ca156, .slice B155 (cl n) cb157])) 60 (.int .i64 ((ds i).2.1))) 61 (.bool (isB (cl n) ((ds i).2.1)))) 62 (.pointer (some ⟨w9.heap.size, 0, none⟩))) 63 (.slice A154 (cl n) ca156)) 64 (.int .i64 ((ds i).2.1))) (by kernel_rfl) ?_
                refine stv (v := ptrAt A154 (((ds i).2.1).toNat)) (by rfl) (R_indexRd1 (len := (cl n)) (cap := ca156) (k := .i64) (i := (ds i).2.1) (e := 3) (((ds i).2.1).toNat) hA.1 (by kernel_rfl) (by kernel_rfl) (by kernel_rfl) (by kernel_rfl) (by omega) (by omega)) ?_
                refine stv (v := .int .i64 (aw158.getD (((ds i).2.1).toNat) 0)) (by rfl) (R_loadRd (v := .int .i64 (aw158.getD (((ds i).2.1).toNat) 0)) hA.1 (by omega) (by kernel_rfl) (by kernel_rfl) (ints_at .i64 aw158 (by omega))) ?_
                refine seg1 (ρ' := upd (upd (upd (upd (upd (upd (upd (upd (upd (upd (updL ρ [(0, .int .i64 n), (1, .slice L mm cl_), (4, .bool false), (5, .pointer (some ⟨p8, 0, none⟩)), (6, .pointer (some ⟨w9.heap.size, 0, none⟩)), (7, .int .i64 ((i : Nat) : Int)), (8, .pointer (some ⟨w23.heap.size, 0, none⟩)), (9, .bool true), (10, .int .i64 ((ds i).2.1)), (11, .bool (wt159.getD (((ds i).2.1).toNat) false)), (30, .bool (decide (((i : Nat) : Int) < (mm : Int))))]) 12 (.int .i64 0)) 59 (.agg #[.slice A154 (cl n) ca156, .slice B155 (cl n) cb157])) 60 (.int .i64 ((ds i).2.1))) 61 (.bool (isB (cl n) ((ds i).2.1)))) 62 (.pointer (some ⟨w9.heap.size, 0, none⟩))) 63 (.slice A154 (cl n) ca156)) 64 (.int .i64 ((ds i).2.1))) 65 (ptrAt A154 (((ds i).2.1).toNat))) 66 (.int .i64 (aw158.getD (((ds i).2.1).toNat) 0))) 12 (.int .i64 (aw158.getD (((ds i).2.1).toNat) 0))) (by kernel_rfl) ?_
                refine op_nil ?_
                refine W_seq ?_
                refine W_fg [(0, .int .i64 n), (1, .slice L mm cl_), (4, .bool false), (5, .pointer (some ⟨p8, 0, none⟩)), (6, .pointer (some ⟨w9.heap.size, 0, none⟩)), (7, .int .i64 ((i : Nat) : Int)), (8, .pointer (some ⟨w23.heap.size, 0, none⟩)), (9, .bool true), (10, .int .i64 ((ds i).2.1)), (11, .bool (wt159.getD (((ds i).2.1).toNat) false)), (12, .int .i64 (aw158.getD (((ds i).2.1).toNat) 0)), (30, .bool (decide (((i : Nat) : Int) < (mm : Int)))), (61, .bool (isB (cl n) ((ds i).2.1)))] (by kernel_rfl) fun ρ => ?_
                refine W_draw (fun w' => Blk w' (w9.heap.size) 35 [.slice A154 (cl n) ca156, .slice B155 (cl n) cb157]) (by kernel_rfl) (by kernel_rfl) (by kernel_rfl) fun w189 hT190 hh191 => ?_
                have hT0 := hT0.t0 hT190
                have hO := hO.tch0 hT190
                have hBx := hBx.tch0 hT190
                have hLc := hL.tch0 hT0
                have hB147 := hB147.tch0 hT190
                have hA := hA.tch0 hT190
                have hB := hB.tch0 hT190
                refine d_takes [0, 1, 2, 3] (listed' := #[true, true, true, true, false, false, false, false, false, false, false, false, false, false, false, false, false, false, false, false, false, false, false]) (ρ' := upd (upd (upd (upd (updL ρ [(0, .int .i64 n), (1, .slice L mm cl_), (4, .bool false), (5, .pointer (some ⟨p8, 0, none⟩)), (6, .pointer (some ⟨w9.heap.size, 0, none⟩)), (7, .int .i64 ((i : Nat) : Int)), (8, .pointer (some ⟨w23.heap.size, 0, none⟩)), (9, .bool true), (10, .int .i64 ((ds i).2.1)), (11, .bool (wt159.getD (((ds i).2.1).toNat) false)), (12, .int .i64 (aw158.getD (((ds i).2.1).toNat) 0)), (30, .bool (decide (((i : Nat) : Int) < (mm : Int)))), (61, .bool (isB (cl n) ((ds i).2.1)))]) 67 (.bool true)) 68 (.bool false)) 69 (.bool false)) 70 (.pointer (some ⟨p8, 0, none⟩))) hBx (by kernel_rfl) ?_
                refine d_val (v := .agg #[.slice A154 (cl n) ca156, .slice B155 (cl n) cb157]) 5 (by rfl) (by kernel_rfl) (by kernel_rfl) (by kernel_rfl) (fun w' hs => by have hBx := hs; exact R_loadA [.slice A154 (cl n) ca156, .slice B155 (cl n) cb157] (by kernel_rfl) (by kernel_rfl) (by kernel_rfl) (fun k u hk => by rw [hBx.cell]; exact get_part _ 0 _ k u rfl hk)) hBx ?_
                refine d_one 4 (by kernel_rfl) (by rfl) (by kernel_rfl) (S_call (args := [.pointer (some ⟨p8, 0, none⟩)]) (by kernel_rfl) (len_ok F151 p8 (cl n) hp152 aw158 _ hO) ?_)
                rintro _ w192 ⟨rfl, hT193⟩
                have hT0 := hT0.t0 hT193
                have hO := hO.tch0 hT193
                have hBx := hBx.tch0 hT193
                have hLc := hL.tch0 hT0
                have hB147 := hB147.tch0 hT193
                have hA := hA.tch0 hT193
                have hB := hB.tch0 hT193
                refine ⟨hBx, ?_⟩
                refine d_one 6 (by kernel_rfl) (by rfl) (by kernel_rfl) (S_call (args := [.agg #[.slice A154 (cl n) ca156, .slice B155 (cl n) cb157]]) (by kernel_rfl) (rlen_lit (cl n) A154 B155 ca156 cb157 aw158 wt159 hp152 _ hA.1 hB.1 (cl_le n) hRel hO.nodup hO.lt_) ?_)
                rintro _ w194 ⟨rfl, hT195⟩
                have hT0 := hT0.t0 hT195
                have hO := hO.tch0 hT195
                have hBx := hBx.tch0 hT195
                have hLc := hL.tch0 hT0
                have hB147 := hB147.tch0 hT195
                have hA := hA.tch0 hT195
                have hB := hB.tch0 hT195
                refine ⟨hBx, ?_⟩
                refine d_takes [7, 8, 9] (listed' := #[true, true, true, true, true, true, true, true, true, true, false, false, false, false, false, false, false, false, false, false, false, false, false]) (ρ' := upd (upd (upd (upd (upd (upd (upd (upd (upd (upd (updL ρ [(0, .int .i64 n), (1, .slice L mm cl_), (4, .bool false), (5, .pointer (some ⟨p8, 0, none⟩)), (6, .pointer (some ⟨w9.heap.size, 0, none⟩)), (7, .int .i64 ((i : Nat) : Int)), (8, .pointer (some ⟨w23.heap.size, 0, none⟩)), (9, .bool true), (10, .int .i64 ((ds i).2.1)), (11, .bool (wt159.getD (((ds i).2.1).toNat) false)), (12, .int .i64 (aw158.getD (((ds i).2.1).toNat) 0)), (30, .bool (decide (((i : Nat) : Int) < (mm : Int)))), (61, .bool (isB (cl n) ((ds i).2.1)))]) 67 (.bool true)) 68 (.bool false)) 69 (.bool false)) 70 (.pointer (some ⟨p8, 0, none⟩))) 72 (.agg #[.slice A154 (cl n) ca156, .slice B155 (cl n) cb157])) 71 (.int .i64 (hp152.length : Int))) 73 (.int .i64 (hp152.length : Int))) 74 (.bool ((hp152.length : Int) != (hp152.length : Int)))) 75 (.bool ((hp152.length : Int) != (hp152.length : Int)))) 76 (.bool ((hp152.length : Int) != (hp152.length : Int)))) hBx (by kernel_rfl) ?_
                cases hb196 : (hp152.length : Int) != (hp152.length : Int)
                · replace hb196 : (hp152.length : Int) = (hp152.length : Int) := (bne_eq_false_iff_eq.1 hb196)
                  refine d_takes [10, 11, 13] (listed' := #[true, true, true, true, true, true, true, true, true, true, true, true, false, true, false, false, false, false, false, false, false, false, false]) (ρ' := upd (upd (upd (upd (upd (upd (upd (upd (upd (upd (upd (upd (upd (updL ρ [(0, .int .i64 n), (1, .slice L mm cl_), (4, .bool false), (5, .pointer (some ⟨p8, 0, none⟩)), (6, .pointer (some ⟨w9.heap.size, 0, none⟩)), (7, .int .i64 ((i : Nat) : Int)), (8, .pointer (some ⟨w23.heap.size, 0, none⟩)), (9, .bool true), (10, .int .i64 ((ds i).2.1)), (11, .bool (wt159.getD (((ds i).2.1).toNat) false)), (12, .int .i64 (aw158.getD (((ds i).2.1).toNat) 0)), (30, .bool (decide (((i : Nat) : Int) < (mm : Int)))), (61, .bool (isB (cl n) ((ds i).2.1)))]) 67 (.bool true)) 68 (.bool false)) 69 (.bool false)) 70 (.pointer (some ⟨p8, 0, none⟩))) 72 (.agg #[.slice A154 (cl n) ca156, .slice B155 (cl n) cb157])) 71 (.int .i64 (hp152.length : Int))) 73 (.int .i64 (hp152.length : Int))) 74 (.bool false)) 75 (.bool false)) 76 (.bool false)) 77 (.pointer (some ⟨p8, 0, none⟩))) 78 (.int .i64 ((ds i).2.1))) 80 (.bool (wt159.getD (((ds i).2.1).toNat) false))) hBx (by kernel_rfl) ?_
                  refine d_one 12 (by kernel_rfl) (by rfl) (by kernel_rfl) (S_call (args := [.pointer (some ⟨p8, 0, none⟩), .int .i64 ((ds i).2.1)]) (by kernel_rfl) (has_lit F151 p8 (cl n) hp152 aw158 ((ds i).2.1) (wt159.getD (((ds i).2.1).toNat) false) _ hO (hRel.has_t (by omega) (by omega))) ?_)
                  rintro _ w197 ⟨rfl, hT198⟩
                  have hT0 := hT0.t0 hT198
                  have hO := hO.tch0 hT198
                  have hBx := hBx.tch0 hT198
                  have hLc := hL.tch0 hT0
                  have hB147 := hB147.tch0 hT198
                  have hA := hA.tch0 hT198
                  have hB := hB.tch0 hT198
                  refine ⟨hBx, ?_⟩
                  refine d_takes [14, 15, 16] (listed' := #[true, true, true, true, true, true, true, true, true, true, true, true, true, true, true, true, true, false, false, false, false, false, false]) (ρ' := upd (upd (upd (upd (upd (upd (upd (upd (upd (upd (upd (upd (upd (upd (upd (upd (upd (updL ρ [(0, .int .i64 n), (1, .slice L mm cl_), (4, .bool false), (5, .pointer (some ⟨p8, 0, none⟩)), (6, .pointer (some ⟨w9.heap.size, 0, none⟩)), (7, .int .i64 ((i : Nat) : Int)), (8, .pointer (some ⟨w23.heap.size, 0, none⟩)), (9, .bool true), (10, .int .i64 ((ds i).2.1)), (11, .bool (wt159.getD (((ds i).2.1).toNat) false)), (12, .int .i64 (aw158.getD (((ds i).2.1).toNat) 0)), (30, .bool (decide (((i : Nat) : Int) < (mm : Int)))), (61, .bool (isB (cl n) ((ds i).2.1)))]) 67 (.bool true)) 68 (.bool false)) 69 (.bool false)) 70 (.pointer (some ⟨p8, 0, none⟩))) 72 (.agg #[.slice A154 (cl n) ca156, .slice B155 (cl n) cb157])) 71 (.int .i64 (hp152.length : Int))) 73 (.int .i64 (hp152.length : Int))) 74 (.bool false)) 75 (.bool false)) 76 (.bool false)) 77 (.pointer (some ⟨p8, 0, none⟩))) 78 (.int .i64 ((ds i).2.1))) 80 (.bool (wt159.getD (((ds i).2.1).toNat) false))) 79 (.bool (wt159.getD (((ds i).2.1).toNat) false))) 81 (.bool (!((wt159.getD (((ds i).2.1).toNat) false) == (wt159.getD (((ds i).2.1).toNat) false))))) 82 (.bool (!((wt159.getD (((ds i).2.1).toNat) false) == (wt159.getD (((ds i).2.1).toNat) false))))) 83 (.bool (!((wt159.getD (((ds i).2.1).toNat) false) == (wt159.getD (((ds i).2.1).toNat) false))))) hBx (by kernel_rfl) ?_
                  cases hb199 : (wt159.getD (((ds i).2.1).toNat) false) == (wt159.getD (((ds i).2.1).toNat) false)
                  · replace hb199 : (wt159.getD (((ds i).2.1).toNat) false) ≠ (wt159.getD (((ds i).2.1).toNat) false) := (ne_of_beq_false hb199)
                    exact absurd rfl hb199
                  · replace hb199 : wt159.getD (((ds i).2.1).toNat) false = wt159.getD (((ds i).2.1).toNat) false := (eq_of_beq hb199)
                    refine d_takes [17, 18, 20] (listed' := #[true, true, true, true, true, true, true, true, true, true, true, true, true, true, true, true, true, true, true, false, true, false, false]) (ρ' := upd (upd (upd (upd (upd (upd (upd (upd (upd (upd (upd (upd (upd (upd (upd (upd (upd (upd (upd (upd (updL ρ [(0, .int .i64 n), (1, .slice L mm cl_), (4, .bool false), (5, .pointer (some ⟨p8, 0, none⟩)), (6, .pointer (some ⟨w9.heap.size, 0, none⟩)), (7, .int .i64 ((i : Nat) : Int)), (8, .pointer (some ⟨w23.heap.size, 0, none⟩)), (9, .bool true), (10, .int .i64 ((ds i).2.1)), (11, .bool (wt159.getD (((ds i).2.1).toNat) false)), (12, .int .i64 (aw158.getD (((ds i).2.1).toNat) 0)), (30, .bool (decide (((i : Nat) : Int) < (mm : Int)))), (61, .bool (isB (cl n) ((ds i).2.1)))]) 67 (.bool true)) 68 (.bool false)) 69 (.bool false)) 70 (.pointer (some ⟨p8, 0, none⟩))) 72 (.agg #[.slice A154 (cl n) ca156, .slice B155 (cl n) cb157])) 71 (.int .i64 (hp152.length : Int))) 73 (.int .i64 (hp152.length : Int))) 74 (.bool false)) 75 (.bool false)) 76 (.bool false)) 77 (.pointer (some ⟨p8, 0, none⟩))) 78 (.int .i64 ((ds i).2.1))) 80 (.bool (wt159.getD (((ds i).2.1).toNat) false))) 79 (.bool (wt159.getD (((ds i).2.1).toNat) false))) 81 (.bool false)) 82 (.bool false)) 83 (.bool false)) 84 (.pointer (some ⟨p8, 0, none⟩))) 85 (.int .i64 ((ds i).2.1))) 87 (.int .i64 (aw158.getD (((ds i).2.1).toNat) 0))) hBx (by kernel_rfl) ?_
                    refine d_one 19 (by kernel_rfl) (by rfl) (by kernel_rfl) (S_call (args := [.pointer (some ⟨p8, 0, none⟩), .int .i64 ((ds i).2.1)]) (by kernel_rfl) (act_lit F151 p8 (cl n) hp152 aw158 ((ds i).2.1) (aw158.getD (((ds i).2.1).toNat) 0) _ hO (act_t hO.acLen (by omega) (by omega))) ?_)
                    rintro _ w200 ⟨rfl, hT201⟩
                    have hT0 := hT0.t0 hT201
                    have hO := hO.tch0 hT201
                    have hBx := hBx.tch0 hT201
                    have hLc := hL.tch0 hT0
                    have hB147 := hB147.tch0 hT201
                    have hA := hA.tch0 hT201
                    have hB := hB.tch0 hT201
                    refine ⟨hBx, ?_⟩
                    refine d_takes [21, 22] (listed' := #[true, true, true, true, true, true, true, true, true, true, true, true, true, true, true, true, true, true, true, true, true, true, true]) (ρ' := upd (upd (upd (upd (upd (upd (upd (upd (upd (upd (upd (upd (upd (upd (upd (upd (upd (upd (upd (upd (upd (upd (upd (updL ρ [(0, .int .i64 n), (1, .slice L mm cl_), (4, .bool false), (5, .pointer (some ⟨p8, 0, none⟩)), (6, .pointer (some ⟨w9.heap.size, 0, none⟩)), (7, .int .i64 ((i : Nat) : Int)), (8, .pointer (some ⟨w23.heap.size, 0, none⟩)), (9, .bool true), (10, .int .i64 ((ds i).2.1)), (11, .bool (wt159.getD (((ds i).2.1).toNat) false)), (12, .int .i64 (aw158.getD (((ds i).2.1).toNat) 0)), (30, .bool (decide (((i : Nat) : Int) < (mm : Int)))), (61, .bool (isB (cl n) ((ds i).2.1)))]) 67 (.bool true)) 68 (.bool false)) 69 (.bool false)) 70 (.pointer (some ⟨p8, 0, none⟩))) 72 (.agg #[.slice A154 (cl n) ca156, .slice B155 (cl n) cb157])) 71 (.int .i64 (hp152.length : Int))) 73 (.int .i64 (hp152.length : Int))) 74 (.bool false)) 75 (.bool false)) 76 (.bool false)) 77 (.pointer (some ⟨p8, 0, none⟩))) 78 (.int .i64 ((ds i).2.1))) 80 (.bool (wt159.getD (((ds i).2.1).toNat) false))) 79 (.bool (wt159.getD (((ds i).2.1).toNat) false))) 81 (.bool false)) 82 (.bool false)) 83 (.bool false)) 84 (.pointer (some ⟨p8, 0, none⟩))) 85 (.int .i64 ((ds i).2.1))) 87 (.int .i64 (aw158.getD (((ds i).2.1).toNat) 0))) 86 (.int .i64 (aw158.getD (((ds i).2.1).toNat) 0))) 88 (.bool ((aw158.getD (((ds i).2.1).toNat) 0) != (aw158.getD (((ds i).2.1).toNat) 0)))) 89 (.bool ((aw158.getD (((ds i).2.1).toNat) 0) != (aw158.getD (((ds i).2.1).toNat) 0)))) hBx (by kernel_rfl) ?_
                    refine d_done (by kernel_rfl) ?_
                    refine W_cond ((aw158.getD (((ds i).2.1).toNat) 0) != (aw158.getD (((ds i).2.1).toNat) 0)) (by kernel_rfl) (by kernel_rfl) (fun hc202 => ?_) (fun hc202 => ?_)
                    · replace hc202 : aw158.getD (((ds i).2.1).toNat) 0 ≠ aw158.getD (((ds i).2.1).toNat) 0 := (bne_iff_ne.1 hc202)
                      exact absurd rfl hc202
                    · replace hc202 : aw158.getD (((ds i).2.1).toNat) 0 = aw158.getD (((ds i).2.1).toNat) 0 := (bne_eq_false_iff_eq.1 hc202)
                      refine W_skip ?_
                      refine W_fg [(0, .int .i64 n), (1, .slice L mm cl_), (4, .bool false), (5, .pointer (some ⟨p8, 0, none⟩)), (6, .pointer (some ⟨w9.heap.size, 0, none⟩)), (7, .int .i64 ((i : Nat) : Int)), (8, .pointer (some ⟨w23.heap.size, 0, none⟩)), (9, .bool true), (10, .int .i64 ((ds i).2.1)), (11, .bool (wt159.getD (((ds i).2.1).toNat) false)), (12, .int .i64 (aw158.getD (((ds i).2.1).toNat) 0)), (30, .bool (decide (((i : Nat) : Int) < (mm : Int)))), (61, .bool (isB (cl n) ((ds i).2.1))), (89, .bool ((aw158.getD (((ds i).2.1).toNat) 0) != (aw158.getD (((ds i).2.1).toNat) 0)))] (by kernel_rfl) fun ρ => ?_
                      refine W_region (by kernel_rfl) ?_
                      refine seg2 (ρ' := upd (upd (updL ρ [(0, .int .i64 n), (1, .slice L mm cl_), (4, .bool false), (5, .pointer (some ⟨p8, 0, none⟩)), (6, .pointer (some ⟨w9.heap.size, 0, none⟩)), (7, .int .i64 ((i : Nat) : Int)), (8, .pointer (some ⟨w23.heap.size, 0, none⟩)), (9, .bool true), (10, .int .i64 ((ds i).2.1)), (11, .bool (wt159.getD (((ds i).2.1).toNat) false)), (12, .int .i64 (aw158.getD (((ds i).2.1).toNat) 0)), (30, .bool (decide (((i : Nat) : Int) < (mm : Int)))), (61, .bool (isB (cl n) ((ds i).2.1))), (89, .bool ((aw158.getD (((ds i).2.1).toNat) 0) != (aw158.getD (((ds i).2.1).toNat) 0)))]) 31 (.int .i64 ((i : Nat) : Int))) 32 (.int .i64 (IntKind.i64.wrap (((i : Nat) : Int) + 1)))) (by kernel_rfl) ?_
                      rw [show IntKind.i64.wrap (((i : Nat) : Int) + 1) = ((i : Nat) : Int) + 1 from wrap_i64 (by omega) (by omega)]
                      rw [show upd (upd (updL ρ [(0, .int .i64 n), (1, .slice L mm cl_), (4, .bool false), (5, .pointer (some ⟨p8, 0, none⟩)), (6, .pointer (some ⟨w9.heap.size, 0, none⟩)), (7, .int .i64 ((i : Nat) : Int)), (8, .pointer (some ⟨w23.heap.size, 0, none⟩)), (9, .bool true), (10, .int .i64 ((ds i).2.1)), (11, .bool (wt159.getD (((ds i).2.1).toNat) false)), (12, .int .i64 (aw158.getD (((ds i).2.1).toNat) 0)), (30, .bool (decide (((i : Nat) : Int) < (mm : Int)))), (61, .bool (isB (cl n) ((ds i).2.1))), (89, .bool ((aw158.getD (((ds i).2.1).toNat) 0) != (aw158.getD (((ds i).2.1).toNat) 0)))]) 31 (.int .i64 ((i : Nat) : Int))) 32 (.int .i64 (((i : Nat) : Int) + 1)) = upd (upd (updL ρ [(0, .int .i64 n), (1, .slice L mm cl_), (4, .bool false), (5, .pointer (some ⟨p8, 0, none⟩)), (6, .pointer (some ⟨w9.heap.size, 0, none⟩)), (7, .int .i64 ((i : Nat) : Int)), (8, .pointer (some ⟨w23.heap.size, 0, none⟩)), (9, .bool true), (10, .int .i64 ((ds i).2.1)), (11, .bool (wt159.getD (((ds i).2.1).toNat) false)), (12, .int .i64 (aw158.getD (((ds i).2.1).toNat) 0)), (30, .bool (decide (((i : Nat) : Int) < (mm : Int)))), (61, .bool (isB (cl n) ((ds i).2.1))), (89, .bool ((aw158.getD (((ds i).2.1).toNat) 0) != (aw158.getD (((ds i).2.1).toNat) 0)))]) 31 (.int .i64 ((i : Nat) : Int))) 32 (.int .i64 ((i + 1 : Nat) : Int)) from congrArg (fun z => upd (upd (updL ρ [(0, .int .i64 n), (1, .slice L mm cl_), (4, .bool false), (5, .pointer (some ⟨p8, 0, none⟩)), (6, .pointer (some ⟨w9.heap.size, 0, none⟩)), (7, .int .i64 ((i : Nat) : Int)), (8, .pointer (some ⟨w23.heap.size, 0, none⟩)), (9, .bool true), (10, .int .i64 ((ds i).2.1)), (11, .bool (wt159.getD (((ds i).2.1).toNat) false)), (12, .int .i64 (aw158.getD (((ds i).2.1).toNat) 0)), (30, .bool (decide (((i : Nat) : Int) < (mm : Int)))), (61, .bool (isB (cl n) ((ds i).2.1))), (89, .bool ((aw158.getD (((ds i).2.1).toNat) 0) != (aw158.getD (((ds i).2.1).toNat) 0)))]) 31 (.int .i64 ((i : Nat) : Int))) 32 (.int .i64 z)) (by omega)]
                      refine seg1 (ρ' := upd (upd (upd (updL ρ [(0, .int .i64 n), (1, .slice L mm cl_), (4, .bool false), (5, .pointer (some ⟨p8, 0, none⟩)), (6, .pointer (some ⟨w9.heap.size, 0, none⟩)), (7, .int .i64 ((i : Nat) : Int)), (8, .pointer (some ⟨w23.heap.size, 0, none⟩)), (9, .bool true), (10, .int .i64 ((ds i).2.1)), (11, .bool (wt159.getD (((ds i).2.1).toNat) false)), (12, .int .i64 (aw158.getD (((ds i).2.1).toNat) 0)), (30, .bool (decide (((i : Nat) : Int) < (mm : Int)))), (61, .bool (isB (cl n) ((ds i).2.1))), (89, .bool ((aw158.getD (((ds i).2.1).toNat) 0) != (aw158.getD (((ds i).2.1).toNat) 0)))]) 31 (.int .i64 ((i : Nat) : Int))) 32 (.int .i64 ((i + 1 : Nat) : Int))) 7 (.int .i64 ((i + 1 : Nat) : Int))) (by kernel_rfl) ?_
                      refine op_nil ?_
                      refine ⟨_, ?_, F151, hp152, aw158, A154, B155, ca156, cb157, wt159, i + 1, _, updL_self (by kernel_rfl), hac, hRel, ?_, hFb, nF_hBx, hT0, hO, hA, hB, hBx, hLc, rfl⟩
                      · omega
                      · omega
                · replace hb196 : (hp152.length : Int) ≠ (hp152.length : Int) := (bne_iff_ne.1 hb196)
                  exact absurd rfl hb196
              · replace hc188 : (ds i).2.1 < 0 ∨ ((cl n) : Int) ≤ (ds i).2.1 := (isB_f hc188)
                exfalso; omega
        · replace hc22 : (mm : Int) ≤ ((i : Nat) : Int) := (Int.not_lt.1 (of_decide_eq_false hc22))
          refine W_exit ?_
          refine X_hit ?_
          refine W_seq ?_
          refine W_region (by kernel_rfl) ?_
          refine st (by rfl) (S_call (args := []) (by kernel_rfl) (awake8_ok _) ?_)
          rintro _ w203 ⟨rfl, hT204⟩
          have hT0 := hT0.t0 hT204
          have hO := hO.tch0 hT204
          have hA := hA.tch0 hT204
          have hB := hB.tch0 hT204
          have hBx := hBx.tch0 hT204
          have hLc := hL.tch0 hT0
          refine seg1 (ρ' := upd (upd (upd (upd (upd (upd (updL ρ [(0, .int .i64 n), (1, .slice L mm cl_), (4, .bool false), (5, .pointer (some ⟨p8, 0, none⟩)), (6, .pointer (some ⟨w9.heap.size, 0, none⟩)), (7, .int .i64 ((i : Nat) : Int))]) 27 (.int .i64 ((i : Nat) : Int))) 28 (.slice L mm cl_)) 29 (.int .i64 (mm : Int))) 30 (.bool (decide (((i : Nat) : Int) < (mm : Int))))) 90 (.bool true)) 4 (.bool true)) (by kernel_rfl) ?_
          refine op_nil ?_
          refine W_ret ?_
          exact ⟨_, Res_of (v := .bool true) (by kernel_rfl), ⟨rfl, hT0⟩⟩
  · replace hb1 : 150 < (mm : Int) := (of_decide_eq_true hb1)
    refine seg3 (ρ' := upd (upd (upd (upd (upd (upd (upd (upd (ini [.int .i64 n, .slice L mm cl_]) 4 (.bool false)) 13 (.slice L mm cl_)) 14 (.int .i64 (mm : Int))) 15 (.bool true)) 16 (.bool true)) 17 (undef)) 18 (undef)) 19 (.bool true)) (by kernel_rfl) ?_
    refine op_nil ?_
    refine W_cond true (by kernel_rfl) (by kernel_rfl) (fun _ => ?_) (fun h => nomatch h)
    refine W_seq ?_
    refine W_fg [(0, .int .i64 n), (1, .slice L mm cl_), (4, .bool false), (19, .bool true)] (by kernel_rfl) fun ρ => ?_
    refine W_region (by kernel_rfl) ?_
    refine st (by rfl) (S_call (args := []) (by kernel_rfl) (awake8_ok _) ?_)
    rintro _ w205 ⟨rfl, hT206⟩
    have hT0 := hT206
    refine seg1 (ρ' := upd (upd (updL ρ [(0, .int .i64 n), (1, .slice L mm cl_), (4, .bool false), (19, .bool true)]) 20 (.bool true)) 4 (.bool true)) (by kernel_rfl) ?_
    refine op_nil ?_
    refine W_ret ?_
    exact ⟨_, Res_of (v := .bool true) (by kernel_rfl), ⟨rfl, hT0⟩⟩

end Go.Proofs.YthfjceemphhgcaaV
