/- Walks of functions of the program and of the document's texts: each call returns what the plain function says, and turns nothing that lay. The conditions stand with each theorem. -/
import Derived.Test.YthfjceemphhgcaaProg
import Derived.Test.YthfjceemphhgcaaVx2
import Derived.Test.YthfjceemphhgcaaU4
set_option linter.unusedVariables false
set_option linter.unusedSimpArgs false
namespace Go.Proofs.YthfjceemphhgcaaV
open Go Go.RowKit Go.Proofs

def LastOk (ac : List Int) (hq : List Nat) (la : Int) : Prop := la = -1 ∨ (0 ≤ la ∧ ∀ y, y ∈ hq → ac.getD y 0 < ac.getD la.toNat 0 ∨ (ac.getD la.toNat 0 = ac.getD y 0 ∧ la.toNat < y))
theorem PopR.yes_ {ac : List Int} {hp hp' : List Nat} {a : Int} {r : Bool} (h : PopR ac hp a r hp') (h0 : 0 < hp.length) : r = true ∧ ∃ x : Nat, a = x ∧ x ∈ hp ∧ (x :: hp').Perm hp ∧ ∀ y, y ∈ hp → y ≠ x → HeapP.lt ac x y := by
  rcases h with h | ⟨_, _, rfl, _⟩
  · exact h
  · simp at h0
theorem PopR.no_ {ac : List Int} {hp hp' : List Nat} {a : Int} {r : Bool} (h : PopR ac hp a r hp') (h0 : hp.length = 0) : r = false ∧ a = -1 := by
  rcases h with ⟨_, x, _, h3, _⟩ | ⟨h1, h2, _⟩
  · rw [List.length_eq_zero_iff.1 h0] at h3; cases h3
  · exact ⟨h1, h2⟩
theorem has_out {hp : List Nat} {x : Nat} (h : x ∉ hp) : HeapP.hasB hp (x : Int) = false := by unfold HeapP.hasB; simp [h]
theorem act_x {ac : List Int} {n x : Nat} (hl : ac.length = n) (h : x < n) : HeapP.actB ac (x : Int) = ac.getD x 0 := by unfold HeapP.actB; rw [if_pos (by omega), Int.toNat_natCast]
theorem LastOk.next {ac : List Int} {hq hq' : List Nat} {x : Nat} (hx : ∀ y, y ∈ hq → y ≠ x → HeapP.lt ac x y) (hp : (x :: hq').Perm hq) (hn : x ∉ hq') : LastOk ac hq' (x : Int) := by
  refine .inr ⟨by omega, fun y hy => ?_⟩
  have := hx y (hp.mem_iff.1 (by simp [hy])) (fun e => hn (e ▸ hy))
  rw [HeapP.lt_iff] at this
  rw [Int.toNat_natCast]
  exact this

set_option maxRecDepth 100000 in
theorem OrderFalls_w (n : Int) (L : Option Addr) (mm cl_ : Nat) (cells : List Value) (ds : Nat → Int × Int × Int) (w : World) (hL : RdW w 3 mm L cells) (hD : Deeds mm cells ds) : Ret Try.prog 7 [.int .i64 n, .slice L mm cl_] w fun v w' => v = .bool true ∧ Tch N0 w w' := by
  refine enter Try.func7 rfl rfl ?_
  refine W_seq ?_
  refine W_region (by kernel_rfl) ?_
  refine seg1 (ρ' := upd (ini [.int .i64 n, .slice L mm cl_]) 4 (.bool false)) (by kernel_rfl) ?_
  refine op_nil ?_
  refine W_seq ?_
  refine W_seq ?_
  refine W_region (by kernel_rfl) ?_
  refine seg4 (ρ' := upd (upd (upd (upd (upd (ini [.int .i64 n, .slice L mm cl_]) 4 (.bool false)) 14 (.slice L mm cl_)) 15 (.int .i64 (mm : Int))) 16 (.bool (decide ((mm : Int) > 150)))) 17 (.bool (decide ((mm : Int) > 150)))) (by kernel_rfl) ?_
  cases hb1 : decide ((mm : Int) > 150)
  · replace hb1 : (mm : Int) ≤ 150 := (Int.not_lt.1 (of_decide_eq_false hb1))
    refine seg3 (ρ' := upd (upd (upd (upd (upd (upd (upd (upd (ini [.int .i64 n, .slice L mm cl_]) 4 (.bool false)) 14 (.slice L mm cl_)) 15 (.int .i64 (mm : Int))) 16 (.bool false)) 17 (.bool false)) 18 (.int .i64 n)) 19 (.bool (decide (n > 200)))) 20 (.bool (decide (n > 200)))) (by kernel_rfl) ?_
    refine op_nil ?_
    refine W_cond (decide (n > 200)) (by kernel_rfl) (by kernel_rfl) (fun hc2 => ?_) (fun hc2 => ?_)
    · replace hc2 : 200 < n := (of_decide_eq_true hc2)
      refine W_seq ?_
      refine W_fg [(0, .int .i64 n), (1, .slice L mm cl_), (4, .bool false), (20, .bool (decide (n > 200)))] (by kernel_rfl) fun ρ => ?_
      refine W_region (by kernel_rfl) ?_
      refine st (by rfl) (S_call (args := []) (by kernel_rfl) (awake8_ok _) ?_)
      rintro _ w3 ⟨rfl, hT4⟩
      have hT0 := hT4
      refine seg1 (ρ' := upd (upd (updL ρ [(0, .int .i64 n), (1, .slice L mm cl_), (4, .bool false), (20, .bool (decide (n > 200)))]) 21 (.bool true)) 4 (.bool true)) (by kernel_rfl) ?_
      refine op_nil ?_
      refine W_ret ?_
      exact ⟨_, Res_of (v := .bool true) (by kernel_rfl), ⟨rfl, hT0⟩⟩
    · replace hc2 : n ≤ 200 := (Int.not_lt.1 (of_decide_eq_false hc2))
      refine W_skip ?_
      refine W_seq ?_
      refine W_fg [(0, .int .i64 n), (1, .slice L mm cl_), (4, .bool false), (20, .bool (decide (n > 200)))] (by kernel_rfl) fun ρ => ?_
      refine W_region (by kernel_rfl) ?_
      refine seg1 (ρ' := upd (updL ρ [(0, .int .i64 n), (1, .slice L mm cl_), (4, .bool false), (20, .bool (decide (n > 200)))]) 22 (.int .i64 n)) (by kernel_rfl) ?_
      refine st (by rfl) (S_call (args := [.int .i64 n]) (by kernel_rfl) (new_ok n _) ?_)
      rintro _ w5 ⟨F7, p8, rfl, hO, hT6, hFb⟩
      have hT0 := hT6
      refine seg1 (ρ' := upd (upd (upd (updL ρ [(0, .int .i64 n), (1, .slice L mm cl_), (4, .bool false), (20, .bool (decide (n > 200)))]) 22 (.int .i64 n)) 23 (.pointer (some ⟨p8, 0, none⟩))) 5 (.pointer (some ⟨p8, 0, none⟩))) (by kernel_rfl) ?_
      refine op_nil ?_
      refine W_seq ?_
      refine W_seq ?_
      refine W_region (by kernel_rfl) ?_
      refine seg2 (ρ' := upd (upd (upd (upd (upd (updL ρ [(0, .int .i64 n), (1, .slice L mm cl_), (4, .bool false), (20, .bool (decide (n > 200)))]) 22 (.int .i64 n)) 23 (.pointer (some ⟨p8, 0, none⟩))) 5 (.pointer (some ⟨p8, 0, none⟩))) 24 (.pointer (some ⟨p8, 0, none⟩))) 25 (.bool false)) (by kernel_rfl) ?_
      refine op_nil ?_
      refine W_cond false (by kernel_rfl) (by kernel_rfl) (fun h => nomatch h) (fun _ => ?_)
      refine W_skip ?_
      refine W_seq ?_
      refine W_seq ?_
      refine W_region (by kernel_rfl) ?_
      refine seg1 (ρ' := upd (upd (upd (upd (upd (upd (updL ρ [(0, .int .i64 n), (1, .slice L mm cl_), (4, .bool false), (20, .bool (decide (n > 200)))]) 22 (.int .i64 n)) 23 (.pointer (some ⟨p8, 0, none⟩))) 5 (.pointer (some ⟨p8, 0, none⟩))) 24 (.pointer (some ⟨p8, 0, none⟩))) 25 (.bool false)) 6 (.int .i64 0)) (by kernel_rfl) ?_
      refine op_nil ?_
      refine W_block ?_
      refine W_loop (fun m ρ w' => ∃ (F : Nat → Prop) (hp : List Nat) (ac : List Int) (i : Nat) (ρ0 : Env), ρ = updL ρ0 [(0, .int .i64 n), (1, .slice L mm cl_), (4, .bool false), (5, .pointer (some ⟨p8, 0, none⟩)), (6, .int .i64 ((i : Nat) : Int))] ∧ (i ≤ mm) ∧ (∀ b, F b → w.heap.size ≤ b) ∧ Tch N0 w w' ∧ Ord F w' p8 (cl n) hp ac ∧ RdW w' 3 mm L cells ∧ m = mm - i) (m := mm - 0) ?_ ?_
      · refine ⟨F7, [], List.replicate (cl n) 0, 0, _, updL_self (by kernel_rfl), by omega, hFb, hT0, hO, hL.tch0 hT0, rfl⟩
      · rintro m ρ w9 ⟨F, hp, ac, i, ρ, rfl, hi, hFb, hT0, hO, hLc, rfl⟩
        refine W_seq ?_
        refine W_seq ?_
        refine W_region (by kernel_rfl) ?_
        refine seg4 (ρ' := upd (upd (upd (upd (updL ρ [(0, .int .i64 n), (1, .slice L mm cl_), (4, .bool false), (5, .pointer (some ⟨p8, 0, none⟩)), (6, .int .i64 ((i : Nat) : Int))]) 26 (.int .i64 ((i : Nat) : Int))) 27 (.slice L mm cl_)) 28 (.int .i64 (mm : Int))) 29 (.bool (decide (((i : Nat) : Int) < (mm : Int))))) (by kernel_rfl) ?_
        refine op_nil ?_
        refine W_cond (decide (((i : Nat) : Int) < (mm : Int))) (by kernel_rfl) (by kernel_rfl) (fun hc10 => ?_) (fun hc10 => ?_)
        · replace hc10 : ((i : Nat) : Int) < (mm : Int) := (of_decide_eq_true hc10)
          refine W_skip ?_
          refine W_seq ?_
          refine W_block ?_
          refine W_draw (fun w' => RdW w' 3 mm L cells) (by kernel_rfl) (by kernel_rfl) (by kernel_rfl) fun w11 hT12 hh13 => ?_
          have hT0 := hT0.t0 hT12
          have hO := hO.tch0 hT12
          have hLc := hL.tch0 hT0
          refine d_takes [0, 1, 3, 4] (listed' := #[true, true, false, true, true, false, false, false]) (ρ' := upd (upd (upd (upd (upd (upd (upd (upd (updL ρ [(0, .int .i64 n), (1, .slice L mm cl_), (4, .bool false), (5, .pointer (some ⟨p8, 0, none⟩)), (6, .int .i64 ((i : Nat) : Int))]) 26 (.int .i64 ((i : Nat) : Int))) 27 (.slice L mm cl_)) 28 (.int .i64 (mm : Int))) 29 (.bool (decide (((i : Nat) : Int) < (mm : Int))))) 32 (.pointer (some ⟨p8, 0, none⟩))) 33 (.int .i64 n)) 35 (.slice L mm cl_)) 36 (.int .i64 ((i : Nat) : Int))) hLc (by kernel_rfl) ?_
          refine d_val (v := ptrAt L (i * 3)) 5 (by rfl) (by kernel_rfl) (by kernel_rfl) (by kernel_rfl) (fun w' hs => by have hLc := hs; exact R_indexRd (sz := 3) (len := mm) (cap := cl_) (k := .i64) (i := ((i : Nat) : Int)) (e := 40) i hLc (by kernel_rfl) (by kernel_rfl) (by kernel_rfl) (by kernel_rfl) rfl (by omega)) hLc ?_
          refine d_two 2 6 (by kernel_rfl) (by rfl) (by rfl) (by kernel_rfl) (by kernel_rfl) ?_ ?_
          · refine (S_call (args := [.int .i64 n]) (by kernel_rfl) (rnew_ok F n _ hO.F_lt) ?_)
            rintro _ w14 ⟨gA16, gB17, rfl, hA, hB, hT15⟩
            have hT0 := hT0.t0 hT15
            have hO := hO.tch0 hT15
            have hLc := hL.tch0 hT0
            refine ⟨hLc, ?_⟩
            refine d_one 6 (by kernel_rfl) (by rfl) (by kernel_rfl) (S_val (v := .agg #[.int .i64 ((ds i).1), .int .i64 ((ds i).2.1), .int .i64 ((ds i).2.2)]) (R_loadRdA [.int .i64 ((ds i).1), .int .i64 ((ds i).2.1), .int .i64 ((ds i).2.2)] hLc (by omega) (by kernel_rfl) (by kernel_rfl) (by kernel_rfl) (hD.part (by omega))) ?_)
            refine ⟨hLc, ?_⟩
            have hz_ := hT0.size
            refine d_one 7 (by kernel_rfl) (by rfl) (by kernel_rfl) (S_call (args := [.pointer (some ⟨p8, 0, none⟩), .agg #[.slice (some ⟨gA16, 0, none⟩) (cl n) (cl n), .slice (some ⟨gB17, 0, none⟩) (cl n) (cl n)], .agg #[.int .i64 ((ds i).1), .int .i64 ((ds i).2.1), .int .i64 ((ds i).2.2)]]) (by kernel_rfl) (do_ok F p8 (cl n) hp ac (some ⟨gA16, 0, none⟩) (some ⟨gB17, 0, none⟩) (cl n) (cl n) (List.replicate (cl n) 0) (List.replicate (cl n) false) ((ds i).1) ((ds i).2.1) ((ds i).2.2) _ hO hA hB (okA_zero _)) ?_)
            rintro _ w18 ⟨F19, hp20, ac21, A22, B23, ca24, cb25, aw26, wt27, r28, rfl, hO, hA, hB, _, hmv29, hrel⟩
            have hT0 := (hT0).then hmv29.1 hFb
            have hLc := hL.tch0 hT0
            replace hFb := hmv29.ge hFb hz_
            refine ⟨hLc, ?_⟩
            refine d_done (by kernel_rfl) ?_
            refine W_fg [(0, .int .i64 n), (1, .slice L mm cl_), (4, .bool false), (5, .pointer (some ⟨p8, 0, none⟩)), (6, .int .i64 ((i : Nat) : Int)), (29, .bool (decide (((i : Nat) : Int) < (mm : Int))))] (by kernel_rfl) fun ρ => ?_
            refine W_region (by kernel_rfl) ?_
            refine seg2 (ρ' := upd (upd (updL ρ [(0, .int .i64 n), (1, .slice L mm cl_), (4, .bool false), (5, .pointer (some ⟨p8, 0, none⟩)), (6, .int .i64 ((i : Nat) : Int)), (29, .bool (decide (((i : Nat) : Int) < (mm : Int))))]) 30 (.int .i64 ((i : Nat) : Int))) 31 (.int .i64 (IntKind.i64.wrap (((i : Nat) : Int) + 1)))) (by kernel_rfl) ?_
            rw [show IntKind.i64.wrap (((i : Nat) : Int) + 1) = ((i : Nat) : Int) + 1 from wrap_i64 (by omega) (by omega)]
            rw [show upd (upd (updL ρ [(0, .int .i64 n), (1, .slice L mm cl_), (4, .bool false), (5, .pointer (some ⟨p8, 0, none⟩)), (6, .int .i64 ((i : Nat) : Int)), (29, .bool (decide (((i : Nat) : Int) < (mm : Int))))]) 30 (.int .i64 ((i : Nat) : Int))) 31 (.int .i64 (((i : Nat) : Int) + 1)) = upd (upd (updL ρ [(0, .int .i64 n), (1, .slice L mm cl_), (4, .bool false), (5, .pointer (some ⟨p8, 0, none⟩)), (6, .int .i64 ((i : Nat) : Int)), (29, .bool (decide (((i : Nat) : Int) < (mm : Int))))]) 30 (.int .i64 ((i : Nat) : Int))) 31 (.int .i64 ((i + 1 : Nat) : Int)) from congrArg (fun z => upd (upd (updL ρ [(0, .int .i64 n), (1, .slice L mm cl_), (4, .bool false), (5, .pointer (some ⟨p8, 0, none⟩)), (6, .int .i64 ((i : Nat) : Int)), (29, .bool (decide (((i : Nat) : Int) < (mm : Int))))]) 30 (.int .i64 ((i : Nat) : Int))) 31 (.int .i64 z)) (by omega)]
            refine seg1 (ρ' := upd (upd (upd (updL ρ [(0, .int .i64 n), (1, .slice L mm cl_), (4, .bool false), (5, .pointer (some ⟨p8, 0, none⟩)), (6, .int .i64 ((i : Nat) : Int)), (29, .bool (decide (((i : Nat) : Int) < (mm : Int))))]) 30 (.int .i64 ((i : Nat) : Int))) 31 (.int .i64 ((i + 1 : Nat) : Int))) 6 (.int .i64 ((i + 1 : Nat) : Int))) (by kernel_rfl) ?_
            refine op_nil ?_
            refine ⟨_, ?_, F19, hp20, ac21, i + 1, _, updL_self (by kernel_rfl), ?_, hFb, hT0, hO, hLc, rfl⟩
            · omega
            · omega
          · refine (S_val (v := .agg #[.int .i64 ((ds i).1), .int .i64 ((ds i).2.1), .int .i64 ((ds i).2.2)]) (R_loadRdA [.int .i64 ((ds i).1), .int .i64 ((ds i).2.1), .int .i64 ((ds i).2.2)] hLc (by omega) (by kernel_rfl) (by kernel_rfl) (by kernel_rfl) (hD.part (by omega))) ?_)
            refine ⟨hLc, ?_⟩
            refine d_one 2 (by kernel_rfl) (by rfl) (by kernel_rfl) (S_call (args := [.int .i64 n]) (by kernel_rfl) (rnew_ok F n _ hO.F_lt) ?_)
            rintro _ w30 ⟨gA32, gB33, rfl, hA, hB, hT31⟩
            have hT0 := hT0.t0 hT31
            have hO := hO.tch0 hT31
            have hLc := hL.tch0 hT0
            refine ⟨hLc, ?_⟩
            have hz_ := hT0.size
            refine d_one 7 (by kernel_rfl) (by rfl) (by kernel_rfl) (S_call (args := [.pointer (some ⟨p8, 0, none⟩), .agg #[.slice (some ⟨gA32, 0, none⟩) (cl n) (cl n), .slice (some ⟨gB33, 0, none⟩) (cl n) (cl n)], .agg #[.int .i64 ((ds i).1), .int .i64 ((ds i).2.1), .int .i64 ((ds i).2.2)]]) (by kernel_rfl) (do_ok F p8 (cl n) hp ac (some ⟨gA32, 0, none⟩) (some ⟨gB33, 0, none⟩) (cl n) (cl n) (List.replicate (cl n) 0) (List.replicate (cl n) false) ((ds i).1) ((ds i).2.1) ((ds i).2.2) _ hO hA hB (okA_zero _)) ?_)
            rintro _ w34 ⟨F35, hp36, ac37, A38, B39, ca40, cb41, aw42, wt43, r44, rfl, hO, hA, hB, _, hmv45, hrel⟩
            have hT0 := (hT0).then hmv45.1 hFb
            have hLc := hL.tch0 hT0
            replace hFb := hmv45.ge hFb hz_
            refine ⟨hLc, ?_⟩
            refine d_done (by kernel_rfl) ?_
            refine W_fg [(0, .int .i64 n), (1, .slice L mm cl_), (4, .bool false), (5, .pointer (some ⟨p8, 0, none⟩)), (6, .int .i64 ((i : Nat) : Int)), (29, .bool (decide (((i : Nat) : Int) < (mm : Int))))] (by kernel_rfl) fun ρ => ?_
            refine W_region (by kernel_rfl) ?_
            refine seg2 (ρ' := upd (upd (updL ρ [(0, .int .i64 n), (1, .slice L mm cl_), (4, .bool false), (5, .pointer (some ⟨p8, 0, none⟩)), (6, .int .i64 ((i : Nat) : Int)), (29, .bool (decide (((i : Nat) : Int) < (mm : Int))))]) 30 (.int .i64 ((i : Nat) : Int))) 31 (.int .i64 (IntKind.i64.wrap (((i : Nat) : Int) + 1)))) (by kernel_rfl) ?_
            rw [show IntKind.i64.wrap (((i : Nat) : Int) + 1) = ((i : Nat) : Int) + 1 from wrap_i64 (by omega) (by omega)]
            rw [show upd (upd (updL ρ [(0, .int .i64 n), (1, .slice L mm cl_), (4, .bool false), (5, .pointer (some ⟨p8, 0, none⟩)), (6, .int .i64 ((i : Nat) : Int)), (29, .bool (decide (((i : Nat) : Int) < (mm : Int))))]) 30 (.int .i64 ((i : Nat) : Int))) 31 (.int .i64 (((i : Nat) : Int) + 1)) = upd (upd (updL ρ [(0, .int .i64 n), (1, .slice L mm cl_), (4, .bool false), (5, .pointer (some ⟨p8, 0, none⟩)), (6, .int .i64 ((i : Nat) : Int)), (29, .bool (decide (((i : Nat) : Int) < (mm : Int))))]) 30 (.int .i64 ((i : Nat) : Int))) 31 (.int .i64 ((i + 1 : Nat) : Int)) from congrArg (fun z => upd (upd (updL ρ [(0, .int .i64 n), (1, .slice L mm cl_), (4, .bool false), (5, .pointer (some ⟨p8, 0, none⟩)), (6, .int .i64 ((i : Nat) : Int)), (29, .bool (decide (((i : Nat) : Int) < (mm : Int))))]) 30 (.int .i64 ((i : Nat) : Int))) 31 (.int .i64 z)) (by omega)]
            refine seg1 (ρ' := upd (upd (upd (updL ρ [(0, .int .i64 n), (1, .slice L mm cl_), (4, .bool false), (5, .pointer (some ⟨p8, 0, none⟩)), (6, .int .i64 ((i : Nat) : Int)), (29, .bool (decide (((i : Nat) : Int) < (mm : Int))))]) 30 (.int .i64 ((i : Nat) : Int))) 31 (.int .i64 ((i + 1 : Nat) : Int))) 6 (.int .i64 ((i + 1 : Nat) : Int))) (by kernel_rfl) ?_
            refine op_nil ?_
            refine ⟨_, ?_, F35, hp36, ac37, i + 1, _, updL_self (by kernel_rfl), ?_, hFb, hT0, hO, hLc, rfl⟩
            · omega
            · omega
        · replace hc10 : (mm : Int) ≤ ((i : Nat) : Int) := (Int.not_lt.1 (of_decide_eq_false hc10))
          refine W_exit ?_
          refine X_hit ?_
          refine W_seq ?_
          refine W_region (by kernel_rfl) ?_
          refine seg1 (ρ' := upd (upd (upd (upd (upd (updL ρ [(0, .int .i64 n), (1, .slice L mm cl_), (4, .bool false), (5, .pointer (some ⟨p8, 0, none⟩)), (6, .int .i64 ((i : Nat) : Int))]) 26 (.int .i64 ((i : Nat) : Int))) 27 (.slice L mm cl_)) 28 (.int .i64 (mm : Int))) 29 (.bool (decide (((i : Nat) : Int) < (mm : Int))))) 40 (.pointer (some ⟨p8, 0, none⟩))) (by kernel_rfl) ?_
          refine st (by rfl) (S_call (args := [.pointer (some ⟨p8, 0, none⟩)]) (by kernel_rfl) (len_ok F p8 (cl n) hp ac _ hO) ?_)
          rintro _ w46 ⟨rfl, hT47⟩
          have hT0 := hT0.t0 hT47
          have hO := hO.tch0 hT47
          have hLc := hL.tch0 hT0
          refine seg1 (ρ' := upd (upd (upd (upd (upd (upd (upd (updL ρ [(0, .int .i64 n), (1, .slice L mm cl_), (4, .bool false), (5, .pointer (some ⟨p8, 0, none⟩)), (6, .int .i64 ((i : Nat) : Int))]) 26 (.int .i64 ((i : Nat) : Int))) 27 (.slice L mm cl_)) 28 (.int .i64 (mm : Int))) 29 (.bool (decide (((i : Nat) : Int) < (mm : Int))))) 40 (.pointer (some ⟨p8, 0, none⟩))) 41 (.int .i64 (hp.length : Int))) 7 (.int .i64 (hp.length : Int))) (by kernel_rfl) ?_
          refine op_nil ?_
          refine W_seq ?_
          have hplen : hp.length ≤ 1048576 := Nat.le_trans hO.len (cl_le n)
          refine W_region (by kernel_rfl) ?_
          refine seg1 (ρ' := upd (upd (upd (upd (upd (upd (upd (upd (updL ρ [(0, .int .i64 n), (1, .slice L mm cl_), (4, .bool false), (5, .pointer (some ⟨p8, 0, none⟩)), (6, .int .i64 ((i : Nat) : Int))]) 26 (.int .i64 ((i : Nat) : Int))) 27 (.slice L mm cl_)) 28 (.int .i64 (mm : Int))) 29 (.bool (decide (((i : Nat) : Int) < (mm : Int))))) 40 (.pointer (some ⟨p8, 0, none⟩))) 41 (.int .i64 (hp.length : Int))) 7 (.int .i64 (hp.length : Int))) 8 (.int .i64 (-1))) (by kernel_rfl) ?_
          refine op_nil ?_
          refine W_seq ?_
          refine W_seq ?_
          refine W_fg [(0, .int .i64 n), (1, .slice L mm cl_), (4, .bool false), (5, .pointer (some ⟨p8, 0, none⟩)), (6, .int .i64 ((i : Nat) : Int)), (7, .int .i64 (hp.length : Int)), (8, .int .i64 (-1)), (29, .bool (decide (((i : Nat) : Int) < (mm : Int))))] (by kernel_rfl) fun ρ => ?_
          refine W_region (by kernel_rfl) ?_
          refine seg1 (ρ' := upd (updL ρ [(0, .int .i64 n), (1, .slice L mm cl_), (4, .bool false), (5, .pointer (some ⟨p8, 0, none⟩)), (6, .int .i64 ((i : Nat) : Int)), (7, .int .i64 (hp.length : Int)), (8, .int .i64 (-1)), (29, .bool (decide (((i : Nat) : Int) < (mm : Int))))]) 9 (.int .i64 0)) (by kernel_rfl) ?_
          refine op_nil ?_
          refine W_block ?_
          refine W_loop (fun m ρ w' => ∃ (hq : List Nat) (la : Int) (j : Nat) (ρ0 : Env), ρ = updL ρ0 [(4, .bool false), (5, .pointer (some ⟨p8, 0, none⟩)), (7, .int .i64 (hp.length : Int)), (8, .int .i64 la), (9, .int .i64 ((j : Nat) : Int))] ∧ (hq.length + j = hp.length) ∧ (LastOk ac hq la) ∧ (la < (cl n : Int)) ∧ (-1 ≤ la) ∧ Tch N0 w w' ∧ Ord F w' p8 (cl n) hq ac ∧ m = hq.length + 1) (m := hp.length + 1) ?_ ?_
          · refine ⟨hp, -1, 0, _, updL_self (by kernel_rfl), by omega, .inl rfl, by omega, by omega, hT0, hO, rfl⟩
          · rintro m ρ w48 ⟨hq, la, j, ρ, rfl, hj, hLast, hlc, hl1, hT0, hO, rfl⟩
            have hpl : hp.length ≤ 1048576 := hplen
            refine W_seq ?_
            refine W_seq ?_
            refine W_region (by kernel_rfl) ?_
            refine seg3 (ρ' := upd (upd (upd (updL ρ [(4, .bool false), (5, .pointer (some ⟨p8, 0, none⟩)), (7, .int .i64 (hp.length : Int)), (8, .int .i64 la), (9, .int .i64 ((j : Nat) : Int))]) 42 (.int .i64 ((j : Nat) : Int))) 43 (.int .i64 (hp.length : Int))) 44 (.bool (decide (((j : Nat) : Int) < (hp.length : Int))))) (by kernel_rfl) ?_
            refine op_nil ?_
            refine W_cond (decide (((j : Nat) : Int) < (hp.length : Int))) (by kernel_rfl) (by kernel_rfl) (fun hc49 => ?_) (fun hc49 => ?_)
            · replace hc49 : ((j : Nat) : Int) < (hp.length : Int) := (of_decide_eq_true hc49)
              refine W_skip ?_
              refine W_seq ?_
              refine W_block ?_
              refine W_seq ?_
              refine W_region (by kernel_rfl) ?_
              refine seg1 (ρ' := upd (upd (upd (upd (updL ρ [(4, .bool false), (5, .pointer (some ⟨p8, 0, none⟩)), (7, .int .i64 (hp.length : Int)), (8, .int .i64 la), (9, .int .i64 ((j : Nat) : Int))]) 42 (.int .i64 ((j : Nat) : Int))) 43 (.int .i64 (hp.length : Int))) 44 (.bool (decide (((j : Nat) : Int) < (hp.length : Int))))) 48 (.pointer (some ⟨p8, 0, none⟩))) (by kernel_rfl) ?_
              have hltb := hO.lt_
              have hndb := hO.nodup
              have halb := hO.acLen
              refine st (by rfl) (S_call (args := [.pointer (some ⟨p8, 0, none⟩)]) (by kernel_rfl) (pop_ok F p8 (cl n) hq ac _ hO) ?_)
              rintro _ w50 ⟨a51, r52, hp53, rfl, hO, hT54, hr⟩
              have hT0 := (hT0).then hT54 hFb
              obtain ⟨rfl, x55, rfl, hx1, hx2, hx3⟩ := hr.yes_ (by omega)
              have hxn := hltb _ hx1
              have hxl := hx2.length_eq
              rw [List.length_cons] at hxl
              have hxo : x55 ∉ hp53 := (List.nodup_cons.1 (hx2.nodup_iff.2 hndb)).1
              have hz := hLast.imp id (fun q => And.intro q.1 (q.2 _ hx1))
              refine seg5 (ρ' := upd (upd (upd (upd (upd (upd (upd (upd (upd (upd (updL ρ [(4, .bool false), (5, .pointer (some ⟨p8, 0, none⟩)), (7, .int .i64 (hp.length : Int)), (8, .int .i64 la), (9, .int .i64 ((j : Nat) : Int))]) 42 (.int .i64 ((j : Nat) : Int))) 43 (.int .i64 (hp.length : Int))) 44 (.bool (decide (((j : Nat) : Int) < (hp.length : Int))))) 48 (.pointer (some ⟨p8, 0, none⟩))) 49 (.tuple #[.int .i64 ((x55 : Nat) : Int), .bool true])) 47 (.tuple #[.int .i64 ((x55 : Nat) : Int), .bool true])) 50 (.int .i64 ((x55 : Nat) : Int))) 51 (.bool true)) 10 (.int .i64 ((x55 : Nat) : Int))) 11 (.bool true)) (by kernel_rfl) ?_
              refine op_nil ?_
              refine W_seq ?_
              refine W_seq ?_
              refine W_fg [(4, .bool false), (5, .pointer (some ⟨p8, 0, none⟩)), (7, .int .i64 (hp.length : Int)), (8, .int .i64 la), (9, .int .i64 ((j : Nat) : Int)), (10, .int .i64 ((x55 : Nat) : Int)), (11, .bool true), (44, .bool (decide (((j : Nat) : Int) < (hp.length : Int))))] (by kernel_rfl) fun ρ => ?_
              refine W_region (by kernel_rfl) ?_
              refine seg5 (ρ' := upd (upd (upd (upd (upd (updL ρ [(4, .bool false), (5, .pointer (some ⟨p8, 0, none⟩)), (7, .int .i64 (hp.length : Int)), (8, .int .i64 la), (9, .int .i64 ((j : Nat) : Int)), (10, .int .i64 ((x55 : Nat) : Int)), (11, .bool true), (44, .bool (decide (((j : Nat) : Int) < (hp.length : Int))))]) 52 (.bool true)) 53 (.bool false)) 54 (.bool false)) 55 (.pointer (some ⟨p8, 0, none⟩))) 56 (.int .i64 ((x55 : Nat) : Int))) (by kernel_rfl) ?_
              refine st (by kernel_rfl) (S_call (args := [.pointer (some ⟨p8, 0, none⟩), .int .i64 ((x55 : Nat) : Int)]) (by kernel_rfl) (has_lit F p8 (cl n) hp53 ac ((x55 : Nat) : Int) false _ hO (has_out hxo)) ?_)
              rintro _ w56 ⟨rfl, hT57⟩
              have hT0 := hT0.t0 hT57
              have hO := hO.tch0 hT57
              refine seg5 (ρ' := upd (upd (upd (upd (upd (upd (upd (upd (upd (upd (upd (updL ρ [(4, .bool false), (5, .pointer (some ⟨p8, 0, none⟩)), (7, .int .i64 (hp.length : Int)), (8, .int .i64 la), (9, .int .i64 ((j : Nat) : Int)), (10, .int .i64 ((x55 : Nat) : Int)), (11, .bool true), (44, .bool (decide (((j : Nat) : Int) < (hp.length : Int))))]) 52 (.bool true)) 53 (.bool false)) 54 (.bool false)) 55 (.pointer (some ⟨p8, 0, none⟩))) 56 (.int .i64 ((x55 : Nat) : Int))) 57 (.bool false)) 58 (.bool false)) 59 (.bool false)) 60 (.int .i64 la)) 61 (.bool (decide (la ≥ 0)))) 62 (.bool (decide (la ≥ 0)))) (by kernel_rfl) ?_
              cases hb58 : decide (la ≥ 0)
              · replace hb58 : la < 0 := (Int.not_le.1 (of_decide_eq_false hb58))
                refine seg23 (ρ' := upd (upd (upd (upd (upd (upd (upd (upd (upd (upd (upd (upd (upd (upd (upd (upd (upd (upd (upd (upd (upd (upd (upd (upd (upd (upd (upd (upd (upd (upd (upd (upd (upd (upd (updL ρ [(4, .bool false), (5, .pointer (some ⟨p8, 0, none⟩)), (7, .int .i64 (hp.length : Int)), (8, .int .i64 la), (9, .int .i64 ((j : Nat) : Int)), (10, .int .i64 ((x55 : Nat) : Int)), (11, .bool true), (44, .bool (decide (((j : Nat) : Int) < (hp.length : Int))))]) 52 (.bool true)) 53 (.bool false)) 54 (.bool false)) 55 (.pointer (some ⟨p8, 0, none⟩))) 56 (.int .i64 ((x55 : Nat) : Int))) 57 (.bool false)) 58 (.bool false)) 59 (.bool false)) 60 (.int .i64 la)) 61 (.bool false)) 62 (.bool false)) 63 (undef)) 64 (undef)) 65 (undef)) 66 (undef)) 67 (undef)) 68 (undef)) 69 (undef)) 70 (undef)) 71 (undef)) 72 (undef)) 73 (undef)) 74 (undef)) 75 (undef)) 76 (undef)) 77 (undef)) 78 (undef)) 79 (undef)) 80 (undef)) 81 (undef)) 82 (undef)) 83 (undef)) 84 (.bool false)) 85 (.bool false)) (by kernel_rfl) ?_
                refine op_nil ?_
                refine W_cond false (by kernel_rfl) (by kernel_rfl) (fun h => nomatch h) (fun _ => ?_)
                refine W_skip ?_
                refine W_fg [(4, .bool false), (5, .pointer (some ⟨p8, 0, none⟩)), (7, .int .i64 (hp.length : Int)), (8, .int .i64 la), (9, .int .i64 ((j : Nat) : Int)), (10, .int .i64 ((x55 : Nat) : Int)), (11, .bool true), (44, .bool (decide (((j : Nat) : Int) < (hp.length : Int)))), (85, .bool false)] (by kernel_rfl) fun ρ => ?_
                refine W_region (by kernel_rfl) ?_
                refine seg2 (ρ' := upd (upd (updL ρ [(4, .bool false), (5, .pointer (some ⟨p8, 0, none⟩)), (7, .int .i64 (hp.length : Int)), (8, .int .i64 la), (9, .int .i64 ((j : Nat) : Int)), (10, .int .i64 ((x55 : Nat) : Int)), (11, .bool true), (44, .bool (decide (((j : Nat) : Int) < (hp.length : Int)))), (85, .bool false)]) 86 (.int .i64 ((x55 : Nat) : Int))) 8 (.int .i64 ((x55 : Nat) : Int))) (by kernel_rfl) ?_
                refine op_nil ?_
                refine W_region (by kernel_rfl) ?_
                refine seg2 (ρ' := upd (upd (upd (upd (updL ρ [(4, .bool false), (5, .pointer (some ⟨p8, 0, none⟩)), (7, .int .i64 (hp.length : Int)), (8, .int .i64 la), (9, .int .i64 ((j : Nat) : Int)), (10, .int .i64 ((x55 : Nat) : Int)), (11, .bool true), (44, .bool (decide (((j : Nat) : Int) < (hp.length : Int)))), (85, .bool false)]) 86 (.int .i64 ((x55 : Nat) : Int))) 8 (.int .i64 ((x55 : Nat) : Int))) 45 (.int .i64 ((j : Nat) : Int))) 46 (.int .i64 (IntKind.i64.wrap (((j : Nat) : Int) + 1)))) (by kernel_rfl) ?_
                rw [show IntKind.i64.wrap (((j : Nat) : Int) + 1) = ((j : Nat) : Int) + 1 from wrap_i64 (by omega) (by omega)]
                rw [show upd (upd (upd (upd (updL ρ [(4, .bool false), (5, .pointer (some ⟨p8, 0, none⟩)), (7, .int .i64 (hp.length : Int)), (8, .int .i64 la), (9, .int .i64 ((j : Nat) : Int)), (10, .int .i64 ((x55 : Nat) : Int)), (11, .bool true), (44, .bool (decide (((j : Nat) : Int) < (hp.length : Int)))), (85, .bool false)]) 86 (.int .i64 ((x55 : Nat) : Int))) 8 (.int .i64 ((x55 : Nat) : Int))) 45 (.int .i64 ((j : Nat) : Int))) 46 (.int .i64 (((j : Nat) : Int) + 1)) = upd (upd (upd (upd (updL ρ [(4, .bool false), (5, .pointer (some ⟨p8, 0, none⟩)), (7, .int .i64 (hp.length : Int)), (8, .int .i64 la), (9, .int .i64 ((j : Nat) : Int)), (10, .int .i64 ((x55 : Nat) : Int)), (11, .bool true), (44, .bool (decide (((j : Nat) : Int) < (hp.length : Int)))), (85, .bool false)]) 86 (.int .i64 ((x55 : Nat) : Int))) 8 (.int .i64 ((x55 : Nat) : Int))) 45 (.int .i64 ((j : Nat) : Int))) 46 (.int .i64 ((j + 1 : Nat) : Int)) from congrArg (fun z => upd (upd (upd (upd (updL ρ [(4, .bool false), (5, .pointer (some ⟨p8, 0, none⟩)), (7, .int .i64 (hp.length : Int)), (8, .int .i64 la), (9, .int .i64 ((j : Nat) : Int)), (10, .int .i64 ((x55 : Nat) : Int)), (11, .bool true), (44, .bool (decide (((j : Nat) : Int) < (hp.length : Int)))), (85, .bool false)]) 86 (.int .i64 ((x55 : Nat) : Int))) 8 (.int .i64 ((x55 : Nat) : Int))) 45 (.int .i64 ((j : Nat) : Int))) 46 (.int .i64 z)) (by omega)]
                refine seg1 (ρ' := upd (upd (upd (upd (upd (updL ρ [(4, .bool false), (5, .pointer (some ⟨p8, 0, none⟩)), (7, .int .i64 (hp.length : Int)), (8, .int .i64 la), (9, .int .i64 ((j : Nat) : Int)), (10, .int .i64 ((x55 : Nat) : Int)), (11, .bool true), (44, .bool (decide (((j : Nat) : Int) < (hp.length : Int)))), (85, .bool false)]) 86 (.int .i64 ((x55 : Nat) : Int))) 8 (.int .i64 ((x55 : Nat) : Int))) 45 (.int .i64 ((j : Nat) : Int))) 46 (.int .i64 ((j + 1 : Nat) : Int))) 9 (.int .i64 ((j + 1 : Nat) : Int))) (by kernel_rfl) ?_
                refine op_nil ?_
                refine ⟨_, ?_, hp53, ((x55 : Nat) : Int), j + 1, _, updL_self (by kernel_rfl), ?_, ?_, ?_, ?_, hT0, hO, rfl⟩
                · omega
                · omega
                · exact LastOk.next hx3 hx2 hxo
                · omega
                · omega
              · replace hb58 : 0 ≤ la := (of_decide_eq_true hb58)
                refine seg2 (ρ' := upd (upd (upd (upd (upd (upd (upd (upd (upd (upd (upd (upd (upd (updL ρ [(4, .bool false), (5, .pointer (some ⟨p8, 0, none⟩)), (7, .int .i64 (hp.length : Int)), (8, .int .i64 la), (9, .int .i64 ((j : Nat) : Int)), (10, .int .i64 ((x55 : Nat) : Int)), (11, .bool true), (44, .bool (decide (((j : Nat) : Int) < (hp.length : Int))))]) 52 (.bool true)) 53 (.bool false)) 54 (.bool false)) 55 (.pointer (some ⟨p8, 0, none⟩))) 56 (.int .i64 ((x55 : Nat) : Int))) 57 (.bool false)) 58 (.bool false)) 59 (.bool false)) 60 (.int .i64 la)) 61 (.bool true)) 62 (.bool true)) 63 (.pointer (some ⟨p8, 0, none⟩))) 64 (.int .i64 ((x55 : Nat) : Int))) (by kernel_rfl) ?_
                refine st (by kernel_rfl) (S_call (args := [.pointer (some ⟨p8, 0, none⟩), .int .i64 ((x55 : Nat) : Int)]) (by kernel_rfl) (act_lit F p8 (cl n) hp53 ac ((x55 : Nat) : Int) (ac.getD x55 0) _ hO (act_x halb hxn)) ?_)
                rintro _ w59 ⟨rfl, hT60⟩
                have hT0 := hT0.t0 hT60
                have hO := hO.tch0 hT60
                refine seg2 (ρ' := upd (upd (upd (upd (upd (upd (upd (upd (upd (upd (upd (upd (upd (upd (upd (upd (updL ρ [(4, .bool false), (5, .pointer (some ⟨p8, 0, none⟩)), (7, .int .i64 (hp.length : Int)), (8, .int .i64 la), (9, .int .i64 ((j : Nat) : Int)), (10, .int .i64 ((x55 : Nat) : Int)), (11, .bool true), (44, .bool (decide (((j : Nat) : Int) < (hp.length : Int))))]) 52 (.bool true)) 53 (.bool false)) 54 (.bool false)) 55 (.pointer (some ⟨p8, 0, none⟩))) 56 (.int .i64 ((x55 : Nat) : Int))) 57 (.bool false)) 58 (.bool false)) 59 (.bool false)) 60 (.int .i64 la)) 61 (.bool true)) 62 (.bool true)) 63 (.pointer (some ⟨p8, 0, none⟩))) 64 (.int .i64 ((x55 : Nat) : Int))) 65 (.int .i64 (ac.getD x55 0))) 66 (.pointer (some ⟨p8, 0, none⟩))) 67 (.int .i64 la)) (by kernel_rfl) ?_
                refine st (by kernel_rfl) (S_call (args := [.pointer (some ⟨p8, 0, none⟩), .int .i64 la]) (by kernel_rfl) (act_lit F p8 (cl n) hp53 ac la (ac.getD la.toNat 0) _ hO (act_t halb (by omega) (by omega))) ?_)
                rintro _ w61 ⟨rfl, hT62⟩
                have hT0 := hT0.t0 hT62
                have hO := hO.tch0 hT62
                refine seg2 (ρ' := upd (upd (upd (upd (upd (upd (upd (upd (upd (upd (upd (upd (upd (upd (upd (upd (upd (upd (upd (updL ρ [(4, .bool false), (5, .pointer (some ⟨p8, 0, none⟩)), (7, .int .i64 (hp.length : Int)), (8, .int .i64 la), (9, .int .i64 ((j : Nat) : Int)), (10, .int .i64 ((x55 : Nat) : Int)), (11, .bool true), (44, .bool (decide (((j : Nat) : Int) < (hp.length : Int))))]) 52 (.bool true)) 53 (.bool false)) 54 (.bool false)) 55 (.pointer (some ⟨p8, 0, none⟩))) 56 (.int .i64 ((x55 : Nat) : Int))) 57 (.bool false)) 58 (.bool false)) 59 (.bool false)) 60 (.int .i64 la)) 61 (.bool true)) 62 (.bool true)) 63 (.pointer (some ⟨p8, 0, none⟩))) 64 (.int .i64 ((x55 : Nat) : Int))) 65 (.int .i64 (ac.getD x55 0))) 66 (.pointer (some ⟨p8, 0, none⟩))) 67 (.int .i64 la)) 68 (.int .i64 (ac.getD la.toNat 0))) 69 (.bool (decide (ac.getD x55 0 > ac.getD la.toNat 0)))) 70 (.bool (decide (ac.getD x55 0 > ac.getD la.toNat 0)))) (by kernel_rfl) ?_
                cases hb63 : decide (ac.getD x55 0 > ac.getD la.toNat 0)
                · replace hb63 : ac.getD x55 0 ≤ ac.getD la.toNat 0 := (Int.not_lt.1 (of_decide_eq_false hb63))
                  refine seg2 (ρ' := upd (upd (upd (upd (upd (upd (upd (upd (upd (upd (upd (upd (upd (upd (upd (upd (upd (upd (upd (upd (upd (updL ρ [(4, .bool false), (5, .pointer (some ⟨p8, 0, none⟩)), (7, .int .i64 (hp.length : Int)), (8, .int .i64 la), (9, .int .i64 ((j : Nat) : Int)), (10, .int .i64 ((x55 : Nat) : Int)), (11, .bool true), (44, .bool (decide (((j : Nat) : Int) < (hp.length : Int))))]) 52 (.bool true)) 53 (.bool false)) 54 (.bool false)) 55 (.pointer (some ⟨p8, 0, none⟩))) 56 (.int .i64 ((x55 : Nat) : Int))) 57 (.bool false)) 58 (.bool false)) 59 (.bool false)) 60 (.int .i64 la)) 61 (.bool true)) 62 (.bool true)) 63 (.pointer (some ⟨p8, 0, none⟩))) 64 (.int .i64 ((x55 : Nat) : Int))) 65 (.int .i64 (ac.getD x55 0))) 66 (.pointer (some ⟨p8, 0, none⟩))) 67 (.int .i64 la)) 68 (.int .i64 (ac.getD la.toNat 0))) 69 (.bool false)) 70 (.bool false)) 71 (.pointer (some ⟨p8, 0, none⟩))) 72 (.int .i64 ((x55 : Nat) : Int))) (by kernel_rfl) ?_
                  refine st (by kernel_rfl) (S_call (args := [.pointer (some ⟨p8, 0, none⟩), .int .i64 ((x55 : Nat) : Int)]) (by kernel_rfl) (act_lit F p8 (cl n) hp53 ac ((x55 : Nat) : Int) (ac.getD x55 0) _ hO (act_x halb hxn)) ?_)
                  rintro _ w64 ⟨rfl, hT65⟩
                  have hT0 := hT0.t0 hT65
                  have hO := hO.tch0 hT65
                  refine seg2 (ρ' := upd (upd (upd (upd (upd (upd (upd (upd (upd (upd (upd (upd (upd (upd (upd (upd (upd (upd (upd (upd (upd (upd (upd (upd (updL ρ [(4, .bool false), (5, .pointer (some ⟨p8, 0, none⟩)), (7, .int .i64 (hp.length : Int)), (8, .int .i64 la), (9, .int .i64 ((j : Nat) : Int)), (10, .int .i64 ((x55 : Nat) : Int)), (11, .bool true), (44, .bool (decide (((j : Nat) : Int) < (hp.length : Int))))]) 52 (.bool true)) 53 (.bool false)) 54 (.bool false)) 55 (.pointer (some ⟨p8, 0, none⟩))) 56 (.int .i64 ((x55 : Nat) : Int))) 57 (.bool false)) 58 (.bool false)) 59 (.bool false)) 60 (.int .i64 la)) 61 (.bool true)) 62 (.bool true)) 63 (.pointer (some ⟨p8, 0, none⟩))) 64 (.int .i64 ((x55 : Nat) : Int))) 65 (.int .i64 (ac.getD x55 0))) 66 (.pointer (some ⟨p8, 0, none⟩))) 67 (.int .i64 la)) 68 (.int .i64 (ac.getD la.toNat 0))) 69 (.bool false)) 70 (.bool false)) 71 (.pointer (some ⟨p8, 0, none⟩))) 72 (.int .i64 ((x55 : Nat) : Int))) 73 (.int .i64 (ac.getD x55 0))) 74 (.pointer (some ⟨p8, 0, none⟩))) 75 (.int .i64 la)) (by kernel_rfl) ?_
                  refine st (by kernel_rfl) (S_call (args := [.pointer (some ⟨p8, 0, none⟩), .int .i64 la]) (by kernel_rfl) (act_lit F p8 (cl n) hp53 ac la (ac.getD la.toNat 0) _ hO (act_t halb (by omega) (by omega))) ?_)
                  rintro _ w66 ⟨rfl, hT67⟩
                  have hT0 := hT0.t0 hT67
                  have hO := hO.tch0 hT67
                  refine seg2 (ρ' := upd (upd (upd (upd (upd (upd (upd (upd (upd (upd (upd (upd (upd (upd (upd (upd (upd (upd (upd (upd (upd (upd (upd (upd (upd (upd (upd (updL ρ [(4, .bool false), (5, .pointer (some ⟨p8, 0, none⟩)), (7, .int .i64 (hp.length : Int)), (8, .int .i64 la), (9, .int .i64 ((j : Nat) : Int)), (10, .int .i64 ((x55 : Nat) : Int)), (11, .bool true), (44, .bool (decide (((j : Nat) : Int) < (hp.length : Int))))]) 52 (.bool true)) 53 (.bool false)) 54 (.bool false)) 55 (.pointer (some ⟨p8, 0, none⟩))) 56 (.int .i64 ((x55 : Nat) : Int))) 57 (.bool false)) 58 (.bool false)) 59 (.bool false)) 60 (.int .i64 la)) 61 (.bool true)) 62 (.bool true)) 63 (.pointer (some ⟨p8, 0, none⟩))) 64 (.int .i64 ((x55 : Nat) : Int))) 65 (.int .i64 (ac.getD x55 0))) 66 (.pointer (some ⟨p8, 0, none⟩))) 67 (.int .i64 la)) 68 (.int .i64 (ac.getD la.toNat 0))) 69 (.bool false)) 70 (.bool false)) 71 (.pointer (some ⟨p8, 0, none⟩))) 72 (.int .i64 ((x55 : Nat) : Int))) 73 (.int .i64 (ac.getD x55 0))) 74 (.pointer (some ⟨p8, 0, none⟩))) 75 (.int .i64 la)) 76 (.int .i64 (ac.getD la.toNat 0))) 77 (.bool ((ac.getD x55 0) == (ac.getD la.toNat 0)))) 78 (.bool ((ac.getD x55 0) == (ac.getD la.toNat 0)))) (by kernel_rfl) ?_
                  cases hb68 : (ac.getD x55 0) == (ac.getD la.toNat 0)
                  · replace hb68 : ac.getD x55 0 ≠ ac.getD la.toNat 0 := (ne_of_beq_false hb68)
                    refine seg7 (ρ' := upd (upd (upd (upd (upd (upd (upd (upd (upd (upd (upd (upd (upd (upd (upd (upd (upd (upd (upd (upd (upd (upd (upd (upd (upd (upd (upd (upd (upd (upd (upd (upd (upd (upd (updL ρ [(4, .bool false), (5, .pointer (some ⟨p8, 0, none⟩)), (7, .int .i64 (hp.length : Int)), (8, .int .i64 la), (9, .int .i64 ((j : Nat) : Int)), (10, .int .i64 ((x55 : Nat) : Int)), (11, .bool true), (44, .bool (decide (((j : Nat) : Int) < (hp.length : Int))))]) 52 (.bool true)) 53 (.bool false)) 54 (.bool false)) 55 (.pointer (some ⟨p8, 0, none⟩))) 56 (.int .i64 ((x55 : Nat) : Int))) 57 (.bool false)) 58 (.bool false)) 59 (.bool false)) 60 (.int .i64 la)) 61 (.bool true)) 62 (.bool true)) 63 (.pointer (some ⟨p8, 0, none⟩))) 64 (.int .i64 ((x55 : Nat) : Int))) 65 (.int .i64 (ac.getD x55 0))) 66 (.pointer (some ⟨p8, 0, none⟩))) 67 (.int .i64 la)) 68 (.int .i64 (ac.getD la.toNat 0))) 69 (.bool false)) 70 (.bool false)) 71 (.pointer (some ⟨p8, 0, none⟩))) 72 (.int .i64 ((x55 : Nat) : Int))) 73 (.int .i64 (ac.getD x55 0))) 74 (.pointer (some ⟨p8, 0, none⟩))) 75 (.int .i64 la)) 76 (.int .i64 (ac.getD la.toNat 0))) 77 (.bool false)) 78 (.bool false)) 79 (undef)) 80 (undef)) 81 (undef)) 82 (.bool false)) 83 (.bool false)) 84 (.bool false)) 85 (.bool false)) (by kernel_rfl) ?_
                    refine op_nil ?_
                    refine W_cond false (by kernel_rfl) (by kernel_rfl) (fun h => nomatch h) (fun _ => ?_)
                    refine W_skip ?_
                    refine W_fg [(4, .bool false), (5, .pointer (some ⟨p8, 0, none⟩)), (7, .int .i64 (hp.length : Int)), (8, .int .i64 la), (9, .int .i64 ((j : Nat) : Int)), (10, .int .i64 ((x55 : Nat) : Int)), (11, .bool true), (44, .bool (decide (((j : Nat) : Int) < (hp.length : Int)))), (85, .bool false)] (by kernel_rfl) fun ρ => ?_
                    refine W_region (by kernel_rfl) ?_
                    refine seg2 (ρ' := upd (upd (updL ρ [(4, .bool false), (5, .pointer (some ⟨p8, 0, none⟩)), (7, .int .i64 (hp.length : Int)), (8, .int .i64 la), (9, .int .i64 ((j : Nat) : Int)), (10, .int .i64 ((x55 : Nat) : Int)), (11, .bool true), (44, .bool (decide (((j : Nat) : Int) < (hp.length : Int)))), (85, .bool false)]) 86 (.int .i64 ((x55 : Nat) : Int))) 8 (.int .i64 ((x55 : Nat) : Int))) (by kernel_rfl) ?_
                    refine op_nil ?_
                    refine W_region (by kernel_rfl) ?_
                    refine seg2 (ρ' := upd (upd (upd (upd (updL ρ [(4, .bool false), (5, .pointer (some ⟨p8, 0, none⟩)), (7, .int .i64 (hp.length : Int)), (8, .int .i64 la), (9, .int .i64 ((j : Nat) : Int)), (10, .int .i64 ((x55 : Nat) : Int)), (11, .bool true), (44, .bool (decide (((j : Nat) : Int) < (hp.length : Int)))), (85, .bool false)]) 86 (.int .i64 ((x55 : Nat) : Int))) 8 (.int .i64 ((x55 : Nat) : Int))) 45 (.int .i64 ((j : Nat) : Int))) 46 (.int .i64 (IntKind.i64.wrap (((j : Nat) : Int) + 1)))) (by kernel_rfl) ?_
                    rw [show IntKind.i64.wrap (((j : Nat) : Int) + 1) = ((j : Nat) : Int) + 1 from wrap_i64 (by omega) (by omega)]
                    rw [show upd (upd (upd (upd (updL ρ [(4, .bool false), (5, .pointer (some ⟨p8, 0, none⟩)), (7, .int .i64 (hp.length : Int)), (8, .int .i64 la), (9, .int .i64 ((j : Nat) : Int)), (10, .int .i64 ((x55 : Nat) : Int)), (11, .bool true), (44, .bool (decide (((j : Nat) : Int) < (hp.length : Int)))), (85, .bool false)]) 86 (.int .i64 ((x55 : Nat) : Int))) 8 (.int .i64 ((x55 : Nat) : Int))) 45 (.int .i64 ((j : Nat) : Int))) 46 (.int .i64 (((j : Nat) : Int) + 1)) = upd (upd (upd (upd (updL ρ [(4, .bool false), (5, .pointer (some ⟨p8, 0, none⟩)), (7, .int .i64 (hp.length : Int)), (8, .int .i64 la), (9, .int .i64 ((j : Nat) : Int)), (10, .int .i64 ((x55 : Nat) : Int)), (11, .bool true), (44, .bool (decide (((j : Nat) : Int) < (hp.length : Int)))), (85, .bool false)]) 86 (.int .i64 ((x55 : Nat) : Int))) 8 (.int .i64 ((x55 : Nat) : Int))) 45 (.int .i64 ((j : Nat) : Int))) 46 (.int .i64 ((j + 1 : Nat) : Int)) from congrArg (fun z => upd (upd (upd (upd (updL ρ [(4, .bool false), (5, .pointer (some ⟨p8, 0, none⟩)), (7, .int .i64 (hp.length : Int)), (8, .int .i64 la), (9, .int .i64 ((j : Nat) : Int)), (10, .int .i64 ((x55 : Nat) : Int)), (11, .bool true), (44, .bool (decide (((j : Nat) : Int) < (hp.length : Int)))), (85, .bool false)]) 86 (.int .i64 ((x55 : Nat) : Int))) 8 (.int .i64 ((x55 : Nat) : Int))) 45 (.int .i64 ((j : Nat) : Int))) 46 (.int .i64 z)) (by omega)]
                    refine seg1 (ρ' := upd (upd (upd (upd (upd (updL ρ [(4, .bool false), (5, .pointer (some ⟨p8, 0, none⟩)), (7, .int .i64 (hp.length : Int)), (8, .int .i64 la), (9, .int .i64 ((j : Nat) : Int)), (10, .int .i64 ((x55 : Nat) : Int)), (11, .bool true), (44, .bool (decide (((j : Nat) : Int) < (hp.length : Int)))), (85, .bool false)]) 86 (.int .i64 ((x55 : Nat) : Int))) 8 (.int .i64 ((x55 : Nat) : Int))) 45 (.int .i64 ((j : Nat) : Int))) 46 (.int .i64 ((j + 1 : Nat) : Int))) 9 (.int .i64 ((j + 1 : Nat) : Int))) (by kernel_rfl) ?_
                    refine op_nil ?_
                    refine ⟨_, ?_, hp53, ((x55 : Nat) : Int), j + 1, _, updL_self (by kernel_rfl), ?_, ?_, ?_, ?_, hT0, hO, rfl⟩
                    · omega
                    · omega
                    · exact LastOk.next hx3 hx2 hxo
                    · omega
                    · omega
                  · replace hb68 : ac.getD x55 0 = ac.getD la.toNat 0 := (eq_of_beq hb68)
                    refine seg7 (ρ' := upd (upd (upd (upd (upd (upd (upd (upd (upd (upd (upd (upd (upd (upd (upd (upd (upd (upd (upd (upd (upd (upd (upd (upd (upd (upd (upd (upd (upd (upd (upd (upd (upd (upd (updL ρ [(4, .bool false), (5, .pointer (some ⟨p8, 0, none⟩)), (7, .int .i64 (hp.length : Int)), (8, .int .i64 la), (9, .int .i64 ((j : Nat) : Int)), (10, .int .i64 ((x55 : Nat) : Int)), (11, .bool true), (44, .bool (decide (((j : Nat) : Int) < (hp.length : Int))))]) 52 (.bool true)) 53 (.bool false)) 54 (.bool false)) 55 (.pointer (some ⟨p8, 0, none⟩))) 56 (.int .i64 ((x55 : Nat) : Int))) 57 (.bool false)) 58 (.bool false)) 59 (.bool false)) 60 (.int .i64 la)) 61 (.bool true)) 62 (.bool true)) 63 (.pointer (some ⟨p8, 0, none⟩))) 64 (.int .i64 ((x55 : Nat) : Int))) 65 (.int .i64 (ac.getD x55 0))) 66 (.pointer (some ⟨p8, 0, none⟩))) 67 (.int .i64 la)) 68 (.int .i64 (ac.getD la.toNat 0))) 69 (.bool false)) 70 (.bool false)) 71 (.pointer (some ⟨p8, 0, none⟩))) 72 (.int .i64 ((x55 : Nat) : Int))) 73 (.int .i64 (ac.getD x55 0))) 74 (.pointer (some ⟨p8, 0, none⟩))) 75 (.int .i64 la)) 76 (.int .i64 (ac.getD la.toNat 0))) 77 (.bool true)) 78 (.bool true)) 79 (.int .i64 ((x55 : Nat) : Int))) 80 (.int .i64 la)) 81 (.bool (decide (((x55 : Nat) : Int) ≤ la)))) 82 (.bool (decide (((x55 : Nat) : Int) ≤ la)))) 83 (.bool (decide (((x55 : Nat) : Int) ≤ la)))) 84 (.bool (decide (((x55 : Nat) : Int) ≤ la)))) 85 (.bool (decide (((x55 : Nat) : Int) ≤ la)))) (by kernel_rfl) ?_
                    refine op_nil ?_
                    refine W_cond (decide (((x55 : Nat) : Int) ≤ la)) (by kernel_rfl) (by kernel_rfl) (fun hc69 => ?_) (fun hc69 => ?_)
                    · replace hc69 : ((x55 : Nat) : Int) ≤ la := (of_decide_eq_true hc69)
                      exfalso; omega
                    · replace hc69 : la < ((x55 : Nat) : Int) := (Int.not_le.1 (of_decide_eq_false hc69))
                      refine W_skip ?_
                      refine W_fg [(4, .bool false), (5, .pointer (some ⟨p8, 0, none⟩)), (7, .int .i64 (hp.length : Int)), (8, .int .i64 la), (9, .int .i64 ((j : Nat) : Int)), (10, .int .i64 ((x55 : Nat) : Int)), (11, .bool true), (44, .bool (decide (((j : Nat) : Int) < (hp.length : Int)))), (85, .bool (decide (((x55 : Nat) : Int) ≤ la)))] (by kernel_rfl) fun ρ => ?_
                      refine W_region (by kernel_rfl) ?_
                      refine seg2 (ρ' := upd (upd (updL ρ [(4, .bool false), (5, .pointer (some ⟨p8, 0, none⟩)), (7, .int .i64 (hp.length : Int)), (8, .int .i64 la), (9, .int .i64 ((j : Nat) : Int)), (10, .int .i64 ((x55 : Nat) : Int)), (11, .bool true), (44, .bool (decide (((j : Nat) : Int) < (hp.length : Int)))), (85, .bool (decide (((x55 : Nat) : Int) ≤ la)))]) 86 (.int .i64 ((x55 : Nat) : Int))) 8 (.int .i64 ((x55 : Nat) : Int))) (by kernel_rfl) ?_
                      refine op_nil ?_
                      refine W_region (by kernel_rfl) ?_
                      refine seg2 (ρ' := upd (upd (upd (upd (updL ρ [(4, .bool false), (5, .pointer (some ⟨p8, 0, none⟩)), (7, .int .i64 (hp.length : Int)), (8, .int .i64 la), (9, .int .i64 ((j : Nat) : Int)), (10, .int .i64 ((x55 : Nat) : Int)), (11, .bool true), (44, .bool (decide (((j : Nat) : Int) < (hp.length : Int)))), (85, .bool (decide (((x55 : Nat) : Int) ≤ la)))]) 86 (.int .i64 ((x55 : Nat) : Int))) 8 (.int .i64 ((x55 : Nat) : Int))) 45 (.int .i64 ((j : Nat) : Int))) 46 (.int .i64 (IntKind.i64.wrap (((j : Nat) : Int) + 1)))) (by kernel_rfl) ?_
                      rw [show IntKind.i64.wrap (((j : Nat) : Int) + 1) = ((j : Nat) : Int) + 1 from wrap_i64 (by omega) (by omega)]
                      rw [show upd (upd (upd (upd (updL ρ [(4, .bool false), (5, .pointer (some ⟨p8, 0, none⟩)), (7, .int .i64 (hp.length : Int)), (8, .int .i64 la), (9, .int .i64 ((j : Nat) : Int)), (10, .int .i64 ((x55 : Nat) : Int)), (11, .bool true), (44, .bool (decide (((j : Nat) : Int) < (hp.length : Int)))), (85, .bool (decide (((x55 : Nat) : Int) ≤ la)))]) 86 (.int .i64 ((x55 : Nat) : Int))) 8 (.int .i64 ((x55 : Nat) : Int))) 45 (.int .i64 ((j : Nat) : Int))) 46 (.int .i64 (((j : Nat) : Int) + 1)) = upd (upd (upd (upd (updL ρ [(4, .bool false), (5, .pointer (some ⟨p8, 0, none⟩)), (7, .int .i64 (hp.length : Int)), (8, .int .i64 la), (9, .int .i64 ((j : Nat) : Int)), (10, .int .i64 ((x55 : Nat) : Int)), (11, .bool true), (44, .bool (decide (((j : Nat) : Int) < (hp.length : Int)))), (85, .bool (decide (((x55 : Nat) : Int) ≤ la)))]) 86 (.int .i64 ((x55 : Nat) : Int))) 8 (.int .i64 ((x55 : Nat) : Int))) 45 (.int .i64 ((j : Nat) : Int))) 46 (.int .i64 ((j + 1 : Nat) : Int)) from congrArg (fun z => upd (upd (upd (upd (updL ρ [(4, .bool false), (5, .pointer (some ⟨p8, 0, none⟩)), (7, .int .i64 (hp.length : Int)), (8, .int .i64 la), (9, .int .i64 ((j : Nat) : Int)), (10, .int .i64 ((x55 : Nat) : Int)), (11, .bool true), (44, .bool (decide (((j : Nat) : Int) < (hp.length : Int)))), (85, .bool (decide (((x55 : Nat) : Int) ≤ la)))]) 86 (.int .i64 ((x55 : Nat) : Int))) 8 (.int .i64 ((x55 : Nat) : Int))) 45 (.int .i64 ((j : Nat) : Int))) 46 (.int .i64 z)) (by omega)]
                      refine seg1 (ρ' := upd (upd (upd (upd (upd (updL ρ [(4, .bool false), (5, .pointer (some ⟨p8, 0, none⟩)), (7, .int .i64 (hp.length : Int)), (8, .int .i64 la), (9, .int .i64 ((j : Nat) : Int)), (10, .int .i64 ((x55 : Nat) : Int)), (11, .bool true), (44, .bool (decide (((j : Nat) : Int) < (hp.length : Int)))), (85, .bool (decide (((x55 : Nat) : Int) ≤ la)))]) 86 (.int .i64 ((x55 : Nat) : Int))) 8 (.int .i64 ((x55 : Nat) : Int))) 45 (.int .i64 ((j : Nat) : Int))) 46 (.int .i64 ((j + 1 : Nat) : Int))) 9 (.int .i64 ((j + 1 : Nat) : Int))) (by kernel_rfl) ?_
                      refine op_nil ?_
                      refine ⟨_, ?_, hp53, ((x55 : Nat) : Int), j + 1, _, updL_self (by kernel_rfl), ?_, ?_, ?_, ?_, hT0, hO, rfl⟩
                      · omega
                      · omega
                      · exact LastOk.next hx3 hx2 hxo
                      · omega
                      · omega
                · replace hb63 : ac.getD la.toNat 0 < ac.getD x55 0 := (of_decide_eq_true hb63)
                  exfalso; omega
            · replace hc49 : (hp.length : Int) ≤ ((j : Nat) : Int) := (Int.not_lt.1 (of_decide_eq_false hc49))
              refine W_exit ?_
              refine X_hit ?_
              refine W_seq ?_
              refine W_region (by kernel_rfl) ?_
              refine seg1 (ρ' := upd (upd (upd (upd (updL ρ [(4, .bool false), (5, .pointer (some ⟨p8, 0, none⟩)), (7, .int .i64 (hp.length : Int)), (8, .int .i64 la), (9, .int .i64 ((j : Nat) : Int))]) 42 (.int .i64 ((j : Nat) : Int))) 43 (.int .i64 (hp.length : Int))) 44 (.bool (decide (((j : Nat) : Int) < (hp.length : Int))))) 88 (.pointer (some ⟨p8, 0, none⟩))) (by kernel_rfl) ?_
              have hltb := hO.lt_
              have hndb := hO.nodup
              have halb := hO.acLen
              refine st (by rfl) (S_call (args := [.pointer (some ⟨p8, 0, none⟩)]) (by kernel_rfl) (pop_ok F p8 (cl n) hq ac _ hO) ?_)
              rintro _ w70 ⟨a71, r72, hp73, rfl, hO, hT74, hr⟩
              have hT0 := (hT0).then hT74 hFb
              obtain ⟨rfl, rfl⟩ := hr.no_ (by omega)
              refine seg5 (ρ' := upd (upd (upd (upd (upd (upd (upd (upd (upd (upd (updL ρ [(4, .bool false), (5, .pointer (some ⟨p8, 0, none⟩)), (7, .int .i64 (hp.length : Int)), (8, .int .i64 la), (9, .int .i64 ((j : Nat) : Int))]) 42 (.int .i64 ((j : Nat) : Int))) 43 (.int .i64 (hp.length : Int))) 44 (.bool (decide (((j : Nat) : Int) < (hp.length : Int))))) 88 (.pointer (some ⟨p8, 0, none⟩))) 89 (.tuple #[.int .i64 (-1), .bool false])) 87 (.tuple #[.int .i64 (-1), .bool false])) 90 (.int .i64 (-1))) 91 (.bool false)) 12 (.int .i64 (-1))) 13 (.bool false)) (by kernel_rfl) ?_
              refine op_nil ?_
              refine W_seq ?_
              refine W_fg [(4, .bool false), (5, .pointer (some ⟨p8, 0, none⟩)), (7, .int .i64 (hp.length : Int)), (8, .int .i64 la), (9, .int .i64 ((j : Nat) : Int)), (13, .bool false), (44, .bool (decide (((j : Nat) : Int) < (hp.length : Int))))] (by kernel_rfl) fun ρ => ?_
              refine W_region (by kernel_rfl) ?_
              refine seg3 (ρ' := upd (upd (upd (updL ρ [(4, .bool false), (5, .pointer (some ⟨p8, 0, none⟩)), (7, .int .i64 (hp.length : Int)), (8, .int .i64 la), (9, .int .i64 ((j : Nat) : Int)), (13, .bool false), (44, .bool (decide (((j : Nat) : Int) < (hp.length : Int))))]) 92 (.bool false)) 93 (.bool true)) 94 (.bool true)) (by kernel_rfl) ?_
              refine st (by kernel_rfl) (S_call (args := []) (by kernel_rfl) (awake8_ok _) ?_)
              rintro _ w76 ⟨rfl, hT77⟩
              have hT0 := hT0.t0 hT77
              have hO := hO.tch0 hT77
              refine seg2 (ρ' := upd (upd (upd (upd (upd (upd (updL ρ [(4, .bool false), (5, .pointer (some ⟨p8, 0, none⟩)), (7, .int .i64 (hp.length : Int)), (8, .int .i64 la), (9, .int .i64 ((j : Nat) : Int)), (13, .bool false), (44, .bool (decide (((j : Nat) : Int) < (hp.length : Int))))]) 92 (.bool false)) 93 (.bool true)) 94 (.bool true)) 95 (.bool true)) 96 (.bool true)) 4 (.bool true)) (by kernel_rfl) ?_
              refine op_nil ?_
              refine W_ret ?_
              exact ⟨_, Res_of (v := .bool true) (by kernel_rfl), ⟨rfl, hT0⟩⟩
  · replace hb1 : 150 < (mm : Int) := (of_decide_eq_true hb1)
    refine seg3 (ρ' := upd (upd (upd (upd (upd (upd (upd (upd (ini [.int .i64 n, .slice L mm cl_]) 4 (.bool false)) 14 (.slice L mm cl_)) 15 (.int .i64 (mm : Int))) 16 (.bool true)) 17 (.bool true)) 18 (undef)) 19 (undef)) 20 (.bool true)) (by kernel_rfl) ?_
    refine op_nil ?_
    refine W_cond true (by kernel_rfl) (by kernel_rfl) (fun _ => ?_) (fun h => nomatch h)
    refine W_seq ?_
    refine W_fg [(0, .int .i64 n), (1, .slice L mm cl_), (4, .bool false), (20, .bool true)] (by kernel_rfl) fun ρ => ?_
    refine W_region (by kernel_rfl) ?_
    refine st (by rfl) (S_call (args := []) (by kernel_rfl) (awake8_ok _) ?_)
    rintro _ w78 ⟨rfl, hT79⟩
    have hT0 := hT79
    refine seg1 (ρ' := upd (upd (updL ρ [(0, .int .i64 n), (1, .slice L mm cl_), (4, .bool false), (20, .bool true)]) 21 (.bool true)) 4 (.bool true)) (by kernel_rfl) ?_
    refine op_nil ?_
    refine W_ret ?_
    exact ⟨_, Res_of (v := .bool true) (by kernel_rfl), ⟨rfl, hT0⟩⟩

end Go.Proofs.YthfjceemphhgcaaV
