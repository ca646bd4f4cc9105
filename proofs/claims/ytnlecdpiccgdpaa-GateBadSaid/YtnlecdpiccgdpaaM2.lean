/- Walks of functions of the program and of the document's texts. The conditions stand with each theorem. -/
import Derived.Test.YtnlecdpiccgdpaaProg
import Derived.Test.YtnlecdpiccgdpaaVx4
import Derived.Test.YtnlecdpiccgdpaaM1
set_option linter.unusedVariables false
set_option linter.unusedSimpArgs false
namespace Go.Proofs.YtnlecdpiccgdpaaV
open Go Go.RowKit Go.Proofs

set_option maxRecDepth 100000 in
theorem GateBad_w (L : Option Addr) (mm cl : Nat) (cells : List Value) (ds : Nat → Int × Int × Int × Int) (k a b c bad : Int) (w : World) (hbad : -9223372036854775808 ≤ bad ∧ bad ≤ 9223372036854775807) (hL : RdW w 4 mm L cells) (hD : Deeds4 mm cells ds) : Ret Try.prog 4 [.slice L mm cl, .agg #[.int .i64 k, .int .i64 a, .int .i64 b, .int .i64 c], .int .i64 bad] w fun v w' => v = .bool true ∧ Tch N0 w w' := by
  refine enter Try.func4 rfl rfl ?_
  refine W_seq ?_
  refine W_region (by kernel_rfl) ?_
  refine st (by rfl) (S_new (v := .pointer (some ⟨w.heap.size, 0, none⟩)) (ob := .cells #[.int .i64 k, .int .i64 a, .int .i64 b, .int .i64 c] 30) (by kernel_rfl) fun w1 hT2 hs3 hB4 => ?_)
  replace hB4 : Blk w1 (w.heap.size) 30 [.int .i64 k, .int .i64 a, .int .i64 b, .int .i64 c] := hB4
  have hT0 := hT2
  refine seg1 (ρ' := upd (upd (ini [.slice L mm cl, .agg #[.int .i64 k, .int .i64 a, .int .i64 b, .int .i64 c], .int .i64 bad]) 4 (.pointer (some ⟨w.heap.size, 0, none⟩))) 6 (.bool false)) (by kernel_rfl) ?_
  refine op_nil ?_
  refine W_seq ?_
  refine W_seq ?_
  refine W_region (by kernel_rfl) ?_
  refine seg3 (ρ' := upd (upd (upd (upd (upd (ini [.slice L mm cl, .agg #[.int .i64 k, .int .i64 a, .int .i64 b, .int .i64 c], .int .i64 bad]) 4 (.pointer (some ⟨w.heap.size, 0, none⟩))) 6 (.bool false)) 14 (.slice L mm cl)) 15 (.int .i64 (mm : Int))) 16 (.bool (decide ((mm : Int) > 40)))) (by kernel_rfl) ?_
  refine op_nil ?_
  refine W_cond (decide ((mm : Int) > 40)) (by kernel_rfl) (by kernel_rfl) (fun hc5 => ?_) (fun hc5 => ?_)
  · replace hc5 : 40 < (mm : Int) := (of_decide_eq_true hc5)
    refine W_seq ?_
    refine W_region (by kernel_rfl) ?_
    refine st (by rfl) (S_call (args := []) (by kernel_rfl) (awake19_ok _) ?_)
    rintro _ w6 ⟨rfl, hT7⟩
    have hT0 := hT0.t0 hT7
    have hB4 := hB4.tch0 hT7
    refine seg1 (ρ' := upd (upd (upd (upd (upd (upd (upd (ini [.slice L mm cl, .agg #[.int .i64 k, .int .i64 a, .int .i64 b, .int .i64 c], .int .i64 bad]) 4 (.pointer (some ⟨w.heap.size, 0, none⟩))) 6 (.bool false)) 14 (.slice L mm cl)) 15 (.int .i64 (mm : Int))) 16 (.bool (decide ((mm : Int) > 40)))) 17 (.bool true)) 6 (.bool true)) (by kernel_rfl) ?_
    refine op_nil ?_
    refine W_ret ?_
    exact ⟨_, Res_of (v := .bool true) (by kernel_rfl), ⟨rfl, hT0⟩⟩
  · replace hc5 : (mm : Int) ≤ 40 := (Int.not_lt.1 (of_decide_eq_false hc5))
    refine W_skip ?_
    refine W_seq ?_
    refine W_region (by kernel_rfl) ?_
    have hz_ := hT0.size
    have lt12 := hB4.lt
    refine st (by rfl) (S_call (args := []) (by kernel_rfl) (new_ok _) ?_)
    rintro _ w8 ⟨p10, F11, rfl, hG, hT9, hFb⟩
    have hT0 := hT0.t0 hT9
    have hB4 := hB4.tch0 hT9
    have nF_hB4 : ¬ F11 (w.heap.size) := fun e => by have := hFb _ e; omega
    replace hFb := fun b hb => Nat.le_trans hz_ (hFb b hb)
    refine seg1 (ρ' := upd (upd (upd (upd (upd (upd (upd (ini [.slice L mm cl, .agg #[.int .i64 k, .int .i64 a, .int .i64 b, .int .i64 c], .int .i64 bad]) 4 (.pointer (some ⟨w.heap.size, 0, none⟩))) 6 (.bool false)) 14 (.slice L mm cl)) 15 (.int .i64 (mm : Int))) 16 (.bool (decide ((mm : Int) > 40)))) 18 (.pointer (some ⟨p10, 0, none⟩))) 7 (.pointer (some ⟨p10, 0, none⟩))) (by kernel_rfl) ?_
    refine op_nil ?_
    refine W_seq ?_
    refine W_seq ?_
    refine W_region (by kernel_rfl) ?_
    refine seg2 (ρ' := upd (upd (upd (upd (upd (upd (upd (upd (upd (ini [.slice L mm cl, .agg #[.int .i64 k, .int .i64 a, .int .i64 b, .int .i64 c], .int .i64 bad]) 4 (.pointer (some ⟨w.heap.size, 0, none⟩))) 6 (.bool false)) 14 (.slice L mm cl)) 15 (.int .i64 (mm : Int))) 16 (.bool (decide ((mm : Int) > 40)))) 18 (.pointer (some ⟨p10, 0, none⟩))) 7 (.pointer (some ⟨p10, 0, none⟩))) 19 (.pointer (some ⟨p10, 0, none⟩))) 20 (.bool false)) (by kernel_rfl) ?_
    refine op_nil ?_
    refine W_cond false (by kernel_rfl) (by kernel_rfl) (fun h => nomatch h) (fun _ => ?_)
    refine W_skip ?_
    refine W_seq ?_
    refine W_fg [(0, .slice L mm cl), (1, .agg #[.int .i64 k, .int .i64 a, .int .i64 b, .int .i64 c]), (2, .int .i64 bad), (4, .pointer (some ⟨w.heap.size, 0, none⟩)), (6, .bool false), (7, .pointer (some ⟨p10, 0, none⟩)), (16, .bool (decide ((mm : Int) > 40))), (20, .bool false)] (by kernel_rfl) fun ρ => ?_
    refine W_region (by kernel_rfl) ?_
    refine seg1 (ρ' := upd (updL ρ [(0, .slice L mm cl), (1, .agg #[.int .i64 k, .int .i64 a, .int .i64 b, .int .i64 c]), (2, .int .i64 bad), (4, .pointer (some ⟨w.heap.size, 0, none⟩)), (6, .bool false), (7, .pointer (some ⟨p10, 0, none⟩)), (16, .bool (decide ((mm : Int) > 40))), (20, .bool false)]) 8 (.slice none 0 0)) (by kernel_rfl) ?_
    refine op_nil ?_
    refine W_seq ?_
    refine W_seq ?_
    have hBx := hB4
    have nF_hBx := nF_hB4
    refine W_region (by kernel_rfl) ?_
    refine seg1 (ρ' := upd (upd (updL ρ [(0, .slice L mm cl), (1, .agg #[.int .i64 k, .int .i64 a, .int .i64 b, .int .i64 c]), (2, .int .i64 bad), (4, .pointer (some ⟨w.heap.size, 0, none⟩)), (6, .bool false), (7, .pointer (some ⟨p10, 0, none⟩)), (16, .bool (decide ((mm : Int) > 40))), (20, .bool false)]) 8 (.slice none 0 0)) 9 (.int .i64 0)) (by kernel_rfl) ?_
    refine op_nil ?_
    refine W_block ?_
    refine W_loop (fun m ρ w' => ∃ (F : Nat → Prop) (n : Nat) (cs : List (List Nat)) (I : Nat → Prop) (A : Option Addr) (cp : Nat) (told : List Nat) (i : Nat) (ρ0 : Env), ρ = updL ρ0 [(0, .slice L mm cl), (2, .int .i64 bad), (4, .pointer (some ⟨w.heap.size, 0, none⟩)), (6, .bool false), (7, .pointer (some ⟨p10, 0, none⟩)), (8, .slice A i cp), (9, .int .i64 ((i : Nat) : Int))] ∧ (i ≤ mm) ∧ (n ≤ 1 + i) ∧ (∀ z, z ∈ told → z / 2 < n) ∧ (∀ b, F b → w.heap.size ≤ b) ∧ (∀ c, (Value.slice A i cp).ownBlock = some c → ¬ F c) ∧ (∀ c, (Value.slice A i cp).ownBlock = some c → w.heap.size ≤ c) ∧ (¬ F (w.heap.size)) ∧ Tch N0 w w' ∧ GObj F w' p10 n cs I ∧ Own w' 0 3 1 (.slice A i cp) i (nats told) ∧ RdW w' 4 mm L cells ∧ Blk w' (w.heap.size) 30 [.int .i64 k, .int .i64 a, .int .i64 b, .int .i64 c] ∧ m = mm - i) (m := mm - 0) ?_ ?_
    · refine ⟨F11, 1, [[0]], fun _ => False, none, 0, [], 0, _, updL_self (by kernel_rfl), by omega, by omega, (fun z hz => by cases hz), hFb, (fun c hc => by cases hc), (fun c hc => by cases hc), nF_hBx, hT0, hG, Own.nil_ _ _ _ _, hL.tch0 hT0, hBx, rfl⟩
    · rintro m ρ w13 ⟨F, n, cs, I, A, cp, told, i, ρ, rfl, hi, hn, hfit, hFb, nF_hTo, nB_hTo, nF_hBx, hT0, hG, hTo, hLc, hBx, rfl⟩
      have hTl : told.length = i := by have := hTo.1; rw [nats_length] at this; omega
      refine W_seq ?_
      refine W_seq ?_
      refine W_region (by kernel_rfl) ?_
      refine seg4 (ρ' := upd (upd (upd (upd (updL ρ [(0, .slice L mm cl), (2, .int .i64 bad), (4, .pointer (some ⟨w.heap.size, 0, none⟩)), (6, .bool false), (7, .pointer (some ⟨p10, 0, none⟩)), (8, .slice A i cp), (9, .int .i64 ((i : Nat) : Int))]) 21 (.int .i64 ((i : Nat) : Int))) 22 (.slice L mm cl)) 23 (.int .i64 (mm : Int))) 24 (.bool (decide (((i : Nat) : Int) < (mm : Int))))) (by kernel_rfl) ?_
      refine op_nil ?_
      refine W_cond (decide (((i : Nat) : Int) < (mm : Int))) (by kernel_rfl) (by kernel_rfl) (fun hc14 => ?_) (fun hc14 => ?_)
      · replace hc14 : ((i : Nat) : Int) < (mm : Int) := (of_decide_eq_true hc14)
        refine W_skip ?_
        refine W_seq ?_
        refine W_block ?_
        refine W_seq ?_
        refine W_region (by kernel_rfl) ?_
        refine seg4 (ρ' := upd (upd (upd (upd (upd (upd (upd (upd (updL ρ [(0, .slice L mm cl), (2, .int .i64 bad), (4, .pointer (some ⟨w.heap.size, 0, none⟩)), (6, .bool false), (7, .pointer (some ⟨p10, 0, none⟩)), (8, .slice A i cp), (9, .int .i64 ((i : Nat) : Int))]) 21 (.int .i64 ((i : Nat) : Int))) 22 (.slice L mm cl)) 23 (.int .i64 (mm : Int))) 24 (.bool (decide (((i : Nat) : Int) < (mm : Int))))) 27 (.slice A i cp)) 28 (.int .i64 (i : Int))) 29 (.bool (decide ((i : Int) < 2)))) 30 (.bool (decide ((i : Int) < 2)))) (by kernel_rfl) ?_
        cases hb15 : decide ((i : Int) < 2)
        · replace hb15 : 2 ≤ (i : Int) := (Int.not_lt.1 (of_decide_eq_false hb15))
          refine seg2 (ρ' := upd (upd (upd (upd (upd (upd (upd (upd (upd (upd (updL ρ [(0, .slice L mm cl), (2, .int .i64 bad), (4, .pointer (some ⟨w.heap.size, 0, none⟩)), (6, .bool false), (7, .pointer (some ⟨p10, 0, none⟩)), (8, .slice A i cp), (9, .int .i64 ((i : Nat) : Int))]) 21 (.int .i64 ((i : Nat) : Int))) 22 (.slice L mm cl)) 23 (.int .i64 (mm : Int))) 24 (.bool (decide (((i : Nat) : Int) < (mm : Int))))) 27 (.slice A i cp)) 28 (.int .i64 (i : Int))) 29 (.bool false)) 30 (.bool false)) 31 (.slice L mm cl)) 32 (.int .i64 ((i : Nat) : Int))) (by kernel_rfl) ?_
          refine stv (v := ptrAt L (i * 4)) (by kernel_rfl) (R_indexRd (sz := 4) (len := mm) (cap := cl) (k := .i64) (i := ((i : Nat) : Int)) (e := 30) i hLc (by kernel_rfl) (by kernel_rfl) (by kernel_rfl) (by kernel_rfl) rfl (by omega)) ?_
          refine stv (v := ptrAt L (i * 4)) (by kernel_rfl) (R_fieldRd (m := 0) hLc (by omega) (by kernel_rfl) (fun _ _ => by rfl)) ?_
          refine stv (v := .int .i64 ((ds i).1)) (by kernel_rfl) (R_loadRd (v := .int .i64 ((ds i).1)) hLc (by omega) (by kernel_rfl) (by kernel_rfl) ((hD i (by omega)).1)) ?_
          refine seg2 (ρ' := upd (upd (upd (upd (upd (upd (upd (upd (upd (upd (upd (upd (upd (upd (upd (updL ρ [(0, .slice L mm cl), (2, .int .i64 bad), (4, .pointer (some ⟨w.heap.size, 0, none⟩)), (6, .bool false), (7, .pointer (some ⟨p10, 0, none⟩)), (8, .slice A i cp), (9, .int .i64 ((i : Nat) : Int))]) 21 (.int .i64 ((i : Nat) : Int))) 22 (.slice L mm cl)) 23 (.int .i64 (mm : Int))) 24 (.bool (decide (((i : Nat) : Int) < (mm : Int))))) 27 (.slice A i cp)) 28 (.int .i64 (i : Int))) 29 (.bool false)) 30 (.bool false)) 31 (.slice L mm cl)) 32 (.int .i64 ((i : Nat) : Int))) 33 (ptrAt L (i * 4))) 34 (ptrAt L (i * 4))) 35 (.int .i64 ((ds i).1))) 36 (.bool (((ds i).1) == 0))) 37 (.bool (((ds i).1) == 0))) (by kernel_rfl) ?_
          refine op_nil ?_
          refine W_cond (((ds i).1) == 0) (by kernel_rfl) (by kernel_rfl) (fun hc16 => ?_) (fun hc16 => ?_)
          · replace hc16 : (ds i).1 = 0 := (eq_of_beq hc16)
            refine W_fg [(0, .slice L mm cl), (2, .int .i64 bad), (4, .pointer (some ⟨w.heap.size, 0, none⟩)), (6, .bool false), (7, .pointer (some ⟨p10, 0, none⟩)), (8, .slice A i cp), (9, .int .i64 ((i : Nat) : Int)), (24, .bool (decide (((i : Nat) : Int) < (mm : Int)))), (37, .bool (((ds i).1) == 0))] (by kernel_rfl) fun ρ => ?_
            refine W_region (by kernel_rfl) ?_
            refine seg2 (ρ' := upd (upd (updL ρ [(0, .slice L mm cl), (2, .int .i64 bad), (4, .pointer (some ⟨w.heap.size, 0, none⟩)), (6, .bool false), (7, .pointer (some ⟨p10, 0, none⟩)), (8, .slice A i cp), (9, .int .i64 ((i : Nat) : Int)), (24, .bool (decide (((i : Nat) : Int) < (mm : Int)))), (37, .bool (((ds i).1) == 0))]) 38 (.slice A i cp)) 39 (.pointer (some ⟨p10, 0, none⟩))) (by kernel_rfl) ?_
            have hz_ := hT0.size
            have lt19 := hBx.lt
            have lR_hTo := hTo.lt
            refine st (by rfl) (S_call (args := [.pointer (some ⟨p10, 0, none⟩)]) (by kernel_rfl) (input_ok F p10 n cs I _ hG (by omega)) ?_)
            rintro _ w17 ⟨rfl, hG, hm18⟩
            have hT0 := (hT0).then hm18.1 hFb
            have hTo := hTo.tch hm18.1 nF_hTo
            have hLc := hL.tch0 hT0
            have hBx := hBx.tch hm18.1 nF_hBx
            replace nF_hBx : ¬ F (w.heap.size) := fun e => (hm18.2 _ e).elim nF_hBx (fun q => by omega)
            replace nF_hTo : ∀ c, (Value.slice A (i) cp).ownBlock = some c → ¬ F c := fun c hc e => (hm18.2 c e).elim (nF_hTo c hc) (fun q => by have := lR_hTo c hc; omega)
            replace hFb := hm18.ge hFb hz_
            have hlt_ := hG.1.lt
            have z24 := hT0.size
            have l25 := hBx.lt
            refine st (by rfl) (S_new (v := .slice (some ⟨w17.heap.size, 0, none⟩) 1 1) (ob := .cells #[.int .i64 ((2 * n : Nat) : Int)] 3) (by kernel_rfl) fun w20 hT21 hs22 hB23 => ?_)
            replace hB23 : Blk w20 (w17.heap.size) 3 [.int .i64 ((2 * n : Nat) : Int)] := hB23
            have hT0 := hT0.t0 hT21
            have hG := hG.tch0 hT21
            have hTo := hTo.tch0 hT21
            have hLc := hL.tch0 hT0
            have hBx := hBx.tch0 hT21
            have nF_hB23 : ¬ F (w17.heap.size) := fun e => by have := hlt_ _ e; omega
            have hz_ := hT0.size
            have hGl_ := hG.1.lt
            have lR_hTo := hTo.lt
            refine st (by rfl) (S_appendR 27 3 (.int .i64 0) 1 8 (n := i) (m := 1) (A := A) (cp := cp) (cells := nats told) (news := [.int .i64 ((2 * n : Nat) : Int)]) (b := w17.heap.size) (off := 0) (c := 1) (by kernel_rfl) (by kernel_rfl) (by decide) (by kernel_rfl) (by kernel_rfl) (by kernel_rfl) hTo (by rfl) (fun k u hk => by rw [Nat.zero_add, hB23.cell]; exact hk) (by simp [oneV]) (by simp only [maxLen]; omega) (by omega) fun A26 cp27 w28 hO29 hw30 hT31 => ?_)
            have hT0 := (hT0).then hT31 nB_hTo
            have hG := hG.tchS hT31 (fun c e => nF_hTo c e)
            have hLc := hL.tch0 hT0
            have hBx := hBx.tch hT31 (fun e => hTo.blk_ne hBx (by decide) _ e rfl)
            have hTo : Own w28 0 3 1 (.slice A26 (i + 1) cp27) (i + 1) (nats (told ++ [2 * n])) := by rw [nats_append]; exact hO29
            have nF_hTo : ∀ c, (Value.slice A26 (i + 1) cp27).ownBlock = some c → ¬ F c := fun c hc => (hw30 c hc).elim (nF_hTo c) (fun q e => by have := hGl_ _ e; omega)
            have nB_hTo : ∀ c, (Value.slice A26 (i + 1) cp27).ownBlock = some c → w.heap.size ≤ c := fun c hc => (hw30 c hc).elim (nB_hTo c) (fun q => by omega)
            refine seg1 (ρ' := upd (upd (upd (upd (upd (upd (updL ρ [(0, .slice L mm cl), (2, .int .i64 bad), (4, .pointer (some ⟨w.heap.size, 0, none⟩)), (6, .bool false), (7, .pointer (some ⟨p10, 0, none⟩)), (8, .slice A i cp), (9, .int .i64 ((i : Nat) : Int)), (24, .bool (decide (((i : Nat) : Int) < (mm : Int)))), (37, .bool (((ds i).1) == 0))]) 38 (.slice A i cp)) 39 (.pointer (some ⟨p10, 0, none⟩))) 40 (.int .i64 ((2 * n : Nat) : Int))) 41 (.slice (some ⟨w17.heap.size, 0, none⟩) 1 1)) 42 (.slice A26 (i + 1) cp27)) 8 (.slice A26 (i + 1) cp27)) (by kernel_rfl) ?_
            refine op_nil ?_
            refine W_region (by kernel_rfl) ?_
            refine seg2 (ρ' := upd (upd (upd (upd (upd (upd (upd (upd (updL ρ [(0, .slice L mm cl), (2, .int .i64 bad), (4, .pointer (some ⟨w.heap.size, 0, none⟩)), (6, .bool false), (7, .pointer (some ⟨p10, 0, none⟩)), (8, .slice A i cp), (9, .int .i64 ((i : Nat) : Int)), (24, .bool (decide (((i : Nat) : Int) < (mm : Int)))), (37, .bool (((ds i).1) == 0))]) 38 (.slice A i cp)) 39 (.pointer (some ⟨p10, 0, none⟩))) 40 (.int .i64 ((2 * n : Nat) : Int))) 41 (.slice (some ⟨w17.heap.size, 0, none⟩) 1 1)) 42 (.slice A26 (i + 1) cp27)) 8 (.slice A26 (i + 1) cp27)) 25 (.int .i64 ((i : Nat) : Int))) 26 (.int .i64 (IntKind.i64.wrap (((i : Nat) : Int) + 1)))) (by kernel_rfl) ?_
            rw [show IntKind.i64.wrap (((i : Nat) : Int) + 1) = ((i : Nat) : Int) + 1 from wrap_i64 (by omega) (by omega)]
            refine seg1 (ρ' := upd (upd (upd (upd (upd (upd (upd (upd (upd (updL ρ [(0, .slice L mm cl), (2, .int .i64 bad), (4, .pointer (some ⟨w.heap.size, 0, none⟩)), (6, .bool false), (7, .pointer (some ⟨p10, 0, none⟩)), (8, .slice A i cp), (9, .int .i64 ((i : Nat) : Int)), (24, .bool (decide (((i : Nat) : Int) < (mm : Int)))), (37, .bool (((ds i).1) == 0))]) 38 (.slice A i cp)) 39 (.pointer (some ⟨p10, 0, none⟩))) 40 (.int .i64 ((2 * n : Nat) : Int))) 41 (.slice (some ⟨w17.heap.size, 0, none⟩) 1 1)) 42 (.slice A26 (i + 1) cp27)) 8 (.slice A26 (i + 1) cp27)) 25 (.int .i64 ((i : Nat) : Int))) 26 (.int .i64 (((i : Nat) : Int) + 1))) 9 (.int .i64 (((i : Nat) : Int) + 1))) (by kernel_rfl) ?_
            refine op_nil ?_
            refine ⟨_, ?_, F, (n + 1), cs, (fun v => I v ∨ v = n), A26, cp27, told ++ [2 * n], i + 1, _, updL_self (by kernel_rfl), ?_, ?_, ?_, hFb, nF_hTo, nB_hTo, nF_hBx, hT0, hG, hTo, hLc, hBx, rfl⟩
            · omega
            · omega
            · omega
            · intro z hz; rcases List.mem_append.1 hz with hz | hz; (have := hfit z hz; omega); (simp only [List.mem_cons, List.not_mem_nil, or_false] at hz; omega)
          · replace hc16 : (ds i).1 ≠ 0 := (ne_of_beq_false hc16)
            refine W_fg [(0, .slice L mm cl), (2, .int .i64 bad), (4, .pointer (some ⟨w.heap.size, 0, none⟩)), (6, .bool false), (7, .pointer (some ⟨p10, 0, none⟩)), (8, .slice A i cp), (9, .int .i64 ((i : Nat) : Int)), (24, .bool (decide (((i : Nat) : Int) < (mm : Int)))), (37, .bool (((ds i).1) == 0))] (by kernel_rfl) fun ρ => ?_
            refine W_draw (fun w' => RdW w' 4 mm L cells) (by kernel_rfl) (by kernel_rfl) (by kernel_rfl) fun w32 hT33 hh34 => ?_
            have hT0 := hT0.t0 hT33
            have hG := hG.tch0 hT33
            have hTo := hTo.tch0 hT33
            have hLc := hL.tch0 hT0
            have hBx := hBx.tch0 hT33
            refine d_takes [0, 1, 2, 3, 4, 10, 11, 12] (listed' := #[true, true, true, true, true, false, false, false, false, false, true, true, true, false, false, false, false, false, false, false, false, false]) (ρ' := upd (upd (upd (upd (upd (upd (upd (upd (updL ρ [(0, .slice L mm cl), (2, .int .i64 bad), (4, .pointer (some ⟨w.heap.size, 0, none⟩)), (6, .bool false), (7, .pointer (some ⟨p10, 0, none⟩)), (8, .slice A i cp), (9, .int .i64 ((i : Nat) : Int)), (24, .bool (decide (((i : Nat) : Int) < (mm : Int)))), (37, .bool (((ds i).1) == 0))]) 43 (.slice A i cp)) 44 (.pointer (some ⟨p10, 0, none⟩))) 45 (.slice A i cp)) 46 (.slice L mm cl)) 47 (.int .i64 ((i : Nat) : Int))) 53 (.slice A i cp)) 54 (.slice L mm cl)) 55 (.int .i64 ((i : Nat) : Int))) hLc (by kernel_rfl) ?_
            refine d_val (v := ptrAt L (i * 4)) 5 (by rfl) (by kernel_rfl) (by kernel_rfl) (by kernel_rfl) (fun w' hs => by have hLc := hs; exact R_indexRd (sz := 4) (len := mm) (cap := cl) (k := .i64) (i := ((i : Nat) : Int)) (e := 30) i hLc (by kernel_rfl) (by kernel_rfl) (by kernel_rfl) (by kernel_rfl) rfl (by omega)) hLc ?_
            refine d_val (v := ptrAt L (i * 4 + 1)) 6 (by rfl) (by kernel_rfl) (by kernel_rfl) (by kernel_rfl) (fun w' hs => by have hLc := hs; exact R_fieldRd (m := 1) hLc (by omega) (by kernel_rfl) (fun _ _ => by rfl)) hLc ?_
            refine d_val (v := .int .i64 ((ds i).2.1)) 7 (by rfl) (by kernel_rfl) (by kernel_rfl) (by kernel_rfl) (fun w' hs => by have hLc := hs; exact R_loadRd (v := .int .i64 ((ds i).2.1)) hLc (by omega) (by kernel_rfl) (by kernel_rfl) ((hD i (by omega)).2.1)) hLc ?_
            refine d_takes [8] (listed' := #[true, true, true, true, true, true, true, true, true, false, true, true, true, false, false, false, false, false, false, false, false, false]) (ρ' := upd (upd (upd (upd (upd (upd (upd (upd (upd (upd (upd (upd (updL ρ [(0, .slice L mm cl), (2, .int .i64 bad), (4, .pointer (some ⟨w.heap.size, 0, none⟩)), (6, .bool false), (7, .pointer (some ⟨p10, 0, none⟩)), (8, .slice A i cp), (9, .int .i64 ((i : Nat) : Int)), (24, .bool (decide (((i : Nat) : Int) < (mm : Int)))), (37, .bool (((ds i).1) == 0))]) 43 (.slice A i cp)) 44 (.pointer (some ⟨p10, 0, none⟩))) 45 (.slice A i cp)) 46 (.slice L mm cl)) 47 (.int .i64 ((i : Nat) : Int))) 53 (.slice A i cp)) 54 (.slice L mm cl)) 55 (.int .i64 ((i : Nat) : Int))) 48 (ptrAt L (i * 4))) 49 (ptrAt L (i * 4 + 1))) 50 (.int .i64 ((ds i).2.1))) 51 (.int .i64 (IntKind.i64.wrap (BitVec.ofInt 64 ((ds i).2.1) &&& BitVec.ofInt 64 1023).toNat))) hLc (by kernel_rfl) ?_
            rw [and1023]
            refine d_val (v := ptrAt L (i * 4)) 13 (by rfl) (by kernel_rfl) (by kernel_rfl) (by kernel_rfl) (fun w' hs => by have hLc := hs; exact R_indexRd (sz := 4) (len := mm) (cap := cl) (k := .i64) (i := ((i : Nat) : Int)) (e := 30) i hLc (by kernel_rfl) (by kernel_rfl) (by kernel_rfl) (by kernel_rfl) rfl (by omega)) hLc ?_
            refine d_val (v := ptrAt L (i * 4 + 2)) 14 (by rfl) (by kernel_rfl) (by kernel_rfl) (by kernel_rfl) (fun w' hs => by have hLc := hs; exact R_fieldRd (m := 2) hLc (by omega) (by kernel_rfl) (fun _ _ => by rfl)) hLc ?_
            refine d_val (v := .int .i64 ((ds i).2.2.1)) 15 (by rfl) (by kernel_rfl) (by kernel_rfl) (by kernel_rfl) (fun w' hs => by have hLc := hs; exact R_loadRd (v := .int .i64 ((ds i).2.2.1)) hLc (by omega) (by kernel_rfl) (by kernel_rfl) ((hD i (by omega)).2.2.1)) hLc ?_
            refine d_takes [16] (listed' := #[true, true, true, true, true, true, true, true, true, false, true, true, true, true, true, true, true, false, false, false, false, false]) (ρ' := upd (upd (upd (upd (upd (upd (upd (upd (upd (upd (upd (upd (upd (upd (upd (upd (updL ρ [(0, .slice L mm cl), (2, .int .i64 bad), (4, .pointer (some ⟨w.heap.size, 0, none⟩)), (6, .bool false), (7, .pointer (some ⟨p10, 0, none⟩)), (8, .slice A i cp), (9, .int .i64 ((i : Nat) : Int)), (24, .bool (decide (((i : Nat) : Int) < (mm : Int)))), (37, .bool (((ds i).1) == 0))]) 43 (.slice A i cp)) 44 (.pointer (some ⟨p10, 0, none⟩))) 45 (.slice A i cp)) 46 (.slice L mm cl)) 47 (.int .i64 ((i : Nat) : Int))) 53 (.slice A i cp)) 54 (.slice L mm cl)) 55 (.int .i64 ((i : Nat) : Int))) 48 (ptrAt L (i * 4))) 49 (ptrAt L (i * 4 + 1))) 50 (.int .i64 ((ds i).2.1))) 51 (.int .i64 ((aN (ds i).2.1 : Nat) : Int))) 56 (ptrAt L (i * 4))) 57 (ptrAt L (i * 4 + 2))) 58 (.int .i64 ((ds i).2.2.1))) 59 (.int .i64 (IntKind.i64.wrap (BitVec.ofInt 64 ((ds i).2.2.1) &&& BitVec.ofInt 64 1023).toNat))) hLc (by kernel_rfl) ?_
            rw [and1023]
            refine d_one 9 (by kernel_rfl) (by rfl) (by kernel_rfl) (S_call (args := [.slice A i cp, .int .i64 ((aN (ds i).2.1 : Nat) : Int)]) (by kernel_rfl) (lit_in n i cp A told (aN (ds i).2.1) _ hTo.rd1 (by omega) (by have := aN_le ((ds i).2.1); omega) hfit (by omega)) ?_)
            rintro _ w35 ⟨z37, rfl, hz38, hT36⟩
            have hT0 := hT0.t0 hT36
            have hG := hG.tch0 hT36
            have hTo := hTo.tch0 hT36
            have hLc := hL.tch0 hT0
            have hBx := hBx.tch0 hT36
            refine ⟨hLc, ?_⟩
            refine d_one 17 (by kernel_rfl) (by rfl) (by kernel_rfl) (S_call (args := [.slice A i cp, .int .i64 ((aN (ds i).2.2.1 : Nat) : Int)]) (by kernel_rfl) (lit_in n i cp A told (aN (ds i).2.2.1) _ hTo.rd1 (by omega) (by have := aN_le ((ds i).2.2.1); omega) hfit (by omega)) ?_)
            rintro _ w39 ⟨z41, rfl, hz42, hT40⟩
            have hT0 := hT0.t0 hT40
            have hG := hG.tch0 hT40
            have hTo := hTo.tch0 hT40
            have hLc := hL.tch0 hT0
            have hBx := hBx.tch0 hT40
            refine ⟨hLc, ?_⟩
            have hz_ := hT0.size
            have lt44 := hBx.lt
            have lR_hTo := hTo.lt
            have hz_ := hT0.size
            have lt52 := hBx.lt
            refine d_one 18 (by kernel_rfl) (by rfl) (by kernel_rfl) (S_call (args := [.pointer (some ⟨p10, 0, none⟩), .int .i64 ((z37 : Nat) : Int), .int .i64 ((z41 : Nat) : Int)]) (by kernel_rfl) (xor_ok F p10 n z37 z41 cs I _ hG (by omega) (by omega) (by omega)) ?_)
            rintro _ w43 ⟨F45, n46, cs47, x48, rfl, hG, hm49, hr50, hd51⟩
            have hT0 := (hT0).then hm49.1 hFb
            have hTo := hTo.tch hm49.1 nF_hTo
            have hLc := hL.tch0 hT0
            have hBx := hBx.tch hm49.1 nF_hBx
            have hxb53 := hr50.2.2.1
            have hle54 := hr50.1
            replace nF_hBx : ¬ F45 (w.heap.size) := fun e => (hm49.2 _ e).elim nF_hBx (fun q => by omega)
            replace hFb := hm49.ge hFb hz_
            replace nF_hTo : ∀ c, (Value.slice A (i) cp).ownBlock = some c → ¬ F45 c := fun c hc e => (hm49.2 c e).elim (nF_hTo c hc) (fun q => by have := lR_hTo c hc; omega)
            refine ⟨hLc, ?_⟩
            have hlt_ := hG.1.lt
            have z59 := hT0.size
            have l60 := hBx.lt
            refine d_one 19 (by kernel_rfl) (by rfl) (by kernel_rfl) (S_new (v := .slice (some ⟨w43.heap.size, 0, none⟩) 1 1) (ob := .cells #[.int .i64 ((x48 : Nat) : Int)] 3) (by kernel_rfl) fun w55 hT56 hs57 hB58 => ?_)
            replace hB58 : Blk w55 (w43.heap.size) 3 [.int .i64 ((x48 : Nat) : Int)] := hB58
            have hT0 := hT0.t0 hT56
            have hG := hG.tch0 hT56
            have hTo := hTo.tch0 hT56
            have hLc := hL.tch0 hT0
            have hBx := hBx.tch0 hT56
            have nF_hB58 : ¬ F45 (w43.heap.size) := fun e => by have := hlt_ _ e; omega
            refine ⟨hLc, ?_⟩
            have hz_ := hT0.size
            have hGl_ := hG.1.lt
            have lR_hTo := hTo.lt
            refine d_one 20 (by kernel_rfl) (by rfl) (by kernel_rfl) (S_appendR 27 3 (.int .i64 0) 1 8 (n := i) (m := 1) (A := A) (cp := cp) (cells := nats told) (news := [.int .i64 ((x48 : Nat) : Int)]) (b := w43.heap.size) (off := 0) (c := 1) (by kernel_rfl) (by kernel_rfl) (by decide) (by kernel_rfl) (by kernel_rfl) (by kernel_rfl) hTo (by rfl) (fun k u hk => by rw [Nat.zero_add, hB58.cell]; exact hk) (by simp [oneV]) (by simp only [maxLen]; omega) (by omega) fun A61 cp62 w63 hO64 hw65 hT66 => ?_)
            have hT0 := (hT0).then hT66 nB_hTo
            have hG := hG.tchS hT66 (fun c e => nF_hTo c e)
            have hLc := hL.tch0 hT0
            have hBx := hBx.tch hT66 (fun e => hTo.blk_ne hBx (by decide) _ e rfl)
            have hTo : Own w63 0 3 1 (.slice A61 (i + 1) cp62) (i + 1) (nats (told ++ [x48])) := by rw [nats_append]; exact hO64
            have nF_hTo : ∀ c, (Value.slice A61 (i + 1) cp62).ownBlock = some c → ¬ F45 c := fun c hc => (hw65 c hc).elim (nF_hTo c) (fun q e => by have := hGl_ _ e; omega)
            have nB_hTo : ∀ c, (Value.slice A61 (i + 1) cp62).ownBlock = some c → w.heap.size ≤ c := fun c hc => (hw65 c hc).elim (nB_hTo c) (fun q => by omega)
            refine ⟨hLc, ?_⟩
            refine d_takes [21] (listed' := #[true, true, true, true, true, true, true, true, true, true, true, true, true, true, true, true, true, true, true, true, true, true]) (ρ' := upd (upd (upd (upd (upd (upd (upd (upd (upd (upd (upd (upd (upd (upd (upd (upd (upd (upd (upd (upd (upd (upd (updL ρ [(0, .slice L mm cl), (2, .int .i64 bad), (4, .pointer (some ⟨w.heap.size, 0, none⟩)), (6, .bool false), (7, .pointer (some ⟨p10, 0, none⟩)), (8, .slice A i cp), (9, .int .i64 ((i : Nat) : Int)), (24, .bool (decide (((i : Nat) : Int) < (mm : Int)))), (37, .bool (((ds i).1) == 0))]) 43 (.slice A i cp)) 44 (.pointer (some ⟨p10, 0, none⟩))) 45 (.slice A i cp)) 46 (.slice L mm cl)) 47 (.int .i64 ((i : Nat) : Int))) 53 (.slice A i cp)) 54 (.slice L mm cl)) 55 (.int .i64 ((i : Nat) : Int))) 48 (ptrAt L (i * 4))) 49 (ptrAt L (i * 4 + 1))) 50 (.int .i64 ((ds i).2.1))) 51 (.int .i64 ((aN (ds i).2.1 : Nat) : Int))) 56 (ptrAt L (i * 4))) 57 (ptrAt L (i * 4 + 2))) 58 (.int .i64 ((ds i).2.2.1))) 59 (.int .i64 ((aN (ds i).2.2.1 : Nat) : Int))) 52 (.int .i64 ((z37 : Nat) : Int))) 60 (.int .i64 ((z41 : Nat) : Int))) 61 (.int .i64 ((x48 : Nat) : Int))) 62 (.slice (some ⟨w43.heap.size, 0, none⟩) 1 1)) 63 (.slice A61 (i + 1) cp62)) 8 (.slice A61 (i + 1) cp62)) hLc (by kernel_rfl) ?_
            refine d_done (by kernel_rfl) ?_
            refine W_fg [(0, .slice L mm cl), (2, .int .i64 bad), (4, .pointer (some ⟨w.heap.size, 0, none⟩)), (6, .bool false), (7, .pointer (some ⟨p10, 0, none⟩)), (8, .slice A61 (i + 1) cp62), (9, .int .i64 ((i : Nat) : Int)), (24, .bool (decide (((i : Nat) : Int) < (mm : Int)))), (37, .bool (((ds i).1) == 0))] (by kernel_rfl) fun ρ => ?_
            refine W_region (by kernel_rfl) ?_
            refine seg2 (ρ' := upd (upd (updL ρ [(0, .slice L mm cl), (2, .int .i64 bad), (4, .pointer (some ⟨w.heap.size, 0, none⟩)), (6, .bool false), (7, .pointer (some ⟨p10, 0, none⟩)), (8, .slice A61 (i + 1) cp62), (9, .int .i64 ((i : Nat) : Int)), (24, .bool (decide (((i : Nat) : Int) < (mm : Int)))), (37, .bool (((ds i).1) == 0))]) 25 (.int .i64 ((i : Nat) : Int))) 26 (.int .i64 (IntKind.i64.wrap (((i : Nat) : Int) + 1)))) (by kernel_rfl) ?_
            rw [show IntKind.i64.wrap (((i : Nat) : Int) + 1) = ((i : Nat) : Int) + 1 from wrap_i64 (by omega) (by omega)]
            refine seg1 (ρ' := upd (upd (upd (updL ρ [(0, .slice L mm cl), (2, .int .i64 bad), (4, .pointer (some ⟨w.heap.size, 0, none⟩)), (6, .bool false), (7, .pointer (some ⟨p10, 0, none⟩)), (8, .slice A61 (i + 1) cp62), (9, .int .i64 ((i : Nat) : Int)), (24, .bool (decide (((i : Nat) : Int) < (mm : Int)))), (37, .bool (((ds i).1) == 0))]) 25 (.int .i64 ((i : Nat) : Int))) 26 (.int .i64 (((i : Nat) : Int) + 1))) 9 (.int .i64 (((i : Nat) : Int) + 1))) (by kernel_rfl) ?_
            refine op_nil ?_
            refine ⟨_, ?_, F45, n46, cs47, I, A61, cp62, told ++ [x48], i + 1, _, updL_self (by kernel_rfl), ?_, ?_, ?_, hFb, nF_hTo, nB_hTo, nF_hBx, hT0, hG, hTo, hLc, hBx, rfl⟩
            · omega
            · omega
            · omega
            · intro z hz; rcases List.mem_append.1 hz with hz | hz; (have := hfit z hz; omega); (simp only [List.mem_cons, List.not_mem_nil, or_false] at hz; omega)
        · replace hb15 : (i : Int) < 2 := (of_decide_eq_true hb15)
          refine seg7 (ρ' := upd (upd (upd (upd (upd (upd (upd (upd (upd (upd (upd (upd (upd (upd (upd (updL ρ [(0, .slice L mm cl), (2, .int .i64 bad), (4, .pointer (some ⟨w.heap.size, 0, none⟩)), (6, .bool false), (7, .pointer (some ⟨p10, 0, none⟩)), (8, .slice A i cp), (9, .int .i64 ((i : Nat) : Int))]) 21 (.int .i64 ((i : Nat) : Int))) 22 (.slice L mm cl)) 23 (.int .i64 (mm : Int))) 24 (.bool (decide (((i : Nat) : Int) < (mm : Int))))) 27 (.slice A i cp)) 28 (.int .i64 (i : Int))) 29 (.bool true)) 30 (.bool true)) 31 (undef)) 32 (undef)) 33 (undef)) 34 (undef)) 35 (undef)) 36 (undef)) 37 (.bool true)) (by kernel_rfl) ?_
          refine op_nil ?_
          refine W_cond true (by kernel_rfl) (by kernel_rfl) (fun _ => ?_) (fun h => nomatch h)
          refine W_fg [(0, .slice L mm cl), (2, .int .i64 bad), (4, .pointer (some ⟨w.heap.size, 0, none⟩)), (6, .bool false), (7, .pointer (some ⟨p10, 0, none⟩)), (8, .slice A i cp), (9, .int .i64 ((i : Nat) : Int)), (24, .bool (decide (((i : Nat) : Int) < (mm : Int)))), (37, .bool true)] (by kernel_rfl) fun ρ => ?_
          refine W_region (by kernel_rfl) ?_
          refine seg2 (ρ' := upd (upd (updL ρ [(0, .slice L mm cl), (2, .int .i64 bad), (4, .pointer (some ⟨w.heap.size, 0, none⟩)), (6, .bool false), (7, .pointer (some ⟨p10, 0, none⟩)), (8, .slice A i cp), (9, .int .i64 ((i : Nat) : Int)), (24, .bool (decide (((i : Nat) : Int) < (mm : Int)))), (37, .bool true)]) 38 (.slice A i cp)) 39 (.pointer (some ⟨p10, 0, none⟩))) (by kernel_rfl) ?_
          have hz_ := hT0.size
          have lt69 := hBx.lt
          have lR_hTo := hTo.lt
          refine st (by rfl) (S_call (args := [.pointer (some ⟨p10, 0, none⟩)]) (by kernel_rfl) (input_ok F p10 n cs I _ hG (by omega)) ?_)
          rintro _ w67 ⟨rfl, hG, hm68⟩
          have hT0 := (hT0).then hm68.1 hFb
          have hTo := hTo.tch hm68.1 nF_hTo
          have hLc := hL.tch0 hT0
          have hBx := hBx.tch hm68.1 nF_hBx
          replace nF_hBx : ¬ F (w.heap.size) := fun e => (hm68.2 _ e).elim nF_hBx (fun q => by omega)
          replace nF_hTo : ∀ c, (Value.slice A (i) cp).ownBlock = some c → ¬ F c := fun c hc e => (hm68.2 c e).elim (nF_hTo c hc) (fun q => by have := lR_hTo c hc; omega)
          replace hFb := hm68.ge hFb hz_
          have hlt_ := hG.1.lt
          have z74 := hT0.size
          have l75 := hBx.lt
          refine st (by rfl) (S_new (v := .slice (some ⟨w67.heap.size, 0, none⟩) 1 1) (ob := .cells #[.int .i64 ((2 * n : Nat) : Int)] 3) (by kernel_rfl) fun w70 hT71 hs72 hB73 => ?_)
          replace hB73 : Blk w70 (w67.heap.size) 3 [.int .i64 ((2 * n : Nat) : Int)] := hB73
          have hT0 := hT0.t0 hT71
          have hG := hG.tch0 hT71
          have hTo := hTo.tch0 hT71
          have hLc := hL.tch0 hT0
          have hBx := hBx.tch0 hT71
          have nF_hB73 : ¬ F (w67.heap.size) := fun e => by have := hlt_ _ e; omega
          have hz_ := hT0.size
          have hGl_ := hG.1.lt
          have lR_hTo := hTo.lt
          refine st (by rfl) (S_appendR 27 3 (.int .i64 0) 1 8 (n := i) (m := 1) (A := A) (cp := cp) (cells := nats told) (news := [.int .i64 ((2 * n : Nat) : Int)]) (b := w67.heap.size) (off := 0) (c := 1) (by kernel_rfl) (by kernel_rfl) (by decide) (by kernel_rfl) (by kernel_rfl) (by kernel_rfl) hTo (by rfl) (fun k u hk => by rw [Nat.zero_add, hB73.cell]; exact hk) (by simp [oneV]) (by simp only [maxLen]; omega) (by omega) fun A76 cp77 w78 hO79 hw80 hT81 => ?_)
          have hT0 := (hT0).then hT81 nB_hTo
          have hG := hG.tchS hT81 (fun c e => nF_hTo c e)
          have hLc := hL.tch0 hT0
          have hBx := hBx.tch hT81 (fun e => hTo.blk_ne hBx (by decide) _ e rfl)
          have hTo : Own w78 0 3 1 (.slice A76 (i + 1) cp77) (i + 1) (nats (told ++ [2 * n])) := by rw [nats_append]; exact hO79
          have nF_hTo : ∀ c, (Value.slice A76 (i + 1) cp77).ownBlock = some c → ¬ F c := fun c hc => (hw80 c hc).elim (nF_hTo c) (fun q e => by have := hGl_ _ e; omega)
          have nB_hTo : ∀ c, (Value.slice A76 (i + 1) cp77).ownBlock = some c → w.heap.size ≤ c := fun c hc => (hw80 c hc).elim (nB_hTo c) (fun q => by omega)
          refine seg1 (ρ' := upd (upd (upd (upd (upd (upd (updL ρ [(0, .slice L mm cl), (2, .int .i64 bad), (4, .pointer (some ⟨w.heap.size, 0, none⟩)), (6, .bool false), (7, .pointer (some ⟨p10, 0, none⟩)), (8, .slice A i cp), (9, .int .i64 ((i : Nat) : Int)), (24, .bool (decide (((i : Nat) : Int) < (mm : Int)))), (37, .bool true)]) 38 (.slice A i cp)) 39 (.pointer (some ⟨p10, 0, none⟩))) 40 (.int .i64 ((2 * n : Nat) : Int))) 41 (.slice (some ⟨w67.heap.size, 0, none⟩) 1 1)) 42 (.slice A76 (i + 1) cp77)) 8 (.slice A76 (i + 1) cp77)) (by kernel_rfl) ?_
          refine op_nil ?_
          refine W_region (by kernel_rfl) ?_
          refine seg2 (ρ' := upd (upd (upd (upd (upd (upd (upd (upd (updL ρ [(0, .slice L mm cl), (2, .int .i64 bad), (4, .pointer (some ⟨w.heap.size, 0, none⟩)), (6, .bool false), (7, .pointer (some ⟨p10, 0, none⟩)), (8, .slice A i cp), (9, .int .i64 ((i : Nat) : Int)), (24, .bool (decide (((i : Nat) : Int) < (mm : Int)))), (37, .bool true)]) 38 (.slice A i cp)) 39 (.pointer (some ⟨p10, 0, none⟩))) 40 (.int .i64 ((2 * n : Nat) : Int))) 41 (.slice (some ⟨w67.heap.size, 0, none⟩) 1 1)) 42 (.slice A76 (i + 1) cp77)) 8 (.slice A76 (i + 1) cp77)) 25 (.int .i64 ((i : Nat) : Int))) 26 (.int .i64 (IntKind.i64.wrap (((i : Nat) : Int) + 1)))) (by kernel_rfl) ?_
          rw [show IntKind.i64.wrap (((i : Nat) : Int) + 1) = ((i : Nat) : Int) + 1 from wrap_i64 (by omega) (by omega)]
          refine seg1 (ρ' := upd (upd (upd (upd (upd (upd (upd (upd (upd (updL ρ [(0, .slice L mm cl), (2, .int .i64 bad), (4, .pointer (some ⟨w.heap.size, 0, none⟩)), (6, .bool false), (7, .pointer (some ⟨p10, 0, none⟩)), (8, .slice A i cp), (9, .int .i64 ((i : Nat) : Int)), (24, .bool (decide (((i : Nat) : Int) < (mm : Int)))), (37, .bool true)]) 38 (.slice A i cp)) 39 (.pointer (some ⟨p10, 0, none⟩))) 40 (.int .i64 ((2 * n : Nat) : Int))) 41 (.slice (some ⟨w67.heap.size, 0, none⟩) 1 1)) 42 (.slice A76 (i + 1) cp77)) 8 (.slice A76 (i + 1) cp77)) 25 (.int .i64 ((i : Nat) : Int))) 26 (.int .i64 (((i : Nat) : Int) + 1))) 9 (.int .i64 (((i : Nat) : Int) + 1))) (by kernel_rfl) ?_
          refine op_nil ?_
          refine ⟨_, ?_, F, (n + 1), cs, (fun v => I v ∨ v = n), A76, cp77, told ++ [2 * n], i + 1, _, updL_self (by kernel_rfl), ?_, ?_, ?_, hFb, nF_hTo, nB_hTo, nF_hBx, hT0, hG, hTo, hLc, hBx, rfl⟩
          · omega
          · omega
          · omega
          · intro z hz; rcases List.mem_append.1 hz with hz | hz; (have := hfit z hz; omega); (simp only [List.mem_cons, List.not_mem_nil, or_false] at hz; omega)
      · replace hc14 : (mm : Int) ≤ ((i : Nat) : Int) := (Int.not_lt.1 (of_decide_eq_false hc14))
        refine W_exit ?_
        refine X_hit ?_
        refine W_seq ?_
        refine W_region (by kernel_rfl) ?_
        refine seg1 (ρ' := upd (upd (upd (upd (upd (updL ρ [(0, .slice L mm cl), (2, .int .i64 bad), (4, .pointer (some ⟨w.heap.size, 0, none⟩)), (6, .bool false), (7, .pointer (some ⟨p10, 0, none⟩)), (8, .slice A i cp), (9, .int .i64 ((i : Nat) : Int))]) 21 (.int .i64 ((i : Nat) : Int))) 22 (.slice L mm cl)) 23 (.int .i64 (mm : Int))) 24 (.bool (decide (((i : Nat) : Int) < (mm : Int))))) 64 (.pointer (some ⟨p10, 0, none⟩))) (by kernel_rfl) ?_
        refine st (by rfl) (S_call (args := [.pointer (some ⟨p10, 0, none⟩)]) (by kernel_rfl) (vars_ok F p10 n cs I _ hG) ?_)
        rintro _ w82 ⟨rfl, hT83⟩
        have hT0 := hT0.t0 hT83
        have hG := hG.tch0 hT83
        have hTo := hTo.tch0 hT83
        have hLc := hL.tch0 hT0
        have hBx := hBx.tch0 hT83
        refine seg1 (ρ' := upd (upd (upd (upd (upd (upd (upd (updL ρ [(0, .slice L mm cl), (2, .int .i64 bad), (4, .pointer (some ⟨w.heap.size, 0, none⟩)), (6, .bool false), (7, .pointer (some ⟨p10, 0, none⟩)), (8, .slice A i cp), (9, .int .i64 ((i : Nat) : Int))]) 21 (.int .i64 ((i : Nat) : Int))) 22 (.slice L mm cl)) 23 (.int .i64 (mm : Int))) 24 (.bool (decide (((i : Nat) : Int) < (mm : Int))))) 64 (.pointer (some ⟨p10, 0, none⟩))) 65 (.int .i64 ((n : Nat) : Int))) 66 (.pointer (some ⟨p10, 0, none⟩))) (by kernel_rfl) ?_
        refine st (by rfl) (S_call (args := [.pointer (some ⟨p10, 0, none⟩)]) (by kernel_rfl) (clauses_ok F p10 n cs I _ hG (by omega)) ?_)
        rintro _ w84 ⟨L86, lcp87, Lv88, rfl, hClr, hClc, hT85⟩
        have hT0 := hT0.t0 hT85
        have hG := hG.tch0 hT85
        have hTo := hTo.tch0 hT85
        have hLc := hL.tch0 hT0
        have hBx := hBx.tch0 hT85
        refine seg3 (ρ' := upd (upd (upd (upd (upd (upd (upd (upd (upd (upd (upd (updL ρ [(0, .slice L mm cl), (2, .int .i64 bad), (4, .pointer (some ⟨w.heap.size, 0, none⟩)), (6, .bool false), (7, .pointer (some ⟨p10, 0, none⟩)), (8, .slice A i cp), (9, .int .i64 ((i : Nat) : Int))]) 21 (.int .i64 ((i : Nat) : Int))) 22 (.slice L mm cl)) 23 (.int .i64 (mm : Int))) 24 (.bool (decide (((i : Nat) : Int) < (mm : Int))))) 64 (.pointer (some ⟨p10, 0, none⟩))) 65 (.int .i64 ((n : Nat) : Int))) 66 (.pointer (some ⟨p10, 0, none⟩))) 67 (.slice L86 cs.length lcp87)) 68 (.int .i64 (cs.length : Int))) 10 (.int .i64 ((n : Nat) : Int))) 11 (.int .i64 (cs.length : Int))) (by kernel_rfl) ?_
        refine op_nil ?_
        refine W_seq ?_
        refine W_seq ?_
        refine W_fg [(0, .slice L mm cl), (2, .int .i64 bad), (4, .pointer (some ⟨w.heap.size, 0, none⟩)), (6, .bool false), (7, .pointer (some ⟨p10, 0, none⟩)), (8, .slice A i cp), (9, .int .i64 ((i : Nat) : Int)), (10, .int .i64 ((n : Nat) : Int)), (11, .int .i64 (cs.length : Int)), (24, .bool (decide (((i : Nat) : Int) < (mm : Int))))] (by kernel_rfl) fun ρ => ?_
        refine W_region (by kernel_rfl) ?_
        refine seg3 (ρ' := upd (upd (upd (updL ρ [(0, .slice L mm cl), (2, .int .i64 bad), (4, .pointer (some ⟨w.heap.size, 0, none⟩)), (6, .bool false), (7, .pointer (some ⟨p10, 0, none⟩)), (8, .slice A i cp), (9, .int .i64 ((i : Nat) : Int)), (10, .int .i64 ((n : Nat) : Int)), (11, .int .i64 (cs.length : Int)), (24, .bool (decide (((i : Nat) : Int) < (mm : Int))))]) 69 (.int .i64 bad)) 70 (.bool (decide (bad ≥ 0)))) 71 (.bool (decide (bad ≥ 0)))) (by kernel_rfl) ?_
        cases hb89 : decide (bad ≥ 0)
        · replace hb89 : bad < 0 := (Int.not_le.1 (of_decide_eq_false hb89))
          refine seg5 (ρ' := upd (upd (upd (upd (upd (upd (upd (upd (updL ρ [(0, .slice L mm cl), (2, .int .i64 bad), (4, .pointer (some ⟨w.heap.size, 0, none⟩)), (6, .bool false), (7, .pointer (some ⟨p10, 0, none⟩)), (8, .slice A i cp), (9, .int .i64 ((i : Nat) : Int)), (10, .int .i64 ((n : Nat) : Int)), (11, .int .i64 (cs.length : Int)), (24, .bool (decide (((i : Nat) : Int) < (mm : Int))))]) 69 (.int .i64 bad)) 70 (.bool false)) 71 (.bool false)) 72 (undef)) 73 (undef)) 74 (undef)) 75 (undef)) 76 (.bool false)) (by kernel_rfl) ?_
          refine op_nil ?_
          refine W_cond false (by kernel_rfl) (by kernel_rfl) (fun h => nomatch h) (fun _ => ?_)
          refine W_skip ?_
          refine W_seq ?_
          refine W_fg [(0, .slice L mm cl), (2, .int .i64 bad), (4, .pointer (some ⟨w.heap.size, 0, none⟩)), (6, .bool false), (7, .pointer (some ⟨p10, 0, none⟩)), (8, .slice A i cp), (9, .int .i64 ((i : Nat) : Int)), (10, .int .i64 ((n : Nat) : Int)), (11, .int .i64 (cs.length : Int)), (24, .bool (decide (((i : Nat) : Int) < (mm : Int)))), (76, .bool false)] (by kernel_rfl) fun ρ => ?_
          have hbI : badI n bad = true := decide_eq_true (by omega)
          refine W_region (by kernel_rfl) ?_
          refine seg1 (ρ' := upd (updL ρ [(0, .slice L mm cl), (2, .int .i64 bad), (4, .pointer (some ⟨w.heap.size, 0, none⟩)), (6, .bool false), (7, .pointer (some ⟨p10, 0, none⟩)), (8, .slice A i cp), (9, .int .i64 ((i : Nat) : Int)), (10, .int .i64 ((n : Nat) : Int)), (11, .int .i64 (cs.length : Int)), (24, .bool (decide (((i : Nat) : Int) < (mm : Int)))), (76, .bool false)]) 78 (.pointer (some ⟨p10, 0, none⟩))) (by kernel_rfl) ?_
          refine st (by rfl) (S_call (args := [.pointer (some ⟨p10, 0, none⟩)]) (by kernel_rfl) (true_ok p10 _) ?_)
          rintro _ w90 ⟨rfl, hT91⟩
          have hT0 := hT0.t0 hT91
          have hG := hG.tch0 hT91
          have hTo := hTo.tch0 hT91
          have hLc := hL.tch0 hT0
          have hBx := hBx.tch0 hT91
          have hClr := hClr.tch0 hT91
          have hClc := hClc.tch0 hT91
          refine seg1 (ρ' := upd (upd (upd (updL ρ [(0, .slice L mm cl), (2, .int .i64 bad), (4, .pointer (some ⟨w.heap.size, 0, none⟩)), (6, .bool false), (7, .pointer (some ⟨p10, 0, none⟩)), (8, .slice A i cp), (9, .int .i64 ((i : Nat) : Int)), (10, .int .i64 ((n : Nat) : Int)), (11, .int .i64 (cs.length : Int)), (24, .bool (decide (((i : Nat) : Int) < (mm : Int)))), (76, .bool false)]) 78 (.pointer (some ⟨p10, 0, none⟩))) 79 (.int .i64 0)) 12 (.int .i64 0)) (by kernel_rfl) ?_
          refine op_nil ?_
          refine W_seq ?_
          refine W_region (by kernel_rfl) ?_
          refine seg3 (ρ' := upd (upd (upd (upd (upd (upd (updL ρ [(0, .slice L mm cl), (2, .int .i64 bad), (4, .pointer (some ⟨w.heap.size, 0, none⟩)), (6, .bool false), (7, .pointer (some ⟨p10, 0, none⟩)), (8, .slice A i cp), (9, .int .i64 ((i : Nat) : Int)), (10, .int .i64 ((n : Nat) : Int)), (11, .int .i64 (cs.length : Int)), (24, .bool (decide (((i : Nat) : Int) < (mm : Int)))), (76, .bool false)]) 78 (.pointer (some ⟨p10, 0, none⟩))) 79 (.int .i64 0)) 12 (.int .i64 0)) 80 (.pointer (some ⟨p10, 0, none⟩))) 81 (.int .i64 bad)) 82 (.int .i64 0)) (by kernel_rfl) ?_
          refine st (by rfl) (S_call (args := [.pointer (some ⟨p10, 0, none⟩), .int .i64 bad, .int .i64 0]) (by kernel_rfl) (and_bad F p10 n bad 0 cs I _ hG (by omega) (by omega) (by simp [badB, hbI])) ?_)
          rintro _ w92 ⟨rfl, hT93⟩
          have hT0 := hT0.t0 hT93
          have hG := hG.tch0 hT93
          have hTo := hTo.tch0 hT93
          have hLc := hL.tch0 hT0
          have hBx := hBx.tch0 hT93
          have hClr := hClr.tch0 hT93
          have hClc := hClc.tch0 hT93
          refine seg5 (ρ' := upd (upd (upd (upd (upd (upd (upd (upd (upd (upd (upd (upd (updL ρ [(0, .slice L mm cl), (2, .int .i64 bad), (4, .pointer (some ⟨w.heap.size, 0, none⟩)), (6, .bool false), (7, .pointer (some ⟨p10, 0, none⟩)), (8, .slice A i cp), (9, .int .i64 ((i : Nat) : Int)), (10, .int .i64 ((n : Nat) : Int)), (11, .int .i64 (cs.length : Int)), (24, .bool (decide (((i : Nat) : Int) < (mm : Int)))), (76, .bool false)]) 78 (.pointer (some ⟨p10, 0, none⟩))) 79 (.int .i64 0)) 12 (.int .i64 0)) 80 (.pointer (some ⟨p10, 0, none⟩))) 81 (.int .i64 bad)) 82 (.int .i64 0)) 83 (.int .i64 (-1))) 84 (.bool true)) 85 (.bool true)) 86 (.pointer (some ⟨p10, 0, none⟩))) 87 (.int .i64 0)) 88 (.int .i64 bad)) (by kernel_rfl) ?_
          refine st (by kernel_rfl) (S_call (args := [.pointer (some ⟨p10, 0, none⟩), .int .i64 0, .int .i64 bad]) (by kernel_rfl) (and_bad F p10 n 0 bad cs I _ hG (by omega) (by omega) (by simp [badB, hbI])) ?_)
          rintro _ w94 ⟨rfl, hT95⟩
          have hT0 := hT0.t0 hT95
          have hG := hG.tch0 hT95
          have hTo := hTo.tch0 hT95
          have hLc := hL.tch0 hT0
          have hBx := hBx.tch0 hT95
          have hClr := hClr.tch0 hT95
          have hClc := hClc.tch0 hT95
          refine seg6 (ρ' := upd (upd (upd (upd (upd (upd (upd (upd (upd (upd (upd (upd (upd (upd (upd (upd (upd (upd (upd (updL ρ [(0, .slice L mm cl), (2, .int .i64 bad), (4, .pointer (some ⟨w.heap.size, 0, none⟩)), (6, .bool false), (7, .pointer (some ⟨p10, 0, none⟩)), (8, .slice A i cp), (9, .int .i64 ((i : Nat) : Int)), (10, .int .i64 ((n : Nat) : Int)), (11, .int .i64 (cs.length : Int)), (24, .bool (decide (((i : Nat) : Int) < (mm : Int)))), (76, .bool false)]) 78 (.pointer (some ⟨p10, 0, none⟩))) 79 (.int .i64 0)) 12 (.int .i64 0)) 80 (.pointer (some ⟨p10, 0, none⟩))) 81 (.int .i64 bad)) 82 (.int .i64 0)) 83 (.int .i64 (-1))) 84 (.bool true)) 85 (.bool true)) 86 (.pointer (some ⟨p10, 0, none⟩))) 87 (.int .i64 0)) 88 (.int .i64 bad)) 89 (.int .i64 (-1))) 90 (.bool true)) 91 (.bool true)) 92 (.bool true)) 93 (.pointer (some ⟨p10, 0, none⟩))) 94 (.int .i64 bad)) 95 (.int .i64 0)) (by kernel_rfl) ?_
          refine st (by kernel_rfl) (S_call (args := [.pointer (some ⟨p10, 0, none⟩), .int .i64 bad, .int .i64 0]) (by kernel_rfl) (or_bad F p10 n bad 0 cs I _ hG (by omega) (by omega) (by simp [badB, hbI])) ?_)
          rintro _ w96 ⟨rfl, hT97⟩
          have hT0 := hT0.t0 hT97
          have hG := hG.tch0 hT97
          have hTo := hTo.tch0 hT97
          have hLc := hL.tch0 hT0
          have hBx := hBx.tch0 hT97
          have hClr := hClr.tch0 hT97
          have hClc := hClc.tch0 hT97
          refine seg6 (ρ' := upd (upd (upd (upd (upd (upd (upd (upd (upd (upd (upd (upd (upd (upd (upd (upd (upd (upd (upd (upd (upd (upd (upd (upd (upd (upd (updL ρ [(0, .slice L mm cl), (2, .int .i64 bad), (4, .pointer (some ⟨w.heap.size, 0, none⟩)), (6, .bool false), (7, .pointer (some ⟨p10, 0, none⟩)), (8, .slice A i cp), (9, .int .i64 ((i : Nat) : Int)), (10, .int .i64 ((n : Nat) : Int)), (11, .int .i64 (cs.length : Int)), (24, .bool (decide (((i : Nat) : Int) < (mm : Int)))), (76, .bool false)]) 78 (.pointer (some ⟨p10, 0, none⟩))) 79 (.int .i64 0)) 12 (.int .i64 0)) 80 (.pointer (some ⟨p10, 0, none⟩))) 81 (.int .i64 bad)) 82 (.int .i64 0)) 83 (.int .i64 (-1))) 84 (.bool true)) 85 (.bool true)) 86 (.pointer (some ⟨p10, 0, none⟩))) 87 (.int .i64 0)) 88 (.int .i64 bad)) 89 (.int .i64 (-1))) 90 (.bool true)) 91 (.bool true)) 92 (.bool true)) 93 (.pointer (some ⟨p10, 0, none⟩))) 94 (.int .i64 bad)) 95 (.int .i64 0)) 96 (.int .i64 (-1))) 97 (.bool true)) 98 (.bool true)) 99 (.bool true)) 100 (.pointer (some ⟨p10, 0, none⟩))) 101 (.int .i64 0)) 102 (.int .i64 bad)) (by kernel_rfl) ?_
          refine st (by kernel_rfl) (S_call (args := [.pointer (some ⟨p10, 0, none⟩), .int .i64 0, .int .i64 bad]) (by kernel_rfl) (xor_bad F p10 n 0 bad cs I _ hG (by omega) (by omega) (by simp [badB, hbI])) ?_)
          rintro _ w98 ⟨rfl, hT99⟩
          have hT0 := hT0.t0 hT99
          have hG := hG.tch0 hT99
          have hTo := hTo.tch0 hT99
          have hLc := hL.tch0 hT0
          have hBx := hBx.tch0 hT99
          have hClr := hClr.tch0 hT99
          have hClc := hClc.tch0 hT99
          refine seg7 (ρ' := upd (upd (upd (upd (upd (upd (upd (upd (upd (upd (upd (upd (upd (upd (upd (upd (upd (upd (upd (upd (upd (upd (upd (upd (upd (upd (upd (upd (upd (upd (upd (upd (upd (upd (updL ρ [(0, .slice L mm cl), (2, .int .i64 bad), (4, .pointer (some ⟨w.heap.size, 0, none⟩)), (6, .bool false), (7, .pointer (some ⟨p10, 0, none⟩)), (8, .slice A i cp), (9, .int .i64 ((i : Nat) : Int)), (10, .int .i64 ((n : Nat) : Int)), (11, .int .i64 (cs.length : Int)), (24, .bool (decide (((i : Nat) : Int) < (mm : Int)))), (76, .bool false)]) 78 (.pointer (some ⟨p10, 0, none⟩))) 79 (.int .i64 0)) 12 (.int .i64 0)) 80 (.pointer (some ⟨p10, 0, none⟩))) 81 (.int .i64 bad)) 82 (.int .i64 0)) 83 (.int .i64 (-1))) 84 (.bool true)) 85 (.bool true)) 86 (.pointer (some ⟨p10, 0, none⟩))) 87 (.int .i64 0)) 88 (.int .i64 bad)) 89 (.int .i64 (-1))) 90 (.bool true)) 91 (.bool true)) 92 (.bool true)) 93 (.pointer (some ⟨p10, 0, none⟩))) 94 (.int .i64 bad)) 95 (.int .i64 0)) 96 (.int .i64 (-1))) 97 (.bool true)) 98 (.bool true)) 99 (.bool true)) 100 (.pointer (some ⟨p10, 0, none⟩))) 101 (.int .i64 0)) 102 (.int .i64 bad)) 103 (.int .i64 (-1))) 104 (.bool true)) 105 (.bool true)) 106 (.bool true)) 107 (.pointer (some ⟨p10, 0, none⟩))) 108 (.int .i64 bad)) 109 (.int .i64 0)) 110 (.int .i64 0)) (by kernel_rfl) ?_
          refine st (by kernel_rfl) (S_call (args := [.pointer (some ⟨p10, 0, none⟩), .int .i64 bad, .int .i64 0, .int .i64 0]) (by kernel_rfl) (ite_bad F p10 n bad 0 0 cs I _ hG (by omega) (by omega) (by omega) (by simp [badB, hbI])) ?_)
          rintro _ w100 ⟨rfl, hT101⟩
          have hT0 := hT0.t0 hT101
          have hG := hG.tch0 hT101
          have hTo := hTo.tch0 hT101
          have hLc := hL.tch0 hT0
          have hBx := hBx.tch0 hT101
          have hClr := hClr.tch0 hT101
          have hClc := hClc.tch0 hT101
          refine seg7 (ρ' := upd (upd (upd (upd (upd (upd (upd (upd (upd (upd (upd (upd (upd (upd (upd (upd (upd (upd (upd (upd (upd (upd (upd (upd (upd (upd (upd (upd (upd (upd (upd (upd (upd (upd (upd (upd (upd (upd (upd (upd (upd (upd (updL ρ [(0, .slice L mm cl), (2, .int .i64 bad), (4, .pointer (some ⟨w.heap.size, 0, none⟩)), (6, .bool false), (7, .pointer (some ⟨p10, 0, none⟩)), (8, .slice A i cp), (9, .int .i64 ((i : Nat) : Int)), (10, .int .i64 ((n : Nat) : Int)), (11, .int .i64 (cs.length : Int)), (24, .bool (decide (((i : Nat) : Int) < (mm : Int)))), (76, .bool false)]) 78 (.pointer (some ⟨p10, 0, none⟩))) 79 (.int .i64 0)) 12 (.int .i64 0)) 80 (.pointer (some ⟨p10, 0, none⟩))) 81 (.int .i64 bad)) 82 (.int .i64 0)) 83 (.int .i64 (-1))) 84 (.bool true)) 85 (.bool true)) 86 (.pointer (some ⟨p10, 0, none⟩))) 87 (.int .i64 0)) 88 (.int .i64 bad)) 89 (.int .i64 (-1))) 90 (.bool true)) 91 (.bool true)) 92 (.bool true)) 93 (.pointer (some ⟨p10, 0, none⟩))) 94 (.int .i64 bad)) 95 (.int .i64 0)) 96 (.int .i64 (-1))) 97 (.bool true)) 98 (.bool true)) 99 (.bool true)) 100 (.pointer (some ⟨p10, 0, none⟩))) 101 (.int .i64 0)) 102 (.int .i64 bad)) 103 (.int .i64 (-1))) 104 (.bool true)) 105 (.bool true)) 106 (.bool true)) 107 (.pointer (some ⟨p10, 0, none⟩))) 108 (.int .i64 bad)) 109 (.int .i64 0)) 110 (.int .i64 0)) 111 (.int .i64 (-1))) 112 (.bool true)) 113 (.bool true)) 114 (.bool true)) 115 (.pointer (some ⟨p10, 0, none⟩))) 116 (.int .i64 0)) 117 (.int .i64 0)) 118 (.int .i64 bad)) (by kernel_rfl) ?_
          refine st (by kernel_rfl) (S_call (args := [.pointer (some ⟨p10, 0, none⟩), .int .i64 0, .int .i64 0, .int .i64 bad]) (by kernel_rfl) (ite_bad F p10 n 0 0 bad cs I _ hG (by omega) (by omega) (by omega) (by simp [badB, hbI])) ?_)
          rintro _ w102 ⟨rfl, hT103⟩
          have hT0 := hT0.t0 hT103
          have hG := hG.tch0 hT103
          have hTo := hTo.tch0 hT103
          have hLc := hL.tch0 hT0
          have hBx := hBx.tch0 hT103
          have hClr := hClr.tch0 hT103
          have hClc := hClc.tch0 hT103
          refine seg7 (ρ' := upd (upd (upd (upd (upd (upd (upd (upd (upd (upd (upd (upd (upd (upd (upd (upd (upd (upd (upd (upd (upd (upd (upd (upd (upd (upd (upd (upd (upd (upd (upd (upd (upd (upd (upd (upd (upd (upd (upd (upd (upd (upd (upd (upd (upd (upd (upd (upd (upd (upd (updL ρ [(0, .slice L mm cl), (2, .int .i64 bad), (4, .pointer (some ⟨w.heap.size, 0, none⟩)), (6, .bool false), (7, .pointer (some ⟨p10, 0, none⟩)), (8, .slice A i cp), (9, .int .i64 ((i : Nat) : Int)), (10, .int .i64 ((n : Nat) : Int)), (11, .int .i64 (cs.length : Int)), (24, .bool (decide (((i : Nat) : Int) < (mm : Int)))), (76, .bool false)]) 78 (.pointer (some ⟨p10, 0, none⟩))) 79 (.int .i64 0)) 12 (.int .i64 0)) 80 (.pointer (some ⟨p10, 0, none⟩))) 81 (.int .i64 bad)) 82 (.int .i64 0)) 83 (.int .i64 (-1))) 84 (.bool true)) 85 (.bool true)) 86 (.pointer (some ⟨p10, 0, none⟩))) 87 (.int .i64 0)) 88 (.int .i64 bad)) 89 (.int .i64 (-1))) 90 (.bool true)) 91 (.bool true)) 92 (.bool true)) 93 (.pointer (some ⟨p10, 0, none⟩))) 94 (.int .i64 bad)) 95 (.int .i64 0)) 96 (.int .i64 (-1))) 97 (.bool true)) 98 (.bool true)) 99 (.bool true)) 100 (.pointer (some ⟨p10, 0, none⟩))) 101 (.int .i64 0)) 102 (.int .i64 bad)) 103 (.int .i64 (-1))) 104 (.bool true)) 105 (.bool true)) 106 (.bool true)) 107 (.pointer (some ⟨p10, 0, none⟩))) 108 (.int .i64 bad)) 109 (.int .i64 0)) 110 (.int .i64 0)) 111 (.int .i64 (-1))) 112 (.bool true)) 113 (.bool true)) 114 (.bool true)) 115 (.pointer (some ⟨p10, 0, none⟩))) 116 (.int .i64 0)) 117 (.int .i64 0)) 118 (.int .i64 bad)) 119 (.int .i64 (-1))) 120 (.bool true)) 121 (.bool true)) 122 (.bool true)) 123 (.pointer (some ⟨p10, 0, none⟩))) 124 (.int .i64 0)) 125 (.int .i64 bad)) 126 (.int .i64 0)) (by kernel_rfl) ?_
          refine st (by kernel_rfl) (S_call (args := [.pointer (some ⟨p10, 0, none⟩), .int .i64 0, .int .i64 bad, .int .i64 0]) (by kernel_rfl) (maj_bad F p10 n 0 bad 0 cs I _ hG (by omega) (by omega) (by omega) (by simp [badB, hbI])) ?_)
          rintro _ w104 ⟨rfl, hT105⟩
          have hT0 := hT0.t0 hT105
          have hG := hG.tch0 hT105
          have hTo := hTo.tch0 hT105
          have hLc := hL.tch0 hT0
          have hBx := hBx.tch0 hT105
          have hClr := hClr.tch0 hT105
          have hClc := hClc.tch0 hT105
          refine seg5 (ρ' := upd (upd (upd (upd (upd (upd (upd (upd (upd (upd (upd (upd (upd (upd (upd (upd (upd (upd (upd (upd (upd (upd (upd (upd (upd (upd (upd (upd (upd (upd (upd (upd (upd (upd (upd (upd (upd (upd (upd (upd (upd (upd (upd (upd (upd (upd (upd (upd (upd (upd (upd (upd (upd (upd (upd (upd (updL ρ [(0, .slice L mm cl), (2, .int .i64 bad), (4, .pointer (some ⟨w.heap.size, 0, none⟩)), (6, .bool false), (7, .pointer (some ⟨p10, 0, none⟩)), (8, .slice A i cp), (9, .int .i64 ((i : Nat) : Int)), (10, .int .i64 ((n : Nat) : Int)), (11, .int .i64 (cs.length : Int)), (24, .bool (decide (((i : Nat) : Int) < (mm : Int)))), (76, .bool false)]) 78 (.pointer (some ⟨p10, 0, none⟩))) 79 (.int .i64 0)) 12 (.int .i64 0)) 80 (.pointer (some ⟨p10, 0, none⟩))) 81 (.int .i64 bad)) 82 (.int .i64 0)) 83 (.int .i64 (-1))) 84 (.bool true)) 85 (.bool true)) 86 (.pointer (some ⟨p10, 0, none⟩))) 87 (.int .i64 0)) 88 (.int .i64 bad)) 89 (.int .i64 (-1))) 90 (.bool true)) 91 (.bool true)) 92 (.bool true)) 93 (.pointer (some ⟨p10, 0, none⟩))) 94 (.int .i64 bad)) 95 (.int .i64 0)) 96 (.int .i64 (-1))) 97 (.bool true)) 98 (.bool true)) 99 (.bool true)) 100 (.pointer (some ⟨p10, 0, none⟩))) 101 (.int .i64 0)) 102 (.int .i64 bad)) 103 (.int .i64 (-1))) 104 (.bool true)) 105 (.bool true)) 106 (.bool true)) 107 (.pointer (some ⟨p10, 0, none⟩))) 108 (.int .i64 bad)) 109 (.int .i64 0)) 110 (.int .i64 0)) 111 (.int .i64 (-1))) 112 (.bool true)) 113 (.bool true)) 114 (.bool true)) 115 (.pointer (some ⟨p10, 0, none⟩))) 116 (.int .i64 0)) 117 (.int .i64 0)) 118 (.int .i64 bad)) 119 (.int .i64 (-1))) 120 (.bool true)) 121 (.bool true)) 122 (.bool true)) 123 (.pointer (some ⟨p10, 0, none⟩))) 124 (.int .i64 0)) 125 (.int .i64 bad)) 126 (.int .i64 0)) 127 (.int .i64 (-1))) 128 (.bool true)) 129 (.bool true)) 130 (.bool true)) 131 (.pointer (some ⟨p10, 0, none⟩))) 132 (.pointer (some ⟨w.heap.size, 0, none⟩))) (by kernel_rfl) ?_
          refine st (by kernel_rfl) (S_val (v := .int .i64 k) (R_load (v := .int .i64 k) (by kernel_rfl) (by kernel_rfl) ((hBx.cell 0).trans rfl)) ?_)
          refine seg3 (ρ' := upd (upd (upd (upd (upd (upd (upd (upd (upd (upd (upd (upd (upd (upd (upd (upd (upd (upd (upd (upd (upd (upd (upd (upd (upd (upd (upd (upd (upd (upd (upd (upd (upd (upd (upd (upd (upd (upd (upd (upd (upd (upd (upd (upd (upd (upd (upd (upd (upd (upd (upd (upd (upd (upd (upd (upd (upd (upd (upd (upd (updL ρ [(0, .slice L mm cl), (2, .int .i64 bad), (4, .pointer (some ⟨w.heap.size, 0, none⟩)), (6, .bool false), (7, .pointer (some ⟨p10, 0, none⟩)), (8, .slice A i cp), (9, .int .i64 ((i : Nat) : Int)), (10, .int .i64 ((n : Nat) : Int)), (11, .int .i64 (cs.length : Int)), (24, .bool (decide (((i : Nat) : Int) < (mm : Int)))), (76, .bool false)]) 78 (.pointer (some ⟨p10, 0, none⟩))) 79 (.int .i64 0)) 12 (.int .i64 0)) 80 (.pointer (some ⟨p10, 0, none⟩))) 81 (.int .i64 bad)) 82 (.int .i64 0)) 83 (.int .i64 (-1))) 84 (.bool true)) 85 (.bool true)) 86 (.pointer (some ⟨p10, 0, none⟩))) 87 (.int .i64 0)) 88 (.int .i64 bad)) 89 (.int .i64 (-1))) 90 (.bool true)) 91 (.bool true)) 92 (.bool true)) 93 (.pointer (some ⟨p10, 0, none⟩))) 94 (.int .i64 bad)) 95 (.int .i64 0)) 96 (.int .i64 (-1))) 97 (.bool true)) 98 (.bool true)) 99 (.bool true)) 100 (.pointer (some ⟨p10, 0, none⟩))) 101 (.int .i64 0)) 102 (.int .i64 bad)) 103 (.int .i64 (-1))) 104 (.bool true)) 105 (.bool true)) 106 (.bool true)) 107 (.pointer (some ⟨p10, 0, none⟩))) 108 (.int .i64 bad)) 109 (.int .i64 0)) 110 (.int .i64 0)) 111 (.int .i64 (-1))) 112 (.bool true)) 113 (.bool true)) 114 (.bool true)) 115 (.pointer (some ⟨p10, 0, none⟩))) 116 (.int .i64 0)) 117 (.int .i64 0)) 118 (.int .i64 bad)) 119 (.int .i64 (-1))) 120 (.bool true)) 121 (.bool true)) 122 (.bool true)) 123 (.pointer (some ⟨p10, 0, none⟩))) 124 (.int .i64 0)) 125 (.int .i64 bad)) 126 (.int .i64 0)) 127 (.int .i64 (-1))) 128 (.bool true)) 129 (.bool true)) 130 (.bool true)) 131 (.pointer (some ⟨p10, 0, none⟩))) 132 (.pointer (some ⟨w.heap.size, 0, none⟩))) 133 (.int .i64 k)) 134 (.int .i64 bad)) 135 (.int .i64 bad)) 136 (.int .i64 bad)) (by kernel_rfl) ?_
          refine st (by kernel_rfl) (S_call (args := [.pointer (some ⟨p10, 0, none⟩), .int .i64 k, .int .i64 bad, .int .i64 bad, .int .i64 bad]) (by kernel_rfl) (ask_bad F p10 n k bad cs I _ hG (by omega) hbI) ?_)
          rintro _ w106 ⟨rfl, hT107⟩
          have hT0 := hT0.t0 hT107
          have hG := hG.tch0 hT107
          have hTo := hTo.tch0 hT107
          have hLc := hL.tch0 hT0
          have hBx := hBx.tch0 hT107
          have hClr := hClr.tch0 hT107
          have hClc := hClc.tch0 hT107
          refine seg3 (ρ' := upd (upd (upd (upd (upd (upd (upd (upd (upd (upd (upd (upd (upd (upd (upd (upd (upd (upd (upd (upd (upd (upd (upd (upd (upd (upd (upd (upd (upd (upd (upd (upd (upd (upd (upd (upd (upd (upd (upd (upd (upd (upd (upd (upd (upd (upd (upd (upd (upd (upd (upd (upd (upd (upd (upd (upd (upd (upd (upd (upd (upd (upd (upd (upd (updL ρ [(0, .slice L mm cl), (2, .int .i64 bad), (4, .pointer (some ⟨w.heap.size, 0, none⟩)), (6, .bool false), (7, .pointer (some ⟨p10, 0, none⟩)), (8, .slice A i cp), (9, .int .i64 ((i : Nat) : Int)), (10, .int .i64 ((n : Nat) : Int)), (11, .int .i64 (cs.length : Int)), (24, .bool (decide (((i : Nat) : Int) < (mm : Int)))), (76, .bool false)]) 78 (.pointer (some ⟨p10, 0, none⟩))) 79 (.int .i64 0)) 12 (.int .i64 0)) 80 (.pointer (some ⟨p10, 0, none⟩))) 81 (.int .i64 bad)) 82 (.int .i64 0)) 83 (.int .i64 (-1))) 84 (.bool true)) 85 (.bool true)) 86 (.pointer (some ⟨p10, 0, none⟩))) 87 (.int .i64 0)) 88 (.int .i64 bad)) 89 (.int .i64 (-1))) 90 (.bool true)) 91 (.bool true)) 92 (.bool true)) 93 (.pointer (some ⟨p10, 0, none⟩))) 94 (.int .i64 bad)) 95 (.int .i64 0)) 96 (.int .i64 (-1))) 97 (.bool true)) 98 (.bool true)) 99 (.bool true)) 100 (.pointer (some ⟨p10, 0, none⟩))) 101 (.int .i64 0)) 102 (.int .i64 bad)) 103 (.int .i64 (-1))) 104 (.bool true)) 105 (.bool true)) 106 (.bool true)) 107 (.pointer (some ⟨p10, 0, none⟩))) 108 (.int .i64 bad)) 109 (.int .i64 0)) 110 (.int .i64 0)) 111 (.int .i64 (-1))) 112 (.bool true)) 113 (.bool true)) 114 (.bool true)) 115 (.pointer (some ⟨p10, 0, none⟩))) 116 (.int .i64 0)) 117 (.int .i64 0)) 118 (.int .i64 bad)) 119 (.int .i64 (-1))) 120 (.bool true)) 121 (.bool true)) 122 (.bool true)) 123 (.pointer (some ⟨p10, 0, none⟩))) 124 (.int .i64 0)) 125 (.int .i64 bad)) 126 (.int .i64 0)) 127 (.int .i64 (-1))) 128 (.bool true)) 129 (.bool true)) 130 (.bool true)) 131 (.pointer (some ⟨p10, 0, none⟩))) 132 (.pointer (some ⟨w.heap.size, 0, none⟩))) 133 (.int .i64 k)) 134 (.int .i64 bad)) 135 (.int .i64 bad)) 136 (.int .i64 bad)) 137 (.int .i64 (-1))) 138 (.bool true)) 139 (.bool true)) 13 (.bool true)) (by kernel_rfl) ?_
          refine op_nil ?_
          refine W_seq ?_
          refine W_fg [(0, .slice L mm cl), (2, .int .i64 bad), (4, .pointer (some ⟨w.heap.size, 0, none⟩)), (6, .bool false), (7, .pointer (some ⟨p10, 0, none⟩)), (8, .slice A i cp), (9, .int .i64 ((i : Nat) : Int)), (10, .int .i64 ((n : Nat) : Int)), (11, .int .i64 (cs.length : Int)), (12, .int .i64 0), (13, .bool true), (24, .bool (decide (((i : Nat) : Int) < (mm : Int)))), (76, .bool false)] (by kernel_rfl) fun ρ => ?_
          refine W_region (by kernel_rfl) ?_
          refine seg3 (ρ' := upd (upd (upd (updL ρ [(0, .slice L mm cl), (2, .int .i64 bad), (4, .pointer (some ⟨w.heap.size, 0, none⟩)), (6, .bool false), (7, .pointer (some ⟨p10, 0, none⟩)), (8, .slice A i cp), (9, .int .i64 ((i : Nat) : Int)), (10, .int .i64 ((n : Nat) : Int)), (11, .int .i64 (cs.length : Int)), (12, .int .i64 0), (13, .bool true), (24, .bool (decide (((i : Nat) : Int) < (mm : Int)))), (76, .bool false)]) 140 (.bool true)) 141 (.bool true)) 142 (.pointer (some ⟨p10, 0, none⟩))) (by kernel_rfl) ?_
          refine st (by kernel_rfl) (S_call (args := [.pointer (some ⟨p10, 0, none⟩)]) (by kernel_rfl) (vars_ok F p10 n cs I _ hG) ?_)
          rintro _ w108 ⟨rfl, hT109⟩
          have hT0 := hT0.t0 hT109
          have hG := hG.tch0 hT109
          have hTo := hTo.tch0 hT109
          have hLc := hL.tch0 hT0
          have hBx := hBx.tch0 hT109
          have hClr := hClr.tch0 hT109
          have hClc := hClc.tch0 hT109
          refine seg4 (ρ' := upd (upd (upd (upd (upd (upd (upd (upd (updL ρ [(0, .slice L mm cl), (2, .int .i64 bad), (4, .pointer (some ⟨w.heap.size, 0, none⟩)), (6, .bool false), (7, .pointer (some ⟨p10, 0, none⟩)), (8, .slice A i cp), (9, .int .i64 ((i : Nat) : Int)), (10, .int .i64 ((n : Nat) : Int)), (11, .int .i64 (cs.length : Int)), (12, .int .i64 0), (13, .bool true), (24, .bool (decide (((i : Nat) : Int) < (mm : Int)))), (76, .bool false)]) 140 (.bool true)) 141 (.bool true)) 142 (.pointer (some ⟨p10, 0, none⟩))) 143 (.int .i64 ((n : Nat) : Int))) 144 (.int .i64 ((n : Nat) : Int))) 145 (.bool (((n : Nat) : Int) == ((n : Nat) : Int)))) 146 (.bool (((n : Nat) : Int) == ((n : Nat) : Int)))) 147 (.bool (((n : Nat) : Int) == ((n : Nat) : Int)))) (by kernel_rfl) ?_
          cases hb110 : ((n : Nat) : Int) == ((n : Nat) : Int)
          · replace hb110 : ((n : Nat) : Int) ≠ ((n : Nat) : Int) := (ne_of_beq_false hb110)
            exact absurd rfl hb110
          · replace hb110 : ((n : Nat) : Int) = ((n : Nat) : Int) := (eq_of_beq hb110)
            refine seg1 (ρ' := upd (upd (upd (upd (upd (upd (upd (upd (upd (updL ρ [(0, .slice L mm cl), (2, .int .i64 bad), (4, .pointer (some ⟨w.heap.size, 0, none⟩)), (6, .bool false), (7, .pointer (some ⟨p10, 0, none⟩)), (8, .slice A i cp), (9, .int .i64 ((i : Nat) : Int)), (10, .int .i64 ((n : Nat) : Int)), (11, .int .i64 (cs.length : Int)), (12, .int .i64 0), (13, .bool true), (24, .bool (decide (((i : Nat) : Int) < (mm : Int)))), (76, .bool false)]) 140 (.bool true)) 141 (.bool true)) 142 (.pointer (some ⟨p10, 0, none⟩))) 143 (.int .i64 ((n : Nat) : Int))) 144 (.int .i64 ((n : Nat) : Int))) 145 (.bool true)) 146 (.bool true)) 147 (.bool true)) 148 (.pointer (some ⟨p10, 0, none⟩))) (by kernel_rfl) ?_
            refine st (by kernel_rfl) (S_call (args := [.pointer (some ⟨p10, 0, none⟩)]) (by kernel_rfl) (clauses_ok F p10 n cs I _ hG (by omega)) ?_)
            rintro _ w111 ⟨L113, lcp114, Lv115, rfl, hClr, hClc, hT112⟩
            have hT0 := hT0.t0 hT112
            have hG := hG.tch0 hT112
            have hTo := hTo.tch0 hT112
            have hLc := hL.tch0 hT0
            have hBx := hBx.tch0 hT112
            refine seg5 (ρ' := upd (upd (upd (upd (upd (upd (upd (upd (upd (upd (upd (upd (upd (upd (upd (updL ρ [(0, .slice L mm cl), (2, .int .i64 bad), (4, .pointer (some ⟨w.heap.size, 0, none⟩)), (6, .bool false), (7, .pointer (some ⟨p10, 0, none⟩)), (8, .slice A i cp), (9, .int .i64 ((i : Nat) : Int)), (10, .int .i64 ((n : Nat) : Int)), (11, .int .i64 (cs.length : Int)), (12, .int .i64 0), (13, .bool true), (24, .bool (decide (((i : Nat) : Int) < (mm : Int)))), (76, .bool false)]) 140 (.bool true)) 141 (.bool true)) 142 (.pointer (some ⟨p10, 0, none⟩))) 143 (.int .i64 ((n : Nat) : Int))) 144 (.int .i64 ((n : Nat) : Int))) 145 (.bool true)) 146 (.bool true)) 147 (.bool true)) 148 (.pointer (some ⟨p10, 0, none⟩))) 149 (.slice L113 cs.length lcp114)) 150 (.int .i64 (cs.length : Int))) 151 (.int .i64 (cs.length : Int))) 152 (.bool ((cs.length : Int) == (cs.length : Int)))) 153 (.bool ((cs.length : Int) == (cs.length : Int)))) 154 (.bool ((cs.length : Int) == (cs.length : Int)))) (by kernel_rfl) ?_
            cases hb116 : (cs.length : Int) == (cs.length : Int)
            · replace hb116 : (cs.length : Int) ≠ (cs.length : Int) := (ne_of_beq_false hb116)
              exact absurd rfl hb116
            · replace hb116 : (cs.length : Int) = (cs.length : Int) := (eq_of_beq hb116)
              refine st (by kernel_rfl) (S_call (args := []) (by kernel_rfl) (awake19_ok _) ?_)
              rintro _ w117 ⟨rfl, hT118⟩
              have hT0 := hT0.t0 hT118
              have hG := hG.tch0 hT118
              have hTo := hTo.tch0 hT118
              have hLc := hL.tch0 hT0
              have hBx := hBx.tch0 hT118
              have hClr := hClr.tch0 hT118
              have hClc := hClc.tch0 hT118
              refine seg2 (ρ' := upd (upd (upd (upd (upd (upd (upd (upd (upd (upd (upd (upd (upd (upd (upd (upd (upd (upd (updL ρ [(0, .slice L mm cl), (2, .int .i64 bad), (4, .pointer (some ⟨w.heap.size, 0, none⟩)), (6, .bool false), (7, .pointer (some ⟨p10, 0, none⟩)), (8, .slice A i cp), (9, .int .i64 ((i : Nat) : Int)), (10, .int .i64 ((n : Nat) : Int)), (11, .int .i64 (cs.length : Int)), (12, .int .i64 0), (13, .bool true), (24, .bool (decide (((i : Nat) : Int) < (mm : Int)))), (76, .bool false)]) 140 (.bool true)) 141 (.bool true)) 142 (.pointer (some ⟨p10, 0, none⟩))) 143 (.int .i64 ((n : Nat) : Int))) 144 (.int .i64 ((n : Nat) : Int))) 145 (.bool true)) 146 (.bool true)) 147 (.bool true)) 148 (.pointer (some ⟨p10, 0, none⟩))) 149 (.slice L113 cs.length lcp114)) 150 (.int .i64 (cs.length : Int))) 151 (.int .i64 (cs.length : Int))) 152 (.bool true)) 153 (.bool true)) 154 (.bool true)) 155 (.bool true)) 156 (.bool true)) 6 (.bool true)) (by kernel_rfl) ?_
              refine op_nil ?_
              refine W_ret ?_
              exact ⟨_, Res_of (v := .bool true) (by kernel_rfl), ⟨rfl, hT0⟩⟩
        · replace hb89 : 0 ≤ bad := (of_decide_eq_true hb89)
          refine seg3 (ρ' := upd (upd (upd (upd (upd (upd (updL ρ [(0, .slice L mm cl), (2, .int .i64 bad), (4, .pointer (some ⟨w.heap.size, 0, none⟩)), (6, .bool false), (7, .pointer (some ⟨p10, 0, none⟩)), (8, .slice A i cp), (9, .int .i64 ((i : Nat) : Int)), (10, .int .i64 ((n : Nat) : Int)), (11, .int .i64 (cs.length : Int)), (24, .bool (decide (((i : Nat) : Int) < (mm : Int))))]) 69 (.int .i64 bad)) 70 (.bool true)) 71 (.bool true)) 72 (.int .i64 bad)) 73 (.int .i64 ((n : Nat) : Int))) 74 (.int .i64 (IntKind.i64.wrap (2 * ((n : Nat) : Int))))) (by kernel_rfl) ?_
          rw [show IntKind.i64.wrap (2 * ((n : Nat) : Int)) = 2 * ((n : Nat) : Int) from wrap_i64 (by omega) (by omega)]
          refine seg2 (ρ' := upd (upd (upd (upd (upd (upd (upd (upd (updL ρ [(0, .slice L mm cl), (2, .int .i64 bad), (4, .pointer (some ⟨w.heap.size, 0, none⟩)), (6, .bool false), (7, .pointer (some ⟨p10, 0, none⟩)), (8, .slice A i cp), (9, .int .i64 ((i : Nat) : Int)), (10, .int .i64 ((n : Nat) : Int)), (11, .int .i64 (cs.length : Int)), (24, .bool (decide (((i : Nat) : Int) < (mm : Int))))]) 69 (.int .i64 bad)) 70 (.bool true)) 71 (.bool true)) 72 (.int .i64 bad)) 73 (.int .i64 ((n : Nat) : Int))) 74 (.int .i64 (2 * ((n : Nat) : Int)))) 75 (.bool (decide (bad < 2 * ((n : Nat) : Int))))) 76 (.bool (decide (bad < 2 * ((n : Nat) : Int))))) (by kernel_rfl) ?_
          refine op_nil ?_
          refine W_cond (decide (bad < 2 * ((n : Nat) : Int))) (by kernel_rfl) (by kernel_rfl) (fun hc119 => ?_) (fun hc119 => ?_)
          · replace hc119 : bad < 2 * ((n : Nat) : Int) := (of_decide_eq_true hc119)
            refine W_seq ?_
            refine W_fg [(0, .slice L mm cl), (2, .int .i64 bad), (4, .pointer (some ⟨w.heap.size, 0, none⟩)), (6, .bool false), (7, .pointer (some ⟨p10, 0, none⟩)), (8, .slice A i cp), (9, .int .i64 ((i : Nat) : Int)), (10, .int .i64 ((n : Nat) : Int)), (11, .int .i64 (cs.length : Int)), (24, .bool (decide (((i : Nat) : Int) < (mm : Int)))), (76, .bool (decide (bad < 2 * ((n : Nat) : Int))))] (by kernel_rfl) fun ρ => ?_
            refine W_region (by kernel_rfl) ?_
            refine st (by rfl) (S_call (args := []) (by kernel_rfl) (awake19_ok _) ?_)
            rintro _ w120 ⟨rfl, hT121⟩
            have hT0 := hT0.t0 hT121
            have hG := hG.tch0 hT121
            have hTo := hTo.tch0 hT121
            have hLc := hL.tch0 hT0
            have hBx := hBx.tch0 hT121
            have hClr := hClr.tch0 hT121
            have hClc := hClc.tch0 hT121
            refine seg1 (ρ' := upd (upd (updL ρ [(0, .slice L mm cl), (2, .int .i64 bad), (4, .pointer (some ⟨w.heap.size, 0, none⟩)), (6, .bool false), (7, .pointer (some ⟨p10, 0, none⟩)), (8, .slice A i cp), (9, .int .i64 ((i : Nat) : Int)), (10, .int .i64 ((n : Nat) : Int)), (11, .int .i64 (cs.length : Int)), (24, .bool (decide (((i : Nat) : Int) < (mm : Int)))), (76, .bool (decide (bad < 2 * ((n : Nat) : Int))))]) 77 (.bool true)) 6 (.bool true)) (by kernel_rfl) ?_
            refine op_nil ?_
            refine W_ret ?_
            exact ⟨_, Res_of (v := .bool true) (by kernel_rfl), ⟨rfl, hT0⟩⟩
          · replace hc119 : 2 * ((n : Nat) : Int) ≤ bad := (Int.not_lt.1 (of_decide_eq_false hc119))
            refine W_skip ?_
            refine W_seq ?_
            refine W_fg [(0, .slice L mm cl), (2, .int .i64 bad), (4, .pointer (some ⟨w.heap.size, 0, none⟩)), (6, .bool false), (7, .pointer (some ⟨p10, 0, none⟩)), (8, .slice A i cp), (9, .int .i64 ((i : Nat) : Int)), (10, .int .i64 ((n : Nat) : Int)), (11, .int .i64 (cs.length : Int)), (24, .bool (decide (((i : Nat) : Int) < (mm : Int)))), (76, .bool (decide (bad < 2 * ((n : Nat) : Int))))] (by kernel_rfl) fun ρ => ?_
            have hbI : badI n bad = true := decide_eq_true (by omega)
            refine W_region (by kernel_rfl) ?_
            refine seg1 (ρ' := upd (updL ρ [(0, .slice L mm cl), (2, .int .i64 bad), (4, .pointer (some ⟨w.heap.size, 0, none⟩)), (6, .bool false), (7, .pointer (some ⟨p10, 0, none⟩)), (8, .slice A i cp), (9, .int .i64 ((i : Nat) : Int)), (10, .int .i64 ((n : Nat) : Int)), (11, .int .i64 (cs.length : Int)), (24, .bool (decide (((i : Nat) : Int) < (mm : Int)))), (76, .bool (decide (bad < 2 * ((n : Nat) : Int))))]) 78 (.pointer (some ⟨p10, 0, none⟩))) (by kernel_rfl) ?_
            refine st (by rfl) (S_call (args := [.pointer (some ⟨p10, 0, none⟩)]) (by kernel_rfl) (true_ok p10 _) ?_)
            rintro _ w122 ⟨rfl, hT123⟩
            have hT0 := hT0.t0 hT123
            have hG := hG.tch0 hT123
            have hTo := hTo.tch0 hT123
            have hLc := hL.tch0 hT0
            have hBx := hBx.tch0 hT123
            have hClr := hClr.tch0 hT123
            have hClc := hClc.tch0 hT123
            refine seg1 (ρ' := upd (upd (upd (updL ρ [(0, .slice L mm cl), (2, .int .i64 bad), (4, .pointer (some ⟨w.heap.size, 0, none⟩)), (6, .bool false), (7, .pointer (some ⟨p10, 0, none⟩)), (8, .slice A i cp), (9, .int .i64 ((i : Nat) : Int)), (10, .int .i64 ((n : Nat) : Int)), (11, .int .i64 (cs.length : Int)), (24, .bool (decide (((i : Nat) : Int) < (mm : Int)))), (76, .bool (decide (bad < 2 * ((n : Nat) : Int))))]) 78 (.pointer (some ⟨p10, 0, none⟩))) 79 (.int .i64 0)) 12 (.int .i64 0)) (by kernel_rfl) ?_
            refine op_nil ?_
            refine W_seq ?_
            refine W_region (by kernel_rfl) ?_
            refine seg3 (ρ' := upd (upd (upd (upd (upd (upd (updL ρ [(0, .slice L mm cl), (2, .int .i64 bad), (4, .pointer (some ⟨w.heap.size, 0, none⟩)), (6, .bool false), (7, .pointer (some ⟨p10, 0, none⟩)), (8, .slice A i cp), (9, .int .i64 ((i : Nat) : Int)), (10, .int .i64 ((n : Nat) : Int)), (11, .int .i64 (cs.length : Int)), (24, .bool (decide (((i : Nat) : Int) < (mm : Int)))), (76, .bool (decide (bad < 2 * ((n : Nat) : Int))))]) 78 (.pointer (some ⟨p10, 0, none⟩))) 79 (.int .i64 0)) 12 (.int .i64 0)) 80 (.pointer (some ⟨p10, 0, none⟩))) 81 (.int .i64 bad)) 82 (.int .i64 0)) (by kernel_rfl) ?_
            refine st (by rfl) (S_call (args := [.pointer (some ⟨p10, 0, none⟩), .int .i64 bad, .int .i64 0]) (by kernel_rfl) (and_bad F p10 n bad 0 cs I _ hG (by omega) (by omega) (by simp [badB, hbI])) ?_)
            rintro _ w124 ⟨rfl, hT125⟩
            have hT0 := hT0.t0 hT125
            have hG := hG.tch0 hT125
            have hTo := hTo.tch0 hT125
            have hLc := hL.tch0 hT0
            have hBx := hBx.tch0 hT125
            have hClr := hClr.tch0 hT125
            have hClc := hClc.tch0 hT125
            refine seg5 (ρ' := upd (upd (upd (upd (upd (upd (upd (upd (upd (upd (upd (upd (updL ρ [(0, .slice L mm cl), (2, .int .i64 bad), (4, .pointer (some ⟨w.heap.size, 0, none⟩)), (6, .bool false), (7, .pointer (some ⟨p10, 0, none⟩)), (8, .slice A i cp), (9, .int .i64 ((i : Nat) : Int)), (10, .int .i64 ((n : Nat) : Int)), (11, .int .i64 (cs.length : Int)), (24, .bool (decide (((i : Nat) : Int) < (mm : Int)))), (76, .bool (decide (bad < 2 * ((n : Nat) : Int))))]) 78 (.pointer (some ⟨p10, 0, none⟩))) 79 (.int .i64 0)) 12 (.int .i64 0)) 80 (.pointer (some ⟨p10, 0, none⟩))) 81 (.int .i64 bad)) 82 (.int .i64 0)) 83 (.int .i64 (-1))) 84 (.bool true)) 85 (.bool true)) 86 (.pointer (some ⟨p10, 0, none⟩))) 87 (.int .i64 0)) 88 (.int .i64 bad)) (by kernel_rfl) ?_
            refine st (by kernel_rfl) (S_call (args := [.pointer (some ⟨p10, 0, none⟩), .int .i64 0, .int .i64 bad]) (by kernel_rfl) (and_bad F p10 n 0 bad cs I _ hG (by omega) (by omega) (by simp [badB, hbI])) ?_)
            rintro _ w126 ⟨rfl, hT127⟩
            have hT0 := hT0.t0 hT127
            have hG := hG.tch0 hT127
            have hTo := hTo.tch0 hT127
            have hLc := hL.tch0 hT0
            have hBx := hBx.tch0 hT127
            have hClr := hClr.tch0 hT127
            have hClc := hClc.tch0 hT127
            refine seg6 (ρ' := upd (upd (upd (upd (upd (upd (upd (upd (upd (upd (upd (upd (upd (upd (upd (upd (upd (upd (upd (updL ρ [(0, .slice L mm cl), (2, .int .i64 bad), (4, .pointer (some ⟨w.heap.size, 0, none⟩)), (6, .bool false), (7, .pointer (some ⟨p10, 0, none⟩)), (8, .slice A i cp), (9, .int .i64 ((i : Nat) : Int)), (10, .int .i64 ((n : Nat) : Int)), (11, .int .i64 (cs.length : Int)), (24, .bool (decide (((i : Nat) : Int) < (mm : Int)))), (76, .bool (decide (bad < 2 * ((n : Nat) : Int))))]) 78 (.pointer (some ⟨p10, 0, none⟩))) 79 (.int .i64 0)) 12 (.int .i64 0)) 80 (.pointer (some ⟨p10, 0, none⟩))) 81 (.int .i64 bad)) 82 (.int .i64 0)) 83 (.int .i64 (-1))) 84 (.bool true)) 85 (.bool true)) 86 (.pointer (some ⟨p10, 0, none⟩))) 87 (.int .i64 0)) 88 (.int .i64 bad)) 89 (.int .i64 (-1))) 90 (.bool true)) 91 (.bool true)) 92 (.bool true)) 93 (.pointer (some ⟨p10, 0, none⟩))) 94 (.int .i64 bad)) 95 (.int .i64 0)) (by kernel_rfl) ?_
            refine st (by kernel_rfl) (S_call (args := [.pointer (some ⟨p10, 0, none⟩), .int .i64 bad, .int .i64 0]) (by kernel_rfl) (or_bad F p10 n bad 0 cs I _ hG (by omega) (by omega) (by simp [badB, hbI])) ?_)
            rintro _ w128 ⟨rfl, hT129⟩
            have hT0 := hT0.t0 hT129
            have hG := hG.tch0 hT129
            have hTo := hTo.tch0 hT129
            have hLc := hL.tch0 hT0
            have hBx := hBx.tch0 hT129
            have hClr := hClr.tch0 hT129
            have hClc := hClc.tch0 hT129
            refine seg6 (ρ' := upd (upd (upd (upd (upd (upd (upd (upd (upd (upd (upd (upd (upd (upd (upd (upd (upd (upd (upd (upd (upd (upd (upd (upd (upd (upd (updL ρ [(0, .slice L mm cl), (2, .int .i64 bad), (4, .pointer (some ⟨w.heap.size, 0, none⟩)), (6, .bool false), (7, .pointer (some ⟨p10, 0, none⟩)), (8, .slice A i cp), (9, .int .i64 ((i : Nat) : Int)), (10, .int .i64 ((n : Nat) : Int)), (11, .int .i64 (cs.length : Int)), (24, .bool (decide (((i : Nat) : Int) < (mm : Int)))), (76, .bool (decide (bad < 2 * ((n : Nat) : Int))))]) 78 (.pointer (some ⟨p10, 0, none⟩))) 79 (.int .i64 0)) 12 (.int .i64 0)) 80 (.pointer (some ⟨p10, 0, none⟩))) 81 (.int .i64 bad)) 82 (.int .i64 0)) 83 (.int .i64 (-1))) 84 (.bool true)) 85 (.bool true)) 86 (.pointer (some ⟨p10, 0, none⟩))) 87 (.int .i64 0)) 88 (.int .i64 bad)) 89 (.int .i64 (-1))) 90 (.bool true)) 91 (.bool true)) 92 (.bool true)) 93 (.pointer (some ⟨p10, 0, none⟩))) 94 (.int .i64 bad)) 95 (.int .i64 0)) 96 (.int .i64 (-1))) 97 (.bool true)) 98 (.bool true)) 99 (.bool true)) 100 (.pointer (some ⟨p10, 0, none⟩))) 101 (.int .i64 0)) 102 (.int .i64 bad)) (by kernel_rfl) ?_
            refine st (by kernel_rfl) (S_call (args := [.pointer (some ⟨p10, 0, none⟩), .int .i64 0, .int .i64 bad]) (by kernel_rfl) (xor_bad F p10 n 0 bad cs I _ hG (by omega) (by omega) (by simp [badB, hbI])) ?_)
            rintro _ w130 ⟨rfl, hT131⟩
            have hT0 := hT0.t0 hT131
            have hG := hG.tch0 hT131
            have hTo := hTo.tch0 hT131
            have hLc := hL.tch0 hT0
            have hBx := hBx.tch0 hT131
            have hClr := hClr.tch0 hT131
            have hClc := hClc.tch0 hT131
            refine seg7 (ρ' := upd (upd (upd (upd (upd (upd (upd (upd (upd (upd (upd (upd (upd (upd (upd (upd (upd (upd (upd (upd (upd (upd (upd (upd (upd (upd (upd (upd (upd (upd (upd (upd (upd (upd (updL ρ [(0, .slice L mm cl), (2, .int .i64 bad), (4, .pointer (some ⟨w.heap.size, 0, none⟩)), (6, .bool false), (7, .pointer (some ⟨p10, 0, none⟩)), (8, .slice A i cp), (9, .int .i64 ((i : Nat) : Int)), (10, .int .i64 ((n : Nat) : Int)), (11, .int .i64 (cs.length : Int)), (24, .bool (decide (((i : Nat) : Int) < (mm : Int)))), (76, .bool (decide (bad < 2 * ((n : Nat) : Int))))]) 78 (.pointer (some ⟨p10, 0, none⟩))) 79 (.int .i64 0)) 12 (.int .i64 0)) 80 (.pointer (some ⟨p10, 0, none⟩))) 81 (.int .i64 bad)) 82 (.int .i64 0)) 83 (.int .i64 (-1))) 84 (.bool true)) 85 (.bool true)) 86 (.pointer (some ⟨p10, 0, none⟩))) 87 (.int .i64 0)) 88 (.int .i64 bad)) 89 (.int .i64 (-1))) 90 (.bool true)) 91 (.bool true)) 92 (.bool true)) 93 (.pointer (some ⟨p10, 0, none⟩))) 94 (.int .i64 bad)) 95 (.int .i64 0)) 96 (.int .i64 (-1))) 97 (.bool true)) 98 (.bool true)) 99 (.bool true)) 100 (.pointer (some ⟨p10, 0, none⟩))) 101 (.int .i64 0)) 102 (.int .i64 bad)) 103 (.int .i64 (-1))) 104 (.bool true)) 105 (.bool true)) 106 (.bool true)) 107 (.pointer (some ⟨p10, 0, none⟩))) 108 (.int .i64 bad)) 109 (.int .i64 0)) 110 (.int .i64 0)) (by kernel_rfl) ?_
            refine st (by kernel_rfl) (S_call (args := [.pointer (some ⟨p10, 0, none⟩), .int .i64 bad, .int .i64 0, .int .i64 0]) (by kernel_rfl) (ite_bad F p10 n bad 0 0 cs I _ hG (by omega) (by omega) (by omega) (by simp [badB, hbI])) ?_)
            rintro _ w132 ⟨rfl, hT133⟩
            have hT0 := hT0.t0 hT133
            have hG := hG.tch0 hT133
            have hTo := hTo.tch0 hT133
            have hLc := hL.tch0 hT0
            have hBx := hBx.tch0 hT133
            have hClr := hClr.tch0 hT133
            have hClc := hClc.tch0 hT133
            refine seg7 (ρ' := upd (upd (upd (upd (upd (upd (upd (upd (upd (upd (upd (upd (upd (upd (upd (upd (upd (upd (upd (upd (upd (upd (upd (upd (upd (upd (upd (upd (upd (upd (upd (upd (upd (upd (upd (upd (upd (upd (upd (upd (upd (upd (updL ρ [(0, .slice L mm cl), (2, .int .i64 bad), (4, .pointer (some ⟨w.heap.size, 0, none⟩)), (6, .bool false), (7, .pointer (some ⟨p10, 0, none⟩)), (8, .slice A i cp), (9, .int .i64 ((i : Nat) : Int)), (10, .int .i64 ((n : Nat) : Int)), (11, .int .i64 (cs.length : Int)), (24, .bool (decide (((i : Nat) : Int) < (mm : Int)))), (76, .bool (decide (bad < 2 * ((n : Nat) : Int))))]) 78 (.pointer (some ⟨p10, 0, none⟩))) 79 (.int .i64 0)) 12 (.int .i64 0)) 80 (.pointer (some ⟨p10, 0, none⟩))) 81 (.int .i64 bad)) 82 (.int .i64 0)) 83 (.int .i64 (-1))) 84 (.bool true)) 85 (.bool true)) 86 (.pointer (some ⟨p10, 0, none⟩))) 87 (.int .i64 0)) 88 (.int .i64 bad)) 89 (.int .i64 (-1))) 90 (.bool true)) 91 (.bool true)) 92 (.bool true)) 93 (.pointer (some ⟨p10, 0, none⟩))) 94 (.int .i64 bad)) 95 (.int .i64 0)) 96 (.int .i64 (-1))) 97 (.bool true)) 98 (.bool true)) 99 (.bool true)) 100 (.pointer (some ⟨p10, 0, none⟩))) 101 (.int .i64 0)) 102 (.int .i64 bad)) 103 (.int .i64 (-1))) 104 (.bool true)) 105 (.bool true)) 106 (.bool true)) 107 (.pointer (some ⟨p10, 0, none⟩))) 108 (.int .i64 bad)) 109 (.int .i64 0)) 110 (.int .i64 0)) 111 (.int .i64 (-1))) 112 (.bool true)) 113 (.bool true)) 114 (.bool true)) 115 (.pointer (some ⟨p10, 0, none⟩))) 116 (.int .i64 0)) 117 (.int .i64 0)) 118 (.int .i64 bad)) (by kernel_rfl) ?_
            refine st (by kernel_rfl) (S_call (args := [.pointer (some ⟨p10, 0, none⟩), .int .i64 0, .int .i64 0, .int .i64 bad]) (by kernel_rfl) (ite_bad F p10 n 0 0 bad cs I _ hG (by omega) (by omega) (by omega) (by simp [badB, hbI])) ?_)
            rintro _ w134 ⟨rfl, hT135⟩
            have hT0 := hT0.t0 hT135
            have hG := hG.tch0 hT135
            have hTo := hTo.tch0 hT135
            have hLc := hL.tch0 hT0
            have hBx := hBx.tch0 hT135
            have hClr := hClr.tch0 hT135
            have hClc := hClc.tch0 hT135
            refine seg7 (ρ' := upd (upd (upd (upd (upd (upd (upd (upd (upd (upd (upd (upd (upd (upd (upd (upd (upd (upd (upd (upd (upd (upd (upd (upd (upd (upd (upd (upd (upd (upd (upd (upd (upd (upd (upd (upd (upd (upd (upd (upd (upd (upd (upd (upd (upd (upd (upd (upd (upd (upd (updL ρ [(0, .slice L mm cl), (2, .int .i64 bad), (4, .pointer (some ⟨w.heap.size, 0, none⟩)), (6, .bool false), (7, .pointer (some ⟨p10, 0, none⟩)), (8, .slice A i cp), (9, .int .i64 ((i : Nat) : Int)), (10, .int .i64 ((n : Nat) : Int)), (11, .int .i64 (cs.length : Int)), (24, .bool (decide (((i : Nat) : Int) < (mm : Int)))), (76, .bool (decide (bad < 2 * ((n : Nat) : Int))))]) 78 (.pointer (some ⟨p10, 0, none⟩))) 79 (.int .i64 0)) 12 (.int .i64 0)) 80 (.pointer (some ⟨p10, 0, none⟩))) 81 (.int .i64 bad)) 82 (.int .i64 0)) 83 (.int .i64 (-1))) 84 (.bool true)) 85 (.bool true)) 86 (.pointer (some ⟨p10, 0, none⟩))) 87 (.int .i64 0)) 88 (.int .i64 bad)) 89 (.int .i64 (-1))) 90 (.bool true)) 91 (.bool true)) 92 (.bool true)) 93 (.pointer (some ⟨p10, 0, none⟩))) 94 (.int .i64 bad)) 95 (.int .i64 0)) 96 (.int .i64 (-1))) 97 (.bool true)) 98 (.bool true)) 99 (.bool true)) 100 (.pointer (some ⟨p10, 0, none⟩))) 101 (.int .i64 0)) 102 (.int .i64 bad)) 103 (.int .i64 (-1))) 104 (.bool true)) 105 (.bool true)) 106 (.bool true)) 107 (.pointer (some ⟨p10, 0, none⟩))) 108 (.int .i64 bad)) 109 (.int .i64 0)) 110 (.int .i64 0)) 111 (.int .i64 (-1))) 112 (.bool true)) 113 (.bool true)) 114 (.bool true)) 115 (.pointer (some ⟨p10, 0, none⟩))) 116 (.int .i64 0)) 117 (.int .i64 0)) 118 (.int .i64 bad)) 119 (.int .i64 (-1))) 120 (.bool true)) 121 (.bool true)) 122 (.bool true)) 123 (.pointer (some ⟨p10, 0, none⟩))) 124 (.int .i64 0)) 125 (.int .i64 bad)) 126 (.int .i64 0)) (by kernel_rfl) ?_
            refine st (by kernel_rfl) (S_call (args := [.pointer (some ⟨p10, 0, none⟩), .int .i64 0, .int .i64 bad, .int .i64 0]) (by kernel_rfl) (maj_bad F p10 n 0 bad 0 cs I _ hG (by omega) (by omega) (by omega) (by simp [badB, hbI])) ?_)
            rintro _ w136 ⟨rfl, hT137⟩
            have hT0 := hT0.t0 hT137
            have hG := hG.tch0 hT137
            have hTo := hTo.tch0 hT137
            have hLc := hL.tch0 hT0
            have hBx := hBx.tch0 hT137
            have hClr := hClr.tch0 hT137
            have hClc := hClc.tch0 hT137
            refine seg5 (ρ' := upd (upd (upd (upd (upd (upd (upd (upd (upd (upd (upd (upd (upd (upd (upd (upd (upd (upd (upd (upd (upd (upd (upd (upd (upd (upd (upd (upd (upd (upd (upd (upd (upd (upd (upd (upd (upd (upd (upd (upd (upd (upd (upd (upd (upd (upd (upd (upd (upd (upd (upd (upd (upd (upd (upd (upd (updL ρ [(0, .slice L mm cl), (2, .int .i64 bad), (4, .pointer (some ⟨w.heap.size, 0, none⟩)), (6, .bool false), (7, .pointer (some ⟨p10, 0, none⟩)), (8, .slice A i cp), (9, .int .i64 ((i : Nat) : Int)), (10, .int .i64 ((n : Nat) : Int)), (11, .int .i64 (cs.length : Int)), (24, .bool (decide (((i : Nat) : Int) < (mm : Int)))), (76, .bool (decide (bad < 2 * ((n : Nat) : Int))))]) 78 (.pointer (some ⟨p10, 0, none⟩))) 79 (.int .i64 0)) 12 (.int .i64 0)) 80 (.pointer (some ⟨p10, 0, none⟩))) 81 (.int .i64 bad)) 82 (.int .i64 0)) 83 (.int .i64 (-1))) 84 (.bool true)) 85 (.bool true)) 86 (.pointer (some ⟨p10, 0, none⟩))) 87 (.int .i64 0)) 88 (.int .i64 bad)) 89 (.int .i64 (-1))) 90 (.bool true)) 91 (.bool true)) 92 (.bool true)) 93 (.pointer (some ⟨p10, 0, none⟩))) 94 (.int .i64 bad)) 95 (.int .i64 0)) 96 (.int .i64 (-1))) 97 (.bool true)) 98 (.bool true)) 99 (.bool true)) 100 (.pointer (some ⟨p10, 0, none⟩))) 101 (.int .i64 0)) 102 (.int .i64 bad)) 103 (.int .i64 (-1))) 104 (.bool true)) 105 (.bool true)) 106 (.bool true)) 107 (.pointer (some ⟨p10, 0, none⟩))) 108 (.int .i64 bad)) 109 (.int .i64 0)) 110 (.int .i64 0)) 111 (.int .i64 (-1))) 112 (.bool true)) 113 (.bool true)) 114 (.bool true)) 115 (.pointer (some ⟨p10, 0, none⟩))) 116 (.int .i64 0)) 117 (.int .i64 0)) 118 (.int .i64 bad)) 119 (.int .i64 (-1))) 120 (.bool true)) 121 (.bool true)) 122 (.bool true)) 123 (.pointer (some ⟨p10, 0, none⟩))) 124 (.int .i64 0)) 125 (.int .i64 bad)) 126 (.int .i64 0)) 127 (.int .i64 (-1))) 128 (.bool true)) 129 (.bool true)) 130 (.bool true)) 131 (.pointer (some ⟨p10, 0, none⟩))) 132 (.pointer (some ⟨w.heap.size, 0, none⟩))) (by kernel_rfl) ?_
            refine st (by kernel_rfl) (S_val (v := .int .i64 k) (R_load (v := .int .i64 k) (by kernel_rfl) (by kernel_rfl) ((hBx.cell 0).trans rfl)) ?_)
            refine seg3 (ρ' := upd (upd (upd (upd (upd (upd (upd (upd (upd (upd (upd (upd (upd (upd (upd (upd (upd (upd (upd (upd (upd (upd (upd (upd (upd (upd (upd (upd (upd (upd (upd (upd (upd (upd (upd (upd (upd (upd (upd (upd (upd (upd (upd (upd (upd (upd (upd (upd (upd (upd (upd (upd (upd (upd (upd (upd (upd (upd (upd (upd (updL ρ [(0, .slice L mm cl), (2, .int .i64 bad), (4, .pointer (some ⟨w.heap.size, 0, none⟩)), (6, .bool false), (7, .pointer (some ⟨p10, 0, none⟩)), (8, .slice A i cp), (9, .int .i64 ((i : Nat) : Int)), (10, .int .i64 ((n : Nat) : Int)), (11, .int .i64 (cs.length : Int)), (24, .bool (decide (((i : Nat) : Int) < (mm : Int)))), (76, .bool (decide (bad < 2 * ((n : Nat) : Int))))]) 78 (.pointer (some ⟨p10, 0, none⟩))) 79 (.int .i64 0)) 12 (.int .i64 0)) 80 (.pointer (some ⟨p10, 0, none⟩))) 81 (.int .i64 bad)) 82 (.int .i64 0)) 83 (.int .i64 (-1))) 84 (.bool true)) 85 (.bool true)) 86 (.pointer (some ⟨p10, 0, none⟩))) 87 (.int .i64 0)) 88 (.int .i64 bad)) 89 (.int .i64 (-1))) 90 (.bool true)) 91 (.bool true)) 92 (.bool true)) 93 (.pointer (some ⟨p10, 0, none⟩))) 94 (.int .i64 bad)) 95 (.int .i64 0)) 96 (.int .i64 (-1))) 97 (.bool true)) 98 (.bool true)) 99 (.bool true)) 100 (.pointer (some ⟨p10, 0, none⟩))) 101 (.int .i64 0)) 102 (.int .i64 bad)) 103 (.int .i64 (-1))) 104 (.bool true)) 105 (.bool true)) 106 (.bool true)) 107 (.pointer (some ⟨p10, 0, none⟩))) 108 (.int .i64 bad)) 109 (.int .i64 0)) 110 (.int .i64 0)) 111 (.int .i64 (-1))) 112 (.bool true)) 113 (.bool true)) 114 (.bool true)) 115 (.pointer (some ⟨p10, 0, none⟩))) 116 (.int .i64 0)) 117 (.int .i64 0)) 118 (.int .i64 bad)) 119 (.int .i64 (-1))) 120 (.bool true)) 121 (.bool true)) 122 (.bool true)) 123 (.pointer (some ⟨p10, 0, none⟩))) 124 (.int .i64 0)) 125 (.int .i64 bad)) 126 (.int .i64 0)) 127 (.int .i64 (-1))) 128 (.bool true)) 129 (.bool true)) 130 (.bool true)) 131 (.pointer (some ⟨p10, 0, none⟩))) 132 (.pointer (some ⟨w.heap.size, 0, none⟩))) 133 (.int .i64 k)) 134 (.int .i64 bad)) 135 (.int .i64 bad)) 136 (.int .i64 bad)) (by kernel_rfl) ?_
            refine st (by kernel_rfl) (S_call (args := [.pointer (some ⟨p10, 0, none⟩), .int .i64 k, .int .i64 bad, .int .i64 bad, .int .i64 bad]) (by kernel_rfl) (ask_bad F p10 n k bad cs I _ hG (by omega) hbI) ?_)
            rintro _ w138 ⟨rfl, hT139⟩
            have hT0 := hT0.t0 hT139
            have hG := hG.tch0 hT139
            have hTo := hTo.tch0 hT139
            have hLc := hL.tch0 hT0
            have hBx := hBx.tch0 hT139
            have hClr := hClr.tch0 hT139
            have hClc := hClc.tch0 hT139
            refine seg3 (ρ' := upd (upd (upd (upd (upd (upd (upd (upd (upd (upd (upd (upd (upd (upd (upd (upd (upd (upd (upd (upd (upd (upd (upd (upd (upd (upd (upd (upd (upd (upd (upd (upd (upd (upd (upd (upd (upd (upd (upd (upd (upd (upd (upd (upd (upd (upd (upd (upd (upd (upd (upd (upd (upd (upd (upd (upd (upd (upd (upd (upd (upd (upd (upd (upd (updL ρ [(0, .slice L mm cl), (2, .int .i64 bad), (4, .pointer (some ⟨w.heap.size, 0, none⟩)), (6, .bool false), (7, .pointer (some ⟨p10, 0, none⟩)), (8, .slice A i cp), (9, .int .i64 ((i : Nat) : Int)), (10, .int .i64 ((n : Nat) : Int)), (11, .int .i64 (cs.length : Int)), (24, .bool (decide (((i : Nat) : Int) < (mm : Int)))), (76, .bool (decide (bad < 2 * ((n : Nat) : Int))))]) 78 (.pointer (some ⟨p10, 0, none⟩))) 79 (.int .i64 0)) 12 (.int .i64 0)) 80 (.pointer (some ⟨p10, 0, none⟩))) 81 (.int .i64 bad)) 82 (.int .i64 0)) 83 (.int .i64 (-1))) 84 (.bool true)) 85 (.bool true)) 86 (.pointer (some ⟨p10, 0, none⟩))) 87 (.int .i64 0)) 88 (.int .i64 bad)) 89 (.int .i64 (-1))) 90 (.bool true)) 91 (.bool true)) 92 (.bool true)) 93 (.pointer (some ⟨p10, 0, none⟩))) 94 (.int .i64 bad)) 95 (.int .i64 0)) 96 (.int .i64 (-1))) 97 (.bool true)) 98 (.bool true)) 99 (.bool true)) 100 (.pointer (some ⟨p10, 0, none⟩))) 101 (.int .i64 0)) 102 (.int .i64 bad)) 103 (.int .i64 (-1))) 104 (.bool true)) 105 (.bool true)) 106 (.bool true)) 107 (.pointer (some ⟨p10, 0, none⟩))) 108 (.int .i64 bad)) 109 (.int .i64 0)) 110 (.int .i64 0)) 111 (.int .i64 (-1))) 112 (.bool true)) 113 (.bool true)) 114 (.bool true)) 115 (.pointer (some ⟨p10, 0, none⟩))) 116 (.int .i64 0)) 117 (.int .i64 0)) 118 (.int .i64 bad)) 119 (.int .i64 (-1))) 120 (.bool true)) 121 (.bool true)) 122 (.bool true)) 123 (.pointer (some ⟨p10, 0, none⟩))) 124 (.int .i64 0)) 125 (.int .i64 bad)) 126 (.int .i64 0)) 127 (.int .i64 (-1))) 128 (.bool true)) 129 (.bool true)) 130 (.bool true)) 131 (.pointer (some ⟨p10, 0, none⟩))) 132 (.pointer (some ⟨w.heap.size, 0, none⟩))) 133 (.int .i64 k)) 134 (.int .i64 bad)) 135 (.int .i64 bad)) 136 (.int .i64 bad)) 137 (.int .i64 (-1))) 138 (.bool true)) 139 (.bool true)) 13 (.bool true)) (by kernel_rfl) ?_
            refine op_nil ?_
            refine W_seq ?_
            refine W_fg [(0, .slice L mm cl), (2, .int .i64 bad), (4, .pointer (some ⟨w.heap.size, 0, none⟩)), (6, .bool false), (7, .pointer (some ⟨p10, 0, none⟩)), (8, .slice A i cp), (9, .int .i64 ((i : Nat) : Int)), (10, .int .i64 ((n : Nat) : Int)), (11, .int .i64 (cs.length : Int)), (12, .int .i64 0), (13, .bool true), (24, .bool (decide (((i : Nat) : Int) < (mm : Int)))), (76, .bool (decide (bad < 2 * ((n : Nat) : Int))))] (by kernel_rfl) fun ρ => ?_
            refine W_region (by kernel_rfl) ?_
            refine seg3 (ρ' := upd (upd (upd (updL ρ [(0, .slice L mm cl), (2, .int .i64 bad), (4, .pointer (some ⟨w.heap.size, 0, none⟩)), (6, .bool false), (7, .pointer (some ⟨p10, 0, none⟩)), (8, .slice A i cp), (9, .int .i64 ((i : Nat) : Int)), (10, .int .i64 ((n : Nat) : Int)), (11, .int .i64 (cs.length : Int)), (12, .int .i64 0), (13, .bool true), (24, .bool (decide (((i : Nat) : Int) < (mm : Int)))), (76, .bool (decide (bad < 2 * ((n : Nat) : Int))))]) 140 (.bool true)) 141 (.bool true)) 142 (.pointer (some ⟨p10, 0, none⟩))) (by kernel_rfl) ?_
            refine st (by kernel_rfl) (S_call (args := [.pointer (some ⟨p10, 0, none⟩)]) (by kernel_rfl) (vars_ok F p10 n cs I _ hG) ?_)
            rintro _ w140 ⟨rfl, hT141⟩
            have hT0 := hT0.t0 hT141
            have hG := hG.tch0 hT141
            have hTo := hTo.tch0 hT141
            have hLc := hL.tch0 hT0
            have hBx := hBx.tch0 hT141
            have hClr := hClr.tch0 hT141
            have hClc := hClc.tch0 hT141
            refine seg4 (ρ' := upd (upd (upd (upd (upd (upd (upd (upd (updL ρ [(0, .slice L mm cl), (2, .int .i64 bad), (4, .pointer (some ⟨w.heap.size, 0, none⟩)), (6, .bool false), (7, .pointer (some ⟨p10, 0, none⟩)), (8, .slice A i cp), (9, .int .i64 ((i : Nat) : Int)), (10, .int .i64 ((n : Nat) : Int)), (11, .int .i64 (cs.length : Int)), (12, .int .i64 0), (13, .bool true), (24, .bool (decide (((i : Nat) : Int) < (mm : Int)))), (76, .bool (decide (bad < 2 * ((n : Nat) : Int))))]) 140 (.bool true)) 141 (.bool true)) 142 (.pointer (some ⟨p10, 0, none⟩))) 143 (.int .i64 ((n : Nat) : Int))) 144 (.int .i64 ((n : Nat) : Int))) 145 (.bool (((n : Nat) : Int) == ((n : Nat) : Int)))) 146 (.bool (((n : Nat) : Int) == ((n : Nat) : Int)))) 147 (.bool (((n : Nat) : Int) == ((n : Nat) : Int)))) (by kernel_rfl) ?_
            cases hb142 : ((n : Nat) : Int) == ((n : Nat) : Int)
            · replace hb142 : ((n : Nat) : Int) ≠ ((n : Nat) : Int) := (ne_of_beq_false hb142)
              exact absurd rfl hb142
            · replace hb142 : ((n : Nat) : Int) = ((n : Nat) : Int) := (eq_of_beq hb142)
              refine seg1 (ρ' := upd (upd (upd (upd (upd (upd (upd (upd (upd (updL ρ [(0, .slice L mm cl), (2, .int .i64 bad), (4, .pointer (some ⟨w.heap.size, 0, none⟩)), (6, .bool false), (7, .pointer (some ⟨p10, 0, none⟩)), (8, .slice A i cp), (9, .int .i64 ((i : Nat) : Int)), (10, .int .i64 ((n : Nat) : Int)), (11, .int .i64 (cs.length : Int)), (12, .int .i64 0), (13, .bool true), (24, .bool (decide (((i : Nat) : Int) < (mm : Int)))), (76, .bool (decide (bad < 2 * ((n : Nat) : Int))))]) 140 (.bool true)) 141 (.bool true)) 142 (.pointer (some ⟨p10, 0, none⟩))) 143 (.int .i64 ((n : Nat) : Int))) 144 (.int .i64 ((n : Nat) : Int))) 145 (.bool true)) 146 (.bool true)) 147 (.bool true)) 148 (.pointer (some ⟨p10, 0, none⟩))) (by kernel_rfl) ?_
              refine st (by kernel_rfl) (S_call (args := [.pointer (some ⟨p10, 0, none⟩)]) (by kernel_rfl) (clauses_ok F p10 n cs I _ hG (by omega)) ?_)
              rintro _ w143 ⟨L145, lcp146, Lv147, rfl, hClr, hClc, hT144⟩
              have hT0 := hT0.t0 hT144
              have hG := hG.tch0 hT144
              have hTo := hTo.tch0 hT144
              have hLc := hL.tch0 hT0
              have hBx := hBx.tch0 hT144
              refine seg5 (ρ' := upd (upd (upd (upd (upd (upd (upd (upd (upd (upd (upd (upd (upd (upd (upd (updL ρ [(0, .slice L mm cl), (2, .int .i64 bad), (4, .pointer (some ⟨w.heap.size, 0, none⟩)), (6, .bool false), (7, .pointer (some ⟨p10, 0, none⟩)), (8, .slice A i cp), (9, .int .i64 ((i : Nat) : Int)), (10, .int .i64 ((n : Nat) : Int)), (11, .int .i64 (cs.length : Int)), (12, .int .i64 0), (13, .bool true), (24, .bool (decide (((i : Nat) : Int) < (mm : Int)))), (76, .bool (decide (bad < 2 * ((n : Nat) : Int))))]) 140 (.bool true)) 141 (.bool true)) 142 (.pointer (some ⟨p10, 0, none⟩))) 143 (.int .i64 ((n : Nat) : Int))) 144 (.int .i64 ((n : Nat) : Int))) 145 (.bool true)) 146 (.bool true)) 147 (.bool true)) 148 (.pointer (some ⟨p10, 0, none⟩))) 149 (.slice L145 cs.length lcp146)) 150 (.int .i64 (cs.length : Int))) 151 (.int .i64 (cs.length : Int))) 152 (.bool ((cs.length : Int) == (cs.length : Int)))) 153 (.bool ((cs.length : Int) == (cs.length : Int)))) 154 (.bool ((cs.length : Int) == (cs.length : Int)))) (by kernel_rfl) ?_
              cases hb148 : (cs.length : Int) == (cs.length : Int)
              · replace hb148 : (cs.length : Int) ≠ (cs.length : Int) := (ne_of_beq_false hb148)
                exact absurd rfl hb148
              · replace hb148 : (cs.length : Int) = (cs.length : Int) := (eq_of_beq hb148)
                refine st (by kernel_rfl) (S_call (args := []) (by kernel_rfl) (awake19_ok _) ?_)
                rintro _ w149 ⟨rfl, hT150⟩
                have hT0 := hT0.t0 hT150
                have hG := hG.tch0 hT150
                have hTo := hTo.tch0 hT150
                have hLc := hL.tch0 hT0
                have hBx := hBx.tch0 hT150
                have hClr := hClr.tch0 hT150
                have hClc := hClc.tch0 hT150
                refine seg2 (ρ' := upd (upd (upd (upd (upd (upd (upd (upd (upd (upd (upd (upd (upd (upd (upd (upd (upd (upd (updL ρ [(0, .slice L mm cl), (2, .int .i64 bad), (4, .pointer (some ⟨w.heap.size, 0, none⟩)), (6, .bool false), (7, .pointer (some ⟨p10, 0, none⟩)), (8, .slice A i cp), (9, .int .i64 ((i : Nat) : Int)), (10, .int .i64 ((n : Nat) : Int)), (11, .int .i64 (cs.length : Int)), (12, .int .i64 0), (13, .bool true), (24, .bool (decide (((i : Nat) : Int) < (mm : Int)))), (76, .bool (decide (bad < 2 * ((n : Nat) : Int))))]) 140 (.bool true)) 141 (.bool true)) 142 (.pointer (some ⟨p10, 0, none⟩))) 143 (.int .i64 ((n : Nat) : Int))) 144 (.int .i64 ((n : Nat) : Int))) 145 (.bool true)) 146 (.bool true)) 147 (.bool true)) 148 (.pointer (some ⟨p10, 0, none⟩))) 149 (.slice L145 cs.length lcp146)) 150 (.int .i64 (cs.length : Int))) 151 (.int .i64 (cs.length : Int))) 152 (.bool true)) 153 (.bool true)) 154 (.bool true)) 155 (.bool true)) 156 (.bool true)) 6 (.bool true)) (by kernel_rfl) ?_
                refine op_nil ?_
                refine W_ret ?_
                exact ⟨_, Res_of (v := .bool true) (by kernel_rfl), ⟨rfl, hT0⟩⟩

end Go.Proofs.YtnlecdpiccgdpaaV
