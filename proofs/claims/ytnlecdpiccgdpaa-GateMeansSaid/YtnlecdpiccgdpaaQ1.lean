/- Walks of functions of the program and of the document's texts. The conditions stand with each theorem. -/
import Derived.Test.YtnlecdpiccgdpaaProg
import Derived.Test.YtnlecdpiccgdpaaVx4
import Derived.Test.YtnlecdpiccgdpaaN3
import Derived.Test.YtnlecdpiccgdpaaU5
set_option linter.unusedVariables false
set_option linter.unusedSimpArgs false
namespace Go.Proofs.YtnlecdpiccgdpaaV
open Go Go.RowKit Go.Proofs

set_option maxRecDepth 100000 in
set_option maxHeartbeats 4000000 in
theorem GateMeans_w (L : Option Addr) (mm cl : Nat) (cells : List Value) (ds : Nat → Int × Int × Int × Int) (TL : Option Addr) (mt tc : Nat) (tru : List Bool) (w : World) (hL : RdW w 4 mm L cells) (hD : Deeds4 mm cells ds) (hTL : RdW w 1 mt TL (boolsV tru)) : Ret Try.prog 3 [.slice L mm cl, .slice TL mt tc] w fun v w' => v = .bool true ∧ Tch N0 w w' := by
  have ltr := hTL.lenb
  refine enter Try.func3 rfl rfl ?_
  refine W_seq ?_
  refine W_region (by kernel_rfl) ?_
  refine seg1 (ρ' := upd (ini [.slice L mm cl, .slice TL mt tc]) 4 (.bool false)) (by kernel_rfl) ?_
  refine op_nil ?_
  refine W_seq ?_
  refine W_seq ?_
  refine W_region (by kernel_rfl) ?_
  refine seg4 (ρ' := upd (upd (upd (upd (upd (ini [.slice L mm cl, .slice TL mt tc]) 4 (.bool false)) 19 (.slice L mm cl)) 20 (.int .i64 (mm : Int))) 21 (.bool (decide ((mm : Int) > 80)))) 22 (.bool (decide ((mm : Int) > 80)))) (by kernel_rfl) ?_
  cases hb1 : decide ((mm : Int) > 80)
  · replace hb1 : (mm : Int) ≤ 80 := (Int.not_lt.1 (of_decide_eq_false hb1))
    refine seg4 (ρ' := upd (upd (upd (upd (upd (upd (upd (upd (upd (ini [.slice L mm cl, .slice TL mt tc]) 4 (.bool false)) 19 (.slice L mm cl)) 20 (.int .i64 (mm : Int))) 21 (.bool false)) 22 (.bool false)) 23 (.slice TL mt tc)) 24 (.int .i64 (mt : Int))) 25 (.bool (decide ((mt : Int) > 200)))) 26 (.bool (decide ((mt : Int) > 200)))) (by kernel_rfl) ?_
    refine op_nil ?_
    refine W_cond (decide ((mt : Int) > 200)) (by kernel_rfl) (by kernel_rfl) (fun hc2 => ?_) (fun hc2 => ?_)
    · replace hc2 : 200 < (mt : Int) := (of_decide_eq_true hc2)
      refine W_seq ?_
      refine W_fg [(0, .slice L mm cl), (1, .slice TL mt tc), (4, .bool false), (26, .bool (decide ((mt : Int) > 200)))] (by kernel_rfl) fun ρ => ?_
      refine W_region (by kernel_rfl) ?_
      refine st (by rfl) (S_call (args := []) (by kernel_rfl) (awake19_ok _) ?_)
      rintro _ w3 ⟨rfl, hT4⟩
      have hT0 := hT4
      refine seg1 (ρ' := upd (upd (updL ρ [(0, .slice L mm cl), (1, .slice TL mt tc), (4, .bool false), (26, .bool (decide ((mt : Int) > 200)))]) 27 (.bool true)) 4 (.bool true)) (by kernel_rfl) ?_
      refine op_nil ?_
      refine W_ret ?_
      exact ⟨_, Res_of (v := .bool true) (by kernel_rfl), ⟨rfl, hT0⟩⟩
    · replace hc2 : (mt : Int) ≤ 200 := (Int.not_lt.1 (of_decide_eq_false hc2))
      refine W_skip ?_
      refine W_seq ?_
      refine W_fg [(0, .slice L mm cl), (1, .slice TL mt tc), (4, .bool false), (26, .bool (decide ((mt : Int) > 200)))] (by kernel_rfl) fun ρ => ?_
      refine W_region (by kernel_rfl) ?_
      refine st (by rfl) (S_call (args := []) (by kernel_rfl) (new_ok _) ?_)
      rintro _ w5 ⟨p7, F8, rfl, hG, hT6, hFb⟩
      have hT0 := hT6
      refine seg1 (ρ' := upd (upd (updL ρ [(0, .slice L mm cl), (1, .slice TL mt tc), (4, .bool false), (26, .bool (decide ((mt : Int) > 200)))]) 28 (.pointer (some ⟨p7, 0, none⟩))) 5 (.pointer (some ⟨p7, 0, none⟩))) (by kernel_rfl) ?_
      refine op_nil ?_
      refine W_seq ?_
      refine W_seq ?_
      refine W_region (by kernel_rfl) ?_
      refine seg2 (ρ' := upd (upd (upd (upd (updL ρ [(0, .slice L mm cl), (1, .slice TL mt tc), (4, .bool false), (26, .bool (decide ((mt : Int) > 200)))]) 28 (.pointer (some ⟨p7, 0, none⟩))) 5 (.pointer (some ⟨p7, 0, none⟩))) 29 (.pointer (some ⟨p7, 0, none⟩))) 30 (.bool false)) (by kernel_rfl) ?_
      refine op_nil ?_
      refine W_cond false (by kernel_rfl) (by kernel_rfl) (fun h => nomatch h) (fun _ => ?_)
      refine W_skip ?_
      refine W_seq ?_
      refine W_region (by kernel_rfl) ?_
      refine seg2 (ρ' := upd (upd (upd (upd (upd (upd (updL ρ [(0, .slice L mm cl), (1, .slice TL mt tc), (4, .bool false), (26, .bool (decide ((mt : Int) > 200)))]) 28 (.pointer (some ⟨p7, 0, none⟩))) 5 (.pointer (some ⟨p7, 0, none⟩))) 29 (.pointer (some ⟨p7, 0, none⟩))) 30 (.bool false)) 6 (.slice none 0 0)) 7 (.slice none 0 0)) (by kernel_rfl) ?_
      refine op_nil ?_
      refine W_seq ?_
      refine W_region (by kernel_rfl) ?_
      refine seg1 (ρ' := upd (upd (upd (upd (upd (upd (upd (updL ρ [(0, .slice L mm cl), (1, .slice TL mt tc), (4, .bool false), (26, .bool (decide ((mt : Int) > 200)))]) 28 (.pointer (some ⟨p7, 0, none⟩))) 5 (.pointer (some ⟨p7, 0, none⟩))) 29 (.pointer (some ⟨p7, 0, none⟩))) 30 (.bool false)) 6 (.slice none 0 0)) 7 (.slice none 0 0)) 8 (.slice none 0 0)) (by kernel_rfl) ?_
      refine op_nil ?_
      refine W_seq ?_
      refine W_seq ?_
      refine W_region (by kernel_rfl) ?_
      refine seg1 (ρ' := upd (upd (upd (upd (upd (upd (upd (upd (updL ρ [(0, .slice L mm cl), (1, .slice TL mt tc), (4, .bool false), (26, .bool (decide ((mt : Int) > 200)))]) 28 (.pointer (some ⟨p7, 0, none⟩))) 5 (.pointer (some ⟨p7, 0, none⟩))) 29 (.pointer (some ⟨p7, 0, none⟩))) 30 (.bool false)) 6 (.slice none 0 0)) 7 (.slice none 0 0)) 8 (.slice none 0 0)) 9 (.int .i64 0)) (by kernel_rfl) ?_
      refine op_nil ?_
      refine W_block ?_
      refine W_loop (fun m ρ w' => ∃ (F : Nat → Prop) (n : Nat) (cs : List (List Nat)) (I : Nat → Prop) (A : Option Addr) (cp : Nat) (told : List Nat) (k : Nat) (A2 : Option Addr) (cp2 : Nat) (inp : List Nat) (k2 : Nat) (A3 : Option Addr) (cp3 : Nat) (ac : List Value) (ds2 : Nat → Int × Int × Int × Int) (i : Nat) (ρ0 : Env), ρ = updL ρ0 [(0, .slice L mm cl), (1, .slice TL mt tc), (4, .bool false), (5, .pointer (some ⟨p7, 0, none⟩)), (6, .slice A k cp), (7, .slice A2 k2 cp2), (8, .slice A3 k cp3), (9, .int .i64 ((i : Nat) : Int))] ∧ (i ≤ mm) ∧ (n ≤ 1 + 4 * i) ∧ (k ≤ i) ∧ (k2 ≤ i) ∧ (ArgsInv n cs k told ac ds2) ∧ (InpInv n I k2 inp) ∧ (∀ b, F b → w.heap.size ≤ b) ∧ (∀ c, (Value.slice A k cp).ownBlock = some c → ¬ F c) ∧ (∀ c, (Value.slice A k cp).ownBlock = some c → w.heap.size ≤ c) ∧ (∀ c, (Value.slice A2 k2 cp2).ownBlock = some c → ¬ F c) ∧ (∀ c, (Value.slice A2 k2 cp2).ownBlock = some c → w.heap.size ≤ c) ∧ (∀ c, (Value.slice A3 k cp3).ownBlock = some c → ¬ F c) ∧ (∀ c, (Value.slice A3 k cp3).ownBlock = some c → w.heap.size ≤ c) ∧ (∀ c, (Value.slice A k cp).ownBlock = some c → (Value.slice A2 k2 cp2).ownBlock = some c → False) ∧ Tch N0 w w' ∧ GObj F w' p7 n cs I ∧ Own w' 0 3 1 (.slice A k cp) k (nats told) ∧ Own w' 0 3 1 (.slice A2 k2 cp2) k2 (nats inp) ∧ Own w' 0 34 4 (.slice A3 k cp3) k ac ∧ RdW w' 4 mm L cells ∧ m = mm - i) (m := mm - 0) ?_ ?_
      · refine ⟨F8, 1, [[0]], fun _ => False, none, 0, [], 0, none, 0, [], 0, none, 0, [], fun _ => (0, 0, 0, 0), 0, _, updL_self (by kernel_rfl), by omega, by omega, by omega, by omega, ArgsInv.zero _ _ _, InpInv.zero _, hFb, (fun c hc => by cases hc), (fun c hc => by cases hc), (fun c hc => by cases hc), (fun c hc => by cases hc), (fun c hc => by cases hc), (fun c hc => by cases hc), (fun c hc => by cases hc), hT0, hG, Own.nil_ _ _ _ _, Own.nil_ _ _ _ _, Own.nil_ _ _ _ _, hL.tch0 hT0, rfl⟩
      · rintro m ρ w9 ⟨F, n, cs, I, A, cp, told, k, A2, cp2, inp, k2, A3, cp3, ac, ds2, i, ρ, rfl, hi, hn, hk1, hk2, hArg, hInp, hFb, nF_hTo, nB_hTo, nF_hIn, nB_hIn, nF_hAr, nB_hAr, dj_hTo_hIn, hT0, hG, hTo, hIn, hAr, hLc, rfl⟩
        refine W_seq ?_
        refine W_seq ?_
        refine W_region (by kernel_rfl) ?_
        refine seg4 (ρ' := upd (upd (upd (upd (updL ρ [(0, .slice L mm cl), (1, .slice TL mt tc), (4, .bool false), (5, .pointer (some ⟨p7, 0, none⟩)), (6, .slice A k cp), (7, .slice A2 k2 cp2), (8, .slice A3 k cp3), (9, .int .i64 ((i : Nat) : Int))]) 31 (.int .i64 ((i : Nat) : Int))) 32 (.slice L mm cl)) 33 (.int .i64 (mm : Int))) 34 (.bool (decide (((i : Nat) : Int) < (mm : Int))))) (by kernel_rfl) ?_
        refine op_nil ?_
        refine W_cond (decide (((i : Nat) : Int) < (mm : Int))) (by kernel_rfl) (by kernel_rfl) (fun hc10 => ?_) (fun hc10 => ?_)
        · replace hc10 : ((i : Nat) : Int) < (mm : Int) := (of_decide_eq_true hc10)
          refine W_skip ?_
          refine W_seq ?_
          refine W_block ?_
          refine W_seq ?_
          refine W_region (by kernel_rfl) ?_
          refine seg2 (ρ' := upd (upd (upd (upd (upd (upd (updL ρ [(0, .slice L mm cl), (1, .slice TL mt tc), (4, .bool false), (5, .pointer (some ⟨p7, 0, none⟩)), (6, .slice A k cp), (7, .slice A2 k2 cp2), (8, .slice A3 k cp3), (9, .int .i64 ((i : Nat) : Int))]) 31 (.int .i64 ((i : Nat) : Int))) 32 (.slice L mm cl)) 33 (.int .i64 (mm : Int))) 34 (.bool (decide (((i : Nat) : Int) < (mm : Int))))) 37 (.slice L mm cl)) 38 (.int .i64 ((i : Nat) : Int))) (by kernel_rfl) ?_
          refine stv (v := ptrAt L (i * 4)) (by rfl) (R_indexRd (sz := 4) (len := mm) (cap := cl) (k := .i64) (i := ((i : Nat) : Int)) (e := 30) i hLc (by kernel_rfl) (by kernel_rfl) (by kernel_rfl) (by kernel_rfl) rfl (by omega)) ?_
          refine stv (v := .agg #[.int .i64 ((ds i).1), .int .i64 ((ds i).2.1), .int .i64 ((ds i).2.2.1), .int .i64 ((ds i).2.2.2)]) (by rfl) (R_loadRdA [.int .i64 ((ds i).1), .int .i64 ((ds i).2.1), .int .i64 ((ds i).2.2.1), .int .i64 ((ds i).2.2.2)] hLc (by omega) (by kernel_rfl) (by kernel_rfl) (by kernel_rfl) (hD.part (by omega))) ?_
          have hlt_ := hG.1.lt
          have z15 := hT0.size
          refine st (by rfl) (S_new (v := .pointer (some ⟨w9.heap.size, 0, none⟩)) (ob := .cells #[.int .i64 0, .int .i64 0, .int .i64 0, .int .i64 0] 30) (by kernel_rfl) fun w11 hT12 hs13 hB14 => ?_)
          replace hB14 : Blk w11 (w9.heap.size) 30 [.int .i64 0, .int .i64 0, .int .i64 0, .int .i64 0] := hB14
          have hT0 := hT0.t0 hT12
          have hG := hG.tch0 hT12
          have hTo := hTo.tch0 hT12
          have hIn := hIn.tch0 hT12
          have hAr := hAr.tch0 hT12
          have hLc := hL.tch0 hT0
          have nF_hB14 : ¬ F (w9.heap.size) := fun e => by have := hlt_ _ e; omega
          refine st (by rfl) (S_storeA (b := w9.heap.size) (j := 0) (cs := [.int .i64 ((ds i).1), .int .i64 ((ds i).2.1), .int .i64 ((ds i).2.2.1), .int .i64 ((ds i).2.2.2)]) (by kernel_rfl) (by kernel_rfl) (by kernel_rfl) (by simp [oneV]) hB14 (by simp) fun w16 hT17 hs18 hB14' => ?_)
          have hT0 := (hT0).then hT17 (fun c e => by have : c = w9.heap.size := e; omega)
          have hG := hG.tchS hT17 (fun c e q => by cases e; exact nF_hB14 q)
          have hTo := hTo.tch hT17 (fun c hc e => hTo.blk_ne hB14 (by decide) c hc e)
          have hIn := hIn.tch hT17 (fun c hc e => hIn.blk_ne hB14 (by decide) c hc e)
          have hAr := hAr.tch hT17 (fun c hc e => hAr.blk_ne hB14 (by decide) c hc e)
          have hLc := hL.tch0 hT0
          replace hB14 : Blk w16 w9.heap.size 30 [.int .i64 ((ds i).1), .int .i64 ((ds i).2.1), .int .i64 ((ds i).2.2.1), .int .i64 ((ds i).2.2.2)] := hB14'
          refine op_nil ?_
          refine W_seq ?_
          refine W_fg [(0, .slice L mm cl), (1, .slice TL mt tc), (4, .bool false), (5, .pointer (some ⟨p7, 0, none⟩)), (6, .slice A k cp), (7, .slice A2 k2 cp2), (8, .slice A3 k cp3), (9, .int .i64 ((i : Nat) : Int)), (10, .pointer (some ⟨w9.heap.size, 0, none⟩)), (34, .bool (decide (((i : Nat) : Int) < (mm : Int))))] (by kernel_rfl) fun ρ => ?_
          have h7 := tmod7 (ds i).1
          obtain ⟨_, _, _, _, hd0, hd1, hd2, hd3⟩ := hD i (by omega)
          unfold b64 at hd0 hd1 hd2 hd3
          refine W_region (by kernel_rfl) ?_
          refine seg1 (ρ' := upd (updL ρ [(0, .slice L mm cl), (1, .slice TL mt tc), (4, .bool false), (5, .pointer (some ⟨p7, 0, none⟩)), (6, .slice A k cp), (7, .slice A2 k2 cp2), (8, .slice A3 k cp3), (9, .int .i64 ((i : Nat) : Int)), (10, .pointer (some ⟨w9.heap.size, 0, none⟩)), (34, .bool (decide (((i : Nat) : Int) < (mm : Int))))]) 41 (.pointer (some ⟨w9.heap.size, 0, none⟩))) (by kernel_rfl) ?_
          refine st (by rfl) (S_val (v := .int .i64 ((ds i).1)) (R_load (v := .int .i64 ((ds i).1)) (by kernel_rfl) (by kernel_rfl) ((hB14.cell 0).trans rfl)) ?_)
          refine seg2 (ρ' := upd (upd (upd (upd (updL ρ [(0, .slice L mm cl), (1, .slice TL mt tc), (4, .bool false), (5, .pointer (some ⟨p7, 0, none⟩)), (6, .slice A k cp), (7, .slice A2 k2 cp2), (8, .slice A3 k cp3), (9, .int .i64 ((i : Nat) : Int)), (10, .pointer (some ⟨w9.heap.size, 0, none⟩)), (34, .bool (decide (((i : Nat) : Int) < (mm : Int))))]) 41 (.pointer (some ⟨w9.heap.size, 0, none⟩))) 42 (.int .i64 ((ds i).1))) 43 (.int .i64 (((ds i).1).tmod 7))) 44 (.int .i64 (IntKind.i64.wrap ((((ds i).1).tmod 7) + 7)))) (by kernel_rfl) ?_
          rw [show IntKind.i64.wrap ((((ds i).1).tmod 7) + 7) = (((ds i).1).tmod 7) + 7 from wrap_i64 (by omega) (by omega)]
          refine seg1 (ρ' := upd (upd (upd (upd (upd (updL ρ [(0, .slice L mm cl), (1, .slice TL mt tc), (4, .bool false), (5, .pointer (some ⟨p7, 0, none⟩)), (6, .slice A k cp), (7, .slice A2 k2 cp2), (8, .slice A3 k cp3), (9, .int .i64 ((i : Nat) : Int)), (10, .pointer (some ⟨w9.heap.size, 0, none⟩)), (34, .bool (decide (((i : Nat) : Int) < (mm : Int))))]) 41 (.pointer (some ⟨w9.heap.size, 0, none⟩))) 42 (.int .i64 ((ds i).1))) 43 (.int .i64 (((ds i).1).tmod 7))) 44 (.int .i64 ((((ds i).1).tmod 7) + 7))) 45 (.int .i64 (((((ds i).1).tmod 7) + 7).tmod 7))) (by kernel_rfl) ?_
          rw [show ((((ds i).1).tmod 7) + 7).tmod 7 = ((((ds i).1).tmod 7) + 7) % 7 from Int.tmod_eq_emod_of_nonneg (by omega)]
          refine seg1 (ρ' := upd (upd (upd (upd (upd (upd (updL ρ [(0, .slice L mm cl), (1, .slice TL mt tc), (4, .bool false), (5, .pointer (some ⟨p7, 0, none⟩)), (6, .slice A k cp), (7, .slice A2 k2 cp2), (8, .slice A3 k cp3), (9, .int .i64 ((i : Nat) : Int)), (10, .pointer (some ⟨w9.heap.size, 0, none⟩)), (34, .bool (decide (((i : Nat) : Int) < (mm : Int))))]) 41 (.pointer (some ⟨w9.heap.size, 0, none⟩))) 42 (.int .i64 ((ds i).1))) 43 (.int .i64 (((ds i).1).tmod 7))) 44 (.int .i64 ((((ds i).1).tmod 7) + 7))) 45 (.int .i64 (((((ds i).1).tmod 7) + 7) % 7))) 11 (.int .i64 (((((ds i).1).tmod 7) + 7) % 7))) (by kernel_rfl) ?_
          refine op_nil ?_
          refine W_seq ?_
          generalize hkk : ((((ds i).1).tmod 7) + 7) % 7 = kk
          have hk0 : 0 ≤ kk ∧ kk < 7 := by omega
          refine W_draw (fun w' => Blk w' (w9.heap.size) 30 [.int .i64 ((ds i).1), .int .i64 ((ds i).2.1), .int .i64 ((ds i).2.2.1), .int .i64 ((ds i).2.2.2)]) (by kernel_rfl) (by kernel_rfl) (by kernel_rfl) fun w19 hT20 hh21 => ?_
          have hT0 := hT0.t0 hT20
          have hG := hG.tch0 hT20
          have hTo := hTo.tch0 hT20
          have hIn := hIn.tch0 hT20
          have hAr := hAr.tch0 hT20
          have hLc := hL.tch0 hT0
          have hB14 := hB14.tch0 hT20
          refine d_takes [0, 1, 4, 5, 8, 9] (listed' := #[true, true, false, false, true, true, false, false, true, true, false, false, false, false, false]) (ρ' := upd (upd (upd (upd (upd (upd (upd (upd (upd (upd (upd (upd (updL ρ [(0, .slice L mm cl), (1, .slice TL mt tc), (4, .bool false), (5, .pointer (some ⟨p7, 0, none⟩)), (6, .slice A k cp), (7, .slice A2 k2 cp2), (8, .slice A3 k cp3), (9, .int .i64 ((i : Nat) : Int)), (10, .pointer (some ⟨w9.heap.size, 0, none⟩)), (34, .bool (decide (((i : Nat) : Int) < (mm : Int))))]) 41 (.pointer (some ⟨w9.heap.size, 0, none⟩))) 42 (.int .i64 ((ds i).1))) 43 (.int .i64 (((ds i).1).tmod 7))) 44 (.int .i64 ((((ds i).1).tmod 7) + 7))) 45 (.int .i64 kk)) 11 (.int .i64 kk)) 46 (.slice A k cp)) 47 (.pointer (some ⟨w9.heap.size, 1, none⟩))) 50 (.slice A k cp)) 51 (.pointer (some ⟨w9.heap.size, 2, none⟩))) 54 (.slice A k cp)) 55 (.pointer (some ⟨w9.heap.size, 3, none⟩))) hB14 (by kernel_rfl) ?_
          refine d_val (v := .int .i64 ((ds i).2.1)) 2 (by rfl) (by kernel_rfl) (by kernel_rfl) (by kernel_rfl) (fun w' hs => by have hB14 := hs; exact R_load (v := .int .i64 ((ds i).2.1)) (by kernel_rfl) (by kernel_rfl) ((hB14.cell 1).trans rfl)) hB14 ?_
          refine d_val (v := .int .i64 ((ds i).2.2.1)) 6 (by rfl) (by kernel_rfl) (by kernel_rfl) (by kernel_rfl) (fun w' hs => by have hB14 := hs; exact R_load (v := .int .i64 ((ds i).2.2.1)) (by kernel_rfl) (by kernel_rfl) ((hB14.cell 2).trans rfl)) hB14 ?_
          refine d_val (v := .int .i64 ((ds i).2.2.2)) 10 (by rfl) (by kernel_rfl) (by kernel_rfl) (by kernel_rfl) (fun w' hs => by have hB14 := hs; exact R_load (v := .int .i64 ((ds i).2.2.2)) (by kernel_rfl) (by kernel_rfl) ((hB14.cell 3).trans rfl)) hB14 ?_
          refine d_one 3 (by kernel_rfl) (by rfl) (by kernel_rfl) (S_call (args := [.slice A k cp, .int .i64 ((ds i).2.1)]) (by kernel_rfl) (lit_any n k cp A told ((ds i).2.1) _ hTo.rdS (by omega) hArg.fit (by omega)) ?_)
          rintro _ w22 ⟨a24, rfl, hb25, hf26, hT23⟩
          have hT0 := hT0.t0 hT23
          have hG := hG.tch0 hT23
          have hTo := hTo.tch0 hT23
          have hIn := hIn.tch0 hT23
          have hAr := hAr.tch0 hT23
          have hLc := hL.tch0 hT0
          have hB14 := hB14.tch0 hT23
          refine ⟨hB14, ?_⟩
          refine d_one 7 (by kernel_rfl) (by rfl) (by kernel_rfl) (S_call (args := [.slice A k cp, .int .i64 ((ds i).2.2.1)]) (by kernel_rfl) (lit_any n k cp A told ((ds i).2.2.1) _ hTo.rdS (by omega) hArg.fit (by omega)) ?_)
          rintro _ w27 ⟨a29, rfl, hb30, hf31, hT28⟩
          have hT0 := hT0.t0 hT28
          have hG := hG.tch0 hT28
          have hTo := hTo.tch0 hT28
          have hIn := hIn.tch0 hT28
          have hAr := hAr.tch0 hT28
          have hLc := hL.tch0 hT0
          have hB14 := hB14.tch0 hT28
          refine ⟨hB14, ?_⟩
          refine d_one 11 (by kernel_rfl) (by rfl) (by kernel_rfl) (S_call (args := [.slice A k cp, .int .i64 ((ds i).2.2.2)]) (by kernel_rfl) (lit_any n k cp A told ((ds i).2.2.2) _ hTo.rdS (by omega) hArg.fit (by omega)) ?_)
          rintro _ w32 ⟨a34, rfl, hb35, hf36, hT33⟩
          have hT0 := hT0.t0 hT33
          have hG := hG.tch0 hT33
          have hTo := hTo.tch0 hT33
          have hIn := hIn.tch0 hT33
          have hAr := hAr.tch0 hT33
          have hLc := hL.tch0 hT0
          have hB14 := hB14.tch0 hT33
          refine ⟨hB14, ?_⟩
          refine d_takes [12, 13, 14] (listed' := #[true, true, true, true, true, true, true, true, true, true, true, true, true, true, true]) (ρ' := upd (upd (upd (upd (upd (upd (upd (upd (upd (upd (upd (upd (upd (upd (upd (upd (upd (upd (upd (upd (upd (updL ρ [(0, .slice L mm cl), (1, .slice TL mt tc), (4, .bool false), (5, .pointer (some ⟨p7, 0, none⟩)), (6, .slice A k cp), (7, .slice A2 k2 cp2), (8, .slice A3 k cp3), (9, .int .i64 ((i : Nat) : Int)), (10, .pointer (some ⟨w9.heap.size, 0, none⟩)), (34, .bool (decide (((i : Nat) : Int) < (mm : Int))))]) 41 (.pointer (some ⟨w9.heap.size, 0, none⟩))) 42 (.int .i64 ((ds i).1))) 43 (.int .i64 (((ds i).1).tmod 7))) 44 (.int .i64 ((((ds i).1).tmod 7) + 7))) 45 (.int .i64 kk)) 11 (.int .i64 kk)) 46 (.slice A k cp)) 47 (.pointer (some ⟨w9.heap.size, 1, none⟩))) 50 (.slice A k cp)) 51 (.pointer (some ⟨w9.heap.size, 2, none⟩))) 54 (.slice A k cp)) 55 (.pointer (some ⟨w9.heap.size, 3, none⟩))) 48 (.int .i64 ((ds i).2.1))) 52 (.int .i64 ((ds i).2.2.1))) 56 (.int .i64 ((ds i).2.2.2))) 49 (.int .i64 a24)) 53 (.int .i64 a29)) 57 (.int .i64 a34)) 12 (.int .i64 a24)) 13 (.int .i64 a29)) 14 (.int .i64 a34)) hB14 (by kernel_rfl) ?_
          refine d_done (by kernel_rfl) ?_
          refine W_seq ?_
          refine W_seq ?_
          refine W_fg [(0, .slice L mm cl), (1, .slice TL mt tc), (4, .bool false), (5, .pointer (some ⟨p7, 0, none⟩)), (6, .slice A k cp), (7, .slice A2 k2 cp2), (8, .slice A3 k cp3), (9, .int .i64 ((i : Nat) : Int)), (10, .pointer (some ⟨w9.heap.size, 0, none⟩)), (11, .int .i64 kk), (12, .int .i64 a24), (13, .int .i64 a29), (14, .int .i64 a34), (34, .bool (decide (((i : Nat) : Int) < (mm : Int))))] (by kernel_rfl) fun ρ => ?_
          refine W_rcut (C := fun ρ' w' => ∃  (ρ0 : Env), ρ' = updL ρ0 [(0, .slice L mm cl), (1, .slice TL mt tc), (4, .bool false), (5, .pointer (some ⟨p7, 0, none⟩)), (6, .slice A k cp), (7, .slice A2 k2 cp2), (8, .slice A3 k cp3), (9, .int .i64 ((i : Nat) : Int)), (10, .pointer (some ⟨w9.heap.size, 0, none⟩)), (11, .int .i64 kk), (12, .int .i64 a24), (13, .int .i64 a29), (14, .int .i64 a34), (34, .bool (decide (((i : Nat) : Int) < (mm : Int)))), (84, .bool (((decide (kk > 0)) && (decide (kk < 6))) && (((((k : Int) == 0) || (decide (a24 < 0))) || (decide (a29 < 0))) || ((decide (kk > 3)) && (decide (a34 < 0))))))] ∧ Tch N0 w32 w') ?_ ?_
          · refine W_region (by kernel_rfl) ?_
            refine seg3 (ρ' := upd (upd (upd (updL ρ [(0, .slice L mm cl), (1, .slice TL mt tc), (4, .bool false), (5, .pointer (some ⟨p7, 0, none⟩)), (6, .slice A k cp), (7, .slice A2 k2 cp2), (8, .slice A3 k cp3), (9, .int .i64 ((i : Nat) : Int)), (10, .pointer (some ⟨w9.heap.size, 0, none⟩)), (11, .int .i64 kk), (12, .int .i64 a24), (13, .int .i64 a29), (14, .int .i64 a34), (34, .bool (decide (((i : Nat) : Int) < (mm : Int))))]) 58 (.int .i64 kk)) 59 (.bool (decide (kk > 0)))) 60 (.bool (decide (kk > 0)))) (by kernel_rfl) ?_
            cases hb37 : decide (kk > 0)
            · replace hb37 : kk ≤ 0 := (Int.not_lt.1 (of_decide_eq_false hb37))
              refine seg24 (ρ' := upd (upd (upd (upd (upd (upd (upd (upd (upd (upd (upd (upd (upd (upd (upd (upd (upd (upd (upd (upd (upd (upd (upd (upd (upd (upd (upd (updL ρ [(0, .slice L mm cl), (1, .slice TL mt tc), (4, .bool false), (5, .pointer (some ⟨p7, 0, none⟩)), (6, .slice A k cp), (7, .slice A2 k2 cp2), (8, .slice A3 k cp3), (9, .int .i64 ((i : Nat) : Int)), (10, .pointer (some ⟨w9.heap.size, 0, none⟩)), (11, .int .i64 kk), (12, .int .i64 a24), (13, .int .i64 a29), (14, .int .i64 a34), (34, .bool (decide (((i : Nat) : Int) < (mm : Int))))]) 58 (.int .i64 kk)) 59 (.bool false)) 60 (.bool false)) 61 (undef)) 62 (undef)) 63 (.bool false)) 64 (.bool false)) 65 (undef)) 66 (undef)) 67 (undef)) 68 (undef)) 69 (undef)) 70 (undef)) 71 (undef)) 72 (undef)) 73 (undef)) 74 (undef)) 75 (undef)) 76 (undef)) 77 (undef)) 78 (undef)) 79 (undef)) 80 (undef)) 81 (undef)) 82 (undef)) 83 (undef)) 84 (.bool false)) (by kernel_rfl) ?_
              refine op_nil ?_
              exact ⟨_, updL_self (by kernel_rfl), Tch.refl _ _⟩
            · replace hb37 : 0 < kk := (of_decide_eq_true hb37)
              refine seg4 (ρ' := upd (upd (upd (upd (upd (upd (upd (updL ρ [(0, .slice L mm cl), (1, .slice TL mt tc), (4, .bool false), (5, .pointer (some ⟨p7, 0, none⟩)), (6, .slice A k cp), (7, .slice A2 k2 cp2), (8, .slice A3 k cp3), (9, .int .i64 ((i : Nat) : Int)), (10, .pointer (some ⟨w9.heap.size, 0, none⟩)), (11, .int .i64 kk), (12, .int .i64 a24), (13, .int .i64 a29), (14, .int .i64 a34), (34, .bool (decide (((i : Nat) : Int) < (mm : Int))))]) 58 (.int .i64 kk)) 59 (.bool true)) 60 (.bool true)) 61 (.int .i64 kk)) 62 (.bool (decide (kk < 6)))) 63 (.bool (decide (kk < 6)))) 64 (.bool (decide (kk < 6)))) (by kernel_rfl) ?_
              cases hb38 : decide (kk < 6)
              · replace hb38 : 6 ≤ kk := (Int.not_lt.1 (of_decide_eq_false hb38))
                refine seg20 (ρ' := upd (upd (upd (upd (upd (upd (upd (upd (upd (upd (upd (upd (upd (upd (upd (upd (upd (upd (upd (upd (upd (upd (upd (upd (upd (upd (upd (updL ρ [(0, .slice L mm cl), (1, .slice TL mt tc), (4, .bool false), (5, .pointer (some ⟨p7, 0, none⟩)), (6, .slice A k cp), (7, .slice A2 k2 cp2), (8, .slice A3 k cp3), (9, .int .i64 ((i : Nat) : Int)), (10, .pointer (some ⟨w9.heap.size, 0, none⟩)), (11, .int .i64 kk), (12, .int .i64 a24), (13, .int .i64 a29), (14, .int .i64 a34), (34, .bool (decide (((i : Nat) : Int) < (mm : Int))))]) 58 (.int .i64 kk)) 59 (.bool true)) 60 (.bool true)) 61 (.int .i64 kk)) 62 (.bool false)) 63 (.bool false)) 64 (.bool false)) 65 (undef)) 66 (undef)) 67 (undef)) 68 (undef)) 69 (undef)) 70 (undef)) 71 (undef)) 72 (undef)) 73 (undef)) 74 (undef)) 75 (undef)) 76 (undef)) 77 (undef)) 78 (undef)) 79 (undef)) 80 (undef)) 81 (undef)) 82 (undef)) 83 (undef)) 84 (.bool false)) (by kernel_rfl) ?_
                refine op_nil ?_
                exact ⟨_, updL_self (by kernel_rfl), Tch.refl _ _⟩
              · replace hb38 : kk < 6 := (of_decide_eq_true hb38)
                refine seg4 (ρ' := upd (upd (upd (upd (upd (upd (upd (upd (upd (upd (upd (updL ρ [(0, .slice L mm cl), (1, .slice TL mt tc), (4, .bool false), (5, .pointer (some ⟨p7, 0, none⟩)), (6, .slice A k cp), (7, .slice A2 k2 cp2), (8, .slice A3 k cp3), (9, .int .i64 ((i : Nat) : Int)), (10, .pointer (some ⟨w9.heap.size, 0, none⟩)), (11, .int .i64 kk), (12, .int .i64 a24), (13, .int .i64 a29), (14, .int .i64 a34), (34, .bool (decide (((i : Nat) : Int) < (mm : Int))))]) 58 (.int .i64 kk)) 59 (.bool true)) 60 (.bool true)) 61 (.int .i64 kk)) 62 (.bool true)) 63 (.bool true)) 64 (.bool true)) 65 (.slice A k cp)) 66 (.int .i64 (k : Int))) 67 (.bool ((k : Int) == 0))) 68 (.bool ((k : Int) == 0))) (by kernel_rfl) ?_
                cases hb39 : (k : Int) == 0
                · replace hb39 : (k : Int) ≠ 0 := (ne_of_beq_false hb39)
                  refine seg4 (ρ' := upd (upd (upd (upd (upd (upd (upd (upd (upd (upd (upd (upd (upd (upd (upd (updL ρ [(0, .slice L mm cl), (1, .slice TL mt tc), (4, .bool false), (5, .pointer (some ⟨p7, 0, none⟩)), (6, .slice A k cp), (7, .slice A2 k2 cp2), (8, .slice A3 k cp3), (9, .int .i64 ((i : Nat) : Int)), (10, .pointer (some ⟨w9.heap.size, 0, none⟩)), (11, .int .i64 kk), (12, .int .i64 a24), (13, .int .i64 a29), (14, .int .i64 a34), (34, .bool (decide (((i : Nat) : Int) < (mm : Int))))]) 58 (.int .i64 kk)) 59 (.bool true)) 60 (.bool true)) 61 (.int .i64 kk)) 62 (.bool true)) 63 (.bool true)) 64 (.bool true)) 65 (.slice A k cp)) 66 (.int .i64 (k : Int))) 67 (.bool false)) 68 (.bool false)) 69 (.int .i64 a24)) 70 (.bool (decide (a24 < 0)))) 71 (.bool (decide (a24 < 0)))) 72 (.bool (decide (a24 < 0)))) (by kernel_rfl) ?_
                  cases hb40 : decide (a24 < 0)
                  · replace hb40 : 0 ≤ a24 := (Int.not_lt.1 (of_decide_eq_false hb40))
                    refine seg4 (ρ' := upd (upd (upd (upd (upd (upd (upd (upd (upd (upd (upd (upd (upd (upd (upd (upd (upd (upd (upd (updL ρ [(0, .slice L mm cl), (1, .slice TL mt tc), (4, .bool false), (5, .pointer (some ⟨p7, 0, none⟩)), (6, .slice A k cp), (7, .slice A2 k2 cp2), (8, .slice A3 k cp3), (9, .int .i64 ((i : Nat) : Int)), (10, .pointer (some ⟨w9.heap.size, 0, none⟩)), (11, .int .i64 kk), (12, .int .i64 a24), (13, .int .i64 a29), (14, .int .i64 a34), (34, .bool (decide (((i : Nat) : Int) < (mm : Int))))]) 58 (.int .i64 kk)) 59 (.bool true)) 60 (.bool true)) 61 (.int .i64 kk)) 62 (.bool true)) 63 (.bool true)) 64 (.bool true)) 65 (.slice A k cp)) 66 (.int .i64 (k : Int))) 67 (.bool false)) 68 (.bool false)) 69 (.int .i64 a24)) 70 (.bool false)) 71 (.bool false)) 72 (.bool false)) 73 (.int .i64 a29)) 74 (.bool (decide (a29 < 0)))) 75 (.bool (decide (a29 < 0)))) 76 (.bool (decide (a29 < 0)))) (by kernel_rfl) ?_
                    cases hb41 : decide (a29 < 0)
                    · replace hb41 : 0 ≤ a29 := (Int.not_lt.1 (of_decide_eq_false hb41))
                      refine seg3 (ρ' := upd (upd (upd (upd (upd (upd (upd (upd (upd (upd (upd (upd (upd (upd (upd (upd (upd (upd (upd (upd (upd (upd (updL ρ [(0, .slice L mm cl), (1, .slice TL mt tc), (4, .bool false), (5, .pointer (some ⟨p7, 0, none⟩)), (6, .slice A k cp), (7, .slice A2 k2 cp2), (8, .slice A3 k cp3), (9, .int .i64 ((i : Nat) : Int)), (10, .pointer (some ⟨w9.heap.size, 0, none⟩)), (11, .int .i64 kk), (12, .int .i64 a24), (13, .int .i64 a29), (14, .int .i64 a34), (34, .bool (decide (((i : Nat) : Int) < (mm : Int))))]) 58 (.int .i64 kk)) 59 (.bool true)) 60 (.bool true)) 61 (.int .i64 kk)) 62 (.bool true)) 63 (.bool true)) 64 (.bool true)) 65 (.slice A k cp)) 66 (.int .i64 (k : Int))) 67 (.bool false)) 68 (.bool false)) 69 (.int .i64 a24)) 70 (.bool false)) 71 (.bool false)) 72 (.bool false)) 73 (.int .i64 a29)) 74 (.bool false)) 75 (.bool false)) 76 (.bool false)) 77 (.int .i64 kk)) 78 (.bool (decide (kk > 3)))) 79 (.bool (decide (kk > 3)))) (by kernel_rfl) ?_
                      cases hb42 : decide (kk > 3)
                      · replace hb42 : kk ≤ 3 := (Int.not_lt.1 (of_decide_eq_false hb42))
                        refine seg5 (ρ' := upd (upd (upd (upd (upd (upd (upd (upd (upd (upd (upd (upd (upd (upd (upd (upd (upd (upd (upd (upd (upd (upd (upd (upd (upd (upd (upd (updL ρ [(0, .slice L mm cl), (1, .slice TL mt tc), (4, .bool false), (5, .pointer (some ⟨p7, 0, none⟩)), (6, .slice A k cp), (7, .slice A2 k2 cp2), (8, .slice A3 k cp3), (9, .int .i64 ((i : Nat) : Int)), (10, .pointer (some ⟨w9.heap.size, 0, none⟩)), (11, .int .i64 kk), (12, .int .i64 a24), (13, .int .i64 a29), (14, .int .i64 a34), (34, .bool (decide (((i : Nat) : Int) < (mm : Int))))]) 58 (.int .i64 kk)) 59 (.bool true)) 60 (.bool true)) 61 (.int .i64 kk)) 62 (.bool true)) 63 (.bool true)) 64 (.bool true)) 65 (.slice A k cp)) 66 (.int .i64 (k : Int))) 67 (.bool false)) 68 (.bool false)) 69 (.int .i64 a24)) 70 (.bool false)) 71 (.bool false)) 72 (.bool false)) 73 (.int .i64 a29)) 74 (.bool false)) 75 (.bool false)) 76 (.bool false)) 77 (.int .i64 kk)) 78 (.bool false)) 79 (.bool false)) 80 (undef)) 81 (undef)) 82 (.bool false)) 83 (.bool false)) 84 (.bool false)) (by kernel_rfl) ?_
                        refine op_nil ?_
                        exact ⟨_, updL_self (by kernel_rfl), Tch.refl _ _⟩
                      · replace hb42 : 3 < kk := (of_decide_eq_true hb42)
                        refine seg5 (ρ' := upd (upd (upd (upd (upd (upd (upd (upd (upd (upd (upd (upd (upd (upd (upd (upd (upd (upd (upd (upd (upd (upd (upd (upd (upd (upd (upd (updL ρ [(0, .slice L mm cl), (1, .slice TL mt tc), (4, .bool false), (5, .pointer (some ⟨p7, 0, none⟩)), (6, .slice A k cp), (7, .slice A2 k2 cp2), (8, .slice A3 k cp3), (9, .int .i64 ((i : Nat) : Int)), (10, .pointer (some ⟨w9.heap.size, 0, none⟩)), (11, .int .i64 kk), (12, .int .i64 a24), (13, .int .i64 a29), (14, .int .i64 a34), (34, .bool (decide (((i : Nat) : Int) < (mm : Int))))]) 58 (.int .i64 kk)) 59 (.bool true)) 60 (.bool true)) 61 (.int .i64 kk)) 62 (.bool true)) 63 (.bool true)) 64 (.bool true)) 65 (.slice A k cp)) 66 (.int .i64 (k : Int))) 67 (.bool false)) 68 (.bool false)) 69 (.int .i64 a24)) 70 (.bool false)) 71 (.bool false)) 72 (.bool false)) 73 (.int .i64 a29)) 74 (.bool false)) 75 (.bool false)) 76 (.bool false)) 77 (.int .i64 kk)) 78 (.bool true)) 79 (.bool true)) 80 (.int .i64 a34)) 81 (.bool (decide (a34 < 0)))) 82 (.bool (decide (a34 < 0)))) 83 (.bool (decide (a34 < 0)))) 84 (.bool (decide (a34 < 0)))) (by kernel_rfl) ?_
                        refine op_nil ?_
                        exact ⟨_, updL_self (by kernel_rfl), Tch.refl _ _⟩
                    · replace hb41 : a29 < 0 := (of_decide_eq_true hb41)
                      refine seg8 (ρ' := upd (upd (upd (upd (upd (upd (upd (upd (upd (upd (upd (upd (upd (upd (upd (upd (upd (upd (upd (upd (upd (upd (upd (upd (upd (upd (upd (updL ρ [(0, .slice L mm cl), (1, .slice TL mt tc), (4, .bool false), (5, .pointer (some ⟨p7, 0, none⟩)), (6, .slice A k cp), (7, .slice A2 k2 cp2), (8, .slice A3 k cp3), (9, .int .i64 ((i : Nat) : Int)), (10, .pointer (some ⟨w9.heap.size, 0, none⟩)), (11, .int .i64 kk), (12, .int .i64 a24), (13, .int .i64 a29), (14, .int .i64 a34), (34, .bool (decide (((i : Nat) : Int) < (mm : Int))))]) 58 (.int .i64 kk)) 59 (.bool true)) 60 (.bool true)) 61 (.int .i64 kk)) 62 (.bool true)) 63 (.bool true)) 64 (.bool true)) 65 (.slice A k cp)) 66 (.int .i64 (k : Int))) 67 (.bool false)) 68 (.bool false)) 69 (.int .i64 a24)) 70 (.bool false)) 71 (.bool false)) 72 (.bool false)) 73 (.int .i64 a29)) 74 (.bool true)) 75 (.bool true)) 76 (.bool true)) 77 (undef)) 78 (undef)) 79 (undef)) 80 (undef)) 81 (undef)) 82 (undef)) 83 (.bool true)) 84 (.bool true)) (by kernel_rfl) ?_
                      refine op_nil ?_
                      exact ⟨_, updL_self (by kernel_rfl), Tch.refl _ _⟩
                  · replace hb40 : a24 < 0 := (of_decide_eq_true hb40)
                    refine seg12 (ρ' := upd (upd (upd (upd (upd (upd (upd (upd (upd (upd (upd (upd (upd (upd (upd (upd (upd (upd (upd (upd (upd (upd (upd (upd (upd (upd (upd (updL ρ [(0, .slice L mm cl), (1, .slice TL mt tc), (4, .bool false), (5, .pointer (some ⟨p7, 0, none⟩)), (6, .slice A k cp), (7, .slice A2 k2 cp2), (8, .slice A3 k cp3), (9, .int .i64 ((i : Nat) : Int)), (10, .pointer (some ⟨w9.heap.size, 0, none⟩)), (11, .int .i64 kk), (12, .int .i64 a24), (13, .int .i64 a29), (14, .int .i64 a34), (34, .bool (decide (((i : Nat) : Int) < (mm : Int))))]) 58 (.int .i64 kk)) 59 (.bool true)) 60 (.bool true)) 61 (.int .i64 kk)) 62 (.bool true)) 63 (.bool true)) 64 (.bool true)) 65 (.slice A k cp)) 66 (.int .i64 (k : Int))) 67 (.bool false)) 68 (.bool false)) 69 (.int .i64 a24)) 70 (.bool true)) 71 (.bool true)) 72 (.bool true)) 73 (undef)) 74 (undef)) 75 (.bool true)) 76 (.bool true)) 77 (undef)) 78 (undef)) 79 (undef)) 80 (undef)) 81 (undef)) 82 (undef)) 83 (.bool true)) 84 (.bool true)) (by kernel_rfl) ?_
                    refine op_nil ?_
                    exact ⟨_, updL_self (by kernel_rfl), Tch.refl _ _⟩
                · replace hb39 : (k : Int) = 0 := (eq_of_beq hb39)
                  refine seg16 (ρ' := upd (upd (upd (upd (upd (upd (upd (upd (upd (upd (upd (upd (upd (upd (upd (upd (upd (upd (upd (upd (upd (upd (upd (upd (upd (upd (upd (updL ρ [(0, .slice L mm cl), (1, .slice TL mt tc), (4, .bool false), (5, .pointer (some ⟨p7, 0, none⟩)), (6, .slice A k cp), (7, .slice A2 k2 cp2), (8, .slice A3 k cp3), (9, .int .i64 ((i : Nat) : Int)), (10, .pointer (some ⟨w9.heap.size, 0, none⟩)), (11, .int .i64 kk), (12, .int .i64 a24), (13, .int .i64 a29), (14, .int .i64 a34), (34, .bool (decide (((i : Nat) : Int) < (mm : Int))))]) 58 (.int .i64 kk)) 59 (.bool true)) 60 (.bool true)) 61 (.int .i64 kk)) 62 (.bool true)) 63 (.bool true)) 64 (.bool true)) 65 (.slice A k cp)) 66 (.int .i64 (k : Int))) 67 (.bool true)) 68 (.bool true)) 69 (undef)) 70 (undef)) 71 (.bool true)) 72 (.bool true)) 73 (undef)) 74 (undef)) 75 (.bool true)) 76 (.bool true)) 77 (undef)) 78 (undef)) 79 (undef)) 80 (undef)) 81 (undef)) 82 (undef)) 83 (.bool true)) 84 (.bool true)) (by kernel_rfl) ?_
                  refine op_nil ?_
                  exact ⟨_, updL_self (by kernel_rfl), Tch.refl _ _⟩
          · rintro _ w43 ⟨ρ, rfl, hT44⟩
            have hT0 := hT0.t0 hT44
            have hG := hG.tch0 hT44
            have hTo := hTo.tch0 hT44
            have hIn := hIn.tch0 hT44
            have hAr := hAr.tch0 hT44
            have hLc := hL.tch0 hT0
            have hB14 := hB14.tch0 hT44
            refine W_cond ((((decide (kk > 0)) && (decide (kk < 6))) && (((((k : Int) == 0) || (decide (a24 < 0))) || (decide (a29 < 0))) || ((decide (kk > 3)) && (decide (a34 < 0)))))) (by kernel_rfl) (by kernel_rfl) (fun hc45 => ?_) (fun hc45 => ?_)
            · replace hc45 : ((0 < kk) ∧ (kk < 6)) ∧ (((((k : Int) = 0) ∨ (a24 < 0)) ∨ (a29 < 0)) ∨ ((3 < kk) ∧ (a34 < 0))) := ⟨⟨(of_decide_eq_true (Bool.and_eq_true_iff.1 (Bool.and_eq_true_iff.1 hc45).1).1), (of_decide_eq_true (Bool.and_eq_true_iff.1 (Bool.and_eq_true_iff.1 hc45).1).2)⟩, (Bool.or_eq_true_iff.1 (Bool.and_eq_true_iff.1 hc45).2).imp (fun h => (Bool.or_eq_true_iff.1 h).imp (fun h => (Bool.or_eq_true_iff.1 h).imp (fun h => (eq_of_beq h)) (fun h => (of_decide_eq_true h))) (fun h => (of_decide_eq_true h))) (fun h => ⟨(of_decide_eq_true (Bool.and_eq_true_iff.1 h).1), (of_decide_eq_true (Bool.and_eq_true_iff.1 h).2)⟩)⟩
              refine W_exit ?_
              refine X_hit ?_
              refine W_region (by kernel_rfl) ?_
              refine seg2 (ρ' := upd (upd (updL ρ [(0, .slice L mm cl), (1, .slice TL mt tc), (4, .bool false), (5, .pointer (some ⟨p7, 0, none⟩)), (6, .slice A k cp), (7, .slice A2 k2 cp2), (8, .slice A3 k cp3), (9, .int .i64 ((i : Nat) : Int)), (10, .pointer (some ⟨w9.heap.size, 0, none⟩)), (11, .int .i64 kk), (12, .int .i64 a24), (13, .int .i64 a29), (14, .int .i64 a34), (34, .bool (decide (((i : Nat) : Int) < (mm : Int)))), (84, .bool (((decide (kk > 0)) && (decide (kk < 6))) && (((((k : Int) == 0) || (decide (a24 < 0))) || (decide (a29 < 0))) || ((decide (kk > 3)) && (decide (a34 < 0))))))]) 35 (.int .i64 ((i : Nat) : Int))) 36 (.int .i64 (IntKind.i64.wrap (((i : Nat) : Int) + 1)))) (by kernel_rfl) ?_
              rw [show IntKind.i64.wrap (((i : Nat) : Int) + 1) = ((i : Nat) : Int) + 1 from wrap_i64 (by omega) (by omega)]
              rw [show upd (upd (updL ρ [(0, .slice L mm cl), (1, .slice TL mt tc), (4, .bool false), (5, .pointer (some ⟨p7, 0, none⟩)), (6, .slice A k cp), (7, .slice A2 k2 cp2), (8, .slice A3 k cp3), (9, .int .i64 ((i : Nat) : Int)), (10, .pointer (some ⟨w9.heap.size, 0, none⟩)), (11, .int .i64 kk), (12, .int .i64 a24), (13, .int .i64 a29), (14, .int .i64 a34), (34, .bool (decide (((i : Nat) : Int) < (mm : Int)))), (84, .bool (((decide (kk > 0)) && (decide (kk < 6))) && (((((k : Int) == 0) || (decide (a24 < 0))) || (decide (a29 < 0))) || ((decide (kk > 3)) && (decide (a34 < 0))))))]) 35 (.int .i64 ((i : Nat) : Int))) 36 (.int .i64 (((i : Nat) : Int) + 1)) = upd (upd (updL ρ [(0, .slice L mm cl), (1, .slice TL mt tc), (4, .bool false), (5, .pointer (some ⟨p7, 0, none⟩)), (6, .slice A k cp), (7, .slice A2 k2 cp2), (8, .slice A3 k cp3), (9, .int .i64 ((i : Nat) : Int)), (10, .pointer (some ⟨w9.heap.size, 0, none⟩)), (11, .int .i64 kk), (12, .int .i64 a24), (13, .int .i64 a29), (14, .int .i64 a34), (34, .bool (decide (((i : Nat) : Int) < (mm : Int)))), (84, .bool (((decide (kk > 0)) && (decide (kk < 6))) && (((((k : Int) == 0) || (decide (a24 < 0))) || (decide (a29 < 0))) || ((decide (kk > 3)) && (decide (a34 < 0))))))]) 35 (.int .i64 ((i : Nat) : Int))) 36 (.int .i64 ((i + 1 : Nat) : Int)) from congrArg (fun z => upd (upd (updL ρ [(0, .slice L mm cl), (1, .slice TL mt tc), (4, .bool false), (5, .pointer (some ⟨p7, 0, none⟩)), (6, .slice A k cp), (7, .slice A2 k2 cp2), (8, .slice A3 k cp3), (9, .int .i64 ((i : Nat) : Int)), (10, .pointer (some ⟨w9.heap.size, 0, none⟩)), (11, .int .i64 kk), (12, .int .i64 a24), (13, .int .i64 a29), (14, .int .i64 a34), (34, .bool (decide (((i : Nat) : Int) < (mm : Int)))), (84, .bool (((decide (kk > 0)) && (decide (kk < 6))) && (((((k : Int) == 0) || (decide (a24 < 0))) || (decide (a29 < 0))) || ((decide (kk > 3)) && (decide (a34 < 0))))))]) 35 (.int .i64 ((i : Nat) : Int))) 36 (.int .i64 z)) (by omega)]
              refine seg1 (ρ' := upd (upd (upd (updL ρ [(0, .slice L mm cl), (1, .slice TL mt tc), (4, .bool false), (5, .pointer (some ⟨p7, 0, none⟩)), (6, .slice A k cp), (7, .slice A2 k2 cp2), (8, .slice A3 k cp3), (9, .int .i64 ((i : Nat) : Int)), (10, .pointer (some ⟨w9.heap.size, 0, none⟩)), (11, .int .i64 kk), (12, .int .i64 a24), (13, .int .i64 a29), (14, .int .i64 a34), (34, .bool (decide (((i : Nat) : Int) < (mm : Int)))), (84, .bool (((decide (kk > 0)) && (decide (kk < 6))) && (((((k : Int) == 0) || (decide (a24 < 0))) || (decide (a29 < 0))) || ((decide (kk > 3)) && (decide (a34 < 0))))))]) 35 (.int .i64 ((i : Nat) : Int))) 36 (.int .i64 ((i + 1 : Nat) : Int))) 9 (.int .i64 ((i + 1 : Nat) : Int))) (by kernel_rfl) ?_
              refine op_nil ?_
              refine ⟨_, ?_, F, n, cs, I, A, cp, told, k, A2, cp2, inp, k2, A3, cp3, ac, ds2, i + 1, _, updL_self (by kernel_rfl), ?_, ?_, ?_, ?_, hArg, hInp, hFb, nF_hTo, nB_hTo, nF_hIn, nB_hIn, nF_hAr, nB_hAr, dj_hTo_hIn, hT0, hG, hTo, hIn, hAr, hLc, rfl⟩
              · omega
              · omega
              · omega
              · omega
              · omega
            · replace hc45 : ((kk ≤ 0) ∨ (6 ≤ kk)) ∨ (((((k : Int) ≠ 0) ∧ (0 ≤ a24)) ∧ (0 ≤ a29)) ∧ ((kk ≤ 3) ∨ (0 ≤ a34))) := (Bool.and_eq_false_iff.1 hc45).imp (fun h => (Bool.and_eq_false_iff.1 h).imp (fun h => (Int.not_lt.1 (of_decide_eq_false h))) (fun h => (Int.not_lt.1 (of_decide_eq_false h)))) (fun h => ⟨⟨⟨(ne_of_beq_false (Bool.or_eq_false_iff.1 (Bool.or_eq_false_iff.1 (Bool.or_eq_false_iff.1 h).1).1).1), (Int.not_lt.1 (of_decide_eq_false (Bool.or_eq_false_iff.1 (Bool.or_eq_false_iff.1 (Bool.or_eq_false_iff.1 h).1).1).2))⟩, (Int.not_lt.1 (of_decide_eq_false (Bool.or_eq_false_iff.1 (Bool.or_eq_false_iff.1 h).1).2))⟩, (Bool.and_eq_false_iff.1 (Bool.or_eq_false_iff.1 h).2).imp (fun h => (Int.not_lt.1 (of_decide_eq_false h))) (fun h => (Int.not_lt.1 (of_decide_eq_false h)))⟩)
              refine W_skip ?_
              refine W_seq ?_
              refine W_region (by kernel_rfl) ?_
              refine seg1 (ρ' := upd (updL ρ [(0, .slice L mm cl), (1, .slice TL mt tc), (4, .bool false), (5, .pointer (some ⟨p7, 0, none⟩)), (6, .slice A k cp), (7, .slice A2 k2 cp2), (8, .slice A3 k cp3), (9, .int .i64 ((i : Nat) : Int)), (10, .pointer (some ⟨w9.heap.size, 0, none⟩)), (11, .int .i64 kk), (12, .int .i64 a24), (13, .int .i64 a29), (14, .int .i64 a34), (34, .bool (decide (((i : Nat) : Int) < (mm : Int)))), (84, .bool (((decide (kk > 0)) && (decide (kk < 6))) && (((((k : Int) == 0) || (decide (a24 < 0))) || (decide (a29 < 0))) || ((decide (kk > 3)) && (decide (a34 < 0))))))]) 85 (.pointer (some ⟨p7, 0, none⟩))) (by kernel_rfl) ?_
              refine st (by rfl) (S_call (args := [.pointer (some ⟨p7, 0, none⟩)]) (by kernel_rfl) (true_ok p7 _) ?_)
              rintro _ w46 ⟨rfl, hT47⟩
              have hT0 := hT0.t0 hT47
              have hG := hG.tch0 hT47
              have hTo := hTo.tch0 hT47
              have hIn := hIn.tch0 hT47
              have hAr := hAr.tch0 hT47
              have hLc := hL.tch0 hT0
              have hB14 := hB14.tch0 hT47
              refine seg1 (ρ' := upd (upd (upd (updL ρ [(0, .slice L mm cl), (1, .slice TL mt tc), (4, .bool false), (5, .pointer (some ⟨p7, 0, none⟩)), (6, .slice A k cp), (7, .slice A2 k2 cp2), (8, .slice A3 k cp3), (9, .int .i64 ((i : Nat) : Int)), (10, .pointer (some ⟨w9.heap.size, 0, none⟩)), (11, .int .i64 kk), (12, .int .i64 a24), (13, .int .i64 a29), (14, .int .i64 a34), (34, .bool (decide (((i : Nat) : Int) < (mm : Int)))), (84, .bool (((decide (kk > 0)) && (decide (kk < 6))) && (((((k : Int) == 0) || (decide (a24 < 0))) || (decide (a29 < 0))) || ((decide (kk > 3)) && (decide (a34 < 0))))))]) 85 (.pointer (some ⟨p7, 0, none⟩))) 86 (.int .i64 0)) 15 (.int .i64 0)) (by kernel_rfl) ?_
              refine op_nil ?_
              refine W_seq ?_
              refine W_seq ?_
              refine W_region (by kernel_rfl) ?_
              refine seg2 (ρ' := upd (upd (upd (upd (upd (updL ρ [(0, .slice L mm cl), (1, .slice TL mt tc), (4, .bool false), (5, .pointer (some ⟨p7, 0, none⟩)), (6, .slice A k cp), (7, .slice A2 k2 cp2), (8, .slice A3 k cp3), (9, .int .i64 ((i : Nat) : Int)), (10, .pointer (some ⟨w9.heap.size, 0, none⟩)), (11, .int .i64 kk), (12, .int .i64 a24), (13, .int .i64 a29), (14, .int .i64 a34), (34, .bool (decide (((i : Nat) : Int) < (mm : Int)))), (84, .bool (((decide (kk > 0)) && (decide (kk < 6))) && (((((k : Int) == 0) || (decide (a24 < 0))) || (decide (a29 < 0))) || ((decide (kk > 3)) && (decide (a34 < 0))))))]) 85 (.pointer (some ⟨p7, 0, none⟩))) 86 (.int .i64 0)) 15 (.int .i64 0)) 87 (.int .i64 kk)) 88 (.bool (kk == 0))) (by kernel_rfl) ?_
              refine op_nil ?_
              refine W_cond (kk == 0) (by kernel_rfl) (by kernel_rfl) (fun hc48 => ?_) (fun hc48 => ?_)
              · replace hc48 : kk = 0 := (eq_of_beq hc48)
                refine W_seq ?_
                refine W_region (by kernel_rfl) ?_
                refine seg1 (ρ' := upd (upd (upd (upd (upd (upd (updL ρ [(0, .slice L mm cl), (1, .slice TL mt tc), (4, .bool false), (5, .pointer (some ⟨p7, 0, none⟩)), (6, .slice A k cp), (7, .slice A2 k2 cp2), (8, .slice A3 k cp3), (9, .int .i64 ((i : Nat) : Int)), (10, .pointer (some ⟨w9.heap.size, 0, none⟩)), (11, .int .i64 kk), (12, .int .i64 a24), (13, .int .i64 a29), (14, .int .i64 a34), (34, .bool (decide (((i : Nat) : Int) < (mm : Int)))), (84, .bool (((decide (kk > 0)) && (decide (kk < 6))) && (((((k : Int) == 0) || (decide (a24 < 0))) || (decide (a29 < 0))) || ((decide (kk > 3)) && (decide (a34 < 0))))))]) 85 (.pointer (some ⟨p7, 0, none⟩))) 86 (.int .i64 0)) 15 (.int .i64 0)) 87 (.int .i64 kk)) 88 (.bool (kk == 0))) 89 (.pointer (some ⟨p7, 0, none⟩))) (by kernel_rfl) ?_
                have hz_ := hT0.size
                have lt51 := hB14.lt
                have lR_hTo := hTo.lt
                have lR_hIn := hIn.lt
                have lR_hAr := hAr.lt
                refine st (by rfl) (S_call (args := [.pointer (some ⟨p7, 0, none⟩)]) (by kernel_rfl) (input_ok F p7 n cs I _ hG (by omega)) ?_)
                rintro _ w49 ⟨rfl, hG, hm50⟩
                have hT0 := (hT0).then hm50.1 hFb
                have hTo := hTo.tch hm50.1 nF_hTo
                have hIn := hIn.tch hm50.1 nF_hIn
                have hAr := hAr.tch hm50.1 nF_hAr
                have hLc := hL.tch0 hT0
                have hB14 := hB14.tch hm50.1 nF_hB14
                replace nF_hB14 : ¬ F (w9.heap.size) := fun e => (hm50.2 _ e).elim nF_hB14 (fun q => by omega)
                replace nF_hTo : ∀ c, (Value.slice A (k) cp).ownBlock = some c → ¬ F c := fun c hc e => (hm50.2 c e).elim (nF_hTo c hc) (fun q => by have := lR_hTo c hc; omega)
                replace nF_hIn : ∀ c, (Value.slice A2 (k2) cp2).ownBlock = some c → ¬ F c := fun c hc e => (hm50.2 c e).elim (nF_hIn c hc) (fun q => by have := lR_hIn c hc; omega)
                replace nF_hAr : ∀ c, (Value.slice A3 (k) cp3).ownBlock = some c → ¬ F c := fun c hc e => (hm50.2 c e).elim (nF_hAr c hc) (fun q => by have := lR_hAr c hc; omega)
                replace hFb := hm50.ge hFb hz_
                refine seg1 (ρ' := upd (upd (upd (upd (upd (upd (upd (upd (updL ρ [(0, .slice L mm cl), (1, .slice TL mt tc), (4, .bool false), (5, .pointer (some ⟨p7, 0, none⟩)), (6, .slice A k cp), (7, .slice A2 k2 cp2), (8, .slice A3 k cp3), (9, .int .i64 ((i : Nat) : Int)), (10, .pointer (some ⟨w9.heap.size, 0, none⟩)), (11, .int .i64 kk), (12, .int .i64 a24), (13, .int .i64 a29), (14, .int .i64 a34), (34, .bool (decide (((i : Nat) : Int) < (mm : Int)))), (84, .bool (((decide (kk > 0)) && (decide (kk < 6))) && (((((k : Int) == 0) || (decide (a24 < 0))) || (decide (a29 < 0))) || ((decide (kk > 3)) && (decide (a34 < 0))))))]) 85 (.pointer (some ⟨p7, 0, none⟩))) 86 (.int .i64 0)) 15 (.int .i64 0)) 87 (.int .i64 kk)) 88 (.bool (kk == 0))) 89 (.pointer (some ⟨p7, 0, none⟩))) 90 (.int .i64 ((2 * n : Nat) : Int))) 15 (.int .i64 ((2 * n : Nat) : Int))) (by kernel_rfl) ?_
                refine op_nil ?_
                refine W_fg [(0, .slice L mm cl), (1, .slice TL mt tc), (4, .bool false), (5, .pointer (some ⟨p7, 0, none⟩)), (6, .slice A k cp), (7, .slice A2 k2 cp2), (8, .slice A3 k cp3), (9, .int .i64 ((i : Nat) : Int)), (10, .pointer (some ⟨w9.heap.size, 0, none⟩)), (11, .int .i64 kk), (12, .int .i64 a24), (13, .int .i64 a29), (14, .int .i64 a34), (15, .int .i64 ((2 * n : Nat) : Int)), (34, .bool (decide (((i : Nat) : Int) < (mm : Int)))), (84, .bool (((decide (kk > 0)) && (decide (kk < 6))) && (((((k : Int) == 0) || (decide (a24 < 0))) || (decide (a29 < 0))) || ((decide (kk > 3)) && (decide (a34 < 0)))))), (88, .bool (kk == 0))] (by kernel_rfl) fun ρ => ?_
                refine W_region (by kernel_rfl) ?_
                refine seg2 (ρ' := upd (upd (updL ρ [(0, .slice L mm cl), (1, .slice TL mt tc), (4, .bool false), (5, .pointer (some ⟨p7, 0, none⟩)), (6, .slice A k cp), (7, .slice A2 k2 cp2), (8, .slice A3 k cp3), (9, .int .i64 ((i : Nat) : Int)), (10, .pointer (some ⟨w9.heap.size, 0, none⟩)), (11, .int .i64 kk), (12, .int .i64 a24), (13, .int .i64 a29), (14, .int .i64 a34), (15, .int .i64 ((2 * n : Nat) : Int)), (34, .bool (decide (((i : Nat) : Int) < (mm : Int)))), (84, .bool (((decide (kk > 0)) && (decide (kk < 6))) && (((((k : Int) == 0) || (decide (a24 < 0))) || (decide (a29 < 0))) || ((decide (kk > 3)) && (decide (a34 < 0)))))), (88, .bool (kk == 0))]) 91 (.slice A2 k2 cp2)) 92 (.int .i64 ((2 * n : Nat) : Int))) (by kernel_rfl) ?_
                have hlt_ := hG.1.lt
                have z56 := hT0.size
                have l57 := hB14.lt
                refine st (by rfl) (S_new (v := .slice (some ⟨w49.heap.size, 0, none⟩) 1 1) (ob := .cells #[.int .i64 ((2 * n : Nat) : Int)] 3) (by kernel_rfl) fun w52 hT53 hs54 hB55 => ?_)
                replace hB55 : Blk w52 (w49.heap.size) 3 [.int .i64 ((2 * n : Nat) : Int)] := hB55
                have hT0 := hT0.t0 hT53
                have hG := hG.tch0 hT53
                have hTo := hTo.tch0 hT53
                have hIn := hIn.tch0 hT53
                have hAr := hAr.tch0 hT53
                have hLc := hL.tch0 hT0
                have hB14 := hB14.tch0 hT53
                have nF_hB55 : ¬ F (w49.heap.size) := fun e => by have := hlt_ _ e; omega
                have hz_ := hT0.size
                have hGl_ := hG.1.lt
                have lR_hTo := hTo.lt
                have lR_hIn := hIn.lt
                have lR_hAr := hAr.lt
                refine st (by rfl) (S_appendR 27 3 (.int .i64 0) 1 8 (n := k2) (m := 1) (A := A2) (cp := cp2) (cells := nats inp) (news := [.int .i64 ((2 * n : Nat) : Int)]) (b := w49.heap.size) (off := 0) (c := 1) (by kernel_rfl) (by kernel_rfl) (by decide) (by kernel_rfl) (by kernel_rfl) (by kernel_rfl) hIn (by rfl) (fun k u hk => by rw [Nat.zero_add, hB55.cell]; exact hk) (by simp [oneV]) (by simp only [maxLen]; omega) (by omega) fun A58 cp59 w60 hO61 hw62 hT63 => ?_)
                have hT0 := (hT0).then hT63 nB_hIn
                have hG := hG.tchS hT63 (fun c e => nF_hIn c e)
                have hTo := hTo.tch hT63 (fun c hc e => dj_hTo_hIn c hc e)
                have hAr := hAr.tch hT63 (fun c hc e => Own.ne_own hAr hIn (by decide) c hc e)
                have hLc := hL.tch0 hT0
                have hB14 := hB14.tch hT63 (fun e => hIn.blk_ne hB14 (by decide) _ e rfl)
                have hIn : Own w60 0 3 1 (.slice A58 (k2 + 1) cp59) (k2 + 1) (nats (inp ++ [2 * n])) := by rw [nats_append]; exact hO61
                have nF_hIn : ∀ c, (Value.slice A58 (k2 + 1) cp59).ownBlock = some c → ¬ F c := fun c hc => (hw62 c hc).elim (nF_hIn c) (fun q e => by have := hGl_ _ e; omega)
                have nB_hIn : ∀ c, (Value.slice A58 (k2 + 1) cp59).ownBlock = some c → w.heap.size ≤ c := fun c hc => (hw62 c hc).elim (nB_hIn c) (fun q => by omega)
                have dj_hTo_hIn : ∀ c, (Value.slice A (k) cp).ownBlock = some c → (Value.slice A58 (k2 + 1) cp59).ownBlock = some c → False := fun c h1 h2 => (hw62 c h2).elim (fun q => dj_hTo_hIn c h1 q) (fun q => by have := lR_hTo c h1; omega)
                refine seg1 (ρ' := upd (upd (upd (upd (upd (updL ρ [(0, .slice L mm cl), (1, .slice TL mt tc), (4, .bool false), (5, .pointer (some ⟨p7, 0, none⟩)), (6, .slice A k cp), (7, .slice A2 k2 cp2), (8, .slice A3 k cp3), (9, .int .i64 ((i : Nat) : Int)), (10, .pointer (some ⟨w9.heap.size, 0, none⟩)), (11, .int .i64 kk), (12, .int .i64 a24), (13, .int .i64 a29), (14, .int .i64 a34), (15, .int .i64 ((2 * n : Nat) : Int)), (34, .bool (decide (((i : Nat) : Int) < (mm : Int)))), (84, .bool (((decide (kk > 0)) && (decide (kk < 6))) && (((((k : Int) == 0) || (decide (a24 < 0))) || (decide (a29 < 0))) || ((decide (kk > 3)) && (decide (a34 < 0)))))), (88, .bool (kk == 0))]) 91 (.slice A2 k2 cp2)) 92 (.int .i64 ((2 * n : Nat) : Int))) 93 (.slice (some ⟨w49.heap.size, 0, none⟩) 1 1)) 94 (.slice A58 (k2 + 1) cp59)) 7 (.slice A58 (k2 + 1) cp59)) (by kernel_rfl) ?_
                refine op_nil ?_
                refine W_seq ?_
                refine W_seq ?_
                refine W_rcut (C := fun ρ' w' => ∃  (ρ0 : Env), ρ' = updL ρ0 [(0, .slice L mm cl), (1, .slice TL mt tc), (4, .bool false), (5, .pointer (some ⟨p7, 0, none⟩)), (6, .slice A k cp), (7, .slice A58 (k2 + 1) cp59), (8, .slice A3 k cp3), (9, .int .i64 ((i : Nat) : Int)), (10, .pointer (some ⟨w9.heap.size, 0, none⟩)), (11, .int .i64 kk), (12, .int .i64 a24), (13, .int .i64 a29), (14, .int .i64 a34), (15, .int .i64 ((2 * n : Nat) : Int)), (34, .bool (decide (((i : Nat) : Int) < (mm : Int)))), (84, .bool (((decide (kk > 0)) && (decide (kk < 6))) && (((((k : Int) == 0) || (decide (a24 < 0))) || (decide (a29 < 0))) || ((decide (kk > 3)) && (decide (a34 < 0)))))), (88, .bool (kk == 0)), (100, .bool ((decide (kk > 0)) && (decide (kk < 6))))] ∧ Tch N0 w60 w') ?_ ?_
                · refine W_region (by kernel_rfl) ?_
                  refine seg3 (ρ' := upd (upd (upd (upd (upd (upd (upd (upd (updL ρ [(0, .slice L mm cl), (1, .slice TL mt tc), (4, .bool false), (5, .pointer (some ⟨p7, 0, none⟩)), (6, .slice A k cp), (7, .slice A2 k2 cp2), (8, .slice A3 k cp3), (9, .int .i64 ((i : Nat) : Int)), (10, .pointer (some ⟨w9.heap.size, 0, none⟩)), (11, .int .i64 kk), (12, .int .i64 a24), (13, .int .i64 a29), (14, .int .i64 a34), (15, .int .i64 ((2 * n : Nat) : Int)), (34, .bool (decide (((i : Nat) : Int) < (mm : Int)))), (84, .bool (((decide (kk > 0)) && (decide (kk < 6))) && (((((k : Int) == 0) || (decide (a24 < 0))) || (decide (a29 < 0))) || ((decide (kk > 3)) && (decide (a34 < 0)))))), (88, .bool (kk == 0))]) 91 (.slice A2 k2 cp2)) 92 (.int .i64 ((2 * n : Nat) : Int))) 93 (.slice (some ⟨w49.heap.size, 0, none⟩) 1 1)) 94 (.slice A58 (k2 + 1) cp59)) 7 (.slice A58 (k2 + 1) cp59)) 95 (.int .i64 kk)) 96 (.bool (decide (kk > 0)))) 97 (.bool (decide (kk > 0)))) (by kernel_rfl) ?_
                  cases hb64 : decide (kk > 0)
                  · replace hb64 : kk ≤ 0 := (Int.not_lt.1 (of_decide_eq_false hb64))
                    refine seg3 (ρ' := upd (upd (upd (upd (upd (upd (upd (upd (upd (upd (upd (updL ρ [(0, .slice L mm cl), (1, .slice TL mt tc), (4, .bool false), (5, .pointer (some ⟨p7, 0, none⟩)), (6, .slice A k cp), (7, .slice A2 k2 cp2), (8, .slice A3 k cp3), (9, .int .i64 ((i : Nat) : Int)), (10, .pointer (some ⟨w9.heap.size, 0, none⟩)), (11, .int .i64 kk), (12, .int .i64 a24), (13, .int .i64 a29), (14, .int .i64 a34), (15, .int .i64 ((2 * n : Nat) : Int)), (34, .bool (decide (((i : Nat) : Int) < (mm : Int)))), (84, .bool (((false) && (decide (kk < 6))) && (((((k : Int) == 0) || (decide (a24 < 0))) || (decide (a29 < 0))) || ((decide (kk > 3)) && (decide (a34 < 0)))))), (88, .bool (kk == 0))]) 91 (.slice A2 k2 cp2)) 92 (.int .i64 ((2 * n : Nat) : Int))) 93 (.slice (some ⟨w49.heap.size, 0, none⟩) 1 1)) 94 (.slice A58 (k2 + 1) cp59)) 7 (.slice A58 (k2 + 1) cp59)) 95 (.int .i64 kk)) 96 (.bool false)) 97 (.bool false)) 98 (undef)) 99 (undef)) 100 (.bool false)) (by kernel_rfl) ?_
                    refine op_nil ?_
                    exact ⟨_, updL_self (by kernel_rfl), Tch.refl _ _⟩
                  · replace hb64 : 0 < kk := (of_decide_eq_true hb64)
                    refine seg3 (ρ' := upd (upd (upd (upd (upd (upd (upd (upd (upd (upd (upd (updL ρ [(0, .slice L mm cl), (1, .slice TL mt tc), (4, .bool false), (5, .pointer (some ⟨p7, 0, none⟩)), (6, .slice A k cp), (7, .slice A2 k2 cp2), (8, .slice A3 k cp3), (9, .int .i64 ((i : Nat) : Int)), (10, .pointer (some ⟨w9.heap.size, 0, none⟩)), (11, .int .i64 kk), (12, .int .i64 a24), (13, .int .i64 a29), (14, .int .i64 a34), (15, .int .i64 ((2 * n : Nat) : Int)), (34, .bool (decide (((i : Nat) : Int) < (mm : Int)))), (84, .bool (((true) && (decide (kk < 6))) && (((((k : Int) == 0) || (decide (a24 < 0))) || (decide (a29 < 0))) || ((decide (kk > 3)) && (decide (a34 < 0)))))), (88, .bool (kk == 0))]) 91 (.slice A2 k2 cp2)) 92 (.int .i64 ((2 * n : Nat) : Int))) 93 (.slice (some ⟨w49.heap.size, 0, none⟩) 1 1)) 94 (.slice A58 (k2 + 1) cp59)) 7 (.slice A58 (k2 + 1) cp59)) 95 (.int .i64 kk)) 96 (.bool true)) 97 (.bool true)) 98 (.int .i64 kk)) 99 (.bool (decide (kk < 6)))) 100 (.bool (decide (kk < 6)))) (by kernel_rfl) ?_
                    refine op_nil ?_
                    exact ⟨_, updL_self (by kernel_rfl), Tch.refl _ _⟩
                · rintro _ w65 ⟨ρ, rfl, hT66⟩
                  have hT0 := hT0.t0 hT66
                  have hG := hG.tch0 hT66
                  have hTo := hTo.tch0 hT66
                  have hIn := hIn.tch0 hT66
                  have hAr := hAr.tch0 hT66
                  have hLc := hL.tch0 hT0
                  have hB14 := hB14.tch0 hT66
                  refine W_cond (((decide (kk > 0)) && (decide (kk < 6)))) (by kernel_rfl) (by kernel_rfl) (fun hc67 => ?_) (fun hc67 => ?_)
                  · replace hc67 : (0 < kk) ∧ (kk < 6) := ⟨(of_decide_eq_true (Bool.and_eq_true_iff.1 hc67).1), (of_decide_eq_true (Bool.and_eq_true_iff.1 hc67).2)⟩
                    exfalso; omega
                  · replace hc67 : (kk ≤ 0) ∨ (6 ≤ kk) := (Bool.and_eq_false_iff.1 hc67).imp (fun h => (Int.not_lt.1 (of_decide_eq_false h))) (fun h => (Int.not_lt.1 (of_decide_eq_false h)))
                    refine W_skip ?_
                    refine W_seq ?_
                    refine W_region (by kernel_rfl) ?_
                    refine seg2 (ρ' := upd (upd (updL ρ [(0, .slice L mm cl), (1, .slice TL mt tc), (4, .bool false), (5, .pointer (some ⟨p7, 0, none⟩)), (6, .slice A k cp), (7, .slice A58 (k2 + 1) cp59), (8, .slice A3 k cp3), (9, .int .i64 ((i : Nat) : Int)), (10, .pointer (some ⟨w9.heap.size, 0, none⟩)), (11, .int .i64 kk), (12, .int .i64 a24), (13, .int .i64 a29), (14, .int .i64 a34), (15, .int .i64 ((2 * n : Nat) : Int)), (34, .bool (decide (((i : Nat) : Int) < (mm : Int)))), (84, .bool (((decide (kk > 0)) && (decide (kk < 6))) && (((((k : Int) == 0) || (decide (a24 < 0))) || (decide (a29 < 0))) || ((decide (kk > 3)) && (decide (a34 < 0)))))), (88, .bool (kk == 0)), (100, .bool ((decide (kk > 0)) && (decide (kk < 6))))]) 107 (.slice A k cp)) 108 (.int .i64 ((2 * n : Nat) : Int))) (by kernel_rfl) ?_
                    have hlt_ := hG.1.lt
                    have z72 := hT0.size
                    have l73 := hB14.lt
                    refine st (by rfl) (S_new (v := .slice (some ⟨w65.heap.size, 0, none⟩) 1 1) (ob := .cells #[.int .i64 ((2 * n : Nat) : Int)] 3) (by kernel_rfl) fun w68 hT69 hs70 hB71 => ?_)
                    replace hB71 : Blk w68 (w65.heap.size) 3 [.int .i64 ((2 * n : Nat) : Int)] := hB71
                    have hT0 := hT0.t0 hT69
                    have hG := hG.tch0 hT69
                    have hTo := hTo.tch0 hT69
                    have hIn := hIn.tch0 hT69
                    have hAr := hAr.tch0 hT69
                    have hLc := hL.tch0 hT0
                    have hB14 := hB14.tch0 hT69
                    have nF_hB71 : ¬ F (w65.heap.size) := fun e => by have := hlt_ _ e; omega
                    have hz_ := hT0.size
                    have hGl_ := hG.1.lt
                    have lR_hTo := hTo.lt
                    have lR_hIn := hIn.lt
                    have lR_hAr := hAr.lt
                    refine st (by rfl) (S_appendR 27 3 (.int .i64 0) 1 8 (n := k) (m := 1) (A := A) (cp := cp) (cells := nats told) (news := [.int .i64 ((2 * n : Nat) : Int)]) (b := w65.heap.size) (off := 0) (c := 1) (by kernel_rfl) (by kernel_rfl) (by decide) (by kernel_rfl) (by kernel_rfl) (by kernel_rfl) hTo (by rfl) (fun k u hk => by rw [Nat.zero_add, hB71.cell]; exact hk) (by simp [oneV]) (by simp only [maxLen]; omega) (by omega) fun A74 cp75 w76 hO77 hw78 hT79 => ?_)
                    have hT0 := (hT0).then hT79 nB_hTo
                    have hG := hG.tchS hT79 (fun c e => nF_hTo c e)
                    have hIn := hIn.tch hT79 (fun c hc e => dj_hTo_hIn c e hc)
                    have hAr := hAr.tch hT79 (fun c hc e => Own.ne_own hAr hTo (by decide) c hc e)
                    have hLc := hL.tch0 hT0
                    have hB14 := hB14.tch hT79 (fun e => hTo.blk_ne hB14 (by decide) _ e rfl)
                    have hTo : Own w76 0 3 1 (.slice A74 (k + 1) cp75) (k + 1) (nats (told ++ [2 * n])) := by rw [nats_append]; exact hO77
                    have nF_hTo : ∀ c, (Value.slice A74 (k + 1) cp75).ownBlock = some c → ¬ F c := fun c hc => (hw78 c hc).elim (nF_hTo c) (fun q e => by have := hGl_ _ e; omega)
                    have nB_hTo : ∀ c, (Value.slice A74 (k + 1) cp75).ownBlock = some c → w.heap.size ≤ c := fun c hc => (hw78 c hc).elim (nB_hTo c) (fun q => by omega)
                    have dj_hTo_hIn : ∀ c, (Value.slice A74 (k + 1) cp75).ownBlock = some c → (Value.slice A58 (k2 + 1) cp59).ownBlock = some c → False := fun c h1 h2 => (hw78 c h1).elim (fun q => dj_hTo_hIn c q h2) (fun q => by have := lR_hIn c h2; omega)
                    refine seg1 (ρ' := upd (upd (upd (upd (upd (updL ρ [(0, .slice L mm cl), (1, .slice TL mt tc), (4, .bool false), (5, .pointer (some ⟨p7, 0, none⟩)), (6, .slice A k cp), (7, .slice A58 (k2 + 1) cp59), (8, .slice A3 k cp3), (9, .int .i64 ((i : Nat) : Int)), (10, .pointer (some ⟨w9.heap.size, 0, none⟩)), (11, .int .i64 kk), (12, .int .i64 a24), (13, .int .i64 a29), (14, .int .i64 a34), (15, .int .i64 ((2 * n : Nat) : Int)), (34, .bool (decide (((i : Nat) : Int) < (mm : Int)))), (84, .bool (((decide (kk > 0)) && (decide (kk < 6))) && (((((k : Int) == 0) || (decide (a24 < 0))) || (decide (a29 < 0))) || ((decide (kk > 3)) && (decide (a34 < 0)))))), (88, .bool (kk == 0)), (100, .bool ((decide (kk > 0)) && (decide (kk < 6))))]) 107 (.slice A k cp)) 108 (.int .i64 ((2 * n : Nat) : Int))) 109 (.slice (some ⟨w65.heap.size, 0, none⟩) 1 1)) 110 (.slice A74 (k + 1) cp75)) 6 (.slice A74 (k + 1) cp75)) (by kernel_rfl) ?_
                    refine op_nil ?_
                    refine W_region (by kernel_rfl) ?_
                    refine seg6 (ρ' := upd (upd (upd (upd (upd (upd (upd (upd (upd (upd (upd (updL ρ [(0, .slice L mm cl), (1, .slice TL mt tc), (4, .bool false), (5, .pointer (some ⟨p7, 0, none⟩)), (6, .slice A k cp), (7, .slice A58 (k2 + 1) cp59), (8, .slice A3 k cp3), (9, .int .i64 ((i : Nat) : Int)), (10, .pointer (some ⟨w9.heap.size, 0, none⟩)), (11, .int .i64 kk), (12, .int .i64 a24), (13, .int .i64 a29), (14, .int .i64 a34), (15, .int .i64 ((2 * n : Nat) : Int)), (34, .bool (decide (((i : Nat) : Int) < (mm : Int)))), (84, .bool (((decide (kk > 0)) && (decide (kk < 6))) && (((((k : Int) == 0) || (decide (a24 < 0))) || (decide (a29 < 0))) || ((decide (kk > 3)) && (decide (a34 < 0)))))), (88, .bool (kk == 0)), (100, .bool ((decide (kk > 0)) && (decide (kk < 6))))]) 107 (.slice A k cp)) 108 (.int .i64 ((2 * n : Nat) : Int))) 109 (.slice (some ⟨w65.heap.size, 0, none⟩) 1 1)) 110 (.slice A74 (k + 1) cp75)) 6 (.slice A74 (k + 1) cp75)) 111 (.slice A3 k cp3)) 112 (.int .i64 kk)) 113 (.int .i64 a24)) 114 (.int .i64 a29)) 115 (.int .i64 a34)) 116 (.agg #[.int .i64 kk, .int .i64 a24, .int .i64 a29, .int .i64 a34])) (by kernel_rfl) ?_
                    have hlt_ := hG.1.lt
                    have z84 := hT0.size
                    have l85 := hB14.lt
                    refine st (by rfl) (S_new (v := .slice (some ⟨w76.heap.size, 0, none⟩) 1 1) (ob := .cells #[.int .i64 kk, .int .i64 a24, .int .i64 a29, .int .i64 a34] 34) (by kernel_rfl) fun w80 hT81 hs82 hB83 => ?_)
                    replace hB83 : Blk w80 (w76.heap.size) 34 [.int .i64 kk, .int .i64 a24, .int .i64 a29, .int .i64 a34] := hB83
                    have hT0 := hT0.t0 hT81
                    have hG := hG.tch0 hT81
                    have hTo := hTo.tch0 hT81
                    have hIn := hIn.tch0 hT81
                    have hAr := hAr.tch0 hT81
                    have hLc := hL.tch0 hT0
                    have hB14 := hB14.tch0 hT81
                    have nF_hB83 : ¬ F (w76.heap.size) := fun e => by have := hlt_ _ e; omega
                    have hz_ := hT0.size
                    have hGl_ := hG.1.lt
                    have lR_hTo := hTo.lt
                    have lR_hIn := hIn.lt
                    have lR_hAr := hAr.lt
                    refine st (by rfl) (S_appendR 28 34 (.agg #[.int .i64 0, .int .i64 0, .int .i64 0, .int .i64 0]) 4 32 (n := k) (m := 1) (A := A3) (cp := cp3) (cells := ac) (news := [.int .i64 kk, .int .i64 a24, .int .i64 a29, .int .i64 a34]) (b := w76.heap.size) (off := 0) (c := 1) (by kernel_rfl) (by kernel_rfl) (by decide) (by kernel_rfl) (by kernel_rfl) (by kernel_rfl) hAr (by rfl) (fun k u hk => by rw [Nat.zero_add, hB83.cell]; exact hk) (by simp [oneV]) (by simp only [maxLen]; omega) (by omega) fun A86 cp87 w88 hO89 hw90 hT91 => ?_)
                    have hT0 := (hT0).then hT91 nB_hAr
                    have hG := hG.tchS hT91 (fun c e => nF_hAr c e)
                    have hTo := hTo.tch hT91 (fun c hc e => Own.ne_own hTo hAr (by decide) c hc e)
                    have hIn := hIn.tch hT91 (fun c hc e => Own.ne_own hIn hAr (by decide) c hc e)
                    have hLc := hL.tch0 hT0
                    have hB14 := hB14.tch hT91 (fun e => hAr.blk_ne hB14 (by decide) _ e rfl)
                    have hAr : Own w88 0 34 4 (.slice A86 (k + 1) cp87) (k + 1) (ac ++ [.int .i64 kk, .int .i64 a24, .int .i64 a29, .int .i64 a34]) := hO89
                    have nF_hAr : ∀ c, (Value.slice A86 (k + 1) cp87).ownBlock = some c → ¬ F c := fun c hc => (hw90 c hc).elim (nF_hAr c) (fun q e => by have := hGl_ _ e; omega)
                    have nB_hAr : ∀ c, (Value.slice A86 (k + 1) cp87).ownBlock = some c → w.heap.size ≤ c := fun c hc => (hw90 c hc).elim (nB_hAr c) (fun q => by omega)
                    refine seg1 (ρ' := upd (upd (upd (upd (upd (upd (upd (upd (upd (upd (upd (upd (upd (upd (updL ρ [(0, .slice L mm cl), (1, .slice TL mt tc), (4, .bool false), (5, .pointer (some ⟨p7, 0, none⟩)), (6, .slice A k cp), (7, .slice A58 (k2 + 1) cp59), (8, .slice A3 k cp3), (9, .int .i64 ((i : Nat) : Int)), (10, .pointer (some ⟨w9.heap.size, 0, none⟩)), (11, .int .i64 kk), (12, .int .i64 a24), (13, .int .i64 a29), (14, .int .i64 a34), (15, .int .i64 ((2 * n : Nat) : Int)), (34, .bool (decide (((i : Nat) : Int) < (mm : Int)))), (84, .bool (((decide (kk > 0)) && (decide (kk < 6))) && (((((k : Int) == 0) || (decide (a24 < 0))) || (decide (a29 < 0))) || ((decide (kk > 3)) && (decide (a34 < 0)))))), (88, .bool (kk == 0)), (100, .bool ((decide (kk > 0)) && (decide (kk < 6))))]) 107 (.slice A k cp)) 108 (.int .i64 ((2 * n : Nat) : Int))) 109 (.slice (some ⟨w65.heap.size, 0, none⟩) 1 1)) 110 (.slice A74 (k + 1) cp75)) 6 (.slice A74 (k + 1) cp75)) 111 (.slice A3 k cp3)) 112 (.int .i64 kk)) 113 (.int .i64 a24)) 114 (.int .i64 a29)) 115 (.int .i64 a34)) 116 (.agg #[.int .i64 kk, .int .i64 a24, .int .i64 a29, .int .i64 a34])) 117 (.slice (some ⟨w76.heap.size, 0, none⟩) 1 1)) 118 (.slice A86 (k + 1) cp87)) 8 (.slice A86 (k + 1) cp87)) (by kernel_rfl) ?_
                    refine op_nil ?_
                    refine W_fg [(0, .slice L mm cl), (1, .slice TL mt tc), (4, .bool false), (5, .pointer (some ⟨p7, 0, none⟩)), (6, .slice A74 (k + 1) cp75), (7, .slice A58 (k2 + 1) cp59), (8, .slice A86 (k + 1) cp87), (9, .int .i64 ((i : Nat) : Int)), (10, .pointer (some ⟨w9.heap.size, 0, none⟩)), (11, .int .i64 kk), (12, .int .i64 a24), (13, .int .i64 a29), (14, .int .i64 a34), (15, .int .i64 ((2 * n : Nat) : Int)), (34, .bool (decide (((i : Nat) : Int) < (mm : Int)))), (84, .bool (((decide (kk > 0)) && (decide (kk < 6))) && (((((k : Int) == 0) || (decide (a24 < 0))) || (decide (a29 < 0))) || ((decide (kk > 3)) && (decide (a34 < 0)))))), (88, .bool (kk == 0)), (100, .bool ((decide (kk > 0)) && (decide (kk < 6))))] (by kernel_rfl) fun ρ => ?_
                    refine W_region (by kernel_rfl) ?_
                    refine seg2 (ρ' := upd (upd (updL ρ [(0, .slice L mm cl), (1, .slice TL mt tc), (4, .bool false), (5, .pointer (some ⟨p7, 0, none⟩)), (6, .slice A74 (k + 1) cp75), (7, .slice A58 (k2 + 1) cp59), (8, .slice A86 (k + 1) cp87), (9, .int .i64 ((i : Nat) : Int)), (10, .pointer (some ⟨w9.heap.size, 0, none⟩)), (11, .int .i64 kk), (12, .int .i64 a24), (13, .int .i64 a29), (14, .int .i64 a34), (15, .int .i64 ((2 * n : Nat) : Int)), (34, .bool (decide (((i : Nat) : Int) < (mm : Int)))), (84, .bool (((decide (kk > 0)) && (decide (kk < 6))) && (((((k : Int) == 0) || (decide (a24 < 0))) || (decide (a29 < 0))) || ((decide (kk > 3)) && (decide (a34 < 0)))))), (88, .bool (kk == 0)), (100, .bool ((decide (kk > 0)) && (decide (kk < 6))))]) 35 (.int .i64 ((i : Nat) : Int))) 36 (.int .i64 (IntKind.i64.wrap (((i : Nat) : Int) + 1)))) (by kernel_rfl) ?_
                    rw [show IntKind.i64.wrap (((i : Nat) : Int) + 1) = ((i : Nat) : Int) + 1 from wrap_i64 (by omega) (by omega)]
                    rw [show upd (upd (updL ρ [(0, .slice L mm cl), (1, .slice TL mt tc), (4, .bool false), (5, .pointer (some ⟨p7, 0, none⟩)), (6, .slice A74 (k + 1) cp75), (7, .slice A58 (k2 + 1) cp59), (8, .slice A86 (k + 1) cp87), (9, .int .i64 ((i : Nat) : Int)), (10, .pointer (some ⟨w9.heap.size, 0, none⟩)), (11, .int .i64 kk), (12, .int .i64 a24), (13, .int .i64 a29), (14, .int .i64 a34), (15, .int .i64 ((2 * n : Nat) : Int)), (34, .bool (decide (((i : Nat) : Int) < (mm : Int)))), (84, .bool (((decide (kk > 0)) && (decide (kk < 6))) && (((((k : Int) == 0) || (decide (a24 < 0))) || (decide (a29 < 0))) || ((decide (kk > 3)) && (decide (a34 < 0)))))), (88, .bool (kk == 0)), (100, .bool ((decide (kk > 0)) && (decide (kk < 6))))]) 35 (.int .i64 ((i : Nat) : Int))) 36 (.int .i64 (((i : Nat) : Int) + 1)) = upd (upd (updL ρ [(0, .slice L mm cl), (1, .slice TL mt tc), (4, .bool false), (5, .pointer (some ⟨p7, 0, none⟩)), (6, .slice A74 (k + 1) cp75), (7, .slice A58 (k2 + 1) cp59), (8, .slice A86 (k + 1) cp87), (9, .int .i64 ((i : Nat) : Int)), (10, .pointer (some ⟨w9.heap.size, 0, none⟩)), (11, .int .i64 kk), (12, .int .i64 a24), (13, .int .i64 a29), (14, .int .i64 a34), (15, .int .i64 ((2 * n : Nat) : Int)), (34, .bool (decide (((i : Nat) : Int) < (mm : Int)))), (84, .bool (((decide (kk > 0)) && (decide (kk < 6))) && (((((k : Int) == 0) || (decide (a24 < 0))) || (decide (a29 < 0))) || ((decide (kk > 3)) && (decide (a34 < 0)))))), (88, .bool (kk == 0)), (100, .bool ((decide (kk > 0)) && (decide (kk < 6))))]) 35 (.int .i64 ((i : Nat) : Int))) 36 (.int .i64 ((i + 1 : Nat) : Int)) from congrArg (fun z => upd (upd (updL ρ [(0, .slice L mm cl), (1, .slice TL mt tc), (4, .bool false), (5, .pointer (some ⟨p7, 0, none⟩)), (6, .slice A74 (k + 1) cp75), (7, .slice A58 (k2 + 1) cp59), (8, .slice A86 (k + 1) cp87), (9, .int .i64 ((i : Nat) : Int)), (10, .pointer (some ⟨w9.heap.size, 0, none⟩)), (11, .int .i64 kk), (12, .int .i64 a24), (13, .int .i64 a29), (14, .int .i64 a34), (15, .int .i64 ((2 * n : Nat) : Int)), (34, .bool (decide (((i : Nat) : Int) < (mm : Int)))), (84, .bool (((decide (kk > 0)) && (decide (kk < 6))) && (((((k : Int) == 0) || (decide (a24 < 0))) || (decide (a29 < 0))) || ((decide (kk > 3)) && (decide (a34 < 0)))))), (88, .bool (kk == 0)), (100, .bool ((decide (kk > 0)) && (decide (kk < 6))))]) 35 (.int .i64 ((i : Nat) : Int))) 36 (.int .i64 z)) (by omega)]
                    refine seg1 (ρ' := upd (upd (upd (updL ρ [(0, .slice L mm cl), (1, .slice TL mt tc), (4, .bool false), (5, .pointer (some ⟨p7, 0, none⟩)), (6, .slice A74 (k + 1) cp75), (7, .slice A58 (k2 + 1) cp59), (8, .slice A86 (k + 1) cp87), (9, .int .i64 ((i : Nat) : Int)), (10, .pointer (some ⟨w9.heap.size, 0, none⟩)), (11, .int .i64 kk), (12, .int .i64 a24), (13, .int .i64 a29), (14, .int .i64 a34), (15, .int .i64 ((2 * n : Nat) : Int)), (34, .bool (decide (((i : Nat) : Int) < (mm : Int)))), (84, .bool (((decide (kk > 0)) && (decide (kk < 6))) && (((((k : Int) == 0) || (decide (a24 < 0))) || (decide (a29 < 0))) || ((decide (kk > 3)) && (decide (a34 < 0)))))), (88, .bool (kk == 0)), (100, .bool ((decide (kk > 0)) && (decide (kk < 6))))]) 35 (.int .i64 ((i : Nat) : Int))) 36 (.int .i64 ((i + 1 : Nat) : Int))) 9 (.int .i64 ((i + 1 : Nat) : Int))) (by kernel_rfl) ?_
                    refine op_nil ?_
                    refine ⟨_, ?_, F, (n + 1), cs, (fun v => I v ∨ v = n), A74, cp75, told ++ [2 * n], k + 1, A58, cp59, inp ++ [2 * n], k2 + 1, A86, cp87, ac ++ [.int .i64 kk, .int .i64 a24, .int .i64 a29, .int .i64 a34], dsPush k ds2 (kk, a24, a29, a34), i + 1, _, updL_self (by kernel_rfl), ?_, ?_, ?_, ?_, (hArg.mono (Nat.le_succ n) (fun c h => h)).push (.inp (by omega) (by omega)) ⟨by omega, by omega⟩ hb25 hb30 hb35, hInp.push, hFb, nF_hTo, nB_hTo, nF_hIn, nB_hIn, nF_hAr, nB_hAr, dj_hTo_hIn, hT0, hG, hTo, hIn, hAr, hLc, rfl⟩
                    · omega
                    · omega
                    · omega
                    · omega
                    · omega
              · replace hc48 : kk ≠ 0 := (ne_of_beq_false hc48)
                refine W_skip ?_
                refine W_seq ?_
                refine W_seq ?_
                refine W_rcut (C := fun ρ' w' => ∃  (ρ0 : Env), ρ' = updL ρ0 [(0, .slice L mm cl), (1, .slice TL mt tc), (4, .bool false), (5, .pointer (some ⟨p7, 0, none⟩)), (6, .slice A k cp), (7, .slice A2 k2 cp2), (8, .slice A3 k cp3), (9, .int .i64 ((i : Nat) : Int)), (10, .pointer (some ⟨w9.heap.size, 0, none⟩)), (11, .int .i64 kk), (12, .int .i64 a24), (13, .int .i64 a29), (14, .int .i64 a34), (15, .int .i64 0), (34, .bool (decide (((i : Nat) : Int) < (mm : Int)))), (84, .bool (((decide (kk > 0)) && (decide (kk < 6))) && (((((k : Int) == 0) || (decide (a24 < 0))) || (decide (a29 < 0))) || ((decide (kk > 3)) && (decide (a34 < 0)))))), (88, .bool (kk == 0)), (100, .bool ((decide (kk > 0)) && (decide (kk < 6))))] ∧ Tch N0 w46 w') ?_ ?_
                · refine W_region (by kernel_rfl) ?_
                  refine seg3 (ρ' := upd (upd (upd (upd (upd (upd (upd (upd (updL ρ [(0, .slice L mm cl), (1, .slice TL mt tc), (4, .bool false), (5, .pointer (some ⟨p7, 0, none⟩)), (6, .slice A k cp), (7, .slice A2 k2 cp2), (8, .slice A3 k cp3), (9, .int .i64 ((i : Nat) : Int)), (10, .pointer (some ⟨w9.heap.size, 0, none⟩)), (11, .int .i64 kk), (12, .int .i64 a24), (13, .int .i64 a29), (14, .int .i64 a34), (34, .bool (decide (((i : Nat) : Int) < (mm : Int)))), (84, .bool (((decide (kk > 0)) && (decide (kk < 6))) && (((((k : Int) == 0) || (decide (a24 < 0))) || (decide (a29 < 0))) || ((decide (kk > 3)) && (decide (a34 < 0))))))]) 85 (.pointer (some ⟨p7, 0, none⟩))) 86 (.int .i64 0)) 15 (.int .i64 0)) 87 (.int .i64 kk)) 88 (.bool (kk == 0))) 95 (.int .i64 kk)) 96 (.bool (decide (kk > 0)))) 97 (.bool (decide (kk > 0)))) (by kernel_rfl) ?_
                  cases hb92 : decide (kk > 0)
                  · replace hb92 : kk ≤ 0 := (Int.not_lt.1 (of_decide_eq_false hb92))
                    refine seg3 (ρ' := upd (upd (upd (upd (upd (upd (upd (upd (upd (upd (upd (updL ρ [(0, .slice L mm cl), (1, .slice TL mt tc), (4, .bool false), (5, .pointer (some ⟨p7, 0, none⟩)), (6, .slice A k cp), (7, .slice A2 k2 cp2), (8, .slice A3 k cp3), (9, .int .i64 ((i : Nat) : Int)), (10, .pointer (some ⟨w9.heap.size, 0, none⟩)), (11, .int .i64 kk), (12, .int .i64 a24), (13, .int .i64 a29), (14, .int .i64 a34), (34, .bool (decide (((i : Nat) : Int) < (mm : Int)))), (84, .bool (((false) && (decide (kk < 6))) && (((((k : Int) == 0) || (decide (a24 < 0))) || (decide (a29 < 0))) || ((decide (kk > 3)) && (decide (a34 < 0))))))]) 85 (.pointer (some ⟨p7, 0, none⟩))) 86 (.int .i64 0)) 15 (.int .i64 0)) 87 (.int .i64 kk)) 88 (.bool (kk == 0))) 95 (.int .i64 kk)) 96 (.bool false)) 97 (.bool false)) 98 (undef)) 99 (undef)) 100 (.bool false)) (by kernel_rfl) ?_
                    refine op_nil ?_
                    exact ⟨_, updL_self (by kernel_rfl), Tch.refl _ _⟩
                  · replace hb92 : 0 < kk := (of_decide_eq_true hb92)
                    refine seg3 (ρ' := upd (upd (upd (upd (upd (upd (upd (upd (upd (upd (upd (updL ρ [(0, .slice L mm cl), (1, .slice TL mt tc), (4, .bool false), (5, .pointer (some ⟨p7, 0, none⟩)), (6, .slice A k cp), (7, .slice A2 k2 cp2), (8, .slice A3 k cp3), (9, .int .i64 ((i : Nat) : Int)), (10, .pointer (some ⟨w9.heap.size, 0, none⟩)), (11, .int .i64 kk), (12, .int .i64 a24), (13, .int .i64 a29), (14, .int .i64 a34), (34, .bool (decide (((i : Nat) : Int) < (mm : Int)))), (84, .bool (((true) && (decide (kk < 6))) && (((((k : Int) == 0) || (decide (a24 < 0))) || (decide (a29 < 0))) || ((decide (kk > 3)) && (decide (a34 < 0))))))]) 85 (.pointer (some ⟨p7, 0, none⟩))) 86 (.int .i64 0)) 15 (.int .i64 0)) 87 (.int .i64 kk)) 88 (.bool (kk == 0))) 95 (.int .i64 kk)) 96 (.bool true)) 97 (.bool true)) 98 (.int .i64 kk)) 99 (.bool (decide (kk < 6)))) 100 (.bool (decide (kk < 6)))) (by kernel_rfl) ?_
                    refine op_nil ?_
                    exact ⟨_, updL_self (by kernel_rfl), Tch.refl _ _⟩
                · rintro _ w93 ⟨ρ, rfl, hT94⟩
                  have hT0 := hT0.t0 hT94
                  have hG := hG.tch0 hT94
                  have hTo := hTo.tch0 hT94
                  have hIn := hIn.tch0 hT94
                  have hAr := hAr.tch0 hT94
                  have hLc := hL.tch0 hT0
                  have hB14 := hB14.tch0 hT94
                  refine W_cond (((decide (kk > 0)) && (decide (kk < 6)))) (by kernel_rfl) (by kernel_rfl) (fun hc95 => ?_) (fun hc95 => ?_)
                  · replace hc95 : (0 < kk) ∧ (kk < 6) := ⟨(of_decide_eq_true (Bool.and_eq_true_iff.1 hc95).1), (of_decide_eq_true (Bool.and_eq_true_iff.1 hc95).2)⟩
                    refine W_region (by kernel_rfl) ?_
                    refine seg5 (ρ' := upd (upd (upd (upd (upd (updL ρ [(0, .slice L mm cl), (1, .slice TL mt tc), (4, .bool false), (5, .pointer (some ⟨p7, 0, none⟩)), (6, .slice A k cp), (7, .slice A2 k2 cp2), (8, .slice A3 k cp3), (9, .int .i64 ((i : Nat) : Int)), (10, .pointer (some ⟨w9.heap.size, 0, none⟩)), (11, .int .i64 kk), (12, .int .i64 a24), (13, .int .i64 a29), (14, .int .i64 a34), (15, .int .i64 0), (34, .bool (decide (((i : Nat) : Int) < (mm : Int)))), (84, .bool (((decide (kk > 0)) && (decide (kk < 6))) && (((((k : Int) == 0) || (decide (a24 < 0))) || (decide (a29 < 0))) || ((decide (kk > 3)) && (decide (a34 < 0)))))), (88, .bool (kk == 0)), (100, .bool ((decide (kk > 0)) && (decide (kk < 6))))]) 101 (.pointer (some ⟨p7, 0, none⟩))) 102 (.int .i64 kk)) 103 (.int .i64 a24)) 104 (.int .i64 a29)) 105 (.int .i64 a34)) (by kernel_rfl) ?_
                    have hz_ := hT0.size
                    have lt97 := hB14.lt
                    have lR_hTo := hTo.lt
                    have lR_hIn := hIn.lt
                    have lR_hAr := hAr.lt
                    have hz_ := hT0.size
                    have lt105 := hB14.lt
                    refine st (by rfl) (S_call (args := [.pointer (some ⟨p7, 0, none⟩), .int .i64 kk, .int .i64 a24, .int .i64 a29, .int .i64 a34]) (by kernel_rfl) (ask_ok F p7 n kk a24 a29 a34 cs I _ hG (by omega) (by omega) (by omega) (by omega) (by omega) (by omega) (fun h => by omega)) ?_)
                    rintro _ w96 ⟨F98, n99, cs100, x101, rfl, hG, hm102, hr103, hd104⟩
                    have hT0 := (hT0).then hm102.1 hFb
                    have hTo := hTo.tch hm102.1 nF_hTo
                    have hIn := hIn.tch hm102.1 nF_hIn
                    have hAr := hAr.tch hm102.1 nF_hAr
                    have hLc := hL.tch0 hT0
                    have hB14 := hB14.tch hm102.1 nF_hB14
                    have hxb106 := hr103.2.2.1
                    have hle107 := hr103.1
                    replace nF_hB14 : ¬ F98 (w9.heap.size) := fun e => (hm102.2 _ e).elim nF_hB14 (fun q => by omega)
                    replace hFb := hm102.ge hFb hz_
                    replace nF_hTo : ∀ c, (Value.slice A (k) cp).ownBlock = some c → ¬ F98 c := fun c hc e => (hm102.2 c e).elim (nF_hTo c hc) (fun q => by have := lR_hTo c hc; omega)
                    replace nF_hIn : ∀ c, (Value.slice A2 (k2) cp2).ownBlock = some c → ¬ F98 c := fun c hc e => (hm102.2 c e).elim (nF_hIn c hc) (fun q => by have := lR_hIn c hc; omega)
                    replace nF_hAr : ∀ c, (Value.slice A3 (k) cp3).ownBlock = some c → ¬ F98 c := fun c hc e => (hm102.2 c e).elim (nF_hAr c hc) (fun q => by have := lR_hAr c hc; omega)
                    refine seg1 (ρ' := upd (upd (upd (upd (upd (upd (upd (updL ρ [(0, .slice L mm cl), (1, .slice TL mt tc), (4, .bool false), (5, .pointer (some ⟨p7, 0, none⟩)), (6, .slice A k cp), (7, .slice A2 k2 cp2), (8, .slice A3 k cp3), (9, .int .i64 ((i : Nat) : Int)), (10, .pointer (some ⟨w9.heap.size, 0, none⟩)), (11, .int .i64 kk), (12, .int .i64 a24), (13, .int .i64 a29), (14, .int .i64 a34), (15, .int .i64 0), (34, .bool (decide (((i : Nat) : Int) < (mm : Int)))), (84, .bool (((decide (kk > 0)) && (decide (kk < 6))) && (((((k : Int) == 0) || (decide (a24 < 0))) || (decide (a29 < 0))) || ((decide (kk > 3)) && (decide (a34 < 0)))))), (88, .bool (kk == 0)), (100, .bool ((decide (kk > 0)) && (decide (kk < 6))))]) 101 (.pointer (some ⟨p7, 0, none⟩))) 102 (.int .i64 kk)) 103 (.int .i64 a24)) 104 (.int .i64 a29)) 105 (.int .i64 a34)) 106 (.int .i64 ((x101 : Nat) : Int))) 15 (.int .i64 ((x101 : Nat) : Int))) (by kernel_rfl) ?_
                    refine op_nil ?_
                    refine W_seq ?_
                    refine W_region (by kernel_rfl) ?_
                    refine seg2 (ρ' := upd (upd (upd (upd (upd (upd (upd (upd (upd (updL ρ [(0, .slice L mm cl), (1, .slice TL mt tc), (4, .bool false), (5, .pointer (some ⟨p7, 0, none⟩)), (6, .slice A k cp), (7, .slice A2 k2 cp2), (8, .slice A3 k cp3), (9, .int .i64 ((i : Nat) : Int)), (10, .pointer (some ⟨w9.heap.size, 0, none⟩)), (11, .int .i64 kk), (12, .int .i64 a24), (13, .int .i64 a29), (14, .int .i64 a34), (15, .int .i64 0), (34, .bool (decide (((i : Nat) : Int) < (mm : Int)))), (84, .bool (((decide (kk > 0)) && (decide (kk < 6))) && (((((k : Int) == 0) || (decide (a24 < 0))) || (decide (a29 < 0))) || ((decide (kk > 3)) && (decide (a34 < 0)))))), (88, .bool (kk == 0)), (100, .bool ((decide (kk > 0)) && (decide (kk < 6))))]) 101 (.pointer (some ⟨p7, 0, none⟩))) 102 (.int .i64 kk)) 103 (.int .i64 a24)) 104 (.int .i64 a29)) 105 (.int .i64 a34)) 106 (.int .i64 ((x101 : Nat) : Int))) 15 (.int .i64 ((x101 : Nat) : Int))) 107 (.slice A k cp)) 108 (.int .i64 ((x101 : Nat) : Int))) (by kernel_rfl) ?_
                    have hlt_ := hG.1.lt
                    have z112 := hT0.size
                    have l113 := hB14.lt
                    refine st (by rfl) (S_new (v := .slice (some ⟨w96.heap.size, 0, none⟩) 1 1) (ob := .cells #[.int .i64 ((x101 : Nat) : Int)] 3) (by kernel_rfl) fun w108 hT109 hs110 hB111 => ?_)
                    replace hB111 : Blk w108 (w96.heap.size) 3 [.int .i64 ((x101 : Nat) : Int)] := hB111
                    have hT0 := hT0.t0 hT109
                    have hG := hG.tch0 hT109
                    have hTo := hTo.tch0 hT109
                    have hIn := hIn.tch0 hT109
                    have hAr := hAr.tch0 hT109
                    have hLc := hL.tch0 hT0
                    have hB14 := hB14.tch0 hT109
                    have nF_hB111 : ¬ F98 (w96.heap.size) := fun e => by have := hlt_ _ e; omega
                    have hz_ := hT0.size
                    have hGl_ := hG.1.lt
                    have lR_hTo := hTo.lt
                    have lR_hIn := hIn.lt
                    have lR_hAr := hAr.lt
                    refine st (by rfl) (S_appendR 27 3 (.int .i64 0) 1 8 (n := k) (m := 1) (A := A) (cp := cp) (cells := nats told) (news := [.int .i64 ((x101 : Nat) : Int)]) (b := w96.heap.size) (off := 0) (c := 1) (by kernel_rfl) (by kernel_rfl) (by decide) (by kernel_rfl) (by kernel_rfl) (by kernel_rfl) hTo (by rfl) (fun k u hk => by rw [Nat.zero_add, hB111.cell]; exact hk) (by simp [oneV]) (by simp only [maxLen]; omega) (by omega) fun A114 cp115 w116 hO117 hw118 hT119 => ?_)
                    have hT0 := (hT0).then hT119 nB_hTo
                    have hG := hG.tchS hT119 (fun c e => nF_hTo c e)
                    have hIn := hIn.tch hT119 (fun c hc e => dj_hTo_hIn c e hc)
                    have hAr := hAr.tch hT119 (fun c hc e => Own.ne_own hAr hTo (by decide) c hc e)
                    have hLc := hL.tch0 hT0
                    have hB14 := hB14.tch hT119 (fun e => hTo.blk_ne hB14 (by decide) _ e rfl)
                    have hTo : Own w116 0 3 1 (.slice A114 (k + 1) cp115) (k + 1) (nats (told ++ [x101])) := by rw [nats_append]; exact hO117
                    have nF_hTo : ∀ c, (Value.slice A114 (k + 1) cp115).ownBlock = some c → ¬ F98 c := fun c hc => (hw118 c hc).elim (nF_hTo c) (fun q e => by have := hGl_ _ e; omega)
                    have nB_hTo : ∀ c, (Value.slice A114 (k + 1) cp115).ownBlock = some c → w.heap.size ≤ c := fun c hc => (hw118 c hc).elim (nB_hTo c) (fun q => by omega)
                    have dj_hTo_hIn : ∀ c, (Value.slice A114 (k + 1) cp115).ownBlock = some c → (Value.slice A2 (k2) cp2).ownBlock = some c → False := fun c h1 h2 => (hw118 c h1).elim (fun q => dj_hTo_hIn c q h2) (fun q => by have := lR_hIn c h2; omega)
                    refine seg1 (ρ' := upd (upd (upd (upd (upd (upd (upd (upd (upd (upd (upd (upd (updL ρ [(0, .slice L mm cl), (1, .slice TL mt tc), (4, .bool false), (5, .pointer (some ⟨p7, 0, none⟩)), (6, .slice A k cp), (7, .slice A2 k2 cp2), (8, .slice A3 k cp3), (9, .int .i64 ((i : Nat) : Int)), (10, .pointer (some ⟨w9.heap.size, 0, none⟩)), (11, .int .i64 kk), (12, .int .i64 a24), (13, .int .i64 a29), (14, .int .i64 a34), (15, .int .i64 0), (34, .bool (decide (((i : Nat) : Int) < (mm : Int)))), (84, .bool (((decide (kk > 0)) && (decide (kk < 6))) && (((((k : Int) == 0) || (decide (a24 < 0))) || (decide (a29 < 0))) || ((decide (kk > 3)) && (decide (a34 < 0)))))), (88, .bool (kk == 0)), (100, .bool ((decide (kk > 0)) && (decide (kk < 6))))]) 101 (.pointer (some ⟨p7, 0, none⟩))) 102 (.int .i64 kk)) 103 (.int .i64 a24)) 104 (.int .i64 a29)) 105 (.int .i64 a34)) 106 (.int .i64 ((x101 : Nat) : Int))) 15 (.int .i64 ((x101 : Nat) : Int))) 107 (.slice A k cp)) 108 (.int .i64 ((x101 : Nat) : Int))) 109 (.slice (some ⟨w96.heap.size, 0, none⟩) 1 1)) 110 (.slice A114 (k + 1) cp115)) 6 (.slice A114 (k + 1) cp115)) (by kernel_rfl) ?_
                    refine op_nil ?_
                    refine W_fg [(0, .slice L mm cl), (1, .slice TL mt tc), (4, .bool false), (5, .pointer (some ⟨p7, 0, none⟩)), (6, .slice A114 (k + 1) cp115), (7, .slice A2 k2 cp2), (8, .slice A3 k cp3), (9, .int .i64 ((i : Nat) : Int)), (10, .pointer (some ⟨w9.heap.size, 0, none⟩)), (11, .int .i64 kk), (12, .int .i64 a24), (13, .int .i64 a29), (14, .int .i64 a34), (15, .int .i64 ((x101 : Nat) : Int)), (34, .bool (decide (((i : Nat) : Int) < (mm : Int)))), (84, .bool (((decide (kk > 0)) && (decide (kk < 6))) && (((((k : Int) == 0) || (decide (a24 < 0))) || (decide (a29 < 0))) || ((decide (kk > 3)) && (decide (a34 < 0)))))), (88, .bool (kk == 0)), (100, .bool ((decide (kk > 0)) && (decide (kk < 6))))] (by kernel_rfl) fun ρ => ?_
                    refine W_region (by kernel_rfl) ?_
                    refine seg6 (ρ' := upd (upd (upd (upd (upd (upd (updL ρ [(0, .slice L mm cl), (1, .slice TL mt tc), (4, .bool false), (5, .pointer (some ⟨p7, 0, none⟩)), (6, .slice A114 (k + 1) cp115), (7, .slice A2 k2 cp2), (8, .slice A3 k cp3), (9, .int .i64 ((i : Nat) : Int)), (10, .pointer (some ⟨w9.heap.size, 0, none⟩)), (11, .int .i64 kk), (12, .int .i64 a24), (13, .int .i64 a29), (14, .int .i64 a34), (15, .int .i64 ((x101 : Nat) : Int)), (34, .bool (decide (((i : Nat) : Int) < (mm : Int)))), (84, .bool (((decide (kk > 0)) && (decide (kk < 6))) && (((((k : Int) == 0) || (decide (a24 < 0))) || (decide (a29 < 0))) || ((decide (kk > 3)) && (decide (a34 < 0)))))), (88, .bool (kk == 0)), (100, .bool ((decide (kk > 0)) && (decide (kk < 6))))]) 111 (.slice A3 k cp3)) 112 (.int .i64 kk)) 113 (.int .i64 a24)) 114 (.int .i64 a29)) 115 (.int .i64 a34)) 116 (.agg #[.int .i64 kk, .int .i64 a24, .int .i64 a29, .int .i64 a34])) (by kernel_rfl) ?_
                    have hlt_ := hG.1.lt
                    have z124 := hT0.size
                    have l125 := hB14.lt
                    refine st (by rfl) (S_new (v := .slice (some ⟨w116.heap.size, 0, none⟩) 1 1) (ob := .cells #[.int .i64 kk, .int .i64 a24, .int .i64 a29, .int .i64 a34] 34) (by kernel_rfl) fun w120 hT121 hs122 hB123 => ?_)
                    replace hB123 : Blk w120 (w116.heap.size) 34 [.int .i64 kk, .int .i64 a24, .int .i64 a29, .int .i64 a34] := hB123
                    have hT0 := hT0.t0 hT121
                    have hG := hG.tch0 hT121
                    have hTo := hTo.tch0 hT121
                    have hIn := hIn.tch0 hT121
                    have hAr := hAr.tch0 hT121
                    have hLc := hL.tch0 hT0
                    have hB14 := hB14.tch0 hT121
                    have nF_hB123 : ¬ F98 (w116.heap.size) := fun e => by have := hlt_ _ e; omega
                    have hz_ := hT0.size
                    have hGl_ := hG.1.lt
                    have lR_hTo := hTo.lt
                    have lR_hIn := hIn.lt
                    have lR_hAr := hAr.lt
                    refine st (by rfl) (S_appendR 28 34 (.agg #[.int .i64 0, .int .i64 0, .int .i64 0, .int .i64 0]) 4 32 (n := k) (m := 1) (A := A3) (cp := cp3) (cells := ac) (news := [.int .i64 kk, .int .i64 a24, .int .i64 a29, .int .i64 a34]) (b := w116.heap.size) (off := 0) (c := 1) (by kernel_rfl) (by kernel_rfl) (by decide) (by kernel_rfl) (by kernel_rfl) (by kernel_rfl) hAr (by rfl) (fun k u hk => by rw [Nat.zero_add, hB123.cell]; exact hk) (by simp [oneV]) (by simp only [maxLen]; omega) (by omega) fun A126 cp127 w128 hO129 hw130 hT131 => ?_)
                    have hT0 := (hT0).then hT131 nB_hAr
                    have hG := hG.tchS hT131 (fun c e => nF_hAr c e)
                    have hTo := hTo.tch hT131 (fun c hc e => Own.ne_own hTo hAr (by decide) c hc e)
                    have hIn := hIn.tch hT131 (fun c hc e => Own.ne_own hIn hAr (by decide) c hc e)
                    have hLc := hL.tch0 hT0
                    have hB14 := hB14.tch hT131 (fun e => hAr.blk_ne hB14 (by decide) _ e rfl)
                    have hAr : Own w128 0 34 4 (.slice A126 (k + 1) cp127) (k + 1) (ac ++ [.int .i64 kk, .int .i64 a24, .int .i64 a29, .int .i64 a34]) := hO129
                    have nF_hAr : ∀ c, (Value.slice A126 (k + 1) cp127).ownBlock = some c → ¬ F98 c := fun c hc => (hw130 c hc).elim (nF_hAr c) (fun q e => by have := hGl_ _ e; omega)
                    have nB_hAr : ∀ c, (Value.slice A126 (k + 1) cp127).ownBlock = some c → w.heap.size ≤ c := fun c hc => (hw130 c hc).elim (nB_hAr c) (fun q => by omega)
                    refine seg1 (ρ' := upd (upd (upd (upd (upd (upd (upd (upd (upd (updL ρ [(0, .slice L mm cl), (1, .slice TL mt tc), (4, .bool false), (5, .pointer (some ⟨p7, 0, none⟩)), (6, .slice A114 (k + 1) cp115), (7, .slice A2 k2 cp2), (8, .slice A3 k cp3), (9, .int .i64 ((i : Nat) : Int)), (10, .pointer (some ⟨w9.heap.size, 0, none⟩)), (11, .int .i64 kk), (12, .int .i64 a24), (13, .int .i64 a29), (14, .int .i64 a34), (15, .int .i64 ((x101 : Nat) : Int)), (34, .bool (decide (((i : Nat) : Int) < (mm : Int)))), (84, .bool (((decide (kk > 0)) && (decide (kk < 6))) && (((((k : Int) == 0) || (decide (a24 < 0))) || (decide (a29 < 0))) || ((decide (kk > 3)) && (decide (a34 < 0)))))), (88, .bool (kk == 0)), (100, .bool ((decide (kk > 0)) && (decide (kk < 6))))]) 111 (.slice A3 k cp3)) 112 (.int .i64 kk)) 113 (.int .i64 a24)) 114 (.int .i64 a29)) 115 (.int .i64 a34)) 116 (.agg #[.int .i64 kk, .int .i64 a24, .int .i64 a29, .int .i64 a34])) 117 (.slice (some ⟨w116.heap.size, 0, none⟩) 1 1)) 118 (.slice A126 (k + 1) cp127)) 8 (.slice A126 (k + 1) cp127)) (by kernel_rfl) ?_
                    refine op_nil ?_
                    refine W_fg [(0, .slice L mm cl), (1, .slice TL mt tc), (4, .bool false), (5, .pointer (some ⟨p7, 0, none⟩)), (6, .slice A114 (k + 1) cp115), (7, .slice A2 k2 cp2), (8, .slice A126 (k + 1) cp127), (9, .int .i64 ((i : Nat) : Int)), (10, .pointer (some ⟨w9.heap.size, 0, none⟩)), (11, .int .i64 kk), (12, .int .i64 a24), (13, .int .i64 a29), (14, .int .i64 a34), (15, .int .i64 ((x101 : Nat) : Int)), (34, .bool (decide (((i : Nat) : Int) < (mm : Int)))), (84, .bool (((decide (kk > 0)) && (decide (kk < 6))) && (((((k : Int) == 0) || (decide (a24 < 0))) || (decide (a29 < 0))) || ((decide (kk > 3)) && (decide (a34 < 0)))))), (88, .bool (kk == 0)), (100, .bool ((decide (kk > 0)) && (decide (kk < 6))))] (by kernel_rfl) fun ρ => ?_
                    refine W_region (by kernel_rfl) ?_
                    refine seg2 (ρ' := upd (upd (updL ρ [(0, .slice L mm cl), (1, .slice TL mt tc), (4, .bool false), (5, .pointer (some ⟨p7, 0, none⟩)), (6, .slice A114 (k + 1) cp115), (7, .slice A2 k2 cp2), (8, .slice A126 (k + 1) cp127), (9, .int .i64 ((i : Nat) : Int)), (10, .pointer (some ⟨w9.heap.size, 0, none⟩)), (11, .int .i64 kk), (12, .int .i64 a24), (13, .int .i64 a29), (14, .int .i64 a34), (15, .int .i64 ((x101 : Nat) : Int)), (34, .bool (decide (((i : Nat) : Int) < (mm : Int)))), (84, .bool (((decide (kk > 0)) && (decide (kk < 6))) && (((((k : Int) == 0) || (decide (a24 < 0))) || (decide (a29 < 0))) || ((decide (kk > 3)) && (decide (a34 < 0)))))), (88, .bool (kk == 0)), (100, .bool ((decide (kk > 0)) && (decide (kk < 6))))]) 35 (.int .i64 ((i : Nat) : Int))) 36 (.int .i64 (IntKind.i64.wrap (((i : Nat) : Int) + 1)))) (by kernel_rfl) ?_
                    rw [show IntKind.i64.wrap (((i : Nat) : Int) + 1) = ((i : Nat) : Int) + 1 from wrap_i64 (by omega) (by omega)]
                    rw [show upd (upd (updL ρ [(0, .slice L mm cl), (1, .slice TL mt tc), (4, .bool false), (5, .pointer (some ⟨p7, 0, none⟩)), (6, .slice A114 (k + 1) cp115), (7, .slice A2 k2 cp2), (8, .slice A126 (k + 1) cp127), (9, .int .i64 ((i : Nat) : Int)), (10, .pointer (some ⟨w9.heap.size, 0, none⟩)), (11, .int .i64 kk), (12, .int .i64 a24), (13, .int .i64 a29), (14, .int .i64 a34), (15, .int .i64 ((x101 : Nat) : Int)), (34, .bool (decide (((i : Nat) : Int) < (mm : Int)))), (84, .bool (((decide (kk > 0)) && (decide (kk < 6))) && (((((k : Int) == 0) || (decide (a24 < 0))) || (decide (a29 < 0))) || ((decide (kk > 3)) && (decide (a34 < 0)))))), (88, .bool (kk == 0)), (100, .bool ((decide (kk > 0)) && (decide (kk < 6))))]) 35 (.int .i64 ((i : Nat) : Int))) 36 (.int .i64 (((i : Nat) : Int) + 1)) = upd (upd (updL ρ [(0, .slice L mm cl), (1, .slice TL mt tc), (4, .bool false), (5, .pointer (some ⟨p7, 0, none⟩)), (6, .slice A114 (k + 1) cp115), (7, .slice A2 k2 cp2), (8, .slice A126 (k + 1) cp127), (9, .int .i64 ((i : Nat) : Int)), (10, .pointer (some ⟨w9.heap.size, 0, none⟩)), (11, .int .i64 kk), (12, .int .i64 a24), (13, .int .i64 a29), (14, .int .i64 a34), (15, .int .i64 ((x101 : Nat) : Int)), (34, .bool (decide (((i : Nat) : Int) < (mm : Int)))), (84, .bool (((decide (kk > 0)) && (decide (kk < 6))) && (((((k : Int) == 0) || (decide (a24 < 0))) || (decide (a29 < 0))) || ((decide (kk > 3)) && (decide (a34 < 0)))))), (88, .bool (kk == 0)), (100, .bool ((decide (kk > 0)) && (decide (kk < 6))))]) 35 (.int .i64 ((i : Nat) : Int))) 36 (.int .i64 ((i + 1 : Nat) : Int)) from congrArg (fun z => upd (upd (updL ρ [(0, .slice L mm cl), (1, .slice TL mt tc), (4, .bool false), (5, .pointer (some ⟨p7, 0, none⟩)), (6, .slice A114 (k + 1) cp115), (7, .slice A2 k2 cp2), (8, .slice A126 (k + 1) cp127), (9, .int .i64 ((i : Nat) : Int)), (10, .pointer (some ⟨w9.heap.size, 0, none⟩)), (11, .int .i64 kk), (12, .int .i64 a24), (13, .int .i64 a29), (14, .int .i64 a34), (15, .int .i64 ((x101 : Nat) : Int)), (34, .bool (decide (((i : Nat) : Int) < (mm : Int)))), (84, .bool (((decide (kk > 0)) && (decide (kk < 6))) && (((((k : Int) == 0) || (decide (a24 < 0))) || (decide (a29 < 0))) || ((decide (kk > 3)) && (decide (a34 < 0)))))), (88, .bool (kk == 0)), (100, .bool ((decide (kk > 0)) && (decide (kk < 6))))]) 35 (.int .i64 ((i : Nat) : Int))) 36 (.int .i64 z)) (by omega)]
                    refine seg1 (ρ' := upd (upd (upd (updL ρ [(0, .slice L mm cl), (1, .slice TL mt tc), (4, .bool false), (5, .pointer (some ⟨p7, 0, none⟩)), (6, .slice A114 (k + 1) cp115), (7, .slice A2 k2 cp2), (8, .slice A126 (k + 1) cp127), (9, .int .i64 ((i : Nat) : Int)), (10, .pointer (some ⟨w9.heap.size, 0, none⟩)), (11, .int .i64 kk), (12, .int .i64 a24), (13, .int .i64 a29), (14, .int .i64 a34), (15, .int .i64 ((x101 : Nat) : Int)), (34, .bool (decide (((i : Nat) : Int) < (mm : Int)))), (84, .bool (((decide (kk > 0)) && (decide (kk < 6))) && (((((k : Int) == 0) || (decide (a24 < 0))) || (decide (a29 < 0))) || ((decide (kk > 3)) && (decide (a34 < 0)))))), (88, .bool (kk == 0)), (100, .bool ((decide (kk > 0)) && (decide (kk < 6))))]) 35 (.int .i64 ((i : Nat) : Int))) 36 (.int .i64 ((i + 1 : Nat) : Int))) 9 (.int .i64 ((i + 1 : Nat) : Int))) (by kernel_rfl) ?_
                    refine op_nil ?_
                    refine ⟨_, ?_, F98, n99, cs100, I, A114, cp115, told ++ [x101], k + 1, A2, cp2, inp, k2, A126, cp127, ac ++ [.int .i64 kk, .int .i64 a24, .int .i64 a29, .int .i64 a34], dsPush k ds2 (kk, a24, a29, a34), i + 1, _, updL_self (by kernel_rfl), ?_, ?_, ?_, ?_, (hArg.mono hr103.1 hr103.2.1).push (.gate hr103 (by omega) (by unfold litF; omega) (by unfold litF; omega) (by unfold litF; omega)) ⟨by omega, by omega⟩ hb25 hb30 hb35, hInp.mono hr103.1, hFb, nF_hTo, nB_hTo, nF_hIn, nB_hIn, nF_hAr, nB_hAr, dj_hTo_hIn, hT0, hG, hTo, hIn, hAr, hLc, rfl⟩
                    · omega
                    · omega
                    · omega
                    · omega
                    · omega
                  · replace hc95 : (kk ≤ 0) ∨ (6 ≤ kk) := (Bool.and_eq_false_iff.1 hc95).imp (fun h => (Int.not_lt.1 (of_decide_eq_false h))) (fun h => (Int.not_lt.1 (of_decide_eq_false h)))
                    refine W_skip ?_
                    refine W_seq ?_
                    refine W_region (by kernel_rfl) ?_
                    refine seg2 (ρ' := upd (upd (updL ρ [(0, .slice L mm cl), (1, .slice TL mt tc), (4, .bool false), (5, .pointer (some ⟨p7, 0, none⟩)), (6, .slice A k cp), (7, .slice A2 k2 cp2), (8, .slice A3 k cp3), (9, .int .i64 ((i : Nat) : Int)), (10, .pointer (some ⟨w9.heap.size, 0, none⟩)), (11, .int .i64 kk), (12, .int .i64 a24), (13, .int .i64 a29), (14, .int .i64 a34), (15, .int .i64 0), (34, .bool (decide (((i : Nat) : Int) < (mm : Int)))), (84, .bool (((decide (kk > 0)) && (decide (kk < 6))) && (((((k : Int) == 0) || (decide (a24 < 0))) || (decide (a29 < 0))) || ((decide (kk > 3)) && (decide (a34 < 0)))))), (88, .bool (kk == 0)), (100, .bool ((decide (kk > 0)) && (decide (kk < 6))))]) 107 (.slice A k cp)) 108 (.int .i64 0)) (by kernel_rfl) ?_
                    have hlt_ := hG.1.lt
                    have z136 := hT0.size
                    have l137 := hB14.lt
                    refine st (by rfl) (S_new (v := .slice (some ⟨w93.heap.size, 0, none⟩) 1 1) (ob := .cells #[.int .i64 0] 3) (by kernel_rfl) fun w132 hT133 hs134 hB135 => ?_)
                    replace hB135 : Blk w132 (w93.heap.size) 3 [.int .i64 0] := hB135
                    have hT0 := hT0.t0 hT133
                    have hG := hG.tch0 hT133
                    have hTo := hTo.tch0 hT133
                    have hIn := hIn.tch0 hT133
                    have hAr := hAr.tch0 hT133
                    have hLc := hL.tch0 hT0
                    have hB14 := hB14.tch0 hT133
                    have nF_hB135 : ¬ F (w93.heap.size) := fun e => by have := hlt_ _ e; omega
                    have hz_ := hT0.size
                    have hGl_ := hG.1.lt
                    have lR_hTo := hTo.lt
                    have lR_hIn := hIn.lt
                    have lR_hAr := hAr.lt
                    refine st (by rfl) (S_appendR 27 3 (.int .i64 0) 1 8 (n := k) (m := 1) (A := A) (cp := cp) (cells := nats told) (news := [.int .i64 0]) (b := w93.heap.size) (off := 0) (c := 1) (by kernel_rfl) (by kernel_rfl) (by decide) (by kernel_rfl) (by kernel_rfl) (by kernel_rfl) hTo (by rfl) (fun k u hk => by rw [Nat.zero_add, hB135.cell]; exact hk) (by simp [oneV]) (by simp only [maxLen]; omega) (by omega) fun A138 cp139 w140 hO141 hw142 hT143 => ?_)
                    have hT0 := (hT0).then hT143 nB_hTo
                    have hG := hG.tchS hT143 (fun c e => nF_hTo c e)
                    have hIn := hIn.tch hT143 (fun c hc e => dj_hTo_hIn c e hc)
                    have hAr := hAr.tch hT143 (fun c hc e => Own.ne_own hAr hTo (by decide) c hc e)
                    have hLc := hL.tch0 hT0
                    have hB14 := hB14.tch hT143 (fun e => hTo.blk_ne hB14 (by decide) _ e rfl)
                    have hTo : Own w140 0 3 1 (.slice A138 (k + 1) cp139) (k + 1) (nats (told ++ [0])) := by rw [nats_append]; exact hO141
                    have nF_hTo : ∀ c, (Value.slice A138 (k + 1) cp139).ownBlock = some c → ¬ F c := fun c hc => (hw142 c hc).elim (nF_hTo c) (fun q e => by have := hGl_ _ e; omega)
                    have nB_hTo : ∀ c, (Value.slice A138 (k + 1) cp139).ownBlock = some c → w.heap.size ≤ c := fun c hc => (hw142 c hc).elim (nB_hTo c) (fun q => by omega)
                    have dj_hTo_hIn : ∀ c, (Value.slice A138 (k + 1) cp139).ownBlock = some c → (Value.slice A2 (k2) cp2).ownBlock = some c → False := fun c h1 h2 => (hw142 c h1).elim (fun q => dj_hTo_hIn c q h2) (fun q => by have := lR_hIn c h2; omega)
                    refine seg1 (ρ' := upd (upd (upd (upd (upd (updL ρ [(0, .slice L mm cl), (1, .slice TL mt tc), (4, .bool false), (5, .pointer (some ⟨p7, 0, none⟩)), (6, .slice A k cp), (7, .slice A2 k2 cp2), (8, .slice A3 k cp3), (9, .int .i64 ((i : Nat) : Int)), (10, .pointer (some ⟨w9.heap.size, 0, none⟩)), (11, .int .i64 kk), (12, .int .i64 a24), (13, .int .i64 a29), (14, .int .i64 a34), (15, .int .i64 0), (34, .bool (decide (((i : Nat) : Int) < (mm : Int)))), (84, .bool (((decide (kk > 0)) && (decide (kk < 6))) && (((((k : Int) == 0) || (decide (a24 < 0))) || (decide (a29 < 0))) || ((decide (kk > 3)) && (decide (a34 < 0)))))), (88, .bool (kk == 0)), (100, .bool ((decide (kk > 0)) && (decide (kk < 6))))]) 107 (.slice A k cp)) 108 (.int .i64 0)) 109 (.slice (some ⟨w93.heap.size, 0, none⟩) 1 1)) 110 (.slice A138 (k + 1) cp139)) 6 (.slice A138 (k + 1) cp139)) (by kernel_rfl) ?_
                    refine op_nil ?_
                    refine W_region (by kernel_rfl) ?_
                    refine seg6 (ρ' := upd (upd (upd (upd (upd (upd (upd (upd (upd (upd (upd (updL ρ [(0, .slice L mm cl), (1, .slice TL mt tc), (4, .bool false), (5, .pointer (some ⟨p7, 0, none⟩)), (6, .slice A k cp), (7, .slice A2 k2 cp2), (8, .slice A3 k cp3), (9, .int .i64 ((i : Nat) : Int)), (10, .pointer (some ⟨w9.heap.size, 0, none⟩)), (11, .int .i64 kk), (12, .int .i64 a24), (13, .int .i64 a29), (14, .int .i64 a34), (15, .int .i64 0), (34, .bool (decide (((i : Nat) : Int) < (mm : Int)))), (84, .bool (((decide (kk > 0)) && (decide (kk < 6))) && (((((k : Int) == 0) || (decide (a24 < 0))) || (decide (a29 < 0))) || ((decide (kk > 3)) && (decide (a34 < 0)))))), (88, .bool (kk == 0)), (100, .bool ((decide (kk > 0)) && (decide (kk < 6))))]) 107 (.slice A k cp)) 108 (.int .i64 0)) 109 (.slice (some ⟨w93.heap.size, 0, none⟩) 1 1)) 110 (.slice A138 (k + 1) cp139)) 6 (.slice A138 (k + 1) cp139)) 111 (.slice A3 k cp3)) 112 (.int .i64 kk)) 113 (.int .i64 a24)) 114 (.int .i64 a29)) 115 (.int .i64 a34)) 116 (.agg #[.int .i64 kk, .int .i64 a24, .int .i64 a29, .int .i64 a34])) (by kernel_rfl) ?_
                    have hlt_ := hG.1.lt
                    have z148 := hT0.size
                    have l149 := hB14.lt
                    refine st (by rfl) (S_new (v := .slice (some ⟨w140.heap.size, 0, none⟩) 1 1) (ob := .cells #[.int .i64 kk, .int .i64 a24, .int .i64 a29, .int .i64 a34] 34) (by kernel_rfl) fun w144 hT145 hs146 hB147 => ?_)
                    replace hB147 : Blk w144 (w140.heap.size) 34 [.int .i64 kk, .int .i64 a24, .int .i64 a29, .int .i64 a34] := hB147
                    have hT0 := hT0.t0 hT145
                    have hG := hG.tch0 hT145
                    have hTo := hTo.tch0 hT145
                    have hIn := hIn.tch0 hT145
                    have hAr := hAr.tch0 hT145
                    have hLc := hL.tch0 hT0
                    have hB14 := hB14.tch0 hT145
                    have nF_hB147 : ¬ F (w140.heap.size) := fun e => by have := hlt_ _ e; omega
                    have hz_ := hT0.size
                    have hGl_ := hG.1.lt
                    have lR_hTo := hTo.lt
                    have lR_hIn := hIn.lt
                    have lR_hAr := hAr.lt
                    refine st (by rfl) (S_appendR 28 34 (.agg #[.int .i64 0, .int .i64 0, .int .i64 0, .int .i64 0]) 4 32 (n := k) (m := 1) (A := A3) (cp := cp3) (cells := ac) (news := [.int .i64 kk, .int .i64 a24, .int .i64 a29, .int .i64 a34]) (b := w140.heap.size) (off := 0) (c := 1) (by kernel_rfl) (by kernel_rfl) (by decide) (by kernel_rfl) (by kernel_rfl) (by kernel_rfl) hAr (by rfl) (fun k u hk => by rw [Nat.zero_add, hB147.cell]; exact hk) (by simp [oneV]) (by simp only [maxLen]; omega) (by omega) fun A150 cp151 w152 hO153 hw154 hT155 => ?_)
                    have hT0 := (hT0).then hT155 nB_hAr
                    have hG := hG.tchS hT155 (fun c e => nF_hAr c e)
                    have hTo := hTo.tch hT155 (fun c hc e => Own.ne_own hTo hAr (by decide) c hc e)
                    have hIn := hIn.tch hT155 (fun c hc e => Own.ne_own hIn hAr (by decide) c hc e)
                    have hLc := hL.tch0 hT0
                    have hB14 := hB14.tch hT155 (fun e => hAr.blk_ne hB14 (by decide) _ e rfl)
                    have hAr : Own w152 0 34 4 (.slice A150 (k + 1) cp151) (k + 1) (ac ++ [.int .i64 kk, .int .i64 a24, .int .i64 a29, .int .i64 a34]) := hO153
                    have nF_hAr : ∀ c, (Value.slice A150 (k + 1) cp151).ownBlock = some c → ¬ F c := fun c hc => (hw154 c hc).elim (nF_hAr c) (fun q e => by have := hGl_ _ e; omega)
                    have nB_hAr : ∀ c, (Value.slice A150 (k + 1) cp151).ownBlock = some c → w.heap.size ≤ c := fun c hc => (hw154 c hc).elim (nB_hAr c) (fun q => by omega)
                    refine seg1 (ρ' := upd (upd (upd (upd (upd (upd (upd (upd (upd (upd (upd (upd (upd (upd (updL ρ [(0, .slice L mm cl), (1, .slice TL mt tc), (4, .bool false), (5, .pointer (some ⟨p7, 0, none⟩)), (6, .slice A k cp), (7, .slice A2 k2 cp2), (8, .slice A3 k cp3), (9, .int .i64 ((i : Nat) : Int)), (10, .pointer (some ⟨w9.heap.size, 0, none⟩)), (11, .int .i64 kk), (12, .int .i64 a24), (13, .int .i64 a29), (14, .int .i64 a34), (15, .int .i64 0), (34, .bool (decide (((i : Nat) : Int) < (mm : Int)))), (84, .bool (((decide (kk > 0)) && (decide (kk < 6))) && (((((k : Int) == 0) || (decide (a24 < 0))) || (decide (a29 < 0))) || ((decide (kk > 3)) && (decide (a34 < 0)))))), (88, .bool (kk == 0)), (100, .bool ((decide (kk > 0)) && (decide (kk < 6))))]) 107 (.slice A k cp)) 108 (.int .i64 0)) 109 (.slice (some ⟨w93.heap.size, 0, none⟩) 1 1)) 110 (.slice A138 (k + 1) cp139)) 6 (.slice A138 (k + 1) cp139)) 111 (.slice A3 k cp3)) 112 (.int .i64 kk)) 113 (.int .i64 a24)) 114 (.int .i64 a29)) 115 (.int .i64 a34)) 116 (.agg #[.int .i64 kk, .int .i64 a24, .int .i64 a29, .int .i64 a34])) 117 (.slice (some ⟨w140.heap.size, 0, none⟩) 1 1)) 118 (.slice A150 (k + 1) cp151)) 8 (.slice A150 (k + 1) cp151)) (by kernel_rfl) ?_
                    refine op_nil ?_
                    refine W_fg [(0, .slice L mm cl), (1, .slice TL mt tc), (4, .bool false), (5, .pointer (some ⟨p7, 0, none⟩)), (6, .slice A138 (k + 1) cp139), (7, .slice A2 k2 cp2), (8, .slice A150 (k + 1) cp151), (9, .int .i64 ((i : Nat) : Int)), (10, .pointer (some ⟨w9.heap.size, 0, none⟩)), (11, .int .i64 kk), (12, .int .i64 a24), (13, .int .i64 a29), (14, .int .i64 a34), (15, .int .i64 0), (34, .bool (decide (((i : Nat) : Int) < (mm : Int)))), (84, .bool (((decide (kk > 0)) && (decide (kk < 6))) && (((((k : Int) == 0) || (decide (a24 < 0))) || (decide (a29 < 0))) || ((decide (kk > 3)) && (decide (a34 < 0)))))), (88, .bool (kk == 0)), (100, .bool ((decide (kk > 0)) && (decide (kk < 6))))] (by kernel_rfl) fun ρ => ?_
                    refine W_region (by kernel_rfl) ?_
                    refine seg2 (ρ' := upd (upd (updL ρ [(0, .slice L mm cl), (1, .slice TL mt tc), (4, .bool false), (5, .pointer (some ⟨p7, 0, none⟩)), (6, .slice A138 (k + 1) cp139), (7, .slice A2 k2 cp2), (8, .slice A150 (k + 1) cp151), (9, .int .i64 ((i : Nat) : Int)), (10, .pointer (some ⟨w9.heap.size, 0, none⟩)), (11, .int .i64 kk), (12, .int .i64 a24), (13, .int .i64 a29), (14, .int .i64 a34), (15, .int .i64 0), (34, .bool (decide (((i : Nat) : Int) < (mm : Int)))), (84, .bool (((decide (kk > 0)) && (decide (kk < 6))) && (((((k : Int) == 0) || (decide (a24 < 0))) || (decide (a29 < 0))) || ((decide (kk > 3)) && (decide (a34 < 0)))))), (88, .bool (kk == 0)), (100, .bool ((decide (kk > 0)) && (decide (kk < 6))))]) 35 (.int .i64 ((i : Nat) : Int))) 36 (.int .i64 (IntKind.i64.wrap (((i : Nat) : Int) + 1)))) (by kernel_rfl) ?_
                    rw [show IntKind.i64.wrap (((i : Nat) : Int) + 1) = ((i : Nat) : Int) + 1 from wrap_i64 (by omega) (by omega)]
                    rw [show upd (upd (updL ρ [(0, .slice L mm cl), (1, .slice TL mt tc), (4, .bool false), (5, .pointer (some ⟨p7, 0, none⟩)), (6, .slice A138 (k + 1) cp139), (7, .slice A2 k2 cp2), (8, .slice A150 (k + 1) cp151), (9, .int .i64 ((i : Nat) : Int)), (10, .pointer (some ⟨w9.heap.size, 0, none⟩)), (11, .int .i64 kk), (12, .int .i64 a24), (13, .int .i64 a29), (14, .int .i64 a34), (15, .int .i64 0), (34, .bool (decide (((i : Nat) : Int) < (mm : Int)))), (84, .bool (((decide (kk > 0)) && (decide (kk < 6))) && (((((k : Int) == 0) || (decide (a24 < 0))) || (decide (a29 < 0))) || ((decide (kk > 3)) && (decide (a34 < 0)))))), (88, .bool (kk == 0)), (100, .bool ((decide (kk > 0)) && (decide (kk < 6))))]) 35 (.int .i64 ((i : Nat) : Int))) 36 (.int .i64 (((i : Nat) : Int) + 1)) = upd (upd (updL ρ [(0, .slice L mm cl), (1, .slice TL mt tc), (4, .bool false), (5, .pointer (some ⟨p7, 0, none⟩)), (6, .slice A138 (k + 1) cp139), (7, .slice A2 k2 cp2), (8, .slice A150 (k + 1) cp151), (9, .int .i64 ((i : Nat) : Int)), (10, .pointer (some ⟨w9.heap.size, 0, none⟩)), (11, .int .i64 kk), (12, .int .i64 a24), (13, .int .i64 a29), (14, .int .i64 a34), (15, .int .i64 0), (34, .bool (decide (((i : Nat) : Int) < (mm : Int)))), (84, .bool (((decide (kk > 0)) && (decide (kk < 6))) && (((((k : Int) == 0) || (decide (a24 < 0))) || (decide (a29 < 0))) || ((decide (kk > 3)) && (decide (a34 < 0)))))), (88, .bool (kk == 0)), (100, .bool ((decide (kk > 0)) && (decide (kk < 6))))]) 35 (.int .i64 ((i : Nat) : Int))) 36 (.int .i64 ((i + 1 : Nat) : Int)) from congrArg (fun z => upd (upd (updL ρ [(0, .slice L mm cl), (1, .slice TL mt tc), (4, .bool false), (5, .pointer (some ⟨p7, 0, none⟩)), (6, .slice A138 (k + 1) cp139), (7, .slice A2 k2 cp2), (8, .slice A150 (k + 1) cp151), (9, .int .i64 ((i : Nat) : Int)), (10, .pointer (some ⟨w9.heap.size, 0, none⟩)), (11, .int .i64 kk), (12, .int .i64 a24), (13, .int .i64 a29), (14, .int .i64 a34), (15, .int .i64 0), (34, .bool (decide (((i : Nat) : Int) < (mm : Int)))), (84, .bool (((decide (kk > 0)) && (decide (kk < 6))) && (((((k : Int) == 0) || (decide (a24 < 0))) || (decide (a29 < 0))) || ((decide (kk > 3)) && (decide (a34 < 0)))))), (88, .bool (kk == 0)), (100, .bool ((decide (kk > 0)) && (decide (kk < 6))))]) 35 (.int .i64 ((i : Nat) : Int))) 36 (.int .i64 z)) (by omega)]
                    refine seg1 (ρ' := upd (upd (upd (updL ρ [(0, .slice L mm cl), (1, .slice TL mt tc), (4, .bool false), (5, .pointer (some ⟨p7, 0, none⟩)), (6, .slice A138 (k + 1) cp139), (7, .slice A2 k2 cp2), (8, .slice A150 (k + 1) cp151), (9, .int .i64 ((i : Nat) : Int)), (10, .pointer (some ⟨w9.heap.size, 0, none⟩)), (11, .int .i64 kk), (12, .int .i64 a24), (13, .int .i64 a29), (14, .int .i64 a34), (15, .int .i64 0), (34, .bool (decide (((i : Nat) : Int) < (mm : Int)))), (84, .bool (((decide (kk > 0)) && (decide (kk < 6))) && (((((k : Int) == 0) || (decide (a24 < 0))) || (decide (a29 < 0))) || ((decide (kk > 3)) && (decide (a34 < 0)))))), (88, .bool (kk == 0)), (100, .bool ((decide (kk > 0)) && (decide (kk < 6))))]) 35 (.int .i64 ((i : Nat) : Int))) 36 (.int .i64 ((i + 1 : Nat) : Int))) 9 (.int .i64 ((i + 1 : Nat) : Int))) (by kernel_rfl) ?_
                    refine op_nil ?_
                    refine ⟨_, ?_, F, n, cs, I, A138, cp139, told ++ [0], k + 1, A2, cp2, inp, k2, A150, cp151, ac ++ [.int .i64 kk, .int .i64 a24, .int .i64 a29, .int .i64 a34], dsPush k ds2 (kk, a24, a29, a34), i + 1, _, updL_self (by kernel_rfl), ?_, ?_, ?_, ?_, hArg.push (.top hG.2.pos (by omega)) ⟨by omega, by omega⟩ hb25 hb30 hb35, hInp, hFb, nF_hTo, nB_hTo, nF_hIn, nB_hIn, nF_hAr, nB_hAr, dj_hTo_hIn, hT0, hG, hTo, hIn, hAr, hLc, rfl⟩
                    · omega
                    · omega
                    · omega
                    · omega
                    · omega
        · replace hc10 : (mm : Int) ≤ ((i : Nat) : Int) := (Int.not_lt.1 (of_decide_eq_false hc10))
          refine W_exit ?_
          refine X_hit ?_
          refine W_seq ?_
          refine W_region (by kernel_rfl) ?_
          refine seg1 (ρ' := upd (upd (upd (upd (upd (updL ρ [(0, .slice L mm cl), (1, .slice TL mt tc), (4, .bool false), (5, .pointer (some ⟨p7, 0, none⟩)), (6, .slice A k cp), (7, .slice A2 k2 cp2), (8, .slice A3 k cp3), (9, .int .i64 ((i : Nat) : Int))]) 31 (.int .i64 ((i : Nat) : Int))) 32 (.slice L mm cl)) 33 (.int .i64 (mm : Int))) 34 (.bool (decide (((i : Nat) : Int) < (mm : Int))))) 16 (.slice none 0 0)) (by kernel_rfl) ?_
          refine op_nil ?_
          refine W_seq ?_
          refine W_seq ?_
          refine W_region (by kernel_rfl) ?_
          refine seg1 (ρ' := upd (upd (upd (upd (upd (upd (updL ρ [(0, .slice L mm cl), (1, .slice TL mt tc), (4, .bool false), (5, .pointer (some ⟨p7, 0, none⟩)), (6, .slice A k cp), (7, .slice A2 k2 cp2), (8, .slice A3 k cp3), (9, .int .i64 ((i : Nat) : Int))]) 31 (.int .i64 ((i : Nat) : Int))) 32 (.slice L mm cl)) 33 (.int .i64 (mm : Int))) 34 (.bool (decide (((i : Nat) : Int) < (mm : Int))))) 16 (.slice none 0 0)) 17 (.int .i64 0)) (by kernel_rfl) ?_
          refine op_nil ?_
          refine W_block ?_
          refine W_loop (fun m ρ w' => ∃ (A4 : Option Addr) (cp4 : Nat) (hol : List Nat) (i2 : Nat) (ρ0 : Env), ρ = updL ρ0 [(1, .slice TL mt tc), (4, .bool false), (5, .pointer (some ⟨p7, 0, none⟩)), (6, .slice A k cp), (7, .slice A2 k2 cp2), (8, .slice A3 k cp3), (16, .slice A4 i2 cp4), (17, .int .i64 ((i2 : Nat) : Int))] ∧ (i2 ≤ k2) ∧ (HolInv inp i2 hol) ∧ (∀ c, (Value.slice A4 i2 cp4).ownBlock = some c → ¬ F c) ∧ (∀ c, (Value.slice A4 i2 cp4).ownBlock = some c → w.heap.size ≤ c) ∧ (∀ c, (Value.slice A4 i2 cp4).ownBlock = some c → (Value.slice A k cp).ownBlock = some c → False) ∧ (∀ c, (Value.slice A4 i2 cp4).ownBlock = some c → (Value.slice A2 k2 cp2).ownBlock = some c → False) ∧ Tch N0 w w' ∧ GObj F w' p7 n cs I ∧ Own w' 0 3 1 (.slice A k cp) k (nats told) ∧ Own w' 0 3 1 (.slice A2 k2 cp2) k2 (nats inp) ∧ Own w' 0 34 4 (.slice A3 k cp3) k ac ∧ Own w' 0 3 1 (.slice A4 i2 cp4) i2 (nats hol) ∧ m = k2 - i2) (m := k2 - 0) ?_ ?_
          · refine ⟨none, 0, [], 0, _, updL_self (by kernel_rfl), by omega, HolInv.zero _, (fun c hc => by cases hc), (fun c hc => by cases hc), (fun c hc => by cases hc), (fun c hc => by cases hc), hT0, hG, hTo, hIn, hAr, Own.nil_ _ _ _ _, rfl⟩
          · rintro m ρ w156 ⟨A4, cp4, hol, i2, ρ, rfl, hi2, hHol, nF_hHo, nB_hHo, dj_hHo_hTo, dj_hHo_hIn, hT0, hG, hTo, hIn, hAr, hHo, rfl⟩
            have hl2 := hInp.1
            have hb2 : i2 < k2 → inp.getD i2 0 / 2 < n := fun h => (hInp.2.2.1 i2 h).2
            refine W_seq ?_
            refine W_seq ?_
            refine W_region (by kernel_rfl) ?_
            refine seg4 (ρ' := upd (upd (upd (upd (updL ρ [(1, .slice TL mt tc), (4, .bool false), (5, .pointer (some ⟨p7, 0, none⟩)), (6, .slice A k cp), (7, .slice A2 k2 cp2), (8, .slice A3 k cp3), (16, .slice A4 i2 cp4), (17, .int .i64 ((i2 : Nat) : Int))]) 119 (.int .i64 ((i2 : Nat) : Int))) 120 (.slice A2 k2 cp2)) 121 (.int .i64 (k2 : Int))) 122 (.bool (decide (((i2 : Nat) : Int) < (k2 : Int))))) (by kernel_rfl) ?_
            refine op_nil ?_
            refine W_cond (decide (((i2 : Nat) : Int) < (k2 : Int))) (by kernel_rfl) (by kernel_rfl) (fun hc157 => ?_) (fun hc157 => ?_)
            · replace hc157 : ((i2 : Nat) : Int) < (k2 : Int) := (of_decide_eq_true hc157)
              refine W_skip ?_
              refine W_seq ?_
              refine W_block ?_
              refine W_seq ?_
              refine W_region (by kernel_rfl) ?_
              refine seg2 (ρ' := upd (upd (upd (upd (upd (upd (updL ρ [(1, .slice TL mt tc), (4, .bool false), (5, .pointer (some ⟨p7, 0, none⟩)), (6, .slice A k cp), (7, .slice A2 k2 cp2), (8, .slice A3 k cp3), (16, .slice A4 i2 cp4), (17, .int .i64 ((i2 : Nat) : Int))]) 119 (.int .i64 ((i2 : Nat) : Int))) 120 (.slice A2 k2 cp2)) 121 (.int .i64 (k2 : Int))) 122 (.bool (decide (((i2 : Nat) : Int) < (k2 : Int))))) 125 (.slice A2 k2 cp2)) 126 (.int .i64 ((i2 : Nat) : Int))) (by kernel_rfl) ?_
              refine stv (v := ptrAt A2 i2) (by rfl) (R_indexRd1 (len := k2) (cap := cp2) (k := .i64) (i := ((i2 : Nat) : Int)) (e := 3) i2 hIn.rdS (by kernel_rfl) (by kernel_rfl) (by kernel_rfl) (by kernel_rfl) rfl (by omega)) ?_
              refine stv (v := .int .i64 ((inp.getD i2 0 : Nat) : Int)) (by rfl) (R_loadRd (v := .int .i64 ((inp.getD i2 0 : Nat) : Int)) hIn.rdS (by omega) (by kernel_rfl) (by kernel_rfl) (nats_at (l := inp) (by omega))) ?_
              refine seg1 (ρ' := upd (upd (upd (upd (upd (upd (upd (upd (upd (updL ρ [(1, .slice TL mt tc), (4, .bool false), (5, .pointer (some ⟨p7, 0, none⟩)), (6, .slice A k cp), (7, .slice A2 k2 cp2), (8, .slice A3 k cp3), (16, .slice A4 i2 cp4), (17, .int .i64 ((i2 : Nat) : Int))]) 119 (.int .i64 ((i2 : Nat) : Int))) 120 (.slice A2 k2 cp2)) 121 (.int .i64 (k2 : Int))) 122 (.bool (decide (((i2 : Nat) : Int) < (k2 : Int))))) 125 (.slice A2 k2 cp2)) 126 (.int .i64 ((i2 : Nat) : Int))) 127 (ptrAt A2 i2)) 128 (.int .i64 ((inp.getD i2 0 : Nat) : Int))) 18 (.int .i64 ((inp.getD i2 0 : Nat) : Int))) (by kernel_rfl) ?_
              refine op_nil ?_
              refine W_seq ?_
              refine W_seq ?_
              refine W_fg [(1, .slice TL mt tc), (4, .bool false), (5, .pointer (some ⟨p7, 0, none⟩)), (6, .slice A k cp), (7, .slice A2 k2 cp2), (8, .slice A3 k cp3), (16, .slice A4 i2 cp4), (17, .int .i64 ((i2 : Nat) : Int)), (18, .int .i64 ((inp.getD i2 0 : Nat) : Int)), (122, .bool (decide (((i2 : Nat) : Int) < (k2 : Int))))] (by kernel_rfl) fun ρ => ?_
              refine W_region (by kernel_rfl) ?_
              refine seg5 (ρ' := upd (upd (upd (upd (upd (updL ρ [(1, .slice TL mt tc), (4, .bool false), (5, .pointer (some ⟨p7, 0, none⟩)), (6, .slice A k cp), (7, .slice A2 k2 cp2), (8, .slice A3 k cp3), (16, .slice A4 i2 cp4), (17, .int .i64 ((i2 : Nat) : Int)), (18, .int .i64 ((inp.getD i2 0 : Nat) : Int)), (122, .bool (decide (((i2 : Nat) : Int) < (k2 : Int))))]) 129 (.int .i64 ((i2 : Nat) : Int))) 130 (.slice TL mt tc)) 131 (.int .i64 (mt : Int))) 132 (.bool (decide (((i2 : Nat) : Int) < (mt : Int))))) 133 (.bool (decide (((i2 : Nat) : Int) < (mt : Int))))) (by kernel_rfl) ?_
              cases hb158 : decide (((i2 : Nat) : Int) < (mt : Int))
              · replace hb158 : (mt : Int) ≤ ((i2 : Nat) : Int) := (Int.not_lt.1 (of_decide_eq_false hb158))
                refine seg5 (ρ' := upd (upd (upd (upd (upd (upd (upd (upd (upd (upd (updL ρ [(1, .slice TL mt tc), (4, .bool false), (5, .pointer (some ⟨p7, 0, none⟩)), (6, .slice A k cp), (7, .slice A2 k2 cp2), (8, .slice A3 k cp3), (16, .slice A4 i2 cp4), (17, .int .i64 ((i2 : Nat) : Int)), (18, .int .i64 ((inp.getD i2 0 : Nat) : Int)), (122, .bool (decide (((i2 : Nat) : Int) < (k2 : Int))))]) 129 (.int .i64 ((i2 : Nat) : Int))) 130 (.slice TL mt tc)) 131 (.int .i64 (mt : Int))) 132 (.bool false)) 133 (.bool false)) 134 (undef)) 135 (undef)) 136 (undef)) 137 (undef)) 138 (.bool false)) (by kernel_rfl) ?_
                refine op_nil ?_
                refine W_cond false (by kernel_rfl) (by kernel_rfl) (fun h => nomatch h) (fun _ => ?_)
                refine W_skip ?_
                refine W_fg [(1, .slice TL mt tc), (4, .bool false), (5, .pointer (some ⟨p7, 0, none⟩)), (6, .slice A k cp), (7, .slice A2 k2 cp2), (8, .slice A3 k cp3), (16, .slice A4 i2 cp4), (17, .int .i64 ((i2 : Nat) : Int)), (18, .int .i64 ((inp.getD i2 0 : Nat) : Int)), (122, .bool (decide (((i2 : Nat) : Int) < (k2 : Int)))), (138, .bool false)] (by kernel_rfl) fun ρ => ?_
                refine W_region (by kernel_rfl) ?_
                refine seg2 (ρ' := upd (upd (updL ρ [(1, .slice TL mt tc), (4, .bool false), (5, .pointer (some ⟨p7, 0, none⟩)), (6, .slice A k cp), (7, .slice A2 k2 cp2), (8, .slice A3 k cp3), (16, .slice A4 i2 cp4), (17, .int .i64 ((i2 : Nat) : Int)), (18, .int .i64 ((inp.getD i2 0 : Nat) : Int)), (122, .bool (decide (((i2 : Nat) : Int) < (k2 : Int)))), (138, .bool false)]) 141 (.slice A4 i2 cp4)) 142 (.int .i64 ((inp.getD i2 0 : Nat) : Int))) (by kernel_rfl) ?_
                have hlt_ := hG.1.lt
                have z163 := hT0.size
                refine st (by rfl) (S_new (v := .slice (some ⟨w156.heap.size, 0, none⟩) 1 1) (ob := .cells #[.int .i64 ((inp.getD i2 0 : Nat) : Int)] 3) (by kernel_rfl) fun w159 hT160 hs161 hB162 => ?_)
                replace hB162 : Blk w159 (w156.heap.size) 3 [.int .i64 ((inp.getD i2 0 : Nat) : Int)] := hB162
                have hT0 := hT0.t0 hT160
                have hG := hG.tch0 hT160
                have hTo := hTo.tch0 hT160
                have hIn := hIn.tch0 hT160
                have hAr := hAr.tch0 hT160
                have hHo := hHo.tch0 hT160
                have nF_hB162 : ¬ F (w156.heap.size) := fun e => by have := hlt_ _ e; omega
                have hz_ := hT0.size
                have hGl_ := hG.1.lt
                have lR_hTo := hTo.lt
                have lR_hIn := hIn.lt
                have lR_hAr := hAr.lt
                have lR_hHo := hHo.lt
                refine st (by rfl) (S_appendR 27 3 (.int .i64 0) 1 8 (n := i2) (m := 1) (A := A4) (cp := cp4) (cells := nats hol) (news := [.int .i64 ((inp.getD i2 0 : Nat) : Int)]) (b := w156.heap.size) (off := 0) (c := 1) (by kernel_rfl) (by kernel_rfl) (by decide) (by kernel_rfl) (by kernel_rfl) (by kernel_rfl) hHo (by rfl) (fun k u hk => by rw [Nat.zero_add, hB162.cell]; exact hk) (by simp [oneV]) (by simp only [maxLen]; omega) (by omega) fun A164 cp165 w166 hO167 hw168 hT169 => ?_)
                have hT0 := (hT0).then hT169 nB_hHo
                have hG := hG.tchS hT169 (fun c e => nF_hHo c e)
                have hTo := hTo.tch hT169 (fun c hc e => dj_hHo_hTo c e hc)
                have hIn := hIn.tch hT169 (fun c hc e => dj_hHo_hIn c e hc)
                have hAr := hAr.tch hT169 (fun c hc e => Own.ne_own hAr hHo (by decide) c hc e)
                have hHo : Own w166 0 3 1 (.slice A164 (i2 + 1) cp165) (i2 + 1) (nats (hol ++ [inp.getD i2 0])) := by rw [nats_append]; exact hO167
                have nF_hHo : ∀ c, (Value.slice A164 (i2 + 1) cp165).ownBlock = some c → ¬ F c := fun c hc => (hw168 c hc).elim (nF_hHo c) (fun q e => by have := hGl_ _ e; omega)
                have nB_hHo : ∀ c, (Value.slice A164 (i2 + 1) cp165).ownBlock = some c → w.heap.size ≤ c := fun c hc => (hw168 c hc).elim (nB_hHo c) (fun q => by omega)
                have dj_hHo_hTo : ∀ c, (Value.slice A164 (i2 + 1) cp165).ownBlock = some c → (Value.slice A (k) cp).ownBlock = some c → False := fun c h1 h2 => (hw168 c h1).elim (fun q => dj_hHo_hTo c q h2) (fun q => by have := lR_hTo c h2; omega)
                have dj_hHo_hIn : ∀ c, (Value.slice A164 (i2 + 1) cp165).ownBlock = some c → (Value.slice A2 (k2) cp2).ownBlock = some c → False := fun c h1 h2 => (hw168 c h1).elim (fun q => dj_hHo_hIn c q h2) (fun q => by have := lR_hIn c h2; omega)
                refine seg1 (ρ' := upd (upd (upd (upd (upd (updL ρ [(1, .slice TL mt tc), (4, .bool false), (5, .pointer (some ⟨p7, 0, none⟩)), (6, .slice A k cp), (7, .slice A2 k2 cp2), (8, .slice A3 k cp3), (16, .slice A4 i2 cp4), (17, .int .i64 ((i2 : Nat) : Int)), (18, .int .i64 ((inp.getD i2 0 : Nat) : Int)), (122, .bool (decide (((i2 : Nat) : Int) < (k2 : Int)))), (138, .bool false)]) 141 (.slice A4 i2 cp4)) 142 (.int .i64 ((inp.getD i2 0 : Nat) : Int))) 143 (.slice (some ⟨w156.heap.size, 0, none⟩) 1 1)) 144 (.slice A164 (i2 + 1) cp165)) 16 (.slice A164 (i2 + 1) cp165)) (by kernel_rfl) ?_
                refine op_nil ?_
                refine W_region (by kernel_rfl) ?_
                refine seg2 (ρ' := upd (upd (upd (upd (upd (upd (upd (updL ρ [(1, .slice TL mt tc), (4, .bool false), (5, .pointer (some ⟨p7, 0, none⟩)), (6, .slice A k cp), (7, .slice A2 k2 cp2), (8, .slice A3 k cp3), (16, .slice A4 i2 cp4), (17, .int .i64 ((i2 : Nat) : Int)), (18, .int .i64 ((inp.getD i2 0 : Nat) : Int)), (122, .bool (decide (((i2 : Nat) : Int) < (k2 : Int)))), (138, .bool false)]) 141 (.slice A4 i2 cp4)) 142 (.int .i64 ((inp.getD i2 0 : Nat) : Int))) 143 (.slice (some ⟨w156.heap.size, 0, none⟩) 1 1)) 144 (.slice A164 (i2 + 1) cp165)) 16 (.slice A164 (i2 + 1) cp165)) 123 (.int .i64 ((i2 : Nat) : Int))) 124 (.int .i64 (IntKind.i64.wrap (((i2 : Nat) : Int) + 1)))) (by kernel_rfl) ?_
                rw [show IntKind.i64.wrap (((i2 : Nat) : Int) + 1) = ((i2 : Nat) : Int) + 1 from wrap_i64 (by omega) (by omega)]
                rw [show upd (upd (upd (upd (upd (upd (upd (updL ρ [(1, .slice TL mt tc), (4, .bool false), (5, .pointer (some ⟨p7, 0, none⟩)), (6, .slice A k cp), (7, .slice A2 k2 cp2), (8, .slice A3 k cp3), (16, .slice A4 i2 cp4), (17, .int .i64 ((i2 : Nat) : Int)), (18, .int .i64 ((inp.getD i2 0 : Nat) : Int)), (122, .bool (decide (((i2 : Nat) : Int) < (k2 : Int)))), (138, .bool false)]) 141 (.slice A4 i2 cp4)) 142 (.int .i64 ((inp.getD i2 0 : Nat) : Int))) 143 (.slice (some ⟨w156.heap.size, 0, none⟩) 1 1)) 144 (.slice A164 (i2 + 1) cp165)) 16 (.slice A164 (i2 + 1) cp165)) 123 (.int .i64 ((i2 : Nat) : Int))) 124 (.int .i64 (((i2 : Nat) : Int) + 1)) = upd (upd (upd (upd (upd (upd (upd (updL ρ [(1, .slice TL mt tc), (4, .bool false), (5, .pointer (some ⟨p7, 0, none⟩)), (6, .slice A k cp), (7, .slice A2 k2 cp2), (8, .slice A3 k cp3), (16, .slice A4 i2 cp4), (17, .int .i64 ((i2 : Nat) : Int)), (18, .int .i64 ((inp.getD i2 0 : Nat) : Int)), (122, .bool (decide (((i2 : Nat) : Int) < (k2 : Int)))), (138, .bool false)]) 141 (.slice A4 i2 cp4)) 142 (.int .i64 ((inp.getD i2 0 : Nat) : Int))) 143 (.slice (some ⟨w156.heap.size, 0, none⟩) 1 1)) 144 (.slice A164 (i2 + 1) cp165)) 16 (.slice A164 (i2 + 1) cp165)) 123 (.int .i64 ((i2 : Nat) : Int))) 124 (.int .i64 ((i2 + 1 : Nat) : Int)) from congrArg (fun z => upd (upd (upd (upd (upd (upd (upd (updL ρ [(1, .slice TL mt tc), (4, .bool false), (5, .pointer (some ⟨p7, 0, none⟩)), (6, .slice A k cp), (7, .slice A2 k2 cp2), (8, .slice A3 k cp3), (16, .slice A4 i2 cp4), (17, .int .i64 ((i2 : Nat) : Int)), (18, .int .i64 ((inp.getD i2 0 : Nat) : Int)), (122, .bool (decide (((i2 : Nat) : Int) < (k2 : Int)))), (138, .bool false)]) 141 (.slice A4 i2 cp4)) 142 (.int .i64 ((inp.getD i2 0 : Nat) : Int))) 143 (.slice (some ⟨w156.heap.size, 0, none⟩) 1 1)) 144 (.slice A164 (i2 + 1) cp165)) 16 (.slice A164 (i2 + 1) cp165)) 123 (.int .i64 ((i2 : Nat) : Int))) 124 (.int .i64 z)) (by omega)]
                refine seg1 (ρ' := upd (upd (upd (upd (upd (upd (upd (upd (updL ρ [(1, .slice TL mt tc), (4, .bool false), (5, .pointer (some ⟨p7, 0, none⟩)), (6, .slice A k cp), (7, .slice A2 k2 cp2), (8, .slice A3 k cp3), (16, .slice A4 i2 cp4), (17, .int .i64 ((i2 : Nat) : Int)), (18, .int .i64 ((inp.getD i2 0 : Nat) : Int)), (122, .bool (decide (((i2 : Nat) : Int) < (k2 : Int)))), (138, .bool false)]) 141 (.slice A4 i2 cp4)) 142 (.int .i64 ((inp.getD i2 0 : Nat) : Int))) 143 (.slice (some ⟨w156.heap.size, 0, none⟩) 1 1)) 144 (.slice A164 (i2 + 1) cp165)) 16 (.slice A164 (i2 + 1) cp165)) 123 (.int .i64 ((i2 : Nat) : Int))) 124 (.int .i64 ((i2 + 1 : Nat) : Int))) 17 (.int .i64 ((i2 + 1 : Nat) : Int))) (by kernel_rfl) ?_
                refine op_nil ?_
                refine ⟨_, ?_, A164, cp165, hol ++ [inp.getD i2 0], i2 + 1, _, updL_self (by kernel_rfl), ?_, hHol.push (by first | rfl | exact GateP.nt_div _), nF_hHo, nB_hHo, dj_hHo_hTo, dj_hHo_hIn, hT0, hG, hTo, hIn, hAr, hHo, rfl⟩
                · omega
                · omega
              · replace hb158 : ((i2 : Nat) : Int) < (mt : Int) := (of_decide_eq_true hb158)
                refine seg2 (ρ' := upd (upd (upd (upd (upd (upd (upd (updL ρ [(1, .slice TL mt tc), (4, .bool false), (5, .pointer (some ⟨p7, 0, none⟩)), (6, .slice A k cp), (7, .slice A2 k2 cp2), (8, .slice A3 k cp3), (16, .slice A4 i2 cp4), (17, .int .i64 ((i2 : Nat) : Int)), (18, .int .i64 ((inp.getD i2 0 : Nat) : Int)), (122, .bool (decide (((i2 : Nat) : Int) < (k2 : Int))))]) 129 (.int .i64 ((i2 : Nat) : Int))) 130 (.slice TL mt tc)) 131 (.int .i64 (mt : Int))) 132 (.bool true)) 133 (.bool true)) 134 (.slice TL mt tc)) 135 (.int .i64 ((i2 : Nat) : Int))) (by kernel_rfl) ?_
                refine stv (v := ptrAt TL i2) (by kernel_rfl) (R_indexRd1 (len := mt) (cap := tc) (k := .i64) (i := ((i2 : Nat) : Int)) (e := 4) i2 (hTL.tch0 hT0) (by kernel_rfl) (by kernel_rfl) (by kernel_rfl) (by kernel_rfl) rfl (by omega)) ?_
                refine stv (v := .bool (tru.getD i2 false)) (by kernel_rfl) (R_loadRd (v := .bool (tru.getD i2 false)) (hTL.tch0 hT0) (by omega) (by kernel_rfl) (by kernel_rfl) (boolsV_at tru (by omega))) ?_
                refine seg1 (ρ' := upd (upd (upd (upd (upd (upd (upd (upd (upd (upd (updL ρ [(1, .slice TL mt tc), (4, .bool false), (5, .pointer (some ⟨p7, 0, none⟩)), (6, .slice A k cp), (7, .slice A2 k2 cp2), (8, .slice A3 k cp3), (16, .slice A4 i2 cp4), (17, .int .i64 ((i2 : Nat) : Int)), (18, .int .i64 ((inp.getD i2 0 : Nat) : Int)), (122, .bool (decide (((i2 : Nat) : Int) < (k2 : Int))))]) 129 (.int .i64 ((i2 : Nat) : Int))) 130 (.slice TL mt tc)) 131 (.int .i64 (mt : Int))) 132 (.bool true)) 133 (.bool true)) 134 (.slice TL mt tc)) 135 (.int .i64 ((i2 : Nat) : Int))) 136 (ptrAt TL i2)) 137 (.bool (tru.getD i2 false))) 138 (.bool (tru.getD i2 false))) (by kernel_rfl) ?_
                refine op_nil ?_
                refine W_cond (tru.getD i2 false) (by kernel_rfl) (by kernel_rfl) (fun hc170 => ?_) (fun hc170 => ?_)
                · replace hc170 : tru.getD i2 false = true := (hc170)
                  refine W_fg [(1, .slice TL mt tc), (4, .bool false), (5, .pointer (some ⟨p7, 0, none⟩)), (6, .slice A k cp), (7, .slice A2 k2 cp2), (8, .slice A3 k cp3), (16, .slice A4 i2 cp4), (17, .int .i64 ((i2 : Nat) : Int)), (18, .int .i64 ((inp.getD i2 0 : Nat) : Int)), (122, .bool (decide (((i2 : Nat) : Int) < (k2 : Int)))), (138, .bool (tru.getD i2 false))] (by kernel_rfl) fun ρ => ?_
                  refine W_region (by kernel_rfl) ?_
                  refine seg1 (ρ' := upd (updL ρ [(1, .slice TL mt tc), (4, .bool false), (5, .pointer (some ⟨p7, 0, none⟩)), (6, .slice A k cp), (7, .slice A2 k2 cp2), (8, .slice A3 k cp3), (16, .slice A4 i2 cp4), (17, .int .i64 ((i2 : Nat) : Int)), (18, .int .i64 ((inp.getD i2 0 : Nat) : Int)), (122, .bool (decide (((i2 : Nat) : Int) < (k2 : Int)))), (138, .bool (tru.getD i2 false))]) 139 (.int .i64 ((inp.getD i2 0 : Nat) : Int))) (by kernel_rfl) ?_
                  refine st (by rfl) (S_call (args := [.int .i64 ((inp.getD i2 0 : Nat) : Int)]) (by kernel_rfl) (rnot_ok (inp.getD i2 0) _ (by omega)) ?_)
                  rintro _ w171 ⟨rfl, hT172⟩
                  have hT0 := hT0.t0 hT172
                  have hG := hG.tch0 hT172
                  have hTo := hTo.tch0 hT172
                  have hIn := hIn.tch0 hT172
                  have hAr := hAr.tch0 hT172
                  have hHo := hHo.tch0 hT172
                  have hnt173 := GateP.nt_div (inp.getD i2 0)
                  refine seg1 (ρ' := upd (upd (upd (updL ρ [(1, .slice TL mt tc), (4, .bool false), (5, .pointer (some ⟨p7, 0, none⟩)), (6, .slice A k cp), (7, .slice A2 k2 cp2), (8, .slice A3 k cp3), (16, .slice A4 i2 cp4), (17, .int .i64 ((i2 : Nat) : Int)), (18, .int .i64 ((inp.getD i2 0 : Nat) : Int)), (122, .bool (decide (((i2 : Nat) : Int) < (k2 : Int)))), (138, .bool (tru.getD i2 false))]) 139 (.int .i64 ((inp.getD i2 0 : Nat) : Int))) 140 (.int .i64 ((GateP.nt (inp.getD i2 0) : Nat) : Int))) 18 (.int .i64 ((GateP.nt (inp.getD i2 0) : Nat) : Int))) (by kernel_rfl) ?_
                  refine op_nil ?_
                  refine W_region (by kernel_rfl) ?_
                  refine seg2 (ρ' := upd (upd (upd (upd (upd (updL ρ [(1, .slice TL mt tc), (4, .bool false), (5, .pointer (some ⟨p7, 0, none⟩)), (6, .slice A k cp), (7, .slice A2 k2 cp2), (8, .slice A3 k cp3), (16, .slice A4 i2 cp4), (17, .int .i64 ((i2 : Nat) : Int)), (18, .int .i64 ((inp.getD i2 0 : Nat) : Int)), (122, .bool (decide (((i2 : Nat) : Int) < (k2 : Int)))), (138, .bool (tru.getD i2 false))]) 139 (.int .i64 ((inp.getD i2 0 : Nat) : Int))) 140 (.int .i64 ((GateP.nt (inp.getD i2 0) : Nat) : Int))) 18 (.int .i64 ((GateP.nt (inp.getD i2 0) : Nat) : Int))) 141 (.slice A4 i2 cp4)) 142 (.int .i64 ((GateP.nt (inp.getD i2 0) : Nat) : Int))) (by kernel_rfl) ?_
                  have hlt_ := hG.1.lt
                  have z178 := hT0.size
                  refine st (by rfl) (S_new (v := .slice (some ⟨w171.heap.size, 0, none⟩) 1 1) (ob := .cells #[.int .i64 ((GateP.nt (inp.getD i2 0) : Nat) : Int)] 3) (by kernel_rfl) fun w174 hT175 hs176 hB177 => ?_)
                  replace hB177 : Blk w174 (w171.heap.size) 3 [.int .i64 ((GateP.nt (inp.getD i2 0) : Nat) : Int)] := hB177
                  have hT0 := hT0.t0 hT175
                  have hG := hG.tch0 hT175
                  have hTo := hTo.tch0 hT175
                  have hIn := hIn.tch0 hT175
                  have hAr := hAr.tch0 hT175
                  have hHo := hHo.tch0 hT175
                  have nF_hB177 : ¬ F (w171.heap.size) := fun e => by have := hlt_ _ e; omega
                  have hz_ := hT0.size
                  have hGl_ := hG.1.lt
                  have lR_hTo := hTo.lt
                  have lR_hIn := hIn.lt
                  have lR_hAr := hAr.lt
                  have lR_hHo := hHo.lt
                  refine st (by rfl) (S_appendR 27 3 (.int .i64 0) 1 8 (n := i2) (m := 1) (A := A4) (cp := cp4) (cells := nats hol) (news := [.int .i64 ((GateP.nt (inp.getD i2 0) : Nat) : Int)]) (b := w171.heap.size) (off := 0) (c := 1) (by kernel_rfl) (by kernel_rfl) (by decide) (by kernel_rfl) (by kernel_rfl) (by kernel_rfl) hHo (by rfl) (fun k u hk => by rw [Nat.zero_add, hB177.cell]; exact hk) (by simp [oneV]) (by simp only [maxLen]; omega) (by omega) fun A179 cp180 w181 hO182 hw183 hT184 => ?_)
                  have hT0 := (hT0).then hT184 nB_hHo
                  have hG := hG.tchS hT184 (fun c e => nF_hHo c e)
                  have hTo := hTo.tch hT184 (fun c hc e => dj_hHo_hTo c e hc)
                  have hIn := hIn.tch hT184 (fun c hc e => dj_hHo_hIn c e hc)
                  have hAr := hAr.tch hT184 (fun c hc e => Own.ne_own hAr hHo (by decide) c hc e)
                  have hHo : Own w181 0 3 1 (.slice A179 (i2 + 1) cp180) (i2 + 1) (nats (hol ++ [GateP.nt (inp.getD i2 0)])) := by rw [nats_append]; exact hO182
                  have nF_hHo : ∀ c, (Value.slice A179 (i2 + 1) cp180).ownBlock = some c → ¬ F c := fun c hc => (hw183 c hc).elim (nF_hHo c) (fun q e => by have := hGl_ _ e; omega)
                  have nB_hHo : ∀ c, (Value.slice A179 (i2 + 1) cp180).ownBlock = some c → w.heap.size ≤ c := fun c hc => (hw183 c hc).elim (nB_hHo c) (fun q => by omega)
                  have dj_hHo_hTo : ∀ c, (Value.slice A179 (i2 + 1) cp180).ownBlock = some c → (Value.slice A (k) cp).ownBlock = some c → False := fun c h1 h2 => (hw183 c h1).elim (fun q => dj_hHo_hTo c q h2) (fun q => by have := lR_hTo c h2; omega)
                  have dj_hHo_hIn : ∀ c, (Value.slice A179 (i2 + 1) cp180).ownBlock = some c → (Value.slice A2 (k2) cp2).ownBlock = some c → False := fun c h1 h2 => (hw183 c h1).elim (fun q => dj_hHo_hIn c q h2) (fun q => by have := lR_hIn c h2; omega)
                  refine seg1 (ρ' := upd (upd (upd (upd (upd (upd (upd (upd (updL ρ [(1, .slice TL mt tc), (4, .bool false), (5, .pointer (some ⟨p7, 0, none⟩)), (6, .slice A k cp), (7, .slice A2 k2 cp2), (8, .slice A3 k cp3), (16, .slice A4 i2 cp4), (17, .int .i64 ((i2 : Nat) : Int)), (18, .int .i64 ((inp.getD i2 0 : Nat) : Int)), (122, .bool (decide (((i2 : Nat) : Int) < (k2 : Int)))), (138, .bool (tru.getD i2 false))]) 139 (.int .i64 ((inp.getD i2 0 : Nat) : Int))) 140 (.int .i64 ((GateP.nt (inp.getD i2 0) : Nat) : Int))) 18 (.int .i64 ((GateP.nt (inp.getD i2 0) : Nat) : Int))) 141 (.slice A4 i2 cp4)) 142 (.int .i64 ((GateP.nt (inp.getD i2 0) : Nat) : Int))) 143 (.slice (some ⟨w171.heap.size, 0, none⟩) 1 1)) 144 (.slice A179 (i2 + 1) cp180)) 16 (.slice A179 (i2 + 1) cp180)) (by kernel_rfl) ?_
                  refine op_nil ?_
                  refine W_fg [(1, .slice TL mt tc), (4, .bool false), (5, .pointer (some ⟨p7, 0, none⟩)), (6, .slice A k cp), (7, .slice A2 k2 cp2), (8, .slice A3 k cp3), (16, .slice A179 (i2 + 1) cp180), (17, .int .i64 ((i2 : Nat) : Int)), (18, .int .i64 ((GateP.nt (inp.getD i2 0) : Nat) : Int)), (122, .bool (decide (((i2 : Nat) : Int) < (k2 : Int)))), (138, .bool (tru.getD i2 false))] (by kernel_rfl) fun ρ => ?_
                  refine W_region (by kernel_rfl) ?_
                  refine seg2 (ρ' := upd (upd (updL ρ [(1, .slice TL mt tc), (4, .bool false), (5, .pointer (some ⟨p7, 0, none⟩)), (6, .slice A k cp), (7, .slice A2 k2 cp2), (8, .slice A3 k cp3), (16, .slice A179 (i2 + 1) cp180), (17, .int .i64 ((i2 : Nat) : Int)), (18, .int .i64 ((GateP.nt (inp.getD i2 0) : Nat) : Int)), (122, .bool (decide (((i2 : Nat) : Int) < (k2 : Int)))), (138, .bool (tru.getD i2 false))]) 123 (.int .i64 ((i2 : Nat) : Int))) 124 (.int .i64 (IntKind.i64.wrap (((i2 : Nat) : Int) + 1)))) (by kernel_rfl) ?_
                  rw [show IntKind.i64.wrap (((i2 : Nat) : Int) + 1) = ((i2 : Nat) : Int) + 1 from wrap_i64 (by omega) (by omega)]
                  rw [show upd (upd (updL ρ [(1, .slice TL mt tc), (4, .bool false), (5, .pointer (some ⟨p7, 0, none⟩)), (6, .slice A k cp), (7, .slice A2 k2 cp2), (8, .slice A3 k cp3), (16, .slice A179 (i2 + 1) cp180), (17, .int .i64 ((i2 : Nat) : Int)), (18, .int .i64 ((GateP.nt (inp.getD i2 0) : Nat) : Int)), (122, .bool (decide (((i2 : Nat) : Int) < (k2 : Int)))), (138, .bool (tru.getD i2 false))]) 123 (.int .i64 ((i2 : Nat) : Int))) 124 (.int .i64 (((i2 : Nat) : Int) + 1)) = upd (upd (updL ρ [(1, .slice TL mt tc), (4, .bool false), (5, .pointer (some ⟨p7, 0, none⟩)), (6, .slice A k cp), (7, .slice A2 k2 cp2), (8, .slice A3 k cp3), (16, .slice A179 (i2 + 1) cp180), (17, .int .i64 ((i2 : Nat) : Int)), (18, .int .i64 ((GateP.nt (inp.getD i2 0) : Nat) : Int)), (122, .bool (decide (((i2 : Nat) : Int) < (k2 : Int)))), (138, .bool (tru.getD i2 false))]) 123 (.int .i64 ((i2 : Nat) : Int))) 124 (.int .i64 ((i2 + 1 : Nat) : Int)) from congrArg (fun z => upd (upd (updL ρ [(1, .slice TL mt tc), (4, .bool false), (5, .pointer (some ⟨p7, 0, none⟩)), (6, .slice A k cp), (7, .slice A2 k2 cp2), (8, .slice A3 k cp3), (16, .slice A179 (i2 + 1) cp180), (17, .int .i64 ((i2 : Nat) : Int)), (18, .int .i64 ((GateP.nt (inp.getD i2 0) : Nat) : Int)), (122, .bool (decide (((i2 : Nat) : Int) < (k2 : Int)))), (138, .bool (tru.getD i2 false))]) 123 (.int .i64 ((i2 : Nat) : Int))) 124 (.int .i64 z)) (by omega)]
                  refine seg1 (ρ' := upd (upd (upd (updL ρ [(1, .slice TL mt tc), (4, .bool false), (5, .pointer (some ⟨p7, 0, none⟩)), (6, .slice A k cp), (7, .slice A2 k2 cp2), (8, .slice A3 k cp3), (16, .slice A179 (i2 + 1) cp180), (17, .int .i64 ((i2 : Nat) : Int)), (18, .int .i64 ((GateP.nt (inp.getD i2 0) : Nat) : Int)), (122, .bool (decide (((i2 : Nat) : Int) < (k2 : Int)))), (138, .bool (tru.getD i2 false))]) 123 (.int .i64 ((i2 : Nat) : Int))) 124 (.int .i64 ((i2 + 1 : Nat) : Int))) 17 (.int .i64 ((i2 + 1 : Nat) : Int))) (by kernel_rfl) ?_
                  refine op_nil ?_
                  refine ⟨_, ?_, A179, cp180, hol ++ [GateP.nt (inp.getD i2 0)], i2 + 1, _, updL_self (by kernel_rfl), ?_, hHol.push (by first | rfl | exact GateP.nt_div _), nF_hHo, nB_hHo, dj_hHo_hTo, dj_hHo_hIn, hT0, hG, hTo, hIn, hAr, hHo, rfl⟩
                  · omega
                  · omega
                · replace hc170 : tru.getD i2 false = false := (hc170)
                  refine W_skip ?_
                  refine W_fg [(1, .slice TL mt tc), (4, .bool false), (5, .pointer (some ⟨p7, 0, none⟩)), (6, .slice A k cp), (7, .slice A2 k2 cp2), (8, .slice A3 k cp3), (16, .slice A4 i2 cp4), (17, .int .i64 ((i2 : Nat) : Int)), (18, .int .i64 ((inp.getD i2 0 : Nat) : Int)), (122, .bool (decide (((i2 : Nat) : Int) < (k2 : Int)))), (138, .bool (tru.getD i2 false))] (by kernel_rfl) fun ρ => ?_
                  refine W_region (by kernel_rfl) ?_
                  refine seg2 (ρ' := upd (upd (updL ρ [(1, .slice TL mt tc), (4, .bool false), (5, .pointer (some ⟨p7, 0, none⟩)), (6, .slice A k cp), (7, .slice A2 k2 cp2), (8, .slice A3 k cp3), (16, .slice A4 i2 cp4), (17, .int .i64 ((i2 : Nat) : Int)), (18, .int .i64 ((inp.getD i2 0 : Nat) : Int)), (122, .bool (decide (((i2 : Nat) : Int) < (k2 : Int)))), (138, .bool (tru.getD i2 false))]) 141 (.slice A4 i2 cp4)) 142 (.int .i64 ((inp.getD i2 0 : Nat) : Int))) (by kernel_rfl) ?_
                  have hlt_ := hG.1.lt
                  have z189 := hT0.size
                  refine st (by rfl) (S_new (v := .slice (some ⟨w156.heap.size, 0, none⟩) 1 1) (ob := .cells #[.int .i64 ((inp.getD i2 0 : Nat) : Int)] 3) (by kernel_rfl) fun w185 hT186 hs187 hB188 => ?_)
                  replace hB188 : Blk w185 (w156.heap.size) 3 [.int .i64 ((inp.getD i2 0 : Nat) : Int)] := hB188
                  have hT0 := hT0.t0 hT186
                  have hG := hG.tch0 hT186
                  have hTo := hTo.tch0 hT186
                  have hIn := hIn.tch0 hT186
                  have hAr := hAr.tch0 hT186
                  have hHo := hHo.tch0 hT186
                  have nF_hB188 : ¬ F (w156.heap.size) := fun e => by have := hlt_ _ e; omega
                  have hz_ := hT0.size
                  have hGl_ := hG.1.lt
                  have lR_hTo := hTo.lt
                  have lR_hIn := hIn.lt
                  have lR_hAr := hAr.lt
                  have lR_hHo := hHo.lt
                  refine st (by rfl) (S_appendR 27 3 (.int .i64 0) 1 8 (n := i2) (m := 1) (A := A4) (cp := cp4) (cells := nats hol) (news := [.int .i64 ((inp.getD i2 0 : Nat) : Int)]) (b := w156.heap.size) (off := 0) (c := 1) (by kernel_rfl) (by kernel_rfl) (by decide) (by kernel_rfl) (by kernel_rfl) (by kernel_rfl) hHo (by rfl) (fun k u hk => by rw [Nat.zero_add, hB188.cell]; exact hk) (by simp [oneV]) (by simp only [maxLen]; omega) (by omega) fun A190 cp191 w192 hO193 hw194 hT195 => ?_)
                  have hT0 := (hT0).then hT195 nB_hHo
                  have hG := hG.tchS hT195 (fun c e => nF_hHo c e)
                  have hTo := hTo.tch hT195 (fun c hc e => dj_hHo_hTo c e hc)
                  have hIn := hIn.tch hT195 (fun c hc e => dj_hHo_hIn c e hc)
                  have hAr := hAr.tch hT195 (fun c hc e => Own.ne_own hAr hHo (by decide) c hc e)
                  have hHo : Own w192 0 3 1 (.slice A190 (i2 + 1) cp191) (i2 + 1) (nats (hol ++ [inp.getD i2 0])) := by rw [nats_append]; exact hO193
                  have nF_hHo : ∀ c, (Value.slice A190 (i2 + 1) cp191).ownBlock = some c → ¬ F c := fun c hc => (hw194 c hc).elim (nF_hHo c) (fun q e => by have := hGl_ _ e; omega)
                  have nB_hHo : ∀ c, (Value.slice A190 (i2 + 1) cp191).ownBlock = some c → w.heap.size ≤ c := fun c hc => (hw194 c hc).elim (nB_hHo c) (fun q => by omega)
                  have dj_hHo_hTo : ∀ c, (Value.slice A190 (i2 + 1) cp191).ownBlock = some c → (Value.slice A (k) cp).ownBlock = some c → False := fun c h1 h2 => (hw194 c h1).elim (fun q => dj_hHo_hTo c q h2) (fun q => by have := lR_hTo c h2; omega)
                  have dj_hHo_hIn : ∀ c, (Value.slice A190 (i2 + 1) cp191).ownBlock = some c → (Value.slice A2 (k2) cp2).ownBlock = some c → False := fun c h1 h2 => (hw194 c h1).elim (fun q => dj_hHo_hIn c q h2) (fun q => by have := lR_hIn c h2; omega)
                  refine seg1 (ρ' := upd (upd (upd (upd (upd (updL ρ [(1, .slice TL mt tc), (4, .bool false), (5, .pointer (some ⟨p7, 0, none⟩)), (6, .slice A k cp), (7, .slice A2 k2 cp2), (8, .slice A3 k cp3), (16, .slice A4 i2 cp4), (17, .int .i64 ((i2 : Nat) : Int)), (18, .int .i64 ((inp.getD i2 0 : Nat) : Int)), (122, .bool (decide (((i2 : Nat) : Int) < (k2 : Int)))), (138, .bool (tru.getD i2 false))]) 141 (.slice A4 i2 cp4)) 142 (.int .i64 ((inp.getD i2 0 : Nat) : Int))) 143 (.slice (some ⟨w156.heap.size, 0, none⟩) 1 1)) 144 (.slice A190 (i2 + 1) cp191)) 16 (.slice A190 (i2 + 1) cp191)) (by kernel_rfl) ?_
                  refine op_nil ?_
                  refine W_region (by kernel_rfl) ?_
                  refine seg2 (ρ' := upd (upd (upd (upd (upd (upd (upd (updL ρ [(1, .slice TL mt tc), (4, .bool false), (5, .pointer (some ⟨p7, 0, none⟩)), (6, .slice A k cp), (7, .slice A2 k2 cp2), (8, .slice A3 k cp3), (16, .slice A4 i2 cp4), (17, .int .i64 ((i2 : Nat) : Int)), (18, .int .i64 ((inp.getD i2 0 : Nat) : Int)), (122, .bool (decide (((i2 : Nat) : Int) < (k2 : Int)))), (138, .bool (tru.getD i2 false))]) 141 (.slice A4 i2 cp4)) 142 (.int .i64 ((inp.getD i2 0 : Nat) : Int))) 143 (.slice (some ⟨w156.heap.size, 0, none⟩) 1 1)) 144 (.slice A190 (i2 + 1) cp191)) 16 (.slice A190 (i2 + 1) cp191)) 123 (.int .i64 ((i2 : Nat) : Int))) 124 (.int .i64 (IntKind.i64.wrap (((i2 : Nat) : Int) + 1)))) (by kernel_rfl) ?_
                  rw [show IntKind.i64.wrap (((i2 : Nat) : Int) + 1) = ((i2 : Nat) : Int) + 1 from wrap_i64 (by omega) (by omega)]
                  rw [show upd (upd (upd (upd (upd (upd (upd (updL ρ [(1, .slice TL mt tc), (4, .bool false), (5, .pointer (some ⟨p7, 0, none⟩)), (6, .slice A k cp), (7, .slice A2 k2 cp2), (8, .slice A3 k cp3), (16, .slice A4 i2 cp4), (17, .int .i64 ((i2 : Nat) : Int)), (18, .int .i64 ((inp.getD i2 0 : Nat) : Int)), (122, .bool (decide (((i2 : Nat) : Int) < (k2 : Int)))), (138, .bool (tru.getD i2 false))]) 141 (.slice A4 i2 cp4)) 142 (.int .i64 ((inp.getD i2 0 : Nat) : Int))) 143 (.slice (some ⟨w156.heap.size, 0, none⟩) 1 1)) 144 (.slice A190 (i2 + 1) cp191)) 16 (.slice A190 (i2 + 1) cp191)) 123 (.int .i64 ((i2 : Nat) : Int))) 124 (.int .i64 (((i2 : Nat) : Int) + 1)) = upd (upd (upd (upd (upd (upd (upd (updL ρ [(1, .slice TL mt tc), (4, .bool false), (5, .pointer (some ⟨p7, 0, none⟩)), (6, .slice A k cp), (7, .slice A2 k2 cp2), (8, .slice A3 k cp3), (16, .slice A4 i2 cp4), (17, .int .i64 ((i2 : Nat) : Int)), (18, .int .i64 ((inp.getD i2 0 : Nat) : Int)), (122, .bool (decide (((i2 : Nat) : Int) < (k2 : Int)))), (138, .bool (tru.getD i2 false))]) 141 (.slice A4 i2 cp4)) 142 (.int .i64 ((inp.getD i2 0 : Nat) : Int))) 143 (.slice (some ⟨w156.heap.size, 0, none⟩) 1 1)) 144 (.slice A190 (i2 + 1) cp191)) 16 (.slice A190 (i2 + 1) cp191)) 123 (.int .i64 ((i2 : Nat) : Int))) 124 (.int .i64 ((i2 + 1 : Nat) : Int)) from congrArg (fun z => upd (upd (upd (upd (upd (upd (upd (updL ρ [(1, .slice TL mt tc), (4, .bool false), (5, .pointer (some ⟨p7, 0, none⟩)), (6, .slice A k cp), (7, .slice A2 k2 cp2), (8, .slice A3 k cp3), (16, .slice A4 i2 cp4), (17, .int .i64 ((i2 : Nat) : Int)), (18, .int .i64 ((inp.getD i2 0 : Nat) : Int)), (122, .bool (decide (((i2 : Nat) : Int) < (k2 : Int)))), (138, .bool (tru.getD i2 false))]) 141 (.slice A4 i2 cp4)) 142 (.int .i64 ((inp.getD i2 0 : Nat) : Int))) 143 (.slice (some ⟨w156.heap.size, 0, none⟩) 1 1)) 144 (.slice A190 (i2 + 1) cp191)) 16 (.slice A190 (i2 + 1) cp191)) 123 (.int .i64 ((i2 : Nat) : Int))) 124 (.int .i64 z)) (by omega)]
                  refine seg1 (ρ' := upd (upd (upd (upd (upd (upd (upd (upd (updL ρ [(1, .slice TL mt tc), (4, .bool false), (5, .pointer (some ⟨p7, 0, none⟩)), (6, .slice A k cp), (7, .slice A2 k2 cp2), (8, .slice A3 k cp3), (16, .slice A4 i2 cp4), (17, .int .i64 ((i2 : Nat) : Int)), (18, .int .i64 ((inp.getD i2 0 : Nat) : Int)), (122, .bool (decide (((i2 : Nat) : Int) < (k2 : Int)))), (138, .bool (tru.getD i2 false))]) 141 (.slice A4 i2 cp4)) 142 (.int .i64 ((inp.getD i2 0 : Nat) : Int))) 143 (.slice (some ⟨w156.heap.size, 0, none⟩) 1 1)) 144 (.slice A190 (i2 + 1) cp191)) 16 (.slice A190 (i2 + 1) cp191)) 123 (.int .i64 ((i2 : Nat) : Int))) 124 (.int .i64 ((i2 + 1 : Nat) : Int))) 17 (.int .i64 ((i2 + 1 : Nat) : Int))) (by kernel_rfl) ?_
                  refine op_nil ?_
                  refine ⟨_, ?_, A190, cp191, hol ++ [inp.getD i2 0], i2 + 1, _, updL_self (by kernel_rfl), ?_, hHol.push (by first | rfl | exact GateP.nt_div _), nF_hHo, nB_hHo, dj_hHo_hTo, dj_hHo_hIn, hT0, hG, hTo, hIn, hAr, hHo, rfl⟩
                  · omega
                  · omega
            · replace hc157 : (k2 : Int) ≤ ((i2 : Nat) : Int) := (Int.not_lt.1 (of_decide_eq_false hc157))
              refine W_exit ?_
              refine X_hit ?_
              refine W_seq ?_
              have hHol2 : HolInv inp k2 hol := (show i2 = k2 by omega) ▸ hHol
              obtain ⟨tt, hin, hfh⟩ := hold_t hInp hHol2
              refine W_region (by kernel_rfl) ?_
              refine seg4 (ρ' := upd (upd (upd (upd (upd (upd (upd (upd (updL ρ [(1, .slice TL mt tc), (4, .bool false), (5, .pointer (some ⟨p7, 0, none⟩)), (6, .slice A k cp), (7, .slice A2 k2 cp2), (8, .slice A3 k cp3), (16, .slice A4 i2 cp4), (17, .int .i64 ((i2 : Nat) : Int))]) 119 (.int .i64 ((i2 : Nat) : Int))) 120 (.slice A2 k2 cp2)) 121 (.int .i64 (k2 : Int))) 122 (.bool (decide (((i2 : Nat) : Int) < (k2 : Int))))) 145 (.pointer (some ⟨p7, 0, none⟩))) 146 (.slice A4 i2 cp4)) 147 (.slice A k cp)) 148 (.slice A3 k cp3)) (by kernel_rfl) ?_
              refine st (by rfl) (S_call (args := [.pointer (some ⟨p7, 0, none⟩), .slice A4 i2 cp4, .slice A k cp, .slice A3 k cp3]) (by kernel_rfl) (follows_ok F p7 n k cp i2 cp4 cp3 cs I A A4 A3 told hol ac ds2 tt _ hG (by omega) hHo.rdS hTo.rdS hAr.rdS hArg hin hfh) ?_)
              rintro _ w196 ⟨rfl, hT197⟩
              have hT0 := hT0.t0 hT197
              have hG := hG.tch0 hT197
              have hTo := hTo.tch0 hT197
              have hIn := hIn.tch0 hT197
              have hAr := hAr.tch0 hT197
              have hHo := hHo.tch0 hT197
              refine seg1 (ρ' := upd (upd (upd (upd (upd (upd (upd (upd (upd (upd (updL ρ [(1, .slice TL mt tc), (4, .bool false), (5, .pointer (some ⟨p7, 0, none⟩)), (6, .slice A k cp), (7, .slice A2 k2 cp2), (8, .slice A3 k cp3), (16, .slice A4 i2 cp4), (17, .int .i64 ((i2 : Nat) : Int))]) 119 (.int .i64 ((i2 : Nat) : Int))) 120 (.slice A2 k2 cp2)) 121 (.int .i64 (k2 : Int))) 122 (.bool (decide (((i2 : Nat) : Int) < (k2 : Int))))) 145 (.pointer (some ⟨p7, 0, none⟩))) 146 (.slice A4 i2 cp4)) 147 (.slice A k cp)) 148 (.slice A3 k cp3)) 149 (.bool true)) 150 (.bool true)) (by kernel_rfl) ?_
              refine st (by kernel_rfl) (S_call (args := []) (by kernel_rfl) (awake19_ok _) ?_)
              rintro _ w198 ⟨rfl, hT199⟩
              have hT0 := hT0.t0 hT199
              have hG := hG.tch0 hT199
              have hTo := hTo.tch0 hT199
              have hIn := hIn.tch0 hT199
              have hAr := hAr.tch0 hT199
              have hHo := hHo.tch0 hT199
              refine seg2 (ρ' := upd (upd (upd (upd (upd (upd (upd (upd (upd (upd (upd (upd (upd (updL ρ [(1, .slice TL mt tc), (4, .bool false), (5, .pointer (some ⟨p7, 0, none⟩)), (6, .slice A k cp), (7, .slice A2 k2 cp2), (8, .slice A3 k cp3), (16, .slice A4 i2 cp4), (17, .int .i64 ((i2 : Nat) : Int))]) 119 (.int .i64 ((i2 : Nat) : Int))) 120 (.slice A2 k2 cp2)) 121 (.int .i64 (k2 : Int))) 122 (.bool (decide (((i2 : Nat) : Int) < (k2 : Int))))) 145 (.pointer (some ⟨p7, 0, none⟩))) 146 (.slice A4 i2 cp4)) 147 (.slice A k cp)) 148 (.slice A3 k cp3)) 149 (.bool true)) 150 (.bool true)) 151 (.bool true)) 152 (.bool true)) 4 (.bool true)) (by kernel_rfl) ?_
              refine op_nil ?_
              refine W_ret ?_
              exact ⟨_, Res_of (v := .bool true) (by kernel_rfl), ⟨rfl, hT0⟩⟩
  · replace hb1 : 80 < (mm : Int) := (of_decide_eq_true hb1)
    refine seg4 (ρ' := upd (upd (upd (upd (upd (upd (upd (upd (upd (ini [.slice L mm cl, .slice TL mt tc]) 4 (.bool false)) 19 (.slice L mm cl)) 20 (.int .i64 (mm : Int))) 21 (.bool true)) 22 (.bool true)) 23 (undef)) 24 (undef)) 25 (undef)) 26 (.bool true)) (by kernel_rfl) ?_
    refine op_nil ?_
    refine W_cond true (by kernel_rfl) (by kernel_rfl) (fun _ => ?_) (fun h => nomatch h)
    refine W_seq ?_
    refine W_fg [(0, .slice L mm cl), (1, .slice TL mt tc), (4, .bool false), (26, .bool true)] (by kernel_rfl) fun ρ => ?_
    refine W_region (by kernel_rfl) ?_
    refine st (by rfl) (S_call (args := []) (by kernel_rfl) (awake19_ok _) ?_)
    rintro _ w200 ⟨rfl, hT201⟩
    have hT0 := hT201
    refine seg1 (ρ' := upd (upd (updL ρ [(0, .slice L mm cl), (1, .slice TL mt tc), (4, .bool false), (26, .bool true)]) 27 (.bool true)) 4 (.bool true)) (by kernel_rfl) ?_
    refine op_nil ?_
    refine W_ret ?_
    exact ⟨_, Res_of (v := .bool true) (by kernel_rfl), ⟨rfl, hT0⟩⟩

end Go.Proofs.YtnlecdpiccgdpaaV
