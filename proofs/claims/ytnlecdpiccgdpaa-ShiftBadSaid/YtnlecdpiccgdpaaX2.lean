/- Walks of functions of the program and of the document's texts. The conditions stand with each theorem. -/
import Derived.Test.YtnlecdpiccgdpaaVx13
import Derived.Test.YtnlecdpiccgdpaaProg
import Derived.Test.YtnlecdpiccgdpaaVx4
import Derived.Test.YtnlecdpiccgdpaaX1
set_option linter.unusedVariables false
set_option linter.unusedSimpArgs false
namespace Go.Proofs.YtnlecdpiccgdpaaV
open Go Go.RowKit Go.Proofs

set_option maxRecDepth 100000 in
theorem move9_ok (F : Nat → Prop) (p n mm ca cb : Nat) (A B : Option Addr) (a b : List Nat)  (cs : List (List Nat)) (I : Nat → Prop) (w : World) (hG : GObj F w p n cs I) (hA : RdX F w mm A (nats a)) (hB : RdX F w mm B (nats b)) (hfa : ∀ j, j < mm → a.getD j 0 / 2 < n) (hfb : ∀ j, j < mm → b.getD j 0 / 2 < n) (hm : 0 < mm) (hm2 : mm ≤ 1000) (hn : n ≤ 50000000000) : Ret Try.prog 31 [.pointer (some ⟨p, 0, none⟩), .int .i64 9, .slice A mm ca, .slice B mm cb] w fun v w' => RowR F p n cs I w mm 2000000 (fun be j => mvB true mm (fun j => lt_ be (a.getD j 0)) (false) (bval mm (fun j => lt_ be (b.getD j 0))) j) v w' := by
  have hMv := Mv.refl F w
  have hla : a.length = mm := by have := hA.1.1; rw [nats_length] at this; omega
  have hlb : b.length = mm := by have := hB.1.1; rw [nats_length] at this; omega
  have hAr := hA.1
  have hBr := hB.1
  have lt_hA := hA.lt
  have lt_hB := hB.lt
  have ge_hA : ∀ c, blkOf A = some c → 0 ≤ c := fun c _ => Nat.zero_le c
  have ge_hB : ∀ c, blkOf B = some c → 0 ≤ c := fun c _ => Nat.zero_le c
  have hff_a := hfa
  have hff_b := hfb
  have hpos := hG.2.pos
  refine enter Try.func31 rfl rfl ?_
  refine W_seq ?_
  refine W_region (by kernel_rfl) ?_
  refine sg [(8, .slice none 0 0)] (by kernel_rfl) ?_
  refine op_nil ?_
  refine W_seq ?_
  refine W_seq ?_
  refine W_region (by kernel_rfl) ?_
  refine sg [(14, .int .i64 9), (15, .bool false), (16, .bool false), (17, undef), (18, undef), (19, .bool false), (20, .bool false), (21, undef), (22, undef), (23, .bool false), (24, .bool false), (25, .pointer (some ⟨p, 0, none⟩)), (26, .slice A mm ca), (27, .slice B mm cb)] (by kernel_rfl) ?_
  have hzM := hMv.1.size
  refine st (by kernel_rfl) (S_call (args := [.pointer (some ⟨p, 0, none⟩), .int .i64 0, .slice A mm ca, .slice B mm cb]) (by kernel_rfl) (itr_ok F p n mm ca cb A B a b 0 cs I _ hG hA hB hff_a hff_b hm hm2 (by omega) (by omega)) ?_)
  rintro _ w1 ⟨F2, n3, cs4, g5, r6, rfl, hrl7, hX8, hg9, hG, hm10, hrw11, hd12⟩
  have hMv := hMv.trans hm10
  have hA := hA.mv hm10
  have hAr := hA.1
  have hB := hB.mv hm10
  have hBr := hB.1
  have hle13 := hrw11.le
  have hff_r6 := hrw11.fit
  have hrl_ := hrl7
  refine sg [(29, .int .i64 (mm : Int)), (30, .bool ((mm : Int) == 0)), (31, .bool ((mm : Int) == 0))] (by kernel_rfl) ?_
  refine op_nil ?_
  refine W_cond ((mm : Int) == 0) (by kernel_rfl) (by kernel_rfl) (fun hc14 => ?_) (fun hc14 => ?_)
  · replace hc14 : (mm : Int) = 0 := (eq_of_beq hc14)
    exfalso; omega
  · replace hc14 : (mm : Int) ≠ 0 := (ne_of_beq_false hc14)
    refine W_skip ?_
    refine W_seq ?_
    refine W_fg [(0, .pointer (some ⟨p, 0, none⟩)), (1, .int .i64 9), (2, .slice A mm ca), (3, .slice B mm cb), (8, .slice none 0 0), (31, .bool ((mm : Int) == 0))] (by kernel_rfl) fun ρ => ?_
    refine W_region (by kernel_rfl) ?_
    refine sg [(32, .slice A mm ca), (33, .int .i64 (mm : Int)), (9, .int .i64 (mm : Int))] (by kernel_rfl) ?_
    refine op_nil ?_
    refine W_seq ?_
    refine W_region (by kernel_rfl) ?_
    refine sg [(34, .pointer (some ⟨p, 0, none⟩))] (by kernel_rfl) ?_
    refine st (by rfl) (S_call (args := [.pointer (some ⟨p, 0, none⟩)]) (by kernel_rfl) (true_ok p _) ?_)
    rintro _ w15 ⟨rfl, hT16⟩
    have hG := hG.tch0 hT16
    have hMv := hMv.then0 hT16
    have hA := hA.tch0 hT16
    have hAr := hA.1
    have hB := hB.tch0 hT16
    have hBr := hB.1
    have hX8 := hX8.tch0 hT16
    refine st (by rfl) (S_call (args := [.int .i64 0]) (by kernel_rfl) (not_ok 0 _ (by omega)) ?_)
    rintro _ w17 ⟨rfl, hT18⟩
    have hG := hG.tch0 hT18
    have hMv := hMv.then0 hT18
    have hA := hA.tch0 hT18
    have hAr := hA.1
    have hB := hB.tch0 hT18
    have hBr := hB.1
    have hX8 := hX8.tch0 hT18
    have hnt19 := GateP.nt_div 0
    refine sg [(10, .int .i64 ((GateP.nt 0 : Nat) : Int))] (by kernel_rfl) ?_
    refine op_nil ?_
    refine W_seq ?_
    refine W_seq ?_
    refine W_region (by kernel_rfl) ?_
    refine sg [(37, .int .i64 9), (38, .bool false)] (by kernel_rfl) ?_
    refine op_nil ?_
    refine W_cond false (by kernel_rfl) (by kernel_rfl) (fun h => nomatch h) (fun _ => ?_)
    refine W_skip ?_
    refine W_seq ?_
    refine W_fg [(0, .pointer (some ⟨p, 0, none⟩)), (1, .int .i64 9), (2, .slice A mm ca), (3, .slice B mm cb), (8, .slice none 0 0), (9, .int .i64 (mm : Int)), (10, .int .i64 ((GateP.nt 0 : Nat) : Int)), (31, .bool ((mm : Int) == 0)), (38, .bool false)] (by kernel_rfl) fun ρ => ?_
    refine W_region (by kernel_rfl) ?_
    refine sg [(44, .slice A mm ca), (11, .slice A mm ca)] (by kernel_rfl) ?_
    refine op_nil ?_
    refine W_seq ?_
    refine W_region (by kernel_rfl) ?_
    refine sg [(45, .pointer (some ⟨p, 0, none⟩))] (by kernel_rfl) ?_
    refine st (by rfl) (S_call (args := [.pointer (some ⟨p, 0, none⟩)]) (by kernel_rfl) (true_ok p _) ?_)
    rintro _ w20 ⟨rfl, hT21⟩
    have hG := hG.tch0 hT21
    have hMv := hMv.then0 hT21
    have hA := hA.tch0 hT21
    have hAr := hA.1
    have hB := hB.tch0 hT21
    have hBr := hB.1
    have hX8 := hX8.tch0 hT21
    refine st (by rfl) (S_call (args := [.int .i64 0]) (by kernel_rfl) (not_ok 0 _ (by omega)) ?_)
    rintro _ w22 ⟨rfl, hT23⟩
    have hG := hG.tch0 hT23
    have hMv := hMv.then0 hT23
    have hA := hA.tch0 hT23
    have hAr := hA.1
    have hB := hB.tch0 hT23
    have hBr := hB.1
    have hX8 := hX8.tch0 hT23
    have hnt24 := GateP.nt_div 0
    refine sg [(12, .int .i64 ((GateP.nt 0 : Nat) : Int))] (by kernel_rfl) ?_
    refine op_nil ?_
    refine W_seq ?_
    refine W_seq ?_
    refine W_region (by kernel_rfl) ?_
    refine sg [(48, .int .i64 (mm : Int)), (49, .int .i64 0)] (by kernel_rfl) ?_
    refine op_nil ?_
    refine W_block ?_
    refine W_loop (fun m ρ w' => ∃ (F1 : Nat → Prop) (n1 : Nat) (cs1 : List (List Nat)) (Ao : Option Addr) (cao : Nat) (o : List Nat) (fr i : Nat) (ρ0 : Env), ρ = updL ρ0 [(0, .pointer (some ⟨p, 0, none⟩)), (1, .int .i64 9), (2, .slice A mm ca), (3, .slice B mm cb), (8, .slice none 0 0), (9, .int .i64 (mm : Int)), (10, .int .i64 ((GateP.nt 0 : Nat) : Int)), (11, .slice Ao mm cao), (12, .int .i64 ((fr : Nat) : Int)), (48, .int .i64 (mm : Int)), (49, .int .i64 ((i : Nat) : Int))] ∧ (i ≤ mm) ∧ (Rw n cs n1 cs1 mm o (fun be j => mvB true mm (fun j => lt_ be (a.getD j 0)) (lt_ be (GateP.nt 0)) (lowV mm (fun j => lt_ be (b.getD j 0)) i) j)) ∧ (Lw n1 cs1 fr (fun be => farV mm (fun j => lt_ be (b.getD j 0)) i)) ∧ (n1 ≤ n + 1001 + i * 1001) ∧ GObj F1 w' p n1 cs1 I ∧ Mv F F1 w w' ∧ RdX F1 w' mm A (nats a) ∧ RdW w' 1 mm A (nats a) ∧ RdX F1 w' mm B (nats b) ∧ RdW w' 1 mm B (nats b) ∧ RdX F1 w' mm Ao (nats o) ∧ RdW w' 1 mm Ao (nats o) ∧ m = mm - i) (m := mm - 0) ?_ ?_
    · refine ⟨F2, n3, cs4, A, ca, a, GateP.nt 0, 0, _, updL_self (by kernel_rfl), by omega, ⟨hrw11.le, hrw11.sub, fun j hj => by have := hfa j hj; have := hrw11.le; omega, fun be hm j hj => (mvB_zero (A := (fun j => lt_ be (a.getD j 0))) hj).symm⟩, ⟨by have := hG.2.pos; show (1 : Nat) / 2 < _; omega, fun be hm => hG.2.t1 hm⟩, by omega, hG, hMv, hA, hAr, hB, hBr, hA, hAr, rfl⟩
    · rintro m ρ w25 ⟨F1, n1, cs1, Ao, cao, o, fr, i, ρ, rfl, hi, hrw, hfr, hd, hG, hMv, hA, hAr, hB, hBr, hO, hOr, rfl⟩
      have hle_ := hrw.le
      have hff_o := hrw.fit
      have fb := fun q : i < mm => hfb i q
      have hffr := hfr.1
      have hpos := hG.2.pos
      have hff_a : ∀ j, j < mm → a.getD j 0 / 2 < n1 := fun j hj => by have := hfa j hj; omega
      have hflt : (GateP.nt 0) / 2 < n1 := by show (1 : Nat) / 2 < _; omega
      refine W_seq ?_
      refine W_region (by kernel_rfl) ?_
      refine sg [(50, .bool (decide (((i : Nat) : Int) < (mm : Int))))] (by kernel_rfl) ?_
      refine op_nil ?_
      refine W_seq ?_
      refine W_cond (decide (((i : Nat) : Int) < (mm : Int))) (by kernel_rfl) (by kernel_rfl) (fun hc26 => ?_) (fun hc26 => ?_)
      · replace hc26 : ((i : Nat) : Int) < (mm : Int) := (of_decide_eq_true hc26)
        refine W_skip ?_
        refine W_seq ?_
        refine W_block ?_
        refine W_seq ?_
        refine W_region (by kernel_rfl) ?_
        refine sg [(51, .int .i64 ((i : Nat) : Int)), (13, .int .i64 ((i : Nat) : Int))] (by kernel_rfl) ?_
        refine op_nil ?_
        refine W_seq ?_
        refine W_region (by kernel_rfl) ?_
        refine sg [(52, .int .i64 ((i : Nat) : Int)), (53, .bool (decide (((i : Nat) : Int) < 30))), (54, .bool (decide (((i : Nat) : Int) < 30)))] (by kernel_rfl) ?_
        cases hb27 : decide (((i : Nat) : Int) < 30)
        · replace hb27 : 30 ≤ ((i : Nat) : Int) := (Int.not_lt.1 (of_decide_eq_false hb27))
          refine sg [(55, undef), (56, undef), (57, undef), (58, undef), (59, .bool false)] (by kernel_rfl) ?_
          refine op_nil ?_
          refine W_cond false (by kernel_rfl) (by kernel_rfl) (fun h => nomatch h) (fun _ => ?_)
          refine W_fg [(0, .pointer (some ⟨p, 0, none⟩)), (1, .int .i64 9), (2, .slice A mm ca), (3, .slice B mm cb), (8, .slice none 0 0), (9, .int .i64 (mm : Int)), (10, .int .i64 ((GateP.nt 0 : Nat) : Int)), (11, .slice Ao mm cao), (12, .int .i64 ((fr : Nat) : Int)), (13, .int .i64 ((i : Nat) : Int)), (48, .int .i64 (mm : Int)), (49, .int .i64 ((i : Nat) : Int)), (50, .bool (decide (((i : Nat) : Int) < (mm : Int)))), (59, .bool false)] (by kernel_rfl) fun ρ => ?_
          have hbig : mm ≤ pw i := by first | omega | (have := pw30 (i := i) (by omega); omega)
          refine W_region (by kernel_rfl) ?_
          refine sg [(74, .pointer (some ⟨p, 0, none⟩)), (75, .int .i64 ((fr : Nat) : Int)), (76, .slice B mm cb), (77, .int .i64 ((i : Nat) : Int))] (by kernel_rfl) ?_
          refine stv (v := ptrAt B i) (by rfl) (R_indexRd1 (len := mm) (cap := cb) (k := .i64) (i := ((i : Nat) : Int)) (e := 3) i hBr (by kernel_rfl) (by kernel_rfl) (by kernel_rfl) (by kernel_rfl) rfl (by omega)) ?_
          refine stv (v := .int .i64 ((b.getD i 0 : Nat) : Int)) (by rfl) (R_loadRd (v := .int .i64 ((b.getD i 0 : Nat) : Int)) hBr (by omega) (by kernel_rfl) (by kernel_rfl) (nats_at (l := b) (by omega))) ?_
          refine st (by rfl) (S_call (args := [.pointer (some ⟨p, 0, none⟩), .int .i64 ((fr : Nat) : Int), .int .i64 ((b.getD i 0 : Nat) : Int)]) (by kernel_rfl) (or_ok F1 p n1 fr (b.getD i 0) cs1 I _ hG (by omega) (by omega) (by omega)) ?_)
          rintro _ w28 ⟨F29, n30, cs31, x32, rfl, hG, hm33, hr34, hd35⟩
          have hMv := hMv.trans hm33
          have hA := hA.mv hm33
          have hAr := hA.1
          have hB := hB.mv hm33
          have hBr := hB.1
          have hO := hO.mv hm33
          have hOr := hO.1
          have hxb36 := hr34.2.2.1
          have hle37 := hr34.1
          refine sg [(12, .int .i64 ((x32 : Nat) : Int))] (by kernel_rfl) ?_
          refine op_nil ?_
          refine W_fg [(0, .pointer (some ⟨p, 0, none⟩)), (1, .int .i64 9), (2, .slice A mm ca), (3, .slice B mm cb), (8, .slice none 0 0), (9, .int .i64 (mm : Int)), (10, .int .i64 ((GateP.nt 0 : Nat) : Int)), (11, .slice Ao mm cao), (12, .int .i64 ((x32 : Nat) : Int)), (13, .int .i64 ((i : Nat) : Int)), (48, .int .i64 (mm : Int)), (49, .int .i64 ((i : Nat) : Int)), (50, .bool (decide (((i : Nat) : Int) < (mm : Int)))), (59, .bool false)] (by kernel_rfl) fun ρ => ?_
          refine W_region (by kernel_rfl) ?_
          refine sg [(81, .int .i64 (IntKind.i64.wrap (((i : Nat) : Int) + 1)))] (by kernel_rfl) ?_
          rw [show IntKind.i64.wrap (((i : Nat) : Int) + 1) = ((i : Nat) : Int) + 1 from wrap_i64 (by omega) (by omega)]
          refine fixR (y := ((i + 1 : Nat) : Int)) (by omega) ?_
          refine sg [(49, .int .i64 ((i + 1 : Nat) : Int))] (by kernel_rfl) ?_
          refine op_nil ?_
          refine ⟨_, ?_, F29, n30, cs31, Ao, cao, o, x32, i + 1, _, updL_self (by kernel_rfl), ?_, (hrw.far hr34).eq (fun be hm j hj => by show mvB _ _ _ _ (lowV mm (fun j => lt_ be (b.getD j 0)) i) j = mvB _ _ _ _ (lowV mm (fun j => lt_ be (b.getD j 0)) (i + 1)) j; rw [low_same (by omega)]), (Lw.of hr34).eq (fun be hm => by rw [far_step (by omega), show lt_ be fr = farV mm (fun j => lt_ be (b.getD j 0)) i from hfr.2 be (hm.sub hr34.2.1)]), by omega, hG, hMv, hA, hAr, hB, hBr, hO, hOr, rfl⟩
          · omega
          · omega
        · replace hb27 : ((i : Nat) : Int) < 30 := (of_decide_eq_true hb27)
          refine sg [(55, .int .i64 ((i : Nat) : Int))] (by kernel_rfl) ?_
          refine stv (v := .int .i64 ((pw i : Nat) : Int)) (by rfl) (R_shlP i (by kernel_rfl) (by kernel_rfl) (by omega)) ?_
          refine sg [(57, .int .i64 (mm : Int)), (58, .bool (decide (((pw i : Nat) : Int) < (mm : Int)))), (59, .bool (decide (((pw i : Nat) : Int) < (mm : Int))))] (by kernel_rfl) ?_
          refine op_nil ?_
          refine W_cond (decide (((pw i : Nat) : Int) < (mm : Int))) (by kernel_rfl) (by kernel_rfl) (fun hc38 => ?_) (fun hc38 => ?_)
          · replace hc38 : ((pw i : Nat) : Int) < (mm : Int) := (of_decide_eq_true hc38)
            refine W_fg [(0, .pointer (some ⟨p, 0, none⟩)), (1, .int .i64 9), (2, .slice A mm ca), (3, .slice B mm cb), (8, .slice none 0 0), (9, .int .i64 (mm : Int)), (10, .int .i64 ((GateP.nt 0 : Nat) : Int)), (11, .slice Ao mm cao), (12, .int .i64 ((fr : Nat) : Int)), (13, .int .i64 ((i : Nat) : Int)), (48, .int .i64 (mm : Int)), (49, .int .i64 ((i : Nat) : Int)), (50, .bool (decide (((i : Nat) : Int) < (mm : Int)))), (59, .bool (decide (((pw i : Nat) : Int) < (mm : Int))))] (by kernel_rfl) fun ρ => ?_
            refine W_draw (fun w' => RdW w' 1 mm B (nats b)) (by kernel_rfl) (by kernel_rfl) (by kernel_rfl) fun w39 hT40 hh41 => ?_
            have hG := hG.tch0 hT40
            have hMv := hMv.then0 hT40
            have hA := hA.tch0 hT40
            have hAr := hA.1
            have hB := hB.tch0 hT40
            have hBr := hB.1
            have hO := hO.tch0 hT40
            have hOr := hO.1
            refine dtk [0, 1, 2, 5, 6, 8, 10, 12, 9] #[true, true, true, false, false, true, true, false, true, true, true, false, true, false, false] [(60, .pointer (some ⟨p, 0, none⟩)), (61, .slice B mm cb), (62, .int .i64 ((i : Nat) : Int)), (65, .slice Ao mm cao), (66, .int .i64 ((i : Nat) : Int)), (68, .int .i64 9), (70, .int .i64 ((GateP.nt 0 : Nat) : Int)), (72, .slice Ao mm cao), (69, .bool true)] hBr (by kernel_rfl) ?_
            refine d_val (v := ptrAt B i) 3 (by rfl) (by kernel_rfl) (by kernel_rfl) (by kernel_rfl) (fun w' hs => by have hBr := hs; exact R_indexRd1 (len := mm) (cap := cb) (k := .i64) (i := ((i : Nat) : Int)) (e := 3) i hBr (by kernel_rfl) (by kernel_rfl) (by kernel_rfl) (by kernel_rfl) rfl (by omega)) hBr ?_
            refine d_val (v := .int .i64 ((b.getD i 0 : Nat) : Int)) 4 (by rfl) (by kernel_rfl) (by kernel_rfl) (by kernel_rfl) (fun w' hs => by have hBr := hs; exact R_loadRd (v := .int .i64 ((b.getD i 0 : Nat) : Int)) hBr (by omega) (by kernel_rfl) (by kernel_rfl) (nats_at (l := b) (by omega))) hBr ?_
            refine d_one 7 (by kernel_rfl) (by rfl) (by kernel_rfl) (S_val (v := .int .i64 ((pw i : Nat) : Int)) (R_shlP i (by kernel_rfl) (by kernel_rfl) (by omega)) ?_)
            refine ⟨hBr, ?_⟩
            have hltM := hG.1.lt
            have hpos_ := hG.2.pos
            refine d_one 11 (by kernel_rfl) (by rfl) (by kernel_rfl) (S_call (args := [.slice Ao mm cao, .int .i64 ((pw i : Nat) : Int), .bool true, .int .i64 ((GateP.nt 0 : Nat) : Int)]) (by kernel_rfl) (moved_ok mm cao Ao o true (pw i) (GateP.nt 0) _ hO.1 hm2 (by omega)) ?_)
            rintro _ w42 ⟨g43, r44, rfl, hrl46, hBm47, hgm48, hmv49, hT45⟩
            have hG := hG.tch0 hT45
            have hMv := hMv.then0 hT45
            have hA := hA.tch0 hT45
            have hAr := hA.1
            have hB := hB.tch0 hT45
            have hBr := hB.1
            have hO := hO.tch0 hT45
            have hOr := hO.1
            have hX50 := RdX.ofP (m := mm) (F := F1) hBm47 (by rw [nats_length]; exact hrl46) (by omega) (fun e => by have := hltM _ e; omega)
            have hff_r44 : ∀ j, j < mm → r44.getD j 0 / 2 < n1 := fun j hj => by rw [hmv49 j hj]; exact mvN_fit (hff_o) (by omega) hj
            refine ⟨hBr, ?_⟩
            have hzM := hMv.1.size
            refine d_one 13 (by kernel_rfl) (by rfl) (by kernel_rfl) (S_call (args := [.pointer (some ⟨p, 0, none⟩), .int .i64 ((b.getD i 0 : Nat) : Int), .slice (some ⟨g43, 0, none⟩) mm mm, .slice Ao mm cao]) (by kernel_rfl) (itr_ok F1 p n1 mm mm cao (some ⟨g43, 0, none⟩) Ao r44 o (b.getD i 0) cs1 I _ hG hX50 hO hff_r44 hff_o hm hm2 (by omega) (by omega)) ?_)
            rintro _ w51 ⟨F52, n53, cs54, g55, r56, rfl, hrl57, hX58, hg59, hG, hm60, hrw61, hd62⟩
            have hMv := hMv.trans hm60
            have hA := hA.mv hm60
            have hAr := hA.1
            have hB := hB.mv hm60
            have hBr := hB.1
            have hO := hO.mv hm60
            have hOr := hO.1
            have hX50 := hX50.mv hm60
            have hle63 := hrw61.le
            have hff_r56 := hrw61.fit
            have hrl_ := hrl57
            refine ⟨hBr, ?_⟩
            refine dtk [14] #[true, true, true, true, true, true, true, true, true, true, true, true, true, true, true] [(11, .slice (some ⟨g55, 0, none⟩) mm mm)] hBr (by kernel_rfl) ?_
            refine d_done (by kernel_rfl) ?_
            refine W_fg [(0, .pointer (some ⟨p, 0, none⟩)), (1, .int .i64 9), (2, .slice A mm ca), (3, .slice B mm cb), (8, .slice none 0 0), (9, .int .i64 (mm : Int)), (10, .int .i64 ((GateP.nt 0 : Nat) : Int)), (11, .slice (some ⟨g55, 0, none⟩) mm mm), (12, .int .i64 ((fr : Nat) : Int)), (13, .int .i64 ((i : Nat) : Int)), (48, .int .i64 (mm : Int)), (49, .int .i64 ((i : Nat) : Int)), (50, .bool (decide (((i : Nat) : Int) < (mm : Int)))), (59, .bool (decide (((pw i : Nat) : Int) < (mm : Int))))] (by kernel_rfl) fun ρ => ?_
            refine W_region (by kernel_rfl) ?_
            refine sg [(81, .int .i64 (IntKind.i64.wrap (((i : Nat) : Int) + 1)))] (by kernel_rfl) ?_
            rw [show IntKind.i64.wrap (((i : Nat) : Int) + 1) = ((i : Nat) : Int) + 1 from wrap_i64 (by omega) (by omega)]
            refine fixR (y := ((i + 1 : Nat) : Int)) (by omega) ?_
            refine sg [(49, .int .i64 ((i + 1 : Nat) : Int))] (by kernel_rfl) ?_
            refine op_nil ?_
            refine ⟨_, ?_, F52, n53, cs54, some ⟨g55, 0, none⟩, mm, r56, fr, i + 1, _, updL_self (by kernel_rfl), ?_, (hrw.trans hrw61).eq (fun be hm j hj => by show ite_ _ (lt_ be (r44.getD j 0)) _ = _; rw [hmv49 j hj]; exact mv_stage (hrw.val be (hm.sub hrw61.sub)) (by omega) hj), (hfr.mono hrw61.le hrw61.sub).eq (fun be hm => (far_same (by omega)).symm), by omega, hG, hMv, hA, hAr, hB, hBr, hX58, hX58.1, rfl⟩
            · omega
            · omega
          · replace hc38 : (mm : Int) ≤ ((pw i : Nat) : Int) := (Int.not_lt.1 (of_decide_eq_false hc38))
            refine W_fg [(0, .pointer (some ⟨p, 0, none⟩)), (1, .int .i64 9), (2, .slice A mm ca), (3, .slice B mm cb), (8, .slice none 0 0), (9, .int .i64 (mm : Int)), (10, .int .i64 ((GateP.nt 0 : Nat) : Int)), (11, .slice Ao mm cao), (12, .int .i64 ((fr : Nat) : Int)), (13, .int .i64 ((i : Nat) : Int)), (48, .int .i64 (mm : Int)), (49, .int .i64 ((i : Nat) : Int)), (50, .bool (decide (((i : Nat) : Int) < (mm : Int)))), (59, .bool (decide (((pw i : Nat) : Int) < (mm : Int))))] (by kernel_rfl) fun ρ => ?_
            have hbig : mm ≤ pw i := by first | omega | (have := pw30 (i := i) (by omega); omega)
            refine W_region (by kernel_rfl) ?_
            refine sg [(74, .pointer (some ⟨p, 0, none⟩)), (75, .int .i64 ((fr : Nat) : Int)), (76, .slice B mm cb), (77, .int .i64 ((i : Nat) : Int))] (by kernel_rfl) ?_
            refine stv (v := ptrAt B i) (by rfl) (R_indexRd1 (len := mm) (cap := cb) (k := .i64) (i := ((i : Nat) : Int)) (e := 3) i hBr (by kernel_rfl) (by kernel_rfl) (by kernel_rfl) (by kernel_rfl) rfl (by omega)) ?_
            refine stv (v := .int .i64 ((b.getD i 0 : Nat) : Int)) (by rfl) (R_loadRd (v := .int .i64 ((b.getD i 0 : Nat) : Int)) hBr (by omega) (by kernel_rfl) (by kernel_rfl) (nats_at (l := b) (by omega))) ?_
            refine st (by rfl) (S_call (args := [.pointer (some ⟨p, 0, none⟩), .int .i64 ((fr : Nat) : Int), .int .i64 ((b.getD i 0 : Nat) : Int)]) (by kernel_rfl) (or_ok F1 p n1 fr (b.getD i 0) cs1 I _ hG (by omega) (by omega) (by omega)) ?_)
            rintro _ w64 ⟨F65, n66, cs67, x68, rfl, hG, hm69, hr70, hd71⟩
            have hMv := hMv.trans hm69
            have hA := hA.mv hm69
            have hAr := hA.1
            have hB := hB.mv hm69
            have hBr := hB.1
            have hO := hO.mv hm69
            have hOr := hO.1
            have hxb72 := hr70.2.2.1
            have hle73 := hr70.1
            refine sg [(12, .int .i64 ((x68 : Nat) : Int))] (by kernel_rfl) ?_
            refine op_nil ?_
            refine W_fg [(0, .pointer (some ⟨p, 0, none⟩)), (1, .int .i64 9), (2, .slice A mm ca), (3, .slice B mm cb), (8, .slice none 0 0), (9, .int .i64 (mm : Int)), (10, .int .i64 ((GateP.nt 0 : Nat) : Int)), (11, .slice Ao mm cao), (12, .int .i64 ((x68 : Nat) : Int)), (13, .int .i64 ((i : Nat) : Int)), (48, .int .i64 (mm : Int)), (49, .int .i64 ((i : Nat) : Int)), (50, .bool (decide (((i : Nat) : Int) < (mm : Int)))), (59, .bool (decide (((pw i : Nat) : Int) < (mm : Int))))] (by kernel_rfl) fun ρ => ?_
            refine W_region (by kernel_rfl) ?_
            refine sg [(81, .int .i64 (IntKind.i64.wrap (((i : Nat) : Int) + 1)))] (by kernel_rfl) ?_
            rw [show IntKind.i64.wrap (((i : Nat) : Int) + 1) = ((i : Nat) : Int) + 1 from wrap_i64 (by omega) (by omega)]
            refine fixR (y := ((i + 1 : Nat) : Int)) (by omega) ?_
            refine sg [(49, .int .i64 ((i + 1 : Nat) : Int))] (by kernel_rfl) ?_
            refine op_nil ?_
            refine ⟨_, ?_, F65, n66, cs67, Ao, cao, o, x68, i + 1, _, updL_self (by kernel_rfl), ?_, (hrw.far hr70).eq (fun be hm j hj => by show mvB _ _ _ _ (lowV mm (fun j => lt_ be (b.getD j 0)) i) j = mvB _ _ _ _ (lowV mm (fun j => lt_ be (b.getD j 0)) (i + 1)) j; rw [low_same (by omega)]), (Lw.of hr70).eq (fun be hm => by rw [far_step (by omega), show lt_ be fr = farV mm (fun j => lt_ be (b.getD j 0)) i from hfr.2 be (hm.sub hr70.2.1)]), by omega, hG, hMv, hA, hAr, hB, hBr, hO, hOr, rfl⟩
            · omega
            · omega
      · replace hc26 : (mm : Int) ≤ ((i : Nat) : Int) := (Int.not_lt.1 (of_decide_eq_false hc26))
        refine W_exit ?_
        refine X_hit ?_
        refine W_seq ?_
        refine W_region (by kernel_rfl) ?_
        refine sg [(82, .pointer (some ⟨p, 0, none⟩)), (83, .int .i64 ((fr : Nat) : Int)), (84, .slice A mm ca), (85, .int .i64 (mm : Int)), (86, .int .i64 ((GateP.nt 0 : Nat) : Int))] (by kernel_rfl) ?_
        have hltM := hG.1.lt
        have hpos_ := hG.2.pos
        refine st (by rfl) (S_call (args := [.slice A mm ca, .int .i64 (mm : Int), .bool false, .int .i64 ((GateP.nt 0 : Nat) : Int)]) (by kernel_rfl) (moved_ok mm ca A a false mm (GateP.nt 0) _ hA.1 hm2 (by omega)) ?_)
        rintro _ w74 ⟨g75, r76, rfl, hrl78, hBm79, hgm80, hmv81, hT77⟩
        have hG := hG.tch0 hT77
        have hMv := hMv.then0 hT77
        have hA := hA.tch0 hT77
        have hAr := hA.1
        have hB := hB.tch0 hT77
        have hBr := hB.1
        have hO := hO.tch0 hT77
        have hOr := hO.1
        have hX82 := RdX.ofP (m := mm) (F := F1) hBm79 (by rw [nats_length]; exact hrl78) (by omega) (fun e => by have := hltM _ e; omega)
        have hff_r76 : ∀ j, j < mm → r76.getD j 0 / 2 < n1 := fun j hj => by rw [hmv81 j hj]; exact mvN_fit (hff_a) (by omega) hj
        refine sg [(88, .slice Ao mm cao)] (by kernel_rfl) ?_
        have hzM := hMv.1.size
        refine st (by rfl) (S_call (args := [.pointer (some ⟨p, 0, none⟩), .int .i64 ((fr : Nat) : Int), .slice (some ⟨g75, 0, none⟩) mm mm, .slice Ao mm cao]) (by kernel_rfl) (itr_ok F1 p n1 mm mm cao (some ⟨g75, 0, none⟩) Ao r76 o fr cs1 I _ hG hX82 hO hff_r76 hff_o hm hm2 (by omega) (by omega)) ?_)
        rintro _ w83 ⟨F84, n85, cs86, g87, r88, rfl, hrl89, hX90, hg91, hG, hm92, hrw93, hd94⟩
        have hMv := hMv.trans hm92
        have hA := hA.mv hm92
        have hAr := hA.1
        have hB := hB.mv hm92
        have hBr := hB.1
        have hO := hO.mv hm92
        have hOr := hO.1
        have hX82 := hX82.mv hm92
        have hle95 := hrw93.le
        have hff_r88 := hrw93.fit
        have hrl_ := hrl89
        refine sg [(8, .slice (some ⟨g87, 0, none⟩) mm mm)] (by kernel_rfl) ?_
        refine op_nil ?_
        refine W_ret ?_
        refine ⟨_, Res_of (v := .slice (some ⟨g87, 0, none⟩) mm mm) (by kernel_rfl), ?_⟩
        refine ⟨F84, n85, cs86, g87, r88, rfl, hrl_, hX90, by omega, hG, hMv, (hrw.trans hrw93).eq (fun be hm j hj => ?_), by omega⟩
        show ite_ (lt_ be fr) (lt_ be (r76.getD j 0)) (lt_ be (o.getD j 0)) = mvB true mm (fun j => lt_ be (a.getD j 0)) (false) (bval mm (fun j => lt_ be (b.getD j 0))) j
        have hie : i = mm := by omega
        have e1 := hrw.val be (hm.sub hrw93.sub) j hj
        have e2 := hfr.2 be (hm.sub hrw93.sub)
        simp only [hie] at e1 e2
        have e3 : mvN false mm a mm (GateP.nt 0) j = GateP.nt 0 := by unfold mvN; rw [if_neg (by simp), if_neg (by omega)]
        rw [hmv81 j hj, e1, e2, e3]
        have e4 : lt_ be (GateP.nt 0) = false := hG.2.t1 hm
        rw [e4]
        exact mv_end hj

set_option maxRecDepth 100000 in
theorem move10_ok (F : Nat → Prop) (p n mm ca cb : Nat) (A B : Option Addr) (a b : List Nat)  (cs : List (List Nat)) (I : Nat → Prop) (w : World) (hG : GObj F w p n cs I) (hA : RdX F w mm A (nats a)) (hB : RdX F w mm B (nats b)) (hfa : ∀ j, j < mm → a.getD j 0 / 2 < n) (hfb : ∀ j, j < mm → b.getD j 0 / 2 < n) (hm : 0 < mm) (hm2 : mm ≤ 1000) (hn : n ≤ 50000000000) : Ret Try.prog 31 [.pointer (some ⟨p, 0, none⟩), .int .i64 10, .slice A mm ca, .slice B mm cb] w fun v w' => RowR F p n cs I w mm 2000000 (fun be j => mvB false mm (fun j => lt_ be (a.getD j 0)) (false) (bval mm (fun j => lt_ be (b.getD j 0))) j) v w' := by
  have hMv := Mv.refl F w
  have hla : a.length = mm := by have := hA.1.1; rw [nats_length] at this; omega
  have hlb : b.length = mm := by have := hB.1.1; rw [nats_length] at this; omega
  have hAr := hA.1
  have hBr := hB.1
  have lt_hA := hA.lt
  have lt_hB := hB.lt
  have ge_hA : ∀ c, blkOf A = some c → 0 ≤ c := fun c _ => Nat.zero_le c
  have ge_hB : ∀ c, blkOf B = some c → 0 ≤ c := fun c _ => Nat.zero_le c
  have hff_a := hfa
  have hff_b := hfb
  have hpos := hG.2.pos
  refine enter Try.func31 rfl rfl ?_
  refine W_seq ?_
  refine W_region (by kernel_rfl) ?_
  refine sg [(8, .slice none 0 0)] (by kernel_rfl) ?_
  refine op_nil ?_
  refine W_seq ?_
  refine W_seq ?_
  refine W_region (by kernel_rfl) ?_
  refine sg [(14, .int .i64 10), (15, .bool true), (16, .bool true), (17, .int .i64 10), (18, .bool false), (19, .bool false), (20, .bool false), (21, undef), (22, undef), (23, .bool false), (24, .bool false), (25, .pointer (some ⟨p, 0, none⟩)), (26, .slice A mm ca), (27, .slice B mm cb)] (by kernel_rfl) ?_
  have hzM := hMv.1.size
  refine st (by kernel_rfl) (S_call (args := [.pointer (some ⟨p, 0, none⟩), .int .i64 0, .slice A mm ca, .slice B mm cb]) (by kernel_rfl) (itr_ok F p n mm ca cb A B a b 0 cs I _ hG hA hB hff_a hff_b hm hm2 (by omega) (by omega)) ?_)
  rintro _ w1 ⟨F2, n3, cs4, g5, r6, rfl, hrl7, hX8, hg9, hG, hm10, hrw11, hd12⟩
  have hMv := hMv.trans hm10
  have hA := hA.mv hm10
  have hAr := hA.1
  have hB := hB.mv hm10
  have hBr := hB.1
  have hle13 := hrw11.le
  have hff_r6 := hrw11.fit
  have hrl_ := hrl7
  refine sg [(29, .int .i64 (mm : Int)), (30, .bool ((mm : Int) == 0)), (31, .bool ((mm : Int) == 0))] (by kernel_rfl) ?_
  refine op_nil ?_
  refine W_cond ((mm : Int) == 0) (by kernel_rfl) (by kernel_rfl) (fun hc14 => ?_) (fun hc14 => ?_)
  · replace hc14 : (mm : Int) = 0 := (eq_of_beq hc14)
    exfalso; omega
  · replace hc14 : (mm : Int) ≠ 0 := (ne_of_beq_false hc14)
    refine W_skip ?_
    refine W_seq ?_
    refine W_fg [(0, .pointer (some ⟨p, 0, none⟩)), (1, .int .i64 10), (2, .slice A mm ca), (3, .slice B mm cb), (8, .slice none 0 0), (31, .bool ((mm : Int) == 0))] (by kernel_rfl) fun ρ => ?_
    refine W_region (by kernel_rfl) ?_
    refine sg [(32, .slice A mm ca), (33, .int .i64 (mm : Int)), (9, .int .i64 (mm : Int))] (by kernel_rfl) ?_
    refine op_nil ?_
    refine W_seq ?_
    refine W_region (by kernel_rfl) ?_
    refine sg [(34, .pointer (some ⟨p, 0, none⟩))] (by kernel_rfl) ?_
    refine st (by rfl) (S_call (args := [.pointer (some ⟨p, 0, none⟩)]) (by kernel_rfl) (true_ok p _) ?_)
    rintro _ w15 ⟨rfl, hT16⟩
    have hG := hG.tch0 hT16
    have hMv := hMv.then0 hT16
    have hA := hA.tch0 hT16
    have hAr := hA.1
    have hB := hB.tch0 hT16
    have hBr := hB.1
    have hX8 := hX8.tch0 hT16
    refine st (by rfl) (S_call (args := [.int .i64 0]) (by kernel_rfl) (not_ok 0 _ (by omega)) ?_)
    rintro _ w17 ⟨rfl, hT18⟩
    have hG := hG.tch0 hT18
    have hMv := hMv.then0 hT18
    have hA := hA.tch0 hT18
    have hAr := hA.1
    have hB := hB.tch0 hT18
    have hBr := hB.1
    have hX8 := hX8.tch0 hT18
    have hnt19 := GateP.nt_div 0
    refine sg [(10, .int .i64 ((GateP.nt 0 : Nat) : Int))] (by kernel_rfl) ?_
    refine op_nil ?_
    refine W_seq ?_
    refine W_seq ?_
    refine W_region (by kernel_rfl) ?_
    refine sg [(37, .int .i64 10), (38, .bool false)] (by kernel_rfl) ?_
    refine op_nil ?_
    refine W_cond false (by kernel_rfl) (by kernel_rfl) (fun h => nomatch h) (fun _ => ?_)
    refine W_skip ?_
    refine W_seq ?_
    refine W_fg [(0, .pointer (some ⟨p, 0, none⟩)), (1, .int .i64 10), (2, .slice A mm ca), (3, .slice B mm cb), (8, .slice none 0 0), (9, .int .i64 (mm : Int)), (10, .int .i64 ((GateP.nt 0 : Nat) : Int)), (31, .bool ((mm : Int) == 0)), (38, .bool false)] (by kernel_rfl) fun ρ => ?_
    refine W_region (by kernel_rfl) ?_
    refine sg [(44, .slice A mm ca), (11, .slice A mm ca)] (by kernel_rfl) ?_
    refine op_nil ?_
    refine W_seq ?_
    refine W_region (by kernel_rfl) ?_
    refine sg [(45, .pointer (some ⟨p, 0, none⟩))] (by kernel_rfl) ?_
    refine st (by rfl) (S_call (args := [.pointer (some ⟨p, 0, none⟩)]) (by kernel_rfl) (true_ok p _) ?_)
    rintro _ w20 ⟨rfl, hT21⟩
    have hG := hG.tch0 hT21
    have hMv := hMv.then0 hT21
    have hA := hA.tch0 hT21
    have hAr := hA.1
    have hB := hB.tch0 hT21
    have hBr := hB.1
    have hX8 := hX8.tch0 hT21
    refine st (by rfl) (S_call (args := [.int .i64 0]) (by kernel_rfl) (not_ok 0 _ (by omega)) ?_)
    rintro _ w22 ⟨rfl, hT23⟩
    have hG := hG.tch0 hT23
    have hMv := hMv.then0 hT23
    have hA := hA.tch0 hT23
    have hAr := hA.1
    have hB := hB.tch0 hT23
    have hBr := hB.1
    have hX8 := hX8.tch0 hT23
    have hnt24 := GateP.nt_div 0
    refine sg [(12, .int .i64 ((GateP.nt 0 : Nat) : Int))] (by kernel_rfl) ?_
    refine op_nil ?_
    refine W_seq ?_
    refine W_seq ?_
    refine W_region (by kernel_rfl) ?_
    refine sg [(48, .int .i64 (mm : Int)), (49, .int .i64 0)] (by kernel_rfl) ?_
    refine op_nil ?_
    refine W_block ?_
    refine W_loop (fun m ρ w' => ∃ (F1 : Nat → Prop) (n1 : Nat) (cs1 : List (List Nat)) (Ao : Option Addr) (cao : Nat) (o : List Nat) (fr i : Nat) (ρ0 : Env), ρ = updL ρ0 [(0, .pointer (some ⟨p, 0, none⟩)), (1, .int .i64 10), (2, .slice A mm ca), (3, .slice B mm cb), (8, .slice none 0 0), (9, .int .i64 (mm : Int)), (10, .int .i64 ((GateP.nt 0 : Nat) : Int)), (11, .slice Ao mm cao), (12, .int .i64 ((fr : Nat) : Int)), (48, .int .i64 (mm : Int)), (49, .int .i64 ((i : Nat) : Int))] ∧ (i ≤ mm) ∧ (Rw n cs n1 cs1 mm o (fun be j => mvB false mm (fun j => lt_ be (a.getD j 0)) (lt_ be (GateP.nt 0)) (lowV mm (fun j => lt_ be (b.getD j 0)) i) j)) ∧ (Lw n1 cs1 fr (fun be => farV mm (fun j => lt_ be (b.getD j 0)) i)) ∧ (n1 ≤ n + 1001 + i * 1001) ∧ GObj F1 w' p n1 cs1 I ∧ Mv F F1 w w' ∧ RdX F1 w' mm A (nats a) ∧ RdW w' 1 mm A (nats a) ∧ RdX F1 w' mm B (nats b) ∧ RdW w' 1 mm B (nats b) ∧ RdX F1 w' mm Ao (nats o) ∧ RdW w' 1 mm Ao (nats o) ∧ m = mm - i) (m := mm - 0) ?_ ?_
    · refine ⟨F2, n3, cs4, A, ca, a, GateP.nt 0, 0, _, updL_self (by kernel_rfl), by omega, ⟨hrw11.le, hrw11.sub, fun j hj => by have := hfa j hj; have := hrw11.le; omega, fun be hm j hj => (mvB_zero (A := (fun j => lt_ be (a.getD j 0))) hj).symm⟩, ⟨by have := hG.2.pos; show (1 : Nat) / 2 < _; omega, fun be hm => hG.2.t1 hm⟩, by omega, hG, hMv, hA, hAr, hB, hBr, hA, hAr, rfl⟩
    · rintro m ρ w25 ⟨F1, n1, cs1, Ao, cao, o, fr, i, ρ, rfl, hi, hrw, hfr, hd, hG, hMv, hA, hAr, hB, hBr, hO, hOr, rfl⟩
      have hle_ := hrw.le
      have hff_o := hrw.fit
      have fb := fun q : i < mm => hfb i q
      have hffr := hfr.1
      have hpos := hG.2.pos
      have hff_a : ∀ j, j < mm → a.getD j 0 / 2 < n1 := fun j hj => by have := hfa j hj; omega
      have hflt : (GateP.nt 0) / 2 < n1 := by show (1 : Nat) / 2 < _; omega
      refine W_seq ?_
      refine W_region (by kernel_rfl) ?_
      refine sg [(50, .bool (decide (((i : Nat) : Int) < (mm : Int))))] (by kernel_rfl) ?_
      refine op_nil ?_
      refine W_seq ?_
      refine W_cond (decide (((i : Nat) : Int) < (mm : Int))) (by kernel_rfl) (by kernel_rfl) (fun hc26 => ?_) (fun hc26 => ?_)
      · replace hc26 : ((i : Nat) : Int) < (mm : Int) := (of_decide_eq_true hc26)
        refine W_skip ?_
        refine W_seq ?_
        refine W_block ?_
        refine W_seq ?_
        refine W_region (by kernel_rfl) ?_
        refine sg [(51, .int .i64 ((i : Nat) : Int)), (13, .int .i64 ((i : Nat) : Int))] (by kernel_rfl) ?_
        refine op_nil ?_
        refine W_seq ?_
        refine W_region (by kernel_rfl) ?_
        refine sg [(52, .int .i64 ((i : Nat) : Int)), (53, .bool (decide (((i : Nat) : Int) < 30))), (54, .bool (decide (((i : Nat) : Int) < 30)))] (by kernel_rfl) ?_
        cases hb27 : decide (((i : Nat) : Int) < 30)
        · replace hb27 : 30 ≤ ((i : Nat) : Int) := (Int.not_lt.1 (of_decide_eq_false hb27))
          refine sg [(55, undef), (56, undef), (57, undef), (58, undef), (59, .bool false)] (by kernel_rfl) ?_
          refine op_nil ?_
          refine W_cond false (by kernel_rfl) (by kernel_rfl) (fun h => nomatch h) (fun _ => ?_)
          refine W_fg [(0, .pointer (some ⟨p, 0, none⟩)), (1, .int .i64 10), (2, .slice A mm ca), (3, .slice B mm cb), (8, .slice none 0 0), (9, .int .i64 (mm : Int)), (10, .int .i64 ((GateP.nt 0 : Nat) : Int)), (11, .slice Ao mm cao), (12, .int .i64 ((fr : Nat) : Int)), (13, .int .i64 ((i : Nat) : Int)), (48, .int .i64 (mm : Int)), (49, .int .i64 ((i : Nat) : Int)), (50, .bool (decide (((i : Nat) : Int) < (mm : Int)))), (59, .bool false)] (by kernel_rfl) fun ρ => ?_
          have hbig : mm ≤ pw i := by first | omega | (have := pw30 (i := i) (by omega); omega)
          refine W_region (by kernel_rfl) ?_
          refine sg [(74, .pointer (some ⟨p, 0, none⟩)), (75, .int .i64 ((fr : Nat) : Int)), (76, .slice B mm cb), (77, .int .i64 ((i : Nat) : Int))] (by kernel_rfl) ?_
          refine stv (v := ptrAt B i) (by rfl) (R_indexRd1 (len := mm) (cap := cb) (k := .i64) (i := ((i : Nat) : Int)) (e := 3) i hBr (by kernel_rfl) (by kernel_rfl) (by kernel_rfl) (by kernel_rfl) rfl (by omega)) ?_
          refine stv (v := .int .i64 ((b.getD i 0 : Nat) : Int)) (by rfl) (R_loadRd (v := .int .i64 ((b.getD i 0 : Nat) : Int)) hBr (by omega) (by kernel_rfl) (by kernel_rfl) (nats_at (l := b) (by omega))) ?_
          refine st (by rfl) (S_call (args := [.pointer (some ⟨p, 0, none⟩), .int .i64 ((fr : Nat) : Int), .int .i64 ((b.getD i 0 : Nat) : Int)]) (by kernel_rfl) (or_ok F1 p n1 fr (b.getD i 0) cs1 I _ hG (by omega) (by omega) (by omega)) ?_)
          rintro _ w28 ⟨F29, n30, cs31, x32, rfl, hG, hm33, hr34, hd35⟩
          have hMv := hMv.trans hm33
          have hA := hA.mv hm33
          have hAr := hA.1
          have hB := hB.mv hm33
          have hBr := hB.1
          have hO := hO.mv hm33
          have hOr := hO.1
          have hxb36 := hr34.2.2.1
          have hle37 := hr34.1
          refine sg [(12, .int .i64 ((x32 : Nat) : Int))] (by kernel_rfl) ?_
          refine op_nil ?_
          refine W_fg [(0, .pointer (some ⟨p, 0, none⟩)), (1, .int .i64 10), (2, .slice A mm ca), (3, .slice B mm cb), (8, .slice none 0 0), (9, .int .i64 (mm : Int)), (10, .int .i64 ((GateP.nt 0 : Nat) : Int)), (11, .slice Ao mm cao), (12, .int .i64 ((x32 : Nat) : Int)), (13, .int .i64 ((i : Nat) : Int)), (48, .int .i64 (mm : Int)), (49, .int .i64 ((i : Nat) : Int)), (50, .bool (decide (((i : Nat) : Int) < (mm : Int)))), (59, .bool false)] (by kernel_rfl) fun ρ => ?_
          refine W_region (by kernel_rfl) ?_
          refine sg [(81, .int .i64 (IntKind.i64.wrap (((i : Nat) : Int) + 1)))] (by kernel_rfl) ?_
          rw [show IntKind.i64.wrap (((i : Nat) : Int) + 1) = ((i : Nat) : Int) + 1 from wrap_i64 (by omega) (by omega)]
          refine fixR (y := ((i + 1 : Nat) : Int)) (by omega) ?_
          refine sg [(49, .int .i64 ((i + 1 : Nat) : Int))] (by kernel_rfl) ?_
          refine op_nil ?_
          refine ⟨_, ?_, F29, n30, cs31, Ao, cao, o, x32, i + 1, _, updL_self (by kernel_rfl), ?_, (hrw.far hr34).eq (fun be hm j hj => by show mvB _ _ _ _ (lowV mm (fun j => lt_ be (b.getD j 0)) i) j = mvB _ _ _ _ (lowV mm (fun j => lt_ be (b.getD j 0)) (i + 1)) j; rw [low_same (by omega)]), (Lw.of hr34).eq (fun be hm => by rw [far_step (by omega), show lt_ be fr = farV mm (fun j => lt_ be (b.getD j 0)) i from hfr.2 be (hm.sub hr34.2.1)]), by omega, hG, hMv, hA, hAr, hB, hBr, hO, hOr, rfl⟩
          · omega
          · omega
        · replace hb27 : ((i : Nat) : Int) < 30 := (of_decide_eq_true hb27)
          refine sg [(55, .int .i64 ((i : Nat) : Int))] (by kernel_rfl) ?_
          refine stv (v := .int .i64 ((pw i : Nat) : Int)) (by rfl) (R_shlP i (by kernel_rfl) (by kernel_rfl) (by omega)) ?_
          refine sg [(57, .int .i64 (mm : Int)), (58, .bool (decide (((pw i : Nat) : Int) < (mm : Int)))), (59, .bool (decide (((pw i : Nat) : Int) < (mm : Int))))] (by kernel_rfl) ?_
          refine op_nil ?_
          refine W_cond (decide (((pw i : Nat) : Int) < (mm : Int))) (by kernel_rfl) (by kernel_rfl) (fun hc38 => ?_) (fun hc38 => ?_)
          · replace hc38 : ((pw i : Nat) : Int) < (mm : Int) := (of_decide_eq_true hc38)
            refine W_fg [(0, .pointer (some ⟨p, 0, none⟩)), (1, .int .i64 10), (2, .slice A mm ca), (3, .slice B mm cb), (8, .slice none 0 0), (9, .int .i64 (mm : Int)), (10, .int .i64 ((GateP.nt 0 : Nat) : Int)), (11, .slice Ao mm cao), (12, .int .i64 ((fr : Nat) : Int)), (13, .int .i64 ((i : Nat) : Int)), (48, .int .i64 (mm : Int)), (49, .int .i64 ((i : Nat) : Int)), (50, .bool (decide (((i : Nat) : Int) < (mm : Int)))), (59, .bool (decide (((pw i : Nat) : Int) < (mm : Int))))] (by kernel_rfl) fun ρ => ?_
            refine W_draw (fun w' => RdW w' 1 mm B (nats b)) (by kernel_rfl) (by kernel_rfl) (by kernel_rfl) fun w39 hT40 hh41 => ?_
            have hG := hG.tch0 hT40
            have hMv := hMv.then0 hT40
            have hA := hA.tch0 hT40
            have hAr := hA.1
            have hB := hB.tch0 hT40
            have hBr := hB.1
            have hO := hO.tch0 hT40
            have hOr := hO.1
            refine dtk [0, 1, 2, 5, 6, 8, 10, 12, 9] #[true, true, true, false, false, true, true, false, true, true, true, false, true, false, false] [(60, .pointer (some ⟨p, 0, none⟩)), (61, .slice B mm cb), (62, .int .i64 ((i : Nat) : Int)), (65, .slice Ao mm cao), (66, .int .i64 ((i : Nat) : Int)), (68, .int .i64 10), (70, .int .i64 ((GateP.nt 0 : Nat) : Int)), (72, .slice Ao mm cao), (69, .bool false)] hBr (by kernel_rfl) ?_
            refine d_val (v := ptrAt B i) 3 (by rfl) (by kernel_rfl) (by kernel_rfl) (by kernel_rfl) (fun w' hs => by have hBr := hs; exact R_indexRd1 (len := mm) (cap := cb) (k := .i64) (i := ((i : Nat) : Int)) (e := 3) i hBr (by kernel_rfl) (by kernel_rfl) (by kernel_rfl) (by kernel_rfl) rfl (by omega)) hBr ?_
            refine d_val (v := .int .i64 ((b.getD i 0 : Nat) : Int)) 4 (by rfl) (by kernel_rfl) (by kernel_rfl) (by kernel_rfl) (fun w' hs => by have hBr := hs; exact R_loadRd (v := .int .i64 ((b.getD i 0 : Nat) : Int)) hBr (by omega) (by kernel_rfl) (by kernel_rfl) (nats_at (l := b) (by omega))) hBr ?_
            refine d_one 7 (by kernel_rfl) (by rfl) (by kernel_rfl) (S_val (v := .int .i64 ((pw i : Nat) : Int)) (R_shlP i (by kernel_rfl) (by kernel_rfl) (by omega)) ?_)
            refine ⟨hBr, ?_⟩
            have hltM := hG.1.lt
            have hpos_ := hG.2.pos
            refine d_one 11 (by kernel_rfl) (by rfl) (by kernel_rfl) (S_call (args := [.slice Ao mm cao, .int .i64 ((pw i : Nat) : Int), .bool false, .int .i64 ((GateP.nt 0 : Nat) : Int)]) (by kernel_rfl) (moved_ok mm cao Ao o false (pw i) (GateP.nt 0) _ hO.1 hm2 (by omega)) ?_)
            rintro _ w42 ⟨g43, r44, rfl, hrl46, hBm47, hgm48, hmv49, hT45⟩
            have hG := hG.tch0 hT45
            have hMv := hMv.then0 hT45
            have hA := hA.tch0 hT45
            have hAr := hA.1
            have hB := hB.tch0 hT45
            have hBr := hB.1
            have hO := hO.tch0 hT45
            have hOr := hO.1
            have hX50 := RdX.ofP (m := mm) (F := F1) hBm47 (by rw [nats_length]; exact hrl46) (by omega) (fun e => by have := hltM _ e; omega)
            have hff_r44 : ∀ j, j < mm → r44.getD j 0 / 2 < n1 := fun j hj => by rw [hmv49 j hj]; exact mvN_fit (hff_o) (by omega) hj
            refine ⟨hBr, ?_⟩
            have hzM := hMv.1.size
            refine d_one 13 (by kernel_rfl) (by rfl) (by kernel_rfl) (S_call (args := [.pointer (some ⟨p, 0, none⟩), .int .i64 ((b.getD i 0 : Nat) : Int), .slice (some ⟨g43, 0, none⟩) mm mm, .slice Ao mm cao]) (by kernel_rfl) (itr_ok F1 p n1 mm mm cao (some ⟨g43, 0, none⟩) Ao r44 o (b.getD i 0) cs1 I _ hG hX50 hO hff_r44 hff_o hm hm2 (by omega) (by omega)) ?_)
            rintro _ w51 ⟨F52, n53, cs54, g55, r56, rfl, hrl57, hX58, hg59, hG, hm60, hrw61, hd62⟩
            have hMv := hMv.trans hm60
            have hA := hA.mv hm60
            have hAr := hA.1
            have hB := hB.mv hm60
            have hBr := hB.1
            have hO := hO.mv hm60
            have hOr := hO.1
            have hX50 := hX50.mv hm60
            have hle63 := hrw61.le
            have hff_r56 := hrw61.fit
            have hrl_ := hrl57
            refine ⟨hBr, ?_⟩
            refine dtk [14] #[true, true, true, true, true, true, true, true, true, true, true, true, true, true, true] [(11, .slice (some ⟨g55, 0, none⟩) mm mm)] hBr (by kernel_rfl) ?_
            refine d_done (by kernel_rfl) ?_
            refine W_fg [(0, .pointer (some ⟨p, 0, none⟩)), (1, .int .i64 10), (2, .slice A mm ca), (3, .slice B mm cb), (8, .slice none 0 0), (9, .int .i64 (mm : Int)), (10, .int .i64 ((GateP.nt 0 : Nat) : Int)), (11, .slice (some ⟨g55, 0, none⟩) mm mm), (12, .int .i64 ((fr : Nat) : Int)), (13, .int .i64 ((i : Nat) : Int)), (48, .int .i64 (mm : Int)), (49, .int .i64 ((i : Nat) : Int)), (50, .bool (decide (((i : Nat) : Int) < (mm : Int)))), (59, .bool (decide (((pw i : Nat) : Int) < (mm : Int))))] (by kernel_rfl) fun ρ => ?_
            refine W_region (by kernel_rfl) ?_
            refine sg [(81, .int .i64 (IntKind.i64.wrap (((i : Nat) : Int) + 1)))] (by kernel_rfl) ?_
            rw [show IntKind.i64.wrap (((i : Nat) : Int) + 1) = ((i : Nat) : Int) + 1 from wrap_i64 (by omega) (by omega)]
            refine fixR (y := ((i + 1 : Nat) : Int)) (by omega) ?_
            refine sg [(49, .int .i64 ((i + 1 : Nat) : Int))] (by kernel_rfl) ?_
            refine op_nil ?_
            refine ⟨_, ?_, F52, n53, cs54, some ⟨g55, 0, none⟩, mm, r56, fr, i + 1, _, updL_self (by kernel_rfl), ?_, (hrw.trans hrw61).eq (fun be hm j hj => by show ite_ _ (lt_ be (r44.getD j 0)) _ = _; rw [hmv49 j hj]; exact mv_stage (hrw.val be (hm.sub hrw61.sub)) (by omega) hj), (hfr.mono hrw61.le hrw61.sub).eq (fun be hm => (far_same (by omega)).symm), by omega, hG, hMv, hA, hAr, hB, hBr, hX58, hX58.1, rfl⟩
            · omega
            · omega
          · replace hc38 : (mm : Int) ≤ ((pw i : Nat) : Int) := (Int.not_lt.1 (of_decide_eq_false hc38))
            refine W_fg [(0, .pointer (some ⟨p, 0, none⟩)), (1, .int .i64 10), (2, .slice A mm ca), (3, .slice B mm cb), (8, .slice none 0 0), (9, .int .i64 (mm : Int)), (10, .int .i64 ((GateP.nt 0 : Nat) : Int)), (11, .slice Ao mm cao), (12, .int .i64 ((fr : Nat) : Int)), (13, .int .i64 ((i : Nat) : Int)), (48, .int .i64 (mm : Int)), (49, .int .i64 ((i : Nat) : Int)), (50, .bool (decide (((i : Nat) : Int) < (mm : Int)))), (59, .bool (decide (((pw i : Nat) : Int) < (mm : Int))))] (by kernel_rfl) fun ρ => ?_
            have hbig : mm ≤ pw i := by first | omega | (have := pw30 (i := i) (by omega); omega)
            refine W_region (by kernel_rfl) ?_
            refine sg [(74, .pointer (some ⟨p, 0, none⟩)), (75, .int .i64 ((fr : Nat) : Int)), (76, .slice B mm cb), (77, .int .i64 ((i : Nat) : Int))] (by kernel_rfl) ?_
            refine stv (v := ptrAt B i) (by rfl) (R_indexRd1 (len := mm) (cap := cb) (k := .i64) (i := ((i : Nat) : Int)) (e := 3) i hBr (by kernel_rfl) (by kernel_rfl) (by kernel_rfl) (by kernel_rfl) rfl (by omega)) ?_
            refine stv (v := .int .i64 ((b.getD i 0 : Nat) : Int)) (by rfl) (R_loadRd (v := .int .i64 ((b.getD i 0 : Nat) : Int)) hBr (by omega) (by kernel_rfl) (by kernel_rfl) (nats_at (l := b) (by omega))) ?_
            refine st (by rfl) (S_call (args := [.pointer (some ⟨p, 0, none⟩), .int .i64 ((fr : Nat) : Int), .int .i64 ((b.getD i 0 : Nat) : Int)]) (by kernel_rfl) (or_ok F1 p n1 fr (b.getD i 0) cs1 I _ hG (by omega) (by omega) (by omega)) ?_)
            rintro _ w64 ⟨F65, n66, cs67, x68, rfl, hG, hm69, hr70, hd71⟩
            have hMv := hMv.trans hm69
            have hA := hA.mv hm69
            have hAr := hA.1
            have hB := hB.mv hm69
            have hBr := hB.1
            have hO := hO.mv hm69
            have hOr := hO.1
            have hxb72 := hr70.2.2.1
            have hle73 := hr70.1
            refine sg [(12, .int .i64 ((x68 : Nat) : Int))] (by kernel_rfl) ?_
            refine op_nil ?_
            refine W_fg [(0, .pointer (some ⟨p, 0, none⟩)), (1, .int .i64 10), (2, .slice A mm ca), (3, .slice B mm cb), (8, .slice none 0 0), (9, .int .i64 (mm : Int)), (10, .int .i64 ((GateP.nt 0 : Nat) : Int)), (11, .slice Ao mm cao), (12, .int .i64 ((x68 : Nat) : Int)), (13, .int .i64 ((i : Nat) : Int)), (48, .int .i64 (mm : Int)), (49, .int .i64 ((i : Nat) : Int)), (50, .bool (decide (((i : Nat) : Int) < (mm : Int)))), (59, .bool (decide (((pw i : Nat) : Int) < (mm : Int))))] (by kernel_rfl) fun ρ => ?_
            refine W_region (by kernel_rfl) ?_
            refine sg [(81, .int .i64 (IntKind.i64.wrap (((i : Nat) : Int) + 1)))] (by kernel_rfl) ?_
            rw [show IntKind.i64.wrap (((i : Nat) : Int) + 1) = ((i : Nat) : Int) + 1 from wrap_i64 (by omega) (by omega)]
            refine fixR (y := ((i + 1 : Nat) : Int)) (by omega) ?_
            refine sg [(49, .int .i64 ((i + 1 : Nat) : Int))] (by kernel_rfl) ?_
            refine op_nil ?_
            refine ⟨_, ?_, F65, n66, cs67, Ao, cao, o, x68, i + 1, _, updL_self (by kernel_rfl), ?_, (hrw.far hr70).eq (fun be hm j hj => by show mvB _ _ _ _ (lowV mm (fun j => lt_ be (b.getD j 0)) i) j = mvB _ _ _ _ (lowV mm (fun j => lt_ be (b.getD j 0)) (i + 1)) j; rw [low_same (by omega)]), (Lw.of hr70).eq (fun be hm => by rw [far_step (by omega), show lt_ be fr = farV mm (fun j => lt_ be (b.getD j 0)) i from hfr.2 be (hm.sub hr70.2.1)]), by omega, hG, hMv, hA, hAr, hB, hBr, hO, hOr, rfl⟩
            · omega
            · omega
      · replace hc26 : (mm : Int) ≤ ((i : Nat) : Int) := (Int.not_lt.1 (of_decide_eq_false hc26))
        refine W_exit ?_
        refine X_hit ?_
        refine W_seq ?_
        refine W_region (by kernel_rfl) ?_
        refine sg [(82, .pointer (some ⟨p, 0, none⟩)), (83, .int .i64 ((fr : Nat) : Int)), (84, .slice A mm ca), (85, .int .i64 (mm : Int)), (86, .int .i64 ((GateP.nt 0 : Nat) : Int))] (by kernel_rfl) ?_
        have hltM := hG.1.lt
        have hpos_ := hG.2.pos
        refine st (by rfl) (S_call (args := [.slice A mm ca, .int .i64 (mm : Int), .bool false, .int .i64 ((GateP.nt 0 : Nat) : Int)]) (by kernel_rfl) (moved_ok mm ca A a false mm (GateP.nt 0) _ hA.1 hm2 (by omega)) ?_)
        rintro _ w74 ⟨g75, r76, rfl, hrl78, hBm79, hgm80, hmv81, hT77⟩
        have hG := hG.tch0 hT77
        have hMv := hMv.then0 hT77
        have hA := hA.tch0 hT77
        have hAr := hA.1
        have hB := hB.tch0 hT77
        have hBr := hB.1
        have hO := hO.tch0 hT77
        have hOr := hO.1
        have hX82 := RdX.ofP (m := mm) (F := F1) hBm79 (by rw [nats_length]; exact hrl78) (by omega) (fun e => by have := hltM _ e; omega)
        have hff_r76 : ∀ j, j < mm → r76.getD j 0 / 2 < n1 := fun j hj => by rw [hmv81 j hj]; exact mvN_fit (hff_a) (by omega) hj
        refine sg [(88, .slice Ao mm cao)] (by kernel_rfl) ?_
        have hzM := hMv.1.size
        refine st (by rfl) (S_call (args := [.pointer (some ⟨p, 0, none⟩), .int .i64 ((fr : Nat) : Int), .slice (some ⟨g75, 0, none⟩) mm mm, .slice Ao mm cao]) (by kernel_rfl) (itr_ok F1 p n1 mm mm cao (some ⟨g75, 0, none⟩) Ao r76 o fr cs1 I _ hG hX82 hO hff_r76 hff_o hm hm2 (by omega) (by omega)) ?_)
        rintro _ w83 ⟨F84, n85, cs86, g87, r88, rfl, hrl89, hX90, hg91, hG, hm92, hrw93, hd94⟩
        have hMv := hMv.trans hm92
        have hA := hA.mv hm92
        have hAr := hA.1
        have hB := hB.mv hm92
        have hBr := hB.1
        have hO := hO.mv hm92
        have hOr := hO.1
        have hX82 := hX82.mv hm92
        have hle95 := hrw93.le
        have hff_r88 := hrw93.fit
        have hrl_ := hrl89
        refine sg [(8, .slice (some ⟨g87, 0, none⟩) mm mm)] (by kernel_rfl) ?_
        refine op_nil ?_
        refine W_ret ?_
        refine ⟨_, Res_of (v := .slice (some ⟨g87, 0, none⟩) mm mm) (by kernel_rfl), ?_⟩
        refine ⟨F84, n85, cs86, g87, r88, rfl, hrl_, hX90, by omega, hG, hMv, (hrw.trans hrw93).eq (fun be hm j hj => ?_), by omega⟩
        show ite_ (lt_ be fr) (lt_ be (r76.getD j 0)) (lt_ be (o.getD j 0)) = mvB false mm (fun j => lt_ be (a.getD j 0)) (false) (bval mm (fun j => lt_ be (b.getD j 0))) j
        have hie : i = mm := by omega
        have e1 := hrw.val be (hm.sub hrw93.sub) j hj
        have e2 := hfr.2 be (hm.sub hrw93.sub)
        simp only [hie] at e1 e2
        have e3 : mvN false mm a mm (GateP.nt 0) j = GateP.nt 0 := by unfold mvN; rw [if_neg (by simp), if_neg (by omega)]
        rw [hmv81 j hj, e1, e2, e3]
        have e4 : lt_ be (GateP.nt 0) = false := hG.2.t1 hm
        rw [e4]
        exact mv_end hj

set_option maxRecDepth 100000 in
theorem move11_ok (F : Nat → Prop) (p n mm ca cb : Nat) (A B : Option Addr) (a b : List Nat)  (cs : List (List Nat)) (I : Nat → Prop) (w : World) (hG : GObj F w p n cs I) (hA : RdX F w mm A (nats a)) (hB : RdX F w mm B (nats b)) (hfa : ∀ j, j < mm → a.getD j 0 / 2 < n) (hfb : ∀ j, j < mm → b.getD j 0 / 2 < n) (hm : 0 < mm) (hm2 : mm ≤ 1000) (hn : n ≤ 50000000000) : Ret Try.prog 31 [.pointer (some ⟨p, 0, none⟩), .int .i64 11, .slice A mm ca, .slice B mm cb] w fun v w' => RowR F p n cs I w mm 2000000 (fun be j => mvB false mm (fun j => lt_ be (a.getD j 0)) (lt_ be (a.getD (mm - 1) 0)) (bval mm (fun j => lt_ be (b.getD j 0))) j) v w' := by
  have hMv := Mv.refl F w
  have hla : a.length = mm := by have := hA.1.1; rw [nats_length] at this; omega
  have hlb : b.length = mm := by have := hB.1.1; rw [nats_length] at this; omega
  have hAr := hA.1
  have hBr := hB.1
  have lt_hA := hA.lt
  have lt_hB := hB.lt
  have ge_hA : ∀ c, blkOf A = some c → 0 ≤ c := fun c _ => Nat.zero_le c
  have ge_hB : ∀ c, blkOf B = some c → 0 ≤ c := fun c _ => Nat.zero_le c
  have hff_a := hfa
  have hff_b := hfb
  have hpos := hG.2.pos
  refine enter Try.func31 rfl rfl ?_
  refine W_seq ?_
  refine W_region (by kernel_rfl) ?_
  refine sg [(8, .slice none 0 0)] (by kernel_rfl) ?_
  refine op_nil ?_
  refine W_seq ?_
  refine W_seq ?_
  refine W_region (by kernel_rfl) ?_
  refine sg [(14, .int .i64 11), (15, .bool true), (16, .bool true), (17, .int .i64 11), (18, .bool true), (19, .bool true), (20, .bool true), (21, .int .i64 11), (22, .bool false), (23, .bool false), (24, .bool false), (25, .pointer (some ⟨p, 0, none⟩)), (26, .slice A mm ca), (27, .slice B mm cb)] (by kernel_rfl) ?_
  have hzM := hMv.1.size
  refine st (by kernel_rfl) (S_call (args := [.pointer (some ⟨p, 0, none⟩), .int .i64 0, .slice A mm ca, .slice B mm cb]) (by kernel_rfl) (itr_ok F p n mm ca cb A B a b 0 cs I _ hG hA hB hff_a hff_b hm hm2 (by omega) (by omega)) ?_)
  rintro _ w1 ⟨F2, n3, cs4, g5, r6, rfl, hrl7, hX8, hg9, hG, hm10, hrw11, hd12⟩
  have hMv := hMv.trans hm10
  have hA := hA.mv hm10
  have hAr := hA.1
  have hB := hB.mv hm10
  have hBr := hB.1
  have hle13 := hrw11.le
  have hff_r6 := hrw11.fit
  have hrl_ := hrl7
  refine sg [(29, .int .i64 (mm : Int)), (30, .bool ((mm : Int) == 0)), (31, .bool ((mm : Int) == 0))] (by kernel_rfl) ?_
  refine op_nil ?_
  refine W_cond ((mm : Int) == 0) (by kernel_rfl) (by kernel_rfl) (fun hc14 => ?_) (fun hc14 => ?_)
  · replace hc14 : (mm : Int) = 0 := (eq_of_beq hc14)
    exfalso; omega
  · replace hc14 : (mm : Int) ≠ 0 := (ne_of_beq_false hc14)
    refine W_skip ?_
    refine W_seq ?_
    refine W_fg [(0, .pointer (some ⟨p, 0, none⟩)), (1, .int .i64 11), (2, .slice A mm ca), (3, .slice B mm cb), (8, .slice none 0 0), (31, .bool ((mm : Int) == 0))] (by kernel_rfl) fun ρ => ?_
    refine W_region (by kernel_rfl) ?_
    refine sg [(32, .slice A mm ca), (33, .int .i64 (mm : Int)), (9, .int .i64 (mm : Int))] (by kernel_rfl) ?_
    refine op_nil ?_
    refine W_seq ?_
    refine W_region (by kernel_rfl) ?_
    refine sg [(34, .pointer (some ⟨p, 0, none⟩))] (by kernel_rfl) ?_
    refine st (by rfl) (S_call (args := [.pointer (some ⟨p, 0, none⟩)]) (by kernel_rfl) (true_ok p _) ?_)
    rintro _ w15 ⟨rfl, hT16⟩
    have hG := hG.tch0 hT16
    have hMv := hMv.then0 hT16
    have hA := hA.tch0 hT16
    have hAr := hA.1
    have hB := hB.tch0 hT16
    have hBr := hB.1
    have hX8 := hX8.tch0 hT16
    refine st (by rfl) (S_call (args := [.int .i64 0]) (by kernel_rfl) (not_ok 0 _ (by omega)) ?_)
    rintro _ w17 ⟨rfl, hT18⟩
    have hG := hG.tch0 hT18
    have hMv := hMv.then0 hT18
    have hA := hA.tch0 hT18
    have hAr := hA.1
    have hB := hB.tch0 hT18
    have hBr := hB.1
    have hX8 := hX8.tch0 hT18
    have hnt19 := GateP.nt_div 0
    refine sg [(10, .int .i64 ((GateP.nt 0 : Nat) : Int))] (by kernel_rfl) ?_
    refine op_nil ?_
    refine W_seq ?_
    refine W_seq ?_
    refine W_region (by kernel_rfl) ?_
    refine sg [(37, .int .i64 11), (38, .bool true)] (by kernel_rfl) ?_
    refine op_nil ?_
    refine W_cond true (by kernel_rfl) (by kernel_rfl) (fun _ => ?_) (fun h => nomatch h)
    refine W_fg [(0, .pointer (some ⟨p, 0, none⟩)), (1, .int .i64 11), (2, .slice A mm ca), (3, .slice B mm cb), (8, .slice none 0 0), (9, .int .i64 (mm : Int)), (10, .int .i64 ((GateP.nt 0 : Nat) : Int)), (31, .bool ((mm : Int) == 0)), (38, .bool true)] (by kernel_rfl) fun ρ => ?_
    refine W_region (by kernel_rfl) ?_
    refine sg [(39, .slice A mm ca), (40, .int .i64 (mm : Int)), (41, .int .i64 (IntKind.i64.wrap ((mm : Int) - 1)))] (by kernel_rfl) ?_
    rw [show IntKind.i64.wrap ((mm : Int) - 1) = (mm : Int) - 1 from wrap_i64 (by omega) (by omega)]
    refine fixR (y := ((mm - 1 : Nat) : Int)) (by omega) ?_
    refine stv (v := ptrAt A (mm - 1)) (by rfl) (R_indexRd1 (len := mm) (cap := ca) (k := .i64) (i := ((mm - 1 : Nat) : Int)) (e := 3) (mm - 1) hAr (by kernel_rfl) (by kernel_rfl) (by kernel_rfl) (by kernel_rfl) rfl (by omega)) ?_
    refine stv (v := .int .i64 ((a.getD (mm - 1) 0 : Nat) : Int)) (by rfl) (R_loadRd (v := .int .i64 ((a.getD (mm - 1) 0 : Nat) : Int)) hAr (by omega) (by kernel_rfl) (by kernel_rfl) (nats_at (l := a) (by omega))) ?_
    refine sg [(10, .int .i64 ((a.getD (mm - 1) 0 : Nat) : Int))] (by kernel_rfl) ?_
    refine op_nil ?_
    refine W_seq ?_
    refine W_region (by kernel_rfl) ?_
    refine sg [(44, .slice A mm ca), (11, .slice A mm ca)] (by kernel_rfl) ?_
    refine op_nil ?_
    refine W_seq ?_
    refine W_fg [(0, .pointer (some ⟨p, 0, none⟩)), (1, .int .i64 11), (2, .slice A mm ca), (3, .slice B mm cb), (8, .slice none 0 0), (9, .int .i64 (mm : Int)), (10, .int .i64 ((a.getD (mm - 1) 0 : Nat) : Int)), (11, .slice A mm ca), (31, .bool ((mm : Int) == 0)), (38, .bool true)] (by kernel_rfl) fun ρ => ?_
    refine W_region (by kernel_rfl) ?_
    refine sg [(45, .pointer (some ⟨p, 0, none⟩))] (by kernel_rfl) ?_
    refine st (by rfl) (S_call (args := [.pointer (some ⟨p, 0, none⟩)]) (by kernel_rfl) (true_ok p _) ?_)
    rintro _ w20 ⟨rfl, hT21⟩
    have hG := hG.tch0 hT21
    have hMv := hMv.then0 hT21
    have hA := hA.tch0 hT21
    have hAr := hA.1
    have hB := hB.tch0 hT21
    have hBr := hB.1
    have hX8 := hX8.tch0 hT21
    refine st (by rfl) (S_call (args := [.int .i64 0]) (by kernel_rfl) (not_ok 0 _ (by omega)) ?_)
    rintro _ w22 ⟨rfl, hT23⟩
    have hG := hG.tch0 hT23
    have hMv := hMv.then0 hT23
    have hA := hA.tch0 hT23
    have hAr := hA.1
    have hB := hB.tch0 hT23
    have hBr := hB.1
    have hX8 := hX8.tch0 hT23
    have hnt24 := GateP.nt_div 0
    refine sg [(12, .int .i64 ((GateP.nt 0 : Nat) : Int))] (by kernel_rfl) ?_
    refine op_nil ?_
    refine W_seq ?_
    refine W_seq ?_
    refine W_region (by kernel_rfl) ?_
    refine sg [(48, .int .i64 (mm : Int)), (49, .int .i64 0)] (by kernel_rfl) ?_
    refine op_nil ?_
    refine W_block ?_
    refine W_loop (fun m ρ w' => ∃ (F1 : Nat → Prop) (n1 : Nat) (cs1 : List (List Nat)) (Ao : Option Addr) (cao : Nat) (o : List Nat) (fr i : Nat) (ρ0 : Env), ρ = updL ρ0 [(0, .pointer (some ⟨p, 0, none⟩)), (1, .int .i64 11), (2, .slice A mm ca), (3, .slice B mm cb), (8, .slice none 0 0), (9, .int .i64 (mm : Int)), (10, .int .i64 ((a.getD (mm - 1) 0 : Nat) : Int)), (11, .slice Ao mm cao), (12, .int .i64 ((fr : Nat) : Int)), (48, .int .i64 (mm : Int)), (49, .int .i64 ((i : Nat) : Int))] ∧ (i ≤ mm) ∧ (Rw n cs n1 cs1 mm o (fun be j => mvB false mm (fun j => lt_ be (a.getD j 0)) (lt_ be (a.getD (mm - 1) 0)) (lowV mm (fun j => lt_ be (b.getD j 0)) i) j)) ∧ (Lw n1 cs1 fr (fun be => farV mm (fun j => lt_ be (b.getD j 0)) i)) ∧ (n1 ≤ n + 1001 + i * 1001) ∧ GObj F1 w' p n1 cs1 I ∧ Mv F F1 w w' ∧ RdX F1 w' mm A (nats a) ∧ RdW w' 1 mm A (nats a) ∧ RdX F1 w' mm B (nats b) ∧ RdW w' 1 mm B (nats b) ∧ RdX F1 w' mm Ao (nats o) ∧ RdW w' 1 mm Ao (nats o) ∧ m = mm - i) (m := mm - 0) ?_ ?_
    · refine ⟨F2, n3, cs4, A, ca, a, GateP.nt 0, 0, _, updL_self (by kernel_rfl), by omega, ⟨hrw11.le, hrw11.sub, fun j hj => by have := hfa j hj; have := hrw11.le; omega, fun be hm j hj => (mvB_zero (A := (fun j => lt_ be (a.getD j 0))) hj).symm⟩, ⟨by have := hG.2.pos; show (1 : Nat) / 2 < _; omega, fun be hm => hG.2.t1 hm⟩, by omega, hG, hMv, hA, hAr, hB, hBr, hA, hAr, rfl⟩
    · rintro m ρ w25 ⟨F1, n1, cs1, Ao, cao, o, fr, i, ρ, rfl, hi, hrw, hfr, hd, hG, hMv, hA, hAr, hB, hBr, hO, hOr, rfl⟩
      have hle_ := hrw.le
      have hff_o := hrw.fit
      have fb := fun q : i < mm => hfb i q
      have hffr := hfr.1
      have hpos := hG.2.pos
      have hff_a : ∀ j, j < mm → a.getD j 0 / 2 < n1 := fun j hj => by have := hfa j hj; omega
      have hflt : (a.getD (mm - 1) 0) / 2 < n1 := hff_a _ (by omega)
      refine W_seq ?_
      refine W_region (by kernel_rfl) ?_
      refine sg [(50, .bool (decide (((i : Nat) : Int) < (mm : Int))))] (by kernel_rfl) ?_
      refine op_nil ?_
      refine W_seq ?_
      refine W_cond (decide (((i : Nat) : Int) < (mm : Int))) (by kernel_rfl) (by kernel_rfl) (fun hc26 => ?_) (fun hc26 => ?_)
      · replace hc26 : ((i : Nat) : Int) < (mm : Int) := (of_decide_eq_true hc26)
        refine W_skip ?_
        refine W_seq ?_
        refine W_block ?_
        refine W_seq ?_
        refine W_region (by kernel_rfl) ?_
        refine sg [(51, .int .i64 ((i : Nat) : Int)), (13, .int .i64 ((i : Nat) : Int))] (by kernel_rfl) ?_
        refine op_nil ?_
        refine W_seq ?_
        refine W_region (by kernel_rfl) ?_
        refine sg [(52, .int .i64 ((i : Nat) : Int)), (53, .bool (decide (((i : Nat) : Int) < 30))), (54, .bool (decide (((i : Nat) : Int) < 30)))] (by kernel_rfl) ?_
        cases hb27 : decide (((i : Nat) : Int) < 30)
        · replace hb27 : 30 ≤ ((i : Nat) : Int) := (Int.not_lt.1 (of_decide_eq_false hb27))
          refine sg [(55, undef), (56, undef), (57, undef), (58, undef), (59, .bool false)] (by kernel_rfl) ?_
          refine op_nil ?_
          refine W_cond false (by kernel_rfl) (by kernel_rfl) (fun h => nomatch h) (fun _ => ?_)
          refine W_fg [(0, .pointer (some ⟨p, 0, none⟩)), (1, .int .i64 11), (2, .slice A mm ca), (3, .slice B mm cb), (8, .slice none 0 0), (9, .int .i64 (mm : Int)), (10, .int .i64 ((a.getD (mm - 1) 0 : Nat) : Int)), (11, .slice Ao mm cao), (12, .int .i64 ((fr : Nat) : Int)), (13, .int .i64 ((i : Nat) : Int)), (48, .int .i64 (mm : Int)), (49, .int .i64 ((i : Nat) : Int)), (50, .bool (decide (((i : Nat) : Int) < (mm : Int)))), (59, .bool false)] (by kernel_rfl) fun ρ => ?_
          have hbig : mm ≤ pw i := by first | omega | (have := pw30 (i := i) (by omega); omega)
          refine W_region (by kernel_rfl) ?_
          refine sg [(74, .pointer (some ⟨p, 0, none⟩)), (75, .int .i64 ((fr : Nat) : Int)), (76, .slice B mm cb), (77, .int .i64 ((i : Nat) : Int))] (by kernel_rfl) ?_
          refine stv (v := ptrAt B i) (by rfl) (R_indexRd1 (len := mm) (cap := cb) (k := .i64) (i := ((i : Nat) : Int)) (e := 3) i hBr (by kernel_rfl) (by kernel_rfl) (by kernel_rfl) (by kernel_rfl) rfl (by omega)) ?_
          refine stv (v := .int .i64 ((b.getD i 0 : Nat) : Int)) (by rfl) (R_loadRd (v := .int .i64 ((b.getD i 0 : Nat) : Int)) hBr (by omega) (by kernel_rfl) (by kernel_rfl) (nats_at (l := b) (by omega))) ?_
          refine st (by rfl) (S_call (args := [.pointer (some ⟨p, 0, none⟩), .int .i64 ((fr : Nat) : Int), .int .i64 ((b.getD i 0 : Nat) : Int)]) (by kernel_rfl) (or_ok F1 p n1 fr (b.getD i 0) cs1 I _ hG (by omega) (by omega) (by omega)) ?_)
          rintro _ w28 ⟨F29, n30, cs31, x32, rfl, hG, hm33, hr34, hd35⟩
          have hMv := hMv.trans hm33
          have hA := hA.mv hm33
          have hAr := hA.1
          have hB := hB.mv hm33
          have hBr := hB.1
          have hO := hO.mv hm33
          have hOr := hO.1
          have hxb36 := hr34.2.2.1
          have hle37 := hr34.1
          refine sg [(12, .int .i64 ((x32 : Nat) : Int))] (by kernel_rfl) ?_
          refine op_nil ?_
          refine W_fg [(0, .pointer (some ⟨p, 0, none⟩)), (1, .int .i64 11), (2, .slice A mm ca), (3, .slice B mm cb), (8, .slice none 0 0), (9, .int .i64 (mm : Int)), (10, .int .i64 ((a.getD (mm - 1) 0 : Nat) : Int)), (11, .slice Ao mm cao), (12, .int .i64 ((x32 : Nat) : Int)), (13, .int .i64 ((i : Nat) : Int)), (48, .int .i64 (mm : Int)), (49, .int .i64 ((i : Nat) : Int)), (50, .bool (decide (((i : Nat) : Int) < (mm : Int)))), (59, .bool false)] (by kernel_rfl) fun ρ => ?_
          refine W_region (by kernel_rfl) ?_
          refine sg [(81, .int .i64 (IntKind.i64.wrap (((i : Nat) : Int) + 1)))] (by kernel_rfl) ?_
          rw [show IntKind.i64.wrap (((i : Nat) : Int) + 1) = ((i : Nat) : Int) + 1 from wrap_i64 (by omega) (by omega)]
          refine fixR (y := ((i + 1 : Nat) : Int)) (by omega) ?_
          refine sg [(49, .int .i64 ((i + 1 : Nat) : Int))] (by kernel_rfl) ?_
          refine op_nil ?_
          refine ⟨_, ?_, F29, n30, cs31, Ao, cao, o, x32, i + 1, _, updL_self (by kernel_rfl), ?_, (hrw.far hr34).eq (fun be hm j hj => by show mvB _ _ _ _ (lowV mm (fun j => lt_ be (b.getD j 0)) i) j = mvB _ _ _ _ (lowV mm (fun j => lt_ be (b.getD j 0)) (i + 1)) j; rw [low_same (by omega)]), (Lw.of hr34).eq (fun be hm => by rw [far_step (by omega), show lt_ be fr = farV mm (fun j => lt_ be (b.getD j 0)) i from hfr.2 be (hm.sub hr34.2.1)]), by omega, hG, hMv, hA, hAr, hB, hBr, hO, hOr, rfl⟩
          · omega
          · omega
        · replace hb27 : ((i : Nat) : Int) < 30 := (of_decide_eq_true hb27)
          refine sg [(55, .int .i64 ((i : Nat) : Int))] (by kernel_rfl) ?_
          refine stv (v := .int .i64 ((pw i : Nat) : Int)) (by rfl) (R_shlP i (by kernel_rfl) (by kernel_rfl) (by omega)) ?_
          refine sg [(57, .int .i64 (mm : Int)), (58, .bool (decide (((pw i : Nat) : Int) < (mm : Int)))), (59, .bool (decide (((pw i : Nat) : Int) < (mm : Int))))] (by kernel_rfl) ?_
          refine op_nil ?_
          refine W_cond (decide (((pw i : Nat) : Int) < (mm : Int))) (by kernel_rfl) (by kernel_rfl) (fun hc38 => ?_) (fun hc38 => ?_)
          · replace hc38 : ((pw i : Nat) : Int) < (mm : Int) := (of_decide_eq_true hc38)
            refine W_fg [(0, .pointer (some ⟨p, 0, none⟩)), (1, .int .i64 11), (2, .slice A mm ca), (3, .slice B mm cb), (8, .slice none 0 0), (9, .int .i64 (mm : Int)), (10, .int .i64 ((a.getD (mm - 1) 0 : Nat) : Int)), (11, .slice Ao mm cao), (12, .int .i64 ((fr : Nat) : Int)), (13, .int .i64 ((i : Nat) : Int)), (48, .int .i64 (mm : Int)), (49, .int .i64 ((i : Nat) : Int)), (50, .bool (decide (((i : Nat) : Int) < (mm : Int)))), (59, .bool (decide (((pw i : Nat) : Int) < (mm : Int))))] (by kernel_rfl) fun ρ => ?_
            refine W_draw (fun w' => RdW w' 1 mm B (nats b)) (by kernel_rfl) (by kernel_rfl) (by kernel_rfl) fun w39 hT40 hh41 => ?_
            have hG := hG.tch0 hT40
            have hMv := hMv.then0 hT40
            have hA := hA.tch0 hT40
            have hAr := hA.1
            have hB := hB.tch0 hT40
            have hBr := hB.1
            have hO := hO.tch0 hT40
            have hOr := hO.1
            refine dtk [0, 1, 2, 5, 6, 8, 10, 12, 9] #[true, true, true, false, false, true, true, false, true, true, true, false, true, false, false] [(60, .pointer (some ⟨p, 0, none⟩)), (61, .slice B mm cb), (62, .int .i64 ((i : Nat) : Int)), (65, .slice Ao mm cao), (66, .int .i64 ((i : Nat) : Int)), (68, .int .i64 11), (70, .int .i64 ((a.getD (mm - 1) 0 : Nat) : Int)), (72, .slice Ao mm cao), (69, .bool false)] hBr (by kernel_rfl) ?_
            refine d_val (v := ptrAt B i) 3 (by rfl) (by kernel_rfl) (by kernel_rfl) (by kernel_rfl) (fun w' hs => by have hBr := hs; exact R_indexRd1 (len := mm) (cap := cb) (k := .i64) (i := ((i : Nat) : Int)) (e := 3) i hBr (by kernel_rfl) (by kernel_rfl) (by kernel_rfl) (by kernel_rfl) rfl (by omega)) hBr ?_
            refine d_val (v := .int .i64 ((b.getD i 0 : Nat) : Int)) 4 (by rfl) (by kernel_rfl) (by kernel_rfl) (by kernel_rfl) (fun w' hs => by have hBr := hs; exact R_loadRd (v := .int .i64 ((b.getD i 0 : Nat) : Int)) hBr (by omega) (by kernel_rfl) (by kernel_rfl) (nats_at (l := b) (by omega))) hBr ?_
            refine d_one 7 (by kernel_rfl) (by rfl) (by kernel_rfl) (S_val (v := .int .i64 ((pw i : Nat) : Int)) (R_shlP i (by kernel_rfl) (by kernel_rfl) (by omega)) ?_)
            refine ⟨hBr, ?_⟩
            have hltM := hG.1.lt
            have hpos_ := hG.2.pos
            refine d_one 11 (by kernel_rfl) (by rfl) (by kernel_rfl) (S_call (args := [.slice Ao mm cao, .int .i64 ((pw i : Nat) : Int), .bool false, .int .i64 ((a.getD (mm - 1) 0 : Nat) : Int)]) (by kernel_rfl) (moved_ok mm cao Ao o false (pw i) (a.getD (mm - 1) 0) _ hO.1 hm2 (by omega)) ?_)
            rintro _ w42 ⟨g43, r44, rfl, hrl46, hBm47, hgm48, hmv49, hT45⟩
            have hG := hG.tch0 hT45
            have hMv := hMv.then0 hT45
            have hA := hA.tch0 hT45
            have hAr := hA.1
            have hB := hB.tch0 hT45
            have hBr := hB.1
            have hO := hO.tch0 hT45
            have hOr := hO.1
            have hX50 := RdX.ofP (m := mm) (F := F1) hBm47 (by rw [nats_length]; exact hrl46) (by omega) (fun e => by have := hltM _ e; omega)
            have hff_r44 : ∀ j, j < mm → r44.getD j 0 / 2 < n1 := fun j hj => by rw [hmv49 j hj]; exact mvN_fit (hff_o) (by omega) hj
            refine ⟨hBr, ?_⟩
            have hzM := hMv.1.size
            refine d_one 13 (by kernel_rfl) (by rfl) (by kernel_rfl) (S_call (args := [.pointer (some ⟨p, 0, none⟩), .int .i64 ((b.getD i 0 : Nat) : Int), .slice (some ⟨g43, 0, none⟩) mm mm, .slice Ao mm cao]) (by kernel_rfl) (itr_ok F1 p n1 mm mm cao (some ⟨g43, 0, none⟩) Ao r44 o (b.getD i 0) cs1 I _ hG hX50 hO hff_r44 hff_o hm hm2 (by omega) (by omega)) ?_)
            rintro _ w51 ⟨F52, n53, cs54, g55, r56, rfl, hrl57, hX58, hg59, hG, hm60, hrw61, hd62⟩
            have hMv := hMv.trans hm60
            have hA := hA.mv hm60
            have hAr := hA.1
            have hB := hB.mv hm60
            have hBr := hB.1
            have hO := hO.mv hm60
            have hOr := hO.1
            have hX50 := hX50.mv hm60
            have hle63 := hrw61.le
            have hff_r56 := hrw61.fit
            have hrl_ := hrl57
            refine ⟨hBr, ?_⟩
            refine dtk [14] #[true, true, true, true, true, true, true, true, true, true, true, true, true, true, true] [(11, .slice (some ⟨g55, 0, none⟩) mm mm)] hBr (by kernel_rfl) ?_
            refine d_done (by kernel_rfl) ?_
            refine W_fg [(0, .pointer (some ⟨p, 0, none⟩)), (1, .int .i64 11), (2, .slice A mm ca), (3, .slice B mm cb), (8, .slice none 0 0), (9, .int .i64 (mm : Int)), (10, .int .i64 ((a.getD (mm - 1) 0 : Nat) : Int)), (11, .slice (some ⟨g55, 0, none⟩) mm mm), (12, .int .i64 ((fr : Nat) : Int)), (13, .int .i64 ((i : Nat) : Int)), (48, .int .i64 (mm : Int)), (49, .int .i64 ((i : Nat) : Int)), (50, .bool (decide (((i : Nat) : Int) < (mm : Int)))), (59, .bool (decide (((pw i : Nat) : Int) < (mm : Int))))] (by kernel_rfl) fun ρ => ?_
            refine W_region (by kernel_rfl) ?_
            refine sg [(81, .int .i64 (IntKind.i64.wrap (((i : Nat) : Int) + 1)))] (by kernel_rfl) ?_
            rw [show IntKind.i64.wrap (((i : Nat) : Int) + 1) = ((i : Nat) : Int) + 1 from wrap_i64 (by omega) (by omega)]
            refine fixR (y := ((i + 1 : Nat) : Int)) (by omega) ?_
            refine sg [(49, .int .i64 ((i + 1 : Nat) : Int))] (by kernel_rfl) ?_
            refine op_nil ?_
            refine ⟨_, ?_, F52, n53, cs54, some ⟨g55, 0, none⟩, mm, r56, fr, i + 1, _, updL_self (by kernel_rfl), ?_, (hrw.trans hrw61).eq (fun be hm j hj => by show ite_ _ (lt_ be (r44.getD j 0)) _ = _; rw [hmv49 j hj]; exact mv_stage (hrw.val be (hm.sub hrw61.sub)) (by omega) hj), (hfr.mono hrw61.le hrw61.sub).eq (fun be hm => (far_same (by omega)).symm), by omega, hG, hMv, hA, hAr, hB, hBr, hX58, hX58.1, rfl⟩
            · omega
            · omega
          · replace hc38 : (mm : Int) ≤ ((pw i : Nat) : Int) := (Int.not_lt.1 (of_decide_eq_false hc38))
            refine W_fg [(0, .pointer (some ⟨p, 0, none⟩)), (1, .int .i64 11), (2, .slice A mm ca), (3, .slice B mm cb), (8, .slice none 0 0), (9, .int .i64 (mm : Int)), (10, .int .i64 ((a.getD (mm - 1) 0 : Nat) : Int)), (11, .slice Ao mm cao), (12, .int .i64 ((fr : Nat) : Int)), (13, .int .i64 ((i : Nat) : Int)), (48, .int .i64 (mm : Int)), (49, .int .i64 ((i : Nat) : Int)), (50, .bool (decide (((i : Nat) : Int) < (mm : Int)))), (59, .bool (decide (((pw i : Nat) : Int) < (mm : Int))))] (by kernel_rfl) fun ρ => ?_
            have hbig : mm ≤ pw i := by first | omega | (have := pw30 (i := i) (by omega); omega)
            refine W_region (by kernel_rfl) ?_
            refine sg [(74, .pointer (some ⟨p, 0, none⟩)), (75, .int .i64 ((fr : Nat) : Int)), (76, .slice B mm cb), (77, .int .i64 ((i : Nat) : Int))] (by kernel_rfl) ?_
            refine stv (v := ptrAt B i) (by rfl) (R_indexRd1 (len := mm) (cap := cb) (k := .i64) (i := ((i : Nat) : Int)) (e := 3) i hBr (by kernel_rfl) (by kernel_rfl) (by kernel_rfl) (by kernel_rfl) rfl (by omega)) ?_
            refine stv (v := .int .i64 ((b.getD i 0 : Nat) : Int)) (by rfl) (R_loadRd (v := .int .i64 ((b.getD i 0 : Nat) : Int)) hBr (by omega) (by kernel_rfl) (by kernel_rfl) (nats_at (l := b) (by omega))) ?_
            refine st (by rfl) (S_call (args := [.pointer (some ⟨p, 0, none⟩), .int .i64 ((fr : Nat) : Int), .int .i64 ((b.getD i 0 : Nat) : Int)]) (by kernel_rfl) (or_ok F1 p n1 fr (b.getD i 0) cs1 I _ hG (by omega) (by omega) (by omega)) ?_)
            rintro _ w64 ⟨F65, n66, cs67, x68, rfl, hG, hm69, hr70, hd71⟩
            have hMv := hMv.trans hm69
            have hA := hA.mv hm69
            have hAr := hA.1
            have hB := hB.mv hm69
            have hBr := hB.1
            have hO := hO.mv hm69
            have hOr := hO.1
            have hxb72 := hr70.2.2.1
            have hle73 := hr70.1
            refine sg [(12, .int .i64 ((x68 : Nat) : Int))] (by kernel_rfl) ?_
            refine op_nil ?_
            refine W_fg [(0, .pointer (some ⟨p, 0, none⟩)), (1, .int .i64 11), (2, .slice A mm ca), (3, .slice B mm cb), (8, .slice none 0 0), (9, .int .i64 (mm : Int)), (10, .int .i64 ((a.getD (mm - 1) 0 : Nat) : Int)), (11, .slice Ao mm cao), (12, .int .i64 ((x68 : Nat) : Int)), (13, .int .i64 ((i : Nat) : Int)), (48, .int .i64 (mm : Int)), (49, .int .i64 ((i : Nat) : Int)), (50, .bool (decide (((i : Nat) : Int) < (mm : Int)))), (59, .bool (decide (((pw i : Nat) : Int) < (mm : Int))))] (by kernel_rfl) fun ρ => ?_
            refine W_region (by kernel_rfl) ?_
            refine sg [(81, .int .i64 (IntKind.i64.wrap (((i : Nat) : Int) + 1)))] (by kernel_rfl) ?_
            rw [show IntKind.i64.wrap (((i : Nat) : Int) + 1) = ((i : Nat) : Int) + 1 from wrap_i64 (by omega) (by omega)]
            refine fixR (y := ((i + 1 : Nat) : Int)) (by omega) ?_
            refine sg [(49, .int .i64 ((i + 1 : Nat) : Int))] (by kernel_rfl) ?_
            refine op_nil ?_
            refine ⟨_, ?_, F65, n66, cs67, Ao, cao, o, x68, i + 1, _, updL_self (by kernel_rfl), ?_, (hrw.far hr70).eq (fun be hm j hj => by show mvB _ _ _ _ (lowV mm (fun j => lt_ be (b.getD j 0)) i) j = mvB _ _ _ _ (lowV mm (fun j => lt_ be (b.getD j 0)) (i + 1)) j; rw [low_same (by omega)]), (Lw.of hr70).eq (fun be hm => by rw [far_step (by omega), show lt_ be fr = farV mm (fun j => lt_ be (b.getD j 0)) i from hfr.2 be (hm.sub hr70.2.1)]), by omega, hG, hMv, hA, hAr, hB, hBr, hO, hOr, rfl⟩
            · omega
            · omega
      · replace hc26 : (mm : Int) ≤ ((i : Nat) : Int) := (Int.not_lt.1 (of_decide_eq_false hc26))
        refine W_exit ?_
        refine X_hit ?_
        refine W_seq ?_
        refine W_region (by kernel_rfl) ?_
        refine sg [(82, .pointer (some ⟨p, 0, none⟩)), (83, .int .i64 ((fr : Nat) : Int)), (84, .slice A mm ca), (85, .int .i64 (mm : Int)), (86, .int .i64 ((a.getD (mm - 1) 0 : Nat) : Int))] (by kernel_rfl) ?_
        have hltM := hG.1.lt
        have hpos_ := hG.2.pos
        refine st (by rfl) (S_call (args := [.slice A mm ca, .int .i64 (mm : Int), .bool false, .int .i64 ((a.getD (mm - 1) 0 : Nat) : Int)]) (by kernel_rfl) (moved_ok mm ca A a false mm (a.getD (mm - 1) 0) _ hA.1 hm2 (by omega)) ?_)
        rintro _ w74 ⟨g75, r76, rfl, hrl78, hBm79, hgm80, hmv81, hT77⟩
        have hG := hG.tch0 hT77
        have hMv := hMv.then0 hT77
        have hA := hA.tch0 hT77
        have hAr := hA.1
        have hB := hB.tch0 hT77
        have hBr := hB.1
        have hO := hO.tch0 hT77
        have hOr := hO.1
        have hX82 := RdX.ofP (m := mm) (F := F1) hBm79 (by rw [nats_length]; exact hrl78) (by omega) (fun e => by have := hltM _ e; omega)
        have hff_r76 : ∀ j, j < mm → r76.getD j 0 / 2 < n1 := fun j hj => by rw [hmv81 j hj]; exact mvN_fit (hff_a) (by omega) hj
        refine sg [(88, .slice Ao mm cao)] (by kernel_rfl) ?_
        have hzM := hMv.1.size
        refine st (by rfl) (S_call (args := [.pointer (some ⟨p, 0, none⟩), .int .i64 ((fr : Nat) : Int), .slice (some ⟨g75, 0, none⟩) mm mm, .slice Ao mm cao]) (by kernel_rfl) (itr_ok F1 p n1 mm mm cao (some ⟨g75, 0, none⟩) Ao r76 o fr cs1 I _ hG hX82 hO hff_r76 hff_o hm hm2 (by omega) (by omega)) ?_)
        rintro _ w83 ⟨F84, n85, cs86, g87, r88, rfl, hrl89, hX90, hg91, hG, hm92, hrw93, hd94⟩
        have hMv := hMv.trans hm92
        have hA := hA.mv hm92
        have hAr := hA.1
        have hB := hB.mv hm92
        have hBr := hB.1
        have hO := hO.mv hm92
        have hOr := hO.1
        have hX82 := hX82.mv hm92
        have hle95 := hrw93.le
        have hff_r88 := hrw93.fit
        have hrl_ := hrl89
        refine sg [(8, .slice (some ⟨g87, 0, none⟩) mm mm)] (by kernel_rfl) ?_
        refine op_nil ?_
        refine W_ret ?_
        refine ⟨_, Res_of (v := .slice (some ⟨g87, 0, none⟩) mm mm) (by kernel_rfl), ?_⟩
        refine ⟨F84, n85, cs86, g87, r88, rfl, hrl_, hX90, by omega, hG, hMv, (hrw.trans hrw93).eq (fun be hm j hj => ?_), by omega⟩
        show ite_ (lt_ be fr) (lt_ be (r76.getD j 0)) (lt_ be (o.getD j 0)) = mvB false mm (fun j => lt_ be (a.getD j 0)) (lt_ be (a.getD (mm - 1) 0)) (bval mm (fun j => lt_ be (b.getD j 0))) j
        have hie : i = mm := by omega
        have e1 := hrw.val be (hm.sub hrw93.sub) j hj
        have e2 := hfr.2 be (hm.sub hrw93.sub)
        simp only [hie] at e1 e2
        have e3 : mvN false mm a mm (a.getD (mm - 1) 0) j = a.getD (mm - 1) 0 := by unfold mvN; rw [if_neg (by simp), if_neg (by omega)]
        rw [hmv81 j hj, e1, e2, e3]
        exact mv_end hj

end Go.Proofs.YtnlecdpiccgdpaaV
