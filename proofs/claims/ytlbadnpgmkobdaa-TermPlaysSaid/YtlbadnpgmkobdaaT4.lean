/- Walks of functions of the program and of the document's texts. The conditions stand with each theorem. -/
import Derived.Test.YtlbadnpgmkobdaaProg
import Derived.Test.YtlbadnpgmkobdaaT3
set_option linter.unusedVariables false
set_option linter.unusedSimpArgs false
namespace Go.Proofs.YtlbadnpgmkobdaaV
open Go Go.RowKit Go.Proofs

theorem mk_err {N : List Nd} {most : Int} {n : Nd} (h : (mk N most n).2.1 ≠ 0) : (mk N most n).2.2 = N := by
  unfold mk at *
  split
  · rfl
  · split
    · rfl
    · rename_i a b; rw [if_neg a, if_neg b] at h; exact absurd rfl h
theorem mk_ok_in {N : List Nd} {most : Int} {n : Nd} (h : (mk N most n).2.1 = 0) : n ∈ (mk N most n).2.2 ∧ ∀ m, m ∈ (mk N most n).2.2 ↔ (m ∈ N ∨ m = n) := by
  unfold mk at *
  split
  · rename_i a
    exact ⟨a, fun m => ⟨.inl, fun q => q.elim id (fun e => e ▸ a)⟩⟩
  · split
    · rename_i a b; rw [if_neg a, if_pos b] at h; exact absurd h (show ¬ ((8 : Int) = 0) by decide)
    · simp
theorem var_wd {N : List Nd} {most w i : Int} (hb : ¬ varBad N w i) (h : (mk N most (21, w, i, 0, 0, 0)).2.1 = 0) (x y : Value) : wdR (mk N most (21, w, i, 0, 0, 0)).2.2 x y ↔ (x ≠ .int .i64 i ∧ wdR N x y) ∨ (x = .int .i64 i ∧ y = .int .i64 w) := by
  obtain ⟨h1, h2⟩ := mk_ok_in h
  constructor
  · rintro ⟨m, hm, ho, rfl, rfl⟩
    rcases (h2 m).1 hm with q | q
    · by_cases e : nA m = i
      · refine .inr ⟨by rw [e], ?_⟩
        have : nW m = w := Decidable.byContradiction fun z => hb ⟨m, q, ho, e, z⟩
        rw [this]
      · exact .inl ⟨fun z => e (by injection z), m, q, ho, rfl, rfl⟩
    · subst q; exact .inr ⟨rfl, rfl⟩
  · rintro (⟨_, m, hm, ho, e1, e2⟩ | ⟨rfl, rfl⟩)
    · exact ⟨m, (h2 m).2 (.inl hm), ho, e1, e2⟩
    · exact ⟨_, h1, rfl, rfl, rfl⟩
theorem var_hv {N : List Nd} {w i : Int} (hb : ¬ varBad N w i) : nO (21, w, i, 0, 0, 0) = 21 → ∀ m, m ∈ N → nO m = 21 → nA m = nA (21, w, i, 0, 0, 0) → nW m = nW (21, w, i, 0, 0, 0) := fun _ m hm ho ha => Decidable.byContradiction fun z => hb ⟨m, hm, ho, ha, z⟩
def newM (m : Int) : Int := if m < 0 ∨ 65536 < m then 0 else m
theorem newM_ok (m : Int) : 0 ≤ newM m ∧ newM m ≤ 65536 := by unfold newM; split <;> omega
theorem TJ_zero (m : Int) : TJ [] (newM m) := ⟨⟨by simp, by have := newM_ok m; simp; omega, (newM_ok m).2, by simp, by simp⟩, by simp⟩

set_option maxRecDepth 100000 in
theorem var_ok (F : Nat → Prop) (p : Nat) (most : Int) (N : List Nd) (wd ix : Int) (w : World) (hO : TObj F w p most N) (hwd : b64 wd) (hix : b64 ix) : Ret Try.prog 35 [.pointer (some ⟨p, 0, none⟩), .int .i64 wd, .int .i64 ix] w fun v w' => TRet F p most w (varF N most wd ix) v w' := by
  obtain ⟨hL, hJ⟩ := id hO
  have hMv := Mv.refl F w
  have hlen := hJ.ti.len
  have hmost := hJ.ti.most
  have hu1 := hwd
  have hu2 := hix
  unfold b64 at hu1 hu2
  refine enter Try.func35 rfl rfl ?_
  refine W_seq ?_
  refine W_region (by kernel_rfl) ?_
  refine seg2 (ρ' := upd (upd (ini [.pointer (some ⟨p, 0, none⟩), .int .i64 wd, .int .i64 ix]) 6 (.int .i64 0)) 7 (.int .i64 0)) (by kernel_rfl) ?_
  refine op_nil ?_
  refine W_seq ?_
  refine W_block ?_
  refine W_seq ?_
  refine W_region (by kernel_rfl) ?_
  refine seg3 (ρ' := upd (upd (upd (upd (upd (ini [.pointer (some ⟨p, 0, none⟩), .int .i64 wd, .int .i64 ix]) 6 (.int .i64 0)) 7 (.int .i64 0)) 13 (.pointer (some ⟨p, 0, none⟩))) 14 (.bool false)) 12 (.bool false)) (by kernel_rfl) ?_
  refine op_nil ?_
  refine W_cond false (by kernel_rfl) (by kernel_rfl) (fun h => nomatch h) (fun _ => ?_)
  refine W_seq ?_
  refine W_region (by kernel_rfl) ?_
  refine seg1 (ρ' := upd (upd (upd (upd (upd (upd (ini [.pointer (some ⟨p, 0, none⟩), .int .i64 wd, .int .i64 ix]) 6 (.int .i64 0)) 7 (.int .i64 0)) 13 (.pointer (some ⟨p, 0, none⟩))) 14 (.bool false)) 12 (.bool false)) 16 (.int .i64 wd)) (by kernel_rfl) ?_
  refine st (by rfl) (S_call (args := [.int .i64 wd]) (by kernel_rfl) (mask_ok wd _) ?_)
  rintro _ w1 ⟨rfl, hT2⟩
  have hL := hL.tch0 hT2
  have hMv := hMv.then0 hT2
  refine seg2 (ρ' := upd (upd (upd (upd (upd (upd (upd (upd (upd (ini [.pointer (some ⟨p, 0, none⟩), .int .i64 wd, .int .i64 ix]) 6 (.int .i64 0)) 7 (.int .i64 0)) 13 (.pointer (some ⟨p, 0, none⟩))) 14 (.bool false)) 12 (.bool false)) 16 (.int .i64 wd)) 17 (.int .u64 (maskF wd))) 18 (.bool ((maskF wd) == 0))) 15 (.bool ((maskF wd) == 0))) (by kernel_rfl) ?_
  refine op_nil ?_
  refine W_cond ((maskF wd) == 0) (by kernel_rfl) (by kernel_rfl) (fun hc3 => ?_) (fun hc3 => ?_)
  · replace hc3 : maskF wd = 0 := (eq_of_beq hc3)
    have hfw : ¬ (1 ≤ wd ∧ wd ≤ 64) := fun q => by have := mask_pos q; omega
    refine W_seq ?_
    refine W_fg [(0, .pointer (some ⟨p, 0, none⟩)), (1, .int .i64 wd), (2, .int .i64 ix), (6, .int .i64 0), (7, .int .i64 0), (12, .bool false), (15, .bool ((maskF wd) == 0))] (by kernel_rfl) fun ρ => ?_
    refine W_region (by kernel_rfl) ?_
    refine seg2 (ρ' := upd (upd (updL ρ [(0, .pointer (some ⟨p, 0, none⟩)), (1, .int .i64 wd), (2, .int .i64 ix), (6, .int .i64 0), (7, .int .i64 0), (12, .bool false), (15, .bool ((maskF wd) == 0))]) 6 (.int .i64 0)) 7 (.int .i64 2)) (by kernel_rfl) ?_
    refine op_nil ?_
    refine W_ret ?_
    refine ⟨_, Res_of (v := .tuple #[.int .i64 0, .int .i64 2]) (by kernel_rfl), ?_⟩
    have e : varF N most wd ix = (0, 2, N) := by unfold varF; rw [if_pos (by omega)]
    rw [e]
    unfold TRet
    exact ⟨rfl, F, ⟨hL, hJ⟩, hMv⟩
  · replace hc3 : maskF wd ≠ 0 := (ne_of_beq_false hc3)
    have hfw : 1 ≤ wd ∧ wd ≤ 64 := Decidable.byContradiction (fun q => by have := mask_z q; omega)
    refine W_seq ?_
    refine W_fg [(0, .pointer (some ⟨p, 0, none⟩)), (1, .int .i64 wd), (2, .int .i64 ix), (6, .int .i64 0), (7, .int .i64 0), (12, .bool false), (15, .bool ((maskF wd) == 0))] (by kernel_rfl) fun ρ => ?_
    refine W_region (by kernel_rfl) ?_
    refine seg3 (ρ' := upd (upd (upd (updL ρ [(0, .pointer (some ⟨p, 0, none⟩)), (1, .int .i64 wd), (2, .int .i64 ix), (6, .int .i64 0), (7, .int .i64 0), (12, .bool false), (15, .bool ((maskF wd) == 0))]) 20 (.int .i64 ix)) 21 (.bool (decide (ix < 0)))) 22 (.bool (decide (ix < 0)))) (by kernel_rfl) ?_
    cases hb4 : decide (ix < 0)
    · replace hb4 : 0 ≤ ix := (Int.not_lt.1 (of_decide_eq_false hb4))
      refine seg4 (ρ' := upd (upd (upd (upd (upd (upd (upd (updL ρ [(0, .pointer (some ⟨p, 0, none⟩)), (1, .int .i64 wd), (2, .int .i64 ix), (6, .int .i64 0), (7, .int .i64 0), (12, .bool false), (15, .bool ((maskF wd) == 0))]) 20 (.int .i64 ix)) 21 (.bool false)) 22 (.bool false)) 23 (.int .i64 ix)) 24 (.bool (decide (ix ≥ 256)))) 25 (.bool (decide (ix ≥ 256)))) 19 (.bool (decide (ix ≥ 256)))) (by kernel_rfl) ?_
      refine op_nil ?_
      refine W_cond (decide (ix ≥ 256)) (by kernel_rfl) (by kernel_rfl) (fun hc5 => ?_) (fun hc5 => ?_)
      · replace hc5 : 256 ≤ ix := (of_decide_eq_true hc5)
        refine W_seq ?_
        refine W_region (by kernel_rfl) ?_
        refine seg2 (ρ' := upd (upd (upd (upd (upd (upd (upd (upd (upd (updL ρ [(0, .pointer (some ⟨p, 0, none⟩)), (1, .int .i64 wd), (2, .int .i64 ix), (6, .int .i64 0), (7, .int .i64 0), (12, .bool false), (15, .bool ((maskF wd) == 0))]) 20 (.int .i64 ix)) 21 (.bool false)) 22 (.bool false)) 23 (.int .i64 ix)) 24 (.bool (decide (ix ≥ 256)))) 25 (.bool (decide (ix ≥ 256)))) 19 (.bool (decide (ix ≥ 256)))) 6 (.int .i64 0)) 7 (.int .i64 10)) (by kernel_rfl) ?_
        refine op_nil ?_
        refine W_ret ?_
        refine ⟨_, Res_of (v := .tuple #[.int .i64 0, .int .i64 10]) (by kernel_rfl), ?_⟩
        have e : varF N most wd ix = (0, 10, N) := by unfold varF; rw [if_neg (by omega), if_pos (by omega)]
        rw [e]
        unfold TRet
        exact ⟨rfl, F, ⟨hL, hJ⟩, hMv⟩
      · replace hc5 : ix < 256 := (Int.not_le.1 (of_decide_eq_false hc5))
        refine W_skip ?_
        refine W_seq ?_
        refine W_seq ?_
        obtain ⟨A, cp, ma, mw, hP, hOw, hM, hW, hne, fp, fa, fw, fA, hlt⟩ := id hL
        refine W_region (by kernel_rfl) ?_
        refine seg3 (ρ' := upd (upd (upd (upd (upd (upd (upd (upd (upd (upd (updL ρ [(0, .pointer (some ⟨p, 0, none⟩)), (1, .int .i64 wd), (2, .int .i64 ix), (6, .int .i64 0), (7, .int .i64 0), (12, .bool false), (15, .bool ((maskF wd) == 0))]) 20 (.int .i64 ix)) 21 (.bool false)) 22 (.bool false)) 23 (.int .i64 ix)) 24 (.bool (decide (ix ≥ 256)))) 25 (.bool (decide (ix ≥ 256)))) 19 (.bool (decide (ix ≥ 256)))) 27 (.pointer (some ⟨p, 0, none⟩))) 28 (.pointer (some ⟨p, 0, none⟩))) 29 (.pointer (some ⟨p, 2, none⟩))) (by kernel_rfl) ?_
        refine st (by rfl) (S_val (v := .map (some mw)) (R_load (v := .map (some mw)) (by kernel_rfl) (by kernel_rfl) ((hP.cell 2).trans rfl)) ?_)
        refine seg1 (ρ' := upd (upd (upd (upd (upd (upd (upd (upd (upd (upd (upd (upd (updL ρ [(0, .pointer (some ⟨p, 0, none⟩)), (1, .int .i64 wd), (2, .int .i64 ix), (6, .int .i64 0), (7, .int .i64 0), (12, .bool false), (15, .bool ((maskF wd) == 0))]) 20 (.int .i64 ix)) 21 (.bool false)) 22 (.bool false)) 23 (.int .i64 ix)) 24 (.bool (decide (ix ≥ 256)))) 25 (.bool (decide (ix ≥ 256)))) 19 (.bool (decide (ix ≥ 256)))) 27 (.pointer (some ⟨p, 0, none⟩))) 28 (.pointer (some ⟨p, 0, none⟩))) 29 (.pointer (some ⟨p, 2, none⟩))) 30 (.map (some mw))) 31 (.int .i64 ix)) (by kernel_rfl) ?_
        refine st (by rfl) (S_lookW ix hix (by kernel_rfl) (by kernel_rfl) hW fun q6 ok7 h18 h29 => ?_)
        refine seg5 (ρ' := upd (upd (upd (upd (upd (upd (upd (upd (upd (upd (upd (upd (upd (upd (upd (upd (upd (upd (updL ρ [(0, .pointer (some ⟨p, 0, none⟩)), (1, .int .i64 wd), (2, .int .i64 ix), (6, .int .i64 0), (7, .int .i64 0), (12, .bool false), (15, .bool ((maskF wd) == 0))]) 20 (.int .i64 ix)) 21 (.bool false)) 22 (.bool false)) 23 (.int .i64 ix)) 24 (.bool (decide (ix ≥ 256)))) 25 (.bool (decide (ix ≥ 256)))) 19 (.bool (decide (ix ≥ 256)))) 27 (.pointer (some ⟨p, 0, none⟩))) 28 (.pointer (some ⟨p, 0, none⟩))) 29 (.pointer (some ⟨p, 2, none⟩))) 30 (.map (some mw))) 31 (.int .i64 ix)) 32 (.tuple #[.int .i64 q6, .bool ok7])) 26 (.tuple #[.int .i64 q6, .bool ok7])) 33 (.int .i64 q6)) 34 (.bool ok7)) 8 (.int .i64 q6)) 9 (.bool ok7)) (by kernel_rfl) ?_
        refine op_nil ?_
        refine W_seq ?_
        refine W_fg [(0, .pointer (some ⟨p, 0, none⟩)), (1, .int .i64 wd), (2, .int .i64 ix), (6, .int .i64 0), (7, .int .i64 0), (8, .int .i64 q6), (9, .bool ok7), (12, .bool false), (15, .bool ((maskF wd) == 0)), (19, .bool (decide (ix ≥ 256)))] (by kernel_rfl) fun ρ => ?_
        refine W_region (by kernel_rfl) ?_
        refine seg2 (ρ' := upd (upd (updL ρ [(0, .pointer (some ⟨p, 0, none⟩)), (1, .int .i64 wd), (2, .int .i64 ix), (6, .int .i64 0), (7, .int .i64 0), (8, .int .i64 q6), (9, .bool ok7), (12, .bool false), (15, .bool ((maskF wd) == 0)), (19, .bool (decide (ix ≥ 256)))]) 35 (.bool ok7)) 36 (.bool ok7)) (by kernel_rfl) ?_
        cases hb10 : ok7
        · replace hb10 : ok7 = false := (hb10)
          refine seg4 (ρ' := upd (upd (upd (upd (upd (upd (updL ρ [(0, .pointer (some ⟨p, 0, none⟩)), (1, .int .i64 wd), (2, .int .i64 ix), (6, .int .i64 0), (7, .int .i64 0), (8, .int .i64 q6), (9, .bool false), (12, .bool false), (15, .bool ((maskF wd) == 0)), (19, .bool (decide (ix ≥ 256)))]) 35 (.bool false)) 36 (.bool false)) 37 (undef)) 38 (undef)) 39 (undef)) 40 (.bool false)) (by kernel_rfl) ?_
          refine op_nil ?_
          refine W_cond false (by kernel_rfl) (by kernel_rfl) (fun h => nomatch h) (fun _ => ?_)
          refine W_skip ?_
          refine W_seq ?_
          have hvb : ¬ varBad N wd ix := by
              rintro ⟨m, g1, g2, g3, g4⟩
              cases ok7 with
              | true =>
                obtain ⟨m2, k1, k2, k3, k4⟩ := h18 rfl
                have := hJ.ti.wid m m2 g1 k1 g2 k2 (by rw [g3, k3])
                simp_all
              | false => exact h29 rfl m g1 g2 g3
          refine W_region (by kernel_rfl) ?_
          refine seg4 (ρ' := upd (upd (upd (upd (upd (upd (upd (upd (upd (upd (updL ρ [(0, .pointer (some ⟨p, 0, none⟩)), (1, .int .i64 wd), (2, .int .i64 ix), (6, .int .i64 0), (7, .int .i64 0), (8, .int .i64 q6), (9, .bool false), (12, .bool false), (15, .bool ((maskF wd) == 0)), (19, .bool (decide (ix ≥ 256)))]) 35 (.bool false)) 36 (.bool false)) 37 (undef)) 38 (undef)) 39 (undef)) 40 (.bool false)) 42 (.pointer (some ⟨p, 0, none⟩))) 43 (.int .i64 wd)) 44 (.int .i64 ix)) 45 (.agg #[.int .i64 21, .int .i64 wd, .int .i64 ix, .int .i64 0, .int .i64 0, .int .u64 0])) (by kernel_rfl) ?_
          have hwf : nwf (21, wd, ix, 0, 0, 0) := nwf_of (by unfold b64 at *; omega) (by unfold b64 at *; omega) (by unfold b64 at *; omega) (by unfold b64 at *; omega) (by unfold b64 at *; omega) (by unfold u64; omega)
          refine st (by rfl) (S_call (args := [.pointer (some ⟨p, 0, none⟩), .agg #[.int .i64 21, .int .i64 wd, .int .i64 ix, .int .i64 0, .int .i64 0, .int .u64 0]]) (by kernel_rfl) (make_ok F p most N (wdR N) (21, wd, ix, 0, 0, 0) _ hL hJ.ti hwf) ?_)
          rintro _ w11 ⟨rfl, F12, hL, hm13⟩
          have hMv := hMv.trans hm13
          refine seg5 (ρ' := upd (upd (upd (upd (upd (upd (upd (upd (upd (upd (upd (upd (upd (upd (upd (upd (updL ρ [(0, .pointer (some ⟨p, 0, none⟩)), (1, .int .i64 wd), (2, .int .i64 ix), (6, .int .i64 0), (7, .int .i64 0), (8, .int .i64 q6), (9, .bool false), (12, .bool false), (15, .bool ((maskF wd) == 0)), (19, .bool (decide (ix ≥ 256)))]) 35 (.bool false)) 36 (.bool false)) 37 (undef)) 38 (undef)) 39 (undef)) 40 (.bool false)) 42 (.pointer (some ⟨p, 0, none⟩))) 43 (.int .i64 wd)) 44 (.int .i64 ix)) 45 (.agg #[.int .i64 21, .int .i64 wd, .int .i64 ix, .int .i64 0, .int .i64 0, .int .u64 0])) 46 (.tuple #[.int .i64 ((mk N most (21, wd, ix, 0, 0, 0)).1), .int .i64 ((mk N most (21, wd, ix, 0, 0, 0)).2.1)])) 41 (.tuple #[.int .i64 ((mk N most (21, wd, ix, 0, 0, 0)).1), .int .i64 ((mk N most (21, wd, ix, 0, 0, 0)).2.1)])) 47 (.int .i64 ((mk N most (21, wd, ix, 0, 0, 0)).1))) 48 (.int .i64 ((mk N most (21, wd, ix, 0, 0, 0)).2.1))) 10 (.int .i64 ((mk N most (21, wd, ix, 0, 0, 0)).1))) 11 (.int .i64 ((mk N most (21, wd, ix, 0, 0, 0)).2.1))) (by kernel_rfl) ?_
          refine op_nil ?_
          refine W_seq ?_
          refine W_seq ?_
          refine W_fg [(0, .pointer (some ⟨p, 0, none⟩)), (1, .int .i64 wd), (2, .int .i64 ix), (6, .int .i64 0), (7, .int .i64 0), (8, .int .i64 q6), (9, .bool false), (10, .int .i64 ((mk N most (21, wd, ix, 0, 0, 0)).1)), (11, .int .i64 ((mk N most (21, wd, ix, 0, 0, 0)).2.1)), (12, .bool false), (15, .bool ((maskF wd) == 0)), (19, .bool (decide (ix ≥ 256))), (40, .bool false)] (by kernel_rfl) fun ρ => ?_
          refine W_region (by kernel_rfl) ?_
          refine seg2 (ρ' := upd (upd (updL ρ [(0, .pointer (some ⟨p, 0, none⟩)), (1, .int .i64 wd), (2, .int .i64 ix), (6, .int .i64 0), (7, .int .i64 0), (8, .int .i64 q6), (9, .bool false), (10, .int .i64 ((mk N most (21, wd, ix, 0, 0, 0)).1)), (11, .int .i64 ((mk N most (21, wd, ix, 0, 0, 0)).2.1)), (12, .bool false), (15, .bool ((maskF wd) == 0)), (19, .bool (decide (ix ≥ 256))), (40, .bool false)]) 49 (.int .i64 ((mk N most (21, wd, ix, 0, 0, 0)).2.1))) 50 (.bool (((mk N most (21, wd, ix, 0, 0, 0)).2.1) == 0))) (by kernel_rfl) ?_
          refine op_nil ?_
          refine W_cond (((mk N most (21, wd, ix, 0, 0, 0)).2.1) == 0) (by kernel_rfl) (by kernel_rfl) (fun hc14 => ?_) (fun hc14 => ?_)
          · replace hc14 : (mk N most (21, wd, ix, 0, 0, 0)).2.1 = 0 := (eq_of_beq hc14)
            obtain ⟨A2, cp2, ma2, mw2, hP, hOw, hM, hW, hne, fp, fa, fw, fA, hlt⟩ := id hL
            refine W_region (by kernel_rfl) ?_
            refine seg3 (ρ' := upd (upd (upd (upd (upd (updL ρ [(0, .pointer (some ⟨p, 0, none⟩)), (1, .int .i64 wd), (2, .int .i64 ix), (6, .int .i64 0), (7, .int .i64 0), (8, .int .i64 q6), (9, .bool false), (10, .int .i64 ((mk N most (21, wd, ix, 0, 0, 0)).1)), (11, .int .i64 ((mk N most (21, wd, ix, 0, 0, 0)).2.1)), (12, .bool false), (15, .bool ((maskF wd) == 0)), (19, .bool (decide (ix ≥ 256))), (40, .bool false)]) 49 (.int .i64 ((mk N most (21, wd, ix, 0, 0, 0)).2.1))) 50 (.bool (((mk N most (21, wd, ix, 0, 0, 0)).2.1) == 0))) 51 (.pointer (some ⟨p, 0, none⟩))) 52 (.pointer (some ⟨p, 0, none⟩))) 53 (.pointer (some ⟨p, 2, none⟩))) (by kernel_rfl) ?_
            refine st (by rfl) (S_val (v := .map (some mw2)) (R_load (v := .map (some mw2)) (by kernel_rfl) (by kernel_rfl) ((hP.cell 2).trans rfl)) ?_)
            refine seg2 (ρ' := upd (upd (upd (upd (upd (upd (upd (upd (updL ρ [(0, .pointer (some ⟨p, 0, none⟩)), (1, .int .i64 wd), (2, .int .i64 ix), (6, .int .i64 0), (7, .int .i64 0), (8, .int .i64 q6), (9, .bool false), (10, .int .i64 ((mk N most (21, wd, ix, 0, 0, 0)).1)), (11, .int .i64 ((mk N most (21, wd, ix, 0, 0, 0)).2.1)), (12, .bool false), (15, .bool ((maskF wd) == 0)), (19, .bool (decide (ix ≥ 256))), (40, .bool false)]) 49 (.int .i64 ((mk N most (21, wd, ix, 0, 0, 0)).2.1))) 50 (.bool (((mk N most (21, wd, ix, 0, 0, 0)).2.1) == 0))) 51 (.pointer (some ⟨p, 0, none⟩))) 52 (.pointer (some ⟨p, 0, none⟩))) 53 (.pointer (some ⟨p, 2, none⟩))) 54 (.map (some mw2))) 55 (.int .i64 ix)) 56 (.int .i64 wd)) (by kernel_rfl) ?_
            refine st (by rfl) (S_updateE 3 3 key_law3 (key := .int .i64 ix) (val := .int .i64 wd) (by kernel_rfl) (by kernel_rfl) (by kernel_rfl) (by kernel_rfl) (key_int hix) hW fun w15 hT16 hs17 hW1 => ?_)
            have hL : TLow F12 w15 p most ((mk N most (21, wd, ix, 0, 0, 0)).2.2) (fun x y => (x ≠ .int .i64 ix ∧ wdR N x y) ∨ (x = .int .i64 ix ∧ y = .int .i64 wd)) := ⟨A2, cp2, ma2, mw2, hP.tch hT16 (fun e => hW.ne hP (Eq.symm e)), hOw.tch hT16 (fun c hc e => hOw.ne_mapE hW c hc e), hM.tch hT16 (fun e => hne e), hW1, hne, fp, fa, fw, fA, fun b hb => by rw [hs17]; exact hlt b hb⟩
            have hMv := hMv.trans (.same (hT16.weaken (fun b _ e => by have : b = mw2 := e; rw [this]; exact fw)))
            refine op_nil ?_
            refine W_seq ?_
            refine W_fg [(0, .pointer (some ⟨p, 0, none⟩)), (1, .int .i64 wd), (2, .int .i64 ix), (6, .int .i64 0), (7, .int .i64 0), (8, .int .i64 q6), (9, .bool false), (10, .int .i64 ((mk N most (21, wd, ix, 0, 0, 0)).1)), (11, .int .i64 ((mk N most (21, wd, ix, 0, 0, 0)).2.1)), (12, .bool false), (15, .bool ((maskF wd) == 0)), (19, .bool (decide (ix ≥ 256))), (40, .bool false), (50, .bool (((mk N most (21, wd, ix, 0, 0, 0)).2.1) == 0))] (by kernel_rfl) fun ρ => ?_
            refine W_region (by kernel_rfl) ?_
            refine seg4 (ρ' := upd (upd (upd (upd (updL ρ [(0, .pointer (some ⟨p, 0, none⟩)), (1, .int .i64 wd), (2, .int .i64 ix), (6, .int .i64 0), (7, .int .i64 0), (8, .int .i64 q6), (9, .bool false), (10, .int .i64 ((mk N most (21, wd, ix, 0, 0, 0)).1)), (11, .int .i64 ((mk N most (21, wd, ix, 0, 0, 0)).2.1)), (12, .bool false), (15, .bool ((maskF wd) == 0)), (19, .bool (decide (ix ≥ 256))), (40, .bool false), (50, .bool (((mk N most (21, wd, ix, 0, 0, 0)).2.1) == 0))]) 57 (.int .i64 ((mk N most (21, wd, ix, 0, 0, 0)).1))) 58 (.int .i64 ((mk N most (21, wd, ix, 0, 0, 0)).2.1))) 6 (.int .i64 ((mk N most (21, wd, ix, 0, 0, 0)).1))) 7 (.int .i64 ((mk N most (21, wd, ix, 0, 0, 0)).2.1))) (by kernel_rfl) ?_
            refine op_nil ?_
            refine W_ret ?_
            refine ⟨_, Res_of (v := .tuple #[.int .i64 ((mk N most (21, wd, ix, 0, 0, 0)).1), .int .i64 ((mk N most (21, wd, ix, 0, 0, 0)).2.1)]) (by kernel_rfl), ?_⟩
            have e : varF N most wd ix = mk N most (21, wd, ix, 0, 0, 0) := by unfold varF; rw [if_neg (by omega), if_neg (by omega), if_neg hvb]
            rw [e]
            unfold TRet
            exact ⟨rfl, _, ⟨hL.congr (var_wd hvb (by assumption)), mk_TJ hJ hwf (by show 1 ≤ (wd : Int) ∧ (wd : Int) ≤ 64; omega) (var_hv hvb)⟩, hMv⟩
          · replace hc14 : (mk N most (21, wd, ix, 0, 0, 0)).2.1 ≠ 0 := (ne_of_beq_false hc14)
            refine W_skip ?_
            refine W_seq ?_
            refine W_region (by kernel_rfl) ?_
            refine seg4 (ρ' := upd (upd (upd (upd (upd (upd (updL ρ [(0, .pointer (some ⟨p, 0, none⟩)), (1, .int .i64 wd), (2, .int .i64 ix), (6, .int .i64 0), (7, .int .i64 0), (8, .int .i64 q6), (9, .bool false), (10, .int .i64 ((mk N most (21, wd, ix, 0, 0, 0)).1)), (11, .int .i64 ((mk N most (21, wd, ix, 0, 0, 0)).2.1)), (12, .bool false), (15, .bool ((maskF wd) == 0)), (19, .bool (decide (ix ≥ 256))), (40, .bool false)]) 49 (.int .i64 ((mk N most (21, wd, ix, 0, 0, 0)).2.1))) 50 (.bool (((mk N most (21, wd, ix, 0, 0, 0)).2.1) == 0))) 57 (.int .i64 ((mk N most (21, wd, ix, 0, 0, 0)).1))) 58 (.int .i64 ((mk N most (21, wd, ix, 0, 0, 0)).2.1))) 6 (.int .i64 ((mk N most (21, wd, ix, 0, 0, 0)).1))) 7 (.int .i64 ((mk N most (21, wd, ix, 0, 0, 0)).2.1))) (by kernel_rfl) ?_
            refine op_nil ?_
            refine W_ret ?_
            refine ⟨_, Res_of (v := .tuple #[.int .i64 ((mk N most (21, wd, ix, 0, 0, 0)).1), .int .i64 ((mk N most (21, wd, ix, 0, 0, 0)).2.1)]) (by kernel_rfl), ?_⟩
            have e : varF N most wd ix = mk N most (21, wd, ix, 0, 0, 0) := by unfold varF; rw [if_neg (by omega), if_neg (by omega), if_neg hvb]
            rw [e]
            unfold TRet
            exact ⟨rfl, _, ⟨hL.congr (by rw [mk_err (by assumption)]; exact fun _ _ => Iff.rfl), mk_TJ hJ hwf (by show 1 ≤ (wd : Int) ∧ (wd : Int) ≤ 64; omega) (var_hv hvb)⟩, hMv⟩
        · replace hb10 : ok7 = true := (hb10)
          refine seg4 (ρ' := upd (upd (upd (upd (upd (upd (updL ρ [(0, .pointer (some ⟨p, 0, none⟩)), (1, .int .i64 wd), (2, .int .i64 ix), (6, .int .i64 0), (7, .int .i64 0), (8, .int .i64 q6), (9, .bool true), (12, .bool false), (15, .bool ((maskF wd) == 0)), (19, .bool (decide (ix ≥ 256)))]) 35 (.bool true)) 36 (.bool true)) 37 (.int .i64 q6)) 38 (.int .i64 wd)) 39 (.bool (q6 != wd))) 40 (.bool (q6 != wd))) (by kernel_rfl) ?_
          refine op_nil ?_
          refine W_cond (q6 != wd) (by kernel_rfl) (by kernel_rfl) (fun hc18 => ?_) (fun hc18 => ?_)
          · replace hc18 : q6 ≠ wd := (bne_iff_ne.1 hc18)
            refine W_seq ?_
            refine W_region (by kernel_rfl) ?_
            refine seg2 (ρ' := upd (upd (upd (upd (upd (upd (upd (upd (updL ρ [(0, .pointer (some ⟨p, 0, none⟩)), (1, .int .i64 wd), (2, .int .i64 ix), (6, .int .i64 0), (7, .int .i64 0), (8, .int .i64 q6), (9, .bool true), (12, .bool false), (15, .bool ((maskF wd) == 0)), (19, .bool (decide (ix ≥ 256)))]) 35 (.bool true)) 36 (.bool true)) 37 (.int .i64 q6)) 38 (.int .i64 wd)) 39 (.bool (q6 != wd))) 40 (.bool (q6 != wd))) 6 (.int .i64 0)) 7 (.int .i64 2)) (by kernel_rfl) ?_
            refine op_nil ?_
            refine W_ret ?_
            refine ⟨_, Res_of (v := .tuple #[.int .i64 0, .int .i64 2]) (by kernel_rfl), ?_⟩
            obtain ⟨n1, g1, g2, g3, g4⟩ := h18 (by assumption)
            have hvb : varBad N wd ix := ⟨n1, g1, g2, g3, by omega⟩
            have e : varF N most wd ix = (0, 2, N) := by unfold varF; rw [if_neg (by omega), if_neg (by omega), if_pos hvb]
            rw [e]
            unfold TRet
            exact ⟨rfl, F, ⟨hL, hJ⟩, hMv⟩
          · replace hc18 : q6 = wd := (bne_eq_false_iff_eq.1 hc18)
            refine W_skip ?_
            refine W_seq ?_
            have hvb : ¬ varBad N wd ix := by
                rintro ⟨m, g1, g2, g3, g4⟩
                cases ok7 with
                | true =>
                  obtain ⟨m2, k1, k2, k3, k4⟩ := h18 rfl
                  have := hJ.ti.wid m m2 g1 k1 g2 k2 (by rw [g3, k3])
                  simp_all
                | false => exact h29 rfl m g1 g2 g3
            refine W_region (by kernel_rfl) ?_
            refine seg4 (ρ' := upd (upd (upd (upd (upd (upd (upd (upd (upd (upd (updL ρ [(0, .pointer (some ⟨p, 0, none⟩)), (1, .int .i64 wd), (2, .int .i64 ix), (6, .int .i64 0), (7, .int .i64 0), (8, .int .i64 q6), (9, .bool true), (12, .bool false), (15, .bool ((maskF wd) == 0)), (19, .bool (decide (ix ≥ 256)))]) 35 (.bool true)) 36 (.bool true)) 37 (.int .i64 q6)) 38 (.int .i64 wd)) 39 (.bool (q6 != wd))) 40 (.bool (q6 != wd))) 42 (.pointer (some ⟨p, 0, none⟩))) 43 (.int .i64 wd)) 44 (.int .i64 ix)) 45 (.agg #[.int .i64 21, .int .i64 wd, .int .i64 ix, .int .i64 0, .int .i64 0, .int .u64 0])) (by kernel_rfl) ?_
            have hwf : nwf (21, wd, ix, 0, 0, 0) := nwf_of (by unfold b64 at *; omega) (by unfold b64 at *; omega) (by unfold b64 at *; omega) (by unfold b64 at *; omega) (by unfold b64 at *; omega) (by unfold u64; omega)
            refine st (by rfl) (S_call (args := [.pointer (some ⟨p, 0, none⟩), .agg #[.int .i64 21, .int .i64 wd, .int .i64 ix, .int .i64 0, .int .i64 0, .int .u64 0]]) (by kernel_rfl) (make_ok F p most N (wdR N) (21, wd, ix, 0, 0, 0) _ hL hJ.ti hwf) ?_)
            rintro _ w19 ⟨rfl, F20, hL, hm21⟩
            have hMv := hMv.trans hm21
            refine seg5 (ρ' := upd (upd (upd (upd (upd (upd (upd (upd (upd (upd (upd (upd (upd (upd (upd (upd (updL ρ [(0, .pointer (some ⟨p, 0, none⟩)), (1, .int .i64 wd), (2, .int .i64 ix), (6, .int .i64 0), (7, .int .i64 0), (8, .int .i64 q6), (9, .bool true), (12, .bool false), (15, .bool ((maskF wd) == 0)), (19, .bool (decide (ix ≥ 256)))]) 35 (.bool true)) 36 (.bool true)) 37 (.int .i64 q6)) 38 (.int .i64 wd)) 39 (.bool (q6 != wd))) 40 (.bool (q6 != wd))) 42 (.pointer (some ⟨p, 0, none⟩))) 43 (.int .i64 wd)) 44 (.int .i64 ix)) 45 (.agg #[.int .i64 21, .int .i64 wd, .int .i64 ix, .int .i64 0, .int .i64 0, .int .u64 0])) 46 (.tuple #[.int .i64 ((mk N most (21, wd, ix, 0, 0, 0)).1), .int .i64 ((mk N most (21, wd, ix, 0, 0, 0)).2.1)])) 41 (.tuple #[.int .i64 ((mk N most (21, wd, ix, 0, 0, 0)).1), .int .i64 ((mk N most (21, wd, ix, 0, 0, 0)).2.1)])) 47 (.int .i64 ((mk N most (21, wd, ix, 0, 0, 0)).1))) 48 (.int .i64 ((mk N most (21, wd, ix, 0, 0, 0)).2.1))) 10 (.int .i64 ((mk N most (21, wd, ix, 0, 0, 0)).1))) 11 (.int .i64 ((mk N most (21, wd, ix, 0, 0, 0)).2.1))) (by kernel_rfl) ?_
            refine op_nil ?_
            refine W_seq ?_
            refine W_seq ?_
            refine W_fg [(0, .pointer (some ⟨p, 0, none⟩)), (1, .int .i64 wd), (2, .int .i64 ix), (6, .int .i64 0), (7, .int .i64 0), (8, .int .i64 q6), (9, .bool true), (10, .int .i64 ((mk N most (21, wd, ix, 0, 0, 0)).1)), (11, .int .i64 ((mk N most (21, wd, ix, 0, 0, 0)).2.1)), (12, .bool false), (15, .bool ((maskF wd) == 0)), (19, .bool (decide (ix ≥ 256))), (40, .bool (q6 != wd))] (by kernel_rfl) fun ρ => ?_
            refine W_region (by kernel_rfl) ?_
            refine seg2 (ρ' := upd (upd (updL ρ [(0, .pointer (some ⟨p, 0, none⟩)), (1, .int .i64 wd), (2, .int .i64 ix), (6, .int .i64 0), (7, .int .i64 0), (8, .int .i64 q6), (9, .bool true), (10, .int .i64 ((mk N most (21, wd, ix, 0, 0, 0)).1)), (11, .int .i64 ((mk N most (21, wd, ix, 0, 0, 0)).2.1)), (12, .bool false), (15, .bool ((maskF wd) == 0)), (19, .bool (decide (ix ≥ 256))), (40, .bool (q6 != wd))]) 49 (.int .i64 ((mk N most (21, wd, ix, 0, 0, 0)).2.1))) 50 (.bool (((mk N most (21, wd, ix, 0, 0, 0)).2.1) == 0))) (by kernel_rfl) ?_
            refine op_nil ?_
            refine W_cond (((mk N most (21, wd, ix, 0, 0, 0)).2.1) == 0) (by kernel_rfl) (by kernel_rfl) (fun hc22 => ?_) (fun hc22 => ?_)
            · replace hc22 : (mk N most (21, wd, ix, 0, 0, 0)).2.1 = 0 := (eq_of_beq hc22)
              obtain ⟨A2, cp2, ma2, mw2, hP, hOw, hM, hW, hne, fp, fa, fw, fA, hlt⟩ := id hL
              refine W_region (by kernel_rfl) ?_
              refine seg3 (ρ' := upd (upd (upd (upd (upd (updL ρ [(0, .pointer (some ⟨p, 0, none⟩)), (1, .int .i64 wd), (2, .int .i64 ix), (6, .int .i64 0), (7, .int .i64 0), (8, .int .i64 q6), (9, .bool true), (10, .int .i64 ((mk N most (21, wd, ix, 0, 0, 0)).1)), (11, .int .i64 ((mk N most (21, wd, ix, 0, 0, 0)).2.1)), (12, .bool false), (15, .bool ((maskF wd) == 0)), (19, .bool (decide (ix ≥ 256))), (40, .bool (q6 != wd))]) 49 (.int .i64 ((mk N most (21, wd, ix, 0, 0, 0)).2.1))) 50 (.bool (((mk N most (21, wd, ix, 0, 0, 0)).2.1) == 0))) 51 (.pointer (some ⟨p, 0, none⟩))) 52 (.pointer (some ⟨p, 0, none⟩))) 53 (.pointer (some ⟨p, 2, none⟩))) (by kernel_rfl) ?_
              refine st (by rfl) (S_val (v := .map (some mw2)) (R_load (v := .map (some mw2)) (by kernel_rfl) (by kernel_rfl) ((hP.cell 2).trans rfl)) ?_)
              refine seg2 (ρ' := upd (upd (upd (upd (upd (upd (upd (upd (updL ρ [(0, .pointer (some ⟨p, 0, none⟩)), (1, .int .i64 wd), (2, .int .i64 ix), (6, .int .i64 0), (7, .int .i64 0), (8, .int .i64 q6), (9, .bool true), (10, .int .i64 ((mk N most (21, wd, ix, 0, 0, 0)).1)), (11, .int .i64 ((mk N most (21, wd, ix, 0, 0, 0)).2.1)), (12, .bool false), (15, .bool ((maskF wd) == 0)), (19, .bool (decide (ix ≥ 256))), (40, .bool (q6 != wd))]) 49 (.int .i64 ((mk N most (21, wd, ix, 0, 0, 0)).2.1))) 50 (.bool (((mk N most (21, wd, ix, 0, 0, 0)).2.1) == 0))) 51 (.pointer (some ⟨p, 0, none⟩))) 52 (.pointer (some ⟨p, 0, none⟩))) 53 (.pointer (some ⟨p, 2, none⟩))) 54 (.map (some mw2))) 55 (.int .i64 ix)) 56 (.int .i64 wd)) (by kernel_rfl) ?_
              refine st (by rfl) (S_updateE 3 3 key_law3 (key := .int .i64 ix) (val := .int .i64 wd) (by kernel_rfl) (by kernel_rfl) (by kernel_rfl) (by kernel_rfl) (key_int hix) hW fun w23 hT24 hs25 hW1 => ?_)
              have hL : TLow F20 w23 p most ((mk N most (21, wd, ix, 0, 0, 0)).2.2) (fun x y => (x ≠ .int .i64 ix ∧ wdR N x y) ∨ (x = .int .i64 ix ∧ y = .int .i64 wd)) := ⟨A2, cp2, ma2, mw2, hP.tch hT24 (fun e => hW.ne hP (Eq.symm e)), hOw.tch hT24 (fun c hc e => hOw.ne_mapE hW c hc e), hM.tch hT24 (fun e => hne e), hW1, hne, fp, fa, fw, fA, fun b hb => by rw [hs25]; exact hlt b hb⟩
              have hMv := hMv.trans (.same (hT24.weaken (fun b _ e => by have : b = mw2 := e; rw [this]; exact fw)))
              refine op_nil ?_
              refine W_seq ?_
              refine W_fg [(0, .pointer (some ⟨p, 0, none⟩)), (1, .int .i64 wd), (2, .int .i64 ix), (6, .int .i64 0), (7, .int .i64 0), (8, .int .i64 q6), (9, .bool true), (10, .int .i64 ((mk N most (21, wd, ix, 0, 0, 0)).1)), (11, .int .i64 ((mk N most (21, wd, ix, 0, 0, 0)).2.1)), (12, .bool false), (15, .bool ((maskF wd) == 0)), (19, .bool (decide (ix ≥ 256))), (40, .bool (q6 != wd)), (50, .bool (((mk N most (21, wd, ix, 0, 0, 0)).2.1) == 0))] (by kernel_rfl) fun ρ => ?_
              refine W_region (by kernel_rfl) ?_
              refine seg4 (ρ' := upd (upd (upd (upd (updL ρ [(0, .pointer (some ⟨p, 0, none⟩)), (1, .int .i64 wd), (2, .int .i64 ix), (6, .int .i64 0), (7, .int .i64 0), (8, .int .i64 q6), (9, .bool true), (10, .int .i64 ((mk N most (21, wd, ix, 0, 0, 0)).1)), (11, .int .i64 ((mk N most (21, wd, ix, 0, 0, 0)).2.1)), (12, .bool false), (15, .bool ((maskF wd) == 0)), (19, .bool (decide (ix ≥ 256))), (40, .bool (q6 != wd)), (50, .bool (((mk N most (21, wd, ix, 0, 0, 0)).2.1) == 0))]) 57 (.int .i64 ((mk N most (21, wd, ix, 0, 0, 0)).1))) 58 (.int .i64 ((mk N most (21, wd, ix, 0, 0, 0)).2.1))) 6 (.int .i64 ((mk N most (21, wd, ix, 0, 0, 0)).1))) 7 (.int .i64 ((mk N most (21, wd, ix, 0, 0, 0)).2.1))) (by kernel_rfl) ?_
              refine op_nil ?_
              refine W_ret ?_
              refine ⟨_, Res_of (v := .tuple #[.int .i64 ((mk N most (21, wd, ix, 0, 0, 0)).1), .int .i64 ((mk N most (21, wd, ix, 0, 0, 0)).2.1)]) (by kernel_rfl), ?_⟩
              have e : varF N most wd ix = mk N most (21, wd, ix, 0, 0, 0) := by unfold varF; rw [if_neg (by omega), if_neg (by omega), if_neg hvb]
              rw [e]
              unfold TRet
              exact ⟨rfl, _, ⟨hL.congr (var_wd hvb (by assumption)), mk_TJ hJ hwf (by show 1 ≤ (wd : Int) ∧ (wd : Int) ≤ 64; omega) (var_hv hvb)⟩, hMv⟩
            · replace hc22 : (mk N most (21, wd, ix, 0, 0, 0)).2.1 ≠ 0 := (ne_of_beq_false hc22)
              refine W_skip ?_
              refine W_seq ?_
              refine W_region (by kernel_rfl) ?_
              refine seg4 (ρ' := upd (upd (upd (upd (upd (upd (updL ρ [(0, .pointer (some ⟨p, 0, none⟩)), (1, .int .i64 wd), (2, .int .i64 ix), (6, .int .i64 0), (7, .int .i64 0), (8, .int .i64 q6), (9, .bool true), (10, .int .i64 ((mk N most (21, wd, ix, 0, 0, 0)).1)), (11, .int .i64 ((mk N most (21, wd, ix, 0, 0, 0)).2.1)), (12, .bool false), (15, .bool ((maskF wd) == 0)), (19, .bool (decide (ix ≥ 256))), (40, .bool (q6 != wd))]) 49 (.int .i64 ((mk N most (21, wd, ix, 0, 0, 0)).2.1))) 50 (.bool (((mk N most (21, wd, ix, 0, 0, 0)).2.1) == 0))) 57 (.int .i64 ((mk N most (21, wd, ix, 0, 0, 0)).1))) 58 (.int .i64 ((mk N most (21, wd, ix, 0, 0, 0)).2.1))) 6 (.int .i64 ((mk N most (21, wd, ix, 0, 0, 0)).1))) 7 (.int .i64 ((mk N most (21, wd, ix, 0, 0, 0)).2.1))) (by kernel_rfl) ?_
              refine op_nil ?_
              refine W_ret ?_
              refine ⟨_, Res_of (v := .tuple #[.int .i64 ((mk N most (21, wd, ix, 0, 0, 0)).1), .int .i64 ((mk N most (21, wd, ix, 0, 0, 0)).2.1)]) (by kernel_rfl), ?_⟩
              have e : varF N most wd ix = mk N most (21, wd, ix, 0, 0, 0) := by unfold varF; rw [if_neg (by omega), if_neg (by omega), if_neg hvb]
              rw [e]
              unfold TRet
              exact ⟨rfl, _, ⟨hL.congr (by rw [mk_err (by assumption)]; exact fun _ _ => Iff.rfl), mk_TJ hJ hwf (by show 1 ≤ (wd : Int) ∧ (wd : Int) ≤ 64; omega) (var_hv hvb)⟩, hMv⟩
    · replace hb4 : ix < 0 := (of_decide_eq_true hb4)
      refine seg4 (ρ' := upd (upd (upd (upd (upd (upd (upd (updL ρ [(0, .pointer (some ⟨p, 0, none⟩)), (1, .int .i64 wd), (2, .int .i64 ix), (6, .int .i64 0), (7, .int .i64 0), (12, .bool false), (15, .bool ((maskF wd) == 0))]) 20 (.int .i64 ix)) 21 (.bool true)) 22 (.bool true)) 23 (undef)) 24 (undef)) 25 (.bool true)) 19 (.bool true)) (by kernel_rfl) ?_
      refine op_nil ?_
      refine W_cond true (by kernel_rfl) (by kernel_rfl) (fun _ => ?_) (fun h => nomatch h)
      refine W_seq ?_
      refine W_region (by kernel_rfl) ?_
      refine seg2 (ρ' := upd (upd (upd (upd (upd (upd (upd (upd (upd (updL ρ [(0, .pointer (some ⟨p, 0, none⟩)), (1, .int .i64 wd), (2, .int .i64 ix), (6, .int .i64 0), (7, .int .i64 0), (12, .bool false), (15, .bool ((maskF wd) == 0))]) 20 (.int .i64 ix)) 21 (.bool true)) 22 (.bool true)) 23 (undef)) 24 (undef)) 25 (.bool true)) 19 (.bool true)) 6 (.int .i64 0)) 7 (.int .i64 10)) (by kernel_rfl) ?_
      refine op_nil ?_
      refine W_ret ?_
      refine ⟨_, Res_of (v := .tuple #[.int .i64 0, .int .i64 10]) (by kernel_rfl), ?_⟩
      have e : varF N most wd ix = (0, 10, N) := by unfold varF; rw [if_neg (by omega), if_pos (by omega)]
      rw [e]
      unfold TRet
      exact ⟨rfl, F, ⟨hL, hJ⟩, hMv⟩

set_option maxRecDepth 100000 in
theorem new_ok (mo : Int) (w : World) : Ret Try.prog 18 [.int .i64 mo] w fun v w' => ∃ p F, v = .pointer (some ⟨p, 0, none⟩) ∧ TObj F w' p (newM mo) [] ∧ Tch N0 w w' ∧ ∀ b, F b → w.heap.size ≤ b := by
  refine enter Try.func18 rfl rfl ?_
  refine W_seq ?_
  refine W_region (by kernel_rfl) ?_
  refine seg1 (ρ' := upd (ini [.int .i64 mo]) 2 (.pointer none)) (by kernel_rfl) ?_
  refine op_nil ?_
  refine W_seq ?_
  refine W_seq ?_
  refine W_region (by kernel_rfl) ?_
  refine seg3 (ρ' := upd (upd (upd (upd (ini [.int .i64 mo]) 2 (.pointer none)) 3 (.int .i64 mo)) 4 (.bool (decide (mo < 0)))) 5 (.bool (decide (mo < 0)))) (by kernel_rfl) ?_
  cases hb1 : decide (mo < 0)
  · replace hb1 : 0 ≤ mo := (Int.not_lt.1 (of_decide_eq_false hb1))
    refine seg3 (ρ' := upd (upd (upd (upd (upd (upd (upd (ini [.int .i64 mo]) 2 (.pointer none)) 3 (.int .i64 mo)) 4 (.bool false)) 5 (.bool false)) 6 (.int .i64 mo)) 7 (.bool (decide (mo > 65536)))) 8 (.bool (decide (mo > 65536)))) (by kernel_rfl) ?_
    refine op_nil ?_
    refine W_cond (decide (mo > 65536)) (by kernel_rfl) (by kernel_rfl) (fun hc2 => ?_) (fun hc2 => ?_)
    · replace hc2 : 65536 < mo := (of_decide_eq_true hc2)
      refine W_region (by kernel_rfl) ?_
      refine seg1 (ρ' := upd (upd (upd (upd (upd (upd (upd (upd (ini [.int .i64 mo]) 2 (.pointer none)) 3 (.int .i64 mo)) 4 (.bool false)) 5 (.bool false)) 6 (.int .i64 mo)) 7 (.bool (decide (mo > 65536)))) 8 (.bool (decide (mo > 65536)))) 0 (.int .i64 0)) (by kernel_rfl) ?_
      refine op_nil ?_
      refine W_seq ?_
      refine W_fg [(0, .int .i64 0), (2, .pointer none), (8, .bool (decide (mo > 65536)))] (by kernel_rfl) fun ρ => ?_
      refine W_region (by kernel_rfl) ?_
      refine st (by rfl) (S_makeMapE 32 fun w3 hT4 hs5 hM1 => ?_)
      have hT0 := hT4
      have hz6 := hT0.size
      refine st (by rfl) (S_makeMapE 3 fun w7 hT8 hs9 hM2 => ?_)
      have hz10 := hT0.size
      have hT0 := hT0.t0 hT8
      have hM1 := hM1.tch0 hT8
      have hz11 := hT0.size
      refine seg2 (ρ' := upd (upd (upd (upd (updL ρ [(0, .int .i64 0), (2, .pointer none), (8, .bool (decide (mo > 65536)))]) 9 (.map (some w.heap.size))) 10 (.map (some w3.heap.size))) 11 (.int .i64 0)) 12 (.agg #[.slice none 0 0, .map (some w.heap.size), .map (some w3.heap.size), .int .i64 0])) (by kernel_rfl) ?_
      have z16 := hT0.size
      refine st (by rfl) (S_new (v := .pointer (some ⟨w7.heap.size, 0, none⟩)) (ob := .cells #[.slice none 0 0, .map (some w.heap.size), .map (some w3.heap.size), .int .i64 0] 74) (by kernel_rfl) fun w12 hT13 hs14 hB15 => ?_)
      replace hB15 : Blk w12 (w7.heap.size) 74 [.slice none 0 0, .map (some w.heap.size), .map (some w3.heap.size), .int .i64 0] := hB15
      have hT0 := hT0.t0 hT13
      have hM1 := hM1.tch0 hT13
      have hM2 := hM2.tch0 hT13
      refine seg1 (ρ' := upd (upd (upd (upd (upd (upd (updL ρ [(0, .int .i64 0), (2, .pointer none), (8, .bool (decide (mo > 65536)))]) 9 (.map (some w.heap.size))) 10 (.map (some w3.heap.size))) 11 (.int .i64 0)) 12 (.agg #[.slice none 0 0, .map (some w.heap.size), .map (some w3.heap.size), .int .i64 0])) 13 (.pointer (some ⟨w7.heap.size, 0, none⟩))) 2 (.pointer (some ⟨w7.heap.size, 0, none⟩))) (by kernel_rfl) ?_
      refine op_nil ?_
      refine W_ret ?_
      refine ⟨_, Res_of (v := .pointer (some ⟨w7.heap.size, 0, none⟩)) (by kernel_rfl), ?_⟩
      have e : newM mo = 0 := by unfold newM; first | rw [if_pos (by omega)] | rw [if_neg (by omega)]
      have hJ := TJ_zero mo
      rw [e] at hJ ⊢
      refine ⟨_, fun b => b = (w7.heap.size) ∨ b = (w.heap.size) ∨ b = (w3.heap.size), rfl, ⟨⟨none, 0, w.heap.size, w3.heap.size, hB15, Own.nil_ _ _ _ _, hM1.congr (fun x y => ?_), hM2.congr (fun x y => ?_), by omega, .inl rfl, .inr (.inl rfl), .inr (.inr rfl), (fun c hc => by cases hc), ?_⟩, hJ⟩, hT0, ?_⟩
      · constructor
        · rintro ⟨i, n, h, _⟩; simp at h
        · exact fun h => h.elim
      · constructor
        · rintro ⟨n, h, _⟩; simp at h
        · exact fun h => h.elim
      · rintro b (hb | hb | hb)
        · rw [hb]; exact hB15.lt
        · rw [hb]; exact hM1.lt
        · rw [hb]; exact hM2.lt
      · rintro b (hb | hb | hb) <;> rw [hb] <;> omega
    · replace hc2 : mo ≤ 65536 := (Int.not_lt.1 (of_decide_eq_false hc2))
      refine W_skip ?_
      refine W_seq ?_
      refine W_region (by kernel_rfl) ?_
      refine st (by rfl) (S_makeMapE 32 fun w17 hT18 hs19 hM1 => ?_)
      have hT0 := hT18
      have hz20 := hT0.size
      refine st (by rfl) (S_makeMapE 3 fun w21 hT22 hs23 hM2 => ?_)
      have hz24 := hT0.size
      have hT0 := hT0.t0 hT22
      have hM1 := hM1.tch0 hT22
      have hz25 := hT0.size
      refine seg2 (ρ' := upd (upd (upd (upd (upd (upd (upd (upd (upd (upd (upd (ini [.int .i64 mo]) 2 (.pointer none)) 3 (.int .i64 mo)) 4 (.bool false)) 5 (.bool false)) 6 (.int .i64 mo)) 7 (.bool (decide (mo > 65536)))) 8 (.bool (decide (mo > 65536)))) 9 (.map (some w.heap.size))) 10 (.map (some w17.heap.size))) 11 (.int .i64 mo)) 12 (.agg #[.slice none 0 0, .map (some w.heap.size), .map (some w17.heap.size), .int .i64 mo])) (by kernel_rfl) ?_
      have z30 := hT0.size
      refine st (by rfl) (S_new (v := .pointer (some ⟨w21.heap.size, 0, none⟩)) (ob := .cells #[.slice none 0 0, .map (some w.heap.size), .map (some w17.heap.size), .int .i64 mo] 74) (by kernel_rfl) fun w26 hT27 hs28 hB29 => ?_)
      replace hB29 : Blk w26 (w21.heap.size) 74 [.slice none 0 0, .map (some w.heap.size), .map (some w17.heap.size), .int .i64 mo] := hB29
      have hT0 := hT0.t0 hT27
      have hM1 := hM1.tch0 hT27
      have hM2 := hM2.tch0 hT27
      refine seg1 (ρ' := upd (upd (upd (upd (upd (upd (upd (upd (upd (upd (upd (upd (upd (ini [.int .i64 mo]) 2 (.pointer none)) 3 (.int .i64 mo)) 4 (.bool false)) 5 (.bool false)) 6 (.int .i64 mo)) 7 (.bool (decide (mo > 65536)))) 8 (.bool (decide (mo > 65536)))) 9 (.map (some w.heap.size))) 10 (.map (some w17.heap.size))) 11 (.int .i64 mo)) 12 (.agg #[.slice none 0 0, .map (some w.heap.size), .map (some w17.heap.size), .int .i64 mo])) 13 (.pointer (some ⟨w21.heap.size, 0, none⟩))) 2 (.pointer (some ⟨w21.heap.size, 0, none⟩))) (by kernel_rfl) ?_
      refine op_nil ?_
      refine W_ret ?_
      refine ⟨_, Res_of (v := .pointer (some ⟨w21.heap.size, 0, none⟩)) (by kernel_rfl), ?_⟩
      have e : newM mo = mo := by unfold newM; first | rw [if_pos (by omega)] | rw [if_neg (by omega)]
      have hJ := TJ_zero mo
      rw [e] at hJ ⊢
      refine ⟨_, fun b => b = (w21.heap.size) ∨ b = (w.heap.size) ∨ b = (w17.heap.size), rfl, ⟨⟨none, 0, w.heap.size, w17.heap.size, hB29, Own.nil_ _ _ _ _, hM1.congr (fun x y => ?_), hM2.congr (fun x y => ?_), by omega, .inl rfl, .inr (.inl rfl), .inr (.inr rfl), (fun c hc => by cases hc), ?_⟩, hJ⟩, hT0, ?_⟩
      · constructor
        · rintro ⟨i, n, h, _⟩; simp at h
        · exact fun h => h.elim
      · constructor
        · rintro ⟨n, h, _⟩; simp at h
        · exact fun h => h.elim
      · rintro b (hb | hb | hb)
        · rw [hb]; exact hB29.lt
        · rw [hb]; exact hM1.lt
        · rw [hb]; exact hM2.lt
      · rintro b (hb | hb | hb) <;> rw [hb] <;> omega
  · replace hb1 : mo < 0 := (of_decide_eq_true hb1)
    refine seg3 (ρ' := upd (upd (upd (upd (upd (upd (upd (ini [.int .i64 mo]) 2 (.pointer none)) 3 (.int .i64 mo)) 4 (.bool true)) 5 (.bool true)) 6 (undef)) 7 (undef)) 8 (.bool true)) (by kernel_rfl) ?_
    refine op_nil ?_
    refine W_cond true (by kernel_rfl) (by kernel_rfl) (fun _ => ?_) (fun h => nomatch h)
    refine W_region (by kernel_rfl) ?_
    refine seg1 (ρ' := upd (upd (upd (upd (upd (upd (upd (upd (ini [.int .i64 mo]) 2 (.pointer none)) 3 (.int .i64 mo)) 4 (.bool true)) 5 (.bool true)) 6 (undef)) 7 (undef)) 8 (.bool true)) 0 (.int .i64 0)) (by kernel_rfl) ?_
    refine op_nil ?_
    refine W_seq ?_
    refine W_fg [(0, .int .i64 0), (2, .pointer none), (8, .bool true)] (by kernel_rfl) fun ρ => ?_
    refine W_region (by kernel_rfl) ?_
    refine st (by rfl) (S_makeMapE 32 fun w31 hT32 hs33 hM1 => ?_)
    have hT0 := hT32
    have hz34 := hT0.size
    refine st (by rfl) (S_makeMapE 3 fun w35 hT36 hs37 hM2 => ?_)
    have hz38 := hT0.size
    have hT0 := hT0.t0 hT36
    have hM1 := hM1.tch0 hT36
    have hz39 := hT0.size
    refine seg2 (ρ' := upd (upd (upd (upd (updL ρ [(0, .int .i64 0), (2, .pointer none), (8, .bool true)]) 9 (.map (some w.heap.size))) 10 (.map (some w31.heap.size))) 11 (.int .i64 0)) 12 (.agg #[.slice none 0 0, .map (some w.heap.size), .map (some w31.heap.size), .int .i64 0])) (by kernel_rfl) ?_
    have z44 := hT0.size
    refine st (by rfl) (S_new (v := .pointer (some ⟨w35.heap.size, 0, none⟩)) (ob := .cells #[.slice none 0 0, .map (some w.heap.size), .map (some w31.heap.size), .int .i64 0] 74) (by kernel_rfl) fun w40 hT41 hs42 hB43 => ?_)
    replace hB43 : Blk w40 (w35.heap.size) 74 [.slice none 0 0, .map (some w.heap.size), .map (some w31.heap.size), .int .i64 0] := hB43
    have hT0 := hT0.t0 hT41
    have hM1 := hM1.tch0 hT41
    have hM2 := hM2.tch0 hT41
    refine seg1 (ρ' := upd (upd (upd (upd (upd (upd (updL ρ [(0, .int .i64 0), (2, .pointer none), (8, .bool true)]) 9 (.map (some w.heap.size))) 10 (.map (some w31.heap.size))) 11 (.int .i64 0)) 12 (.agg #[.slice none 0 0, .map (some w.heap.size), .map (some w31.heap.size), .int .i64 0])) 13 (.pointer (some ⟨w35.heap.size, 0, none⟩))) 2 (.pointer (some ⟨w35.heap.size, 0, none⟩))) (by kernel_rfl) ?_
    refine op_nil ?_
    refine W_ret ?_
    refine ⟨_, Res_of (v := .pointer (some ⟨w35.heap.size, 0, none⟩)) (by kernel_rfl), ?_⟩
    have e : newM mo = 0 := by unfold newM; first | rw [if_pos (by omega)] | rw [if_neg (by omega)]
    have hJ := TJ_zero mo
    rw [e] at hJ ⊢
    refine ⟨_, fun b => b = (w35.heap.size) ∨ b = (w.heap.size) ∨ b = (w31.heap.size), rfl, ⟨⟨none, 0, w.heap.size, w31.heap.size, hB43, Own.nil_ _ _ _ _, hM1.congr (fun x y => ?_), hM2.congr (fun x y => ?_), by omega, .inl rfl, .inr (.inl rfl), .inr (.inr rfl), (fun c hc => by cases hc), ?_⟩, hJ⟩, hT0, ?_⟩
    · constructor
      · rintro ⟨i, n, h, _⟩; simp at h
      · exact fun h => h.elim
    · constructor
      · rintro ⟨n, h, _⟩; simp at h
      · exact fun h => h.elim
    · rintro b (hb | hb | hb)
      · rw [hb]; exact hB43.lt
      · rw [hb]; exact hM1.lt
      · rw [hb]; exact hM2.lt
    · rintro b (hb | hb | hb) <;> rw [hb] <;> omega

set_option maxRecDepth 100000 in
theorem const_nil (wd : Int) (x : Int) (w : World) : Ret Try.prog 34 [.pointer none, .int .i64 wd, .int .u64 x] w fun v w' => v = .tuple #[.int .i64 0, .int .i64 8] ∧ Tch N0 w w' := by
  refine enter Try.func34 rfl rfl ?_
  refine W_seq ?_
  refine W_region (by kernel_rfl) ?_
  refine seg2 (ρ' := upd (upd (ini [.pointer none, .int .i64 wd, .int .u64 x]) 6 (.int .i64 0)) 7 (.int .i64 0)) (by kernel_rfl) ?_
  refine op_nil ?_
  refine W_seq ?_
  refine W_block ?_
  refine W_seq ?_
  refine W_region (by kernel_rfl) ?_
  refine seg3 (ρ' := upd (upd (upd (upd (upd (ini [.pointer none, .int .i64 wd, .int .u64 x]) 6 (.int .i64 0)) 7 (.int .i64 0)) 9 (.pointer none)) 10 (.bool true)) 8 (.bool true)) (by kernel_rfl) ?_
  refine op_nil ?_
  refine W_cond true (by kernel_rfl) (by kernel_rfl) (fun _ => ?_) (fun h => nomatch h)
  refine W_seq ?_
  refine W_region (by kernel_rfl) ?_
  refine seg2 (ρ' := upd (upd (upd (upd (upd (upd (upd (ini [.pointer none, .int .i64 wd, .int .u64 x]) 6 (.int .i64 0)) 7 (.int .i64 0)) 9 (.pointer none)) 10 (.bool true)) 8 (.bool true)) 6 (.int .i64 0)) 7 (.int .i64 8)) (by kernel_rfl) ?_
  refine op_nil ?_
  refine W_ret ?_
  exact ⟨_, Res_of (v := .tuple #[.int .i64 0, .int .i64 8]) (by kernel_rfl), ⟨rfl, Tch.refl _ _⟩⟩

set_option maxRecDepth 100000 in
theorem var_nil (wd : Int) (ix : Int) (w : World) : Ret Try.prog 35 [.pointer none, .int .i64 wd, .int .i64 ix] w fun v w' => v = .tuple #[.int .i64 0, .int .i64 8] ∧ Tch N0 w w' := by
  refine enter Try.func35 rfl rfl ?_
  refine W_seq ?_
  refine W_region (by kernel_rfl) ?_
  refine seg2 (ρ' := upd (upd (ini [.pointer none, .int .i64 wd, .int .i64 ix]) 6 (.int .i64 0)) 7 (.int .i64 0)) (by kernel_rfl) ?_
  refine op_nil ?_
  refine W_seq ?_
  refine W_block ?_
  refine W_seq ?_
  refine W_region (by kernel_rfl) ?_
  refine seg3 (ρ' := upd (upd (upd (upd (upd (ini [.pointer none, .int .i64 wd, .int .i64 ix]) 6 (.int .i64 0)) 7 (.int .i64 0)) 13 (.pointer none)) 14 (.bool true)) 12 (.bool true)) (by kernel_rfl) ?_
  refine op_nil ?_
  refine W_cond true (by kernel_rfl) (by kernel_rfl) (fun _ => ?_) (fun h => nomatch h)
  refine W_seq ?_
  refine W_region (by kernel_rfl) ?_
  refine seg2 (ρ' := upd (upd (upd (upd (upd (upd (upd (ini [.pointer none, .int .i64 wd, .int .i64 ix]) 6 (.int .i64 0)) 7 (.int .i64 0)) 13 (.pointer none)) 14 (.bool true)) 12 (.bool true)) 6 (.int .i64 0)) 7 (.int .i64 8)) (by kernel_rfl) ?_
  refine op_nil ?_
  refine W_ret ?_
  exact ⟨_, Res_of (v := .tuple #[.int .i64 0, .int .i64 8]) (by kernel_rfl), ⟨rfl, Tch.refl _ _⟩⟩

set_option maxRecDepth 100000 in
theorem una_nil (o : Int) (a : Int) (w : World) : Ret Try.prog 41 [.pointer none, .int .i64 o, .int .i64 a] w fun v w' => v = .tuple #[.int .i64 0, .int .i64 8] ∧ Tch N0 w w' := by
  refine enter Try.func41 rfl rfl ?_
  refine W_seq ?_
  refine W_region (by kernel_rfl) ?_
  refine seg2 (ρ' := upd (upd (ini [.pointer none, .int .i64 o, .int .i64 a]) 6 (.int .i64 0)) 7 (.int .i64 0)) (by kernel_rfl) ?_
  refine op_nil ?_
  refine W_seq ?_
  refine W_block ?_
  refine W_seq ?_
  refine W_region (by kernel_rfl) ?_
  refine seg3 (ρ' := upd (upd (upd (upd (upd (ini [.pointer none, .int .i64 o, .int .i64 a]) 6 (.int .i64 0)) 7 (.int .i64 0)) 9 (.pointer none)) 10 (.bool true)) 8 (.bool true)) (by kernel_rfl) ?_
  refine op_nil ?_
  refine W_cond true (by kernel_rfl) (by kernel_rfl) (fun _ => ?_) (fun h => nomatch h)
  refine W_seq ?_
  refine W_region (by kernel_rfl) ?_
  refine seg2 (ρ' := upd (upd (upd (upd (upd (upd (upd (ini [.pointer none, .int .i64 o, .int .i64 a]) 6 (.int .i64 0)) 7 (.int .i64 0)) 9 (.pointer none)) 10 (.bool true)) 8 (.bool true)) 6 (.int .i64 0)) 7 (.int .i64 8)) (by kernel_rfl) ?_
  refine op_nil ?_
  refine W_ret ?_
  exact ⟨_, Res_of (v := .tuple #[.int .i64 0, .int .i64 8]) (by kernel_rfl), ⟨rfl, Tch.refl _ _⟩⟩

set_option maxRecDepth 100000 in
theorem bin_nil (o : Int) (a : Int) (b : Int) (w : World) : Ret Try.prog 36 [.pointer none, .int .i64 o, .int .i64 a, .int .i64 b] w fun v w' => v = .tuple #[.int .i64 0, .int .i64 8] ∧ Tch N0 w w' := by
  refine enter Try.func36 rfl rfl ?_
  refine W_seq ?_
  refine W_region (by kernel_rfl) ?_
  refine seg2 (ρ' := upd (upd (ini [.pointer none, .int .i64 o, .int .i64 a, .int .i64 b]) 8 (.int .i64 0)) 9 (.int .i64 0)) (by kernel_rfl) ?_
  refine op_nil ?_
  refine W_seq ?_
  refine W_block ?_
  refine W_seq ?_
  refine W_region (by kernel_rfl) ?_
  refine seg3 (ρ' := upd (upd (upd (upd (upd (ini [.pointer none, .int .i64 o, .int .i64 a, .int .i64 b]) 8 (.int .i64 0)) 9 (.int .i64 0)) 12 (.pointer none)) 13 (.bool true)) 11 (.bool true)) (by kernel_rfl) ?_
  refine op_nil ?_
  refine W_cond true (by kernel_rfl) (by kernel_rfl) (fun _ => ?_) (fun h => nomatch h)
  refine W_seq ?_
  refine W_region (by kernel_rfl) ?_
  refine seg2 (ρ' := upd (upd (upd (upd (upd (upd (upd (ini [.pointer none, .int .i64 o, .int .i64 a, .int .i64 b]) 8 (.int .i64 0)) 9 (.int .i64 0)) 12 (.pointer none)) 13 (.bool true)) 11 (.bool true)) 8 (.int .i64 0)) 9 (.int .i64 8)) (by kernel_rfl) ?_
  refine op_nil ?_
  refine W_ret ?_
  exact ⟨_, Res_of (v := .tuple #[.int .i64 0, .int .i64 8]) (by kernel_rfl), ⟨rfl, Tch.refl _ _⟩⟩

set_option maxRecDepth 100000 in
theorem ite_nil (c : Int) (a : Int) (b : Int) (w : World) : Ret Try.prog 37 [.pointer none, .int .i64 c, .int .i64 a, .int .i64 b] w fun v w' => v = .tuple #[.int .i64 0, .int .i64 8] ∧ Tch N0 w w' := by
  refine enter Try.func37 rfl rfl ?_
  refine W_seq ?_
  refine W_region (by kernel_rfl) ?_
  refine seg2 (ρ' := upd (upd (ini [.pointer none, .int .i64 c, .int .i64 a, .int .i64 b]) 8 (.int .i64 0)) 9 (.int .i64 0)) (by kernel_rfl) ?_
  refine op_nil ?_
  refine W_seq ?_
  refine W_block ?_
  refine W_seq ?_
  refine W_region (by kernel_rfl) ?_
  refine seg3 (ρ' := upd (upd (upd (upd (upd (ini [.pointer none, .int .i64 c, .int .i64 a, .int .i64 b]) 8 (.int .i64 0)) 9 (.int .i64 0)) 11 (.pointer none)) 12 (.bool true)) 10 (.bool true)) (by kernel_rfl) ?_
  refine op_nil ?_
  refine W_cond true (by kernel_rfl) (by kernel_rfl) (fun _ => ?_) (fun h => nomatch h)
  refine W_seq ?_
  refine W_region (by kernel_rfl) ?_
  refine seg2 (ρ' := upd (upd (upd (upd (upd (upd (upd (ini [.pointer none, .int .i64 c, .int .i64 a, .int .i64 b]) 8 (.int .i64 0)) 9 (.int .i64 0)) 11 (.pointer none)) 12 (.bool true)) 10 (.bool true)) 8 (.int .i64 0)) 9 (.int .i64 8)) (by kernel_rfl) ?_
  refine op_nil ?_
  refine W_ret ?_
  exact ⟨_, Res_of (v := .tuple #[.int .i64 0, .int .i64 8]) (by kernel_rfl), ⟨rfl, Tch.refl _ _⟩⟩

set_option maxRecDepth 100000 in
theorem ext_nil (a : Int) (lo : Int) (wd : Int) (w : World) : Ret Try.prog 39 [.pointer none, .int .i64 a, .int .i64 lo, .int .i64 wd] w fun v w' => v = .tuple #[.int .i64 0, .int .i64 8] ∧ Tch N0 w w' := by
  refine enter Try.func39 rfl rfl ?_
  refine W_seq ?_
  refine W_region (by kernel_rfl) ?_
  refine seg2 (ρ' := upd (upd (ini [.pointer none, .int .i64 a, .int .i64 lo, .int .i64 wd]) 8 (.int .i64 0)) 9 (.int .i64 0)) (by kernel_rfl) ?_
  refine op_nil ?_
  refine W_seq ?_
  refine W_block ?_
  refine W_seq ?_
  refine W_region (by kernel_rfl) ?_
  refine seg3 (ρ' := upd (upd (upd (upd (upd (ini [.pointer none, .int .i64 a, .int .i64 lo, .int .i64 wd]) 8 (.int .i64 0)) 9 (.int .i64 0)) 11 (.pointer none)) 12 (.bool true)) 10 (.bool true)) (by kernel_rfl) ?_
  refine op_nil ?_
  refine W_cond true (by kernel_rfl) (by kernel_rfl) (fun _ => ?_) (fun h => nomatch h)
  refine W_seq ?_
  refine W_region (by kernel_rfl) ?_
  refine seg2 (ρ' := upd (upd (upd (upd (upd (upd (upd (ini [.pointer none, .int .i64 a, .int .i64 lo, .int .i64 wd]) 8 (.int .i64 0)) 9 (.int .i64 0)) 11 (.pointer none)) 12 (.bool true)) 10 (.bool true)) 8 (.int .i64 0)) 9 (.int .i64 8)) (by kernel_rfl) ?_
  refine op_nil ?_
  refine W_ret ?_
  exact ⟨_, Res_of (v := .tuple #[.int .i64 0, .int .i64 8]) (by kernel_rfl), ⟨rfl, Tch.refl _ _⟩⟩

set_option maxRecDepth 100000 in
theorem cat_nil (a : Int) (b : Int) (w : World) : Ret Try.prog 40 [.pointer none, .int .i64 a, .int .i64 b] w fun v w' => v = .tuple #[.int .i64 0, .int .i64 8] ∧ Tch N0 w w' := by
  refine enter Try.func40 rfl rfl ?_
  refine W_seq ?_
  refine W_region (by kernel_rfl) ?_
  refine seg2 (ρ' := upd (upd (ini [.pointer none, .int .i64 a, .int .i64 b]) 6 (.int .i64 0)) 7 (.int .i64 0)) (by kernel_rfl) ?_
  refine op_nil ?_
  refine W_seq ?_
  refine W_block ?_
  refine W_seq ?_
  refine W_region (by kernel_rfl) ?_
  refine seg3 (ρ' := upd (upd (upd (upd (upd (ini [.pointer none, .int .i64 a, .int .i64 b]) 6 (.int .i64 0)) 7 (.int .i64 0)) 10 (.pointer none)) 11 (.bool true)) 9 (.bool true)) (by kernel_rfl) ?_
  refine op_nil ?_
  refine W_cond true (by kernel_rfl) (by kernel_rfl) (fun _ => ?_) (fun h => nomatch h)
  refine W_seq ?_
  refine W_region (by kernel_rfl) ?_
  refine seg2 (ρ' := upd (upd (upd (upd (upd (upd (upd (ini [.pointer none, .int .i64 a, .int .i64 b]) 6 (.int .i64 0)) 7 (.int .i64 0)) 10 (.pointer none)) 11 (.bool true)) 9 (.bool true)) 6 (.int .i64 0)) 7 (.int .i64 8)) (by kernel_rfl) ?_
  refine op_nil ?_
  refine W_ret ?_
  exact ⟨_, Res_of (v := .tuple #[.int .i64 0, .int .i64 8]) (by kernel_rfl), ⟨rfl, Tch.refl _ _⟩⟩

set_option maxRecDepth 100000 in
theorem exd_nil (a : Int) (wd : Int) (sg : Bool) (w : World) : Ret Try.prog 38 [.pointer none, .int .i64 a, .int .i64 wd, .bool sg] w fun v w' => v = .tuple #[.int .i64 0, .int .i64 8] ∧ Tch N0 w w' := by
  refine enter Try.func38 rfl rfl ?_
  refine W_seq ?_
  refine W_region (by kernel_rfl) ?_
  refine seg2 (ρ' := upd (upd (ini [.pointer none, .int .i64 a, .int .i64 wd, .bool sg]) 8 (.int .i64 0)) 9 (.int .i64 0)) (by kernel_rfl) ?_
  refine op_nil ?_
  refine W_seq ?_
  refine W_block ?_
  refine W_seq ?_
  refine W_region (by kernel_rfl) ?_
  refine seg3 (ρ' := upd (upd (upd (upd (upd (ini [.pointer none, .int .i64 a, .int .i64 wd, .bool sg]) 8 (.int .i64 0)) 9 (.int .i64 0)) 12 (.pointer none)) 13 (.bool true)) 11 (.bool true)) (by kernel_rfl) ?_
  refine op_nil ?_
  refine W_cond true (by kernel_rfl) (by kernel_rfl) (fun _ => ?_) (fun h => nomatch h)
  refine W_seq ?_
  refine W_region (by kernel_rfl) ?_
  refine seg2 (ρ' := upd (upd (upd (upd (upd (upd (upd (ini [.pointer none, .int .i64 a, .int .i64 wd, .bool sg]) 8 (.int .i64 0)) 9 (.int .i64 0)) 12 (.pointer none)) 13 (.bool true)) 11 (.bool true)) 8 (.int .i64 0)) 9 (.int .i64 8)) (by kernel_rfl) ?_
  refine op_nil ?_
  refine W_ret ?_
  exact ⟨_, Res_of (v := .tuple #[.int .i64 0, .int .i64 8]) (by kernel_rfl), ⟨rfl, Tch.refl _ _⟩⟩

end Go.Proofs.YtlbadnpgmkobdaaV
