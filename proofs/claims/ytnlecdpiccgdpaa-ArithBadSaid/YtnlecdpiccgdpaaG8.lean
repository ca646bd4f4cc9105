/- Walks of functions of the program and of the document's texts. The conditions stand with each theorem. -/
import Derived.Test.YtnlecdpiccgdpaaVx13
import Derived.Test.YtnlecdpiccgdpaaProg
import Derived.Test.YtnlecdpiccgdpaaVx4
import Derived.Test.YtnlecdpiccgdpaaG7
set_option linter.unusedVariables false
set_option linter.unusedSimpArgs false
namespace Go.Proofs.YtnlecdpiccgdpaaV
open Go Go.RowKit Go.Proofs

theorem hN2 {w : World} {g cp : Nat} {v : Value} {sp : List Value} (h : Blk w g 27 ([] ++ [v] ++ sp)) (hl : ([] ++ [v] ++ sp).length = cp) (hc : cp ≤ maxLen) : Own w 0 27 1 (.slice (some ⟨g, 0, none⟩) 1 cp) 1 [v] := Blk.own1 (cells := [v]) h rfl hl (by rw [← hl]; simp) hc

set_option maxRecDepth 100000 in
theorem new_ok (w : World) : Ret Try.prog 14 [] w fun v w' => ∃ p F, v = .pointer (some ⟨p, 0, none⟩) ∧ GObj F w' p 1 [[0]] (fun _ => False) ∧ Tch N0 w w' ∧ ∀ b, F b → w.heap.size ≤ b := by
  refine enter Try.func14 rfl rfl ?_
  refine W_seq ?_
  refine W_region (by kernel_rfl) ?_
  refine sg [(0, .pointer none)] (by kernel_rfl) ?_
  refine op_nil ?_
  refine W_seq ?_
  refine W_region (by kernel_rfl) ?_
  refine st (by rfl) (S_makeMap 34 (MkE 1 [[0]]) fun w1 hT2 hs3 hM => ?_)
  have hT0 := hT2
  refine sg [(3, .agg #[.int .i64 0, .slice none 0 0, .map (some w.heap.size)])] (by kernel_rfl) ?_
  have z8 := hT0.size
  refine st (by rfl) (S_new (v := .pointer (some ⟨w1.heap.size, 0, none⟩)) (ob := .cells #[.int .i64 0, .slice none 0 0, .map (some w.heap.size)] 78) (by kernel_rfl) fun w4 hT5 hs6 hB7 => ?_)
  replace hB7 : Blk w4 (w1.heap.size) 78 [.int .i64 0, .slice none 0 0, .map (some w.heap.size)] := hB7
  have hT0 := hT0.t0 hT5
  have hM := hM.tch0 hT5
  refine sg [(1, .pointer (some ⟨w1.heap.size, 0, none⟩))] (by kernel_rfl) ?_
  refine op_nil ?_
  refine W_seq ?_
  refine W_drawT (fun w' => True) 12 (by kernel_rfl) (by kernel_rfl) (by kernel_rfl) fun w9 hT10 hh11 => ?_
  have hT0 := hT0.t0 hT10
  have hM := hM.tch0 hT10
  have hB7 := hB7.tch0 hT10
  refine ttk [0, 1, 5, 2, 3] #[true, true, true, true, false, true, false, false, false, false, false, false, false] [(5, .pointer (some ⟨w1.heap.size, 0, none⟩)), (6, .pointer (some ⟨w1.heap.size, 0, none⟩)), (10, .pointer (some ⟨w1.heap.size, 0, none⟩)), (7, .pointer (some ⟨w1.heap.size, 0, none⟩)), (8, .pointer (some ⟨w1.heap.size, 1, none⟩))] trivial (by kernel_rfl) ?_
  refine t_two 4 6 (by kernel_rfl) (by rfl) (by rfl) (by kernel_rfl) (by kernel_rfl) ?_ ?_
  · refine (S_val (v := .slice none 0 0) (R_load (v := .slice none 0 0) (by kernel_rfl) (by kernel_rfl) ((hB7.cell 1).trans rfl)) ?_)
    refine ⟨fun _ => trivial, ?_⟩
    have hz14 := hT0.size
    have lt15 := hB7.lt
    refine t_one 6 (by kernel_rfl) (by rfl) (by kernel_rfl) (S_call (args := [.pointer (some ⟨w1.heap.size, 0, none⟩)]) (by kernel_rfl) (fresh_ok (w1.heap.size) 0 (.slice none 0 0) (.map (some w.heap.size)) _ hB7 (by omega)) ?_)
    rintro _ w12 ⟨rfl, hB7', hT13⟩
    have hT0 := (hT0).then hT13 (fun c e => by have : c = w1.heap.size := e; omega)
    have hM := hM.tch hT13 (fun e => hM.ne hB7 e)
    have hB7 : Blk w12 (w1.heap.size) 78 [.int .i64 ((0 + 1 : Nat) : Int), .slice none 0 0, .map (some w.heap.size)] := hB7'
    refine ⟨fun _ => trivial, ?_⟩
    have z20 := hT0.size
    have l21 := hB7.lt
    refine t_one 7 (by kernel_rfl) (by rfl) (by kernel_rfl) (S_new (v := .slice (some ⟨w12.heap.size, 0, none⟩) 1 1) (ob := .cells #[.int .i64 ((2 * 0 : Nat) : Int)] 3) (by kernel_rfl) fun w16 hT17 hs18 hB19 => ?_)
    replace hB19 : Blk w16 (w12.heap.size) 3 [.int .i64 ((2 * 0 : Nat) : Int)] := hB19
    have hT0 := hT0.t0 hT17
    have hM := hM.tch0 hT17
    have hB7 := hB7.tch0 hT17
    refine ⟨fun _ => trivial, ?_⟩
    have z26 := hT0.size
    have l27 := hB7.lt
    have l28 := hB19.lt
    refine t_one 8 (by kernel_rfl) (by rfl) (by kernel_rfl) (S_new (v := .slice (some ⟨w16.heap.size, 0, none⟩) 1 1) (ob := .cells #[.slice (some ⟨w12.heap.size, 0, none⟩) 1 1] 27) (by kernel_rfl) fun w22 hT23 hs24 hB25 => ?_)
    replace hB25 : Blk w22 (w16.heap.size) 27 [.slice (some ⟨w12.heap.size, 0, none⟩) 1 1] := hB25
    have hT0 := hT0.t0 hT23
    have hM := hM.tch0 hT23
    have hB7 := hB7.tch0 hT23
    have hB19 := hB19.tch0 hT23
    refine ⟨fun _ => trivial, ?_⟩
    refine t_one 9 (by kernel_rfl) (by rfl) (by kernel_rfl) (S_append_at 39 27 (.slice none 0 0) 24 (n := 0) (m := 1) (v := .slice none 0 0) (cells := []) (news := [.slice (some ⟨w12.heap.size, 0, none⟩) 1 1]) (b := w16.heap.size) (off := 0) (c := 1) (by kernel_rfl) (by rfl) (by kernel_rfl) (by kernel_rfl) (by kernel_rfl) (Own.nil_ _ _ _ _) (by rfl) (fun k u hk => by rw [Nat.zero_add, hB25.cell]; exact hk) (by simp [oneV]) (by simp only [maxLen]; omega) (by omega) (by omega) fun g2 cp2 sp2 w29 hG2 hl2 hc1 hc2 hg2 hT30 => ?_)
    replace hT30 := hT30.weaken (S' := N0) (fun _ _ e => by cases e)
    replace hg2 : g2 = w22.heap.size := hg2.elim (fun e => by cases e) id
    subst hg2
    have hT0 := hT0.t0 hT30
    have hM := hM.tch0 hT30
    have hB7 := hB7.tch0 hT30
    have hB19 := hB19.tch0 hT30
    have hB25 := hB25.tch0 hT30
    refine ⟨fun _ => trivial, ?_⟩
    refine t_one 10 (by kernel_rfl) (by rfl) (by kernel_rfl) (S_val (v := .pointer (some ⟨w1.heap.size, 0, none⟩)) (plainV_run (by kernel_rfl) _) ?_)
    refine ⟨fun _ => trivial, ?_⟩
    refine ttk [11] #[true, true, true, true, true, true, true, true, true, true, true, true, false] [(16, .pointer (some ⟨w1.heap.size, 1, none⟩))] trivial (by kernel_rfl) ?_
    refine t_one 12 (by kernel_rfl) (by rfl) (by kernel_rfl) (S_store (b := w1.heap.size) (j := 1) (v := .slice (some ⟨w22.heap.size, 0, none⟩) 1 cp2) (by kernel_rfl) (by kernel_rfl) (by kernel_rfl) (by rfl) hB7 (by simp) fun w31 hT32 hs33 hB7' => ?_)
    have hT0 := (hT0).then hT32 (fun c e => by have : c = w1.heap.size := e; omega)
    have hM := hM.tch hT32 (fun e => hM.ne hB7 e)
    have hB19 := hB19.tch hT32 (hB19.ne hB7 (by decide))
    have hB25 := hB25.tch hT32 (hB25.ne hB7 (by decide))
    have hG2 := hG2.tch hT32 (fun e => hG2.ne hB7 (by decide) e)
    replace hB7 : Blk w31 w1.heap.size 78 [.int .i64 ((0 + 1 : Nat) : Int), .slice (some ⟨w22.heap.size, 0, none⟩) 1 cp2, .map (some w.heap.size)] := hB7'
    refine ⟨fun h => absurd h (by decide), ?_⟩
    refine t_done (by kernel_rfl) ?_
    refine W_seq ?_
    refine W_region (by kernel_rfl) ?_
    refine sg [(17, .pointer (some ⟨w1.heap.size, 0, none⟩)), (0, .pointer (some ⟨w1.heap.size, 0, none⟩))] (by kernel_rfl) ?_
    refine op_nil ?_
    refine W_ret ?_
    have := (hT2).size
    have := (hT5).size
    have := (hT10).size
    have := (hT13).size
    have := (hT17).size
    have := (hT23).size
    have := (hT30).size
    have := (hT32).size
    refine ⟨_, Res_of (v := .pointer (some ⟨w1.heap.size, 0, none⟩)) (by kernel_rfl), ?_⟩
    refine ⟨_, fun b => b = (w1.heap.size) ∨ b = (w12.heap.size) ∨ b = (w22.heap.size) ∨ b = (w.heap.size), rfl, ⟨⟨some ⟨w22.heap.size, 0, none⟩, cp2, w.heap.size, _, hB7, hN2 hG2 hl2 hc2, hM, ⟨rfl, fun i hi => ?_⟩, .inl rfl, .inr (.inr (.inr rfl)), ?_, ?_⟩, GI.zero⟩, hT0, ?_⟩
    · have e : i = 0 := by simp at hi; omega
      subst e
      exact ⟨_, rfl, .inr (.inl rfl), hB19⟩
    · intro c e; exact .inr (.inr (.inl (by injection e with e; exact e.symm)))
    · rintro b (hb | hb | hb | hb)
      · rw [hb]; exact hB7.lt
      · rw [hb]; exact hB19.lt
      · rw [hb]; exact hG2.lt
      · rw [hb]; exact hM.lt
    · rintro b (hb | hb | hb | hb) <;> rw [hb] <;> omega
  · have hz36 := hT0.size
    have lt37 := hB7.lt
    refine (S_call (args := [.pointer (some ⟨w1.heap.size, 0, none⟩)]) (by kernel_rfl) (fresh_ok (w1.heap.size) 0 (.slice none 0 0) (.map (some w.heap.size)) _ hB7 (by omega)) ?_)
    rintro _ w34 ⟨rfl, hB7', hT35⟩
    have hT0 := (hT0).then hT35 (fun c e => by have : c = w1.heap.size := e; omega)
    have hM := hM.tch hT35 (fun e => hM.ne hB7 e)
    have hB7 : Blk w34 (w1.heap.size) 78 [.int .i64 ((0 + 1 : Nat) : Int), .slice none 0 0, .map (some w.heap.size)] := hB7'
    refine ⟨fun _ => trivial, ?_⟩
    refine t_two 4 7 (by kernel_rfl) (by rfl) (by rfl) (by kernel_rfl) (by kernel_rfl) ?_ ?_
    · refine (S_val (v := .slice none 0 0) (R_load (v := .slice none 0 0) (by kernel_rfl) (by kernel_rfl) ((hB7.cell 1).trans rfl)) ?_)
      refine ⟨fun _ => trivial, ?_⟩
      have z42 := hT0.size
      have l43 := hB7.lt
      refine t_one 7 (by kernel_rfl) (by rfl) (by kernel_rfl) (S_new (v := .slice (some ⟨w34.heap.size, 0, none⟩) 1 1) (ob := .cells #[.int .i64 ((2 * 0 : Nat) : Int)] 3) (by kernel_rfl) fun w38 hT39 hs40 hB41 => ?_)
      replace hB41 : Blk w38 (w34.heap.size) 3 [.int .i64 ((2 * 0 : Nat) : Int)] := hB41
      have hT0 := hT0.t0 hT39
      have hM := hM.tch0 hT39
      have hB7 := hB7.tch0 hT39
      refine ⟨fun _ => trivial, ?_⟩
      have z48 := hT0.size
      have l49 := hB7.lt
      have l50 := hB41.lt
      refine t_one 8 (by kernel_rfl) (by rfl) (by kernel_rfl) (S_new (v := .slice (some ⟨w38.heap.size, 0, none⟩) 1 1) (ob := .cells #[.slice (some ⟨w34.heap.size, 0, none⟩) 1 1] 27) (by kernel_rfl) fun w44 hT45 hs46 hB47 => ?_)
      replace hB47 : Blk w44 (w38.heap.size) 27 [.slice (some ⟨w34.heap.size, 0, none⟩) 1 1] := hB47
      have hT0 := hT0.t0 hT45
      have hM := hM.tch0 hT45
      have hB7 := hB7.tch0 hT45
      have hB41 := hB41.tch0 hT45
      refine ⟨fun _ => trivial, ?_⟩
      refine t_one 9 (by kernel_rfl) (by rfl) (by kernel_rfl) (S_append_at 39 27 (.slice none 0 0) 24 (n := 0) (m := 1) (v := .slice none 0 0) (cells := []) (news := [.slice (some ⟨w34.heap.size, 0, none⟩) 1 1]) (b := w38.heap.size) (off := 0) (c := 1) (by kernel_rfl) (by rfl) (by kernel_rfl) (by kernel_rfl) (by kernel_rfl) (Own.nil_ _ _ _ _) (by rfl) (fun k u hk => by rw [Nat.zero_add, hB47.cell]; exact hk) (by simp [oneV]) (by simp only [maxLen]; omega) (by omega) (by omega) fun g2 cp2 sp2 w51 hG2 hl2 hc1 hc2 hg2 hT52 => ?_)
      replace hT52 := hT52.weaken (S' := N0) (fun _ _ e => by cases e)
      replace hg2 : g2 = w44.heap.size := hg2.elim (fun e => by cases e) id
      subst hg2
      have hT0 := hT0.t0 hT52
      have hM := hM.tch0 hT52
      have hB7 := hB7.tch0 hT52
      have hB41 := hB41.tch0 hT52
      have hB47 := hB47.tch0 hT52
      refine ⟨fun _ => trivial, ?_⟩
      refine t_one 10 (by kernel_rfl) (by rfl) (by kernel_rfl) (S_val (v := .pointer (some ⟨w1.heap.size, 0, none⟩)) (plainV_run (by kernel_rfl) _) ?_)
      refine ⟨fun _ => trivial, ?_⟩
      refine ttk [11] #[true, true, true, true, true, true, true, true, true, true, true, true, false] [(16, .pointer (some ⟨w1.heap.size, 1, none⟩))] trivial (by kernel_rfl) ?_
      refine t_one 12 (by kernel_rfl) (by rfl) (by kernel_rfl) (S_store (b := w1.heap.size) (j := 1) (v := .slice (some ⟨w44.heap.size, 0, none⟩) 1 cp2) (by kernel_rfl) (by kernel_rfl) (by kernel_rfl) (by rfl) hB7 (by simp) fun w53 hT54 hs55 hB7' => ?_)
      have hT0 := (hT0).then hT54 (fun c e => by have : c = w1.heap.size := e; omega)
      have hM := hM.tch hT54 (fun e => hM.ne hB7 e)
      have hB41 := hB41.tch hT54 (hB41.ne hB7 (by decide))
      have hB47 := hB47.tch hT54 (hB47.ne hB7 (by decide))
      have hG2 := hG2.tch hT54 (fun e => hG2.ne hB7 (by decide) e)
      replace hB7 : Blk w53 w1.heap.size 78 [.int .i64 ((0 + 1 : Nat) : Int), .slice (some ⟨w44.heap.size, 0, none⟩) 1 cp2, .map (some w.heap.size)] := hB7'
      refine ⟨fun h => absurd h (by decide), ?_⟩
      refine t_done (by kernel_rfl) ?_
      refine W_seq ?_
      refine W_region (by kernel_rfl) ?_
      refine sg [(17, .pointer (some ⟨w1.heap.size, 0, none⟩)), (0, .pointer (some ⟨w1.heap.size, 0, none⟩))] (by kernel_rfl) ?_
      refine op_nil ?_
      refine W_ret ?_
      have := (hT2).size
      have := (hT5).size
      have := (hT10).size
      have := (hT35).size
      have := (hT39).size
      have := (hT45).size
      have := (hT52).size
      have := (hT54).size
      refine ⟨_, Res_of (v := .pointer (some ⟨w1.heap.size, 0, none⟩)) (by kernel_rfl), ?_⟩
      refine ⟨_, fun b => b = (w1.heap.size) ∨ b = (w34.heap.size) ∨ b = (w44.heap.size) ∨ b = (w.heap.size), rfl, ⟨⟨some ⟨w44.heap.size, 0, none⟩, cp2, w.heap.size, _, hB7, hN2 hG2 hl2 hc2, hM, ⟨rfl, fun i hi => ?_⟩, .inl rfl, .inr (.inr (.inr rfl)), ?_, ?_⟩, GI.zero⟩, hT0, ?_⟩
      · have e : i = 0 := by simp at hi; omega
        subst e
        exact ⟨_, rfl, .inr (.inl rfl), hB41⟩
      · intro c e; exact .inr (.inr (.inl (by injection e with e; exact e.symm)))
      · rintro b (hb | hb | hb | hb)
        · rw [hb]; exact hB7.lt
        · rw [hb]; exact hB41.lt
        · rw [hb]; exact hG2.lt
        · rw [hb]; exact hM.lt
      · rintro b (hb | hb | hb | hb) <;> rw [hb] <;> omega
    · have z60 := hT0.size
      have l61 := hB7.lt
      refine (S_new (v := .slice (some ⟨w34.heap.size, 0, none⟩) 1 1) (ob := .cells #[.int .i64 ((2 * 0 : Nat) : Int)] 3) (by kernel_rfl) fun w56 hT57 hs58 hB59 => ?_)
      replace hB59 : Blk w56 (w34.heap.size) 3 [.int .i64 ((2 * 0 : Nat) : Int)] := hB59
      have hT0 := hT0.t0 hT57
      have hM := hM.tch0 hT57
      have hB7 := hB7.tch0 hT57
      refine ⟨fun _ => trivial, ?_⟩
      refine t_two 4 8 (by kernel_rfl) (by rfl) (by rfl) (by kernel_rfl) (by kernel_rfl) ?_ ?_
      · refine (S_val (v := .slice none 0 0) (R_load (v := .slice none 0 0) (by kernel_rfl) (by kernel_rfl) ((hB7.cell 1).trans rfl)) ?_)
        refine ⟨fun _ => trivial, ?_⟩
        have z66 := hT0.size
        have l67 := hB7.lt
        have l68 := hB59.lt
        refine t_one 8 (by kernel_rfl) (by rfl) (by kernel_rfl) (S_new (v := .slice (some ⟨w56.heap.size, 0, none⟩) 1 1) (ob := .cells #[.slice (some ⟨w34.heap.size, 0, none⟩) 1 1] 27) (by kernel_rfl) fun w62 hT63 hs64 hB65 => ?_)
        replace hB65 : Blk w62 (w56.heap.size) 27 [.slice (some ⟨w34.heap.size, 0, none⟩) 1 1] := hB65
        have hT0 := hT0.t0 hT63
        have hM := hM.tch0 hT63
        have hB7 := hB7.tch0 hT63
        have hB59 := hB59.tch0 hT63
        refine ⟨fun _ => trivial, ?_⟩
        refine t_one 9 (by kernel_rfl) (by rfl) (by kernel_rfl) (S_append_at 39 27 (.slice none 0 0) 24 (n := 0) (m := 1) (v := .slice none 0 0) (cells := []) (news := [.slice (some ⟨w34.heap.size, 0, none⟩) 1 1]) (b := w56.heap.size) (off := 0) (c := 1) (by kernel_rfl) (by rfl) (by kernel_rfl) (by kernel_rfl) (by kernel_rfl) (Own.nil_ _ _ _ _) (by rfl) (fun k u hk => by rw [Nat.zero_add, hB65.cell]; exact hk) (by simp [oneV]) (by simp only [maxLen]; omega) (by omega) (by omega) fun g2 cp2 sp2 w69 hG2 hl2 hc1 hc2 hg2 hT70 => ?_)
        replace hT70 := hT70.weaken (S' := N0) (fun _ _ e => by cases e)
        replace hg2 : g2 = w62.heap.size := hg2.elim (fun e => by cases e) id
        subst hg2
        have hT0 := hT0.t0 hT70
        have hM := hM.tch0 hT70
        have hB7 := hB7.tch0 hT70
        have hB59 := hB59.tch0 hT70
        have hB65 := hB65.tch0 hT70
        refine ⟨fun _ => trivial, ?_⟩
        refine t_one 10 (by kernel_rfl) (by rfl) (by kernel_rfl) (S_val (v := .pointer (some ⟨w1.heap.size, 0, none⟩)) (plainV_run (by kernel_rfl) _) ?_)
        refine ⟨fun _ => trivial, ?_⟩
        refine ttk [11] #[true, true, true, true, true, true, true, true, true, true, true, true, false] [(16, .pointer (some ⟨w1.heap.size, 1, none⟩))] trivial (by kernel_rfl) ?_
        refine t_one 12 (by kernel_rfl) (by rfl) (by kernel_rfl) (S_store (b := w1.heap.size) (j := 1) (v := .slice (some ⟨w62.heap.size, 0, none⟩) 1 cp2) (by kernel_rfl) (by kernel_rfl) (by kernel_rfl) (by rfl) hB7 (by simp) fun w71 hT72 hs73 hB7' => ?_)
        have hT0 := (hT0).then hT72 (fun c e => by have : c = w1.heap.size := e; omega)
        have hM := hM.tch hT72 (fun e => hM.ne hB7 e)
        have hB59 := hB59.tch hT72 (hB59.ne hB7 (by decide))
        have hB65 := hB65.tch hT72 (hB65.ne hB7 (by decide))
        have hG2 := hG2.tch hT72 (fun e => hG2.ne hB7 (by decide) e)
        replace hB7 : Blk w71 w1.heap.size 78 [.int .i64 ((0 + 1 : Nat) : Int), .slice (some ⟨w62.heap.size, 0, none⟩) 1 cp2, .map (some w.heap.size)] := hB7'
        refine ⟨fun h => absurd h (by decide), ?_⟩
        refine t_done (by kernel_rfl) ?_
        refine W_seq ?_
        refine W_region (by kernel_rfl) ?_
        refine sg [(17, .pointer (some ⟨w1.heap.size, 0, none⟩)), (0, .pointer (some ⟨w1.heap.size, 0, none⟩))] (by kernel_rfl) ?_
        refine op_nil ?_
        refine W_ret ?_
        have := (hT2).size
        have := (hT5).size
        have := (hT10).size
        have := (hT35).size
        have := (hT57).size
        have := (hT63).size
        have := (hT70).size
        have := (hT72).size
        refine ⟨_, Res_of (v := .pointer (some ⟨w1.heap.size, 0, none⟩)) (by kernel_rfl), ?_⟩
        refine ⟨_, fun b => b = (w1.heap.size) ∨ b = (w34.heap.size) ∨ b = (w62.heap.size) ∨ b = (w.heap.size), rfl, ⟨⟨some ⟨w62.heap.size, 0, none⟩, cp2, w.heap.size, _, hB7, hN2 hG2 hl2 hc2, hM, ⟨rfl, fun i hi => ?_⟩, .inl rfl, .inr (.inr (.inr rfl)), ?_, ?_⟩, GI.zero⟩, hT0, ?_⟩
        · have e : i = 0 := by simp at hi; omega
          subst e
          exact ⟨_, rfl, .inr (.inl rfl), hB59⟩
        · intro c e; exact .inr (.inr (.inl (by injection e with e; exact e.symm)))
        · rintro b (hb | hb | hb | hb)
          · rw [hb]; exact hB7.lt
          · rw [hb]; exact hB59.lt
          · rw [hb]; exact hG2.lt
          · rw [hb]; exact hM.lt
        · rintro b (hb | hb | hb | hb) <;> rw [hb] <;> omega
      · have z78 := hT0.size
        have l79 := hB7.lt
        have l80 := hB59.lt
        refine (S_new (v := .slice (some ⟨w56.heap.size, 0, none⟩) 1 1) (ob := .cells #[.slice (some ⟨w34.heap.size, 0, none⟩) 1 1] 27) (by kernel_rfl) fun w74 hT75 hs76 hB77 => ?_)
        replace hB77 : Blk w74 (w56.heap.size) 27 [.slice (some ⟨w34.heap.size, 0, none⟩) 1 1] := hB77
        have hT0 := hT0.t0 hT75
        have hM := hM.tch0 hT75
        have hB7 := hB7.tch0 hT75
        have hB59 := hB59.tch0 hT75
        refine ⟨fun _ => trivial, ?_⟩
        refine t_one 4 (by kernel_rfl) (by rfl) (by kernel_rfl) (S_val (v := .slice none 0 0) (R_load (v := .slice none 0 0) (by kernel_rfl) (by kernel_rfl) ((hB7.cell 1).trans rfl)) ?_)
        refine ⟨fun _ => trivial, ?_⟩
        refine t_one 9 (by kernel_rfl) (by rfl) (by kernel_rfl) (S_append_at 39 27 (.slice none 0 0) 24 (n := 0) (m := 1) (v := .slice none 0 0) (cells := []) (news := [.slice (some ⟨w34.heap.size, 0, none⟩) 1 1]) (b := w56.heap.size) (off := 0) (c := 1) (by kernel_rfl) (by rfl) (by kernel_rfl) (by kernel_rfl) (by kernel_rfl) (Own.nil_ _ _ _ _) (by rfl) (fun k u hk => by rw [Nat.zero_add, hB77.cell]; exact hk) (by simp [oneV]) (by simp only [maxLen]; omega) (by omega) (by omega) fun g2 cp2 sp2 w81 hG2 hl2 hc1 hc2 hg2 hT82 => ?_)
        replace hT82 := hT82.weaken (S' := N0) (fun _ _ e => by cases e)
        replace hg2 : g2 = w74.heap.size := hg2.elim (fun e => by cases e) id
        subst hg2
        have hT0 := hT0.t0 hT82
        have hM := hM.tch0 hT82
        have hB7 := hB7.tch0 hT82
        have hB59 := hB59.tch0 hT82
        have hB77 := hB77.tch0 hT82
        refine ⟨fun _ => trivial, ?_⟩
        refine t_one 10 (by kernel_rfl) (by rfl) (by kernel_rfl) (S_val (v := .pointer (some ⟨w1.heap.size, 0, none⟩)) (plainV_run (by kernel_rfl) _) ?_)
        refine ⟨fun _ => trivial, ?_⟩
        refine ttk [11] #[true, true, true, true, true, true, true, true, true, true, true, true, false] [(16, .pointer (some ⟨w1.heap.size, 1, none⟩))] trivial (by kernel_rfl) ?_
        refine t_one 12 (by kernel_rfl) (by rfl) (by kernel_rfl) (S_store (b := w1.heap.size) (j := 1) (v := .slice (some ⟨w74.heap.size, 0, none⟩) 1 cp2) (by kernel_rfl) (by kernel_rfl) (by kernel_rfl) (by rfl) hB7 (by simp) fun w83 hT84 hs85 hB7' => ?_)
        have hT0 := (hT0).then hT84 (fun c e => by have : c = w1.heap.size := e; omega)
        have hM := hM.tch hT84 (fun e => hM.ne hB7 e)
        have hB59 := hB59.tch hT84 (hB59.ne hB7 (by decide))
        have hB77 := hB77.tch hT84 (hB77.ne hB7 (by decide))
        have hG2 := hG2.tch hT84 (fun e => hG2.ne hB7 (by decide) e)
        replace hB7 : Blk w83 w1.heap.size 78 [.int .i64 ((0 + 1 : Nat) : Int), .slice (some ⟨w74.heap.size, 0, none⟩) 1 cp2, .map (some w.heap.size)] := hB7'
        refine ⟨fun h => absurd h (by decide), ?_⟩
        refine t_done (by kernel_rfl) ?_
        refine W_seq ?_
        refine W_region (by kernel_rfl) ?_
        refine sg [(17, .pointer (some ⟨w1.heap.size, 0, none⟩)), (0, .pointer (some ⟨w1.heap.size, 0, none⟩))] (by kernel_rfl) ?_
        refine op_nil ?_
        refine W_ret ?_
        have := (hT2).size
        have := (hT5).size
        have := (hT10).size
        have := (hT35).size
        have := (hT57).size
        have := (hT75).size
        have := (hT82).size
        have := (hT84).size
        refine ⟨_, Res_of (v := .pointer (some ⟨w1.heap.size, 0, none⟩)) (by kernel_rfl), ?_⟩
        refine ⟨_, fun b => b = (w1.heap.size) ∨ b = (w34.heap.size) ∨ b = (w74.heap.size) ∨ b = (w.heap.size), rfl, ⟨⟨some ⟨w74.heap.size, 0, none⟩, cp2, w.heap.size, _, hB7, hN2 hG2 hl2 hc2, hM, ⟨rfl, fun i hi => ?_⟩, .inl rfl, .inr (.inr (.inr rfl)), ?_, ?_⟩, GI.zero⟩, hT0, ?_⟩
        · have e : i = 0 := by simp at hi; omega
          subst e
          exact ⟨_, rfl, .inr (.inl rfl), hB59⟩
        · intro c e; exact .inr (.inr (.inl (by injection e with e; exact e.symm)))
        · rintro b (hb | hb | hb | hb)
          · rw [hb]; exact hB7.lt
          · rw [hb]; exact hB59.lt
          · rw [hb]; exact hG2.lt
          · rw [hb]; exact hM.lt
        · rintro b (hb | hb | hb | hb) <;> rw [hb] <;> omega

end Go.Proofs.YtnlecdpiccgdpaaV
