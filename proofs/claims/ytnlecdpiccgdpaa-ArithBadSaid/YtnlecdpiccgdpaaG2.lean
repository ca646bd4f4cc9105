/- Walks of functions of the program and of the document's texts. The conditions stand with each theorem. -/
import Derived.Test.YtnlecdpiccgdpaaVx13
import Derived.Test.YtnlecdpiccgdpaaProg
import Derived.Test.YtnlecdpiccgdpaaVx4
import Derived.Test.YtnlecdpiccgdpaaG1
set_option linter.unusedVariables false
set_option linter.unusedSimpArgs false
namespace Go.Proofs.YtnlecdpiccgdpaaV
open Go Go.RowKit Go.Proofs

set_option maxRecDepth 100000 in
theorem add_ok (F : Nat → Prop) (r p nv g mm : Nat) (c : List Nat) (cs : List (List Nat)) (M : Value → Value → Prop) (w : World) (hR : Blk w r 25 [.pointer (some ⟨p, 0, none⟩)]) (hL : Low F w p nv cs M) (hGc : Blk w g 3 (nats c)) (hm : c.length = mm) (hk : cs.length ≤ 4398046511104) : Ret Try.prog 78 [.slice (some ⟨g, 0, none⟩) mm mm, .pointer (some ⟨r, 0, none⟩)] w fun v w' => v = .tuple #[] ∧ ∃ F', Low F' w' p nv (cs ++ [c]) M ∧ Tch F w w' ∧ (∀ b, F b → F' b) ∧ ∀ b, F' b → F b ∨ b = g ∨ w.heap.size ≤ b := by
  obtain ⟨A, cp, mb, Lv, hP, hO, hM, hC, fp, fm, fA, hlt⟩ := hL
  have hF : Tch F w w := Tch.refl _ _
  have hmc : mm = c.length := hm.symm
  refine enter Try.func78 rfl rfl ?_
  refine W_drawT (fun w' => Blk w' r 25 [.pointer (some ⟨p, 0, none⟩)]) 10 (by kernel_rfl) (by kernel_rfl) (by kernel_rfl) fun w1 hT2 hh3 => ?_
  have hP := hP.tch0 hT2
  have hR := hR.tch0 hT2
  have hO := hO.tch0 hT2
  have hM := hM.tch0 hT2
  have hC := hC.tch0 hT2
  have hGc := hGc.tch0 hT2
  have hF := hF.then0 hT2
  refine ttk [5] #[false, false, false, false, false, true, false, false, false, false, false] [(8, .slice (some ⟨g, 0, none⟩) mm mm)] hR (by kernel_rfl) ?_
  refine t_val (v := .pointer (some ⟨p, 0, none⟩)) 0 (by kernel_rfl) (by rfl) (by kernel_rfl) (by kernel_rfl) (by kernel_rfl) (fun w' hs => by have hR := hs; exact R_load (v := .pointer (some ⟨p, 0, none⟩)) (by kernel_rfl) (by kernel_rfl) ((hR.cell 0).trans rfl)) hR ?_
  refine t_val (v := .pointer (some ⟨p, 0, none⟩)) 1 (by kernel_rfl) (by rfl) (by kernel_rfl) (by kernel_rfl) (by kernel_rfl) (fun w' hs => by have hR := hs; exact R_load (v := .pointer (some ⟨p, 0, none⟩)) (by kernel_rfl) (by kernel_rfl) ((hR.cell 0).trans rfl)) hR ?_
  refine ttk [2, 3] #[true, true, true, true, false, true, false, false, false, false, false] [(5, .pointer (some ⟨p, 0, none⟩)), (6, .pointer (some ⟨p, 1, none⟩))] hR (by kernel_rfl) ?_
  refine t_two 4 6 (by kernel_rfl) (by rfl) (by rfl) (by kernel_rfl) (by kernel_rfl) ?_ ?_
  · refine (S_val (v := .slice A cs.length cp) (R_load (v := .slice A cs.length cp) (by kernel_rfl) (by kernel_rfl) ((hP.cell 1).trans rfl)) ?_)
    refine ⟨fun _ => hR, ?_⟩
    refine t_one 6 (by kernel_rfl) (by rfl) (by kernel_rfl) (S_new (v := .slice (some ⟨w1.heap.size, 0, none⟩) 1 1) (ob := .cells #[.slice (some ⟨g, 0, none⟩) mm mm] 27) (by kernel_rfl) fun w4 hT5 hs6 hB7 => ?_)
    replace hB7 : Blk w4 (w1.heap.size) 27 [.slice (some ⟨g, 0, none⟩) mm mm] := hB7
    have hP := hP.tch0 hT5
    have hR := hR.tch0 hT5
    have hO := hO.tch0 hT5
    have hM := hM.tch0 hT5
    have hC := hC.tch0 hT5
    have hGc := hGc.tch0 hT5
    have hF := hF.then0 hT5
    refine ⟨fun _ => hR, ?_⟩
    refine t_one 7 (by kernel_rfl) (by rfl) (by kernel_rfl) (S_append_at 39 27 (.slice none 0 0) 24 (n := cs.length) (m := 1) (v := .slice A cs.length cp) (cells := Lv) (news := [.slice (some ⟨g, 0, none⟩) mm mm]) (b := w1.heap.size) (off := 0) (c := 1) (by kernel_rfl) (by rfl) (by kernel_rfl) (by kernel_rfl) (by kernel_rfl) hO (by rfl) (fun k u hk => by rw [Nat.zero_add, hB7.cell]; exact hk) (by simp [oneV]) (by simp only [maxLen]; omega) (by omega) (by omega) fun g2 cp2 sp2 w8 hG2 hl2 hc1 hc2 hg2 hT9 => ?_)
    have fg : F g2 ∨ w.heap.size ≤ g2 := hg2.imp (fun e => fA _ e) (fun e => by have := hF.size; omega)
    have hP := hP.tch hT9 (fun e => hO.blk_ne hP (by decide) _ e rfl)
    have hR := hR.tch hT9 (fun e => hO.blk_ne hR (by decide) _ e rfl)
    have hM := hM.tch hT9 (fun e => hO.ne_map hM _ e rfl)
    have hC := hC.tch hT9 (fun q l _ hb e => hO.blk_ne hb (by decide) _ e rfl)
    have hGc := hGc.tch hT9 (fun e => hO.blk_ne hGc (by decide) _ e rfl)
    have hF := Tch.trans hF hT9 (fun _ _ e => e) (fun c _ e => fA c e)
    refine ⟨fun _ => hR, ?_⟩
    refine t_one 8 (by kernel_rfl) (by rfl) (by kernel_rfl) (S_val (v := .pointer (some ⟨p, 0, none⟩)) (plainV_run (by kernel_rfl) _) ?_)
    refine ⟨fun _ => hR, ?_⟩
    refine ttk [9] #[true, true, true, true, true, true, true, true, true, true, false] [(12, .pointer (some ⟨p, 1, none⟩))] hR (by kernel_rfl) ?_
    refine t_one 10 (by kernel_rfl) (by rfl) (by kernel_rfl) (S_store (b := p) (j := 1) (v := .slice (some ⟨g2, 0, none⟩) (cs.length + 1) cp2) (by kernel_rfl) (by kernel_rfl) (by kernel_rfl) (by rfl) hP (by simp) fun w10 hT11 hs12 hP' => ?_)
    have hR := hR.tch hT11 (hR.ne hP (by decide))
    have hM := hM.tch hT11 (fun e => hM.ne hP e)
    have hC := hC.tch hT11 (fun q l _ hb e => hb.ne hP (by decide) e)
    have hGc := hGc.tch hT11 (fun e => hGc.ne hP (by decide) e)
    have hF := Tch.trans hF hT11 (fun _ _ e => e) (fun c _ e => by have : c = p := e; rw [this]; exact fp)
    have hG2 := hG2.tch hT11 (fun e => hG2.ne hP (by decide) e)
    replace hP : Blk w10 p 78 [.int .i64 ((nv : Nat) : Int), .slice (some ⟨g2, 0, none⟩) (cs.length + 1) cp2, .map (some mb)] := hP'
    refine ⟨fun h => absurd h (by decide), ?_⟩
    refine t_done (by kernel_rfl) ?_
    refine ⟨_, Res_of (v := .tuple #[]) (by kernel_rfl), ?_⟩
    refine ⟨rfl, fun b => F b ∨ b = g ∨ b = g2, ?_, hF, fun b hb => .inl hb, ?_⟩
    · subst hm
      refine ⟨some ⟨g2, 0, none⟩, cp2, mb, Lv ++ [.slice (some ⟨g, 0, none⟩) c.length c.length], ?_, ?_, hM, (hC.up (fun b hb => .inl hb)).push (.inr (.inl rfl)) hGc, .inl fp, .inl fm, ?_, ?_⟩
      · rw [List.length_append]; exact hP
      · rw [List.length_append]; exact hG2.own1 (by rw [List.length_append, hC.1]; rfl) hl2 (by simpa using hc1) hc2
      · intro c' e; exact .inr (.inr (by injection e with e; exact e.symm))
      · rintro b (hb | rfl | rfl)
        · exact Nat.lt_of_lt_of_le (hlt b hb) hF.size
        · exact hGc.lt
        · exact hG2.lt
    · rintro b (hb | rfl | rfl)
      · exact .inl hb
      · exact .inr (.inl rfl)
      · exact fg.elim .inl (fun e => .inr (.inr e))
  · refine (S_new (v := .slice (some ⟨w1.heap.size, 0, none⟩) 1 1) (ob := .cells #[.slice (some ⟨g, 0, none⟩) mm mm] 27) (by kernel_rfl) fun w13 hT14 hs15 hB16 => ?_)
    replace hB16 : Blk w13 (w1.heap.size) 27 [.slice (some ⟨g, 0, none⟩) mm mm] := hB16
    have hP := hP.tch0 hT14
    have hR := hR.tch0 hT14
    have hO := hO.tch0 hT14
    have hM := hM.tch0 hT14
    have hC := hC.tch0 hT14
    have hGc := hGc.tch0 hT14
    have hF := hF.then0 hT14
    refine ⟨fun _ => hR, ?_⟩
    refine t_one 4 (by kernel_rfl) (by rfl) (by kernel_rfl) (S_val (v := .slice A cs.length cp) (R_load (v := .slice A cs.length cp) (by kernel_rfl) (by kernel_rfl) ((hP.cell 1).trans rfl)) ?_)
    refine ⟨fun _ => hR, ?_⟩
    refine t_one 7 (by kernel_rfl) (by rfl) (by kernel_rfl) (S_append_at 39 27 (.slice none 0 0) 24 (n := cs.length) (m := 1) (v := .slice A cs.length cp) (cells := Lv) (news := [.slice (some ⟨g, 0, none⟩) mm mm]) (b := w1.heap.size) (off := 0) (c := 1) (by kernel_rfl) (by rfl) (by kernel_rfl) (by kernel_rfl) (by kernel_rfl) hO (by rfl) (fun k u hk => by rw [Nat.zero_add, hB16.cell]; exact hk) (by simp [oneV]) (by simp only [maxLen]; omega) (by omega) (by omega) fun g2 cp2 sp2 w17 hG2 hl2 hc1 hc2 hg2 hT18 => ?_)
    have fg : F g2 ∨ w.heap.size ≤ g2 := hg2.imp (fun e => fA _ e) (fun e => by have := hF.size; omega)
    have hP := hP.tch hT18 (fun e => hO.blk_ne hP (by decide) _ e rfl)
    have hR := hR.tch hT18 (fun e => hO.blk_ne hR (by decide) _ e rfl)
    have hM := hM.tch hT18 (fun e => hO.ne_map hM _ e rfl)
    have hC := hC.tch hT18 (fun q l _ hb e => hO.blk_ne hb (by decide) _ e rfl)
    have hGc := hGc.tch hT18 (fun e => hO.blk_ne hGc (by decide) _ e rfl)
    have hF := Tch.trans hF hT18 (fun _ _ e => e) (fun c _ e => fA c e)
    refine ⟨fun _ => hR, ?_⟩
    refine t_one 8 (by kernel_rfl) (by rfl) (by kernel_rfl) (S_val (v := .pointer (some ⟨p, 0, none⟩)) (plainV_run (by kernel_rfl) _) ?_)
    refine ⟨fun _ => hR, ?_⟩
    refine ttk [9] #[true, true, true, true, true, true, true, true, true, true, false] [(12, .pointer (some ⟨p, 1, none⟩))] hR (by kernel_rfl) ?_
    refine t_one 10 (by kernel_rfl) (by rfl) (by kernel_rfl) (S_store (b := p) (j := 1) (v := .slice (some ⟨g2, 0, none⟩) (cs.length + 1) cp2) (by kernel_rfl) (by kernel_rfl) (by kernel_rfl) (by rfl) hP (by simp) fun w19 hT20 hs21 hP' => ?_)
    have hR := hR.tch hT20 (hR.ne hP (by decide))
    have hM := hM.tch hT20 (fun e => hM.ne hP e)
    have hC := hC.tch hT20 (fun q l _ hb e => hb.ne hP (by decide) e)
    have hGc := hGc.tch hT20 (fun e => hGc.ne hP (by decide) e)
    have hF := Tch.trans hF hT20 (fun _ _ e => e) (fun c _ e => by have : c = p := e; rw [this]; exact fp)
    have hG2 := hG2.tch hT20 (fun e => hG2.ne hP (by decide) e)
    replace hP : Blk w19 p 78 [.int .i64 ((nv : Nat) : Int), .slice (some ⟨g2, 0, none⟩) (cs.length + 1) cp2, .map (some mb)] := hP'
    refine ⟨fun h => absurd h (by decide), ?_⟩
    refine t_done (by kernel_rfl) ?_
    refine ⟨_, Res_of (v := .tuple #[]) (by kernel_rfl), ?_⟩
    refine ⟨rfl, fun b => F b ∨ b = g ∨ b = g2, ?_, hF, fun b hb => .inl hb, ?_⟩
    · subst hm
      refine ⟨some ⟨g2, 0, none⟩, cp2, mb, Lv ++ [.slice (some ⟨g, 0, none⟩) c.length c.length], ?_, ?_, hM, (hC.up (fun b hb => .inl hb)).push (.inr (.inl rfl)) hGc, .inl fp, .inl fm, ?_, ?_⟩
      · rw [List.length_append]; exact hP
      · rw [List.length_append]; exact hG2.own1 (by rw [List.length_append, hC.1]; rfl) hl2 (by simpa using hc1) hc2
      · intro c' e; exact .inr (.inr (by injection e with e; exact e.symm))
      · rintro b (hb | rfl | rfl)
        · exact Nat.lt_of_lt_of_le (hlt b hb) hF.size
        · exact hGc.lt
        · exact hG2.lt
    · rintro b (hb | rfl | rfl)
      · exact .inl hb
      · exact .inr (.inl rfl)
      · exact fg.elim .inl (fun e => .inr (.inr e))

end Go.Proofs.YtnlecdpiccgdpaaV
