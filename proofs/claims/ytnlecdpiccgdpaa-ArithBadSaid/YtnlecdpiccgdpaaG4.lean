/- Walks of functions of the program and of the document's texts. The conditions stand with each theorem. -/
import Derived.Test.YtnlecdpiccgdpaaVx13
import Derived.Test.YtnlecdpiccgdpaaProg
import Derived.Test.YtnlecdpiccgdpaaVx4
import Derived.Test.YtnlecdpiccgdpaaG3
set_option linter.unusedVariables false
set_option linter.unusedSimpArgs false
namespace Go.Proofs.YtnlecdpiccgdpaaV
open Go Go.RowKit Go.Proofs

set_option maxRecDepth 100000 in
theorem gate0_ok (F : Nat → Prop) (p n a b ra rb : Nat) (cs : List (List Nat)) (I : Nat → Prop) (w : World) (hG : GObj F w p n cs I) (ha : Blk w ra 3 [.int .i64 ((a : Nat) : Int)]) (hb : Blk w rb 3 [.int .i64 ((b : Nat) : Int)]) (nF_ha : ¬ F ra) (nF_hb : ¬ F rb) (hxa : a / 2 < n) (hxb : b / 2 < n) (hn : n ≤ 68719476736) : Ret Try.prog 54 [.pointer (some ⟨p, 0, none⟩), .int .i64 0, .int .i64 ((a : Nat) : Int), .int .i64 ((b : Nat) : Int), .int .i64 0, .func (.func 57) #[] #[.pointer (some ⟨ra, 0, none⟩), .pointer (some ⟨rb, 0, none⟩)]] w fun v w' => ∃ F' n' cs' x, v = .int .i64 ((x : Nat) : Int) ∧ GObj F' w' p n' cs' I ∧ Mv F F' w w' ∧ GR n cs n' cs' x (fun be => gv 0 (lt_ be a) (lt_ be b) (lt_ be 0)) ∧ n' ≤ n + 1 := by
  obtain ⟨hL, hI⟩ := hG
  have hMv := Mv.refl F w
  have hlen := hI.len
  have hpos := hI.pos
  refine enter Try.func54 rfl rfl ?_
  refine W_seq ?_
  refine W_region (by kernel_rfl) ?_
  have hlt_ := hL.lt
  have hz5 := hMv.1.size
  have lt6 := ha.lt
  have lt7 := hb.lt
  refine st (by rfl) (S_new (v := .pointer (some ⟨w.heap.size, 0, none⟩)) (ob := .cells #[.pointer (some ⟨p, 0, none⟩)] 25) (by kernel_rfl) fun w1 hT2 hs3 hB4 => ?_)
  replace hB4 : Blk w1 (w.heap.size) 25 [.pointer (some ⟨p, 0, none⟩)] := hB4
  have ha := ha.tch0 hT2
  have hb := hb.tch0 hT2
  have hL := hL.tch0 hT2
  have hMv := hMv.then0 hT2
  have nF_hB4 : ¬ F (w.heap.size) := fun e => by have := hlt_ _ e; omega
  refine sg [(12, .int .i64 0)] (by kernel_rfl) ?_
  refine op_nil ?_
  refine W_seq ?_
  refine W_region (by kernel_rfl) ?_
  refine sg [(17, .int .i64 0), (18, .int .i64 ((a : Nat) : Int)), (19, .int .i64 ((b : Nat) : Int)), (20, .int .i64 0), (21, .agg #[.int .i64 0, .int .i64 ((a : Nat) : Int), .int .i64 ((b : Nat) : Int), .int .i64 0])] (by kernel_rfl) ?_
  have hlt_ := hL.lt
  have hz12 := hMv.1.size
  have lt13 := ha.lt
  have lt14 := hb.lt
  have lt15 := hB4.lt
  refine st (by rfl) (S_new (v := .pointer (some ⟨w1.heap.size, 0, none⟩)) (ob := .cells #[.int .i64 0, .int .i64 0, .int .i64 0, .int .i64 0] 34) (by kernel_rfl) fun w8 hT9 hs10 hB11 => ?_)
  replace hB11 : Blk w8 (w1.heap.size) 34 [.int .i64 0, .int .i64 0, .int .i64 0, .int .i64 0] := hB11
  have ha := ha.tch0 hT9
  have hb := hb.tch0 hT9
  have hL := hL.tch0 hT9
  have hMv := hMv.then0 hT9
  have hB4 := hB4.tch0 hT9
  have nF_hB11 : ¬ F (w1.heap.size) := fun e => by have := hlt_ _ e; omega
  refine st (by rfl) (S_storeA (b := w1.heap.size) (j := 0) (cs := [.int .i64 0, .int .i64 ((a : Nat) : Int), .int .i64 ((b : Nat) : Int), .int .i64 0]) (by kernel_rfl) (by kernel_rfl) (by kernel_rfl) (by simp [oneV]) hB11 (by simp) fun w16 hT17 hs18 hB11' => ?_)
  have ha := ha.tch hT17 (ha.ne hB11 (by decide))
  have hb := hb.tch hT17 (hb.ne hB11 (by decide))
  have hL := hL.tchS hT17 (fun c e q => by cases e; exact nF_hB11 q)
  have hMv := hMv.newst hT17 (by omega)
  have hB4 := hB4.tch hT17 (hB4.ne hB11 (by decide))
  replace hB11 : Blk w16 w1.heap.size 34 [.int .i64 0, .int .i64 ((a : Nat) : Int), .int .i64 ((b : Nat) : Int), .int .i64 0] := hB11'
  refine op_nil ?_
  refine W_seq ?_
  refine W_seq ?_
  refine W_fg [(0, .pointer (some ⟨p, 0, none⟩)), (1, .int .i64 0), (2, .int .i64 ((a : Nat) : Int)), (3, .int .i64 ((b : Nat) : Int)), (4, .int .i64 0), (5, .func (.func 57) #[] #[.pointer (some ⟨ra, 0, none⟩), .pointer (some ⟨rb, 0, none⟩)]), (6, .pointer (some ⟨w.heap.size, 0, none⟩)), (12, .int .i64 0), (13, .pointer (some ⟨w1.heap.size, 0, none⟩))] (by kernel_rfl) fun ρ => ?_
  obtain ⟨A, cp, mb, Lv, hP, hO, hM, hC, fp, fm, fA, hlt⟩ := id hL
  refine W_draw (fun w' => Blk w' ra 3 [.int .i64 ((a : Nat) : Int)] ∧ Blk w' rb 3 [.int .i64 ((b : Nat) : Int)] ∧ Blk w' (w.heap.size) 25 [.pointer (some ⟨p, 0, none⟩)] ∧ Blk w' (w1.heap.size) 34 [.int .i64 0, .int .i64 ((a : Nat) : Int), .int .i64 ((b : Nat) : Int), .int .i64 0] ∧ Blk w' p 78 [.int .i64 ((n : Nat) : Int), .slice A cs.length cp, .map (some mb)]) (by kernel_rfl) (by kernel_rfl) (by kernel_rfl) fun w19 hT20 hh21 => ?_
  have ha := ha.tch0 hT20
  have hb := hb.tch0 hT20
  have hL := hL.tch0 hT20
  have hMv := hMv.then0 hT20
  have hB4 := hB4.tch0 hT20
  have hB11 := hB11.tch0 hT20
  have hP := hP.tch0 hT20
  have hO := hO.tch0 hT20
  have hM := hM.tch0 hT20
  have hC := hC.tch0 hT20
  have hlt := (fun b hb => Nat.lt_of_lt_of_le (hlt b hb) (hT20).size)
  refine d_val (v := .pointer (some ⟨p, 0, none⟩)) 0 (by rfl) (by kernel_rfl) (by kernel_rfl) (by kernel_rfl) (fun w' hs => by obtain ⟨ha, hb, hB4, hB11, hP⟩ := hs; exact R_load (v := .pointer (some ⟨p, 0, none⟩)) (by kernel_rfl) (by kernel_rfl) ((hB4.cell 0).trans rfl)) ⟨ha, hb, hB4, hB11, hP⟩ ?_
  refine dtk [1, 2] #[true, true, true, false, false, false, false, false, false, false, false] [(24, .pointer (some ⟨p, 0, none⟩)), (25, .pointer (some ⟨p, 2, none⟩))] ⟨ha, hb, hB4, hB11, hP⟩ (by kernel_rfl) ?_
  refine d_val (v := .map (some mb)) 3 (by rfl) (by kernel_rfl) (by kernel_rfl) (by kernel_rfl) (fun w' hs => by obtain ⟨ha, hb, hB4, hB11, hP⟩ := hs; exact R_load (v := .map (some mb)) (by kernel_rfl) (by kernel_rfl) ((hP.cell 2).trans rfl)) ⟨ha, hb, hB4, hB11, hP⟩ ?_
  refine d_val (v := .agg #[.int .i64 0, .int .i64 ((a : Nat) : Int), .int .i64 ((b : Nat) : Int), .int .i64 0]) 4 (by rfl) (by kernel_rfl) (by kernel_rfl) (by kernel_rfl) (fun w' hs => by obtain ⟨ha, hb, hB4, hB11, hP⟩ := hs; exact R_loadA [.int .i64 0, .int .i64 ((a : Nat) : Int), .int .i64 ((b : Nat) : Int), .int .i64 0] (by kernel_rfl) (by kernel_rfl) (by kernel_rfl) (fun k u hk => by rw [hB11.cell]; exact get_part _ 0 _ k u rfl hk)) ⟨ha, hb, hB4, hB11, hP⟩ ?_
  refine d_one 5 (by kernel_rfl) (by rfl) (by kernel_rfl) (S_lookupG 0 a b 0 (by kernel_rfl) (by kernel_rfl) (key_nat 0 a b 0 (by omega) (by omega) (by omega) (by omega)) hM fun x22 ok23 hx24 => ?_)
  refine ⟨⟨ha, hb, hB4, hB11, hP⟩, ?_⟩
  refine dtk [6, 7, 8, 9, 10] #[true, true, true, true, true, true, true, true, true, true, true] [(22, .tuple #[.int .i64 ((x22 : Nat) : Int), .bool ok23]), (29, .int .i64 ((x22 : Nat) : Int)), (30, .bool ok23), (14, .int .i64 ((x22 : Nat) : Int)), (15, .bool ok23)] ⟨ha, hb, hB4, hB11, hP⟩ (by kernel_rfl) ?_
  refine d_done (by kernel_rfl) ?_
  refine W_seq ?_
  refine W_fg [(0, .pointer (some ⟨p, 0, none⟩)), (1, .int .i64 0), (2, .int .i64 ((a : Nat) : Int)), (3, .int .i64 ((b : Nat) : Int)), (4, .int .i64 0), (5, .func (.func 57) #[] #[.pointer (some ⟨ra, 0, none⟩), .pointer (some ⟨rb, 0, none⟩)]), (6, .pointer (some ⟨w.heap.size, 0, none⟩)), (12, .int .i64 0), (13, .pointer (some ⟨w1.heap.size, 0, none⟩)), (14, .int .i64 ((x22 : Nat) : Int)), (15, .bool ok23)] (by kernel_rfl) fun ρ => ?_
  refine W_region (by kernel_rfl) ?_
  refine sg [(31, .bool ok23)] (by kernel_rfl) ?_
  refine op_nil ?_
  refine W_cond (ok23) (by kernel_rfl) (by kernel_rfl) (fun hc25 => ?_) (fun hc25 => ?_)
  · replace hc25 : ok23 = true := (hc25)
    refine W_seq ?_
    refine W_region (by kernel_rfl) ?_
    refine sg [(32, .int .i64 ((x22 : Nat) : Int)), (12, .int .i64 ((x22 : Nat) : Int))] (by kernel_rfl) ?_
    refine op_nil ?_
    refine W_ret ?_
    exact ⟨_, Res_of (v := .int .i64 ((x22 : Nat) : Int)) (by kernel_rfl), ⟨F, n, cs, x22, rfl, ⟨hL, hI⟩, hMv, ⟨Nat.le_refl _, fun c hc => hc, (hx24 (by assumption)).1, (hx24 (by assumption)).2⟩, by omega⟩⟩
  · replace hc25 : ok23 = false := (hc25)
    refine W_skip ?_
    refine W_seq ?_
    refine W_region (by kernel_rfl) ?_
    refine st (by rfl) (S_val (v := .pointer (some ⟨p, 0, none⟩)) (R_load (v := .pointer (some ⟨p, 0, none⟩)) (by kernel_rfl) (by kernel_rfl) ((hB4.cell 0).trans rfl)) ?_)
    refine st (by rfl) (S_call (args := [.pointer (some ⟨p, 0, none⟩)]) (by kernel_rfl) (low_fresh F p n cs (MkE n cs) _ hL (by omega)) ?_)
    rintro _ w26 ⟨rfl, hL, hm27⟩
    have ha := ha.tch hm27.1 nF_ha
    have hb := hb.tch hm27.1 nF_hb
    have hMv := hMv.trans hm27
    have hB4 := hB4.tch hm27.1 nF_hB4
    have hB11 := hB11.tch hm27.1 nF_hB11
    refine sg [(16, .int .i64 ((2 * n : Nat) : Int))] (by kernel_rfl) ?_
    refine op_nil ?_
    refine W_seq ?_
    obtain ⟨A2, cp2, mb2, Lv2, hP, hO, hM, hC, fp, fm, fA, hlt⟩ := id hL
    refine W_drawT (fun w' => Blk w' ra 3 [.int .i64 ((a : Nat) : Int)] ∧ Blk w' rb 3 [.int .i64 ((b : Nat) : Int)] ∧ Blk w' (w.heap.size) 25 [.pointer (some ⟨p, 0, none⟩)] ∧ Blk w' (w1.heap.size) 34 [.int .i64 0, .int .i64 ((a : Nat) : Int), .int .i64 ((b : Nat) : Int), .int .i64 0] ∧ Blk w' p 78 [.int .i64 (((n + 1) : Nat) : Int), .slice A2 cs.length cp2, .map (some mb2)]) 6 (by kernel_rfl) (by kernel_rfl) (by kernel_rfl) fun w28 hT29 hh30 => ?_
    have ha := ha.tch0 hT29
    have hb := hb.tch0 hT29
    have hL := hL.tch0 hT29
    have hMv := hMv.then0 hT29
    have hB4 := hB4.tch0 hT29
    have hB11 := hB11.tch0 hT29
    have hP := hP.tch0 hT29
    have hO := hO.tch0 hT29
    have hM := hM.tch0 hT29
    have hC := hC.tch0 hT29
    have hlt := (fun b hb => Nat.lt_of_lt_of_le (hlt b hb) (hT29).size)
    refine ttk [5] #[false, false, false, false, false, true, false] [(40, .int .i64 ((2 * n : Nat) : Int))] ⟨ha, hb, hB4, hB11, hP⟩ (by kernel_rfl) ?_
    refine t_val (v := .pointer (some ⟨p, 0, none⟩)) 0 (by kernel_rfl) (by rfl) (by kernel_rfl) (by kernel_rfl) (by kernel_rfl) (fun w' hs => by obtain ⟨ha, hb, hB4, hB11, hP⟩ := hs; exact R_load (v := .pointer (some ⟨p, 0, none⟩)) (by kernel_rfl) (by kernel_rfl) ((hB4.cell 0).trans rfl)) ⟨ha, hb, hB4, hB11, hP⟩ ?_
    refine ttk [1, 2] #[true, true, true, false, false, true, false] [(36, .pointer (some ⟨p, 0, none⟩)), (37, .pointer (some ⟨p, 2, none⟩))] ⟨ha, hb, hB4, hB11, hP⟩ (by kernel_rfl) ?_
    refine t_val (v := .map (some mb2)) 3 (by kernel_rfl) (by rfl) (by kernel_rfl) (by kernel_rfl) (by kernel_rfl) (fun w' hs => by obtain ⟨ha, hb, hB4, hB11, hP⟩ := hs; exact R_load (v := .map (some mb2)) (by kernel_rfl) (by kernel_rfl) ((hP.cell 2).trans rfl)) ⟨ha, hb, hB4, hB11, hP⟩ ?_
    refine t_val (v := .agg #[.int .i64 0, .int .i64 ((a : Nat) : Int), .int .i64 ((b : Nat) : Int), .int .i64 0]) 4 (by kernel_rfl) (by rfl) (by kernel_rfl) (by kernel_rfl) (by kernel_rfl) (fun w' hs => by obtain ⟨ha, hb, hB4, hB11, hP⟩ := hs; exact R_loadA [.int .i64 0, .int .i64 ((a : Nat) : Int), .int .i64 ((b : Nat) : Int), .int .i64 0] (by kernel_rfl) (by kernel_rfl) (by kernel_rfl) (fun k u hk => by rw [hB11.cell]; exact get_part _ 0 _ k u rfl hk)) ⟨ha, hb, hB4, hB11, hP⟩ ?_
    refine t_one 6 (by kernel_rfl) (by rfl) (by kernel_rfl) (S_updateG (n := n) 0 a b 0 (by kernel_rfl) (by kernel_rfl) (by kernel_rfl) (key_nat 0 a b 0 (by omega) (by omega) (by omega) (by omega)) hP hO hM hC fp fm fA hlt fun w31 hT32 hs33 hL => ?_)
    have ha := ha.tch hT32 nF_ha
    have hb := hb.tch hT32 nF_hb
    have hMv := hMv.trans (.same hT32)
    have hB4 := hB4.tch hT32 nF_hB4
    have hB11 := hB11.tch hT32 nF_hB11
    refine ⟨fun h => absurd h (by decide), ?_⟩
    refine t_done (by kernel_rfl) ?_
    refine W_seq ?_
    refine W_fg [(0, .pointer (some ⟨p, 0, none⟩)), (1, .int .i64 0), (2, .int .i64 ((a : Nat) : Int)), (3, .int .i64 ((b : Nat) : Int)), (4, .int .i64 0), (5, .func (.func 57) #[] #[.pointer (some ⟨ra, 0, none⟩), .pointer (some ⟨rb, 0, none⟩)]), (6, .pointer (some ⟨w.heap.size, 0, none⟩)), (12, .int .i64 0), (13, .pointer (some ⟨w1.heap.size, 0, none⟩)), (14, .int .i64 ((x22 : Nat) : Int)), (15, .bool ok23), (16, .int .i64 ((2 * n : Nat) : Int)), (31, .bool ok23)] (by kernel_rfl) fun ρ => ?_
    refine W_region (by kernel_rfl) ?_
    refine sg [(41, .func (.func 57) #[] #[.pointer (some ⟨ra, 0, none⟩), .pointer (some ⟨rb, 0, none⟩)]), (42, .int .i64 ((2 * n : Nat) : Int)), (43, .func (.func 78) #[] #[.pointer (some ⟨w.heap.size, 0, none⟩)])] (by kernel_rfl) ?_
    have lt37 := ha.lt
    have lt38 := hb.lt
    have lt39 := hB4.lt
    have lt40 := hB11.lt
    refine st (by rfl) (S_call (args := [.int .i64 ((2 * n : Nat) : Int), .func (.func 78) #[] #[.pointer (some ⟨w.heap.size, 0, none⟩)], .pointer (some ⟨ra, 0, none⟩), .pointer (some ⟨rb, 0, none⟩)]) (by kernel_rfl) (clo0_ok F (w.heap.size) p (n + 1) (2 * n) a b ra rb cs (MkE (n + 1) (cs ++ gcl 0 a b 0 (2 * n))) _ hB4 ha hb nF_hB4 nF_ha nF_hb hL (by omega) (by omega) (by omega) (by omega)) ?_)
    rintro _ w34 ⟨rfl, F36, hL, hm35⟩
    have ha := ha.tch hm35.1 nF_ha
    have hb := hb.tch hm35.1 nF_hb
    have hMv := hMv.trans hm35
    have hB4 := hB4.tch hm35.1 nF_hB4
    have hB11 := hB11.tch hm35.1 nF_hB11
    replace nF_ha : ¬ F36 (ra) := fun e => (hm35.2 _ e).elim nF_ha (fun q => by omega)
    replace nF_hb : ¬ F36 (rb) := fun e => (hm35.2 _ e).elim nF_hb (fun q => by omega)
    replace nF_hB4 : ¬ F36 (w.heap.size) := fun e => (hm35.2 _ e).elim nF_hB4 (fun q => by omega)
    replace nF_hB11 : ¬ F36 (w1.heap.size) := fun e => (hm35.2 _ e).elim nF_hB11 (fun q => by omega)
    refine op_nil ?_
    refine W_seq ?_
    refine W_region (by kernel_rfl) ?_
    refine sg [(45, .int .i64 ((2 * n : Nat) : Int)), (12, .int .i64 ((2 * n : Nat) : Int))] (by kernel_rfl) ?_
    refine op_nil ?_
    refine W_ret ?_
    exact ⟨_, Res_of (v := .int .i64 ((2 * n : Nat) : Int)) (by kernel_rfl), ⟨_, n + 1, cs ++ gcl 0 a b 0 (2 * n), 2 * n, rfl, ⟨hL, hI.gate (by omega) (by omega) (by omega)⟩, hMv, ⟨by omega, fun c hc => List.mem_append.2 (.inl hc), (MkI.new n cs 0 a b 0).1, (MkI.new n cs 0 a b 0).2⟩, Nat.le_refl _⟩⟩

set_option maxRecDepth 100000 in
theorem gate1_ok (F : Nat → Prop) (p n a b ra rb : Nat) (cs : List (List Nat)) (I : Nat → Prop) (w : World) (hG : GObj F w p n cs I) (ha : Blk w ra 3 [.int .i64 ((a : Nat) : Int)]) (hb : Blk w rb 3 [.int .i64 ((b : Nat) : Int)]) (nF_ha : ¬ F ra) (nF_hb : ¬ F rb) (hxa : a / 2 < n) (hxb : b / 2 < n) (hn : n ≤ 68719476736) : Ret Try.prog 54 [.pointer (some ⟨p, 0, none⟩), .int .i64 1, .int .i64 ((a : Nat) : Int), .int .i64 ((b : Nat) : Int), .int .i64 0, .func (.func 55) #[] #[.pointer (some ⟨ra, 0, none⟩), .pointer (some ⟨rb, 0, none⟩)]] w fun v w' => ∃ F' n' cs' x, v = .int .i64 ((x : Nat) : Int) ∧ GObj F' w' p n' cs' I ∧ Mv F F' w w' ∧ GR n cs n' cs' x (fun be => gv 1 (lt_ be a) (lt_ be b) (lt_ be 0)) ∧ n' ≤ n + 1 := by
  obtain ⟨hL, hI⟩ := hG
  have hMv := Mv.refl F w
  have hlen := hI.len
  have hpos := hI.pos
  refine enter Try.func54 rfl rfl ?_
  refine W_seq ?_
  refine W_region (by kernel_rfl) ?_
  have hlt_ := hL.lt
  have hz5 := hMv.1.size
  have lt6 := ha.lt
  have lt7 := hb.lt
  refine st (by rfl) (S_new (v := .pointer (some ⟨w.heap.size, 0, none⟩)) (ob := .cells #[.pointer (some ⟨p, 0, none⟩)] 25) (by kernel_rfl) fun w1 hT2 hs3 hB4 => ?_)
  replace hB4 : Blk w1 (w.heap.size) 25 [.pointer (some ⟨p, 0, none⟩)] := hB4
  have ha := ha.tch0 hT2
  have hb := hb.tch0 hT2
  have hL := hL.tch0 hT2
  have hMv := hMv.then0 hT2
  have nF_hB4 : ¬ F (w.heap.size) := fun e => by have := hlt_ _ e; omega
  refine sg [(12, .int .i64 0)] (by kernel_rfl) ?_
  refine op_nil ?_
  refine W_seq ?_
  refine W_region (by kernel_rfl) ?_
  refine sg [(17, .int .i64 1), (18, .int .i64 ((a : Nat) : Int)), (19, .int .i64 ((b : Nat) : Int)), (20, .int .i64 0), (21, .agg #[.int .i64 1, .int .i64 ((a : Nat) : Int), .int .i64 ((b : Nat) : Int), .int .i64 0])] (by kernel_rfl) ?_
  have hlt_ := hL.lt
  have hz12 := hMv.1.size
  have lt13 := ha.lt
  have lt14 := hb.lt
  have lt15 := hB4.lt
  refine st (by rfl) (S_new (v := .pointer (some ⟨w1.heap.size, 0, none⟩)) (ob := .cells #[.int .i64 0, .int .i64 0, .int .i64 0, .int .i64 0] 34) (by kernel_rfl) fun w8 hT9 hs10 hB11 => ?_)
  replace hB11 : Blk w8 (w1.heap.size) 34 [.int .i64 0, .int .i64 0, .int .i64 0, .int .i64 0] := hB11
  have ha := ha.tch0 hT9
  have hb := hb.tch0 hT9
  have hL := hL.tch0 hT9
  have hMv := hMv.then0 hT9
  have hB4 := hB4.tch0 hT9
  have nF_hB11 : ¬ F (w1.heap.size) := fun e => by have := hlt_ _ e; omega
  refine st (by rfl) (S_storeA (b := w1.heap.size) (j := 0) (cs := [.int .i64 1, .int .i64 ((a : Nat) : Int), .int .i64 ((b : Nat) : Int), .int .i64 0]) (by kernel_rfl) (by kernel_rfl) (by kernel_rfl) (by simp [oneV]) hB11 (by simp) fun w16 hT17 hs18 hB11' => ?_)
  have ha := ha.tch hT17 (ha.ne hB11 (by decide))
  have hb := hb.tch hT17 (hb.ne hB11 (by decide))
  have hL := hL.tchS hT17 (fun c e q => by cases e; exact nF_hB11 q)
  have hMv := hMv.newst hT17 (by omega)
  have hB4 := hB4.tch hT17 (hB4.ne hB11 (by decide))
  replace hB11 : Blk w16 w1.heap.size 34 [.int .i64 1, .int .i64 ((a : Nat) : Int), .int .i64 ((b : Nat) : Int), .int .i64 0] := hB11'
  refine op_nil ?_
  refine W_seq ?_
  refine W_seq ?_
  refine W_fg [(0, .pointer (some ⟨p, 0, none⟩)), (1, .int .i64 1), (2, .int .i64 ((a : Nat) : Int)), (3, .int .i64 ((b : Nat) : Int)), (4, .int .i64 0), (5, .func (.func 55) #[] #[.pointer (some ⟨ra, 0, none⟩), .pointer (some ⟨rb, 0, none⟩)]), (6, .pointer (some ⟨w.heap.size, 0, none⟩)), (12, .int .i64 0), (13, .pointer (some ⟨w1.heap.size, 0, none⟩))] (by kernel_rfl) fun ρ => ?_
  obtain ⟨A, cp, mb, Lv, hP, hO, hM, hC, fp, fm, fA, hlt⟩ := id hL
  refine W_draw (fun w' => Blk w' ra 3 [.int .i64 ((a : Nat) : Int)] ∧ Blk w' rb 3 [.int .i64 ((b : Nat) : Int)] ∧ Blk w' (w.heap.size) 25 [.pointer (some ⟨p, 0, none⟩)] ∧ Blk w' (w1.heap.size) 34 [.int .i64 1, .int .i64 ((a : Nat) : Int), .int .i64 ((b : Nat) : Int), .int .i64 0] ∧ Blk w' p 78 [.int .i64 ((n : Nat) : Int), .slice A cs.length cp, .map (some mb)]) (by kernel_rfl) (by kernel_rfl) (by kernel_rfl) fun w19 hT20 hh21 => ?_
  have ha := ha.tch0 hT20
  have hb := hb.tch0 hT20
  have hL := hL.tch0 hT20
  have hMv := hMv.then0 hT20
  have hB4 := hB4.tch0 hT20
  have hB11 := hB11.tch0 hT20
  have hP := hP.tch0 hT20
  have hO := hO.tch0 hT20
  have hM := hM.tch0 hT20
  have hC := hC.tch0 hT20
  have hlt := (fun b hb => Nat.lt_of_lt_of_le (hlt b hb) (hT20).size)
  refine d_val (v := .pointer (some ⟨p, 0, none⟩)) 0 (by rfl) (by kernel_rfl) (by kernel_rfl) (by kernel_rfl) (fun w' hs => by obtain ⟨ha, hb, hB4, hB11, hP⟩ := hs; exact R_load (v := .pointer (some ⟨p, 0, none⟩)) (by kernel_rfl) (by kernel_rfl) ((hB4.cell 0).trans rfl)) ⟨ha, hb, hB4, hB11, hP⟩ ?_
  refine dtk [1, 2] #[true, true, true, false, false, false, false, false, false, false, false] [(24, .pointer (some ⟨p, 0, none⟩)), (25, .pointer (some ⟨p, 2, none⟩))] ⟨ha, hb, hB4, hB11, hP⟩ (by kernel_rfl) ?_
  refine d_val (v := .map (some mb)) 3 (by rfl) (by kernel_rfl) (by kernel_rfl) (by kernel_rfl) (fun w' hs => by obtain ⟨ha, hb, hB4, hB11, hP⟩ := hs; exact R_load (v := .map (some mb)) (by kernel_rfl) (by kernel_rfl) ((hP.cell 2).trans rfl)) ⟨ha, hb, hB4, hB11, hP⟩ ?_
  refine d_val (v := .agg #[.int .i64 1, .int .i64 ((a : Nat) : Int), .int .i64 ((b : Nat) : Int), .int .i64 0]) 4 (by rfl) (by kernel_rfl) (by kernel_rfl) (by kernel_rfl) (fun w' hs => by obtain ⟨ha, hb, hB4, hB11, hP⟩ := hs; exact R_loadA [.int .i64 1, .int .i64 ((a : Nat) : Int), .int .i64 ((b : Nat) : Int), .int .i64 0] (by kernel_rfl) (by kernel_rfl) (by kernel_rfl) (fun k u hk => by rw [hB11.cell]; exact get_part _ 0 _ k u rfl hk)) ⟨ha, hb, hB4, hB11, hP⟩ ?_
  refine d_one 5 (by kernel_rfl) (by rfl) (by kernel_rfl) (S_lookupG 1 a b 0 (by kernel_rfl) (by kernel_rfl) (key_nat 1 a b 0 (by omega) (by omega) (by omega) (by omega)) hM fun x22 ok23 hx24 => ?_)
  refine ⟨⟨ha, hb, hB4, hB11, hP⟩, ?_⟩
  refine dtk [6, 7, 8, 9, 10] #[true, true, true, true, true, true, true, true, true, true, true] [(22, .tuple #[.int .i64 ((x22 : Nat) : Int), .bool ok23]), (29, .int .i64 ((x22 : Nat) : Int)), (30, .bool ok23), (14, .int .i64 ((x22 : Nat) : Int)), (15, .bool ok23)] ⟨ha, hb, hB4, hB11, hP⟩ (by kernel_rfl) ?_
  refine d_done (by kernel_rfl) ?_
  refine W_seq ?_
  refine W_fg [(0, .pointer (some ⟨p, 0, none⟩)), (1, .int .i64 1), (2, .int .i64 ((a : Nat) : Int)), (3, .int .i64 ((b : Nat) : Int)), (4, .int .i64 0), (5, .func (.func 55) #[] #[.pointer (some ⟨ra, 0, none⟩), .pointer (some ⟨rb, 0, none⟩)]), (6, .pointer (some ⟨w.heap.size, 0, none⟩)), (12, .int .i64 0), (13, .pointer (some ⟨w1.heap.size, 0, none⟩)), (14, .int .i64 ((x22 : Nat) : Int)), (15, .bool ok23)] (by kernel_rfl) fun ρ => ?_
  refine W_region (by kernel_rfl) ?_
  refine sg [(31, .bool ok23)] (by kernel_rfl) ?_
  refine op_nil ?_
  refine W_cond (ok23) (by kernel_rfl) (by kernel_rfl) (fun hc25 => ?_) (fun hc25 => ?_)
  · replace hc25 : ok23 = true := (hc25)
    refine W_seq ?_
    refine W_region (by kernel_rfl) ?_
    refine sg [(32, .int .i64 ((x22 : Nat) : Int)), (12, .int .i64 ((x22 : Nat) : Int))] (by kernel_rfl) ?_
    refine op_nil ?_
    refine W_ret ?_
    exact ⟨_, Res_of (v := .int .i64 ((x22 : Nat) : Int)) (by kernel_rfl), ⟨F, n, cs, x22, rfl, ⟨hL, hI⟩, hMv, ⟨Nat.le_refl _, fun c hc => hc, (hx24 (by assumption)).1, (hx24 (by assumption)).2⟩, by omega⟩⟩
  · replace hc25 : ok23 = false := (hc25)
    refine W_skip ?_
    refine W_seq ?_
    refine W_region (by kernel_rfl) ?_
    refine st (by rfl) (S_val (v := .pointer (some ⟨p, 0, none⟩)) (R_load (v := .pointer (some ⟨p, 0, none⟩)) (by kernel_rfl) (by kernel_rfl) ((hB4.cell 0).trans rfl)) ?_)
    refine st (by rfl) (S_call (args := [.pointer (some ⟨p, 0, none⟩)]) (by kernel_rfl) (low_fresh F p n cs (MkE n cs) _ hL (by omega)) ?_)
    rintro _ w26 ⟨rfl, hL, hm27⟩
    have ha := ha.tch hm27.1 nF_ha
    have hb := hb.tch hm27.1 nF_hb
    have hMv := hMv.trans hm27
    have hB4 := hB4.tch hm27.1 nF_hB4
    have hB11 := hB11.tch hm27.1 nF_hB11
    refine sg [(16, .int .i64 ((2 * n : Nat) : Int))] (by kernel_rfl) ?_
    refine op_nil ?_
    refine W_seq ?_
    obtain ⟨A2, cp2, mb2, Lv2, hP, hO, hM, hC, fp, fm, fA, hlt⟩ := id hL
    refine W_drawT (fun w' => Blk w' ra 3 [.int .i64 ((a : Nat) : Int)] ∧ Blk w' rb 3 [.int .i64 ((b : Nat) : Int)] ∧ Blk w' (w.heap.size) 25 [.pointer (some ⟨p, 0, none⟩)] ∧ Blk w' (w1.heap.size) 34 [.int .i64 1, .int .i64 ((a : Nat) : Int), .int .i64 ((b : Nat) : Int), .int .i64 0] ∧ Blk w' p 78 [.int .i64 (((n + 1) : Nat) : Int), .slice A2 cs.length cp2, .map (some mb2)]) 6 (by kernel_rfl) (by kernel_rfl) (by kernel_rfl) fun w28 hT29 hh30 => ?_
    have ha := ha.tch0 hT29
    have hb := hb.tch0 hT29
    have hL := hL.tch0 hT29
    have hMv := hMv.then0 hT29
    have hB4 := hB4.tch0 hT29
    have hB11 := hB11.tch0 hT29
    have hP := hP.tch0 hT29
    have hO := hO.tch0 hT29
    have hM := hM.tch0 hT29
    have hC := hC.tch0 hT29
    have hlt := (fun b hb => Nat.lt_of_lt_of_le (hlt b hb) (hT29).size)
    refine ttk [5] #[false, false, false, false, false, true, false] [(40, .int .i64 ((2 * n : Nat) : Int))] ⟨ha, hb, hB4, hB11, hP⟩ (by kernel_rfl) ?_
    refine t_val (v := .pointer (some ⟨p, 0, none⟩)) 0 (by kernel_rfl) (by rfl) (by kernel_rfl) (by kernel_rfl) (by kernel_rfl) (fun w' hs => by obtain ⟨ha, hb, hB4, hB11, hP⟩ := hs; exact R_load (v := .pointer (some ⟨p, 0, none⟩)) (by kernel_rfl) (by kernel_rfl) ((hB4.cell 0).trans rfl)) ⟨ha, hb, hB4, hB11, hP⟩ ?_
    refine ttk [1, 2] #[true, true, true, false, false, true, false] [(36, .pointer (some ⟨p, 0, none⟩)), (37, .pointer (some ⟨p, 2, none⟩))] ⟨ha, hb, hB4, hB11, hP⟩ (by kernel_rfl) ?_
    refine t_val (v := .map (some mb2)) 3 (by kernel_rfl) (by rfl) (by kernel_rfl) (by kernel_rfl) (by kernel_rfl) (fun w' hs => by obtain ⟨ha, hb, hB4, hB11, hP⟩ := hs; exact R_load (v := .map (some mb2)) (by kernel_rfl) (by kernel_rfl) ((hP.cell 2).trans rfl)) ⟨ha, hb, hB4, hB11, hP⟩ ?_
    refine t_val (v := .agg #[.int .i64 1, .int .i64 ((a : Nat) : Int), .int .i64 ((b : Nat) : Int), .int .i64 0]) 4 (by kernel_rfl) (by rfl) (by kernel_rfl) (by kernel_rfl) (by kernel_rfl) (fun w' hs => by obtain ⟨ha, hb, hB4, hB11, hP⟩ := hs; exact R_loadA [.int .i64 1, .int .i64 ((a : Nat) : Int), .int .i64 ((b : Nat) : Int), .int .i64 0] (by kernel_rfl) (by kernel_rfl) (by kernel_rfl) (fun k u hk => by rw [hB11.cell]; exact get_part _ 0 _ k u rfl hk)) ⟨ha, hb, hB4, hB11, hP⟩ ?_
    refine t_one 6 (by kernel_rfl) (by rfl) (by kernel_rfl) (S_updateG (n := n) 1 a b 0 (by kernel_rfl) (by kernel_rfl) (by kernel_rfl) (key_nat 1 a b 0 (by omega) (by omega) (by omega) (by omega)) hP hO hM hC fp fm fA hlt fun w31 hT32 hs33 hL => ?_)
    have ha := ha.tch hT32 nF_ha
    have hb := hb.tch hT32 nF_hb
    have hMv := hMv.trans (.same hT32)
    have hB4 := hB4.tch hT32 nF_hB4
    have hB11 := hB11.tch hT32 nF_hB11
    refine ⟨fun h => absurd h (by decide), ?_⟩
    refine t_done (by kernel_rfl) ?_
    refine W_seq ?_
    refine W_fg [(0, .pointer (some ⟨p, 0, none⟩)), (1, .int .i64 1), (2, .int .i64 ((a : Nat) : Int)), (3, .int .i64 ((b : Nat) : Int)), (4, .int .i64 0), (5, .func (.func 55) #[] #[.pointer (some ⟨ra, 0, none⟩), .pointer (some ⟨rb, 0, none⟩)]), (6, .pointer (some ⟨w.heap.size, 0, none⟩)), (12, .int .i64 0), (13, .pointer (some ⟨w1.heap.size, 0, none⟩)), (14, .int .i64 ((x22 : Nat) : Int)), (15, .bool ok23), (16, .int .i64 ((2 * n : Nat) : Int)), (31, .bool ok23)] (by kernel_rfl) fun ρ => ?_
    refine W_region (by kernel_rfl) ?_
    refine sg [(41, .func (.func 55) #[] #[.pointer (some ⟨ra, 0, none⟩), .pointer (some ⟨rb, 0, none⟩)]), (42, .int .i64 ((2 * n : Nat) : Int)), (43, .func (.func 78) #[] #[.pointer (some ⟨w.heap.size, 0, none⟩)])] (by kernel_rfl) ?_
    have lt37 := ha.lt
    have lt38 := hb.lt
    have lt39 := hB4.lt
    have lt40 := hB11.lt
    refine st (by rfl) (S_call (args := [.int .i64 ((2 * n : Nat) : Int), .func (.func 78) #[] #[.pointer (some ⟨w.heap.size, 0, none⟩)], .pointer (some ⟨ra, 0, none⟩), .pointer (some ⟨rb, 0, none⟩)]) (by kernel_rfl) (clo1_ok F (w.heap.size) p (n + 1) (2 * n) a b ra rb cs (MkE (n + 1) (cs ++ gcl 1 a b 0 (2 * n))) _ hB4 ha hb nF_hB4 nF_ha nF_hb hL (by omega) (by omega) (by omega) (by omega)) ?_)
    rintro _ w34 ⟨rfl, F36, hL, hm35⟩
    have ha := ha.tch hm35.1 nF_ha
    have hb := hb.tch hm35.1 nF_hb
    have hMv := hMv.trans hm35
    have hB4 := hB4.tch hm35.1 nF_hB4
    have hB11 := hB11.tch hm35.1 nF_hB11
    replace nF_ha : ¬ F36 (ra) := fun e => (hm35.2 _ e).elim nF_ha (fun q => by omega)
    replace nF_hb : ¬ F36 (rb) := fun e => (hm35.2 _ e).elim nF_hb (fun q => by omega)
    replace nF_hB4 : ¬ F36 (w.heap.size) := fun e => (hm35.2 _ e).elim nF_hB4 (fun q => by omega)
    replace nF_hB11 : ¬ F36 (w1.heap.size) := fun e => (hm35.2 _ e).elim nF_hB11 (fun q => by omega)
    refine op_nil ?_
    refine W_seq ?_
    refine W_region (by kernel_rfl) ?_
    refine sg [(45, .int .i64 ((2 * n : Nat) : Int)), (12, .int .i64 ((2 * n : Nat) : Int))] (by kernel_rfl) ?_
    refine op_nil ?_
    refine W_ret ?_
    exact ⟨_, Res_of (v := .int .i64 ((2 * n : Nat) : Int)) (by kernel_rfl), ⟨_, n + 1, cs ++ gcl 1 a b 0 (2 * n), 2 * n, rfl, ⟨hL, hI.gate (by omega) (by omega) (by omega)⟩, hMv, ⟨by omega, fun c hc => List.mem_append.2 (.inl hc), (MkI.new n cs 1 a b 0).1, (MkI.new n cs 1 a b 0).2⟩, Nat.le_refl _⟩⟩

set_option maxRecDepth 100000 in
theorem gate2_ok (F : Nat → Prop) (p n c a b rc ra rb : Nat) (cs : List (List Nat)) (I : Nat → Prop) (w : World) (hG : GObj F w p n cs I) (hc : Blk w rc 3 [.int .i64 ((c : Nat) : Int)]) (ha : Blk w ra 3 [.int .i64 ((a : Nat) : Int)]) (hb : Blk w rb 3 [.int .i64 ((b : Nat) : Int)]) (nF_hc : ¬ F rc) (nF_ha : ¬ F ra) (nF_hb : ¬ F rb) (hxc : c / 2 < n) (hxa : a / 2 < n) (hxb : b / 2 < n) (hn : n ≤ 68719476736) : Ret Try.prog 54 [.pointer (some ⟨p, 0, none⟩), .int .i64 2, .int .i64 ((c : Nat) : Int), .int .i64 ((a : Nat) : Int), .int .i64 ((b : Nat) : Int), .func (.func 59) #[] #[.pointer (some ⟨rc, 0, none⟩), .pointer (some ⟨ra, 0, none⟩), .pointer (some ⟨rb, 0, none⟩)]] w fun v w' => ∃ F' n' cs' x, v = .int .i64 ((x : Nat) : Int) ∧ GObj F' w' p n' cs' I ∧ Mv F F' w w' ∧ GR n cs n' cs' x (fun be => gv 2 (lt_ be c) (lt_ be a) (lt_ be b)) ∧ n' ≤ n + 1 := by
  obtain ⟨hL, hI⟩ := hG
  have hMv := Mv.refl F w
  have hlen := hI.len
  have hpos := hI.pos
  refine enter Try.func54 rfl rfl ?_
  refine W_seq ?_
  refine W_region (by kernel_rfl) ?_
  have hlt_ := hL.lt
  have hz5 := hMv.1.size
  have lt6 := hc.lt
  have lt7 := ha.lt
  have lt8 := hb.lt
  refine st (by rfl) (S_new (v := .pointer (some ⟨w.heap.size, 0, none⟩)) (ob := .cells #[.pointer (some ⟨p, 0, none⟩)] 25) (by kernel_rfl) fun w1 hT2 hs3 hB4 => ?_)
  replace hB4 : Blk w1 (w.heap.size) 25 [.pointer (some ⟨p, 0, none⟩)] := hB4
  have hc := hc.tch0 hT2
  have ha := ha.tch0 hT2
  have hb := hb.tch0 hT2
  have hL := hL.tch0 hT2
  have hMv := hMv.then0 hT2
  have nF_hB4 : ¬ F (w.heap.size) := fun e => by have := hlt_ _ e; omega
  refine sg [(12, .int .i64 0)] (by kernel_rfl) ?_
  refine op_nil ?_
  refine W_seq ?_
  refine W_region (by kernel_rfl) ?_
  refine sg [(17, .int .i64 2), (18, .int .i64 ((c : Nat) : Int)), (19, .int .i64 ((a : Nat) : Int)), (20, .int .i64 ((b : Nat) : Int)), (21, .agg #[.int .i64 2, .int .i64 ((c : Nat) : Int), .int .i64 ((a : Nat) : Int), .int .i64 ((b : Nat) : Int)])] (by kernel_rfl) ?_
  have hlt_ := hL.lt
  have hz13 := hMv.1.size
  have lt14 := hc.lt
  have lt15 := ha.lt
  have lt16 := hb.lt
  have lt17 := hB4.lt
  refine st (by rfl) (S_new (v := .pointer (some ⟨w1.heap.size, 0, none⟩)) (ob := .cells #[.int .i64 0, .int .i64 0, .int .i64 0, .int .i64 0] 34) (by kernel_rfl) fun w9 hT10 hs11 hB12 => ?_)
  replace hB12 : Blk w9 (w1.heap.size) 34 [.int .i64 0, .int .i64 0, .int .i64 0, .int .i64 0] := hB12
  have hc := hc.tch0 hT10
  have ha := ha.tch0 hT10
  have hb := hb.tch0 hT10
  have hL := hL.tch0 hT10
  have hMv := hMv.then0 hT10
  have hB4 := hB4.tch0 hT10
  have nF_hB12 : ¬ F (w1.heap.size) := fun e => by have := hlt_ _ e; omega
  refine st (by rfl) (S_storeA (b := w1.heap.size) (j := 0) (cs := [.int .i64 2, .int .i64 ((c : Nat) : Int), .int .i64 ((a : Nat) : Int), .int .i64 ((b : Nat) : Int)]) (by kernel_rfl) (by kernel_rfl) (by kernel_rfl) (by simp [oneV]) hB12 (by simp) fun w18 hT19 hs20 hB12' => ?_)
  have hc := hc.tch hT19 (hc.ne hB12 (by decide))
  have ha := ha.tch hT19 (ha.ne hB12 (by decide))
  have hb := hb.tch hT19 (hb.ne hB12 (by decide))
  have hL := hL.tchS hT19 (fun c e q => by cases e; exact nF_hB12 q)
  have hMv := hMv.newst hT19 (by omega)
  have hB4 := hB4.tch hT19 (hB4.ne hB12 (by decide))
  replace hB12 : Blk w18 w1.heap.size 34 [.int .i64 2, .int .i64 ((c : Nat) : Int), .int .i64 ((a : Nat) : Int), .int .i64 ((b : Nat) : Int)] := hB12'
  refine op_nil ?_
  refine W_seq ?_
  refine W_seq ?_
  refine W_fg [(0, .pointer (some ⟨p, 0, none⟩)), (1, .int .i64 2), (2, .int .i64 ((c : Nat) : Int)), (3, .int .i64 ((a : Nat) : Int)), (4, .int .i64 ((b : Nat) : Int)), (5, .func (.func 59) #[] #[.pointer (some ⟨rc, 0, none⟩), .pointer (some ⟨ra, 0, none⟩), .pointer (some ⟨rb, 0, none⟩)]), (6, .pointer (some ⟨w.heap.size, 0, none⟩)), (12, .int .i64 0), (13, .pointer (some ⟨w1.heap.size, 0, none⟩))] (by kernel_rfl) fun ρ => ?_
  obtain ⟨A, cp, mb, Lv, hP, hO, hM, hC, fp, fm, fA, hlt⟩ := id hL
  refine W_draw (fun w' => Blk w' rc 3 [.int .i64 ((c : Nat) : Int)] ∧ Blk w' ra 3 [.int .i64 ((a : Nat) : Int)] ∧ Blk w' rb 3 [.int .i64 ((b : Nat) : Int)] ∧ Blk w' (w.heap.size) 25 [.pointer (some ⟨p, 0, none⟩)] ∧ Blk w' (w1.heap.size) 34 [.int .i64 2, .int .i64 ((c : Nat) : Int), .int .i64 ((a : Nat) : Int), .int .i64 ((b : Nat) : Int)] ∧ Blk w' p 78 [.int .i64 ((n : Nat) : Int), .slice A cs.length cp, .map (some mb)]) (by kernel_rfl) (by kernel_rfl) (by kernel_rfl) fun w21 hT22 hh23 => ?_
  have hc := hc.tch0 hT22
  have ha := ha.tch0 hT22
  have hb := hb.tch0 hT22
  have hL := hL.tch0 hT22
  have hMv := hMv.then0 hT22
  have hB4 := hB4.tch0 hT22
  have hB12 := hB12.tch0 hT22
  have hP := hP.tch0 hT22
  have hO := hO.tch0 hT22
  have hM := hM.tch0 hT22
  have hC := hC.tch0 hT22
  have hlt := (fun b hb => Nat.lt_of_lt_of_le (hlt b hb) (hT22).size)
  refine d_val (v := .pointer (some ⟨p, 0, none⟩)) 0 (by rfl) (by kernel_rfl) (by kernel_rfl) (by kernel_rfl) (fun w' hs => by obtain ⟨hc, ha, hb, hB4, hB12, hP⟩ := hs; exact R_load (v := .pointer (some ⟨p, 0, none⟩)) (by kernel_rfl) (by kernel_rfl) ((hB4.cell 0).trans rfl)) ⟨hc, ha, hb, hB4, hB12, hP⟩ ?_
  refine dtk [1, 2] #[true, true, true, false, false, false, false, false, false, false, false] [(24, .pointer (some ⟨p, 0, none⟩)), (25, .pointer (some ⟨p, 2, none⟩))] ⟨hc, ha, hb, hB4, hB12, hP⟩ (by kernel_rfl) ?_
  refine d_val (v := .map (some mb)) 3 (by rfl) (by kernel_rfl) (by kernel_rfl) (by kernel_rfl) (fun w' hs => by obtain ⟨hc, ha, hb, hB4, hB12, hP⟩ := hs; exact R_load (v := .map (some mb)) (by kernel_rfl) (by kernel_rfl) ((hP.cell 2).trans rfl)) ⟨hc, ha, hb, hB4, hB12, hP⟩ ?_
  refine d_val (v := .agg #[.int .i64 2, .int .i64 ((c : Nat) : Int), .int .i64 ((a : Nat) : Int), .int .i64 ((b : Nat) : Int)]) 4 (by rfl) (by kernel_rfl) (by kernel_rfl) (by kernel_rfl) (fun w' hs => by obtain ⟨hc, ha, hb, hB4, hB12, hP⟩ := hs; exact R_loadA [.int .i64 2, .int .i64 ((c : Nat) : Int), .int .i64 ((a : Nat) : Int), .int .i64 ((b : Nat) : Int)] (by kernel_rfl) (by kernel_rfl) (by kernel_rfl) (fun k u hk => by rw [hB12.cell]; exact get_part _ 0 _ k u rfl hk)) ⟨hc, ha, hb, hB4, hB12, hP⟩ ?_
  refine d_one 5 (by kernel_rfl) (by rfl) (by kernel_rfl) (S_lookupG 2 c a b (by kernel_rfl) (by kernel_rfl) (key_nat 2 c a b (by omega) (by omega) (by omega) (by omega)) hM fun x24 ok25 hx26 => ?_)
  refine ⟨⟨hc, ha, hb, hB4, hB12, hP⟩, ?_⟩
  refine dtk [6, 7, 8, 9, 10] #[true, true, true, true, true, true, true, true, true, true, true] [(22, .tuple #[.int .i64 ((x24 : Nat) : Int), .bool ok25]), (29, .int .i64 ((x24 : Nat) : Int)), (30, .bool ok25), (14, .int .i64 ((x24 : Nat) : Int)), (15, .bool ok25)] ⟨hc, ha, hb, hB4, hB12, hP⟩ (by kernel_rfl) ?_
  refine d_done (by kernel_rfl) ?_
  refine W_seq ?_
  refine W_fg [(0, .pointer (some ⟨p, 0, none⟩)), (1, .int .i64 2), (2, .int .i64 ((c : Nat) : Int)), (3, .int .i64 ((a : Nat) : Int)), (4, .int .i64 ((b : Nat) : Int)), (5, .func (.func 59) #[] #[.pointer (some ⟨rc, 0, none⟩), .pointer (some ⟨ra, 0, none⟩), .pointer (some ⟨rb, 0, none⟩)]), (6, .pointer (some ⟨w.heap.size, 0, none⟩)), (12, .int .i64 0), (13, .pointer (some ⟨w1.heap.size, 0, none⟩)), (14, .int .i64 ((x24 : Nat) : Int)), (15, .bool ok25)] (by kernel_rfl) fun ρ => ?_
  refine W_region (by kernel_rfl) ?_
  refine sg [(31, .bool ok25)] (by kernel_rfl) ?_
  refine op_nil ?_
  refine W_cond (ok25) (by kernel_rfl) (by kernel_rfl) (fun hc27 => ?_) (fun hc27 => ?_)
  · replace hc27 : ok25 = true := (hc27)
    refine W_seq ?_
    refine W_region (by kernel_rfl) ?_
    refine sg [(32, .int .i64 ((x24 : Nat) : Int)), (12, .int .i64 ((x24 : Nat) : Int))] (by kernel_rfl) ?_
    refine op_nil ?_
    refine W_ret ?_
    exact ⟨_, Res_of (v := .int .i64 ((x24 : Nat) : Int)) (by kernel_rfl), ⟨F, n, cs, x24, rfl, ⟨hL, hI⟩, hMv, ⟨Nat.le_refl _, fun c hc => hc, (hx26 (by assumption)).1, (hx26 (by assumption)).2⟩, by omega⟩⟩
  · replace hc27 : ok25 = false := (hc27)
    refine W_skip ?_
    refine W_seq ?_
    refine W_region (by kernel_rfl) ?_
    refine st (by rfl) (S_val (v := .pointer (some ⟨p, 0, none⟩)) (R_load (v := .pointer (some ⟨p, 0, none⟩)) (by kernel_rfl) (by kernel_rfl) ((hB4.cell 0).trans rfl)) ?_)
    refine st (by rfl) (S_call (args := [.pointer (some ⟨p, 0, none⟩)]) (by kernel_rfl) (low_fresh F p n cs (MkE n cs) _ hL (by omega)) ?_)
    rintro _ w28 ⟨rfl, hL, hm29⟩
    have hc := hc.tch hm29.1 nF_hc
    have ha := ha.tch hm29.1 nF_ha
    have hb := hb.tch hm29.1 nF_hb
    have hMv := hMv.trans hm29
    have hB4 := hB4.tch hm29.1 nF_hB4
    have hB12 := hB12.tch hm29.1 nF_hB12
    refine sg [(16, .int .i64 ((2 * n : Nat) : Int))] (by kernel_rfl) ?_
    refine op_nil ?_
    refine W_seq ?_
    obtain ⟨A2, cp2, mb2, Lv2, hP, hO, hM, hC, fp, fm, fA, hlt⟩ := id hL
    refine W_drawT (fun w' => Blk w' rc 3 [.int .i64 ((c : Nat) : Int)] ∧ Blk w' ra 3 [.int .i64 ((a : Nat) : Int)] ∧ Blk w' rb 3 [.int .i64 ((b : Nat) : Int)] ∧ Blk w' (w.heap.size) 25 [.pointer (some ⟨p, 0, none⟩)] ∧ Blk w' (w1.heap.size) 34 [.int .i64 2, .int .i64 ((c : Nat) : Int), .int .i64 ((a : Nat) : Int), .int .i64 ((b : Nat) : Int)] ∧ Blk w' p 78 [.int .i64 (((n + 1) : Nat) : Int), .slice A2 cs.length cp2, .map (some mb2)]) 6 (by kernel_rfl) (by kernel_rfl) (by kernel_rfl) fun w30 hT31 hh32 => ?_
    have hc := hc.tch0 hT31
    have ha := ha.tch0 hT31
    have hb := hb.tch0 hT31
    have hL := hL.tch0 hT31
    have hMv := hMv.then0 hT31
    have hB4 := hB4.tch0 hT31
    have hB12 := hB12.tch0 hT31
    have hP := hP.tch0 hT31
    have hO := hO.tch0 hT31
    have hM := hM.tch0 hT31
    have hC := hC.tch0 hT31
    have hlt := (fun b hb => Nat.lt_of_lt_of_le (hlt b hb) (hT31).size)
    refine ttk [5] #[false, false, false, false, false, true, false] [(40, .int .i64 ((2 * n : Nat) : Int))] ⟨hc, ha, hb, hB4, hB12, hP⟩ (by kernel_rfl) ?_
    refine t_val (v := .pointer (some ⟨p, 0, none⟩)) 0 (by kernel_rfl) (by rfl) (by kernel_rfl) (by kernel_rfl) (by kernel_rfl) (fun w' hs => by obtain ⟨hc, ha, hb, hB4, hB12, hP⟩ := hs; exact R_load (v := .pointer (some ⟨p, 0, none⟩)) (by kernel_rfl) (by kernel_rfl) ((hB4.cell 0).trans rfl)) ⟨hc, ha, hb, hB4, hB12, hP⟩ ?_
    refine ttk [1, 2] #[true, true, true, false, false, true, false] [(36, .pointer (some ⟨p, 0, none⟩)), (37, .pointer (some ⟨p, 2, none⟩))] ⟨hc, ha, hb, hB4, hB12, hP⟩ (by kernel_rfl) ?_
    refine t_val (v := .map (some mb2)) 3 (by kernel_rfl) (by rfl) (by kernel_rfl) (by kernel_rfl) (by kernel_rfl) (fun w' hs => by obtain ⟨hc, ha, hb, hB4, hB12, hP⟩ := hs; exact R_load (v := .map (some mb2)) (by kernel_rfl) (by kernel_rfl) ((hP.cell 2).trans rfl)) ⟨hc, ha, hb, hB4, hB12, hP⟩ ?_
    refine t_val (v := .agg #[.int .i64 2, .int .i64 ((c : Nat) : Int), .int .i64 ((a : Nat) : Int), .int .i64 ((b : Nat) : Int)]) 4 (by kernel_rfl) (by rfl) (by kernel_rfl) (by kernel_rfl) (by kernel_rfl) (fun w' hs => by obtain ⟨hc, ha, hb, hB4, hB12, hP⟩ := hs; exact R_loadA [.int .i64 2, .int .i64 ((c : Nat) : Int), .int .i64 ((a : Nat) : Int), .int .i64 ((b : Nat) : Int)] (by kernel_rfl) (by kernel_rfl) (by kernel_rfl) (fun k u hk => by rw [hB12.cell]; exact get_part _ 0 _ k u rfl hk)) ⟨hc, ha, hb, hB4, hB12, hP⟩ ?_
    refine t_one 6 (by kernel_rfl) (by rfl) (by kernel_rfl) (S_updateG (n := n) 2 c a b (by kernel_rfl) (by kernel_rfl) (by kernel_rfl) (key_nat 2 c a b (by omega) (by omega) (by omega) (by omega)) hP hO hM hC fp fm fA hlt fun w33 hT34 hs35 hL => ?_)
    have hc := hc.tch hT34 nF_hc
    have ha := ha.tch hT34 nF_ha
    have hb := hb.tch hT34 nF_hb
    have hMv := hMv.trans (.same hT34)
    have hB4 := hB4.tch hT34 nF_hB4
    have hB12 := hB12.tch hT34 nF_hB12
    refine ⟨fun h => absurd h (by decide), ?_⟩
    refine t_done (by kernel_rfl) ?_
    refine W_seq ?_
    refine W_fg [(0, .pointer (some ⟨p, 0, none⟩)), (1, .int .i64 2), (2, .int .i64 ((c : Nat) : Int)), (3, .int .i64 ((a : Nat) : Int)), (4, .int .i64 ((b : Nat) : Int)), (5, .func (.func 59) #[] #[.pointer (some ⟨rc, 0, none⟩), .pointer (some ⟨ra, 0, none⟩), .pointer (some ⟨rb, 0, none⟩)]), (6, .pointer (some ⟨w.heap.size, 0, none⟩)), (12, .int .i64 0), (13, .pointer (some ⟨w1.heap.size, 0, none⟩)), (14, .int .i64 ((x24 : Nat) : Int)), (15, .bool ok25), (16, .int .i64 ((2 * n : Nat) : Int)), (31, .bool ok25)] (by kernel_rfl) fun ρ => ?_
    refine W_region (by kernel_rfl) ?_
    refine sg [(41, .func (.func 59) #[] #[.pointer (some ⟨rc, 0, none⟩), .pointer (some ⟨ra, 0, none⟩), .pointer (some ⟨rb, 0, none⟩)]), (42, .int .i64 ((2 * n : Nat) : Int)), (43, .func (.func 78) #[] #[.pointer (some ⟨w.heap.size, 0, none⟩)])] (by kernel_rfl) ?_
    have lt39 := hc.lt
    have lt40 := ha.lt
    have lt41 := hb.lt
    have lt42 := hB4.lt
    have lt43 := hB12.lt
    refine st (by rfl) (S_call (args := [.int .i64 ((2 * n : Nat) : Int), .func (.func 78) #[] #[.pointer (some ⟨w.heap.size, 0, none⟩)], .pointer (some ⟨rc, 0, none⟩), .pointer (some ⟨ra, 0, none⟩), .pointer (some ⟨rb, 0, none⟩)]) (by kernel_rfl) (clo2_ok F (w.heap.size) p (n + 1) (2 * n) c a b rc ra rb cs (MkE (n + 1) (cs ++ gcl 2 c a b (2 * n))) _ hB4 hc ha hb nF_hB4 nF_hc nF_ha nF_hb hL (by omega) (by omega) (by omega) (by omega) (by omega)) ?_)
    rintro _ w36 ⟨rfl, F38, hL, hm37⟩
    have hc := hc.tch hm37.1 nF_hc
    have ha := ha.tch hm37.1 nF_ha
    have hb := hb.tch hm37.1 nF_hb
    have hMv := hMv.trans hm37
    have hB4 := hB4.tch hm37.1 nF_hB4
    have hB12 := hB12.tch hm37.1 nF_hB12
    replace nF_hc : ¬ F38 (rc) := fun e => (hm37.2 _ e).elim nF_hc (fun q => by omega)
    replace nF_ha : ¬ F38 (ra) := fun e => (hm37.2 _ e).elim nF_ha (fun q => by omega)
    replace nF_hb : ¬ F38 (rb) := fun e => (hm37.2 _ e).elim nF_hb (fun q => by omega)
    replace nF_hB4 : ¬ F38 (w.heap.size) := fun e => (hm37.2 _ e).elim nF_hB4 (fun q => by omega)
    replace nF_hB12 : ¬ F38 (w1.heap.size) := fun e => (hm37.2 _ e).elim nF_hB12 (fun q => by omega)
    refine op_nil ?_
    refine W_seq ?_
    refine W_region (by kernel_rfl) ?_
    refine sg [(45, .int .i64 ((2 * n : Nat) : Int)), (12, .int .i64 ((2 * n : Nat) : Int))] (by kernel_rfl) ?_
    refine op_nil ?_
    refine W_ret ?_
    exact ⟨_, Res_of (v := .int .i64 ((2 * n : Nat) : Int)) (by kernel_rfl), ⟨_, n + 1, cs ++ gcl 2 c a b (2 * n), 2 * n, rfl, ⟨hL, hI.gate (by omega) (by omega) (by omega)⟩, hMv, ⟨by omega, fun c hc => List.mem_append.2 (.inl hc), (MkI.new n cs 2 c a b).1, (MkI.new n cs 2 c a b).2⟩, Nat.le_refl _⟩⟩

end Go.Proofs.YtnlecdpiccgdpaaV
