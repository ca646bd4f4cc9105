/- Walks of functions of the program and of the document's texts. The conditions stand with each theorem. -/
import Derived.Test.YtnlecdpiccgdpaaJMmult60x2
import Derived.Test.YtnlecdpiccgdpaaProg
import Derived.Test.YtnlecdpiccgdpaaJMmult60x1
import Derived.Test.YtnlecdpiccgdpaaJMmult60x4
set_option linter.unusedVariables false
set_option linter.unusedSimpArgs false
namespace Go.Proofs.YtnlecdpiccgdpaaV
open Go Go.RowKit Go.Proofs

set_option maxRecDepth 100000 in
theorem and_ok (F : Nat → Prop) (p n a b : Nat) (cs : List (List Nat)) (I : Nat → Prop) (w : World) (hG : GObj F w p n cs I) (hxa : a / 2 < n) (hxb : b / 2 < n) (hn : n ≤ 68719476000) : Ret Try.prog 24 [.pointer (some ⟨p, 0, none⟩), .int .i64 ((a : Nat) : Int), .int .i64 ((b : Nat) : Int)] w fun v w' => GRet F p n cs I w 1 (fun be => lt_ be a && lt_ be b) v w' := by
  have hMv := Mv.refl F w
  have hpos := hG.2.pos
  have hG0 := hG
  refine enter Try.func24 rfl rfl ?_
  refine W_seq ?_
  refine W_region (by kernel_rfl) ?_
  have hlt_ := hG.1.lt
  have hz5 := hMv.1.size
  refine st (by rfl) (S_new (v := .pointer (some ⟨w.heap.size, 0, none⟩)) (ob := .cells #[.int .i64 ((a : Nat) : Int)] 3) (by kernel_rfl) fun w1 hT2 hs3 hB4 => ?_)
  replace hB4 : Blk w1 (w.heap.size) 3 [.int .i64 ((a : Nat) : Int)] := hB4
  have hG := hG.tch0 hT2
  have hMv := hMv.then0 hT2
  have nF_hB4 : ¬ F (w.heap.size) := fun e => by have := hlt_ _ e; omega
  have hlt_ := hG.1.lt
  have hz10 := hMv.1.size
  have lt11 := hB4.lt
  refine st (by rfl) (S_new (v := .pointer (some ⟨w1.heap.size, 0, none⟩)) (ob := .cells #[.int .i64 ((b : Nat) : Int)] 3) (by kernel_rfl) fun w6 hT7 hs8 hB9 => ?_)
  replace hB9 : Blk w6 (w1.heap.size) 3 [.int .i64 ((b : Nat) : Int)] := hB9
  have hG := hG.tch0 hT7
  have hMv := hMv.then0 hT7
  have hB4 := hB4.tch0 hT7
  have nF_hB9 : ¬ F (w1.heap.size) := fun e => by have := hlt_ _ e; omega
  refine sg [(6, .int .i64 0)] (by kernel_rfl) ?_
  refine op_nil ?_
  refine W_seq ?_
  refine W_seq ?_
  refine W_region (by kernel_rfl) ?_
  refine sg [(7, .pointer (some ⟨p, 0, none⟩))] (by kernel_rfl) ?_
  refine st (by rfl) (S_val (v := .int .i64 ((a : Nat) : Int)) (R_load (v := .int .i64 ((a : Nat) : Int)) (by kernel_rfl) (by kernel_rfl) ((hB4.cell 0).trans rfl)) ?_)
  refine st (by rfl) (S_val (v := .int .i64 ((b : Nat) : Int)) (R_load (v := .int .i64 ((b : Nat) : Int)) (by kernel_rfl) (by kernel_rfl) ((hB9.cell 0).trans rfl)) ?_)
  have hlt_ := hG.1.lt
  have hz16 := hMv.1.size
  have lt17 := hB4.lt
  have lt18 := hB9.lt
  refine st (by rfl) (S_new (v := .slice (some ⟨w6.heap.size, 0, none⟩) 2 2) (ob := .cells #[.int .i64 ((a : Nat) : Int), .int .i64 ((b : Nat) : Int)] 3) (by kernel_rfl) fun w12 hT13 hs14 hB15 => ?_)
  replace hB15 : Blk w12 (w6.heap.size) 3 [.int .i64 ((a : Nat) : Int), .int .i64 ((b : Nat) : Int)] := hB15
  have hG := hG.tch0 hT13
  have hMv := hMv.then0 hT13
  have hB4 := hB4.tch0 hT13
  have hB9 := hB9.tch0 hT13
  have nF_hB15 : ¬ F (w6.heap.size) := fun e => by have := hlt_ _ e; omega
  refine st (by rfl) (S_call (args := [.pointer (some ⟨p, 0, none⟩), .slice (some ⟨w6.heap.size, 0, none⟩) 2 2]) (by kernel_rfl) (obad_ok F p n (w6.heap.size) 2 cs I [((a : Nat) : Int), ((b : Nat) : Int)] false _ hG (show Blk _ _ 3 (ints .i64 [((a : Nat) : Int), ((b : Nat) : Int)]) from hB15) rfl (by omega) (by intro x hx; simp only [List.mem_cons, List.not_mem_nil, or_false] at hx; omega) (by simp [badB, badI]; omega)) ?_)
  rintro _ w19 ⟨rfl, hT20⟩
  have hG := hG.tch0 hT20
  have hMv := hMv.then0 hT20
  have hB4 := hB4.tch0 hT20
  have hB9 := hB9.tch0 hT20
  have hB15 := hB15.tch0 hT20
  refine op_nil ?_
  refine W_cond false (by kernel_rfl) (by kernel_rfl) (fun h => nomatch h) (fun _ => ?_)
  refine W_skip ?_
  refine W_seq ?_
  refine W_fg [(0, .pointer (some ⟨p, 0, none⟩)), (1, .int .i64 ((a : Nat) : Int)), (2, .int .i64 ((b : Nat) : Int)), (4, .pointer (some ⟨w.heap.size, 0, none⟩)), (5, .pointer (some ⟨w1.heap.size, 0, none⟩)), (6, .int .i64 0), (11, .bool false)] (by kernel_rfl) fun ρ => ?_
  refine W_drawT (fun w' => Blk w' (w1.heap.size) 3 [.int .i64 ((b : Nat) : Int)]) 7 (by kernel_rfl) (by kernel_rfl) (by kernel_rfl) fun w21 hT22 hh23 => ?_
  have hG := hG.tch0 hT22
  have hMv := hMv.then0 hT22
  have hB4 := hB4.tch0 hT22
  have hB9 := hB9.tch0 hT22
  have hB15 := hB15.tch0 hT22
  refine t_val (v := .int .i64 ((b : Nat) : Int)) 1 (by kernel_rfl) (by rfl) (by kernel_rfl) (by kernel_rfl) (by kernel_rfl) (fun w' hs => by have hB9 := hs; exact R_load (v := .int .i64 ((b : Nat) : Int)) (by kernel_rfl) (by kernel_rfl) ((hB9.cell 0).trans rfl)) hB9 ?_
  refine t_val (v := .int .i64 ((b : Nat) : Int)) 4 (by kernel_rfl) (by rfl) (by kernel_rfl) (by kernel_rfl) (by kernel_rfl) (fun w' hs => by have hB9 := hs; exact R_load (v := .int .i64 ((b : Nat) : Int)) (by kernel_rfl) (by kernel_rfl) ((hB9.cell 0).trans rfl)) hB9 ?_
  refine t_two 0 3 (by kernel_rfl) (by rfl) (by rfl) (by kernel_rfl) (by kernel_rfl) ?_ ?_
  · refine (S_val (v := .int .i64 ((a : Nat) : Int)) (R_load (v := .int .i64 ((a : Nat) : Int)) (by kernel_rfl) (by kernel_rfl) ((hB4.cell 0).trans rfl)) ?_)
    refine ⟨fun _ => hB9, ?_⟩
    refine ttk [2] #[true, true, true, false, true, false, false, false] [(14, .int .i64 (if ((b : Nat) : Int) < ((a : Nat) : Int) then ((b : Nat) : Int) else ((a : Nat) : Int)))] hB9 (by kernel_rfl) ?_
    refine fixT (y := ((min a b : Nat) : Int)) (by split <;> omega) ?_
    refine t_one 3 (by kernel_rfl) (by rfl) (by kernel_rfl) (S_val (v := .int .i64 ((a : Nat) : Int)) (R_load (v := .int .i64 ((a : Nat) : Int)) (by kernel_rfl) (by kernel_rfl) ((hB4.cell 0).trans rfl)) ?_)
    refine ⟨fun _ => hB9, ?_⟩
    refine ttk [5] #[true, true, true, true, true, true, false, false] [(17, .int .i64 (if ((a : Nat) : Int) < ((b : Nat) : Int) then ((b : Nat) : Int) else ((a : Nat) : Int)))] hB9 (by kernel_rfl) ?_
    refine fixT (y := ((max a b : Nat) : Int)) (by split <;> omega) ?_
    refine t_one 6 (by kernel_rfl) (by rfl) (by kernel_rfl) (S_store (b := w.heap.size) (j := 0) (v := .int .i64 ((min a b : Nat) : Int)) (by kernel_rfl) (by kernel_rfl) (by kernel_rfl) (by rfl) hB4 (by simp) fun w24 hT25 hs26 hB4' => ?_)
    have hG := hG.tchS hT25 (fun c e q => by cases e; exact nF_hB4 q)
    have hMv := hMv.newst hT25 (by omega)
    have hB9 := hB9.tch hT25 (fun e => by have : w1.heap.size = w.heap.size := e; omega)
    have hB15 := hB15.tch hT25 (fun e => by have : w6.heap.size = w.heap.size := e; omega)
    replace hB4 : Blk w24 w.heap.size 3 [.int .i64 ((min a b : Nat) : Int)] := hB4'
    refine ⟨fun _ => hB9, ?_⟩
    refine t_one 7 (by kernel_rfl) (by rfl) (by kernel_rfl) (S_store (b := w1.heap.size) (j := 0) (v := .int .i64 ((max a b : Nat) : Int)) (by kernel_rfl) (by kernel_rfl) (by kernel_rfl) (by rfl) hB9 (by simp) fun w27 hT28 hs29 hB9' => ?_)
    have hG := hG.tchS hT28 (fun c e q => by cases e; exact nF_hB9 q)
    have hMv := hMv.newst hT28 (by omega)
    have hB4 := hB4.tch hT28 (fun e => by have : w.heap.size = w1.heap.size := e; omega)
    have hB15 := hB15.tch hT28 (fun e => by have : w6.heap.size = w1.heap.size := e; omega)
    replace hB9 : Blk w27 w1.heap.size 3 [.int .i64 ((max a b : Nat) : Int)] := hB9'
    refine ⟨fun h => absurd h (by decide), ?_⟩
    refine t_done (by kernel_rfl) ?_
    refine W_seq ?_
    refine W_block ?_
    refine W_seq ?_
    refine W_seq ?_
    refine W_region (by kernel_rfl) ?_
    refine st (by rfl) (S_val (v := .int .i64 ((min a b : Nat) : Int)) (R_load (v := .int .i64 ((min a b : Nat) : Int)) (by kernel_rfl) (by kernel_rfl) ((hB4.cell 0).trans rfl)) ?_)
    refine sg [(20, .bool (((min a b : Nat) : Int) == 0)), (18, .bool (((min a b : Nat) : Int) == 0))] (by kernel_rfl) ?_
    refine op_nil ?_
    refine W_cond (((min a b : Nat) : Int) == 0) (by kernel_rfl) (by kernel_rfl) (fun hc30 => ?_) (fun hc30 => ?_)
    · replace hc30 : ((min a b : Nat) : Int) = 0 := (eq_of_beq hc30)
      refine W_skip ?_
      refine W_cond (((min a b : Nat) : Int) == 0) (by kernel_rfl) (by kernel_rfl) (fun hc31 => ?_) (fun hc31 => ?_)
      · replace hc31 : ((min a b : Nat) : Int) = 0 := (eq_of_beq hc31)
        refine W_seq ?_
        refine W_fg [(0, .pointer (some ⟨p, 0, none⟩)), (1, .int .i64 ((a : Nat) : Int)), (2, .int .i64 ((b : Nat) : Int)), (4, .pointer (some ⟨w.heap.size, 0, none⟩)), (5, .pointer (some ⟨w1.heap.size, 0, none⟩)), (6, .int .i64 0), (11, .bool false), (18, .bool (((min a b : Nat) : Int) == 0))] (by kernel_rfl) fun ρ => ?_
        refine W_region (by kernel_rfl) ?_
        refine st (by rfl) (S_val (v := .int .i64 ((max a b : Nat) : Int)) (R_load (v := .int .i64 ((max a b : Nat) : Int)) (by kernel_rfl) (by kernel_rfl) ((hB9.cell 0).trans rfl)) ?_)
        refine sg [(6, .int .i64 ((max a b : Nat) : Int))] (by kernel_rfl) ?_
        refine op_nil ?_
        refine W_ret ?_
        exact ⟨_, Res_of (v := .int .i64 ((max a b : Nat) : Int)) (by kernel_rfl), ⟨F, n, cs, _, rfl, hG, hMv, and_b hG.2 hxa hxb (by omega), by omega⟩⟩
      · replace hc31 : ((min a b : Nat) : Int) ≠ 0 := (ne_of_beq_false hc31)
        exfalso; omega
    · replace hc30 : ((min a b : Nat) : Int) ≠ 0 := (ne_of_beq_false hc30)
      refine W_fg [(0, .pointer (some ⟨p, 0, none⟩)), (1, .int .i64 ((a : Nat) : Int)), (2, .int .i64 ((b : Nat) : Int)), (4, .pointer (some ⟨w.heap.size, 0, none⟩)), (5, .pointer (some ⟨w1.heap.size, 0, none⟩)), (6, .int .i64 0), (11, .bool false), (18, .bool (((min a b : Nat) : Int) == 0))] (by kernel_rfl) fun ρ => ?_
      refine W_region (by kernel_rfl) ?_
      refine st (by rfl) (S_val (v := .int .i64 ((min a b : Nat) : Int)) (R_load (v := .int .i64 ((min a b : Nat) : Int)) (by kernel_rfl) (by kernel_rfl) ((hB4.cell 0).trans rfl)) ?_)
      refine st (by rfl) (S_val (v := .int .i64 ((max a b : Nat) : Int)) (R_load (v := .int .i64 ((max a b : Nat) : Int)) (by kernel_rfl) (by kernel_rfl) ((hB9.cell 0).trans rfl)) ?_)
      refine sg [(23, .bool (((min a b : Nat) : Int) == ((max a b : Nat) : Int))), (18, .bool (((min a b : Nat) : Int) == ((max a b : Nat) : Int)))] (by kernel_rfl) ?_
      refine op_nil ?_
      refine W_cond (((min a b : Nat) : Int) == ((max a b : Nat) : Int)) (by kernel_rfl) (by kernel_rfl) (fun hc32 => ?_) (fun hc32 => ?_)
      · replace hc32 : ((min a b : Nat) : Int) = ((max a b : Nat) : Int) := (eq_of_beq hc32)
        refine W_seq ?_
        refine W_region (by kernel_rfl) ?_
        refine st (by rfl) (S_val (v := .int .i64 ((max a b : Nat) : Int)) (R_load (v := .int .i64 ((max a b : Nat) : Int)) (by kernel_rfl) (by kernel_rfl) ((hB9.cell 0).trans rfl)) ?_)
        refine sg [(6, .int .i64 ((max a b : Nat) : Int))] (by kernel_rfl) ?_
        refine op_nil ?_
        refine W_ret ?_
        exact ⟨_, Res_of (v := .int .i64 ((max a b : Nat) : Int)) (by kernel_rfl), ⟨F, n, cs, _, rfl, hG, hMv, and_b hG.2 hxa hxb (by omega), by omega⟩⟩
      · replace hc32 : ((min a b : Nat) : Int) ≠ ((max a b : Nat) : Int) := (ne_of_beq_false hc32)
        refine W_seq ?_
        refine W_seq ?_
        refine W_region (by kernel_rfl) ?_
        refine st (by rfl) (S_val (v := .int .i64 ((min a b : Nat) : Int)) (R_load (v := .int .i64 ((min a b : Nat) : Int)) (by kernel_rfl) (by kernel_rfl) ((hB4.cell 0).trans rfl)) ?_)
        refine sg [(27, .bool (((min a b : Nat) : Int) == 1)), (25, .bool (((min a b : Nat) : Int) == 1))] (by kernel_rfl) ?_
        refine op_nil ?_
        refine W_cond (((min a b : Nat) : Int) == 1) (by kernel_rfl) (by kernel_rfl) (fun hc33 => ?_) (fun hc33 => ?_)
        · replace hc33 : ((min a b : Nat) : Int) = 1 := (eq_of_beq hc33)
          refine W_skip ?_
          refine W_cond (((min a b : Nat) : Int) == 1) (by kernel_rfl) (by kernel_rfl) (fun hc34 => ?_) (fun hc34 => ?_)
          · replace hc34 : ((min a b : Nat) : Int) = 1 := (eq_of_beq hc34)
            refine W_seq ?_
            refine W_region (by kernel_rfl) ?_
            refine sg [(6, .int .i64 1)] (by kernel_rfl) ?_
            refine op_nil ?_
            refine W_ret ?_
            exact ⟨_, Res_of (v := .int .i64 1) (by kernel_rfl), ⟨F, n, cs, 1, rfl, hG, hMv, and_1 hG.2 (by omega), by omega⟩⟩
          · replace hc34 : ((min a b : Nat) : Int) ≠ 1 := (ne_of_beq_false hc34)
            exfalso; omega
        · replace hc33 : ((min a b : Nat) : Int) ≠ 1 := (ne_of_beq_false hc33)
          refine W_draw (fun w' => Blk w' (w.heap.size) 3 [.int .i64 ((min a b : Nat) : Int)] ∧ Blk w' (w1.heap.size) 3 [.int .i64 ((max a b : Nat) : Int)] ∧ Blk w' (w6.heap.size) 3 [.int .i64 ((a : Nat) : Int), .int .i64 ((b : Nat) : Int)]) (by kernel_rfl) (by kernel_rfl) (by kernel_rfl) fun w35 hT36 hh37 => ?_
          have hG := hG.tch0 hT36
          have hMv := hMv.then0 hT36
          have hB4 := hB4.tch0 hT36
          have hB9 := hB9.tch0 hT36
          have hB15 := hB15.tch0 hT36
          refine d_val (v := .int .i64 ((max a b : Nat) : Int)) 0 (by rfl) (by kernel_rfl) (by kernel_rfl) (by kernel_rfl) (fun w' hs => by obtain ⟨hB4, hB9, hB15⟩ := hs; exact R_load (v := .int .i64 ((max a b : Nat) : Int)) (by kernel_rfl) (by kernel_rfl) ((hB9.cell 0).trans rfl)) ⟨hB4, hB9, hB15⟩ ?_
          refine d_val (v := .int .i64 ((min a b : Nat) : Int)) 1 (by rfl) (by kernel_rfl) (by kernel_rfl) (by kernel_rfl) (fun w' hs => by obtain ⟨hB4, hB9, hB15⟩ := hs; exact R_load (v := .int .i64 ((min a b : Nat) : Int)) (by kernel_rfl) (by kernel_rfl) ((hB4.cell 0).trans rfl)) ⟨hB4, hB9, hB15⟩ ?_
          refine d_one 2 (by kernel_rfl) (by rfl) (by kernel_rfl) (S_call (args := [.int .i64 ((min a b : Nat) : Int)]) (by kernel_rfl) (not_ok (min a b) _ (by omega)) ?_)
          rintro _ w38 ⟨rfl, hT39⟩
          have hG := hG.tch0 hT39
          have hMv := hMv.then0 hT39
          have hB4 := hB4.tch0 hT39
          have hB9 := hB9.tch0 hT39
          have hB15 := hB15.tch0 hT39
          refine ⟨⟨hB4, hB9, hB15⟩, ?_⟩
          refine dtk [3, 4] #[true, true, true, true, true] [(31, .bool (((max a b : Nat) : Int) == ((GateP.nt (min a b) : Nat) : Int))), (25, .bool (((max a b : Nat) : Int) == ((GateP.nt (min a b) : Nat) : Int)))] ⟨hB4, hB9, hB15⟩ (by kernel_rfl) ?_
          refine d_done (by kernel_rfl) ?_
          refine W_cond (((max a b : Nat) : Int) == ((GateP.nt (min a b) : Nat) : Int)) (by kernel_rfl) (by kernel_rfl) (fun hc40 => ?_) (fun hc40 => ?_)
          · replace hc40 : ((max a b : Nat) : Int) = ((GateP.nt (min a b) : Nat) : Int) := (eq_of_beq hc40)
            refine W_seq ?_
            refine W_fg [(0, .pointer (some ⟨p, 0, none⟩)), (1, .int .i64 ((a : Nat) : Int)), (2, .int .i64 ((b : Nat) : Int)), (4, .pointer (some ⟨w.heap.size, 0, none⟩)), (5, .pointer (some ⟨w1.heap.size, 0, none⟩)), (6, .int .i64 0), (11, .bool false), (18, .bool (((min a b : Nat) : Int) == ((max a b : Nat) : Int))), (25, .bool (((max a b : Nat) : Int) == ((GateP.nt (min a b) : Nat) : Int)))] (by kernel_rfl) fun ρ => ?_
            refine W_region (by kernel_rfl) ?_
            refine sg [(6, .int .i64 1)] (by kernel_rfl) ?_
            refine op_nil ?_
            refine W_ret ?_
            exact ⟨_, Res_of (v := .int .i64 1) (by kernel_rfl), ⟨F, n, cs, 1, rfl, hG, hMv, and_1 hG.2 (by omega), by omega⟩⟩
          · replace hc40 : ((max a b : Nat) : Int) ≠ ((GateP.nt (min a b) : Nat) : Int) := (ne_of_beq_false hc40)
            refine W_skip ?_
            refine W_seq ?_
            refine W_fg [(0, .pointer (some ⟨p, 0, none⟩)), (1, .int .i64 ((a : Nat) : Int)), (2, .int .i64 ((b : Nat) : Int)), (4, .pointer (some ⟨w.heap.size, 0, none⟩)), (5, .pointer (some ⟨w1.heap.size, 0, none⟩)), (6, .int .i64 0), (11, .bool false), (18, .bool (((min a b : Nat) : Int) == ((max a b : Nat) : Int))), (25, .bool (((max a b : Nat) : Int) == ((GateP.nt (min a b) : Nat) : Int)))] (by kernel_rfl) fun ρ => ?_
            refine W_region (by kernel_rfl) ?_
            refine sg [(32, .pointer (some ⟨p, 0, none⟩))] (by kernel_rfl) ?_
            refine st (by rfl) (S_val (v := .int .i64 ((min a b : Nat) : Int)) (R_load (v := .int .i64 ((min a b : Nat) : Int)) (by kernel_rfl) (by kernel_rfl) ((hB4.cell 0).trans rfl)) ?_)
            refine st (by rfl) (S_val (v := .int .i64 ((max a b : Nat) : Int)) (R_load (v := .int .i64 ((max a b : Nat) : Int)) (by kernel_rfl) (by kernel_rfl) ((hB9.cell 0).trans rfl)) ?_)
            refine sg [(35, .func (.func 57) #[] #[.pointer (some ⟨w.heap.size, 0, none⟩), .pointer (some ⟨w1.heap.size, 0, none⟩)])] (by kernel_rfl) ?_
            have lt49 := hB4.lt
            have lt50 := hB9.lt
            have lt51 := hB15.lt
            refine st (by rfl) (S_call (args := [.pointer (some ⟨p, 0, none⟩), .int .i64 0, .int .i64 ((min a b : Nat) : Int), .int .i64 ((max a b : Nat) : Int), .int .i64 0, .func (.func 57) #[] #[.pointer (some ⟨w.heap.size, 0, none⟩), .pointer (some ⟨w1.heap.size, 0, none⟩)]]) (by kernel_rfl) (gate0_ok F p n (min a b) (max a b) (w.heap.size) (w1.heap.size) cs I _ hG hB4 hB9 nF_hB4 nF_hB9 (by omega) (by omega) (by omega)) ?_)
            rintro _ w41 ⟨F42, n43, cs44, x45, rfl, hG, hm46, hr47, hd48⟩
            have hMv := hMv.trans hm46
            have hB4 := hB4.tch hm46.1 nF_hB4
            have hB9 := hB9.tch hm46.1 nF_hB9
            have hB15 := hB15.tch hm46.1 nF_hB15
            have hxb52 := hr47.2.2.1
            replace nF_hB4 : ¬ F42 (w.heap.size) := fun e => (hm46.2 _ e).elim nF_hB4 (fun q => by omega)
            replace nF_hB9 : ¬ F42 (w1.heap.size) := fun e => (hm46.2 _ e).elim nF_hB9 (fun q => by omega)
            replace nF_hB15 : ¬ F42 (w6.heap.size) := fun e => (hm46.2 _ e).elim nF_hB15 (fun q => by omega)
            refine sg [(6, .int .i64 ((x45 : Nat) : Int))] (by kernel_rfl) ?_
            refine op_nil ?_
            refine W_ret ?_
            exact ⟨_, Res_of (v := .int .i64 ((x45 : Nat) : Int)) (by kernel_rfl), ⟨F42, n43, cs44, _, rfl, hG, hMv, and_g hr47, by omega⟩⟩
  · refine (S_val (v := .int .i64 ((a : Nat) : Int)) (R_load (v := .int .i64 ((a : Nat) : Int)) (by kernel_rfl) (by kernel_rfl) ((hB4.cell 0).trans rfl)) ?_)
    refine ⟨fun _ => hB9, ?_⟩
    refine ttk [5] #[false, true, false, true, true, true, false, false] [(17, .int .i64 (if ((a : Nat) : Int) < ((b : Nat) : Int) then ((b : Nat) : Int) else ((a : Nat) : Int)))] hB9 (by kernel_rfl) ?_
    refine fixT (y := ((max a b : Nat) : Int)) (by split <;> omega) ?_
    refine t_one 0 (by kernel_rfl) (by rfl) (by kernel_rfl) (S_val (v := .int .i64 ((a : Nat) : Int)) (R_load (v := .int .i64 ((a : Nat) : Int)) (by kernel_rfl) (by kernel_rfl) ((hB4.cell 0).trans rfl)) ?_)
    refine ⟨fun _ => hB9, ?_⟩
    refine ttk [2] #[true, true, true, true, true, true, false, false] [(14, .int .i64 (if ((b : Nat) : Int) < ((a : Nat) : Int) then ((b : Nat) : Int) else ((a : Nat) : Int)))] hB9 (by kernel_rfl) ?_
    refine fixT (y := ((min a b : Nat) : Int)) (by split <;> omega) ?_
    refine t_one 6 (by kernel_rfl) (by rfl) (by kernel_rfl) (S_store (b := w.heap.size) (j := 0) (v := .int .i64 ((min a b : Nat) : Int)) (by kernel_rfl) (by kernel_rfl) (by kernel_rfl) (by rfl) hB4 (by simp) fun w53 hT54 hs55 hB4' => ?_)
    have hG := hG.tchS hT54 (fun c e q => by cases e; exact nF_hB4 q)
    have hMv := hMv.newst hT54 (by omega)
    have hB9 := hB9.tch hT54 (fun e => by have : w1.heap.size = w.heap.size := e; omega)
    have hB15 := hB15.tch hT54 (fun e => by have : w6.heap.size = w.heap.size := e; omega)
    replace hB4 : Blk w53 w.heap.size 3 [.int .i64 ((min a b : Nat) : Int)] := hB4'
    refine ⟨fun _ => hB9, ?_⟩
    refine t_one 7 (by kernel_rfl) (by rfl) (by kernel_rfl) (S_store (b := w1.heap.size) (j := 0) (v := .int .i64 ((max a b : Nat) : Int)) (by kernel_rfl) (by kernel_rfl) (by kernel_rfl) (by rfl) hB9 (by simp) fun w56 hT57 hs58 hB9' => ?_)
    have hG := hG.tchS hT57 (fun c e q => by cases e; exact nF_hB9 q)
    have hMv := hMv.newst hT57 (by omega)
    have hB4 := hB4.tch hT57 (fun e => by have : w.heap.size = w1.heap.size := e; omega)
    have hB15 := hB15.tch hT57 (fun e => by have : w6.heap.size = w1.heap.size := e; omega)
    replace hB9 : Blk w56 w1.heap.size 3 [.int .i64 ((max a b : Nat) : Int)] := hB9'
    refine ⟨fun h => absurd h (by decide), ?_⟩
    refine t_done (by kernel_rfl) ?_
    refine W_seq ?_
    refine W_block ?_
    refine W_seq ?_
    refine W_seq ?_
    refine W_region (by kernel_rfl) ?_
    refine st (by rfl) (S_val (v := .int .i64 ((min a b : Nat) : Int)) (R_load (v := .int .i64 ((min a b : Nat) : Int)) (by kernel_rfl) (by kernel_rfl) ((hB4.cell 0).trans rfl)) ?_)
    refine sg [(20, .bool (((min a b : Nat) : Int) == 0)), (18, .bool (((min a b : Nat) : Int) == 0))] (by kernel_rfl) ?_
    refine op_nil ?_
    refine W_cond (((min a b : Nat) : Int) == 0) (by kernel_rfl) (by kernel_rfl) (fun hc59 => ?_) (fun hc59 => ?_)
    · replace hc59 : ((min a b : Nat) : Int) = 0 := (eq_of_beq hc59)
      refine W_skip ?_
      refine W_cond (((min a b : Nat) : Int) == 0) (by kernel_rfl) (by kernel_rfl) (fun hc60 => ?_) (fun hc60 => ?_)
      · replace hc60 : ((min a b : Nat) : Int) = 0 := (eq_of_beq hc60)
        refine W_seq ?_
        refine W_fg [(0, .pointer (some ⟨p, 0, none⟩)), (1, .int .i64 ((a : Nat) : Int)), (2, .int .i64 ((b : Nat) : Int)), (4, .pointer (some ⟨w.heap.size, 0, none⟩)), (5, .pointer (some ⟨w1.heap.size, 0, none⟩)), (6, .int .i64 0), (11, .bool false), (18, .bool (((min a b : Nat) : Int) == 0))] (by kernel_rfl) fun ρ => ?_
        refine W_region (by kernel_rfl) ?_
        refine st (by rfl) (S_val (v := .int .i64 ((max a b : Nat) : Int)) (R_load (v := .int .i64 ((max a b : Nat) : Int)) (by kernel_rfl) (by kernel_rfl) ((hB9.cell 0).trans rfl)) ?_)
        refine sg [(6, .int .i64 ((max a b : Nat) : Int))] (by kernel_rfl) ?_
        refine op_nil ?_
        refine W_ret ?_
        exact ⟨_, Res_of (v := .int .i64 ((max a b : Nat) : Int)) (by kernel_rfl), ⟨F, n, cs, _, rfl, hG, hMv, and_b hG.2 hxa hxb (by omega), by omega⟩⟩
      · replace hc60 : ((min a b : Nat) : Int) ≠ 0 := (ne_of_beq_false hc60)
        exfalso; omega
    · replace hc59 : ((min a b : Nat) : Int) ≠ 0 := (ne_of_beq_false hc59)
      refine W_fg [(0, .pointer (some ⟨p, 0, none⟩)), (1, .int .i64 ((a : Nat) : Int)), (2, .int .i64 ((b : Nat) : Int)), (4, .pointer (some ⟨w.heap.size, 0, none⟩)), (5, .pointer (some ⟨w1.heap.size, 0, none⟩)), (6, .int .i64 0), (11, .bool false), (18, .bool (((min a b : Nat) : Int) == 0))] (by kernel_rfl) fun ρ => ?_
      refine W_region (by kernel_rfl) ?_
      refine st (by rfl) (S_val (v := .int .i64 ((min a b : Nat) : Int)) (R_load (v := .int .i64 ((min a b : Nat) : Int)) (by kernel_rfl) (by kernel_rfl) ((hB4.cell 0).trans rfl)) ?_)
      refine st (by rfl) (S_val (v := .int .i64 ((max a b : Nat) : Int)) (R_load (v := .int .i64 ((max a b : Nat) : Int)) (by kernel_rfl) (by kernel_rfl) ((hB9.cell 0).trans rfl)) ?_)
      refine sg [(23, .bool (((min a b : Nat) : Int) == ((max a b : Nat) : Int))), (18, .bool (((min a b : Nat) : Int) == ((max a b : Nat) : Int)))] (by kernel_rfl) ?_
      refine op_nil ?_
      refine W_cond (((min a b : Nat) : Int) == ((max a b : Nat) : Int)) (by kernel_rfl) (by kernel_rfl) (fun hc61 => ?_) (fun hc61 => ?_)
      · replace hc61 : ((min a b : Nat) : Int) = ((max a b : Nat) : Int) := (eq_of_beq hc61)
        refine W_seq ?_
        refine W_region (by kernel_rfl) ?_
        refine st (by rfl) (S_val (v := .int .i64 ((max a b : Nat) : Int)) (R_load (v := .int .i64 ((max a b : Nat) : Int)) (by kernel_rfl) (by kernel_rfl) ((hB9.cell 0).trans rfl)) ?_)
        refine sg [(6, .int .i64 ((max a b : Nat) : Int))] (by kernel_rfl) ?_
        refine op_nil ?_
        refine W_ret ?_
        exact ⟨_, Res_of (v := .int .i64 ((max a b : Nat) : Int)) (by kernel_rfl), ⟨F, n, cs, _, rfl, hG, hMv, and_b hG.2 hxa hxb (by omega), by omega⟩⟩
      · replace hc61 : ((min a b : Nat) : Int) ≠ ((max a b : Nat) : Int) := (ne_of_beq_false hc61)
        refine W_seq ?_
        refine W_seq ?_
        refine W_region (by kernel_rfl) ?_
        refine st (by rfl) (S_val (v := .int .i64 ((min a b : Nat) : Int)) (R_load (v := .int .i64 ((min a b : Nat) : Int)) (by kernel_rfl) (by kernel_rfl) ((hB4.cell 0).trans rfl)) ?_)
        refine sg [(27, .bool (((min a b : Nat) : Int) == 1)), (25, .bool (((min a b : Nat) : Int) == 1))] (by kernel_rfl) ?_
        refine op_nil ?_
        refine W_cond (((min a b : Nat) : Int) == 1) (by kernel_rfl) (by kernel_rfl) (fun hc62 => ?_) (fun hc62 => ?_)
        · replace hc62 : ((min a b : Nat) : Int) = 1 := (eq_of_beq hc62)
          refine W_skip ?_
          refine W_cond (((min a b : Nat) : Int) == 1) (by kernel_rfl) (by kernel_rfl) (fun hc63 => ?_) (fun hc63 => ?_)
          · replace hc63 : ((min a b : Nat) : Int) = 1 := (eq_of_beq hc63)
            refine W_seq ?_
            refine W_region (by kernel_rfl) ?_
            refine sg [(6, .int .i64 1)] (by kernel_rfl) ?_
            refine op_nil ?_
            refine W_ret ?_
            exact ⟨_, Res_of (v := .int .i64 1) (by kernel_rfl), ⟨F, n, cs, 1, rfl, hG, hMv, and_1 hG.2 (by omega), by omega⟩⟩
          · replace hc63 : ((min a b : Nat) : Int) ≠ 1 := (ne_of_beq_false hc63)
            exfalso; omega
        · replace hc62 : ((min a b : Nat) : Int) ≠ 1 := (ne_of_beq_false hc62)
          refine W_draw (fun w' => Blk w' (w.heap.size) 3 [.int .i64 ((min a b : Nat) : Int)] ∧ Blk w' (w1.heap.size) 3 [.int .i64 ((max a b : Nat) : Int)] ∧ Blk w' (w6.heap.size) 3 [.int .i64 ((a : Nat) : Int), .int .i64 ((b : Nat) : Int)]) (by kernel_rfl) (by kernel_rfl) (by kernel_rfl) fun w64 hT65 hh66 => ?_
          have hG := hG.tch0 hT65
          have hMv := hMv.then0 hT65
          have hB4 := hB4.tch0 hT65
          have hB9 := hB9.tch0 hT65
          have hB15 := hB15.tch0 hT65
          refine d_val (v := .int .i64 ((max a b : Nat) : Int)) 0 (by rfl) (by kernel_rfl) (by kernel_rfl) (by kernel_rfl) (fun w' hs => by obtain ⟨hB4, hB9, hB15⟩ := hs; exact R_load (v := .int .i64 ((max a b : Nat) : Int)) (by kernel_rfl) (by kernel_rfl) ((hB9.cell 0).trans rfl)) ⟨hB4, hB9, hB15⟩ ?_
          refine d_val (v := .int .i64 ((min a b : Nat) : Int)) 1 (by rfl) (by kernel_rfl) (by kernel_rfl) (by kernel_rfl) (fun w' hs => by obtain ⟨hB4, hB9, hB15⟩ := hs; exact R_load (v := .int .i64 ((min a b : Nat) : Int)) (by kernel_rfl) (by kernel_rfl) ((hB4.cell 0).trans rfl)) ⟨hB4, hB9, hB15⟩ ?_
          refine d_one 2 (by kernel_rfl) (by rfl) (by kernel_rfl) (S_call (args := [.int .i64 ((min a b : Nat) : Int)]) (by kernel_rfl) (not_ok (min a b) _ (by omega)) ?_)
          rintro _ w67 ⟨rfl, hT68⟩
          have hG := hG.tch0 hT68
          have hMv := hMv.then0 hT68
          have hB4 := hB4.tch0 hT68
          have hB9 := hB9.tch0 hT68
          have hB15 := hB15.tch0 hT68
          refine ⟨⟨hB4, hB9, hB15⟩, ?_⟩
          refine dtk [3, 4] #[true, true, true, true, true] [(31, .bool (((max a b : Nat) : Int) == ((GateP.nt (min a b) : Nat) : Int))), (25, .bool (((max a b : Nat) : Int) == ((GateP.nt (min a b) : Nat) : Int)))] ⟨hB4, hB9, hB15⟩ (by kernel_rfl) ?_
          refine d_done (by kernel_rfl) ?_
          refine W_cond (((max a b : Nat) : Int) == ((GateP.nt (min a b) : Nat) : Int)) (by kernel_rfl) (by kernel_rfl) (fun hc69 => ?_) (fun hc69 => ?_)
          · replace hc69 : ((max a b : Nat) : Int) = ((GateP.nt (min a b) : Nat) : Int) := (eq_of_beq hc69)
            refine W_seq ?_
            refine W_fg [(0, .pointer (some ⟨p, 0, none⟩)), (1, .int .i64 ((a : Nat) : Int)), (2, .int .i64 ((b : Nat) : Int)), (4, .pointer (some ⟨w.heap.size, 0, none⟩)), (5, .pointer (some ⟨w1.heap.size, 0, none⟩)), (6, .int .i64 0), (11, .bool false), (18, .bool (((min a b : Nat) : Int) == ((max a b : Nat) : Int))), (25, .bool (((max a b : Nat) : Int) == ((GateP.nt (min a b) : Nat) : Int)))] (by kernel_rfl) fun ρ => ?_
            refine W_region (by kernel_rfl) ?_
            refine sg [(6, .int .i64 1)] (by kernel_rfl) ?_
            refine op_nil ?_
            refine W_ret ?_
            exact ⟨_, Res_of (v := .int .i64 1) (by kernel_rfl), ⟨F, n, cs, 1, rfl, hG, hMv, and_1 hG.2 (by omega), by omega⟩⟩
          · replace hc69 : ((max a b : Nat) : Int) ≠ ((GateP.nt (min a b) : Nat) : Int) := (ne_of_beq_false hc69)
            refine W_skip ?_
            refine W_seq ?_
            refine W_fg [(0, .pointer (some ⟨p, 0, none⟩)), (1, .int .i64 ((a : Nat) : Int)), (2, .int .i64 ((b : Nat) : Int)), (4, .pointer (some ⟨w.heap.size, 0, none⟩)), (5, .pointer (some ⟨w1.heap.size, 0, none⟩)), (6, .int .i64 0), (11, .bool false), (18, .bool (((min a b : Nat) : Int) == ((max a b : Nat) : Int))), (25, .bool (((max a b : Nat) : Int) == ((GateP.nt (min a b) : Nat) : Int)))] (by kernel_rfl) fun ρ => ?_
            refine W_region (by kernel_rfl) ?_
            refine sg [(32, .pointer (some ⟨p, 0, none⟩))] (by kernel_rfl) ?_
            refine st (by rfl) (S_val (v := .int .i64 ((min a b : Nat) : Int)) (R_load (v := .int .i64 ((min a b : Nat) : Int)) (by kernel_rfl) (by kernel_rfl) ((hB4.cell 0).trans rfl)) ?_)
            refine st (by rfl) (S_val (v := .int .i64 ((max a b : Nat) : Int)) (R_load (v := .int .i64 ((max a b : Nat) : Int)) (by kernel_rfl) (by kernel_rfl) ((hB9.cell 0).trans rfl)) ?_)
            refine sg [(35, .func (.func 57) #[] #[.pointer (some ⟨w.heap.size, 0, none⟩), .pointer (some ⟨w1.heap.size, 0, none⟩)])] (by kernel_rfl) ?_
            have lt78 := hB4.lt
            have lt79 := hB9.lt
            have lt80 := hB15.lt
            refine st (by rfl) (S_call (args := [.pointer (some ⟨p, 0, none⟩), .int .i64 0, .int .i64 ((min a b : Nat) : Int), .int .i64 ((max a b : Nat) : Int), .int .i64 0, .func (.func 57) #[] #[.pointer (some ⟨w.heap.size, 0, none⟩), .pointer (some ⟨w1.heap.size, 0, none⟩)]]) (by kernel_rfl) (gate0_ok F p n (min a b) (max a b) (w.heap.size) (w1.heap.size) cs I _ hG hB4 hB9 nF_hB4 nF_hB9 (by omega) (by omega) (by omega)) ?_)
            rintro _ w70 ⟨F71, n72, cs73, x74, rfl, hG, hm75, hr76, hd77⟩
            have hMv := hMv.trans hm75
            have hB4 := hB4.tch hm75.1 nF_hB4
            have hB9 := hB9.tch hm75.1 nF_hB9
            have hB15 := hB15.tch hm75.1 nF_hB15
            have hxb81 := hr76.2.2.1
            replace nF_hB4 : ¬ F71 (w.heap.size) := fun e => (hm75.2 _ e).elim nF_hB4 (fun q => by omega)
            replace nF_hB9 : ¬ F71 (w1.heap.size) := fun e => (hm75.2 _ e).elim nF_hB9 (fun q => by omega)
            replace nF_hB15 : ¬ F71 (w6.heap.size) := fun e => (hm75.2 _ e).elim nF_hB15 (fun q => by omega)
            refine sg [(6, .int .i64 ((x74 : Nat) : Int))] (by kernel_rfl) ?_
            refine op_nil ?_
            refine W_ret ?_
            exact ⟨_, Res_of (v := .int .i64 ((x74 : Nat) : Int)) (by kernel_rfl), ⟨F71, n72, cs73, _, rfl, hG, hMv, and_g hr76, by omega⟩⟩

set_option maxRecDepth 100000 in
theorem or_ok (F : Nat → Prop) (p n a b : Nat) (cs : List (List Nat)) (I : Nat → Prop) (w : World) (hG : GObj F w p n cs I) (hxa : a / 2 < n) (hxb : b / 2 < n) (hn : n ≤ 68719476000) : Ret Try.prog 25 [.pointer (some ⟨p, 0, none⟩), .int .i64 ((a : Nat) : Int), .int .i64 ((b : Nat) : Int)] w fun v w' => GRet F p n cs I w 1 (fun be => lt_ be a || lt_ be b) v w' := by
  have hMv := Mv.refl F w
  have hpos := hG.2.pos
  have hG0 := hG
  have hna := GateP.nt_div a
  have hnb := GateP.nt_div b
  refine enter Try.func25 rfl rfl ?_
  refine W_seq ?_
  refine W_region (by kernel_rfl) ?_
  refine sg [(6, .int .i64 0)] (by kernel_rfl) ?_
  refine op_nil ?_
  refine W_seq ?_
  refine W_seq ?_
  refine W_region (by kernel_rfl) ?_
  refine sg [(7, .pointer (some ⟨p, 0, none⟩)), (8, .int .i64 ((a : Nat) : Int)), (9, .int .i64 ((b : Nat) : Int))] (by kernel_rfl) ?_
  have hlt_ := hG.1.lt
  have hz5 := hMv.1.size
  refine st (by rfl) (S_new (v := .slice (some ⟨w.heap.size, 0, none⟩) 2 2) (ob := .cells #[.int .i64 ((a : Nat) : Int), .int .i64 ((b : Nat) : Int)] 3) (by kernel_rfl) fun w1 hT2 hs3 hB4 => ?_)
  replace hB4 : Blk w1 (w.heap.size) 3 [.int .i64 ((a : Nat) : Int), .int .i64 ((b : Nat) : Int)] := hB4
  have hG := hG.tch0 hT2
  have hMv := hMv.then0 hT2
  have nF_hB4 : ¬ F (w.heap.size) := fun e => by have := hlt_ _ e; omega
  refine st (by rfl) (S_call (args := [.pointer (some ⟨p, 0, none⟩), .slice (some ⟨w.heap.size, 0, none⟩) 2 2]) (by kernel_rfl) (obad_ok F p n (w.heap.size) 2 cs I [((a : Nat) : Int), ((b : Nat) : Int)] false _ hG (show Blk _ _ 3 (ints .i64 [((a : Nat) : Int), ((b : Nat) : Int)]) from hB4) rfl (by omega) (by intro x hx; simp only [List.mem_cons, List.not_mem_nil, or_false] at hx; omega) (by simp [badB, badI]; omega)) ?_)
  rintro _ w6 ⟨rfl, hT7⟩
  have hG := hG.tch0 hT7
  have hMv := hMv.then0 hT7
  have hB4 := hB4.tch0 hT7
  refine op_nil ?_
  refine W_cond false (by kernel_rfl) (by kernel_rfl) (fun h => nomatch h) (fun _ => ?_)
  refine W_skip ?_
  refine W_seq ?_
  refine W_region (by kernel_rfl) ?_
  refine sg [(12, .pointer (some ⟨p, 0, none⟩)), (13, .int .i64 ((a : Nat) : Int))] (by kernel_rfl) ?_
  refine st (by rfl) (S_call (args := [.int .i64 ((a : Nat) : Int)]) (by kernel_rfl) (not_ok a _ (by omega)) ?_)
  rintro _ w8 ⟨rfl, hT9⟩
  have hG := hG.tch0 hT9
  have hMv := hMv.then0 hT9
  have hB4 := hB4.tch0 hT9
  refine sg [(15, .int .i64 ((b : Nat) : Int))] (by kernel_rfl) ?_
  refine st (by rfl) (S_call (args := [.int .i64 ((b : Nat) : Int)]) (by kernel_rfl) (not_ok b _ (by omega)) ?_)
  rintro _ w10 ⟨rfl, hT11⟩
  have hG := hG.tch0 hT11
  have hMv := hMv.then0 hT11
  have hB4 := hB4.tch0 hT11
  have lt20 := hB4.lt
  refine st (by rfl) (S_call (args := [.pointer (some ⟨p, 0, none⟩), .int .i64 ((GateP.nt a : Nat) : Int), .int .i64 ((GateP.nt b : Nat) : Int)]) (by kernel_rfl) (and_ok F p n (GateP.nt a) (GateP.nt b) cs I _ hG (by omega) (by omega) (by omega)) ?_)
  rintro _ w12 ⟨F13, n14, cs15, x16, rfl, hG, hm17, hr18, hd19⟩
  have hMv := hMv.trans hm17
  have hB4 := hB4.tch hm17.1 nF_hB4
  have hxb21 := hr18.2.2.1
  replace nF_hB4 : ¬ F13 (w.heap.size) := fun e => (hm17.2 _ e).elim nF_hB4 (fun q => by omega)
  refine st (by rfl) (S_call (args := [.int .i64 ((x16 : Nat) : Int)]) (by kernel_rfl) (not_ok x16 _ (by omega)) ?_)
  rintro _ w22 ⟨rfl, hT23⟩
  have hG := hG.tch0 hT23
  have hMv := hMv.then0 hT23
  have hB4 := hB4.tch0 hT23
  refine sg [(6, .int .i64 ((GateP.nt x16 : Nat) : Int))] (by kernel_rfl) ?_
  refine op_nil ?_
  refine W_ret ?_
  exact ⟨_, Res_of (v := .int .i64 ((GateP.nt x16 : Nat) : Int)) (by kernel_rfl), ⟨F13, n14, cs15, _, rfl, hG, hMv, or_g hr18, by omega⟩⟩

set_option maxRecDepth 100000 in
theorem xor_ok (F : Nat → Prop) (p n a b : Nat) (cs : List (List Nat)) (I : Nat → Prop) (w : World) (hG : GObj F w p n cs I) (hxa : a / 2 < n) (hxb : b / 2 < n) (hn : n ≤ 68719476000) : Ret Try.prog 21 [.pointer (some ⟨p, 0, none⟩), .int .i64 ((a : Nat) : Int), .int .i64 ((b : Nat) : Int)] w fun v w' => GRet F p n cs I w 1 (fun be => lt_ be a != lt_ be b) v w' := by
  have hMv := Mv.refl F w
  have hpos := hG.2.pos
  have hG0 := hG
  refine enter Try.func21 rfl rfl ?_
  refine W_seq ?_
  refine W_region (by kernel_rfl) ?_
  have hlt_ := hG.1.lt
  have hz5 := hMv.1.size
  refine st (by rfl) (S_new (v := .pointer (some ⟨w.heap.size, 0, none⟩)) (ob := .cells #[.int .i64 ((a : Nat) : Int)] 3) (by kernel_rfl) fun w1 hT2 hs3 hB4 => ?_)
  replace hB4 : Blk w1 (w.heap.size) 3 [.int .i64 ((a : Nat) : Int)] := hB4
  have hG := hG.tch0 hT2
  have hMv := hMv.then0 hT2
  have nF_hB4 : ¬ F (w.heap.size) := fun e => by have := hlt_ _ e; omega
  have hlt_ := hG.1.lt
  have hz10 := hMv.1.size
  have lt11 := hB4.lt
  refine st (by rfl) (S_new (v := .pointer (some ⟨w1.heap.size, 0, none⟩)) (ob := .cells #[.int .i64 ((b : Nat) : Int)] 3) (by kernel_rfl) fun w6 hT7 hs8 hB9 => ?_)
  replace hB9 : Blk w6 (w1.heap.size) 3 [.int .i64 ((b : Nat) : Int)] := hB9
  have hG := hG.tch0 hT7
  have hMv := hMv.then0 hT7
  have hB4 := hB4.tch0 hT7
  have nF_hB9 : ¬ F (w1.heap.size) := fun e => by have := hlt_ _ e; omega
  refine sg [(6, .int .i64 0)] (by kernel_rfl) ?_
  refine op_nil ?_
  refine W_seq ?_
  refine W_seq ?_
  refine W_region (by kernel_rfl) ?_
  refine sg [(9, .pointer (some ⟨p, 0, none⟩))] (by kernel_rfl) ?_
  refine st (by rfl) (S_val (v := .int .i64 ((a : Nat) : Int)) (R_load (v := .int .i64 ((a : Nat) : Int)) (by kernel_rfl) (by kernel_rfl) ((hB4.cell 0).trans rfl)) ?_)
  refine st (by rfl) (S_val (v := .int .i64 ((b : Nat) : Int)) (R_load (v := .int .i64 ((b : Nat) : Int)) (by kernel_rfl) (by kernel_rfl) ((hB9.cell 0).trans rfl)) ?_)
  have hlt_ := hG.1.lt
  have hz16 := hMv.1.size
  have lt17 := hB4.lt
  have lt18 := hB9.lt
  refine st (by rfl) (S_new (v := .slice (some ⟨w6.heap.size, 0, none⟩) 2 2) (ob := .cells #[.int .i64 ((a : Nat) : Int), .int .i64 ((b : Nat) : Int)] 3) (by kernel_rfl) fun w12 hT13 hs14 hB15 => ?_)
  replace hB15 : Blk w12 (w6.heap.size) 3 [.int .i64 ((a : Nat) : Int), .int .i64 ((b : Nat) : Int)] := hB15
  have hG := hG.tch0 hT13
  have hMv := hMv.then0 hT13
  have hB4 := hB4.tch0 hT13
  have hB9 := hB9.tch0 hT13
  have nF_hB15 : ¬ F (w6.heap.size) := fun e => by have := hlt_ _ e; omega
  refine st (by rfl) (S_call (args := [.pointer (some ⟨p, 0, none⟩), .slice (some ⟨w6.heap.size, 0, none⟩) 2 2]) (by kernel_rfl) (obad_ok F p n (w6.heap.size) 2 cs I [((a : Nat) : Int), ((b : Nat) : Int)] false _ hG (show Blk _ _ 3 (ints .i64 [((a : Nat) : Int), ((b : Nat) : Int)]) from hB15) rfl (by omega) (by intro x hx; simp only [List.mem_cons, List.not_mem_nil, or_false] at hx; omega) (by simp [badB, badI]; omega)) ?_)
  rintro _ w19 ⟨rfl, hT20⟩
  have hG := hG.tch0 hT20
  have hMv := hMv.then0 hT20
  have hB4 := hB4.tch0 hT20
  have hB9 := hB9.tch0 hT20
  have hB15 := hB15.tch0 hT20
  refine op_nil ?_
  refine W_cond false (by kernel_rfl) (by kernel_rfl) (fun h => nomatch h) (fun _ => ?_)
  refine W_skip ?_
  refine W_seq ?_
  refine W_fg [(0, .pointer (some ⟨p, 0, none⟩)), (1, .int .i64 ((a : Nat) : Int)), (2, .int .i64 ((b : Nat) : Int)), (4, .pointer (some ⟨w.heap.size, 0, none⟩)), (5, .pointer (some ⟨w1.heap.size, 0, none⟩)), (6, .int .i64 0), (13, .bool false)] (by kernel_rfl) fun ρ => ?_
  refine W_region (by kernel_rfl) ?_
  refine st (by rfl) (S_val (v := .int .i64 ((a : Nat) : Int)) (R_load (v := .int .i64 ((a : Nat) : Int)) (by kernel_rfl) (by kernel_rfl) ((hB4.cell 0).trans rfl)) ?_)
  refine st (by rfl) (S_val (v := .int .i64 ((b : Nat) : Int)) (R_load (v := .int .i64 ((b : Nat) : Int)) (by kernel_rfl) (by kernel_rfl) ((hB9.cell 0).trans rfl)) ?_)
  refine sg [(16, .int .i64 (IntKind.i64.wrap (BitVec.ofInt 64 ((a : Nat) : Int) ^^^ BitVec.ofInt 64 ((b : Nat) : Int)).toNat))] (by kernel_rfl) ?_
  refine sg [(17, .int .i64 (IntKind.i64.wrap (BitVec.ofInt 64 (IntKind.i64.wrap (BitVec.ofInt 64 ((a : Nat) : Int) ^^^ BitVec.ofInt 64 ((b : Nat) : Int)).toNat) &&& BitVec.ofInt 64 1).toNat))] (by kernel_rfl) ?_
  rw [GateP.turn_i64 a b (by omega) (by omega)]
  refine sg [(7, .int .i64 (((a + b) % 2 : Nat) : Int))] (by kernel_rfl) ?_
  refine op_nil ?_
  refine W_seq ?_
  refine W_drawT (fun w' => Blk w' (w1.heap.size) 3 [.int .i64 ((b : Nat) : Int)]) 5 (by kernel_rfl) (by kernel_rfl) (by kernel_rfl) fun w21 hT22 hh23 => ?_
  have hG := hG.tch0 hT22
  have hMv := hMv.then0 hT22
  have hB4 := hB4.tch0 hT22
  have hB9 := hB9.tch0 hT22
  have hB15 := hB15.tch0 hT22
  refine t_val (v := .int .i64 ((b : Nat) : Int)) 2 (by kernel_rfl) (by rfl) (by kernel_rfl) (by kernel_rfl) (by kernel_rfl) (fun w' hs => by have hB9 := hs; exact R_load (v := .int .i64 ((b : Nat) : Int)) (by kernel_rfl) (by kernel_rfl) ((hB9.cell 0).trans rfl)) hB9 ?_
  refine ttk [3] #[false, false, true, true, false, false] [(21, .int .i64 (IntKind.i64.wrap (BitVec.ofInt 64 ((b : Nat) : Int) &&& ~~~BitVec.ofInt 64 1).toNat))] hB9 (by kernel_rfl) ?_
  rw [GateP.andNot_i64 b (by omega)]
  refine t_one 0 (by kernel_rfl) (by rfl) (by kernel_rfl) (S_val (v := .int .i64 ((a : Nat) : Int)) (R_load (v := .int .i64 ((a : Nat) : Int)) (by kernel_rfl) (by kernel_rfl) ((hB4.cell 0).trans rfl)) ?_)
  refine ⟨fun _ => hB9, ?_⟩
  refine ttk [1] #[true, true, true, true, false, false] [(19, .int .i64 (IntKind.i64.wrap (BitVec.ofInt 64 ((a : Nat) : Int) &&& ~~~BitVec.ofInt 64 1).toNat))] hB9 (by kernel_rfl) ?_
  rw [GateP.andNot_i64 a (by omega)]
  refine t_one 4 (by kernel_rfl) (by rfl) (by kernel_rfl) (S_store (b := w.heap.size) (j := 0) (v := .int .i64 ((2 * (a / 2) : Nat) : Int)) (by kernel_rfl) (by kernel_rfl) (by kernel_rfl) (by rfl) hB4 (by simp) fun w24 hT25 hs26 hB4' => ?_)
  have hG := hG.tchS hT25 (fun c e q => by cases e; exact nF_hB4 q)
  have hMv := hMv.newst hT25 (by omega)
  have hB9 := hB9.tch hT25 (fun e => by have : w1.heap.size = w.heap.size := e; omega)
  have hB15 := hB15.tch hT25 (fun e => by have : w6.heap.size = w.heap.size := e; omega)
  replace hB4 : Blk w24 w.heap.size 3 [.int .i64 ((2 * (a / 2) : Nat) : Int)] := hB4'
  refine ⟨fun _ => hB9, ?_⟩
  refine t_one 5 (by kernel_rfl) (by rfl) (by kernel_rfl) (S_store (b := w1.heap.size) (j := 0) (v := .int .i64 ((2 * (b / 2) : Nat) : Int)) (by kernel_rfl) (by kernel_rfl) (by kernel_rfl) (by rfl) hB9 (by simp) fun w27 hT28 hs29 hB9' => ?_)
  have hG := hG.tchS hT28 (fun c e q => by cases e; exact nF_hB9 q)
  have hMv := hMv.newst hT28 (by omega)
  have hB4 := hB4.tch hT28 (fun e => by have : w.heap.size = w1.heap.size := e; omega)
  have hB15 := hB15.tch hT28 (fun e => by have : w6.heap.size = w1.heap.size := e; omega)
  replace hB9 : Blk w27 w1.heap.size 3 [.int .i64 ((2 * (b / 2) : Nat) : Int)] := hB9'
  refine ⟨fun h => absurd h (by decide), ?_⟩
  refine t_done (by kernel_rfl) ?_
  refine W_seq ?_
  refine W_fg [(0, .pointer (some ⟨p, 0, none⟩)), (1, .int .i64 ((a : Nat) : Int)), (2, .int .i64 ((b : Nat) : Int)), (4, .pointer (some ⟨w.heap.size, 0, none⟩)), (5, .pointer (some ⟨w1.heap.size, 0, none⟩)), (6, .int .i64 0), (7, .int .i64 (((a + b) % 2 : Nat) : Int)), (13, .bool false)] (by kernel_rfl) fun ρ => ?_
  refine W_drawT (fun w' => Blk w' (w1.heap.size) 3 [.int .i64 ((2 * (b / 2) : Nat) : Int)]) 7 (by kernel_rfl) (by kernel_rfl) (by kernel_rfl) fun w30 hT31 hh32 => ?_
  have hG := hG.tch0 hT31
  have hMv := hMv.then0 hT31
  have hB4 := hB4.tch0 hT31
  have hB9 := hB9.tch0 hT31
  have hB15 := hB15.tch0 hT31
  refine t_val (v := .int .i64 ((2 * (b / 2) : Nat) : Int)) 1 (by kernel_rfl) (by rfl) (by kernel_rfl) (by kernel_rfl) (by kernel_rfl) (fun w' hs => by have hB9 := hs; exact R_load (v := .int .i64 ((2 * (b / 2) : Nat) : Int)) (by kernel_rfl) (by kernel_rfl) ((hB9.cell 0).trans rfl)) hB9 ?_
  refine t_val (v := .int .i64 ((2 * (b / 2) : Nat) : Int)) 4 (by kernel_rfl) (by rfl) (by kernel_rfl) (by kernel_rfl) (by kernel_rfl) (fun w' hs => by have hB9 := hs; exact R_load (v := .int .i64 ((2 * (b / 2) : Nat) : Int)) (by kernel_rfl) (by kernel_rfl) ((hB9.cell 0).trans rfl)) hB9 ?_
  refine t_two 0 3 (by kernel_rfl) (by rfl) (by rfl) (by kernel_rfl) (by kernel_rfl) ?_ ?_
  · refine (S_val (v := .int .i64 ((2 * (a / 2) : Nat) : Int)) (R_load (v := .int .i64 ((2 * (a / 2) : Nat) : Int)) (by kernel_rfl) (by kernel_rfl) ((hB4.cell 0).trans rfl)) ?_)
    refine ⟨fun _ => hB9, ?_⟩
    refine ttk [2] #[true, true, true, false, true, false, false, false] [(24, .int .i64 (if ((2 * (b / 2) : Nat) : Int) < ((2 * (a / 2) : Nat) : Int) then ((2 * (b / 2) : Nat) : Int) else ((2 * (a / 2) : Nat) : Int)))] hB9 (by kernel_rfl) ?_
    refine fixT (y := ((min (2 * (a / 2)) (2 * (b / 2)) : Nat) : Int)) (by split <;> omega) ?_
    refine t_one 3 (by kernel_rfl) (by rfl) (by kernel_rfl) (S_val (v := .int .i64 ((2 * (a / 2) : Nat) : Int)) (R_load (v := .int .i64 ((2 * (a / 2) : Nat) : Int)) (by kernel_rfl) (by kernel_rfl) ((hB4.cell 0).trans rfl)) ?_)
    refine ⟨fun _ => hB9, ?_⟩
    refine ttk [5] #[true, true, true, true, true, true, false, false] [(27, .int .i64 (if ((2 * (a / 2) : Nat) : Int) < ((2 * (b / 2) : Nat) : Int) then ((2 * (b / 2) : Nat) : Int) else ((2 * (a / 2) : Nat) : Int)))] hB9 (by kernel_rfl) ?_
    refine fixT (y := ((max (2 * (a / 2)) (2 * (b / 2)) : Nat) : Int)) (by split <;> omega) ?_
    refine t_one 6 (by kernel_rfl) (by rfl) (by kernel_rfl) (S_store (b := w.heap.size) (j := 0) (v := .int .i64 ((min (2 * (a / 2)) (2 * (b / 2)) : Nat) : Int)) (by kernel_rfl) (by kernel_rfl) (by kernel_rfl) (by rfl) hB4 (by simp) fun w33 hT34 hs35 hB4' => ?_)
    have hG := hG.tchS hT34 (fun c e q => by cases e; exact nF_hB4 q)
    have hMv := hMv.newst hT34 (by omega)
    have hB9 := hB9.tch hT34 (fun e => by have : w1.heap.size = w.heap.size := e; omega)
    have hB15 := hB15.tch hT34 (fun e => by have : w6.heap.size = w.heap.size := e; omega)
    replace hB4 : Blk w33 w.heap.size 3 [.int .i64 ((min (2 * (a / 2)) (2 * (b / 2)) : Nat) : Int)] := hB4'
    refine ⟨fun _ => hB9, ?_⟩
    refine t_one 7 (by kernel_rfl) (by rfl) (by kernel_rfl) (S_store (b := w1.heap.size) (j := 0) (v := .int .i64 ((max (2 * (a / 2)) (2 * (b / 2)) : Nat) : Int)) (by kernel_rfl) (by kernel_rfl) (by kernel_rfl) (by rfl) hB9 (by simp) fun w36 hT37 hs38 hB9' => ?_)
    have hG := hG.tchS hT37 (fun c e q => by cases e; exact nF_hB9 q)
    have hMv := hMv.newst hT37 (by omega)
    have hB4 := hB4.tch hT37 (fun e => by have : w.heap.size = w1.heap.size := e; omega)
    have hB15 := hB15.tch hT37 (fun e => by have : w6.heap.size = w1.heap.size := e; omega)
    replace hB9 : Blk w36 w1.heap.size 3 [.int .i64 ((max (2 * (a / 2)) (2 * (b / 2)) : Nat) : Int)] := hB9'
    refine ⟨fun h => absurd h (by decide), ?_⟩
    refine t_done (by kernel_rfl) ?_
    refine W_seq ?_
    refine W_block ?_
    refine W_seq ?_
    refine W_region (by kernel_rfl) ?_
    refine st (by rfl) (S_val (v := .int .i64 ((min (2 * (a / 2)) (2 * (b / 2)) : Nat) : Int)) (R_load (v := .int .i64 ((min (2 * (a / 2)) (2 * (b / 2)) : Nat) : Int)) (by kernel_rfl) (by kernel_rfl) ((hB4.cell 0).trans rfl)) ?_)
    refine st (by rfl) (S_val (v := .int .i64 ((max (2 * (a / 2)) (2 * (b / 2)) : Nat) : Int)) (R_load (v := .int .i64 ((max (2 * (a / 2)) (2 * (b / 2)) : Nat) : Int)) (by kernel_rfl) (by kernel_rfl) ((hB9.cell 0).trans rfl)) ?_)
    refine sg [(31, .bool (((min (2 * (a / 2)) (2 * (b / 2)) : Nat) : Int) == ((max (2 * (a / 2)) (2 * (b / 2)) : Nat) : Int))), (28, .bool (((min (2 * (a / 2)) (2 * (b / 2)) : Nat) : Int) == ((max (2 * (a / 2)) (2 * (b / 2)) : Nat) : Int)))] (by kernel_rfl) ?_
    refine op_nil ?_
    refine W_cond (((min (2 * (a / 2)) (2 * (b / 2)) : Nat) : Int) == ((max (2 * (a / 2)) (2 * (b / 2)) : Nat) : Int)) (by kernel_rfl) (by kernel_rfl) (fun hc39 => ?_) (fun hc39 => ?_)
    · replace hc39 : ((min (2 * (a / 2)) (2 * (b / 2)) : Nat) : Int) = ((max (2 * (a / 2)) (2 * (b / 2)) : Nat) : Int) := (eq_of_beq hc39)
      refine W_seq ?_
      refine W_fg [(0, .pointer (some ⟨p, 0, none⟩)), (1, .int .i64 ((a : Nat) : Int)), (2, .int .i64 ((b : Nat) : Int)), (4, .pointer (some ⟨w.heap.size, 0, none⟩)), (5, .pointer (some ⟨w1.heap.size, 0, none⟩)), (6, .int .i64 0), (7, .int .i64 (((a + b) % 2 : Nat) : Int)), (13, .bool false), (28, .bool (((min (2 * (a / 2)) (2 * (b / 2)) : Nat) : Int) == ((max (2 * (a / 2)) (2 * (b / 2)) : Nat) : Int)))] (by kernel_rfl) fun ρ => ?_
      refine W_region (by kernel_rfl) ?_
      refine sg [(32, .int .i64 (((a + b) % 2 : Nat) : Int))] (by kernel_rfl) ?_
      refine sg [(33, .int .i64 (IntKind.i64.wrap (BitVec.ofInt 64 1 ^^^ BitVec.ofInt 64 (((a + b) % 2 : Nat) : Int)).toNat))] (by kernel_rfl) ?_
      rw [show (1 : Int) = ((1 : Nat) : Int) from rfl, GateP.xr_i64 1 ((a + b) % 2) (by omega) (by omega)]
      refine sg [(6, .int .i64 ((GateP.xr 1 ((a + b) % 2) : Nat) : Int))] (by kernel_rfl) ?_
      refine op_nil ?_
      refine W_ret ?_
      exact ⟨_, Res_of (v := .int .i64 ((GateP.xr 1 ((a + b) % 2) : Nat) : Int)) (by kernel_rfl), ⟨F, n, cs, _, rfl, hG, hMv, xor_same hG.2 (by omega), by omega⟩⟩
    · replace hc39 : ((min (2 * (a / 2)) (2 * (b / 2)) : Nat) : Int) ≠ ((max (2 * (a / 2)) (2 * (b / 2)) : Nat) : Int) := (ne_of_beq_false hc39)
      refine W_seq ?_
      refine W_fg [(0, .pointer (some ⟨p, 0, none⟩)), (1, .int .i64 ((a : Nat) : Int)), (2, .int .i64 ((b : Nat) : Int)), (4, .pointer (some ⟨w.heap.size, 0, none⟩)), (5, .pointer (some ⟨w1.heap.size, 0, none⟩)), (6, .int .i64 0), (7, .int .i64 (((a + b) % 2 : Nat) : Int)), (13, .bool false), (28, .bool (((min (2 * (a / 2)) (2 * (b / 2)) : Nat) : Int) == ((max (2 * (a / 2)) (2 * (b / 2)) : Nat) : Int)))] (by kernel_rfl) fun ρ => ?_
      refine W_region (by kernel_rfl) ?_
      refine st (by rfl) (S_val (v := .int .i64 ((min (2 * (a / 2)) (2 * (b / 2)) : Nat) : Int)) (R_load (v := .int .i64 ((min (2 * (a / 2)) (2 * (b / 2)) : Nat) : Int)) (by kernel_rfl) (by kernel_rfl) ((hB4.cell 0).trans rfl)) ?_)
      refine sg [(36, .bool (((min (2 * (a / 2)) (2 * (b / 2)) : Nat) : Int) == 0)), (34, .bool (((min (2 * (a / 2)) (2 * (b / 2)) : Nat) : Int) == 0))] (by kernel_rfl) ?_
      refine op_nil ?_
      refine W_cond (((min (2 * (a / 2)) (2 * (b / 2)) : Nat) : Int) == 0) (by kernel_rfl) (by kernel_rfl) (fun hc40 => ?_) (fun hc40 => ?_)
      · replace hc40 : ((min (2 * (a / 2)) (2 * (b / 2)) : Nat) : Int) = 0 := (eq_of_beq hc40)
        refine W_seq ?_
        refine W_region (by kernel_rfl) ?_
        refine st (by rfl) (S_val (v := .int .i64 ((max (2 * (a / 2)) (2 * (b / 2)) : Nat) : Int)) (R_load (v := .int .i64 ((max (2 * (a / 2)) (2 * (b / 2)) : Nat) : Int)) (by kernel_rfl) (by kernel_rfl) ((hB9.cell 0).trans rfl)) ?_)
        refine sg [(38, .int .i64 (IntKind.i64.wrap (BitVec.ofInt 64 ((max (2 * (a / 2)) (2 * (b / 2)) : Nat) : Int) ^^^ BitVec.ofInt 64 1).toNat))] (by kernel_rfl) ?_
        rw [GateP.not_i64 (max (2 * (a / 2)) (2 * (b / 2))) (by omega)]
        refine sg [(39, .int .i64 (((a + b) % 2 : Nat) : Int))] (by kernel_rfl) ?_
        refine sg [(40, .int .i64 (IntKind.i64.wrap (BitVec.ofInt 64 ((GateP.nt (max (2 * (a / 2)) (2 * (b / 2))) : Nat) : Int) ^^^ BitVec.ofInt 64 (((a + b) % 2 : Nat) : Int)).toNat))] (by kernel_rfl) ?_
        rw [GateP.xr_i64 (GateP.nt (max (2 * (a / 2)) (2 * (b / 2)))) ((a + b) % 2) (by have := GateP.nt_div (max (2 * (a / 2)) (2 * (b / 2))); omega) (by omega)]
        refine sg [(6, .int .i64 ((GateP.xr (GateP.nt (max (2 * (a / 2)) (2 * (b / 2)))) ((a + b) % 2) : Nat) : Int))] (by kernel_rfl) ?_
        refine op_nil ?_
        refine W_ret ?_
        exact ⟨_, Res_of (v := .int .i64 ((GateP.xr (GateP.nt (max (2 * (a / 2)) (2 * (b / 2)))) ((a + b) % 2) : Nat) : Int)) (by kernel_rfl), ⟨F, n, cs, _, rfl, hG, hMv, xor_0 hG.2 hxa hxb (by omega), by omega⟩⟩
      · replace hc40 : ((min (2 * (a / 2)) (2 * (b / 2)) : Nat) : Int) ≠ 0 := (ne_of_beq_false hc40)
        refine W_skip ?_
        refine W_seq ?_
        refine W_region (by kernel_rfl) ?_
        refine sg [(41, .pointer (some ⟨p, 0, none⟩))] (by kernel_rfl) ?_
        refine st (by rfl) (S_val (v := .int .i64 ((min (2 * (a / 2)) (2 * (b / 2)) : Nat) : Int)) (R_load (v := .int .i64 ((min (2 * (a / 2)) (2 * (b / 2)) : Nat) : Int)) (by kernel_rfl) (by kernel_rfl) ((hB4.cell 0).trans rfl)) ?_)
        refine st (by rfl) (S_val (v := .int .i64 ((max (2 * (a / 2)) (2 * (b / 2)) : Nat) : Int)) (R_load (v := .int .i64 ((max (2 * (a / 2)) (2 * (b / 2)) : Nat) : Int)) (by kernel_rfl) (by kernel_rfl) ((hB9.cell 0).trans rfl)) ?_)
        refine sg [(44, .func (.func 55) #[] #[.pointer (some ⟨w.heap.size, 0, none⟩), .pointer (some ⟨w1.heap.size, 0, none⟩)])] (by kernel_rfl) ?_
        have lt49 := hB4.lt
        have lt50 := hB9.lt
        have lt51 := hB15.lt
        refine st (by rfl) (S_call (args := [.pointer (some ⟨p, 0, none⟩), .int .i64 1, .int .i64 ((min (2 * (a / 2)) (2 * (b / 2)) : Nat) : Int), .int .i64 ((max (2 * (a / 2)) (2 * (b / 2)) : Nat) : Int), .int .i64 0, .func (.func 55) #[] #[.pointer (some ⟨w.heap.size, 0, none⟩), .pointer (some ⟨w1.heap.size, 0, none⟩)]]) (by kernel_rfl) (gate1_ok F p n (min (2 * (a / 2)) (2 * (b / 2))) (max (2 * (a / 2)) (2 * (b / 2))) (w.heap.size) (w1.heap.size) cs I _ hG hB4 hB9 nF_hB4 nF_hB9 (by omega) (by omega) (by omega)) ?_)
        rintro _ w41 ⟨F42, n43, cs44, x45, rfl, hG, hm46, hr47, hd48⟩
        have hMv := hMv.trans hm46
        have hB4 := hB4.tch hm46.1 nF_hB4
        have hB9 := hB9.tch hm46.1 nF_hB9
        have hB15 := hB15.tch hm46.1 nF_hB15
        have hxb52 := hr47.2.2.1
        replace nF_hB4 : ¬ F42 (w.heap.size) := fun e => (hm46.2 _ e).elim nF_hB4 (fun q => by omega)
        replace nF_hB9 : ¬ F42 (w1.heap.size) := fun e => (hm46.2 _ e).elim nF_hB9 (fun q => by omega)
        replace nF_hB15 : ¬ F42 (w6.heap.size) := fun e => (hm46.2 _ e).elim nF_hB15 (fun q => by omega)
        refine sg [(8, .int .i64 ((x45 : Nat) : Int))] (by kernel_rfl) ?_
        refine op_nil ?_
        refine W_seq ?_
        refine W_fg [(0, .pointer (some ⟨p, 0, none⟩)), (1, .int .i64 ((a : Nat) : Int)), (2, .int .i64 ((b : Nat) : Int)), (4, .pointer (some ⟨w.heap.size, 0, none⟩)), (5, .pointer (some ⟨w1.heap.size, 0, none⟩)), (6, .int .i64 0), (7, .int .i64 (((a + b) % 2 : Nat) : Int)), (8, .int .i64 ((x45 : Nat) : Int)), (13, .bool false), (28, .bool (((min (2 * (a / 2)) (2 * (b / 2)) : Nat) : Int) == ((max (2 * (a / 2)) (2 * (b / 2)) : Nat) : Int))), (34, .bool (((min (2 * (a / 2)) (2 * (b / 2)) : Nat) : Int) == 0))] (by kernel_rfl) fun ρ => ?_
        refine W_region (by kernel_rfl) ?_
        refine sg [(46, .int .i64 ((x45 : Nat) : Int)), (47, .int .i64 (((a + b) % 2 : Nat) : Int))] (by kernel_rfl) ?_
        refine sg [(48, .int .i64 (IntKind.i64.wrap (BitVec.ofInt 64 ((x45 : Nat) : Int) ^^^ BitVec.ofInt 64 (((a + b) % 2 : Nat) : Int)).toNat))] (by kernel_rfl) ?_
        rw [GateP.xr_i64 x45 ((a + b) % 2) (by have := hr47.2.2.1; omega) (by omega)]
        refine sg [(6, .int .i64 ((GateP.xr x45 ((a + b) % 2) : Nat) : Int))] (by kernel_rfl) ?_
        refine op_nil ?_
        refine W_ret ?_
        exact ⟨_, Res_of (v := .int .i64 ((GateP.xr x45 ((a + b) % 2) : Nat) : Int)) (by kernel_rfl), ⟨F42, n43, cs44, _, rfl, hG, hMv, xor_g hr47, by omega⟩⟩
  · refine (S_val (v := .int .i64 ((2 * (a / 2) : Nat) : Int)) (R_load (v := .int .i64 ((2 * (a / 2) : Nat) : Int)) (by kernel_rfl) (by kernel_rfl) ((hB4.cell 0).trans rfl)) ?_)
    refine ⟨fun _ => hB9, ?_⟩
    refine ttk [5] #[false, true, false, true, true, true, false, false] [(27, .int .i64 (if ((2 * (a / 2) : Nat) : Int) < ((2 * (b / 2) : Nat) : Int) then ((2 * (b / 2) : Nat) : Int) else ((2 * (a / 2) : Nat) : Int)))] hB9 (by kernel_rfl) ?_
    refine fixT (y := ((max (2 * (a / 2)) (2 * (b / 2)) : Nat) : Int)) (by split <;> omega) ?_
    refine t_one 0 (by kernel_rfl) (by rfl) (by kernel_rfl) (S_val (v := .int .i64 ((2 * (a / 2) : Nat) : Int)) (R_load (v := .int .i64 ((2 * (a / 2) : Nat) : Int)) (by kernel_rfl) (by kernel_rfl) ((hB4.cell 0).trans rfl)) ?_)
    refine ⟨fun _ => hB9, ?_⟩
    refine ttk [2] #[true, true, true, true, true, true, false, false] [(24, .int .i64 (if ((2 * (b / 2) : Nat) : Int) < ((2 * (a / 2) : Nat) : Int) then ((2 * (b / 2) : Nat) : Int) else ((2 * (a / 2) : Nat) : Int)))] hB9 (by kernel_rfl) ?_
    refine fixT (y := ((min (2 * (a / 2)) (2 * (b / 2)) : Nat) : Int)) (by split <;> omega) ?_
    refine t_one 6 (by kernel_rfl) (by rfl) (by kernel_rfl) (S_store (b := w.heap.size) (j := 0) (v := .int .i64 ((min (2 * (a / 2)) (2 * (b / 2)) : Nat) : Int)) (by kernel_rfl) (by kernel_rfl) (by kernel_rfl) (by rfl) hB4 (by simp) fun w53 hT54 hs55 hB4' => ?_)
    have hG := hG.tchS hT54 (fun c e q => by cases e; exact nF_hB4 q)
    have hMv := hMv.newst hT54 (by omega)
    have hB9 := hB9.tch hT54 (fun e => by have : w1.heap.size = w.heap.size := e; omega)
    have hB15 := hB15.tch hT54 (fun e => by have : w6.heap.size = w.heap.size := e; omega)
    replace hB4 : Blk w53 w.heap.size 3 [.int .i64 ((min (2 * (a / 2)) (2 * (b / 2)) : Nat) : Int)] := hB4'
    refine ⟨fun _ => hB9, ?_⟩
    refine t_one 7 (by kernel_rfl) (by rfl) (by kernel_rfl) (S_store (b := w1.heap.size) (j := 0) (v := .int .i64 ((max (2 * (a / 2)) (2 * (b / 2)) : Nat) : Int)) (by kernel_rfl) (by kernel_rfl) (by kernel_rfl) (by rfl) hB9 (by simp) fun w56 hT57 hs58 hB9' => ?_)
    have hG := hG.tchS hT57 (fun c e q => by cases e; exact nF_hB9 q)
    have hMv := hMv.newst hT57 (by omega)
    have hB4 := hB4.tch hT57 (fun e => by have : w.heap.size = w1.heap.size := e; omega)
    have hB15 := hB15.tch hT57 (fun e => by have : w6.heap.size = w1.heap.size := e; omega)
    replace hB9 : Blk w56 w1.heap.size 3 [.int .i64 ((max (2 * (a / 2)) (2 * (b / 2)) : Nat) : Int)] := hB9'
    refine ⟨fun h => absurd h (by decide), ?_⟩
    refine t_done (by kernel_rfl) ?_
    refine W_seq ?_
    refine W_block ?_
    refine W_seq ?_
    refine W_region (by kernel_rfl) ?_
    refine st (by rfl) (S_val (v := .int .i64 ((min (2 * (a / 2)) (2 * (b / 2)) : Nat) : Int)) (R_load (v := .int .i64 ((min (2 * (a / 2)) (2 * (b / 2)) : Nat) : Int)) (by kernel_rfl) (by kernel_rfl) ((hB4.cell 0).trans rfl)) ?_)
    refine st (by rfl) (S_val (v := .int .i64 ((max (2 * (a / 2)) (2 * (b / 2)) : Nat) : Int)) (R_load (v := .int .i64 ((max (2 * (a / 2)) (2 * (b / 2)) : Nat) : Int)) (by kernel_rfl) (by kernel_rfl) ((hB9.cell 0).trans rfl)) ?_)
    refine sg [(31, .bool (((min (2 * (a / 2)) (2 * (b / 2)) : Nat) : Int) == ((max (2 * (a / 2)) (2 * (b / 2)) : Nat) : Int))), (28, .bool (((min (2 * (a / 2)) (2 * (b / 2)) : Nat) : Int) == ((max (2 * (a / 2)) (2 * (b / 2)) : Nat) : Int)))] (by kernel_rfl) ?_
    refine op_nil ?_
    refine W_cond (((min (2 * (a / 2)) (2 * (b / 2)) : Nat) : Int) == ((max (2 * (a / 2)) (2 * (b / 2)) : Nat) : Int)) (by kernel_rfl) (by kernel_rfl) (fun hc59 => ?_) (fun hc59 => ?_)
    · replace hc59 : ((min (2 * (a / 2)) (2 * (b / 2)) : Nat) : Int) = ((max (2 * (a / 2)) (2 * (b / 2)) : Nat) : Int) := (eq_of_beq hc59)
      refine W_seq ?_
      refine W_fg [(0, .pointer (some ⟨p, 0, none⟩)), (1, .int .i64 ((a : Nat) : Int)), (2, .int .i64 ((b : Nat) : Int)), (4, .pointer (some ⟨w.heap.size, 0, none⟩)), (5, .pointer (some ⟨w1.heap.size, 0, none⟩)), (6, .int .i64 0), (7, .int .i64 (((a + b) % 2 : Nat) : Int)), (13, .bool false), (28, .bool (((min (2 * (a / 2)) (2 * (b / 2)) : Nat) : Int) == ((max (2 * (a / 2)) (2 * (b / 2)) : Nat) : Int)))] (by kernel_rfl) fun ρ => ?_
      refine W_region (by kernel_rfl) ?_
      refine sg [(32, .int .i64 (((a + b) % 2 : Nat) : Int))] (by kernel_rfl) ?_
      refine sg [(33, .int .i64 (IntKind.i64.wrap (BitVec.ofInt 64 1 ^^^ BitVec.ofInt 64 (((a + b) % 2 : Nat) : Int)).toNat))] (by kernel_rfl) ?_
      rw [show (1 : Int) = ((1 : Nat) : Int) from rfl, GateP.xr_i64 1 ((a + b) % 2) (by omega) (by omega)]
      refine sg [(6, .int .i64 ((GateP.xr 1 ((a + b) % 2) : Nat) : Int))] (by kernel_rfl) ?_
      refine op_nil ?_
      refine W_ret ?_
      exact ⟨_, Res_of (v := .int .i64 ((GateP.xr 1 ((a + b) % 2) : Nat) : Int)) (by kernel_rfl), ⟨F, n, cs, _, rfl, hG, hMv, xor_same hG.2 (by omega), by omega⟩⟩
    · replace hc59 : ((min (2 * (a / 2)) (2 * (b / 2)) : Nat) : Int) ≠ ((max (2 * (a / 2)) (2 * (b / 2)) : Nat) : Int) := (ne_of_beq_false hc59)
      refine W_seq ?_
      refine W_fg [(0, .pointer (some ⟨p, 0, none⟩)), (1, .int .i64 ((a : Nat) : Int)), (2, .int .i64 ((b : Nat) : Int)), (4, .pointer (some ⟨w.heap.size, 0, none⟩)), (5, .pointer (some ⟨w1.heap.size, 0, none⟩)), (6, .int .i64 0), (7, .int .i64 (((a + b) % 2 : Nat) : Int)), (13, .bool false), (28, .bool (((min (2 * (a / 2)) (2 * (b / 2)) : Nat) : Int) == ((max (2 * (a / 2)) (2 * (b / 2)) : Nat) : Int)))] (by kernel_rfl) fun ρ => ?_
      refine W_region (by kernel_rfl) ?_
      refine st (by rfl) (S_val (v := .int .i64 ((min (2 * (a / 2)) (2 * (b / 2)) : Nat) : Int)) (R_load (v := .int .i64 ((min (2 * (a / 2)) (2 * (b / 2)) : Nat) : Int)) (by kernel_rfl) (by kernel_rfl) ((hB4.cell 0).trans rfl)) ?_)
      refine sg [(36, .bool (((min (2 * (a / 2)) (2 * (b / 2)) : Nat) : Int) == 0)), (34, .bool (((min (2 * (a / 2)) (2 * (b / 2)) : Nat) : Int) == 0))] (by kernel_rfl) ?_
      refine op_nil ?_
      refine W_cond (((min (2 * (a / 2)) (2 * (b / 2)) : Nat) : Int) == 0) (by kernel_rfl) (by kernel_rfl) (fun hc60 => ?_) (fun hc60 => ?_)
      · replace hc60 : ((min (2 * (a / 2)) (2 * (b / 2)) : Nat) : Int) = 0 := (eq_of_beq hc60)
        refine W_seq ?_
        refine W_region (by kernel_rfl) ?_
        refine st (by rfl) (S_val (v := .int .i64 ((max (2 * (a / 2)) (2 * (b / 2)) : Nat) : Int)) (R_load (v := .int .i64 ((max (2 * (a / 2)) (2 * (b / 2)) : Nat) : Int)) (by kernel_rfl) (by kernel_rfl) ((hB9.cell 0).trans rfl)) ?_)
        refine sg [(38, .int .i64 (IntKind.i64.wrap (BitVec.ofInt 64 ((max (2 * (a / 2)) (2 * (b / 2)) : Nat) : Int) ^^^ BitVec.ofInt 64 1).toNat))] (by kernel_rfl) ?_
        rw [GateP.not_i64 (max (2 * (a / 2)) (2 * (b / 2))) (by omega)]
        refine sg [(39, .int .i64 (((a + b) % 2 : Nat) : Int))] (by kernel_rfl) ?_
        refine sg [(40, .int .i64 (IntKind.i64.wrap (BitVec.ofInt 64 ((GateP.nt (max (2 * (a / 2)) (2 * (b / 2))) : Nat) : Int) ^^^ BitVec.ofInt 64 (((a + b) % 2 : Nat) : Int)).toNat))] (by kernel_rfl) ?_
        rw [GateP.xr_i64 (GateP.nt (max (2 * (a / 2)) (2 * (b / 2)))) ((a + b) % 2) (by have := GateP.nt_div (max (2 * (a / 2)) (2 * (b / 2))); omega) (by omega)]
        refine sg [(6, .int .i64 ((GateP.xr (GateP.nt (max (2 * (a / 2)) (2 * (b / 2)))) ((a + b) % 2) : Nat) : Int))] (by kernel_rfl) ?_
        refine op_nil ?_
        refine W_ret ?_
        exact ⟨_, Res_of (v := .int .i64 ((GateP.xr (GateP.nt (max (2 * (a / 2)) (2 * (b / 2)))) ((a + b) % 2) : Nat) : Int)) (by kernel_rfl), ⟨F, n, cs, _, rfl, hG, hMv, xor_0 hG.2 hxa hxb (by omega), by omega⟩⟩
      · replace hc60 : ((min (2 * (a / 2)) (2 * (b / 2)) : Nat) : Int) ≠ 0 := (ne_of_beq_false hc60)
        refine W_skip ?_
        refine W_seq ?_
        refine W_region (by kernel_rfl) ?_
        refine sg [(41, .pointer (some ⟨p, 0, none⟩))] (by kernel_rfl) ?_
        refine st (by rfl) (S_val (v := .int .i64 ((min (2 * (a / 2)) (2 * (b / 2)) : Nat) : Int)) (R_load (v := .int .i64 ((min (2 * (a / 2)) (2 * (b / 2)) : Nat) : Int)) (by kernel_rfl) (by kernel_rfl) ((hB4.cell 0).trans rfl)) ?_)
        refine st (by rfl) (S_val (v := .int .i64 ((max (2 * (a / 2)) (2 * (b / 2)) : Nat) : Int)) (R_load (v := .int .i64 ((max (2 * (a / 2)) (2 * (b / 2)) : Nat) : Int)) (by kernel_rfl) (by kernel_rfl) ((hB9.cell 0).trans rfl)) ?_)
        refine sg [(44, .func (.func 55) #[] #[.pointer (some ⟨w.heap.size, 0, none⟩), .pointer (some ⟨w1.heap.size, 0, none⟩)])] (by kernel_rfl) ?_
        have lt69 := hB4.lt
        have lt70 := hB9.lt
        have lt71 := hB15.lt
        refine st (by rfl) (S_call (args := [.pointer (some ⟨p, 0, none⟩), .int .i64 1, .int .i64 ((min (2 * (a / 2)) (2 * (b / 2)) : Nat) : Int), .int .i64 ((max (2 * (a / 2)) (2 * (b / 2)) : Nat) : Int), .int .i64 0, .func (.func 55) #[] #[.pointer (some ⟨w.heap.size, 0, none⟩), .pointer (some ⟨w1.heap.size, 0, none⟩)]]) (by kernel_rfl) (gate1_ok F p n (min (2 * (a / 2)) (2 * (b / 2))) (max (2 * (a / 2)) (2 * (b / 2))) (w.heap.size) (w1.heap.size) cs I _ hG hB4 hB9 nF_hB4 nF_hB9 (by omega) (by omega) (by omega)) ?_)
        rintro _ w61 ⟨F62, n63, cs64, x65, rfl, hG, hm66, hr67, hd68⟩
        have hMv := hMv.trans hm66
        have hB4 := hB4.tch hm66.1 nF_hB4
        have hB9 := hB9.tch hm66.1 nF_hB9
        have hB15 := hB15.tch hm66.1 nF_hB15
        have hxb72 := hr67.2.2.1
        replace nF_hB4 : ¬ F62 (w.heap.size) := fun e => (hm66.2 _ e).elim nF_hB4 (fun q => by omega)
        replace nF_hB9 : ¬ F62 (w1.heap.size) := fun e => (hm66.2 _ e).elim nF_hB9 (fun q => by omega)
        replace nF_hB15 : ¬ F62 (w6.heap.size) := fun e => (hm66.2 _ e).elim nF_hB15 (fun q => by omega)
        refine sg [(8, .int .i64 ((x65 : Nat) : Int))] (by kernel_rfl) ?_
        refine op_nil ?_
        refine W_seq ?_
        refine W_fg [(0, .pointer (some ⟨p, 0, none⟩)), (1, .int .i64 ((a : Nat) : Int)), (2, .int .i64 ((b : Nat) : Int)), (4, .pointer (some ⟨w.heap.size, 0, none⟩)), (5, .pointer (some ⟨w1.heap.size, 0, none⟩)), (6, .int .i64 0), (7, .int .i64 (((a + b) % 2 : Nat) : Int)), (8, .int .i64 ((x65 : Nat) : Int)), (13, .bool false), (28, .bool (((min (2 * (a / 2)) (2 * (b / 2)) : Nat) : Int) == ((max (2 * (a / 2)) (2 * (b / 2)) : Nat) : Int))), (34, .bool (((min (2 * (a / 2)) (2 * (b / 2)) : Nat) : Int) == 0))] (by kernel_rfl) fun ρ => ?_
        refine W_region (by kernel_rfl) ?_
        refine sg [(46, .int .i64 ((x65 : Nat) : Int)), (47, .int .i64 (((a + b) % 2 : Nat) : Int))] (by kernel_rfl) ?_
        refine sg [(48, .int .i64 (IntKind.i64.wrap (BitVec.ofInt 64 ((x65 : Nat) : Int) ^^^ BitVec.ofInt 64 (((a + b) % 2 : Nat) : Int)).toNat))] (by kernel_rfl) ?_
        rw [GateP.xr_i64 x65 ((a + b) % 2) (by have := hr67.2.2.1; omega) (by omega)]
        refine sg [(6, .int .i64 ((GateP.xr x65 ((a + b) % 2) : Nat) : Int))] (by kernel_rfl) ?_
        refine op_nil ?_
        refine W_ret ?_
        exact ⟨_, Res_of (v := .int .i64 ((GateP.xr x65 ((a + b) % 2) : Nat) : Int)) (by kernel_rfl), ⟨F62, n63, cs64, _, rfl, hG, hMv, xor_g hr67, by omega⟩⟩

end Go.Proofs.YtnlecdpiccgdpaaV
