/- Walks of functions of the program and of the document's texts. The conditions stand with each theorem. -/
import Derived.Test.YtnlecdpiccgdpaaJMmult60x2
import Derived.Test.YtnlecdpiccgdpaaProg
import Derived.Test.YtnlecdpiccgdpaaJMmult60x1
import Derived.Test.YtnlecdpiccgdpaaG5
set_option linter.unusedVariables false
set_option linter.unusedSimpArgs false
namespace Go.Proofs.YtnlecdpiccgdpaaV
open Go Go.RowKit Go.Proofs

set_option maxRecDepth 100000 in
theorem ite_ok (F : Nat → Prop) (p n c a b : Nat) (cs : List (List Nat)) (I : Nat → Prop) (w : World) (hG : GObj F w p n cs I) (hxc : c / 2 < n) (hxa : a / 2 < n) (hxb : b / 2 < n) (hn : n ≤ 68719475000) : Ret Try.prog 26 [.pointer (some ⟨p, 0, none⟩), .int .i64 ((c : Nat) : Int), .int .i64 ((a : Nat) : Int), .int .i64 ((b : Nat) : Int)] w fun v w' => GRet F p n cs I w 1 (fun be => ite_ (lt_ be c) (lt_ be a) (lt_ be b)) v w' := by
  have hMv := Mv.refl F w
  have hpos := hG.2.pos
  have hG0 := hG
  have hntc := GateP.nt_div c
  have hnta := GateP.nt_div a
  have hntb := GateP.nt_div b
  refine enter Try.func26 rfl rfl ?_
  refine W_seq ?_
  refine W_region (by kernel_rfl) ?_
  have hlt_ := hG.1.lt
  have hz5 := hMv.1.size
  refine st (by rfl) (S_new (v := .pointer (some ⟨w.heap.size, 0, none⟩)) (ob := .cells #[.int .i64 ((c : Nat) : Int)] 3) (by kernel_rfl) fun w1 hT2 hs3 hB4 => ?_)
  replace hB4 : Blk w1 (w.heap.size) 3 [.int .i64 ((c : Nat) : Int)] := hB4
  have hG := hG.tch0 hT2
  have hMv := hMv.then0 hT2
  have nF_hB4 : ¬ F (w.heap.size) := fun e => by have := hlt_ _ e; omega
  have hlt_ := hG.1.lt
  have hz10 := hMv.1.size
  have lt11 := hB4.lt
  refine st (by rfl) (S_new (v := .pointer (some ⟨w1.heap.size, 0, none⟩)) (ob := .cells #[.int .i64 ((a : Nat) : Int)] 3) (by kernel_rfl) fun w6 hT7 hs8 hB9 => ?_)
  replace hB9 : Blk w6 (w1.heap.size) 3 [.int .i64 ((a : Nat) : Int)] := hB9
  have hG := hG.tch0 hT7
  have hMv := hMv.then0 hT7
  have hB4 := hB4.tch0 hT7
  have nF_hB9 : ¬ F (w1.heap.size) := fun e => by have := hlt_ _ e; omega
  have hlt_ := hG.1.lt
  have hz16 := hMv.1.size
  have lt17 := hB4.lt
  have lt18 := hB9.lt
  refine st (by rfl) (S_new (v := .pointer (some ⟨w6.heap.size, 0, none⟩)) (ob := .cells #[.int .i64 ((b : Nat) : Int)] 3) (by kernel_rfl) fun w12 hT13 hs14 hB15 => ?_)
  replace hB15 : Blk w12 (w6.heap.size) 3 [.int .i64 ((b : Nat) : Int)] := hB15
  have hG := hG.tch0 hT13
  have hMv := hMv.then0 hT13
  have hB4 := hB4.tch0 hT13
  have hB9 := hB9.tch0 hT13
  have nF_hB15 : ¬ F (w6.heap.size) := fun e => by have := hlt_ _ e; omega
  refine sg [(8, .int .i64 0)] (by kernel_rfl) ?_
  refine op_nil ?_
  refine W_seq ?_
  refine W_seq ?_
  refine W_region (by kernel_rfl) ?_
  refine sg [(9, .pointer (some ⟨p, 0, none⟩))] (by kernel_rfl) ?_
  refine st (by rfl) (S_val (v := .int .i64 ((c : Nat) : Int)) (R_load (v := .int .i64 ((c : Nat) : Int)) (by kernel_rfl) (by kernel_rfl) ((hB4.cell 0).trans rfl)) ?_)
  refine st (by rfl) (S_val (v := .int .i64 ((a : Nat) : Int)) (R_load (v := .int .i64 ((a : Nat) : Int)) (by kernel_rfl) (by kernel_rfl) ((hB9.cell 0).trans rfl)) ?_)
  refine st (by rfl) (S_val (v := .int .i64 ((b : Nat) : Int)) (R_load (v := .int .i64 ((b : Nat) : Int)) (by kernel_rfl) (by kernel_rfl) ((hB15.cell 0).trans rfl)) ?_)
  have hlt_ := hG.1.lt
  have hz23 := hMv.1.size
  have lt24 := hB4.lt
  have lt25 := hB9.lt
  have lt26 := hB15.lt
  refine st (by rfl) (S_new (v := .slice (some ⟨w12.heap.size, 0, none⟩) 3 3) (ob := .cells #[.int .i64 ((c : Nat) : Int), .int .i64 ((a : Nat) : Int), .int .i64 ((b : Nat) : Int)] 3) (by kernel_rfl) fun w19 hT20 hs21 hB22 => ?_)
  replace hB22 : Blk w19 (w12.heap.size) 3 [.int .i64 ((c : Nat) : Int), .int .i64 ((a : Nat) : Int), .int .i64 ((b : Nat) : Int)] := hB22
  have hG := hG.tch0 hT20
  have hMv := hMv.then0 hT20
  have hB4 := hB4.tch0 hT20
  have hB9 := hB9.tch0 hT20
  have hB15 := hB15.tch0 hT20
  have nF_hB22 : ¬ F (w12.heap.size) := fun e => by have := hlt_ _ e; omega
  refine st (by rfl) (S_call (args := [.pointer (some ⟨p, 0, none⟩), .slice (some ⟨w12.heap.size, 0, none⟩) 3 3]) (by kernel_rfl) (obad_ok F p n (w12.heap.size) 3 cs I [((c : Nat) : Int), ((a : Nat) : Int), ((b : Nat) : Int)] false _ hG (show Blk _ _ 3 (ints .i64 [((c : Nat) : Int), ((a : Nat) : Int), ((b : Nat) : Int)]) from hB22) rfl (by omega) (by intro x hx; simp only [List.mem_cons, List.not_mem_nil, or_false] at hx; omega) (by simp [badB, badI]; omega)) ?_)
  rintro _ w27 ⟨rfl, hT28⟩
  have hG := hG.tch0 hT28
  have hMv := hMv.then0 hT28
  have hB4 := hB4.tch0 hT28
  have hB9 := hB9.tch0 hT28
  have hB15 := hB15.tch0 hT28
  have hB22 := hB22.tch0 hT28
  refine op_nil ?_
  refine W_cond false (by kernel_rfl) (by kernel_rfl) (fun h => nomatch h) (fun _ => ?_)
  refine W_skip ?_
  refine W_seq ?_
  refine W_seq ?_
  refine W_fg [(0, .pointer (some ⟨p, 0, none⟩)), (1, .int .i64 ((c : Nat) : Int)), (2, .int .i64 ((a : Nat) : Int)), (3, .int .i64 ((b : Nat) : Int)), (5, .pointer (some ⟨w.heap.size, 0, none⟩)), (6, .pointer (some ⟨w1.heap.size, 0, none⟩)), (7, .pointer (some ⟨w6.heap.size, 0, none⟩)), (8, .int .i64 0), (14, .bool false)] (by kernel_rfl) fun ρ => ?_
  refine W_region (by kernel_rfl) ?_
  refine st (by rfl) (S_val (v := .int .i64 ((c : Nat) : Int)) (R_load (v := .int .i64 ((c : Nat) : Int)) (by kernel_rfl) (by kernel_rfl) ((hB4.cell 0).trans rfl)) ?_)
  refine st (by rfl) (S_call (args := [.int .i64 ((c : Nat) : Int)]) (by kernel_rfl) (neg_ok c _ (by omega)) ?_)
  rintro _ w29 ⟨rfl, hT30⟩
  have hG := hG.tch0 hT30
  have hMv := hMv.then0 hT30
  have hB4 := hB4.tch0 hT30
  have hB9 := hB9.tch0 hT30
  have hB15 := hB15.tch0 hT30
  have hB22 := hB22.tch0 hT30
  refine op_nil ?_
  refine W_cond (decide (c % 2 = 1)) (by kernel_rfl) (by kernel_rfl) (fun hc31 => ?_) (fun hc31 => ?_)
  · replace hc31 : c % 2 = 1 := (of_decide_eq_true hc31)
    refine W_drawT (fun w' => Blk w' (w1.heap.size) 3 [.int .i64 ((a : Nat) : Int)] ∧ Blk w' (w6.heap.size) 3 [.int .i64 ((b : Nat) : Int)]) 5 (by kernel_rfl) (by kernel_rfl) (by kernel_rfl) fun w32 hT33 hh34 => ?_
    have hG := hG.tch0 hT33
    have hMv := hMv.then0 hT33
    have hB4 := hB4.tch0 hT33
    have hB9 := hB9.tch0 hT33
    have hB15 := hB15.tch0 hT33
    have hB22 := hB22.tch0 hT33
    refine t_val (v := .int .i64 ((b : Nat) : Int)) 2 (by kernel_rfl) (by rfl) (by kernel_rfl) (by kernel_rfl) (by kernel_rfl) (fun w' hs => by obtain ⟨hB9, hB15⟩ := hs; exact R_load (v := .int .i64 ((b : Nat) : Int)) (by kernel_rfl) (by kernel_rfl) ((hB15.cell 0).trans rfl)) ⟨hB9, hB15⟩ ?_
    refine t_val (v := .int .i64 ((a : Nat) : Int)) 3 (by kernel_rfl) (by rfl) (by kernel_rfl) (by kernel_rfl) (by kernel_rfl) (fun w' hs => by obtain ⟨hB9, hB15⟩ := hs; exact R_load (v := .int .i64 ((a : Nat) : Int)) (by kernel_rfl) (by kernel_rfl) ((hB9.cell 0).trans rfl)) ⟨hB9, hB15⟩ ?_
    refine t_one 0 (by kernel_rfl) (by rfl) (by kernel_rfl) (S_val (v := .int .i64 ((c : Nat) : Int)) (R_load (v := .int .i64 ((c : Nat) : Int)) (by kernel_rfl) (by kernel_rfl) ((hB4.cell 0).trans rfl)) ?_)
    refine ⟨fun _ => ⟨hB9, hB15⟩, ?_⟩
    refine t_one 1 (by kernel_rfl) (by rfl) (by kernel_rfl) (S_call (args := [.int .i64 ((c : Nat) : Int)]) (by kernel_rfl) (not_ok c _ (by omega)) ?_)
    rintro _ w35 ⟨rfl, hT36⟩
    have hG := hG.tch0 hT36
    have hMv := hMv.then0 hT36
    have hB4 := hB4.tch0 hT36
    have hB9 := hB9.tch0 hT36
    have hB15 := hB15.tch0 hT36
    have hB22 := hB22.tch0 hT36
    have hnt37 := GateP.nt_div c
    refine ⟨fun _ => ⟨hB9, hB15⟩, ?_⟩
    refine t_one 4 (by kernel_rfl) (by rfl) (by kernel_rfl) (S_store (b := w.heap.size) (j := 0) (v := .int .i64 ((GateP.nt c : Nat) : Int)) (by kernel_rfl) (by kernel_rfl) (by kernel_rfl) (by rfl) hB4 (by simp) fun w38 hT39 hs40 hB4' => ?_)
    have hG := hG.tchS hT39 (fun c e q => by cases e; exact nF_hB4 q)
    have hMv := hMv.newst hT39 (by omega)
    have hB9 := hB9.tch hT39 (fun e => by have : w1.heap.size = w.heap.size := e; omega)
    have hB15 := hB15.tch hT39 (fun e => by have : w6.heap.size = w.heap.size := e; omega)
    have hB22 := hB22.tch hT39 (fun e => by have : w12.heap.size = w.heap.size := e; omega)
    replace hB4 : Blk w38 w.heap.size 3 [.int .i64 ((GateP.nt c : Nat) : Int)] := hB4'
    refine ⟨fun _ => ⟨hB9, hB15⟩, ?_⟩
    refine t_one 5 (by kernel_rfl) (by rfl) (by kernel_rfl) (S_store (b := w1.heap.size) (j := 0) (v := .int .i64 ((b : Nat) : Int)) (by kernel_rfl) (by kernel_rfl) (by kernel_rfl) (by rfl) hB9 (by simp) fun w41 hT42 hs43 hB9' => ?_)
    have hG := hG.tchS hT42 (fun c e q => by cases e; exact nF_hB9 q)
    have hMv := hMv.newst hT42 (by omega)
    have hB4 := hB4.tch hT42 (fun e => by have : w.heap.size = w1.heap.size := e; omega)
    have hB15 := hB15.tch hT42 (fun e => by have : w6.heap.size = w1.heap.size := e; omega)
    have hB22 := hB22.tch hT42 (fun e => by have : w12.heap.size = w1.heap.size := e; omega)
    replace hB9 : Blk w41 w1.heap.size 3 [.int .i64 ((b : Nat) : Int)] := hB9'
    refine ⟨fun h => absurd h (by decide), ?_⟩
    refine t_one 6 (by kernel_rfl) (by rfl) (by kernel_rfl) (S_store (b := w6.heap.size) (j := 0) (v := .int .i64 ((a : Nat) : Int)) (by kernel_rfl) (by kernel_rfl) (by kernel_rfl) (by rfl) hB15 (by simp) fun w44 hT45 hs46 hB15' => ?_)
    have hG := hG.tchS hT45 (fun c e q => by cases e; exact nF_hB15 q)
    have hMv := hMv.newst hT45 (by omega)
    have hB4 := hB4.tch hT45 (fun e => by have : w.heap.size = w6.heap.size := e; omega)
    have hB9 := hB9.tch hT45 (fun e => by have : w1.heap.size = w6.heap.size := e; omega)
    have hB22 := hB22.tch hT45 (fun e => by have : w12.heap.size = w6.heap.size := e; omega)
    replace hB15 : Blk w44 w6.heap.size 3 [.int .i64 ((a : Nat) : Int)] := hB15'
    refine ⟨fun h => absurd h (by decide), ?_⟩
    refine t_done (by kernel_rfl) ?_
    refine W_seq ?_
    refine W_block ?_
    refine W_seq ?_
    refine W_seq ?_
    refine W_region (by kernel_rfl) ?_
    refine st (by rfl) (S_val (v := .int .i64 ((GateP.nt c : Nat) : Int)) (R_load (v := .int .i64 ((GateP.nt c : Nat) : Int)) (by kernel_rfl) (by kernel_rfl) ((hB4.cell 0).trans rfl)) ?_)
    refine sg [(23, .bool (((GateP.nt c : Nat) : Int) == 0)), (21, .bool (((GateP.nt c : Nat) : Int) == 0))] (by kernel_rfl) ?_
    refine op_nil ?_
    refine W_cond (((GateP.nt c : Nat) : Int) == 0) (by kernel_rfl) (by kernel_rfl) (fun hc47 => ?_) (fun hc47 => ?_)
    · replace hc47 : ((GateP.nt c : Nat) : Int) = 0 := (eq_of_beq hc47)
      refine W_skip ?_
      refine W_cond (((GateP.nt c : Nat) : Int) == 0) (by kernel_rfl) (by kernel_rfl) (fun hc48 => ?_) (fun hc48 => ?_)
      · replace hc48 : ((GateP.nt c : Nat) : Int) = 0 := (eq_of_beq hc48)
        refine W_seq ?_
        refine W_fg [(0, .pointer (some ⟨p, 0, none⟩)), (1, .int .i64 ((c : Nat) : Int)), (2, .int .i64 ((a : Nat) : Int)), (3, .int .i64 ((b : Nat) : Int)), (5, .pointer (some ⟨w.heap.size, 0, none⟩)), (6, .pointer (some ⟨w1.heap.size, 0, none⟩)), (7, .pointer (some ⟨w6.heap.size, 0, none⟩)), (8, .int .i64 0), (14, .bool false), (16, .bool (decide (c % 2 = 1))), (21, .bool (((GateP.nt c : Nat) : Int) == 0))] (by kernel_rfl) fun ρ => ?_
        refine W_region (by kernel_rfl) ?_
        refine st (by rfl) (S_val (v := .int .i64 ((b : Nat) : Int)) (R_load (v := .int .i64 ((b : Nat) : Int)) (by kernel_rfl) (by kernel_rfl) ((hB9.cell 0).trans rfl)) ?_)
        refine sg [(8, .int .i64 ((b : Nat) : Int))] (by kernel_rfl) ?_
        refine op_nil ?_
        refine W_ret ?_
        exact ⟨_, Res_of (v := .int .i64 ((b : Nat) : Int)) (by kernel_rfl), ⟨F, n, cs, _, rfl, hG, hMv, (ite_sw (ite_a (c := GateP.nt c) (a := b) (b := a) hG0.2 (by omega) (by omega))), by omega⟩⟩
      · replace hc48 : ((GateP.nt c : Nat) : Int) ≠ 0 := (ne_of_beq_false hc48)
        exfalso; omega
    · replace hc47 : ((GateP.nt c : Nat) : Int) ≠ 0 := (ne_of_beq_false hc47)
      refine W_fg [(0, .pointer (some ⟨p, 0, none⟩)), (1, .int .i64 ((c : Nat) : Int)), (2, .int .i64 ((a : Nat) : Int)), (3, .int .i64 ((b : Nat) : Int)), (5, .pointer (some ⟨w.heap.size, 0, none⟩)), (6, .pointer (some ⟨w1.heap.size, 0, none⟩)), (7, .pointer (some ⟨w6.heap.size, 0, none⟩)), (8, .int .i64 0), (14, .bool false), (16, .bool (decide (c % 2 = 1))), (21, .bool (((GateP.nt c : Nat) : Int) == 0))] (by kernel_rfl) fun ρ => ?_
      refine W_region (by kernel_rfl) ?_
      refine st (by rfl) (S_val (v := .int .i64 ((b : Nat) : Int)) (R_load (v := .int .i64 ((b : Nat) : Int)) (by kernel_rfl) (by kernel_rfl) ((hB9.cell 0).trans rfl)) ?_)
      refine st (by rfl) (S_val (v := .int .i64 ((a : Nat) : Int)) (R_load (v := .int .i64 ((a : Nat) : Int)) (by kernel_rfl) (by kernel_rfl) ((hB15.cell 0).trans rfl)) ?_)
      refine sg [(26, .bool (((b : Nat) : Int) == ((a : Nat) : Int))), (21, .bool (((b : Nat) : Int) == ((a : Nat) : Int)))] (by kernel_rfl) ?_
      refine op_nil ?_
      refine W_cond (((b : Nat) : Int) == ((a : Nat) : Int)) (by kernel_rfl) (by kernel_rfl) (fun hc49 => ?_) (fun hc49 => ?_)
      · replace hc49 : ((b : Nat) : Int) = ((a : Nat) : Int) := (eq_of_beq hc49)
        refine W_seq ?_
        refine W_region (by kernel_rfl) ?_
        refine st (by rfl) (S_val (v := .int .i64 ((b : Nat) : Int)) (R_load (v := .int .i64 ((b : Nat) : Int)) (by kernel_rfl) (by kernel_rfl) ((hB9.cell 0).trans rfl)) ?_)
        refine sg [(8, .int .i64 ((b : Nat) : Int))] (by kernel_rfl) ?_
        refine op_nil ?_
        refine W_ret ?_
        exact ⟨_, Res_of (v := .int .i64 ((b : Nat) : Int)) (by kernel_rfl), ⟨F, n, cs, _, rfl, hG, hMv, (ite_sw (ite_a (c := GateP.nt c) (a := b) (b := a) hG0.2 (by omega) (by omega))), by omega⟩⟩
      · replace hc49 : ((b : Nat) : Int) ≠ ((a : Nat) : Int) := (ne_of_beq_false hc49)
        refine W_seq ?_
        refine W_region (by kernel_rfl) ?_
        refine st (by rfl) (S_val (v := .int .i64 ((b : Nat) : Int)) (R_load (v := .int .i64 ((b : Nat) : Int)) (by kernel_rfl) (by kernel_rfl) ((hB9.cell 0).trans rfl)) ?_)
        refine sg [(30, .bool (((b : Nat) : Int) == 0)), (31, .bool (((b : Nat) : Int) == 0))] (by kernel_rfl) ?_
        cases hb50 : ((b : Nat) : Int) == 0
        · replace hb50 : ((b : Nat) : Int) ≠ 0 := (ne_of_beq_false hb50)
          refine st (by kernel_rfl) (S_val (v := .int .i64 ((b : Nat) : Int)) (R_load (v := .int .i64 ((b : Nat) : Int)) (by kernel_rfl) (by kernel_rfl) ((hB9.cell 0).trans rfl)) ?_)
          refine st (by kernel_rfl) (S_val (v := .int .i64 ((GateP.nt c : Nat) : Int)) (R_load (v := .int .i64 ((GateP.nt c : Nat) : Int)) (by kernel_rfl) (by kernel_rfl) ((hB4.cell 0).trans rfl)) ?_)
          refine sg [(34, .bool (((b : Nat) : Int) == ((GateP.nt c : Nat) : Int))), (35, .bool (((b : Nat) : Int) == ((GateP.nt c : Nat) : Int))), (28, .bool (((b : Nat) : Int) == ((GateP.nt c : Nat) : Int)))] (by kernel_rfl) ?_
          refine op_nil ?_
          refine W_cond (((b : Nat) : Int) == ((GateP.nt c : Nat) : Int)) (by kernel_rfl) (by kernel_rfl) (fun hc51 => ?_) (fun hc51 => ?_)
          · replace hc51 : ((b : Nat) : Int) = ((GateP.nt c : Nat) : Int) := (eq_of_beq hc51)
            refine W_seq ?_
            refine W_fg [(0, .pointer (some ⟨p, 0, none⟩)), (1, .int .i64 ((c : Nat) : Int)), (2, .int .i64 ((a : Nat) : Int)), (3, .int .i64 ((b : Nat) : Int)), (5, .pointer (some ⟨w.heap.size, 0, none⟩)), (6, .pointer (some ⟨w1.heap.size, 0, none⟩)), (7, .pointer (some ⟨w6.heap.size, 0, none⟩)), (8, .int .i64 0), (14, .bool false), (16, .bool (decide (c % 2 = 1))), (21, .bool (((b : Nat) : Int) == ((a : Nat) : Int))), (28, .bool (((b : Nat) : Int) == ((GateP.nt c : Nat) : Int)))] (by kernel_rfl) fun ρ => ?_
            refine W_region (by kernel_rfl) ?_
            refine sg [(36, .pointer (some ⟨p, 0, none⟩))] (by kernel_rfl) ?_
            refine st (by rfl) (S_val (v := .int .i64 ((GateP.nt c : Nat) : Int)) (R_load (v := .int .i64 ((GateP.nt c : Nat) : Int)) (by kernel_rfl) (by kernel_rfl) ((hB4.cell 0).trans rfl)) ?_)
            refine st (by rfl) (S_val (v := .int .i64 ((a : Nat) : Int)) (R_load (v := .int .i64 ((a : Nat) : Int)) (by kernel_rfl) (by kernel_rfl) ((hB15.cell 0).trans rfl)) ?_)
            have lt60 := hB4.lt
            have lt61 := hB9.lt
            have lt62 := hB15.lt
            have lt63 := hB22.lt
            refine st (by rfl) (S_call (args := [.pointer (some ⟨p, 0, none⟩), .int .i64 ((GateP.nt c : Nat) : Int), .int .i64 ((a : Nat) : Int)]) (by kernel_rfl) (or_ok F p n (GateP.nt c) a cs I _ hG (by omega) (by omega) (by omega)) ?_)
            rintro _ w52 ⟨F53, n54, cs55, x56, rfl, hG, hm57, hr58, hd59⟩
            have hMv := hMv.trans hm57
            have hB4 := hB4.tch hm57.1 nF_hB4
            have hB9 := hB9.tch hm57.1 nF_hB9
            have hB15 := hB15.tch hm57.1 nF_hB15
            have hB22 := hB22.tch hm57.1 nF_hB22
            have hle65 := hr58.1
            have hxb64 := hr58.2.2.1
            replace nF_hB4 : ¬ F53 (w.heap.size) := fun e => (hm57.2 _ e).elim nF_hB4 (fun q => by omega)
            replace nF_hB9 : ¬ F53 (w1.heap.size) := fun e => (hm57.2 _ e).elim nF_hB9 (fun q => by omega)
            replace nF_hB15 : ¬ F53 (w6.heap.size) := fun e => (hm57.2 _ e).elim nF_hB15 (fun q => by omega)
            replace nF_hB22 : ¬ F53 (w12.heap.size) := fun e => (hm57.2 _ e).elim nF_hB22 (fun q => by omega)
            refine sg [(8, .int .i64 ((x56 : Nat) : Int))] (by kernel_rfl) ?_
            refine op_nil ?_
            refine W_ret ?_
            exact ⟨_, Res_of (v := .int .i64 ((x56 : Nat) : Int)) (by kernel_rfl), ⟨F53, n54, cs55, _, rfl, hG, hMv, (ite_sw (by first | exact ite_1 (c := GateP.nt c) (a := b) (b := a) hG0.2 hr58 (by omega) | exact ite_3 (c := GateP.nt c) (a := b) (b := a) hG0.2 hr58 (by omega))), by omega⟩⟩
          · replace hc51 : ((b : Nat) : Int) ≠ ((GateP.nt c : Nat) : Int) := (ne_of_beq_false hc51)
            refine W_seq ?_
            refine W_fg [(0, .pointer (some ⟨p, 0, none⟩)), (1, .int .i64 ((c : Nat) : Int)), (2, .int .i64 ((a : Nat) : Int)), (3, .int .i64 ((b : Nat) : Int)), (5, .pointer (some ⟨w.heap.size, 0, none⟩)), (6, .pointer (some ⟨w1.heap.size, 0, none⟩)), (7, .pointer (some ⟨w6.heap.size, 0, none⟩)), (8, .int .i64 0), (14, .bool false), (16, .bool (decide (c % 2 = 1))), (21, .bool (((b : Nat) : Int) == ((a : Nat) : Int))), (28, .bool (((b : Nat) : Int) == ((GateP.nt c : Nat) : Int)))] (by kernel_rfl) fun ρ => ?_
            refine W_draw (fun w' => Blk w' (w.heap.size) 3 [.int .i64 ((GateP.nt c : Nat) : Int)] ∧ Blk w' (w1.heap.size) 3 [.int .i64 ((b : Nat) : Int)] ∧ Blk w' (w6.heap.size) 3 [.int .i64 ((a : Nat) : Int)] ∧ Blk w' (w12.heap.size) 3 [.int .i64 ((c : Nat) : Int), .int .i64 ((a : Nat) : Int), .int .i64 ((b : Nat) : Int)]) (by kernel_rfl) (by kernel_rfl) (by kernel_rfl) fun w66 hT67 hh68 => ?_
            have hG := hG.tch0 hT67
            have hMv := hMv.then0 hT67
            have hB4 := hB4.tch0 hT67
            have hB9 := hB9.tch0 hT67
            have hB15 := hB15.tch0 hT67
            have hB22 := hB22.tch0 hT67
            refine d_val (v := .int .i64 ((b : Nat) : Int)) 0 (by rfl) (by kernel_rfl) (by kernel_rfl) (by kernel_rfl) (fun w' hs => by obtain ⟨hB4, hB9, hB15, hB22⟩ := hs; exact R_load (v := .int .i64 ((b : Nat) : Int)) (by kernel_rfl) (by kernel_rfl) ((hB9.cell 0).trans rfl)) ⟨hB4, hB9, hB15, hB22⟩ ?_
            refine dtk [1, 2] #[true, true, true, false, false, false, false, false, false] [(42, .bool (((b : Nat) : Int) == 1)), (43, .bool (((b : Nat) : Int) == 1))] ⟨hB4, hB9, hB15, hB22⟩ (by kernel_rfl) ?_
            cases hb69 : ((b : Nat) : Int) == 1
            · replace hb69 : ((b : Nat) : Int) ≠ 1 := (ne_of_beq_false hb69)
              refine d_val (v := .int .i64 ((b : Nat) : Int)) 3 (by rfl) (by kernel_rfl) (by kernel_rfl) (by kernel_rfl) (fun w' hs => by obtain ⟨hB4, hB9, hB15, hB22⟩ := hs; exact R_load (v := .int .i64 ((b : Nat) : Int)) (by kernel_rfl) (by kernel_rfl) ((hB9.cell 0).trans rfl)) ⟨hB4, hB9, hB15, hB22⟩ ?_
              refine d_val (v := .int .i64 ((GateP.nt c : Nat) : Int)) 4 (by rfl) (by kernel_rfl) (by kernel_rfl) (by kernel_rfl) (fun w' hs => by obtain ⟨hB4, hB9, hB15, hB22⟩ := hs; exact R_load (v := .int .i64 ((GateP.nt c : Nat) : Int)) (by kernel_rfl) (by kernel_rfl) ((hB4.cell 0).trans rfl)) ⟨hB4, hB9, hB15, hB22⟩ ?_
              refine d_one 5 (by kernel_rfl) (by rfl) (by kernel_rfl) (S_call (args := [.int .i64 ((GateP.nt c : Nat) : Int)]) (by kernel_rfl) (not_ok (GateP.nt c) _ (by omega)) ?_)
              rintro _ w70 ⟨rfl, hT71⟩
              have hG := hG.tch0 hT71
              have hMv := hMv.then0 hT71
              have hB4 := hB4.tch0 hT71
              have hB9 := hB9.tch0 hT71
              have hB15 := hB15.tch0 hT71
              have hB22 := hB22.tch0 hT71
              have hnt72 := GateP.nt_div (GateP.nt c)
              refine ⟨⟨hB4, hB9, hB15, hB22⟩, ?_⟩
              refine dtk [6, 7, 8] #[true, true, true, true, true, true, true, true, true] [(47, .bool (((b : Nat) : Int) == ((GateP.nt (GateP.nt c) : Nat) : Int))), (48, .bool (((b : Nat) : Int) == ((GateP.nt (GateP.nt c) : Nat) : Int))), (40, .bool (((b : Nat) : Int) == ((GateP.nt (GateP.nt c) : Nat) : Int)))] ⟨hB4, hB9, hB15, hB22⟩ (by kernel_rfl) ?_
              refine d_done (by kernel_rfl) ?_
              refine W_cond (((b : Nat) : Int) == ((GateP.nt (GateP.nt c) : Nat) : Int)) (by kernel_rfl) (by kernel_rfl) (fun hc73 => ?_) (fun hc73 => ?_)
              · replace hc73 : ((b : Nat) : Int) = ((GateP.nt (GateP.nt c) : Nat) : Int) := (eq_of_beq hc73)
                refine W_seq ?_
                refine W_fg [(0, .pointer (some ⟨p, 0, none⟩)), (1, .int .i64 ((c : Nat) : Int)), (2, .int .i64 ((a : Nat) : Int)), (3, .int .i64 ((b : Nat) : Int)), (5, .pointer (some ⟨w.heap.size, 0, none⟩)), (6, .pointer (some ⟨w1.heap.size, 0, none⟩)), (7, .pointer (some ⟨w6.heap.size, 0, none⟩)), (8, .int .i64 0), (14, .bool false), (16, .bool (decide (c % 2 = 1))), (21, .bool (((b : Nat) : Int) == ((a : Nat) : Int))), (28, .bool (((b : Nat) : Int) == ((GateP.nt c : Nat) : Int))), (40, .bool (((b : Nat) : Int) == ((GateP.nt (GateP.nt c) : Nat) : Int)))] (by kernel_rfl) fun ρ => ?_
                refine W_draw (fun w' => Blk w' (w.heap.size) 3 [.int .i64 ((GateP.nt c : Nat) : Int)] ∧ Blk w' (w1.heap.size) 3 [.int .i64 ((b : Nat) : Int)] ∧ Blk w' (w6.heap.size) 3 [.int .i64 ((a : Nat) : Int)] ∧ Blk w' (w12.heap.size) 3 [.int .i64 ((c : Nat) : Int), .int .i64 ((a : Nat) : Int), .int .i64 ((b : Nat) : Int)]) (by kernel_rfl) (by kernel_rfl) (by kernel_rfl) fun w74 hT75 hh76 => ?_
                have hG := hG.tch0 hT75
                have hMv := hMv.then0 hT75
                have hB4 := hB4.tch0 hT75
                have hB9 := hB9.tch0 hT75
                have hB15 := hB15.tch0 hT75
                have hB22 := hB22.tch0 hT75
                refine dtk [0] #[true, false, false, false, false, false] [(49, .pointer (some ⟨p, 0, none⟩))] ⟨hB4, hB9, hB15, hB22⟩ (by kernel_rfl) ?_
                refine d_val (v := .int .i64 ((GateP.nt c : Nat) : Int)) 1 (by rfl) (by kernel_rfl) (by kernel_rfl) (by kernel_rfl) (fun w' hs => by obtain ⟨hB4, hB9, hB15, hB22⟩ := hs; exact R_load (v := .int .i64 ((GateP.nt c : Nat) : Int)) (by kernel_rfl) (by kernel_rfl) ((hB4.cell 0).trans rfl)) ⟨hB4, hB9, hB15, hB22⟩ ?_
                refine d_val (v := .int .i64 ((a : Nat) : Int)) 3 (by rfl) (by kernel_rfl) (by kernel_rfl) (by kernel_rfl) (fun w' hs => by obtain ⟨hB4, hB9, hB15, hB22⟩ := hs; exact R_load (v := .int .i64 ((a : Nat) : Int)) (by kernel_rfl) (by kernel_rfl) ((hB15.cell 0).trans rfl)) ⟨hB4, hB9, hB15, hB22⟩ ?_
                refine d_one 2 (by kernel_rfl) (by rfl) (by kernel_rfl) (S_call (args := [.int .i64 ((GateP.nt c : Nat) : Int)]) (by kernel_rfl) (not_ok (GateP.nt c) _ (by omega)) ?_)
                rintro _ w77 ⟨rfl, hT78⟩
                have hG := hG.tch0 hT78
                have hMv := hMv.then0 hT78
                have hB4 := hB4.tch0 hT78
                have hB9 := hB9.tch0 hT78
                have hB15 := hB15.tch0 hT78
                have hB22 := hB22.tch0 hT78
                have hnt79 := GateP.nt_div (GateP.nt c)
                refine ⟨⟨hB4, hB9, hB15, hB22⟩, ?_⟩
                have lt88 := hB4.lt
                have lt89 := hB9.lt
                have lt90 := hB15.lt
                have lt91 := hB22.lt
                refine d_one 4 (by kernel_rfl) (by rfl) (by kernel_rfl) (S_call (args := [.pointer (some ⟨p, 0, none⟩), .int .i64 ((GateP.nt (GateP.nt c) : Nat) : Int), .int .i64 ((a : Nat) : Int)]) (by kernel_rfl) (and_ok F p n (GateP.nt (GateP.nt c)) a cs I _ hG (by omega) (by omega) (by omega)) ?_)
                rintro _ w80 ⟨F81, n82, cs83, x84, rfl, hG, hm85, hr86, hd87⟩
                have hMv := hMv.trans hm85
                have hB4 := hB4.tch hm85.1 nF_hB4
                have hB9 := hB9.tch hm85.1 nF_hB9
                have hB15 := hB15.tch hm85.1 nF_hB15
                have hB22 := hB22.tch hm85.1 nF_hB22
                have hle93 := hr86.1
                have hxb92 := hr86.2.2.1
                replace nF_hB4 : ¬ F81 (w.heap.size) := fun e => (hm85.2 _ e).elim nF_hB4 (fun q => by omega)
                replace nF_hB9 : ¬ F81 (w1.heap.size) := fun e => (hm85.2 _ e).elim nF_hB9 (fun q => by omega)
                replace nF_hB15 : ¬ F81 (w6.heap.size) := fun e => (hm85.2 _ e).elim nF_hB15 (fun q => by omega)
                replace nF_hB22 : ¬ F81 (w12.heap.size) := fun e => (hm85.2 _ e).elim nF_hB22 (fun q => by omega)
                refine ⟨⟨hB4, hB9, hB15, hB22⟩, ?_⟩
                refine dtk [5] #[true, true, true, true, true, true] [(8, .int .i64 ((x84 : Nat) : Int))] ⟨hB4, hB9, hB15, hB22⟩ (by kernel_rfl) ?_
                refine d_done (by kernel_rfl) ?_
                refine W_ret ?_
                exact ⟨_, Res_of (v := .int .i64 ((x84 : Nat) : Int)) (by kernel_rfl), ⟨F81, n82, cs83, _, rfl, hG, hMv, (ite_sw (by first | exact ite_2 (c := GateP.nt c) (a := b) (b := a) hG0.2 hr86 (by omega) | exact ite_4 (c := GateP.nt c) (a := b) (b := a) hG0.2 hr86 (by omega))), by omega⟩⟩
              · replace hc73 : ((b : Nat) : Int) ≠ ((GateP.nt (GateP.nt c) : Nat) : Int) := (ne_of_beq_false hc73)
                refine W_seq ?_
                refine W_fg [(0, .pointer (some ⟨p, 0, none⟩)), (1, .int .i64 ((c : Nat) : Int)), (2, .int .i64 ((a : Nat) : Int)), (3, .int .i64 ((b : Nat) : Int)), (5, .pointer (some ⟨w.heap.size, 0, none⟩)), (6, .pointer (some ⟨w1.heap.size, 0, none⟩)), (7, .pointer (some ⟨w6.heap.size, 0, none⟩)), (8, .int .i64 0), (14, .bool false), (16, .bool (decide (c % 2 = 1))), (21, .bool (((b : Nat) : Int) == ((a : Nat) : Int))), (28, .bool (((b : Nat) : Int) == ((GateP.nt c : Nat) : Int))), (40, .bool (((b : Nat) : Int) == ((GateP.nt (GateP.nt c) : Nat) : Int)))] (by kernel_rfl) fun ρ => ?_
                refine W_draw (fun w' => Blk w' (w.heap.size) 3 [.int .i64 ((GateP.nt c : Nat) : Int)] ∧ Blk w' (w1.heap.size) 3 [.int .i64 ((b : Nat) : Int)] ∧ Blk w' (w6.heap.size) 3 [.int .i64 ((a : Nat) : Int)] ∧ Blk w' (w12.heap.size) 3 [.int .i64 ((c : Nat) : Int), .int .i64 ((a : Nat) : Int), .int .i64 ((b : Nat) : Int)]) (by kernel_rfl) (by kernel_rfl) (by kernel_rfl) fun w94 hT95 hh96 => ?_
                have hG := hG.tch0 hT95
                have hMv := hMv.then0 hT95
                have hB4 := hB4.tch0 hT95
                have hB9 := hB9.tch0 hT95
                have hB15 := hB15.tch0 hT95
                have hB22 := hB22.tch0 hT95
                refine d_val (v := .int .i64 ((a : Nat) : Int)) 0 (by rfl) (by kernel_rfl) (by kernel_rfl) (by kernel_rfl) (fun w' hs => by obtain ⟨hB4, hB9, hB15, hB22⟩ := hs; exact R_load (v := .int .i64 ((a : Nat) : Int)) (by kernel_rfl) (by kernel_rfl) ((hB15.cell 0).trans rfl)) ⟨hB4, hB9, hB15, hB22⟩ ?_
                refine dtk [1, 2] #[true, true, true, false, false, false, false, false, false] [(56, .bool (((a : Nat) : Int) == 0)), (57, .bool (((a : Nat) : Int) == 0))] ⟨hB4, hB9, hB15, hB22⟩ (by kernel_rfl) ?_
                cases hb97 : ((a : Nat) : Int) == 0
                · replace hb97 : ((a : Nat) : Int) ≠ 0 := (ne_of_beq_false hb97)
                  refine d_val (v := .int .i64 ((a : Nat) : Int)) 3 (by rfl) (by kernel_rfl) (by kernel_rfl) (by kernel_rfl) (fun w' hs => by obtain ⟨hB4, hB9, hB15, hB22⟩ := hs; exact R_load (v := .int .i64 ((a : Nat) : Int)) (by kernel_rfl) (by kernel_rfl) ((hB15.cell 0).trans rfl)) ⟨hB4, hB9, hB15, hB22⟩ ?_
                  refine d_val (v := .int .i64 ((GateP.nt c : Nat) : Int)) 4 (by rfl) (by kernel_rfl) (by kernel_rfl) (by kernel_rfl) (fun w' hs => by obtain ⟨hB4, hB9, hB15, hB22⟩ := hs; exact R_load (v := .int .i64 ((GateP.nt c : Nat) : Int)) (by kernel_rfl) (by kernel_rfl) ((hB4.cell 0).trans rfl)) ⟨hB4, hB9, hB15, hB22⟩ ?_
                  refine d_one 5 (by kernel_rfl) (by rfl) (by kernel_rfl) (S_call (args := [.int .i64 ((GateP.nt c : Nat) : Int)]) (by kernel_rfl) (not_ok (GateP.nt c) _ (by omega)) ?_)
                  rintro _ w98 ⟨rfl, hT99⟩
                  have hG := hG.tch0 hT99
                  have hMv := hMv.then0 hT99
                  have hB4 := hB4.tch0 hT99
                  have hB9 := hB9.tch0 hT99
                  have hB15 := hB15.tch0 hT99
                  have hB22 := hB22.tch0 hT99
                  have hnt100 := GateP.nt_div (GateP.nt c)
                  refine ⟨⟨hB4, hB9, hB15, hB22⟩, ?_⟩
                  refine dtk [6, 7, 8] #[true, true, true, true, true, true, true, true, true] [(61, .bool (((a : Nat) : Int) == ((GateP.nt (GateP.nt c) : Nat) : Int))), (62, .bool (((a : Nat) : Int) == ((GateP.nt (GateP.nt c) : Nat) : Int))), (54, .bool (((a : Nat) : Int) == ((GateP.nt (GateP.nt c) : Nat) : Int)))] ⟨hB4, hB9, hB15, hB22⟩ (by kernel_rfl) ?_
                  refine d_done (by kernel_rfl) ?_
                  refine W_cond (((a : Nat) : Int) == ((GateP.nt (GateP.nt c) : Nat) : Int)) (by kernel_rfl) (by kernel_rfl) (fun hc101 => ?_) (fun hc101 => ?_)
                  · replace hc101 : ((a : Nat) : Int) = ((GateP.nt (GateP.nt c) : Nat) : Int) := (eq_of_beq hc101)
                    refine W_seq ?_
                    refine W_fg [(0, .pointer (some ⟨p, 0, none⟩)), (1, .int .i64 ((c : Nat) : Int)), (2, .int .i64 ((a : Nat) : Int)), (3, .int .i64 ((b : Nat) : Int)), (5, .pointer (some ⟨w.heap.size, 0, none⟩)), (6, .pointer (some ⟨w1.heap.size, 0, none⟩)), (7, .pointer (some ⟨w6.heap.size, 0, none⟩)), (8, .int .i64 0), (14, .bool false), (16, .bool (decide (c % 2 = 1))), (21, .bool (((b : Nat) : Int) == ((a : Nat) : Int))), (28, .bool (((b : Nat) : Int) == ((GateP.nt c : Nat) : Int))), (40, .bool (((b : Nat) : Int) == ((GateP.nt (GateP.nt c) : Nat) : Int))), (54, .bool (((a : Nat) : Int) == ((GateP.nt (GateP.nt c) : Nat) : Int)))] (by kernel_rfl) fun ρ => ?_
                    refine W_draw (fun w' => Blk w' (w.heap.size) 3 [.int .i64 ((GateP.nt c : Nat) : Int)] ∧ Blk w' (w1.heap.size) 3 [.int .i64 ((b : Nat) : Int)] ∧ Blk w' (w6.heap.size) 3 [.int .i64 ((a : Nat) : Int)] ∧ Blk w' (w12.heap.size) 3 [.int .i64 ((c : Nat) : Int), .int .i64 ((a : Nat) : Int), .int .i64 ((b : Nat) : Int)]) (by kernel_rfl) (by kernel_rfl) (by kernel_rfl) fun w102 hT103 hh104 => ?_
                    have hG := hG.tch0 hT103
                    have hMv := hMv.then0 hT103
                    have hB4 := hB4.tch0 hT103
                    have hB9 := hB9.tch0 hT103
                    have hB15 := hB15.tch0 hT103
                    have hB22 := hB22.tch0 hT103
                    refine dtk [0] #[true, false, false, false, false, false] [(63, .pointer (some ⟨p, 0, none⟩))] ⟨hB4, hB9, hB15, hB22⟩ (by kernel_rfl) ?_
                    refine d_val (v := .int .i64 ((GateP.nt c : Nat) : Int)) 1 (by rfl) (by kernel_rfl) (by kernel_rfl) (by kernel_rfl) (fun w' hs => by obtain ⟨hB4, hB9, hB15, hB22⟩ := hs; exact R_load (v := .int .i64 ((GateP.nt c : Nat) : Int)) (by kernel_rfl) (by kernel_rfl) ((hB4.cell 0).trans rfl)) ⟨hB4, hB9, hB15, hB22⟩ ?_
                    refine d_val (v := .int .i64 ((b : Nat) : Int)) 3 (by rfl) (by kernel_rfl) (by kernel_rfl) (by kernel_rfl) (fun w' hs => by obtain ⟨hB4, hB9, hB15, hB22⟩ := hs; exact R_load (v := .int .i64 ((b : Nat) : Int)) (by kernel_rfl) (by kernel_rfl) ((hB9.cell 0).trans rfl)) ⟨hB4, hB9, hB15, hB22⟩ ?_
                    refine d_one 2 (by kernel_rfl) (by rfl) (by kernel_rfl) (S_call (args := [.int .i64 ((GateP.nt c : Nat) : Int)]) (by kernel_rfl) (not_ok (GateP.nt c) _ (by omega)) ?_)
                    rintro _ w105 ⟨rfl, hT106⟩
                    have hG := hG.tch0 hT106
                    have hMv := hMv.then0 hT106
                    have hB4 := hB4.tch0 hT106
                    have hB9 := hB9.tch0 hT106
                    have hB15 := hB15.tch0 hT106
                    have hB22 := hB22.tch0 hT106
                    have hnt107 := GateP.nt_div (GateP.nt c)
                    refine ⟨⟨hB4, hB9, hB15, hB22⟩, ?_⟩
                    have lt116 := hB4.lt
                    have lt117 := hB9.lt
                    have lt118 := hB15.lt
                    have lt119 := hB22.lt
                    refine d_one 4 (by kernel_rfl) (by rfl) (by kernel_rfl) (S_call (args := [.pointer (some ⟨p, 0, none⟩), .int .i64 ((GateP.nt (GateP.nt c) : Nat) : Int), .int .i64 ((b : Nat) : Int)]) (by kernel_rfl) (or_ok F p n (GateP.nt (GateP.nt c)) b cs I _ hG (by omega) (by omega) (by omega)) ?_)
                    rintro _ w108 ⟨F109, n110, cs111, x112, rfl, hG, hm113, hr114, hd115⟩
                    have hMv := hMv.trans hm113
                    have hB4 := hB4.tch hm113.1 nF_hB4
                    have hB9 := hB9.tch hm113.1 nF_hB9
                    have hB15 := hB15.tch hm113.1 nF_hB15
                    have hB22 := hB22.tch hm113.1 nF_hB22
                    have hle121 := hr114.1
                    have hxb120 := hr114.2.2.1
                    replace nF_hB4 : ¬ F109 (w.heap.size) := fun e => (hm113.2 _ e).elim nF_hB4 (fun q => by omega)
                    replace nF_hB9 : ¬ F109 (w1.heap.size) := fun e => (hm113.2 _ e).elim nF_hB9 (fun q => by omega)
                    replace nF_hB15 : ¬ F109 (w6.heap.size) := fun e => (hm113.2 _ e).elim nF_hB15 (fun q => by omega)
                    replace nF_hB22 : ¬ F109 (w12.heap.size) := fun e => (hm113.2 _ e).elim nF_hB22 (fun q => by omega)
                    refine ⟨⟨hB4, hB9, hB15, hB22⟩, ?_⟩
                    refine dtk [5] #[true, true, true, true, true, true] [(8, .int .i64 ((x112 : Nat) : Int))] ⟨hB4, hB9, hB15, hB22⟩ (by kernel_rfl) ?_
                    refine d_done (by kernel_rfl) ?_
                    refine W_ret ?_
                    exact ⟨_, Res_of (v := .int .i64 ((x112 : Nat) : Int)) (by kernel_rfl), ⟨F109, n110, cs111, _, rfl, hG, hMv, (ite_sw (by first | exact ite_1 (c := GateP.nt c) (a := b) (b := a) hG0.2 hr114 (by omega) | exact ite_3 (c := GateP.nt c) (a := b) (b := a) hG0.2 hr114 (by omega))), by omega⟩⟩
                  · replace hc101 : ((a : Nat) : Int) ≠ ((GateP.nt (GateP.nt c) : Nat) : Int) := (ne_of_beq_false hc101)
                    refine W_seq ?_
                    refine W_fg [(0, .pointer (some ⟨p, 0, none⟩)), (1, .int .i64 ((c : Nat) : Int)), (2, .int .i64 ((a : Nat) : Int)), (3, .int .i64 ((b : Nat) : Int)), (5, .pointer (some ⟨w.heap.size, 0, none⟩)), (6, .pointer (some ⟨w1.heap.size, 0, none⟩)), (7, .pointer (some ⟨w6.heap.size, 0, none⟩)), (8, .int .i64 0), (14, .bool false), (16, .bool (decide (c % 2 = 1))), (21, .bool (((b : Nat) : Int) == ((a : Nat) : Int))), (28, .bool (((b : Nat) : Int) == ((GateP.nt c : Nat) : Int))), (40, .bool (((b : Nat) : Int) == ((GateP.nt (GateP.nt c) : Nat) : Int))), (54, .bool (((a : Nat) : Int) == ((GateP.nt (GateP.nt c) : Nat) : Int)))] (by kernel_rfl) fun ρ => ?_
                    refine W_region (by kernel_rfl) ?_
                    refine st (by rfl) (S_val (v := .int .i64 ((a : Nat) : Int)) (R_load (v := .int .i64 ((a : Nat) : Int)) (by kernel_rfl) (by kernel_rfl) ((hB15.cell 0).trans rfl)) ?_)
                    refine sg [(70, .bool (((a : Nat) : Int) == 1)), (71, .bool (((a : Nat) : Int) == 1))] (by kernel_rfl) ?_
                    cases hb122 : ((a : Nat) : Int) == 1
                    · replace hb122 : ((a : Nat) : Int) ≠ 1 := (ne_of_beq_false hb122)
                      refine st (by kernel_rfl) (S_val (v := .int .i64 ((a : Nat) : Int)) (R_load (v := .int .i64 ((a : Nat) : Int)) (by kernel_rfl) (by kernel_rfl) ((hB15.cell 0).trans rfl)) ?_)
                      refine st (by kernel_rfl) (S_val (v := .int .i64 ((GateP.nt c : Nat) : Int)) (R_load (v := .int .i64 ((GateP.nt c : Nat) : Int)) (by kernel_rfl) (by kernel_rfl) ((hB4.cell 0).trans rfl)) ?_)
                      refine sg [(74, .bool (((a : Nat) : Int) == ((GateP.nt c : Nat) : Int))), (75, .bool (((a : Nat) : Int) == ((GateP.nt c : Nat) : Int))), (68, .bool (((a : Nat) : Int) == ((GateP.nt c : Nat) : Int)))] (by kernel_rfl) ?_
                      refine op_nil ?_
                      refine W_cond (((a : Nat) : Int) == ((GateP.nt c : Nat) : Int)) (by kernel_rfl) (by kernel_rfl) (fun hc123 => ?_) (fun hc123 => ?_)
                      · replace hc123 : ((a : Nat) : Int) = ((GateP.nt c : Nat) : Int) := (eq_of_beq hc123)
                        refine W_seq ?_
                        refine W_fg [(0, .pointer (some ⟨p, 0, none⟩)), (1, .int .i64 ((c : Nat) : Int)), (2, .int .i64 ((a : Nat) : Int)), (3, .int .i64 ((b : Nat) : Int)), (5, .pointer (some ⟨w.heap.size, 0, none⟩)), (6, .pointer (some ⟨w1.heap.size, 0, none⟩)), (7, .pointer (some ⟨w6.heap.size, 0, none⟩)), (8, .int .i64 0), (14, .bool false), (16, .bool (decide (c % 2 = 1))), (21, .bool (((b : Nat) : Int) == ((a : Nat) : Int))), (28, .bool (((b : Nat) : Int) == ((GateP.nt c : Nat) : Int))), (40, .bool (((b : Nat) : Int) == ((GateP.nt (GateP.nt c) : Nat) : Int))), (54, .bool (((a : Nat) : Int) == ((GateP.nt (GateP.nt c) : Nat) : Int))), (68, .bool (((a : Nat) : Int) == ((GateP.nt c : Nat) : Int)))] (by kernel_rfl) fun ρ => ?_
                        refine W_region (by kernel_rfl) ?_
                        refine sg [(76, .pointer (some ⟨p, 0, none⟩))] (by kernel_rfl) ?_
                        refine st (by rfl) (S_val (v := .int .i64 ((GateP.nt c : Nat) : Int)) (R_load (v := .int .i64 ((GateP.nt c : Nat) : Int)) (by kernel_rfl) (by kernel_rfl) ((hB4.cell 0).trans rfl)) ?_)
                        refine st (by rfl) (S_val (v := .int .i64 ((b : Nat) : Int)) (R_load (v := .int .i64 ((b : Nat) : Int)) (by kernel_rfl) (by kernel_rfl) ((hB9.cell 0).trans rfl)) ?_)
                        have lt132 := hB4.lt
                        have lt133 := hB9.lt
                        have lt134 := hB15.lt
                        have lt135 := hB22.lt
                        refine st (by rfl) (S_call (args := [.pointer (some ⟨p, 0, none⟩), .int .i64 ((GateP.nt c : Nat) : Int), .int .i64 ((b : Nat) : Int)]) (by kernel_rfl) (and_ok F p n (GateP.nt c) b cs I _ hG (by omega) (by omega) (by omega)) ?_)
                        rintro _ w124 ⟨F125, n126, cs127, x128, rfl, hG, hm129, hr130, hd131⟩
                        have hMv := hMv.trans hm129
                        have hB4 := hB4.tch hm129.1 nF_hB4
                        have hB9 := hB9.tch hm129.1 nF_hB9
                        have hB15 := hB15.tch hm129.1 nF_hB15
                        have hB22 := hB22.tch hm129.1 nF_hB22
                        have hle137 := hr130.1
                        have hxb136 := hr130.2.2.1
                        replace nF_hB4 : ¬ F125 (w.heap.size) := fun e => (hm129.2 _ e).elim nF_hB4 (fun q => by omega)
                        replace nF_hB9 : ¬ F125 (w1.heap.size) := fun e => (hm129.2 _ e).elim nF_hB9 (fun q => by omega)
                        replace nF_hB15 : ¬ F125 (w6.heap.size) := fun e => (hm129.2 _ e).elim nF_hB15 (fun q => by omega)
                        replace nF_hB22 : ¬ F125 (w12.heap.size) := fun e => (hm129.2 _ e).elim nF_hB22 (fun q => by omega)
                        refine sg [(8, .int .i64 ((x128 : Nat) : Int))] (by kernel_rfl) ?_
                        refine op_nil ?_
                        refine W_ret ?_
                        exact ⟨_, Res_of (v := .int .i64 ((x128 : Nat) : Int)) (by kernel_rfl), ⟨F125, n126, cs127, _, rfl, hG, hMv, (ite_sw (by first | exact ite_2 (c := GateP.nt c) (a := b) (b := a) hG0.2 hr130 (by omega) | exact ite_4 (c := GateP.nt c) (a := b) (b := a) hG0.2 hr130 (by omega))), by omega⟩⟩
                      · replace hc123 : ((a : Nat) : Int) ≠ ((GateP.nt c : Nat) : Int) := (ne_of_beq_false hc123)
                        refine W_seq ?_
                        refine W_fg [(0, .pointer (some ⟨p, 0, none⟩)), (1, .int .i64 ((c : Nat) : Int)), (2, .int .i64 ((a : Nat) : Int)), (3, .int .i64 ((b : Nat) : Int)), (5, .pointer (some ⟨w.heap.size, 0, none⟩)), (6, .pointer (some ⟨w1.heap.size, 0, none⟩)), (7, .pointer (some ⟨w6.heap.size, 0, none⟩)), (8, .int .i64 0), (14, .bool false), (16, .bool (decide (c % 2 = 1))), (21, .bool (((b : Nat) : Int) == ((a : Nat) : Int))), (28, .bool (((b : Nat) : Int) == ((GateP.nt c : Nat) : Int))), (40, .bool (((b : Nat) : Int) == ((GateP.nt (GateP.nt c) : Nat) : Int))), (54, .bool (((a : Nat) : Int) == ((GateP.nt (GateP.nt c) : Nat) : Int))), (68, .bool (((a : Nat) : Int) == ((GateP.nt c : Nat) : Int)))] (by kernel_rfl) fun ρ => ?_
                        refine W_draw (fun w' => Blk w' (w.heap.size) 3 [.int .i64 ((GateP.nt c : Nat) : Int)] ∧ Blk w' (w1.heap.size) 3 [.int .i64 ((b : Nat) : Int)] ∧ Blk w' (w6.heap.size) 3 [.int .i64 ((a : Nat) : Int)] ∧ Blk w' (w12.heap.size) 3 [.int .i64 ((c : Nat) : Int), .int .i64 ((a : Nat) : Int), .int .i64 ((b : Nat) : Int)]) (by kernel_rfl) (by kernel_rfl) (by kernel_rfl) fun w138 hT139 hh140 => ?_
                        have hG := hG.tch0 hT139
                        have hMv := hMv.then0 hT139
                        have hB4 := hB4.tch0 hT139
                        have hB9 := hB9.tch0 hT139
                        have hB15 := hB15.tch0 hT139
                        have hB22 := hB22.tch0 hT139
                        refine d_val (v := .int .i64 ((a : Nat) : Int)) 0 (by rfl) (by kernel_rfl) (by kernel_rfl) (by kernel_rfl) (fun w' hs => by obtain ⟨hB4, hB9, hB15, hB22⟩ := hs; exact R_load (v := .int .i64 ((a : Nat) : Int)) (by kernel_rfl) (by kernel_rfl) ((hB15.cell 0).trans rfl)) ⟨hB4, hB9, hB15, hB22⟩ ?_
                        refine d_val (v := .int .i64 ((b : Nat) : Int)) 1 (by rfl) (by kernel_rfl) (by kernel_rfl) (by kernel_rfl) (fun w' hs => by obtain ⟨hB4, hB9, hB15, hB22⟩ := hs; exact R_load (v := .int .i64 ((b : Nat) : Int)) (by kernel_rfl) (by kernel_rfl) ((hB9.cell 0).trans rfl)) ⟨hB4, hB9, hB15, hB22⟩ ?_
                        refine d_one 2 (by kernel_rfl) (by rfl) (by kernel_rfl) (S_call (args := [.int .i64 ((b : Nat) : Int)]) (by kernel_rfl) (not_ok b _ (by omega)) ?_)
                        rintro _ w141 ⟨rfl, hT142⟩
                        have hG := hG.tch0 hT142
                        have hMv := hMv.then0 hT142
                        have hB4 := hB4.tch0 hT142
                        have hB9 := hB9.tch0 hT142
                        have hB15 := hB15.tch0 hT142
                        have hB22 := hB22.tch0 hT142
                        have hnt143 := GateP.nt_div b
                        refine ⟨⟨hB4, hB9, hB15, hB22⟩, ?_⟩
                        refine dtk [3, 4] #[true, true, true, true, true] [(84, .bool (((a : Nat) : Int) == ((GateP.nt b : Nat) : Int))), (80, .bool (((a : Nat) : Int) == ((GateP.nt b : Nat) : Int)))] ⟨hB4, hB9, hB15, hB22⟩ (by kernel_rfl) ?_
                        refine d_done (by kernel_rfl) ?_
                        refine W_cond (((a : Nat) : Int) == ((GateP.nt b : Nat) : Int)) (by kernel_rfl) (by kernel_rfl) (fun hc144 => ?_) (fun hc144 => ?_)
                        · replace hc144 : ((a : Nat) : Int) = ((GateP.nt b : Nat) : Int) := (eq_of_beq hc144)
                          refine W_seq ?_
                          refine W_region (by kernel_rfl) ?_
                          refine sg [(85, .pointer (some ⟨p, 0, none⟩))] (by kernel_rfl) ?_
                          refine st (by rfl) (S_val (v := .int .i64 ((GateP.nt c : Nat) : Int)) (R_load (v := .int .i64 ((GateP.nt c : Nat) : Int)) (by kernel_rfl) (by kernel_rfl) ((hB4.cell 0).trans rfl)) ?_)
                          refine st (by rfl) (S_val (v := .int .i64 ((b : Nat) : Int)) (R_load (v := .int .i64 ((b : Nat) : Int)) (by kernel_rfl) (by kernel_rfl) ((hB9.cell 0).trans rfl)) ?_)
                          have lt153 := hB4.lt
                          have lt154 := hB9.lt
                          have lt155 := hB15.lt
                          have lt156 := hB22.lt
                          refine st (by rfl) (S_call (args := [.pointer (some ⟨p, 0, none⟩), .int .i64 ((GateP.nt c : Nat) : Int), .int .i64 ((b : Nat) : Int)]) (by kernel_rfl) (xor_ok F p n (GateP.nt c) b cs I _ hG (by omega) (by omega) (by omega)) ?_)
                          rintro _ w145 ⟨F146, n147, cs148, x149, rfl, hG, hm150, hr151, hd152⟩
                          have hMv := hMv.trans hm150
                          have hB4 := hB4.tch hm150.1 nF_hB4
                          have hB9 := hB9.tch hm150.1 nF_hB9
                          have hB15 := hB15.tch hm150.1 nF_hB15
                          have hB22 := hB22.tch hm150.1 nF_hB22
                          have hle158 := hr151.1
                          have hxb157 := hr151.2.2.1
                          replace nF_hB4 : ¬ F146 (w.heap.size) := fun e => (hm150.2 _ e).elim nF_hB4 (fun q => by omega)
                          replace nF_hB9 : ¬ F146 (w1.heap.size) := fun e => (hm150.2 _ e).elim nF_hB9 (fun q => by omega)
                          replace nF_hB15 : ¬ F146 (w6.heap.size) := fun e => (hm150.2 _ e).elim nF_hB15 (fun q => by omega)
                          replace nF_hB22 : ¬ F146 (w12.heap.size) := fun e => (hm150.2 _ e).elim nF_hB22 (fun q => by omega)
                          refine st (by rfl) (S_call (args := [.int .i64 ((x149 : Nat) : Int)]) (by kernel_rfl) (not_ok x149 _ (by omega)) ?_)
                          rintro _ w159 ⟨rfl, hT160⟩
                          have hG := hG.tch0 hT160
                          have hMv := hMv.then0 hT160
                          have hB4 := hB4.tch0 hT160
                          have hB9 := hB9.tch0 hT160
                          have hB15 := hB15.tch0 hT160
                          have hB22 := hB22.tch0 hT160
                          have hnt161 := GateP.nt_div x149
                          refine sg [(8, .int .i64 ((GateP.nt x149 : Nat) : Int))] (by kernel_rfl) ?_
                          refine op_nil ?_
                          refine W_ret ?_
                          exact ⟨_, Res_of (v := .int .i64 ((GateP.nt x149 : Nat) : Int)) (by kernel_rfl), ⟨F146, n147, cs148, _, rfl, hG, hMv, (ite_sw (ite_5 (c := GateP.nt c) (a := b) (b := a) hr151 (by omega))), by omega⟩⟩
                        · replace hc144 : ((a : Nat) : Int) ≠ ((GateP.nt b : Nat) : Int) := (ne_of_beq_false hc144)
                          refine W_skip ?_
                          refine W_seq ?_
                          refine W_region (by kernel_rfl) ?_
                          refine sg [(90, .pointer (some ⟨p, 0, none⟩))] (by kernel_rfl) ?_
                          refine st (by rfl) (S_val (v := .int .i64 ((GateP.nt c : Nat) : Int)) (R_load (v := .int .i64 ((GateP.nt c : Nat) : Int)) (by kernel_rfl) (by kernel_rfl) ((hB4.cell 0).trans rfl)) ?_)
                          refine st (by rfl) (S_val (v := .int .i64 ((b : Nat) : Int)) (R_load (v := .int .i64 ((b : Nat) : Int)) (by kernel_rfl) (by kernel_rfl) ((hB9.cell 0).trans rfl)) ?_)
                          refine st (by rfl) (S_val (v := .int .i64 ((a : Nat) : Int)) (R_load (v := .int .i64 ((a : Nat) : Int)) (by kernel_rfl) (by kernel_rfl) ((hB15.cell 0).trans rfl)) ?_)
                          refine sg [(94, .func (.func 59) #[] #[.pointer (some ⟨w.heap.size, 0, none⟩), .pointer (some ⟨w1.heap.size, 0, none⟩), .pointer (some ⟨w6.heap.size, 0, none⟩)])] (by kernel_rfl) ?_
                          have lt170 := hB4.lt
                          have lt171 := hB9.lt
                          have lt172 := hB15.lt
                          have lt173 := hB22.lt
                          refine st (by rfl) (S_call (args := [.pointer (some ⟨p, 0, none⟩), .int .i64 2, .int .i64 ((GateP.nt c : Nat) : Int), .int .i64 ((b : Nat) : Int), .int .i64 ((a : Nat) : Int), .func (.func 59) #[] #[.pointer (some ⟨w.heap.size, 0, none⟩), .pointer (some ⟨w1.heap.size, 0, none⟩), .pointer (some ⟨w6.heap.size, 0, none⟩)]]) (by kernel_rfl) (gate2_ok F p n (GateP.nt c) b a (w.heap.size) (w1.heap.size) (w6.heap.size) cs I _ hG hB4 hB9 hB15 nF_hB4 nF_hB9 nF_hB15 (by omega) (by omega) (by omega) (by omega)) ?_)
                          rintro _ w162 ⟨F163, n164, cs165, x166, rfl, hG, hm167, hr168, hd169⟩
                          have hMv := hMv.trans hm167
                          have hB4 := hB4.tch hm167.1 nF_hB4
                          have hB9 := hB9.tch hm167.1 nF_hB9
                          have hB15 := hB15.tch hm167.1 nF_hB15
                          have hB22 := hB22.tch hm167.1 nF_hB22
                          have hxb174 := hr168.2.2.1
                          replace nF_hB4 : ¬ F163 (w.heap.size) := fun e => (hm167.2 _ e).elim nF_hB4 (fun q => by omega)
                          replace nF_hB9 : ¬ F163 (w1.heap.size) := fun e => (hm167.2 _ e).elim nF_hB9 (fun q => by omega)
                          replace nF_hB15 : ¬ F163 (w6.heap.size) := fun e => (hm167.2 _ e).elim nF_hB15 (fun q => by omega)
                          replace nF_hB22 : ¬ F163 (w12.heap.size) := fun e => (hm167.2 _ e).elim nF_hB22 (fun q => by omega)
                          refine sg [(8, .int .i64 ((x166 : Nat) : Int))] (by kernel_rfl) ?_
                          refine op_nil ?_
                          refine W_ret ?_
                          exact ⟨_, Res_of (v := .int .i64 ((x166 : Nat) : Int)) (by kernel_rfl), ⟨F163, n164, cs165, _, rfl, hG, hMv, (ite_sw (ite_g (c := GateP.nt c) (a := b) (b := a) hr168)), by omega⟩⟩
                    · replace hb122 : ((a : Nat) : Int) = 1 := (eq_of_beq hb122)
                      refine sg [(72, undef), (73, undef), (74, undef), (75, .bool true), (68, .bool true)] (by kernel_rfl) ?_
                      refine op_nil ?_
                      refine W_cond true (by kernel_rfl) (by kernel_rfl) (fun _ => ?_) (fun h => nomatch h)
                      refine W_seq ?_
                      refine W_fg [(0, .pointer (some ⟨p, 0, none⟩)), (1, .int .i64 ((c : Nat) : Int)), (2, .int .i64 ((a : Nat) : Int)), (3, .int .i64 ((b : Nat) : Int)), (5, .pointer (some ⟨w.heap.size, 0, none⟩)), (6, .pointer (some ⟨w1.heap.size, 0, none⟩)), (7, .pointer (some ⟨w6.heap.size, 0, none⟩)), (8, .int .i64 0), (14, .bool false), (16, .bool (decide (c % 2 = 1))), (21, .bool (((b : Nat) : Int) == ((a : Nat) : Int))), (28, .bool (((b : Nat) : Int) == ((GateP.nt c : Nat) : Int))), (40, .bool (((b : Nat) : Int) == ((GateP.nt (GateP.nt c) : Nat) : Int))), (54, .bool (((a : Nat) : Int) == ((GateP.nt (GateP.nt c) : Nat) : Int))), (68, .bool true)] (by kernel_rfl) fun ρ => ?_
                      refine W_region (by kernel_rfl) ?_
                      refine sg [(76, .pointer (some ⟨p, 0, none⟩))] (by kernel_rfl) ?_
                      refine st (by rfl) (S_val (v := .int .i64 ((GateP.nt c : Nat) : Int)) (R_load (v := .int .i64 ((GateP.nt c : Nat) : Int)) (by kernel_rfl) (by kernel_rfl) ((hB4.cell 0).trans rfl)) ?_)
                      refine st (by rfl) (S_val (v := .int .i64 ((b : Nat) : Int)) (R_load (v := .int .i64 ((b : Nat) : Int)) (by kernel_rfl) (by kernel_rfl) ((hB9.cell 0).trans rfl)) ?_)
                      have lt183 := hB4.lt
                      have lt184 := hB9.lt
                      have lt185 := hB15.lt
                      have lt186 := hB22.lt
                      refine st (by rfl) (S_call (args := [.pointer (some ⟨p, 0, none⟩), .int .i64 ((GateP.nt c : Nat) : Int), .int .i64 ((b : Nat) : Int)]) (by kernel_rfl) (and_ok F p n (GateP.nt c) b cs I _ hG (by omega) (by omega) (by omega)) ?_)
                      rintro _ w175 ⟨F176, n177, cs178, x179, rfl, hG, hm180, hr181, hd182⟩
                      have hMv := hMv.trans hm180
                      have hB4 := hB4.tch hm180.1 nF_hB4
                      have hB9 := hB9.tch hm180.1 nF_hB9
                      have hB15 := hB15.tch hm180.1 nF_hB15
                      have hB22 := hB22.tch hm180.1 nF_hB22
                      have hle188 := hr181.1
                      have hxb187 := hr181.2.2.1
                      replace nF_hB4 : ¬ F176 (w.heap.size) := fun e => (hm180.2 _ e).elim nF_hB4 (fun q => by omega)
                      replace nF_hB9 : ¬ F176 (w1.heap.size) := fun e => (hm180.2 _ e).elim nF_hB9 (fun q => by omega)
                      replace nF_hB15 : ¬ F176 (w6.heap.size) := fun e => (hm180.2 _ e).elim nF_hB15 (fun q => by omega)
                      replace nF_hB22 : ¬ F176 (w12.heap.size) := fun e => (hm180.2 _ e).elim nF_hB22 (fun q => by omega)
                      refine sg [(8, .int .i64 ((x179 : Nat) : Int))] (by kernel_rfl) ?_
                      refine op_nil ?_
                      refine W_ret ?_
                      exact ⟨_, Res_of (v := .int .i64 ((x179 : Nat) : Int)) (by kernel_rfl), ⟨F176, n177, cs178, _, rfl, hG, hMv, (ite_sw (by first | exact ite_2 (c := GateP.nt c) (a := b) (b := a) hG0.2 hr181 (by omega) | exact ite_4 (c := GateP.nt c) (a := b) (b := a) hG0.2 hr181 (by omega))), by omega⟩⟩
                · replace hb97 : ((a : Nat) : Int) = 0 := (eq_of_beq hb97)
                  refine dtk [3, 4, 5, 6, 7, 8] #[true, true, true, true, true, true, true, true, true] [(58, undef), (59, undef), (60, undef), (61, undef), (62, .bool true), (54, .bool true)] ⟨hB4, hB9, hB15, hB22⟩ (by kernel_rfl) ?_
                  refine d_done (by kernel_rfl) ?_
                  refine W_cond true (by kernel_rfl) (by kernel_rfl) (fun _ => ?_) (fun h => nomatch h)
                  refine W_seq ?_
                  refine W_fg [(0, .pointer (some ⟨p, 0, none⟩)), (1, .int .i64 ((c : Nat) : Int)), (2, .int .i64 ((a : Nat) : Int)), (3, .int .i64 ((b : Nat) : Int)), (5, .pointer (some ⟨w.heap.size, 0, none⟩)), (6, .pointer (some ⟨w1.heap.size, 0, none⟩)), (7, .pointer (some ⟨w6.heap.size, 0, none⟩)), (8, .int .i64 0), (14, .bool false), (16, .bool (decide (c % 2 = 1))), (21, .bool (((b : Nat) : Int) == ((a : Nat) : Int))), (28, .bool (((b : Nat) : Int) == ((GateP.nt c : Nat) : Int))), (40, .bool (((b : Nat) : Int) == ((GateP.nt (GateP.nt c) : Nat) : Int))), (54, .bool true)] (by kernel_rfl) fun ρ => ?_
                  refine W_draw (fun w' => Blk w' (w.heap.size) 3 [.int .i64 ((GateP.nt c : Nat) : Int)] ∧ Blk w' (w1.heap.size) 3 [.int .i64 ((b : Nat) : Int)] ∧ Blk w' (w6.heap.size) 3 [.int .i64 ((a : Nat) : Int)] ∧ Blk w' (w12.heap.size) 3 [.int .i64 ((c : Nat) : Int), .int .i64 ((a : Nat) : Int), .int .i64 ((b : Nat) : Int)]) (by kernel_rfl) (by kernel_rfl) (by kernel_rfl) fun w189 hT190 hh191 => ?_
                  have hG := hG.tch0 hT190
                  have hMv := hMv.then0 hT190
                  have hB4 := hB4.tch0 hT190
                  have hB9 := hB9.tch0 hT190
                  have hB15 := hB15.tch0 hT190
                  have hB22 := hB22.tch0 hT190
                  refine dtk [0] #[true, false, false, false, false, false] [(63, .pointer (some ⟨p, 0, none⟩))] ⟨hB4, hB9, hB15, hB22⟩ (by kernel_rfl) ?_
                  refine d_val (v := .int .i64 ((GateP.nt c : Nat) : Int)) 1 (by rfl) (by kernel_rfl) (by kernel_rfl) (by kernel_rfl) (fun w' hs => by obtain ⟨hB4, hB9, hB15, hB22⟩ := hs; exact R_load (v := .int .i64 ((GateP.nt c : Nat) : Int)) (by kernel_rfl) (by kernel_rfl) ((hB4.cell 0).trans rfl)) ⟨hB4, hB9, hB15, hB22⟩ ?_
                  refine d_val (v := .int .i64 ((b : Nat) : Int)) 3 (by rfl) (by kernel_rfl) (by kernel_rfl) (by kernel_rfl) (fun w' hs => by obtain ⟨hB4, hB9, hB15, hB22⟩ := hs; exact R_load (v := .int .i64 ((b : Nat) : Int)) (by kernel_rfl) (by kernel_rfl) ((hB9.cell 0).trans rfl)) ⟨hB4, hB9, hB15, hB22⟩ ?_
                  refine d_one 2 (by kernel_rfl) (by rfl) (by kernel_rfl) (S_call (args := [.int .i64 ((GateP.nt c : Nat) : Int)]) (by kernel_rfl) (not_ok (GateP.nt c) _ (by omega)) ?_)
                  rintro _ w192 ⟨rfl, hT193⟩
                  have hG := hG.tch0 hT193
                  have hMv := hMv.then0 hT193
                  have hB4 := hB4.tch0 hT193
                  have hB9 := hB9.tch0 hT193
                  have hB15 := hB15.tch0 hT193
                  have hB22 := hB22.tch0 hT193
                  have hnt194 := GateP.nt_div (GateP.nt c)
                  refine ⟨⟨hB4, hB9, hB15, hB22⟩, ?_⟩
                  have lt203 := hB4.lt
                  have lt204 := hB9.lt
                  have lt205 := hB15.lt
                  have lt206 := hB22.lt
                  refine d_one 4 (by kernel_rfl) (by rfl) (by kernel_rfl) (S_call (args := [.pointer (some ⟨p, 0, none⟩), .int .i64 ((GateP.nt (GateP.nt c) : Nat) : Int), .int .i64 ((b : Nat) : Int)]) (by kernel_rfl) (or_ok F p n (GateP.nt (GateP.nt c)) b cs I _ hG (by omega) (by omega) (by omega)) ?_)
                  rintro _ w195 ⟨F196, n197, cs198, x199, rfl, hG, hm200, hr201, hd202⟩
                  have hMv := hMv.trans hm200
                  have hB4 := hB4.tch hm200.1 nF_hB4
                  have hB9 := hB9.tch hm200.1 nF_hB9
                  have hB15 := hB15.tch hm200.1 nF_hB15
                  have hB22 := hB22.tch hm200.1 nF_hB22
                  have hle208 := hr201.1
                  have hxb207 := hr201.2.2.1
                  replace nF_hB4 : ¬ F196 (w.heap.size) := fun e => (hm200.2 _ e).elim nF_hB4 (fun q => by omega)
                  replace nF_hB9 : ¬ F196 (w1.heap.size) := fun e => (hm200.2 _ e).elim nF_hB9 (fun q => by omega)
                  replace nF_hB15 : ¬ F196 (w6.heap.size) := fun e => (hm200.2 _ e).elim nF_hB15 (fun q => by omega)
                  replace nF_hB22 : ¬ F196 (w12.heap.size) := fun e => (hm200.2 _ e).elim nF_hB22 (fun q => by omega)
                  refine ⟨⟨hB4, hB9, hB15, hB22⟩, ?_⟩
                  refine dtk [5] #[true, true, true, true, true, true] [(8, .int .i64 ((x199 : Nat) : Int))] ⟨hB4, hB9, hB15, hB22⟩ (by kernel_rfl) ?_
                  refine d_done (by kernel_rfl) ?_
                  refine W_ret ?_
                  exact ⟨_, Res_of (v := .int .i64 ((x199 : Nat) : Int)) (by kernel_rfl), ⟨F196, n197, cs198, _, rfl, hG, hMv, (ite_sw (by first | exact ite_1 (c := GateP.nt c) (a := b) (b := a) hG0.2 hr201 (by omega) | exact ite_3 (c := GateP.nt c) (a := b) (b := a) hG0.2 hr201 (by omega))), by omega⟩⟩
            · replace hb69 : ((b : Nat) : Int) = 1 := (eq_of_beq hb69)
              refine dtk [3, 4, 5, 6, 7, 8] #[true, true, true, true, true, true, true, true, true] [(44, undef), (45, undef), (46, undef), (47, undef), (48, .bool true), (40, .bool true)] ⟨hB4, hB9, hB15, hB22⟩ (by kernel_rfl) ?_
              refine d_done (by kernel_rfl) ?_
              refine W_cond true (by kernel_rfl) (by kernel_rfl) (fun _ => ?_) (fun h => nomatch h)
              refine W_seq ?_
              refine W_fg [(0, .pointer (some ⟨p, 0, none⟩)), (1, .int .i64 ((c : Nat) : Int)), (2, .int .i64 ((a : Nat) : Int)), (3, .int .i64 ((b : Nat) : Int)), (5, .pointer (some ⟨w.heap.size, 0, none⟩)), (6, .pointer (some ⟨w1.heap.size, 0, none⟩)), (7, .pointer (some ⟨w6.heap.size, 0, none⟩)), (8, .int .i64 0), (14, .bool false), (16, .bool (decide (c % 2 = 1))), (21, .bool (((b : Nat) : Int) == ((a : Nat) : Int))), (28, .bool (((b : Nat) : Int) == ((GateP.nt c : Nat) : Int))), (40, .bool true)] (by kernel_rfl) fun ρ => ?_
              refine W_draw (fun w' => Blk w' (w.heap.size) 3 [.int .i64 ((GateP.nt c : Nat) : Int)] ∧ Blk w' (w1.heap.size) 3 [.int .i64 ((b : Nat) : Int)] ∧ Blk w' (w6.heap.size) 3 [.int .i64 ((a : Nat) : Int)] ∧ Blk w' (w12.heap.size) 3 [.int .i64 ((c : Nat) : Int), .int .i64 ((a : Nat) : Int), .int .i64 ((b : Nat) : Int)]) (by kernel_rfl) (by kernel_rfl) (by kernel_rfl) fun w209 hT210 hh211 => ?_
              have hG := hG.tch0 hT210
              have hMv := hMv.then0 hT210
              have hB4 := hB4.tch0 hT210
              have hB9 := hB9.tch0 hT210
              have hB15 := hB15.tch0 hT210
              have hB22 := hB22.tch0 hT210
              refine dtk [0] #[true, false, false, false, false, false] [(49, .pointer (some ⟨p, 0, none⟩))] ⟨hB4, hB9, hB15, hB22⟩ (by kernel_rfl) ?_
              refine d_val (v := .int .i64 ((GateP.nt c : Nat) : Int)) 1 (by rfl) (by kernel_rfl) (by kernel_rfl) (by kernel_rfl) (fun w' hs => by obtain ⟨hB4, hB9, hB15, hB22⟩ := hs; exact R_load (v := .int .i64 ((GateP.nt c : Nat) : Int)) (by kernel_rfl) (by kernel_rfl) ((hB4.cell 0).trans rfl)) ⟨hB4, hB9, hB15, hB22⟩ ?_
              refine d_val (v := .int .i64 ((a : Nat) : Int)) 3 (by rfl) (by kernel_rfl) (by kernel_rfl) (by kernel_rfl) (fun w' hs => by obtain ⟨hB4, hB9, hB15, hB22⟩ := hs; exact R_load (v := .int .i64 ((a : Nat) : Int)) (by kernel_rfl) (by kernel_rfl) ((hB15.cell 0).trans rfl)) ⟨hB4, hB9, hB15, hB22⟩ ?_
              refine d_one 2 (by kernel_rfl) (by rfl) (by kernel_rfl) (S_call (args := [.int .i64 ((GateP.nt c : Nat) : Int)]) (by kernel_rfl) (not_ok (GateP.nt c) _ (by omega)) ?_)
              rintro _ w212 ⟨rfl, hT213⟩
              have hG := hG.tch0 hT213
              have hMv := hMv.then0 hT213
              have hB4 := hB4.tch0 hT213
              have hB9 := hB9.tch0 hT213
              have hB15 := hB15.tch0 hT213
              have hB22 := hB22.tch0 hT213
              have hnt214 := GateP.nt_div (GateP.nt c)
              refine ⟨⟨hB4, hB9, hB15, hB22⟩, ?_⟩
              have lt223 := hB4.lt
              have lt224 := hB9.lt
              have lt225 := hB15.lt
              have lt226 := hB22.lt
              refine d_one 4 (by kernel_rfl) (by rfl) (by kernel_rfl) (S_call (args := [.pointer (some ⟨p, 0, none⟩), .int .i64 ((GateP.nt (GateP.nt c) : Nat) : Int), .int .i64 ((a : Nat) : Int)]) (by kernel_rfl) (and_ok F p n (GateP.nt (GateP.nt c)) a cs I _ hG (by omega) (by omega) (by omega)) ?_)
              rintro _ w215 ⟨F216, n217, cs218, x219, rfl, hG, hm220, hr221, hd222⟩
              have hMv := hMv.trans hm220
              have hB4 := hB4.tch hm220.1 nF_hB4
              have hB9 := hB9.tch hm220.1 nF_hB9
              have hB15 := hB15.tch hm220.1 nF_hB15
              have hB22 := hB22.tch hm220.1 nF_hB22
              have hle228 := hr221.1
              have hxb227 := hr221.2.2.1
              replace nF_hB4 : ¬ F216 (w.heap.size) := fun e => (hm220.2 _ e).elim nF_hB4 (fun q => by omega)
              replace nF_hB9 : ¬ F216 (w1.heap.size) := fun e => (hm220.2 _ e).elim nF_hB9 (fun q => by omega)
              replace nF_hB15 : ¬ F216 (w6.heap.size) := fun e => (hm220.2 _ e).elim nF_hB15 (fun q => by omega)
              replace nF_hB22 : ¬ F216 (w12.heap.size) := fun e => (hm220.2 _ e).elim nF_hB22 (fun q => by omega)
              refine ⟨⟨hB4, hB9, hB15, hB22⟩, ?_⟩
              refine dtk [5] #[true, true, true, true, true, true] [(8, .int .i64 ((x219 : Nat) : Int))] ⟨hB4, hB9, hB15, hB22⟩ (by kernel_rfl) ?_
              refine d_done (by kernel_rfl) ?_
              refine W_ret ?_
              exact ⟨_, Res_of (v := .int .i64 ((x219 : Nat) : Int)) (by kernel_rfl), ⟨F216, n217, cs218, _, rfl, hG, hMv, (ite_sw (by first | exact ite_2 (c := GateP.nt c) (a := b) (b := a) hG0.2 hr221 (by omega) | exact ite_4 (c := GateP.nt c) (a := b) (b := a) hG0.2 hr221 (by omega))), by omega⟩⟩
        · replace hb50 : ((b : Nat) : Int) = 0 := (eq_of_beq hb50)
          refine sg [(32, undef), (33, undef), (34, undef), (35, .bool true), (28, .bool true)] (by kernel_rfl) ?_
          refine op_nil ?_
          refine W_cond true (by kernel_rfl) (by kernel_rfl) (fun _ => ?_) (fun h => nomatch h)
          refine W_seq ?_
          refine W_fg [(0, .pointer (some ⟨p, 0, none⟩)), (1, .int .i64 ((c : Nat) : Int)), (2, .int .i64 ((a : Nat) : Int)), (3, .int .i64 ((b : Nat) : Int)), (5, .pointer (some ⟨w.heap.size, 0, none⟩)), (6, .pointer (some ⟨w1.heap.size, 0, none⟩)), (7, .pointer (some ⟨w6.heap.size, 0, none⟩)), (8, .int .i64 0), (14, .bool false), (16, .bool (decide (c % 2 = 1))), (21, .bool (((b : Nat) : Int) == ((a : Nat) : Int))), (28, .bool true)] (by kernel_rfl) fun ρ => ?_
          refine W_region (by kernel_rfl) ?_
          refine sg [(36, .pointer (some ⟨p, 0, none⟩))] (by kernel_rfl) ?_
          refine st (by rfl) (S_val (v := .int .i64 ((GateP.nt c : Nat) : Int)) (R_load (v := .int .i64 ((GateP.nt c : Nat) : Int)) (by kernel_rfl) (by kernel_rfl) ((hB4.cell 0).trans rfl)) ?_)
          refine st (by rfl) (S_val (v := .int .i64 ((a : Nat) : Int)) (R_load (v := .int .i64 ((a : Nat) : Int)) (by kernel_rfl) (by kernel_rfl) ((hB15.cell 0).trans rfl)) ?_)
          have lt237 := hB4.lt
          have lt238 := hB9.lt
          have lt239 := hB15.lt
          have lt240 := hB22.lt
          refine st (by rfl) (S_call (args := [.pointer (some ⟨p, 0, none⟩), .int .i64 ((GateP.nt c : Nat) : Int), .int .i64 ((a : Nat) : Int)]) (by kernel_rfl) (or_ok F p n (GateP.nt c) a cs I _ hG (by omega) (by omega) (by omega)) ?_)
          rintro _ w229 ⟨F230, n231, cs232, x233, rfl, hG, hm234, hr235, hd236⟩
          have hMv := hMv.trans hm234
          have hB4 := hB4.tch hm234.1 nF_hB4
          have hB9 := hB9.tch hm234.1 nF_hB9
          have hB15 := hB15.tch hm234.1 nF_hB15
          have hB22 := hB22.tch hm234.1 nF_hB22
          have hle242 := hr235.1
          have hxb241 := hr235.2.2.1
          replace nF_hB4 : ¬ F230 (w.heap.size) := fun e => (hm234.2 _ e).elim nF_hB4 (fun q => by omega)
          replace nF_hB9 : ¬ F230 (w1.heap.size) := fun e => (hm234.2 _ e).elim nF_hB9 (fun q => by omega)
          replace nF_hB15 : ¬ F230 (w6.heap.size) := fun e => (hm234.2 _ e).elim nF_hB15 (fun q => by omega)
          replace nF_hB22 : ¬ F230 (w12.heap.size) := fun e => (hm234.2 _ e).elim nF_hB22 (fun q => by omega)
          refine sg [(8, .int .i64 ((x233 : Nat) : Int))] (by kernel_rfl) ?_
          refine op_nil ?_
          refine W_ret ?_
          exact ⟨_, Res_of (v := .int .i64 ((x233 : Nat) : Int)) (by kernel_rfl), ⟨F230, n231, cs232, _, rfl, hG, hMv, (ite_sw (by first | exact ite_1 (c := GateP.nt c) (a := b) (b := a) hG0.2 hr235 (by omega) | exact ite_3 (c := GateP.nt c) (a := b) (b := a) hG0.2 hr235 (by omega))), by omega⟩⟩
  · replace hc31 : c % 2 = 0 := ((by have := of_decide_eq_false hc31; omega))
    refine W_skip ?_
    refine W_seq ?_
    refine W_block ?_
    refine W_seq ?_
    refine W_seq ?_
    refine W_region (by kernel_rfl) ?_
    refine st (by rfl) (S_val (v := .int .i64 ((c : Nat) : Int)) (R_load (v := .int .i64 ((c : Nat) : Int)) (by kernel_rfl) (by kernel_rfl) ((hB4.cell 0).trans rfl)) ?_)
    refine sg [(23, .bool (((c : Nat) : Int) == 0)), (21, .bool (((c : Nat) : Int) == 0))] (by kernel_rfl) ?_
    refine op_nil ?_
    refine W_cond (((c : Nat) : Int) == 0) (by kernel_rfl) (by kernel_rfl) (fun hc243 => ?_) (fun hc243 => ?_)
    · replace hc243 : ((c : Nat) : Int) = 0 := (eq_of_beq hc243)
      refine W_skip ?_
      refine W_cond (((c : Nat) : Int) == 0) (by kernel_rfl) (by kernel_rfl) (fun hc244 => ?_) (fun hc244 => ?_)
      · replace hc244 : ((c : Nat) : Int) = 0 := (eq_of_beq hc244)
        refine W_seq ?_
        refine W_region (by kernel_rfl) ?_
        refine st (by rfl) (S_val (v := .int .i64 ((a : Nat) : Int)) (R_load (v := .int .i64 ((a : Nat) : Int)) (by kernel_rfl) (by kernel_rfl) ((hB9.cell 0).trans rfl)) ?_)
        refine sg [(8, .int .i64 ((a : Nat) : Int))] (by kernel_rfl) ?_
        refine op_nil ?_
        refine W_ret ?_
        exact ⟨_, Res_of (v := .int .i64 ((a : Nat) : Int)) (by kernel_rfl), ⟨F, n, cs, _, rfl, hG, hMv, (ite_a (c := c) (a := a) (b := b) hG0.2 (by omega) (by omega)), by omega⟩⟩
      · replace hc244 : ((c : Nat) : Int) ≠ 0 := (ne_of_beq_false hc244)
        exfalso; omega
    · replace hc243 : ((c : Nat) : Int) ≠ 0 := (ne_of_beq_false hc243)
      refine W_region (by kernel_rfl) ?_
      refine st (by rfl) (S_val (v := .int .i64 ((a : Nat) : Int)) (R_load (v := .int .i64 ((a : Nat) : Int)) (by kernel_rfl) (by kernel_rfl) ((hB9.cell 0).trans rfl)) ?_)
      refine st (by rfl) (S_val (v := .int .i64 ((b : Nat) : Int)) (R_load (v := .int .i64 ((b : Nat) : Int)) (by kernel_rfl) (by kernel_rfl) ((hB15.cell 0).trans rfl)) ?_)
      refine sg [(26, .bool (((a : Nat) : Int) == ((b : Nat) : Int))), (21, .bool (((a : Nat) : Int) == ((b : Nat) : Int)))] (by kernel_rfl) ?_
      refine op_nil ?_
      refine W_cond (((a : Nat) : Int) == ((b : Nat) : Int)) (by kernel_rfl) (by kernel_rfl) (fun hc245 => ?_) (fun hc245 => ?_)
      · replace hc245 : ((a : Nat) : Int) = ((b : Nat) : Int) := (eq_of_beq hc245)
        refine W_seq ?_
        refine W_fg [(0, .pointer (some ⟨p, 0, none⟩)), (1, .int .i64 ((c : Nat) : Int)), (2, .int .i64 ((a : Nat) : Int)), (3, .int .i64 ((b : Nat) : Int)), (5, .pointer (some ⟨w.heap.size, 0, none⟩)), (6, .pointer (some ⟨w1.heap.size, 0, none⟩)), (7, .pointer (some ⟨w6.heap.size, 0, none⟩)), (8, .int .i64 0), (14, .bool false), (16, .bool (decide (c % 2 = 1))), (21, .bool (((a : Nat) : Int) == ((b : Nat) : Int)))] (by kernel_rfl) fun ρ => ?_
        refine W_region (by kernel_rfl) ?_
        refine st (by rfl) (S_val (v := .int .i64 ((a : Nat) : Int)) (R_load (v := .int .i64 ((a : Nat) : Int)) (by kernel_rfl) (by kernel_rfl) ((hB9.cell 0).trans rfl)) ?_)
        refine sg [(8, .int .i64 ((a : Nat) : Int))] (by kernel_rfl) ?_
        refine op_nil ?_
        refine W_ret ?_
        exact ⟨_, Res_of (v := .int .i64 ((a : Nat) : Int)) (by kernel_rfl), ⟨F, n, cs, _, rfl, hG, hMv, (ite_a (c := c) (a := a) (b := b) hG0.2 (by omega) (by omega)), by omega⟩⟩
      · replace hc245 : ((a : Nat) : Int) ≠ ((b : Nat) : Int) := (ne_of_beq_false hc245)
        refine W_seq ?_
        refine W_fg [(0, .pointer (some ⟨p, 0, none⟩)), (1, .int .i64 ((c : Nat) : Int)), (2, .int .i64 ((a : Nat) : Int)), (3, .int .i64 ((b : Nat) : Int)), (5, .pointer (some ⟨w.heap.size, 0, none⟩)), (6, .pointer (some ⟨w1.heap.size, 0, none⟩)), (7, .pointer (some ⟨w6.heap.size, 0, none⟩)), (8, .int .i64 0), (14, .bool false), (16, .bool (decide (c % 2 = 1))), (21, .bool (((a : Nat) : Int) == ((b : Nat) : Int)))] (by kernel_rfl) fun ρ => ?_
        refine W_region (by kernel_rfl) ?_
        refine st (by rfl) (S_val (v := .int .i64 ((a : Nat) : Int)) (R_load (v := .int .i64 ((a : Nat) : Int)) (by kernel_rfl) (by kernel_rfl) ((hB9.cell 0).trans rfl)) ?_)
        refine sg [(30, .bool (((a : Nat) : Int) == 0)), (31, .bool (((a : Nat) : Int) == 0))] (by kernel_rfl) ?_
        cases hb246 : ((a : Nat) : Int) == 0
        · replace hb246 : ((a : Nat) : Int) ≠ 0 := (ne_of_beq_false hb246)
          refine st (by kernel_rfl) (S_val (v := .int .i64 ((a : Nat) : Int)) (R_load (v := .int .i64 ((a : Nat) : Int)) (by kernel_rfl) (by kernel_rfl) ((hB9.cell 0).trans rfl)) ?_)
          refine st (by kernel_rfl) (S_val (v := .int .i64 ((c : Nat) : Int)) (R_load (v := .int .i64 ((c : Nat) : Int)) (by kernel_rfl) (by kernel_rfl) ((hB4.cell 0).trans rfl)) ?_)
          refine sg [(34, .bool (((a : Nat) : Int) == ((c : Nat) : Int))), (35, .bool (((a : Nat) : Int) == ((c : Nat) : Int))), (28, .bool (((a : Nat) : Int) == ((c : Nat) : Int)))] (by kernel_rfl) ?_
          refine op_nil ?_
          refine W_cond (((a : Nat) : Int) == ((c : Nat) : Int)) (by kernel_rfl) (by kernel_rfl) (fun hc247 => ?_) (fun hc247 => ?_)
          · replace hc247 : ((a : Nat) : Int) = ((c : Nat) : Int) := (eq_of_beq hc247)
            refine W_seq ?_
            refine W_fg [(0, .pointer (some ⟨p, 0, none⟩)), (1, .int .i64 ((c : Nat) : Int)), (2, .int .i64 ((a : Nat) : Int)), (3, .int .i64 ((b : Nat) : Int)), (5, .pointer (some ⟨w.heap.size, 0, none⟩)), (6, .pointer (some ⟨w1.heap.size, 0, none⟩)), (7, .pointer (some ⟨w6.heap.size, 0, none⟩)), (8, .int .i64 0), (14, .bool false), (16, .bool (decide (c % 2 = 1))), (21, .bool (((a : Nat) : Int) == ((b : Nat) : Int))), (28, .bool (((a : Nat) : Int) == ((c : Nat) : Int)))] (by kernel_rfl) fun ρ => ?_
            refine W_region (by kernel_rfl) ?_
            refine sg [(36, .pointer (some ⟨p, 0, none⟩))] (by kernel_rfl) ?_
            refine st (by rfl) (S_val (v := .int .i64 ((c : Nat) : Int)) (R_load (v := .int .i64 ((c : Nat) : Int)) (by kernel_rfl) (by kernel_rfl) ((hB4.cell 0).trans rfl)) ?_)
            refine st (by rfl) (S_val (v := .int .i64 ((b : Nat) : Int)) (R_load (v := .int .i64 ((b : Nat) : Int)) (by kernel_rfl) (by kernel_rfl) ((hB15.cell 0).trans rfl)) ?_)
            have lt256 := hB4.lt
            have lt257 := hB9.lt
            have lt258 := hB15.lt
            have lt259 := hB22.lt
            refine st (by rfl) (S_call (args := [.pointer (some ⟨p, 0, none⟩), .int .i64 ((c : Nat) : Int), .int .i64 ((b : Nat) : Int)]) (by kernel_rfl) (or_ok F p n c b cs I _ hG (by omega) (by omega) (by omega)) ?_)
            rintro _ w248 ⟨F249, n250, cs251, x252, rfl, hG, hm253, hr254, hd255⟩
            have hMv := hMv.trans hm253
            have hB4 := hB4.tch hm253.1 nF_hB4
            have hB9 := hB9.tch hm253.1 nF_hB9
            have hB15 := hB15.tch hm253.1 nF_hB15
            have hB22 := hB22.tch hm253.1 nF_hB22
            have hle261 := hr254.1
            have hxb260 := hr254.2.2.1
            replace nF_hB4 : ¬ F249 (w.heap.size) := fun e => (hm253.2 _ e).elim nF_hB4 (fun q => by omega)
            replace nF_hB9 : ¬ F249 (w1.heap.size) := fun e => (hm253.2 _ e).elim nF_hB9 (fun q => by omega)
            replace nF_hB15 : ¬ F249 (w6.heap.size) := fun e => (hm253.2 _ e).elim nF_hB15 (fun q => by omega)
            replace nF_hB22 : ¬ F249 (w12.heap.size) := fun e => (hm253.2 _ e).elim nF_hB22 (fun q => by omega)
            refine sg [(8, .int .i64 ((x252 : Nat) : Int))] (by kernel_rfl) ?_
            refine op_nil ?_
            refine W_ret ?_
            exact ⟨_, Res_of (v := .int .i64 ((x252 : Nat) : Int)) (by kernel_rfl), ⟨F249, n250, cs251, _, rfl, hG, hMv, (by first | exact ite_1 (c := c) (a := a) (b := b) hG0.2 hr254 (by omega) | exact ite_3 (c := c) (a := a) (b := b) hG0.2 hr254 (by omega)), by omega⟩⟩
          · replace hc247 : ((a : Nat) : Int) ≠ ((c : Nat) : Int) := (ne_of_beq_false hc247)
            refine W_seq ?_
            refine W_fg [(0, .pointer (some ⟨p, 0, none⟩)), (1, .int .i64 ((c : Nat) : Int)), (2, .int .i64 ((a : Nat) : Int)), (3, .int .i64 ((b : Nat) : Int)), (5, .pointer (some ⟨w.heap.size, 0, none⟩)), (6, .pointer (some ⟨w1.heap.size, 0, none⟩)), (7, .pointer (some ⟨w6.heap.size, 0, none⟩)), (8, .int .i64 0), (14, .bool false), (16, .bool (decide (c % 2 = 1))), (21, .bool (((a : Nat) : Int) == ((b : Nat) : Int))), (28, .bool (((a : Nat) : Int) == ((c : Nat) : Int)))] (by kernel_rfl) fun ρ => ?_
            refine W_draw (fun w' => Blk w' (w.heap.size) 3 [.int .i64 ((c : Nat) : Int)] ∧ Blk w' (w1.heap.size) 3 [.int .i64 ((a : Nat) : Int)] ∧ Blk w' (w6.heap.size) 3 [.int .i64 ((b : Nat) : Int)] ∧ Blk w' (w12.heap.size) 3 [.int .i64 ((c : Nat) : Int), .int .i64 ((a : Nat) : Int), .int .i64 ((b : Nat) : Int)]) (by kernel_rfl) (by kernel_rfl) (by kernel_rfl) fun w262 hT263 hh264 => ?_
            have hG := hG.tch0 hT263
            have hMv := hMv.then0 hT263
            have hB4 := hB4.tch0 hT263
            have hB9 := hB9.tch0 hT263
            have hB15 := hB15.tch0 hT263
            have hB22 := hB22.tch0 hT263
            refine d_val (v := .int .i64 ((a : Nat) : Int)) 0 (by rfl) (by kernel_rfl) (by kernel_rfl) (by kernel_rfl) (fun w' hs => by obtain ⟨hB4, hB9, hB15, hB22⟩ := hs; exact R_load (v := .int .i64 ((a : Nat) : Int)) (by kernel_rfl) (by kernel_rfl) ((hB9.cell 0).trans rfl)) ⟨hB4, hB9, hB15, hB22⟩ ?_
            refine dtk [1, 2] #[true, true, true, false, false, false, false, false, false] [(42, .bool (((a : Nat) : Int) == 1)), (43, .bool (((a : Nat) : Int) == 1))] ⟨hB4, hB9, hB15, hB22⟩ (by kernel_rfl) ?_
            cases hb265 : ((a : Nat) : Int) == 1
            · replace hb265 : ((a : Nat) : Int) ≠ 1 := (ne_of_beq_false hb265)
              refine d_val (v := .int .i64 ((a : Nat) : Int)) 3 (by rfl) (by kernel_rfl) (by kernel_rfl) (by kernel_rfl) (fun w' hs => by obtain ⟨hB4, hB9, hB15, hB22⟩ := hs; exact R_load (v := .int .i64 ((a : Nat) : Int)) (by kernel_rfl) (by kernel_rfl) ((hB9.cell 0).trans rfl)) ⟨hB4, hB9, hB15, hB22⟩ ?_
              refine d_val (v := .int .i64 ((c : Nat) : Int)) 4 (by rfl) (by kernel_rfl) (by kernel_rfl) (by kernel_rfl) (fun w' hs => by obtain ⟨hB4, hB9, hB15, hB22⟩ := hs; exact R_load (v := .int .i64 ((c : Nat) : Int)) (by kernel_rfl) (by kernel_rfl) ((hB4.cell 0).trans rfl)) ⟨hB4, hB9, hB15, hB22⟩ ?_
              refine d_one 5 (by kernel_rfl) (by rfl) (by kernel_rfl) (S_call (args := [.int .i64 ((c : Nat) : Int)]) (by kernel_rfl) (not_ok c _ (by omega)) ?_)
              rintro _ w266 ⟨rfl, hT267⟩
              have hG := hG.tch0 hT267
              have hMv := hMv.then0 hT267
              have hB4 := hB4.tch0 hT267
              have hB9 := hB9.tch0 hT267
              have hB15 := hB15.tch0 hT267
              have hB22 := hB22.tch0 hT267
              have hnt268 := GateP.nt_div c
              refine ⟨⟨hB4, hB9, hB15, hB22⟩, ?_⟩
              refine dtk [6, 7, 8] #[true, true, true, true, true, true, true, true, true] [(47, .bool (((a : Nat) : Int) == ((GateP.nt c : Nat) : Int))), (48, .bool (((a : Nat) : Int) == ((GateP.nt c : Nat) : Int))), (40, .bool (((a : Nat) : Int) == ((GateP.nt c : Nat) : Int)))] ⟨hB4, hB9, hB15, hB22⟩ (by kernel_rfl) ?_
              refine d_done (by kernel_rfl) ?_
              refine W_cond (((a : Nat) : Int) == ((GateP.nt c : Nat) : Int)) (by kernel_rfl) (by kernel_rfl) (fun hc269 => ?_) (fun hc269 => ?_)
              · replace hc269 : ((a : Nat) : Int) = ((GateP.nt c : Nat) : Int) := (eq_of_beq hc269)
                refine W_seq ?_
                refine W_fg [(0, .pointer (some ⟨p, 0, none⟩)), (1, .int .i64 ((c : Nat) : Int)), (2, .int .i64 ((a : Nat) : Int)), (3, .int .i64 ((b : Nat) : Int)), (5, .pointer (some ⟨w.heap.size, 0, none⟩)), (6, .pointer (some ⟨w1.heap.size, 0, none⟩)), (7, .pointer (some ⟨w6.heap.size, 0, none⟩)), (8, .int .i64 0), (14, .bool false), (16, .bool (decide (c % 2 = 1))), (21, .bool (((a : Nat) : Int) == ((b : Nat) : Int))), (28, .bool (((a : Nat) : Int) == ((c : Nat) : Int))), (40, .bool (((a : Nat) : Int) == ((GateP.nt c : Nat) : Int)))] (by kernel_rfl) fun ρ => ?_
                refine W_draw (fun w' => Blk w' (w.heap.size) 3 [.int .i64 ((c : Nat) : Int)] ∧ Blk w' (w1.heap.size) 3 [.int .i64 ((a : Nat) : Int)] ∧ Blk w' (w6.heap.size) 3 [.int .i64 ((b : Nat) : Int)] ∧ Blk w' (w12.heap.size) 3 [.int .i64 ((c : Nat) : Int), .int .i64 ((a : Nat) : Int), .int .i64 ((b : Nat) : Int)]) (by kernel_rfl) (by kernel_rfl) (by kernel_rfl) fun w270 hT271 hh272 => ?_
                have hG := hG.tch0 hT271
                have hMv := hMv.then0 hT271
                have hB4 := hB4.tch0 hT271
                have hB9 := hB9.tch0 hT271
                have hB15 := hB15.tch0 hT271
                have hB22 := hB22.tch0 hT271
                refine dtk [0] #[true, false, false, false, false, false] [(49, .pointer (some ⟨p, 0, none⟩))] ⟨hB4, hB9, hB15, hB22⟩ (by kernel_rfl) ?_
                refine d_val (v := .int .i64 ((c : Nat) : Int)) 1 (by rfl) (by kernel_rfl) (by kernel_rfl) (by kernel_rfl) (fun w' hs => by obtain ⟨hB4, hB9, hB15, hB22⟩ := hs; exact R_load (v := .int .i64 ((c : Nat) : Int)) (by kernel_rfl) (by kernel_rfl) ((hB4.cell 0).trans rfl)) ⟨hB4, hB9, hB15, hB22⟩ ?_
                refine d_val (v := .int .i64 ((b : Nat) : Int)) 3 (by rfl) (by kernel_rfl) (by kernel_rfl) (by kernel_rfl) (fun w' hs => by obtain ⟨hB4, hB9, hB15, hB22⟩ := hs; exact R_load (v := .int .i64 ((b : Nat) : Int)) (by kernel_rfl) (by kernel_rfl) ((hB15.cell 0).trans rfl)) ⟨hB4, hB9, hB15, hB22⟩ ?_
                refine d_one 2 (by kernel_rfl) (by rfl) (by kernel_rfl) (S_call (args := [.int .i64 ((c : Nat) : Int)]) (by kernel_rfl) (not_ok c _ (by omega)) ?_)
                rintro _ w273 ⟨rfl, hT274⟩
                have hG := hG.tch0 hT274
                have hMv := hMv.then0 hT274
                have hB4 := hB4.tch0 hT274
                have hB9 := hB9.tch0 hT274
                have hB15 := hB15.tch0 hT274
                have hB22 := hB22.tch0 hT274
                have hnt275 := GateP.nt_div c
                refine ⟨⟨hB4, hB9, hB15, hB22⟩, ?_⟩
                have lt284 := hB4.lt
                have lt285 := hB9.lt
                have lt286 := hB15.lt
                have lt287 := hB22.lt
                refine d_one 4 (by kernel_rfl) (by rfl) (by kernel_rfl) (S_call (args := [.pointer (some ⟨p, 0, none⟩), .int .i64 ((GateP.nt c : Nat) : Int), .int .i64 ((b : Nat) : Int)]) (by kernel_rfl) (and_ok F p n (GateP.nt c) b cs I _ hG (by omega) (by omega) (by omega)) ?_)
                rintro _ w276 ⟨F277, n278, cs279, x280, rfl, hG, hm281, hr282, hd283⟩
                have hMv := hMv.trans hm281
                have hB4 := hB4.tch hm281.1 nF_hB4
                have hB9 := hB9.tch hm281.1 nF_hB9
                have hB15 := hB15.tch hm281.1 nF_hB15
                have hB22 := hB22.tch hm281.1 nF_hB22
                have hle289 := hr282.1
                have hxb288 := hr282.2.2.1
                replace nF_hB4 : ¬ F277 (w.heap.size) := fun e => (hm281.2 _ e).elim nF_hB4 (fun q => by omega)
                replace nF_hB9 : ¬ F277 (w1.heap.size) := fun e => (hm281.2 _ e).elim nF_hB9 (fun q => by omega)
                replace nF_hB15 : ¬ F277 (w6.heap.size) := fun e => (hm281.2 _ e).elim nF_hB15 (fun q => by omega)
                replace nF_hB22 : ¬ F277 (w12.heap.size) := fun e => (hm281.2 _ e).elim nF_hB22 (fun q => by omega)
                refine ⟨⟨hB4, hB9, hB15, hB22⟩, ?_⟩
                refine dtk [5] #[true, true, true, true, true, true] [(8, .int .i64 ((x280 : Nat) : Int))] ⟨hB4, hB9, hB15, hB22⟩ (by kernel_rfl) ?_
                refine d_done (by kernel_rfl) ?_
                refine W_ret ?_
                exact ⟨_, Res_of (v := .int .i64 ((x280 : Nat) : Int)) (by kernel_rfl), ⟨F277, n278, cs279, _, rfl, hG, hMv, (by first | exact ite_2 (c := c) (a := a) (b := b) hG0.2 hr282 (by omega) | exact ite_4 (c := c) (a := a) (b := b) hG0.2 hr282 (by omega)), by omega⟩⟩
              · replace hc269 : ((a : Nat) : Int) ≠ ((GateP.nt c : Nat) : Int) := (ne_of_beq_false hc269)
                refine W_seq ?_
                refine W_fg [(0, .pointer (some ⟨p, 0, none⟩)), (1, .int .i64 ((c : Nat) : Int)), (2, .int .i64 ((a : Nat) : Int)), (3, .int .i64 ((b : Nat) : Int)), (5, .pointer (some ⟨w.heap.size, 0, none⟩)), (6, .pointer (some ⟨w1.heap.size, 0, none⟩)), (7, .pointer (some ⟨w6.heap.size, 0, none⟩)), (8, .int .i64 0), (14, .bool false), (16, .bool (decide (c % 2 = 1))), (21, .bool (((a : Nat) : Int) == ((b : Nat) : Int))), (28, .bool (((a : Nat) : Int) == ((c : Nat) : Int))), (40, .bool (((a : Nat) : Int) == ((GateP.nt c : Nat) : Int)))] (by kernel_rfl) fun ρ => ?_
                refine W_draw (fun w' => Blk w' (w.heap.size) 3 [.int .i64 ((c : Nat) : Int)] ∧ Blk w' (w1.heap.size) 3 [.int .i64 ((a : Nat) : Int)] ∧ Blk w' (w6.heap.size) 3 [.int .i64 ((b : Nat) : Int)] ∧ Blk w' (w12.heap.size) 3 [.int .i64 ((c : Nat) : Int), .int .i64 ((a : Nat) : Int), .int .i64 ((b : Nat) : Int)]) (by kernel_rfl) (by kernel_rfl) (by kernel_rfl) fun w290 hT291 hh292 => ?_
                have hG := hG.tch0 hT291
                have hMv := hMv.then0 hT291
                have hB4 := hB4.tch0 hT291
                have hB9 := hB9.tch0 hT291
                have hB15 := hB15.tch0 hT291
                have hB22 := hB22.tch0 hT291
                refine d_val (v := .int .i64 ((b : Nat) : Int)) 0 (by rfl) (by kernel_rfl) (by kernel_rfl) (by kernel_rfl) (fun w' hs => by obtain ⟨hB4, hB9, hB15, hB22⟩ := hs; exact R_load (v := .int .i64 ((b : Nat) : Int)) (by kernel_rfl) (by kernel_rfl) ((hB15.cell 0).trans rfl)) ⟨hB4, hB9, hB15, hB22⟩ ?_
                refine dtk [1, 2] #[true, true, true, false, false, false, false, false, false] [(56, .bool (((b : Nat) : Int) == 0)), (57, .bool (((b : Nat) : Int) == 0))] ⟨hB4, hB9, hB15, hB22⟩ (by kernel_rfl) ?_
                cases hb293 : ((b : Nat) : Int) == 0
                · replace hb293 : ((b : Nat) : Int) ≠ 0 := (ne_of_beq_false hb293)
                  refine d_val (v := .int .i64 ((b : Nat) : Int)) 3 (by rfl) (by kernel_rfl) (by kernel_rfl) (by kernel_rfl) (fun w' hs => by obtain ⟨hB4, hB9, hB15, hB22⟩ := hs; exact R_load (v := .int .i64 ((b : Nat) : Int)) (by kernel_rfl) (by kernel_rfl) ((hB15.cell 0).trans rfl)) ⟨hB4, hB9, hB15, hB22⟩ ?_
                  refine d_val (v := .int .i64 ((c : Nat) : Int)) 4 (by rfl) (by kernel_rfl) (by kernel_rfl) (by kernel_rfl) (fun w' hs => by obtain ⟨hB4, hB9, hB15, hB22⟩ := hs; exact R_load (v := .int .i64 ((c : Nat) : Int)) (by kernel_rfl) (by kernel_rfl) ((hB4.cell 0).trans rfl)) ⟨hB4, hB9, hB15, hB22⟩ ?_
                  refine d_one 5 (by kernel_rfl) (by rfl) (by kernel_rfl) (S_call (args := [.int .i64 ((c : Nat) : Int)]) (by kernel_rfl) (not_ok c _ (by omega)) ?_)
                  rintro _ w294 ⟨rfl, hT295⟩
                  have hG := hG.tch0 hT295
                  have hMv := hMv.then0 hT295
                  have hB4 := hB4.tch0 hT295
                  have hB9 := hB9.tch0 hT295
                  have hB15 := hB15.tch0 hT295
                  have hB22 := hB22.tch0 hT295
                  have hnt296 := GateP.nt_div c
                  refine ⟨⟨hB4, hB9, hB15, hB22⟩, ?_⟩
                  refine dtk [6, 7, 8] #[true, true, true, true, true, true, true, true, true] [(61, .bool (((b : Nat) : Int) == ((GateP.nt c : Nat) : Int))), (62, .bool (((b : Nat) : Int) == ((GateP.nt c : Nat) : Int))), (54, .bool (((b : Nat) : Int) == ((GateP.nt c : Nat) : Int)))] ⟨hB4, hB9, hB15, hB22⟩ (by kernel_rfl) ?_
                  refine d_done (by kernel_rfl) ?_
                  refine W_cond (((b : Nat) : Int) == ((GateP.nt c : Nat) : Int)) (by kernel_rfl) (by kernel_rfl) (fun hc297 => ?_) (fun hc297 => ?_)
                  · replace hc297 : ((b : Nat) : Int) = ((GateP.nt c : Nat) : Int) := (eq_of_beq hc297)
                    refine W_seq ?_
                    refine W_fg [(0, .pointer (some ⟨p, 0, none⟩)), (1, .int .i64 ((c : Nat) : Int)), (2, .int .i64 ((a : Nat) : Int)), (3, .int .i64 ((b : Nat) : Int)), (5, .pointer (some ⟨w.heap.size, 0, none⟩)), (6, .pointer (some ⟨w1.heap.size, 0, none⟩)), (7, .pointer (some ⟨w6.heap.size, 0, none⟩)), (8, .int .i64 0), (14, .bool false), (16, .bool (decide (c % 2 = 1))), (21, .bool (((a : Nat) : Int) == ((b : Nat) : Int))), (28, .bool (((a : Nat) : Int) == ((c : Nat) : Int))), (40, .bool (((a : Nat) : Int) == ((GateP.nt c : Nat) : Int))), (54, .bool (((b : Nat) : Int) == ((GateP.nt c : Nat) : Int)))] (by kernel_rfl) fun ρ => ?_
                    refine W_draw (fun w' => Blk w' (w.heap.size) 3 [.int .i64 ((c : Nat) : Int)] ∧ Blk w' (w1.heap.size) 3 [.int .i64 ((a : Nat) : Int)] ∧ Blk w' (w6.heap.size) 3 [.int .i64 ((b : Nat) : Int)] ∧ Blk w' (w12.heap.size) 3 [.int .i64 ((c : Nat) : Int), .int .i64 ((a : Nat) : Int), .int .i64 ((b : Nat) : Int)]) (by kernel_rfl) (by kernel_rfl) (by kernel_rfl) fun w298 hT299 hh300 => ?_
                    have hG := hG.tch0 hT299
                    have hMv := hMv.then0 hT299
                    have hB4 := hB4.tch0 hT299
                    have hB9 := hB9.tch0 hT299
                    have hB15 := hB15.tch0 hT299
                    have hB22 := hB22.tch0 hT299
                    refine dtk [0] #[true, false, false, false, false, false] [(63, .pointer (some ⟨p, 0, none⟩))] ⟨hB4, hB9, hB15, hB22⟩ (by kernel_rfl) ?_
                    refine d_val (v := .int .i64 ((c : Nat) : Int)) 1 (by rfl) (by kernel_rfl) (by kernel_rfl) (by kernel_rfl) (fun w' hs => by obtain ⟨hB4, hB9, hB15, hB22⟩ := hs; exact R_load (v := .int .i64 ((c : Nat) : Int)) (by kernel_rfl) (by kernel_rfl) ((hB4.cell 0).trans rfl)) ⟨hB4, hB9, hB15, hB22⟩ ?_
                    refine d_val (v := .int .i64 ((a : Nat) : Int)) 3 (by rfl) (by kernel_rfl) (by kernel_rfl) (by kernel_rfl) (fun w' hs => by obtain ⟨hB4, hB9, hB15, hB22⟩ := hs; exact R_load (v := .int .i64 ((a : Nat) : Int)) (by kernel_rfl) (by kernel_rfl) ((hB9.cell 0).trans rfl)) ⟨hB4, hB9, hB15, hB22⟩ ?_
                    refine d_one 2 (by kernel_rfl) (by rfl) (by kernel_rfl) (S_call (args := [.int .i64 ((c : Nat) : Int)]) (by kernel_rfl) (not_ok c _ (by omega)) ?_)
                    rintro _ w301 ⟨rfl, hT302⟩
                    have hG := hG.tch0 hT302
                    have hMv := hMv.then0 hT302
                    have hB4 := hB4.tch0 hT302
                    have hB9 := hB9.tch0 hT302
                    have hB15 := hB15.tch0 hT302
                    have hB22 := hB22.tch0 hT302
                    have hnt303 := GateP.nt_div c
                    refine ⟨⟨hB4, hB9, hB15, hB22⟩, ?_⟩
                    have lt312 := hB4.lt
                    have lt313 := hB9.lt
                    have lt314 := hB15.lt
                    have lt315 := hB22.lt
                    refine d_one 4 (by kernel_rfl) (by rfl) (by kernel_rfl) (S_call (args := [.pointer (some ⟨p, 0, none⟩), .int .i64 ((GateP.nt c : Nat) : Int), .int .i64 ((a : Nat) : Int)]) (by kernel_rfl) (or_ok F p n (GateP.nt c) a cs I _ hG (by omega) (by omega) (by omega)) ?_)
                    rintro _ w304 ⟨F305, n306, cs307, x308, rfl, hG, hm309, hr310, hd311⟩
                    have hMv := hMv.trans hm309
                    have hB4 := hB4.tch hm309.1 nF_hB4
                    have hB9 := hB9.tch hm309.1 nF_hB9
                    have hB15 := hB15.tch hm309.1 nF_hB15
                    have hB22 := hB22.tch hm309.1 nF_hB22
                    have hle317 := hr310.1
                    have hxb316 := hr310.2.2.1
                    replace nF_hB4 : ¬ F305 (w.heap.size) := fun e => (hm309.2 _ e).elim nF_hB4 (fun q => by omega)
                    replace nF_hB9 : ¬ F305 (w1.heap.size) := fun e => (hm309.2 _ e).elim nF_hB9 (fun q => by omega)
                    replace nF_hB15 : ¬ F305 (w6.heap.size) := fun e => (hm309.2 _ e).elim nF_hB15 (fun q => by omega)
                    replace nF_hB22 : ¬ F305 (w12.heap.size) := fun e => (hm309.2 _ e).elim nF_hB22 (fun q => by omega)
                    refine ⟨⟨hB4, hB9, hB15, hB22⟩, ?_⟩
                    refine dtk [5] #[true, true, true, true, true, true] [(8, .int .i64 ((x308 : Nat) : Int))] ⟨hB4, hB9, hB15, hB22⟩ (by kernel_rfl) ?_
                    refine d_done (by kernel_rfl) ?_
                    refine W_ret ?_
                    exact ⟨_, Res_of (v := .int .i64 ((x308 : Nat) : Int)) (by kernel_rfl), ⟨F305, n306, cs307, _, rfl, hG, hMv, (by first | exact ite_1 (c := c) (a := a) (b := b) hG0.2 hr310 (by omega) | exact ite_3 (c := c) (a := a) (b := b) hG0.2 hr310 (by omega)), by omega⟩⟩
                  · replace hc297 : ((b : Nat) : Int) ≠ ((GateP.nt c : Nat) : Int) := (ne_of_beq_false hc297)
                    refine W_seq ?_
                    refine W_fg [(0, .pointer (some ⟨p, 0, none⟩)), (1, .int .i64 ((c : Nat) : Int)), (2, .int .i64 ((a : Nat) : Int)), (3, .int .i64 ((b : Nat) : Int)), (5, .pointer (some ⟨w.heap.size, 0, none⟩)), (6, .pointer (some ⟨w1.heap.size, 0, none⟩)), (7, .pointer (some ⟨w6.heap.size, 0, none⟩)), (8, .int .i64 0), (14, .bool false), (16, .bool (decide (c % 2 = 1))), (21, .bool (((a : Nat) : Int) == ((b : Nat) : Int))), (28, .bool (((a : Nat) : Int) == ((c : Nat) : Int))), (40, .bool (((a : Nat) : Int) == ((GateP.nt c : Nat) : Int))), (54, .bool (((b : Nat) : Int) == ((GateP.nt c : Nat) : Int)))] (by kernel_rfl) fun ρ => ?_
                    refine W_region (by kernel_rfl) ?_
                    refine st (by rfl) (S_val (v := .int .i64 ((b : Nat) : Int)) (R_load (v := .int .i64 ((b : Nat) : Int)) (by kernel_rfl) (by kernel_rfl) ((hB15.cell 0).trans rfl)) ?_)
                    refine sg [(70, .bool (((b : Nat) : Int) == 1)), (71, .bool (((b : Nat) : Int) == 1))] (by kernel_rfl) ?_
                    cases hb318 : ((b : Nat) : Int) == 1
                    · replace hb318 : ((b : Nat) : Int) ≠ 1 := (ne_of_beq_false hb318)
                      refine st (by kernel_rfl) (S_val (v := .int .i64 ((b : Nat) : Int)) (R_load (v := .int .i64 ((b : Nat) : Int)) (by kernel_rfl) (by kernel_rfl) ((hB15.cell 0).trans rfl)) ?_)
                      refine st (by kernel_rfl) (S_val (v := .int .i64 ((c : Nat) : Int)) (R_load (v := .int .i64 ((c : Nat) : Int)) (by kernel_rfl) (by kernel_rfl) ((hB4.cell 0).trans rfl)) ?_)
                      refine sg [(74, .bool (((b : Nat) : Int) == ((c : Nat) : Int))), (75, .bool (((b : Nat) : Int) == ((c : Nat) : Int))), (68, .bool (((b : Nat) : Int) == ((c : Nat) : Int)))] (by kernel_rfl) ?_
                      refine op_nil ?_
                      refine W_cond (((b : Nat) : Int) == ((c : Nat) : Int)) (by kernel_rfl) (by kernel_rfl) (fun hc319 => ?_) (fun hc319 => ?_)
                      · replace hc319 : ((b : Nat) : Int) = ((c : Nat) : Int) := (eq_of_beq hc319)
                        refine W_seq ?_
                        refine W_fg [(0, .pointer (some ⟨p, 0, none⟩)), (1, .int .i64 ((c : Nat) : Int)), (2, .int .i64 ((a : Nat) : Int)), (3, .int .i64 ((b : Nat) : Int)), (5, .pointer (some ⟨w.heap.size, 0, none⟩)), (6, .pointer (some ⟨w1.heap.size, 0, none⟩)), (7, .pointer (some ⟨w6.heap.size, 0, none⟩)), (8, .int .i64 0), (14, .bool false), (16, .bool (decide (c % 2 = 1))), (21, .bool (((a : Nat) : Int) == ((b : Nat) : Int))), (28, .bool (((a : Nat) : Int) == ((c : Nat) : Int))), (40, .bool (((a : Nat) : Int) == ((GateP.nt c : Nat) : Int))), (54, .bool (((b : Nat) : Int) == ((GateP.nt c : Nat) : Int))), (68, .bool (((b : Nat) : Int) == ((c : Nat) : Int)))] (by kernel_rfl) fun ρ => ?_
                        refine W_region (by kernel_rfl) ?_
                        refine sg [(76, .pointer (some ⟨p, 0, none⟩))] (by kernel_rfl) ?_
                        refine st (by rfl) (S_val (v := .int .i64 ((c : Nat) : Int)) (R_load (v := .int .i64 ((c : Nat) : Int)) (by kernel_rfl) (by kernel_rfl) ((hB4.cell 0).trans rfl)) ?_)
                        refine st (by rfl) (S_val (v := .int .i64 ((a : Nat) : Int)) (R_load (v := .int .i64 ((a : Nat) : Int)) (by kernel_rfl) (by kernel_rfl) ((hB9.cell 0).trans rfl)) ?_)
                        have lt328 := hB4.lt
                        have lt329 := hB9.lt
                        have lt330 := hB15.lt
                        have lt331 := hB22.lt
                        refine st (by rfl) (S_call (args := [.pointer (some ⟨p, 0, none⟩), .int .i64 ((c : Nat) : Int), .int .i64 ((a : Nat) : Int)]) (by kernel_rfl) (and_ok F p n c a cs I _ hG (by omega) (by omega) (by omega)) ?_)
                        rintro _ w320 ⟨F321, n322, cs323, x324, rfl, hG, hm325, hr326, hd327⟩
                        have hMv := hMv.trans hm325
                        have hB4 := hB4.tch hm325.1 nF_hB4
                        have hB9 := hB9.tch hm325.1 nF_hB9
                        have hB15 := hB15.tch hm325.1 nF_hB15
                        have hB22 := hB22.tch hm325.1 nF_hB22
                        have hle333 := hr326.1
                        have hxb332 := hr326.2.2.1
                        replace nF_hB4 : ¬ F321 (w.heap.size) := fun e => (hm325.2 _ e).elim nF_hB4 (fun q => by omega)
                        replace nF_hB9 : ¬ F321 (w1.heap.size) := fun e => (hm325.2 _ e).elim nF_hB9 (fun q => by omega)
                        replace nF_hB15 : ¬ F321 (w6.heap.size) := fun e => (hm325.2 _ e).elim nF_hB15 (fun q => by omega)
                        replace nF_hB22 : ¬ F321 (w12.heap.size) := fun e => (hm325.2 _ e).elim nF_hB22 (fun q => by omega)
                        refine sg [(8, .int .i64 ((x324 : Nat) : Int))] (by kernel_rfl) ?_
                        refine op_nil ?_
                        refine W_ret ?_
                        exact ⟨_, Res_of (v := .int .i64 ((x324 : Nat) : Int)) (by kernel_rfl), ⟨F321, n322, cs323, _, rfl, hG, hMv, (by first | exact ite_2 (c := c) (a := a) (b := b) hG0.2 hr326 (by omega) | exact ite_4 (c := c) (a := a) (b := b) hG0.2 hr326 (by omega)), by omega⟩⟩
                      · replace hc319 : ((b : Nat) : Int) ≠ ((c : Nat) : Int) := (ne_of_beq_false hc319)
                        refine W_seq ?_
                        refine W_fg [(0, .pointer (some ⟨p, 0, none⟩)), (1, .int .i64 ((c : Nat) : Int)), (2, .int .i64 ((a : Nat) : Int)), (3, .int .i64 ((b : Nat) : Int)), (5, .pointer (some ⟨w.heap.size, 0, none⟩)), (6, .pointer (some ⟨w1.heap.size, 0, none⟩)), (7, .pointer (some ⟨w6.heap.size, 0, none⟩)), (8, .int .i64 0), (14, .bool false), (16, .bool (decide (c % 2 = 1))), (21, .bool (((a : Nat) : Int) == ((b : Nat) : Int))), (28, .bool (((a : Nat) : Int) == ((c : Nat) : Int))), (40, .bool (((a : Nat) : Int) == ((GateP.nt c : Nat) : Int))), (54, .bool (((b : Nat) : Int) == ((GateP.nt c : Nat) : Int))), (68, .bool (((b : Nat) : Int) == ((c : Nat) : Int)))] (by kernel_rfl) fun ρ => ?_
                        refine W_draw (fun w' => Blk w' (w.heap.size) 3 [.int .i64 ((c : Nat) : Int)] ∧ Blk w' (w1.heap.size) 3 [.int .i64 ((a : Nat) : Int)] ∧ Blk w' (w6.heap.size) 3 [.int .i64 ((b : Nat) : Int)] ∧ Blk w' (w12.heap.size) 3 [.int .i64 ((c : Nat) : Int), .int .i64 ((a : Nat) : Int), .int .i64 ((b : Nat) : Int)]) (by kernel_rfl) (by kernel_rfl) (by kernel_rfl) fun w334 hT335 hh336 => ?_
                        have hG := hG.tch0 hT335
                        have hMv := hMv.then0 hT335
                        have hB4 := hB4.tch0 hT335
                        have hB9 := hB9.tch0 hT335
                        have hB15 := hB15.tch0 hT335
                        have hB22 := hB22.tch0 hT335
                        refine d_val (v := .int .i64 ((b : Nat) : Int)) 0 (by rfl) (by kernel_rfl) (by kernel_rfl) (by kernel_rfl) (fun w' hs => by obtain ⟨hB4, hB9, hB15, hB22⟩ := hs; exact R_load (v := .int .i64 ((b : Nat) : Int)) (by kernel_rfl) (by kernel_rfl) ((hB15.cell 0).trans rfl)) ⟨hB4, hB9, hB15, hB22⟩ ?_
                        refine d_val (v := .int .i64 ((a : Nat) : Int)) 1 (by rfl) (by kernel_rfl) (by kernel_rfl) (by kernel_rfl) (fun w' hs => by obtain ⟨hB4, hB9, hB15, hB22⟩ := hs; exact R_load (v := .int .i64 ((a : Nat) : Int)) (by kernel_rfl) (by kernel_rfl) ((hB9.cell 0).trans rfl)) ⟨hB4, hB9, hB15, hB22⟩ ?_
                        refine d_one 2 (by kernel_rfl) (by rfl) (by kernel_rfl) (S_call (args := [.int .i64 ((a : Nat) : Int)]) (by kernel_rfl) (not_ok a _ (by omega)) ?_)
                        rintro _ w337 ⟨rfl, hT338⟩
                        have hG := hG.tch0 hT338
                        have hMv := hMv.then0 hT338
                        have hB4 := hB4.tch0 hT338
                        have hB9 := hB9.tch0 hT338
                        have hB15 := hB15.tch0 hT338
                        have hB22 := hB22.tch0 hT338
                        have hnt339 := GateP.nt_div a
                        refine ⟨⟨hB4, hB9, hB15, hB22⟩, ?_⟩
                        refine dtk [3, 4] #[true, true, true, true, true] [(84, .bool (((b : Nat) : Int) == ((GateP.nt a : Nat) : Int))), (80, .bool (((b : Nat) : Int) == ((GateP.nt a : Nat) : Int)))] ⟨hB4, hB9, hB15, hB22⟩ (by kernel_rfl) ?_
                        refine d_done (by kernel_rfl) ?_
                        refine W_cond (((b : Nat) : Int) == ((GateP.nt a : Nat) : Int)) (by kernel_rfl) (by kernel_rfl) (fun hc340 => ?_) (fun hc340 => ?_)
                        · replace hc340 : ((b : Nat) : Int) = ((GateP.nt a : Nat) : Int) := (eq_of_beq hc340)
                          refine W_seq ?_
                          refine W_region (by kernel_rfl) ?_
                          refine sg [(85, .pointer (some ⟨p, 0, none⟩))] (by kernel_rfl) ?_
                          refine st (by rfl) (S_val (v := .int .i64 ((c : Nat) : Int)) (R_load (v := .int .i64 ((c : Nat) : Int)) (by kernel_rfl) (by kernel_rfl) ((hB4.cell 0).trans rfl)) ?_)
                          refine st (by rfl) (S_val (v := .int .i64 ((a : Nat) : Int)) (R_load (v := .int .i64 ((a : Nat) : Int)) (by kernel_rfl) (by kernel_rfl) ((hB9.cell 0).trans rfl)) ?_)
                          have lt349 := hB4.lt
                          have lt350 := hB9.lt
                          have lt351 := hB15.lt
                          have lt352 := hB22.lt
                          refine st (by rfl) (S_call (args := [.pointer (some ⟨p, 0, none⟩), .int .i64 ((c : Nat) : Int), .int .i64 ((a : Nat) : Int)]) (by kernel_rfl) (xor_ok F p n c a cs I _ hG (by omega) (by omega) (by omega)) ?_)
                          rintro _ w341 ⟨F342, n343, cs344, x345, rfl, hG, hm346, hr347, hd348⟩
                          have hMv := hMv.trans hm346
                          have hB4 := hB4.tch hm346.1 nF_hB4
                          have hB9 := hB9.tch hm346.1 nF_hB9
                          have hB15 := hB15.tch hm346.1 nF_hB15
                          have hB22 := hB22.tch hm346.1 nF_hB22
                          have hle354 := hr347.1
                          have hxb353 := hr347.2.2.1
                          replace nF_hB4 : ¬ F342 (w.heap.size) := fun e => (hm346.2 _ e).elim nF_hB4 (fun q => by omega)
                          replace nF_hB9 : ¬ F342 (w1.heap.size) := fun e => (hm346.2 _ e).elim nF_hB9 (fun q => by omega)
                          replace nF_hB15 : ¬ F342 (w6.heap.size) := fun e => (hm346.2 _ e).elim nF_hB15 (fun q => by omega)
                          replace nF_hB22 : ¬ F342 (w12.heap.size) := fun e => (hm346.2 _ e).elim nF_hB22 (fun q => by omega)
                          refine st (by rfl) (S_call (args := [.int .i64 ((x345 : Nat) : Int)]) (by kernel_rfl) (not_ok x345 _ (by omega)) ?_)
                          rintro _ w355 ⟨rfl, hT356⟩
                          have hG := hG.tch0 hT356
                          have hMv := hMv.then0 hT356
                          have hB4 := hB4.tch0 hT356
                          have hB9 := hB9.tch0 hT356
                          have hB15 := hB15.tch0 hT356
                          have hB22 := hB22.tch0 hT356
                          have hnt357 := GateP.nt_div x345
                          refine sg [(8, .int .i64 ((GateP.nt x345 : Nat) : Int))] (by kernel_rfl) ?_
                          refine op_nil ?_
                          refine W_ret ?_
                          exact ⟨_, Res_of (v := .int .i64 ((GateP.nt x345 : Nat) : Int)) (by kernel_rfl), ⟨F342, n343, cs344, _, rfl, hG, hMv, (ite_5 (c := c) (a := a) (b := b) hr347 (by omega)), by omega⟩⟩
                        · replace hc340 : ((b : Nat) : Int) ≠ ((GateP.nt a : Nat) : Int) := (ne_of_beq_false hc340)
                          refine W_skip ?_
                          refine W_seq ?_
                          refine W_region (by kernel_rfl) ?_
                          refine sg [(90, .pointer (some ⟨p, 0, none⟩))] (by kernel_rfl) ?_
                          refine st (by rfl) (S_val (v := .int .i64 ((c : Nat) : Int)) (R_load (v := .int .i64 ((c : Nat) : Int)) (by kernel_rfl) (by kernel_rfl) ((hB4.cell 0).trans rfl)) ?_)
                          refine st (by rfl) (S_val (v := .int .i64 ((a : Nat) : Int)) (R_load (v := .int .i64 ((a : Nat) : Int)) (by kernel_rfl) (by kernel_rfl) ((hB9.cell 0).trans rfl)) ?_)
                          refine st (by rfl) (S_val (v := .int .i64 ((b : Nat) : Int)) (R_load (v := .int .i64 ((b : Nat) : Int)) (by kernel_rfl) (by kernel_rfl) ((hB15.cell 0).trans rfl)) ?_)
                          refine sg [(94, .func (.func 59) #[] #[.pointer (some ⟨w.heap.size, 0, none⟩), .pointer (some ⟨w1.heap.size, 0, none⟩), .pointer (some ⟨w6.heap.size, 0, none⟩)])] (by kernel_rfl) ?_
                          have lt366 := hB4.lt
                          have lt367 := hB9.lt
                          have lt368 := hB15.lt
                          have lt369 := hB22.lt
                          refine st (by rfl) (S_call (args := [.pointer (some ⟨p, 0, none⟩), .int .i64 2, .int .i64 ((c : Nat) : Int), .int .i64 ((a : Nat) : Int), .int .i64 ((b : Nat) : Int), .func (.func 59) #[] #[.pointer (some ⟨w.heap.size, 0, none⟩), .pointer (some ⟨w1.heap.size, 0, none⟩), .pointer (some ⟨w6.heap.size, 0, none⟩)]]) (by kernel_rfl) (gate2_ok F p n c a b (w.heap.size) (w1.heap.size) (w6.heap.size) cs I _ hG hB4 hB9 hB15 nF_hB4 nF_hB9 nF_hB15 (by omega) (by omega) (by omega) (by omega)) ?_)
                          rintro _ w358 ⟨F359, n360, cs361, x362, rfl, hG, hm363, hr364, hd365⟩
                          have hMv := hMv.trans hm363
                          have hB4 := hB4.tch hm363.1 nF_hB4
                          have hB9 := hB9.tch hm363.1 nF_hB9
                          have hB15 := hB15.tch hm363.1 nF_hB15
                          have hB22 := hB22.tch hm363.1 nF_hB22
                          have hxb370 := hr364.2.2.1
                          replace nF_hB4 : ¬ F359 (w.heap.size) := fun e => (hm363.2 _ e).elim nF_hB4 (fun q => by omega)
                          replace nF_hB9 : ¬ F359 (w1.heap.size) := fun e => (hm363.2 _ e).elim nF_hB9 (fun q => by omega)
                          replace nF_hB15 : ¬ F359 (w6.heap.size) := fun e => (hm363.2 _ e).elim nF_hB15 (fun q => by omega)
                          replace nF_hB22 : ¬ F359 (w12.heap.size) := fun e => (hm363.2 _ e).elim nF_hB22 (fun q => by omega)
                          refine sg [(8, .int .i64 ((x362 : Nat) : Int))] (by kernel_rfl) ?_
                          refine op_nil ?_
                          refine W_ret ?_
                          exact ⟨_, Res_of (v := .int .i64 ((x362 : Nat) : Int)) (by kernel_rfl), ⟨F359, n360, cs361, _, rfl, hG, hMv, (ite_g (c := c) (a := a) (b := b) hr364), by omega⟩⟩
                    · replace hb318 : ((b : Nat) : Int) = 1 := (eq_of_beq hb318)
                      refine sg [(72, undef), (73, undef), (74, undef), (75, .bool true), (68, .bool true)] (by kernel_rfl) ?_
                      refine op_nil ?_
                      refine W_cond true (by kernel_rfl) (by kernel_rfl) (fun _ => ?_) (fun h => nomatch h)
                      refine W_seq ?_
                      refine W_fg [(0, .pointer (some ⟨p, 0, none⟩)), (1, .int .i64 ((c : Nat) : Int)), (2, .int .i64 ((a : Nat) : Int)), (3, .int .i64 ((b : Nat) : Int)), (5, .pointer (some ⟨w.heap.size, 0, none⟩)), (6, .pointer (some ⟨w1.heap.size, 0, none⟩)), (7, .pointer (some ⟨w6.heap.size, 0, none⟩)), (8, .int .i64 0), (14, .bool false), (16, .bool (decide (c % 2 = 1))), (21, .bool (((a : Nat) : Int) == ((b : Nat) : Int))), (28, .bool (((a : Nat) : Int) == ((c : Nat) : Int))), (40, .bool (((a : Nat) : Int) == ((GateP.nt c : Nat) : Int))), (54, .bool (((b : Nat) : Int) == ((GateP.nt c : Nat) : Int))), (68, .bool true)] (by kernel_rfl) fun ρ => ?_
                      refine W_region (by kernel_rfl) ?_
                      refine sg [(76, .pointer (some ⟨p, 0, none⟩))] (by kernel_rfl) ?_
                      refine st (by rfl) (S_val (v := .int .i64 ((c : Nat) : Int)) (R_load (v := .int .i64 ((c : Nat) : Int)) (by kernel_rfl) (by kernel_rfl) ((hB4.cell 0).trans rfl)) ?_)
                      refine st (by rfl) (S_val (v := .int .i64 ((a : Nat) : Int)) (R_load (v := .int .i64 ((a : Nat) : Int)) (by kernel_rfl) (by kernel_rfl) ((hB9.cell 0).trans rfl)) ?_)
                      have lt379 := hB4.lt
                      have lt380 := hB9.lt
                      have lt381 := hB15.lt
                      have lt382 := hB22.lt
                      refine st (by rfl) (S_call (args := [.pointer (some ⟨p, 0, none⟩), .int .i64 ((c : Nat) : Int), .int .i64 ((a : Nat) : Int)]) (by kernel_rfl) (and_ok F p n c a cs I _ hG (by omega) (by omega) (by omega)) ?_)
                      rintro _ w371 ⟨F372, n373, cs374, x375, rfl, hG, hm376, hr377, hd378⟩
                      have hMv := hMv.trans hm376
                      have hB4 := hB4.tch hm376.1 nF_hB4
                      have hB9 := hB9.tch hm376.1 nF_hB9
                      have hB15 := hB15.tch hm376.1 nF_hB15
                      have hB22 := hB22.tch hm376.1 nF_hB22
                      have hle384 := hr377.1
                      have hxb383 := hr377.2.2.1
                      replace nF_hB4 : ¬ F372 (w.heap.size) := fun e => (hm376.2 _ e).elim nF_hB4 (fun q => by omega)
                      replace nF_hB9 : ¬ F372 (w1.heap.size) := fun e => (hm376.2 _ e).elim nF_hB9 (fun q => by omega)
                      replace nF_hB15 : ¬ F372 (w6.heap.size) := fun e => (hm376.2 _ e).elim nF_hB15 (fun q => by omega)
                      replace nF_hB22 : ¬ F372 (w12.heap.size) := fun e => (hm376.2 _ e).elim nF_hB22 (fun q => by omega)
                      refine sg [(8, .int .i64 ((x375 : Nat) : Int))] (by kernel_rfl) ?_
                      refine op_nil ?_
                      refine W_ret ?_
                      exact ⟨_, Res_of (v := .int .i64 ((x375 : Nat) : Int)) (by kernel_rfl), ⟨F372, n373, cs374, _, rfl, hG, hMv, (by first | exact ite_2 (c := c) (a := a) (b := b) hG0.2 hr377 (by omega) | exact ite_4 (c := c) (a := a) (b := b) hG0.2 hr377 (by omega)), by omega⟩⟩
                · replace hb293 : ((b : Nat) : Int) = 0 := (eq_of_beq hb293)
                  refine dtk [3, 4, 5, 6, 7, 8] #[true, true, true, true, true, true, true, true, true] [(58, undef), (59, undef), (60, undef), (61, undef), (62, .bool true), (54, .bool true)] ⟨hB4, hB9, hB15, hB22⟩ (by kernel_rfl) ?_
                  refine d_done (by kernel_rfl) ?_
                  refine W_cond true (by kernel_rfl) (by kernel_rfl) (fun _ => ?_) (fun h => nomatch h)
                  refine W_seq ?_
                  refine W_fg [(0, .pointer (some ⟨p, 0, none⟩)), (1, .int .i64 ((c : Nat) : Int)), (2, .int .i64 ((a : Nat) : Int)), (3, .int .i64 ((b : Nat) : Int)), (5, .pointer (some ⟨w.heap.size, 0, none⟩)), (6, .pointer (some ⟨w1.heap.size, 0, none⟩)), (7, .pointer (some ⟨w6.heap.size, 0, none⟩)), (8, .int .i64 0), (14, .bool false), (16, .bool (decide (c % 2 = 1))), (21, .bool (((a : Nat) : Int) == ((b : Nat) : Int))), (28, .bool (((a : Nat) : Int) == ((c : Nat) : Int))), (40, .bool (((a : Nat) : Int) == ((GateP.nt c : Nat) : Int))), (54, .bool true)] (by kernel_rfl) fun ρ => ?_
                  refine W_draw (fun w' => Blk w' (w.heap.size) 3 [.int .i64 ((c : Nat) : Int)] ∧ Blk w' (w1.heap.size) 3 [.int .i64 ((a : Nat) : Int)] ∧ Blk w' (w6.heap.size) 3 [.int .i64 ((b : Nat) : Int)] ∧ Blk w' (w12.heap.size) 3 [.int .i64 ((c : Nat) : Int), .int .i64 ((a : Nat) : Int), .int .i64 ((b : Nat) : Int)]) (by kernel_rfl) (by kernel_rfl) (by kernel_rfl) fun w385 hT386 hh387 => ?_
                  have hG := hG.tch0 hT386
                  have hMv := hMv.then0 hT386
                  have hB4 := hB4.tch0 hT386
                  have hB9 := hB9.tch0 hT386
                  have hB15 := hB15.tch0 hT386
                  have hB22 := hB22.tch0 hT386
                  refine dtk [0] #[true, false, false, false, false, false] [(63, .pointer (some ⟨p, 0, none⟩))] ⟨hB4, hB9, hB15, hB22⟩ (by kernel_rfl) ?_
                  refine d_val (v := .int .i64 ((c : Nat) : Int)) 1 (by rfl) (by kernel_rfl) (by kernel_rfl) (by kernel_rfl) (fun w' hs => by obtain ⟨hB4, hB9, hB15, hB22⟩ := hs; exact R_load (v := .int .i64 ((c : Nat) : Int)) (by kernel_rfl) (by kernel_rfl) ((hB4.cell 0).trans rfl)) ⟨hB4, hB9, hB15, hB22⟩ ?_
                  refine d_val (v := .int .i64 ((a : Nat) : Int)) 3 (by rfl) (by kernel_rfl) (by kernel_rfl) (by kernel_rfl) (fun w' hs => by obtain ⟨hB4, hB9, hB15, hB22⟩ := hs; exact R_load (v := .int .i64 ((a : Nat) : Int)) (by kernel_rfl) (by kernel_rfl) ((hB9.cell 0).trans rfl)) ⟨hB4, hB9, hB15, hB22⟩ ?_
                  refine d_one 2 (by kernel_rfl) (by rfl) (by kernel_rfl) (S_call (args := [.int .i64 ((c : Nat) : Int)]) (by kernel_rfl) (not_ok c _ (by omega)) ?_)
                  rintro _ w388 ⟨rfl, hT389⟩
                  have hG := hG.tch0 hT389
                  have hMv := hMv.then0 hT389
                  have hB4 := hB4.tch0 hT389
                  have hB9 := hB9.tch0 hT389
                  have hB15 := hB15.tch0 hT389
                  have hB22 := hB22.tch0 hT389
                  have hnt390 := GateP.nt_div c
                  refine ⟨⟨hB4, hB9, hB15, hB22⟩, ?_⟩
                  have lt399 := hB4.lt
                  have lt400 := hB9.lt
                  have lt401 := hB15.lt
                  have lt402 := hB22.lt
                  refine d_one 4 (by kernel_rfl) (by rfl) (by kernel_rfl) (S_call (args := [.pointer (some ⟨p, 0, none⟩), .int .i64 ((GateP.nt c : Nat) : Int), .int .i64 ((a : Nat) : Int)]) (by kernel_rfl) (or_ok F p n (GateP.nt c) a cs I _ hG (by omega) (by omega) (by omega)) ?_)
                  rintro _ w391 ⟨F392, n393, cs394, x395, rfl, hG, hm396, hr397, hd398⟩
                  have hMv := hMv.trans hm396
                  have hB4 := hB4.tch hm396.1 nF_hB4
                  have hB9 := hB9.tch hm396.1 nF_hB9
                  have hB15 := hB15.tch hm396.1 nF_hB15
                  have hB22 := hB22.tch hm396.1 nF_hB22
                  have hle404 := hr397.1
                  have hxb403 := hr397.2.2.1
                  replace nF_hB4 : ¬ F392 (w.heap.size) := fun e => (hm396.2 _ e).elim nF_hB4 (fun q => by omega)
                  replace nF_hB9 : ¬ F392 (w1.heap.size) := fun e => (hm396.2 _ e).elim nF_hB9 (fun q => by omega)
                  replace nF_hB15 : ¬ F392 (w6.heap.size) := fun e => (hm396.2 _ e).elim nF_hB15 (fun q => by omega)
                  replace nF_hB22 : ¬ F392 (w12.heap.size) := fun e => (hm396.2 _ e).elim nF_hB22 (fun q => by omega)
                  refine ⟨⟨hB4, hB9, hB15, hB22⟩, ?_⟩
                  refine dtk [5] #[true, true, true, true, true, true] [(8, .int .i64 ((x395 : Nat) : Int))] ⟨hB4, hB9, hB15, hB22⟩ (by kernel_rfl) ?_
                  refine d_done (by kernel_rfl) ?_
                  refine W_ret ?_
                  exact ⟨_, Res_of (v := .int .i64 ((x395 : Nat) : Int)) (by kernel_rfl), ⟨F392, n393, cs394, _, rfl, hG, hMv, (by first | exact ite_1 (c := c) (a := a) (b := b) hG0.2 hr397 (by omega) | exact ite_3 (c := c) (a := a) (b := b) hG0.2 hr397 (by omega)), by omega⟩⟩
            · replace hb265 : ((a : Nat) : Int) = 1 := (eq_of_beq hb265)
              refine dtk [3, 4, 5, 6, 7, 8] #[true, true, true, true, true, true, true, true, true] [(44, undef), (45, undef), (46, undef), (47, undef), (48, .bool true), (40, .bool true)] ⟨hB4, hB9, hB15, hB22⟩ (by kernel_rfl) ?_
              refine d_done (by kernel_rfl) ?_
              refine W_cond true (by kernel_rfl) (by kernel_rfl) (fun _ => ?_) (fun h => nomatch h)
              refine W_seq ?_
              refine W_fg [(0, .pointer (some ⟨p, 0, none⟩)), (1, .int .i64 ((c : Nat) : Int)), (2, .int .i64 ((a : Nat) : Int)), (3, .int .i64 ((b : Nat) : Int)), (5, .pointer (some ⟨w.heap.size, 0, none⟩)), (6, .pointer (some ⟨w1.heap.size, 0, none⟩)), (7, .pointer (some ⟨w6.heap.size, 0, none⟩)), (8, .int .i64 0), (14, .bool false), (16, .bool (decide (c % 2 = 1))), (21, .bool (((a : Nat) : Int) == ((b : Nat) : Int))), (28, .bool (((a : Nat) : Int) == ((c : Nat) : Int))), (40, .bool true)] (by kernel_rfl) fun ρ => ?_
              refine W_draw (fun w' => Blk w' (w.heap.size) 3 [.int .i64 ((c : Nat) : Int)] ∧ Blk w' (w1.heap.size) 3 [.int .i64 ((a : Nat) : Int)] ∧ Blk w' (w6.heap.size) 3 [.int .i64 ((b : Nat) : Int)] ∧ Blk w' (w12.heap.size) 3 [.int .i64 ((c : Nat) : Int), .int .i64 ((a : Nat) : Int), .int .i64 ((b : Nat) : Int)]) (by kernel_rfl) (by kernel_rfl) (by kernel_rfl) fun w405 hT406 hh407 => ?_
              have hG := hG.tch0 hT406
              have hMv := hMv.then0 hT406
              have hB4 := hB4.tch0 hT406
              have hB9 := hB9.tch0 hT406
              have hB15 := hB15.tch0 hT406
              have hB22 := hB22.tch0 hT406
              refine dtk [0] #[true, false, false, false, false, false] [(49, .pointer (some ⟨p, 0, none⟩))] ⟨hB4, hB9, hB15, hB22⟩ (by kernel_rfl) ?_
              refine d_val (v := .int .i64 ((c : Nat) : Int)) 1 (by rfl) (by kernel_rfl) (by kernel_rfl) (by kernel_rfl) (fun w' hs => by obtain ⟨hB4, hB9, hB15, hB22⟩ := hs; exact R_load (v := .int .i64 ((c : Nat) : Int)) (by kernel_rfl) (by kernel_rfl) ((hB4.cell 0).trans rfl)) ⟨hB4, hB9, hB15, hB22⟩ ?_
              refine d_val (v := .int .i64 ((b : Nat) : Int)) 3 (by rfl) (by kernel_rfl) (by kernel_rfl) (by kernel_rfl) (fun w' hs => by obtain ⟨hB4, hB9, hB15, hB22⟩ := hs; exact R_load (v := .int .i64 ((b : Nat) : Int)) (by kernel_rfl) (by kernel_rfl) ((hB15.cell 0).trans rfl)) ⟨hB4, hB9, hB15, hB22⟩ ?_
              refine d_one 2 (by kernel_rfl) (by rfl) (by kernel_rfl) (S_call (args := [.int .i64 ((c : Nat) : Int)]) (by kernel_rfl) (not_ok c _ (by omega)) ?_)
              rintro _ w408 ⟨rfl, hT409⟩
              have hG := hG.tch0 hT409
              have hMv := hMv.then0 hT409
              have hB4 := hB4.tch0 hT409
              have hB9 := hB9.tch0 hT409
              have hB15 := hB15.tch0 hT409
              have hB22 := hB22.tch0 hT409
              have hnt410 := GateP.nt_div c
              refine ⟨⟨hB4, hB9, hB15, hB22⟩, ?_⟩
              have lt419 := hB4.lt
              have lt420 := hB9.lt
              have lt421 := hB15.lt
              have lt422 := hB22.lt
              refine d_one 4 (by kernel_rfl) (by rfl) (by kernel_rfl) (S_call (args := [.pointer (some ⟨p, 0, none⟩), .int .i64 ((GateP.nt c : Nat) : Int), .int .i64 ((b : Nat) : Int)]) (by kernel_rfl) (and_ok F p n (GateP.nt c) b cs I _ hG (by omega) (by omega) (by omega)) ?_)
              rintro _ w411 ⟨F412, n413, cs414, x415, rfl, hG, hm416, hr417, hd418⟩
              have hMv := hMv.trans hm416
              have hB4 := hB4.tch hm416.1 nF_hB4
              have hB9 := hB9.tch hm416.1 nF_hB9
              have hB15 := hB15.tch hm416.1 nF_hB15
              have hB22 := hB22.tch hm416.1 nF_hB22
              have hle424 := hr417.1
              have hxb423 := hr417.2.2.1
              replace nF_hB4 : ¬ F412 (w.heap.size) := fun e => (hm416.2 _ e).elim nF_hB4 (fun q => by omega)
              replace nF_hB9 : ¬ F412 (w1.heap.size) := fun e => (hm416.2 _ e).elim nF_hB9 (fun q => by omega)
              replace nF_hB15 : ¬ F412 (w6.heap.size) := fun e => (hm416.2 _ e).elim nF_hB15 (fun q => by omega)
              replace nF_hB22 : ¬ F412 (w12.heap.size) := fun e => (hm416.2 _ e).elim nF_hB22 (fun q => by omega)
              refine ⟨⟨hB4, hB9, hB15, hB22⟩, ?_⟩
              refine dtk [5] #[true, true, true, true, true, true] [(8, .int .i64 ((x415 : Nat) : Int))] ⟨hB4, hB9, hB15, hB22⟩ (by kernel_rfl) ?_
              refine d_done (by kernel_rfl) ?_
              refine W_ret ?_
              exact ⟨_, Res_of (v := .int .i64 ((x415 : Nat) : Int)) (by kernel_rfl), ⟨F412, n413, cs414, _, rfl, hG, hMv, (by first | exact ite_2 (c := c) (a := a) (b := b) hG0.2 hr417 (by omega) | exact ite_4 (c := c) (a := a) (b := b) hG0.2 hr417 (by omega)), by omega⟩⟩
        · replace hb246 : ((a : Nat) : Int) = 0 := (eq_of_beq hb246)
          refine sg [(32, undef), (33, undef), (34, undef), (35, .bool true), (28, .bool true)] (by kernel_rfl) ?_
          refine op_nil ?_
          refine W_cond true (by kernel_rfl) (by kernel_rfl) (fun _ => ?_) (fun h => nomatch h)
          refine W_seq ?_
          refine W_fg [(0, .pointer (some ⟨p, 0, none⟩)), (1, .int .i64 ((c : Nat) : Int)), (2, .int .i64 ((a : Nat) : Int)), (3, .int .i64 ((b : Nat) : Int)), (5, .pointer (some ⟨w.heap.size, 0, none⟩)), (6, .pointer (some ⟨w1.heap.size, 0, none⟩)), (7, .pointer (some ⟨w6.heap.size, 0, none⟩)), (8, .int .i64 0), (14, .bool false), (16, .bool (decide (c % 2 = 1))), (21, .bool (((a : Nat) : Int) == ((b : Nat) : Int))), (28, .bool true)] (by kernel_rfl) fun ρ => ?_
          refine W_region (by kernel_rfl) ?_
          refine sg [(36, .pointer (some ⟨p, 0, none⟩))] (by kernel_rfl) ?_
          refine st (by rfl) (S_val (v := .int .i64 ((c : Nat) : Int)) (R_load (v := .int .i64 ((c : Nat) : Int)) (by kernel_rfl) (by kernel_rfl) ((hB4.cell 0).trans rfl)) ?_)
          refine st (by rfl) (S_val (v := .int .i64 ((b : Nat) : Int)) (R_load (v := .int .i64 ((b : Nat) : Int)) (by kernel_rfl) (by kernel_rfl) ((hB15.cell 0).trans rfl)) ?_)
          have lt433 := hB4.lt
          have lt434 := hB9.lt
          have lt435 := hB15.lt
          have lt436 := hB22.lt
          refine st (by rfl) (S_call (args := [.pointer (some ⟨p, 0, none⟩), .int .i64 ((c : Nat) : Int), .int .i64 ((b : Nat) : Int)]) (by kernel_rfl) (or_ok F p n c b cs I _ hG (by omega) (by omega) (by omega)) ?_)
          rintro _ w425 ⟨F426, n427, cs428, x429, rfl, hG, hm430, hr431, hd432⟩
          have hMv := hMv.trans hm430
          have hB4 := hB4.tch hm430.1 nF_hB4
          have hB9 := hB9.tch hm430.1 nF_hB9
          have hB15 := hB15.tch hm430.1 nF_hB15
          have hB22 := hB22.tch hm430.1 nF_hB22
          have hle438 := hr431.1
          have hxb437 := hr431.2.2.1
          replace nF_hB4 : ¬ F426 (w.heap.size) := fun e => (hm430.2 _ e).elim nF_hB4 (fun q => by omega)
          replace nF_hB9 : ¬ F426 (w1.heap.size) := fun e => (hm430.2 _ e).elim nF_hB9 (fun q => by omega)
          replace nF_hB15 : ¬ F426 (w6.heap.size) := fun e => (hm430.2 _ e).elim nF_hB15 (fun q => by omega)
          replace nF_hB22 : ¬ F426 (w12.heap.size) := fun e => (hm430.2 _ e).elim nF_hB22 (fun q => by omega)
          refine sg [(8, .int .i64 ((x429 : Nat) : Int))] (by kernel_rfl) ?_
          refine op_nil ?_
          refine W_ret ?_
          exact ⟨_, Res_of (v := .int .i64 ((x429 : Nat) : Int)) (by kernel_rfl), ⟨F426, n427, cs428, _, rfl, hG, hMv, (by first | exact ite_1 (c := c) (a := a) (b := b) hG0.2 hr431 (by omega) | exact ite_3 (c := c) (a := a) (b := b) hG0.2 hr431 (by omega)), by omega⟩⟩

theorem maj_g {n n1 n2 n3 n4 : Nat} {cs cs1 cs2 cs3 cs4 : List (List Nat)} {a b c x1 x2 x3 x4 : Nat} (h1 : GR n cs n1 cs1 x1 (fun be => lt_ be a && lt_ be b)) (h2 : GR n1 cs1 n2 cs2 x2 (fun be => lt_ be a || lt_ be b)) (h3 : GR n2 cs2 n3 cs3 x3 (fun be => lt_ be c && lt_ be x2)) (h4 : GR n3 cs3 n4 cs4 x4 (fun be => lt_ be x1 || lt_ be x3)) :
    GR n cs n4 cs4 x4 (fun be => (lt_ be a && lt_ be b) || (lt_ be c && (lt_ be a || lt_ be b))) := by
  refine ((h1.trans h2).trans (h3.trans h4)).eq fun be hm => ?_
  have m3 := hm.sub h4.2.1
  have m2 := m3.sub h3.2.1
  have m1 := m2.sub h2.2.1
  show (lt_ be x1 || lt_ be x3) = _
  have e3 : lt_ be x3 = (lt_ be c && lt_ be x2) := h3.2.2.2 be m3
  have e2 : lt_ be x2 = (lt_ be a || lt_ be b) := h2.2.2.2 be m2
  have e1 : lt_ be x1 = (lt_ be a && lt_ be b) := h1.2.2.2 be m1
  rw [e3, e2, e1]

set_option maxRecDepth 100000 in
theorem maj_ok (F : Nat → Prop) (p n a b c : Nat) (cs : List (List Nat)) (I : Nat → Prop) (w : World) (hG : GObj F w p n cs I) (hxa : a / 2 < n) (hxb : b / 2 < n) (hxc : c / 2 < n) (hn : n ≤ 68719475000) : Ret Try.prog 27 [.pointer (some ⟨p, 0, none⟩), .int .i64 ((a : Nat) : Int), .int .i64 ((b : Nat) : Int), .int .i64 ((c : Nat) : Int)] w fun v w' => GRet F p n cs I w 4 (fun be => (lt_ be a && lt_ be b) || (lt_ be c && (lt_ be a || lt_ be b))) v w' := by
  have hMv := Mv.refl F w
  have hpos := hG.2.pos
  have hG0 := hG
  refine enter Try.func27 rfl rfl ?_
  refine W_seq ?_
  refine W_region (by kernel_rfl) ?_
  refine sg [(8, .int .i64 0)] (by kernel_rfl) ?_
  refine op_nil ?_
  refine W_seq ?_
  refine W_seq ?_
  refine W_region (by kernel_rfl) ?_
  refine sg [(9, .pointer (some ⟨p, 0, none⟩)), (10, .int .i64 ((a : Nat) : Int)), (11, .int .i64 ((b : Nat) : Int)), (12, .int .i64 ((c : Nat) : Int))] (by kernel_rfl) ?_
  have hlt_ := hG.1.lt
  have hz5 := hMv.1.size
  refine st (by rfl) (S_new (v := .slice (some ⟨w.heap.size, 0, none⟩) 3 3) (ob := .cells #[.int .i64 ((a : Nat) : Int), .int .i64 ((b : Nat) : Int), .int .i64 ((c : Nat) : Int)] 3) (by kernel_rfl) fun w1 hT2 hs3 hB4 => ?_)
  replace hB4 : Blk w1 (w.heap.size) 3 [.int .i64 ((a : Nat) : Int), .int .i64 ((b : Nat) : Int), .int .i64 ((c : Nat) : Int)] := hB4
  have hG := hG.tch0 hT2
  have hMv := hMv.then0 hT2
  have nF_hB4 : ¬ F (w.heap.size) := fun e => by have := hlt_ _ e; omega
  refine st (by rfl) (S_call (args := [.pointer (some ⟨p, 0, none⟩), .slice (some ⟨w.heap.size, 0, none⟩) 3 3]) (by kernel_rfl) (obad_ok F p n (w.heap.size) 3 cs I [((a : Nat) : Int), ((b : Nat) : Int), ((c : Nat) : Int)] false _ hG (show Blk _ _ 3 (ints .i64 [((a : Nat) : Int), ((b : Nat) : Int), ((c : Nat) : Int)]) from hB4) rfl (by omega) (by intro x hx; simp only [List.mem_cons, List.not_mem_nil, or_false] at hx; omega) (by simp [badB, badI]; omega)) ?_)
  rintro _ w6 ⟨rfl, hT7⟩
  have hG := hG.tch0 hT7
  have hMv := hMv.then0 hT7
  have hB4 := hB4.tch0 hT7
  refine op_nil ?_
  refine W_cond false (by kernel_rfl) (by kernel_rfl) (fun h => nomatch h) (fun _ => ?_)
  refine W_skip ?_
  refine W_seq ?_
  refine W_region (by kernel_rfl) ?_
  refine sg [(15, .pointer (some ⟨p, 0, none⟩)), (16, .pointer (some ⟨p, 0, none⟩)), (17, .int .i64 ((a : Nat) : Int)), (18, .int .i64 ((b : Nat) : Int))] (by kernel_rfl) ?_
  have lt16 := hB4.lt
  refine st (by rfl) (S_call (args := [.pointer (some ⟨p, 0, none⟩), .int .i64 ((a : Nat) : Int), .int .i64 ((b : Nat) : Int)]) (by kernel_rfl) (and_ok F p n a b cs I _ hG (by omega) (by omega) (by omega)) ?_)
  rintro _ w8 ⟨F9, n10, cs11, x12, rfl, hG, hm13, hr14, hd15⟩
  have hMv := hMv.trans hm13
  have hB4 := hB4.tch hm13.1 nF_hB4
  have hle18 := hr14.1
  have hxb17 := hr14.2.2.1
  replace nF_hB4 : ¬ F9 (w.heap.size) := fun e => (hm13.2 _ e).elim nF_hB4 (fun q => by omega)
  refine sg [(20, .pointer (some ⟨p, 0, none⟩)), (21, .int .i64 ((c : Nat) : Int)), (22, .pointer (some ⟨p, 0, none⟩)), (23, .int .i64 ((a : Nat) : Int)), (24, .int .i64 ((b : Nat) : Int))] (by kernel_rfl) ?_
  have lt27 := hB4.lt
  refine st (by rfl) (S_call (args := [.pointer (some ⟨p, 0, none⟩), .int .i64 ((a : Nat) : Int), .int .i64 ((b : Nat) : Int)]) (by kernel_rfl) (or_ok F9 p n10 a b cs11 I _ hG (by omega) (by omega) (by omega)) ?_)
  rintro _ w19 ⟨F20, n21, cs22, x23, rfl, hG, hm24, hr25, hd26⟩
  have hMv := hMv.trans hm24
  have hB4 := hB4.tch hm24.1 nF_hB4
  have hle29 := hr25.1
  have hxb28 := hr25.2.2.1
  replace nF_hB4 : ¬ F20 (w.heap.size) := fun e => (hm24.2 _ e).elim nF_hB4 (fun q => by omega)
  have lt38 := hB4.lt
  refine st (by rfl) (S_call (args := [.pointer (some ⟨p, 0, none⟩), .int .i64 ((c : Nat) : Int), .int .i64 ((x23 : Nat) : Int)]) (by kernel_rfl) (and_ok F20 p n21 c x23 cs22 I _ hG (by omega) (by omega) (by omega)) ?_)
  rintro _ w30 ⟨F31, n32, cs33, x34, rfl, hG, hm35, hr36, hd37⟩
  have hMv := hMv.trans hm35
  have hB4 := hB4.tch hm35.1 nF_hB4
  have hle40 := hr36.1
  have hxb39 := hr36.2.2.1
  replace nF_hB4 : ¬ F31 (w.heap.size) := fun e => (hm35.2 _ e).elim nF_hB4 (fun q => by omega)
  have lt49 := hB4.lt
  refine st (by rfl) (S_call (args := [.pointer (some ⟨p, 0, none⟩), .int .i64 ((x12 : Nat) : Int), .int .i64 ((x34 : Nat) : Int)]) (by kernel_rfl) (or_ok F31 p n32 x12 x34 cs33 I _ hG (by omega) (by omega) (by omega)) ?_)
  rintro _ w41 ⟨F42, n43, cs44, x45, rfl, hG, hm46, hr47, hd48⟩
  have hMv := hMv.trans hm46
  have hB4 := hB4.tch hm46.1 nF_hB4
  have hle51 := hr47.1
  have hxb50 := hr47.2.2.1
  replace nF_hB4 : ¬ F42 (w.heap.size) := fun e => (hm46.2 _ e).elim nF_hB4 (fun q => by omega)
  refine sg [(8, .int .i64 ((x45 : Nat) : Int))] (by kernel_rfl) ?_
  refine op_nil ?_
  refine W_ret ?_
  exact ⟨_, Res_of (v := .int .i64 ((x45 : Nat) : Int)) (by kernel_rfl), ⟨F42, n43, cs44, _, rfl, hG, hMv, maj_g hr14 hr25 hr36 hr47, by omega⟩⟩

end Go.Proofs.YtnlecdpiccgdpaaV
