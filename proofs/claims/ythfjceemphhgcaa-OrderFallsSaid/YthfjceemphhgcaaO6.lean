/- Walks of functions of the program and of the document's texts: each call returns what the plain function says, and turns nothing that lay. The conditions stand with each theorem. -/
import Derived.Test.YthfjceemphhgcaaProg
import Derived.Test.YthfjceemphhgcaaVx2
import Derived.Test.YthfjceemphhgcaaO5
set_option linter.unusedVariables false
set_option linter.unusedSimpArgs false
namespace Go.Proofs.YthfjceemphhgcaaV
open Go Go.RowKit Go.Proofs

set_option maxRecDepth 100000 in
theorem bump_in (F : Nat → Prop) (p n : Nat) (hp : List Nat) (ac : List Int) (x : Nat) (d : Int) (w : World) (h : Ord F w p n hp ac) (hx : x < n) (hxm : x ∈ hp) : Ret Try.prog 27 [.pointer (some ⟨p, 0, none⟩), .int .i64 ((x : Nat) : Int), .int .i64 d] w fun v w' => v = .bool true ∧ ∃ hp', Ord F w' p n hp' (ac.set x (HeapP.bumpA (ac.getD x 0) d)) ∧ hp'.Perm hp ∧ Tch F w w' := by
  have h0 : 0 < hp.length := List.length_pos_of_mem hxm
  obtain ⟨g, cp, bat, bac, sp, at_, ho, hq, hl2, hcp, fp, fg, ft, fc, hF, hac, hfn⟩ := h.to_obj h0
  have hF0 := hF
  obtain ⟨hP, hH, hT, hC⟩ := ho
  have hq0 := hq
  obtain ⟨⟨n1, n2, n3, n4, n5, n6⟩, la, lc, hn, hm, hlt, hat⟩ := hq
  have hcl : hp.length ≤ cp := by rw [← hl2, List.length_append, nats_length]; omega
  have hFt : Tch F w w := Tch.refl _ _
  have hq := hq0
  obtain ⟨i, hi, hix⟩ := HeapP.mem_getD hxm
  have hax : at_.getD x 0 = (i : Int) := by have := hat.1 i hi; rw [hix] at this; exact this
  have hb := hac x
  refine enter Try.func27 rfl rfl ?_
  refine W_seq ?_
  refine W_region (by kernel_rfl) ?_
  refine seg1 (ρ' := upd (ini [.pointer (some ⟨p, 0, none⟩), .int .i64 ((x : Nat) : Int), .int .i64 d]) 6 (.bool false)) (by kernel_rfl) ?_
  refine op_nil ?_
  refine W_seq ?_
  refine W_seq ?_
  refine W_region (by kernel_rfl) ?_
  refine seg2 (ρ' := upd (upd (upd (ini [.pointer (some ⟨p, 0, none⟩), .int .i64 ((x : Nat) : Int), .int .i64 d]) 6 (.bool false)) 9 (.pointer (some ⟨p, 0, none⟩))) 10 (.int .i64 ((x : Nat) : Int))) (by kernel_rfl) ?_
  refine st (by rfl) (S_call (args := [.pointer (some ⟨p, 0, none⟩), .int .i64 ((x : Nat) : Int)]) (by kernel_rfl) (none_ok p bat n (.slice (some ⟨g, 0, none⟩) hp.length cp) (.slice (some ⟨bac, 0, none⟩) n n) ((x : Nat) : Int) _ hP) ?_)
  rintro _ w1 ⟨rfl, hT2⟩
  have hP := hP.tch0 hT2
  have hH := hH.tch0 hT2
  have hT := hT.tch0 hT2
  have hC := hC.tch0 hT2
  have hFt := hFt.then0 hT2
  refine op_nil ?_
  refine W_cond (noneB n ((x : Nat) : Int)) (by kernel_rfl) (by kernel_rfl) (fun hc3 => ?_) (fun hc3 => ?_)
  · replace hc3 : ((x : Nat) : Int) < 0 ∨ (n : Int) ≤ ((x : Nat) : Int) := (noneB_t hc3)
    exfalso; omega
  · replace hc3 : 0 ≤ ((x : Nat) : Int) ∧ ((x : Nat) : Int) < (n : Int) := (noneB_f hc3)
    refine W_skip ?_
    refine W_seq ?_
    refine W_seq ?_
    refine W_region (by kernel_rfl) ?_
    refine seg3 (ρ' := upd (upd (upd (upd (upd (upd (upd (ini [.pointer (some ⟨p, 0, none⟩), .int .i64 ((x : Nat) : Int), .int .i64 d]) 6 (.bool false)) 9 (.pointer (some ⟨p, 0, none⟩))) 10 (.int .i64 ((x : Nat) : Int))) 11 (.bool (noneB n ((x : Nat) : Int)))) 12 (.pointer (some ⟨p, 0, none⟩))) 13 (.pointer (some ⟨p, 0, none⟩))) 14 (.pointer (some ⟨p, 2, none⟩))) (by kernel_rfl) ?_
    refine st (by rfl) (S_val (v := .slice (some ⟨bac, 0, none⟩) n n) (R_load (v := .slice (some ⟨bac, 0, none⟩) n n) (by kernel_rfl) (by kernel_rfl) ((hP.cell 2).trans rfl)) ?_)
    refine seg1 (ρ' := upd (upd (upd (upd (upd (upd (upd (upd (upd (ini [.pointer (some ⟨p, 0, none⟩), .int .i64 ((x : Nat) : Int), .int .i64 d]) 6 (.bool false)) 9 (.pointer (some ⟨p, 0, none⟩))) 10 (.int .i64 ((x : Nat) : Int))) 11 (.bool (noneB n ((x : Nat) : Int)))) 12 (.pointer (some ⟨p, 0, none⟩))) 13 (.pointer (some ⟨p, 0, none⟩))) 14 (.pointer (some ⟨p, 2, none⟩))) 15 (.slice (some ⟨bac, 0, none⟩) n n)) 16 (.int .i64 ((x : Nat) : Int))) (by kernel_rfl) ?_
    refine stv (v := .pointer (some ⟨bac, x, none⟩)) (by rfl) (R_index0 (b := bac) (len := n) (cap := n) (k := .i64) (i := ((x : Nat) : Int)) (e := 3) x (by kernel_rfl) (by kernel_rfl) (by kernel_rfl) (by kernel_rfl) rfl (by first | omega | (simp only [List.length_set, List.length_map]; omega))) ?_
    refine st (by rfl) (S_val (v := .int .i64 (ac.getD x 0)) (R_load (v := .int .i64 (ac.getD x 0)) (by kernel_rfl) (by kernel_rfl) ((hC.cell _).trans (ints_at .i64 _ (by first | omega | (simp only [List.length_set, List.length_map]; omega))))) ?_)
    refine seg1 (ρ' := upd (upd (upd (upd (upd (upd (upd (upd (upd (upd (upd (upd (ini [.pointer (some ⟨p, 0, none⟩), .int .i64 ((x : Nat) : Int), .int .i64 d]) 6 (.bool false)) 9 (.pointer (some ⟨p, 0, none⟩))) 10 (.int .i64 ((x : Nat) : Int))) 11 (.bool (noneB n ((x : Nat) : Int)))) 12 (.pointer (some ⟨p, 0, none⟩))) 13 (.pointer (some ⟨p, 0, none⟩))) 14 (.pointer (some ⟨p, 2, none⟩))) 15 (.slice (some ⟨bac, 0, none⟩) n n)) 16 (.int .i64 ((x : Nat) : Int))) 17 (.pointer (some ⟨bac, x, none⟩))) 18 (.int .i64 (ac.getD x 0))) 7 (.int .i64 (ac.getD x 0))) (by kernel_rfl) ?_
    refine op_nil ?_
    refine W_block ?_
    refine W_seq ?_
    refine W_fg [(0, .pointer (some ⟨p, 0, none⟩)), (1, .int .i64 ((x : Nat) : Int)), (2, .int .i64 d), (6, .bool false), (7, .int .i64 (ac.getD x 0)), (11, .bool (noneB n ((x : Nat) : Int)))] (by kernel_rfl) fun ρ => ?_
    refine W_region (by kernel_rfl) ?_
    refine seg3 (ρ' := upd (upd (upd (updL ρ [(0, .pointer (some ⟨p, 0, none⟩)), (1, .int .i64 ((x : Nat) : Int)), (2, .int .i64 d), (6, .bool false), (7, .int .i64 (ac.getD x 0)), (11, .bool (noneB n ((x : Nat) : Int)))]) 29 (.int .i64 d)) 30 (.int .i64 (ac.getD x 0))) 31 (.int .i64 (IntKind.i64.wrap (1099511627776 - (ac.getD x 0))))) (by kernel_rfl) ?_
    rw [show IntKind.i64.wrap (1099511627776 - (ac.getD x 0)) = 1099511627776 - (ac.getD x 0) from wrap_i64 (by omega) (by omega)]
    refine seg2 (ρ' := upd (upd (upd (upd (upd (updL ρ [(0, .pointer (some ⟨p, 0, none⟩)), (1, .int .i64 ((x : Nat) : Int)), (2, .int .i64 d), (6, .bool false), (7, .int .i64 (ac.getD x 0)), (11, .bool (noneB n ((x : Nat) : Int)))]) 29 (.int .i64 d)) 30 (.int .i64 (ac.getD x 0))) 31 (.int .i64 (1099511627776 - (ac.getD x 0)))) 32 (.bool (decide (d > 1099511627776 - (ac.getD x 0))))) 28 (.bool (decide (d > 1099511627776 - (ac.getD x 0))))) (by kernel_rfl) ?_
    refine op_nil ?_
    refine W_cond (decide (d > 1099511627776 - (ac.getD x 0))) (by kernel_rfl) (by kernel_rfl) (fun hc4 => ?_) (fun hc4 => ?_)
    · replace hc4 : 1099511627776 - (ac.getD x 0) < d := (of_decide_eq_true hc4)
      refine W_region (by kernel_rfl) ?_
      refine seg3 (ρ' := upd (upd (upd (upd (upd (upd (upd (upd (updL ρ [(0, .pointer (some ⟨p, 0, none⟩)), (1, .int .i64 ((x : Nat) : Int)), (2, .int .i64 d), (6, .bool false), (7, .int .i64 (ac.getD x 0)), (11, .bool (noneB n ((x : Nat) : Int)))]) 29 (.int .i64 d)) 30 (.int .i64 (ac.getD x 0))) 31 (.int .i64 (1099511627776 - (ac.getD x 0)))) 32 (.bool (decide (d > 1099511627776 - (ac.getD x 0))))) 28 (.bool (decide (d > 1099511627776 - (ac.getD x 0))))) 33 (.pointer (some ⟨p, 0, none⟩))) 34 (.pointer (some ⟨p, 0, none⟩))) 35 (.pointer (some ⟨p, 2, none⟩))) (by kernel_rfl) ?_
      refine st (by rfl) (S_val (v := .slice (some ⟨bac, 0, none⟩) n n) (R_load (v := .slice (some ⟨bac, 0, none⟩) n n) (by kernel_rfl) (by kernel_rfl) ((hP.cell 2).trans rfl)) ?_)
      refine seg1 (ρ' := upd (upd (upd (upd (upd (upd (upd (upd (upd (upd (updL ρ [(0, .pointer (some ⟨p, 0, none⟩)), (1, .int .i64 ((x : Nat) : Int)), (2, .int .i64 d), (6, .bool false), (7, .int .i64 (ac.getD x 0)), (11, .bool (noneB n ((x : Nat) : Int)))]) 29 (.int .i64 d)) 30 (.int .i64 (ac.getD x 0))) 31 (.int .i64 (1099511627776 - (ac.getD x 0)))) 32 (.bool (decide (d > 1099511627776 - (ac.getD x 0))))) 28 (.bool (decide (d > 1099511627776 - (ac.getD x 0))))) 33 (.pointer (some ⟨p, 0, none⟩))) 34 (.pointer (some ⟨p, 0, none⟩))) 35 (.pointer (some ⟨p, 2, none⟩))) 36 (.slice (some ⟨bac, 0, none⟩) n n)) 37 (.int .i64 ((x : Nat) : Int))) (by kernel_rfl) ?_
      refine stv (v := .pointer (some ⟨bac, x, none⟩)) (by rfl) (R_index0 (b := bac) (len := n) (cap := n) (k := .i64) (i := ((x : Nat) : Int)) (e := 3) x (by kernel_rfl) (by kernel_rfl) (by kernel_rfl) (by kernel_rfl) rfl (by first | omega | (simp only [List.length_set, List.length_map]; omega))) ?_
      refine st (by rfl) (S_store (b := bac) (j := x) (v := .int .i64 1099511627776) (by kernel_rfl) (by kernel_rfl) (by kernel_rfl) (by rfl) hC (by rw [ints_length]; first | omega | (simp only [List.length_set, List.length_map]; omega)) fun w5 hT6 hs7 hC' => ?_)
      have hP := hP.tch hT6 (fun e => by have : p = bac := e; omega)
      have hH := hH.tch hT6 (fun e => by have : g = bac := e; omega)
      have hT := hT.tch hT6 (fun e => by have : bat = bac := e; omega)
      have hFt := Tch.trans hFt hT6 (fun _ _ e => e) (fun c hcl e => by cases e; exact fc)
      replace hC : Blk w5 (bac) 3 (ints .i64 (ac.set x 1099511627776)) := by rw [← ints_set]; exact hC'
      refine op_nil ?_
      refine W_seq ?_
      refine W_seq ?_
      refine W_fg [(0, .pointer (some ⟨p, 0, none⟩)), (1, .int .i64 ((x : Nat) : Int)), (2, .int .i64 d), (6, .bool false), (7, .int .i64 (ac.getD x 0)), (11, .bool (noneB n ((x : Nat) : Int))), (28, .bool (decide (d > 1099511627776 - (ac.getD x 0))))] (by kernel_rfl) fun ρ => ?_
      replace hq := HeapP.Pur.setA hq0 x 1099511627776
      have hv9 : HeapP.bumpA (ac.getD x 0) d = 1099511627776 := by unfold HeapP.bumpA; first | (rw [if_pos (by omega)]; done) | (rw [if_neg (by omega)]; first | (rw [if_pos (by omega)]; done) | (rw [if_neg (by omega)]; done))
      have ha9 : okA (ac.set x 1099511627776) := hac.set (by omega) (by omega) (by omega)
      refine W_region (by kernel_rfl) ?_
      refine seg3 (ρ' := upd (upd (upd (updL ρ [(0, .pointer (some ⟨p, 0, none⟩)), (1, .int .i64 ((x : Nat) : Int)), (2, .int .i64 d), (6, .bool false), (7, .int .i64 (ac.getD x 0)), (11, .bool (noneB n ((x : Nat) : Int))), (28, .bool (decide (d > 1099511627776 - (ac.getD x 0))))]) 50 (.pointer (some ⟨p, 0, none⟩))) 51 (.pointer (some ⟨p, 0, none⟩))) 52 (.pointer (some ⟨p, 1, none⟩))) (by kernel_rfl) ?_
      refine st (by rfl) (S_val (v := .slice (some ⟨bat, 0, none⟩) n n) (R_load (v := .slice (some ⟨bat, 0, none⟩) n n) (by kernel_rfl) (by kernel_rfl) ((hP.cell 1).trans rfl)) ?_)
      refine seg1 (ρ' := upd (upd (upd (upd (upd (updL ρ [(0, .pointer (some ⟨p, 0, none⟩)), (1, .int .i64 ((x : Nat) : Int)), (2, .int .i64 d), (6, .bool false), (7, .int .i64 (ac.getD x 0)), (11, .bool (noneB n ((x : Nat) : Int))), (28, .bool (decide (d > 1099511627776 - (ac.getD x 0))))]) 50 (.pointer (some ⟨p, 0, none⟩))) 51 (.pointer (some ⟨p, 0, none⟩))) 52 (.pointer (some ⟨p, 1, none⟩))) 53 (.slice (some ⟨bat, 0, none⟩) n n)) 54 (.int .i64 ((x : Nat) : Int))) (by kernel_rfl) ?_
      refine stv (v := .pointer (some ⟨bat, x, none⟩)) (by rfl) (R_index0 (b := bat) (len := n) (cap := n) (k := .i64) (i := ((x : Nat) : Int)) (e := 3) x (by kernel_rfl) (by kernel_rfl) (by kernel_rfl) (by kernel_rfl) rfl (by first | omega | (simp only [List.length_set, List.length_map]; omega))) ?_
      refine st (by rfl) (S_val (v := .int .i64 ((i : Nat) : Int)) (R_load (v := .int .i64 ((i : Nat) : Int)) (by kernel_rfl) (by kernel_rfl) ((hT.cell _).trans (by rw [ints_at .i64 at_ (i := x) (by omega), hax]))) ?_)
      refine seg1 (ρ' := upd (upd (upd (upd (upd (upd (upd (upd (updL ρ [(0, .pointer (some ⟨p, 0, none⟩)), (1, .int .i64 ((x : Nat) : Int)), (2, .int .i64 d), (6, .bool false), (7, .int .i64 (ac.getD x 0)), (11, .bool (noneB n ((x : Nat) : Int))), (28, .bool (decide (d > 1099511627776 - (ac.getD x 0))))]) 50 (.pointer (some ⟨p, 0, none⟩))) 51 (.pointer (some ⟨p, 0, none⟩))) 52 (.pointer (some ⟨p, 1, none⟩))) 53 (.slice (some ⟨bat, 0, none⟩) n n)) 54 (.int .i64 ((x : Nat) : Int))) 55 (.pointer (some ⟨bat, x, none⟩))) 56 (.int .i64 ((i : Nat) : Int))) 8 (.int .i64 ((i : Nat) : Int))) (by kernel_rfl) ?_
      refine op_nil ?_
      refine W_seq ?_
      refine W_fg [(0, .pointer (some ⟨p, 0, none⟩)), (1, .int .i64 ((x : Nat) : Int)), (2, .int .i64 d), (6, .bool false), (7, .int .i64 (ac.getD x 0)), (8, .int .i64 ((i : Nat) : Int)), (11, .bool (noneB n ((x : Nat) : Int))), (28, .bool (decide (d > 1099511627776 - (ac.getD x 0))))] (by kernel_rfl) fun ρ => ?_
      refine W_region (by kernel_rfl) ?_
      refine seg2 (ρ' := upd (upd (updL ρ [(0, .pointer (some ⟨p, 0, none⟩)), (1, .int .i64 ((x : Nat) : Int)), (2, .int .i64 d), (6, .bool false), (7, .int .i64 (ac.getD x 0)), (8, .int .i64 ((i : Nat) : Int)), (11, .bool (noneB n ((x : Nat) : Int))), (28, .bool (decide (d > 1099511627776 - (ac.getD x 0))))]) 57 (.int .i64 ((i : Nat) : Int))) 58 (.bool (decide (((i : Nat) : Int) ≥ 0)))) (by kernel_rfl) ?_
      refine op_nil ?_
      refine W_cond (decide (((i : Nat) : Int) ≥ 0)) (by kernel_rfl) (by kernel_rfl) (fun hc8 => ?_) (fun hc8 => ?_)
      · replace hc8 : 0 ≤ ((i : Nat) : Int) := (of_decide_eq_true hc8)
        refine W_seq ?_
        refine W_region (by kernel_rfl) ?_
        refine seg2 (ρ' := upd (upd (upd (upd (updL ρ [(0, .pointer (some ⟨p, 0, none⟩)), (1, .int .i64 ((x : Nat) : Int)), (2, .int .i64 d), (6, .bool false), (7, .int .i64 (ac.getD x 0)), (8, .int .i64 ((i : Nat) : Int)), (11, .bool (noneB n ((x : Nat) : Int))), (28, .bool (decide (d > 1099511627776 - (ac.getD x 0))))]) 57 (.int .i64 ((i : Nat) : Int))) 58 (.bool (decide (((i : Nat) : Int) ≥ 0)))) 59 (.pointer (some ⟨p, 0, none⟩))) 60 (.int .i64 ((i : Nat) : Int))) (by kernel_rfl) ?_
        refine st (by rfl) (S_call (args := [.pointer (some ⟨p, 0, none⟩), .int .i64 ((i : Nat) : Int)]) (by kernel_rfl) (up_ok p g cp bat bac n hp sp at_ (ac.set x 1099511627776) i i _ ⟨hP, hH, hT, hC⟩ hq (by omega) (Nat.le_refl _)) ?_)
        rintro v12 w9 ⟨at11, ⟨hP, hH, hT, hC⟩, hq, hT10⟩
        have hFt := Tch.trans hFt hT10 (fun _ _ e => e) (fun c hcl e => foot_F fp (.inl fg) ft fc c hcl e)
        refine op_nil ?_
        have hup := HeapP.up_perm (lt := HeapP.lt (ac.set x 1099511627776)) i hp i hi
        obtain ⟨j, hj, hjx⟩ := HeapP.mem_getD (l := HeapP.up (HeapP.lt (ac.set x 1099511627776)) i hp i) (hup.mem_iff.2 hxm)
        have hul := hup.length_eq
        have hja := hq.2.2.2.2.2.2.1 j hj
        rw [hjx] at hja
        have hja2 := hq.2.1
        refine W_region (by kernel_rfl) ?_
        refine seg4 (ρ' := upd (upd (upd (upd (upd (upd (upd (upd (upd (updL ρ [(0, .pointer (some ⟨p, 0, none⟩)), (1, .int .i64 ((x : Nat) : Int)), (2, .int .i64 d), (6, .bool false), (7, .int .i64 (ac.getD x 0)), (8, .int .i64 ((i : Nat) : Int)), (11, .bool (noneB n ((x : Nat) : Int))), (28, .bool (decide (d > 1099511627776 - (ac.getD x 0))))]) 57 (.int .i64 ((i : Nat) : Int))) 58 (.bool (decide (((i : Nat) : Int) ≥ 0)))) 59 (.pointer (some ⟨p, 0, none⟩))) 60 (.int .i64 ((i : Nat) : Int))) 61 (v12)) 62 (.pointer (some ⟨p, 0, none⟩))) 63 (.pointer (some ⟨p, 0, none⟩))) 64 (.pointer (some ⟨p, 0, none⟩))) 65 (.pointer (some ⟨p, 1, none⟩))) (by kernel_rfl) ?_
        refine st (by rfl) (S_val (v := .slice (some ⟨bat, 0, none⟩) n n) (R_load (v := .slice (some ⟨bat, 0, none⟩) n n) (by kernel_rfl) (by kernel_rfl) ((hP.cell 1).trans rfl)) ?_)
        refine seg1 (ρ' := upd (upd (upd (upd (upd (upd (upd (upd (upd (upd (upd (updL ρ [(0, .pointer (some ⟨p, 0, none⟩)), (1, .int .i64 ((x : Nat) : Int)), (2, .int .i64 d), (6, .bool false), (7, .int .i64 (ac.getD x 0)), (8, .int .i64 ((i : Nat) : Int)), (11, .bool (noneB n ((x : Nat) : Int))), (28, .bool (decide (d > 1099511627776 - (ac.getD x 0))))]) 57 (.int .i64 ((i : Nat) : Int))) 58 (.bool (decide (((i : Nat) : Int) ≥ 0)))) 59 (.pointer (some ⟨p, 0, none⟩))) 60 (.int .i64 ((i : Nat) : Int))) 61 (v12)) 62 (.pointer (some ⟨p, 0, none⟩))) 63 (.pointer (some ⟨p, 0, none⟩))) 64 (.pointer (some ⟨p, 0, none⟩))) 65 (.pointer (some ⟨p, 1, none⟩))) 66 (.slice (some ⟨bat, 0, none⟩) n n)) 67 (.int .i64 ((x : Nat) : Int))) (by kernel_rfl) ?_
        refine stv (v := .pointer (some ⟨bat, x, none⟩)) (by rfl) (R_index0 (b := bat) (len := n) (cap := n) (k := .i64) (i := ((x : Nat) : Int)) (e := 3) x (by kernel_rfl) (by kernel_rfl) (by kernel_rfl) (by kernel_rfl) rfl (by first | omega | (simp only [List.length_set, List.length_map]; omega))) ?_
        refine st (by rfl) (S_val (v := .int .i64 ((j : Nat) : Int)) (R_load (v := .int .i64 ((j : Nat) : Int)) (by kernel_rfl) (by kernel_rfl) ((hT.cell _).trans (by rw [ints_at .i64 _ (i := x) (by omega), hja]))) ?_)
        refine st (by rfl) (S_call (args := [.pointer (some ⟨p, 0, none⟩), .int .i64 ((j : Nat) : Int)]) (by kernel_rfl) (down_ok p g cp bat bac n (HeapP.up (HeapP.lt (ac.set x 1099511627776)) i hp i) sp at11 (ac.set x 1099511627776) j hp.length _ ⟨hP, hH, hT, hC⟩ hq (by omega) (by omega)) ?_)
        rintro v16 w13 ⟨at15, ⟨hP, hH, hT, hC⟩, hq, hT14⟩
        have hFt := Tch.trans hFt hT14 (fun _ _ e => e) (fun c hcl e => foot_F fp (.inl fg) ft fc c hcl e)
        refine op_nil ?_
        refine W_seq ?_
        refine W_fg [(0, .pointer (some ⟨p, 0, none⟩)), (1, .int .i64 ((x : Nat) : Int)), (2, .int .i64 d), (6, .bool false), (7, .int .i64 (ac.getD x 0)), (8, .int .i64 ((i : Nat) : Int)), (11, .bool (noneB n ((x : Nat) : Int))), (28, .bool (decide (d > 1099511627776 - (ac.getD x 0)))), (58, .bool (decide (((i : Nat) : Int) ≥ 0)))] (by kernel_rfl) fun ρ => ?_
        refine W_region (by kernel_rfl) ?_
        refine seg1 (ρ' := upd (updL ρ [(0, .pointer (some ⟨p, 0, none⟩)), (1, .int .i64 ((x : Nat) : Int)), (2, .int .i64 d), (6, .bool false), (7, .int .i64 (ac.getD x 0)), (8, .int .i64 ((i : Nat) : Int)), (11, .bool (noneB n ((x : Nat) : Int))), (28, .bool (decide (d > 1099511627776 - (ac.getD x 0)))), (58, .bool (decide (((i : Nat) : Int) ≥ 0)))]) 6 (.bool true)) (by kernel_rfl) ?_
        refine op_nil ?_
        refine W_ret ?_
        refine ⟨_, Res_of (v := .bool true) (by kernel_rfl), ?_⟩
        rw [hv9]
        have hdp := HeapP.down_perm (lt := HeapP.lt (ac.set x 1099511627776)) hp.length (HeapP.up (HeapP.lt (ac.set x 1099511627776)) i hp i) j hj
        refine ⟨rfl, _, Ord.of_obj ⟨hP, hH, hT, hC⟩ hq ?_ hcp fp fg ft fc (fun b hb => Nat.lt_of_lt_of_le (hF b hb) hFt.size) ha9 ?_, hdp.trans hup, hFt⟩
        · rw [← hl2]; simp only [List.length_append, nats_length, hdp.length_eq, hul]
        · exact HeapP.bump_fine hat hfn (by omega) hi hix hj hjx (by omega)
      · replace hc8 : ((i : Nat) : Int) < 0 := (Int.not_le.1 (of_decide_eq_false hc8))
        exfalso; omega
    · replace hc4 : d ≤ 1099511627776 - (ac.getD x 0) := (Int.not_lt.1 (of_decide_eq_false hc4))
      refine W_seq ?_
      refine W_region (by kernel_rfl) ?_
      refine seg3 (ρ' := upd (upd (upd (upd (upd (upd (upd (upd (updL ρ [(0, .pointer (some ⟨p, 0, none⟩)), (1, .int .i64 ((x : Nat) : Int)), (2, .int .i64 d), (6, .bool false), (7, .int .i64 (ac.getD x 0)), (11, .bool (noneB n ((x : Nat) : Int)))]) 29 (.int .i64 d)) 30 (.int .i64 (ac.getD x 0))) 31 (.int .i64 (1099511627776 - (ac.getD x 0)))) 32 (.bool (decide (d > 1099511627776 - (ac.getD x 0))))) 28 (.bool (decide (d > 1099511627776 - (ac.getD x 0))))) 40 (.int .i64 d)) 41 (.int .i64 (ac.getD x 0))) 42 (.int .i64 (IntKind.i64.wrap (0 - (ac.getD x 0))))) (by kernel_rfl) ?_
      rw [show IntKind.i64.wrap (0 - (ac.getD x 0)) = 0 - (ac.getD x 0) from wrap_i64 (by omega) (by omega)]
      refine seg2 (ρ' := upd (upd (upd (upd (upd (upd (upd (upd (upd (upd (updL ρ [(0, .pointer (some ⟨p, 0, none⟩)), (1, .int .i64 ((x : Nat) : Int)), (2, .int .i64 d), (6, .bool false), (7, .int .i64 (ac.getD x 0)), (11, .bool (noneB n ((x : Nat) : Int)))]) 29 (.int .i64 d)) 30 (.int .i64 (ac.getD x 0))) 31 (.int .i64 (1099511627776 - (ac.getD x 0)))) 32 (.bool (decide (d > 1099511627776 - (ac.getD x 0))))) 28 (.bool (decide (d > 1099511627776 - (ac.getD x 0))))) 40 (.int .i64 d)) 41 (.int .i64 (ac.getD x 0))) 42 (.int .i64 (0 - (ac.getD x 0)))) 43 (.bool (decide (d < 0 - (ac.getD x 0))))) 39 (.bool (decide (d < 0 - (ac.getD x 0))))) (by kernel_rfl) ?_
      refine op_nil ?_
      refine W_cond (decide (d < 0 - (ac.getD x 0))) (by kernel_rfl) (by kernel_rfl) (fun hc17 => ?_) (fun hc17 => ?_)
      · replace hc17 : d < 0 - (ac.getD x 0) := (of_decide_eq_true hc17)
        refine W_fg [(0, .pointer (some ⟨p, 0, none⟩)), (1, .int .i64 ((x : Nat) : Int)), (2, .int .i64 d), (6, .bool false), (7, .int .i64 (ac.getD x 0)), (11, .bool (noneB n ((x : Nat) : Int))), (28, .bool (decide (d > 1099511627776 - (ac.getD x 0)))), (39, .bool (decide (d < 0 - (ac.getD x 0))))] (by kernel_rfl) fun ρ => ?_
        refine W_region (by kernel_rfl) ?_
        refine seg3 (ρ' := upd (upd (upd (updL ρ [(0, .pointer (some ⟨p, 0, none⟩)), (1, .int .i64 ((x : Nat) : Int)), (2, .int .i64 d), (6, .bool false), (7, .int .i64 (ac.getD x 0)), (11, .bool (noneB n ((x : Nat) : Int))), (28, .bool (decide (d > 1099511627776 - (ac.getD x 0)))), (39, .bool (decide (d < 0 - (ac.getD x 0))))]) 44 (.pointer (some ⟨p, 0, none⟩))) 45 (.pointer (some ⟨p, 0, none⟩))) 46 (.pointer (some ⟨p, 2, none⟩))) (by kernel_rfl) ?_
        refine st (by rfl) (S_val (v := .slice (some ⟨bac, 0, none⟩) n n) (R_load (v := .slice (some ⟨bac, 0, none⟩) n n) (by kernel_rfl) (by kernel_rfl) ((hP.cell 2).trans rfl)) ?_)
        refine seg1 (ρ' := upd (upd (upd (upd (upd (updL ρ [(0, .pointer (some ⟨p, 0, none⟩)), (1, .int .i64 ((x : Nat) : Int)), (2, .int .i64 d), (6, .bool false), (7, .int .i64 (ac.getD x 0)), (11, .bool (noneB n ((x : Nat) : Int))), (28, .bool (decide (d > 1099511627776 - (ac.getD x 0)))), (39, .bool (decide (d < 0 - (ac.getD x 0))))]) 44 (.pointer (some ⟨p, 0, none⟩))) 45 (.pointer (some ⟨p, 0, none⟩))) 46 (.pointer (some ⟨p, 2, none⟩))) 47 (.slice (some ⟨bac, 0, none⟩) n n)) 48 (.int .i64 ((x : Nat) : Int))) (by kernel_rfl) ?_
        refine stv (v := .pointer (some ⟨bac, x, none⟩)) (by rfl) (R_index0 (b := bac) (len := n) (cap := n) (k := .i64) (i := ((x : Nat) : Int)) (e := 3) x (by kernel_rfl) (by kernel_rfl) (by kernel_rfl) (by kernel_rfl) rfl (by first | omega | (simp only [List.length_set, List.length_map]; omega))) ?_
        refine st (by rfl) (S_store (b := bac) (j := x) (v := .int .i64 0) (by kernel_rfl) (by kernel_rfl) (by kernel_rfl) (by rfl) hC (by rw [ints_length]; first | omega | (simp only [List.length_set, List.length_map]; omega)) fun w18 hT19 hs20 hC' => ?_)
        have hP := hP.tch hT19 (fun e => by have : p = bac := e; omega)
        have hH := hH.tch hT19 (fun e => by have : g = bac := e; omega)
        have hT := hT.tch hT19 (fun e => by have : bat = bac := e; omega)
        have hFt := Tch.trans hFt hT19 (fun _ _ e => e) (fun c hcl e => by cases e; exact fc)
        replace hC : Blk w18 (bac) 3 (ints .i64 (ac.set x 0)) := by rw [← ints_set]; exact hC'
        refine op_nil ?_
        refine W_seq ?_
        refine W_seq ?_
        replace hq := HeapP.Pur.setA hq0 x 0
        have hv9 : HeapP.bumpA (ac.getD x 0) d = 0 := by unfold HeapP.bumpA; first | (rw [if_pos (by omega)]; done) | (rw [if_neg (by omega)]; first | (rw [if_pos (by omega)]; done) | (rw [if_neg (by omega)]; done))
        have ha9 : okA (ac.set x 0) := hac.set (by omega) (by omega) (by omega)
        refine W_region (by kernel_rfl) ?_
        refine seg3 (ρ' := upd (upd (upd (upd (upd (upd (upd (upd (upd (updL ρ [(0, .pointer (some ⟨p, 0, none⟩)), (1, .int .i64 ((x : Nat) : Int)), (2, .int .i64 d), (6, .bool false), (7, .int .i64 (ac.getD x 0)), (11, .bool (noneB n ((x : Nat) : Int))), (28, .bool (decide (d > 1099511627776 - (ac.getD x 0)))), (39, .bool (decide (d < 0 - (ac.getD x 0))))]) 44 (.pointer (some ⟨p, 0, none⟩))) 45 (.pointer (some ⟨p, 0, none⟩))) 46 (.pointer (some ⟨p, 2, none⟩))) 47 (.slice (some ⟨bac, 0, none⟩) n n)) 48 (.int .i64 ((x : Nat) : Int))) 49 (.pointer (some ⟨bac, x, none⟩))) 50 (.pointer (some ⟨p, 0, none⟩))) 51 (.pointer (some ⟨p, 0, none⟩))) 52 (.pointer (some ⟨p, 1, none⟩))) (by kernel_rfl) ?_
        refine st (by rfl) (S_val (v := .slice (some ⟨bat, 0, none⟩) n n) (R_load (v := .slice (some ⟨bat, 0, none⟩) n n) (by kernel_rfl) (by kernel_rfl) ((hP.cell 1).trans rfl)) ?_)
        refine seg1 (ρ' := upd (upd (upd (upd (upd (upd (upd (upd (upd (upd (upd (updL ρ [(0, .pointer (some ⟨p, 0, none⟩)), (1, .int .i64 ((x : Nat) : Int)), (2, .int .i64 d), (6, .bool false), (7, .int .i64 (ac.getD x 0)), (11, .bool (noneB n ((x : Nat) : Int))), (28, .bool (decide (d > 1099511627776 - (ac.getD x 0)))), (39, .bool (decide (d < 0 - (ac.getD x 0))))]) 44 (.pointer (some ⟨p, 0, none⟩))) 45 (.pointer (some ⟨p, 0, none⟩))) 46 (.pointer (some ⟨p, 2, none⟩))) 47 (.slice (some ⟨bac, 0, none⟩) n n)) 48 (.int .i64 ((x : Nat) : Int))) 49 (.pointer (some ⟨bac, x, none⟩))) 50 (.pointer (some ⟨p, 0, none⟩))) 51 (.pointer (some ⟨p, 0, none⟩))) 52 (.pointer (some ⟨p, 1, none⟩))) 53 (.slice (some ⟨bat, 0, none⟩) n n)) 54 (.int .i64 ((x : Nat) : Int))) (by kernel_rfl) ?_
        refine stv (v := .pointer (some ⟨bat, x, none⟩)) (by rfl) (R_index0 (b := bat) (len := n) (cap := n) (k := .i64) (i := ((x : Nat) : Int)) (e := 3) x (by kernel_rfl) (by kernel_rfl) (by kernel_rfl) (by kernel_rfl) rfl (by first | omega | (simp only [List.length_set, List.length_map]; omega))) ?_
        refine st (by rfl) (S_val (v := .int .i64 ((i : Nat) : Int)) (R_load (v := .int .i64 ((i : Nat) : Int)) (by kernel_rfl) (by kernel_rfl) ((hT.cell _).trans (by rw [ints_at .i64 at_ (i := x) (by omega), hax]))) ?_)
        refine seg1 (ρ' := upd (upd (upd (upd (upd (upd (upd (upd (upd (upd (upd (upd (upd (upd (updL ρ [(0, .pointer (some ⟨p, 0, none⟩)), (1, .int .i64 ((x : Nat) : Int)), (2, .int .i64 d), (6, .bool false), (7, .int .i64 (ac.getD x 0)), (11, .bool (noneB n ((x : Nat) : Int))), (28, .bool (decide (d > 1099511627776 - (ac.getD x 0)))), (39, .bool (decide (d < 0 - (ac.getD x 0))))]) 44 (.pointer (some ⟨p, 0, none⟩))) 45 (.pointer (some ⟨p, 0, none⟩))) 46 (.pointer (some ⟨p, 2, none⟩))) 47 (.slice (some ⟨bac, 0, none⟩) n n)) 48 (.int .i64 ((x : Nat) : Int))) 49 (.pointer (some ⟨bac, x, none⟩))) 50 (.pointer (some ⟨p, 0, none⟩))) 51 (.pointer (some ⟨p, 0, none⟩))) 52 (.pointer (some ⟨p, 1, none⟩))) 53 (.slice (some ⟨bat, 0, none⟩) n n)) 54 (.int .i64 ((x : Nat) : Int))) 55 (.pointer (some ⟨bat, x, none⟩))) 56 (.int .i64 ((i : Nat) : Int))) 8 (.int .i64 ((i : Nat) : Int))) (by kernel_rfl) ?_
        refine op_nil ?_
        refine W_seq ?_
        refine W_fg [(0, .pointer (some ⟨p, 0, none⟩)), (1, .int .i64 ((x : Nat) : Int)), (2, .int .i64 d), (6, .bool false), (7, .int .i64 (ac.getD x 0)), (8, .int .i64 ((i : Nat) : Int)), (11, .bool (noneB n ((x : Nat) : Int))), (28, .bool (decide (d > 1099511627776 - (ac.getD x 0)))), (39, .bool (decide (d < 0 - (ac.getD x 0))))] (by kernel_rfl) fun ρ => ?_
        refine W_region (by kernel_rfl) ?_
        refine seg2 (ρ' := upd (upd (updL ρ [(0, .pointer (some ⟨p, 0, none⟩)), (1, .int .i64 ((x : Nat) : Int)), (2, .int .i64 d), (6, .bool false), (7, .int .i64 (ac.getD x 0)), (8, .int .i64 ((i : Nat) : Int)), (11, .bool (noneB n ((x : Nat) : Int))), (28, .bool (decide (d > 1099511627776 - (ac.getD x 0)))), (39, .bool (decide (d < 0 - (ac.getD x 0))))]) 57 (.int .i64 ((i : Nat) : Int))) 58 (.bool (decide (((i : Nat) : Int) ≥ 0)))) (by kernel_rfl) ?_
        refine op_nil ?_
        refine W_cond (decide (((i : Nat) : Int) ≥ 0)) (by kernel_rfl) (by kernel_rfl) (fun hc21 => ?_) (fun hc21 => ?_)
        · replace hc21 : 0 ≤ ((i : Nat) : Int) := (of_decide_eq_true hc21)
          refine W_seq ?_
          refine W_region (by kernel_rfl) ?_
          refine seg2 (ρ' := upd (upd (upd (upd (updL ρ [(0, .pointer (some ⟨p, 0, none⟩)), (1, .int .i64 ((x : Nat) : Int)), (2, .int .i64 d), (6, .bool false), (7, .int .i64 (ac.getD x 0)), (8, .int .i64 ((i : Nat) : Int)), (11, .bool (noneB n ((x : Nat) : Int))), (28, .bool (decide (d > 1099511627776 - (ac.getD x 0)))), (39, .bool (decide (d < 0 - (ac.getD x 0))))]) 57 (.int .i64 ((i : Nat) : Int))) 58 (.bool (decide (((i : Nat) : Int) ≥ 0)))) 59 (.pointer (some ⟨p, 0, none⟩))) 60 (.int .i64 ((i : Nat) : Int))) (by kernel_rfl) ?_
          refine st (by rfl) (S_call (args := [.pointer (some ⟨p, 0, none⟩), .int .i64 ((i : Nat) : Int)]) (by kernel_rfl) (up_ok p g cp bat bac n hp sp at_ (ac.set x 0) i i _ ⟨hP, hH, hT, hC⟩ hq (by omega) (Nat.le_refl _)) ?_)
          rintro v25 w22 ⟨at24, ⟨hP, hH, hT, hC⟩, hq, hT23⟩
          have hFt := Tch.trans hFt hT23 (fun _ _ e => e) (fun c hcl e => foot_F fp (.inl fg) ft fc c hcl e)
          refine op_nil ?_
          have hup := HeapP.up_perm (lt := HeapP.lt (ac.set x 0)) i hp i hi
          obtain ⟨j, hj, hjx⟩ := HeapP.mem_getD (l := HeapP.up (HeapP.lt (ac.set x 0)) i hp i) (hup.mem_iff.2 hxm)
          have hul := hup.length_eq
          have hja := hq.2.2.2.2.2.2.1 j hj
          rw [hjx] at hja
          have hja2 := hq.2.1
          refine W_region (by kernel_rfl) ?_
          refine seg4 (ρ' := upd (upd (upd (upd (upd (upd (upd (upd (upd (updL ρ [(0, .pointer (some ⟨p, 0, none⟩)), (1, .int .i64 ((x : Nat) : Int)), (2, .int .i64 d), (6, .bool false), (7, .int .i64 (ac.getD x 0)), (8, .int .i64 ((i : Nat) : Int)), (11, .bool (noneB n ((x : Nat) : Int))), (28, .bool (decide (d > 1099511627776 - (ac.getD x 0)))), (39, .bool (decide (d < 0 - (ac.getD x 0))))]) 57 (.int .i64 ((i : Nat) : Int))) 58 (.bool (decide (((i : Nat) : Int) ≥ 0)))) 59 (.pointer (some ⟨p, 0, none⟩))) 60 (.int .i64 ((i : Nat) : Int))) 61 (v25)) 62 (.pointer (some ⟨p, 0, none⟩))) 63 (.pointer (some ⟨p, 0, none⟩))) 64 (.pointer (some ⟨p, 0, none⟩))) 65 (.pointer (some ⟨p, 1, none⟩))) (by kernel_rfl) ?_
          refine st (by rfl) (S_val (v := .slice (some ⟨bat, 0, none⟩) n n) (R_load (v := .slice (some ⟨bat, 0, none⟩) n n) (by kernel_rfl) (by kernel_rfl) ((hP.cell 1).trans rfl)) ?_)
          refine seg1 (ρ' := upd (upd (upd (upd (upd (upd (upd (upd (upd (upd (upd (updL ρ [(0, .pointer (some ⟨p, 0, none⟩)), (1, .int .i64 ((x : Nat) : Int)), (2, .int .i64 d), (6, .bool false), (7, .int .i64 (ac.getD x 0)), (8, .int .i64 ((i : Nat) : Int)), (11, .bool (noneB n ((x : Nat) : Int))), (28, .bool (decide (d > 1099511627776 - (ac.getD x 0)))), (39, .bool (decide (d < 0 - (ac.getD x 0))))]) 57 (.int .i64 ((i : Nat) : Int))) 58 (.bool (decide (((i : Nat) : Int) ≥ 0)))) 59 (.pointer (some ⟨p, 0, none⟩))) 60 (.int .i64 ((i : Nat) : Int))) 61 (v25)) 62 (.pointer (some ⟨p, 0, none⟩))) 63 (.pointer (some ⟨p, 0, none⟩))) 64 (.pointer (some ⟨p, 0, none⟩))) 65 (.pointer (some ⟨p, 1, none⟩))) 66 (.slice (some ⟨bat, 0, none⟩) n n)) 67 (.int .i64 ((x : Nat) : Int))) (by kernel_rfl) ?_
          refine stv (v := .pointer (some ⟨bat, x, none⟩)) (by rfl) (R_index0 (b := bat) (len := n) (cap := n) (k := .i64) (i := ((x : Nat) : Int)) (e := 3) x (by kernel_rfl) (by kernel_rfl) (by kernel_rfl) (by kernel_rfl) rfl (by first | omega | (simp only [List.length_set, List.length_map]; omega))) ?_
          refine st (by rfl) (S_val (v := .int .i64 ((j : Nat) : Int)) (R_load (v := .int .i64 ((j : Nat) : Int)) (by kernel_rfl) (by kernel_rfl) ((hT.cell _).trans (by rw [ints_at .i64 _ (i := x) (by omega), hja]))) ?_)
          refine st (by rfl) (S_call (args := [.pointer (some ⟨p, 0, none⟩), .int .i64 ((j : Nat) : Int)]) (by kernel_rfl) (down_ok p g cp bat bac n (HeapP.up (HeapP.lt (ac.set x 0)) i hp i) sp at24 (ac.set x 0) j hp.length _ ⟨hP, hH, hT, hC⟩ hq (by omega) (by omega)) ?_)
          rintro v29 w26 ⟨at28, ⟨hP, hH, hT, hC⟩, hq, hT27⟩
          have hFt := Tch.trans hFt hT27 (fun _ _ e => e) (fun c hcl e => foot_F fp (.inl fg) ft fc c hcl e)
          refine op_nil ?_
          refine W_seq ?_
          refine W_fg [(0, .pointer (some ⟨p, 0, none⟩)), (1, .int .i64 ((x : Nat) : Int)), (2, .int .i64 d), (6, .bool false), (7, .int .i64 (ac.getD x 0)), (8, .int .i64 ((i : Nat) : Int)), (11, .bool (noneB n ((x : Nat) : Int))), (28, .bool (decide (d > 1099511627776 - (ac.getD x 0)))), (39, .bool (decide (d < 0 - (ac.getD x 0)))), (58, .bool (decide (((i : Nat) : Int) ≥ 0)))] (by kernel_rfl) fun ρ => ?_
          refine W_region (by kernel_rfl) ?_
          refine seg1 (ρ' := upd (updL ρ [(0, .pointer (some ⟨p, 0, none⟩)), (1, .int .i64 ((x : Nat) : Int)), (2, .int .i64 d), (6, .bool false), (7, .int .i64 (ac.getD x 0)), (8, .int .i64 ((i : Nat) : Int)), (11, .bool (noneB n ((x : Nat) : Int))), (28, .bool (decide (d > 1099511627776 - (ac.getD x 0)))), (39, .bool (decide (d < 0 - (ac.getD x 0)))), (58, .bool (decide (((i : Nat) : Int) ≥ 0)))]) 6 (.bool true)) (by kernel_rfl) ?_
          refine op_nil ?_
          refine W_ret ?_
          refine ⟨_, Res_of (v := .bool true) (by kernel_rfl), ?_⟩
          rw [hv9]
          have hdp := HeapP.down_perm (lt := HeapP.lt (ac.set x 0)) hp.length (HeapP.up (HeapP.lt (ac.set x 0)) i hp i) j hj
          refine ⟨rfl, _, Ord.of_obj ⟨hP, hH, hT, hC⟩ hq ?_ hcp fp fg ft fc (fun b hb => Nat.lt_of_lt_of_le (hF b hb) hFt.size) ha9 ?_, hdp.trans hup, hFt⟩
          · rw [← hl2]; simp only [List.length_append, nats_length, hdp.length_eq, hul]
          · exact HeapP.bump_fine hat hfn (by omega) hi hix hj hjx (by omega)
        · replace hc21 : ((i : Nat) : Int) < 0 := (Int.not_le.1 (of_decide_eq_false hc21))
          exfalso; omega
      · replace hc17 : 0 - (ac.getD x 0) ≤ d := (Int.not_lt.1 (of_decide_eq_false hc17))
        refine W_fg [(0, .pointer (some ⟨p, 0, none⟩)), (1, .int .i64 ((x : Nat) : Int)), (2, .int .i64 d), (6, .bool false), (7, .int .i64 (ac.getD x 0)), (11, .bool (noneB n ((x : Nat) : Int))), (28, .bool (decide (d > 1099511627776 - (ac.getD x 0)))), (39, .bool (decide (d < 0 - (ac.getD x 0))))] (by kernel_rfl) fun ρ => ?_
        refine W_region (by kernel_rfl) ?_
        refine seg3 (ρ' := upd (upd (upd (updL ρ [(0, .pointer (some ⟨p, 0, none⟩)), (1, .int .i64 ((x : Nat) : Int)), (2, .int .i64 d), (6, .bool false), (7, .int .i64 (ac.getD x 0)), (11, .bool (noneB n ((x : Nat) : Int))), (28, .bool (decide (d > 1099511627776 - (ac.getD x 0)))), (39, .bool (decide (d < 0 - (ac.getD x 0))))]) 19 (.pointer (some ⟨p, 0, none⟩))) 20 (.pointer (some ⟨p, 0, none⟩))) 21 (.pointer (some ⟨p, 2, none⟩))) (by kernel_rfl) ?_
        refine st (by rfl) (S_val (v := .slice (some ⟨bac, 0, none⟩) n n) (R_load (v := .slice (some ⟨bac, 0, none⟩) n n) (by kernel_rfl) (by kernel_rfl) ((hP.cell 2).trans rfl)) ?_)
        refine seg4 (ρ' := upd (upd (upd (upd (upd (upd (upd (upd (updL ρ [(0, .pointer (some ⟨p, 0, none⟩)), (1, .int .i64 ((x : Nat) : Int)), (2, .int .i64 d), (6, .bool false), (7, .int .i64 (ac.getD x 0)), (11, .bool (noneB n ((x : Nat) : Int))), (28, .bool (decide (d > 1099511627776 - (ac.getD x 0)))), (39, .bool (decide (d < 0 - (ac.getD x 0))))]) 19 (.pointer (some ⟨p, 0, none⟩))) 20 (.pointer (some ⟨p, 0, none⟩))) 21 (.pointer (some ⟨p, 2, none⟩))) 22 (.slice (some ⟨bac, 0, none⟩) n n)) 23 (.int .i64 ((x : Nat) : Int))) 24 (.int .i64 (ac.getD x 0))) 25 (.int .i64 d)) 26 (.int .i64 (IntKind.i64.wrap ((ac.getD x 0) + d)))) (by kernel_rfl) ?_
        rw [show IntKind.i64.wrap ((ac.getD x 0) + d) = (ac.getD x 0) + d from wrap_i64 (by omega) (by omega)]
        refine stv (v := .pointer (some ⟨bac, x, none⟩)) (by rfl) (R_index0 (b := bac) (len := n) (cap := n) (k := .i64) (i := ((x : Nat) : Int)) (e := 3) x (by kernel_rfl) (by kernel_rfl) (by kernel_rfl) (by kernel_rfl) rfl (by first | omega | (simp only [List.length_set, List.length_map]; omega))) ?_
        refine st (by rfl) (S_store (b := bac) (j := x) (v := .int .i64 ((ac.getD x 0) + d)) (by kernel_rfl) (by kernel_rfl) (by kernel_rfl) (by rfl) hC (by rw [ints_length]; first | omega | (simp only [List.length_set, List.length_map]; omega)) fun w30 hT31 hs32 hC' => ?_)
        have hP := hP.tch hT31 (fun e => by have : p = bac := e; omega)
        have hH := hH.tch hT31 (fun e => by have : g = bac := e; omega)
        have hT := hT.tch hT31 (fun e => by have : bat = bac := e; omega)
        have hFt := Tch.trans hFt hT31 (fun _ _ e => e) (fun c hcl e => by cases e; exact fc)
        replace hC : Blk w30 (bac) 3 (ints .i64 (ac.set x ((ac.getD x 0) + d))) := by rw [← ints_set]; exact hC'
        refine op_nil ?_
        refine W_seq ?_
        refine W_seq ?_
        refine W_fg [(0, .pointer (some ⟨p, 0, none⟩)), (1, .int .i64 ((x : Nat) : Int)), (2, .int .i64 d), (6, .bool false), (7, .int .i64 (ac.getD x 0)), (11, .bool (noneB n ((x : Nat) : Int))), (28, .bool (decide (d > 1099511627776 - (ac.getD x 0)))), (39, .bool (decide (d < 0 - (ac.getD x 0))))] (by kernel_rfl) fun ρ => ?_
        replace hq := HeapP.Pur.setA hq0 x ((ac.getD x 0) + d)
        have hv9 : HeapP.bumpA (ac.getD x 0) d = ((ac.getD x 0) + d) := by unfold HeapP.bumpA; first | (rw [if_pos (by omega)]; done) | (rw [if_neg (by omega)]; first | (rw [if_pos (by omega)]; done) | (rw [if_neg (by omega)]; done))
        have ha9 : okA (ac.set x ((ac.getD x 0) + d)) := hac.set (by omega) (by omega) (by omega)
        refine W_region (by kernel_rfl) ?_
        refine seg3 (ρ' := upd (upd (upd (updL ρ [(0, .pointer (some ⟨p, 0, none⟩)), (1, .int .i64 ((x : Nat) : Int)), (2, .int .i64 d), (6, .bool false), (7, .int .i64 (ac.getD x 0)), (11, .bool (noneB n ((x : Nat) : Int))), (28, .bool (decide (d > 1099511627776 - (ac.getD x 0)))), (39, .bool (decide (d < 0 - (ac.getD x 0))))]) 50 (.pointer (some ⟨p, 0, none⟩))) 51 (.pointer (some ⟨p, 0, none⟩))) 52 (.pointer (some ⟨p, 1, none⟩))) (by kernel_rfl) ?_
        refine st (by rfl) (S_val (v := .slice (some ⟨bat, 0, none⟩) n n) (R_load (v := .slice (some ⟨bat, 0, none⟩) n n) (by kernel_rfl) (by kernel_rfl) ((hP.cell 1).trans rfl)) ?_)
        refine seg1 (ρ' := upd (upd (upd (upd (upd (updL ρ [(0, .pointer (some ⟨p, 0, none⟩)), (1, .int .i64 ((x : Nat) : Int)), (2, .int .i64 d), (6, .bool false), (7, .int .i64 (ac.getD x 0)), (11, .bool (noneB n ((x : Nat) : Int))), (28, .bool (decide (d > 1099511627776 - (ac.getD x 0)))), (39, .bool (decide (d < 0 - (ac.getD x 0))))]) 50 (.pointer (some ⟨p, 0, none⟩))) 51 (.pointer (some ⟨p, 0, none⟩))) 52 (.pointer (some ⟨p, 1, none⟩))) 53 (.slice (some ⟨bat, 0, none⟩) n n)) 54 (.int .i64 ((x : Nat) : Int))) (by kernel_rfl) ?_
        refine stv (v := .pointer (some ⟨bat, x, none⟩)) (by rfl) (R_index0 (b := bat) (len := n) (cap := n) (k := .i64) (i := ((x : Nat) : Int)) (e := 3) x (by kernel_rfl) (by kernel_rfl) (by kernel_rfl) (by kernel_rfl) rfl (by first | omega | (simp only [List.length_set, List.length_map]; omega))) ?_
        refine st (by rfl) (S_val (v := .int .i64 ((i : Nat) : Int)) (R_load (v := .int .i64 ((i : Nat) : Int)) (by kernel_rfl) (by kernel_rfl) ((hT.cell _).trans (by rw [ints_at .i64 at_ (i := x) (by omega), hax]))) ?_)
        refine seg1 (ρ' := upd (upd (upd (upd (upd (upd (upd (upd (updL ρ [(0, .pointer (some ⟨p, 0, none⟩)), (1, .int .i64 ((x : Nat) : Int)), (2, .int .i64 d), (6, .bool false), (7, .int .i64 (ac.getD x 0)), (11, .bool (noneB n ((x : Nat) : Int))), (28, .bool (decide (d > 1099511627776 - (ac.getD x 0)))), (39, .bool (decide (d < 0 - (ac.getD x 0))))]) 50 (.pointer (some ⟨p, 0, none⟩))) 51 (.pointer (some ⟨p, 0, none⟩))) 52 (.pointer (some ⟨p, 1, none⟩))) 53 (.slice (some ⟨bat, 0, none⟩) n n)) 54 (.int .i64 ((x : Nat) : Int))) 55 (.pointer (some ⟨bat, x, none⟩))) 56 (.int .i64 ((i : Nat) : Int))) 8 (.int .i64 ((i : Nat) : Int))) (by kernel_rfl) ?_
        refine op_nil ?_
        refine W_seq ?_
        refine W_fg [(0, .pointer (some ⟨p, 0, none⟩)), (1, .int .i64 ((x : Nat) : Int)), (2, .int .i64 d), (6, .bool false), (7, .int .i64 (ac.getD x 0)), (8, .int .i64 ((i : Nat) : Int)), (11, .bool (noneB n ((x : Nat) : Int))), (28, .bool (decide (d > 1099511627776 - (ac.getD x 0)))), (39, .bool (decide (d < 0 - (ac.getD x 0))))] (by kernel_rfl) fun ρ => ?_
        refine W_region (by kernel_rfl) ?_
        refine seg2 (ρ' := upd (upd (updL ρ [(0, .pointer (some ⟨p, 0, none⟩)), (1, .int .i64 ((x : Nat) : Int)), (2, .int .i64 d), (6, .bool false), (7, .int .i64 (ac.getD x 0)), (8, .int .i64 ((i : Nat) : Int)), (11, .bool (noneB n ((x : Nat) : Int))), (28, .bool (decide (d > 1099511627776 - (ac.getD x 0)))), (39, .bool (decide (d < 0 - (ac.getD x 0))))]) 57 (.int .i64 ((i : Nat) : Int))) 58 (.bool (decide (((i : Nat) : Int) ≥ 0)))) (by kernel_rfl) ?_
        refine op_nil ?_
        refine W_cond (decide (((i : Nat) : Int) ≥ 0)) (by kernel_rfl) (by kernel_rfl) (fun hc33 => ?_) (fun hc33 => ?_)
        · replace hc33 : 0 ≤ ((i : Nat) : Int) := (of_decide_eq_true hc33)
          refine W_seq ?_
          refine W_region (by kernel_rfl) ?_
          refine seg2 (ρ' := upd (upd (upd (upd (updL ρ [(0, .pointer (some ⟨p, 0, none⟩)), (1, .int .i64 ((x : Nat) : Int)), (2, .int .i64 d), (6, .bool false), (7, .int .i64 (ac.getD x 0)), (8, .int .i64 ((i : Nat) : Int)), (11, .bool (noneB n ((x : Nat) : Int))), (28, .bool (decide (d > 1099511627776 - (ac.getD x 0)))), (39, .bool (decide (d < 0 - (ac.getD x 0))))]) 57 (.int .i64 ((i : Nat) : Int))) 58 (.bool (decide (((i : Nat) : Int) ≥ 0)))) 59 (.pointer (some ⟨p, 0, none⟩))) 60 (.int .i64 ((i : Nat) : Int))) (by kernel_rfl) ?_
          refine st (by rfl) (S_call (args := [.pointer (some ⟨p, 0, none⟩), .int .i64 ((i : Nat) : Int)]) (by kernel_rfl) (up_ok p g cp bat bac n hp sp at_ (ac.set x ((ac.getD x 0) + d)) i i _ ⟨hP, hH, hT, hC⟩ hq (by omega) (Nat.le_refl _)) ?_)
          rintro v37 w34 ⟨at36, ⟨hP, hH, hT, hC⟩, hq, hT35⟩
          have hFt := Tch.trans hFt hT35 (fun _ _ e => e) (fun c hcl e => foot_F fp (.inl fg) ft fc c hcl e)
          refine op_nil ?_
          have hup := HeapP.up_perm (lt := HeapP.lt (ac.set x ((ac.getD x 0) + d))) i hp i hi
          obtain ⟨j, hj, hjx⟩ := HeapP.mem_getD (l := HeapP.up (HeapP.lt (ac.set x ((ac.getD x 0) + d))) i hp i) (hup.mem_iff.2 hxm)
          have hul := hup.length_eq
          have hja := hq.2.2.2.2.2.2.1 j hj
          rw [hjx] at hja
          have hja2 := hq.2.1
          refine W_region (by kernel_rfl) ?_
          refine seg4 (ρ' := upd (upd (upd (upd (upd (upd (upd (upd (upd (updL ρ [(0, .pointer (some ⟨p, 0, none⟩)), (1, .int .i64 ((x : Nat) : Int)), (2, .int .i64 d), (6, .bool false), (7, .int .i64 (ac.getD x 0)), (8, .int .i64 ((i : Nat) : Int)), (11, .bool (noneB n ((x : Nat) : Int))), (28, .bool (decide (d > 1099511627776 - (ac.getD x 0)))), (39, .bool (decide (d < 0 - (ac.getD x 0))))]) 57 (.int .i64 ((i : Nat) : Int))) 58 (.bool (decide (((i : Nat) : Int) ≥ 0)))) 59 (.pointer (some ⟨p, 0, none⟩))) 60 (.int .i64 ((i : Nat) : Int))) 61 (v37)) 62 (.pointer (some ⟨p, 0, none⟩))) 63 (.pointer (some ⟨p, 0, none⟩))) 64 (.pointer (some ⟨p, 0, none⟩))) 65 (.pointer (some ⟨p, 1, none⟩))) (by kernel_rfl) ?_
          refine st (by rfl) (S_val (v := .slice (some ⟨bat, 0, none⟩) n n) (R_load (v := .slice (some ⟨bat, 0, none⟩) n n) (by kernel_rfl) (by kernel_rfl) ((hP.cell 1).trans rfl)) ?_)
          refine seg1 (ρ' := upd (upd (upd (upd (upd (upd (upd (upd (upd (upd (upd (updL ρ [(0, .pointer (some ⟨p, 0, none⟩)), (1, .int .i64 ((x : Nat) : Int)), (2, .int .i64 d), (6, .bool false), (7, .int .i64 (ac.getD x 0)), (8, .int .i64 ((i : Nat) : Int)), (11, .bool (noneB n ((x : Nat) : Int))), (28, .bool (decide (d > 1099511627776 - (ac.getD x 0)))), (39, .bool (decide (d < 0 - (ac.getD x 0))))]) 57 (.int .i64 ((i : Nat) : Int))) 58 (.bool (decide (((i : Nat) : Int) ≥ 0)))) 59 (.pointer (some ⟨p, 0, none⟩))) 60 (.int .i64 ((i : Nat) : Int))) 61 (v37)) 62 (.pointer (some ⟨p, 0, none⟩))) 63 (.pointer (some ⟨p, 0, none⟩))) 64 (.pointer (some ⟨p, 0, none⟩))) 65 (.pointer (some ⟨p, 1, none⟩))) 66 (.slice (some ⟨bat, 0, none⟩) n n)) 67 (.int .i64 ((x : Nat) : Int))) (by kernel_rfl) ?_
          refine stv (v := .pointer (some ⟨bat, x, none⟩)) (by rfl) (R_index0 (b := bat) (len := n) (cap := n) (k := .i64) (i := ((x : Nat) : Int)) (e := 3) x (by kernel_rfl) (by kernel_rfl) (by kernel_rfl) (by kernel_rfl) rfl (by first | omega | (simp only [List.length_set, List.length_map]; omega))) ?_
          refine st (by rfl) (S_val (v := .int .i64 ((j : Nat) : Int)) (R_load (v := .int .i64 ((j : Nat) : Int)) (by kernel_rfl) (by kernel_rfl) ((hT.cell _).trans (by rw [ints_at .i64 _ (i := x) (by omega), hja]))) ?_)
          refine st (by rfl) (S_call (args := [.pointer (some ⟨p, 0, none⟩), .int .i64 ((j : Nat) : Int)]) (by kernel_rfl) (down_ok p g cp bat bac n (HeapP.up (HeapP.lt (ac.set x ((ac.getD x 0) + d))) i hp i) sp at36 (ac.set x ((ac.getD x 0) + d)) j hp.length _ ⟨hP, hH, hT, hC⟩ hq (by omega) (by omega)) ?_)
          rintro v41 w38 ⟨at40, ⟨hP, hH, hT, hC⟩, hq, hT39⟩
          have hFt := Tch.trans hFt hT39 (fun _ _ e => e) (fun c hcl e => foot_F fp (.inl fg) ft fc c hcl e)
          refine op_nil ?_
          refine W_seq ?_
          refine W_fg [(0, .pointer (some ⟨p, 0, none⟩)), (1, .int .i64 ((x : Nat) : Int)), (2, .int .i64 d), (6, .bool false), (7, .int .i64 (ac.getD x 0)), (8, .int .i64 ((i : Nat) : Int)), (11, .bool (noneB n ((x : Nat) : Int))), (28, .bool (decide (d > 1099511627776 - (ac.getD x 0)))), (39, .bool (decide (d < 0 - (ac.getD x 0)))), (58, .bool (decide (((i : Nat) : Int) ≥ 0)))] (by kernel_rfl) fun ρ => ?_
          refine W_region (by kernel_rfl) ?_
          refine seg1 (ρ' := upd (updL ρ [(0, .pointer (some ⟨p, 0, none⟩)), (1, .int .i64 ((x : Nat) : Int)), (2, .int .i64 d), (6, .bool false), (7, .int .i64 (ac.getD x 0)), (8, .int .i64 ((i : Nat) : Int)), (11, .bool (noneB n ((x : Nat) : Int))), (28, .bool (decide (d > 1099511627776 - (ac.getD x 0)))), (39, .bool (decide (d < 0 - (ac.getD x 0)))), (58, .bool (decide (((i : Nat) : Int) ≥ 0)))]) 6 (.bool true)) (by kernel_rfl) ?_
          refine op_nil ?_
          refine W_ret ?_
          refine ⟨_, Res_of (v := .bool true) (by kernel_rfl), ?_⟩
          rw [hv9]
          have hdp := HeapP.down_perm (lt := HeapP.lt (ac.set x ((ac.getD x 0) + d))) hp.length (HeapP.up (HeapP.lt (ac.set x ((ac.getD x 0) + d))) i hp i) j hj
          refine ⟨rfl, _, Ord.of_obj ⟨hP, hH, hT, hC⟩ hq ?_ hcp fp fg ft fc (fun b hb => Nat.lt_of_lt_of_le (hF b hb) hFt.size) ha9 ?_, hdp.trans hup, hFt⟩
          · rw [← hl2]; simp only [List.length_append, nats_length, hdp.length_eq, hul]
          · exact HeapP.bump_fine hat hfn (by omega) hi hix hj hjx (by omega)
        · replace hc33 : ((i : Nat) : Int) < 0 := (Int.not_le.1 (of_decide_eq_false hc33))
          exfalso; omega

set_option maxRecDepth 100000 in
theorem bump_out (F : Nat → Prop) (p n : Nat) (hp : List Nat) (ac : List Int) (x : Nat) (d : Int) (w : World) (h : Ord F w p n hp ac) (hx : x < n) (hxm : x ∉ hp) : Ret Try.prog 27 [.pointer (some ⟨p, 0, none⟩), .int .i64 ((x : Nat) : Int), .int .i64 d] w fun v w' => v = .bool true ∧ ∃ hp', Ord F w' p n hp' (ac.set x (HeapP.bumpA (ac.getD x 0) d)) ∧ hp'.Perm hp ∧ Tch F w w' := by
  obtain ⟨A, cp, bat, bac, at_, hP, hO, hT, hC, hAF, n6, fp, ft, fc, hF, la, lc, hn, hlt, hat, hac, hfn⟩ := h
  have n2 : p ≠ bat := hP.ne hT (by decide)
  have n3 : p ≠ bac := hP.ne hC (by decide)
  have hm := HeapP.nodup_le n hp hat.nodup hlt
  have hFt : Tch F w w := Tch.refl _ _
  have hax : at_.getD x 0 = -1 := hat.2 x hx hxm
  have hb := hac x
  refine enter Try.func27 rfl rfl ?_
  refine W_seq ?_
  refine W_region (by kernel_rfl) ?_
  refine seg1 (ρ' := upd (ini [.pointer (some ⟨p, 0, none⟩), .int .i64 ((x : Nat) : Int), .int .i64 d]) 6 (.bool false)) (by kernel_rfl) ?_
  refine op_nil ?_
  refine W_seq ?_
  refine W_seq ?_
  refine W_region (by kernel_rfl) ?_
  refine seg2 (ρ' := upd (upd (upd (ini [.pointer (some ⟨p, 0, none⟩), .int .i64 ((x : Nat) : Int), .int .i64 d]) 6 (.bool false)) 9 (.pointer (some ⟨p, 0, none⟩))) 10 (.int .i64 ((x : Nat) : Int))) (by kernel_rfl) ?_
  refine st (by rfl) (S_call (args := [.pointer (some ⟨p, 0, none⟩), .int .i64 ((x : Nat) : Int)]) (by kernel_rfl) (none_ok p bat n (.slice A hp.length cp) (.slice (some ⟨bac, 0, none⟩) n n) ((x : Nat) : Int) _ hP) ?_)
  rintro _ w1 ⟨rfl, hT2⟩
  have hP := hP.tch0 hT2
  have hT := hT.tch0 hT2
  have hC := hC.tch0 hT2
  have hFt := hFt.then0 hT2
  have hO := hO.tch0 hT2
  refine op_nil ?_
  refine W_cond (noneB n ((x : Nat) : Int)) (by kernel_rfl) (by kernel_rfl) (fun hc3 => ?_) (fun hc3 => ?_)
  · replace hc3 : ((x : Nat) : Int) < 0 ∨ (n : Int) ≤ ((x : Nat) : Int) := (noneB_t hc3)
    exfalso; omega
  · replace hc3 : 0 ≤ ((x : Nat) : Int) ∧ ((x : Nat) : Int) < (n : Int) := (noneB_f hc3)
    refine W_skip ?_
    refine W_seq ?_
    refine W_seq ?_
    refine W_region (by kernel_rfl) ?_
    refine seg3 (ρ' := upd (upd (upd (upd (upd (upd (upd (ini [.pointer (some ⟨p, 0, none⟩), .int .i64 ((x : Nat) : Int), .int .i64 d]) 6 (.bool false)) 9 (.pointer (some ⟨p, 0, none⟩))) 10 (.int .i64 ((x : Nat) : Int))) 11 (.bool (noneB n ((x : Nat) : Int)))) 12 (.pointer (some ⟨p, 0, none⟩))) 13 (.pointer (some ⟨p, 0, none⟩))) 14 (.pointer (some ⟨p, 2, none⟩))) (by kernel_rfl) ?_
    refine st (by rfl) (S_val (v := .slice (some ⟨bac, 0, none⟩) n n) (R_load (v := .slice (some ⟨bac, 0, none⟩) n n) (by kernel_rfl) (by kernel_rfl) ((hP.cell 2).trans rfl)) ?_)
    refine seg1 (ρ' := upd (upd (upd (upd (upd (upd (upd (upd (upd (ini [.pointer (some ⟨p, 0, none⟩), .int .i64 ((x : Nat) : Int), .int .i64 d]) 6 (.bool false)) 9 (.pointer (some ⟨p, 0, none⟩))) 10 (.int .i64 ((x : Nat) : Int))) 11 (.bool (noneB n ((x : Nat) : Int)))) 12 (.pointer (some ⟨p, 0, none⟩))) 13 (.pointer (some ⟨p, 0, none⟩))) 14 (.pointer (some ⟨p, 2, none⟩))) 15 (.slice (some ⟨bac, 0, none⟩) n n)) 16 (.int .i64 ((x : Nat) : Int))) (by kernel_rfl) ?_
    refine stv (v := .pointer (some ⟨bac, x, none⟩)) (by rfl) (R_index0 (b := bac) (len := n) (cap := n) (k := .i64) (i := ((x : Nat) : Int)) (e := 3) x (by kernel_rfl) (by kernel_rfl) (by kernel_rfl) (by kernel_rfl) rfl (by first | omega | (simp only [List.length_set, List.length_map]; omega))) ?_
    refine st (by rfl) (S_val (v := .int .i64 (ac.getD x 0)) (R_load (v := .int .i64 (ac.getD x 0)) (by kernel_rfl) (by kernel_rfl) ((hC.cell _).trans (ints_at .i64 _ (by first | omega | (simp only [List.length_set, List.length_map]; omega))))) ?_)
    refine seg1 (ρ' := upd (upd (upd (upd (upd (upd (upd (upd (upd (upd (upd (upd (ini [.pointer (some ⟨p, 0, none⟩), .int .i64 ((x : Nat) : Int), .int .i64 d]) 6 (.bool false)) 9 (.pointer (some ⟨p, 0, none⟩))) 10 (.int .i64 ((x : Nat) : Int))) 11 (.bool (noneB n ((x : Nat) : Int)))) 12 (.pointer (some ⟨p, 0, none⟩))) 13 (.pointer (some ⟨p, 0, none⟩))) 14 (.pointer (some ⟨p, 2, none⟩))) 15 (.slice (some ⟨bac, 0, none⟩) n n)) 16 (.int .i64 ((x : Nat) : Int))) 17 (.pointer (some ⟨bac, x, none⟩))) 18 (.int .i64 (ac.getD x 0))) 7 (.int .i64 (ac.getD x 0))) (by kernel_rfl) ?_
    refine op_nil ?_
    refine W_block ?_
    refine W_seq ?_
    refine W_fg [(0, .pointer (some ⟨p, 0, none⟩)), (1, .int .i64 ((x : Nat) : Int)), (2, .int .i64 d), (6, .bool false), (7, .int .i64 (ac.getD x 0)), (11, .bool (noneB n ((x : Nat) : Int)))] (by kernel_rfl) fun ρ => ?_
    refine W_region (by kernel_rfl) ?_
    refine seg3 (ρ' := upd (upd (upd (updL ρ [(0, .pointer (some ⟨p, 0, none⟩)), (1, .int .i64 ((x : Nat) : Int)), (2, .int .i64 d), (6, .bool false), (7, .int .i64 (ac.getD x 0)), (11, .bool (noneB n ((x : Nat) : Int)))]) 29 (.int .i64 d)) 30 (.int .i64 (ac.getD x 0))) 31 (.int .i64 (IntKind.i64.wrap (1099511627776 - (ac.getD x 0))))) (by kernel_rfl) ?_
    rw [show IntKind.i64.wrap (1099511627776 - (ac.getD x 0)) = 1099511627776 - (ac.getD x 0) from wrap_i64 (by omega) (by omega)]
    refine seg2 (ρ' := upd (upd (upd (upd (upd (updL ρ [(0, .pointer (some ⟨p, 0, none⟩)), (1, .int .i64 ((x : Nat) : Int)), (2, .int .i64 d), (6, .bool false), (7, .int .i64 (ac.getD x 0)), (11, .bool (noneB n ((x : Nat) : Int)))]) 29 (.int .i64 d)) 30 (.int .i64 (ac.getD x 0))) 31 (.int .i64 (1099511627776 - (ac.getD x 0)))) 32 (.bool (decide (d > 1099511627776 - (ac.getD x 0))))) 28 (.bool (decide (d > 1099511627776 - (ac.getD x 0))))) (by kernel_rfl) ?_
    refine op_nil ?_
    refine W_cond (decide (d > 1099511627776 - (ac.getD x 0))) (by kernel_rfl) (by kernel_rfl) (fun hc4 => ?_) (fun hc4 => ?_)
    · replace hc4 : 1099511627776 - (ac.getD x 0) < d := (of_decide_eq_true hc4)
      refine W_region (by kernel_rfl) ?_
      refine seg3 (ρ' := upd (upd (upd (upd (upd (upd (upd (upd (updL ρ [(0, .pointer (some ⟨p, 0, none⟩)), (1, .int .i64 ((x : Nat) : Int)), (2, .int .i64 d), (6, .bool false), (7, .int .i64 (ac.getD x 0)), (11, .bool (noneB n ((x : Nat) : Int)))]) 29 (.int .i64 d)) 30 (.int .i64 (ac.getD x 0))) 31 (.int .i64 (1099511627776 - (ac.getD x 0)))) 32 (.bool (decide (d > 1099511627776 - (ac.getD x 0))))) 28 (.bool (decide (d > 1099511627776 - (ac.getD x 0))))) 33 (.pointer (some ⟨p, 0, none⟩))) 34 (.pointer (some ⟨p, 0, none⟩))) 35 (.pointer (some ⟨p, 2, none⟩))) (by kernel_rfl) ?_
      refine st (by rfl) (S_val (v := .slice (some ⟨bac, 0, none⟩) n n) (R_load (v := .slice (some ⟨bac, 0, none⟩) n n) (by kernel_rfl) (by kernel_rfl) ((hP.cell 2).trans rfl)) ?_)
      refine seg1 (ρ' := upd (upd (upd (upd (upd (upd (upd (upd (upd (upd (updL ρ [(0, .pointer (some ⟨p, 0, none⟩)), (1, .int .i64 ((x : Nat) : Int)), (2, .int .i64 d), (6, .bool false), (7, .int .i64 (ac.getD x 0)), (11, .bool (noneB n ((x : Nat) : Int)))]) 29 (.int .i64 d)) 30 (.int .i64 (ac.getD x 0))) 31 (.int .i64 (1099511627776 - (ac.getD x 0)))) 32 (.bool (decide (d > 1099511627776 - (ac.getD x 0))))) 28 (.bool (decide (d > 1099511627776 - (ac.getD x 0))))) 33 (.pointer (some ⟨p, 0, none⟩))) 34 (.pointer (some ⟨p, 0, none⟩))) 35 (.pointer (some ⟨p, 2, none⟩))) 36 (.slice (some ⟨bac, 0, none⟩) n n)) 37 (.int .i64 ((x : Nat) : Int))) (by kernel_rfl) ?_
      refine stv (v := .pointer (some ⟨bac, x, none⟩)) (by rfl) (R_index0 (b := bac) (len := n) (cap := n) (k := .i64) (i := ((x : Nat) : Int)) (e := 3) x (by kernel_rfl) (by kernel_rfl) (by kernel_rfl) (by kernel_rfl) rfl (by first | omega | (simp only [List.length_set, List.length_map]; omega))) ?_
      refine st (by rfl) (S_store (b := bac) (j := x) (v := .int .i64 1099511627776) (by kernel_rfl) (by kernel_rfl) (by kernel_rfl) (by rfl) hC (by rw [ints_length]; first | omega | (simp only [List.length_set, List.length_map]; omega)) fun w5 hT6 hs7 hC' => ?_)
      have hP := hP.tch hT6 (fun e => by have : p = bac := e; omega)
      have hT := hT.tch hT6 (fun e => by have : bat = bac := e; omega)
      have hFt := Tch.trans hFt hT6 (fun _ _ e => e) (fun c hcl e => by cases e; exact fc)
      have hO := hO.tch hT6 (fun c e1 e2 => by cases e2; first | exact (hAF _ e1).1 rfl | exact (hAF _ e1).2.1 rfl | exact hO.blk_ne hP (by decide) _ e1 rfl)
      replace hC : Blk w5 (bac) 3 (ints .i64 (ac.set x 1099511627776)) := by rw [← ints_set]; exact hC'
      refine op_nil ?_
      refine W_seq ?_
      refine W_seq ?_
      refine W_fg [(0, .pointer (some ⟨p, 0, none⟩)), (1, .int .i64 ((x : Nat) : Int)), (2, .int .i64 d), (6, .bool false), (7, .int .i64 (ac.getD x 0)), (11, .bool (noneB n ((x : Nat) : Int))), (28, .bool (decide (d > 1099511627776 - (ac.getD x 0))))] (by kernel_rfl) fun ρ => ?_
      have hv9 : HeapP.bumpA (ac.getD x 0) d = 1099511627776 := by unfold HeapP.bumpA; first | (rw [if_pos (by omega)]; done) | (rw [if_neg (by omega)]; first | (rw [if_pos (by omega)]; done) | (rw [if_neg (by omega)]; done))
      have ha9 : okA (ac.set x (1099511627776)) := hac.set (by omega) (by omega) (by omega)
      refine W_region (by kernel_rfl) ?_
      refine seg3 (ρ' := upd (upd (upd (updL ρ [(0, .pointer (some ⟨p, 0, none⟩)), (1, .int .i64 ((x : Nat) : Int)), (2, .int .i64 d), (6, .bool false), (7, .int .i64 (ac.getD x 0)), (11, .bool (noneB n ((x : Nat) : Int))), (28, .bool (decide (d > 1099511627776 - (ac.getD x 0))))]) 50 (.pointer (some ⟨p, 0, none⟩))) 51 (.pointer (some ⟨p, 0, none⟩))) 52 (.pointer (some ⟨p, 1, none⟩))) (by kernel_rfl) ?_
      refine st (by rfl) (S_val (v := .slice (some ⟨bat, 0, none⟩) n n) (R_load (v := .slice (some ⟨bat, 0, none⟩) n n) (by kernel_rfl) (by kernel_rfl) ((hP.cell 1).trans rfl)) ?_)
      refine seg1 (ρ' := upd (upd (upd (upd (upd (updL ρ [(0, .pointer (some ⟨p, 0, none⟩)), (1, .int .i64 ((x : Nat) : Int)), (2, .int .i64 d), (6, .bool false), (7, .int .i64 (ac.getD x 0)), (11, .bool (noneB n ((x : Nat) : Int))), (28, .bool (decide (d > 1099511627776 - (ac.getD x 0))))]) 50 (.pointer (some ⟨p, 0, none⟩))) 51 (.pointer (some ⟨p, 0, none⟩))) 52 (.pointer (some ⟨p, 1, none⟩))) 53 (.slice (some ⟨bat, 0, none⟩) n n)) 54 (.int .i64 ((x : Nat) : Int))) (by kernel_rfl) ?_
      refine stv (v := .pointer (some ⟨bat, x, none⟩)) (by rfl) (R_index0 (b := bat) (len := n) (cap := n) (k := .i64) (i := ((x : Nat) : Int)) (e := 3) x (by kernel_rfl) (by kernel_rfl) (by kernel_rfl) (by kernel_rfl) rfl (by first | omega | (simp only [List.length_set, List.length_map]; omega))) ?_
      refine st (by rfl) (S_val (v := .int .i64 (at_.getD x 0)) (R_load (v := .int .i64 (at_.getD x 0)) (by kernel_rfl) (by kernel_rfl) ((hT.cell _).trans (ints_at .i64 _ (by first | omega | (simp only [List.length_set, List.length_map]; omega))))) ?_)
      refine seg1 (ρ' := upd (upd (upd (upd (upd (upd (upd (upd (updL ρ [(0, .pointer (some ⟨p, 0, none⟩)), (1, .int .i64 ((x : Nat) : Int)), (2, .int .i64 d), (6, .bool false), (7, .int .i64 (ac.getD x 0)), (11, .bool (noneB n ((x : Nat) : Int))), (28, .bool (decide (d > 1099511627776 - (ac.getD x 0))))]) 50 (.pointer (some ⟨p, 0, none⟩))) 51 (.pointer (some ⟨p, 0, none⟩))) 52 (.pointer (some ⟨p, 1, none⟩))) 53 (.slice (some ⟨bat, 0, none⟩) n n)) 54 (.int .i64 ((x : Nat) : Int))) 55 (.pointer (some ⟨bat, x, none⟩))) 56 (.int .i64 (at_.getD x 0))) 8 (.int .i64 (at_.getD x 0))) (by kernel_rfl) ?_
      refine op_nil ?_
      refine W_seq ?_
      refine W_fg [(0, .pointer (some ⟨p, 0, none⟩)), (1, .int .i64 ((x : Nat) : Int)), (2, .int .i64 d), (6, .bool false), (7, .int .i64 (ac.getD x 0)), (8, .int .i64 (at_.getD x 0)), (11, .bool (noneB n ((x : Nat) : Int))), (28, .bool (decide (d > 1099511627776 - (ac.getD x 0))))] (by kernel_rfl) fun ρ => ?_
      refine W_region (by kernel_rfl) ?_
      refine seg2 (ρ' := upd (upd (updL ρ [(0, .pointer (some ⟨p, 0, none⟩)), (1, .int .i64 ((x : Nat) : Int)), (2, .int .i64 d), (6, .bool false), (7, .int .i64 (ac.getD x 0)), (8, .int .i64 (at_.getD x 0)), (11, .bool (noneB n ((x : Nat) : Int))), (28, .bool (decide (d > 1099511627776 - (ac.getD x 0))))]) 57 (.int .i64 (at_.getD x 0))) 58 (.bool (decide (at_.getD x 0 ≥ 0)))) (by kernel_rfl) ?_
      refine op_nil ?_
      refine W_cond (decide (at_.getD x 0 ≥ 0)) (by kernel_rfl) (by kernel_rfl) (fun hc8 => ?_) (fun hc8 => ?_)
      · replace hc8 : 0 ≤ at_.getD x 0 := (of_decide_eq_true hc8)
        exfalso; omega
      · replace hc8 : at_.getD x 0 < 0 := (Int.not_le.1 (of_decide_eq_false hc8))
        refine W_skip ?_
        refine W_seq ?_
        refine W_region (by kernel_rfl) ?_
        refine seg1 (ρ' := upd (upd (upd (updL ρ [(0, .pointer (some ⟨p, 0, none⟩)), (1, .int .i64 ((x : Nat) : Int)), (2, .int .i64 d), (6, .bool false), (7, .int .i64 (ac.getD x 0)), (8, .int .i64 (at_.getD x 0)), (11, .bool (noneB n ((x : Nat) : Int))), (28, .bool (decide (d > 1099511627776 - (ac.getD x 0))))]) 57 (.int .i64 (at_.getD x 0))) 58 (.bool (decide (at_.getD x 0 ≥ 0)))) 6 (.bool true)) (by kernel_rfl) ?_
        refine op_nil ?_
        refine W_ret ?_
        refine ⟨_, Res_of (v := .bool true) (by kernel_rfl), ?_⟩
        rw [hv9]
        exact ⟨rfl, hp, ⟨A, cp, bat, bac, at_, hP, hO, hT, hC, hAF, n6, fp, ft, fc, fun b hb => Nat.lt_of_lt_of_le (hF b hb) hFt.size, la, by rw [List.length_set]; exact lc, hn, hlt, hat, ha9, HeapP.out_fine hfn (by omega) hxm _⟩, List.Perm.refl _, hFt⟩
    · replace hc4 : d ≤ 1099511627776 - (ac.getD x 0) := (Int.not_lt.1 (of_decide_eq_false hc4))
      refine W_seq ?_
      refine W_region (by kernel_rfl) ?_
      refine seg3 (ρ' := upd (upd (upd (upd (upd (upd (upd (upd (updL ρ [(0, .pointer (some ⟨p, 0, none⟩)), (1, .int .i64 ((x : Nat) : Int)), (2, .int .i64 d), (6, .bool false), (7, .int .i64 (ac.getD x 0)), (11, .bool (noneB n ((x : Nat) : Int)))]) 29 (.int .i64 d)) 30 (.int .i64 (ac.getD x 0))) 31 (.int .i64 (1099511627776 - (ac.getD x 0)))) 32 (.bool (decide (d > 1099511627776 - (ac.getD x 0))))) 28 (.bool (decide (d > 1099511627776 - (ac.getD x 0))))) 40 (.int .i64 d)) 41 (.int .i64 (ac.getD x 0))) 42 (.int .i64 (IntKind.i64.wrap (0 - (ac.getD x 0))))) (by kernel_rfl) ?_
      rw [show IntKind.i64.wrap (0 - (ac.getD x 0)) = 0 - (ac.getD x 0) from wrap_i64 (by omega) (by omega)]
      refine seg2 (ρ' := upd (upd (upd (upd (upd (upd (upd (upd (upd (upd (updL ρ [(0, .pointer (some ⟨p, 0, none⟩)), (1, .int .i64 ((x : Nat) : Int)), (2, .int .i64 d), (6, .bool false), (7, .int .i64 (ac.getD x 0)), (11, .bool (noneB n ((x : Nat) : Int)))]) 29 (.int .i64 d)) 30 (.int .i64 (ac.getD x 0))) 31 (.int .i64 (1099511627776 - (ac.getD x 0)))) 32 (.bool (decide (d > 1099511627776 - (ac.getD x 0))))) 28 (.bool (decide (d > 1099511627776 - (ac.getD x 0))))) 40 (.int .i64 d)) 41 (.int .i64 (ac.getD x 0))) 42 (.int .i64 (0 - (ac.getD x 0)))) 43 (.bool (decide (d < 0 - (ac.getD x 0))))) 39 (.bool (decide (d < 0 - (ac.getD x 0))))) (by kernel_rfl) ?_
      refine op_nil ?_
      refine W_cond (decide (d < 0 - (ac.getD x 0))) (by kernel_rfl) (by kernel_rfl) (fun hc9 => ?_) (fun hc9 => ?_)
      · replace hc9 : d < 0 - (ac.getD x 0) := (of_decide_eq_true hc9)
        refine W_fg [(0, .pointer (some ⟨p, 0, none⟩)), (1, .int .i64 ((x : Nat) : Int)), (2, .int .i64 d), (6, .bool false), (7, .int .i64 (ac.getD x 0)), (11, .bool (noneB n ((x : Nat) : Int))), (28, .bool (decide (d > 1099511627776 - (ac.getD x 0)))), (39, .bool (decide (d < 0 - (ac.getD x 0))))] (by kernel_rfl) fun ρ => ?_
        refine W_region (by kernel_rfl) ?_
        refine seg3 (ρ' := upd (upd (upd (updL ρ [(0, .pointer (some ⟨p, 0, none⟩)), (1, .int .i64 ((x : Nat) : Int)), (2, .int .i64 d), (6, .bool false), (7, .int .i64 (ac.getD x 0)), (11, .bool (noneB n ((x : Nat) : Int))), (28, .bool (decide (d > 1099511627776 - (ac.getD x 0)))), (39, .bool (decide (d < 0 - (ac.getD x 0))))]) 44 (.pointer (some ⟨p, 0, none⟩))) 45 (.pointer (some ⟨p, 0, none⟩))) 46 (.pointer (some ⟨p, 2, none⟩))) (by kernel_rfl) ?_
        refine st (by rfl) (S_val (v := .slice (some ⟨bac, 0, none⟩) n n) (R_load (v := .slice (some ⟨bac, 0, none⟩) n n) (by kernel_rfl) (by kernel_rfl) ((hP.cell 2).trans rfl)) ?_)
        refine seg1 (ρ' := upd (upd (upd (upd (upd (updL ρ [(0, .pointer (some ⟨p, 0, none⟩)), (1, .int .i64 ((x : Nat) : Int)), (2, .int .i64 d), (6, .bool false), (7, .int .i64 (ac.getD x 0)), (11, .bool (noneB n ((x : Nat) : Int))), (28, .bool (decide (d > 1099511627776 - (ac.getD x 0)))), (39, .bool (decide (d < 0 - (ac.getD x 0))))]) 44 (.pointer (some ⟨p, 0, none⟩))) 45 (.pointer (some ⟨p, 0, none⟩))) 46 (.pointer (some ⟨p, 2, none⟩))) 47 (.slice (some ⟨bac, 0, none⟩) n n)) 48 (.int .i64 ((x : Nat) : Int))) (by kernel_rfl) ?_
        refine stv (v := .pointer (some ⟨bac, x, none⟩)) (by rfl) (R_index0 (b := bac) (len := n) (cap := n) (k := .i64) (i := ((x : Nat) : Int)) (e := 3) x (by kernel_rfl) (by kernel_rfl) (by kernel_rfl) (by kernel_rfl) rfl (by first | omega | (simp only [List.length_set, List.length_map]; omega))) ?_
        refine st (by rfl) (S_store (b := bac) (j := x) (v := .int .i64 0) (by kernel_rfl) (by kernel_rfl) (by kernel_rfl) (by rfl) hC (by rw [ints_length]; first | omega | (simp only [List.length_set, List.length_map]; omega)) fun w10 hT11 hs12 hC' => ?_)
        have hP := hP.tch hT11 (fun e => by have : p = bac := e; omega)
        have hT := hT.tch hT11 (fun e => by have : bat = bac := e; omega)
        have hFt := Tch.trans hFt hT11 (fun _ _ e => e) (fun c hcl e => by cases e; exact fc)
        have hO := hO.tch hT11 (fun c e1 e2 => by cases e2; first | exact (hAF _ e1).1 rfl | exact (hAF _ e1).2.1 rfl | exact hO.blk_ne hP (by decide) _ e1 rfl)
        replace hC : Blk w10 (bac) 3 (ints .i64 (ac.set x 0)) := by rw [← ints_set]; exact hC'
        refine op_nil ?_
        refine W_seq ?_
        refine W_seq ?_
        have hv9 : HeapP.bumpA (ac.getD x 0) d = 0 := by unfold HeapP.bumpA; first | (rw [if_pos (by omega)]; done) | (rw [if_neg (by omega)]; first | (rw [if_pos (by omega)]; done) | (rw [if_neg (by omega)]; done))
        have ha9 : okA (ac.set x (0)) := hac.set (by omega) (by omega) (by omega)
        refine W_region (by kernel_rfl) ?_
        refine seg3 (ρ' := upd (upd (upd (upd (upd (upd (upd (upd (upd (updL ρ [(0, .pointer (some ⟨p, 0, none⟩)), (1, .int .i64 ((x : Nat) : Int)), (2, .int .i64 d), (6, .bool false), (7, .int .i64 (ac.getD x 0)), (11, .bool (noneB n ((x : Nat) : Int))), (28, .bool (decide (d > 1099511627776 - (ac.getD x 0)))), (39, .bool (decide (d < 0 - (ac.getD x 0))))]) 44 (.pointer (some ⟨p, 0, none⟩))) 45 (.pointer (some ⟨p, 0, none⟩))) 46 (.pointer (some ⟨p, 2, none⟩))) 47 (.slice (some ⟨bac, 0, none⟩) n n)) 48 (.int .i64 ((x : Nat) : Int))) 49 (.pointer (some ⟨bac, x, none⟩))) 50 (.pointer (some ⟨p, 0, none⟩))) 51 (.pointer (some ⟨p, 0, none⟩))) 52 (.pointer (some ⟨p, 1, none⟩))) (by kernel_rfl) ?_
        refine st (by rfl) (S_val (v := .slice (some ⟨bat, 0, none⟩) n n) (R_load (v := .slice (some ⟨bat, 0, none⟩) n n) (by kernel_rfl) (by kernel_rfl) ((hP.cell 1).trans rfl)) ?_)
        refine seg1 (ρ' := upd (upd (upd (upd (upd (upd (upd (upd (upd (upd (upd (updL ρ [(0, .pointer (some ⟨p, 0, none⟩)), (1, .int .i64 ((x : Nat) : Int)), (2, .int .i64 d), (6, .bool false), (7, .int .i64 (ac.getD x 0)), (11, .bool (noneB n ((x : Nat) : Int))), (28, .bool (decide (d > 1099511627776 - (ac.getD x 0)))), (39, .bool (decide (d < 0 - (ac.getD x 0))))]) 44 (.pointer (some ⟨p, 0, none⟩))) 45 (.pointer (some ⟨p, 0, none⟩))) 46 (.pointer (some ⟨p, 2, none⟩))) 47 (.slice (some ⟨bac, 0, none⟩) n n)) 48 (.int .i64 ((x : Nat) : Int))) 49 (.pointer (some ⟨bac, x, none⟩))) 50 (.pointer (some ⟨p, 0, none⟩))) 51 (.pointer (some ⟨p, 0, none⟩))) 52 (.pointer (some ⟨p, 1, none⟩))) 53 (.slice (some ⟨bat, 0, none⟩) n n)) 54 (.int .i64 ((x : Nat) : Int))) (by kernel_rfl) ?_
        refine stv (v := .pointer (some ⟨bat, x, none⟩)) (by rfl) (R_index0 (b := bat) (len := n) (cap := n) (k := .i64) (i := ((x : Nat) : Int)) (e := 3) x (by kernel_rfl) (by kernel_rfl) (by kernel_rfl) (by kernel_rfl) rfl (by first | omega | (simp only [List.length_set, List.length_map]; omega))) ?_
        refine st (by rfl) (S_val (v := .int .i64 (at_.getD x 0)) (R_load (v := .int .i64 (at_.getD x 0)) (by kernel_rfl) (by kernel_rfl) ((hT.cell _).trans (ints_at .i64 _ (by first | omega | (simp only [List.length_set, List.length_map]; omega))))) ?_)
        refine seg1 (ρ' := upd (upd (upd (upd (upd (upd (upd (upd (upd (upd (upd (upd (upd (upd (updL ρ [(0, .pointer (some ⟨p, 0, none⟩)), (1, .int .i64 ((x : Nat) : Int)), (2, .int .i64 d), (6, .bool false), (7, .int .i64 (ac.getD x 0)), (11, .bool (noneB n ((x : Nat) : Int))), (28, .bool (decide (d > 1099511627776 - (ac.getD x 0)))), (39, .bool (decide (d < 0 - (ac.getD x 0))))]) 44 (.pointer (some ⟨p, 0, none⟩))) 45 (.pointer (some ⟨p, 0, none⟩))) 46 (.pointer (some ⟨p, 2, none⟩))) 47 (.slice (some ⟨bac, 0, none⟩) n n)) 48 (.int .i64 ((x : Nat) : Int))) 49 (.pointer (some ⟨bac, x, none⟩))) 50 (.pointer (some ⟨p, 0, none⟩))) 51 (.pointer (some ⟨p, 0, none⟩))) 52 (.pointer (some ⟨p, 1, none⟩))) 53 (.slice (some ⟨bat, 0, none⟩) n n)) 54 (.int .i64 ((x : Nat) : Int))) 55 (.pointer (some ⟨bat, x, none⟩))) 56 (.int .i64 (at_.getD x 0))) 8 (.int .i64 (at_.getD x 0))) (by kernel_rfl) ?_
        refine op_nil ?_
        refine W_seq ?_
        refine W_fg [(0, .pointer (some ⟨p, 0, none⟩)), (1, .int .i64 ((x : Nat) : Int)), (2, .int .i64 d), (6, .bool false), (7, .int .i64 (ac.getD x 0)), (8, .int .i64 (at_.getD x 0)), (11, .bool (noneB n ((x : Nat) : Int))), (28, .bool (decide (d > 1099511627776 - (ac.getD x 0)))), (39, .bool (decide (d < 0 - (ac.getD x 0))))] (by kernel_rfl) fun ρ => ?_
        refine W_region (by kernel_rfl) ?_
        refine seg2 (ρ' := upd (upd (updL ρ [(0, .pointer (some ⟨p, 0, none⟩)), (1, .int .i64 ((x : Nat) : Int)), (2, .int .i64 d), (6, .bool false), (7, .int .i64 (ac.getD x 0)), (8, .int .i64 (at_.getD x 0)), (11, .bool (noneB n ((x : Nat) : Int))), (28, .bool (decide (d > 1099511627776 - (ac.getD x 0)))), (39, .bool (decide (d < 0 - (ac.getD x 0))))]) 57 (.int .i64 (at_.getD x 0))) 58 (.bool (decide (at_.getD x 0 ≥ 0)))) (by kernel_rfl) ?_
        refine op_nil ?_
        refine W_cond (decide (at_.getD x 0 ≥ 0)) (by kernel_rfl) (by kernel_rfl) (fun hc13 => ?_) (fun hc13 => ?_)
        · replace hc13 : 0 ≤ at_.getD x 0 := (of_decide_eq_true hc13)
          exfalso; omega
        · replace hc13 : at_.getD x 0 < 0 := (Int.not_le.1 (of_decide_eq_false hc13))
          refine W_skip ?_
          refine W_seq ?_
          refine W_region (by kernel_rfl) ?_
          refine seg1 (ρ' := upd (upd (upd (updL ρ [(0, .pointer (some ⟨p, 0, none⟩)), (1, .int .i64 ((x : Nat) : Int)), (2, .int .i64 d), (6, .bool false), (7, .int .i64 (ac.getD x 0)), (8, .int .i64 (at_.getD x 0)), (11, .bool (noneB n ((x : Nat) : Int))), (28, .bool (decide (d > 1099511627776 - (ac.getD x 0)))), (39, .bool (decide (d < 0 - (ac.getD x 0))))]) 57 (.int .i64 (at_.getD x 0))) 58 (.bool (decide (at_.getD x 0 ≥ 0)))) 6 (.bool true)) (by kernel_rfl) ?_
          refine op_nil ?_
          refine W_ret ?_
          refine ⟨_, Res_of (v := .bool true) (by kernel_rfl), ?_⟩
          rw [hv9]
          exact ⟨rfl, hp, ⟨A, cp, bat, bac, at_, hP, hO, hT, hC, hAF, n6, fp, ft, fc, fun b hb => Nat.lt_of_lt_of_le (hF b hb) hFt.size, la, by rw [List.length_set]; exact lc, hn, hlt, hat, ha9, HeapP.out_fine hfn (by omega) hxm _⟩, List.Perm.refl _, hFt⟩
      · replace hc9 : 0 - (ac.getD x 0) ≤ d := (Int.not_lt.1 (of_decide_eq_false hc9))
        refine W_fg [(0, .pointer (some ⟨p, 0, none⟩)), (1, .int .i64 ((x : Nat) : Int)), (2, .int .i64 d), (6, .bool false), (7, .int .i64 (ac.getD x 0)), (11, .bool (noneB n ((x : Nat) : Int))), (28, .bool (decide (d > 1099511627776 - (ac.getD x 0)))), (39, .bool (decide (d < 0 - (ac.getD x 0))))] (by kernel_rfl) fun ρ => ?_
        refine W_region (by kernel_rfl) ?_
        refine seg3 (ρ' := upd (upd (upd (updL ρ [(0, .pointer (some ⟨p, 0, none⟩)), (1, .int .i64 ((x : Nat) : Int)), (2, .int .i64 d), (6, .bool false), (7, .int .i64 (ac.getD x 0)), (11, .bool (noneB n ((x : Nat) : Int))), (28, .bool (decide (d > 1099511627776 - (ac.getD x 0)))), (39, .bool (decide (d < 0 - (ac.getD x 0))))]) 19 (.pointer (some ⟨p, 0, none⟩))) 20 (.pointer (some ⟨p, 0, none⟩))) 21 (.pointer (some ⟨p, 2, none⟩))) (by kernel_rfl) ?_
        refine st (by rfl) (S_val (v := .slice (some ⟨bac, 0, none⟩) n n) (R_load (v := .slice (some ⟨bac, 0, none⟩) n n) (by kernel_rfl) (by kernel_rfl) ((hP.cell 2).trans rfl)) ?_)
        refine seg4 (ρ' := upd (upd (upd (upd (upd (upd (upd (upd (updL ρ [(0, .pointer (some ⟨p, 0, none⟩)), (1, .int .i64 ((x : Nat) : Int)), (2, .int .i64 d), (6, .bool false), (7, .int .i64 (ac.getD x 0)), (11, .bool (noneB n ((x : Nat) : Int))), (28, .bool (decide (d > 1099511627776 - (ac.getD x 0)))), (39, .bool (decide (d < 0 - (ac.getD x 0))))]) 19 (.pointer (some ⟨p, 0, none⟩))) 20 (.pointer (some ⟨p, 0, none⟩))) 21 (.pointer (some ⟨p, 2, none⟩))) 22 (.slice (some ⟨bac, 0, none⟩) n n)) 23 (.int .i64 ((x : Nat) : Int))) 24 (.int .i64 (ac.getD x 0))) 25 (.int .i64 d)) 26 (.int .i64 (IntKind.i64.wrap ((ac.getD x 0) + d)))) (by kernel_rfl) ?_
        rw [show IntKind.i64.wrap ((ac.getD x 0) + d) = (ac.getD x 0) + d from wrap_i64 (by omega) (by omega)]
        refine stv (v := .pointer (some ⟨bac, x, none⟩)) (by rfl) (R_index0 (b := bac) (len := n) (cap := n) (k := .i64) (i := ((x : Nat) : Int)) (e := 3) x (by kernel_rfl) (by kernel_rfl) (by kernel_rfl) (by kernel_rfl) rfl (by first | omega | (simp only [List.length_set, List.length_map]; omega))) ?_
        refine st (by rfl) (S_store (b := bac) (j := x) (v := .int .i64 ((ac.getD x 0) + d)) (by kernel_rfl) (by kernel_rfl) (by kernel_rfl) (by rfl) hC (by rw [ints_length]; first | omega | (simp only [List.length_set, List.length_map]; omega)) fun w14 hT15 hs16 hC' => ?_)
        have hP := hP.tch hT15 (fun e => by have : p = bac := e; omega)
        have hT := hT.tch hT15 (fun e => by have : bat = bac := e; omega)
        have hFt := Tch.trans hFt hT15 (fun _ _ e => e) (fun c hcl e => by cases e; exact fc)
        have hO := hO.tch hT15 (fun c e1 e2 => by cases e2; first | exact (hAF _ e1).1 rfl | exact (hAF _ e1).2.1 rfl | exact hO.blk_ne hP (by decide) _ e1 rfl)
        replace hC : Blk w14 (bac) 3 (ints .i64 (ac.set x ((ac.getD x 0) + d))) := by rw [← ints_set]; exact hC'
        refine op_nil ?_
        refine W_seq ?_
        refine W_seq ?_
        refine W_fg [(0, .pointer (some ⟨p, 0, none⟩)), (1, .int .i64 ((x : Nat) : Int)), (2, .int .i64 d), (6, .bool false), (7, .int .i64 (ac.getD x 0)), (11, .bool (noneB n ((x : Nat) : Int))), (28, .bool (decide (d > 1099511627776 - (ac.getD x 0)))), (39, .bool (decide (d < 0 - (ac.getD x 0))))] (by kernel_rfl) fun ρ => ?_
        have hv9 : HeapP.bumpA (ac.getD x 0) d = ((ac.getD x 0) + d) := by unfold HeapP.bumpA; first | (rw [if_pos (by omega)]; done) | (rw [if_neg (by omega)]; first | (rw [if_pos (by omega)]; done) | (rw [if_neg (by omega)]; done))
        have ha9 : okA (ac.set x (((ac.getD x 0) + d))) := hac.set (by omega) (by omega) (by omega)
        refine W_region (by kernel_rfl) ?_
        refine seg3 (ρ' := upd (upd (upd (updL ρ [(0, .pointer (some ⟨p, 0, none⟩)), (1, .int .i64 ((x : Nat) : Int)), (2, .int .i64 d), (6, .bool false), (7, .int .i64 (ac.getD x 0)), (11, .bool (noneB n ((x : Nat) : Int))), (28, .bool (decide (d > 1099511627776 - (ac.getD x 0)))), (39, .bool (decide (d < 0 - (ac.getD x 0))))]) 50 (.pointer (some ⟨p, 0, none⟩))) 51 (.pointer (some ⟨p, 0, none⟩))) 52 (.pointer (some ⟨p, 1, none⟩))) (by kernel_rfl) ?_
        refine st (by rfl) (S_val (v := .slice (some ⟨bat, 0, none⟩) n n) (R_load (v := .slice (some ⟨bat, 0, none⟩) n n) (by kernel_rfl) (by kernel_rfl) ((hP.cell 1).trans rfl)) ?_)
        refine seg1 (ρ' := upd (upd (upd (upd (upd (updL ρ [(0, .pointer (some ⟨p, 0, none⟩)), (1, .int .i64 ((x : Nat) : Int)), (2, .int .i64 d), (6, .bool false), (7, .int .i64 (ac.getD x 0)), (11, .bool (noneB n ((x : Nat) : Int))), (28, .bool (decide (d > 1099511627776 - (ac.getD x 0)))), (39, .bool (decide (d < 0 - (ac.getD x 0))))]) 50 (.pointer (some ⟨p, 0, none⟩))) 51 (.pointer (some ⟨p, 0, none⟩))) 52 (.pointer (some ⟨p, 1, none⟩))) 53 (.slice (some ⟨bat, 0, none⟩) n n)) 54 (.int .i64 ((x : Nat) : Int))) (by kernel_rfl) ?_
        refine stv (v := .pointer (some ⟨bat, x, none⟩)) (by rfl) (R_index0 (b := bat) (len := n) (cap := n) (k := .i64) (i := ((x : Nat) : Int)) (e := 3) x (by kernel_rfl) (by kernel_rfl) (by kernel_rfl) (by kernel_rfl) rfl (by first | omega | (simp only [List.length_set, List.length_map]; omega))) ?_
        refine st (by rfl) (S_val (v := .int .i64 (at_.getD x 0)) (R_load (v := .int .i64 (at_.getD x 0)) (by kernel_rfl) (by kernel_rfl) ((hT.cell _).trans (ints_at .i64 _ (by first | omega | (simp only [List.length_set, List.length_map]; omega))))) ?_)
        refine seg1 (ρ' := upd (upd (upd (upd (upd (upd (upd (upd (updL ρ [(0, .pointer (some ⟨p, 0, none⟩)), (1, .int .i64 ((x : Nat) : Int)), (2, .int .i64 d), (6, .bool false), (7, .int .i64 (ac.getD x 0)), (11, .bool (noneB n ((x : Nat) : Int))), (28, .bool (decide (d > 1099511627776 - (ac.getD x 0)))), (39, .bool (decide (d < 0 - (ac.getD x 0))))]) 50 (.pointer (some ⟨p, 0, none⟩))) 51 (.pointer (some ⟨p, 0, none⟩))) 52 (.pointer (some ⟨p, 1, none⟩))) 53 (.slice (some ⟨bat, 0, none⟩) n n)) 54 (.int .i64 ((x : Nat) : Int))) 55 (.pointer (some ⟨bat, x, none⟩))) 56 (.int .i64 (at_.getD x 0))) 8 (.int .i64 (at_.getD x 0))) (by kernel_rfl) ?_
        refine op_nil ?_
        refine W_seq ?_
        refine W_fg [(0, .pointer (some ⟨p, 0, none⟩)), (1, .int .i64 ((x : Nat) : Int)), (2, .int .i64 d), (6, .bool false), (7, .int .i64 (ac.getD x 0)), (8, .int .i64 (at_.getD x 0)), (11, .bool (noneB n ((x : Nat) : Int))), (28, .bool (decide (d > 1099511627776 - (ac.getD x 0)))), (39, .bool (decide (d < 0 - (ac.getD x 0))))] (by kernel_rfl) fun ρ => ?_
        refine W_region (by kernel_rfl) ?_
        refine seg2 (ρ' := upd (upd (updL ρ [(0, .pointer (some ⟨p, 0, none⟩)), (1, .int .i64 ((x : Nat) : Int)), (2, .int .i64 d), (6, .bool false), (7, .int .i64 (ac.getD x 0)), (8, .int .i64 (at_.getD x 0)), (11, .bool (noneB n ((x : Nat) : Int))), (28, .bool (decide (d > 1099511627776 - (ac.getD x 0)))), (39, .bool (decide (d < 0 - (ac.getD x 0))))]) 57 (.int .i64 (at_.getD x 0))) 58 (.bool (decide (at_.getD x 0 ≥ 0)))) (by kernel_rfl) ?_
        refine op_nil ?_
        refine W_cond (decide (at_.getD x 0 ≥ 0)) (by kernel_rfl) (by kernel_rfl) (fun hc17 => ?_) (fun hc17 => ?_)
        · replace hc17 : 0 ≤ at_.getD x 0 := (of_decide_eq_true hc17)
          exfalso; omega
        · replace hc17 : at_.getD x 0 < 0 := (Int.not_le.1 (of_decide_eq_false hc17))
          refine W_skip ?_
          refine W_seq ?_
          refine W_region (by kernel_rfl) ?_
          refine seg1 (ρ' := upd (upd (upd (updL ρ [(0, .pointer (some ⟨p, 0, none⟩)), (1, .int .i64 ((x : Nat) : Int)), (2, .int .i64 d), (6, .bool false), (7, .int .i64 (ac.getD x 0)), (8, .int .i64 (at_.getD x 0)), (11, .bool (noneB n ((x : Nat) : Int))), (28, .bool (decide (d > 1099511627776 - (ac.getD x 0)))), (39, .bool (decide (d < 0 - (ac.getD x 0))))]) 57 (.int .i64 (at_.getD x 0))) 58 (.bool (decide (at_.getD x 0 ≥ 0)))) 6 (.bool true)) (by kernel_rfl) ?_
          refine op_nil ?_
          refine W_ret ?_
          refine ⟨_, Res_of (v := .bool true) (by kernel_rfl), ?_⟩
          rw [hv9]
          exact ⟨rfl, hp, ⟨A, cp, bat, bac, at_, hP, hO, hT, hC, hAF, n6, fp, ft, fc, fun b hb => Nat.lt_of_lt_of_le (hF b hb) hFt.size, la, by rw [List.length_set]; exact lc, hn, hlt, hat, ha9, HeapP.out_fine hfn (by omega) hxm _⟩, List.Perm.refl _, hFt⟩

set_option maxRecDepth 100000 in
theorem bump_no (F : Nat → Prop) (p n : Nat) (hp : List Nat) (ac : List Int) (v d : Int) (w : World) (h : Ord F w p n hp ac) (hx : v < 0 ∨ (n : Int) ≤ v) : Ret Try.prog 27 [.pointer (some ⟨p, 0, none⟩), .int .i64 v, .int .i64 d] w fun x w' => x = .bool false ∧ Tch N0 w w' := by
  obtain ⟨A, cp, bat, bac, at_, hP, hO, hT, hC, hAF, n6, fp, ft, fc, hF, la, lc, hn, hlt, hat, hac, hfn⟩ := h
  have n2 : p ≠ bat := hP.ne hT (by decide)
  have n3 : p ≠ bac := hP.ne hC (by decide)
  have hm := HeapP.nodup_le n hp hat.nodup hlt
  refine enter Try.func27 rfl rfl ?_
  refine W_seq ?_
  refine W_region (by kernel_rfl) ?_
  refine seg1 (ρ' := upd (ini [.pointer (some ⟨p, 0, none⟩), .int .i64 v, .int .i64 d]) 6 (.bool false)) (by kernel_rfl) ?_
  refine op_nil ?_
  refine W_seq ?_
  refine W_seq ?_
  refine W_region (by kernel_rfl) ?_
  refine seg2 (ρ' := upd (upd (upd (ini [.pointer (some ⟨p, 0, none⟩), .int .i64 v, .int .i64 d]) 6 (.bool false)) 9 (.pointer (some ⟨p, 0, none⟩))) 10 (.int .i64 v)) (by kernel_rfl) ?_
  refine st (by rfl) (S_call (args := [.pointer (some ⟨p, 0, none⟩), .int .i64 v]) (by kernel_rfl) (none_ok p bat n (.slice A hp.length cp) (.slice (some ⟨bac, 0, none⟩) n n) v _ hP) ?_)
  rintro _ w1 ⟨rfl, hT2⟩
  have hT0 := hT2
  have hP := hP.tch0 hT2
  have hT := hT.tch0 hT2
  have hC := hC.tch0 hT2
  refine op_nil ?_
  refine W_cond (noneB n v) (by kernel_rfl) (by kernel_rfl) (fun hc3 => ?_) (fun hc3 => ?_)
  · replace hc3 : v < 0 ∨ (n : Int) ≤ v := (noneB_t hc3)
    refine W_seq ?_
    refine W_region (by kernel_rfl) ?_
    refine seg1 (ρ' := upd (upd (upd (upd (upd (ini [.pointer (some ⟨p, 0, none⟩), .int .i64 v, .int .i64 d]) 6 (.bool false)) 9 (.pointer (some ⟨p, 0, none⟩))) 10 (.int .i64 v)) 11 (.bool (noneB n v))) 6 (.bool false)) (by kernel_rfl) ?_
    refine op_nil ?_
    refine W_ret ?_
    exact ⟨_, Res_of (v := .bool false) (by kernel_rfl), ⟨rfl, hT0⟩⟩
  · replace hc3 : 0 ≤ v ∧ v < (n : Int) := (noneB_f hc3)
    exfalso; omega

set_option maxRecDepth 100000 in
theorem bump_nil (v d : Int) (w : World) : Ret Try.prog 27 [.pointer none, .int .i64 v, .int .i64 d] w fun x w' => x = .bool false ∧ Tch N0 w w' := by
  refine enter Try.func27 rfl rfl ?_
  refine W_seq ?_
  refine W_region (by kernel_rfl) ?_
  refine seg1 (ρ' := upd (ini [.pointer none, .int .i64 v, .int .i64 d]) 6 (.bool false)) (by kernel_rfl) ?_
  refine op_nil ?_
  refine W_seq ?_
  refine W_seq ?_
  refine W_region (by kernel_rfl) ?_
  refine seg2 (ρ' := upd (upd (upd (ini [.pointer none, .int .i64 v, .int .i64 d]) 6 (.bool false)) 9 (.pointer none)) 10 (.int .i64 v)) (by kernel_rfl) ?_
  refine st (by rfl) (S_call (args := [.pointer none, .int .i64 v]) (by kernel_rfl) (none_nil v _) ?_)
  rintro _ w1 ⟨rfl, hT2⟩
  have hT0 := hT2
  refine op_nil ?_
  refine W_cond true (by kernel_rfl) (by kernel_rfl) (fun _ => ?_) (fun h => nomatch h)
  refine W_seq ?_
  refine W_region (by kernel_rfl) ?_
  refine seg1 (ρ' := upd (upd (upd (upd (upd (ini [.pointer none, .int .i64 v, .int .i64 d]) 6 (.bool false)) 9 (.pointer none)) 10 (.int .i64 v)) 11 (.bool true)) 6 (.bool false)) (by kernel_rfl) ?_
  refine op_nil ?_
  refine W_ret ?_
  exact ⟨_, Res_of (v := .bool false) (by kernel_rfl), ⟨rfl, hT0⟩⟩

end Go.Proofs.YthfjceemphhgcaaV
