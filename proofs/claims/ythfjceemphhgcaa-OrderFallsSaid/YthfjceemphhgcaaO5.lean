/- Walks of functions of the program and of the document's texts: each call returns what the plain function says, and turns nothing that lay. The conditions stand with each theorem. -/
import Derived.Test.YthfjceemphhgcaaProg
import Derived.Test.YthfjceemphhgcaaVx2
import Derived.Test.YthfjceemphhgcaaO4
set_option linter.unusedVariables false
set_option linter.unusedSimpArgs false
namespace Go.Proofs.YthfjceemphhgcaaV
open Go Go.RowKit Go.Proofs

set_option maxRecDepth 100000 in
theorem pop_yes (F : Nat → Prop) (p n : Nat) (hp : List Nat) (ac : List Int) (w : World) (h : Ord F w p n hp ac) (h0 : 0 < hp.length) : Ret Try.prog 24 [.pointer (some ⟨p, 0, none⟩)] w fun v w' => v = .tuple #[.int .i64 ((hp.getD 0 0 : Nat) : Int), .bool true] ∧ ∃ hp', Ord F w' p n hp' ac ∧ (hp.getD 0 0 :: hp').Perm hp ∧ Tch F w w' := by
  obtain ⟨g, cp, bat, bac, sp, at_, ho, hq, hl2, hcp, fp, fg, ft, fc, hF, hac, hfn⟩ := h.to_obj h0
  have hF0 := hF
  obtain ⟨hP, hH, hT, hC⟩ := ho
  have hq0 := hq
  obtain ⟨⟨n1, n2, n3, n4, n5, n6⟩, la, lc, hn, hm, hlt, hat⟩ := hq
  have hcl : hp.length ≤ cp := by rw [← hl2, List.length_append, nats_length]; omega
  have hFt : Tch F w w := Tch.refl _ _
  have hq := hq0
  have hx0 := getD_lt hlt h0
  refine enter Try.func24 rfl rfl ?_
  refine W_seq ?_
  refine W_region (by kernel_rfl) ?_
  refine seg2 (ρ' := upd (upd (ini [.pointer (some ⟨p, 0, none⟩)]) 2 (.int .i64 0)) 3 (.bool false)) (by kernel_rfl) ?_
  refine op_nil ?_
  refine W_seq ?_
  refine W_seq ?_
  refine W_region (by kernel_rfl) ?_
  refine seg6 (ρ' := upd (upd (upd (upd (upd (upd (upd (upd (ini [.pointer (some ⟨p, 0, none⟩)]) 2 (.int .i64 0)) 3 (.bool false)) 6 (.pointer (some ⟨p, 0, none⟩))) 7 (.bool false)) 8 (.bool false)) 9 (.pointer (some ⟨p, 0, none⟩))) 10 (.pointer (some ⟨p, 0, none⟩))) 11 (.pointer (some ⟨p, 0, none⟩))) (by kernel_rfl) ?_
  refine st (by kernel_rfl) (S_val (v := .slice (some ⟨g, 0, none⟩) hp.length cp) (R_load (v := .slice (some ⟨g, 0, none⟩) hp.length cp) (by kernel_rfl) (by kernel_rfl) ((hP.cell 0).trans rfl)) ?_)
  refine seg3 (ρ' := upd (upd (upd (upd (upd (upd (upd (upd (upd (upd (upd (upd (ini [.pointer (some ⟨p, 0, none⟩)]) 2 (.int .i64 0)) 3 (.bool false)) 6 (.pointer (some ⟨p, 0, none⟩))) 7 (.bool false)) 8 (.bool false)) 9 (.pointer (some ⟨p, 0, none⟩))) 10 (.pointer (some ⟨p, 0, none⟩))) 11 (.pointer (some ⟨p, 0, none⟩))) 12 (.slice (some ⟨g, 0, none⟩) hp.length cp)) 13 (.int .i64 (hp.length : Int))) 14 (.bool ((hp.length : Int) == 0))) 15 (.bool ((hp.length : Int) == 0))) (by kernel_rfl) ?_
  refine op_nil ?_
  refine W_cond ((hp.length : Int) == 0) (by kernel_rfl) (by kernel_rfl) (fun hc1 => ?_) (fun hc1 => ?_)
  · replace hc1 : (hp.length : Int) = 0 := (eq_of_beq hc1)
    exfalso; omega
  · replace hc1 : (hp.length : Int) ≠ 0 := (ne_of_beq_false hc1)
    refine W_skip ?_
    refine W_seq ?_
    refine W_fg [(0, .pointer (some ⟨p, 0, none⟩)), (2, .int .i64 0), (3, .bool false), (15, .bool ((hp.length : Int) == 0))] (by kernel_rfl) fun ρ => ?_
    refine W_region (by kernel_rfl) ?_
    refine seg3 (ρ' := upd (upd (upd (updL ρ [(0, .pointer (some ⟨p, 0, none⟩)), (2, .int .i64 0), (3, .bool false), (15, .bool ((hp.length : Int) == 0))]) 16 (.pointer (some ⟨p, 0, none⟩))) 17 (.pointer (some ⟨p, 0, none⟩))) 18 (.pointer (some ⟨p, 0, none⟩))) (by kernel_rfl) ?_
    refine st (by rfl) (S_val (v := .slice (some ⟨g, 0, none⟩) hp.length cp) (R_load (v := .slice (some ⟨g, 0, none⟩) hp.length cp) (by kernel_rfl) (by kernel_rfl) ((hP.cell 0).trans rfl)) ?_)
    refine stv (v := .pointer (some ⟨g, 0, none⟩)) (by rfl) (R_index0 (b := g) (len := hp.length) (cap := cp) (k := .i64) (i := 0) (e := 3) 0 (by kernel_rfl) (by kernel_rfl) (by kernel_rfl) (by kernel_rfl) rfl (by first | omega | (simp only [List.length_set, List.length_map]; omega))) ?_
    refine st (by rfl) (S_val (v := .int .i64 ((hp.getD 0 0 : Nat) : Int)) (R_load (v := .int .i64 ((hp.getD 0 0 : Nat) : Int)) (by kernel_rfl) (by kernel_rfl) ((hH.cell _).trans (nats_atP (by first | omega | (simp only [List.length_set, List.length_map]; omega))))) ?_)
    refine seg1 (ρ' := upd (upd (upd (upd (upd (upd (upd (updL ρ [(0, .pointer (some ⟨p, 0, none⟩)), (2, .int .i64 0), (3, .bool false), (15, .bool ((hp.length : Int) == 0))]) 16 (.pointer (some ⟨p, 0, none⟩))) 17 (.pointer (some ⟨p, 0, none⟩))) 18 (.pointer (some ⟨p, 0, none⟩))) 19 (.slice (some ⟨g, 0, none⟩) hp.length cp)) 20 (.pointer (some ⟨g, 0, none⟩))) 21 (.int .i64 ((hp.getD 0 0 : Nat) : Int))) 4 (.int .i64 ((hp.getD 0 0 : Nat) : Int))) (by kernel_rfl) ?_
    refine op_nil ?_
    refine W_seq ?_
    refine W_region (by kernel_rfl) ?_
    refine seg3 (ρ' := upd (upd (upd (upd (upd (upd (upd (upd (upd (upd (updL ρ [(0, .pointer (some ⟨p, 0, none⟩)), (2, .int .i64 0), (3, .bool false), (15, .bool ((hp.length : Int) == 0))]) 16 (.pointer (some ⟨p, 0, none⟩))) 17 (.pointer (some ⟨p, 0, none⟩))) 18 (.pointer (some ⟨p, 0, none⟩))) 19 (.slice (some ⟨g, 0, none⟩) hp.length cp)) 20 (.pointer (some ⟨g, 0, none⟩))) 21 (.int .i64 ((hp.getD 0 0 : Nat) : Int))) 4 (.int .i64 ((hp.getD 0 0 : Nat) : Int))) 22 (.pointer (some ⟨p, 0, none⟩))) 23 (.pointer (some ⟨p, 0, none⟩))) 24 (.pointer (some ⟨p, 0, none⟩))) (by kernel_rfl) ?_
    refine st (by rfl) (S_val (v := .slice (some ⟨g, 0, none⟩) hp.length cp) (R_load (v := .slice (some ⟨g, 0, none⟩) hp.length cp) (by kernel_rfl) (by kernel_rfl) ((hP.cell 0).trans rfl)) ?_)
    refine seg2 (ρ' := upd (upd (upd (upd (upd (upd (upd (upd (upd (upd (upd (upd (upd (updL ρ [(0, .pointer (some ⟨p, 0, none⟩)), (2, .int .i64 0), (3, .bool false), (15, .bool ((hp.length : Int) == 0))]) 16 (.pointer (some ⟨p, 0, none⟩))) 17 (.pointer (some ⟨p, 0, none⟩))) 18 (.pointer (some ⟨p, 0, none⟩))) 19 (.slice (some ⟨g, 0, none⟩) hp.length cp)) 20 (.pointer (some ⟨g, 0, none⟩))) 21 (.int .i64 ((hp.getD 0 0 : Nat) : Int))) 4 (.int .i64 ((hp.getD 0 0 : Nat) : Int))) 22 (.pointer (some ⟨p, 0, none⟩))) 23 (.pointer (some ⟨p, 0, none⟩))) 24 (.pointer (some ⟨p, 0, none⟩))) 25 (.slice (some ⟨g, 0, none⟩) hp.length cp)) 26 (.int .i64 (hp.length : Int))) 27 (.int .i64 (IntKind.i64.wrap ((hp.length : Int) - 1)))) (by kernel_rfl) ?_
    rw [show IntKind.i64.wrap ((hp.length : Int) - 1) = (hp.length : Int) - 1 from wrap_i64 (by omega) (by omega)]
    rw [show upd (upd (upd (upd (upd (upd (upd (upd (upd (upd (upd (upd (upd (updL ρ [(0, .pointer (some ⟨p, 0, none⟩)), (2, .int .i64 0), (3, .bool false), (15, .bool ((hp.length : Int) == 0))]) 16 (.pointer (some ⟨p, 0, none⟩))) 17 (.pointer (some ⟨p, 0, none⟩))) 18 (.pointer (some ⟨p, 0, none⟩))) 19 (.slice (some ⟨g, 0, none⟩) hp.length cp)) 20 (.pointer (some ⟨g, 0, none⟩))) 21 (.int .i64 ((hp.getD 0 0 : Nat) : Int))) 4 (.int .i64 ((hp.getD 0 0 : Nat) : Int))) 22 (.pointer (some ⟨p, 0, none⟩))) 23 (.pointer (some ⟨p, 0, none⟩))) 24 (.pointer (some ⟨p, 0, none⟩))) 25 (.slice (some ⟨g, 0, none⟩) hp.length cp)) 26 (.int .i64 (hp.length : Int))) 27 (.int .i64 ((hp.length : Int) - 1)) = upd (upd (upd (upd (upd (upd (upd (upd (upd (upd (upd (upd (upd (updL ρ [(0, .pointer (some ⟨p, 0, none⟩)), (2, .int .i64 0), (3, .bool false), (15, .bool ((hp.length : Int) == 0))]) 16 (.pointer (some ⟨p, 0, none⟩))) 17 (.pointer (some ⟨p, 0, none⟩))) 18 (.pointer (some ⟨p, 0, none⟩))) 19 (.slice (some ⟨g, 0, none⟩) hp.length cp)) 20 (.pointer (some ⟨g, 0, none⟩))) 21 (.int .i64 ((hp.getD 0 0 : Nat) : Int))) 4 (.int .i64 ((hp.getD 0 0 : Nat) : Int))) 22 (.pointer (some ⟨p, 0, none⟩))) 23 (.pointer (some ⟨p, 0, none⟩))) 24 (.pointer (some ⟨p, 0, none⟩))) 25 (.slice (some ⟨g, 0, none⟩) hp.length cp)) 26 (.int .i64 (hp.length : Int))) 27 (.int .i64 ((hp.length - 1 : Nat) : Int)) from congrArg (fun z => upd (upd (upd (upd (upd (upd (upd (upd (upd (upd (upd (upd (upd (updL ρ [(0, .pointer (some ⟨p, 0, none⟩)), (2, .int .i64 0), (3, .bool false), (15, .bool ((hp.length : Int) == 0))]) 16 (.pointer (some ⟨p, 0, none⟩))) 17 (.pointer (some ⟨p, 0, none⟩))) 18 (.pointer (some ⟨p, 0, none⟩))) 19 (.slice (some ⟨g, 0, none⟩) hp.length cp)) 20 (.pointer (some ⟨g, 0, none⟩))) 21 (.int .i64 ((hp.getD 0 0 : Nat) : Int))) 4 (.int .i64 ((hp.getD 0 0 : Nat) : Int))) 22 (.pointer (some ⟨p, 0, none⟩))) 23 (.pointer (some ⟨p, 0, none⟩))) 24 (.pointer (some ⟨p, 0, none⟩))) 25 (.slice (some ⟨g, 0, none⟩) hp.length cp)) 26 (.int .i64 (hp.length : Int))) 27 (.int .i64 z)) (by omega)]
    refine seg1 (ρ' := upd (upd (upd (upd (upd (upd (upd (upd (upd (upd (upd (upd (upd (upd (updL ρ [(0, .pointer (some ⟨p, 0, none⟩)), (2, .int .i64 0), (3, .bool false), (15, .bool ((hp.length : Int) == 0))]) 16 (.pointer (some ⟨p, 0, none⟩))) 17 (.pointer (some ⟨p, 0, none⟩))) 18 (.pointer (some ⟨p, 0, none⟩))) 19 (.slice (some ⟨g, 0, none⟩) hp.length cp)) 20 (.pointer (some ⟨g, 0, none⟩))) 21 (.int .i64 ((hp.getD 0 0 : Nat) : Int))) 4 (.int .i64 ((hp.getD 0 0 : Nat) : Int))) 22 (.pointer (some ⟨p, 0, none⟩))) 23 (.pointer (some ⟨p, 0, none⟩))) 24 (.pointer (some ⟨p, 0, none⟩))) 25 (.slice (some ⟨g, 0, none⟩) hp.length cp)) 26 (.int .i64 (hp.length : Int))) 27 (.int .i64 ((hp.length - 1 : Nat) : Int))) 5 (.int .i64 ((hp.length - 1 : Nat) : Int))) (by kernel_rfl) ?_
    refine op_nil ?_
    refine W_seq ?_
    refine W_fg [(0, .pointer (some ⟨p, 0, none⟩)), (2, .int .i64 0), (3, .bool false), (4, .int .i64 ((hp.getD 0 0 : Nat) : Int)), (5, .int .i64 ((hp.length - 1 : Nat) : Int)), (15, .bool ((hp.length : Int) == 0))] (by kernel_rfl) fun ρ => ?_
    refine W_region (by kernel_rfl) ?_
    refine seg2 (ρ' := upd (upd (updL ρ [(0, .pointer (some ⟨p, 0, none⟩)), (2, .int .i64 0), (3, .bool false), (4, .int .i64 ((hp.getD 0 0 : Nat) : Int)), (5, .int .i64 ((hp.length - 1 : Nat) : Int)), (15, .bool ((hp.length : Int) == 0))]) 28 (.pointer (some ⟨p, 0, none⟩))) 29 (.int .i64 ((hp.length - 1 : Nat) : Int))) (by kernel_rfl) ?_
    refine st (by rfl) (S_call (args := [.pointer (some ⟨p, 0, none⟩), .int .i64 0, .int .i64 ((hp.length - 1 : Nat) : Int)]) (by kernel_rfl) (swap_ok p g cp bat bac n hp sp at_ ac 0 (hp.length - 1) _ ⟨hP, hH, hT, hC⟩ hq (by omega) (by omega)) ?_)
    rintro v5 w2 ⟨at4, ⟨hP, hH, hT, hC⟩, hq, hT3⟩
    have hFt := Tch.trans hFt hT3 (fun _ _ e => e) (fun c hcl e => foot_F fp (.inl fg) ft fc c hcl e)
    refine op_nil ?_
    refine W_seq ?_
    refine W_region (by kernel_rfl) ?_
    refine seg4 (ρ' := upd (upd (upd (upd (upd (upd (upd (updL ρ [(0, .pointer (some ⟨p, 0, none⟩)), (2, .int .i64 0), (3, .bool false), (4, .int .i64 ((hp.getD 0 0 : Nat) : Int)), (5, .int .i64 ((hp.length - 1 : Nat) : Int)), (15, .bool ((hp.length : Int) == 0))]) 28 (.pointer (some ⟨p, 0, none⟩))) 29 (.int .i64 ((hp.length - 1 : Nat) : Int))) 30 (v5)) 31 (.pointer (some ⟨p, 0, none⟩))) 32 (.pointer (some ⟨p, 0, none⟩))) 33 (.pointer (some ⟨p, 0, none⟩))) 34 (.pointer (some ⟨p, 0, none⟩))) (by kernel_rfl) ?_
    refine st (by rfl) (S_val (v := .slice (some ⟨g, 0, none⟩) ((HeapP.swp hp 0 (hp.length - 1)).length) cp) (R_load (v := .slice (some ⟨g, 0, none⟩) ((HeapP.swp hp 0 (hp.length - 1)).length) cp) (by kernel_rfl) (by kernel_rfl) ((hP.cell 0).trans rfl)) ?_)
    refine seg1 (ρ' := upd (upd (upd (upd (upd (upd (upd (upd (upd (updL ρ [(0, .pointer (some ⟨p, 0, none⟩)), (2, .int .i64 0), (3, .bool false), (4, .int .i64 ((hp.getD 0 0 : Nat) : Int)), (5, .int .i64 ((hp.length - 1 : Nat) : Int)), (15, .bool ((hp.length : Int) == 0))]) 28 (.pointer (some ⟨p, 0, none⟩))) 29 (.int .i64 ((hp.length - 1 : Nat) : Int))) 30 (v5)) 31 (.pointer (some ⟨p, 0, none⟩))) 32 (.pointer (some ⟨p, 0, none⟩))) 33 (.pointer (some ⟨p, 0, none⟩))) 34 (.pointer (some ⟨p, 0, none⟩))) 35 (.slice (some ⟨g, 0, none⟩) ((HeapP.swp hp 0 (hp.length - 1)).length) cp)) 36 (.int .i64 ((hp.length - 1 : Nat) : Int))) (by kernel_rfl) ?_
    refine stv (v := .slice (some ⟨g, 0, none⟩) ((HeapP.cutL hp).length) cp) (by rfl) (R_slice_h (b := g) (len := (HeapP.swp hp 0 (hp.length - 1)).length) (cap := cp) (k := .i64) (i := ((hp.length - 1 : Nat) : Int)) (e := 3) (HeapP.cutL hp).length (by kernel_rfl) (by kernel_rfl) (by kernel_rfl) (by kernel_rfl) (by rw [HeapP.cutL_length]) (by rw [HeapP.cutL_length]; omega)) ?_
    refine seg2 (ρ' := upd (upd (upd (upd (upd (upd (upd (upd (upd (upd (upd (upd (updL ρ [(0, .pointer (some ⟨p, 0, none⟩)), (2, .int .i64 0), (3, .bool false), (4, .int .i64 ((hp.getD 0 0 : Nat) : Int)), (5, .int .i64 ((hp.length - 1 : Nat) : Int)), (15, .bool ((hp.length : Int) == 0))]) 28 (.pointer (some ⟨p, 0, none⟩))) 29 (.int .i64 ((hp.length - 1 : Nat) : Int))) 30 (v5)) 31 (.pointer (some ⟨p, 0, none⟩))) 32 (.pointer (some ⟨p, 0, none⟩))) 33 (.pointer (some ⟨p, 0, none⟩))) 34 (.pointer (some ⟨p, 0, none⟩))) 35 (.slice (some ⟨g, 0, none⟩) ((HeapP.swp hp 0 (hp.length - 1)).length) cp)) 36 (.int .i64 ((hp.length - 1 : Nat) : Int))) 37 (.slice (some ⟨g, 0, none⟩) ((HeapP.cutL hp).length) cp)) 38 (.pointer (some ⟨p, 0, none⟩))) 39 (.pointer (some ⟨p, 0, none⟩))) (by kernel_rfl) ?_
    refine st (by rfl) (S_store (b := p) (j := 0) (v := .slice (some ⟨g, 0, none⟩) ((HeapP.cutL hp).length) cp) (by kernel_rfl) (by kernel_rfl) (by kernel_rfl) (by rfl) hP (by simp) fun w6 hT7 hs8 hP' => ?_)
    have hH := hH.tch hT7 (fun e => by have : g = p := e; omega)
    have hT := hT.tch hT7 (fun e => by have : bat = p := e; omega)
    have hC := hC.tch hT7 (fun e => by have : bac = p := e; omega)
    have hFt := Tch.trans hFt hT7 (fun _ _ e => e) (fun c hcl e => by cases e; exact fp)
    replace hP : Blk w6 p 53 [.slice (some ⟨g, 0, none⟩) ((HeapP.cutL hp).length) cp, .slice (some ⟨bat, 0, none⟩) n n, .slice (some ⟨bac, 0, none⟩) n n] := hP'
    refine op_nil ?_
    refine W_seq ?_
    refine W_fg [(0, .pointer (some ⟨p, 0, none⟩)), (2, .int .i64 0), (3, .bool false), (4, .int .i64 ((hp.getD 0 0 : Nat) : Int)), (5, .int .i64 ((hp.length - 1 : Nat) : Int)), (15, .bool ((hp.length : Int) == 0))] (by kernel_rfl) fun ρ => ?_
    replace hH : Blk w6 (g) 3 (nats (HeapP.cutL hp) ++ (.int .i64 ((hp.getD 0 0 : Nat) : Int) :: sp)) := by have h9 := hH; rw [HeapP.cutL_cat hp h0, nats_append, List.append_assoc] at h9; exact h9
    have la1 := hq.2.1
    replace hq := hq.cut h0
    refine W_region (by kernel_rfl) ?_
    refine seg3 (ρ' := upd (upd (upd (updL ρ [(0, .pointer (some ⟨p, 0, none⟩)), (2, .int .i64 0), (3, .bool false), (4, .int .i64 ((hp.getD 0 0 : Nat) : Int)), (5, .int .i64 ((hp.length - 1 : Nat) : Int)), (15, .bool ((hp.length : Int) == 0))]) 40 (.pointer (some ⟨p, 0, none⟩))) 41 (.pointer (some ⟨p, 0, none⟩))) 42 (.pointer (some ⟨p, 1, none⟩))) (by kernel_rfl) ?_
    refine st (by rfl) (S_val (v := .slice (some ⟨bat, 0, none⟩) n n) (R_load (v := .slice (some ⟨bat, 0, none⟩) n n) (by kernel_rfl) (by kernel_rfl) ((hP.cell 1).trans rfl)) ?_)
    refine seg1 (ρ' := upd (upd (upd (upd (upd (updL ρ [(0, .pointer (some ⟨p, 0, none⟩)), (2, .int .i64 0), (3, .bool false), (4, .int .i64 ((hp.getD 0 0 : Nat) : Int)), (5, .int .i64 ((hp.length - 1 : Nat) : Int)), (15, .bool ((hp.length : Int) == 0))]) 40 (.pointer (some ⟨p, 0, none⟩))) 41 (.pointer (some ⟨p, 0, none⟩))) 42 (.pointer (some ⟨p, 1, none⟩))) 43 (.slice (some ⟨bat, 0, none⟩) n n)) 44 (.int .i64 ((hp.getD 0 0 : Nat) : Int))) (by kernel_rfl) ?_
    refine stv (v := .pointer (some ⟨bat, hp.getD 0 0, none⟩)) (by rfl) (R_index0 (b := bat) (len := n) (cap := n) (k := .i64) (i := ((hp.getD 0 0 : Nat) : Int)) (e := 3) (hp.getD 0 0) (by kernel_rfl) (by kernel_rfl) (by kernel_rfl) (by kernel_rfl) rfl (by first | omega | (simp only [List.length_set, List.length_map]; omega))) ?_
    refine st (by rfl) (S_store (b := bat) (j := hp.getD 0 0) (v := .int .i64 (-1)) (by kernel_rfl) (by kernel_rfl) (by kernel_rfl) (by rfl) hT (by rw [ints_length]; first | omega | (simp only [List.length_set, List.length_map]; omega)) fun w9 hT10 hs11 hT' => ?_)
    have hP := hP.tch hT10 (fun e => by have : p = bat := e; omega)
    have hH := hH.tch hT10 (fun e => by have : g = bat := e; omega)
    have hC := hC.tch hT10 (fun e => by have : bac = bat := e; omega)
    have hFt := Tch.trans hFt hT10 (fun _ _ e => e) (fun c hcl e => by cases e; exact ft)
    replace hT : Blk w9 (bat) 3 (ints .i64 (at4.set (hp.getD 0 0) (-1))) := by rw [← ints_set]; exact hT'
    refine op_nil ?_
    refine W_seq ?_
    refine W_seq ?_
    refine W_region (by kernel_rfl) ?_
    refine seg2 (ρ' := upd (upd (upd (upd (upd (upd (upd (upd (updL ρ [(0, .pointer (some ⟨p, 0, none⟩)), (2, .int .i64 0), (3, .bool false), (4, .int .i64 ((hp.getD 0 0 : Nat) : Int)), (5, .int .i64 ((hp.length - 1 : Nat) : Int)), (15, .bool ((hp.length : Int) == 0))]) 40 (.pointer (some ⟨p, 0, none⟩))) 41 (.pointer (some ⟨p, 0, none⟩))) 42 (.pointer (some ⟨p, 1, none⟩))) 43 (.slice (some ⟨bat, 0, none⟩) n n)) 44 (.int .i64 ((hp.getD 0 0 : Nat) : Int))) 45 (.pointer (some ⟨bat, hp.getD 0 0, none⟩))) 46 (.int .i64 ((hp.length - 1 : Nat) : Int))) 47 (.bool (decide (((hp.length - 1 : Nat) : Int) > 0)))) (by kernel_rfl) ?_
    refine op_nil ?_
    refine W_cond (decide (((hp.length - 1 : Nat) : Int) > 0)) (by kernel_rfl) (by kernel_rfl) (fun hc12 => ?_) (fun hc12 => ?_)
    · replace hc12 : 0 < ((hp.length - 1 : Nat) : Int) := (of_decide_eq_true hc12)
      refine W_fg [(0, .pointer (some ⟨p, 0, none⟩)), (2, .int .i64 0), (3, .bool false), (4, .int .i64 ((hp.getD 0 0 : Nat) : Int)), (5, .int .i64 ((hp.length - 1 : Nat) : Int)), (15, .bool ((hp.length : Int) == 0)), (47, .bool (decide (((hp.length - 1 : Nat) : Int) > 0)))] (by kernel_rfl) fun ρ => ?_
      refine W_region (by kernel_rfl) ?_
      refine seg1 (ρ' := upd (updL ρ [(0, .pointer (some ⟨p, 0, none⟩)), (2, .int .i64 0), (3, .bool false), (4, .int .i64 ((hp.getD 0 0 : Nat) : Int)), (5, .int .i64 ((hp.length - 1 : Nat) : Int)), (15, .bool ((hp.length : Int) == 0)), (47, .bool (decide (((hp.length - 1 : Nat) : Int) > 0)))]) 48 (.pointer (some ⟨p, 0, none⟩))) (by kernel_rfl) ?_
      refine st (by rfl) (S_call (args := [.pointer (some ⟨p, 0, none⟩), .int .i64 0]) (by kernel_rfl) (down_ok p g cp bat bac n (HeapP.cutL hp) (.int .i64 ((hp.getD 0 0 : Nat) : Int) :: sp) (at4.set (hp.getD 0 0) (-1)) ac 0 ((HeapP.cutL hp).length) _ ⟨hP, hH, hT, hC⟩ hq (by rw [HeapP.cutL_length]; omega) (by omega)) ?_)
      rintro v16 w13 ⟨at15, ⟨hP, hH, hT, hC⟩, hq, hT14⟩
      have hFt := Tch.trans hFt hT14 (fun _ _ e => e) (fun c hcl e => foot_F fp (.inl fg) ft fc c hcl e)
      refine op_nil ?_
      refine W_seq ?_
      refine W_region (by kernel_rfl) ?_
      refine seg3 (ρ' := upd (upd (upd (upd (upd (updL ρ [(0, .pointer (some ⟨p, 0, none⟩)), (2, .int .i64 0), (3, .bool false), (4, .int .i64 ((hp.getD 0 0 : Nat) : Int)), (5, .int .i64 ((hp.length - 1 : Nat) : Int)), (15, .bool ((hp.length : Int) == 0)), (47, .bool (decide (((hp.length - 1 : Nat) : Int) > 0)))]) 48 (.pointer (some ⟨p, 0, none⟩))) 49 (v16)) 50 (.int .i64 ((hp.getD 0 0 : Nat) : Int))) 2 (.int .i64 ((hp.getD 0 0 : Nat) : Int))) 3 (.bool true)) (by kernel_rfl) ?_
      refine op_nil ?_
      refine W_ret ?_
      refine ⟨_, Res_of (v := .tuple #[.int .i64 ((hp.getD 0 0 : Nat) : Int), .bool true]) (by kernel_rfl), ?_⟩
      refine ⟨rfl, _, Ord.of_obj (hp := HeapP.down (HeapP.lt ac) (HeapP.cutL hp).length (HeapP.cutL hp) 0) (sp := (.int .i64 ((hp.getD 0 0 : Nat) : Int) :: sp)) ⟨hP, hH, hT, hC⟩ hq ?_ hcp fp fg ft fc (fun b hb => Nat.lt_of_lt_of_le (hF b hb) hFt.size) hac ?_, ?_, hFt⟩
      · rw [← hl2]; have := HeapP.cutL_length hp; have e9 := (HeapP.down_perm (lt := HeapP.lt ac) (HeapP.cutL hp).length (HeapP.cutL hp) 0 (by omega)).length_eq; simp only [List.length_append, List.length_cons, nats_length, e9]; omega
      · exact HeapP.cut_fine (HeapP.lt_strict ac) hfn (by rw [HeapP.cutL_length]; omega)
      · exact ((HeapP.down_perm _ _ _ (by rw [HeapP.cutL_length]; omega)).cons _).trans (HeapP.cutL_perm hp h0)
    · replace hc12 : ((hp.length - 1 : Nat) : Int) ≤ 0 := (Int.not_lt.1 (of_decide_eq_false hc12))
      refine W_skip ?_
      refine W_seq ?_
      refine W_fg [(0, .pointer (some ⟨p, 0, none⟩)), (2, .int .i64 0), (3, .bool false), (4, .int .i64 ((hp.getD 0 0 : Nat) : Int)), (5, .int .i64 ((hp.length - 1 : Nat) : Int)), (15, .bool ((hp.length : Int) == 0)), (47, .bool (decide (((hp.length - 1 : Nat) : Int) > 0)))] (by kernel_rfl) fun ρ => ?_
      refine W_region (by kernel_rfl) ?_
      refine seg3 (ρ' := upd (upd (upd (updL ρ [(0, .pointer (some ⟨p, 0, none⟩)), (2, .int .i64 0), (3, .bool false), (4, .int .i64 ((hp.getD 0 0 : Nat) : Int)), (5, .int .i64 ((hp.length - 1 : Nat) : Int)), (15, .bool ((hp.length : Int) == 0)), (47, .bool (decide (((hp.length - 1 : Nat) : Int) > 0)))]) 50 (.int .i64 ((hp.getD 0 0 : Nat) : Int))) 2 (.int .i64 ((hp.getD 0 0 : Nat) : Int))) 3 (.bool true)) (by kernel_rfl) ?_
      refine op_nil ?_
      refine W_ret ?_
      refine ⟨_, Res_of (v := .tuple #[.int .i64 ((hp.getD 0 0 : Nat) : Int), .bool true]) (by kernel_rfl), ?_⟩
      refine ⟨rfl, _, Ord.of_obj (hp := HeapP.cutL hp) (sp := (.int .i64 ((hp.getD 0 0 : Nat) : Int) :: sp)) ⟨hP, hH, hT, hC⟩ hq ?_ hcp fp fg ft fc (fun b hb => Nat.lt_of_lt_of_le (hF b hb) hFt.size) hac ?_, ?_, hFt⟩
      · rw [← hl2]; have := HeapP.cutL_length hp; simp only [List.length_append, List.length_cons, nats_length]; omega
      · intro j _ hj; rw [HeapP.cutL_length] at hj; omega
      · exact HeapP.cutL_perm hp h0

set_option maxRecDepth 100000 in
theorem pop_no (F : Nat → Prop) (p n : Nat) (hp : List Nat) (ac : List Int) (w : World) (h : Ord F w p n hp ac) (h0 : hp.length = 0) : Ret Try.prog 24 [.pointer (some ⟨p, 0, none⟩)] w fun v w' => v = .tuple #[.int .i64 (-1), .bool false] ∧ Tch N0 w w' := by
  obtain ⟨A, cp, bat, bac, at_, hP, hO, hT, hC, hAF, n6, fp, ft, fc, hF, la, lc, hn, hlt, hat, hac, hfn⟩ := h
  have n2 : p ≠ bat := hP.ne hT (by decide)
  have n3 : p ≠ bac := hP.ne hC (by decide)
  have hm := HeapP.nodup_le n hp hat.nodup hlt
  refine enter Try.func24 rfl rfl ?_
  refine W_seq ?_
  refine W_region (by kernel_rfl) ?_
  refine seg2 (ρ' := upd (upd (ini [.pointer (some ⟨p, 0, none⟩)]) 2 (.int .i64 0)) 3 (.bool false)) (by kernel_rfl) ?_
  refine op_nil ?_
  refine W_seq ?_
  refine W_seq ?_
  refine W_region (by kernel_rfl) ?_
  refine seg6 (ρ' := upd (upd (upd (upd (upd (upd (upd (upd (ini [.pointer (some ⟨p, 0, none⟩)]) 2 (.int .i64 0)) 3 (.bool false)) 6 (.pointer (some ⟨p, 0, none⟩))) 7 (.bool false)) 8 (.bool false)) 9 (.pointer (some ⟨p, 0, none⟩))) 10 (.pointer (some ⟨p, 0, none⟩))) 11 (.pointer (some ⟨p, 0, none⟩))) (by kernel_rfl) ?_
  refine st (by kernel_rfl) (S_val (v := .slice A hp.length cp) (R_load (v := .slice A hp.length cp) (by kernel_rfl) (by kernel_rfl) ((hP.cell 0).trans rfl)) ?_)
  refine seg3 (ρ' := upd (upd (upd (upd (upd (upd (upd (upd (upd (upd (upd (upd (ini [.pointer (some ⟨p, 0, none⟩)]) 2 (.int .i64 0)) 3 (.bool false)) 6 (.pointer (some ⟨p, 0, none⟩))) 7 (.bool false)) 8 (.bool false)) 9 (.pointer (some ⟨p, 0, none⟩))) 10 (.pointer (some ⟨p, 0, none⟩))) 11 (.pointer (some ⟨p, 0, none⟩))) 12 (.slice A hp.length cp)) 13 (.int .i64 (hp.length : Int))) 14 (.bool ((hp.length : Int) == 0))) 15 (.bool ((hp.length : Int) == 0))) (by kernel_rfl) ?_
  refine op_nil ?_
  refine W_cond ((hp.length : Int) == 0) (by kernel_rfl) (by kernel_rfl) (fun hc1 => ?_) (fun hc1 => ?_)
  · replace hc1 : (hp.length : Int) = 0 := (eq_of_beq hc1)
    refine W_seq ?_
    refine W_fg [(0, .pointer (some ⟨p, 0, none⟩)), (2, .int .i64 0), (3, .bool false), (15, .bool ((hp.length : Int) == 0))] (by kernel_rfl) fun ρ => ?_
    refine W_region (by kernel_rfl) ?_
    refine seg2 (ρ' := upd (upd (updL ρ [(0, .pointer (some ⟨p, 0, none⟩)), (2, .int .i64 0), (3, .bool false), (15, .bool ((hp.length : Int) == 0))]) 2 (.int .i64 (-1))) 3 (.bool false)) (by kernel_rfl) ?_
    refine op_nil ?_
    refine W_ret ?_
    exact ⟨_, Res_of (v := .tuple #[.int .i64 (-1), .bool false]) (by kernel_rfl), ⟨rfl, Tch.refl _ _⟩⟩
  · replace hc1 : (hp.length : Int) ≠ 0 := (ne_of_beq_false hc1)
    exfalso; omega

set_option maxRecDepth 100000 in
theorem pop_nil (w : World) : Ret Try.prog 24 [.pointer none] w fun v w' => v = .tuple #[.int .i64 (-1), .bool false] ∧ Tch N0 w w' := by
  refine enter Try.func24 rfl rfl ?_
  refine W_seq ?_
  refine W_region (by kernel_rfl) ?_
  refine seg2 (ρ' := upd (upd (ini [.pointer none]) 2 (.int .i64 0)) 3 (.bool false)) (by kernel_rfl) ?_
  refine op_nil ?_
  refine W_seq ?_
  refine W_seq ?_
  refine W_region (by kernel_rfl) ?_
  refine seg10 (ρ' := upd (upd (upd (upd (upd (upd (upd (upd (upd (upd (upd (upd (ini [.pointer none]) 2 (.int .i64 0)) 3 (.bool false)) 6 (.pointer none)) 7 (.bool true)) 8 (.bool true)) 9 (undef)) 10 (undef)) 11 (undef)) 12 (undef)) 13 (undef)) 14 (undef)) 15 (.bool true)) (by kernel_rfl) ?_
  refine op_nil ?_
  refine W_cond true (by kernel_rfl) (by kernel_rfl) (fun _ => ?_) (fun h => nomatch h)
  refine W_seq ?_
  refine W_fg [(0, .pointer none), (2, .int .i64 0), (3, .bool false), (15, .bool true)] (by kernel_rfl) fun ρ => ?_
  refine W_region (by kernel_rfl) ?_
  refine seg2 (ρ' := upd (upd (updL ρ [(0, .pointer none), (2, .int .i64 0), (3, .bool false), (15, .bool true)]) 2 (.int .i64 (-1))) 3 (.bool false)) (by kernel_rfl) ?_
  refine op_nil ?_
  refine W_ret ?_
  exact ⟨_, Res_of (v := .tuple #[.int .i64 (-1), .bool false]) (by kernel_rfl), ⟨rfl, Tch.refl _ _⟩⟩

end Go.Proofs.YthfjceemphhgcaaV
