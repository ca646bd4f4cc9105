/- Walks of functions of the program and of the document's texts. The conditions stand with each theorem. -/
import Derived.Test.YtnlecdpiccgdpaaVx13
import Derived.Test.YtnlecdpiccgdpaaProg
import Derived.Test.YtnlecdpiccgdpaaVx4
import Derived.Test.YtnlecdpiccgdpaaGateO
import Derived.Test.YtnlecdpiccgdpaaR0
set_option linter.unusedVariables false
set_option linter.unusedSimpArgs false
namespace Go.Proofs.YtnlecdpiccgdpaaV
open Go Go.RowKit Go.Proofs

set_option maxRecDepth 100000 in
theorem fresh_ok (p n : Nat) (sv mv : Value) (w : World) (hP : Blk w p 78 [.int .i64 ((n : Nat) : Int), sv, mv]) (hn : n ≤ 68719476736) : Ret Try.prog 51 [.pointer (some ⟨p, 0, none⟩)] w fun v w' => v = .int .i64 ((2 * n : Nat) : Int) ∧ Blk w' p 78 [.int .i64 ((n + 1 : Nat) : Int), sv, mv] ∧ Tch (one p) w w' := by
  have hF : Tch (one p) w w := Tch.refl _ _
  refine enter Try.func51 rfl rfl ?_
  refine W_seq ?_
  refine W_region (by kernel_rfl) ?_
  refine sg [(2, .int .i64 0)] (by kernel_rfl) ?_
  refine op_nil ?_
  refine W_seq ?_
  refine W_region (by kernel_rfl) ?_
  refine sg [(4, .pointer (some ⟨p, 0, none⟩)), (5, .pointer (some ⟨p, 0, none⟩)), (6, .pointer (some ⟨p, 0, none⟩))] (by kernel_rfl) ?_
  refine st (by rfl) (S_val (v := .int .i64 ((n : Nat) : Int)) (R_load (v := .int .i64 ((n : Nat) : Int)) (by kernel_rfl) (by kernel_rfl) ((hP.cell 0).trans rfl)) ?_)
  refine sg [(8, .int .i64 (IntKind.i64.wrap (((n : Nat) : Int) * 2 ^ 1)))] (by kernel_rfl) ?_
  rw [show IntKind.i64.wrap (((n : Nat) : Int) * 2 ^ 1) = ((n : Nat) : Int) * 2 ^ 1 from wrap_i64 (by omega) (by omega)]
  refine fixR (y := ((2 * n : Nat) : Int)) (by omega) ?_
  refine sg [(3, .int .i64 ((2 * n : Nat) : Int))] (by kernel_rfl) ?_
  refine op_nil ?_
  refine W_seq ?_
  refine W_region (by kernel_rfl) ?_
  refine sg [(9, .pointer (some ⟨p, 0, none⟩)), (10, .pointer (some ⟨p, 0, none⟩)), (11, .pointer (some ⟨p, 0, none⟩))] (by kernel_rfl) ?_
  refine st (by rfl) (S_val (v := .int .i64 ((n : Nat) : Int)) (R_load (v := .int .i64 ((n : Nat) : Int)) (by kernel_rfl) (by kernel_rfl) ((hP.cell 0).trans rfl)) ?_)
  refine sg [(13, .int .i64 (IntKind.i64.wrap (((n : Nat) : Int) + 1)))] (by kernel_rfl) ?_
  rw [show IntKind.i64.wrap (((n : Nat) : Int) + 1) = ((n : Nat) : Int) + 1 from wrap_i64 (by omega) (by omega)]
  refine fixR (y := ((n + 1 : Nat) : Int)) (by omega) ?_
  refine sg [(14, .pointer (some ⟨p, 0, none⟩)), (15, .pointer (some ⟨p, 0, none⟩))] (by kernel_rfl) ?_
  refine st (by rfl) (S_store (b := p) (j := 0) (v := .int .i64 ((n + 1 : Nat) : Int)) (by kernel_rfl) (by kernel_rfl) (by kernel_rfl) (by rfl) hP (by simp) fun w1 hT2 hs3 hP' => ?_)
  have hF := Tch.trans hF hT2 (fun _ _ e => e) (fun _ _ e => e)
  replace hP : Blk w1 p 78 [.int .i64 ((n + 1 : Nat) : Int), sv, mv] := hP'
  refine op_nil ?_
  refine W_seq ?_
  refine W_fg [(0, .pointer (some ⟨p, 0, none⟩)), (2, .int .i64 0), (3, .int .i64 ((2 * n : Nat) : Int))] (by kernel_rfl) fun ρ => ?_
  refine W_region (by kernel_rfl) ?_
  refine sg [(16, .int .i64 ((2 * n : Nat) : Int)), (2, .int .i64 ((2 * n : Nat) : Int))] (by kernel_rfl) ?_
  refine op_nil ?_
  refine W_ret ?_
  exact ⟨_, Res_of (v := .int .i64 ((2 * n : Nat) : Int)) (by kernel_rfl), ⟨rfl, hP, hF⟩⟩

theorem low_fresh (F : Nat → Prop) (p n : Nat) (cs : List (List Nat)) (M : Value → Value → Prop) (w : World) (h : Low F w p n cs M) (hn : n ≤ 68719476736) : Ret Try.prog 51 [.pointer (some ⟨p, 0, none⟩)] w fun v w' => v = .int .i64 ((2 * n : Nat) : Int) ∧ Low F w' p (n + 1) cs M ∧ Mv F F w w' := by
  obtain ⟨A, cp, mb, Lv, hP, hO, hM, hC, fp, fm, fA, hl⟩ := h
  refine (fresh_ok p n _ _ w hP hn).mono fun v w' ⟨e, hP', T⟩ => ⟨e, ⟨A, cp, mb, Lv, hP', hO.tch T (fun c hc e => hO.blk_ne hP (by decide) c hc e), hM.tch T (fun e => hM.ne hP e), hC.tch T (fun g l _ hb e => hb.ne hP (by decide) e), fp, fm, fA, fun b hb => Nat.lt_of_lt_of_le (hl b hb) T.size⟩, .same (T.weaken (fun b _ e => by have : b = p := e; rw [this]; exact fp))⟩
theorem var_i (x : Int) (w : World) (h0 : 0 ≤ x) (hx : x ≤ 9223372036854775807) : Ret Try.prog 77 [.int .i64 x] w fun v w' => v = .int .i64 (x / 2) ∧ Tch N0 w w' := by
  obtain ⟨n, rfl⟩ : ∃ n : Nat, x = n := ⟨x.toNat, by omega⟩
  exact (var_ok n w (by omega)).mono fun v w' ⟨e, T⟩ => ⟨by rw [e]; congr 1, T⟩
/-- No literal of so many variables. -/
def badI (n : Nat) (x : Int) : Bool := decide (x < 0 ∨ (n : Int) ≤ x / 2)
def badB (n : Nat) (l : List Int) : Bool := l.any (badI n)
theorem gmemI {l : List Int} {i : Nat} (h : i < l.length) : l.getD i 0 ∈ l := by
  rw [List.getD_eq_getElem?_getD, List.getElem?_eq_getElem h]; exact List.getElem_mem h
theorem badB_t {n : Nat} {l : List Int} {i : Nat} (hi : i < l.length) (h : l.getD i 0 < 0 ∨ (n : Int) ≤ l.getD i 0 / 2) : true = badB n l := by
  symm; unfold badB; rw [List.any_eq_true]
  exact ⟨_, gmemI hi, by unfold badI; exact decide_eq_true h⟩
theorem badB_f {n : Nat} {l : List Int} {i : Nat} (hi : l.length ≤ i) (h : ∀ j, j < i → ¬ (l.getD j 0 < 0 ∨ (n : Int) ≤ l.getD j 0 / 2)) : false = badB n l := by
  symm; unfold badB; rw [List.any_eq_false]
  intro x hx
  obtain ⟨j, hj, e⟩ := List.getElem_of_mem hx
  have e2 : l.getD j 0 = x := by rw [List.getD_eq_getElem?_getD, List.getElem?_eq_getElem hj]; exact e
  have := h j (by omega)
  rw [e2] at this
  unfold badI
  simpa using this

set_option maxRecDepth 100000 in
theorem bad_ok (p n g mm : Nat) (sv mv : Value) (l : List Int) (w : World) (hP : Blk w p 78 [.int .i64 ((n : Nat) : Int), sv, mv]) (hG : Blk w g 3 (ints .i64 l)) (hm : l.length = mm) (hm2 : mm ≤ 1099511627776) (hl : ∀ x, x ∈ l → x ≤ 9223372036854775807) : Ret Try.prog 53 [.pointer (some ⟨p, 0, none⟩), .slice (some ⟨g, 0, none⟩) mm mm] w fun v w' => v = .bool (badB n l) ∧ Tch N0 w w' := by
  refine enter Try.func53 rfl rfl ?_
  refine W_seq ?_
  refine W_region (by kernel_rfl) ?_
  refine sg [(4, .bool false)] (by kernel_rfl) ?_
  refine op_nil ?_
  refine W_seq ?_
  refine W_seq ?_
  refine W_region (by kernel_rfl) ?_
  refine sg [(7, .slice (some ⟨g, 0, none⟩) mm mm), (8, .int .i64 (mm : Int)), (9, .int .i64 0)] (by kernel_rfl) ?_
  refine op_nil ?_
  refine W_block ?_
  refine W_loop (fun m ρ w' => ∃ (i : Nat) (ρ0 : Env), ρ = updL ρ0 [(0, .pointer (some ⟨p, 0, none⟩)), (7, .slice (some ⟨g, 0, none⟩) mm mm), (8, .int .i64 (mm : Int)), (9, .int .i64 ((i : Nat) : Int))] ∧ (i ≤ mm) ∧ (∀ j, j < i → ¬ (l.getD j 0 < 0 ∨ (n : Int) ≤ l.getD j 0 / 2)) ∧ Tch N0 w w' ∧ Blk w' p 78 [.int .i64 ((n : Nat) : Int), sv, mv] ∧ Blk w' (g) 3 (ints .i64 l) ∧ m = mm - i) (m := mm - 0) ?_ ?_
  · refine ⟨0, _, updL_self (by kernel_rfl), by omega, by intro j h; omega, Tch.refl _ _, hP, hG, rfl⟩
  · rintro m ρ w1 ⟨i, ρ, rfl, hi, hb, hT0, hP, hG, rfl⟩
    have hli : i < mm → l.getD i 0 ≤ 9223372036854775807 := fun h => hl _ (gmemI (by omega))
    refine W_seq ?_
    refine W_region (by kernel_rfl) ?_
    refine sg [(10, .bool (decide (((i : Nat) : Int) < (mm : Int))))] (by kernel_rfl) ?_
    refine op_nil ?_
    refine W_seq ?_
    refine W_cond (decide (((i : Nat) : Int) < (mm : Int))) (by kernel_rfl) (by kernel_rfl) (fun hc2 => ?_) (fun hc2 => ?_)
    · replace hc2 : ((i : Nat) : Int) < (mm : Int) := (of_decide_eq_true hc2)
      refine W_skip ?_
      refine W_seq ?_
      refine W_block ?_
      refine W_seq ?_
      refine W_region (by kernel_rfl) ?_
      refine stv (v := .pointer (some ⟨g, i, none⟩)) (by rfl) (R_index0 (b := g) (len := mm) (cap := mm) (k := .i64) (i := ((i : Nat) : Int)) (e := 3) i (by kernel_rfl) (by kernel_rfl) (by kernel_rfl) (by kernel_rfl) rfl (by first | omega | (simp only [List.length_set, List.length_map]; omega))) ?_
      refine st (by rfl) (S_val (v := .int .i64 (l.getD i 0)) (R_load (v := .int .i64 (l.getD i 0)) (by kernel_rfl) (by kernel_rfl) ((hG.cell _).trans (ints_at .i64 _ (by first | omega | (simp only [List.length_set, List.length_map]; omega))))) ?_)
      refine sg [(6, .int .i64 (l.getD i 0))] (by kernel_rfl) ?_
      refine op_nil ?_
      refine W_seq ?_
      refine W_draw (fun w' => Blk w' p 78 [.int .i64 ((n : Nat) : Int), sv, mv] ∧ Blk w' (g) 3 (ints .i64 l)) (by kernel_rfl) (by kernel_rfl) (by kernel_rfl) fun w3 hT4 hh5 => ?_
      have hT0 := hT0.t0 hT4
      have hP := hP.tch0 hT4
      have hG := hG.tch0 hT4
      refine dtk [0, 1, 2, 3, 4, 5, 6] #[true, true, true, true, true, true, true, false, false, false, false, false, false, false, false] [(13, .pointer (some ⟨p, 0, none⟩)), (14, .bool false), (15, .bool false), (16, .int .i64 (l.getD i 0)), (17, .bool (decide (l.getD i 0 < 0))), (18, .bool (decide (l.getD i 0 < 0))), (19, .bool (decide (l.getD i 0 < 0)))] ⟨hP, hG⟩ (by kernel_rfl) ?_
      cases hb6 : decide (l.getD i 0 < 0)
      · replace hb6 : 0 ≤ l.getD i 0 := (Int.not_lt.1 (of_decide_eq_false hb6))
        refine dtk [7, 9, 10, 11] #[true, true, true, true, true, true, true, true, false, true, true, true, false, false, false] [(20, .int .i64 (l.getD i 0)), (22, .pointer (some ⟨p, 0, none⟩)), (23, .pointer (some ⟨p, 0, none⟩)), (24, .pointer (some ⟨p, 0, none⟩))] ⟨hP, hG⟩ (by kernel_rfl) ?_
        refine d_val (v := .int .i64 ((n : Nat) : Int)) 12 (by rfl) (by kernel_rfl) (by kernel_rfl) (by kernel_rfl) (fun w' hs => by obtain ⟨hP, hG⟩ := hs; exact R_load (v := .int .i64 ((n : Nat) : Int)) (by kernel_rfl) (by kernel_rfl) ((hP.cell 0).trans rfl)) ⟨hP, hG⟩ ?_
        refine d_one 8 (by kernel_rfl) (by rfl) (by kernel_rfl) (S_call (args := [.int .i64 (l.getD i 0)]) (by kernel_rfl) (var_i (l.getD i 0) _ (by omega) (by omega)) ?_)
        rintro _ w7 ⟨rfl, hT8⟩
        have hT0 := hT0.t0 hT8
        have hP := hP.tch0 hT8
        have hG := hG.tch0 hT8
        refine ⟨⟨hP, hG⟩, ?_⟩
        refine dtk [13, 14] #[true, true, true, true, true, true, true, true, true, true, true, true, true, true, true] [(26, .bool (decide ((l.getD i 0) / 2 ≥ ((n : Nat) : Int)))), (27, .bool (decide ((l.getD i 0) / 2 ≥ ((n : Nat) : Int))))] ⟨hP, hG⟩ (by kernel_rfl) ?_
        refine d_done (by kernel_rfl) ?_
        refine W_cond (decide ((l.getD i 0) / 2 ≥ ((n : Nat) : Int))) (by kernel_rfl) (by kernel_rfl) (fun hc9 => ?_) (fun hc9 => ?_)
        · replace hc9 : ((n : Nat) : Int) ≤ (l.getD i 0) / 2 := (of_decide_eq_true hc9)
          refine W_seq ?_
          refine W_fg [(0, .pointer (some ⟨p, 0, none⟩)), (6, .int .i64 (l.getD i 0)), (7, .slice (some ⟨g, 0, none⟩) mm mm), (8, .int .i64 (mm : Int)), (9, .int .i64 ((i : Nat) : Int)), (10, .bool (decide (((i : Nat) : Int) < (mm : Int)))), (27, .bool (decide ((l.getD i 0) / 2 ≥ ((n : Nat) : Int))))] (by kernel_rfl) fun ρ => ?_
          refine W_region (by kernel_rfl) ?_
          refine sg [(4, .bool true)] (by kernel_rfl) ?_
          refine op_nil ?_
          refine W_ret ?_
          exact ⟨_, Res_of (v := .bool true) (by kernel_rfl), ⟨congrArg Value.bool (by first | exact badB_t (i := i) (by omega) (by omega) | exact badB_f (by omega) hb), hT0⟩⟩
        · replace hc9 : (l.getD i 0) / 2 < ((n : Nat) : Int) := (Int.not_le.1 (of_decide_eq_false hc9))
          refine W_skip ?_
          refine W_fg [(0, .pointer (some ⟨p, 0, none⟩)), (6, .int .i64 (l.getD i 0)), (7, .slice (some ⟨g, 0, none⟩) mm mm), (8, .int .i64 (mm : Int)), (9, .int .i64 ((i : Nat) : Int)), (10, .bool (decide (((i : Nat) : Int) < (mm : Int)))), (27, .bool (decide ((l.getD i 0) / 2 ≥ ((n : Nat) : Int))))] (by kernel_rfl) fun ρ => ?_
          refine W_region (by kernel_rfl) ?_
          refine sg [(28, .int .i64 (IntKind.i64.wrap (((i : Nat) : Int) + 1)))] (by kernel_rfl) ?_
          rw [show IntKind.i64.wrap (((i : Nat) : Int) + 1) = ((i : Nat) : Int) + 1 from wrap_i64 (by omega) (by omega)]
          refine sg [(9, .int .i64 (((i : Nat) : Int) + 1))] (by kernel_rfl) ?_
          refine op_nil ?_
          refine ⟨_, ?_, i + 1, _, updL_self (by kernel_rfl), ?_, ?_, hT0, hP, hG, rfl⟩
          · omega
          · omega
          · intro j hj; by_cases e : j = i; (subst e; omega); exact hb j (by omega)
      · replace hb6 : l.getD i 0 < 0 := (of_decide_eq_true hb6)
        refine dtk [7, 9, 8, 10, 11, 12, 13, 14] #[true, true, true, true, true, true, true, true, true, true, true, true, true, true, true] [(20, undef), (22, undef), (21, undef), (23, undef), (24, undef), (25, undef), (26, undef), (27, .bool true)] ⟨hP, hG⟩ (by kernel_rfl) ?_
        refine d_done (by kernel_rfl) ?_
        refine W_cond true (by kernel_rfl) (by kernel_rfl) (fun _ => ?_) (fun h => nomatch h)
        refine W_seq ?_
        refine W_fg [(0, .pointer (some ⟨p, 0, none⟩)), (6, .int .i64 (l.getD i 0)), (7, .slice (some ⟨g, 0, none⟩) mm mm), (8, .int .i64 (mm : Int)), (9, .int .i64 ((i : Nat) : Int)), (10, .bool (decide (((i : Nat) : Int) < (mm : Int)))), (27, .bool true)] (by kernel_rfl) fun ρ => ?_
        refine W_region (by kernel_rfl) ?_
        refine sg [(4, .bool true)] (by kernel_rfl) ?_
        refine op_nil ?_
        refine W_ret ?_
        exact ⟨_, Res_of (v := .bool true) (by kernel_rfl), ⟨congrArg Value.bool (by first | exact badB_t (i := i) (by omega) (by omega) | exact badB_f (by omega) hb), hT0⟩⟩
    · replace hc2 : (mm : Int) ≤ ((i : Nat) : Int) := (Int.not_lt.1 (of_decide_eq_false hc2))
      refine W_exit ?_
      refine X_hit ?_
      refine W_seq ?_
      refine W_region (by kernel_rfl) ?_
      refine sg [(4, .bool false)] (by kernel_rfl) ?_
      refine op_nil ?_
      refine W_ret ?_
      exact ⟨_, Res_of (v := .bool false) (by kernel_rfl), ⟨congrArg Value.bool (by first | exact badB_t (i := i) (by omega) (by omega) | exact badB_f (by omega) hb), hT0⟩⟩

set_option maxRecDepth 100000 in
theorem bad_nil (g mm : Nat) (l : List Int) (w : World) (hG : Blk w g 3 (ints .i64 l)) (hm : l.length = mm) (hm2 : mm ≤ 1099511627776) (h0 : 0 < mm) : Ret Try.prog 53 [.pointer none, .slice (some ⟨g, 0, none⟩) mm mm] w fun v w' => v = .bool true ∧ Tch N0 w w' := by
  refine enter Try.func53 rfl rfl ?_
  refine W_seq ?_
  refine W_region (by kernel_rfl) ?_
  refine sg [(4, .bool false)] (by kernel_rfl) ?_
  refine op_nil ?_
  refine W_seq ?_
  refine W_seq ?_
  refine W_region (by kernel_rfl) ?_
  refine sg [(7, .slice (some ⟨g, 0, none⟩) mm mm), (8, .int .i64 (mm : Int)), (9, .int .i64 0)] (by kernel_rfl) ?_
  refine op_nil ?_
  refine W_block ?_
  refine W_loop (fun m ρ w' => ∃ (i : Nat) (ρ0 : Env), ρ = updL ρ0 [(0, .pointer none), (7, .slice (some ⟨g, 0, none⟩) mm mm), (8, .int .i64 (mm : Int)), (9, .int .i64 ((i : Nat) : Int))] ∧ (i = 0) ∧ Tch N0 w w' ∧ Blk w' (g) 3 (ints .i64 l) ∧ m = mm - i) (m := mm - 0) ?_ ?_
  · refine ⟨0, _, updL_self (by kernel_rfl), rfl, Tch.refl _ _, hG, rfl⟩
  · rintro m ρ w1 ⟨i, ρ, rfl, hi, hT0, hG, rfl⟩
    refine W_seq ?_
    refine W_region (by kernel_rfl) ?_
    refine sg [(10, .bool (decide (((i : Nat) : Int) < (mm : Int))))] (by kernel_rfl) ?_
    refine op_nil ?_
    refine W_seq ?_
    refine W_cond (decide (((i : Nat) : Int) < (mm : Int))) (by kernel_rfl) (by kernel_rfl) (fun hc2 => ?_) (fun hc2 => ?_)
    · replace hc2 : ((i : Nat) : Int) < (mm : Int) := (of_decide_eq_true hc2)
      refine W_skip ?_
      refine W_seq ?_
      refine W_block ?_
      refine W_seq ?_
      refine W_region (by kernel_rfl) ?_
      refine stv (v := .pointer (some ⟨g, i, none⟩)) (by rfl) (R_index0 (b := g) (len := mm) (cap := mm) (k := .i64) (i := ((i : Nat) : Int)) (e := 3) i (by kernel_rfl) (by kernel_rfl) (by kernel_rfl) (by kernel_rfl) rfl (by first | omega | (simp only [List.length_set, List.length_map]; omega))) ?_
      refine st (by rfl) (S_val (v := .int .i64 (l.getD i 0)) (R_load (v := .int .i64 (l.getD i 0)) (by kernel_rfl) (by kernel_rfl) ((hG.cell _).trans (ints_at .i64 _ (by first | omega | (simp only [List.length_set, List.length_map]; omega))))) ?_)
      refine sg [(6, .int .i64 (l.getD i 0))] (by kernel_rfl) ?_
      refine op_nil ?_
      refine W_seq ?_
      refine W_draw (fun w' => Blk w' (g) 3 (ints .i64 l)) (by kernel_rfl) (by kernel_rfl) (by kernel_rfl) fun w3 hT4 hh5 => ?_
      have hT0 := hT0.t0 hT4
      have hG := hG.tch0 hT4
      refine dtk [0, 1, 2, 3, 4, 5, 6, 7, 9, 8, 10, 11, 12, 13, 14] #[true, true, true, true, true, true, true, true, true, true, true, true, true, true, true] [(13, .pointer none), (14, .bool true), (15, .bool true), (16, undef), (17, undef), (18, .bool true), (19, .bool true), (20, undef), (22, undef), (21, undef), (23, undef), (24, undef), (25, undef), (26, undef), (27, .bool true)] hG (by kernel_rfl) ?_
      refine d_done (by kernel_rfl) ?_
      refine W_cond true (by kernel_rfl) (by kernel_rfl) (fun _ => ?_) (fun h => nomatch h)
      refine W_seq ?_
      refine W_fg [(0, .pointer none), (6, .int .i64 (l.getD i 0)), (7, .slice (some ⟨g, 0, none⟩) mm mm), (8, .int .i64 (mm : Int)), (9, .int .i64 ((i : Nat) : Int)), (10, .bool (decide (((i : Nat) : Int) < (mm : Int)))), (27, .bool true)] (by kernel_rfl) fun ρ => ?_
      refine W_region (by kernel_rfl) ?_
      refine sg [(4, .bool true)] (by kernel_rfl) ?_
      refine op_nil ?_
      refine W_ret ?_
      exact ⟨_, Res_of (v := .bool true) (by kernel_rfl), ⟨rfl, hT0⟩⟩
    · replace hc2 : (mm : Int) ≤ ((i : Nat) : Int) := (Int.not_lt.1 (of_decide_eq_false hc2))
      exfalso; omega

end Go.Proofs.YtnlecdpiccgdpaaV
