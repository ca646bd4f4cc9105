/- Walks of functions of the program and of the document's texts. The conditions stand with each theorem. -/
import Derived.Test.YtnlecdpiccgdpaaVx13
import Derived.Test.YtnlecdpiccgdpaaProg
import Derived.Test.YtnlecdpiccgdpaaVx4
import Derived.Test.YtnlecdpiccgdpaaRowP
set_option linter.unusedVariables false
set_option linter.unusedSimpArgs false
namespace Go.Proofs.YtnlecdpiccgdpaaV
open Go Go.RowKit Go.Proofs

set_option maxRecDepth 100000 in
theorem fine_ok (p k kc g : Nat) (Ra : Nat → Option Addr) (Rm Rc : Nat → Nat) (Rl : Nat → List Int) (cells : List Value) (w : World) (hG : RdW w 1 k (some ⟨g, 0, none⟩) cells) (hc : ∀ i, i < k → cells[i]? = some (.slice (Ra i) (Rm i) (Rc i))) (hr : ∀ i, i < k → RdW w 1 (Rm i) (Ra i) (ints .i64 (Rl i))) : Ret Try.prog 70 [.pointer (some ⟨p, 0, none⟩), .slice (some ⟨g, 0, none⟩) k kc] w fun v w' => ∃ r, v = .bool r ∧ (r = true ↔ ∀ i, i < k → 0 < Rm i ∧ Rm i = Rm 0 ∧ ∀ j, j < Rm i → 0 ≤ (Rl i).getD j 0) ∧ Tch N0 w w' := by
  have hk63 := hG.2.1
  refine enter Try.func70 rfl rfl ?_
  refine W_seq ?_
  refine W_region (by kernel_rfl) ?_
  refine sg [(4, .bool false)] (by kernel_rfl) ?_
  refine op_nil ?_
  refine W_seq ?_
  refine W_seq ?_
  refine W_region (by kernel_rfl) ?_
  refine sg [(9, .pointer (some ⟨p, 0, none⟩)), (10, .bool false)] (by kernel_rfl) ?_
  refine op_nil ?_
  refine W_cond false (by kernel_rfl) (by kernel_rfl) (fun h => nomatch h) (fun _ => ?_)
  refine W_skip ?_
  refine W_seq ?_
  refine W_seq ?_
  refine W_region (by kernel_rfl) ?_
  refine sg [(11, .slice (some ⟨g, 0, none⟩) k kc), (12, .int .i64 (k : Int)), (13, .int .i64 0)] (by kernel_rfl) ?_
  refine op_nil ?_
  refine W_block ?_
  refine W_loop (fun m ρ w' => ∃ (i : Nat) (ρ0 : Env), ρ = updL ρ0 [(1, .slice (some ⟨g, 0, none⟩) k kc), (4, .bool false), (11, .slice (some ⟨g, 0, none⟩) k kc), (12, .int .i64 (k : Int)), (13, .int .i64 ((i : Nat) : Int))] ∧ (i ≤ k) ∧ (∀ q, q < i → 0 < Rm q ∧ Rm q = Rm 0 ∧ ∀ j, j < Rm q → 0 ≤ (Rl q).getD j 0) ∧ w = w' ∧ m = k - i) (m := k - 0) ?_ ?_
  · refine ⟨0, _, updL_self (by kernel_rfl), by omega, (fun q h => by omega), rfl, rfl⟩
  · rintro m ρ w1 ⟨i, ρ, rfl, hi, hq, rfl, rfl⟩
    refine W_seq ?_
    refine W_region (by kernel_rfl) ?_
    refine sg [(14, .bool (decide (((i : Nat) : Int) < (k : Int))))] (by kernel_rfl) ?_
    refine op_nil ?_
    refine W_seq ?_
    refine W_cond (decide (((i : Nat) : Int) < (k : Int))) (by kernel_rfl) (by kernel_rfl) (fun hc2 => ?_) (fun hc2 => ?_)
    · replace hc2 : ((i : Nat) : Int) < (k : Int) := (of_decide_eq_true hc2)
      refine W_skip ?_
      refine W_seq ?_
      refine W_block ?_
      refine W_seq ?_
      refine W_region (by kernel_rfl) ?_
      refine stv (v := ptrAt (some ⟨g, 0, none⟩) i) (by rfl) (R_indexRd1 (len := k) (cap := kc) (k := .i64) (i := ((i : Nat) : Int)) (e := 27) i hG (by kernel_rfl) (by kernel_rfl) (by kernel_rfl) (by kernel_rfl) rfl (by omega)) ?_
      refine stv (v := .slice (Ra i) (Rm i) (Rc i)) (by rfl) (R_loadRd (v := .slice (Ra i) (Rm i) (Rc i)) hG (by omega) (by kernel_rfl) (by kernel_rfl) (hc i (by omega))) ?_
      refine sg [(6, .slice (Ra i) (Rm i) (Rc i))] (by kernel_rfl) ?_
      refine op_nil ?_
      refine W_seq ?_
      refine W_seq ?_
      refine W_region (by kernel_rfl) ?_
      refine sg [(17, .slice (Ra i) (Rm i) (Rc i)), (18, .int .i64 ((Rm i) : Int)), (19, .bool (((Rm i) : Int) == 0)), (20, .bool (((Rm i) : Int) == 0))] (by kernel_rfl) ?_
      cases hb3 : ((Rm i) : Int) == 0
      · replace hb3 : ((Rm i) : Int) ≠ 0 := (ne_of_beq_false hb3)
        refine sg [(21, .slice (Ra i) (Rm i) (Rc i)), (22, .int .i64 ((Rm i) : Int)), (23, .slice (some ⟨g, 0, none⟩) k kc)] (by kernel_rfl) ?_
        refine stv (v := ptrAt (some ⟨g, 0, none⟩) 0) (by kernel_rfl) (R_indexRd1 (len := k) (cap := kc) (k := .i64) (i := 0) (e := 27) 0 hG (by kernel_rfl) (by kernel_rfl) (by kernel_rfl) (by kernel_rfl) rfl (by omega)) ?_
        refine stv (v := .slice (Ra 0) (Rm 0) (Rc 0)) (by kernel_rfl) (R_loadRd (v := .slice (Ra 0) (Rm 0) (Rc 0)) hG (by omega) (by kernel_rfl) (by kernel_rfl) (hc 0 (by omega))) ?_
        refine sg [(26, .int .i64 ((Rm 0) : Int)), (27, .bool (((Rm i) : Int) != ((Rm 0) : Int))), (28, .bool (((Rm i) : Int) != ((Rm 0) : Int)))] (by kernel_rfl) ?_
        refine op_nil ?_
        refine W_cond (((Rm i) : Int) != ((Rm 0) : Int)) (by kernel_rfl) (by kernel_rfl) (fun hc4 => ?_) (fun hc4 => ?_)
        · replace hc4 : ((Rm i) : Int) ≠ ((Rm 0) : Int) := (bne_iff_ne.1 hc4)
          refine W_seq ?_
          refine W_fg [(1, .slice (some ⟨g, 0, none⟩) k kc), (4, .bool false), (6, .slice (Ra i) (Rm i) (Rc i)), (11, .slice (some ⟨g, 0, none⟩) k kc), (12, .int .i64 (k : Int)), (13, .int .i64 ((i : Nat) : Int)), (14, .bool (decide (((i : Nat) : Int) < (k : Int)))), (28, .bool (((Rm i) : Int) != ((Rm 0) : Int)))] (by kernel_rfl) fun ρ => ?_
          refine W_region (by kernel_rfl) ?_
          refine sg [(4, .bool false)] (by kernel_rfl) ?_
          refine op_nil ?_
          refine W_ret ?_
          exact ⟨_, Res_of (v := .bool false) (by kernel_rfl), ⟨false, rfl, ⟨(fun h => nomatch h), fun h => by have h1 := h i (by omega); omega⟩, Tch.refl _ _⟩⟩
        · replace hc4 : ((Rm i) : Int) = ((Rm 0) : Int) := (bne_eq_false_iff_eq.1 hc4)
          refine W_skip ?_
          refine W_seq ?_
          refine W_fg [(1, .slice (some ⟨g, 0, none⟩) k kc), (4, .bool false), (6, .slice (Ra i) (Rm i) (Rc i)), (11, .slice (some ⟨g, 0, none⟩) k kc), (12, .int .i64 (k : Int)), (13, .int .i64 ((i : Nat) : Int)), (14, .bool (decide (((i : Nat) : Int) < (k : Int)))), (28, .bool (((Rm i) : Int) != ((Rm 0) : Int)))] (by kernel_rfl) fun ρ => ?_
          have hm63 := (hr i (by omega)).2.1
          refine W_region (by kernel_rfl) ?_
          refine sg [(29, .slice (Ra i) (Rm i) (Rc i)), (30, .int .i64 ((Rm i) : Int)), (31, .int .i64 0)] (by kernel_rfl) ?_
          refine op_nil ?_
          refine W_block ?_
          refine W_loop (fun m ρ w' => ∃ (j : Nat) (ρ0 : Env), ρ = updL ρ0 [(1, .slice (some ⟨g, 0, none⟩) k kc), (4, .bool false), (11, .slice (some ⟨g, 0, none⟩) k kc), (12, .int .i64 (k : Int)), (13, .int .i64 ((i : Nat) : Int)), (29, .slice (Ra i) (Rm i) (Rc i)), (30, .int .i64 (Rm i : Int)), (31, .int .i64 ((j : Nat) : Int))] ∧ (j ≤ Rm i) ∧ (∀ z, z < j → 0 ≤ (Rl i).getD z 0) ∧ w = w' ∧ m = Rm i - j) (m := Rm i - 0) ?_ ?_
          · refine ⟨0, _, updL_self (by kernel_rfl), by omega, (fun q h => by omega), rfl, rfl⟩
          · rintro m ρ w5 ⟨j, ρ, rfl, hj, hj2, rfl, rfl⟩
            refine W_seq ?_
            refine W_region (by kernel_rfl) ?_
            refine sg [(32, .bool (decide (((j : Nat) : Int) < (Rm i : Int))))] (by kernel_rfl) ?_
            refine op_nil ?_
            refine W_seq ?_
            refine W_cond (decide (((j : Nat) : Int) < (Rm i : Int))) (by kernel_rfl) (by kernel_rfl) (fun hc6 => ?_) (fun hc6 => ?_)
            · replace hc6 : ((j : Nat) : Int) < (Rm i : Int) := (of_decide_eq_true hc6)
              refine W_skip ?_
              refine W_seq ?_
              refine W_block ?_
              refine W_seq ?_
              refine W_region (by kernel_rfl) ?_
              refine stv (v := ptrAt (Ra i) j) (by rfl) (R_indexRd1 (len := (Rm i)) (cap := (Rc i)) (k := .i64) (i := ((j : Nat) : Int)) (e := 3) j (hr i (by omega)) (by kernel_rfl) (by kernel_rfl) (by kernel_rfl) (by kernel_rfl) rfl (by omega)) ?_
              refine stv (v := .int .i64 ((Rl i).getD j 0)) (by rfl) (R_loadRd (v := .int .i64 ((Rl i).getD j 0)) (hr i (by omega)) (by omega) (by kernel_rfl) (by kernel_rfl) (ints_at .i64 _ (by have := (hr i (by omega)).1; simp [ints] at this; omega))) ?_
              refine sg [(8, .int .i64 ((Rl i).getD j 0))] (by kernel_rfl) ?_
              refine op_nil ?_
              refine W_seq ?_
              refine W_region (by kernel_rfl) ?_
              refine sg [(35, .int .i64 ((Rl i).getD j 0)), (36, .bool (decide ((Rl i).getD j 0 < 0)))] (by kernel_rfl) ?_
              refine op_nil ?_
              refine W_cond (decide ((Rl i).getD j 0 < 0)) (by kernel_rfl) (by kernel_rfl) (fun hc7 => ?_) (fun hc7 => ?_)
              · replace hc7 : (Rl i).getD j 0 < 0 := (of_decide_eq_true hc7)
                refine W_seq ?_
                refine W_region (by kernel_rfl) ?_
                refine sg [(4, .bool false)] (by kernel_rfl) ?_
                refine op_nil ?_
                refine W_ret ?_
                exact ⟨_, Res_of (v := .bool false) (by kernel_rfl), ⟨false, rfl, ⟨(fun h => nomatch h), fun h => by have := (h i (by omega)).2.2 j (by omega); omega⟩, Tch.refl _ _⟩⟩
              · replace hc7 : 0 ≤ (Rl i).getD j 0 := (Int.not_lt.1 (of_decide_eq_false hc7))
                refine W_skip ?_
                refine W_region (by kernel_rfl) ?_
                refine sg [(37, .int .i64 (IntKind.i64.wrap (((j : Nat) : Int) + 1)))] (by kernel_rfl) ?_
                rw [show IntKind.i64.wrap (((j : Nat) : Int) + 1) = ((j : Nat) : Int) + 1 from wrap_i64 (by omega) (by omega)]
                refine fixR (y := ((j + 1 : Nat) : Int)) (by omega) ?_
                refine sg [(31, .int .i64 ((j + 1 : Nat) : Int))] (by kernel_rfl) ?_
                refine op_nil ?_
                refine ⟨_, ?_, j + 1, _, updL_self (by kernel_rfl), ?_, ?_, rfl, rfl⟩
                · omega
                · omega
                · intro z hz; by_cases e : z = j; (subst e; omega); exact hj2 z (by omega)
            · replace hc6 : (Rm i : Int) ≤ ((j : Nat) : Int) := (Int.not_lt.1 (of_decide_eq_false hc6))
              refine W_exit ?_
              refine X_hit ?_
              refine W_region (by kernel_rfl) ?_
              refine sg [(38, .int .i64 (IntKind.i64.wrap (((i : Nat) : Int) + 1)))] (by kernel_rfl) ?_
              rw [show IntKind.i64.wrap (((i : Nat) : Int) + 1) = ((i : Nat) : Int) + 1 from wrap_i64 (by omega) (by omega)]
              refine fixR (y := ((i + 1 : Nat) : Int)) (by omega) ?_
              refine sg [(13, .int .i64 ((i + 1 : Nat) : Int))] (by kernel_rfl) ?_
              refine op_nil ?_
              refine ⟨_, ?_, i + 1, _, updL_self (by kernel_rfl), ?_, ?_, rfl, rfl⟩
              · omega
              · omega
              · intro q hq2; by_cases e : q = i; (subst e; exact ⟨by omega, by omega, fun z hz => hj2 z (by omega)⟩); exact hq q (by omega)
      · replace hb3 : ((Rm i) : Int) = 0 := (eq_of_beq hb3)
        refine sg [(21, undef), (22, undef), (23, undef), (24, undef), (25, undef), (26, undef), (27, undef), (28, .bool true)] (by kernel_rfl) ?_
        refine op_nil ?_
        refine W_cond true (by kernel_rfl) (by kernel_rfl) (fun _ => ?_) (fun h => nomatch h)
        refine W_seq ?_
        refine W_fg [(1, .slice (some ⟨g, 0, none⟩) k kc), (4, .bool false), (6, .slice (Ra i) (Rm i) (Rc i)), (11, .slice (some ⟨g, 0, none⟩) k kc), (12, .int .i64 (k : Int)), (13, .int .i64 ((i : Nat) : Int)), (14, .bool (decide (((i : Nat) : Int) < (k : Int)))), (28, .bool true)] (by kernel_rfl) fun ρ => ?_
        refine W_region (by kernel_rfl) ?_
        refine sg [(4, .bool false)] (by kernel_rfl) ?_
        refine op_nil ?_
        refine W_ret ?_
        exact ⟨_, Res_of (v := .bool false) (by kernel_rfl), ⟨false, rfl, ⟨(fun h => nomatch h), fun h => by have h1 := h i (by omega); omega⟩, Tch.refl _ _⟩⟩
    · replace hc2 : (k : Int) ≤ ((i : Nat) : Int) := (Int.not_lt.1 (of_decide_eq_false hc2))
      refine W_exit ?_
      refine X_hit ?_
      refine W_seq ?_
      refine W_region (by kernel_rfl) ?_
      refine sg [(4, .bool true)] (by kernel_rfl) ?_
      refine op_nil ?_
      refine W_ret ?_
      exact ⟨_, Res_of (v := .bool true) (by kernel_rfl), ⟨true, rfl, ⟨fun _ q h => hq q (by omega), fun _ => rfl⟩, Tch.refl _ _⟩⟩

set_option maxRecDepth 100000 in
theorem fine_nil (k kc g : Nat) (w : World) : Ret Try.prog 70 [.pointer none, .slice (some ⟨g, 0, none⟩) k kc] w fun v w' => v = .bool false ∧ Tch N0 w w' := by
  refine enter Try.func70 rfl rfl ?_
  refine W_seq ?_
  refine W_region (by kernel_rfl) ?_
  refine sg [(4, .bool false)] (by kernel_rfl) ?_
  refine op_nil ?_
  refine W_seq ?_
  refine W_seq ?_
  refine W_region (by kernel_rfl) ?_
  refine sg [(9, .pointer none), (10, .bool true)] (by kernel_rfl) ?_
  refine op_nil ?_
  refine W_cond true (by kernel_rfl) (by kernel_rfl) (fun _ => ?_) (fun h => nomatch h)
  refine W_seq ?_
  refine W_region (by kernel_rfl) ?_
  refine sg [(4, .bool false)] (by kernel_rfl) ?_
  refine op_nil ?_
  refine W_ret ?_
  exact ⟨_, Res_of (v := .bool false) (by kernel_rfl), ⟨rfl, Tch.refl _ _⟩⟩

theorem fine_two (p g ma mb ca cb : Nat) (A B : Option Addr) (a b : List Int) (w : World) (hG : Blk w g 27 [.slice A ma ca, .slice B mb cb]) (hA : RdW w 1 ma A (ints .i64 a)) (hB : RdW w 1 mb B (ints .i64 b)) : Ret Try.prog 70 [.pointer (some ⟨p, 0, none⟩), .slice (some ⟨g, 0, none⟩) 2 2] w fun v w' => ∃ r, v = .bool r ∧ (r = true ↔ 0 < ma ∧ ma = mb ∧ (∀ j, j < ma → 0 ≤ a.getD j 0) ∧ ∀ j, j < mb → 0 ≤ b.getD j 0) ∧ Tch N0 w w' := by
  refine (fine_ok p 2 2 g (fun i => if i = 0 then A else B) (fun i => if i = 0 then ma else mb) (fun i => if i = 0 then ca else cb) (fun i => if i = 0 then a else b) _ w (hG.rd 1 2 (by rfl) (by omega)) (fun i hi => ?_) (fun i hi => ?_)).mono fun v w' ⟨r, e, h, T⟩ => ⟨r, e, h.trans ⟨fun q => ?_, fun q i hi => ?_⟩, T⟩
  · rcases (show i = 0 ∨ i = 1 by omega) with rfl | rfl <;> rfl
  · rcases (show i = 0 ∨ i = 1 by omega) with rfl | rfl
    · exact hA
    · exact hB
  · have q0 := q 0 (by omega)
    have q1 := q 1 (by omega)
    simp only [if_true, Nat.one_ne_zero, if_false] at q0 q1
    exact ⟨q0.1, q1.2.1.symm, q0.2.2, q1.2.2⟩
  · rcases (show i = 0 ∨ i = 1 by omega) with rfl | rfl
    · exact ⟨q.1, rfl, q.2.2.1⟩
    · exact ⟨by have := q.1; have := q.2.1; simp only [Nat.one_ne_zero, if_false]; omega, q.2.1.symm, q.2.2.2⟩
theorem nneg (l : List Nat) (mm : Nat) : ∀ j, j < mm → 0 ≤ (l.map fun (x : Nat) => (x : Int)).getD j 0 := fun j _ => by
  rw [List.getD_eq_getElem?_getD, List.getElem?_map]
  cases l[j]? <;> simp
theorem fine_nats (p g mm ca cb : Nat) (A B : Option Addr) (a b : List Nat) (w : World) (hG : Blk w g 27 [.slice A mm ca, .slice B mm cb]) (hA : RdW w 1 mm A (nats a)) (hB : RdW w 1 mm B (nats b)) (hm : 0 < mm) : Ret Try.prog 70 [.pointer (some ⟨p, 0, none⟩), .slice (some ⟨g, 0, none⟩) 2 2] w fun v w' => v = .bool true ∧ Tch N0 w w' := by
  rw [nats_ints] at hA hB
  refine (fine_two p g mm mm ca cb A B _ _ w hG hA hB).mono fun v w' ⟨r, e, h, T⟩ => ⟨?_, T⟩
  rw [e, h.2 ⟨hm, rfl, nneg _ _, nneg _ _⟩]
/-- Rows that are none. -/
def BadR (ma : Nat) (a : List Int) (mb : Nat) (b : List Int) : Prop := ¬ (0 < ma ∧ ma = mb ∧ (∀ j, j < ma → 0 ≤ a.getD j 0) ∧ ∀ j, j < mb → 0 ≤ b.getD j 0)
theorem fine_bad (p g ma mb ca cb : Nat) (A B : Option Addr) (a b : List Int) (w : World) (hG : Blk w g 27 [.slice A ma ca, .slice B mb cb]) (hA : RdW w 1 ma A (ints .i64 a)) (hB : RdW w 1 mb B (ints .i64 b)) (hb : BadR ma a mb b) : Ret Try.prog 70 [.pointer (some ⟨p, 0, none⟩), .slice (some ⟨g, 0, none⟩) 2 2] w fun v w' => v = .bool false ∧ Tch N0 w w' := by
  refine (fine_two p g ma mb ca cb A B _ _ w hG hA hB).mono fun v w' ⟨r, e, h, T⟩ => ⟨?_, T⟩
  rw [e]
  cases r with
  | false => rfl
  | true => exact absurd (h.1 rfl) hb

set_option maxRecDepth 100000 in
theorem itr_ok (F : Nat → Prop) (p n mm ca cb : Nat) (A B : Option Addr) (a b : List Nat) (c : Nat) (cs : List (List Nat)) (I : Nat → Prop) (w : World) (hG : GObj F w p n cs I) (hA : RdX F w mm A (nats a)) (hB : RdX F w mm B (nats b)) (hfa : ∀ j, j < mm → a.getD j 0 / 2 < n) (hfb : ∀ j, j < mm → b.getD j 0 / 2 < n) (hm : 0 < mm) (hm2 : mm ≤ 1000) (hn : n ≤ 60000000000) (hc : c / 2 < n) : Ret Try.prog 45 [.pointer (some ⟨p, 0, none⟩), .int .i64 ((c : Nat) : Int), .slice A mm ca, .slice B mm cb] w fun v w' => RowR F p n cs I w mm mm (fun be j => ite_ (lt_ be c) (lt_ be (a.getD j 0)) (lt_ be (b.getD j 0))) v w' := by
  have hMv := Mv.refl F w
  have hla : a.length = mm := by have := hA.1.1; rw [nats_length] at this; omega
  have hlb : b.length = mm := by have := hB.1.1; rw [nats_length] at this; omega
  have hAr := hA.1
  have hBr := hB.1
  have lt_hA := hA.lt
  have lt_hB := hB.lt
  have ge_hA : ∀ c, blkOf A = some c → 0 ≤ c := fun c _ => Nat.zero_le c
  have ge_hB : ∀ c, blkOf B = some c → 0 ≤ c := fun c _ => Nat.zero_le c
  refine enter Try.func45 rfl rfl ?_
  refine W_seq ?_
  refine W_region (by kernel_rfl) ?_
  refine sg [(8, .slice none 0 0)] (by kernel_rfl) ?_
  refine op_nil ?_
  refine W_seq ?_
  refine W_seq ?_
  refine W_region (by kernel_rfl) ?_
  refine sg [(11, .int .i64 ((c : Nat) : Int)), (12, .bool (decide (((c : Nat) : Int) < 0))), (13, .bool (decide (((c : Nat) : Int) < 0)))] (by kernel_rfl) ?_
  cases hb1 : decide (((c : Nat) : Int) < 0)
  · replace hb1 : 0 ≤ ((c : Nat) : Int) := (Int.not_lt.1 (of_decide_eq_false hb1))
    refine sg [(14, .pointer (some ⟨p, 0, none⟩)), (15, .slice A mm ca), (16, .slice B mm cb)] (by kernel_rfl) ?_
    have hlt_ := hG.1.lt
    have hz6 := hMv.1.size
    refine st (by kernel_rfl) (S_new (v := .slice (some ⟨w.heap.size, 0, none⟩) 2 2) (ob := .cells #[.slice A mm ca, .slice B mm cb] 27) (by kernel_rfl) fun w2 hT3 hs4 hB5 => ?_)
    replace hB5 : Blk w2 (w.heap.size) 27 [.slice A mm ca, .slice B mm cb] := hB5
    have hG := hG.tch0 hT3
    have hMv := hMv.then0 hT3
    have hA := hA.tch0 hT3
    have hAr := hA.1
    have hB := hB.tch0 hT3
    have hBr := hB.1
    have nF_hB5 : ¬ F (w.heap.size) := fun e => by have := hlt_ _ e; omega
    refine st (by kernel_rfl) (S_call (args := [.pointer (some ⟨p, 0, none⟩), .slice (some ⟨w.heap.size, 0, none⟩) 2 2]) (by kernel_rfl) (fine_nats p (w.heap.size) mm ca cb A B _ _ _ hB5 hAr hBr (by omega)) ?_)
    rintro _ w7 ⟨rfl, hT8⟩
    have hG := hG.tch0 hT8
    have hMv := hMv.then0 hT8
    have hA := hA.tch0 hT8
    have hAr := hA.1
    have hB := hB.tch0 hT8
    have hBr := hB.1
    have hB5 := hB5.tch0 hT8
    refine sg [(19, .bool false), (20, .bool false)] (by kernel_rfl) ?_
    refine op_nil ?_
    refine W_cond false (by kernel_rfl) (by kernel_rfl) (fun h => nomatch h) (fun _ => ?_)
    refine W_skip ?_
    refine W_seq ?_
    refine W_fg [(0, .pointer (some ⟨p, 0, none⟩)), (1, .int .i64 ((c : Nat) : Int)), (2, .slice A mm ca), (3, .slice B mm cb), (8, .slice none 0 0), (20, .bool false)] (by kernel_rfl) fun ρ => ?_
    refine W_region (by kernel_rfl) ?_
    refine sg [(21, .slice A mm ca), (22, .int .i64 (mm : Int))] (by kernel_rfl) ?_
    have hlt_ := hG.1.lt
    have hz13 := hMv.1.size
    have lt14 := hB5.lt
    refine st (by rfl) (S_make 27 3 (.int .i64 0) 1 8 (k1 := .i64) (k2 := .i64) (l := (mm : Int)) (c := (mm : Int)) (by kernel_rfl) (by kernel_rfl) (by kernel_rfl) (by kernel_rfl) (by omega) (by omega) (by omega) (by omega) fun w9 hT10 hs11 hB12 => ?_)
    replace hB12 : Blk w9 (w7.heap.size) 3 (nats (List.replicate ((mm : Int).toNat) 0) ++ []) := by rw [← mz_nats]; exact hB12
    have hG := hG.tch0 hT10
    have hMv := hMv.then0 hT10
    have hA := hA.tch0 hT10
    have hAr := hA.1
    have hB := hB.tch0 hT10
    have hBr := hB.1
    have hB5 := hB5.tch0 hT10
    have nF_hB12 : ¬ F (w7.heap.size) := fun e => by have := hlt_ _ e; omega
    refine sg [(9, .slice (some ⟨w7.heap.size, 0, none⟩) ((mm : Int).toNat) ((mm : Int).toNat))] (by kernel_rfl) ?_
    refine op_nil ?_
    refine W_seq ?_
    refine W_seq ?_
    refine W_region (by kernel_rfl) ?_
    refine sg [(24, .slice (some ⟨w7.heap.size, 0, none⟩) ((mm : Int).toNat) ((mm : Int).toNat)), (25, .int .i64 ((mm : Int).toNat : Int)), (26, .int .i64 0)] (by kernel_rfl) ?_
    refine op_nil ?_
    refine W_block ?_
    refine W_loop (fun m ρ w' => ∃ (F1 : Nat → Prop) (n1 : Nat) (cs1 : List (List Nat)) (o : List Nat) (i : Nat) (ρ0 : Env), ρ = updL ρ0 [(0, .pointer (some ⟨p, 0, none⟩)), (1, .int .i64 ((c : Nat) : Int)), (2, .slice A mm ca), (3, .slice B mm cb), (8, .slice none 0 0), (9, .slice (some ⟨w7.heap.size, 0, none⟩) ((mm : Int).toNat) ((mm : Int).toNat)), (25, .int .i64 (mm : Int)), (26, .int .i64 ((i : Nat) : Int))] ∧ (i ≤ mm) ∧ (o.length = mm) ∧ (Rw n cs n1 cs1 i o (fun be j => ite_ (lt_ be c) (lt_ be (a.getD j 0)) (lt_ be (b.getD j 0)))) ∧ (n1 ≤ n + i) ∧ (¬ F1 (w7.heap.size)) ∧ GObj F1 w' p n1 cs1 I ∧ Mv F F1 w w' ∧ RdX F1 w' mm A (nats a) ∧ RdW w' 1 mm A (nats a) ∧ RdX F1 w' mm B (nats b) ∧ RdW w' 1 mm B (nats b) ∧ Blk w' (w7.heap.size) 3 (nats o ++ []) ∧ m = mm - i) (m := mm - 0) ?_ ?_
    · refine ⟨F, n, cs, List.replicate mm 0, 0, _, updL_self (by kernel_rfl), by omega, by simp, Rw.zero _ _ _ _, by omega, nF_hB12, hG, hMv, hA, hAr, hB, hBr, hB12, rfl⟩
    · rintro m ρ w15 ⟨F1, n1, cs1, o, i, ρ, rfl, hi, hol, hrw, hd, nF_hOut, hG, hMv, hA, hAr, hB, hBr, hOut, rfl⟩
      have hle_ := hrw.le
      have fa := fun q : i < mm => hfa i q
      have fb := fun q : i < mm => hfb i q
      have hpos := hG.2.pos
      refine W_seq ?_
      refine W_region (by kernel_rfl) ?_
      refine sg [(27, .bool (decide (((i : Nat) : Int) < (mm : Int))))] (by kernel_rfl) ?_
      refine op_nil ?_
      refine W_seq ?_
      refine W_cond (decide (((i : Nat) : Int) < (mm : Int))) (by kernel_rfl) (by kernel_rfl) (fun hc16 => ?_) (fun hc16 => ?_)
      · replace hc16 : ((i : Nat) : Int) < (mm : Int) := (of_decide_eq_true hc16)
        refine W_skip ?_
        refine W_seq ?_
        refine W_block ?_
        refine W_seq ?_
        refine W_region (by kernel_rfl) ?_
        refine sg [(28, .int .i64 ((i : Nat) : Int)), (10, .int .i64 ((i : Nat) : Int))] (by kernel_rfl) ?_
        refine op_nil ?_
        refine W_draw (fun w' => RdW w' 1 mm A (nats a) ∧ RdW w' 1 mm B (nats b)) (by kernel_rfl) (by kernel_rfl) (by kernel_rfl) fun w17 hT18 hh19 => ?_
        have hG := hG.tch0 hT18
        have hMv := hMv.then0 hT18
        have hA := hA.tch0 hT18
        have hAr := hA.1
        have hB := hB.tch0 hT18
        have hBr := hB.1
        have hOut := hOut.tch0 hT18
        refine dtk [0, 1, 2, 3, 4, 5, 8, 9] #[true, true, true, true, true, true, false, false, true, true, false, false, false, false, false] [(29, .slice (some ⟨w7.heap.size, 0, none⟩) ((mm : Int).toNat) ((mm : Int).toNat)), (30, .int .i64 ((i : Nat) : Int)), (31, .pointer (some ⟨p, 0, none⟩)), (32, .int .i64 ((c : Nat) : Int)), (33, .slice A mm ca), (34, .int .i64 ((i : Nat) : Int)), (37, .slice B mm cb), (38, .int .i64 ((i : Nat) : Int))] ⟨hAr, hBr⟩ (by kernel_rfl) ?_
        refine d_val (v := ptrAt A i) 6 (by rfl) (by kernel_rfl) (by kernel_rfl) (by kernel_rfl) (fun w' hs => by obtain ⟨hAr, hBr⟩ := hs; exact R_indexRd1 (len := mm) (cap := ca) (k := .i64) (i := ((i : Nat) : Int)) (e := 3) i hAr (by kernel_rfl) (by kernel_rfl) (by kernel_rfl) (by kernel_rfl) rfl (by omega)) ⟨hAr, hBr⟩ ?_
        refine d_val (v := .int .i64 ((a.getD i 0 : Nat) : Int)) 7 (by rfl) (by kernel_rfl) (by kernel_rfl) (by kernel_rfl) (fun w' hs => by obtain ⟨hAr, hBr⟩ := hs; exact R_loadRd (v := .int .i64 ((a.getD i 0 : Nat) : Int)) hAr (by omega) (by kernel_rfl) (by kernel_rfl) (nats_at (l := a) (by omega))) ⟨hAr, hBr⟩ ?_
        refine d_val (v := ptrAt B i) 10 (by rfl) (by kernel_rfl) (by kernel_rfl) (by kernel_rfl) (fun w' hs => by obtain ⟨hAr, hBr⟩ := hs; exact R_indexRd1 (len := mm) (cap := cb) (k := .i64) (i := ((i : Nat) : Int)) (e := 3) i hBr (by kernel_rfl) (by kernel_rfl) (by kernel_rfl) (by kernel_rfl) rfl (by omega)) ⟨hAr, hBr⟩ ?_
        refine d_val (v := .int .i64 ((b.getD i 0 : Nat) : Int)) 11 (by rfl) (by kernel_rfl) (by kernel_rfl) (by kernel_rfl) (fun w' hs => by obtain ⟨hAr, hBr⟩ := hs; exact R_loadRd (v := .int .i64 ((b.getD i 0 : Nat) : Int)) hBr (by omega) (by kernel_rfl) (by kernel_rfl) (nats_at (l := b) (by omega))) ⟨hAr, hBr⟩ ?_
        have lt28 := hOut.lt
        refine d_one 12 (by kernel_rfl) (by rfl) (by kernel_rfl) (S_call (args := [.pointer (some ⟨p, 0, none⟩), .int .i64 ((c : Nat) : Int), .int .i64 ((a.getD i 0 : Nat) : Int), .int .i64 ((b.getD i 0 : Nat) : Int)]) (by kernel_rfl) (ite_ok F1 p n1 c (a.getD i 0) (b.getD i 0) cs1 I _ hG (by omega) (by omega) (by omega) (by omega)) ?_)
        rintro _ w20 ⟨F21, n22, cs23, x24, rfl, hG, hm25, hr26, hd27⟩
        have hMv := hMv.trans hm25
        have hA := hA.mv hm25
        have hAr := hA.1
        have hB := hB.mv hm25
        have hBr := hB.1
        have hOut := hOut.tch hm25.1 nF_hOut
        have hxb29 := hr26.2.2.1
        have hle30 := hr26.1
        replace nF_hOut : ¬ F21 (w7.heap.size) := fun e => (hm25.2 _ e).elim nF_hOut (fun q => by omega)
        refine ⟨⟨hAr, hBr⟩, ?_⟩
        refine d_val (v := .pointer (some ⟨w7.heap.size, i, none⟩)) 13 (by rfl) (by kernel_rfl) (by kernel_rfl) (by kernel_rfl) (fun w' hs => by obtain ⟨hAr, hBr⟩ := hs; exact R_index0 (b := w7.heap.size) (len := (mm : Int).toNat) (cap := (mm : Int).toNat) (k := .i64) (i := ((i : Nat) : Int)) (e := 3) i (by kernel_rfl) (by kernel_rfl) (by kernel_rfl) (by kernel_rfl) rfl (by first | omega | (simp only [List.length_set, List.length_map]; omega))) ⟨hAr, hBr⟩ ?_
        refine d_one 14 (by kernel_rfl) (by rfl) (by kernel_rfl) (S_store (b := w7.heap.size) (j := i) (v := .int .i64 ((x24 : Nat) : Int)) (by kernel_rfl) (by kernel_rfl) (by kernel_rfl) (by rfl) hOut (by rw [List.length_append, nats_length]; (first | omega | (simp only [List.length_set, List.length_map]; omega))) fun w31 hT32 hs33 hOut' => ?_)
        have hG := hG.tchS hT32 (fun c e q => by cases e; exact nF_hOut q)
        have hMv := hMv.newst hT32 (by omega)
        have hA := hA.st hT32 (fun c hc e => by have h1 := lt_hA c hc; have h2 := ge_hA c hc; have : c = w7.heap.size := e; omega)
        have hAr := hA.1
        have hB := hB.st hT32 (fun c hc e => by have h1 := lt_hB c hc; have h2 := ge_hB c hc; have : c = w7.heap.size := e; omega)
        have hBr := hB.1
        replace hOut : Blk w31 (w7.heap.size) 3 (nats (o.set i x24) ++ []) := (nats_setP (l := o) (sp := []) (i := i) x24 (by first | omega | (simp only [List.length_set, List.length_map]; omega))) ▸ hOut'
        refine ⟨⟨hAr, hBr⟩, ?_⟩
        refine d_done (by kernel_rfl) ?_
        refine W_fg [(0, .pointer (some ⟨p, 0, none⟩)), (1, .int .i64 ((c : Nat) : Int)), (2, .slice A mm ca), (3, .slice B mm cb), (8, .slice none 0 0), (9, .slice (some ⟨w7.heap.size, 0, none⟩) ((mm : Int).toNat) ((mm : Int).toNat)), (10, .int .i64 ((i : Nat) : Int)), (25, .int .i64 (mm : Int)), (26, .int .i64 ((i : Nat) : Int)), (27, .bool (decide (((i : Nat) : Int) < (mm : Int))))] (by kernel_rfl) fun ρ => ?_
        refine W_region (by kernel_rfl) ?_
        refine sg [(43, .int .i64 (IntKind.i64.wrap (((i : Nat) : Int) + 1)))] (by kernel_rfl) ?_
        rw [show IntKind.i64.wrap (((i : Nat) : Int) + 1) = ((i : Nat) : Int) + 1 from wrap_i64 (by omega) (by omega)]
        refine fixR (y := ((i + 1 : Nat) : Int)) (by omega) ?_
        refine sg [(26, .int .i64 ((i + 1 : Nat) : Int))] (by kernel_rfl) ?_
        refine op_nil ?_
        refine ⟨_, ?_, F21, n22, cs23, o.set i x24, i + 1, _, updL_self (by kernel_rfl), ?_, by rw [List.length_set]; exact hol, hrw.step hr26 (by omega) (fun be hm => rfl), by omega, nF_hOut, hG, hMv, hA, hAr, hB, hBr, hOut, rfl⟩
        · omega
        · omega
      · replace hc16 : (mm : Int) ≤ ((i : Nat) : Int) := (Int.not_lt.1 (of_decide_eq_false hc16))
        refine W_exit ?_
        refine X_hit ?_
        refine W_seq ?_
        refine W_region (by kernel_rfl) ?_
        refine sg [(44, .slice (some ⟨w7.heap.size, 0, none⟩) ((mm : Int).toNat) ((mm : Int).toNat)), (8, .slice (some ⟨w7.heap.size, 0, none⟩) ((mm : Int).toNat) ((mm : Int).toNat))] (by kernel_rfl) ?_
        refine op_nil ?_
        refine W_ret ?_
        exact ⟨_, Res_of (v := .slice (some ⟨w7.heap.size, 0, none⟩) ((mm : Int).toNat) ((mm : Int).toNat)) (by kernel_rfl), ⟨F1, n1, cs1, w7.heap.size, o, rfl, hol, RdX.ofP hOut (by rw [nats_length]; exact hol) (by omega) nF_hOut, by omega, hG, hMv, (show i = mm by omega) ▸ hrw, by omega⟩⟩
  · replace hb1 : ((c : Nat) : Int) < 0 := (of_decide_eq_true hb1)
    exfalso; omega

end Go.Proofs.YtnlecdpiccgdpaaV
