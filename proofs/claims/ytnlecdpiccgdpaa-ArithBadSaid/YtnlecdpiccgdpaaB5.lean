/- Walks of functions of the program and of the document's texts. The conditions stand with each theorem. -/
import Derived.Test.YtnlecdpiccgdpaaVx13
import Derived.Test.YtnlecdpiccgdpaaProg
import Derived.Test.YtnlecdpiccgdpaaVx4
import Derived.Test.YtnlecdpiccgdpaaB4
set_option linter.unusedVariables false
set_option linter.unusedSimpArgs false
namespace Go.Proofs.YtnlecdpiccgdpaaV
open Go Go.RowKit Go.Proofs

set_option maxRecDepth 100000 in
theorem left_ok (n : Nat) (K J : Option Addr) (ck cj : Nat) (kn tr : List Bool) (C : Option Addr) (m0 cc : Nat) (c : List Nat) (w : World) (hK : RdW w 1 n K (boolsV kn)) (hJ : RdW w 1 n J (boolsV tr)) (hn : n < 2305843009213693952) (hC : RdW w 1 m0 C (nats c)) (hfit : ∀ x, x ∈ c → x / 2 < n) (hT : ∃ z, z ∈ c ∧ ¬ (Kn kn z ∧ hIs kn tr z = false)) : Ret Try.prog 75 [.agg #[.slice K n ck, .slice J n cj], .slice C m0 cc] w fun v w' => ∃ y, v = .tuple #[.int .i64 y, .bool true] ∧ LeftR kn tr c y ∧ Tch N0 w w' := by
  have lk := hK.lenb
  have lj := hJ.lenb
  have lc : c.length = m0 := by have := hC.1; rw [nats_length] at this; omega
  have hm63 := hC.2.1
  have hKc := hK
  have hJc := hJ
  have hCc := hC
  refine enter Try.func75 rfl rfl ?_
  refine W_seq ?_
  refine W_region (by kernel_rfl) ?_
  refine st (by rfl) (S_new (v := .pointer (some ⟨w.heap.size, 0, none⟩)) (ob := .cells #[.slice K n ck, .slice J n cj] 54) (by kernel_rfl) fun w1 hT2 hs3 hB4 => ?_)
  replace hB4 : Blk w1 (w.heap.size) 54 [.slice K n ck, .slice J n cj] := hB4
  have hT0 := hT2
  have hKc := hK.tch0 hT0
  have hJc := hJ.tch0 hT0
  have hCc := hC.tch0 hT0
  refine sg [(4, .int .i64 0), (5, .bool false)] (by kernel_rfl) ?_
  refine op_nil ?_
  refine W_seq ?_
  refine W_region (by kernel_rfl) ?_
  refine sg [(6, .int .i64 (-1))] (by kernel_rfl) ?_
  refine op_nil ?_
  refine W_seq ?_
  refine W_seq ?_
  refine W_region (by kernel_rfl) ?_
  refine sg [(7, .int .i64 0)] (by kernel_rfl) ?_
  refine op_nil ?_
  refine W_block ?_
  refine W_loop (fun m ρ w' => ∃ (a : Int) (i : Nat) (ρ0 : Env), ρ = updL ρ0 [(1, .slice C m0 cc), (2, .pointer (some ⟨w.heap.size, 0, none⟩)), (4, .int .i64 0), (5, .bool false), (6, .int .i64 a), (7, .int .i64 ((i : Nat) : Int))] ∧ (LInv kn tr c i a) ∧ (i ≤ m0) ∧ (-1 ≤ a) ∧ (a < i) ∧ Tch N0 w w' ∧ RdW w' 1 n K (boolsV kn) ∧ RdW w' 1 n J (boolsV tr) ∧ RdW w' 1 m0 C (nats c) ∧ Blk w' (w.heap.size) 54 [.slice K n ck, .slice J n cj] ∧ m = m0 - i) (m := m0 - 0) ?_ ?_
  · refine ⟨-1, 0, _, updL_self (by kernel_rfl), LInv.zero _ _ _, by omega, by omega, by omega, hT0, hKc, hJc, hCc, hB4, rfl⟩
  · rintro m ρ w5 ⟨a, i, ρ, rfl, h1, h2, h3, h4, hT0, hKc, hJc, hCc, hB4, rfl⟩
    have hfi : i < m0 → c.getD i 0 / 2 < n := fun h => hfit _ (gmem (by omega))
    refine W_seq ?_
    refine W_seq ?_
    refine W_region (by kernel_rfl) ?_
    refine sg [(10, .int .i64 ((i : Nat) : Int)), (11, .slice C m0 cc), (12, .int .i64 (m0 : Int)), (13, .bool (decide (((i : Nat) : Int) < (m0 : Int))))] (by kernel_rfl) ?_
    refine op_nil ?_
    refine W_cond (decide (((i : Nat) : Int) < (m0 : Int))) (by kernel_rfl) (by kernel_rfl) (fun hc6 => ?_) (fun hc6 => ?_)
    · replace hc6 : ((i : Nat) : Int) < (m0 : Int) := (of_decide_eq_true hc6)
      refine W_skip ?_
      refine W_seq ?_
      refine W_block ?_
      refine W_seq ?_
      refine W_seq ?_
      refine W_draw (fun w' => RdW w' 1 n K (boolsV kn) ∧ RdW w' 1 n J (boolsV tr) ∧ RdW w' 1 m0 C (nats c) ∧ Blk w' (w.heap.size) 54 [.slice K n ck, .slice J n cj]) (by kernel_rfl) (by kernel_rfl) (by kernel_rfl) fun w7 hT8 hh9 => ?_
      have hT0 := hT0.t0 hT8
      have hKc := hK.tch0 hT0
      have hJc := hJ.tch0 hT0
      have hCc := hC.tch0 hT0
      have hB4 := hB4.tch0 hT8
      refine dtk [1, 2] #[false, true, true, false, false, false, false] [(17, .slice C m0 cc), (18, .int .i64 ((i : Nat) : Int))] ⟨hKc, hJc, hCc, hB4⟩ (by kernel_rfl) ?_
      refine d_val (v := .agg #[.slice K n ck, .slice J n cj]) 0 (by rfl) (by kernel_rfl) (by kernel_rfl) (by kernel_rfl) (fun w' hs => by obtain ⟨hKc, hJc, hCc, hB4⟩ := hs; exact R_loadA [.slice K n ck, .slice J n cj] (by kernel_rfl) (by kernel_rfl) (by kernel_rfl) (fun k u hk => by rw [hB4.cell]; exact get_part _ 0 _ k u rfl hk)) ⟨hKc, hJc, hCc, hB4⟩ ?_
      refine d_val (v := ptrAt C i) 3 (by rfl) (by kernel_rfl) (by kernel_rfl) (by kernel_rfl) (fun w' hs => by obtain ⟨hKc, hJc, hCc, hB4⟩ := hs; exact R_indexRd1 (len := m0) (cap := cc) (k := .i64) (i := ((i : Nat) : Int)) (e := 3) i hCc (by kernel_rfl) (by kernel_rfl) (by kernel_rfl) (by kernel_rfl) rfl (by omega)) ⟨hKc, hJc, hCc, hB4⟩ ?_
      refine d_val (v := .int .i64 ((c.getD i 0 : Nat) : Int)) 4 (by rfl) (by kernel_rfl) (by kernel_rfl) (by kernel_rfl) (fun w' hs => by obtain ⟨hKc, hJc, hCc, hB4⟩ := hs; exact R_loadRd (v := .int .i64 ((c.getD i 0 : Nat) : Int)) hCc (by omega) (by kernel_rfl) (by kernel_rfl) (nats_at (l := c) (by omega))) ⟨hKc, hJc, hCc, hB4⟩ ?_
      refine d_one 5 (by kernel_rfl) (by rfl) (by kernel_rfl) (S_call (args := [.agg #[.slice K n ck, .slice J n cj], .int .i64 ((c.getD i 0 : Nat) : Int)]) (by kernel_rfl) (fits_ok n K ck (.slice J n cj) (c.getD i 0) _ (by omega)) ?_)
      rintro _ w10 ⟨rfl, hT11⟩
      have hT0 := hT0.t0 hT11
      have hKc := hK.tch0 hT0
      have hJc := hJ.tch0 hT0
      have hCc := hC.tch0 hT0
      have hB4 := hB4.tch0 hT11
      refine ⟨⟨hKc, hJc, hCc, hB4⟩, ?_⟩
      refine dtk [6] #[true, true, true, true, true, true, true] [(22, .bool (!(decide (c.getD i 0 / 2 < n))))] ⟨hKc, hJc, hCc, hB4⟩ (by kernel_rfl) ?_
      refine d_done (by kernel_rfl) ?_
      refine W_cond (!(decide (c.getD i 0 / 2 < n))) (by kernel_rfl) (by kernel_rfl) (fun hc12 => ?_) (fun hc12 => ?_)
      · replace hc12 : n ≤ c.getD i 0 / 2 := (Nat.not_lt.1 (of_decide_eq_false (not_t hc12)))
        exfalso; omega
      · replace hc12 : c.getD i 0 / 2 < n := (of_decide_eq_true (not_f hc12))
        refine W_skip ?_
        refine W_seq ?_
        refine W_fg [(1, .slice C m0 cc), (2, .pointer (some ⟨w.heap.size, 0, none⟩)), (4, .int .i64 0), (5, .bool false), (6, .int .i64 a), (7, .int .i64 ((i : Nat) : Int)), (13, .bool (decide (((i : Nat) : Int) < (m0 : Int)))), (22, .bool (!(decide (c.getD i 0 / 2 < n))))] (by kernel_rfl) fun ρ => ?_
        refine W_draw (fun w' => RdW w' 1 n K (boolsV kn) ∧ RdW w' 1 n J (boolsV tr) ∧ RdW w' 1 m0 C (nats c) ∧ Blk w' (w.heap.size) 54 [.slice K n ck, .slice J n cj]) (by kernel_rfl) (by kernel_rfl) (by kernel_rfl) fun w13 hT14 hh15 => ?_
        have hT0 := hT0.t0 hT14
        have hKc := hK.tch0 hT0
        have hJc := hJ.tch0 hT0
        have hCc := hC.tch0 hT0
        have hB4 := hB4.tch0 hT14
        refine dtk [1, 2] #[false, true, true, false, false, false, false, false, false, false, false] [(25, .slice C m0 cc), (26, .int .i64 ((i : Nat) : Int))] ⟨hKc, hJc, hCc, hB4⟩ (by kernel_rfl) ?_
        refine d_val (v := .agg #[.slice K n ck, .slice J n cj]) 0 (by rfl) (by kernel_rfl) (by kernel_rfl) (by kernel_rfl) (fun w' hs => by obtain ⟨hKc, hJc, hCc, hB4⟩ := hs; exact R_loadA [.slice K n ck, .slice J n cj] (by kernel_rfl) (by kernel_rfl) (by kernel_rfl) (fun k u hk => by rw [hB4.cell]; exact get_part _ 0 _ k u rfl hk)) ⟨hKc, hJc, hCc, hB4⟩ ?_
        refine d_val (v := ptrAt C i) 3 (by rfl) (by kernel_rfl) (by kernel_rfl) (by kernel_rfl) (fun w' hs => by obtain ⟨hKc, hJc, hCc, hB4⟩ := hs; exact R_indexRd1 (len := m0) (cap := cc) (k := .i64) (i := ((i : Nat) : Int)) (e := 3) i hCc (by kernel_rfl) (by kernel_rfl) (by kernel_rfl) (by kernel_rfl) rfl (by omega)) ⟨hKc, hJc, hCc, hB4⟩ ?_
        refine d_val (v := .int .i64 ((c.getD i 0 : Nat) : Int)) 4 (by rfl) (by kernel_rfl) (by kernel_rfl) (by kernel_rfl) (fun w' hs => by obtain ⟨hKc, hJc, hCc, hB4⟩ := hs; exact R_loadRd (v := .int .i64 ((c.getD i 0 : Nat) : Int)) hCc (by omega) (by kernel_rfl) (by kernel_rfl) (nats_at (l := c) (by omega))) ⟨hKc, hJc, hCc, hB4⟩ ?_
        refine d_one 5 (by kernel_rfl) (by rfl) (by kernel_rfl) (S_call (args := [.agg #[.slice K n ck, .slice J n cj], .int .i64 ((c.getD i 0 : Nat) : Int)]) (by kernel_rfl) (holds_ok n K J ck cj kn tr (c.getD i 0) _ hKc hJc (by omega) (by omega) (by omega)) ?_)
        rintro _ w16 ⟨rfl, hT17⟩
        have hT0 := hT0.t0 hT17
        have hKc := hK.tch0 hT0
        have hJc := hJ.tch0 hT0
        have hCc := hC.tch0 hT0
        have hB4 := hB4.tch0 hT17
        refine ⟨⟨hKc, hJc, hCc, hB4⟩, ?_⟩
        refine dtk [6, 7, 8, 9, 10] #[true, true, true, true, true, true, true, true, true, true, true] [(23, .tuple #[.bool (hIs kn tr (c.getD i 0)), .bool (kn.getD ((c.getD i 0) / 2) false)]), (30, .bool (hIs kn tr (c.getD i 0))), (31, .bool (kn.getD ((c.getD i 0) / 2) false)), (8, .bool (hIs kn tr (c.getD i 0))), (9, .bool (kn.getD ((c.getD i 0) / 2) false))] ⟨hKc, hJc, hCc, hB4⟩ (by kernel_rfl) ?_
        refine d_done (by kernel_rfl) ?_
        refine W_seq ?_
        refine W_seq ?_
        refine W_fg [(1, .slice C m0 cc), (2, .pointer (some ⟨w.heap.size, 0, none⟩)), (4, .int .i64 0), (5, .bool false), (6, .int .i64 a), (7, .int .i64 ((i : Nat) : Int)), (8, .bool (hIs kn tr (c.getD i 0))), (9, .bool (kn.getD ((c.getD i 0) / 2) false)), (13, .bool (decide (((i : Nat) : Int) < (m0 : Int)))), (22, .bool (!(decide (c.getD i 0 / 2 < n))))] (by kernel_rfl) fun ρ => ?_
        refine W_still (by kernel_rfl) (by kernel_rfl) (by kernel_rfl) fun w18 hT19 hh20 => ?_
        have hT0 := hT0.t0 hT19
        have hKc := hK.tch0 hT0
        have hJc := hJ.tch0 hT0
        have hCc := hC.tch0 hT0
        have hB4 := hB4.tch0 hT19
        refine qsg [(32, .bool (kn.getD ((c.getD i 0) / 2) false)), (33, .bool (kn.getD ((c.getD i 0) / 2) false))] (by kernel_rfl) ?_
        cases hb21 : kn.getD ((c.getD i 0) / 2) false
        · replace hb21 : kn.getD ((c.getD i 0) / 2) false = false := (hb21)
          refine qsg [(34, undef), (35, .bool false), (36, .bool false), (37, .bool false), (38, .bool true), (39, .bool true), (40, .int .i64 a), (41, .bool (decide (a ≥ 0))), (42, .bool (decide (a ≥ 0))), (43, .bool (decide (a ≥ 0)))] (by kernel_rfl) ?_
          cases hb22 : decide (a ≥ 0)
          · replace hb22 : a < 0 := (Int.not_le.1 (of_decide_eq_false hb22))
            refine qsg [(44, undef), (45, undef), (46, undef), (47, undef), (48, undef), (49, undef), (50, undef), (51, undef), (52, undef), (53, .bool false), (54, .bool false)] (by kernel_rfl) ?_
            refine q_nil ?_
            refine W_cond false (by kernel_rfl) (by kernel_rfl) (fun h => nomatch h) (fun _ => ?_)
            refine W_skip ?_
            refine W_seq ?_
            refine W_fg [(1, .slice C m0 cc), (2, .pointer (some ⟨w.heap.size, 0, none⟩)), (4, .int .i64 0), (5, .bool false), (6, .int .i64 a), (7, .int .i64 ((i : Nat) : Int)), (8, .bool (hIs kn tr (c.getD i 0))), (9, .bool false), (13, .bool (decide (((i : Nat) : Int) < (m0 : Int)))), (22, .bool (!(decide (c.getD i 0 / 2 < n)))), (54, .bool false)] (by kernel_rfl) fun ρ => ?_
            refine W_region (by kernel_rfl) ?_
            refine sg [(55, .bool false), (56, .bool true)] (by kernel_rfl) ?_
            refine op_nil ?_
            refine W_cond true (by kernel_rfl) (by kernel_rfl) (fun _ => ?_) (fun h => nomatch h)
            refine W_region (by kernel_rfl) ?_
            refine sg [(57, .int .i64 ((i : Nat) : Int)), (6, .int .i64 ((i : Nat) : Int))] (by kernel_rfl) ?_
            refine op_nil ?_
            refine W_region (by kernel_rfl) ?_
            refine sg [(14, .int .i64 ((i : Nat) : Int)), (15, .int .i64 (IntKind.i64.wrap (((i : Nat) : Int) + 1)))] (by kernel_rfl) ?_
            rw [show IntKind.i64.wrap (((i : Nat) : Int) + 1) = ((i : Nat) : Int) + 1 from wrap_i64 (by omega) (by omega)]
            refine fixR (y := ((i + 1 : Nat) : Int)) (by omega) ?_
            refine sg [(7, .int .i64 ((i + 1 : Nat) : Int))] (by kernel_rfl) ?_
            refine op_nil ?_
            refine ⟨_, ?_, ((i : Nat) : Int), i + 1, _, updL_self (by kernel_rfl), ?_, ?_, ?_, ?_, hT0, hKc, hJc, hCc, hB4, rfl⟩
            · omega
            · first | exact h1.known (by assumption) (by assumption) | exact h1.first (by assumption) (by omega) | exact h1.again (by assumption) (by omega) (by omega)
            · omega
            · omega
            · omega
          · replace hb22 : 0 ≤ a := (of_decide_eq_true hb22)
            refine qsg [(44, .slice C m0 cc), (45, .int .i64 a)] (by kernel_rfl) ?_
            refine q_val (v := ptrAt C a.toNat) (by kernel_rfl) (R_indexRd1 (len := m0) (cap := cc) (k := .i64) (i := a) (e := 3) a.toNat hCc (by kernel_rfl) (by kernel_rfl) (by kernel_rfl) (by kernel_rfl) (by omega) (by omega)) ?_
            refine q_val (v := .int .i64 ((c.getD a.toNat 0 : Nat) : Int)) (by kernel_rfl) (R_loadRd (v := .int .i64 ((c.getD a.toNat 0 : Nat) : Int)) hCc (by omega) (by kernel_rfl) (by kernel_rfl) (nats_at (l := c) (by omega))) ?_
            refine qsg [(48, .slice C m0 cc), (49, .int .i64 ((i : Nat) : Int))] (by kernel_rfl) ?_
            refine q_val (v := ptrAt C i) (by kernel_rfl) (R_indexRd1 (len := m0) (cap := cc) (k := .i64) (i := ((i : Nat) : Int)) (e := 3) i hCc (by kernel_rfl) (by kernel_rfl) (by kernel_rfl) (by kernel_rfl) rfl (by omega)) ?_
            refine q_val (v := .int .i64 ((c.getD i 0 : Nat) : Int)) (by kernel_rfl) (R_loadRd (v := .int .i64 ((c.getD i 0 : Nat) : Int)) hCc (by omega) (by kernel_rfl) (by kernel_rfl) (nats_at (l := c) (by omega))) ?_
            refine qsg [(52, .bool (((c.getD a.toNat 0 : Nat) : Int) != ((c.getD i 0 : Nat) : Int))), (53, .bool (((c.getD a.toNat 0 : Nat) : Int) != ((c.getD i 0 : Nat) : Int))), (54, .bool (((c.getD a.toNat 0 : Nat) : Int) != ((c.getD i 0 : Nat) : Int)))] (by kernel_rfl) ?_
            refine q_nil ?_
            refine W_cond (((c.getD a.toNat 0 : Nat) : Int) != ((c.getD i 0 : Nat) : Int)) (by kernel_rfl) (by kernel_rfl) (fun hc23 => ?_) (fun hc23 => ?_)
            · replace hc23 : ((c.getD a.toNat 0 : Nat) : Int) ≠ ((c.getD i 0 : Nat) : Int) := (bne_iff_ne.1 hc23)
              refine W_seq ?_
              refine W_fg [(1, .slice C m0 cc), (2, .pointer (some ⟨w.heap.size, 0, none⟩)), (4, .int .i64 0), (5, .bool false), (6, .int .i64 a), (7, .int .i64 ((i : Nat) : Int)), (8, .bool (hIs kn tr (c.getD i 0))), (9, .bool false), (13, .bool (decide (((i : Nat) : Int) < (m0 : Int)))), (22, .bool (!(decide (c.getD i 0 / 2 < n)))), (54, .bool (((c.getD a.toNat 0 : Nat) : Int) != ((c.getD i 0 : Nat) : Int)))] (by kernel_rfl) fun ρ => ?_
              refine W_region (by kernel_rfl) ?_
              refine sg [(4, .int .i64 (-1)), (5, .bool true)] (by kernel_rfl) ?_
              refine op_nil ?_
              refine W_ret ?_
              exact ⟨_, Res_of (v := .tuple #[.int .i64 (-1), .bool true]) (by kernel_rfl), ⟨_, rfl, by first | exact LInv.sat (i := i) (by omega) (by assumption) (by assumption) | exact h1.two (by omega) (by assumption) (by omega) (by omega) | exact (show LInv kn tr c c.length a by rw [show c.length = i by omega]; exact h1).fin (by omega), hT0⟩⟩
            · replace hc23 : ((c.getD a.toNat 0 : Nat) : Int) = ((c.getD i 0 : Nat) : Int) := (bne_eq_false_iff_eq.1 hc23)
              refine W_skip ?_
              refine W_seq ?_
              refine W_fg [(1, .slice C m0 cc), (2, .pointer (some ⟨w.heap.size, 0, none⟩)), (4, .int .i64 0), (5, .bool false), (6, .int .i64 a), (7, .int .i64 ((i : Nat) : Int)), (8, .bool (hIs kn tr (c.getD i 0))), (9, .bool false), (13, .bool (decide (((i : Nat) : Int) < (m0 : Int)))), (22, .bool (!(decide (c.getD i 0 / 2 < n)))), (54, .bool (((c.getD a.toNat 0 : Nat) : Int) != ((c.getD i 0 : Nat) : Int)))] (by kernel_rfl) fun ρ => ?_
              refine W_region (by kernel_rfl) ?_
              refine sg [(55, .bool false), (56, .bool true)] (by kernel_rfl) ?_
              refine op_nil ?_
              refine W_cond true (by kernel_rfl) (by kernel_rfl) (fun _ => ?_) (fun h => nomatch h)
              refine W_region (by kernel_rfl) ?_
              refine sg [(57, .int .i64 ((i : Nat) : Int)), (6, .int .i64 ((i : Nat) : Int))] (by kernel_rfl) ?_
              refine op_nil ?_
              refine W_region (by kernel_rfl) ?_
              refine sg [(14, .int .i64 ((i : Nat) : Int)), (15, .int .i64 (IntKind.i64.wrap (((i : Nat) : Int) + 1)))] (by kernel_rfl) ?_
              rw [show IntKind.i64.wrap (((i : Nat) : Int) + 1) = ((i : Nat) : Int) + 1 from wrap_i64 (by omega) (by omega)]
              refine fixR (y := ((i + 1 : Nat) : Int)) (by omega) ?_
              refine sg [(7, .int .i64 ((i + 1 : Nat) : Int))] (by kernel_rfl) ?_
              refine op_nil ?_
              refine ⟨_, ?_, ((i : Nat) : Int), i + 1, _, updL_self (by kernel_rfl), ?_, ?_, ?_, ?_, hT0, hKc, hJc, hCc, hB4, rfl⟩
              · omega
              · first | exact h1.known (by assumption) (by assumption) | exact h1.first (by assumption) (by omega) | exact h1.again (by assumption) (by omega) (by omega)
              · omega
              · omega
              · omega
        · replace hb21 : kn.getD ((c.getD i 0) / 2) false = true := (hb21)
          refine qsg [(34, .bool (hIs kn tr (c.getD i 0))), (35, .bool (hIs kn tr (c.getD i 0))), (36, .bool (hIs kn tr (c.getD i 0)))] (by kernel_rfl) ?_
          cases hb24 : hIs kn tr (c.getD i 0)
          · replace hb24 : hIs kn tr (c.getD i 0) = false := (hb24)
            refine qsg [(37, .bool true), (38, .bool false), (39, .bool false), (40, undef), (41, undef), (42, .bool false), (43, .bool false), (44, undef), (45, undef), (46, undef), (47, undef), (48, undef), (49, undef), (50, undef), (51, undef), (52, undef), (53, .bool false), (54, .bool false)] (by kernel_rfl) ?_
            refine q_nil ?_
            refine W_cond false (by kernel_rfl) (by kernel_rfl) (fun h => nomatch h) (fun _ => ?_)
            refine W_skip ?_
            refine W_seq ?_
            refine W_fg [(1, .slice C m0 cc), (2, .pointer (some ⟨w.heap.size, 0, none⟩)), (4, .int .i64 0), (5, .bool false), (6, .int .i64 a), (7, .int .i64 ((i : Nat) : Int)), (8, .bool false), (9, .bool true), (13, .bool (decide (((i : Nat) : Int) < (m0 : Int)))), (22, .bool (!(decide (c.getD i 0 / 2 < n)))), (54, .bool false)] (by kernel_rfl) fun ρ => ?_
            refine W_region (by kernel_rfl) ?_
            refine sg [(55, .bool true), (56, .bool false)] (by kernel_rfl) ?_
            refine op_nil ?_
            refine W_cond false (by kernel_rfl) (by kernel_rfl) (fun h => nomatch h) (fun _ => ?_)
            refine W_skip ?_
            refine W_region (by kernel_rfl) ?_
            refine sg [(14, .int .i64 ((i : Nat) : Int)), (15, .int .i64 (IntKind.i64.wrap (((i : Nat) : Int) + 1)))] (by kernel_rfl) ?_
            rw [show IntKind.i64.wrap (((i : Nat) : Int) + 1) = ((i : Nat) : Int) + 1 from wrap_i64 (by omega) (by omega)]
            refine fixR (y := ((i + 1 : Nat) : Int)) (by omega) ?_
            refine sg [(7, .int .i64 ((i + 1 : Nat) : Int))] (by kernel_rfl) ?_
            refine op_nil ?_
            refine ⟨_, ?_, a, i + 1, _, updL_self (by kernel_rfl), ?_, ?_, ?_, ?_, hT0, hKc, hJc, hCc, hB4, rfl⟩
            · omega
            · first | exact h1.known (by assumption) (by assumption) | exact h1.first (by assumption) (by omega) | exact h1.again (by assumption) (by omega) (by omega)
            · omega
            · omega
            · omega
          · replace hb24 : hIs kn tr (c.getD i 0) = true := (hb24)
            refine qsg [(37, undef), (38, undef), (39, undef), (40, undef), (41, undef), (42, undef), (43, undef), (44, undef), (45, undef), (46, undef), (47, undef), (48, undef), (49, undef), (50, undef), (51, undef), (52, undef), (53, undef), (54, .bool true)] (by kernel_rfl) ?_
            refine q_nil ?_
            refine W_cond true (by kernel_rfl) (by kernel_rfl) (fun _ => ?_) (fun h => nomatch h)
            refine W_seq ?_
            refine W_fg [(1, .slice C m0 cc), (2, .pointer (some ⟨w.heap.size, 0, none⟩)), (4, .int .i64 0), (5, .bool false), (6, .int .i64 a), (7, .int .i64 ((i : Nat) : Int)), (8, .bool true), (9, .bool true), (13, .bool (decide (((i : Nat) : Int) < (m0 : Int)))), (22, .bool (!(decide (c.getD i 0 / 2 < n)))), (54, .bool true)] (by kernel_rfl) fun ρ => ?_
            refine W_region (by kernel_rfl) ?_
            refine sg [(4, .int .i64 (-1)), (5, .bool true)] (by kernel_rfl) ?_
            refine op_nil ?_
            refine W_ret ?_
            exact ⟨_, Res_of (v := .tuple #[.int .i64 (-1), .bool true]) (by kernel_rfl), ⟨_, rfl, by first | exact LInv.sat (i := i) (by omega) (by assumption) (by assumption) | exact h1.two (by omega) (by assumption) (by omega) (by omega) | exact (show LInv kn tr c c.length a by rw [show c.length = i by omega]; exact h1).fin (by omega), hT0⟩⟩
    · replace hc6 : (m0 : Int) ≤ ((i : Nat) : Int) := (Int.not_lt.1 (of_decide_eq_false hc6))
      refine W_exit ?_
      refine X_hit ?_
      refine W_seq ?_
      refine W_seq ?_
      refine W_region (by kernel_rfl) ?_
      refine sg [(58, .int .i64 a), (59, .bool (decide (a < 0)))] (by kernel_rfl) ?_
      refine op_nil ?_
      refine W_cond (decide (a < 0)) (by kernel_rfl) (by kernel_rfl) (fun hc25 => ?_) (fun hc25 => ?_)
      · replace hc25 : a < 0 := (of_decide_eq_true hc25)
        exact (LInv.dead (by rw [show c.length = i by omega]; exact h1) hc25 hT).elim
      · replace hc25 : 0 ≤ a := (Int.not_lt.1 (of_decide_eq_false hc25))
        refine W_skip ?_
        refine W_seq ?_
        refine W_region (by kernel_rfl) ?_
        refine sg [(60, .slice C m0 cc), (61, .int .i64 a)] (by kernel_rfl) ?_
        refine stv (v := ptrAt C a.toNat) (by rfl) (R_indexRd1 (len := m0) (cap := cc) (k := .i64) (i := a) (e := 3) a.toNat hCc (by kernel_rfl) (by kernel_rfl) (by kernel_rfl) (by kernel_rfl) (by omega) (by omega)) ?_
        refine stv (v := .int .i64 ((c.getD a.toNat 0 : Nat) : Int)) (by rfl) (R_loadRd (v := .int .i64 ((c.getD a.toNat 0 : Nat) : Int)) hCc (by omega) (by kernel_rfl) (by kernel_rfl) (nats_at (l := c) (by omega))) ?_
        refine sg [(4, .int .i64 ((c.getD a.toNat 0 : Nat) : Int)), (5, .bool true)] (by kernel_rfl) ?_
        refine op_nil ?_
        refine W_ret ?_
        exact ⟨_, Res_of (v := .tuple #[.int .i64 ((c.getD a.toNat 0 : Nat) : Int), .bool true]) (by kernel_rfl), ⟨_, rfl, by first | exact LInv.sat (i := i) (by omega) (by assumption) (by assumption) | exact h1.two (by omega) (by assumption) (by omega) (by omega) | exact (show LInv kn tr c c.length a by rw [show c.length = i by omega]; exact h1).fin (by omega), hT0⟩⟩

end Go.Proofs.YtnlecdpiccgdpaaV
