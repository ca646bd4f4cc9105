/- Walks of functions of the program and of the document's texts. The conditions stand with each theorem. -/
import Derived.Test.YtnlecdpiccgdpaaVx13
import Derived.Test.YtnlecdpiccgdpaaProg
import Derived.Test.YtnlecdpiccgdpaaVx4
import Derived.Test.YtnlecdpiccgdpaaShiftP
set_option linter.unusedVariables false
set_option linter.unusedSimpArgs false
namespace Go.Proofs.YtnlecdpiccgdpaaV
open Go Go.RowKit Go.Proofs

set_option maxRecDepth 100000 in
theorem itr_bad (p ma mb ca cb : Nat) (A B : Option Addr) (a b : List Int) (c : Int) (w : World) (hA : RdW w 1 ma A (ints .i64 a)) (hB : RdW w 1 mb B (ints .i64 b)) (hb : c < 0 ∨ BadR ma a mb b) : Ret Try.prog 45 [.pointer (some ⟨p, 0, none⟩), .int .i64 c, .slice A ma ca, .slice B mb cb] w fun v w' => v = .slice none 0 0 ∧ Tch N0 w w' := by
  refine enter Try.func45 rfl rfl ?_
  refine W_seq ?_
  refine W_region (by kernel_rfl) ?_
  refine sg [(8, .slice none 0 0)] (by kernel_rfl) ?_
  refine op_nil ?_
  refine W_seq ?_
  refine W_seq ?_
  refine W_region (by kernel_rfl) ?_
  refine sg [(11, .int .i64 c), (12, .bool (decide (c < 0))), (13, .bool (decide (c < 0)))] (by kernel_rfl) ?_
  cases hb1 : decide (c < 0)
  · replace hb1 : 0 ≤ c := (Int.not_lt.1 (of_decide_eq_false hb1))
    refine sg [(14, .pointer (some ⟨p, 0, none⟩)), (15, .slice A ma ca), (16, .slice B mb cb)] (by kernel_rfl) ?_
    refine st (by kernel_rfl) (S_new (v := .slice (some ⟨w.heap.size, 0, none⟩) 2 2) (ob := .cells #[.slice A ma ca, .slice B mb cb] 27) (by kernel_rfl) fun w2 hT3 hs4 hB5 => ?_)
    replace hB5 : Blk w2 (w.heap.size) 27 [.slice A ma ca, .slice B mb cb] := hB5
    have hT0 := hT3
    have hbad : BadR ma a mb b := hb.resolve_left (by omega)
    refine st (by kernel_rfl) (S_call (args := [.pointer (some ⟨p, 0, none⟩), .slice (some ⟨w.heap.size, 0, none⟩) 2 2]) (by kernel_rfl) (fine_bad p (w.heap.size) ma mb ca cb A B a b _ hB5 (hA.tch0 hT0) (hB.tch0 hT0) hbad) ?_)
    rintro _ w6 ⟨rfl, hT7⟩
    have hT0 := hT0.t0 hT7
    have hB5 := hB5.tch0 hT7
    refine sg [(19, .bool true), (20, .bool true)] (by kernel_rfl) ?_
    refine op_nil ?_
    refine W_cond true (by kernel_rfl) (by kernel_rfl) (fun _ => ?_) (fun h => nomatch h)
    refine W_seq ?_
    refine W_fg [(0, .pointer (some ⟨p, 0, none⟩)), (1, .int .i64 c), (2, .slice A ma ca), (3, .slice B mb cb), (8, .slice none 0 0), (20, .bool true)] (by kernel_rfl) fun ρ => ?_
    refine W_region (by kernel_rfl) ?_
    refine sg [(8, .slice none 0 0)] (by kernel_rfl) ?_
    refine op_nil ?_
    refine W_ret ?_
    exact ⟨_, Res_of (v := .slice none 0 0) (by kernel_rfl), ⟨rfl, hT0⟩⟩
  · replace hb1 : c < 0 := (of_decide_eq_true hb1)
    refine sg [(14, undef), (15, undef), (16, undef), (17, undef), (18, undef), (19, undef), (20, .bool true)] (by kernel_rfl) ?_
    refine op_nil ?_
    refine W_cond true (by kernel_rfl) (by kernel_rfl) (fun _ => ?_) (fun h => nomatch h)
    refine W_seq ?_
    refine W_fg [(0, .pointer (some ⟨p, 0, none⟩)), (1, .int .i64 c), (2, .slice A ma ca), (3, .slice B mb cb), (8, .slice none 0 0), (20, .bool true)] (by kernel_rfl) fun ρ => ?_
    refine W_region (by kernel_rfl) ?_
    refine sg [(8, .slice none 0 0)] (by kernel_rfl) ?_
    refine op_nil ?_
    refine W_ret ?_
    exact ⟨_, Res_of (v := .slice none 0 0) (by kernel_rfl), ⟨rfl, Tch.refl _ _⟩⟩

set_option maxRecDepth 100000 in
theorem itr_nil (ma mb ca cb : Nat) (A B : Option Addr) (c : Int) (w : World) : Ret Try.prog 45 [.pointer none, .int .i64 c, .slice A ma ca, .slice B mb cb] w fun v w' => v = .slice none 0 0 ∧ Tch N0 w w' := by
  refine enter Try.func45 rfl rfl ?_
  refine W_seq ?_
  refine W_region (by kernel_rfl) ?_
  refine sg [(8, .slice none 0 0)] (by kernel_rfl) ?_
  refine op_nil ?_
  refine W_seq ?_
  refine W_seq ?_
  refine W_region (by kernel_rfl) ?_
  refine sg [(11, .int .i64 c), (12, .bool (decide (c < 0))), (13, .bool (decide (c < 0)))] (by kernel_rfl) ?_
  cases hb1 : decide (c < 0)
  · replace hb1 : 0 ≤ c := (Int.not_lt.1 (of_decide_eq_false hb1))
    refine sg [(14, .pointer none), (15, .slice A ma ca), (16, .slice B mb cb)] (by kernel_rfl) ?_
    refine st (by kernel_rfl) (S_new (v := .slice (some ⟨w.heap.size, 0, none⟩) 2 2) (ob := .cells #[.slice A ma ca, .slice B mb cb] 27) (by kernel_rfl) fun w2 hT3 hs4 hB5 => ?_)
    replace hB5 : Blk w2 (w.heap.size) 27 [.slice A ma ca, .slice B mb cb] := hB5
    have hT0 := hT3
    refine st (by kernel_rfl) (S_call (args := [.pointer none, .slice (some ⟨w.heap.size, 0, none⟩) 2 2]) (by kernel_rfl) (fine_nil 2 2 (w.heap.size) _) ?_)
    rintro _ w6 ⟨rfl, hT7⟩
    have hT0 := hT0.t0 hT7
    have hB5 := hB5.tch0 hT7
    refine sg [(19, .bool true), (20, .bool true)] (by kernel_rfl) ?_
    refine op_nil ?_
    refine W_cond true (by kernel_rfl) (by kernel_rfl) (fun _ => ?_) (fun h => nomatch h)
    refine W_seq ?_
    refine W_fg [(0, .pointer none), (1, .int .i64 c), (2, .slice A ma ca), (3, .slice B mb cb), (8, .slice none 0 0), (20, .bool true)] (by kernel_rfl) fun ρ => ?_
    refine W_region (by kernel_rfl) ?_
    refine sg [(8, .slice none 0 0)] (by kernel_rfl) ?_
    refine op_nil ?_
    refine W_ret ?_
    exact ⟨_, Res_of (v := .slice none 0 0) (by kernel_rfl), ⟨rfl, hT0⟩⟩
  · replace hb1 : c < 0 := (of_decide_eq_true hb1)
    refine sg [(14, undef), (15, undef), (16, undef), (17, undef), (18, undef), (19, undef), (20, .bool true)] (by kernel_rfl) ?_
    refine op_nil ?_
    refine W_cond true (by kernel_rfl) (by kernel_rfl) (fun _ => ?_) (fun h => nomatch h)
    refine W_seq ?_
    refine W_fg [(0, .pointer none), (1, .int .i64 c), (2, .slice A ma ca), (3, .slice B mb cb), (8, .slice none 0 0), (20, .bool true)] (by kernel_rfl) fun ρ => ?_
    refine W_region (by kernel_rfl) ?_
    refine sg [(8, .slice none 0 0)] (by kernel_rfl) ?_
    refine op_nil ?_
    refine W_ret ?_
    exact ⟨_, Res_of (v := .slice none 0 0) (by kernel_rfl), ⟨rfl, Tch.refl _ _⟩⟩

theorem R_shlP {P : Program} {ρ : Env} {w : World} {d : Option Tmp} {t u : TypeId} {x y : Operand} {ty : TypeId} {pos : String} {af : Array Edge} {g : Option (Nat × Bool)} (i : Nat) (hx : evR ρ x = .int .i64 1) (hy : evR ρ y = .int .i64 ((i : Nat) : Int)) (hi : i < 63) :
    (execOp (evR ρ) ⟨d, .binOp .shl t x y u, ty, pos, af, g⟩).run P w = .ok (.value (.int .i64 ((pw i : Nat) : Int))) w := by
  rw [R_shl (k := .i64) (k2 := .i64) (a := 1) (b := ((i : Nat) : Int)) i hx hy rfl (by show _ ≤ 64; omega), pw_i64 hi]

theorem mvB_zero {up : Bool} {m : Nat} {A : Nat → Bool} {fl : Bool} {B : Nat → Bool} {j : Nat} (hj : j < m) : mvB up m A fl (lowV m B 0) j = A j := by
  unfold mvB lowV
  cases up with
  | true => rw [if_pos rfl, if_pos (by omega)]; rfl
  | false => simp only [Bool.false_eq_true, if_false]; rw [if_pos (by omega)]; rfl

set_option maxRecDepth 100000 in
theorem moved_ok (mm ca : Nat) (A : Option Addr) (a : List Nat) (up : Bool) (sh fl : Nat) (w : World) (hA : RdW w 1 mm A (nats a)) (hm2 : mm ≤ 1000) (hs : sh ≤ 4611686018427387904) : Ret Try.prog 61 [.slice A mm ca, .int .i64 ((sh : Nat) : Int), .bool up, .int .i64 ((fl : Nat) : Int)] w fun v w' => ∃ g r, v = .slice (some ⟨g, 0, none⟩) mm mm ∧ r.length = mm ∧ Blk w' g 3 (nats r ++ []) ∧ w.heap.size ≤ g ∧ (∀ j, j < mm → r.getD j 0 = mvN up mm a sh fl j) ∧ Tch N0 w w' := by
  have hAc := hA
  have hla : a.length = mm := by have := hA.1; rw [nats_length] at this; omega
  refine enter Try.func61 rfl rfl ?_
  refine W_seq ?_
  refine W_region (by kernel_rfl) ?_
  refine sg [(8, .slice none 0 0)] (by kernel_rfl) ?_
  refine op_nil ?_
  refine W_seq ?_
  refine W_region (by kernel_rfl) ?_
  refine sg [(12, .slice A mm ca), (13, .int .i64 (mm : Int))] (by kernel_rfl) ?_
  refine st (by rfl) (S_make 27 3 (.int .i64 0) 1 8 (k1 := .i64) (k2 := .i64) (l := (mm : Int)) (c := (mm : Int)) (by kernel_rfl) (by kernel_rfl) (by kernel_rfl) (by kernel_rfl) (by omega) (by omega) (by omega) (by omega) fun w1 hT2 hs3 hB4 => ?_)
  replace hB4 : Blk w1 (w.heap.size) 3 (nats (List.replicate ((mm : Int).toNat) 0) ++ []) := by rw [← mz_nats]; exact hB4
  have hT0 := hT2
  have hAc := hA.tch0 hT0
  refine sg [(9, .slice (some ⟨w.heap.size, 0, none⟩) ((mm : Int).toNat) ((mm : Int).toNat))] (by kernel_rfl) ?_
  refine op_nil ?_
  refine W_seq ?_
  refine W_seq ?_
  refine W_region (by kernel_rfl) ?_
  refine sg [(15, .slice A mm ca), (16, .int .i64 (mm : Int)), (17, .int .i64 0)] (by kernel_rfl) ?_
  refine op_nil ?_
  refine W_block ?_
  refine W_loop (fun m ρ w' => ∃ (o : List Nat) (i : Nat) (ρ0 : Env), ρ = updL ρ0 [(0, .slice A mm ca), (1, .int .i64 ((sh : Nat) : Int)), (2, .bool up), (3, .int .i64 ((fl : Nat) : Int)), (8, .slice none 0 0), (9, .slice (some ⟨w.heap.size, 0, none⟩) ((mm : Int).toNat) ((mm : Int).toNat)), (16, .int .i64 (mm : Int)), (17, .int .i64 ((i : Nat) : Int))] ∧ (i ≤ mm) ∧ (o.length = mm) ∧ (∀ j, j < i → o.getD j 0 = mvN up mm a sh fl j) ∧ Tch N0 w w' ∧ RdW w' 1 mm A (nats a) ∧ Blk w' (w.heap.size) 3 (nats o ++ []) ∧ m = mm - i) (m := mm - 0) ?_ ?_
  · refine ⟨List.replicate mm 0, 0, _, updL_self (by kernel_rfl), by omega, by simp, (fun j h => by omega), hT0, hAc, hB4, rfl⟩
  · rintro m ρ w5 ⟨o, i, ρ, rfl, hi, hol, hmv, hT0, hAc, hOut, rfl⟩
    refine W_seq ?_
    refine W_region (by kernel_rfl) ?_
    refine sg [(18, .bool (decide (((i : Nat) : Int) < (mm : Int))))] (by kernel_rfl) ?_
    refine op_nil ?_
    refine W_seq ?_
    refine W_cond (decide (((i : Nat) : Int) < (mm : Int))) (by kernel_rfl) (by kernel_rfl) (fun hc6 => ?_) (fun hc6 => ?_)
    · replace hc6 : ((i : Nat) : Int) < (mm : Int) := (of_decide_eq_true hc6)
      refine W_skip ?_
      refine W_seq ?_
      refine W_block ?_
      refine W_seq ?_
      refine W_region (by kernel_rfl) ?_
      refine sg [(19, .int .i64 ((i : Nat) : Int)), (10, .int .i64 ((i : Nat) : Int))] (by kernel_rfl) ?_
      refine op_nil ?_
      refine W_seq ?_
      refine W_region (by kernel_rfl) ?_
      refine sg [(20, .int .i64 ((i : Nat) : Int)), (21, .int .i64 ((sh : Nat) : Int)), (22, .int .i64 (IntKind.i64.wrap (((i : Nat) : Int) + ((sh : Nat) : Int))))] (by kernel_rfl) ?_
      rw [show IntKind.i64.wrap (((i : Nat) : Int) + ((sh : Nat) : Int)) = ((i : Nat) : Int) + ((sh : Nat) : Int) from wrap_i64 (by omega) (by omega)]
      refine sg [(11, .int .i64 (((i : Nat) : Int) + ((sh : Nat) : Int)))] (by kernel_rfl) ?_
      refine op_nil ?_
      refine W_seq ?_
      refine W_seq ?_
      refine W_region (by kernel_rfl) ?_
      refine sg [(23, .bool up)] (by kernel_rfl) ?_
      refine op_nil ?_
      refine W_cond (up) (by kernel_rfl) (by kernel_rfl) (fun hc7 => ?_) (fun hc7 => ?_)
      · replace hc7 : up = true := (hc7)
        refine W_fg [(0, .slice A mm ca), (1, .int .i64 ((sh : Nat) : Int)), (2, .bool up), (3, .int .i64 ((fl : Nat) : Int)), (8, .slice none 0 0), (9, .slice (some ⟨w.heap.size, 0, none⟩) ((mm : Int).toNat) ((mm : Int).toNat)), (10, .int .i64 ((i : Nat) : Int)), (11, .int .i64 (((i : Nat) : Int) + ((sh : Nat) : Int))), (16, .int .i64 (mm : Int)), (17, .int .i64 ((i : Nat) : Int)), (18, .bool (decide (((i : Nat) : Int) < (mm : Int)))), (23, .bool up)] (by kernel_rfl) fun ρ => ?_
        refine W_region (by kernel_rfl) ?_
        refine sg [(24, .int .i64 ((i : Nat) : Int)), (25, .int .i64 ((sh : Nat) : Int)), (26, .int .i64 (IntKind.i64.wrap (((i : Nat) : Int) - ((sh : Nat) : Int))))] (by kernel_rfl) ?_
        rw [show IntKind.i64.wrap (((i : Nat) : Int) - ((sh : Nat) : Int)) = ((i : Nat) : Int) - ((sh : Nat) : Int) from wrap_i64 (by omega) (by omega)]
        refine sg [(11, .int .i64 (((i : Nat) : Int) - ((sh : Nat) : Int)))] (by kernel_rfl) ?_
        refine op_nil ?_
        refine W_seq ?_
        refine W_region (by kernel_rfl) ?_
        refine sg [(27, .slice (some ⟨w.heap.size, 0, none⟩) ((mm : Int).toNat) ((mm : Int).toNat)), (28, .int .i64 ((i : Nat) : Int)), (29, .int .i64 ((fl : Nat) : Int))] (by kernel_rfl) ?_
        refine stv (v := .pointer (some ⟨w.heap.size, i, none⟩)) (by rfl) (R_index0 (b := w.heap.size) (len := (mm : Int).toNat) (cap := (mm : Int).toNat) (k := .i64) (i := ((i : Nat) : Int)) (e := 3) i (by kernel_rfl) (by kernel_rfl) (by kernel_rfl) (by kernel_rfl) rfl (by first | omega | (simp only [List.length_set, List.length_map]; omega))) ?_
        refine st (by rfl) (S_store (b := w.heap.size) (j := i) (v := .int .i64 ((fl : Nat) : Int)) (by kernel_rfl) (by kernel_rfl) (by kernel_rfl) (by rfl) hOut (by rw [List.length_append, nats_length]; (first | omega | (simp only [List.length_set, List.length_map]; omega))) fun w8 hT9 hs10 hOut' => ?_)
        have hT0 := (hT0).then hT9 (fun c e => by have : c = w.heap.size := e; omega)
        have hAc := hA.tch0 hT0
        replace hOut : Blk w8 (w.heap.size) 3 (nats (o.set i fl) ++ []) := (nats_setP (l := o) (sp := []) (i := i) fl (by first | omega | (simp only [List.length_set, List.length_map]; omega))) ▸ hOut'
        refine op_nil ?_
        refine W_seq ?_
        refine W_fg [(0, .slice A mm ca), (1, .int .i64 ((sh : Nat) : Int)), (2, .bool up), (3, .int .i64 ((fl : Nat) : Int)), (8, .slice none 0 0), (9, .slice (some ⟨w.heap.size, 0, none⟩) ((mm : Int).toNat) ((mm : Int).toNat)), (10, .int .i64 ((i : Nat) : Int)), (11, .int .i64 (((i : Nat) : Int) - ((sh : Nat) : Int))), (16, .int .i64 (mm : Int)), (17, .int .i64 ((i : Nat) : Int)), (18, .bool (decide (((i : Nat) : Int) < (mm : Int)))), (23, .bool up)] (by kernel_rfl) fun ρ => ?_
        refine W_rcut (C := fun ρ' w' => ∃  (ρ0 : Env), ρ' = updL ρ0 [(0, .slice A mm ca), (1, .int .i64 ((sh : Nat) : Int)), (2, .bool up), (3, .int .i64 ((fl : Nat) : Int)), (8, .slice none 0 0), (9, .slice (some ⟨w.heap.size, 0, none⟩) ((mm : Int).toNat) ((mm : Int).toNat)), (10, .int .i64 ((i : Nat) : Int)), (11, .int .i64 (((i : Nat) : Int) - ((sh : Nat) : Int))), (16, .int .i64 (mm : Int)), (17, .int .i64 ((i : Nat) : Int)), (18, .bool (decide (((i : Nat) : Int) < (mm : Int)))), (23, .bool up), (38, .bool ((decide (((i : Nat) : Int) - ((sh : Nat) : Int) ≥ 0)) && (decide (((i : Nat) : Int) - ((sh : Nat) : Int) < (mm : Int)))))] ∧ Tch N0 w8 w') ?_ ?_
        · refine W_region (by kernel_rfl) ?_
          refine sg [(31, .int .i64 (((i : Nat) : Int) - ((sh : Nat) : Int))), (32, .bool (decide (((i : Nat) : Int) - ((sh : Nat) : Int) ≥ 0))), (33, .bool (decide (((i : Nat) : Int) - ((sh : Nat) : Int) ≥ 0)))] (by kernel_rfl) ?_
          cases hb11 : decide (((i : Nat) : Int) - ((sh : Nat) : Int) ≥ 0)
          · replace hb11 : ((i : Nat) : Int) - ((sh : Nat) : Int) < 0 := (Int.not_le.1 (of_decide_eq_false hb11))
            refine sg [(34, undef), (35, undef), (36, undef), (37, undef), (38, .bool false)] (by kernel_rfl) ?_
            refine op_nil ?_
            exact ⟨_, updL_self (by kernel_rfl), Tch.refl _ _⟩
          · replace hb11 : 0 ≤ ((i : Nat) : Int) - ((sh : Nat) : Int) := (of_decide_eq_true hb11)
            refine sg [(34, .int .i64 (((i : Nat) : Int) - ((sh : Nat) : Int))), (35, .slice A mm ca), (36, .int .i64 (mm : Int)), (37, .bool (decide (((i : Nat) : Int) - ((sh : Nat) : Int) < (mm : Int)))), (38, .bool (decide (((i : Nat) : Int) - ((sh : Nat) : Int) < (mm : Int))))] (by kernel_rfl) ?_
            refine op_nil ?_
            exact ⟨_, updL_self (by kernel_rfl), Tch.refl _ _⟩
        · rintro _ w12 ⟨ρ, rfl, hT13⟩
          have hT0 := hT0.t0 hT13
          have hAc := hA.tch0 hT0
          have hOut := hOut.tch0 hT13
          refine W_cond (((decide (((i : Nat) : Int) - ((sh : Nat) : Int) ≥ 0)) && (decide (((i : Nat) : Int) - ((sh : Nat) : Int) < (mm : Int))))) (by kernel_rfl) (by kernel_rfl) (fun hc14 => ?_) (fun hc14 => ?_)
          · replace hc14 : (0 ≤ ((i : Nat) : Int) - ((sh : Nat) : Int)) ∧ (((i : Nat) : Int) - ((sh : Nat) : Int) < (mm : Int)) := ⟨(of_decide_eq_true (Bool.and_eq_true_iff.1 hc14).1), (of_decide_eq_true (Bool.and_eq_true_iff.1 hc14).2)⟩
            refine W_region (by kernel_rfl) ?_
            refine sg [(39, .slice (some ⟨w.heap.size, 0, none⟩) ((mm : Int).toNat) ((mm : Int).toNat)), (40, .int .i64 ((i : Nat) : Int)), (41, .slice A mm ca), (42, .int .i64 (((i : Nat) : Int) - ((sh : Nat) : Int)))] (by kernel_rfl) ?_
            refine stv (v := ptrAt A ((((i : Nat) : Int) - ((sh : Nat) : Int)).toNat)) (by rfl) (R_indexRd1 (len := mm) (cap := ca) (k := .i64) (i := ((i : Nat) : Int) - ((sh : Nat) : Int)) (e := 3) ((((i : Nat) : Int) - ((sh : Nat) : Int)).toNat) hAc (by kernel_rfl) (by kernel_rfl) (by kernel_rfl) (by kernel_rfl) (by omega) (by omega)) ?_
            refine stv (v := .int .i64 ((a.getD ((((i : Nat) : Int) - ((sh : Nat) : Int)).toNat) 0 : Nat) : Int)) (by rfl) (R_loadRd (v := .int .i64 ((a.getD ((((i : Nat) : Int) - ((sh : Nat) : Int)).toNat) 0 : Nat) : Int)) hAc (by omega) (by kernel_rfl) (by kernel_rfl) (nats_at (l := a) (by omega))) ?_
            refine stv (v := .pointer (some ⟨w.heap.size, i, none⟩)) (by rfl) (R_index0 (b := w.heap.size) (len := (mm : Int).toNat) (cap := (mm : Int).toNat) (k := .i64) (i := ((i : Nat) : Int)) (e := 3) i (by kernel_rfl) (by kernel_rfl) (by kernel_rfl) (by kernel_rfl) rfl (by first | omega | (simp only [List.length_set, List.length_map]; omega))) ?_
            refine st (by rfl) (S_store (b := w.heap.size) (j := i) (v := .int .i64 ((a.getD ((((i : Nat) : Int) - ((sh : Nat) : Int)).toNat) 0 : Nat) : Int)) (by kernel_rfl) (by kernel_rfl) (by kernel_rfl) (by rfl) hOut (by rw [List.length_append, nats_length]; (first | omega | (simp only [List.length_set, List.length_map]; omega))) fun w15 hT16 hs17 hOut' => ?_)
            have hT0 := (hT0).then hT16 (fun c e => by have : c = w.heap.size := e; omega)
            have hAc := hA.tch0 hT0
            replace hOut : Blk w15 (w.heap.size) 3 (nats ((o.set i fl).set i (a.getD ((((i : Nat) : Int) - ((sh : Nat) : Int)).toNat) 0)) ++ []) := (nats_setP (l := o.set i fl) (sp := []) (i := i) (a.getD ((((i : Nat) : Int) - ((sh : Nat) : Int)).toNat) 0) (by first | omega | (simp only [List.length_set, List.length_map]; omega))) ▸ hOut'
            refine op_nil ?_
            refine W_region (by kernel_rfl) ?_
            refine sg [(46, .int .i64 (IntKind.i64.wrap (((i : Nat) : Int) + 1)))] (by kernel_rfl) ?_
            rw [show IntKind.i64.wrap (((i : Nat) : Int) + 1) = ((i : Nat) : Int) + 1 from wrap_i64 (by omega) (by omega)]
            refine fixR (y := ((i + 1 : Nat) : Int)) (by omega) ?_
            refine sg [(17, .int .i64 ((i + 1 : Nat) : Int))] (by kernel_rfl) ?_
            refine op_nil ?_
            refine ⟨_, ?_, (o.set i fl).set i (a.getD ((((i : Nat) : Int) - ((sh : Nat) : Int)).toNat) 0), i + 1, _, updL_self (by kernel_rfl), ?_, by rw [List.length_set, List.length_set]; exact hol, mv_put2 (by omega) hmv (by unfold mvN; (repeat' split) <;> first | rfl | (exfalso; omega) | (exfalso; simp_all; done) | (congr 1; omega)), hT0, hAc, hOut, rfl⟩
            · omega
            · omega
          · replace hc14 : (((i : Nat) : Int) - ((sh : Nat) : Int) < 0) ∨ ((mm : Int) ≤ ((i : Nat) : Int) - ((sh : Nat) : Int)) := (Bool.and_eq_false_iff.1 hc14).imp (fun h => (Int.not_le.1 (of_decide_eq_false h))) (fun h => (Int.not_lt.1 (of_decide_eq_false h)))
            refine W_skip ?_
            refine W_region (by kernel_rfl) ?_
            refine sg [(46, .int .i64 (IntKind.i64.wrap (((i : Nat) : Int) + 1)))] (by kernel_rfl) ?_
            rw [show IntKind.i64.wrap (((i : Nat) : Int) + 1) = ((i : Nat) : Int) + 1 from wrap_i64 (by omega) (by omega)]
            refine fixR (y := ((i + 1 : Nat) : Int)) (by omega) ?_
            refine sg [(17, .int .i64 ((i + 1 : Nat) : Int))] (by kernel_rfl) ?_
            refine op_nil ?_
            refine ⟨_, ?_, o.set i fl, i + 1, _, updL_self (by kernel_rfl), ?_, by rw [List.length_set]; exact hol, mv_put (by omega) hmv (by unfold mvN; (repeat' split) <;> first | rfl | (exfalso; omega) | (exfalso; simp_all; done) | (congr 1; omega)), hT0, hAc, hOut, rfl⟩
            · omega
            · omega
      · replace hc7 : up = false := (hc7)
        refine W_skip ?_
        refine W_seq ?_
        refine W_fg [(0, .slice A mm ca), (1, .int .i64 ((sh : Nat) : Int)), (2, .bool up), (3, .int .i64 ((fl : Nat) : Int)), (8, .slice none 0 0), (9, .slice (some ⟨w.heap.size, 0, none⟩) ((mm : Int).toNat) ((mm : Int).toNat)), (10, .int .i64 ((i : Nat) : Int)), (11, .int .i64 (((i : Nat) : Int) + ((sh : Nat) : Int))), (16, .int .i64 (mm : Int)), (17, .int .i64 ((i : Nat) : Int)), (18, .bool (decide (((i : Nat) : Int) < (mm : Int)))), (23, .bool up)] (by kernel_rfl) fun ρ => ?_
        refine W_region (by kernel_rfl) ?_
        refine sg [(27, .slice (some ⟨w.heap.size, 0, none⟩) ((mm : Int).toNat) ((mm : Int).toNat)), (28, .int .i64 ((i : Nat) : Int)), (29, .int .i64 ((fl : Nat) : Int))] (by kernel_rfl) ?_
        refine stv (v := .pointer (some ⟨w.heap.size, i, none⟩)) (by rfl) (R_index0 (b := w.heap.size) (len := (mm : Int).toNat) (cap := (mm : Int).toNat) (k := .i64) (i := ((i : Nat) : Int)) (e := 3) i (by kernel_rfl) (by kernel_rfl) (by kernel_rfl) (by kernel_rfl) rfl (by first | omega | (simp only [List.length_set, List.length_map]; omega))) ?_
        refine st (by rfl) (S_store (b := w.heap.size) (j := i) (v := .int .i64 ((fl : Nat) : Int)) (by kernel_rfl) (by kernel_rfl) (by kernel_rfl) (by rfl) hOut (by rw [List.length_append, nats_length]; (first | omega | (simp only [List.length_set, List.length_map]; omega))) fun w18 hT19 hs20 hOut' => ?_)
        have hT0 := (hT0).then hT19 (fun c e => by have : c = w.heap.size := e; omega)
        have hAc := hA.tch0 hT0
        replace hOut : Blk w18 (w.heap.size) 3 (nats (o.set i fl) ++ []) := (nats_setP (l := o) (sp := []) (i := i) fl (by first | omega | (simp only [List.length_set, List.length_map]; omega))) ▸ hOut'
        refine op_nil ?_
        refine W_seq ?_
        refine W_rcut (C := fun ρ' w' => ∃  (ρ0 : Env), ρ' = updL ρ0 [(0, .slice A mm ca), (1, .int .i64 ((sh : Nat) : Int)), (2, .bool up), (3, .int .i64 ((fl : Nat) : Int)), (8, .slice none 0 0), (9, .slice (some ⟨w.heap.size, 0, none⟩) ((mm : Int).toNat) ((mm : Int).toNat)), (10, .int .i64 ((i : Nat) : Int)), (11, .int .i64 (((i : Nat) : Int) + ((sh : Nat) : Int))), (16, .int .i64 (mm : Int)), (17, .int .i64 ((i : Nat) : Int)), (18, .bool (decide (((i : Nat) : Int) < (mm : Int)))), (23, .bool up), (38, .bool ((decide (((i : Nat) : Int) + ((sh : Nat) : Int) ≥ 0)) && (decide (((i : Nat) : Int) + ((sh : Nat) : Int) < (mm : Int)))))] ∧ Tch N0 w18 w') ?_ ?_
        · refine W_region (by kernel_rfl) ?_
          refine sg [(31, .int .i64 (((i : Nat) : Int) + ((sh : Nat) : Int))), (32, .bool (decide (((i : Nat) : Int) + ((sh : Nat) : Int) ≥ 0))), (33, .bool (decide (((i : Nat) : Int) + ((sh : Nat) : Int) ≥ 0)))] (by kernel_rfl) ?_
          cases hb21 : decide (((i : Nat) : Int) + ((sh : Nat) : Int) ≥ 0)
          · replace hb21 : ((i : Nat) : Int) + ((sh : Nat) : Int) < 0 := (Int.not_le.1 (of_decide_eq_false hb21))
            refine sg [(34, undef), (35, undef), (36, undef), (37, undef), (38, .bool false)] (by kernel_rfl) ?_
            refine op_nil ?_
            exact ⟨_, updL_self (by kernel_rfl), Tch.refl _ _⟩
          · replace hb21 : 0 ≤ ((i : Nat) : Int) + ((sh : Nat) : Int) := (of_decide_eq_true hb21)
            refine sg [(34, .int .i64 (((i : Nat) : Int) + ((sh : Nat) : Int))), (35, .slice A mm ca), (36, .int .i64 (mm : Int)), (37, .bool (decide (((i : Nat) : Int) + ((sh : Nat) : Int) < (mm : Int)))), (38, .bool (decide (((i : Nat) : Int) + ((sh : Nat) : Int) < (mm : Int))))] (by kernel_rfl) ?_
            refine op_nil ?_
            exact ⟨_, updL_self (by kernel_rfl), Tch.refl _ _⟩
        · rintro _ w22 ⟨ρ, rfl, hT23⟩
          have hT0 := hT0.t0 hT23
          have hAc := hA.tch0 hT0
          have hOut := hOut.tch0 hT23
          refine W_cond (((decide (((i : Nat) : Int) + ((sh : Nat) : Int) ≥ 0)) && (decide (((i : Nat) : Int) + ((sh : Nat) : Int) < (mm : Int))))) (by kernel_rfl) (by kernel_rfl) (fun hc24 => ?_) (fun hc24 => ?_)
          · replace hc24 : (0 ≤ ((i : Nat) : Int) + ((sh : Nat) : Int)) ∧ (((i : Nat) : Int) + ((sh : Nat) : Int) < (mm : Int)) := ⟨(of_decide_eq_true (Bool.and_eq_true_iff.1 hc24).1), (of_decide_eq_true (Bool.and_eq_true_iff.1 hc24).2)⟩
            refine W_region (by kernel_rfl) ?_
            refine sg [(39, .slice (some ⟨w.heap.size, 0, none⟩) ((mm : Int).toNat) ((mm : Int).toNat)), (40, .int .i64 ((i : Nat) : Int)), (41, .slice A mm ca), (42, .int .i64 (((i : Nat) : Int) + ((sh : Nat) : Int)))] (by kernel_rfl) ?_
            refine stv (v := ptrAt A ((((i : Nat) : Int) + ((sh : Nat) : Int)).toNat)) (by rfl) (R_indexRd1 (len := mm) (cap := ca) (k := .i64) (i := ((i : Nat) : Int) + ((sh : Nat) : Int)) (e := 3) ((((i : Nat) : Int) + ((sh : Nat) : Int)).toNat) hAc (by kernel_rfl) (by kernel_rfl) (by kernel_rfl) (by kernel_rfl) (by omega) (by omega)) ?_
            refine stv (v := .int .i64 ((a.getD ((((i : Nat) : Int) + ((sh : Nat) : Int)).toNat) 0 : Nat) : Int)) (by rfl) (R_loadRd (v := .int .i64 ((a.getD ((((i : Nat) : Int) + ((sh : Nat) : Int)).toNat) 0 : Nat) : Int)) hAc (by omega) (by kernel_rfl) (by kernel_rfl) (nats_at (l := a) (by omega))) ?_
            refine stv (v := .pointer (some ⟨w.heap.size, i, none⟩)) (by rfl) (R_index0 (b := w.heap.size) (len := (mm : Int).toNat) (cap := (mm : Int).toNat) (k := .i64) (i := ((i : Nat) : Int)) (e := 3) i (by kernel_rfl) (by kernel_rfl) (by kernel_rfl) (by kernel_rfl) rfl (by first | omega | (simp only [List.length_set, List.length_map]; omega))) ?_
            refine st (by rfl) (S_store (b := w.heap.size) (j := i) (v := .int .i64 ((a.getD ((((i : Nat) : Int) + ((sh : Nat) : Int)).toNat) 0 : Nat) : Int)) (by kernel_rfl) (by kernel_rfl) (by kernel_rfl) (by rfl) hOut (by rw [List.length_append, nats_length]; (first | omega | (simp only [List.length_set, List.length_map]; omega))) fun w25 hT26 hs27 hOut' => ?_)
            have hT0 := (hT0).then hT26 (fun c e => by have : c = w.heap.size := e; omega)
            have hAc := hA.tch0 hT0
            replace hOut : Blk w25 (w.heap.size) 3 (nats ((o.set i fl).set i (a.getD ((((i : Nat) : Int) + ((sh : Nat) : Int)).toNat) 0)) ++ []) := (nats_setP (l := o.set i fl) (sp := []) (i := i) (a.getD ((((i : Nat) : Int) + ((sh : Nat) : Int)).toNat) 0) (by first | omega | (simp only [List.length_set, List.length_map]; omega))) ▸ hOut'
            refine op_nil ?_
            refine W_region (by kernel_rfl) ?_
            refine sg [(46, .int .i64 (IntKind.i64.wrap (((i : Nat) : Int) + 1)))] (by kernel_rfl) ?_
            rw [show IntKind.i64.wrap (((i : Nat) : Int) + 1) = ((i : Nat) : Int) + 1 from wrap_i64 (by omega) (by omega)]
            refine fixR (y := ((i + 1 : Nat) : Int)) (by omega) ?_
            refine sg [(17, .int .i64 ((i + 1 : Nat) : Int))] (by kernel_rfl) ?_
            refine op_nil ?_
            refine ⟨_, ?_, (o.set i fl).set i (a.getD ((((i : Nat) : Int) + ((sh : Nat) : Int)).toNat) 0), i + 1, _, updL_self (by kernel_rfl), ?_, by rw [List.length_set, List.length_set]; exact hol, mv_put2 (by omega) hmv (by unfold mvN; (repeat' split) <;> first | rfl | (exfalso; omega) | (exfalso; simp_all; done) | (congr 1; omega)), hT0, hAc, hOut, rfl⟩
            · omega
            · omega
          · replace hc24 : (((i : Nat) : Int) + ((sh : Nat) : Int) < 0) ∨ ((mm : Int) ≤ ((i : Nat) : Int) + ((sh : Nat) : Int)) := (Bool.and_eq_false_iff.1 hc24).imp (fun h => (Int.not_le.1 (of_decide_eq_false h))) (fun h => (Int.not_lt.1 (of_decide_eq_false h)))
            refine W_skip ?_
            refine W_region (by kernel_rfl) ?_
            refine sg [(46, .int .i64 (IntKind.i64.wrap (((i : Nat) : Int) + 1)))] (by kernel_rfl) ?_
            rw [show IntKind.i64.wrap (((i : Nat) : Int) + 1) = ((i : Nat) : Int) + 1 from wrap_i64 (by omega) (by omega)]
            refine fixR (y := ((i + 1 : Nat) : Int)) (by omega) ?_
            refine sg [(17, .int .i64 ((i + 1 : Nat) : Int))] (by kernel_rfl) ?_
            refine op_nil ?_
            refine ⟨_, ?_, o.set i fl, i + 1, _, updL_self (by kernel_rfl), ?_, by rw [List.length_set]; exact hol, mv_put (by omega) hmv (by unfold mvN; (repeat' split) <;> first | rfl | (exfalso; omega) | (exfalso; simp_all; done) | (congr 1; omega)), hT0, hAc, hOut, rfl⟩
            · omega
            · omega
    · replace hc6 : (mm : Int) ≤ ((i : Nat) : Int) := (Int.not_lt.1 (of_decide_eq_false hc6))
      refine W_exit ?_
      refine X_hit ?_
      refine W_seq ?_
      refine W_region (by kernel_rfl) ?_
      refine sg [(47, .slice (some ⟨w.heap.size, 0, none⟩) ((mm : Int).toNat) ((mm : Int).toNat)), (8, .slice (some ⟨w.heap.size, 0, none⟩) ((mm : Int).toNat) ((mm : Int).toNat))] (by kernel_rfl) ?_
      refine op_nil ?_
      refine W_ret ?_
      exact ⟨_, Res_of (v := .slice (some ⟨w.heap.size, 0, none⟩) ((mm : Int).toNat) ((mm : Int).toNat)) (by kernel_rfl), ⟨_, o, rfl, hol, hOut, by omega, fun j h => hmv j (by omega), hT0⟩⟩

end Go.Proofs.YtnlecdpiccgdpaaV
