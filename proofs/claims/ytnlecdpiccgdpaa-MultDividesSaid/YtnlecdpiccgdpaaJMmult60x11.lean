/- Texts laid together: Walks of functions of the program and of the document's texts. The conditions stand with each theorem. Walks of functions of the program and of the document's texts. The conditions stand with each theorem. Walks of functions of the program and of the document's texts. The conditions stand with each theorem. Signs: plain. -/
import Derived.Test.YtnlecdpiccgdpaaJMmult60x2
import Derived.Test.YtnlecdpiccgdpaaProg
import Derived.Test.YtnlecdpiccgdpaaJMmult60x1
import Derived.Test.YtnlecdpiccgdpaaJMmult60x7
import Derived.Test.YtnlecdpiccgdpaaJMmult60x10
import Derived.Test.YtnlecdpiccgdpaaJMmult60x8
set_option linter.unusedVariables false
set_option linter.unusedSimpArgs false
namespace Go.Proofs.YtnlecdpiccgdpaaV
open Go Go.RowKit Go.Proofs

set_option maxRecDepth 100000 in
theorem itr_bad (p ma mb ca cb : Nat) (A B : Option Addr) (a b : List Int) (c : Int) (w : World) (hA : RdW w 1 ma A (ints .i64 a)) (hB : RdW w 1 mb B (ints .i64 b)) (hb : c < 0 ∨ BadR ma a mb b) : Ret Try.prog 45 [.pointer (some ⟨p, 0, none⟩), .int .i64 c, .slice A ma ca, .slice B mb cb] w fun v w' => v = .slice none 0 0 ∧ Tch N0 w w' := by
  refine enter Try.func45 rfl rfl ?_
  refine W_seq ?_
  refine W_region (by kernel_rfl) ?_
  refine sg [(8, .slice none 0 0)] (by kernel_rfl) ?_
  refine op_nil ?_
  refine W_seq ?_
  refine W_seq ?_
  refine W_region (by kernel_rfl) ?_
  refine sg [(11, .int .i64 c), (12, .bool (decide (c < 0))), (13, .bool (decide (c < 0)))] (by kernel_rfl) ?_
  cases hb1 : decide (c < 0)
  · replace hb1 : 0 ≤ c := (Int.not_lt.1 (of_decide_eq_false hb1))
    refine sg [(14, .pointer (some ⟨p, 0, none⟩)), (15, .slice A ma ca), (16, .slice B mb cb)] (by kernel_rfl) ?_
    refine st (by kernel_rfl) (S_new (v := .slice (some ⟨w.heap.size, 0, none⟩) 2 2) (ob := .cells #[.slice A ma ca, .slice B mb cb] 27) (by kernel_rfl) fun w2 hT3 hs4 hB5 => ?_)
    replace hB5 : Blk w2 (w.heap.size) 27 [.slice A ma ca, .slice B mb cb] := hB5
    have hT0 := hT3
    have hbad : BadR ma a mb b := hb.resolve_left (by omega)
    refine st (by kernel_rfl) (S_call (args := [.pointer (some ⟨p, 0, none⟩), .slice (some ⟨w.heap.size, 0, none⟩) 2 2]) (by kernel_rfl) (fine_bad p (w.heap.size) ma mb ca cb A B a b _ hB5 (hA.tch0 hT0) (hB.tch0 hT0) hbad) ?_)
    rintro _ w6 ⟨rfl, hT7⟩
    have hT0 := hT0.t0 hT7
    have hB5 := hB5.tch0 hT7
    refine sg [(19, .bool true), (20, .bool true)] (by kernel_rfl) ?_
    refine op_nil ?_
    refine W_cond true (by kernel_rfl) (by kernel_rfl) (fun _ => ?_) (fun h => nomatch h)
    refine W_seq ?_
    refine W_fg [(0, .pointer (some ⟨p, 0, none⟩)), (1, .int .i64 c), (2, .slice A ma ca), (3, .slice B mb cb), (8, .slice none 0 0), (20, .bool true)] (by kernel_rfl) fun ρ => ?_
    refine W_region (by kernel_rfl) ?_
    refine sg [(8, .slice none 0 0)] (by kernel_rfl) ?_
    refine op_nil ?_
    refine W_ret ?_
    exact ⟨_, Res_of (v := .slice none 0 0) (by kernel_rfl), ⟨rfl, hT0⟩⟩
  · replace hb1 : c < 0 := (of_decide_eq_true hb1)
    refine sg [(14, undef), (15, undef), (16, undef), (17, undef), (18, undef), (19, undef), (20, .bool true)] (by kernel_rfl) ?_
    refine op_nil ?_
    refine W_cond true (by kernel_rfl) (by kernel_rfl) (fun _ => ?_) (fun h => nomatch h)
    refine W_seq ?_
    refine W_fg [(0, .pointer (some ⟨p, 0, none⟩)), (1, .int .i64 c), (2, .slice A ma ca), (3, .slice B mb cb), (8, .slice none 0 0), (20, .bool true)] (by kernel_rfl) fun ρ => ?_
    refine W_region (by kernel_rfl) ?_
    refine sg [(8, .slice none 0 0)] (by kernel_rfl) ?_
    refine op_nil ?_
    refine W_ret ?_
    exact ⟨_, Res_of (v := .slice none 0 0) (by kernel_rfl), ⟨rfl, Tch.refl _ _⟩⟩

set_option maxRecDepth 100000 in
theorem itr_nil (ma mb ca cb : Nat) (A B : Option Addr) (c : Int) (w : World) : Ret Try.prog 45 [.pointer none, .int .i64 c, .slice A ma ca, .slice B mb cb] w fun v w' => v = .slice none 0 0 ∧ Tch N0 w w' := by
  refine enter Try.func45 rfl rfl ?_
  refine W_seq ?_
  refine W_region (by kernel_rfl) ?_
  refine sg [(8, .slice none 0 0)] (by kernel_rfl) ?_
  refine op_nil ?_
  refine W_seq ?_
  refine W_seq ?_
  refine W_region (by kernel_rfl) ?_
  refine sg [(11, .int .i64 c), (12, .bool (decide (c < 0))), (13, .bool (decide (c < 0)))] (by kernel_rfl) ?_
  cases hb1 : decide (c < 0)
  · replace hb1 : 0 ≤ c := (Int.not_lt.1 (of_decide_eq_false hb1))
    refine sg [(14, .pointer none), (15, .slice A ma ca), (16, .slice B mb cb)] (by kernel_rfl) ?_
    refine st (by kernel_rfl) (S_new (v := .slice (some ⟨w.heap.size, 0, none⟩) 2 2) (ob := .cells #[.slice A ma ca, .slice B mb cb] 27) (by kernel_rfl) fun w2 hT3 hs4 hB5 => ?_)
    replace hB5 : Blk w2 (w.heap.size) 27 [.slice A ma ca, .slice B mb cb] := hB5
    have hT0 := hT3
    refine st (by kernel_rfl) (S_call (args := [.pointer none, .slice (some ⟨w.heap.size, 0, none⟩) 2 2]) (by kernel_rfl) (fine_nil 2 2 (w.heap.size) _) ?_)
    rintro _ w6 ⟨rfl, hT7⟩
    have hT0 := hT0.t0 hT7
    have hB5 := hB5.tch0 hT7
    refine sg [(19, .bool true), (20, .bool true)] (by kernel_rfl) ?_
    refine op_nil ?_
    refine W_cond true (by kernel_rfl) (by kernel_rfl) (fun _ => ?_) (fun h => nomatch h)
    refine W_seq ?_
    refine W_fg [(0, .pointer none), (1, .int .i64 c), (2, .slice A ma ca), (3, .slice B mb cb), (8, .slice none 0 0), (20, .bool true)] (by kernel_rfl) fun ρ => ?_
    refine W_region (by kernel_rfl) ?_
    refine sg [(8, .slice none 0 0)] (by kernel_rfl) ?_
    refine op_nil ?_
    refine W_ret ?_
    exact ⟨_, Res_of (v := .slice none 0 0) (by kernel_rfl), ⟨rfl, hT0⟩⟩
  · replace hb1 : c < 0 := (of_decide_eq_true hb1)
    refine sg [(14, undef), (15, undef), (16, undef), (17, undef), (18, undef), (19, undef), (20, .bool true)] (by kernel_rfl) ?_
    refine op_nil ?_
    refine W_cond true (by kernel_rfl) (by kernel_rfl) (fun _ => ?_) (fun h => nomatch h)
    refine W_seq ?_
    refine W_fg [(0, .pointer none), (1, .int .i64 c), (2, .slice A ma ca), (3, .slice B mb cb), (8, .slice none 0 0), (20, .bool true)] (by kernel_rfl) fun ρ => ?_
    refine W_region (by kernel_rfl) ?_
    refine sg [(8, .slice none 0 0)] (by kernel_rfl) ?_
    refine op_nil ?_
    refine W_ret ?_
    exact ⟨_, Res_of (v := .slice none 0 0) (by kernel_rfl), ⟨rfl, Tch.refl _ _⟩⟩

theorem R_shlP {P : Program} {ρ : Env} {w : World} {d : Option Tmp} {t u : TypeId} {x y : Operand} {ty : TypeId} {pos : String} {af : Array Edge} {g : Option (Nat × Bool)} (i : Nat) (hx : evR ρ x = .int .i64 1) (hy : evR ρ y = .int .i64 ((i : Nat) : Int)) (hi : i < 63) :
    (execOp (evR ρ) ⟨d, .binOp .shl t x y u, ty, pos, af, g⟩).run P w = .ok (.value (.int .i64 ((pw i : Nat) : Int))) w := by
  rw [R_shl (k := .i64) (k2 := .i64) (a := 1) (b := ((i : Nat) : Int)) i hx hy rfl (by show _ ≤ 64; omega), pw_i64 hi]

theorem mvB_zero {up : Bool} {m : Nat} {A : Nat → Bool} {fl : Bool} {B : Nat → Bool} {j : Nat} (hj : j < m) : mvB up m A fl (lowV m B 0) j = A j := by
  unfold mvB lowV
  cases up with
  | true => rw [if_pos rfl, if_pos (by omega)]; rfl
  | false => simp only [Bool.false_eq_true, if_false]; rw [if_pos (by omega)]; rfl

set_option maxRecDepth 100000 in
theorem moved_ok (mm ca : Nat) (A : Option Addr) (a : List Nat) (up : Bool) (sh fl : Nat) (w : World) (hA : RdW w 1 mm A (nats a)) (hm2 : mm ≤ 1000) (hs : sh ≤ 4611686018427387904) : Ret Try.prog 61 [.slice A mm ca, .int .i64 ((sh : Nat) : Int), .bool up, .int .i64 ((fl : Nat) : Int)] w fun v w' => ∃ g r, v = .slice (some ⟨g, 0, none⟩) mm mm ∧ r.length = mm ∧ Blk w' g 3 (nats r ++ []) ∧ w.heap.size ≤ g ∧ (∀ j, j < mm → r.getD j 0 = mvN up mm a sh fl j) ∧ Tch N0 w w' := by
  have hAc := hA
  have hla : a.length = mm := by have := hA.1; rw [nats_length] at this; omega
  refine enter Try.func61 rfl rfl ?_
  refine W_seq ?_
  refine W_region (by kernel_rfl) ?_
  refine sg [(8, .slice none 0 0)] (by kernel_rfl) ?_
  refine op_nil ?_
  refine W_seq ?_
  refine W_region (by kernel_rfl) ?_
  refine sg [(12, .slice A mm ca), (13, .int .i64 (mm : Int))] (by kernel_rfl) ?_
  refine st (by rfl) (S_make 27 3 (.int .i64 0) 1 8 (k1 := .i64) (k2 := .i64) (l := (mm : Int)) (c := (mm : Int)) (by kernel_rfl) (by kernel_rfl) (by kernel_rfl) (by kernel_rfl) (by omega) (by omega) (by omega) (by omega) fun w1 hT2 hs3 hB4 => ?_)
  replace hB4 : Blk w1 (w.heap.size) 3 (nats (List.replicate ((mm : Int).toNat) 0) ++ []) := by rw [← mz_nats]; exact hB4
  have hT0 := hT2
  have hAc := hA.tch0 hT0
  refine sg [(9, .slice (some ⟨w.heap.size, 0, none⟩) ((mm : Int).toNat) ((mm : Int).toNat))] (by kernel_rfl) ?_
  refine op_nil ?_
  refine W_seq ?_
  refine W_seq ?_
  refine W_region (by kernel_rfl) ?_
  refine sg [(15, .slice A mm ca), (16, .int .i64 (mm : Int)), (17, .int .i64 0)] (by kernel_rfl) ?_
  refine op_nil ?_
  refine W_block ?_
  refine W_loop (fun m ρ w' => ∃ (o : List Nat) (i : Nat) (ρ0 : Env), ρ = updL ρ0 [(0, .slice A mm ca), (1, .int .i64 ((sh : Nat) : Int)), (2, .bool up), (3, .int .i64 ((fl : Nat) : Int)), (8, .slice none 0 0), (9, .slice (some ⟨w.heap.size, 0, none⟩) ((mm : Int).toNat) ((mm : Int).toNat)), (16, .int .i64 (mm : Int)), (17, .int .i64 ((i : Nat) : Int))] ∧ (i ≤ mm) ∧ (o.length = mm) ∧ (∀ j, j < i → o.getD j 0 = mvN up mm a sh fl j) ∧ Tch N0 w w' ∧ RdW w' 1 mm A (nats a) ∧ Blk w' (w.heap.size) 3 (nats o ++ []) ∧ m = mm - i) (m := mm - 0) ?_ ?_
  · refine ⟨List.replicate mm 0, 0, _, updL_self (by kernel_rfl), by omega, by simp, (fun j h => by omega), hT0, hAc, hB4, rfl⟩
  · rintro m ρ w5 ⟨o, i, ρ, rfl, hi, hol, hmv, hT0, hAc, hOut, rfl⟩
    refine W_seq ?_
    refine W_region (by kernel_rfl) ?_
    refine sg [(18, .bool (decide (((i : Nat) : Int) < (mm : Int))))] (by kernel_rfl) ?_
    refine op_nil ?_
    refine W_seq ?_
    refine W_cond (decide (((i : Nat) : Int) < (mm : Int))) (by kernel_rfl) (by kernel_rfl) (fun hc6 => ?_) (fun hc6 => ?_)
    · replace hc6 : ((i : Nat) : Int) < (mm : Int) := (of_decide_eq_true hc6)
      refine W_skip ?_
      refine W_seq ?_
      refine W_block ?_
      refine W_seq ?_
      refine W_region (by kernel_rfl) ?_
      refine sg [(19, .int .i64 ((i : Nat) : Int)), (10, .int .i64 ((i : Nat) : Int))] (by kernel_rfl) ?_
      refine op_nil ?_
      refine W_seq ?_
      refine W_region (by kernel_rfl) ?_
      refine sg [(20, .int .i64 ((i : Nat) : Int)), (21, .int .i64 ((sh : Nat) : Int)), (22, .int .i64 (IntKind.i64.wrap (((i : Nat) : Int) + ((sh : Nat) : Int))))] (by kernel_rfl) ?_
      rw [show IntKind.i64.wrap (((i : Nat) : Int) + ((sh : Nat) : Int)) = ((i : Nat) : Int) + ((sh : Nat) : Int) from wrap_i64 (by omega) (by omega)]
      refine sg [(11, .int .i64 (((i : Nat) : Int) + ((sh : Nat) : Int)))] (by kernel_rfl) ?_
      refine op_nil ?_
      refine W_seq ?_
      refine W_seq ?_
      refine W_region (by kernel_rfl) ?_
      refine sg [(23, .bool up)] (by kernel_rfl) ?_
      refine op_nil ?_
      refine W_cond (up) (by kernel_rfl) (by kernel_rfl) (fun hc7 => ?_) (fun hc7 => ?_)
      · replace hc7 : up = true := (hc7)
        refine W_fg [(0, .slice A mm ca), (1, .int .i64 ((sh : Nat) : Int)), (2, .bool up), (3, .int .i64 ((fl : Nat) : Int)), (8, .slice none 0 0), (9, .slice (some ⟨w.heap.size, 0, none⟩) ((mm : Int).toNat) ((mm : Int).toNat)), (10, .int .i64 ((i : Nat) : Int)), (11, .int .i64 (((i : Nat) : Int) + ((sh : Nat) : Int))), (16, .int .i64 (mm : Int)), (17, .int .i64 ((i : Nat) : Int)), (18, .bool (decide (((i : Nat) : Int) < (mm : Int)))), (23, .bool up)] (by kernel_rfl) fun ρ => ?_
        refine W_region (by kernel_rfl) ?_
        refine sg [(24, .int .i64 ((i : Nat) : Int)), (25, .int .i64 ((sh : Nat) : Int)), (26, .int .i64 (IntKind.i64.wrap (((i : Nat) : Int) - ((sh : Nat) : Int))))] (by kernel_rfl) ?_
        rw [show IntKind.i64.wrap (((i : Nat) : Int) - ((sh : Nat) : Int)) = ((i : Nat) : Int) - ((sh : Nat) : Int) from wrap_i64 (by omega) (by omega)]
        refine sg [(11, .int .i64 (((i : Nat) : Int) - ((sh : Nat) : Int)))] (by kernel_rfl) ?_
        refine op_nil ?_
        refine W_seq ?_
        refine W_region (by kernel_rfl) ?_
        refine sg [(27, .slice (some ⟨w.heap.size, 0, none⟩) ((mm : Int).toNat) ((mm : Int).toNat)), (28, .int .i64 ((i : Nat) : Int)), (29, .int .i64 ((fl : Nat) : Int))] (by kernel_rfl) ?_
        refine stv (v := .pointer (some ⟨w.heap.size, i, none⟩)) (by rfl) (R_index0 (b := w.heap.size) (len := (mm : Int).toNat) (cap := (mm : Int).toNat) (k := .i64) (i := ((i : Nat) : Int)) (e := 3) i (by kernel_rfl) (by kernel_rfl) (by kernel_rfl) (by kernel_rfl) rfl (by first | omega | (simp only [List.length_set, List.length_map]; omega))) ?_
        refine st (by rfl) (S_store (b := w.heap.size) (j := i) (v := .int .i64 ((fl : Nat) : Int)) (by kernel_rfl) (by kernel_rfl) (by kernel_rfl) (by rfl) hOut (by rw [List.length_append, nats_length]; (first | omega | (simp only [List.length_set, List.length_map]; omega))) fun w8 hT9 hs10 hOut' => ?_)
        have hT0 := (hT0).then hT9 (fun c e => by have : c = w.heap.size := e; omega)
        have hAc := hA.tch0 hT0
        replace hOut : Blk w8 (w.heap.size) 3 (nats (o.set i fl) ++ []) := (nats_setP (l := o) (sp := []) (i := i) fl (by first | omega | (simp only [List.length_set, List.length_map]; omega))) ▸ hOut'
        refine op_nil ?_
        refine W_seq ?_
        refine W_fg [(0, .slice A mm ca), (1, .int .i64 ((sh : Nat) : Int)), (2, .bool up), (3, .int .i64 ((fl : Nat) : Int)), (8, .slice none 0 0), (9, .slice (some ⟨w.heap.size, 0, none⟩) ((mm : Int).toNat) ((mm : Int).toNat)), (10, .int .i64 ((i : Nat) : Int)), (11, .int .i64 (((i : Nat) : Int) - ((sh : Nat) : Int))), (16, .int .i64 (mm : Int)), (17, .int .i64 ((i : Nat) : Int)), (18, .bool (decide (((i : Nat) : Int) < (mm : Int)))), (23, .bool up)] (by kernel_rfl) fun ρ => ?_
        refine W_rcut (C := fun ρ' w' => ∃  (ρ0 : Env), ρ' = updL ρ0 [(0, .slice A mm ca), (1, .int .i64 ((sh : Nat) : Int)), (2, .bool up), (3, .int .i64 ((fl : Nat) : Int)), (8, .slice none 0 0), (9, .slice (some ⟨w.heap.size, 0, none⟩) ((mm : Int).toNat) ((mm : Int).toNat)), (10, .int .i64 ((i : Nat) : Int)), (11, .int .i64 (((i : Nat) : Int) - ((sh : Nat) : Int))), (16, .int .i64 (mm : Int)), (17, .int .i64 ((i : Nat) : Int)), (18, .bool (decide (((i : Nat) : Int) < (mm : Int)))), (23, .bool up), (38, .bool ((decide (((i : Nat) : Int) - ((sh : Nat) : Int) ≥ 0)) && (decide (((i : Nat) : Int) - ((sh : Nat) : Int) < (mm : Int)))))] ∧ Tch N0 w8 w') ?_ ?_
        · refine W_region (by kernel_rfl) ?_
          refine sg [(31, .int .i64 (((i : Nat) : Int) - ((sh : Nat) : Int))), (32, .bool (decide (((i : Nat) : Int) - ((sh : Nat) : Int) ≥ 0))), (33, .bool (decide (((i : Nat) : Int) - ((sh : Nat) : Int) ≥ 0)))] (by kernel_rfl) ?_
          cases hb11 : decide (((i : Nat) : Int) - ((sh : Nat) : Int) ≥ 0)
          · replace hb11 : ((i : Nat) : Int) - ((sh : Nat) : Int) < 0 := (Int.not_le.1 (of_decide_eq_false hb11))
            refine sg [(34, undef), (35, undef), (36, undef), (37, undef), (38, .bool false)] (by kernel_rfl) ?_
            refine op_nil ?_
            exact ⟨_, updL_self (by kernel_rfl), Tch.refl _ _⟩
          · replace hb11 : 0 ≤ ((i : Nat) : Int) - ((sh : Nat) : Int) := (of_decide_eq_true hb11)
            refine sg [(34, .int .i64 (((i : Nat) : Int) - ((sh : Nat) : Int))), (35, .slice A mm ca), (36, .int .i64 (mm : Int)), (37, .bool (decide (((i : Nat) : Int) - ((sh : Nat) : Int) < (mm : Int)))), (38, .bool (decide (((i : Nat) : Int) - ((sh : Nat) : Int) < (mm : Int))))] (by kernel_rfl) ?_
            refine op_nil ?_
            exact ⟨_, updL_self (by kernel_rfl), Tch.refl _ _⟩
        · rintro _ w12 ⟨ρ, rfl, hT13⟩
          have hT0 := hT0.t0 hT13
          have hAc := hA.tch0 hT0
          have hOut := hOut.tch0 hT13
          refine W_cond (((decide (((i : Nat) : Int) - ((sh : Nat) : Int) ≥ 0)) && (decide (((i : Nat) : Int) - ((sh : Nat) : Int) < (mm : Int))))) (by kernel_rfl) (by kernel_rfl) (fun hc14 => ?_) (fun hc14 => ?_)
          · replace hc14 : (0 ≤ ((i : Nat) : Int) - ((sh : Nat) : Int)) ∧ (((i : Nat) : Int) - ((sh : Nat) : Int) < (mm : Int)) := ⟨(of_decide_eq_true (Bool.and_eq_true_iff.1 hc14).1), (of_decide_eq_true (Bool.and_eq_true_iff.1 hc14).2)⟩
            refine W_region (by kernel_rfl) ?_
            refine sg [(39, .slice (some ⟨w.heap.size, 0, none⟩) ((mm : Int).toNat) ((mm : Int).toNat)), (40, .int .i64 ((i : Nat) : Int)), (41, .slice A mm ca), (42, .int .i64 (((i : Nat) : Int) - ((sh : Nat) : Int)))] (by kernel_rfl) ?_
            refine stv (v := ptrAt A ((((i : Nat) : Int) - ((sh : Nat) : Int)).toNat)) (by rfl) (R_indexRd1 (len := mm) (cap := ca) (k := .i64) (i := ((i : Nat) : Int) - ((sh : Nat) : Int)) (e := 3) ((((i : Nat) : Int) - ((sh : Nat) : Int)).toNat) hAc (by kernel_rfl) (by kernel_rfl) (by kernel_rfl) (by kernel_rfl) (by omega) (by omega)) ?_
            refine stv (v := .int .i64 ((a.getD ((((i : Nat) : Int) - ((sh : Nat) : Int)).toNat) 0 : Nat) : Int)) (by rfl) (R_loadRd (v := .int .i64 ((a.getD ((((i : Nat) : Int) - ((sh : Nat) : Int)).toNat) 0 : Nat) : Int)) hAc (by omega) (by kernel_rfl) (by kernel_rfl) (nats_at (l := a) (by omega))) ?_
            refine stv (v := .pointer (some ⟨w.heap.size, i, none⟩)) (by rfl) (R_index0 (b := w.heap.size) (len := (mm : Int).toNat) (cap := (mm : Int).toNat) (k := .i64) (i := ((i : Nat) : Int)) (e := 3) i (by kernel_rfl) (by kernel_rfl) (by kernel_rfl) (by kernel_rfl) rfl (by first | omega | (simp only [List.length_set, List.length_map]; omega))) ?_
            refine st (by rfl) (S_store (b := w.heap.size) (j := i) (v := .int .i64 ((a.getD ((((i : Nat) : Int) - ((sh : Nat) : Int)).toNat) 0 : Nat) : Int)) (by kernel_rfl) (by kernel_rfl) (by kernel_rfl) (by rfl) hOut (by rw [List.length_append, nats_length]; (first | omega | (simp only [List.length_set, List.length_map]; omega))) fun w15 hT16 hs17 hOut' => ?_)
            have hT0 := (hT0).then hT16 (fun c e => by have : c = w.heap.size := e; omega)
            have hAc := hA.tch0 hT0
            replace hOut : Blk w15 (w.heap.size) 3 (nats ((o.set i fl).set i (a.getD ((((i : Nat) : Int) - ((sh : Nat) : Int)).toNat) 0)) ++ []) := (nats_setP (l := o.set i fl) (sp := []) (i := i) (a.getD ((((i : Nat) : Int) - ((sh : Nat) : Int)).toNat) 0) (by first | omega | (simp only [List.length_set, List.length_map]; omega))) ▸ hOut'
            refine op_nil ?_
            refine W_region (by kernel_rfl) ?_
            refine sg [(46, .int .i64 (IntKind.i64.wrap (((i : Nat) : Int) + 1)))] (by kernel_rfl) ?_
            rw [show IntKind.i64.wrap (((i : Nat) : Int) + 1) = ((i : Nat) : Int) + 1 from wrap_i64 (by omega) (by omega)]
            refine fixR (y := ((i + 1 : Nat) : Int)) (by omega) ?_
            refine sg [(17, .int .i64 ((i + 1 : Nat) : Int))] (by kernel_rfl) ?_
            refine op_nil ?_
            refine ⟨_, ?_, (o.set i fl).set i (a.getD ((((i : Nat) : Int) - ((sh : Nat) : Int)).toNat) 0), i + 1, _, updL_self (by kernel_rfl), ?_, by rw [List.length_set, List.length_set]; exact hol, mv_put2 (by omega) hmv (by unfold mvN; (repeat' split) <;> first | rfl | (exfalso; omega) | (exfalso; simp_all; done) | (congr 1; omega)), hT0, hAc, hOut, rfl⟩
            · omega
            · omega
          · replace hc14 : (((i : Nat) : Int) - ((sh : Nat) : Int) < 0) ∨ ((mm : Int) ≤ ((i : Nat) : Int) - ((sh : Nat) : Int)) := (Bool.and_eq_false_iff.1 hc14).imp (fun h => (Int.not_le.1 (of_decide_eq_false h))) (fun h => (Int.not_lt.1 (of_decide_eq_false h)))
            refine W_skip ?_
            refine W_region (by kernel_rfl) ?_
            refine sg [(46, .int .i64 (IntKind.i64.wrap (((i : Nat) : Int) + 1)))] (by kernel_rfl) ?_
            rw [show IntKind.i64.wrap (((i : Nat) : Int) + 1) = ((i : Nat) : Int) + 1 from wrap_i64 (by omega) (by omega)]
            refine fixR (y := ((i + 1 : Nat) : Int)) (by omega) ?_
            refine sg [(17, .int .i64 ((i + 1 : Nat) : Int))] (by kernel_rfl) ?_
            refine op_nil ?_
            refine ⟨_, ?_, o.set i fl, i + 1, _, updL_self (by kernel_rfl), ?_, by rw [List.length_set]; exact hol, mv_put (by omega) hmv (by unfold mvN; (repeat' split) <;> first | rfl | (exfalso; omega) | (exfalso; simp_all; done) | (congr 1; omega)), hT0, hAc, hOut, rfl⟩
            · omega
            · omega
      · replace hc7 : up = false := (hc7)
        refine W_skip ?_
        refine W_seq ?_
        refine W_fg [(0, .slice A mm ca), (1, .int .i64 ((sh : Nat) : Int)), (2, .bool up), (3, .int .i64 ((fl : Nat) : Int)), (8, .slice none 0 0), (9, .slice (some ⟨w.heap.size, 0, none⟩) ((mm : Int).toNat) ((mm : Int).toNat)), (10, .int .i64 ((i : Nat) : Int)), (11, .int .i64 (((i : Nat) : Int) + ((sh : Nat) : Int))), (16, .int .i64 (mm : Int)), (17, .int .i64 ((i : Nat) : Int)), (18, .bool (decide (((i : Nat) : Int) < (mm : Int)))), (23, .bool up)] (by kernel_rfl) fun ρ => ?_
        refine W_region (by kernel_rfl) ?_
        refine sg [(27, .slice (some ⟨w.heap.size, 0, none⟩) ((mm : Int).toNat) ((mm : Int).toNat)), (28, .int .i64 ((i : Nat) : Int)), (29, .int .i64 ((fl : Nat) : Int))] (by kernel_rfl) ?_
        refine stv (v := .pointer (some ⟨w.heap.size, i, none⟩)) (by rfl) (R_index0 (b := w.heap.size) (len := (mm : Int).toNat) (cap := (mm : Int).toNat) (k := .i64) (i := ((i : Nat) : Int)) (e := 3) i (by kernel_rfl) (by kernel_rfl) (by kernel_rfl) (by kernel_rfl) rfl (by first | omega | (simp only [List.length_set, List.length_map]; omega))) ?_
        refine st (by rfl) (S_store (b := w.heap.size) (j := i) (v := .int .i64 ((fl : Nat) : Int)) (by kernel_rfl) (by kernel_rfl) (by kernel_rfl) (by rfl) hOut (by rw [List.length_append, nats_length]; (first | omega | (simp only [List.length_set, List.length_map]; omega))) fun w18 hT19 hs20 hOut' => ?_)
        have hT0 := (hT0).then hT19 (fun c e => by have : c = w.heap.size := e; omega)
        have hAc := hA.tch0 hT0
        replace hOut : Blk w18 (w.heap.size) 3 (nats (o.set i fl) ++ []) := (nats_setP (l := o) (sp := []) (i := i) fl (by first | omega | (simp only [List.length_set, List.length_map]; omega))) ▸ hOut'
        refine op_nil ?_
        refine W_seq ?_
        refine W_rcut (C := fun ρ' w' => ∃  (ρ0 : Env), ρ' = updL ρ0 [(0, .slice A mm ca), (1, .int .i64 ((sh : Nat) : Int)), (2, .bool up), (3, .int .i64 ((fl : Nat) : Int)), (8, .slice none 0 0), (9, .slice (some ⟨w.heap.size, 0, none⟩) ((mm : Int).toNat) ((mm : Int).toNat)), (10, .int .i64 ((i : Nat) : Int)), (11, .int .i64 (((i : Nat) : Int) + ((sh : Nat) : Int))), (16, .int .i64 (mm : Int)), (17, .int .i64 ((i : Nat) : Int)), (18, .bool (decide (((i : Nat) : Int) < (mm : Int)))), (23, .bool up), (38, .bool ((decide (((i : Nat) : Int) + ((sh : Nat) : Int) ≥ 0)) && (decide (((i : Nat) : Int) + ((sh : Nat) : Int) < (mm : Int)))))] ∧ Tch N0 w18 w') ?_ ?_
        · refine W_region (by kernel_rfl) ?_
          refine sg [(31, .int .i64 (((i : Nat) : Int) + ((sh : Nat) : Int))), (32, .bool (decide (((i : Nat) : Int) + ((sh : Nat) : Int) ≥ 0))), (33, .bool (decide (((i : Nat) : Int) + ((sh : Nat) : Int) ≥ 0)))] (by kernel_rfl) ?_
          cases hb21 : decide (((i : Nat) : Int) + ((sh : Nat) : Int) ≥ 0)
          · replace hb21 : ((i : Nat) : Int) + ((sh : Nat) : Int) < 0 := (Int.not_le.1 (of_decide_eq_false hb21))
            refine sg [(34, undef), (35, undef), (36, undef), (37, undef), (38, .bool false)] (by kernel_rfl) ?_
            refine op_nil ?_
            exact ⟨_, updL_self (by kernel_rfl), Tch.refl _ _⟩
          · replace hb21 : 0 ≤ ((i : Nat) : Int) + ((sh : Nat) : Int) := (of_decide_eq_true hb21)
            refine sg [(34, .int .i64 (((i : Nat) : Int) + ((sh : Nat) : Int))), (35, .slice A mm ca), (36, .int .i64 (mm : Int)), (37, .bool (decide (((i : Nat) : Int) + ((sh : Nat) : Int) < (mm : Int)))), (38, .bool (decide (((i : Nat) : Int) + ((sh : Nat) : Int) < (mm : Int))))] (by kernel_rfl) ?_
            refine op_nil ?_
            exact ⟨_, updL_self (by kernel_rfl), Tch.refl _ _⟩
        · rintro _ w22 ⟨ρ, rfl, hT23⟩
          have hT0 := hT0.t0 hT23
          have hAc := hA.tch0 hT0
          have hOut := hOut.tch0 hT23
          refine W_cond (((decide (((i : Nat) : Int) + ((sh : Nat) : Int) ≥ 0)) && (decide (((i : Nat) : Int) + ((sh : Nat) : Int) < (mm : Int))))) (by kernel_rfl) (by kernel_rfl) (fun hc24 => ?_) (fun hc24 => ?_)
          · replace hc24 : (0 ≤ ((i : Nat) : Int) + ((sh : Nat) : Int)) ∧ (((i : Nat) : Int) + ((sh : Nat) : Int) < (mm : Int)) := ⟨(of_decide_eq_true (Bool.and_eq_true_iff.1 hc24).1), (of_decide_eq_true (Bool.and_eq_true_iff.1 hc24).2)⟩
            refine W_region (by kernel_rfl) ?_
            refine sg [(39, .slice (some ⟨w.heap.size, 0, none⟩) ((mm : Int).toNat) ((mm : Int).toNat)), (40, .int .i64 ((i : Nat) : Int)), (41, .slice A mm ca), (42, .int .i64 (((i : Nat) : Int) + ((sh : Nat) : Int)))] (by kernel_rfl) ?_
            refine stv (v := ptrAt A ((((i : Nat) : Int) + ((sh : Nat) : Int)).toNat)) (by rfl) (R_indexRd1 (len := mm) (cap := ca) (k := .i64) (i := ((i : Nat) : Int) + ((sh : Nat) : Int)) (e := 3) ((((i : Nat) : Int) + ((sh : Nat) : Int)).toNat) hAc (by kernel_rfl) (by kernel_rfl) (by kernel_rfl) (by kernel_rfl) (by omega) (by omega)) ?_
            refine stv (v := .int .i64 ((a.getD ((((i : Nat) : Int) + ((sh : Nat) : Int)).toNat) 0 : Nat) : Int)) (by rfl) (R_loadRd (v := .int .i64 ((a.getD ((((i : Nat) : Int) + ((sh : Nat) : Int)).toNat) 0 : Nat) : Int)) hAc (by omega) (by kernel_rfl) (by kernel_rfl) (nats_at (l := a) (by omega))) ?_
            refine stv (v := .pointer (some ⟨w.heap.size, i, none⟩)) (by rfl) (R_index0 (b := w.heap.size) (len := (mm : Int).toNat) (cap := (mm : Int).toNat) (k := .i64) (i := ((i : Nat) : Int)) (e := 3) i (by kernel_rfl) (by kernel_rfl) (by kernel_rfl) (by kernel_rfl) rfl (by first | omega | (simp only [List.length_set, List.length_map]; omega))) ?_
            refine st (by rfl) (S_store (b := w.heap.size) (j := i) (v := .int .i64 ((a.getD ((((i : Nat) : Int) + ((sh : Nat) : Int)).toNat) 0 : Nat) : Int)) (by kernel_rfl) (by kernel_rfl) (by kernel_rfl) (by rfl) hOut (by rw [List.length_append, nats_length]; (first | omega | (simp only [List.length_set, List.length_map]; omega))) fun w25 hT26 hs27 hOut' => ?_)
            have hT0 := (hT0).then hT26 (fun c e => by have : c = w.heap.size := e; omega)
            have hAc := hA.tch0 hT0
            replace hOut : Blk w25 (w.heap.size) 3 (nats ((o.set i fl).set i (a.getD ((((i : Nat) : Int) + ((sh : Nat) : Int)).toNat) 0)) ++ []) := (nats_setP (l := o.set i fl) (sp := []) (i := i) (a.getD ((((i : Nat) : Int) + ((sh : Nat) : Int)).toNat) 0) (by first | omega | (simp only [List.length_set, List.length_map]; omega))) ▸ hOut'
            refine op_nil ?_
            refine W_region (by kernel_rfl) ?_
            refine sg [(46, .int .i64 (IntKind.i64.wrap (((i : Nat) : Int) + 1)))] (by kernel_rfl) ?_
            rw [show IntKind.i64.wrap (((i : Nat) : Int) + 1) = ((i : Nat) : Int) + 1 from wrap_i64 (by omega) (by omega)]
            refine fixR (y := ((i + 1 : Nat) : Int)) (by omega) ?_
            refine sg [(17, .int .i64 ((i + 1 : Nat) : Int))] (by kernel_rfl) ?_
            refine op_nil ?_
            refine ⟨_, ?_, (o.set i fl).set i (a.getD ((((i : Nat) : Int) + ((sh : Nat) : Int)).toNat) 0), i + 1, _, updL_self (by kernel_rfl), ?_, by rw [List.length_set, List.length_set]; exact hol, mv_put2 (by omega) hmv (by unfold mvN; (repeat' split) <;> first | rfl | (exfalso; omega) | (exfalso; simp_all; done) | (congr 1; omega)), hT0, hAc, hOut, rfl⟩
            · omega
            · omega
          · replace hc24 : (((i : Nat) : Int) + ((sh : Nat) : Int) < 0) ∨ ((mm : Int) ≤ ((i : Nat) : Int) + ((sh : Nat) : Int)) := (Bool.and_eq_false_iff.1 hc24).imp (fun h => (Int.not_le.1 (of_decide_eq_false h))) (fun h => (Int.not_lt.1 (of_decide_eq_false h)))
            refine W_skip ?_
            refine W_region (by kernel_rfl) ?_
            refine sg [(46, .int .i64 (IntKind.i64.wrap (((i : Nat) : Int) + 1)))] (by kernel_rfl) ?_
            rw [show IntKind.i64.wrap (((i : Nat) : Int) + 1) = ((i : Nat) : Int) + 1 from wrap_i64 (by omega) (by omega)]
            refine fixR (y := ((i + 1 : Nat) : Int)) (by omega) ?_
            refine sg [(17, .int .i64 ((i + 1 : Nat) : Int))] (by kernel_rfl) ?_
            refine op_nil ?_
            refine ⟨_, ?_, o.set i fl, i + 1, _, updL_self (by kernel_rfl), ?_, by rw [List.length_set]; exact hol, mv_put (by omega) hmv (by unfold mvN; (repeat' split) <;> first | rfl | (exfalso; omega) | (exfalso; simp_all; done) | (congr 1; omega)), hT0, hAc, hOut, rfl⟩
            · omega
            · omega
    · replace hc6 : (mm : Int) ≤ ((i : Nat) : Int) := (Int.not_lt.1 (of_decide_eq_false hc6))
      refine W_exit ?_
      refine X_hit ?_
      refine W_seq ?_
      refine W_region (by kernel_rfl) ?_
      refine sg [(47, .slice (some ⟨w.heap.size, 0, none⟩) ((mm : Int).toNat) ((mm : Int).toNat)), (8, .slice (some ⟨w.heap.size, 0, none⟩) ((mm : Int).toNat) ((mm : Int).toNat))] (by kernel_rfl) ?_
      refine op_nil ?_
      refine W_ret ?_
      exact ⟨_, Res_of (v := .slice (some ⟨w.heap.size, 0, none⟩) ((mm : Int).toNat) ((mm : Int).toNat)) (by kernel_rfl), ⟨_, o, rfl, hol, hOut, by omega, fun j h => hmv j (by omega), hT0⟩⟩

end Go.Proofs.YtnlecdpiccgdpaaV

set_option linter.unusedVariables false
set_option linter.unusedSimpArgs false
namespace Go.Proofs.YtnlecdpiccgdpaaV
open Go Go.RowKit Go.Proofs

set_option maxRecDepth 100000 in
theorem mul_bad (p ma mb ca cb : Nat) (A B : Option Addr) (a b : List Int) (w : World) (hA : RdW w 1 ma A (ints .i64 a)) (hB : RdW w 1 mb B (ints .i64 b)) (hb : BadR ma a mb b) : Ret Try.prog 36 [.pointer (some ⟨p, 0, none⟩), .slice A ma ca, .slice B mb cb] w fun v w' => v = .slice none 0 0 ∧ Tch N0 w w' := by
  refine enter Try.func36 rfl rfl ?_
  refine W_seq ?_
  refine W_region (by kernel_rfl) ?_
  refine sg [(6, .slice none 0 0)] (by kernel_rfl) ?_
  refine op_nil ?_
  refine W_seq ?_
  refine W_seq ?_
  refine W_region (by kernel_rfl) ?_
  refine sg [(13, .pointer (some ⟨p, 0, none⟩)), (14, .slice A ma ca), (15, .slice B mb cb)] (by kernel_rfl) ?_
  refine st (by rfl) (S_call (args := [.pointer (some ⟨p, 0, none⟩), .int .i64 0, .slice A ma ca, .slice B mb cb]) (by kernel_rfl) (itr_bad p ma mb ca cb A B a b 0 _ hA hB (.inr hb)) ?_)
  rintro _ w1 ⟨rfl, hT2⟩
  have hT0 := hT2
  refine sg [(17, .int .i64 0), (18, .bool true)] (by kernel_rfl) ?_
  refine op_nil ?_
  refine W_cond true (by kernel_rfl) (by kernel_rfl) (fun _ => ?_) (fun h => nomatch h)
  refine W_seq ?_
  refine W_region (by kernel_rfl) ?_
  refine sg [(6, .slice none 0 0)] (by kernel_rfl) ?_
  refine op_nil ?_
  refine W_ret ?_
  exact ⟨_, Res_of (v := .slice none 0 0) (by kernel_rfl), ⟨rfl, hT0⟩⟩

set_option maxRecDepth 100000 in
theorem div_bad (p ma mb ca cb : Nat) (A B : Option Addr) (a b : List Int) (w : World) (hA : RdW w 1 ma A (ints .i64 a)) (hB : RdW w 1 mb B (ints .i64 b)) (hb : BadR ma a mb b) : Ret Try.prog 37 [.pointer (some ⟨p, 0, none⟩), .slice A ma ca, .slice B mb cb] w fun v w' => v = .tuple #[.slice none 0 0, .slice none 0 0] ∧ Tch N0 w w' := by
  refine enter Try.func37 rfl rfl ?_
  refine W_seq ?_
  refine W_region (by kernel_rfl) ?_
  refine sg [(6, .slice none 0 0), (7, .slice none 0 0)] (by kernel_rfl) ?_
  refine op_nil ?_
  refine W_seq ?_
  refine W_seq ?_
  refine W_region (by kernel_rfl) ?_
  refine sg [(14, .pointer (some ⟨p, 0, none⟩)), (15, .slice A ma ca), (16, .slice B mb cb)] (by kernel_rfl) ?_
  refine st (by rfl) (S_call (args := [.pointer (some ⟨p, 0, none⟩), .int .i64 0, .slice A ma ca, .slice B mb cb]) (by kernel_rfl) (itr_bad p ma mb ca cb A B a b 0 _ hA hB (.inr hb)) ?_)
  rintro _ w1 ⟨rfl, hT2⟩
  have hT0 := hT2
  refine sg [(18, .int .i64 0), (19, .bool true)] (by kernel_rfl) ?_
  refine op_nil ?_
  refine W_cond true (by kernel_rfl) (by kernel_rfl) (fun _ => ?_) (fun h => nomatch h)
  refine W_seq ?_
  refine W_fg [(0, .pointer (some ⟨p, 0, none⟩)), (1, .slice A ma ca), (2, .slice B mb cb), (6, .slice none 0 0), (7, .slice none 0 0), (19, .bool true)] (by kernel_rfl) fun ρ => ?_
  refine W_region (by kernel_rfl) ?_
  refine sg [(6, .slice none 0 0), (7, .slice none 0 0)] (by kernel_rfl) ?_
  refine op_nil ?_
  refine W_ret ?_
  exact ⟨_, Res_of (v := .tuple #[.slice none 0 0, .slice none 0 0]) (by kernel_rfl), ⟨rfl, hT0⟩⟩

set_option maxRecDepth 100000 in
theorem mul_nil (ma mb ca cb : Nat) (A B : Option Addr) (w : World) : Ret Try.prog 36 [.pointer none, .slice A ma ca, .slice B mb cb] w fun v w' => v = .slice none 0 0 ∧ Tch N0 w w' := by
  refine enter Try.func36 rfl rfl ?_
  refine W_seq ?_
  refine W_region (by kernel_rfl) ?_
  refine sg [(6, .slice none 0 0)] (by kernel_rfl) ?_
  refine op_nil ?_
  refine W_seq ?_
  refine W_seq ?_
  refine W_region (by kernel_rfl) ?_
  refine sg [(13, .pointer none), (14, .slice A ma ca), (15, .slice B mb cb)] (by kernel_rfl) ?_
  refine st (by rfl) (S_call (args := [.pointer none, .int .i64 0, .slice A ma ca, .slice B mb cb]) (by kernel_rfl) (itr_nil ma mb ca cb A B 0 _) ?_)
  rintro _ w1 ⟨rfl, hT2⟩
  have hT0 := hT2
  refine sg [(17, .int .i64 0), (18, .bool true)] (by kernel_rfl) ?_
  refine op_nil ?_
  refine W_cond true (by kernel_rfl) (by kernel_rfl) (fun _ => ?_) (fun h => nomatch h)
  refine W_seq ?_
  refine W_region (by kernel_rfl) ?_
  refine sg [(6, .slice none 0 0)] (by kernel_rfl) ?_
  refine op_nil ?_
  refine W_ret ?_
  exact ⟨_, Res_of (v := .slice none 0 0) (by kernel_rfl), ⟨rfl, hT0⟩⟩

set_option maxRecDepth 100000 in
theorem div_nil (ma mb ca cb : Nat) (A B : Option Addr) (w : World) : Ret Try.prog 37 [.pointer none, .slice A ma ca, .slice B mb cb] w fun v w' => v = .tuple #[.slice none 0 0, .slice none 0 0] ∧ Tch N0 w w' := by
  refine enter Try.func37 rfl rfl ?_
  refine W_seq ?_
  refine W_region (by kernel_rfl) ?_
  refine sg [(6, .slice none 0 0), (7, .slice none 0 0)] (by kernel_rfl) ?_
  refine op_nil ?_
  refine W_seq ?_
  refine W_seq ?_
  refine W_region (by kernel_rfl) ?_
  refine sg [(14, .pointer none), (15, .slice A ma ca), (16, .slice B mb cb)] (by kernel_rfl) ?_
  refine st (by rfl) (S_call (args := [.pointer none, .int .i64 0, .slice A ma ca, .slice B mb cb]) (by kernel_rfl) (itr_nil ma mb ca cb A B 0 _) ?_)
  rintro _ w1 ⟨rfl, hT2⟩
  have hT0 := hT2
  refine sg [(18, .int .i64 0), (19, .bool true)] (by kernel_rfl) ?_
  refine op_nil ?_
  refine W_cond true (by kernel_rfl) (by kernel_rfl) (fun _ => ?_) (fun h => nomatch h)
  refine W_seq ?_
  refine W_fg [(0, .pointer none), (1, .slice A ma ca), (2, .slice B mb cb), (6, .slice none 0 0), (7, .slice none 0 0), (19, .bool true)] (by kernel_rfl) fun ρ => ?_
  refine W_region (by kernel_rfl) ?_
  refine sg [(6, .slice none 0 0), (7, .slice none 0 0)] (by kernel_rfl) ?_
  refine op_nil ?_
  refine W_ret ?_
  exact ⟨_, Res_of (v := .tuple #[.slice none 0 0, .slice none 0 0]) (by kernel_rfl), ⟨rfl, hT0⟩⟩

end Go.Proofs.YtnlecdpiccgdpaaV

set_option linter.unusedVariables false
set_option linter.unusedSimpArgs false
namespace Go.Proofs.YtnlecdpiccgdpaaV
open Go Go.RowKit Go.Proofs

theorem Own.capge {w : World} {n : Nat} {A : Option Addr} {cp : Nat} {cells : List Value} (h : Own w 0 3 1 (.slice A n cp) n cells) : n ≤ cp := by
  rcases h with ⟨_, ⟨hv, hn⟩ | ⟨b, cap, cur, hv, _, _, hn, _⟩⟩
  · omega
  · injection hv with _ _ q; omega

/-- What comes of Row, and the room. -/
def RowOC (F : Nat → Prop) (p n wd : Nat) (cs : List (List Nat)) (I : Nat → Prop) (x ins : Nat) (w : World) (v : Value) (w' : World) : Prop :=
  ∃ F' n' I' R rc H hc row hold, v = .tuple #[.slice R wd rc, .slice H hold.length hc] ∧ RdX F' w' wd R (nats row) ∧ RdX F' w' hold.length H (nats hold) ∧ (∀ c, blkOf R = some c → w.heap.size ≤ c) ∧ (∀ c, blkOf H = some c → w.heap.size ≤ c) ∧ GObj F' w' p n' cs I' ∧ Mv F F' w w' ∧ RowI n cs I n' I' wd row hold x ins ∧ n' ≤ n + 64 ∧ AdOk H ∧ hold.length ≤ 64 ∧ wd ≤ rc

set_option maxRecDepth 100000 in
theorem rowc_ok (F : Nat → Prop) (p n wd : Nat) (cs : List (List Nat)) (I : Nat → Prop) (x ins : Nat) (w : World) (hG : GObj F w p n cs I) (h1 : 1 ≤ wd) (h2 : wd ≤ 64) (hn : n ≤ 60000000000) : Ret Try.prog 30 [.pointer (some ⟨p, 0, none⟩), .int .i64 ((wd : Nat) : Int), .int .u64 ((x : Nat) : Int), .int .u64 ((ins : Nat) : Int)] w fun v w' => RowOC F p n wd cs I x ins w v w' := by
  have hMv := Mv.refl F w
  have hpos := hG.2.pos
  refine enter Try.func30 rfl rfl ?_
  refine W_seq ?_
  refine W_region (by kernel_rfl) ?_
  refine sg [(8, .slice none 0 0), (9, .slice none 0 0)] (by kernel_rfl) ?_
  refine op_nil ?_
  refine W_seq ?_
  refine W_region (by kernel_rfl) ?_
  refine sg [(10, .slice none 0 0), (11, .slice none 0 0)] (by kernel_rfl) ?_
  refine op_nil ?_
  refine W_seq ?_
  refine W_seq ?_
  refine W_region (by kernel_rfl) ?_
  refine sg [(12, .int .i64 0)] (by kernel_rfl) ?_
  refine op_nil ?_
  refine W_block ?_
  refine W_loop (fun m ρ w' => ∃ (F1 : Nat → Prop) (n1 : Nat) (I1 : Nat → Prop) (R : Option Addr) (rc : Nat) (H : Option Addr) (hc : Nat) (row hold : List Nat) (q i : Nat) (ρ0 : Env), ρ = updL ρ0 [(0, .pointer (some ⟨p, 0, none⟩)), (1, .int .i64 ((wd : Nat) : Int)), (2, .int .u64 ((x : Nat) : Int)), (3, .int .u64 ((ins : Nat) : Int)), (8, .slice none 0 0), (9, .slice none 0 0), (10, .slice R i rc), (11, .slice H q hc), (12, .int .i64 ((i : Nat) : Int))] ∧ (i ≤ wd) ∧ (RowI n cs I n1 I1 i row hold x ins) ∧ (q ≤ i) ∧ (n1 ≤ n + i) ∧ (∀ c, (Value.slice R i rc).ownBlock = some c → ¬ F1 c) ∧ (∀ c, (Value.slice R i rc).ownBlock = some c → w.heap.size ≤ c) ∧ (∀ c, (Value.slice H q hc).ownBlock = some c → ¬ F1 c) ∧ (∀ c, (Value.slice H q hc).ownBlock = some c → w.heap.size ≤ c) ∧ (∀ c, (Value.slice R i rc).ownBlock = some c → (Value.slice H q hc).ownBlock = some c → False) ∧ GObj F1 w' p n1 cs I1 ∧ Mv F F1 w w' ∧ Own w' 0 3 1 (.slice R i rc) i (nats row) ∧ Own w' 0 3 1 (.slice H q hc) q (nats hold) ∧ m = wd - i) (m := wd - 0) ?_ ?_
  · refine ⟨F, n, I, none, 0, none, 0, [], [], 0, 0, _, updL_self (by kernel_rfl), by omega, RowI.zero _ _ _ _ _, by omega, by omega, (fun c h => by cases h), (fun c h => by cases h), (fun c h => by cases h), (fun c h => by cases h), (fun c h _ => by cases h), hG, hMv, Own.nil_ _ _ _ _, Own.nil_ _ _ _ _, rfl⟩
  · rintro m ρ w1 ⟨F1, n1, I1, R, rc, H, hc, row, hold, q, i, ρ, rfl, hi, hri, hq, hd, nF_hRo, nB_hRo, nF_hHo, nB_hHo, dj_hRo_hHo, hG, hMv, hRo, hHo, rfl⟩
    have hpos := hG.2.pos
    have hle_ := hri.le
    refine W_seq ?_
    refine W_seq ?_
    refine W_region (by kernel_rfl) ?_
    refine sg [(15, .int .i64 ((i : Nat) : Int)), (16, .int .i64 ((wd : Nat) : Int)), (17, .bool (decide (((i : Nat) : Int) < ((wd : Nat) : Int))))] (by kernel_rfl) ?_
    refine op_nil ?_
    refine W_cond (decide (((i : Nat) : Int) < ((wd : Nat) : Int))) (by kernel_rfl) (by kernel_rfl) (fun hc2 => ?_) (fun hc2 => ?_)
    · replace hc2 : ((i : Nat) : Int) < ((wd : Nat) : Int) := (of_decide_eq_true hc2)
      refine W_skip ?_
      refine W_seq ?_
      refine W_block ?_
      refine W_seq ?_
      refine W_region (by kernel_rfl) ?_
      refine sg [(20, .pointer (some ⟨p, 0, none⟩))] (by kernel_rfl) ?_
      refine st (by rfl) (S_call (args := [.pointer (some ⟨p, 0, none⟩)]) (by kernel_rfl) (true_ok p _) ?_)
      rintro _ w3 ⟨rfl, hT4⟩
      have hG := hG.tch0 hT4
      have hMv := hMv.then0 hT4
      have hRo := hRo.tch0 hT4
      have hHo := hHo.tch0 hT4
      refine sg [(13, .int .i64 0)] (by kernel_rfl) ?_
      refine op_nil ?_
      refine W_seq ?_
      refine W_seq ?_
      refine W_region (by kernel_rfl) ?_
      refine sg [(22, .int .u64 ((ins : Nat) : Int)), (23, .int .i64 ((i : Nat) : Int)), (24, .int .u64 (IntKind.u64.wrap ((i : Nat) : Int)))] (by kernel_rfl) ?_
      rw [show IntKind.u64.wrap ((i : Nat) : Int) = ((i : Nat) : Int) from wrap_u64 (by omega) (by omega)]
      refine stv (v := .int .u64 ((ins / pw i : Nat) : Int)) (by kernel_rfl) (R_shrP (k2 := .u64) ins i (by kernel_rfl) (by kernel_rfl) (by omega)) ?_
      refine sg [(26, .int .u64 (((ins / pw i : Nat) : Int).tmod 2))] (by kernel_rfl) ?_
      rw [show ((ins / pw i : Nat) : Int).tmod 2 = ((ins / pw i : Nat) : Int) % 2 from Int.tmod_eq_emod_of_nonneg (by first | omega | exact Int.natCast_nonneg _)]
      refine sg [(27, .bool ((((ins / pw i : Nat) : Int) % 2) == 1))] (by kernel_rfl) ?_
      refine op_nil ?_
      refine W_cond ((((ins / pw i : Nat) : Int) % 2) == 1) (by kernel_rfl) (by kernel_rfl) (fun hc5 => ?_) (fun hc5 => ?_)
      · replace hc5 : ((ins / pw i : Nat) : Int) % 2 = 1 := (eq_of_beq hc5)
        refine W_seq ?_
        refine W_fg [(0, .pointer (some ⟨p, 0, none⟩)), (1, .int .i64 ((wd : Nat) : Int)), (2, .int .u64 ((x : Nat) : Int)), (3, .int .u64 ((ins : Nat) : Int)), (8, .slice none 0 0), (9, .slice none 0 0), (10, .slice R i rc), (11, .slice H q hc), (12, .int .i64 ((i : Nat) : Int)), (13, .int .i64 0), (17, .bool (decide (((i : Nat) : Int) < ((wd : Nat) : Int)))), (27, .bool ((((ins / pw i : Nat) : Int) % 2) == 1))] (by kernel_rfl) fun ρ => ?_
        refine W_region (by kernel_rfl) ?_
        refine sg [(28, .pointer (some ⟨p, 0, none⟩))] (by kernel_rfl) ?_
        have lR_hRo := hRo.lt
        have lR_hHo := hHo.lt
        refine st (by rfl) (S_call (args := [.pointer (some ⟨p, 0, none⟩)]) (by kernel_rfl) (input_ok F1 p n1 cs I1 _ hG (by omega)) ?_)
        rintro _ w6 ⟨rfl, hG, hm7⟩
        have hMv := hMv.trans hm7
        have hRo := hRo.tch hm7.1 nF_hRo
        have hHo := hHo.tch hm7.1 nF_hHo
        replace hG : GObj F1 w6 p (n1 + 1) cs (fun v => I1 v ∨ v = n1) := hG
        refine sg [(13, .int .i64 ((2 * n1 : Nat) : Int))] (by kernel_rfl) ?_
        refine op_nil ?_
        refine W_seq ?_
        refine W_region (by kernel_rfl) ?_
        refine sg [(30, .int .i64 ((2 * n1 : Nat) : Int)), (14, .int .i64 ((2 * n1 : Nat) : Int))] (by kernel_rfl) ?_
        refine op_nil ?_
        refine W_seq ?_
        refine W_seq ?_
        refine W_region (by kernel_rfl) ?_
        refine sg [(31, .int .u64 ((x : Nat) : Int)), (32, .int .i64 ((i : Nat) : Int))] (by kernel_rfl) ?_
        refine st (by rfl) (S_call (args := [.int .u64 ((x : Nat) : Int), .int .i64 ((i : Nat) : Int)]) (by kernel_rfl) (rbit_ok x i _ (by omega)) ?_)
        rintro _ w8 ⟨rfl, hT9⟩
        have hG := hG.tch0 hT9
        have hMv := hMv.then0 hT9
        have hRo := hRo.tch0 hT9
        have hHo := hHo.tch0 hT9
        refine sg [(34, .bool (!(x.testBit i)))] (by kernel_rfl) ?_
        refine op_nil ?_
        refine W_cond (!(x.testBit i)) (by kernel_rfl) (by kernel_rfl) (fun hc10 => ?_) (fun hc10 => ?_)
        · replace hc10 : x.testBit i = false := ((not_t hc10))
          refine W_fg [(0, .pointer (some ⟨p, 0, none⟩)), (1, .int .i64 ((wd : Nat) : Int)), (2, .int .u64 ((x : Nat) : Int)), (3, .int .u64 ((ins : Nat) : Int)), (8, .slice none 0 0), (9, .slice none 0 0), (10, .slice R i rc), (11, .slice H q hc), (12, .int .i64 ((i : Nat) : Int)), (13, .int .i64 ((2 * n1 : Nat) : Int)), (14, .int .i64 ((2 * n1 : Nat) : Int)), (17, .bool (decide (((i : Nat) : Int) < ((wd : Nat) : Int)))), (27, .bool ((((ins / pw i : Nat) : Int) % 2) == 1)), (34, .bool (!(x.testBit i)))] (by kernel_rfl) fun ρ => ?_
          refine W_region (by kernel_rfl) ?_
          refine sg [(35, .int .i64 ((2 * n1 : Nat) : Int))] (by kernel_rfl) ?_
          refine sg [(36, .int .i64 (IntKind.i64.wrap (BitVec.ofInt 64 ((2 * n1 : Nat) : Int) ^^^ BitVec.ofInt 64 1).toNat))] (by kernel_rfl) ?_
          rw [GateP.not_i64 (2 * n1) (by omega)]
          refine sg [(14, .int .i64 ((GateP.nt (2 * n1) : Nat) : Int))] (by kernel_rfl) ?_
          refine op_nil ?_
          refine W_region (by kernel_rfl) ?_
          refine sg [(37, .slice H q hc), (38, .int .i64 ((GateP.nt (2 * n1) : Nat) : Int))] (by kernel_rfl) ?_
          have hlt_ := hG.1.lt
          have hz15 := hMv.1.size
          refine st (by rfl) (S_new (v := .slice (some ⟨w8.heap.size, 0, none⟩) 1 1) (ob := .cells #[.int .i64 ((GateP.nt (2 * n1) : Nat) : Int)] 3) (by kernel_rfl) fun w11 hT12 hs13 hB14 => ?_)
          replace hB14 : Blk w11 (w8.heap.size) 3 [.int .i64 ((GateP.nt (2 * n1) : Nat) : Int)] := hB14
          have hG := hG.tch0 hT12
          have hMv := hMv.then0 hT12
          have hRo := hRo.tch0 hT12
          have hHo := hHo.tch0 hT12
          have nF_hB14 : ¬ F1 (w8.heap.size) := fun e => by have := hlt_ _ e; omega
          have hz_ := hMv.1.size
          have hGl_ := hG.1.lt
          have lR_hRo := hRo.lt
          have lR_hHo := hHo.lt
          refine st (by rfl) (S_appendR 27 3 (.int .i64 0) 1 8 (n := q) (m := 1) (A := H) (cp := hc) (cells := nats hold) (news := [.int .i64 ((GateP.nt (2 * n1) : Nat) : Int)]) (b := w8.heap.size) (off := 0) (c := 1) (by kernel_rfl) (by kernel_rfl) (by decide) (by kernel_rfl) (by kernel_rfl) (by kernel_rfl) hHo (by rfl) (fun k u hk => by rw [Nat.zero_add, hB14.cell]; exact hk) (by simp [oneV]) (by simp only [maxLen]; omega) (by omega) fun A16 cp17 w18 hO19 hw20 hT21 => ?_)
          have hG := hG.tchS hT21 (fun c e => nF_hHo c e)
          have hMv := hMv.newS hT21 nB_hHo
          have hRo := hRo.tch hT21 (fun c hc e => dj_hRo_hHo c hc e)
          have hHo : Own w18 0 3 1 (.slice A16 (q + 1) cp17) (q + 1) (nats (hold ++ [GateP.nt (2 * n1)])) := by rw [nats_append]; exact hO19
          have nF_hHo : ∀ c, (Value.slice A16 (q + 1) cp17).ownBlock = some c → ¬ F1 c := fun c hc => (hw20 c hc).elim (nF_hHo c) (fun q e => by have := hGl_ _ e; omega)
          have nB_hHo : ∀ c, (Value.slice A16 (q + 1) cp17).ownBlock = some c → w.heap.size ≤ c := fun c hc => (hw20 c hc).elim (nB_hHo c) (fun q => by omega)
          have dj_hRo_hHo : ∀ c, (Value.slice R (i) rc).ownBlock = some c → (Value.slice A16 (q + 1) cp17).ownBlock = some c → False := fun c h1 h2 => (hw20 c h2).elim (fun q => dj_hRo_hHo c h1 q) (fun q => by have := lR_hRo c h1; omega)
          refine sg [(11, .slice A16 (q + 1) cp17)] (by kernel_rfl) ?_
          refine op_nil ?_
          refine W_fg [(0, .pointer (some ⟨p, 0, none⟩)), (1, .int .i64 ((wd : Nat) : Int)), (2, .int .u64 ((x : Nat) : Int)), (3, .int .u64 ((ins : Nat) : Int)), (8, .slice none 0 0), (9, .slice none 0 0), (10, .slice R i rc), (11, .slice A16 (q + 1) cp17), (12, .int .i64 ((i : Nat) : Int)), (13, .int .i64 ((2 * n1 : Nat) : Int)), (14, .int .i64 ((GateP.nt (2 * n1) : Nat) : Int)), (17, .bool (decide (((i : Nat) : Int) < ((wd : Nat) : Int)))), (27, .bool ((((ins / pw i : Nat) : Int) % 2) == 1)), (34, .bool (!(x.testBit i)))] (by kernel_rfl) fun ρ => ?_
          refine W_region (by kernel_rfl) ?_
          refine sg [(47, .slice R i rc), (48, .int .i64 ((2 * n1 : Nat) : Int))] (by kernel_rfl) ?_
          have hlt_ := hG.1.lt
          have hz26 := hMv.1.size
          refine st (by rfl) (S_new (v := .slice (some ⟨w18.heap.size, 0, none⟩) 1 1) (ob := .cells #[.int .i64 ((2 * n1 : Nat) : Int)] 3) (by kernel_rfl) fun w22 hT23 hs24 hB25 => ?_)
          replace hB25 : Blk w22 (w18.heap.size) 3 [.int .i64 ((2 * n1 : Nat) : Int)] := hB25
          have hG := hG.tch0 hT23
          have hMv := hMv.then0 hT23
          have hRo := hRo.tch0 hT23
          have hHo := hHo.tch0 hT23
          have nF_hB25 : ¬ F1 (w18.heap.size) := fun e => by have := hlt_ _ e; omega
          have hz_ := hMv.1.size
          have hGl_ := hG.1.lt
          have lR_hRo := hRo.lt
          have lR_hHo := hHo.lt
          refine st (by rfl) (S_appendR 27 3 (.int .i64 0) 1 8 (n := i) (m := 1) (A := R) (cp := rc) (cells := nats row) (news := [.int .i64 ((2 * n1 : Nat) : Int)]) (b := w18.heap.size) (off := 0) (c := 1) (by kernel_rfl) (by kernel_rfl) (by decide) (by kernel_rfl) (by kernel_rfl) (by kernel_rfl) hRo (by rfl) (fun k u hk => by rw [Nat.zero_add, hB25.cell]; exact hk) (by simp [oneV]) (by simp only [maxLen]; omega) (by omega) fun A27 cp28 w29 hO30 hw31 hT32 => ?_)
          have hG := hG.tchS hT32 (fun c e => nF_hRo c e)
          have hMv := hMv.newS hT32 nB_hRo
          have hHo := hHo.tch hT32 (fun c hc e => dj_hRo_hHo c e hc)
          have hRo : Own w29 0 3 1 (.slice A27 (i + 1) cp28) (i + 1) (nats (row ++ [2 * n1])) := by rw [nats_append]; exact hO30
          have nF_hRo : ∀ c, (Value.slice A27 (i + 1) cp28).ownBlock = some c → ¬ F1 c := fun c hc => (hw31 c hc).elim (nF_hRo c) (fun q e => by have := hGl_ _ e; omega)
          have nB_hRo : ∀ c, (Value.slice A27 (i + 1) cp28).ownBlock = some c → w.heap.size ≤ c := fun c hc => (hw31 c hc).elim (nB_hRo c) (fun q => by omega)
          have dj_hRo_hHo : ∀ c, (Value.slice A27 (i + 1) cp28).ownBlock = some c → (Value.slice A16 (q + 1) cp17).ownBlock = some c → False := fun c h1 h2 => (hw31 c h1).elim (fun q => dj_hRo_hHo c q h2) (fun q => by have := lR_hHo c h2; omega)
          refine sg [(10, .slice A27 (i + 1) cp28)] (by kernel_rfl) ?_
          refine op_nil ?_
          refine W_region (by kernel_rfl) ?_
          refine sg [(18, .int .i64 ((i : Nat) : Int)), (19, .int .i64 (IntKind.i64.wrap (((i : Nat) : Int) + 1)))] (by kernel_rfl) ?_
          rw [show IntKind.i64.wrap (((i : Nat) : Int) + 1) = ((i : Nat) : Int) + 1 from wrap_i64 (by omega) (by omega)]
          refine fixR (y := ((i + 1 : Nat) : Int)) (by omega) ?_
          refine sg [(12, .int .i64 ((i + 1 : Nat) : Int))] (by kernel_rfl) ?_
          refine op_nil ?_
          refine ⟨_, ?_, F1, (n1 + 1), (fun v => I1 v ∨ v = n1), A27, cp28, A16, cp17, row ++ [2 * n1], hold ++ [GateP.nt (2 * n1)], q + 1, i + 1, _, updL_self (by kernel_rfl), ?_, hri.input (by omega) ((bit_div ins i).1 (by omega)) (.inr ⟨rfl, by assumption⟩), by omega, by omega, nF_hRo, nB_hRo, nF_hHo, nB_hHo, dj_hRo_hHo, hG, hMv, hRo, hHo, rfl⟩
          · omega
          · omega
        · replace hc10 : x.testBit i = true := ((not_f hc10))
          refine W_skip ?_
          refine W_fg [(0, .pointer (some ⟨p, 0, none⟩)), (1, .int .i64 ((wd : Nat) : Int)), (2, .int .u64 ((x : Nat) : Int)), (3, .int .u64 ((ins : Nat) : Int)), (8, .slice none 0 0), (9, .slice none 0 0), (10, .slice R i rc), (11, .slice H q hc), (12, .int .i64 ((i : Nat) : Int)), (13, .int .i64 ((2 * n1 : Nat) : Int)), (14, .int .i64 ((2 * n1 : Nat) : Int)), (17, .bool (decide (((i : Nat) : Int) < ((wd : Nat) : Int)))), (27, .bool ((((ins / pw i : Nat) : Int) % 2) == 1)), (34, .bool (!(x.testBit i)))] (by kernel_rfl) fun ρ => ?_
          refine W_region (by kernel_rfl) ?_
          refine sg [(37, .slice H q hc), (38, .int .i64 ((2 * n1 : Nat) : Int))] (by kernel_rfl) ?_
          have hlt_ := hG.1.lt
          have hz37 := hMv.1.size
          refine st (by rfl) (S_new (v := .slice (some ⟨w8.heap.size, 0, none⟩) 1 1) (ob := .cells #[.int .i64 ((2 * n1 : Nat) : Int)] 3) (by kernel_rfl) fun w33 hT34 hs35 hB36 => ?_)
          replace hB36 : Blk w33 (w8.heap.size) 3 [.int .i64 ((2 * n1 : Nat) : Int)] := hB36
          have hG := hG.tch0 hT34
          have hMv := hMv.then0 hT34
          have hRo := hRo.tch0 hT34
          have hHo := hHo.tch0 hT34
          have nF_hB36 : ¬ F1 (w8.heap.size) := fun e => by have := hlt_ _ e; omega
          have hz_ := hMv.1.size
          have hGl_ := hG.1.lt
          have lR_hRo := hRo.lt
          have lR_hHo := hHo.lt
          refine st (by rfl) (S_appendR 27 3 (.int .i64 0) 1 8 (n := q) (m := 1) (A := H) (cp := hc) (cells := nats hold) (news := [.int .i64 ((2 * n1 : Nat) : Int)]) (b := w8.heap.size) (off := 0) (c := 1) (by kernel_rfl) (by kernel_rfl) (by decide) (by kernel_rfl) (by kernel_rfl) (by kernel_rfl) hHo (by rfl) (fun k u hk => by rw [Nat.zero_add, hB36.cell]; exact hk) (by simp [oneV]) (by simp only [maxLen]; omega) (by omega) fun A38 cp39 w40 hO41 hw42 hT43 => ?_)
          have hG := hG.tchS hT43 (fun c e => nF_hHo c e)
          have hMv := hMv.newS hT43 nB_hHo
          have hRo := hRo.tch hT43 (fun c hc e => dj_hRo_hHo c hc e)
          have hHo : Own w40 0 3 1 (.slice A38 (q + 1) cp39) (q + 1) (nats (hold ++ [2 * n1])) := by rw [nats_append]; exact hO41
          have nF_hHo : ∀ c, (Value.slice A38 (q + 1) cp39).ownBlock = some c → ¬ F1 c := fun c hc => (hw42 c hc).elim (nF_hHo c) (fun q e => by have := hGl_ _ e; omega)
          have nB_hHo : ∀ c, (Value.slice A38 (q + 1) cp39).ownBlock = some c → w.heap.size ≤ c := fun c hc => (hw42 c hc).elim (nB_hHo c) (fun q => by omega)
          have dj_hRo_hHo : ∀ c, (Value.slice R (i) rc).ownBlock = some c → (Value.slice A38 (q + 1) cp39).ownBlock = some c → False := fun c h1 h2 => (hw42 c h2).elim (fun q => dj_hRo_hHo c h1 q) (fun q => by have := lR_hRo c h1; omega)
          refine sg [(11, .slice A38 (q + 1) cp39)] (by kernel_rfl) ?_
          refine op_nil ?_
          refine W_region (by kernel_rfl) ?_
          refine sg [(47, .slice R i rc), (48, .int .i64 ((2 * n1 : Nat) : Int))] (by kernel_rfl) ?_
          have hlt_ := hG.1.lt
          have hz48 := hMv.1.size
          refine st (by rfl) (S_new (v := .slice (some ⟨w40.heap.size, 0, none⟩) 1 1) (ob := .cells #[.int .i64 ((2 * n1 : Nat) : Int)] 3) (by kernel_rfl) fun w44 hT45 hs46 hB47 => ?_)
          replace hB47 : Blk w44 (w40.heap.size) 3 [.int .i64 ((2 * n1 : Nat) : Int)] := hB47
          have hG := hG.tch0 hT45
          have hMv := hMv.then0 hT45
          have hRo := hRo.tch0 hT45
          have hHo := hHo.tch0 hT45
          have nF_hB47 : ¬ F1 (w40.heap.size) := fun e => by have := hlt_ _ e; omega
          have hz_ := hMv.1.size
          have hGl_ := hG.1.lt
          have lR_hRo := hRo.lt
          have lR_hHo := hHo.lt
          refine st (by rfl) (S_appendR 27 3 (.int .i64 0) 1 8 (n := i) (m := 1) (A := R) (cp := rc) (cells := nats row) (news := [.int .i64 ((2 * n1 : Nat) : Int)]) (b := w40.heap.size) (off := 0) (c := 1) (by kernel_rfl) (by kernel_rfl) (by decide) (by kernel_rfl) (by kernel_rfl) (by kernel_rfl) hRo (by rfl) (fun k u hk => by rw [Nat.zero_add, hB47.cell]; exact hk) (by simp [oneV]) (by simp only [maxLen]; omega) (by omega) fun A49 cp50 w51 hO52 hw53 hT54 => ?_)
          have hG := hG.tchS hT54 (fun c e => nF_hRo c e)
          have hMv := hMv.newS hT54 nB_hRo
          have hHo := hHo.tch hT54 (fun c hc e => dj_hRo_hHo c e hc)
          have hRo : Own w51 0 3 1 (.slice A49 (i + 1) cp50) (i + 1) (nats (row ++ [2 * n1])) := by rw [nats_append]; exact hO52
          have nF_hRo : ∀ c, (Value.slice A49 (i + 1) cp50).ownBlock = some c → ¬ F1 c := fun c hc => (hw53 c hc).elim (nF_hRo c) (fun q e => by have := hGl_ _ e; omega)
          have nB_hRo : ∀ c, (Value.slice A49 (i + 1) cp50).ownBlock = some c → w.heap.size ≤ c := fun c hc => (hw53 c hc).elim (nB_hRo c) (fun q => by omega)
          have dj_hRo_hHo : ∀ c, (Value.slice A49 (i + 1) cp50).ownBlock = some c → (Value.slice A38 (q + 1) cp39).ownBlock = some c → False := fun c h1 h2 => (hw53 c h1).elim (fun q => dj_hRo_hHo c q h2) (fun q => by have := lR_hHo c h2; omega)
          refine sg [(10, .slice A49 (i + 1) cp50)] (by kernel_rfl) ?_
          refine op_nil ?_
          refine W_fg [(0, .pointer (some ⟨p, 0, none⟩)), (1, .int .i64 ((wd : Nat) : Int)), (2, .int .u64 ((x : Nat) : Int)), (3, .int .u64 ((ins : Nat) : Int)), (8, .slice none 0 0), (9, .slice none 0 0), (10, .slice A49 (i + 1) cp50), (11, .slice A38 (q + 1) cp39), (12, .int .i64 ((i : Nat) : Int)), (13, .int .i64 ((2 * n1 : Nat) : Int)), (14, .int .i64 ((2 * n1 : Nat) : Int)), (17, .bool (decide (((i : Nat) : Int) < ((wd : Nat) : Int)))), (27, .bool ((((ins / pw i : Nat) : Int) % 2) == 1)), (34, .bool (!(x.testBit i)))] (by kernel_rfl) fun ρ => ?_
          refine W_region (by kernel_rfl) ?_
          refine sg [(18, .int .i64 ((i : Nat) : Int)), (19, .int .i64 (IntKind.i64.wrap (((i : Nat) : Int) + 1)))] (by kernel_rfl) ?_
          rw [show IntKind.i64.wrap (((i : Nat) : Int) + 1) = ((i : Nat) : Int) + 1 from wrap_i64 (by omega) (by omega)]
          refine fixR (y := ((i + 1 : Nat) : Int)) (by omega) ?_
          refine sg [(12, .int .i64 ((i + 1 : Nat) : Int))] (by kernel_rfl) ?_
          refine op_nil ?_
          refine ⟨_, ?_, F1, (n1 + 1), (fun v => I1 v ∨ v = n1), A49, cp50, A38, cp39, row ++ [2 * n1], hold ++ [2 * n1], q + 1, i + 1, _, updL_self (by kernel_rfl), ?_, hri.input (by omega) ((bit_div ins i).1 (by omega)) (.inl ⟨rfl, by assumption⟩), by omega, by omega, nF_hRo, nB_hRo, nF_hHo, nB_hHo, dj_hRo_hHo, hG, hMv, hRo, hHo, rfl⟩
          · omega
          · omega
      · replace hc5 : ((ins / pw i : Nat) : Int) % 2 ≠ 1 := (ne_of_beq_false hc5)
        refine W_seq ?_
        refine W_fg [(0, .pointer (some ⟨p, 0, none⟩)), (1, .int .i64 ((wd : Nat) : Int)), (2, .int .u64 ((x : Nat) : Int)), (3, .int .u64 ((ins : Nat) : Int)), (8, .slice none 0 0), (9, .slice none 0 0), (10, .slice R i rc), (11, .slice H q hc), (12, .int .i64 ((i : Nat) : Int)), (13, .int .i64 0), (17, .bool (decide (((i : Nat) : Int) < ((wd : Nat) : Int)))), (27, .bool ((((ins / pw i : Nat) : Int) % 2) == 1))] (by kernel_rfl) fun ρ => ?_
        refine W_region (by kernel_rfl) ?_
        refine sg [(41, .int .u64 ((x : Nat) : Int)), (42, .int .i64 ((i : Nat) : Int))] (by kernel_rfl) ?_
        refine st (by rfl) (S_call (args := [.int .u64 ((x : Nat) : Int), .int .i64 ((i : Nat) : Int)]) (by kernel_rfl) (rbit_ok x i _ (by omega)) ?_)
        rintro _ w55 ⟨rfl, hT56⟩
        have hG := hG.tch0 hT56
        have hMv := hMv.then0 hT56
        have hRo := hRo.tch0 hT56
        have hHo := hHo.tch0 hT56
        refine sg [(44, .bool (!(x.testBit i)))] (by kernel_rfl) ?_
        refine op_nil ?_
        refine W_cond (!(x.testBit i)) (by kernel_rfl) (by kernel_rfl) (fun hc57 => ?_) (fun hc57 => ?_)
        · replace hc57 : x.testBit i = false := ((not_t hc57))
          refine W_region (by kernel_rfl) ?_
          refine sg [(45, .int .i64 0)] (by kernel_rfl) ?_
          refine sg [(46, .int .i64 (IntKind.i64.wrap (BitVec.ofInt 64 0 ^^^ BitVec.ofInt 64 1).toNat))] (by kernel_rfl) ?_
          rw [show IntKind.i64.wrap (BitVec.ofInt 64 0 ^^^ BitVec.ofInt 64 1).toNat = 1 from by decide]
          refine sg [(13, .int .i64 1)] (by kernel_rfl) ?_
          refine op_nil ?_
          refine W_region (by kernel_rfl) ?_
          refine sg [(47, .slice R i rc), (48, .int .i64 1)] (by kernel_rfl) ?_
          have hlt_ := hG.1.lt
          have hz62 := hMv.1.size
          refine st (by rfl) (S_new (v := .slice (some ⟨w55.heap.size, 0, none⟩) 1 1) (ob := .cells #[.int .i64 1] 3) (by kernel_rfl) fun w58 hT59 hs60 hB61 => ?_)
          replace hB61 : Blk w58 (w55.heap.size) 3 [.int .i64 1] := hB61
          have hG := hG.tch0 hT59
          have hMv := hMv.then0 hT59
          have hRo := hRo.tch0 hT59
          have hHo := hHo.tch0 hT59
          have nF_hB61 : ¬ F1 (w55.heap.size) := fun e => by have := hlt_ _ e; omega
          have hz_ := hMv.1.size
          have hGl_ := hG.1.lt
          have lR_hRo := hRo.lt
          have lR_hHo := hHo.lt
          refine st (by rfl) (S_appendR 27 3 (.int .i64 0) 1 8 (n := i) (m := 1) (A := R) (cp := rc) (cells := nats row) (news := [.int .i64 1]) (b := w55.heap.size) (off := 0) (c := 1) (by kernel_rfl) (by kernel_rfl) (by decide) (by kernel_rfl) (by kernel_rfl) (by kernel_rfl) hRo (by rfl) (fun k u hk => by rw [Nat.zero_add, hB61.cell]; exact hk) (by simp [oneV]) (by simp only [maxLen]; omega) (by omega) fun A63 cp64 w65 hO66 hw67 hT68 => ?_)
          have hG := hG.tchS hT68 (fun c e => nF_hRo c e)
          have hMv := hMv.newS hT68 nB_hRo
          have hHo := hHo.tch hT68 (fun c hc e => dj_hRo_hHo c e hc)
          have hRo : Own w65 0 3 1 (.slice A63 (i + 1) cp64) (i + 1) (nats (row ++ [1])) := by rw [nats_append]; exact hO66
          have nF_hRo : ∀ c, (Value.slice A63 (i + 1) cp64).ownBlock = some c → ¬ F1 c := fun c hc => (hw67 c hc).elim (nF_hRo c) (fun q e => by have := hGl_ _ e; omega)
          have nB_hRo : ∀ c, (Value.slice A63 (i + 1) cp64).ownBlock = some c → w.heap.size ≤ c := fun c hc => (hw67 c hc).elim (nB_hRo c) (fun q => by omega)
          have dj_hRo_hHo : ∀ c, (Value.slice A63 (i + 1) cp64).ownBlock = some c → (Value.slice H (q) hc).ownBlock = some c → False := fun c h1 h2 => (hw67 c h1).elim (fun q => dj_hRo_hHo c q h2) (fun q => by have := lR_hHo c h2; omega)
          refine sg [(10, .slice A63 (i + 1) cp64)] (by kernel_rfl) ?_
          refine op_nil ?_
          refine W_fg [(0, .pointer (some ⟨p, 0, none⟩)), (1, .int .i64 ((wd : Nat) : Int)), (2, .int .u64 ((x : Nat) : Int)), (3, .int .u64 ((ins : Nat) : Int)), (8, .slice none 0 0), (9, .slice none 0 0), (10, .slice A63 (i + 1) cp64), (11, .slice H q hc), (12, .int .i64 ((i : Nat) : Int)), (13, .int .i64 1), (17, .bool (decide (((i : Nat) : Int) < ((wd : Nat) : Int)))), (27, .bool ((((ins / pw i : Nat) : Int) % 2) == 1)), (44, .bool (!(x.testBit i)))] (by kernel_rfl) fun ρ => ?_
          refine W_region (by kernel_rfl) ?_
          refine sg [(18, .int .i64 ((i : Nat) : Int)), (19, .int .i64 (IntKind.i64.wrap (((i : Nat) : Int) + 1)))] (by kernel_rfl) ?_
          rw [show IntKind.i64.wrap (((i : Nat) : Int) + 1) = ((i : Nat) : Int) + 1 from wrap_i64 (by omega) (by omega)]
          refine fixR (y := ((i + 1 : Nat) : Int)) (by omega) ?_
          refine sg [(12, .int .i64 ((i + 1 : Nat) : Int))] (by kernel_rfl) ?_
          refine op_nil ?_
          refine ⟨_, ?_, F1, n1, I1, A63, cp64, H, hc, row ++ [1], hold, q, i + 1, _, updL_self (by kernel_rfl), ?_, hri.const (by show (1 : Nat) / 2 < _; omega) (fun be hm => by rw [show x.testBit i = false by assumption]; exact hG.2.t1 hm), by omega, by omega, nF_hRo, nB_hRo, nF_hHo, nB_hHo, dj_hRo_hHo, hG, hMv, hRo, hHo, rfl⟩
          · omega
          · omega
        · replace hc57 : x.testBit i = true := ((not_f hc57))
          refine W_skip ?_
          refine W_region (by kernel_rfl) ?_
          refine sg [(47, .slice R i rc), (48, .int .i64 0)] (by kernel_rfl) ?_
          have hlt_ := hG.1.lt
          have hz73 := hMv.1.size
          refine st (by rfl) (S_new (v := .slice (some ⟨w55.heap.size, 0, none⟩) 1 1) (ob := .cells #[.int .i64 0] 3) (by kernel_rfl) fun w69 hT70 hs71 hB72 => ?_)
          replace hB72 : Blk w69 (w55.heap.size) 3 [.int .i64 0] := hB72
          have hG := hG.tch0 hT70
          have hMv := hMv.then0 hT70
          have hRo := hRo.tch0 hT70
          have hHo := hHo.tch0 hT70
          have nF_hB72 : ¬ F1 (w55.heap.size) := fun e => by have := hlt_ _ e; omega
          have hz_ := hMv.1.size
          have hGl_ := hG.1.lt
          have lR_hRo := hRo.lt
          have lR_hHo := hHo.lt
          refine st (by rfl) (S_appendR 27 3 (.int .i64 0) 1 8 (n := i) (m := 1) (A := R) (cp := rc) (cells := nats row) (news := [.int .i64 0]) (b := w55.heap.size) (off := 0) (c := 1) (by kernel_rfl) (by kernel_rfl) (by decide) (by kernel_rfl) (by kernel_rfl) (by kernel_rfl) hRo (by rfl) (fun k u hk => by rw [Nat.zero_add, hB72.cell]; exact hk) (by simp [oneV]) (by simp only [maxLen]; omega) (by omega) fun A74 cp75 w76 hO77 hw78 hT79 => ?_)
          have hG := hG.tchS hT79 (fun c e => nF_hRo c e)
          have hMv := hMv.newS hT79 nB_hRo
          have hHo := hHo.tch hT79 (fun c hc e => dj_hRo_hHo c e hc)
          have hRo : Own w76 0 3 1 (.slice A74 (i + 1) cp75) (i + 1) (nats (row ++ [0])) := by rw [nats_append]; exact hO77
          have nF_hRo : ∀ c, (Value.slice A74 (i + 1) cp75).ownBlock = some c → ¬ F1 c := fun c hc => (hw78 c hc).elim (nF_hRo c) (fun q e => by have := hGl_ _ e; omega)
          have nB_hRo : ∀ c, (Value.slice A74 (i + 1) cp75).ownBlock = some c → w.heap.size ≤ c := fun c hc => (hw78 c hc).elim (nB_hRo c) (fun q => by omega)
          have dj_hRo_hHo : ∀ c, (Value.slice A74 (i + 1) cp75).ownBlock = some c → (Value.slice H (q) hc).ownBlock = some c → False := fun c h1 h2 => (hw78 c h1).elim (fun q => dj_hRo_hHo c q h2) (fun q => by have := lR_hHo c h2; omega)
          refine sg [(10, .slice A74 (i + 1) cp75)] (by kernel_rfl) ?_
          refine op_nil ?_
          refine W_fg [(0, .pointer (some ⟨p, 0, none⟩)), (1, .int .i64 ((wd : Nat) : Int)), (2, .int .u64 ((x : Nat) : Int)), (3, .int .u64 ((ins : Nat) : Int)), (8, .slice none 0 0), (9, .slice none 0 0), (10, .slice A74 (i + 1) cp75), (11, .slice H q hc), (12, .int .i64 ((i : Nat) : Int)), (13, .int .i64 0), (17, .bool (decide (((i : Nat) : Int) < ((wd : Nat) : Int)))), (27, .bool ((((ins / pw i : Nat) : Int) % 2) == 1)), (44, .bool (!(x.testBit i)))] (by kernel_rfl) fun ρ => ?_
          refine W_region (by kernel_rfl) ?_
          refine sg [(18, .int .i64 ((i : Nat) : Int)), (19, .int .i64 (IntKind.i64.wrap (((i : Nat) : Int) + 1)))] (by kernel_rfl) ?_
          rw [show IntKind.i64.wrap (((i : Nat) : Int) + 1) = ((i : Nat) : Int) + 1 from wrap_i64 (by omega) (by omega)]
          refine fixR (y := ((i + 1 : Nat) : Int)) (by omega) ?_
          refine sg [(12, .int .i64 ((i + 1 : Nat) : Int))] (by kernel_rfl) ?_
          refine op_nil ?_
          refine ⟨_, ?_, F1, n1, I1, A74, cp75, H, hc, row ++ [0], hold, q, i + 1, _, updL_self (by kernel_rfl), ?_, hri.const (by show (0 : Nat) / 2 < _; omega) (fun be hm => by rw [show x.testBit i = true by assumption]; exact hG.2.t0 hm), by omega, by omega, nF_hRo, nB_hRo, nF_hHo, nB_hHo, dj_hRo_hHo, hG, hMv, hRo, hHo, rfl⟩
          · omega
          · omega
    · replace hc2 : ((wd : Nat) : Int) ≤ ((i : Nat) : Int) := (Int.not_lt.1 (of_decide_eq_false hc2))
      refine W_exit ?_
      refine X_hit ?_
      refine W_seq ?_
      refine W_region (by kernel_rfl) ?_
      refine sg [(51, .slice R i rc), (52, .slice H q hc), (8, .slice R i rc), (9, .slice H q hc)] (by kernel_rfl) ?_
      refine op_nil ?_
      refine W_ret ?_
      refine ⟨_, Res_of (v := .tuple #[.slice R i rc, .slice H q hc]) (by kernel_rfl), ?_⟩
      have hie : i = wd := by omega
      have hql : q = hold.length := by have := hHo.rd1.1; rw [nats_length] at this; omega
      subst hie; subst hql
      exact ⟨F1, n1, I1, R, rc, H, hc, row, hold, rfl, hRo.rdx nF_hRo, hHo.rdx nF_hHo, (fun c h => by rw [own_blk R i rc] at h; exact nB_hRo c h), (fun c h => by rw [own_blk H hold.length hc] at h; exact nB_hHo c h), hG, hMv, hri, by omega, hHo.adok, by omega, hRo.capge⟩

end Go.Proofs.YtnlecdpiccgdpaaV

set_option linter.unusedVariables false
set_option linter.unusedSimpArgs false
namespace Go.Proofs.YtnlecdpiccgdpaaV
open Go Go.RowKit Go.Proofs
theorem cut_top (w x : Nat) (hw : 1 ≤ w) : cutN w x = cutN (w - 1) x + (if (cutN w x).testBit (w - 1) = true then pw (w - 1) else 0) := by
  obtain ⟨k, rfl⟩ : ∃ k, w = k + 1 := ⟨w - 1, by omega⟩
  have e : (cutN (k + 1) x).testBit (k + 1 - 1) = x.testBit k := by rw [cut_bit, show k + 1 - 1 = k from rfl, decide_eq_true (by omega), Bool.true_and]
  rw [e, show k + 1 - 1 = k from rfl]
  have h1 := bval_of (k + 1) x
  have h2 := bval_of k x
  rw [bval_succ, h2] at h1
  exact h1.symm
theorem or_high {w a : Nat} (hw : w ≤ 64) (ha : a < pw w) : a ||| (18446744073709551616 - pw w) = a + (18446744073709551616 - pw w) := by
  have hk : 18446744073709551616 - pw w = 2 ^ w * (2 ^ (64 - w) - 1) := by
    have : 2 ^ w * 2 ^ (64 - w) = 18446744073709551616 := by rw [← Nat.pow_add, show w + (64 - w) = 64 by omega]
    rw [Nat.mul_sub, this, Nat.mul_one]; rfl
  rw [hk, Nat.or_comm, Nat.add_comm]
  exact (Nat.two_pow_add_eq_or_of_lt ha _).symm
theorem sgn_neg {w x : Nat} (h1 : 1 ≤ w) (h2 : w ≤ 64) (h : (cutN w x).testBit (w - 1) = true) : IntKind.i64.wrap (((cutN w x + (18446744073709551616 - pw w) : Nat)) : Int) = sgn w x := by
  have ht := cut_top w x h1
  rw [if_pos h] at ht
  have hl := cutN_lt w x
  have hp := pw64 h2
  have hs : pw w = 2 * pw (w - 1) := by
    obtain ⟨k, rfl⟩ : ∃ k, w = k + 1 := ⟨w - 1, by omega⟩
    exact pw_succ k
  unfold sgn
  rw [if_pos h]
  simp only [IntKind.wrap, IntKind.bits, IntKind.signed]; simp; omega
theorem sgn_pos {w x : Nat} (h1 : 1 ≤ w) (h2 : w ≤ 64) (h : (cutN w x).testBit (w - 1) = false) : IntKind.i64.wrap ((cutN w x : Nat) : Int) = sgn w x := by
  have ht := cut_top w x h1
  rw [if_neg (by rw [h]; simp), Nat.add_zero] at ht
  have hl := cutN_lt (w - 1) x
  have hp := pw_u64 (i := w - 1) (by omega)
  unfold sgn
  rw [if_neg (by rw [h]; simp)]
  rw [wrap_i64 (by omega) (by omega)]
theorem sgn_cut (w x : Nat) : sgn w (cutN w x) = sgn w x := by unfold sgn; rw [cut_cut]
theorem cut_bit1 {w : Nat} (h : 1 ≤ w) (b : Bool) : cutN w (bitN b) = bitN b := by
  have : 2 ≤ pw w := by
    have := Nat.pow_le_pow_right (n := 2) (by decide) h
    unfold pw; omega
  unfold cutN bitN
  exact Nat.mod_eq_of_lt (by split <;> omega)
theorem beq_nat (a b : Nat) : (((a : Nat) : Int) == ((b : Nat) : Int)) = decide (a = b) := by
  by_cases h : a = b
  · subst h; simp
  · rw [decide_eq_false h]; exact beq_eq_false_iff_ne.2 (by omega)
theorem lt_nat (a b : Nat) : decide (((a : Nat) : Int) < ((b : Nat) : Int)) = decide (a < b) := decide_eq_decide.2 (by omega)
section
variable {P : Program} {ρ : Env} {w : World}
theorem R_not64 {d : Option Tmp} {t : TypeId} {x : Operand} {ty : TypeId} {pos : String} {af : Array Edge} {g : Option (Nat × Bool)} (a : Nat) (hx : evR ρ x = .int .u64 ((a : Nat) : Int)) (ha : a < 18446744073709551616) :
    (execOp (evR ρ) ⟨d, .unOp .xor t x, ty, pos, af, g⟩).run P w = .ok (.value (.int .u64 (((18446744073709551615 - a : Nat)) : Int))) w := by
  have e : IntKind.u64.wrap ((BitVec.ofInt 64 (18446744073709551615 : Int) ^^^ BitVec.ofInt 64 (a : Int)).toNat : Int) = ((18446744073709551615 - a : Nat) : Int) := by
    have h1 : BitVec.ofInt 64 (18446744073709551615 : Int) = BitVec.allOnes 64 := by decide
    have h2 : (BitVec.ofInt 64 (18446744073709551615 : Int) ^^^ BitVec.ofInt 64 (a : Int)).toNat = 18446744073709551615 - a := by
      rw [h1, BitVec.allOnes_xor, BitVec.toNat_not, bv_u a ha]
    rw [h2, wrap_u64 (by omega) (by omega)]
  simp only [execOp, hx]
  simp [Op.unary, Op.intBits, IntKind.signed, IntKind.max, IntKind.bits] at e ⊢
  exact e
end
theorem neg_u64 (a : Nat) (ha : a < 18446744073709551616) : IntKind.u64.wrap (0 - (a : Int)) = (((0 + (18446744073709551616 - a)) % 18446744073709551616 : Nat) : Int) := by
  have := u64_sub 0 a (by omega) ha
  simpa using this
end Go.Proofs.YtnlecdpiccgdpaaV
