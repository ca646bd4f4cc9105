/- Texts laid together: Walks of functions of the program and of the document's texts. The conditions stand with each theorem. Walks of functions of the program and of the document's texts. The conditions stand with each theorem. Walks of functions of the program and of the document's texts. The conditions stand with each theorem. The calculus' words for texts cut, and told from what is read. A loop of so many rounds, each by itself. Walks of functions of the program and of the document's texts. The conditions stand with each theorem. -/
import Derived.Test.YtlkjhkennbdbnaaJRrepo32x1
import Derived.Test.YtlkjhkennbdbnaaProg
import Derived.Lib.ConvBytes
set_option linter.unusedVariables false
set_option linter.unusedSimpArgs false
namespace Go.Proofs.YtlkjhkennbdbnaaV
open Go Go.RowKit Go.Proofs

set_option maxRecDepth 100000 in
theorem digits_ok (n : Nat) (w : World) (hn : n < 18446744073709551616) : Ret Try.prog 42 [.int .u64 ((n : Nat) : Int)] w fun v w' => v = .string (bsT (dgs n)) ∧ Tch N0 w w' := by
 refine enter Try.func42 rfl rfl ?_
 refine zQ ?_
 refine zS [(2, .string (bsT ([])))] ?_
 refine op_nil ?_
 refine zQ ?_
 refine st (by rfl) (S_new (v := .pointer (some ⟨w.heap.size, 0, none⟩)) (ob := .cells #[.int .u8 0, .int .u8 0, .int .u8 0, .int .u8 0, .int .u8 0, .int .u8 0, .int .u8 0, .int .u8 0, .int .u8 0, .int .u8 0, .int .u8 0, .int .u8 0, .int .u8 0, .int .u8 0, .int .u8 0, .int .u8 0, .int .u8 0, .int .u8 0, .int .u8 0, .int .u8 0] 100) (by kernel_rfl) fun w1 hT2 hs3 hB4 => ?_)
 replace hB4 : Blk w1 (w.heap.size) 100 [.int .u8 0, .int .u8 0, .int .u8 0, .int .u8 0, .int .u8 0, .int .u8 0, .int .u8 0, .int .u8 0, .int .u8 0, .int .u8 0, .int .u8 0, .int .u8 0, .int .u8 0, .int .u8 0, .int .u8 0, .int .u8 0, .int .u8 0, .int .u8 0, .int .u8 0, .int .u8 0] := hB4
 have hT0 := hT2
 refine op_nil ?_
 refine zQ ?_
 refine zS [(4, .int .i64 20)] ?_
 refine op_nil ?_
 refine W_seq ?_
 refine W_block ?_
 have hgB : w.heap.size ≤ w.heap.size := by first | omega | (have := hT0.size; omega)
 refine W_loop (fun m ρ w' => ∃ (q i : Nat) (l : Tx) (ρ0 : Env), ρ = updL ρ0 [(0, .int .u64 ((q : Nat) : Int)), (3, .pointer (some ⟨w.heap.size, 0, none⟩)), (4, .int .i64 ((i : Nat) : Int))] ∧ (i + l.length = 20) ∧ (DI n q l) ∧ (q < 18446744073709551616) ∧ Tch N0 w w' ∧ Blk w' (w.heap.size) 100 (zp i ++ u8s l) ∧ m = i + 1) (m := 20 + 1) ?_ ?_
 ·
  refine ⟨n, 20, [], _, updL_self (by kernel_rfl), rfl, DI.first n, hn, hT0, hB4, rfl⟩
 ·
  rintro m ρ w5 ⟨q, i, l, ρ, rfl, hil, hDI, hqn, hT0, hB, rfl⟩
  refine W_seq ?_
  refine zQ ?_
  refine zS [(5, .int .i64 ((i : Nat) : Int)), (6, .bool (((i : Nat) : Int) == 20)), (7, .bool (((i : Nat) : Int) == 20))] ?_
  cases hb6 : ((i : Nat) : Int) == 20
  ·
   replace hb6 : ((i : Nat) : Int) ≠ 20 := (ne_of_beq_false hb6)
   refine zS [(8, .int .u64 ((q : Nat) : Int)), (9, .bool (decide (((q : Nat) : Int) > 0))), (10, .bool (decide (((q : Nat) : Int) > 0)))] ?_
   refine zO (decide (((q : Nat) : Int) > 0)) (fun hc7 => ?_) (fun hc7 => ?_)
   ·
    replace hc7 : 0 < ((q : Nat) : Int) := (of_decide_eq_true hc7)
    refine W_skip ?_
    refine W_block ?_
    refine W_seq ?_
    have hi1 : 1 ≤ i := hDI.room hn hil (by omega)
    have hlm : l = [] ∨ 0 < q := by first | exact .inr (by omega) | exact .inl (List.eq_nil_of_length_eq_zero (by omega))
    refine zR ?_
    refine zS [(11, .int .i64 ((i : Nat) : Int)), (12, .int .i64 (IntKind.i64.wrap (((i : Nat) : Int) - 1)))] ?_
    rw [show IntKind.i64.wrap (((i : Nat) : Int) - 1) = ((i : Nat) : Int) - 1 from wrap_i64 (by omega) (by omega)]
    refine fixR (y := ((i - 1 : Nat) : Int)) (by omega) ?_
    refine zS [(4, .int .i64 ((i - 1 : Nat) : Int))] ?_
    refine op_nil ?_
    refine W_seq ?_
    refine zF [(0, .int .u64 ((q : Nat) : Int)), (3, .pointer (some ⟨w.heap.size, 0, none⟩)), (4, .int .i64 ((i - 1 : Nat) : Int)), (10, .bool (decide (((q : Nat) : Int) > 0)))] fun ρ => ?_
    refine zR ?_
    refine zS [(13, .int .i64 ((i - 1 : Nat) : Int)), (14, .int .u64 ((q : Nat) : Int)), (15, .int .u64 (((q : Nat) : Int).tmod 10))] ?_
    rw [show ((q : Nat) : Int).tmod 10 = ((q : Nat) : Int) % 10 from Int.tmod_eq_emod_of_nonneg (by first | omega | exact Int.natCast_nonneg _)]
    refine zS [(16, .int .u64 (IntKind.u64.wrap (48 + (((q : Nat) : Int) % 10))))] ?_
    rw [show IntKind.u64.wrap (48 + (((q : Nat) : Int) % 10)) = 48 + (((q : Nat) : Int) % 10) from wrap_u64 (by omega) (by omega)]
    refine zS [(17, .int .u8 (IntKind.u8.wrap (48 + (((q : Nat) : Int) % 10))))] ?_
    rw [show IntKind.u8.wrap (48 + (((q : Nat) : Int) % 10)) = 48 + (((q : Nat) : Int) % 10) from wrap_u8 (by omega) (by omega)]
    refine stv (v := .pointer (some ⟨w.heap.size, i - 1, none⟩)) (by rfl) (R_idxP0 (k := .i64) (len := 20) (e := 5) (i - 1) (by kernel_rfl) (by kernel_rfl) (by kernel_rfl) (by kernel_rfl) rfl (by omega)) ?_
    refine st (by rfl) (S_store (b := w.heap.size) (j := i - 1) (v := .int .u8 (48 + (((q : Nat) : Int) % 10))) (by kernel_rfl) (by kernel_rfl) (by kernel_rfl) (by rfl) hB (by rw [List.length_append, zp_length, u8s_length]; omega) fun w8 hT9 hs10 hB' => ?_)
    have hT0 := (hT0).then hT9 (fun c e => by have : c = w.heap.size := e; omega)
    have hB : Blk w8 (w.heap.size) 100 (zp (i - 1) ++ u8s (dg (q % 10) :: l)) := by rw [← zp_set hi1 (dg_int q rfl)]; exact hB'
    refine op_nil ?_
    refine zR ?_
    refine zS [(19, .int .u64 ((q : Nat) : Int)), (20, .int .u64 (IntKind.u64.wrap (((q : Nat) : Int).tdiv 10)))] ?_
    rw [show IntKind.u64.wrap (((q : Nat) : Int).tdiv 10) = ((q : Nat) : Int) / 10 from by rw [Int.tdiv_eq_ediv_of_nonneg (by omega)]; exact wrap_u64 (by omega) (by omega)]
    refine fixR (y := ((q / 10 : Nat) : Int)) (by omega) ?_
    refine zS [(0, .int .u64 ((q / 10 : Nat) : Int))] ?_
    refine op_nil ?_
    refine ⟨_, (by omega), q / 10, i - 1, dg (q % 10) :: l, _, updL_self (by kernel_rfl), (by simp only [List.length_cons]; omega), (hDI.step hlm), (by omega), hT0, hB, rfl⟩
   ·
    replace hc7 : ((q : Nat) : Int) ≤ 0 := (Int.not_lt.1 (of_decide_eq_false hc7))
    refine W_exit ?_
    refine X_hit ?_
    refine zQ ?_
    refine zS [(21, .int .i64 ((i : Nat) : Int))] ?_
    refine stv (v := .slice (some ⟨w.heap.size, i, none⟩) (20 - i) (20 - i)) (by rfl) (R_slP (len := 20) (e := 5) i (by kernel_rfl) (by kernel_rfl) (by kernel_rfl) (by kernel_rfl) rfl (by omega)) ?_
    refine stv (v := .string (bsT l)) (by rfl) (R_b2s (l := l) (len := 20 - i) (cap := 20 - i) (by kernel_rfl) (by kernel_rfl) (by kernel_rfl) (by kernel_rfl) (by omega) (zp_cells hB)) ?_
    refine zS [(2, .string (bsT l))] ?_
    refine op_nil ?_
    refine W_ret ?_
    exact ⟨_, Res_of (v := .string (bsT l)) (by kernel_rfl), ⟨by rw [hDI.last (by rintro rfl; simp at hil; omega) (by omega)], hT0⟩⟩
  ·
   replace hb6 : ((i : Nat) : Int) = 20 := (eq_of_beq hb6)
   refine zS [(8, undef), (9, undef), (10, .bool true)] ?_
   refine zO true (fun _ => ?_) (fun h => nomatch h)
   refine W_skip ?_
   refine W_block ?_
   refine W_seq ?_
   have hi1 : 1 ≤ i := hDI.room hn hil (by omega)
   have hlm : l = [] ∨ 0 < q := by first | exact .inr (by omega) | exact .inl (List.eq_nil_of_length_eq_zero (by omega))
   refine zR ?_
   refine zS [(11, .int .i64 ((i : Nat) : Int)), (12, .int .i64 (IntKind.i64.wrap (((i : Nat) : Int) - 1)))] ?_
   rw [show IntKind.i64.wrap (((i : Nat) : Int) - 1) = ((i : Nat) : Int) - 1 from wrap_i64 (by omega) (by omega)]
   refine fixR (y := ((i - 1 : Nat) : Int)) (by omega) ?_
   refine zS [(4, .int .i64 ((i - 1 : Nat) : Int))] ?_
   refine op_nil ?_
   refine W_seq ?_
   refine zF [(0, .int .u64 ((q : Nat) : Int)), (3, .pointer (some ⟨w.heap.size, 0, none⟩)), (4, .int .i64 ((i - 1 : Nat) : Int)), (10, .bool true)] fun ρ => ?_
   refine zR ?_
   refine zS [(13, .int .i64 ((i - 1 : Nat) : Int)), (14, .int .u64 ((q : Nat) : Int)), (15, .int .u64 (((q : Nat) : Int).tmod 10))] ?_
   rw [show ((q : Nat) : Int).tmod 10 = ((q : Nat) : Int) % 10 from Int.tmod_eq_emod_of_nonneg (by first | omega | exact Int.natCast_nonneg _)]
   refine zS [(16, .int .u64 (IntKind.u64.wrap (48 + (((q : Nat) : Int) % 10))))] ?_
   rw [show IntKind.u64.wrap (48 + (((q : Nat) : Int) % 10)) = 48 + (((q : Nat) : Int) % 10) from wrap_u64 (by omega) (by omega)]
   refine zS [(17, .int .u8 (IntKind.u8.wrap (48 + (((q : Nat) : Int) % 10))))] ?_
   rw [show IntKind.u8.wrap (48 + (((q : Nat) : Int) % 10)) = 48 + (((q : Nat) : Int) % 10) from wrap_u8 (by omega) (by omega)]
   refine stv (v := .pointer (some ⟨w.heap.size, i - 1, none⟩)) (by rfl) (R_idxP0 (k := .i64) (len := 20) (e := 5) (i - 1) (by kernel_rfl) (by kernel_rfl) (by kernel_rfl) (by kernel_rfl) rfl (by omega)) ?_
   refine st (by rfl) (S_store (b := w.heap.size) (j := i - 1) (v := .int .u8 (48 + (((q : Nat) : Int) % 10))) (by kernel_rfl) (by kernel_rfl) (by kernel_rfl) (by rfl) hB (by rw [List.length_append, zp_length, u8s_length]; omega) fun w11 hT12 hs13 hB' => ?_)
   have hT0 := (hT0).then hT12 (fun c e => by have : c = w.heap.size := e; omega)
   have hB : Blk w11 (w.heap.size) 100 (zp (i - 1) ++ u8s (dg (q % 10) :: l)) := by rw [← zp_set hi1 (dg_int q rfl)]; exact hB'
   refine op_nil ?_
   refine zR ?_
   refine zS [(19, .int .u64 ((q : Nat) : Int)), (20, .int .u64 (IntKind.u64.wrap (((q : Nat) : Int).tdiv 10)))] ?_
   rw [show IntKind.u64.wrap (((q : Nat) : Int).tdiv 10) = ((q : Nat) : Int) / 10 from by rw [Int.tdiv_eq_ediv_of_nonneg (by omega)]; exact wrap_u64 (by omega) (by omega)]
   refine fixR (y := ((q / 10 : Nat) : Int)) (by omega) ?_
   refine zS [(0, .int .u64 ((q / 10 : Nat) : Int))] ?_
   refine op_nil ?_
   refine ⟨_, (by omega), q / 10, i - 1, dg (q % 10) :: l, _, updL_self (by kernel_rfl), (by simp only [List.length_cons]; omega), (hDI.step hlm), (by omega), hT0, hB, rfl⟩

def sgn (n : Int) : Tx := if n < 0 then [45] ++ dgs (-n).toNat else dgs n.toNat
theorem sgn_neg {n : Int} (h : n < 0) (hb : -9223372036854775808 ≤ n) : IntKind.u64.wrap (0 - IntKind.u64.wrap n) = (((-n).toNat : Nat) : Int) := by
 simp only [IntKind.wrap, IntKind.bits, IntKind.signed]; simp; omega

set_option maxRecDepth 100000 in
theorem signed_ok (n : Int) (w : World) (h0 : -9223372036854775808 ≤ n) (h1 : n ≤ 9223372036854775807) : Ret Try.prog 23 [.int .i64 n] w fun v w' => v = .string (bsT (sgn n)) ∧ Tch N0 w w' := by
 refine enter Try.func23 rfl rfl ?_
 refine zQ ?_
 refine zS [(2, .string (bsT ([])))] ?_
 refine op_nil ?_
 refine W_seq ?_
 refine zQ ?_
 refine zS [(3, .int .i64 n), (4, .bool (decide (n < 0)))] ?_
 refine zO (decide (n < 0)) (fun hc1 => ?_) (fun hc1 => ?_)
 ·
  replace hc1 : n < 0 := (of_decide_eq_true hc1)
  refine zQ ?_
  refine zS [(5, .int .i64 n), (6, .int .u64 (IntKind.u64.wrap n))] ?_
  refine stv (v := .int .u64 (((-n).toNat : Nat) : Int)) (by rfl) (by rw [← sgn_neg (n := n) (by omega) (by omega)]; exact plainV_run (by kernel_rfl) _) ?_
  refine zC (digits_ok ((-n).toNat) _ (by omega)) ?_
  rintro _ w2 ⟨rfl, hT3⟩
  have hT0 := hT3
  refine stv (v := .string (bsT (([45]) ++ (dgs ((-n).toNat))))) (by rfl) (R_sadd (a := [45]) (b := dgs ((-n).toNat)) (by kernel_rfl) (by kernel_rfl) (by first | omega | (have := @dgs_20 (-n).toNat (by omega); simp only [List.length_cons, List.length_nil]; omega))) ?_
  refine zS [(2, .string (bsT (([45]) ++ (dgs ((-n).toNat)))))] ?_
  refine op_nil ?_
  refine W_ret ?_
  exact ⟨_, Res_of (v := .string (bsT (([45]) ++ (dgs ((-n).toNat))))) (by kernel_rfl), ⟨by unfold sgn; first | rw [if_pos (by omega)] | rw [if_neg (by omega)]; try rfl, hT0⟩⟩
 ·
  replace hc1 : 0 ≤ n := (Int.not_lt.1 (of_decide_eq_false hc1))
  refine W_skip ?_
  refine zQ ?_
  refine zS [(10, .int .i64 n), (11, .int .u64 (IntKind.u64.wrap n))] ?_
  rw [show IntKind.u64.wrap n = n from wrap_u64 (by omega) (by omega)]
  refine fixR (y := ((n.toNat : Nat) : Int)) (by omega) ?_
  refine zC (digits_ok n.toNat _ (by omega)) ?_
  rintro _ w4 ⟨rfl, hT5⟩
  have hT0 := hT5
  refine zS [(2, .string (bsT (dgs n.toNat)))] ?_
  refine op_nil ?_
  refine W_ret ?_
  exact ⟨_, Res_of (v := .string (bsT (dgs n.toNat))) (by kernel_rfl), ⟨by unfold sgn; first | rw [if_pos (by omega)] | rw [if_neg (by omega)]; try rfl, hT0⟩⟩

end Go.Proofs.YtlkjhkennbdbnaaV

set_option linter.unusedVariables false
set_option linter.unusedSimpArgs false
namespace Go.Proofs.YtlkjhkennbdbnaaV
open Go Go.RowKit Go.Proofs

theorem mayC_core (t : T6) : mayC (core t) = decide (t.inp.length ≤ 255 ∧ t.img.length ≤ 255 ∧ (0 ≤ t.pt ∧ t.pt ≤ 65535) ∧ (0 ≤ t.ms ∧ t.ms ≤ 65535) ∧ (0 ≤ t.cd ∧ t.cd ≤ 65535) ∧ (0 ≤ t.kd ∧ t.kd ≤ 255)) := rfl
theorem all_of {α : Type} {xs : List α} {d : α} {f : α → Bool} (h : ∀ i, i < xs.length → f (xs.getD i d) = true) : xs.all f = true := by
 rw [List.all_eq_true]
 intro x hx
 obtain ⟨i, hi, rfl⟩ := List.getElem_of_mem hx
 have := h i hi
 rwa [List.getD_eq_getElem?_getD, List.getElem?_eq_getElem hi] at this
theorem all_not {α : Type} {xs : List α} {d : α} {f : α → Bool} {j : Nat} (hj : j < xs.length) (h : f (xs.getD j d) = false) : xs.all f = false := by
 rw [List.all_eq_false]
 refine ⟨xs[j], List.getElem_mem hj, ?_⟩
 rw [List.getD_eq_getElem?_getD, List.getElem?_eq_getElem hj] at h
 have h' : f xs[j] = false := h
 rw [h']; simp

set_option maxRecDepth 100000 in
theorem in55_ok (x mo : Int) (b : Nat) (w : World) (hM : Blk w b 3 [.int .i64 mo]) : Ret Try.prog 55 [.int .i64 x, .pointer (some ⟨b, 0, none⟩)] w fun v w' => v = .bool (!inR mo x) ∧ Tch N0 w w' := by
 refine enter Try.func55 rfl rfl ?_
 refine zQ ?_
 refine zS [(3, .bool false)] ?_
 refine op_nil ?_
 refine zQ ?_
 refine zS [(4, .int .i64 x), (5, .bool (decide (x < 0))), (6, .bool (decide (x < 0)))] ?_
 cases hb1 : decide (x < 0)
 ·
  replace hb1 : 0 ≤ x := (Int.not_lt.1 (of_decide_eq_false hb1))
  refine zS [(7, .int .i64 x)] ?_
  refine zL (.int .i64 mo) ((hM.cell 0).trans rfl) ?_
  refine zS [(9, .bool (decide (x > mo))), (10, .bool (decide (x > mo))), (3, .bool (decide (x > mo)))] ?_
  refine op_nil ?_
  refine W_ret ?_
  exact ⟨_, Res_of (v := .bool (decide (x > mo))) (by kernel_rfl), ⟨congrArg Value.bool (by unfold inR; rw [← decide_not]; first | exact decide_eq_decide.2 (by omega) | exact (decide_eq_true (by omega)).symm | exact (decide_eq_false (by omega)).symm), Tch.refl _ _⟩⟩
 ·
  replace hb1 : x < 0 := (of_decide_eq_true hb1)
  refine zS [(7, undef), (8, undef), (9, undef), (10, .bool true), (3, .bool true)] ?_
  refine op_nil ?_
  refine W_ret ?_
  exact ⟨_, Res_of (v := .bool true) (by kernel_rfl), ⟨congrArg Value.bool (by unfold inR; rw [← decide_not]; first | exact decide_eq_decide.2 (by omega) | exact (decide_eq_true (by omega)).symm | exact (decide_eq_false (by omega)).symm), Tch.refl _ _⟩⟩

set_option maxRecDepth 100000 in
theorem ix61_ok (xs : List Int) (X : Option Addr) (xc : Nat) (mo : Int) (b : Nat) (w : World) (hM : Blk w b 3 [.int .i64 mo]) (hX : RdW w 1 xs.length X (ints .i64 xs)) : Ret Try.prog 61 [.slice X xs.length xc, .func (.func 55) #[] #[.pointer (some ⟨b, 0, none⟩)]] w fun v w' => ∃ r : Int, v = .int .i64 r ∧ decide (r ≥ 0) = !xs.all (inR mo) ∧ Tch N0 w w' := by
 have hXl := hX.len
 have hXm := hX.2.1
 refine enter Try.func61 rfl rfl ?_
 refine zQ ?_
 refine zS [(4, .int .i64 0)] ?_
 refine op_nil ?_
 refine W_seq ?_
 refine zQ ?_
 refine zS [(6, .slice X xs.length xc), (7, .int .i64 (xs.length : Int)), (8, .int .i64 0)] ?_
 refine op_nil ?_
 refine W_block ?_
 refine W_loop (fun m ρ w' => ∃ (j : Nat) (ρ0 : Env), ρ = updL ρ0 [(0, .slice X xs.length xc), (1, .func (.func 55) #[] #[.pointer (some ⟨b, 0, none⟩)]), (7, .int .i64 (xs.length : Int)), (8, .int .i64 ((j : Nat) : Int))] ∧ (j ≤ xs.length) ∧ (∀ i, i < j → inR mo (xs.getD i 0) = true) ∧ Tch N0 w w' ∧ Blk w' (b) 3 [.int .i64 mo] ∧ m = xs.length + 1 - j) (m := xs.length + 1 - 0) ?_ ?_
 ·
  refine ⟨0, _, updL_self (by kernel_rfl), by omega, (fun i h => by omega), Tch.refl _ _, hM, rfl⟩
 ·
  rintro m ρ w1 ⟨j, ρ, rfl, hj, hall, hT0, hM, rfl⟩
  refine zQ ?_
  refine zS [(9, .bool (decide (((j : Nat) : Int) < (xs.length : Int))))] ?_
  refine op_nil ?_
  refine W_seq ?_
  refine zW (decide (((j : Nat) : Int) < (xs.length : Int))) (fun hc2 => ?_) (fun hc2 => ?_)
  ·
   replace hc2 : ((j : Nat) : Int) < (xs.length : Int) := (of_decide_eq_true hc2)
   refine W_skip ?_
   refine W_seq ?_
   refine W_block ?_
   refine zQ ?_
   refine zS [(10, .int .i64 ((j : Nat) : Int)), (5, .int .i64 ((j : Nat) : Int))] ?_
   refine op_nil ?_
   refine zQ ?_
   refine zS [(11, .func (.func 55) #[] #[.pointer (some ⟨b, 0, none⟩)]), (12, .slice X xs.length xc), (13, .int .i64 ((j : Nat) : Int))] ?_
   refine stv (v := ptrAt X j) (by rfl) (R_indexRd1 (len := xs.length) (cap := xc) (k := .i64) (i := ((j : Nat) : Int)) (e := 3) j (hX.tch0 hT0) (by kernel_rfl) (by kernel_rfl) (by kernel_rfl) (by kernel_rfl) rfl (by omega)) ?_
   refine stv (v := .int .i64 (xs.getD j 0)) (by rfl) (R_loadRd (v := .int .i64 (xs.getD j 0)) (hX.tch0 hT0) (by omega) (by kernel_rfl) (by kernel_rfl) (ints_at .i64 xs (by omega))) ?_
   refine zC (in55_ok (xs.getD j 0) mo b _ hM) ?_
   rintro _ w3 ⟨rfl, hT4⟩
   have hT0 := hT0.t0 hT4
   have hM := hM.tch0 hT4
   refine zO (!(inR mo (xs.getD j 0))) (fun hc5 => ?_) (fun hc5 => ?_)
   ·
    replace hc5 : ¬ (0 ≤ xs.getD j 0 ∧ xs.getD j 0 ≤ mo) := (of_decide_eq_false (not_t hc5))
    refine W_seq ?_
    refine zF [(0, .slice X xs.length xc), (1, .func (.func 55) #[] #[.pointer (some ⟨b, 0, none⟩)]), (5, .int .i64 ((j : Nat) : Int)), (7, .int .i64 (xs.length : Int)), (8, .int .i64 ((j : Nat) : Int)), (9, .bool (decide (((j : Nat) : Int) < (xs.length : Int)))), (16, .bool (!(inR mo (xs.getD j 0))))] fun ρ => ?_
    refine zR ?_
    refine zS [(17, .int .i64 ((j : Nat) : Int)), (4, .int .i64 ((j : Nat) : Int))] ?_
    refine op_nil ?_
    refine W_ret ?_
    exact ⟨_, Res_of (v := .int .i64 ((j : Nat) : Int)) (by kernel_rfl), ⟨_, rfl, by rw [decide_eq_true (by omega), all_not (f := inR mo) (d := 0) (j := j) (by omega) (decide_eq_false (by assumption))]; rfl, hT0⟩⟩
   ·
    replace hc5 : (0 ≤ xs.getD j 0 ∧ xs.getD j 0 ≤ mo) := (of_decide_eq_true (not_f hc5))
    refine W_skip ?_
    refine zF [(0, .slice X xs.length xc), (1, .func (.func 55) #[] #[.pointer (some ⟨b, 0, none⟩)]), (5, .int .i64 ((j : Nat) : Int)), (7, .int .i64 (xs.length : Int)), (8, .int .i64 ((j : Nat) : Int)), (9, .bool (decide (((j : Nat) : Int) < (xs.length : Int)))), (16, .bool (!(inR mo (xs.getD j 0))))] fun ρ => ?_
    refine zR ?_
    refine zS [(18, .int .i64 (IntKind.i64.wrap (((j : Nat) : Int) + 1)))] ?_
    rw [show IntKind.i64.wrap (((j : Nat) : Int) + 1) = ((j : Nat) : Int) + 1 from wrap_i64 (by omega) (by omega)]
    refine fixR (y := ((j + 1 : Nat) : Int)) (by omega) ?_
    refine zS [(8, .int .i64 ((j + 1 : Nat) : Int))] ?_
    refine op_nil ?_
    refine ⟨_, (by omega), j + 1, _, updL_self (by kernel_rfl), (by omega), (fun i h => (Nat.lt_or_eq_of_le (Nat.le_of_lt_succ h)).elim (hall i) (fun e => by rw [e]; exact decide_eq_true (by assumption))), hT0, hM, rfl⟩
  ·
   replace hc2 : (xs.length : Int) ≤ ((j : Nat) : Int) := (Int.not_lt.1 (of_decide_eq_false hc2))
   refine W_exit ?_
   refine X_hit ?_
   refine zQ ?_
   refine zS [(4, .int .i64 (-1))] ?_
   refine op_nil ?_
   refine W_ret ?_
   exact ⟨_, Res_of (v := .int .i64 (-1)) (by kernel_rfl), ⟨_, rfl, by rw [all_of (f := inR mo) (d := 0) (fun i h => hall i (by omega))]; rfl, hT0⟩⟩

set_option maxRecDepth 100000 in
theorem cf54_ok (xs : List Int) (X : Option Addr) (xc : Nat) (mo : Int) (b : Nat) (w : World) (hM : Blk w b 3 [.int .i64 mo]) (hX : RdW w 1 xs.length X (ints .i64 xs)) : Ret Try.prog 54 [.slice X xs.length xc, .func (.func 55) #[] #[.pointer (some ⟨b, 0, none⟩)]] w fun v w' => v = .bool (!xs.all (inR mo)) ∧ Tch N0 w w' := by
 refine enter Try.func54 rfl rfl ?_
 refine zQ ?_
 refine zS [(4, .bool false)] ?_
 refine op_nil ?_
 refine zQ ?_
 refine zS [(5, .slice X xs.length xc), (6, .func (.func 55) #[] #[.pointer (some ⟨b, 0, none⟩)])] ?_
 refine zC (ix61_ok xs X xc mo b _ hM (hX)) ?_
 rintro _ w1 ⟨r, rfl, hr, hT2⟩
 have hT0 := hT2
 have hM := hM.tch0 hT2
 refine zS [(8, .bool (decide (r ≥ 0))), (4, .bool (decide (r ≥ 0)))] ?_
 refine op_nil ?_
 refine W_ret ?_
 exact ⟨_, Res_of (v := .bool (decide (r ≥ 0))) (by kernel_rfl), ⟨congrArg Value.bool hr, hT0⟩⟩

set_option maxRecDepth 100000 in
theorem in_ok (xs : List Int) (X : Option Addr) (xc : Nat) (mo : Int) (w : World) (hX : RdW w 1 xs.length X (ints .i64 xs)) : Ret Try.prog 39 [.int .i64 mo, .slice X xs.length xc] w fun v w' => v = .bool (xs.all (inR mo)) ∧ Tch N0 w w' := by
 refine enter Try.func39 rfl rfl ?_
 refine zQ ?_
 refine st (by rfl) (S_new (v := .pointer (some ⟨w.heap.size, 0, none⟩)) (ob := .cells #[.int .i64 mo] 3) (by kernel_rfl) fun w1 hT2 hs3 hB4 => ?_)
 replace hB4 : Blk w1 (w.heap.size) 3 [.int .i64 mo] := hB4
 have hT0 := hT2
 refine zS [(4, .bool false)] ?_
 refine op_nil ?_
 refine zQ ?_
 refine zS [(5, .slice X xs.length xc), (6, .func (.func 55) #[] #[.pointer (some ⟨w.heap.size, 0, none⟩)])] ?_
 refine zC (cf54_ok xs X xc mo (w.heap.size) _ hB4 (hX.tch0 hT0)) ?_
 rintro _ w5 ⟨rfl, hT6⟩
 have hT0 := hT0.t0 hT6
 have hB4 := hB4.tch0 hT6
 refine zS [(8, .bool (!(!(xs.all (inR mo))))), (4, .bool (!(!(xs.all (inR mo)))))] ?_
 refine op_nil ?_
 refine W_ret ?_
 exact ⟨_, Res_of (v := .bool (!(!(xs.all (inR mo))))) (by kernel_rfl), ⟨congrArg Value.bool (by simp), hT0⟩⟩

theorem in1_ok (m x : Int) (b c : Nat) (w : World) (h : Blk w b 3 [.int .i64 x]) : Ret Try.prog 39 [.int .i64 m, .slice (some ⟨b, 0, none⟩) 1 c] w fun v w' => v = .bool (inR m x) ∧ Tch N0 w w' := by
 have := in_ok [x] (some ⟨b, 0, none⟩) c m w (h.rd 1 1 rfl (by omega))
 simpa using this
theorem in2_ok (m x y : Int) (b c : Nat) (w : World) (h : Blk w b 3 [.int .i64 x, .int .i64 y]) : Ret Try.prog 39 [.int .i64 m, .slice (some ⟨b, 0, none⟩) 2 c] w fun v w' => v = .bool (inR m x && inR m y) ∧ Tch N0 w w' := by
 have := in_ok [x, y] (some ⟨b, 0, none⟩) c m w (h.rd 1 2 rfl (by omega))
 simpa using this
theorem in3_ok (m x y z : Int) (b c : Nat) (w : World) (h : Blk w b 3 [.int .i64 x, .int .i64 y, .int .i64 z]) : Ret Try.prog 39 [.int .i64 m, .slice (some ⟨b, 0, none⟩) 3 c] w fun v w' => v = .bool (inR m x && (inR m y && inR m z)) ∧ Tch N0 w w' := by
 have := in_ok [x, y, z] (some ⟨b, 0, none⟩) c m w (h.rd 1 3 rfl (by omega))
 simpa using this

set_option maxRecDepth 100000 in
theorem may41_ok (t : T6) (w : World) : Ret Try.prog 41 [.agg #[.slice t.iA t.inp.length t.iC, .int .i64 t.pt, .int .i64 t.ms, .slice t.gA t.img.length t.gC, .int .i64 t.kd, .int .i64 t.cd]] w fun v w' => v = .bool (!mayC (core t)) ∧ Tch N0 w w' := by
 refine enter Try.func41 rfl rfl ?_
 refine zQ ?_
 refine st (by rfl) (S_new (v := .pointer (some ⟨w.heap.size, 0, none⟩)) (ob := .cells #[.slice t.iA t.inp.length t.iC, .int .i64 t.pt, .int .i64 t.ms, .slice t.gA t.img.length t.gC, .int .i64 t.kd, .int .i64 t.cd] 43) (by kernel_rfl) fun w1 hT2 hs3 hB4 => ?_)
 replace hB4 : Blk w1 (w.heap.size) 43 [.slice t.iA t.inp.length t.iC, .int .i64 t.pt, .int .i64 t.ms, .slice t.gA t.img.length t.gC, .int .i64 t.kd, .int .i64 t.cd] := hB4
 have hT0 := hT2
 refine zS [(2, .bool false)] ?_
 refine op_nil ?_
 refine zQ ?_
 refine zS [(3, .pointer (some ⟨w.heap.size, 0, none⟩))] ?_
 refine zL (.slice t.iA t.inp.length t.iC) ((hB4.cell 0).trans rfl) ?_
 refine zS [(5, .int .i64 (t.inp.length : Int)), (6, .pointer (some ⟨w.heap.size, 3, none⟩))] ?_
 refine zL (.slice t.gA t.img.length t.gC) ((hB4.cell 3).trans rfl) ?_
 refine zS [(8, .int .i64 (t.img.length : Int)), (9, .pointer (some ⟨w.heap.size, 4, none⟩))] ?_
 refine zL (.int .i64 t.kd) ((hB4.cell 4).trans rfl) ?_
 have hz9 := hT0.size
 have lt10 := hB4.lt
 refine st (by rfl) (S_new (v := .slice (some ⟨w1.heap.size, 0, none⟩) 3 3) (ob := .cells #[.int .i64 (t.inp.length : Int), .int .i64 (t.img.length : Int), .int .i64 t.kd] 3) (by kernel_rfl) fun w5 hT6 hs7 hB8 => ?_)
 replace hB8 : Blk w5 (w1.heap.size) 3 [.int .i64 (t.inp.length : Int), .int .i64 (t.img.length : Int), .int .i64 t.kd] := hB8
 have hT0 := hT0.t0 hT6
 have hB4 := hB4.tch0 hT6
 refine zC (in3_ok 255 (t.inp.length : Int) (t.img.length : Int) t.kd (w1.heap.size) 3 _ hB8) ?_
 rintro _ w11 ⟨rfl, hT12⟩
 have hT0 := hT0.t0 hT12
 have hB4 := hB4.tch0 hT12
 have hB8 := hB8.tch0 hT12
 refine zS [(13, .bool (!((inR 255 (t.inp.length : Int)) && ((inR 255 (t.img.length : Int)) && (inR 255 t.kd))))), (14, .bool (!((inR 255 (t.inp.length : Int)) && ((inR 255 (t.img.length : Int)) && (inR 255 t.kd)))))] ?_
 cases hb13 : ((inR 255 (t.inp.length : Int)) && ((inR 255 (t.img.length : Int)) && (inR 255 t.kd)))
 ·
  replace hb13 : (¬ (0 ≤ (t.inp.length : Int) ∧ (t.inp.length : Int) ≤ 255)) ∨ ((¬ (0 ≤ (t.img.length : Int) ∧ (t.img.length : Int) ≤ 255)) ∨ (¬ (0 ≤ t.kd ∧ t.kd ≤ 255))) := (Bool.and_eq_false_iff.1 hb13).imp (fun h => (of_decide_eq_false h)) (fun h => (Bool.and_eq_false_iff.1 h).imp (fun h => (of_decide_eq_false h)) (fun h => (of_decide_eq_false h)))
  refine zS [(15, undef), (16, undef), (17, undef), (18, undef), (19, undef), (20, undef), (21, undef), (22, undef), (23, undef), (24, .bool true), (2, .bool true)] ?_
  refine op_nil ?_
  refine W_ret ?_
  exact ⟨_, Res_of (v := .bool true) (by kernel_rfl), ⟨congrArg Value.bool (by rw [mayC_core]; (try unfold inR); rw [← decide_not]; first | exact (decide_eq_true (by omega)).symm | (simp only [← Bool.decide_and, ← decide_not]; exact decide_eq_decide.2 (by omega))), hT0⟩⟩
 ·
  replace hb13 : ((0 ≤ (t.inp.length : Int) ∧ (t.inp.length : Int) ≤ 255)) ∧ (((0 ≤ (t.img.length : Int) ∧ (t.img.length : Int) ≤ 255)) ∧ ((0 ≤ t.kd ∧ t.kd ≤ 255))) := ⟨(of_decide_eq_true (Bool.and_eq_true_iff.1 hb13).1), ⟨(of_decide_eq_true (Bool.and_eq_true_iff.1 (Bool.and_eq_true_iff.1 hb13).2).1), (of_decide_eq_true (Bool.and_eq_true_iff.1 (Bool.and_eq_true_iff.1 hb13).2).2)⟩⟩
  refine zS [(15, .pointer (some ⟨w.heap.size, 1, none⟩))] ?_
  refine zL (.int .i64 t.pt) ((hB4.cell 1).trans rfl) ?_
  refine zS [(17, .pointer (some ⟨w.heap.size, 2, none⟩))] ?_
  refine zL (.int .i64 t.ms) ((hB4.cell 2).trans rfl) ?_
  refine zS [(19, .pointer (some ⟨w.heap.size, 5, none⟩))] ?_
  refine zL (.int .i64 t.cd) ((hB4.cell 5).trans rfl) ?_
  have hz18 := hT0.size
  have lt19 := hB4.lt
  have lt20 := hB8.lt
  refine st (by kernel_rfl) (S_new (v := .slice (some ⟨w11.heap.size, 0, none⟩) 3 3) (ob := .cells #[.int .i64 t.pt, .int .i64 t.ms, .int .i64 t.cd] 3) (by kernel_rfl) fun w14 hT15 hs16 hB17 => ?_)
  replace hB17 : Blk w14 (w11.heap.size) 3 [.int .i64 t.pt, .int .i64 t.ms, .int .i64 t.cd] := hB17
  have hT0 := hT0.t0 hT15
  have hB4 := hB4.tch0 hT15
  have hB8 := hB8.tch0 hT15
  refine zC (in3_ok 65535 t.pt t.ms t.cd (w11.heap.size) 3 _ hB17) ?_
  rintro _ w21 ⟨rfl, hT22⟩
  have hT0 := hT0.t0 hT22
  have hB4 := hB4.tch0 hT22
  have hB8 := hB8.tch0 hT22
  have hB17 := hB17.tch0 hT22
  refine zS [(23, .bool (!((inR 65535 t.pt) && ((inR 65535 t.ms) && (inR 65535 t.cd))))), (24, .bool (!((inR 65535 t.pt) && ((inR 65535 t.ms) && (inR 65535 t.cd))))), (2, .bool (!((inR 65535 t.pt) && ((inR 65535 t.ms) && (inR 65535 t.cd)))))] ?_
  refine op_nil ?_
  refine W_ret ?_
  exact ⟨_, Res_of (v := .bool (!((inR 65535 t.pt) && ((inR 65535 t.ms) && (inR 65535 t.cd))))) (by kernel_rfl), ⟨congrArg Value.bool (by rw [mayC_core]; (try unfold inR); rw [← decide_not]; first | exact (decide_eq_true (by omega)).symm | (simp only [← Bool.decide_and, ← decide_not]; exact decide_eq_decide.2 (by omega))), hT0⟩⟩

end Go.Proofs.YtlkjhkennbdbnaaV

set_option linter.unusedVariables false
set_option linter.unusedSimpArgs false
namespace Go.Proofs.YtlkjhkennbdbnaaV
open Go Go.RowKit Go.Proofs

theorem core_getD {l : List T6} {j : Nat} (h : j < l.length) : (cores l).getD j (core t60) = core (tq l j) := by
 rw [List.getD_eq_getElem?_getD, core_tq h]; rfl

set_option maxRecDepth 100000 in
theorem ix56_ok (A : Option Addr) (c : Nat) (l : List T6) (w : World) (hR : TsW w A l) : Ret Try.prog 56 [.slice A l.length c, .func (.func 41) #[] #[]] w fun v w' => ∃ r : Int, v = .int .i64 r ∧ decide (r ≥ 0) = !(cores l).all mayC ∧ Tch N0 w w' := by
 have hXm := hR.rd.2.1
 have hcl := cores_length l
 refine enter Try.func56 rfl rfl ?_
 refine zQ ?_
 refine zS [(4, .int .i64 0)] ?_
 refine op_nil ?_
 refine W_seq ?_
 refine zQ ?_
 refine zS [(6, .slice A l.length c), (7, .int .i64 (l.length : Int)), (8, .int .i64 0)] ?_
 refine op_nil ?_
 refine W_block ?_
 refine W_loop (fun m ρ w' => ∃ (j : Nat) (ρ0 : Env), ρ = updL ρ0 [(0, .slice A l.length c), (1, .func (.func 41) #[] #[]), (7, .int .i64 (l.length : Int)), (8, .int .i64 ((j : Nat) : Int))] ∧ (j ≤ (cores l).length) ∧ (∀ i, i < j → mayC ((cores l).getD i (core t60)) = true) ∧ Tch N0 w w' ∧ m = l.length + 1 - j) (m := l.length + 1 - 0) ?_ ?_
 ·
  refine ⟨0, _, updL_self (by kernel_rfl), by omega, (fun i h => by omega), Tch.refl _ _, rfl⟩
 ·
  rintro m ρ w1 ⟨j, ρ, rfl, hj, hall, hT0, rfl⟩
  refine zQ ?_
  refine zS [(9, .bool (decide (((j : Nat) : Int) < (l.length : Int))))] ?_
  refine op_nil ?_
  refine W_seq ?_
  refine zW (decide (((j : Nat) : Int) < (l.length : Int))) (fun hc2 => ?_) (fun hc2 => ?_)
  ·
   replace hc2 : ((j : Nat) : Int) < (l.length : Int) := (of_decide_eq_true hc2)
   refine W_skip ?_
   refine W_seq ?_
   refine W_block ?_
   refine zQ ?_
   refine zS [(10, .int .i64 ((j : Nat) : Int)), (5, .int .i64 ((j : Nat) : Int))] ?_
   refine op_nil ?_
   refine zQ ?_
   refine zS [(11, .func (.func 41) #[] #[]), (12, .slice A l.length c), (13, .int .i64 ((j : Nat) : Int))] ?_
   refine stv (v := ptrAt A (j * 6)) (by rfl) (R_indexRd (sz := 6) (len := l.length) (cap := c) (k := .i64) (i := ((j : Nat) : Int)) (e := 43) j (hR.rd.tch0 hT0) (by kernel_rfl) (by kernel_rfl) (by kernel_rfl) (by kernel_rfl) rfl (by omega)) ?_
   refine stv (v := .agg #[.slice ((tq l j).iA) ((tq l j).inp.length) ((tq l j).iC), .int .i64 ((tq l j).pt), .int .i64 ((tq l j).ms), .slice ((tq l j).gA) ((tq l j).img.length) ((tq l j).gC), .int .i64 ((tq l j).kd), .int .i64 ((tq l j).cd)]) (by rfl) (R_loadRdA [.slice ((tq l j).iA) ((tq l j).inp.length) ((tq l j).iC), .int .i64 ((tq l j).pt), .int .i64 ((tq l j).ms), .slice ((tq l j).gA) ((tq l j).img.length) ((tq l j).gC), .int .i64 ((tq l j).kd), .int .i64 ((tq l j).cd)] (hR.rd.tch0 hT0) (by omega) (by kernel_rfl) (by kernel_rfl) (by kernel_rfl) (tcs_part l (by omega))) ?_
   refine zC (may41_ok (tq l j) _) ?_
   rintro _ w3 ⟨rfl, hT4⟩
   have hT0 := hT0.t0 hT4
   refine zO (!(mayC (core (tq l j)))) (fun hc5 => ?_) (fun hc5 => ?_)
   ·
    replace hc5 : mayC (core (tq l j)) = false := ((not_t hc5))
    refine W_seq ?_
    refine zF [(0, .slice A l.length c), (1, .func (.func 41) #[] #[]), (5, .int .i64 ((j : Nat) : Int)), (7, .int .i64 (l.length : Int)), (8, .int .i64 ((j : Nat) : Int)), (9, .bool (decide (((j : Nat) : Int) < (l.length : Int)))), (16, .bool (!(mayC (core (tq l j)))))] fun ρ => ?_
    refine zR ?_
    refine zS [(17, .int .i64 ((j : Nat) : Int)), (4, .int .i64 ((j : Nat) : Int))] ?_
    refine op_nil ?_
    refine W_ret ?_
    exact ⟨_, Res_of (v := .int .i64 ((j : Nat) : Int)) (by kernel_rfl), ⟨_, rfl, by rw [decide_eq_true (by omega), all_not (f := mayC) (d := core t60) (j := j) (by omega) (by rw [core_getD (by omega)]; assumption)]; rfl, hT0⟩⟩
   ·
    replace hc5 : mayC (core (tq l j)) = true := ((not_f hc5))
    refine W_skip ?_
    refine zF [(0, .slice A l.length c), (1, .func (.func 41) #[] #[]), (5, .int .i64 ((j : Nat) : Int)), (7, .int .i64 (l.length : Int)), (8, .int .i64 ((j : Nat) : Int)), (9, .bool (decide (((j : Nat) : Int) < (l.length : Int)))), (16, .bool (!(mayC (core (tq l j)))))] fun ρ => ?_
    refine zR ?_
    refine zS [(18, .int .i64 (IntKind.i64.wrap (((j : Nat) : Int) + 1)))] ?_
    rw [show IntKind.i64.wrap (((j : Nat) : Int) + 1) = ((j : Nat) : Int) + 1 from wrap_i64 (by omega) (by omega)]
    refine fixR (y := ((j + 1 : Nat) : Int)) (by omega) ?_
    refine zS [(8, .int .i64 ((j + 1 : Nat) : Int))] ?_
    refine op_nil ?_
    refine ⟨_, (by omega), j + 1, _, updL_self (by kernel_rfl), (by omega), (fun i h => (Nat.lt_or_eq_of_le (Nat.le_of_lt_succ h)).elim (hall i) (fun e => by rw [e, core_getD (by omega)]; assumption)), hT0, rfl⟩
  ·
   replace hc2 : (l.length : Int) ≤ ((j : Nat) : Int) := (Int.not_lt.1 (of_decide_eq_false hc2))
   refine W_exit ?_
   refine X_hit ?_
   refine zQ ?_
   refine zS [(4, .int .i64 (-1))] ?_
   refine op_nil ?_
   refine W_ret ?_
   exact ⟨_, Res_of (v := .int .i64 (-1)) (by kernel_rfl), ⟨_, rfl, by rw [all_of (f := mayC) (d := core t60) (fun i h => hall i (by omega))]; rfl, hT0⟩⟩

set_option maxRecDepth 100000 in
theorem cf40_ok (A : Option Addr) (c : Nat) (l : List T6) (w : World) (hR : TsW w A l) : Ret Try.prog 40 [.slice A l.length c, .func (.func 41) #[] #[]] w fun v w' => v = .bool (!(cores l).all mayC) ∧ Tch N0 w w' := by
 refine enter Try.func40 rfl rfl ?_
 refine zQ ?_
 refine zS [(4, .bool false)] ?_
 refine op_nil ?_
 refine zQ ?_
 refine zS [(5, .slice A l.length c), (6, .func (.func 41) #[] #[])] ?_
 refine zC (ix56_ok A c l _ hR) ?_
 rintro _ w1 ⟨r, rfl, hr, hT2⟩
 have hT0 := hT2
 refine zS [(8, .bool (decide (r ≥ 0))), (4, .bool (decide (r ≥ 0)))] ?_
 refine op_nil ?_
 refine W_ret ?_
 exact ⟨_, Res_of (v := .bool (decide (r ≥ 0))) (by kernel_rfl), ⟨congrArg Value.bool hr, hT0⟩⟩

set_option maxRecDepth 100000 in
theorem may_ok (V E S U : Int) (A : Option Addr) (c : Nat) (l : List T6) (w : World) (hR : TsW w A l) : Ret Try.prog 16 [.agg #[.int .i64 V, .int .i64 E, .slice A l.length c, .int .i64 S, .int .i64 U]] w fun v w' => v = .bool (mayR V E S U (cores l)) ∧ Tch N0 w w' := by
 refine enter Try.func16 rfl rfl ?_
 refine zQ ?_
 refine st (by rfl) (S_new (v := .pointer (some ⟨w.heap.size, 0, none⟩)) (ob := .cells #[.int .i64 V, .int .i64 E, .slice A l.length c, .int .i64 S, .int .i64 U] 25) (by kernel_rfl) fun w1 hT2 hs3 hB4 => ?_)
 replace hB4 : Blk w1 (w.heap.size) 25 [.int .i64 V, .int .i64 E, .slice A l.length c, .int .i64 S, .int .i64 U] := hB4
 have hT0 := hT2
 refine zS [(2, .bool false)] ?_
 refine op_nil ?_
 refine W_seq ?_
 refine zQ ?_
 refine zS [(3, .pointer (some ⟨w.heap.size, 0, none⟩))] ?_
 refine zL (.int .i64 V) ((hB4.cell 0).trans rfl) ?_
 have hz9 := hT0.size
 have lt10 := hB4.lt
 refine st (by rfl) (S_new (v := .slice (some ⟨w1.heap.size, 0, none⟩) 1 1) (ob := .cells #[.int .i64 V] 3) (by kernel_rfl) fun w5 hT6 hs7 hB8 => ?_)
 replace hB8 : Blk w5 (w1.heap.size) 3 [.int .i64 V] := hB8
 have hT0 := hT0.t0 hT6
 have hB4 := hB4.tch0 hT6
 refine zC (in1_ok 3 V (w1.heap.size) 1 _ hB8) ?_
 rintro _ w11 ⟨rfl, hT12⟩
 have hT0 := hT0.t0 hT12
 have hB4 := hB4.tch0 hT12
 have hB8 := hB8.tch0 hT12
 refine zS [(7, .bool (!(inR 3 V))), (8, .bool (!(inR 3 V)))] ?_
 cases hb13 : inR 3 V
 ·
  replace hb13 : ¬ (0 ≤ V ∧ V ≤ 3) := (of_decide_eq_false hb13)
  refine zS [(9, undef), (10, undef), (11, undef), (12, undef), (13, undef), (14, .bool true), (15, .bool true), (16, undef), (17, undef), (18, undef), (19, undef), (20, undef), (21, undef), (22, undef), (23, .bool true), (24, .bool true), (25, undef), (26, undef), (27, undef), (28, undef), (29, .bool true)] ?_
  refine zO true (fun _ => ?_) (fun h => nomatch h)
  refine W_seq ?_
  refine zF [(0, .agg #[.int .i64 V, .int .i64 E, .slice A l.length c, .int .i64 S, .int .i64 U]), (1, .pointer (some ⟨w.heap.size, 0, none⟩)), (2, .bool false), (29, .bool true)] fun ρ => ?_
  refine zR ?_
  refine zS [(2, .bool false)] ?_
  refine op_nil ?_
  refine W_ret ?_
  exact ⟨_, Res_of (v := .bool false) (by kernel_rfl), ⟨congrArg Value.bool (by unfold mayR mayH; rw [cores_length]; first | (rw [decide_eq_true (by omega)]; first | rfl | simp) | (rw [decide_eq_false (by omega)]; first | rfl | simp)), hT0⟩⟩
 ·
  replace hb13 : (0 ≤ V ∧ V ≤ 3) := (of_decide_eq_true hb13)
  refine zS [(9, .pointer (some ⟨w.heap.size, 1, none⟩))] ?_
  refine zL (.int .i64 E) ((hB4.cell 1).trans rfl) ?_
  have hz18 := hT0.size
  have lt19 := hB4.lt
  have lt20 := hB8.lt
  refine st (by kernel_rfl) (S_new (v := .slice (some ⟨w11.heap.size, 0, none⟩) 1 1) (ob := .cells #[.int .i64 E] 3) (by kernel_rfl) fun w14 hT15 hs16 hB17 => ?_)
  replace hB17 : Blk w14 (w11.heap.size) 3 [.int .i64 E] := hB17
  have hT0 := hT0.t0 hT15
  have hB4 := hB4.tch0 hT15
  have hB8 := hB8.tch0 hT15
  refine zC (in1_ok 255 E (w11.heap.size) 1 _ hB17) ?_
  rintro _ w21 ⟨rfl, hT22⟩
  have hT0 := hT0.t0 hT22
  have hB4 := hB4.tch0 hT22
  have hB8 := hB8.tch0 hT22
  have hB17 := hB17.tch0 hT22
  refine zS [(13, .bool (!(inR 255 E))), (14, .bool (!(inR 255 E))), (15, .bool (!(inR 255 E)))] ?_
  cases hb23 : inR 255 E
  ·
   replace hb23 : ¬ (0 ≤ E ∧ E ≤ 255) := (of_decide_eq_false hb23)
   refine zS [(16, undef), (17, undef), (18, undef), (19, undef), (20, undef), (21, undef), (22, undef), (23, .bool true), (24, .bool true), (25, undef), (26, undef), (27, undef), (28, undef), (29, .bool true)] ?_
   refine zO true (fun _ => ?_) (fun h => nomatch h)
   refine W_seq ?_
   refine zF [(0, .agg #[.int .i64 V, .int .i64 E, .slice A l.length c, .int .i64 S, .int .i64 U]), (1, .pointer (some ⟨w.heap.size, 0, none⟩)), (2, .bool false), (29, .bool true)] fun ρ => ?_
   refine zR ?_
   refine zS [(2, .bool false)] ?_
   refine op_nil ?_
   refine W_ret ?_
   exact ⟨_, Res_of (v := .bool false) (by kernel_rfl), ⟨congrArg Value.bool (by unfold mayR mayH; rw [cores_length]; first | (rw [decide_eq_true (by omega)]; first | rfl | simp) | (rw [decide_eq_false (by omega)]; first | rfl | simp)), hT0⟩⟩
  ·
   replace hb23 : (0 ≤ E ∧ E ≤ 255) := (of_decide_eq_true hb23)
   refine zS [(16, .pointer (some ⟨w.heap.size, 3, none⟩))] ?_
   refine zL (.int .i64 S) ((hB4.cell 3).trans rfl) ?_
   refine zS [(18, .pointer (some ⟨w.heap.size, 4, none⟩))] ?_
   refine zL (.int .i64 U) ((hB4.cell 4).trans rfl) ?_
   have hz28 := hT0.size
   have lt29 := hB4.lt
   have lt30 := hB8.lt
   have lt31 := hB17.lt
   refine st (by kernel_rfl) (S_new (v := .slice (some ⟨w21.heap.size, 0, none⟩) 2 2) (ob := .cells #[.int .i64 S, .int .i64 U] 3) (by kernel_rfl) fun w24 hT25 hs26 hB27 => ?_)
   replace hB27 : Blk w24 (w21.heap.size) 3 [.int .i64 S, .int .i64 U] := hB27
   have hT0 := hT0.t0 hT25
   have hB4 := hB4.tch0 hT25
   have hB8 := hB8.tch0 hT25
   have hB17 := hB17.tch0 hT25
   refine zC (in2_ok 1073741824 S U (w21.heap.size) 2 _ hB27) ?_
   rintro _ w32 ⟨rfl, hT33⟩
   have hT0 := hT0.t0 hT33
   have hB4 := hB4.tch0 hT33
   have hB8 := hB8.tch0 hT33
   have hB17 := hB17.tch0 hT33
   have hB27 := hB27.tch0 hT33
   refine zS [(22, .bool (!((inR 1073741824 S) && (inR 1073741824 U)))), (23, .bool (!((inR 1073741824 S) && (inR 1073741824 U)))), (24, .bool (!((inR 1073741824 S) && (inR 1073741824 U))))] ?_
   cases hb34 : ((inR 1073741824 S) && (inR 1073741824 U))
   ·
    replace hb34 : (¬ (0 ≤ S ∧ S ≤ 1073741824)) ∨ (¬ (0 ≤ U ∧ U ≤ 1073741824)) := (Bool.and_eq_false_iff.1 hb34).imp (fun h => (of_decide_eq_false h)) (fun h => (of_decide_eq_false h))
    refine zS [(25, undef), (26, undef), (27, undef), (28, undef), (29, .bool true)] ?_
    refine zO true (fun _ => ?_) (fun h => nomatch h)
    refine W_seq ?_
    refine zF [(0, .agg #[.int .i64 V, .int .i64 E, .slice A l.length c, .int .i64 S, .int .i64 U]), (1, .pointer (some ⟨w.heap.size, 0, none⟩)), (2, .bool false), (29, .bool true)] fun ρ => ?_
    refine zR ?_
    refine zS [(2, .bool false)] ?_
    refine op_nil ?_
    refine W_ret ?_
    exact ⟨_, Res_of (v := .bool false) (by kernel_rfl), ⟨congrArg Value.bool (by unfold mayR mayH; rw [cores_length]; first | (rw [decide_eq_true (by omega)]; first | rfl | simp) | (rw [decide_eq_false (by omega)]; first | rfl | simp)), hT0⟩⟩
   ·
    replace hb34 : ((0 ≤ S ∧ S ≤ 1073741824)) ∧ ((0 ≤ U ∧ U ≤ 1073741824)) := ⟨(of_decide_eq_true (Bool.and_eq_true_iff.1 hb34).1), (of_decide_eq_true (Bool.and_eq_true_iff.1 hb34).2)⟩
    refine zS [(25, .pointer (some ⟨w.heap.size, 2, none⟩))] ?_
    refine zL (.slice A l.length c) ((hB4.cell 2).trans rfl) ?_
    refine zS [(27, .int .i64 (l.length : Int)), (28, .bool (decide ((l.length : Int) > 65535))), (29, .bool (decide ((l.length : Int) > 65535)))] ?_
    refine zO (decide ((l.length : Int) > 65535)) (fun hc35 => ?_) (fun hc35 => ?_)
    ·
     replace hc35 : 65535 < (l.length : Int) := (of_decide_eq_true hc35)
     refine W_seq ?_
     refine zF [(0, .agg #[.int .i64 V, .int .i64 E, .slice A l.length c, .int .i64 S, .int .i64 U]), (1, .pointer (some ⟨w.heap.size, 0, none⟩)), (2, .bool false), (29, .bool (decide ((l.length : Int) > 65535)))] fun ρ => ?_
     refine zR ?_
     refine zS [(2, .bool false)] ?_
     refine op_nil ?_
     refine W_ret ?_
     exact ⟨_, Res_of (v := .bool false) (by kernel_rfl), ⟨congrArg Value.bool (by unfold mayR mayH; rw [cores_length]; first | (rw [decide_eq_true (by omega)]; first | rfl | simp) | (rw [decide_eq_false (by omega)]; first | rfl | simp)), hT0⟩⟩
    ·
     replace hc35 : (l.length : Int) ≤ 65535 := (Int.not_lt.1 (of_decide_eq_false hc35))
     refine W_skip ?_
     refine W_seq ?_
     refine zF [(0, .agg #[.int .i64 V, .int .i64 E, .slice A l.length c, .int .i64 S, .int .i64 U]), (1, .pointer (some ⟨w.heap.size, 0, none⟩)), (2, .bool false), (29, .bool (decide ((l.length : Int) > 65535)))] fun ρ => ?_
     refine zR ?_
     refine zS [(30, .pointer (some ⟨w.heap.size, 2, none⟩))] ?_
     refine zL (.slice A l.length c) ((hB4.cell 2).trans rfl) ?_
     refine zC (cf40_ok A c l _ (hR.tch0 hT0)) ?_
     rintro _ w36 ⟨rfl, hT37⟩
     have hT0 := hT0.t0 hT37
     have hB4 := hB4.tch0 hT37
     have hB8 := hB8.tch0 hT37
     have hB17 := hB17.tch0 hT37
     have hB27 := hB27.tch0 hT37
     refine zS [(33, .bool (!(!((cores l).all mayC)))), (2, .bool (!(!((cores l).all mayC))))] ?_
     refine op_nil ?_
     refine W_ret ?_
     exact ⟨_, Res_of (v := .bool (!(!((cores l).all mayC)))) (by kernel_rfl), ⟨congrArg Value.bool (by unfold mayR mayH; rw [cores_length]; first | (rw [decide_eq_true (by omega)]; first | rfl | simp) | (rw [decide_eq_false (by omega)]; first | rfl | simp)), hT0⟩⟩

def fewP (l : List T6) : Prop := l.length ≤ 60 ∧ ∀ t, t ∈ l → t.inp.length ≤ 300 ∧ t.img.length ≤ 300
theorem few_of {l : List T6} (h : l.length ≤ 60) (ha : ∀ i, i < l.length → (tq l i).inp.length ≤ 300 ∧ (tq l i).img.length ≤ 300) : fewP l := by
 refine ⟨h, fun t ht => ?_⟩
 obtain ⟨i, hi, rfl⟩ := List.getElem_of_mem ht
 have := ha i hi
 unfold tq at this
 rwa [List.getD_eq_getElem?_getD, List.getElem?_eq_getElem hi] at this

set_option maxRecDepth 100000 in
theorem few_ok (V E S U : Int) (A : Option Addr) (c : Nat) (l : List T6) (w : World) (hR : TsW w A l) : Ret Try.prog 6 [.agg #[.int .i64 V, .int .i64 E, .slice A l.length c, .int .i64 S, .int .i64 U]] w fun v w' => ∃ b, v = .bool b ∧ (b = true → fewP l) ∧ Tch N0 w w' := by
 have hXm := hR.rd.2.1
 refine enter Try.func6 rfl rfl ?_
 refine zQ ?_
 refine st (by rfl) (S_new (v := .pointer (some ⟨w.heap.size, 0, none⟩)) (ob := .cells #[.int .i64 V, .int .i64 E, .slice A l.length c, .int .i64 S, .int .i64 U] 25) (by kernel_rfl) fun w1 hT2 hs3 hB4 => ?_)
 replace hB4 : Blk w1 (w.heap.size) 25 [.int .i64 V, .int .i64 E, .slice A l.length c, .int .i64 S, .int .i64 U] := hB4
 have hT0 := hT2
 refine zS [(2, .bool false)] ?_
 refine op_nil ?_
 refine W_seq ?_
 refine zQ ?_
 refine zS [(4, .pointer (some ⟨w.heap.size, 2, none⟩))] ?_
 refine zL (.slice A l.length c) ((hB4.cell 2).trans rfl) ?_
 refine zS [(6, .int .i64 (l.length : Int)), (7, .bool (decide ((l.length : Int) > 60)))] ?_
 refine zO (decide ((l.length : Int) > 60)) (fun hc5 => ?_) (fun hc5 => ?_)
 ·
  replace hc5 : 60 < (l.length : Int) := (of_decide_eq_true hc5)
  refine zQ ?_
  refine zS [(2, .bool false)] ?_
  refine op_nil ?_
  refine W_ret ?_
  exact ⟨_, Res_of (v := .bool false) (by kernel_rfl), ⟨_, rfl, (fun h => by cases h), hT0⟩⟩
 ·
  replace hc5 : (l.length : Int) ≤ 60 := (Int.not_lt.1 (of_decide_eq_false hc5))
  refine W_skip ?_
  refine W_seq ?_
  refine zQ ?_
  refine zS [(3, .int .i64 0)] ?_
  refine op_nil ?_
  refine W_block ?_
  refine W_loop (fun m ρ w' => ∃ (j : Nat) (ρ0 : Env), ρ = updL ρ0 [(1, .pointer (some ⟨w.heap.size, 0, none⟩)), (3, .int .i64 ((j : Nat) : Int))] ∧ (j ≤ l.length) ∧ (∀ i, i < j → (tq l i).inp.length ≤ 300 ∧ (tq l i).img.length ≤ 300) ∧ Tch N0 w w' ∧ Blk w' (w.heap.size) 25 [.int .i64 V, .int .i64 E, .slice A l.length c, .int .i64 S, .int .i64 U] ∧ m = l.length + 1 - j) (m := l.length + 1 - 0) ?_ ?_
  ·
   refine ⟨0, _, updL_self (by kernel_rfl), by omega, (fun i h => by omega), hT0, hB4, rfl⟩
  ·
   rintro m ρ w6 ⟨j, ρ, rfl, hj, hall, hT0, hQ, rfl⟩
   refine W_seq ?_
   refine zQ ?_
   refine zS [(8, .int .i64 ((j : Nat) : Int)), (9, .pointer (some ⟨w.heap.size, 2, none⟩))] ?_
   refine zL (.slice A l.length c) ((hQ.cell 2).trans rfl) ?_
   refine zS [(11, .int .i64 (l.length : Int)), (12, .bool (decide (((j : Nat) : Int) < (l.length : Int))))] ?_
   refine zO (decide (((j : Nat) : Int) < (l.length : Int))) (fun hc7 => ?_) (fun hc7 => ?_)
   ·
    replace hc7 : ((j : Nat) : Int) < (l.length : Int) := (of_decide_eq_true hc7)
    refine W_skip ?_
    refine W_seq ?_
    refine W_block ?_
    refine zQ ?_
    refine zS [(15, .pointer (some ⟨w.heap.size, 2, none⟩))] ?_
    refine zL (.slice A l.length c) ((hQ.cell 2).trans rfl) ?_
    refine zS [(17, .int .i64 ((j : Nat) : Int))] ?_
    refine stv (v := ptrAt A (j * 6)) (by rfl) (R_indexRd (sz := 6) (len := l.length) (cap := c) (k := .i64) (i := ((j : Nat) : Int)) (e := 43) j (hR.rd.tch0 hT0) (by kernel_rfl) (by kernel_rfl) (by kernel_rfl) (by kernel_rfl) rfl (by omega)) ?_
    refine stv (v := ptrAt A (j * 6)) (by rfl) (R_fieldRd (m := 0) (hR.rd.tch0 hT0) (by omega) (by kernel_rfl) (fun _ _ => by rfl)) ?_
    refine stv (v := .slice ((tq l j).iA) ((tq l j).inp.length) ((tq l j).iC)) (by rfl) (R_loadRd (v := .slice ((tq l j).iA) ((tq l j).inp.length) ((tq l j).iC)) (hR.rd.tch0 hT0) (by omega) (by kernel_rfl) (by kernel_rfl) (tcs_part l (by omega) 0 _ rfl)) ?_
    refine zS [(21, .int .i64 ((tq l j).inp.length : Int)), (22, .bool (decide (((tq l j).inp.length : Int) > 300))), (23, .bool (decide (((tq l j).inp.length : Int) > 300)))] ?_
    cases hb8 : decide (((tq l j).inp.length : Int) > 300)
    ·
     replace hb8 : ((tq l j).inp.length : Int) ≤ 300 := (Int.not_lt.1 (of_decide_eq_false hb8))
     refine zS [(24, .pointer (some ⟨w.heap.size, 2, none⟩))] ?_
     refine zL (.slice A l.length c) ((hQ.cell 2).trans rfl) ?_
     refine zS [(26, .int .i64 ((j : Nat) : Int))] ?_
     refine stv (v := ptrAt A (j * 6)) (by kernel_rfl) (R_indexRd (sz := 6) (len := l.length) (cap := c) (k := .i64) (i := ((j : Nat) : Int)) (e := 43) j (hR.rd.tch0 hT0) (by kernel_rfl) (by kernel_rfl) (by kernel_rfl) (by kernel_rfl) rfl (by omega)) ?_
     refine stv (v := ptrAt A (j * 6 + 3)) (by kernel_rfl) (R_fieldRd (m := 3) (hR.rd.tch0 hT0) (by omega) (by kernel_rfl) (fun _ _ => by rfl)) ?_
     refine stv (v := .slice ((tq l j).gA) ((tq l j).img.length) ((tq l j).gC)) (by kernel_rfl) (R_loadRd (v := .slice ((tq l j).gA) ((tq l j).img.length) ((tq l j).gC)) (hR.rd.tch0 hT0) (by omega) (by kernel_rfl) (by kernel_rfl) (tcs_part l (by omega) 3 _ rfl)) ?_
     refine zS [(30, .int .i64 ((tq l j).img.length : Int)), (31, .bool (decide (((tq l j).img.length : Int) > 300))), (32, .bool (decide (((tq l j).img.length : Int) > 300)))] ?_
     refine zO (decide (((tq l j).img.length : Int) > 300)) (fun hc9 => ?_) (fun hc9 => ?_)
     ·
      replace hc9 : 300 < ((tq l j).img.length : Int) := (of_decide_eq_true hc9)
      refine W_seq ?_
      refine zF [(1, .pointer (some ⟨w.heap.size, 0, none⟩)), (3, .int .i64 ((j : Nat) : Int)), (12, .bool (decide (((j : Nat) : Int) < (l.length : Int)))), (32, .bool (decide (((tq l j).img.length : Int) > 300)))] fun ρ => ?_
      refine zR ?_
      refine zS [(2, .bool false)] ?_
      refine op_nil ?_
      refine W_ret ?_
      exact ⟨_, Res_of (v := .bool false) (by kernel_rfl), ⟨_, rfl, (fun h => by cases h), hT0⟩⟩
     ·
      replace hc9 : ((tq l j).img.length : Int) ≤ 300 := (Int.not_lt.1 (of_decide_eq_false hc9))
      refine W_skip ?_
      refine zF [(1, .pointer (some ⟨w.heap.size, 0, none⟩)), (3, .int .i64 ((j : Nat) : Int)), (12, .bool (decide (((j : Nat) : Int) < (l.length : Int)))), (32, .bool (decide (((tq l j).img.length : Int) > 300)))] fun ρ => ?_
      refine zR ?_
      refine zS [(13, .int .i64 ((j : Nat) : Int)), (14, .int .i64 (IntKind.i64.wrap (((j : Nat) : Int) + 1)))] ?_
      rw [show IntKind.i64.wrap (((j : Nat) : Int) + 1) = ((j : Nat) : Int) + 1 from wrap_i64 (by omega) (by omega)]
      refine fixR (y := ((j + 1 : Nat) : Int)) (by omega) ?_
      refine zS [(3, .int .i64 ((j + 1 : Nat) : Int))] ?_
      refine op_nil ?_
      refine ⟨_, (by omega), j + 1, _, updL_self (by kernel_rfl), (by omega), (fun i h => (Nat.lt_or_eq_of_le (Nat.le_of_lt_succ h)).elim (hall i) (fun e => by rw [e]; constructor <;> omega)), hT0, hQ, rfl⟩
    ·
     replace hb8 : 300 < ((tq l j).inp.length : Int) := (of_decide_eq_true hb8)
     refine zS [(24, undef), (25, undef), (26, undef), (27, undef), (28, undef), (29, undef), (30, undef), (31, undef), (32, .bool true)] ?_
     refine zO true (fun _ => ?_) (fun h => nomatch h)
     refine W_seq ?_
     refine zF [(1, .pointer (some ⟨w.heap.size, 0, none⟩)), (3, .int .i64 ((j : Nat) : Int)), (12, .bool (decide (((j : Nat) : Int) < (l.length : Int)))), (32, .bool true)] fun ρ => ?_
     refine zR ?_
     refine zS [(2, .bool false)] ?_
     refine op_nil ?_
     refine W_ret ?_
     exact ⟨_, Res_of (v := .bool false) (by kernel_rfl), ⟨_, rfl, (fun h => by cases h), hT0⟩⟩
   ·
    replace hc7 : (l.length : Int) ≤ ((j : Nat) : Int) := (Int.not_lt.1 (of_decide_eq_false hc7))
    refine W_exit ?_
    refine X_hit ?_
    refine zQ ?_
    refine zS [(2, .bool true)] ?_
    refine op_nil ?_
    refine W_ret ?_
    exact ⟨_, Res_of (v := .bool true) (by kernel_rfl), ⟨_, rfl, fun _ => few_of (by omega) (fun i h => hall i (by omega)), hT0⟩⟩

end Go.Proofs.YtlkjhkennbdbnaaV

set_option linter.unusedVariables false
set_option linter.unusedSimpArgs false
namespace Go.Proofs.YtlkjhkennbdbnaaV
open Go Go.RowKit
theorem bsT_extract (a : Tx) (l h : Nat) : (bsT a).extract l h = bsT ((a.drop l).take (h - l)) := by
 unfold bsT
 apply ByteArray.ext
 simp [ByteArray.data_extract]
section
variable {P : Program} {ρ : Env} {w : World} {J : Env → World → Prop} {d : Option Tmp} {x y lo hi : Operand} {ty : TypeId} {pos : String} {af : Array Edge} {g : Option (Nat × Bool)}
/-- s[l:] -/
theorem R_sslL {t : TypeId} {a : Tx} {i : Int} (j : Nat) (hx : evR ρ x = .string (bsT a)) (hl : evR ρ lo = .int .i64 i) (ht : pureR P (underlying t) = some .string) (hj : i = (j : Int)) (h : j ≤ a.length) :
  (execOp (evR ρ) ⟨d, .slice t x (some lo) none none, ty, pos, af, g⟩).run P w = .ok (.value (.string (bsT (a.drop j)))) w := by
 subst hj
 have h2 := pureR_run (w := w) ht
 have hs := bsT_size a
 have e : (bsT a).extract j (bsT a).size = bsT (a.drop j) := by
  rw [bsT_extract, bsT_size, List.take_of_length_le (by simp)]
 simp only [execOp, hx, hl, Instr.sliceAt, Instr.slice, Instr.sliceBounds, Instr.sliceBound, asIntOf, Option.map]
 simp [h2, hs, h, ← e]
/-- s[:h] -/
theorem R_sslH {t : TypeId} {a : Tx} {i : Int} (j : Nat) (hx : evR ρ x = .string (bsT a)) (hl : evR ρ hi = .int .i64 i) (ht : pureR P (underlying t) = some .string) (hj : i = (j : Int)) (h : j ≤ a.length) :
  (execOp (evR ρ) ⟨d, .slice t x none (some hi) none, ty, pos, af, g⟩).run P w = .ok (.value (.string (bsT (a.take j)))) w := by
 subst hj
 have h2 := pureR_run (w := w) ht
 have hs := bsT_size a
 have e : (bsT a).extract 0 j = bsT (a.take j) := by
  rw [bsT_extract]; simp
 simp only [execOp, hx, hl, Instr.sliceAt, Instr.slice, Instr.sliceBounds, Instr.sliceBound, asIntOf, Option.map]
 simp [h2, hs, h, ← e]
theorem blk_pre {w : World} {b t : Nat} {l sp : List Value} (h : Blk w b t (l ++ sp)) : ∀ k u, l[k]? = some u → w.cell? ⟨b, 0 + k, none⟩ = some u := fun k u hk => by
 have hl : k < l.length := by
  rcases Nat.lt_or_ge k l.length with q | q
  ·
   exact q
  ·
   rw [List.getElem?_eq_none q] at hk; cases hk
 rw [Nat.zero_add, h.cell, List.getElem?_append_left hl]; exact hk
/-- string(b), of a slice that reads. -/
theorem R_b2sR {src dst : TypeId} {A : Option Addr} {len cap : Nat} {l : Tx} (hx : evR ρ x = .slice A len cap) (hs : pureR P (underlying src) = some (.slice (P.elem src))) (he : pureR P (underlying (P.elem src)) = some (.int .u8)) (hd : pureR P (underlying dst) = some .string)
  (hA : RdW w 1 len A (u8s l)) :
  (execOp (evR ρ) ⟨d, .convert src dst x, ty, pos, af, g⟩).run P w = .ok (.value (.string (bsT l))) w := by
 have hl := hA.1
 rw [u8s_length] at hl
 by_cases h0 : 0 < len
 ·
  obtain ⟨b, off, rfl, _, hc⟩ := hA.2.2 h0
  exact R_b2s hx hs he hd (by omega) hc
 ·
  have e0 : len = 0 := by omega
  subst e0
  have el : l = [] := List.eq_nil_of_length_eq_zero (by omega)
  subst el
  cases A with
  | none =>
   have := run_convert_bytes_nil (P := P) w src (P.elem src) (und_of hs) (und_of he) 0 cap dst (und_of hd)
   exact R_conv hx this
  | some a =>
   have := run_convert_bytes_string (P := P) w src dst (P.elem src) (some a) 0 cap (und_of hs) (und_of he) (und_of hd)
   have h2 := run_bytesToString (P := P) w a 0 cap [] (by simp [loadCells, loadCellsFrom])
   exact R_conv hx (this.trans h2)
/-- []byte(s) -/
theorem S_s2b {src dst e : TypeId} {a : Tx} (hx : evR ρ x = .string (bsT a)) (hs : pureR P (underlying src) = some .string) (hd : pureR P (underlying dst) = some (.slice e)) (he : pureR P (underlying e) = some (.int .u8)) (hl : a.length ≤ 9223372036854775807)
  (h : ∀ cp w1, Tch N0 w w1 → w1.heap.size = w.heap.size + 1 → RdW w1 1 a.length (some ⟨w.heap.size, 0, none⟩) (u8s a) → J (updO ρ d (.slice (some ⟨w.heap.size, 0, none⟩) a.length cp)) w1) :
  Step P ⟨d, .convert src dst x, ty, pos, af, g⟩ ρ w J := by
 have hr := Lib.run_convert_string_bytes (P := P) w src dst e (bsT a) (und_of hs) (und_of hd) (und_of he)
 rw [bsT_size] at hr
 have hsz := Lib.bytesWorld_size w e (bsT a)
 refine S_val (v := .slice (some ⟨w.heap.size, 0, none⟩) a.length (grownCap w a.length 0 e)) (w' := Lib.bytesWorld w e (bsT a)) (by simp only [execOp, hx]; simp [hr]) (h _ _ ⟨?_, ?_, ?_, by omega, fun k hk _ => Lib.bytesWorld_at_old w e (bsT a) k hk⟩ hsz ⟨by rw [u8s_length]; omega, by omega, fun h0 => ⟨w.heap.size, 0, rfl, by omega, fun k u hk => ?_⟩⟩)
 ·
  unfold Lib.bytesWorld World.freeze; split <;> rfl
 ·
  unfold Lib.bytesWorld World.freeze; split <;> rfl
 ·
  unfold Lib.bytesWorld World.freeze; split <;> rfl
 ·
  have hk2 : k < a.length := by
   rcases Nat.lt_or_ge k a.length with q | q
   ·
    exact q
   ·
    rw [List.getElem?_eq_none (by rw [u8s_length]; exact q)] at hk; cases hk
  rw [u8s_at hk2] at hk
  rw [Nat.zero_add, Lib.bytesWorld_cell w e (bsT a) k (by rw [bsT_size]; exact hk2), ← hk]
  rfl
/-- append(v, x..), of one-cell elements, whatever x is, wherever it lies. -/
theorem S_appendY (t e : TypeId) (z : Value) (by_ : Nat) {n m : Nat} {A B : Option Addr} {cp c : Nat} {cells news : List Value}
  (hi : (P.info? e).map (fun i => (i.zero, i.size, i.bytes)) = some (some z, 1, by_)) (hzs : z.cells.size = 1) (ht : pureR P (underlying t) = some (.slice e))
  (hx : evR ρ x = .slice A n cp) (hy : evR ρ y = .slice B m c) (hown : Own w 0 e 1 (.slice A n cp) n cells) (hB : RdW w 1 m B news) (h1 : ∀ u ∈ news, oneV u = true)
  (h63 : n + m ≤ maxLen) (hbytes : (n + m) * by_ ≤ 140737488355328)
  (h : ∀ A2 cp2 w1, Own w1 0 e 1 (.slice A2 (n + m) cp2) (n + m) (cells ++ news) → (∀ c, (Value.slice A2 (n + m) cp2).ownBlock = some c → (Value.slice A n cp).ownBlock = some c ∨ c = w.heap.size) → Tch (ownS (.slice A n cp)) w w1 → J (updO ρ d (.slice A2 (n + m) cp2)) w1) :
  Step P ⟨d, .call { callee := .builtin .append, args := #[x, y], argTypes := #[t, t] }, ty, pos, af, g⟩ ρ w J := by
 rcases Nat.eq_zero_or_pos m with q | q
 ·
  cases B with
  | none => exact S_appendX t e z by_ hi hzs ht hx hy hown hB (fun _ => .inl rfl) h1 h63 hbytes h
  | some a =>
   subst q
   have hnil : news = [] := List.eq_nil_of_length_eq_zero (by have := hB.1; omega)
   subst hnil
   obtain ⟨i, hi1, hi2, hi3, hi4⟩ := info_of hi
   obtain ⟨v', w', hr, ho, hg, _, hwh⟩ := run_append_own_at (P := P) (w := w) 0 t ty e i z 1 by_ (und_of ht) hi1 hi2 hi3 hi4 hzs (by omega) (.slice A n cp) n cells hown a 0 c [] rfl (fun j u hk => by simp at hk) (fun u hu => by simp at hu) h63 hbytes (by omega)
   have ho' : Own w' 0 e 1 v' (n + 0) (cells ++ []) := ho
   obtain ⟨A2, cp2, rfl, _⟩ := ho'.rd
   refine S_val (v := .slice A2 (n + 0) cp2) (w' := w') ?_ (h A2 cp2 w' ho' (fun c hc => ?_) (Tch.of_grown hg))
   ·
    simp only [execOp, resolve, invoke, builtin, Array.map, hx, hy]
    simp [hx, hy, hr]
   ·
    rcases hwh with h' | h'
    ·
     rw [h'] at hc; exact .inl hc
    ·
     rw [h'] at hc; injection hc with hc; exact .inr hc.symm
 ·
  exact S_appendX t e z by_ hi hzs ht hx hy hown hB (fun q2 => absurd q2 (by omega)) h1 h63 hbytes h
end
end Go.Proofs.YtlkjhkennbdbnaaV

set_option linter.unusedVariables false
set_option linter.unusedSimpArgs false
namespace Go.Proofs.YtlkjhkennbdbnaaV
open Go Go.RowKit Go.Proofs
/-- At most k rounds from here. -/
def Un (P : Program) (n : Nat) (c : Code) (R : Env → World → Prop) (X : Nat → Env → World → Prop) : Nat → Env → World → Prop
 | 0 => fun _ _ => False
 | k + 1 => fun ρ w => W P n c (Un P n c R X k) R X ρ w
section
variable {P : Program} {n : Nat} {c : Code} {N R : Env → World → Prop} {X : Nat → Env → World → Prop} {ρ : Env} {w : World}
theorem Un_s {k : Nat} (h : W P n c (Un P n c R X k) R X ρ w) : Un P n c R X (k + 1) ρ w := h
theorem W_un (k : Nat) (h : Un P n c R X k ρ w) : W P n (.loop c) N R X ρ w :=
 W_loop (fun m ρ w => Un P n c R X m ρ w) (m := k) h fun m ρ w hI => by
  cases m with
  | zero => exact hI.elim
  | succ m => exact W_mono (show W P n c (Un P n c R X m) R X ρ w from hI) (fun ρ' w' q => ⟨m, Nat.lt_succ_self m, q⟩) (fun _ _ q => q) (fun _ _ _ q => q)
end
end Go.Proofs.YtlkjhkennbdbnaaV

set_option linter.unusedVariables false
set_option linter.unusedSimpArgs false
namespace Go.Proofs.YtlkjhkennbdbnaaV
open Go Go.RowKit Go.Proofs

theorem u8s_snoc (t : Tx) (x i : Nat) {v : Value} (h : v = .int .u8 (((bt x i).toNat : Nat) : Int)) : u8s t ++ [v] = u8s (t ++ [bt x i]) := by
 rw [u8s_app, h]; rfl
theorem be1_nat {x : Nat} : be 1 x = [UInt8.ofNat x] := by
 show [UInt8.ofNat (x / 2 ^ (8 * 0))] = _
 simp

set_option maxRecDepth 100000 in
theorem num2_ok (A : Option Addr) (n cp : Nat) (t : Tx) (x : Nat) (w : World) (hO : Own w 0 5 1 (.slice A n cp) n (u8s t)) (hn : n + 8 ≤ 140737488355328) (hx : x < 18446744073709551616) : Ret Try.prog 17 [.slice A n cp, .int .u64 ((x : Nat) : Int), .int .i64 2] w fun v w' => ∃ A2 cp2, v = .slice A2 (n + 2) cp2 ∧ Own w' 0 5 1 (.slice A2 (n + 2) cp2) (n + 2) (u8s (t ++ be 2 x)) ∧ (∀ c, (Value.slice A2 (n + 2) cp2).ownBlock = some c → (Value.slice A n cp).ownBlock = some c ∨ w.heap.size ≤ c) ∧ Tch (ownS (.slice A n cp)) w w' := by
 have hTt := Tch.refl (ownS (.slice A n cp)) w
 have hMo : ∀ c, (Value.slice A n cp).ownBlock = some c → (Value.slice A n cp).ownBlock = some c ∨ w.heap.size ≤ c := fun c h => .inl h
 have hsz := hTt.size
 refine enter Try.func17 rfl rfl ?_
 refine zQ ?_
 refine zS [(6, .slice none 0 0)] ?_
 refine op_nil ?_
 refine W_seq ?_
 refine zQ ?_
 refine zS [(8, .int .i64 2), (9, .int .i64 1), (7, .int .i64 1)] ?_
 refine op_nil ?_
 refine W_block ?_
 refine W_un 3 ?_
 refine Un_s ?_
 refine W_seq ?_
 refine zQ ?_
 refine zS [(10, .int .i64 1), (11, .bool true)] ?_
 refine zO true (fun _ => ?_) (fun h => nomatch h)
 refine W_skip ?_
 refine W_seq ?_
 refine W_block ?_
 refine zR ?_
 refine zS [(14, .slice A n cp), (15, .int .u64 ((x : Nat) : Int)), (16, .int .i64 1), (17, .int .i64 8), (18, .int .u64 (((x : Nat) : Int).fdiv (2 ^ 8))), (19, .int .u8 (IntKind.u8.wrap (((x : Nat) : Int).fdiv (2 ^ 8))))] ?_
 refine st (by rfl) (S_new (v := .slice (some ⟨w.heap.size, 0, none⟩) 1 1) (ob := .cells #[.int .u8 (IntKind.u8.wrap (((x : Nat) : Int).fdiv (2 ^ 8)))] 5) (by kernel_rfl) fun w1 hT2 hs3 hB4 => ?_)
 replace hB4 : Blk w1 (w.heap.size) 5 [.int .u8 (IntKind.u8.wrap (((x : Nat) : Int).fdiv (2 ^ 8)))] := hB4
 have hO := hO.tch0 hT2
 have hTt := hTt.then0 hT2
 have hsz := hTt.size
 refine st (by rfl) (S_appendR 39 5 (.int .u8 0) 1 1 (n := n) (m := 1) (A := A) (cp := cp) (cells := u8s t) (news := [.int .u8 (IntKind.u8.wrap (((x : Nat) : Int).fdiv (2 ^ 8)))]) (b := w.heap.size) (off := 0) (c := 1) (by kernel_rfl) (by kernel_rfl) (by decide) (by kernel_rfl) (by kernel_rfl) (by kernel_rfl) hO (by rfl) (fun k u hk => by rw [Nat.zero_add, hB4.cell]; exact hk) (by simp [oneV]) (by simp only [maxLen]; omega) (by omega) fun A5 c5 w5 hO5 hw5 hT5 => ?_)
 rw [u8s_snoc _ x 1 (by_cell x 8)] at hO5
 have hTt := hTt.trans hT5 (fun _ _ e => e) (fun b hb e => (hMo b e).elim id (fun q => by omega))
 have hsz := hTt.size
 have hMo : ∀ c, (Value.slice A5 (n + 1) c5).ownBlock = some c → (Value.slice A n cp).ownBlock = some c ∨ w.heap.size ≤ c := fun c hc => (hw5 c hc).elim (hMo c) (fun q => .inr (by omega))
 have hO := hO5
 refine zS [(0, .slice A5 (n + 1) c5)] ?_
 refine op_nil ?_
 refine zF [(0, .slice A5 (n + 1) c5), (1, .int .u64 ((x : Nat) : Int)), (2, .int .i64 2), (6, .slice none 0 0), (7, .int .i64 1), (11, .bool true)] fun ρ => ?_
 refine zR ?_
 refine zS [(12, .int .i64 1), (13, .int .i64 0), (7, .int .i64 0)] ?_
 refine op_nil ?_
 refine Un_s ?_
 refine W_seq ?_
 refine zQ ?_
 refine zS [(10, .int .i64 0), (11, .bool true)] ?_
 refine zO true (fun _ => ?_) (fun h => nomatch h)
 refine W_skip ?_
 refine W_seq ?_
 refine W_block ?_
 refine zR ?_
 refine zS [(14, .slice A5 (n + 1) c5), (15, .int .u64 ((x : Nat) : Int)), (16, .int .i64 0), (17, .int .i64 0), (18, .int .u64 (((x : Nat) : Int).fdiv (2 ^ 0))), (19, .int .u8 (IntKind.u8.wrap (((x : Nat) : Int).fdiv (2 ^ 0))))] ?_
 refine st (by rfl) (S_new (v := .slice (some ⟨w5.heap.size, 0, none⟩) 1 1) (ob := .cells #[.int .u8 (IntKind.u8.wrap (((x : Nat) : Int).fdiv (2 ^ 0)))] 5) (by kernel_rfl) fun w6 hT7 hs8 hB9 => ?_)
 replace hB9 : Blk w6 (w5.heap.size) 5 [.int .u8 (IntKind.u8.wrap (((x : Nat) : Int).fdiv (2 ^ 0)))] := hB9
 have hO := hO.tch0 hT7
 have hTt := hTt.then0 hT7
 have hsz := hTt.size
 refine st (by rfl) (S_appendR 39 5 (.int .u8 0) 1 1 (n := n + 1) (m := 1) (A := A5) (cp := c5) (cells := u8s (t ++ [bt x 1])) (news := [.int .u8 (IntKind.u8.wrap (((x : Nat) : Int).fdiv (2 ^ 0)))]) (b := w5.heap.size) (off := 0) (c := 1) (by kernel_rfl) (by kernel_rfl) (by decide) (by kernel_rfl) (by kernel_rfl) (by kernel_rfl) hO (by rfl) (fun k u hk => by rw [Nat.zero_add, hB9.cell]; exact hk) (by simp [oneV]) (by simp only [maxLen]; omega) (by omega) fun A10 c10 w10 hO10 hw10 hT10 => ?_)
 rw [u8s_snoc _ x 0 (by_cell x 0)] at hO10
 have hTt := hTt.trans hT10 (fun _ _ e => e) (fun b hb e => (hMo b e).elim id (fun q => by omega))
 have hsz := hTt.size
 have hMo : ∀ c, (Value.slice A10 (n + 1 + 1) c10).ownBlock = some c → (Value.slice A n cp).ownBlock = some c ∨ w.heap.size ≤ c := fun c hc => (hw10 c hc).elim (hMo c) (fun q => .inr (by omega))
 have hO := hO10
 refine zS [(0, .slice A10 (n + 1 + 1) c10)] ?_
 refine op_nil ?_
 refine zF [(0, .slice A10 (n + 1 + 1) c10), (1, .int .u64 ((x : Nat) : Int)), (2, .int .i64 2), (6, .slice none 0 0), (7, .int .i64 0), (11, .bool true)] fun ρ => ?_
 refine zR ?_
 refine zS [(12, .int .i64 0), (13, .int .i64 (-1)), (7, .int .i64 (-1))] ?_
 refine op_nil ?_
 refine Un_s ?_
 refine W_seq ?_
 refine zQ ?_
 refine zS [(10, .int .i64 (-1)), (11, .bool false)] ?_
 refine zO false (fun h => nomatch h) (fun _ => ?_)
 refine W_exit ?_
 refine X_hit ?_
 refine zQ ?_
 refine zS [(22, .slice A10 (n + 1 + 1) c10), (6, .slice A10 (n + 1 + 1) c10)] ?_
 refine op_nil ?_
 refine W_ret ?_
 exact ⟨_, Res_of (v := .slice A10 (n + 1 + 1) c10) (by kernel_rfl), ⟨_, _, rfl, by have q := hO; simp only [List.append_assoc, List.cons_append, List.nil_append] at q; exact q, hMo, hTt⟩⟩

set_option maxRecDepth 100000 in
theorem num4_ok (A : Option Addr) (n cp : Nat) (t : Tx) (x : Nat) (w : World) (hO : Own w 0 5 1 (.slice A n cp) n (u8s t)) (hn : n + 8 ≤ 140737488355328) (hx : x < 18446744073709551616) : Ret Try.prog 17 [.slice A n cp, .int .u64 ((x : Nat) : Int), .int .i64 4] w fun v w' => ∃ A2 cp2, v = .slice A2 (n + 4) cp2 ∧ Own w' 0 5 1 (.slice A2 (n + 4) cp2) (n + 4) (u8s (t ++ be 4 x)) ∧ (∀ c, (Value.slice A2 (n + 4) cp2).ownBlock = some c → (Value.slice A n cp).ownBlock = some c ∨ w.heap.size ≤ c) ∧ Tch (ownS (.slice A n cp)) w w' := by
 have hTt := Tch.refl (ownS (.slice A n cp)) w
 have hMo : ∀ c, (Value.slice A n cp).ownBlock = some c → (Value.slice A n cp).ownBlock = some c ∨ w.heap.size ≤ c := fun c h => .inl h
 have hsz := hTt.size
 refine enter Try.func17 rfl rfl ?_
 refine zQ ?_
 refine zS [(6, .slice none 0 0)] ?_
 refine op_nil ?_
 refine W_seq ?_
 refine zQ ?_
 refine zS [(8, .int .i64 4), (9, .int .i64 3), (7, .int .i64 3)] ?_
 refine op_nil ?_
 refine W_block ?_
 refine W_un 5 ?_
 refine Un_s ?_
 refine W_seq ?_
 refine zQ ?_
 refine zS [(10, .int .i64 3), (11, .bool true)] ?_
 refine zO true (fun _ => ?_) (fun h => nomatch h)
 refine W_skip ?_
 refine W_seq ?_
 refine W_block ?_
 refine zR ?_
 refine zS [(14, .slice A n cp), (15, .int .u64 ((x : Nat) : Int)), (16, .int .i64 3), (17, .int .i64 24), (18, .int .u64 (((x : Nat) : Int).fdiv (2 ^ 24))), (19, .int .u8 (IntKind.u8.wrap (((x : Nat) : Int).fdiv (2 ^ 24))))] ?_
 refine st (by rfl) (S_new (v := .slice (some ⟨w.heap.size, 0, none⟩) 1 1) (ob := .cells #[.int .u8 (IntKind.u8.wrap (((x : Nat) : Int).fdiv (2 ^ 24)))] 5) (by kernel_rfl) fun w1 hT2 hs3 hB4 => ?_)
 replace hB4 : Blk w1 (w.heap.size) 5 [.int .u8 (IntKind.u8.wrap (((x : Nat) : Int).fdiv (2 ^ 24)))] := hB4
 have hO := hO.tch0 hT2
 have hTt := hTt.then0 hT2
 have hsz := hTt.size
 refine st (by rfl) (S_appendR 39 5 (.int .u8 0) 1 1 (n := n) (m := 1) (A := A) (cp := cp) (cells := u8s t) (news := [.int .u8 (IntKind.u8.wrap (((x : Nat) : Int).fdiv (2 ^ 24)))]) (b := w.heap.size) (off := 0) (c := 1) (by kernel_rfl) (by kernel_rfl) (by decide) (by kernel_rfl) (by kernel_rfl) (by kernel_rfl) hO (by rfl) (fun k u hk => by rw [Nat.zero_add, hB4.cell]; exact hk) (by simp [oneV]) (by simp only [maxLen]; omega) (by omega) fun A5 c5 w5 hO5 hw5 hT5 => ?_)
 rw [u8s_snoc _ x 3 (by_cell x 24)] at hO5
 have hTt := hTt.trans hT5 (fun _ _ e => e) (fun b hb e => (hMo b e).elim id (fun q => by omega))
 have hsz := hTt.size
 have hMo : ∀ c, (Value.slice A5 (n + 1) c5).ownBlock = some c → (Value.slice A n cp).ownBlock = some c ∨ w.heap.size ≤ c := fun c hc => (hw5 c hc).elim (hMo c) (fun q => .inr (by omega))
 have hO := hO5
 refine zS [(0, .slice A5 (n + 1) c5)] ?_
 refine op_nil ?_
 refine zF [(0, .slice A5 (n + 1) c5), (1, .int .u64 ((x : Nat) : Int)), (2, .int .i64 4), (6, .slice none 0 0), (7, .int .i64 3), (11, .bool true)] fun ρ => ?_
 refine zR ?_
 refine zS [(12, .int .i64 3), (13, .int .i64 2), (7, .int .i64 2)] ?_
 refine op_nil ?_
 refine Un_s ?_
 refine W_seq ?_
 refine zQ ?_
 refine zS [(10, .int .i64 2), (11, .bool true)] ?_
 refine zO true (fun _ => ?_) (fun h => nomatch h)
 refine W_skip ?_
 refine W_seq ?_
 refine W_block ?_
 refine zR ?_
 refine zS [(14, .slice A5 (n + 1) c5), (15, .int .u64 ((x : Nat) : Int)), (16, .int .i64 2), (17, .int .i64 16), (18, .int .u64 (((x : Nat) : Int).fdiv (2 ^ 16))), (19, .int .u8 (IntKind.u8.wrap (((x : Nat) : Int).fdiv (2 ^ 16))))] ?_
 refine st (by rfl) (S_new (v := .slice (some ⟨w5.heap.size, 0, none⟩) 1 1) (ob := .cells #[.int .u8 (IntKind.u8.wrap (((x : Nat) : Int).fdiv (2 ^ 16)))] 5) (by kernel_rfl) fun w6 hT7 hs8 hB9 => ?_)
 replace hB9 : Blk w6 (w5.heap.size) 5 [.int .u8 (IntKind.u8.wrap (((x : Nat) : Int).fdiv (2 ^ 16)))] := hB9
 have hO := hO.tch0 hT7
 have hTt := hTt.then0 hT7
 have hsz := hTt.size
 refine st (by rfl) (S_appendR 39 5 (.int .u8 0) 1 1 (n := n + 1) (m := 1) (A := A5) (cp := c5) (cells := u8s (t ++ [bt x 3])) (news := [.int .u8 (IntKind.u8.wrap (((x : Nat) : Int).fdiv (2 ^ 16)))]) (b := w5.heap.size) (off := 0) (c := 1) (by kernel_rfl) (by kernel_rfl) (by decide) (by kernel_rfl) (by kernel_rfl) (by kernel_rfl) hO (by rfl) (fun k u hk => by rw [Nat.zero_add, hB9.cell]; exact hk) (by simp [oneV]) (by simp only [maxLen]; omega) (by omega) fun A10 c10 w10 hO10 hw10 hT10 => ?_)
 rw [u8s_snoc _ x 2 (by_cell x 16)] at hO10
 have hTt := hTt.trans hT10 (fun _ _ e => e) (fun b hb e => (hMo b e).elim id (fun q => by omega))
 have hsz := hTt.size
 have hMo : ∀ c, (Value.slice A10 (n + 1 + 1) c10).ownBlock = some c → (Value.slice A n cp).ownBlock = some c ∨ w.heap.size ≤ c := fun c hc => (hw10 c hc).elim (hMo c) (fun q => .inr (by omega))
 have hO := hO10
 refine zS [(0, .slice A10 (n + 1 + 1) c10)] ?_
 refine op_nil ?_
 refine zF [(0, .slice A10 (n + 1 + 1) c10), (1, .int .u64 ((x : Nat) : Int)), (2, .int .i64 4), (6, .slice none 0 0), (7, .int .i64 2), (11, .bool true)] fun ρ => ?_
 refine zR ?_
 refine zS [(12, .int .i64 2), (13, .int .i64 1), (7, .int .i64 1)] ?_
 refine op_nil ?_
 refine Un_s ?_
 refine W_seq ?_
 refine zQ ?_
 refine zS [(10, .int .i64 1), (11, .bool true)] ?_
 refine zO true (fun _ => ?_) (fun h => nomatch h)
 refine W_skip ?_
 refine W_seq ?_
 refine W_block ?_
 refine zR ?_
 refine zS [(14, .slice A10 (n + 1 + 1) c10), (15, .int .u64 ((x : Nat) : Int)), (16, .int .i64 1), (17, .int .i64 8), (18, .int .u64 (((x : Nat) : Int).fdiv (2 ^ 8))), (19, .int .u8 (IntKind.u8.wrap (((x : Nat) : Int).fdiv (2 ^ 8))))] ?_
 refine st (by rfl) (S_new (v := .slice (some ⟨w10.heap.size, 0, none⟩) 1 1) (ob := .cells #[.int .u8 (IntKind.u8.wrap (((x : Nat) : Int).fdiv (2 ^ 8)))] 5) (by kernel_rfl) fun w11 hT12 hs13 hB14 => ?_)
 replace hB14 : Blk w11 (w10.heap.size) 5 [.int .u8 (IntKind.u8.wrap (((x : Nat) : Int).fdiv (2 ^ 8)))] := hB14
 have hO := hO.tch0 hT12
 have hTt := hTt.then0 hT12
 have hsz := hTt.size
 refine st (by rfl) (S_appendR 39 5 (.int .u8 0) 1 1 (n := n + 1 + 1) (m := 1) (A := A10) (cp := c10) (cells := u8s (t ++ [bt x 3] ++ [bt x 2])) (news := [.int .u8 (IntKind.u8.wrap (((x : Nat) : Int).fdiv (2 ^ 8)))]) (b := w10.heap.size) (off := 0) (c := 1) (by kernel_rfl) (by kernel_rfl) (by decide) (by kernel_rfl) (by kernel_rfl) (by kernel_rfl) hO (by rfl) (fun k u hk => by rw [Nat.zero_add, hB14.cell]; exact hk) (by simp [oneV]) (by simp only [maxLen]; omega) (by omega) fun A15 c15 w15 hO15 hw15 hT15 => ?_)
 rw [u8s_snoc _ x 1 (by_cell x 8)] at hO15
 have hTt := hTt.trans hT15 (fun _ _ e => e) (fun b hb e => (hMo b e).elim id (fun q => by omega))
 have hsz := hTt.size
 have hMo : ∀ c, (Value.slice A15 (n + 1 + 1 + 1) c15).ownBlock = some c → (Value.slice A n cp).ownBlock = some c ∨ w.heap.size ≤ c := fun c hc => (hw15 c hc).elim (hMo c) (fun q => .inr (by omega))
 have hO := hO15
 refine zS [(0, .slice A15 (n + 1 + 1 + 1) c15)] ?_
 refine op_nil ?_
 refine zF [(0, .slice A15 (n + 1 + 1 + 1) c15), (1, .int .u64 ((x : Nat) : Int)), (2, .int .i64 4), (6, .slice none 0 0), (7, .int .i64 1), (11, .bool true)] fun ρ => ?_
 refine zR ?_
 refine zS [(12, .int .i64 1), (13, .int .i64 0), (7, .int .i64 0)] ?_
 refine op_nil ?_
 refine Un_s ?_
 refine W_seq ?_
 refine zQ ?_
 refine zS [(10, .int .i64 0), (11, .bool true)] ?_
 refine zO true (fun _ => ?_) (fun h => nomatch h)
 refine W_skip ?_
 refine W_seq ?_
 refine W_block ?_
 refine zR ?_
 refine zS [(14, .slice A15 (n + 1 + 1 + 1) c15), (15, .int .u64 ((x : Nat) : Int)), (16, .int .i64 0), (17, .int .i64 0), (18, .int .u64 (((x : Nat) : Int).fdiv (2 ^ 0))), (19, .int .u8 (IntKind.u8.wrap (((x : Nat) : Int).fdiv (2 ^ 0))))] ?_
 refine st (by rfl) (S_new (v := .slice (some ⟨w15.heap.size, 0, none⟩) 1 1) (ob := .cells #[.int .u8 (IntKind.u8.wrap (((x : Nat) : Int).fdiv (2 ^ 0)))] 5) (by kernel_rfl) fun w16 hT17 hs18 hB19 => ?_)
 replace hB19 : Blk w16 (w15.heap.size) 5 [.int .u8 (IntKind.u8.wrap (((x : Nat) : Int).fdiv (2 ^ 0)))] := hB19
 have hO := hO.tch0 hT17
 have hTt := hTt.then0 hT17
 have hsz := hTt.size
 refine st (by rfl) (S_appendR 39 5 (.int .u8 0) 1 1 (n := n + 1 + 1 + 1) (m := 1) (A := A15) (cp := c15) (cells := u8s (t ++ [bt x 3] ++ [bt x 2] ++ [bt x 1])) (news := [.int .u8 (IntKind.u8.wrap (((x : Nat) : Int).fdiv (2 ^ 0)))]) (b := w15.heap.size) (off := 0) (c := 1) (by kernel_rfl) (by kernel_rfl) (by decide) (by kernel_rfl) (by kernel_rfl) (by kernel_rfl) hO (by rfl) (fun k u hk => by rw [Nat.zero_add, hB19.cell]; exact hk) (by simp [oneV]) (by simp only [maxLen]; omega) (by omega) fun A20 c20 w20 hO20 hw20 hT20 => ?_)
 rw [u8s_snoc _ x 0 (by_cell x 0)] at hO20
 have hTt := hTt.trans hT20 (fun _ _ e => e) (fun b hb e => (hMo b e).elim id (fun q => by omega))
 have hsz := hTt.size
 have hMo : ∀ c, (Value.slice A20 (n + 1 + 1 + 1 + 1) c20).ownBlock = some c → (Value.slice A n cp).ownBlock = some c ∨ w.heap.size ≤ c := fun c hc => (hw20 c hc).elim (hMo c) (fun q => .inr (by omega))
 have hO := hO20
 refine zS [(0, .slice A20 (n + 1 + 1 + 1 + 1) c20)] ?_
 refine op_nil ?_
 refine zF [(0, .slice A20 (n + 1 + 1 + 1 + 1) c20), (1, .int .u64 ((x : Nat) : Int)), (2, .int .i64 4), (6, .slice none 0 0), (7, .int .i64 0), (11, .bool true)] fun ρ => ?_
 refine zR ?_
 refine zS [(12, .int .i64 0), (13, .int .i64 (-1)), (7, .int .i64 (-1))] ?_
 refine op_nil ?_
 refine Un_s ?_
 refine W_seq ?_
 refine zQ ?_
 refine zS [(10, .int .i64 (-1)), (11, .bool false)] ?_
 refine zO false (fun h => nomatch h) (fun _ => ?_)
 refine W_exit ?_
 refine X_hit ?_
 refine zQ ?_
 refine zS [(22, .slice A20 (n + 1 + 1 + 1 + 1) c20), (6, .slice A20 (n + 1 + 1 + 1 + 1) c20)] ?_
 refine op_nil ?_
 refine W_ret ?_
 exact ⟨_, Res_of (v := .slice A20 (n + 1 + 1 + 1 + 1) c20) (by kernel_rfl), ⟨_, _, rfl, by have q := hO; simp only [List.append_assoc, List.cons_append, List.nil_append] at q; exact q, hMo, hTt⟩⟩

set_option maxRecDepth 100000 in
theorem num8_ok (A : Option Addr) (n cp : Nat) (t : Tx) (x : Nat) (w : World) (hO : Own w 0 5 1 (.slice A n cp) n (u8s t)) (hn : n + 8 ≤ 140737488355328) (hx : x < 18446744073709551616) : Ret Try.prog 17 [.slice A n cp, .int .u64 ((x : Nat) : Int), .int .i64 8] w fun v w' => ∃ A2 cp2, v = .slice A2 (n + 8) cp2 ∧ Own w' 0 5 1 (.slice A2 (n + 8) cp2) (n + 8) (u8s (t ++ be 8 x)) ∧ (∀ c, (Value.slice A2 (n + 8) cp2).ownBlock = some c → (Value.slice A n cp).ownBlock = some c ∨ w.heap.size ≤ c) ∧ Tch (ownS (.slice A n cp)) w w' := by
 have hTt := Tch.refl (ownS (.slice A n cp)) w
 have hMo : ∀ c, (Value.slice A n cp).ownBlock = some c → (Value.slice A n cp).ownBlock = some c ∨ w.heap.size ≤ c := fun c h => .inl h
 have hsz := hTt.size
 refine enter Try.func17 rfl rfl ?_
 refine zQ ?_
 refine zS [(6, .slice none 0 0)] ?_
 refine op_nil ?_
 refine W_seq ?_
 refine zQ ?_
 refine zS [(8, .int .i64 8), (9, .int .i64 7), (7, .int .i64 7)] ?_
 refine op_nil ?_
 refine W_block ?_
 refine W_un 9 ?_
 refine Un_s ?_
 refine W_seq ?_
 refine zQ ?_
 refine zS [(10, .int .i64 7), (11, .bool true)] ?_
 refine zO true (fun _ => ?_) (fun h => nomatch h)
 refine W_skip ?_
 refine W_seq ?_
 refine W_block ?_
 refine zR ?_
 refine zS [(14, .slice A n cp), (15, .int .u64 ((x : Nat) : Int)), (16, .int .i64 7), (17, .int .i64 56), (18, .int .u64 (((x : Nat) : Int).fdiv (2 ^ 56))), (19, .int .u8 (IntKind.u8.wrap (((x : Nat) : Int).fdiv (2 ^ 56))))] ?_
 refine st (by rfl) (S_new (v := .slice (some ⟨w.heap.size, 0, none⟩) 1 1) (ob := .cells #[.int .u8 (IntKind.u8.wrap (((x : Nat) : Int).fdiv (2 ^ 56)))] 5) (by kernel_rfl) fun w1 hT2 hs3 hB4 => ?_)
 replace hB4 : Blk w1 (w.heap.size) 5 [.int .u8 (IntKind.u8.wrap (((x : Nat) : Int).fdiv (2 ^ 56)))] := hB4
 have hO := hO.tch0 hT2
 have hTt := hTt.then0 hT2
 have hsz := hTt.size
 refine st (by rfl) (S_appendR 39 5 (.int .u8 0) 1 1 (n := n) (m := 1) (A := A) (cp := cp) (cells := u8s t) (news := [.int .u8 (IntKind.u8.wrap (((x : Nat) : Int).fdiv (2 ^ 56)))]) (b := w.heap.size) (off := 0) (c := 1) (by kernel_rfl) (by kernel_rfl) (by decide) (by kernel_rfl) (by kernel_rfl) (by kernel_rfl) hO (by rfl) (fun k u hk => by rw [Nat.zero_add, hB4.cell]; exact hk) (by simp [oneV]) (by simp only [maxLen]; omega) (by omega) fun A5 c5 w5 hO5 hw5 hT5 => ?_)
 rw [u8s_snoc _ x 7 (by_cell x 56)] at hO5
 have hTt := hTt.trans hT5 (fun _ _ e => e) (fun b hb e => (hMo b e).elim id (fun q => by omega))
 have hsz := hTt.size
 have hMo : ∀ c, (Value.slice A5 (n + 1) c5).ownBlock = some c → (Value.slice A n cp).ownBlock = some c ∨ w.heap.size ≤ c := fun c hc => (hw5 c hc).elim (hMo c) (fun q => .inr (by omega))
 have hO := hO5
 refine zS [(0, .slice A5 (n + 1) c5)] ?_
 refine op_nil ?_
 refine zF [(0, .slice A5 (n + 1) c5), (1, .int .u64 ((x : Nat) : Int)), (2, .int .i64 8), (6, .slice none 0 0), (7, .int .i64 7), (11, .bool true)] fun ρ => ?_
 refine zR ?_
 refine zS [(12, .int .i64 7), (13, .int .i64 6), (7, .int .i64 6)] ?_
 refine op_nil ?_
 refine Un_s ?_
 refine W_seq ?_
 refine zQ ?_
 refine zS [(10, .int .i64 6), (11, .bool true)] ?_
 refine zO true (fun _ => ?_) (fun h => nomatch h)
 refine W_skip ?_
 refine W_seq ?_
 refine W_block ?_
 refine zR ?_
 refine zS [(14, .slice A5 (n + 1) c5), (15, .int .u64 ((x : Nat) : Int)), (16, .int .i64 6), (17, .int .i64 48), (18, .int .u64 (((x : Nat) : Int).fdiv (2 ^ 48))), (19, .int .u8 (IntKind.u8.wrap (((x : Nat) : Int).fdiv (2 ^ 48))))] ?_
 refine st (by rfl) (S_new (v := .slice (some ⟨w5.heap.size, 0, none⟩) 1 1) (ob := .cells #[.int .u8 (IntKind.u8.wrap (((x : Nat) : Int).fdiv (2 ^ 48)))] 5) (by kernel_rfl) fun w6 hT7 hs8 hB9 => ?_)
 replace hB9 : Blk w6 (w5.heap.size) 5 [.int .u8 (IntKind.u8.wrap (((x : Nat) : Int).fdiv (2 ^ 48)))] := hB9
 have hO := hO.tch0 hT7
 have hTt := hTt.then0 hT7
 have hsz := hTt.size
 refine st (by rfl) (S_appendR 39 5 (.int .u8 0) 1 1 (n := n + 1) (m := 1) (A := A5) (cp := c5) (cells := u8s (t ++ [bt x 7])) (news := [.int .u8 (IntKind.u8.wrap (((x : Nat) : Int).fdiv (2 ^ 48)))]) (b := w5.heap.size) (off := 0) (c := 1) (by kernel_rfl) (by kernel_rfl) (by decide) (by kernel_rfl) (by kernel_rfl) (by kernel_rfl) hO (by rfl) (fun k u hk => by rw [Nat.zero_add, hB9.cell]; exact hk) (by simp [oneV]) (by simp only [maxLen]; omega) (by omega) fun A10 c10 w10 hO10 hw10 hT10 => ?_)
 rw [u8s_snoc _ x 6 (by_cell x 48)] at hO10
 have hTt := hTt.trans hT10 (fun _ _ e => e) (fun b hb e => (hMo b e).elim id (fun q => by omega))
 have hsz := hTt.size
 have hMo : ∀ c, (Value.slice A10 (n + 1 + 1) c10).ownBlock = some c → (Value.slice A n cp).ownBlock = some c ∨ w.heap.size ≤ c := fun c hc => (hw10 c hc).elim (hMo c) (fun q => .inr (by omega))
 have hO := hO10
 refine zS [(0, .slice A10 (n + 1 + 1) c10)] ?_
 refine op_nil ?_
 refine zF [(0, .slice A10 (n + 1 + 1) c10), (1, .int .u64 ((x : Nat) : Int)), (2, .int .i64 8), (6, .slice none 0 0), (7, .int .i64 6), (11, .bool true)] fun ρ => ?_
 refine zR ?_
 refine zS [(12, .int .i64 6), (13, .int .i64 5), (7, .int .i64 5)] ?_
 refine op_nil ?_
 refine Un_s ?_
 refine W_seq ?_
 refine zQ ?_
 refine zS [(10, .int .i64 5), (11, .bool true)] ?_
 refine zO true (fun _ => ?_) (fun h => nomatch h)
 refine W_skip ?_
 refine W_seq ?_
 refine W_block ?_
 refine zR ?_
 refine zS [(14, .slice A10 (n + 1 + 1) c10), (15, .int .u64 ((x : Nat) : Int)), (16, .int .i64 5), (17, .int .i64 40), (18, .int .u64 (((x : Nat) : Int).fdiv (2 ^ 40))), (19, .int .u8 (IntKind.u8.wrap (((x : Nat) : Int).fdiv (2 ^ 40))))] ?_
 refine st (by rfl) (S_new (v := .slice (some ⟨w10.heap.size, 0, none⟩) 1 1) (ob := .cells #[.int .u8 (IntKind.u8.wrap (((x : Nat) : Int).fdiv (2 ^ 40)))] 5) (by kernel_rfl) fun w11 hT12 hs13 hB14 => ?_)
 replace hB14 : Blk w11 (w10.heap.size) 5 [.int .u8 (IntKind.u8.wrap (((x : Nat) : Int).fdiv (2 ^ 40)))] := hB14
 have hO := hO.tch0 hT12
 have hTt := hTt.then0 hT12
 have hsz := hTt.size
 refine st (by rfl) (S_appendR 39 5 (.int .u8 0) 1 1 (n := n + 1 + 1) (m := 1) (A := A10) (cp := c10) (cells := u8s (t ++ [bt x 7] ++ [bt x 6])) (news := [.int .u8 (IntKind.u8.wrap (((x : Nat) : Int).fdiv (2 ^ 40)))]) (b := w10.heap.size) (off := 0) (c := 1) (by kernel_rfl) (by kernel_rfl) (by decide) (by kernel_rfl) (by kernel_rfl) (by kernel_rfl) hO (by rfl) (fun k u hk => by rw [Nat.zero_add, hB14.cell]; exact hk) (by simp [oneV]) (by simp only [maxLen]; omega) (by omega) fun A15 c15 w15 hO15 hw15 hT15 => ?_)
 rw [u8s_snoc _ x 5 (by_cell x 40)] at hO15
 have hTt := hTt.trans hT15 (fun _ _ e => e) (fun b hb e => (hMo b e).elim id (fun q => by omega))
 have hsz := hTt.size
 have hMo : ∀ c, (Value.slice A15 (n + 1 + 1 + 1) c15).ownBlock = some c → (Value.slice A n cp).ownBlock = some c ∨ w.heap.size ≤ c := fun c hc => (hw15 c hc).elim (hMo c) (fun q => .inr (by omega))
 have hO := hO15
 refine zS [(0, .slice A15 (n + 1 + 1 + 1) c15)] ?_
 refine op_nil ?_
 refine zF [(0, .slice A15 (n + 1 + 1 + 1) c15), (1, .int .u64 ((x : Nat) : Int)), (2, .int .i64 8), (6, .slice none 0 0), (7, .int .i64 5), (11, .bool true)] fun ρ => ?_
 refine zR ?_
 refine zS [(12, .int .i64 5), (13, .int .i64 4), (7, .int .i64 4)] ?_
 refine op_nil ?_
 refine Un_s ?_
 refine W_seq ?_
 refine zQ ?_
 refine zS [(10, .int .i64 4), (11, .bool true)] ?_
 refine zO true (fun _ => ?_) (fun h => nomatch h)
 refine W_skip ?_
 refine W_seq ?_
 refine W_block ?_
 refine zR ?_
 refine zS [(14, .slice A15 (n + 1 + 1 + 1) c15), (15, .int .u64 ((x : Nat) : Int)), (16, .int .i64 4), (17, .int .i64 32), (18, .int .u64 (((x : Nat) : Int).fdiv (2 ^ 32))), (19, .int .u8 (IntKind.u8.wrap (((x : Nat) : Int).fdiv (2 ^ 32))))] ?_
 refine st (by rfl) (S_new (v := .slice (some ⟨w15.heap.size, 0, none⟩) 1 1) (ob := .cells #[.int .u8 (IntKind.u8.wrap (((x : Nat) : Int).fdiv (2 ^ 32)))] 5) (by kernel_rfl) fun w16 hT17 hs18 hB19 => ?_)
 replace hB19 : Blk w16 (w15.heap.size) 5 [.int .u8 (IntKind.u8.wrap (((x : Nat) : Int).fdiv (2 ^ 32)))] := hB19
 have hO := hO.tch0 hT17
 have hTt := hTt.then0 hT17
 have hsz := hTt.size
 refine st (by rfl) (S_appendR 39 5 (.int .u8 0) 1 1 (n := n + 1 + 1 + 1) (m := 1) (A := A15) (cp := c15) (cells := u8s (t ++ [bt x 7] ++ [bt x 6] ++ [bt x 5])) (news := [.int .u8 (IntKind.u8.wrap (((x : Nat) : Int).fdiv (2 ^ 32)))]) (b := w15.heap.size) (off := 0) (c := 1) (by kernel_rfl) (by kernel_rfl) (by decide) (by kernel_rfl) (by kernel_rfl) (by kernel_rfl) hO (by rfl) (fun k u hk => by rw [Nat.zero_add, hB19.cell]; exact hk) (by simp [oneV]) (by simp only [maxLen]; omega) (by omega) fun A20 c20 w20 hO20 hw20 hT20 => ?_)
 rw [u8s_snoc _ x 4 (by_cell x 32)] at hO20
 have hTt := hTt.trans hT20 (fun _ _ e => e) (fun b hb e => (hMo b e).elim id (fun q => by omega))
 have hsz := hTt.size
 have hMo : ∀ c, (Value.slice A20 (n + 1 + 1 + 1 + 1) c20).ownBlock = some c → (Value.slice A n cp).ownBlock = some c ∨ w.heap.size ≤ c := fun c hc => (hw20 c hc).elim (hMo c) (fun q => .inr (by omega))
 have hO := hO20
 refine zS [(0, .slice A20 (n + 1 + 1 + 1 + 1) c20)] ?_
 refine op_nil ?_
 refine zF [(0, .slice A20 (n + 1 + 1 + 1 + 1) c20), (1, .int .u64 ((x : Nat) : Int)), (2, .int .i64 8), (6, .slice none 0 0), (7, .int .i64 4), (11, .bool true)] fun ρ => ?_
 refine zR ?_
 refine zS [(12, .int .i64 4), (13, .int .i64 3), (7, .int .i64 3)] ?_
 refine op_nil ?_
 refine Un_s ?_
 refine W_seq ?_
 refine zQ ?_
 refine zS [(10, .int .i64 3), (11, .bool true)] ?_
 refine zO true (fun _ => ?_) (fun h => nomatch h)
 refine W_skip ?_
 refine W_seq ?_
 refine W_block ?_
 refine zR ?_
 refine zS [(14, .slice A20 (n + 1 + 1 + 1 + 1) c20), (15, .int .u64 ((x : Nat) : Int)), (16, .int .i64 3), (17, .int .i64 24), (18, .int .u64 (((x : Nat) : Int).fdiv (2 ^ 24))), (19, .int .u8 (IntKind.u8.wrap (((x : Nat) : Int).fdiv (2 ^ 24))))] ?_
 refine st (by rfl) (S_new (v := .slice (some ⟨w20.heap.size, 0, none⟩) 1 1) (ob := .cells #[.int .u8 (IntKind.u8.wrap (((x : Nat) : Int).fdiv (2 ^ 24)))] 5) (by kernel_rfl) fun w21 hT22 hs23 hB24 => ?_)
 replace hB24 : Blk w21 (w20.heap.size) 5 [.int .u8 (IntKind.u8.wrap (((x : Nat) : Int).fdiv (2 ^ 24)))] := hB24
 have hO := hO.tch0 hT22
 have hTt := hTt.then0 hT22
 have hsz := hTt.size
 refine st (by rfl) (S_appendR 39 5 (.int .u8 0) 1 1 (n := n + 1 + 1 + 1 + 1) (m := 1) (A := A20) (cp := c20) (cells := u8s (t ++ [bt x 7] ++ [bt x 6] ++ [bt x 5] ++ [bt x 4])) (news := [.int .u8 (IntKind.u8.wrap (((x : Nat) : Int).fdiv (2 ^ 24)))]) (b := w20.heap.size) (off := 0) (c := 1) (by kernel_rfl) (by kernel_rfl) (by decide) (by kernel_rfl) (by kernel_rfl) (by kernel_rfl) hO (by rfl) (fun k u hk => by rw [Nat.zero_add, hB24.cell]; exact hk) (by simp [oneV]) (by simp only [maxLen]; omega) (by omega) fun A25 c25 w25 hO25 hw25 hT25 => ?_)
 rw [u8s_snoc _ x 3 (by_cell x 24)] at hO25
 have hTt := hTt.trans hT25 (fun _ _ e => e) (fun b hb e => (hMo b e).elim id (fun q => by omega))
 have hsz := hTt.size
 have hMo : ∀ c, (Value.slice A25 (n + 1 + 1 + 1 + 1 + 1) c25).ownBlock = some c → (Value.slice A n cp).ownBlock = some c ∨ w.heap.size ≤ c := fun c hc => (hw25 c hc).elim (hMo c) (fun q => .inr (by omega))
 have hO := hO25
 refine zS [(0, .slice A25 (n + 1 + 1 + 1 + 1 + 1) c25)] ?_
 refine op_nil ?_
 refine zF [(0, .slice A25 (n + 1 + 1 + 1 + 1 + 1) c25), (1, .int .u64 ((x : Nat) : Int)), (2, .int .i64 8), (6, .slice none 0 0), (7, .int .i64 3), (11, .bool true)] fun ρ => ?_
 refine zR ?_
 refine zS [(12, .int .i64 3), (13, .int .i64 2), (7, .int .i64 2)] ?_
 refine op_nil ?_
 refine Un_s ?_
 refine W_seq ?_
 refine zQ ?_
 refine zS [(10, .int .i64 2), (11, .bool true)] ?_
 refine zO true (fun _ => ?_) (fun h => nomatch h)
 refine W_skip ?_
 refine W_seq ?_
 refine W_block ?_
 refine zR ?_
 refine zS [(14, .slice A25 (n + 1 + 1 + 1 + 1 + 1) c25), (15, .int .u64 ((x : Nat) : Int)), (16, .int .i64 2), (17, .int .i64 16), (18, .int .u64 (((x : Nat) : Int).fdiv (2 ^ 16))), (19, .int .u8 (IntKind.u8.wrap (((x : Nat) : Int).fdiv (2 ^ 16))))] ?_
 refine st (by rfl) (S_new (v := .slice (some ⟨w25.heap.size, 0, none⟩) 1 1) (ob := .cells #[.int .u8 (IntKind.u8.wrap (((x : Nat) : Int).fdiv (2 ^ 16)))] 5) (by kernel_rfl) fun w26 hT27 hs28 hB29 => ?_)
 replace hB29 : Blk w26 (w25.heap.size) 5 [.int .u8 (IntKind.u8.wrap (((x : Nat) : Int).fdiv (2 ^ 16)))] := hB29
 have hO := hO.tch0 hT27
 have hTt := hTt.then0 hT27
 have hsz := hTt.size
 refine st (by rfl) (S_appendR 39 5 (.int .u8 0) 1 1 (n := n + 1 + 1 + 1 + 1 + 1) (m := 1) (A := A25) (cp := c25) (cells := u8s (t ++ [bt x 7] ++ [bt x 6] ++ [bt x 5] ++ [bt x 4] ++ [bt x 3])) (news := [.int .u8 (IntKind.u8.wrap (((x : Nat) : Int).fdiv (2 ^ 16)))]) (b := w25.heap.size) (off := 0) (c := 1) (by kernel_rfl) (by kernel_rfl) (by decide) (by kernel_rfl) (by kernel_rfl) (by kernel_rfl) hO (by rfl) (fun k u hk => by rw [Nat.zero_add, hB29.cell]; exact hk) (by simp [oneV]) (by simp only [maxLen]; omega) (by omega) fun A30 c30 w30 hO30 hw30 hT30 => ?_)
 rw [u8s_snoc _ x 2 (by_cell x 16)] at hO30
 have hTt := hTt.trans hT30 (fun _ _ e => e) (fun b hb e => (hMo b e).elim id (fun q => by omega))
 have hsz := hTt.size
 have hMo : ∀ c, (Value.slice A30 (n + 1 + 1 + 1 + 1 + 1 + 1) c30).ownBlock = some c → (Value.slice A n cp).ownBlock = some c ∨ w.heap.size ≤ c := fun c hc => (hw30 c hc).elim (hMo c) (fun q => .inr (by omega))
 have hO := hO30
 refine zS [(0, .slice A30 (n + 1 + 1 + 1 + 1 + 1 + 1) c30)] ?_
 refine op_nil ?_
 refine zF [(0, .slice A30 (n + 1 + 1 + 1 + 1 + 1 + 1) c30), (1, .int .u64 ((x : Nat) : Int)), (2, .int .i64 8), (6, .slice none 0 0), (7, .int .i64 2), (11, .bool true)] fun ρ => ?_
 refine zR ?_
 refine zS [(12, .int .i64 2), (13, .int .i64 1), (7, .int .i64 1)] ?_
 refine op_nil ?_
 refine Un_s ?_
 refine W_seq ?_
 refine zQ ?_
 refine zS [(10, .int .i64 1), (11, .bool true)] ?_
 refine zO true (fun _ => ?_) (fun h => nomatch h)
 refine W_skip ?_
 refine W_seq ?_
 refine W_block ?_
 refine zR ?_
 refine zS [(14, .slice A30 (n + 1 + 1 + 1 + 1 + 1 + 1) c30), (15, .int .u64 ((x : Nat) : Int)), (16, .int .i64 1), (17, .int .i64 8), (18, .int .u64 (((x : Nat) : Int).fdiv (2 ^ 8))), (19, .int .u8 (IntKind.u8.wrap (((x : Nat) : Int).fdiv (2 ^ 8))))] ?_
 refine st (by rfl) (S_new (v := .slice (some ⟨w30.heap.size, 0, none⟩) 1 1) (ob := .cells #[.int .u8 (IntKind.u8.wrap (((x : Nat) : Int).fdiv (2 ^ 8)))] 5) (by kernel_rfl) fun w31 hT32 hs33 hB34 => ?_)
 replace hB34 : Blk w31 (w30.heap.size) 5 [.int .u8 (IntKind.u8.wrap (((x : Nat) : Int).fdiv (2 ^ 8)))] := hB34
 have hO := hO.tch0 hT32
 have hTt := hTt.then0 hT32
 have hsz := hTt.size
 refine st (by rfl) (S_appendR 39 5 (.int .u8 0) 1 1 (n := n + 1 + 1 + 1 + 1 + 1 + 1) (m := 1) (A := A30) (cp := c30) (cells := u8s (t ++ [bt x 7] ++ [bt x 6] ++ [bt x 5] ++ [bt x 4] ++ [bt x 3] ++ [bt x 2])) (news := [.int .u8 (IntKind.u8.wrap (((x : Nat) : Int).fdiv (2 ^ 8)))]) (b := w30.heap.size) (off := 0) (c := 1) (by kernel_rfl) (by kernel_rfl) (by decide) (by kernel_rfl) (by kernel_rfl) (by kernel_rfl) hO (by rfl) (fun k u hk => by rw [Nat.zero_add, hB34.cell]; exact hk) (by simp [oneV]) (by simp only [maxLen]; omega) (by omega) fun A35 c35 w35 hO35 hw35 hT35 => ?_)
 rw [u8s_snoc _ x 1 (by_cell x 8)] at hO35
 have hTt := hTt.trans hT35 (fun _ _ e => e) (fun b hb e => (hMo b e).elim id (fun q => by omega))
 have hsz := hTt.size
 have hMo : ∀ c, (Value.slice A35 (n + 1 + 1 + 1 + 1 + 1 + 1 + 1) c35).ownBlock = some c → (Value.slice A n cp).ownBlock = some c ∨ w.heap.size ≤ c := fun c hc => (hw35 c hc).elim (hMo c) (fun q => .inr (by omega))
 have hO := hO35
 refine zS [(0, .slice A35 (n + 1 + 1 + 1 + 1 + 1 + 1 + 1) c35)] ?_
 refine op_nil ?_
 refine zF [(0, .slice A35 (n + 1 + 1 + 1 + 1 + 1 + 1 + 1) c35), (1, .int .u64 ((x : Nat) : Int)), (2, .int .i64 8), (6, .slice none 0 0), (7, .int .i64 1), (11, .bool true)] fun ρ => ?_
 refine zR ?_
 refine zS [(12, .int .i64 1), (13, .int .i64 0), (7, .int .i64 0)] ?_
 refine op_nil ?_
 refine Un_s ?_
 refine W_seq ?_
 refine zQ ?_
 refine zS [(10, .int .i64 0), (11, .bool true)] ?_
 refine zO true (fun _ => ?_) (fun h => nomatch h)
 refine W_skip ?_
 refine W_seq ?_
 refine W_block ?_
 refine zR ?_
 refine zS [(14, .slice A35 (n + 1 + 1 + 1 + 1 + 1 + 1 + 1) c35), (15, .int .u64 ((x : Nat) : Int)), (16, .int .i64 0), (17, .int .i64 0), (18, .int .u64 (((x : Nat) : Int).fdiv (2 ^ 0))), (19, .int .u8 (IntKind.u8.wrap (((x : Nat) : Int).fdiv (2 ^ 0))))] ?_
 refine st (by rfl) (S_new (v := .slice (some ⟨w35.heap.size, 0, none⟩) 1 1) (ob := .cells #[.int .u8 (IntKind.u8.wrap (((x : Nat) : Int).fdiv (2 ^ 0)))] 5) (by kernel_rfl) fun w36 hT37 hs38 hB39 => ?_)
 replace hB39 : Blk w36 (w35.heap.size) 5 [.int .u8 (IntKind.u8.wrap (((x : Nat) : Int).fdiv (2 ^ 0)))] := hB39
 have hO := hO.tch0 hT37
 have hTt := hTt.then0 hT37
 have hsz := hTt.size
 refine st (by rfl) (S_appendR 39 5 (.int .u8 0) 1 1 (n := n + 1 + 1 + 1 + 1 + 1 + 1 + 1) (m := 1) (A := A35) (cp := c35) (cells := u8s (t ++ [bt x 7] ++ [bt x 6] ++ [bt x 5] ++ [bt x 4] ++ [bt x 3] ++ [bt x 2] ++ [bt x 1])) (news := [.int .u8 (IntKind.u8.wrap (((x : Nat) : Int).fdiv (2 ^ 0)))]) (b := w35.heap.size) (off := 0) (c := 1) (by kernel_rfl) (by kernel_rfl) (by decide) (by kernel_rfl) (by kernel_rfl) (by kernel_rfl) hO (by rfl) (fun k u hk => by rw [Nat.zero_add, hB39.cell]; exact hk) (by simp [oneV]) (by simp only [maxLen]; omega) (by omega) fun A40 c40 w40 hO40 hw40 hT40 => ?_)
 rw [u8s_snoc _ x 0 (by_cell x 0)] at hO40
 have hTt := hTt.trans hT40 (fun _ _ e => e) (fun b hb e => (hMo b e).elim id (fun q => by omega))
 have hsz := hTt.size
 have hMo : ∀ c, (Value.slice A40 (n + 1 + 1 + 1 + 1 + 1 + 1 + 1 + 1) c40).ownBlock = some c → (Value.slice A n cp).ownBlock = some c ∨ w.heap.size ≤ c := fun c hc => (hw40 c hc).elim (hMo c) (fun q => .inr (by omega))
 have hO := hO40
 refine zS [(0, .slice A40 (n + 1 + 1 + 1 + 1 + 1 + 1 + 1 + 1) c40)] ?_
 refine op_nil ?_
 refine zF [(0, .slice A40 (n + 1 + 1 + 1 + 1 + 1 + 1 + 1 + 1) c40), (1, .int .u64 ((x : Nat) : Int)), (2, .int .i64 8), (6, .slice none 0 0), (7, .int .i64 0), (11, .bool true)] fun ρ => ?_
 refine zR ?_
 refine zS [(12, .int .i64 0), (13, .int .i64 (-1)), (7, .int .i64 (-1))] ?_
 refine op_nil ?_
 refine Un_s ?_
 refine W_seq ?_
 refine zQ ?_
 refine zS [(10, .int .i64 (-1)), (11, .bool false)] ?_
 refine zO false (fun h => nomatch h) (fun _ => ?_)
 refine W_exit ?_
 refine X_hit ?_
 refine zQ ?_
 refine zS [(22, .slice A40 (n + 1 + 1 + 1 + 1 + 1 + 1 + 1 + 1) c40), (6, .slice A40 (n + 1 + 1 + 1 + 1 + 1 + 1 + 1 + 1) c40)] ?_
 refine op_nil ?_
 refine W_ret ?_
 exact ⟨_, Res_of (v := .slice A40 (n + 1 + 1 + 1 + 1 + 1 + 1 + 1 + 1) c40) (by kernel_rfl), ⟨_, _, rfl, by have q := hO; simp only [List.append_assoc, List.cons_append, List.nil_append] at q; exact q, hMo, hTt⟩⟩

end Go.Proofs.YtlkjhkennbdbnaaV
