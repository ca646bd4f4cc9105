/- Texts laid together: Walks of functions of the program and of the document's texts. The conditions stand with each theorem. The calculus' words for maps whose content is told exactly. Whether two places of failures are the same. Walks of functions of the program and of the document's texts. The conditions stand with each theorem. -/
import Derived.Test.YtlkjhkennbdbnaaJRrepo91x1
import Derived.Test.YtlkjhkennbdbnaaProg
import Derived.Test.YtlkjhkennbdbnaaJRrepo91x3
import Derived.DeepKeys4
import Derived.MapKept
import Derived.Maps.Keyed
set_option linter.unusedVariables false
set_option linter.unusedSimpArgs false
namespace Go.Proofs.YtlkjhkennbdbnaaV
open Go Go.RowKit Go.Proofs

theorem bytesI1_ok (x : Int) (w : World) (h0 : 0 ≤ x) (h1 : x < 9223372036854775808) : Ret Try.prog 20 [.int .i64 x, .int .i64 1] w fun v w' => v = .string (bsT (be 1 x.toNat)) ∧ Tch N0 w w' := by
 have := bytes1_ok x.toNat w (by omega)
 rwa [show ((x.toNat : Nat) : Int) = x by omega] at this
theorem bytesI2_ok (x : Int) (w : World) (h0 : 0 ≤ x) (h1 : x < 9223372036854775808) : Ret Try.prog 20 [.int .i64 x, .int .i64 2] w fun v w' => v = .string (bsT (be 2 x.toNat)) ∧ Tch N0 w w' := by
 have := bytes2_ok x.toNat w (by omega)
 rwa [show ((x.toNat : Nat) : Int) = x by omega] at this
theorem bytesI4_ok (x : Int) (w : World) (h0 : 0 ≤ x) (h1 : x < 9223372036854775808) : Ret Try.prog 20 [.int .i64 x, .int .i64 4] w fun v w' => v = .string (bsT (be 4 x.toNat)) ∧ Tch N0 w w' := by
 have := bytes4_ok x.toNat w (by omega)
 rwa [show ((x.toNat : Nat) : Int) = x by omega] at this
theorem mayR_of {V E S U : Int} {l : List T6} (h : (0 ≤ V ∧ V ≤ 3) ∧ (0 ≤ E ∧ E ≤ 255) ∧ (0 ≤ S ∧ S ≤ 1073741824) ∧ (0 ≤ U ∧ U ≤ 1073741824) ∧ l.length ≤ 65535) (ha : ∀ i, i < l.length → mayC ((cores l).getD i (core t60)) = true) : mayR V E S U (cores l) = true := by
 unfold mayR mayH
 rw [Bool.and_eq_true, cores_length]
 exact ⟨decide_eq_true h, all_of (d := core t60) (fun i hi => ha i (by rw [cores_length] at hi; exact hi))⟩
theorem mayR_no {V E S U : Int} {l : List T6} {j : Nat} (hj : j < l.length) (h : mayC (core (tq l j)) = false) : mayR V E S U (cores l) = false := by
 unfold mayR
 rw [all_not (d := core t60) (j := j) (by rw [cores_length]; exact hj) (by rw [core_getD hj]; exact h), Bool.and_false]
theorem mayR_hd {V E S U : Int} {l : List T6} (h : ¬ ((0 ≤ V ∧ V ≤ 3) ∧ (0 ≤ E ∧ E ≤ 255) ∧ (0 ≤ S ∧ S ≤ 1073741824) ∧ (0 ≤ U ∧ U ≤ 1073741824) ∧ l.length ≤ 65535)) : mayR V E S U (cores l) = false := by
 unfold mayR mayH
 rw [cores_length, decide_eq_false h, Bool.false_and]
set_option maxRecDepth 100000 in
set_option maxHeartbeats 4000000 in
theorem rput_ok (V E S U : Int) (A : Option Addr) (c : Nat) (l : List T6) (w : World) (hR : TsW w A l) : Ret Try.prog 9 [.agg #[.int .i64 V, .int .i64 E, .slice A l.length c, .int .i64 S, .int .i64 U]] w fun v w' => v = .tuple #[.string (bsT (putT V E S U (cores l))), .int .i64 (putE V E S U (cores l))] ∧ Tch N0 w w' := by
 have hXm := hR.rd.2.1
 refine enter Try.func9 rfl rfl ?_
 refine zQ ?_
 refine st (by rfl) (S_new (v := .pointer (some ⟨w.heap.size, 0, none⟩)) (ob := .cells #[.int .i64 V, .int .i64 E, .slice A l.length c, .int .i64 S, .int .i64 U] 25) (by kernel_rfl) fun w1 hT2 hs3 hB4 => ?_)
 replace hB4 : Blk w1 (w.heap.size) 25 [.int .i64 V, .int .i64 E, .slice A l.length c, .int .i64 S, .int .i64 U] := hB4
 have hT0 := hT2
 refine zS [(2, .string (bsT ([]))), (3, .int .i64 0)] ?_
 refine op_nil ?_
 refine W_seq ?_
 refine zQ ?_
 refine zS [(9, .pointer (some ⟨w.heap.size, 0, none⟩))] ?_
 refine zL (.int .i64 V) ((hB4.cell 0).trans rfl) ?_
 refine zC (rin_ok V 3 _) ?_
 rintro _ w5 ⟨rfl, hT6⟩
 have hT0 := hT0.t0 hT6
 have hB4 := hB4.tch0 hT6
 refine zS [(12, .bool (!(inR 3 V))), (13, .bool (!(inR 3 V)))] ?_
 cases hb7 : inR 3 V
 ·
  replace hb7 : ¬ (0 ≤ V ∧ V ≤ 3) := (of_decide_eq_false hb7)
  refine zS [(14, undef), (15, undef), (16, undef), (17, undef), (18, .bool true), (19, .bool true), (20, undef), (21, undef), (22, undef), (23, undef), (24, .bool true), (25, .bool true), (26, undef), (27, undef), (28, undef), (29, undef), (30, .bool true), (31, .bool true), (32, undef), (33, undef), (34, undef), (35, undef), (36, .bool true)] ?_
  refine zO true (fun _ => ?_) (fun h => nomatch h)
  refine W_seq ?_
  refine zF [(0, .agg #[.int .i64 V, .int .i64 E, .slice A l.length c, .int .i64 S, .int .i64 U]), (1, .pointer (some ⟨w.heap.size, 0, none⟩)), (2, .string (bsT ([]))), (3, .int .i64 0), (36, .bool true)] fun ρ => ?_
  refine zR ?_
  refine zS [(2, .string (bsT ([]))), (3, .int .i64 4)] ?_
  refine op_nil ?_
  refine W_ret ?_
  refine ⟨_, Res_of (v := .tuple #[.string (bsT ([])), .int .i64 4]) (by kernel_rfl), ?_⟩
  have hq := put_f (V := V) (E := E) (S := S) (U := U) (l := cores l) (by first | exact mayR_no (j := jj) (by omega) (by assumption) | exact mayR_hd (by omega))
  rw [hq.1, hq.2]
  exact ⟨rfl, hT0⟩
 ·
  replace hb7 : (0 ≤ V ∧ V ≤ 3) := (of_decide_eq_true hb7)
  refine zS [(14, .pointer (some ⟨w.heap.size, 1, none⟩))] ?_
  refine zL (.int .i64 E) ((hB4.cell 1).trans rfl) ?_
  refine zC (rin_ok E 255 _) ?_
  rintro _ w8 ⟨rfl, hT9⟩
  have hT0 := hT0.t0 hT9
  have hB4 := hB4.tch0 hT9
  refine zS [(17, .bool (!(inR 255 E))), (18, .bool (!(inR 255 E))), (19, .bool (!(inR 255 E)))] ?_
  cases hb10 : inR 255 E
  ·
   replace hb10 : ¬ (0 ≤ E ∧ E ≤ 255) := (of_decide_eq_false hb10)
   refine zS [(20, undef), (21, undef), (22, undef), (23, undef), (24, .bool true), (25, .bool true), (26, undef), (27, undef), (28, undef), (29, undef), (30, .bool true), (31, .bool true), (32, undef), (33, undef), (34, undef), (35, undef), (36, .bool true)] ?_
   refine zO true (fun _ => ?_) (fun h => nomatch h)
   refine W_seq ?_
   refine zF [(0, .agg #[.int .i64 V, .int .i64 E, .slice A l.length c, .int .i64 S, .int .i64 U]), (1, .pointer (some ⟨w.heap.size, 0, none⟩)), (2, .string (bsT ([]))), (3, .int .i64 0), (36, .bool true)] fun ρ => ?_
   refine zR ?_
   refine zS [(2, .string (bsT ([]))), (3, .int .i64 4)] ?_
   refine op_nil ?_
   refine W_ret ?_
   refine ⟨_, Res_of (v := .tuple #[.string (bsT ([])), .int .i64 4]) (by kernel_rfl), ?_⟩
   have hq := put_f (V := V) (E := E) (S := S) (U := U) (l := cores l) (by first | exact mayR_no (j := jj) (by omega) (by assumption) | exact mayR_hd (by omega))
   rw [hq.1, hq.2]
   exact ⟨rfl, hT0⟩
  ·
   replace hb10 : (0 ≤ E ∧ E ≤ 255) := (of_decide_eq_true hb10)
   refine zS [(20, .pointer (some ⟨w.heap.size, 3, none⟩))] ?_
   refine zL (.int .i64 S) ((hB4.cell 3).trans rfl) ?_
   refine zC (rin_ok S 1073741824 _) ?_
   rintro _ w11 ⟨rfl, hT12⟩
   have hT0 := hT0.t0 hT12
   have hB4 := hB4.tch0 hT12
   refine zS [(23, .bool (!(inR 1073741824 S))), (24, .bool (!(inR 1073741824 S))), (25, .bool (!(inR 1073741824 S)))] ?_
   cases hb13 : inR 1073741824 S
   ·
    replace hb13 : ¬ (0 ≤ S ∧ S ≤ 1073741824) := (of_decide_eq_false hb13)
    refine zS [(26, undef), (27, undef), (28, undef), (29, undef), (30, .bool true), (31, .bool true), (32, undef), (33, undef), (34, undef), (35, undef), (36, .bool true)] ?_
    refine zO true (fun _ => ?_) (fun h => nomatch h)
    refine W_seq ?_
    refine zF [(0, .agg #[.int .i64 V, .int .i64 E, .slice A l.length c, .int .i64 S, .int .i64 U]), (1, .pointer (some ⟨w.heap.size, 0, none⟩)), (2, .string (bsT ([]))), (3, .int .i64 0), (36, .bool true)] fun ρ => ?_
    refine zR ?_
    refine zS [(2, .string (bsT ([]))), (3, .int .i64 4)] ?_
    refine op_nil ?_
    refine W_ret ?_
    refine ⟨_, Res_of (v := .tuple #[.string (bsT ([])), .int .i64 4]) (by kernel_rfl), ?_⟩
    have hq := put_f (V := V) (E := E) (S := S) (U := U) (l := cores l) (by first | exact mayR_no (j := jj) (by omega) (by assumption) | exact mayR_hd (by omega))
    rw [hq.1, hq.2]
    exact ⟨rfl, hT0⟩
   ·
    replace hb13 : (0 ≤ S ∧ S ≤ 1073741824) := (of_decide_eq_true hb13)
    refine zS [(26, .pointer (some ⟨w.heap.size, 4, none⟩))] ?_
    refine zL (.int .i64 U) ((hB4.cell 4).trans rfl) ?_
    refine zC (rin_ok U 1073741824 _) ?_
    rintro _ w14 ⟨rfl, hT15⟩
    have hT0 := hT0.t0 hT15
    have hB4 := hB4.tch0 hT15
    refine zS [(29, .bool (!(inR 1073741824 U))), (30, .bool (!(inR 1073741824 U))), (31, .bool (!(inR 1073741824 U)))] ?_
    cases hb16 : inR 1073741824 U
    ·
     replace hb16 : ¬ (0 ≤ U ∧ U ≤ 1073741824) := (of_decide_eq_false hb16)
     refine zS [(32, undef), (33, undef), (34, undef), (35, undef), (36, .bool true)] ?_
     refine zO true (fun _ => ?_) (fun h => nomatch h)
     refine W_seq ?_
     refine zF [(0, .agg #[.int .i64 V, .int .i64 E, .slice A l.length c, .int .i64 S, .int .i64 U]), (1, .pointer (some ⟨w.heap.size, 0, none⟩)), (2, .string (bsT ([]))), (3, .int .i64 0), (36, .bool true)] fun ρ => ?_
     refine zR ?_
     refine zS [(2, .string (bsT ([]))), (3, .int .i64 4)] ?_
     refine op_nil ?_
     refine W_ret ?_
     refine ⟨_, Res_of (v := .tuple #[.string (bsT ([])), .int .i64 4]) (by kernel_rfl), ?_⟩
     have hq := put_f (V := V) (E := E) (S := S) (U := U) (l := cores l) (by first | exact mayR_no (j := jj) (by omega) (by assumption) | exact mayR_hd (by omega))
     rw [hq.1, hq.2]
     exact ⟨rfl, hT0⟩
    ·
     replace hb16 : (0 ≤ U ∧ U ≤ 1073741824) := (of_decide_eq_true hb16)
     refine zS [(32, .pointer (some ⟨w.heap.size, 2, none⟩))] ?_
     refine zL (.slice A l.length c) ((hB4.cell 2).trans rfl) ?_
     refine zS [(34, .int .i64 (l.length : Int)), (35, .bool (decide ((l.length : Int) > 65535))), (36, .bool (decide ((l.length : Int) > 65535)))] ?_
     refine zO (decide ((l.length : Int) > 65535)) (fun hc17 => ?_) (fun hc17 => ?_)
     ·
      replace hc17 : 65535 < (l.length : Int) := (of_decide_eq_true hc17)
      refine W_seq ?_
      refine zF [(0, .agg #[.int .i64 V, .int .i64 E, .slice A l.length c, .int .i64 S, .int .i64 U]), (1, .pointer (some ⟨w.heap.size, 0, none⟩)), (2, .string (bsT ([]))), (3, .int .i64 0), (36, .bool (decide ((l.length : Int) > 65535)))] fun ρ => ?_
      refine zR ?_
      refine zS [(2, .string (bsT ([]))), (3, .int .i64 4)] ?_
      refine op_nil ?_
      refine W_ret ?_
      refine ⟨_, Res_of (v := .tuple #[.string (bsT ([])), .int .i64 4]) (by kernel_rfl), ?_⟩
      have hq := put_f (V := V) (E := E) (S := S) (U := U) (l := cores l) (by first | exact mayR_no (j := jj) (by omega) (by assumption) | exact mayR_hd (by omega))
      rw [hq.1, hq.2]
      exact ⟨rfl, hT0⟩
     ·
      replace hc17 : (l.length : Int) ≤ 65535 := (Int.not_lt.1 (of_decide_eq_false hc17))
      refine W_skip ?_
      refine W_seq ?_
      refine W_seq ?_
      refine zF [(0, .agg #[.int .i64 V, .int .i64 E, .slice A l.length c, .int .i64 S, .int .i64 U]), (1, .pointer (some ⟨w.heap.size, 0, none⟩)), (2, .string (bsT ([]))), (3, .int .i64 0), (36, .bool (decide ((l.length : Int) > 65535)))] fun ρ => ?_
      refine zR ?_
      refine zS [(4, .int .i64 0)] ?_
      refine op_nil ?_
      refine W_block ?_
      refine W_loop (fun m ρ w' => ∃ (jj : Nat) (ρ0 : Env), ρ = updL ρ0 [(1, .pointer (some ⟨w.heap.size, 0, none⟩)), (4, .int .i64 ((jj : Nat) : Int))] ∧ (jj ≤ l.length) ∧ (∀ i, i < jj → mayC ((cores l).getD i (core t60)) = true) ∧ Tch N0 w w' ∧ Blk w' (w.heap.size) 25 [.int .i64 V, .int .i64 E, .slice A l.length c, .int .i64 S, .int .i64 U] ∧ m = l.length + 1 - jj) (m := l.length + 1 - 0) ?_ ?_
      ·
       refine ⟨0, _, updL_self (by kernel_rfl), by omega, (fun i h => by omega), hT0, hB4, rfl⟩
      ·
       rintro m ρ w18 ⟨jj, ρ, rfl, hj, hall, hT0, hQ, rfl⟩
       refine W_seq ?_
       refine zQ ?_
       refine zS [(37, .int .i64 ((jj : Nat) : Int)), (38, .pointer (some ⟨w.heap.size, 2, none⟩))] ?_
       refine zL (.slice A l.length c) ((hQ.cell 2).trans rfl) ?_
       refine zS [(40, .int .i64 (l.length : Int)), (41, .bool (decide (((jj : Nat) : Int) < (l.length : Int))))] ?_
       refine zO (decide (((jj : Nat) : Int) < (l.length : Int))) (fun hc19 => ?_) (fun hc19 => ?_)
       ·
        replace hc19 : ((jj : Nat) : Int) < (l.length : Int) := (of_decide_eq_true hc19)
        refine W_skip ?_
        refine W_seq ?_
        refine W_block ?_
        refine zQ ?_
        refine zS [(44, .pointer (some ⟨w.heap.size, 2, none⟩))] ?_
        refine zL (.slice A l.length c) ((hQ.cell 2).trans rfl) ?_
        refine zS [(46, .int .i64 ((jj : Nat) : Int))] ?_
        refine stv (v := ptrAt A (jj * 6)) (by rfl) (R_indexRd (sz := 6) (len := l.length) (cap := c) (k := .i64) (i := ((jj : Nat) : Int)) (e := 43) jj (hR.rd.tch0 hT0) (by kernel_rfl) (by kernel_rfl) (by kernel_rfl) (by kernel_rfl) rfl (by omega)) ?_
        refine stv (v := .agg #[.slice ((tq l jj).iA) ((tq l jj).inp.length) ((tq l jj).iC), .int .i64 ((tq l jj).pt), .int .i64 ((tq l jj).ms), .slice ((tq l jj).gA) ((tq l jj).img.length) ((tq l jj).gC), .int .i64 ((tq l jj).kd), .int .i64 ((tq l jj).cd)]) (by rfl) (R_loadRdA [.slice ((tq l jj).iA) ((tq l jj).inp.length) ((tq l jj).iC), .int .i64 ((tq l jj).pt), .int .i64 ((tq l jj).ms), .slice ((tq l jj).gA) ((tq l jj).img.length) ((tq l jj).gC), .int .i64 ((tq l jj).kd), .int .i64 ((tq l jj).cd)] (hR.rd.tch0 hT0) (by omega) (by kernel_rfl) (by kernel_rfl) (by kernel_rfl) (tcs_part l (by omega))) ?_
        refine zC (rtest_ok (tq l jj) _) ?_
        rintro _ w20 ⟨rfl, hT21⟩
        have hT0 := hT0.t0 hT21
        have hQ := hQ.tch0 hT21
        refine zS [(50, .bool (!(mayC (core (tq l jj)))))] ?_
        refine zO (!(mayC (core (tq l jj)))) (fun hc22 => ?_) (fun hc22 => ?_)
        ·
         replace hc22 : mayC (core (tq l jj)) = false := ((not_t hc22))
         refine W_seq ?_
         refine zF [(1, .pointer (some ⟨w.heap.size, 0, none⟩)), (4, .int .i64 ((jj : Nat) : Int)), (41, .bool (decide (((jj : Nat) : Int) < (l.length : Int)))), (50, .bool (!(mayC (core (tq l jj)))))] fun ρ => ?_
         refine zR ?_
         refine zS [(2, .string (bsT ([]))), (3, .int .i64 4)] ?_
         refine op_nil ?_
         refine W_ret ?_
         refine ⟨_, Res_of (v := .tuple #[.string (bsT ([])), .int .i64 4]) (by kernel_rfl), ?_⟩
         have hq := put_f (V := V) (E := E) (S := S) (U := U) (l := cores l) (by first | exact mayR_no (j := jj) (by omega) (by assumption) | exact mayR_hd (by omega))
         rw [hq.1, hq.2]
         exact ⟨rfl, hT0⟩
        ·
         replace hc22 : mayC (core (tq l jj)) = true := ((not_f hc22))
         refine W_skip ?_
         refine zF [(1, .pointer (some ⟨w.heap.size, 0, none⟩)), (4, .int .i64 ((jj : Nat) : Int)), (41, .bool (decide (((jj : Nat) : Int) < (l.length : Int)))), (50, .bool (!(mayC (core (tq l jj)))))] fun ρ => ?_
         refine zR ?_
         refine zS [(42, .int .i64 ((jj : Nat) : Int)), (43, .int .i64 (IntKind.i64.wrap (((jj : Nat) : Int) + 1)))] ?_
         rw [show IntKind.i64.wrap (((jj : Nat) : Int) + 1) = ((jj : Nat) : Int) + 1 from wrap_i64 (by omega) (by omega)]
         refine fixR (y := ((jj + 1 : Nat) : Int)) (by omega) ?_
         refine zS [(4, .int .i64 ((jj + 1 : Nat) : Int))] ?_
         refine op_nil ?_
         refine ⟨_, (by omega), jj + 1, _, updL_self (by kernel_rfl), (by omega), (fun i h => (Nat.lt_or_eq_of_le (Nat.le_of_lt_succ h)).elim (hall i) (fun e => by rw [e, core_getD (by omega)]; assumption)), hT0, hQ, rfl⟩
       ·
        replace hc19 : (l.length : Int) ≤ ((jj : Nat) : Int) := (Int.not_lt.1 (of_decide_eq_false hc19))
        refine W_exit ?_
        refine X_hit ?_
        refine W_seq ?_
        have hmay := mayR_of (V := V) (E := E) (S := S) (U := U) (l := l) (by omega) (fun i h => hall i (by omega))
        refine W_draw (fun w' => Blk w' (w.heap.size) 25 [.int .i64 V, .int .i64 E, .slice A l.length c, .int .i64 S, .int .i64 U]) (by kernel_rfl) (by kernel_rfl) (by kernel_rfl) fun w23 hT24 hh25 => ?_
        have hT0 := hT0.t0 hT24
        have hQ := hQ.tch0 hT24
        refine zK [0, 3, 7, 11, 15] #[true, false, false, true, false, false, false, true, false, false, false, true, false, false, false, true, false, false, false, false, false] [(51, .pointer (some ⟨w.heap.size, 0, none⟩)), (54, .pointer (some ⟨w.heap.size, 1, none⟩)), (58, .pointer (some ⟨w.heap.size, 3, none⟩)), (62, .pointer (some ⟨w.heap.size, 4, none⟩)), (66, .pointer (some ⟨w.heap.size, 2, none⟩))] hQ ?_
        refine zV 1 rfl (.int .i64 V) (fun _ hQ => R_load (v := .int .i64 V) (by kernel_rfl) (by kernel_rfl) ((hQ.cell 0).trans rfl)) hQ ?_
        refine zV 4 rfl (.int .i64 E) (fun _ hQ => R_load (v := .int .i64 E) (by kernel_rfl) (by kernel_rfl) ((hQ.cell 1).trans rfl)) hQ ?_
        refine zV 8 rfl (.int .i64 S) (fun _ hQ => R_load (v := .int .i64 S) (by kernel_rfl) (by kernel_rfl) ((hQ.cell 3).trans rfl)) hQ ?_
        refine zV 12 rfl (.int .i64 U) (fun _ hQ => R_load (v := .int .i64 U) (by kernel_rfl) (by kernel_rfl) ((hQ.cell 4).trans rfl)) hQ ?_
        refine zV 16 rfl (.slice A l.length c) (fun _ hQ => R_load (v := .slice A l.length c) (by kernel_rfl) (by kernel_rfl) ((hQ.cell 2).trans rfl)) hQ ?_
        refine zK [17] #[true, true, false, true, true, false, false, true, true, false, false, true, true, false, false, true, true, true, false, false, false] [(68, .int .i64 (l.length : Int))] hQ ?_
        refine zD 2 rfl (S_call (args := [.int .i64 V, .int .i64 1]) (by kernel_rfl) (bytesI1_ok V _ (by omega) (by omega)) ?_)
        rintro _ w26 ⟨rfl, hT27⟩
        have hT0 := hT0.t0 hT27
        have hQ := hQ.tch0 hT27
        refine ⟨hQ, ?_⟩
        refine zD 5 rfl (S_call (args := [.int .i64 E, .int .i64 1]) (by kernel_rfl) (bytesI1_ok E _ (by omega) (by omega)) ?_)
        rintro _ w28 ⟨rfl, hT29⟩
        have hT0 := hT0.t0 hT29
        have hQ := hQ.tch0 hT29
        refine ⟨hQ, ?_⟩
        refine zV 6 rfl (.string (bsT ((be 1 V.toNat) ++ (be 1 E.toNat)))) (fun _ hQ => R_sadd (a := be 1 V.toNat) (b := be 1 E.toNat) (by kernel_rfl) (by kernel_rfl) (by simp only [List.length_append, be_length]; omega)) hQ ?_
        refine zD 9 rfl (S_call (args := [.int .i64 S, .int .i64 4]) (by kernel_rfl) (bytesI4_ok S _ (by omega) (by omega)) ?_)
        rintro _ w30 ⟨rfl, hT31⟩
        have hT0 := hT0.t0 hT31
        have hQ := hQ.tch0 hT31
        refine ⟨hQ, ?_⟩
        refine zV 10 rfl (.string (bsT (((be 1 V.toNat) ++ (be 1 E.toNat)) ++ (be 4 S.toNat)))) (fun _ hQ => R_sadd (a := (be 1 V.toNat) ++ (be 1 E.toNat)) (b := be 4 S.toNat) (by kernel_rfl) (by kernel_rfl) (by simp only [List.length_append, be_length]; omega)) hQ ?_
        refine zD 13 rfl (S_call (args := [.int .i64 U, .int .i64 4]) (by kernel_rfl) (bytesI4_ok U _ (by omega) (by omega)) ?_)
        rintro _ w32 ⟨rfl, hT33⟩
        have hT0 := hT0.t0 hT33
        have hQ := hQ.tch0 hT33
        refine ⟨hQ, ?_⟩
        refine zV 14 rfl (.string (bsT ((((be 1 V.toNat) ++ (be 1 E.toNat)) ++ (be 4 S.toNat)) ++ (be 4 U.toNat)))) (fun _ hQ => R_sadd (a := ((be 1 V.toNat) ++ (be 1 E.toNat)) ++ (be 4 S.toNat)) (b := be 4 U.toNat) (by kernel_rfl) (by kernel_rfl) (by simp only [List.length_append, be_length]; omega)) hQ ?_
        refine zD 18 rfl (S_call (args := [.int .i64 (l.length : Int), .int .i64 2]) (by kernel_rfl) (bytesI2_ok (l.length : Int) _ (by omega) (by omega)) ?_)
        rintro _ w34 ⟨rfl, hT35⟩
        have hT0 := hT0.t0 hT35
        have hQ := hQ.tch0 hT35
        refine ⟨hQ, ?_⟩
        refine zV 19 rfl (.string (bsT (((((be 1 V.toNat) ++ (be 1 E.toNat)) ++ (be 4 S.toNat)) ++ (be 4 U.toNat)) ++ (be 2 (l.length : Int).toNat)))) (fun _ hQ => R_sadd (a := (((be 1 V.toNat) ++ (be 1 E.toNat)) ++ (be 4 S.toNat)) ++ (be 4 U.toNat)) (b := be 2 (l.length : Int).toNat) (by kernel_rfl) (by kernel_rfl) (by simp only [List.length_append, be_length]; omega)) hQ ?_
        refine zK [20] #[true, true, true, true, true, true, true, true, true, true, true, true, true, true, true, true, true, true, true, true, true] [(5, .string (bsT (((((be 1 V.toNat) ++ (be 1 E.toNat)) ++ (be 4 S.toNat)) ++ (be 4 U.toNat)) ++ (be 2 (l.length : Int).toNat))))] hQ ?_
        refine d_done (by kernel_rfl) ?_
        refine W_seq ?_
        refine W_seq ?_
        refine zF [(1, .pointer (some ⟨w.heap.size, 0, none⟩)), (4, .int .i64 ((jj : Nat) : Int)), (5, .string (bsT (((((be 1 V.toNat) ++ (be 1 E.toNat)) ++ (be 4 S.toNat)) ++ (be 4 U.toNat)) ++ (be 2 (l.length : Int).toNat)))), (41, .bool (decide (((jj : Nat) : Int) < (l.length : Int))))] fun ρ => ?_
        refine zR ?_
        refine zS [(6, .int .i64 0)] ?_
        refine op_nil ?_
        refine W_block ?_
        refine W_loop (fun m ρ w' => ∃ (sx : Tx) (j : Nat) (ρ0 : Env), ρ = updL ρ0 [(1, .pointer (some ⟨w.heap.size, 0, none⟩)), (5, .string (bsT sx)), (6, .int .i64 ((j : Nat) : Int))] ∧ (j ≤ l.length) ∧ (sx = preP V E S U l j) ∧ (sx.length ≤ 12 + 2400 * j) ∧ Tch N0 w w' ∧ Blk w' (w.heap.size) 25 [.int .i64 V, .int .i64 E, .slice A l.length c, .int .i64 S, .int .i64 U] ∧ m = l.length + 1 - j) (m := l.length + 1 - 0) ?_ ?_
        ·
         refine ⟨((((be 1 V.toNat) ++ (be 1 E.toNat)) ++ (be 4 S.toNat)) ++ (be 4 U.toNat)) ++ (be 2 (l.length : Int).toNat), 0, _, updL_self (by kernel_rfl), by omega, (by rw [preP_0]; rfl), (by simp only [List.length_append, be_length]; omega), hT0, hQ, rfl⟩
        ·
         rintro m ρ w36 ⟨sx, j, ρ, rfl, hj, hsx, hsl, hT0, hQ, rfl⟩
         refine W_seq ?_
         refine zQ ?_
         refine zS [(71, .int .i64 ((j : Nat) : Int)), (72, .pointer (some ⟨w.heap.size, 2, none⟩))] ?_
         refine zL (.slice A l.length c) ((hQ.cell 2).trans rfl) ?_
         refine zS [(74, .int .i64 (l.length : Int)), (75, .bool (decide (((j : Nat) : Int) < (l.length : Int))))] ?_
         refine zO (decide (((j : Nat) : Int) < (l.length : Int))) (fun hc37 => ?_) (fun hc37 => ?_)
         ·
          replace hc37 : ((j : Nat) : Int) < (l.length : Int) := (of_decide_eq_true hc37)
          refine W_skip ?_
          refine W_seq ?_
          refine W_block ?_
          refine zQ ?_
          refine zS [(78, .pointer (some ⟨w.heap.size, 2, none⟩))] ?_
          refine zL (.slice A l.length c) ((hQ.cell 2).trans rfl) ?_
          refine zS [(80, .int .i64 ((j : Nat) : Int))] ?_
          refine stv (v := ptrAt A (j * 6)) (by rfl) (R_indexRd (sz := 6) (len := l.length) (cap := c) (k := .i64) (i := ((j : Nat) : Int)) (e := 43) j (hR.rd.tch0 hT0) (by kernel_rfl) (by kernel_rfl) (by kernel_rfl) (by kernel_rfl) rfl (by omega)) ?_
          refine stv (v := .agg #[.slice ((tq l j).iA) ((tq l j).inp.length) ((tq l j).iC), .int .i64 ((tq l j).pt), .int .i64 ((tq l j).ms), .slice ((tq l j).gA) ((tq l j).img.length) ((tq l j).gC), .int .i64 ((tq l j).kd), .int .i64 ((tq l j).cd)]) (by rfl) (R_loadRdA [.slice ((tq l j).iA) ((tq l j).inp.length) ((tq l j).iC), .int .i64 ((tq l j).pt), .int .i64 ((tq l j).ms), .slice ((tq l j).gA) ((tq l j).img.length) ((tq l j).gC), .int .i64 ((tq l j).kd), .int .i64 ((tq l j).cd)] (hR.rd.tch0 hT0) (by omega) (by kernel_rfl) (by kernel_rfl) (by kernel_rfl) (tcs_part l (by omega))) ?_
          have hz42 := hT0.size
          have lt43 := hQ.lt
          refine st (by rfl) (S_new (v := .pointer (some ⟨w36.heap.size, 0, none⟩)) (ob := .cells #[.slice none 0 0, .int .i64 0, .int .i64 0, .slice none 0 0, .int .i64 0, .int .i64 0] 43) (by kernel_rfl) fun w38 hT39 hs40 hB41 => ?_)
          replace hB41 : Blk w38 (w36.heap.size) 43 [.slice none 0 0, .int .i64 0, .int .i64 0, .slice none 0 0, .int .i64 0, .int .i64 0] := hB41
          have hT0 := hT0.t0 hT39
          have hQ := hQ.tch0 hT39
          refine st (by rfl) (S_storeA (b := w36.heap.size) (j := 0) (cs := [.slice ((tq l j).iA) ((tq l j).inp.length) ((tq l j).iC), .int .i64 ((tq l j).pt), .int .i64 ((tq l j).ms), .slice ((tq l j).gA) ((tq l j).img.length) ((tq l j).gC), .int .i64 ((tq l j).kd), .int .i64 ((tq l j).cd)]) (by kernel_rfl) (by kernel_rfl) (by kernel_rfl) (by simp [oneV]) hB41 (by simp) fun w44 hT45 hs46 hB41' => ?_)
          have hT0 := (hT0).then hT45 (fun c e => by have : c = w36.heap.size := e; omega)
          have hQ := hQ.tch hT45 (hQ.ne hB41 (by decide))
          replace hB41 : Blk w44 w36.heap.size 43 [.slice ((tq l j).iA) ((tq l j).inp.length) ((tq l j).iC), .int .i64 ((tq l j).pt), .int .i64 ((tq l j).ms), .slice ((tq l j).gA) ((tq l j).img.length) ((tq l j).gC), .int .i64 ((tq l j).kd), .int .i64 ((tq l j).cd)] := hB41'
          refine op_nil ?_
          refine W_seq ?_
          refine zF [(1, .pointer (some ⟨w.heap.size, 0, none⟩)), (5, .string (bsT sx)), (6, .int .i64 ((j : Nat) : Int)), (7, .pointer (some ⟨w36.heap.size, 0, none⟩)), (75, .bool (decide (((j : Nat) : Int) < (l.length : Int))))] fun ρ => ?_
          have hmc := may_el hmay (j := j) (by omega)
          rw [mayC_core] at hmc
          have hmc := of_decide_eq_true hmc
          have hRi := (hR.ri (j := j) (by omega)).tch0 hT0
          refine W_draw (fun w' => Blk w' (w36.heap.size) 43 [.slice ((tq l j).iA) ((tq l j).inp.length) ((tq l j).iC), .int .i64 ((tq l j).pt), .int .i64 ((tq l j).ms), .slice ((tq l j).gA) ((tq l j).img.length) ((tq l j).gC), .int .i64 ((tq l j).kd), .int .i64 ((tq l j).cd)] ∧ RdW w' 1 (tq l j).inp.length (tq l j).iA (u8s (tq l j).inp)) (by kernel_rfl) (by kernel_rfl) (by kernel_rfl) fun w47 hT48 hh49 => ?_
          have hT0 := hT0.t0 hT48
          have hQ := hQ.tch0 hT48
          have hB41 := hB41.tch0 hT48
          have hRi := hRi.tch0 hT48
          refine zK [0, 1, 6, 10, 14, 18, 22, 26] #[true, true, false, false, false, false, true, false, false, false, true, false, false, false, true, false, false, false, true, false, false, false, true, false, false, false, true, false, false, false, false, false] [(83, .string (bsT sx)), (84, .pointer (some ⟨w36.heap.size, 0, none⟩)), (89, .pointer (some ⟨w36.heap.size, 0, none⟩)), (93, .pointer (some ⟨w36.heap.size, 1, none⟩)), (97, .pointer (some ⟨w36.heap.size, 2, none⟩)), (101, .pointer (some ⟨w36.heap.size, 5, none⟩)), (105, .pointer (some ⟨w36.heap.size, 4, none⟩)), (109, .pointer (some ⟨w36.heap.size, 3, none⟩))] ⟨hB41, hRi⟩ ?_
          refine zV 2 rfl (.slice ((tq l j).iA) ((tq l j).inp.length) ((tq l j).iC)) (fun _ ⟨hB41, hRi⟩ => R_load (v := .slice ((tq l j).iA) ((tq l j).inp.length) ((tq l j).iC)) (by kernel_rfl) (by kernel_rfl) ((hB41.cell 0).trans rfl)) ⟨hB41, hRi⟩ ?_
          refine zK [3] #[true, true, true, true, false, false, true, false, false, false, true, false, false, false, true, false, false, false, true, false, false, false, true, false, false, false, true, false, false, false, false, false] [(86, .int .i64 ((tq l j).inp.length : Int))] ⟨hB41, hRi⟩ ?_
          refine zV 7 rfl (.slice ((tq l j).iA) ((tq l j).inp.length) ((tq l j).iC)) (fun _ ⟨hB41, hRi⟩ => R_load (v := .slice ((tq l j).iA) ((tq l j).inp.length) ((tq l j).iC)) (by kernel_rfl) (by kernel_rfl) ((hB41.cell 0).trans rfl)) ⟨hB41, hRi⟩ ?_
          refine zV 8 rfl (.string (bsT (tq l j).inp)) (fun _ ⟨hB41, hRi⟩ => R_b2sR (len := (tq l j).inp.length) (cap := (tq l j).iC) (by kernel_rfl) (by kernel_rfl) (by kernel_rfl) (by kernel_rfl) hRi) ⟨hB41, hRi⟩ ?_
          refine zV 11 rfl (.int .i64 ((tq l j).pt)) (fun _ ⟨hB41, hRi⟩ => R_load (v := .int .i64 ((tq l j).pt)) (by kernel_rfl) (by kernel_rfl) ((hB41.cell 1).trans rfl)) ⟨hB41, hRi⟩ ?_
          refine zV 15 rfl (.int .i64 ((tq l j).ms)) (fun _ ⟨hB41, hRi⟩ => R_load (v := .int .i64 ((tq l j).ms)) (by kernel_rfl) (by kernel_rfl) ((hB41.cell 2).trans rfl)) ⟨hB41, hRi⟩ ?_
          refine zV 19 rfl (.int .i64 ((tq l j).cd)) (fun _ ⟨hB41, hRi⟩ => R_load (v := .int .i64 ((tq l j).cd)) (by kernel_rfl) (by kernel_rfl) ((hB41.cell 5).trans rfl)) ⟨hB41, hRi⟩ ?_
          refine zV 23 rfl (.int .i64 ((tq l j).kd)) (fun _ ⟨hB41, hRi⟩ => R_load (v := .int .i64 ((tq l j).kd)) (by kernel_rfl) (by kernel_rfl) ((hB41.cell 4).trans rfl)) ⟨hB41, hRi⟩ ?_
          refine zV 27 rfl (.slice ((tq l j).gA) ((tq l j).img.length) ((tq l j).gC)) (fun _ ⟨hB41, hRi⟩ => R_load (v := .slice ((tq l j).gA) ((tq l j).img.length) ((tq l j).gC)) (by kernel_rfl) (by kernel_rfl) ((hB41.cell 3).trans rfl)) ⟨hB41, hRi⟩ ?_
          refine zK [28] #[true, true, true, true, false, false, true, true, true, false, true, true, false, false, true, true, false, false, true, true, false, false, true, true, false, false, true, true, true, false, false, false] [(111, .int .i64 ((tq l j).img.length : Int))] ⟨hB41, hRi⟩ ?_
          refine zD 4 rfl (S_call (args := [.int .i64 ((tq l j).inp.length : Int), .int .i64 1]) (by kernel_rfl) (bytesI1_ok ((tq l j).inp.length : Int) _ (by omega) (by omega)) ?_)
          rintro _ w50 ⟨rfl, hT51⟩
          have hT0 := hT0.t0 hT51
          have hQ := hQ.tch0 hT51
          have hB41 := hB41.tch0 hT51
          have hRi := hRi.tch0 hT51
          refine ⟨⟨hB41, hRi⟩, ?_⟩
          refine zV 5 rfl (.string (bsT (sx ++ (be 1 ((tq l j).inp.length : Int).toNat)))) (fun _ ⟨hB41, hRi⟩ => R_sadd (a := sx) (b := be 1 ((tq l j).inp.length : Int).toNat) (by kernel_rfl) (by kernel_rfl) (by simp only [List.length_append, be_length]; omega)) ⟨hB41, hRi⟩ ?_
          refine zV 9 rfl (.string (bsT ((sx ++ (be 1 ((tq l j).inp.length : Int).toNat)) ++ ((tq l j).inp)))) (fun _ ⟨hB41, hRi⟩ => R_sadd (a := sx ++ (be 1 ((tq l j).inp.length : Int).toNat)) (b := (tq l j).inp) (by kernel_rfl) (by kernel_rfl) (by simp only [List.length_append, be_length]; omega)) ⟨hB41, hRi⟩ ?_
          refine zD 12 rfl (S_call (args := [.int .i64 ((tq l j).pt), .int .i64 2]) (by kernel_rfl) (bytesI2_ok ((tq l j).pt) _ (by omega) (by omega)) ?_)
          rintro _ w52 ⟨rfl, hT53⟩
          have hT0 := hT0.t0 hT53
          have hQ := hQ.tch0 hT53
          have hB41 := hB41.tch0 hT53
          have hRi := hRi.tch0 hT53
          refine ⟨⟨hB41, hRi⟩, ?_⟩
          refine zV 13 rfl (.string (bsT (((sx ++ (be 1 ((tq l j).inp.length : Int).toNat)) ++ ((tq l j).inp)) ++ (be 2 ((tq l j).pt).toNat)))) (fun _ ⟨hB41, hRi⟩ => R_sadd (a := (sx ++ (be 1 ((tq l j).inp.length : Int).toNat)) ++ ((tq l j).inp)) (b := be 2 ((tq l j).pt).toNat) (by kernel_rfl) (by kernel_rfl) (by simp only [List.length_append, be_length]; omega)) ⟨hB41, hRi⟩ ?_
          refine zD 16 rfl (S_call (args := [.int .i64 ((tq l j).ms), .int .i64 2]) (by kernel_rfl) (bytesI2_ok ((tq l j).ms) _ (by omega) (by omega)) ?_)
          rintro _ w54 ⟨rfl, hT55⟩
          have hT0 := hT0.t0 hT55
          have hQ := hQ.tch0 hT55
          have hB41 := hB41.tch0 hT55
          have hRi := hRi.tch0 hT55
          refine ⟨⟨hB41, hRi⟩, ?_⟩
          refine zV 17 rfl (.string (bsT ((((sx ++ (be 1 ((tq l j).inp.length : Int).toNat)) ++ ((tq l j).inp)) ++ (be 2 ((tq l j).pt).toNat)) ++ (be 2 ((tq l j).ms).toNat)))) (fun _ ⟨hB41, hRi⟩ => R_sadd (a := ((sx ++ (be 1 ((tq l j).inp.length : Int).toNat)) ++ ((tq l j).inp)) ++ (be 2 ((tq l j).pt).toNat)) (b := be 2 ((tq l j).ms).toNat) (by kernel_rfl) (by kernel_rfl) (by simp only [List.length_append, be_length]; omega)) ⟨hB41, hRi⟩ ?_
          refine zD 20 rfl (S_call (args := [.int .i64 ((tq l j).cd), .int .i64 2]) (by kernel_rfl) (bytesI2_ok ((tq l j).cd) _ (by omega) (by omega)) ?_)
          rintro _ w56 ⟨rfl, hT57⟩
          have hT0 := hT0.t0 hT57
          have hQ := hQ.tch0 hT57
          have hB41 := hB41.tch0 hT57
          have hRi := hRi.tch0 hT57
          refine ⟨⟨hB41, hRi⟩, ?_⟩
          refine zV 21 rfl (.string (bsT (((((sx ++ (be 1 ((tq l j).inp.length : Int).toNat)) ++ ((tq l j).inp)) ++ (be 2 ((tq l j).pt).toNat)) ++ (be 2 ((tq l j).ms).toNat)) ++ (be 2 ((tq l j).cd).toNat)))) (fun _ ⟨hB41, hRi⟩ => R_sadd (a := (((sx ++ (be 1 ((tq l j).inp.length : Int).toNat)) ++ ((tq l j).inp)) ++ (be 2 ((tq l j).pt).toNat)) ++ (be 2 ((tq l j).ms).toNat)) (b := be 2 ((tq l j).cd).toNat) (by kernel_rfl) (by kernel_rfl) (by simp only [List.length_append, be_length]; omega)) ⟨hB41, hRi⟩ ?_
          refine zD 24 rfl (S_call (args := [.int .i64 ((tq l j).kd), .int .i64 1]) (by kernel_rfl) (bytesI1_ok ((tq l j).kd) _ (by omega) (by omega)) ?_)
          rintro _ w58 ⟨rfl, hT59⟩
          have hT0 := hT0.t0 hT59
          have hQ := hQ.tch0 hT59
          have hB41 := hB41.tch0 hT59
          have hRi := hRi.tch0 hT59
          refine ⟨⟨hB41, hRi⟩, ?_⟩
          refine zV 25 rfl (.string (bsT ((((((sx ++ (be 1 ((tq l j).inp.length : Int).toNat)) ++ ((tq l j).inp)) ++ (be 2 ((tq l j).pt).toNat)) ++ (be 2 ((tq l j).ms).toNat)) ++ (be 2 ((tq l j).cd).toNat)) ++ (be 1 ((tq l j).kd).toNat)))) (fun _ ⟨hB41, hRi⟩ => R_sadd (a := ((((sx ++ (be 1 ((tq l j).inp.length : Int).toNat)) ++ ((tq l j).inp)) ++ (be 2 ((tq l j).pt).toNat)) ++ (be 2 ((tq l j).ms).toNat)) ++ (be 2 ((tq l j).cd).toNat)) (b := be 1 ((tq l j).kd).toNat) (by kernel_rfl) (by kernel_rfl) (by simp only [List.length_append, be_length]; omega)) ⟨hB41, hRi⟩ ?_
          refine zD 29 rfl (S_call (args := [.int .i64 ((tq l j).img.length : Int), .int .i64 1]) (by kernel_rfl) (bytesI1_ok ((tq l j).img.length : Int) _ (by omega) (by omega)) ?_)
          rintro _ w60 ⟨rfl, hT61⟩
          have hT0 := hT0.t0 hT61
          have hQ := hQ.tch0 hT61
          have hB41 := hB41.tch0 hT61
          have hRi := hRi.tch0 hT61
          refine ⟨⟨hB41, hRi⟩, ?_⟩
          refine zV 30 rfl (.string (bsT (((((((sx ++ (be 1 ((tq l j).inp.length : Int).toNat)) ++ ((tq l j).inp)) ++ (be 2 ((tq l j).pt).toNat)) ++ (be 2 ((tq l j).ms).toNat)) ++ (be 2 ((tq l j).cd).toNat)) ++ (be 1 ((tq l j).kd).toNat)) ++ (be 1 ((tq l j).img.length : Int).toNat)))) (fun _ ⟨hB41, hRi⟩ => R_sadd (a := (((((sx ++ (be 1 ((tq l j).inp.length : Int).toNat)) ++ ((tq l j).inp)) ++ (be 2 ((tq l j).pt).toNat)) ++ (be 2 ((tq l j).ms).toNat)) ++ (be 2 ((tq l j).cd).toNat)) ++ (be 1 ((tq l j).kd).toNat)) (b := be 1 ((tq l j).img.length : Int).toNat) (by kernel_rfl) (by kernel_rfl) (by simp only [List.length_append, be_length]; omega)) ⟨hB41, hRi⟩ ?_
          refine zK [31] #[true, true, true, true, true, true, true, true, true, true, true, true, true, true, true, true, true, true, true, true, true, true, true, true, true, true, true, true, true, true, true, true] [(5, .string (bsT (((((((sx ++ (be 1 ((tq l j).inp.length : Int).toNat)) ++ ((tq l j).inp)) ++ (be 2 ((tq l j).pt).toNat)) ++ (be 2 ((tq l j).ms).toNat)) ++ (be 2 ((tq l j).cd).toNat)) ++ (be 1 ((tq l j).kd).toNat)) ++ (be 1 ((tq l j).img.length : Int).toNat))))] ⟨hB41, hRi⟩ ?_
          refine d_done (by kernel_rfl) ?_
          refine W_seq ?_
          refine zF [(1, .pointer (some ⟨w.heap.size, 0, none⟩)), (5, .string (bsT (((((((sx ++ (be 1 ((tq l j).inp.length : Int).toNat)) ++ ((tq l j).inp)) ++ (be 2 ((tq l j).pt).toNat)) ++ (be 2 ((tq l j).ms).toNat)) ++ (be 2 ((tq l j).cd).toNat)) ++ (be 1 ((tq l j).kd).toNat)) ++ (be 1 ((tq l j).img.length : Int).toNat)))), (6, .int .i64 ((j : Nat) : Int)), (7, .pointer (some ⟨w36.heap.size, 0, none⟩)), (75, .bool (decide (((j : Nat) : Int) < (l.length : Int))))] fun ρ => ?_
          refine zR ?_
          refine zS [(8, .int .i64 0)] ?_
          refine op_nil ?_
          refine W_block ?_
          refine W_loop (fun m ρ w' => ∃ (sy : Tx) (i2 : Nat) (ρ0 : Env), ρ = updL ρ0 [(1, .pointer (some ⟨w.heap.size, 0, none⟩)), (5, .string (bsT sy)), (6, .int .i64 ((j : Nat) : Int)), (7, .pointer (some ⟨w36.heap.size, 0, none⟩)), (8, .int .i64 ((i2 : Nat) : Int))] ∧ (i2 ≤ (tq l j).img.length) ∧ (sy = preI V E S U l j i2) ∧ (sy.length ≤ 12 + 2400 * j + 300 + 8 * i2) ∧ Tch N0 w w' ∧ Blk w' (w.heap.size) 25 [.int .i64 V, .int .i64 E, .slice A l.length c, .int .i64 S, .int .i64 U] ∧ Blk w' (w36.heap.size) 43 [.slice ((tq l j).iA) ((tq l j).inp.length) ((tq l j).iC), .int .i64 ((tq l j).pt), .int .i64 ((tq l j).ms), .slice ((tq l j).gA) ((tq l j).img.length) ((tq l j).gC), .int .i64 ((tq l j).kd), .int .i64 ((tq l j).cd)] ∧ m = (tq l j).img.length + 1 - i2) (m := (tq l j).img.length + 1 - 0) ?_ ?_
          ·
           refine ⟨((((((sx ++ (be 1 ((tq l j).inp.length : Int).toNat)) ++ ((tq l j).inp)) ++ (be 2 ((tq l j).pt).toNat)) ++ (be 2 ((tq l j).ms).toNat)) ++ (be 2 ((tq l j).cd).toNat)) ++ (be 1 ((tq l j).kd).toNat)) ++ (be 1 ((tq l j).img.length : Int).toNat), 0, _, updL_self (by kernel_rfl), by omega, (by rw [preI_0, hsx]; unfold encH core; simp only [List.append_assoc]; rfl), (by simp only [List.length_append, be_length]; omega), hT0, hQ, hB41, rfl⟩
          ·
           rintro m ρ w62 ⟨sy, i2, ρ, rfl, hi2, hsy, hsyl, hT0, hQ, hT7, rfl⟩
           refine W_seq ?_
           refine zQ ?_
           refine zS [(114, .int .i64 ((i2 : Nat) : Int)), (115, .pointer (some ⟨w36.heap.size, 3, none⟩))] ?_
           refine zL (.slice ((tq l j).gA) ((tq l j).img.length) ((tq l j).gC)) ((hT7.cell 3).trans rfl) ?_
           refine zS [(117, .int .i64 ((tq l j).img.length : Int)), (118, .bool (decide (((i2 : Nat) : Int) < ((tq l j).img.length : Int))))] ?_
           refine zO (decide (((i2 : Nat) : Int) < ((tq l j).img.length : Int))) (fun hc63 => ?_) (fun hc63 => ?_)
           ·
            replace hc63 : ((i2 : Nat) : Int) < ((tq l j).img.length : Int) := (of_decide_eq_true hc63)
            refine W_skip ?_
            refine W_seq ?_
            refine W_block ?_
            have hil := img_lt hR (j := j) (i := i2) (by omega) (by omega)
            refine zR ?_
            refine zS [(121, .string (bsT sy)), (122, .pointer (some ⟨w36.heap.size, 3, none⟩))] ?_
            refine zL (.slice ((tq l j).gA) ((tq l j).img.length) ((tq l j).gC)) ((hT7.cell 3).trans rfl) ?_
            refine zS [(124, .int .i64 ((i2 : Nat) : Int))] ?_
            refine stv (v := ptrAt ((tq l j).gA) i2) (by rfl) (R_indexRd1 (len := (tq l j).img.length) (cap := (tq l j).gC) (k := .i64) (i := ((i2 : Nat) : Int)) (e := 44) i2 ((hR.rg (by omega)).tch0 hT0) (by kernel_rfl) (by kernel_rfl) (by kernel_rfl) (by kernel_rfl) rfl (by omega)) ?_
            refine stv (v := .int .u64 (((tq l j).img.getD i2 0 : Nat) : Int)) (by rfl) (R_loadRd (v := .int .u64 (((tq l j).img.getD i2 0 : Nat) : Int)) ((hR.rg (by omega)).tch0 hT0) (by omega) (by kernel_rfl) (by kernel_rfl) (u64s_at (by omega))) ?_
            refine zC (eight_ok ((tq l j).img.getD i2 0) _ (by omega)) ?_
            rintro _ w64 ⟨rfl, hT65⟩
            have hT0 := hT0.t0 hT65
            have hQ := hQ.tch0 hT65
            have hT7 := hT7.tch0 hT65
            refine stv (v := .string (bsT (sy ++ (be 8 ((tq l j).img.getD i2 0))))) (by rfl) (R_sadd (a := sy) (b := be 8 ((tq l j).img.getD i2 0)) (by kernel_rfl) (by kernel_rfl) (by simp only [List.length_append, be_length]; omega)) ?_
            refine zS [(5, .string (bsT (sy ++ (be 8 ((tq l j).img.getD i2 0)))))] ?_
            refine op_nil ?_
            refine zF [(1, .pointer (some ⟨w.heap.size, 0, none⟩)), (5, .string (bsT (sy ++ (be 8 ((tq l j).img.getD i2 0))))), (6, .int .i64 ((j : Nat) : Int)), (7, .pointer (some ⟨w36.heap.size, 0, none⟩)), (8, .int .i64 ((i2 : Nat) : Int)), (118, .bool (decide (((i2 : Nat) : Int) < ((tq l j).img.length : Int))))] fun ρ => ?_
            refine zR ?_
            refine zS [(119, .int .i64 ((i2 : Nat) : Int)), (120, .int .i64 (IntKind.i64.wrap (((i2 : Nat) : Int) + 1)))] ?_
            rw [show IntKind.i64.wrap (((i2 : Nat) : Int) + 1) = ((i2 : Nat) : Int) + 1 from wrap_i64 (by omega) (by omega)]
            refine fixR (y := ((i2 + 1 : Nat) : Int)) (by omega) ?_
            refine zS [(8, .int .i64 ((i2 + 1 : Nat) : Int))] ?_
            refine op_nil ?_
            refine ⟨_, (by omega), sy ++ (be 8 ((tq l j).img.getD i2 0)), i2 + 1, _, updL_self (by kernel_rfl), (by omega), (by rw [preI_step (by omega), ← hsy]), (by simp only [List.length_append, be_length]; omega), hT0, hQ, hT7, rfl⟩
           ·
            replace hc63 : ((tq l j).img.length : Int) ≤ ((i2 : Nat) : Int) := (Int.not_lt.1 (of_decide_eq_false hc63))
            refine W_exit ?_
            refine X_hit ?_
            refine zR ?_
            refine zS [(76, .int .i64 ((j : Nat) : Int)), (77, .int .i64 (IntKind.i64.wrap (((j : Nat) : Int) + 1)))] ?_
            rw [show IntKind.i64.wrap (((j : Nat) : Int) + 1) = ((j : Nat) : Int) + 1 from wrap_i64 (by omega) (by omega)]
            refine fixR (y := ((j + 1 : Nat) : Int)) (by omega) ?_
            refine zS [(6, .int .i64 ((j + 1 : Nat) : Int))] ?_
            refine op_nil ?_
            refine ⟨_, (by omega), sy, j + 1, _, updL_self (by kernel_rfl), (by omega), (by rw [hsy, show i2 = (tq l j).img.length by omega, preI_all (by omega)]), (by omega), hT0, hQ, rfl⟩
         ·
          replace hc37 : (l.length : Int) ≤ ((j : Nat) : Int) := (Int.not_lt.1 (of_decide_eq_false hc37))
          refine W_exit ?_
          refine X_hit ?_
          refine zQ ?_
          refine zS [(129, .string (bsT sx)), (2, .string (bsT sx)), (3, .int .i64 0)] ?_
          refine op_nil ?_
          refine W_ret ?_
          refine ⟨_, Res_of (v := .tuple #[.string (bsT sx), .int .i64 0]) (by kernel_rfl), ?_⟩
          have hq := put_t hmay
          rw [hq.1, hq.2, ← preP_all, hsx, show j = l.length by omega]
          exact ⟨rfl, hT0⟩

end Go.Proofs.YtlkjhkennbdbnaaV

set_option linter.unusedVariables false
set_option linter.unusedSimpArgs false
namespace Go.Proofs.YtlkjhkennbdbnaaV
open Go Go.RowKit
/-- A map in memory: just these keys and elements. -/
def MapE (P : Program) (k : TypeId) (w : World) (b : Nat) (R : Value → Value → Prop) : Prop :=
 ∃ es clock, w.heap[b]? = some (.map es clock) ∧ (∀ e ∈ es.toList, ∃ l, keyOf P k e.key = some l) ∧ (∀ x y, R x y ↔ ∃ e ∈ es.toList, e.key = x ∧ e.val = y) ∧ (∀ (i j : Nat) (e e' : MapEntry), es.toList[i]? = some e → es.toList[j]? = some e' → e.key = e'.key → i = j)
theorem MapE.lt {P : Program} {k : TypeId} {w : World} {b : Nat} {R : Value → Value → Prop} (h : MapE P k w b R) : b < w.heap.size := by
 obtain ⟨es, clock, hb, _⟩ := h; exact (Array.getElem?_eq_some_iff.1 hb).1
theorem MapE.tch {P : Program} {k : TypeId} {S : Nat → Prop} {w w' : World} {b : Nat} {R : Value → Value → Prop} (h : MapE P k w b R) (t : Tch S w w') (hs : ¬ S b) : MapE P k w' b R := by
 have hl := h.lt
 obtain ⟨es, clock, hb, q⟩ := h; exact ⟨es, clock, (t.block b hl hs).trans hb, q⟩
theorem MapE.tch0 {P : Program} {k : TypeId} {w w' : World} {b : Nat} {R : Value → Value → Prop} (h : MapE P k w b R) (t : Tch N0 w w') : MapE P k w' b R := h.tch t (fun e => e)
theorem MapE.congr {P : Program} {k : TypeId} {w : World} {b : Nat} {R R' : Value → Value → Prop} (h : MapE P k w b R) (hi : ∀ x y, R' x y ↔ R x y) : MapE P k w b R' := by
 obtain ⟨es, clock, hb, q1, q2, q3⟩ := h; exact ⟨es, clock, hb, q1, fun x y => (hi x y).trans (q2 x y), q3⟩
theorem MapE.ne {P : Program} {k : TypeId} {w : World} {b c : Nat} {R : Value → Value → Prop} {t : TypeId} {l : List Value} (h : MapE P k w b R) (hc : Blk w c t l) : b ≠ c := by
 rintro rfl
 obtain ⟨es, clock, hb, q⟩ := h
 unfold Blk at hc
 rw [hb] at hc; cases hc
section
variable {P : Program} {ρ : Env} {w : World} {J : Env → World → Prop}
end
end Go.Proofs.YtlkjhkennbdbnaaV

set_option linter.unusedVariables false
set_option linter.unusedSimpArgs false
namespace Go.Proofs.YtlkjhkennbdbnaaV
open Go Go.RowKit Go.Proofs
def v4 (a b c d : Int) : Value := .agg #[.int .i64 a, .int .i64 b, .int .i64 c, .int .i64 d]
theorem v4_inj {a b c d a' b' c' d' : Int} (h : v4 a b c d = v4 a' b' c' d') : a = a' ∧ b = b' ∧ c = c' ∧ d = d' := by
 unfold v4 at h
 injection h with h
 have h2 := congrArg Array.toList h
 simp only [List.cons.injEq, Value.int.injEq, true_and, and_true] at h2
 exact h2
theorem keyT85 : Try.prog.keyTypeAt 3 85 = true := by kernel_rfl
theorem tiled85 : Try.prog.tiled 3 85 = true := by kernel_rfl
theorem key_law85 : Go.Maps.Keyed Try.prog 85 := .of_law (Go.deep_law (m := 3) (by omega) keyT85 tiled85 (by rw [Try.underlying85]))
theorem cells3 : Try.prog.cellsOf 3 = 1 := by kernel_rfl
theorem cells85 : Try.prog.cellsOf 85 = 4 := by kernel_rfl
theorem keyT85' : Try.prog.keyType 85 = true := by kernel_rfl
theorem wf_i64 {x : Int} (h : b64 x) : (Lit.int .i64 x).wf = true := by
 unfold b64 at h
 simp only [Lit.wf, IntKind.min, IntKind.max, Bool.and_eq_true, decide_eq_true_eq]
 simp [IntKind.signed, IntKind.bits]
 omega
theorem lits3 (m : Nat) (x : Int) (h : (Lit.int .i64 x).wf = true) : Try.prog.keyLits (m + 1) 3 [.int .i64 x] = some [.int .i64 x] := by
 simp [Program.keyLits, Try.underlying3, h]
set_option maxRecDepth 100000 in
theorem key_v4 {a b c d : Int} (h0 : b64 a) (h1 : b64 b) (h2 : b64 c) (h3 : b64 d) : ∃ l, keyOf Try.prog 85 (v4 a b c d) = some l := by
 have k0 := wf_i64 h0
 have k1 := wf_i64 h1
 have k2 := wf_i64 h2
 have k3 := wf_i64 h3
 obtain ⟨m, hm⟩ : ∃ m, Try.prog.types.size = m + 1 := ⟨_, rfl⟩
 have hf : (v4 a b c d).formed Try.prog 85 = true := by
  unfold v4 Value.formed
  rw [Try.underlying85]
  simp [cells85]
 unfold keyOf
 rw [Try.underlying85]
 simp only [keyT85', hf, Bool.and_self, if_true, hm]
 unfold Program.keyLits
 rw [Try.underlying85]
 simp [v4, cells85, cells3, Value.cells, lits3, k0, k1, k2, k3]
theorem eqg85 : Try.prog.eqGuardType Try.prog.depth 85 = false := by kernel_rfl
set_option maxRecDepth 100000 in
theorem equal_v4 (w : World) {a b c d a' b' c' d' : Int} (h0 : b64 a) (h1 : b64 b) (h2 : b64 c) (h3 : b64 d) (g0 : b64 a') (g1 : b64 b') (g2 : b64 c') (g3 : b64 d') : (Op.equal 85 (v4 a b c d) (v4 a' b' c' d')).run Try.prog w = .ok (decide (a = a' ∧ b = b' ∧ c = c' ∧ d = d')) w := by
 obtain ⟨l1, k1⟩ := key_v4 h0 h1 h2 h3
 obtain ⟨l2, k2⟩ := key_v4 g0 g1 g2 g3
 obtain ⟨r, hr, hi⟩ := Go.run_equal_deep w (m := 3) (by omega) keyT85 (by rw [Try.underlying85]) k1 k2
 rw [hr]
 congr 1
 have : r = true ↔ (a = a' ∧ b = b' ∧ c = c' ∧ d = d') := hi.trans ⟨fun e => v4_inj (key_law85.inj k1 (e ▸ k2)), fun e => by obtain ⟨rfl, rfl, rfl, rfl⟩ := e; rw [k1] at k2; injection k2⟩
 cases r <;> simp_all
section
variable {ρ : Env} {w : World}
set_option maxRecDepth 100000 in
theorem R_eq4 {e : Option Tmp} {u : TypeId} {x y : Operand} {ty : TypeId} {pos : String} {af : Array Edge} {g : Option (Nat × Bool)} {a b c d a' b' c' d' : Int} (hx : evR ρ x = v4 a b c d) (hy : evR ρ y = v4 a' b' c' d') (h0 : b64 a) (h1 : b64 b) (h2 : b64 c) (h3 : b64 d) (g0 : b64 a') (g1 : b64 b') (g2 : b64 c') (g3 : b64 d') :
  (execOp (evR ρ) ⟨e, .binOp .eql 85 x y u, ty, pos, af, g⟩).run Try.prog w = .ok (.value (.bool (decide (a = a' ∧ b = b' ∧ c = c' ∧ d = d')))) w := by
 have q := equal_v4 w h0 h1 h2 h3 g0 g1 g2 g3
 simp only [execOp, hx, hy]
 unfold v4 at q ⊢
 simp [eqGuard, run_underlying Try.underlying85, eqg85, binOp, q]
end
/-! ### Whether reports are the same -/
def sameR (V E S U : Int) (l : List Co) (V' E' S' U' : Int) (l' : List Co) : Bool := decide (V = V' ∧ E = E' ∧ S = S' ∧ U = U') && decide (l = l')
theorem ext_getD {α : Type} {d : α} {a b : List α} (hl : a.length = b.length) (h : ∀ i, i < a.length → a.getD i d = b.getD i d) : a = b := by
 apply List.ext_getElem hl
 intro i h1 h2
 have := h i h1
 rwa [List.getD_eq_getElem?_getD, List.getD_eq_getElem?_getD, List.getElem?_eq_getElem h1, List.getElem?_eq_getElem h2] at this
theorem cores_ne {l m : List T6} {j : Nat} (h1 : j < l.length) (h2 : j < m.length) (h : ¬ core (tq l j) = core (tq m j)) : cores l ≠ cores m := fun e => h (by
 have a := core_tq h1
 have b := core_tq h2
 rw [e] at a
 exact Option.some.inj (a.symm.trans b))
theorem cores_eq {l m : List T6} (hl : l.length = m.length) (h : ∀ i, i < l.length → core (tq l i) = core (tq m i)) : cores l = cores m := by
 apply List.ext_getElem?
 intro i
 by_cases hi : i < l.length
 ·
  rw [core_tq hi, core_tq (by omega), h i hi]
 ·
  rw [List.getElem?_eq_none (by rw [cores_length]; omega), List.getElem?_eq_none (by rw [cores_length]; omega)]
end Go.Proofs.YtlkjhkennbdbnaaV

set_option linter.unusedVariables false
set_option linter.unusedSimpArgs false
namespace Go.Proofs.YtlkjhkennbdbnaaV
open Go Go.RowKit Go.Proofs

theorem u8_eq {x y : UInt8} (h : ((x.toNat : Nat) : Int) = ((y.toNat : Nat) : Int)) : x = y := UInt8.toNat_inj.1 (by omega)
theorem core_iff {t u : T6} : core t = core u ↔ (t.inp = u.inp ∧ t.pt = u.pt ∧ t.ms = u.ms ∧ t.img = u.img ∧ t.kd = u.kd ∧ t.cd = u.cd) := by
 unfold core; simp only [Prod.mk.injEq]

set_option maxRecDepth 100000 in
theorem eqb_ok (a b : Tx) (A B : Option Addr) (ca cb : Nat) (w : World) (hA : RdW w 1 a.length A (u8s a)) (hB : RdW w 1 b.length B (u8s b)) : Ret Try.prog 46 [.slice A a.length ca, .slice B b.length cb] w fun v w' => v = .bool (decide (a = b)) ∧ Tch N0 w w' := by
 have hAm := hA.2.1
 have hBm := hB.2.1
 have hAr := hA
 have hBr := hB
 refine enter Try.func46 rfl rfl ?_
 refine zQ ?_
 refine zS [(4, .bool false)] ?_
 refine op_nil ?_
 refine W_seq ?_
 refine zQ ?_
 refine zS [(6, .slice A a.length ca), (7, .int .i64 (a.length : Int)), (8, .slice B b.length cb), (9, .int .i64 (b.length : Int)), (10, .bool ((a.length : Int) != (b.length : Int)))] ?_
 refine zO ((a.length : Int) != (b.length : Int)) (fun hc1 => ?_) (fun hc1 => ?_)
 ·
  replace hc1 : (a.length : Int) ≠ (b.length : Int) := (bne_iff_ne.1 hc1)
  refine zQ ?_
  refine zS [(4, .bool false)] ?_
  refine op_nil ?_
  refine W_ret ?_
  exact ⟨_, Res_of (v := .bool false) (by kernel_rfl), ⟨congrArg Value.bool (decide_eq_false (fun e => by subst e; first | omega | (exfalso; omega) | exact absurd rfl (by assumption))).symm, Tch.refl _ _⟩⟩
 ·
  replace hc1 : (a.length : Int) = (b.length : Int) := (bne_eq_false_iff_eq.1 hc1)
  refine W_skip ?_
  refine W_seq ?_
  refine zQ ?_
  refine zS [(11, .slice A a.length ca), (12, .int .i64 (a.length : Int)), (13, .int .i64 0)] ?_
  refine op_nil ?_
  refine W_block ?_
  refine W_loop (fun m ρ w' => ∃ (j : Nat) (ρ0 : Env), ρ = updL ρ0 [(0, .slice A a.length ca), (1, .slice B b.length cb), (12, .int .i64 (a.length : Int)), (13, .int .i64 ((j : Nat) : Int))] ∧ (j ≤ a.length) ∧ (∀ i, i < j → a.getD i 0 = b.getD i 0) ∧ Tch N0 w w' ∧ RdW w' 1 a.length A (u8s a) ∧ RdW w' 1 b.length B (u8s b) ∧ m = a.length + 1 - j) (m := a.length + 1 - 0) ?_ ?_
  ·
   refine ⟨0, _, updL_self (by kernel_rfl), by omega, (fun i h => by omega), Tch.refl _ _, hAr, hBr, rfl⟩
  ·
   rintro m ρ w2 ⟨j, ρ, rfl, hj, hall, hT0, hAr, hBr, rfl⟩
   refine zQ ?_
   refine zS [(14, .bool (decide (((j : Nat) : Int) < (a.length : Int))))] ?_
   refine op_nil ?_
   refine W_seq ?_
   refine zW (decide (((j : Nat) : Int) < (a.length : Int))) (fun hc3 => ?_) (fun hc3 => ?_)
   ·
    replace hc3 : ((j : Nat) : Int) < (a.length : Int) := (of_decide_eq_true hc3)
    refine W_skip ?_
    refine W_seq ?_
    refine W_block ?_
    refine zQ ?_
    refine zS [(15, .int .i64 ((j : Nat) : Int)), (5, .int .i64 ((j : Nat) : Int))] ?_
    refine op_nil ?_
    refine W_seq ?_
    refine W_draw (fun w' => RdW w' 1 a.length A (u8s a) ∧ RdW w' 1 b.length B (u8s b)) (by kernel_rfl) (by kernel_rfl) (by kernel_rfl) fun w4 hT5 hh6 => ?_
    have hT0 := hT0.t0 hT5
    have hAr := hA.tch0 hT0
    have hBr := hB.tch0 hT0
    refine zK [0, 1, 4, 5] #[true, true, false, false, true, true, false, false, false] [(16, .slice A a.length ca), (17, .int .i64 ((j : Nat) : Int)), (20, .slice B b.length cb), (21, .int .i64 ((j : Nat) : Int))] ⟨hAr, hBr⟩ ?_
    refine zV 2 rfl (ptrAt A j) (fun _ ⟨hAr, hBr⟩ => R_indexRd1 (len := a.length) (cap := ca) (k := .i64) (i := ((j : Nat) : Int)) (e := 5) j hAr (by kernel_rfl) (by kernel_rfl) (by kernel_rfl) (by kernel_rfl) rfl (by omega)) ⟨hAr, hBr⟩ ?_
    refine zV 3 rfl (.int .u8 (((a.getD j 0).toNat : Nat) : Int)) (fun _ ⟨hAr, hBr⟩ => R_loadRd (v := .int .u8 (((a.getD j 0).toNat : Nat) : Int)) hAr (by omega) (by kernel_rfl) (by kernel_rfl) (u8s_at (by omega))) ⟨hAr, hBr⟩ ?_
    refine zV 6 rfl (ptrAt B j) (fun _ ⟨hAr, hBr⟩ => R_indexRd1 (len := b.length) (cap := cb) (k := .i64) (i := ((j : Nat) : Int)) (e := 5) j hBr (by kernel_rfl) (by kernel_rfl) (by kernel_rfl) (by kernel_rfl) rfl (by omega)) ⟨hAr, hBr⟩ ?_
    refine zV 7 rfl (.int .u8 (((b.getD j 0).toNat : Nat) : Int)) (fun _ ⟨hAr, hBr⟩ => R_loadRd (v := .int .u8 (((b.getD j 0).toNat : Nat) : Int)) hBr (by omega) (by kernel_rfl) (by kernel_rfl) (u8s_at (by omega))) ⟨hAr, hBr⟩ ?_
    refine zK [8] #[true, true, true, true, true, true, true, true, true] [(24, .bool ((((a.getD j 0).toNat : Nat) : Int) != (((b.getD j 0).toNat : Nat) : Int)))] ⟨hAr, hBr⟩ ?_
    refine d_done (by kernel_rfl) ?_
    refine zW ((((a.getD j 0).toNat : Nat) : Int) != (((b.getD j 0).toNat : Nat) : Int)) (fun hc7 => ?_) (fun hc7 => ?_)
    ·
     replace hc7 : (((a.getD j 0).toNat : Nat) : Int) ≠ (((b.getD j 0).toNat : Nat) : Int) := (bne_iff_ne.1 hc7)
     refine W_seq ?_
     refine zF [(0, .slice A a.length ca), (1, .slice B b.length cb), (5, .int .i64 ((j : Nat) : Int)), (12, .int .i64 (a.length : Int)), (13, .int .i64 ((j : Nat) : Int)), (14, .bool (decide (((j : Nat) : Int) < (a.length : Int)))), (24, .bool ((((a.getD j 0).toNat : Nat) : Int) != (((b.getD j 0).toNat : Nat) : Int)))] fun ρ => ?_
     refine zR ?_
     refine zS [(4, .bool false)] ?_
     refine op_nil ?_
     refine W_ret ?_
     exact ⟨_, Res_of (v := .bool false) (by kernel_rfl), ⟨congrArg Value.bool (decide_eq_false (fun e => by subst e; first | omega | (exfalso; omega) | exact absurd rfl (by assumption))).symm, hT0⟩⟩
    ·
     replace hc7 : (((a.getD j 0).toNat : Nat) : Int) = (((b.getD j 0).toNat : Nat) : Int) := (bne_eq_false_iff_eq.1 hc7)
     refine W_skip ?_
     refine zF [(0, .slice A a.length ca), (1, .slice B b.length cb), (5, .int .i64 ((j : Nat) : Int)), (12, .int .i64 (a.length : Int)), (13, .int .i64 ((j : Nat) : Int)), (14, .bool (decide (((j : Nat) : Int) < (a.length : Int)))), (24, .bool ((((a.getD j 0).toNat : Nat) : Int) != (((b.getD j 0).toNat : Nat) : Int)))] fun ρ => ?_
     refine zR ?_
     refine zS [(25, .int .i64 (IntKind.i64.wrap (((j : Nat) : Int) + 1)))] ?_
     rw [show IntKind.i64.wrap (((j : Nat) : Int) + 1) = ((j : Nat) : Int) + 1 from wrap_i64 (by omega) (by omega)]
     refine fixR (y := ((j + 1 : Nat) : Int)) (by omega) ?_
     refine zS [(13, .int .i64 ((j + 1 : Nat) : Int))] ?_
     refine op_nil ?_
     refine ⟨_, (by omega), j + 1, _, updL_self (by kernel_rfl), (by omega), (fun i h => (Nat.lt_or_eq_of_le (Nat.le_of_lt_succ h)).elim (hall i) (fun e => by rw [e]; exact u8_eq (by omega))), hT0, hAr, hBr, rfl⟩
   ·
    replace hc3 : (a.length : Int) ≤ ((j : Nat) : Int) := (Int.not_lt.1 (of_decide_eq_false hc3))
    refine W_exit ?_
    refine X_hit ?_
    refine zQ ?_
    refine zS [(4, .bool true)] ?_
    refine op_nil ?_
    refine W_ret ?_
    exact ⟨_, Res_of (v := .bool true) (by kernel_rfl), ⟨congrArg Value.bool (decide_eq_true (ext_getD (d := 0) (by omega) (fun i h => hall i (by omega)))).symm, hT0⟩⟩

set_option maxRecDepth 100000 in
theorem eqw_ok (a b : List Nat) (A B : Option Addr) (ca cb : Nat) (w : World) (hA : RdW w 1 a.length A (u64s a)) (hB : RdW w 1 b.length B (u64s b)) : Ret Try.prog 47 [.slice A a.length ca, .slice B b.length cb] w fun v w' => v = .bool (decide (a = b)) ∧ Tch N0 w w' := by
 have hAm := hA.2.1
 have hBm := hB.2.1
 have hAr := hA
 have hBr := hB
 refine enter Try.func47 rfl rfl ?_
 refine zQ ?_
 refine zS [(4, .bool false)] ?_
 refine op_nil ?_
 refine W_seq ?_
 refine zQ ?_
 refine zS [(6, .slice A a.length ca), (7, .int .i64 (a.length : Int)), (8, .slice B b.length cb), (9, .int .i64 (b.length : Int)), (10, .bool ((a.length : Int) != (b.length : Int)))] ?_
 refine zO ((a.length : Int) != (b.length : Int)) (fun hc1 => ?_) (fun hc1 => ?_)
 ·
  replace hc1 : (a.length : Int) ≠ (b.length : Int) := (bne_iff_ne.1 hc1)
  refine zQ ?_
  refine zS [(4, .bool false)] ?_
  refine op_nil ?_
  refine W_ret ?_
  exact ⟨_, Res_of (v := .bool false) (by kernel_rfl), ⟨congrArg Value.bool (decide_eq_false (fun e => by subst e; first | omega | (exfalso; omega) | exact absurd rfl (by assumption))).symm, Tch.refl _ _⟩⟩
 ·
  replace hc1 : (a.length : Int) = (b.length : Int) := (bne_eq_false_iff_eq.1 hc1)
  refine W_skip ?_
  refine W_seq ?_
  refine zQ ?_
  refine zS [(11, .slice A a.length ca), (12, .int .i64 (a.length : Int)), (13, .int .i64 0)] ?_
  refine op_nil ?_
  refine W_block ?_
  refine W_loop (fun m ρ w' => ∃ (j : Nat) (ρ0 : Env), ρ = updL ρ0 [(0, .slice A a.length ca), (1, .slice B b.length cb), (12, .int .i64 (a.length : Int)), (13, .int .i64 ((j : Nat) : Int))] ∧ (j ≤ a.length) ∧ (∀ i, i < j → a.getD i 0 = b.getD i 0) ∧ Tch N0 w w' ∧ RdW w' 1 a.length A (u64s a) ∧ RdW w' 1 b.length B (u64s b) ∧ m = a.length + 1 - j) (m := a.length + 1 - 0) ?_ ?_
  ·
   refine ⟨0, _, updL_self (by kernel_rfl), by omega, (fun i h => by omega), Tch.refl _ _, hAr, hBr, rfl⟩
  ·
   rintro m ρ w2 ⟨j, ρ, rfl, hj, hall, hT0, hAr, hBr, rfl⟩
   refine zQ ?_
   refine zS [(14, .bool (decide (((j : Nat) : Int) < (a.length : Int))))] ?_
   refine op_nil ?_
   refine W_seq ?_
   refine zW (decide (((j : Nat) : Int) < (a.length : Int))) (fun hc3 => ?_) (fun hc3 => ?_)
   ·
    replace hc3 : ((j : Nat) : Int) < (a.length : Int) := (of_decide_eq_true hc3)
    refine W_skip ?_
    refine W_seq ?_
    refine W_block ?_
    refine zQ ?_
    refine zS [(15, .int .i64 ((j : Nat) : Int)), (5, .int .i64 ((j : Nat) : Int))] ?_
    refine op_nil ?_
    refine W_seq ?_
    refine W_draw (fun w' => RdW w' 1 a.length A (u64s a) ∧ RdW w' 1 b.length B (u64s b)) (by kernel_rfl) (by kernel_rfl) (by kernel_rfl) fun w4 hT5 hh6 => ?_
    have hT0 := hT0.t0 hT5
    have hAr := hA.tch0 hT0
    have hBr := hB.tch0 hT0
    refine zK [0, 1, 4, 5] #[true, true, false, false, true, true, false, false, false] [(16, .slice A a.length ca), (17, .int .i64 ((j : Nat) : Int)), (20, .slice B b.length cb), (21, .int .i64 ((j : Nat) : Int))] ⟨hAr, hBr⟩ ?_
    refine zV 2 rfl (ptrAt A j) (fun _ ⟨hAr, hBr⟩ => R_indexRd1 (len := a.length) (cap := ca) (k := .i64) (i := ((j : Nat) : Int)) (e := 44) j hAr (by kernel_rfl) (by kernel_rfl) (by kernel_rfl) (by kernel_rfl) rfl (by omega)) ⟨hAr, hBr⟩ ?_
    refine zV 3 rfl (.int .u64 ((a.getD j 0 : Nat) : Int)) (fun _ ⟨hAr, hBr⟩ => R_loadRd (v := .int .u64 ((a.getD j 0 : Nat) : Int)) hAr (by omega) (by kernel_rfl) (by kernel_rfl) (u64s_at (by omega))) ⟨hAr, hBr⟩ ?_
    refine zV 6 rfl (ptrAt B j) (fun _ ⟨hAr, hBr⟩ => R_indexRd1 (len := b.length) (cap := cb) (k := .i64) (i := ((j : Nat) : Int)) (e := 44) j hBr (by kernel_rfl) (by kernel_rfl) (by kernel_rfl) (by kernel_rfl) rfl (by omega)) ⟨hAr, hBr⟩ ?_
    refine zV 7 rfl (.int .u64 ((b.getD j 0 : Nat) : Int)) (fun _ ⟨hAr, hBr⟩ => R_loadRd (v := .int .u64 ((b.getD j 0 : Nat) : Int)) hBr (by omega) (by kernel_rfl) (by kernel_rfl) (u64s_at (by omega))) ⟨hAr, hBr⟩ ?_
    refine zK [8] #[true, true, true, true, true, true, true, true, true] [(24, .bool (((a.getD j 0 : Nat) : Int) != ((b.getD j 0 : Nat) : Int)))] ⟨hAr, hBr⟩ ?_
    refine d_done (by kernel_rfl) ?_
    refine zW (((a.getD j 0 : Nat) : Int) != ((b.getD j 0 : Nat) : Int)) (fun hc7 => ?_) (fun hc7 => ?_)
    ·
     replace hc7 : ((a.getD j 0 : Nat) : Int) ≠ ((b.getD j 0 : Nat) : Int) := (bne_iff_ne.1 hc7)
     refine W_seq ?_
     refine zF [(0, .slice A a.length ca), (1, .slice B b.length cb), (5, .int .i64 ((j : Nat) : Int)), (12, .int .i64 (a.length : Int)), (13, .int .i64 ((j : Nat) : Int)), (14, .bool (decide (((j : Nat) : Int) < (a.length : Int)))), (24, .bool (((a.getD j 0 : Nat) : Int) != ((b.getD j 0 : Nat) : Int)))] fun ρ => ?_
     refine zR ?_
     refine zS [(4, .bool false)] ?_
     refine op_nil ?_
     refine W_ret ?_
     exact ⟨_, Res_of (v := .bool false) (by kernel_rfl), ⟨congrArg Value.bool (decide_eq_false (fun e => by subst e; first | omega | (exfalso; omega) | exact absurd rfl (by assumption))).symm, hT0⟩⟩
    ·
     replace hc7 : ((a.getD j 0 : Nat) : Int) = ((b.getD j 0 : Nat) : Int) := (bne_eq_false_iff_eq.1 hc7)
     refine W_skip ?_
     refine zF [(0, .slice A a.length ca), (1, .slice B b.length cb), (5, .int .i64 ((j : Nat) : Int)), (12, .int .i64 (a.length : Int)), (13, .int .i64 ((j : Nat) : Int)), (14, .bool (decide (((j : Nat) : Int) < (a.length : Int)))), (24, .bool (((a.getD j 0 : Nat) : Int) != ((b.getD j 0 : Nat) : Int)))] fun ρ => ?_
     refine zR ?_
     refine zS [(25, .int .i64 (IntKind.i64.wrap (((j : Nat) : Int) + 1)))] ?_
     rw [show IntKind.i64.wrap (((j : Nat) : Int) + 1) = ((j : Nat) : Int) + 1 from wrap_i64 (by omega) (by omega)]
     refine fixR (y := ((j + 1 : Nat) : Int)) (by omega) ?_
     refine zS [(13, .int .i64 ((j + 1 : Nat) : Int))] ?_
     refine op_nil ?_
     refine ⟨_, (by omega), j + 1, _, updL_self (by kernel_rfl), (by omega), (fun i h => (Nat.lt_or_eq_of_le (Nat.le_of_lt_succ h)).elim (hall i) (fun e => by rw [e]; exact by omega)), hT0, hAr, hBr, rfl⟩
   ·
    replace hc3 : (a.length : Int) ≤ ((j : Nat) : Int) := (Int.not_lt.1 (of_decide_eq_false hc3))
    refine W_exit ?_
    refine X_hit ?_
    refine zQ ?_
    refine zS [(4, .bool true)] ?_
    refine op_nil ?_
    refine W_ret ?_
    exact ⟨_, Res_of (v := .bool true) (by kernel_rfl), ⟨congrArg Value.bool (decide_eq_true (ext_getD (d := 0) (by omega) (fun i h => hall i (by omega)))).symm, hT0⟩⟩

set_option maxRecDepth 100000 in
theorem words_ok (a b : List Nat) (A B : Option Addr) (ca cb : Nat) (w : World) (hA : RdW w 1 a.length A (u64s a)) (hB : RdW w 1 b.length B (u64s b)) : Ret Try.prog 59 [.slice A a.length ca, .slice B b.length cb] w fun v w' => v = .bool (decide (a = b)) ∧ Tch N0 w w' := by
 have hAm := hA.2.1
 have hBm := hB.2.1
 have hAr := hA
 have hBr := hB
 refine enter Try.func59 rfl rfl ?_
 refine zQ ?_
 refine zS [(4, .bool false)] ?_
 refine op_nil ?_
 refine W_seq ?_
 refine zQ ?_
 refine zS [(6, .slice A a.length ca), (7, .int .i64 (a.length : Int)), (8, .slice B b.length cb), (9, .int .i64 (b.length : Int)), (10, .bool ((a.length : Int) != (b.length : Int)))] ?_
 refine zO ((a.length : Int) != (b.length : Int)) (fun hc1 => ?_) (fun hc1 => ?_)
 ·
  replace hc1 : (a.length : Int) ≠ (b.length : Int) := (bne_iff_ne.1 hc1)
  refine zQ ?_
  refine zS [(4, .bool false)] ?_
  refine op_nil ?_
  refine W_ret ?_
  exact ⟨_, Res_of (v := .bool false) (by kernel_rfl), ⟨congrArg Value.bool (decide_eq_false (fun e => by subst e; first | omega | (exfalso; omega) | exact absurd rfl (by assumption))).symm, Tch.refl _ _⟩⟩
 ·
  replace hc1 : (a.length : Int) = (b.length : Int) := (bne_eq_false_iff_eq.1 hc1)
  refine W_skip ?_
  refine W_seq ?_
  refine zQ ?_
  refine zS [(5, .int .i64 0)] ?_
  refine op_nil ?_
  refine W_block ?_
  refine W_loop (fun m ρ w' => ∃ (j : Nat) (ρ0 : Env), ρ = updL ρ0 [(0, .slice A a.length ca), (1, .slice B b.length cb), (5, .int .i64 ((j : Nat) : Int))] ∧ (j ≤ a.length) ∧ (∀ i, i < j → a.getD i 0 = b.getD i 0) ∧ Tch N0 w w' ∧ RdW w' 1 a.length A (u64s a) ∧ RdW w' 1 b.length B (u64s b) ∧ m = a.length + 1 - j) (m := a.length + 1 - 0) ?_ ?_
  ·
   refine ⟨0, _, updL_self (by kernel_rfl), by omega, (fun i h => by omega), Tch.refl _ _, hAr, hBr, rfl⟩
  ·
   rintro m ρ w2 ⟨j, ρ, rfl, hj, hall, hT0, hAr, hBr, rfl⟩
   refine W_seq ?_
   refine zQ ?_
   refine zS [(11, .int .i64 ((j : Nat) : Int)), (12, .slice A a.length ca), (13, .int .i64 (a.length : Int)), (14, .bool (decide (((j : Nat) : Int) < (a.length : Int))))] ?_
   refine zO (decide (((j : Nat) : Int) < (a.length : Int))) (fun hc3 => ?_) (fun hc3 => ?_)
   ·
    replace hc3 : ((j : Nat) : Int) < (a.length : Int) := (of_decide_eq_true hc3)
    refine W_skip ?_
    refine W_seq ?_
    refine W_block ?_
    refine W_seq ?_
    refine W_draw (fun w' => RdW w' 1 a.length A (u64s a) ∧ RdW w' 1 b.length B (u64s b)) (by kernel_rfl) (by kernel_rfl) (by kernel_rfl) fun w4 hT5 hh6 => ?_
    have hT0 := hT0.t0 hT5
    have hAr := hA.tch0 hT0
    have hBr := hB.tch0 hT0
    refine zK [0, 1, 4, 5] #[true, true, false, false, true, true, false, false, false] [(17, .slice A a.length ca), (18, .int .i64 ((j : Nat) : Int)), (21, .slice B b.length cb), (22, .int .i64 ((j : Nat) : Int))] ⟨hAr, hBr⟩ ?_
    refine zV 2 rfl (ptrAt A j) (fun _ ⟨hAr, hBr⟩ => R_indexRd1 (len := a.length) (cap := ca) (k := .i64) (i := ((j : Nat) : Int)) (e := 44) j hAr (by kernel_rfl) (by kernel_rfl) (by kernel_rfl) (by kernel_rfl) rfl (by omega)) ⟨hAr, hBr⟩ ?_
    refine zV 3 rfl (.int .u64 ((a.getD j 0 : Nat) : Int)) (fun _ ⟨hAr, hBr⟩ => R_loadRd (v := .int .u64 ((a.getD j 0 : Nat) : Int)) hAr (by omega) (by kernel_rfl) (by kernel_rfl) (u64s_at (by omega))) ⟨hAr, hBr⟩ ?_
    refine zV 6 rfl (ptrAt B j) (fun _ ⟨hAr, hBr⟩ => R_indexRd1 (len := b.length) (cap := cb) (k := .i64) (i := ((j : Nat) : Int)) (e := 44) j hBr (by kernel_rfl) (by kernel_rfl) (by kernel_rfl) (by kernel_rfl) rfl (by omega)) ⟨hAr, hBr⟩ ?_
    refine zV 7 rfl (.int .u64 ((b.getD j 0 : Nat) : Int)) (fun _ ⟨hAr, hBr⟩ => R_loadRd (v := .int .u64 ((b.getD j 0 : Nat) : Int)) hBr (by omega) (by kernel_rfl) (by kernel_rfl) (u64s_at (by omega))) ⟨hAr, hBr⟩ ?_
    refine zK [8] #[true, true, true, true, true, true, true, true, true] [(25, .bool (((a.getD j 0 : Nat) : Int) != ((b.getD j 0 : Nat) : Int)))] ⟨hAr, hBr⟩ ?_
    refine d_done (by kernel_rfl) ?_
    refine zW (((a.getD j 0 : Nat) : Int) != ((b.getD j 0 : Nat) : Int)) (fun hc7 => ?_) (fun hc7 => ?_)
    ·
     replace hc7 : ((a.getD j 0 : Nat) : Int) ≠ ((b.getD j 0 : Nat) : Int) := (bne_iff_ne.1 hc7)
     refine W_seq ?_
     refine zF [(0, .slice A a.length ca), (1, .slice B b.length cb), (5, .int .i64 ((j : Nat) : Int)), (14, .bool (decide (((j : Nat) : Int) < (a.length : Int)))), (25, .bool (((a.getD j 0 : Nat) : Int) != ((b.getD j 0 : Nat) : Int)))] fun ρ => ?_
     refine zR ?_
     refine zS [(4, .bool false)] ?_
     refine op_nil ?_
     refine W_ret ?_
     exact ⟨_, Res_of (v := .bool false) (by kernel_rfl), ⟨congrArg Value.bool (decide_eq_false (fun e => by subst e; first | omega | (exfalso; omega) | exact absurd rfl (by assumption))).symm, hT0⟩⟩
    ·
     replace hc7 : ((a.getD j 0 : Nat) : Int) = ((b.getD j 0 : Nat) : Int) := (bne_eq_false_iff_eq.1 hc7)
     refine W_skip ?_
     refine zF [(0, .slice A a.length ca), (1, .slice B b.length cb), (5, .int .i64 ((j : Nat) : Int)), (14, .bool (decide (((j : Nat) : Int) < (a.length : Int)))), (25, .bool (((a.getD j 0 : Nat) : Int) != ((b.getD j 0 : Nat) : Int)))] fun ρ => ?_
     refine zR ?_
     refine zS [(15, .int .i64 ((j : Nat) : Int)), (16, .int .i64 (IntKind.i64.wrap (((j : Nat) : Int) + 1)))] ?_
     rw [show IntKind.i64.wrap (((j : Nat) : Int) + 1) = ((j : Nat) : Int) + 1 from wrap_i64 (by omega) (by omega)]
     refine fixR (y := ((j + 1 : Nat) : Int)) (by omega) ?_
     refine zS [(5, .int .i64 ((j + 1 : Nat) : Int))] ?_
     refine op_nil ?_
     refine ⟨_, (by omega), j + 1, _, updL_self (by kernel_rfl), (by omega), (fun i h => (Nat.lt_or_eq_of_le (Nat.le_of_lt_succ h)).elim (hall i) (fun e => by rw [e]; exact by omega)), hT0, hAr, hBr, rfl⟩
   ·
    replace hc3 : (a.length : Int) ≤ ((j : Nat) : Int) := (Int.not_lt.1 (of_decide_eq_false hc3))
    refine W_exit ?_
    refine X_hit ?_
    refine zQ ?_
    refine zS [(4, .bool true)] ?_
    refine op_nil ?_
    refine W_ret ?_
    exact ⟨_, Res_of (v := .bool true) (by kernel_rfl), ⟨congrArg Value.bool (decide_eq_true (ext_getD (d := 0) (by omega) (fun i h => hall i (by omega)))).symm, hT0⟩⟩

set_option maxRecDepth 100000 in
theorem vof_ok (t : T6) (w : World) : Ret Try.prog 45 [.agg #[.slice t.iA t.inp.length t.iC, .int .i64 t.pt, .int .i64 t.ms, .slice t.gA t.img.length t.gC, .int .i64 t.kd, .int .i64 t.cd]] w fun v w' => v = v4 t.pt t.ms t.kd t.cd ∧ Tch N0 w w' := by
 refine enter Try.func45 rfl rfl ?_
 refine zQ ?_
 refine st (by rfl) (S_new (v := .pointer (some ⟨w.heap.size, 0, none⟩)) (ob := .cells #[.slice t.iA t.inp.length t.iC, .int .i64 t.pt, .int .i64 t.ms, .slice t.gA t.img.length t.gC, .int .i64 t.kd, .int .i64 t.cd] 43) (by kernel_rfl) fun w1 hT2 hs3 hB4 => ?_)
 replace hB4 : Blk w1 (w.heap.size) 43 [.slice t.iA t.inp.length t.iC, .int .i64 t.pt, .int .i64 t.ms, .slice t.gA t.img.length t.gC, .int .i64 t.kd, .int .i64 t.cd] := hB4
 have hT0 := hT2
 have hz9 := hT0.size
 have lt10 := hB4.lt
 refine st (by rfl) (S_new (v := .pointer (some ⟨w1.heap.size, 0, none⟩)) (ob := .cells #[.int .i64 0, .int .i64 0, .int .i64 0, .int .i64 0] 85) (by kernel_rfl) fun w5 hT6 hs7 hB8 => ?_)
 replace hB8 : Blk w5 (w1.heap.size) 85 [.int .i64 0, .int .i64 0, .int .i64 0, .int .i64 0] := hB8
 have hT0 := hT0.t0 hT6
 have hB4 := hB4.tch0 hT6
 refine op_nil ?_
 refine zQ ?_
 refine zS [(3, .pointer (some ⟨w.heap.size, 1, none⟩))] ?_
 refine zL (.int .i64 t.pt) ((hB4.cell 1).trans rfl) ?_
 refine zS [(5, .pointer (some ⟨w.heap.size, 2, none⟩))] ?_
 refine zL (.int .i64 t.ms) ((hB4.cell 2).trans rfl) ?_
 refine zS [(7, .pointer (some ⟨w.heap.size, 4, none⟩))] ?_
 refine zL (.int .i64 t.kd) ((hB4.cell 4).trans rfl) ?_
 refine zS [(9, .pointer (some ⟨w.heap.size, 5, none⟩))] ?_
 refine zL (.int .i64 t.cd) ((hB4.cell 5).trans rfl) ?_
 refine zS [(11, .agg #[.int .i64 t.pt, .int .i64 t.ms, .int .i64 t.kd, .int .i64 t.cd])] ?_
 refine st (by rfl) (S_storeA (b := w1.heap.size) (j := 0) (cs := [.int .i64 t.pt, .int .i64 t.ms, .int .i64 t.kd, .int .i64 t.cd]) (by kernel_rfl) (by kernel_rfl) (by kernel_rfl) (by simp [oneV]) hB8 (by simp) fun w11 hT12 hs13 hB8' => ?_)
 have hT0 := (hT0).then hT12 (fun c e => by have : c = w1.heap.size := e; omega)
 have hB4 := hB4.tch hT12 (hB4.ne hB8 (by decide))
 replace hB8 : Blk w11 w1.heap.size 85 [.int .i64 t.pt, .int .i64 t.ms, .int .i64 t.kd, .int .i64 t.cd] := hB8'
 refine op_nil ?_
 refine W_ret ?_
 exact ⟨_, Res_cell (b := w1.heap.size) (cs := [.int .i64 t.pt, .int .i64 t.ms, .int .i64 t.kd, .int .i64 t.cd]) (by rfl) (by kernel_rfl) (by kernel_rfl) hB8 (by kernel_rfl) (by kernel_rfl), ⟨rfl, hT0⟩⟩

set_option maxRecDepth 100000 in
set_option maxHeartbeats 1000000 in
theorem rsame_ok (t u : T6) (w : World) (hT : TmW w t) (hU : TmW w u) : Ret Try.prog 48 [.agg #[.slice t.iA t.inp.length t.iC, .int .i64 t.pt, .int .i64 t.ms, .slice t.gA t.img.length t.gC, .int .i64 t.kd, .int .i64 t.cd], .agg #[.slice u.iA u.inp.length u.iC, .int .i64 u.pt, .int .i64 u.ms, .slice u.gA u.img.length u.gC, .int .i64 u.kd, .int .i64 u.cd]] w fun v w' => v = .bool (decide (core t = core u)) ∧ Tch N0 w w' := by
 refine enter Try.func48 rfl rfl ?_
 refine zQ ?_
 refine st (by rfl) (S_new (v := .pointer (some ⟨w.heap.size, 0, none⟩)) (ob := .cells #[.slice t.iA t.inp.length t.iC, .int .i64 t.pt, .int .i64 t.ms, .slice t.gA t.img.length t.gC, .int .i64 t.kd, .int .i64 t.cd] 43) (by kernel_rfl) fun w1 hT2 hs3 hB4 => ?_)
 replace hB4 : Blk w1 (w.heap.size) 43 [.slice t.iA t.inp.length t.iC, .int .i64 t.pt, .int .i64 t.ms, .slice t.gA t.img.length t.gC, .int .i64 t.kd, .int .i64 t.cd] := hB4
 have hT0 := hT2
 have hz9 := hT0.size
 have lt10 := hB4.lt
 refine st (by rfl) (S_new (v := .pointer (some ⟨w1.heap.size, 0, none⟩)) (ob := .cells #[.slice u.iA u.inp.length u.iC, .int .i64 u.pt, .int .i64 u.ms, .slice u.gA u.img.length u.gC, .int .i64 u.kd, .int .i64 u.cd] 43) (by kernel_rfl) fun w5 hT6 hs7 hB8 => ?_)
 replace hB8 : Blk w5 (w1.heap.size) 43 [.slice u.iA u.inp.length u.iC, .int .i64 u.pt, .int .i64 u.ms, .slice u.gA u.img.length u.gC, .int .i64 u.kd, .int .i64 u.cd] := hB8
 have hT0 := hT0.t0 hT6
 have hB4 := hB4.tch0 hT6
 refine zS [(4, .bool false)] ?_
 refine op_nil ?_
 refine zQ ?_
 refine zS [(5, .pointer (some ⟨w.heap.size, 0, none⟩))] ?_
 refine zL (.slice t.iA t.inp.length t.iC) ((hB4.cell 0).trans rfl) ?_
 refine stv (v := .string (bsT t.inp)) (by rfl) (R_b2sR (len := t.inp.length) (cap := t.iC) (by kernel_rfl) (by kernel_rfl) (by kernel_rfl) (by kernel_rfl) (hT.ri.tch0 hT0)) ?_
 refine zS [(8, .pointer (some ⟨w1.heap.size, 0, none⟩))] ?_
 refine zL (.slice u.iA u.inp.length u.iC) ((hB8.cell 0).trans rfl) ?_
 refine stv (v := .string (bsT u.inp)) (by rfl) (R_b2sR (len := u.inp.length) (cap := u.iC) (by kernel_rfl) (by kernel_rfl) (by kernel_rfl) (by kernel_rfl) (hU.ri.tch0 hT0)) ?_
 refine stv (v := .bool (decide (t.inp = u.inp))) (by rfl) (R_seq (a := t.inp) (b := u.inp) (by kernel_rfl) (by kernel_rfl)) ?_
 refine zS [(12, .bool (decide (t.inp = u.inp)))] ?_
 cases hb11 : decide (t.inp = u.inp)
 ·
  replace hb11 : ¬ (t.inp = u.inp) := (of_decide_eq_false hb11)
  refine zS [(13, undef), (14, undef), (15, undef), (16, undef), (17, undef), (18, .bool false), (19, .bool false), (20, undef), (21, undef), (22, undef), (23, undef), (24, undef), (25, .bool false), (26, .bool false), (27, undef), (28, undef), (29, undef), (30, undef), (31, undef), (32, .bool false), (33, .bool false), (34, undef), (35, undef), (36, undef)] ?_
  refine zS [(37, undef), (38, undef), (39, .bool false), (40, .bool false), (41, undef), (42, undef), (43, undef), (44, undef), (45, undef), (46, .bool false), (4, .bool false)] ?_
  refine op_nil ?_
  refine W_ret ?_
  exact ⟨_, Res_of (v := .bool false) (by kernel_rfl), ⟨congrArg Value.bool (decide_eq_false (fun e => by have q := core_iff.1 e; obtain ⟨q1, q2, q3, q4, q5, q6⟩ := q; first | exact absurd q1 (by assumption) | exact absurd q4 (by assumption) | omega)).symm, hT0⟩⟩
 ·
  replace hb11 : t.inp = u.inp := (of_decide_eq_true hb11)
  refine zS [(13, .pointer (some ⟨w.heap.size, 1, none⟩))] ?_
  refine zL (.int .i64 t.pt) ((hB4.cell 1).trans rfl) ?_
  refine zS [(15, .pointer (some ⟨w1.heap.size, 1, none⟩))] ?_
  refine zL (.int .i64 u.pt) ((hB8.cell 1).trans rfl) ?_
  refine zS [(17, .bool (t.pt == u.pt)), (18, .bool (t.pt == u.pt)), (19, .bool (t.pt == u.pt))] ?_
  cases hb12 : t.pt == u.pt
  ·
   replace hb12 : t.pt ≠ u.pt := (ne_of_beq_false hb12)
   refine zS [(20, undef), (21, undef), (22, undef), (23, undef), (24, undef), (25, .bool false), (26, .bool false), (27, undef), (28, undef), (29, undef), (30, undef), (31, undef), (32, .bool false), (33, .bool false), (34, undef), (35, undef), (36, undef), (37, undef), (38, undef), (39, .bool false), (40, .bool false), (41, undef), (42, undef), (43, undef)] ?_
   refine zS [(44, undef), (45, undef), (46, .bool false), (4, .bool false)] ?_
   refine op_nil ?_
   refine W_ret ?_
   exact ⟨_, Res_of (v := .bool false) (by kernel_rfl), ⟨congrArg Value.bool (decide_eq_false (fun e => by have q := core_iff.1 e; obtain ⟨q1, q2, q3, q4, q5, q6⟩ := q; first | exact absurd q1 (by assumption) | exact absurd q4 (by assumption) | omega)).symm, hT0⟩⟩
  ·
   replace hb12 : t.pt = u.pt := (eq_of_beq hb12)
   refine zS [(20, .pointer (some ⟨w.heap.size, 2, none⟩))] ?_
   refine zL (.int .i64 t.ms) ((hB4.cell 2).trans rfl) ?_
   refine zS [(22, .pointer (some ⟨w1.heap.size, 2, none⟩))] ?_
   refine zL (.int .i64 u.ms) ((hB8.cell 2).trans rfl) ?_
   refine zS [(24, .bool (t.ms == u.ms)), (25, .bool (t.ms == u.ms)), (26, .bool (t.ms == u.ms))] ?_
   cases hb13 : t.ms == u.ms
   ·
    replace hb13 : t.ms ≠ u.ms := (ne_of_beq_false hb13)
    refine zS [(27, undef), (28, undef), (29, undef), (30, undef), (31, undef), (32, .bool false), (33, .bool false), (34, undef), (35, undef), (36, undef), (37, undef), (38, undef), (39, .bool false), (40, .bool false), (41, undef), (42, undef), (43, undef), (44, undef), (45, undef), (46, .bool false), (4, .bool false)] ?_
    refine op_nil ?_
    refine W_ret ?_
    exact ⟨_, Res_of (v := .bool false) (by kernel_rfl), ⟨congrArg Value.bool (decide_eq_false (fun e => by have q := core_iff.1 e; obtain ⟨q1, q2, q3, q4, q5, q6⟩ := q; first | exact absurd q1 (by assumption) | exact absurd q4 (by assumption) | omega)).symm, hT0⟩⟩
   ·
    replace hb13 : t.ms = u.ms := (eq_of_beq hb13)
    refine zS [(27, .pointer (some ⟨w.heap.size, 3, none⟩))] ?_
    refine zL (.slice t.gA t.img.length t.gC) ((hB4.cell 3).trans rfl) ?_
    refine zS [(29, .pointer (some ⟨w1.heap.size, 3, none⟩))] ?_
    refine zL (.slice u.gA u.img.length u.gC) ((hB8.cell 3).trans rfl) ?_
    refine zC (words_ok t.img u.img t.gA u.gA t.gC u.gC _ (hT.rg.tch0 hT0) (hU.rg.tch0 hT0)) ?_
    rintro _ w14 ⟨rfl, hT15⟩
    have hT0 := hT0.t0 hT15
    have hB4 := hB4.tch0 hT15
    have hB8 := hB8.tch0 hT15
    refine zS [(32, .bool (decide (t.img = u.img))), (33, .bool (decide (t.img = u.img)))] ?_
    cases hb16 : decide (t.img = u.img)
    ·
     replace hb16 : ¬ (t.img = u.img) := (of_decide_eq_false hb16)
     refine zS [(34, undef), (35, undef), (36, undef), (37, undef), (38, undef), (39, .bool false), (40, .bool false), (41, undef), (42, undef), (43, undef), (44, undef), (45, undef), (46, .bool false), (4, .bool false)] ?_
     refine op_nil ?_
     refine W_ret ?_
     exact ⟨_, Res_of (v := .bool false) (by kernel_rfl), ⟨congrArg Value.bool (decide_eq_false (fun e => by have q := core_iff.1 e; obtain ⟨q1, q2, q3, q4, q5, q6⟩ := q; first | exact absurd q1 (by assumption) | exact absurd q4 (by assumption) | omega)).symm, hT0⟩⟩
    ·
     replace hb16 : (t.img = u.img) := (of_decide_eq_true hb16)
     refine zS [(34, .pointer (some ⟨w.heap.size, 4, none⟩))] ?_
     refine zL (.int .i64 t.kd) ((hB4.cell 4).trans rfl) ?_
     refine zS [(36, .pointer (some ⟨w1.heap.size, 4, none⟩))] ?_
     refine zL (.int .i64 u.kd) ((hB8.cell 4).trans rfl) ?_
     refine zS [(38, .bool (t.kd == u.kd)), (39, .bool (t.kd == u.kd)), (40, .bool (t.kd == u.kd))] ?_
     cases hb17 : t.kd == u.kd
     ·
      replace hb17 : t.kd ≠ u.kd := (ne_of_beq_false hb17)
      refine zS [(41, undef), (42, undef), (43, undef), (44, undef), (45, undef), (46, .bool false), (4, .bool false)] ?_
      refine op_nil ?_
      refine W_ret ?_
      exact ⟨_, Res_of (v := .bool false) (by kernel_rfl), ⟨congrArg Value.bool (decide_eq_false (fun e => by have q := core_iff.1 e; obtain ⟨q1, q2, q3, q4, q5, q6⟩ := q; first | exact absurd q1 (by assumption) | exact absurd q4 (by assumption) | omega)).symm, hT0⟩⟩
     ·
      replace hb17 : t.kd = u.kd := (eq_of_beq hb17)
      refine zS [(41, .pointer (some ⟨w.heap.size, 5, none⟩))] ?_
      refine zL (.int .i64 t.cd) ((hB4.cell 5).trans rfl) ?_
      refine zS [(43, .pointer (some ⟨w1.heap.size, 5, none⟩))] ?_
      refine zL (.int .i64 u.cd) ((hB8.cell 5).trans rfl) ?_
      refine zS [(45, .bool (t.cd == u.cd)), (46, .bool (t.cd == u.cd)), (4, .bool (t.cd == u.cd))] ?_
      refine op_nil ?_
      refine W_ret ?_
      exact ⟨_, Res_of (v := .bool (t.cd == u.cd)) (by kernel_rfl), ⟨congrArg Value.bool (by rw [Bool.eq_iff_iff, beq_iff_eq, decide_eq_true_eq, core_iff]; exact ⟨fun h => ⟨by assumption, by omega, by omega, by assumption, by omega, by omega⟩, fun h => h.2.2.2.2.2⟩), hT0⟩⟩

set_option maxRecDepth 100000 in
set_option maxHeartbeats 1000000 in
theorem vsame_ok (t u : T6) (w : World) (hT : TmW w t) (hU : TmW w u) : Ret Try.prog 32 [.agg #[.slice t.iA t.inp.length t.iC, .int .i64 t.pt, .int .i64 t.ms, .slice t.gA t.img.length t.gC, .int .i64 t.kd, .int .i64 t.cd], .agg #[.slice u.iA u.inp.length u.iC, .int .i64 u.pt, .int .i64 u.ms, .slice u.gA u.img.length u.gC, .int .i64 u.kd, .int .i64 u.cd]] w fun v w' => v = .bool (decide (core t = core u)) ∧ Tch N0 w w' := by
 refine enter Try.func32 rfl rfl ?_
 refine zQ ?_
 refine st (by rfl) (S_new (v := .pointer (some ⟨w.heap.size, 0, none⟩)) (ob := .cells #[.slice t.iA t.inp.length t.iC, .int .i64 t.pt, .int .i64 t.ms, .slice t.gA t.img.length t.gC, .int .i64 t.kd, .int .i64 t.cd] 43) (by kernel_rfl) fun w1 hT2 hs3 hB4 => ?_)
 replace hB4 : Blk w1 (w.heap.size) 43 [.slice t.iA t.inp.length t.iC, .int .i64 t.pt, .int .i64 t.ms, .slice t.gA t.img.length t.gC, .int .i64 t.kd, .int .i64 t.cd] := hB4
 have hT0 := hT2
 have hz9 := hT0.size
 have lt10 := hB4.lt
 refine st (by rfl) (S_new (v := .pointer (some ⟨w1.heap.size, 0, none⟩)) (ob := .cells #[.slice u.iA u.inp.length u.iC, .int .i64 u.pt, .int .i64 u.ms, .slice u.gA u.img.length u.gC, .int .i64 u.kd, .int .i64 u.cd] 43) (by kernel_rfl) fun w5 hT6 hs7 hB8 => ?_)
 replace hB8 : Blk w5 (w1.heap.size) 43 [.slice u.iA u.inp.length u.iC, .int .i64 u.pt, .int .i64 u.ms, .slice u.gA u.img.length u.gC, .int .i64 u.kd, .int .i64 u.cd] := hB8
 have hT0 := hT0.t0 hT6
 have hB4 := hB4.tch0 hT6
 refine zS [(4, .bool false)] ?_
 refine op_nil ?_
 refine W_seq ?_
 refine W_draw (fun w' => Blk w' (w.heap.size) 43 [.slice t.iA t.inp.length t.iC, .int .i64 t.pt, .int .i64 t.ms, .slice t.gA t.img.length t.gC, .int .i64 t.kd, .int .i64 t.cd] ∧ Blk w' (w1.heap.size) 43 [.slice u.iA u.inp.length u.iC, .int .i64 u.pt, .int .i64 u.ms, .slice u.gA u.img.length u.gC, .int .i64 u.kd, .int .i64 u.cd]) (by kernel_rfl) (by kernel_rfl) (by kernel_rfl) fun w11 hT12 hh13 => ?_
 have hT0 := hT0.t0 hT12
 have hB4 := hB4.tch0 hT12
 have hB8 := hB8.tch0 hT12
 refine zV 0 rfl (.agg #[.slice t.iA t.inp.length t.iC, .int .i64 t.pt, .int .i64 t.ms, .slice t.gA t.img.length t.gC, .int .i64 t.kd, .int .i64 t.cd]) (fun _ ⟨hB4, hB8⟩ => R_loadA [.slice t.iA t.inp.length t.iC, .int .i64 t.pt, .int .i64 t.ms, .slice t.gA t.img.length t.gC, .int .i64 t.kd, .int .i64 t.cd] (by kernel_rfl) (by kernel_rfl) (by kernel_rfl) (fun k u hk => by rw [hB4.cell]; exact get_part _ 0 _ k u rfl hk)) ⟨hB4, hB8⟩ ?_
 refine zV 2 rfl (.agg #[.slice u.iA u.inp.length u.iC, .int .i64 u.pt, .int .i64 u.ms, .slice u.gA u.img.length u.gC, .int .i64 u.kd, .int .i64 u.cd]) (fun _ ⟨hB4, hB8⟩ => R_loadA [.slice u.iA u.inp.length u.iC, .int .i64 u.pt, .int .i64 u.ms, .slice u.gA u.img.length u.gC, .int .i64 u.kd, .int .i64 u.cd] (by kernel_rfl) (by kernel_rfl) (by kernel_rfl) (fun k u hk => by rw [hB8.cell]; exact get_part _ 0 _ k u rfl hk)) ⟨hB4, hB8⟩ ?_
 refine zD 1 rfl (S_call (args := [.agg #[.slice t.iA t.inp.length t.iC, .int .i64 t.pt, .int .i64 t.ms, .slice t.gA t.img.length t.gC, .int .i64 t.kd, .int .i64 t.cd]]) (by kernel_rfl) (vof_ok t _) ?_)
 rintro _ w14 ⟨rfl, hT15⟩
 have hT0 := hT0.t0 hT15
 have hB4 := hB4.tch0 hT15
 have hB8 := hB8.tch0 hT15
 refine ⟨⟨hB4, hB8⟩, ?_⟩
 refine zD 3 rfl (S_call (args := [.agg #[.slice u.iA u.inp.length u.iC, .int .i64 u.pt, .int .i64 u.ms, .slice u.gA u.img.length u.gC, .int .i64 u.kd, .int .i64 u.cd]]) (by kernel_rfl) (vof_ok u _) ?_)
 rintro _ w16 ⟨rfl, hT17⟩
 have hT0 := hT0.t0 hT17
 have hB4 := hB4.tch0 hT17
 have hB8 := hB8.tch0 hT17
 refine ⟨⟨hB4, hB8⟩, ?_⟩
 refine zV 4 rfl (.bool (decide (t.pt = u.pt ∧ t.ms = u.ms ∧ t.kd = u.kd ∧ t.cd = u.cd))) (fun _ ⟨hB4, hB8⟩ => R_eq4 (by kernel_rfl) (by kernel_rfl) hT.wf.1 hT.wf.2.1 hT.wf.2.2.1 hT.wf.2.2.2.1 hU.wf.1 hU.wf.2.1 hU.wf.2.2.1 hU.wf.2.2.2.1) ⟨hB4, hB8⟩ ?_
 refine zK [5] #[true, true, true, true, true, true, false, false, false, false, false, false, false, false, false, false, false, false, false, false] [(10, .bool (decide (t.pt = u.pt ∧ t.ms = u.ms ∧ t.kd = u.kd ∧ t.cd = u.cd)))] ⟨hB4, hB8⟩ ?_
 cases hb18 : decide (t.pt = u.pt ∧ t.ms = u.ms ∧ t.kd = u.kd ∧ t.cd = u.cd)
 ·
  replace hb18 : ¬ (t.pt = u.pt ∧ t.ms = u.ms ∧ t.kd = u.kd ∧ t.cd = u.cd) := (of_decide_eq_false hb18)
  refine zK [6, 8, 7, 9, 10, 11, 12, 13, 15, 14, 16, 17, 18, 19] #[true, true, true, true, true, true, true, true, true, true, true, true, true, true, true, true, true, true, true, true] [(11, undef), (13, undef), (12, undef), (14, undef), (15, undef), (16, .bool false), (17, .bool false), (18, undef), (20, undef), (19, undef), (21, undef), (22, undef), (23, .bool false), (4, .bool false)] ⟨hB4, hB8⟩ ?_
  refine d_done (by kernel_rfl) ?_
  refine W_ret ?_
  exact ⟨_, Res_of (v := .bool false) (by kernel_rfl), ⟨congrArg Value.bool (decide_eq_false (fun e => by have q := core_iff.1 e; obtain ⟨q1, q2, q3, q4, q5, q6⟩ := q; first | exact absurd q1 (by assumption) | exact absurd q4 (by assumption) | omega)).symm, hT0⟩⟩
 ·
  replace hb18 : (t.pt = u.pt ∧ t.ms = u.ms ∧ t.kd = u.kd ∧ t.cd = u.cd) := (of_decide_eq_true hb18)
  refine zK [6, 8] #[true, true, true, true, true, true, true, false, true, false, false, false, false, false, false, false, false, false, false, false] [(11, .pointer (some ⟨w.heap.size, 0, none⟩)), (13, .pointer (some ⟨w1.heap.size, 0, none⟩))] ⟨hB4, hB8⟩ ?_
  refine zV 7 rfl (.slice t.iA t.inp.length t.iC) (fun _ ⟨hB4, hB8⟩ => R_load (v := .slice t.iA t.inp.length t.iC) (by kernel_rfl) (by kernel_rfl) ((hB4.cell 0).trans rfl)) ⟨hB4, hB8⟩ ?_
  refine zV 9 rfl (.slice u.iA u.inp.length u.iC) (fun _ ⟨hB4, hB8⟩ => R_load (v := .slice u.iA u.inp.length u.iC) (by kernel_rfl) (by kernel_rfl) ((hB8.cell 0).trans rfl)) ⟨hB4, hB8⟩ ?_
  refine zD 10 rfl (S_call (args := [.slice t.iA t.inp.length t.iC, .slice u.iA u.inp.length u.iC]) (by kernel_rfl) (eqb_ok t.inp u.inp t.iA u.iA t.iC u.iC _ (hT.ri.tch0 hT0) (hU.ri.tch0 hT0)) ?_)
  rintro _ w19 ⟨rfl, hT20⟩
  have hT0 := hT0.t0 hT20
  have hB4 := hB4.tch0 hT20
  have hB8 := hB8.tch0 hT20
  refine ⟨⟨hB4, hB8⟩, ?_⟩
  refine zK [11, 12] #[true, true, true, true, true, true, true, true, true, true, true, true, true, false, false, false, false, false, false, false] [(16, .bool (decide (t.inp = u.inp))), (17, .bool (decide (t.inp = u.inp)))] ⟨hB4, hB8⟩ ?_
  cases hb21 : decide (t.inp = u.inp)
  ·
   replace hb21 : ¬ (t.inp = u.inp) := (of_decide_eq_false hb21)
   refine zK [13, 15, 14, 16, 17, 18, 19] #[true, true, true, true, true, true, true, true, true, true, true, true, true, true, true, true, true, true, true, true] [(18, undef), (20, undef), (19, undef), (21, undef), (22, undef), (23, .bool false), (4, .bool false)] ⟨hB4, hB8⟩ ?_
   refine d_done (by kernel_rfl) ?_
   refine W_ret ?_
   exact ⟨_, Res_of (v := .bool false) (by kernel_rfl), ⟨congrArg Value.bool (decide_eq_false (fun e => by have q := core_iff.1 e; obtain ⟨q1, q2, q3, q4, q5, q6⟩ := q; first | exact absurd q1 (by assumption) | exact absurd q4 (by assumption) | omega)).symm, hT0⟩⟩
  ·
   replace hb21 : (t.inp = u.inp) := (of_decide_eq_true hb21)
   refine zK [13, 15] #[true, true, true, true, true, true, true, true, true, true, true, true, true, true, false, true, false, false, false, false] [(18, .pointer (some ⟨w.heap.size, 3, none⟩)), (20, .pointer (some ⟨w1.heap.size, 3, none⟩))] ⟨hB4, hB8⟩ ?_
   refine zV 14 rfl (.slice t.gA t.img.length t.gC) (fun _ ⟨hB4, hB8⟩ => R_load (v := .slice t.gA t.img.length t.gC) (by kernel_rfl) (by kernel_rfl) ((hB4.cell 3).trans rfl)) ⟨hB4, hB8⟩ ?_
   refine zV 16 rfl (.slice u.gA u.img.length u.gC) (fun _ ⟨hB4, hB8⟩ => R_load (v := .slice u.gA u.img.length u.gC) (by kernel_rfl) (by kernel_rfl) ((hB8.cell 3).trans rfl)) ⟨hB4, hB8⟩ ?_
   refine zD 17 rfl (S_call (args := [.slice t.gA t.img.length t.gC, .slice u.gA u.img.length u.gC]) (by kernel_rfl) (eqw_ok t.img u.img t.gA u.gA t.gC u.gC _ (hT.rg.tch0 hT0) (hU.rg.tch0 hT0)) ?_)
   rintro _ w22 ⟨rfl, hT23⟩
   have hT0 := hT0.t0 hT23
   have hB4 := hB4.tch0 hT23
   have hB8 := hB8.tch0 hT23
   refine ⟨⟨hB4, hB8⟩, ?_⟩
   refine zK [18, 19] #[true, true, true, true, true, true, true, true, true, true, true, true, true, true, true, true, true, true, true, true] [(23, .bool (decide (t.img = u.img))), (4, .bool (decide (t.img = u.img)))] ⟨hB4, hB8⟩ ?_
   refine d_done (by kernel_rfl) ?_
   refine W_ret ?_
   exact ⟨_, Res_of (v := .bool (decide (t.img = u.img))) (by kernel_rfl), ⟨congrArg Value.bool (by rw [decide_eq_decide, core_iff]; exact ⟨fun h => ⟨by assumption, by omega, by omega, h, by omega, by omega⟩, fun h => h.2.2.2.1⟩), hT0⟩⟩

set_option maxRecDepth 100000 in
theorem eqf_ok (A B : Option Addr) (ca cb : Nat) (l m_ : List T6) (w : World) (hL : TsW w A l) (hM : TsW w B m_) : Ret Try.prog 31 [.slice A l.length ca, .slice B m_.length cb, .func (.func 32) #[] #[]] w fun v w' => v = .bool (decide (cores l = cores m_)) ∧ Tch N0 w w' := by
 have hLm := hL.rd.2.1
 have hMm := hM.rd.2.1
 refine enter Try.func31 rfl rfl ?_
 refine zQ ?_
 refine zS [(6, .bool false)] ?_
 refine op_nil ?_
 refine W_seq ?_
 refine zQ ?_
 refine zS [(10, .slice A l.length ca), (11, .int .i64 (l.length : Int)), (12, .slice B m_.length cb), (13, .int .i64 (m_.length : Int)), (14, .bool ((l.length : Int) != (m_.length : Int)))] ?_
 refine zO ((l.length : Int) != (m_.length : Int)) (fun hc1 => ?_) (fun hc1 => ?_)
 ·
  replace hc1 : (l.length : Int) ≠ (m_.length : Int) := (bne_iff_ne.1 hc1)
  refine zQ ?_
  refine zS [(6, .bool false)] ?_
  refine op_nil ?_
  refine W_ret ?_
  exact ⟨_, Res_of (v := .bool false) (by kernel_rfl), ⟨congrArg Value.bool (decide_eq_false (by first | exact cores_ne (j := j) (by omega) (by omega) (by assumption) | exact (fun e => by have q := congrArg List.length e; rw [cores_length, cores_length] at q; omega))).symm, Tch.refl _ _⟩⟩
 ·
  replace hc1 : (l.length : Int) = (m_.length : Int) := (bne_eq_false_iff_eq.1 hc1)
  refine W_skip ?_
  refine W_seq ?_
  refine zQ ?_
  refine zS [(15, .slice A l.length ca), (16, .int .i64 (l.length : Int)), (17, .int .i64 0)] ?_
  refine op_nil ?_
  refine W_block ?_
  refine W_loop (fun m ρ w' => ∃ (j : Nat) (ρ0 : Env), ρ = updL ρ0 [(0, .slice A l.length ca), (1, .slice B m_.length cb), (2, .func (.func 32) #[] #[]), (15, .slice A l.length ca), (16, .int .i64 (l.length : Int)), (17, .int .i64 ((j : Nat) : Int))] ∧ (j ≤ l.length) ∧ (∀ i, i < j → core (tq l i) = core (tq m_ i)) ∧ Tch N0 w w' ∧ m = l.length + 1 - j) (m := l.length + 1 - 0) ?_ ?_
  ·
   refine ⟨0, _, updL_self (by kernel_rfl), by omega, (fun i h => by omega), Tch.refl _ _, rfl⟩
  ·
   rintro m ρ w2 ⟨j, ρ, rfl, hj, hall, hT0, rfl⟩
   refine zQ ?_
   refine zS [(18, .bool (decide (((j : Nat) : Int) < (l.length : Int))))] ?_
   refine op_nil ?_
   refine W_seq ?_
   refine zW (decide (((j : Nat) : Int) < (l.length : Int))) (fun hc3 => ?_) (fun hc3 => ?_)
   ·
    replace hc3 : ((j : Nat) : Int) < (l.length : Int) := (of_decide_eq_true hc3)
    refine W_skip ?_
    refine W_seq ?_
    refine W_block ?_
    refine zQ ?_
    refine zS [(19, .int .i64 ((j : Nat) : Int))] ?_
    refine stv (v := ptrAt A (j * 6)) (by rfl) (R_indexRd (sz := 6) (len := l.length) (cap := ca) (k := .i64) (i := ((j : Nat) : Int)) (e := 43) j (hL.rd.tch0 hT0) (by kernel_rfl) (by kernel_rfl) (by kernel_rfl) (by kernel_rfl) rfl (by omega)) ?_
    refine stv (v := .agg #[.slice ((tq l j).iA) ((tq l j).inp.length) ((tq l j).iC), .int .i64 ((tq l j).pt), .int .i64 ((tq l j).ms), .slice ((tq l j).gA) ((tq l j).img.length) ((tq l j).gC), .int .i64 ((tq l j).kd), .int .i64 ((tq l j).cd)]) (by rfl) (R_loadRdA [.slice ((tq l j).iA) ((tq l j).inp.length) ((tq l j).iC), .int .i64 ((tq l j).pt), .int .i64 ((tq l j).ms), .slice ((tq l j).gA) ((tq l j).img.length) ((tq l j).gC), .int .i64 ((tq l j).kd), .int .i64 ((tq l j).cd)] (hL.rd.tch0 hT0) (by omega) (by kernel_rfl) (by kernel_rfl) (by kernel_rfl) (tcs_part l (by omega))) ?_
    have hz8 := hT0.size
    refine st (by rfl) (S_new (v := .pointer (some ⟨w2.heap.size, 0, none⟩)) (ob := .cells #[.slice none 0 0, .int .i64 0, .int .i64 0, .slice none 0 0, .int .i64 0, .int .i64 0] 43) (by kernel_rfl) fun w4 hT5 hs6 hB7 => ?_)
    replace hB7 : Blk w4 (w2.heap.size) 43 [.slice none 0 0, .int .i64 0, .int .i64 0, .slice none 0 0, .int .i64 0, .int .i64 0] := hB7
    have hT0 := hT0.t0 hT5
    refine zS [(7, .int .i64 ((j : Nat) : Int))] ?_
    refine st (by rfl) (S_storeA (b := w2.heap.size) (j := 0) (cs := [.slice ((tq l j).iA) ((tq l j).inp.length) ((tq l j).iC), .int .i64 ((tq l j).pt), .int .i64 ((tq l j).ms), .slice ((tq l j).gA) ((tq l j).img.length) ((tq l j).gC), .int .i64 ((tq l j).kd), .int .i64 ((tq l j).cd)]) (by kernel_rfl) (by kernel_rfl) (by kernel_rfl) (by simp [oneV]) hB7 (by simp) fun w9 hT10 hs11 hB7' => ?_)
    have hT0 := (hT0).then hT10 (fun c e => by have : c = w2.heap.size := e; omega)
    replace hB7 : Blk w9 w2.heap.size 43 [.slice ((tq l j).iA) ((tq l j).inp.length) ((tq l j).iC), .int .i64 ((tq l j).pt), .int .i64 ((tq l j).ms), .slice ((tq l j).gA) ((tq l j).img.length) ((tq l j).gC), .int .i64 ((tq l j).kd), .int .i64 ((tq l j).cd)] := hB7'
    refine op_nil ?_
    refine zQ ?_
    refine zS [(22, .slice B m_.length cb), (23, .int .i64 ((j : Nat) : Int))] ?_
    refine stv (v := ptrAt B (j * 6)) (by rfl) (R_indexRd (sz := 6) (len := m_.length) (cap := cb) (k := .i64) (i := ((j : Nat) : Int)) (e := 43) j (hM.rd.tch0 hT0) (by kernel_rfl) (by kernel_rfl) (by kernel_rfl) (by kernel_rfl) rfl (by omega)) ?_
    refine stv (v := .agg #[.slice ((tq m_ j).iA) ((tq m_ j).inp.length) ((tq m_ j).iC), .int .i64 ((tq m_ j).pt), .int .i64 ((tq m_ j).ms), .slice ((tq m_ j).gA) ((tq m_ j).img.length) ((tq m_ j).gC), .int .i64 ((tq m_ j).kd), .int .i64 ((tq m_ j).cd)]) (by rfl) (R_loadRdA [.slice ((tq m_ j).iA) ((tq m_ j).inp.length) ((tq m_ j).iC), .int .i64 ((tq m_ j).pt), .int .i64 ((tq m_ j).ms), .slice ((tq m_ j).gA) ((tq m_ j).img.length) ((tq m_ j).gC), .int .i64 ((tq m_ j).kd), .int .i64 ((tq m_ j).cd)] (hM.rd.tch0 hT0) (by omega) (by kernel_rfl) (by kernel_rfl) (by kernel_rfl) (tcs_part m_ (by omega))) ?_
    have hz16 := hT0.size
    have lt17 := hB7.lt
    refine st (by rfl) (S_new (v := .pointer (some ⟨w9.heap.size, 0, none⟩)) (ob := .cells #[.slice none 0 0, .int .i64 0, .int .i64 0, .slice none 0 0, .int .i64 0, .int .i64 0] 43) (by kernel_rfl) fun w12 hT13 hs14 hB15 => ?_)
    replace hB15 : Blk w12 (w9.heap.size) 43 [.slice none 0 0, .int .i64 0, .int .i64 0, .slice none 0 0, .int .i64 0, .int .i64 0] := hB15
    have hT0 := hT0.t0 hT13
    have hB7 := hB7.tch0 hT13
    refine st (by rfl) (S_storeA (b := w9.heap.size) (j := 0) (cs := [.slice ((tq m_ j).iA) ((tq m_ j).inp.length) ((tq m_ j).iC), .int .i64 ((tq m_ j).pt), .int .i64 ((tq m_ j).ms), .slice ((tq m_ j).gA) ((tq m_ j).img.length) ((tq m_ j).gC), .int .i64 ((tq m_ j).kd), .int .i64 ((tq m_ j).cd)]) (by kernel_rfl) (by kernel_rfl) (by kernel_rfl) (by simp [oneV]) hB15 (by simp) fun w18 hT19 hs20 hB15' => ?_)
    have hT0 := (hT0).then hT19 (fun c e => by have : c = w9.heap.size := e; omega)
    have hB7 := hB7.tch hT19 (fun e => by have : w2.heap.size = w9.heap.size := e; omega)
    replace hB15 : Blk w18 w9.heap.size 43 [.slice ((tq m_ j).iA) ((tq m_ j).inp.length) ((tq m_ j).iC), .int .i64 ((tq m_ j).pt), .int .i64 ((tq m_ j).ms), .slice ((tq m_ j).gA) ((tq m_ j).img.length) ((tq m_ j).gC), .int .i64 ((tq m_ j).kd), .int .i64 ((tq m_ j).cd)] := hB15'
    refine op_nil ?_
    refine W_seq ?_
    refine zF [(0, .slice A l.length ca), (1, .slice B m_.length cb), (2, .func (.func 32) #[] #[]), (7, .int .i64 ((j : Nat) : Int)), (8, .pointer (some ⟨w2.heap.size, 0, none⟩)), (9, .pointer (some ⟨w9.heap.size, 0, none⟩)), (15, .slice A l.length ca), (16, .int .i64 (l.length : Int)), (17, .int .i64 ((j : Nat) : Int)), (18, .bool (decide (((j : Nat) : Int) < (l.length : Int))))] fun ρ => ?_
    refine zR ?_
    refine zS [(26, .func (.func 32) #[] #[])] ?_
    refine st (by rfl) (S_val (v := .agg #[.slice ((tq l j).iA) ((tq l j).inp.length) ((tq l j).iC), .int .i64 ((tq l j).pt), .int .i64 ((tq l j).ms), .slice ((tq l j).gA) ((tq l j).img.length) ((tq l j).gC), .int .i64 ((tq l j).kd), .int .i64 ((tq l j).cd)]) (R_loadA [.slice ((tq l j).iA) ((tq l j).inp.length) ((tq l j).iC), .int .i64 ((tq l j).pt), .int .i64 ((tq l j).ms), .slice ((tq l j).gA) ((tq l j).img.length) ((tq l j).gC), .int .i64 ((tq l j).kd), .int .i64 ((tq l j).cd)] (by kernel_rfl) (by kernel_rfl) (by kernel_rfl) (fun k u hk => by rw [hB7.cell]; exact get_part _ 0 _ k u rfl hk)) ?_)
    refine st (by rfl) (S_val (v := .agg #[.slice ((tq m_ j).iA) ((tq m_ j).inp.length) ((tq m_ j).iC), .int .i64 ((tq m_ j).pt), .int .i64 ((tq m_ j).ms), .slice ((tq m_ j).gA) ((tq m_ j).img.length) ((tq m_ j).gC), .int .i64 ((tq m_ j).kd), .int .i64 ((tq m_ j).cd)]) (R_loadA [.slice ((tq m_ j).iA) ((tq m_ j).inp.length) ((tq m_ j).iC), .int .i64 ((tq m_ j).pt), .int .i64 ((tq m_ j).ms), .slice ((tq m_ j).gA) ((tq m_ j).img.length) ((tq m_ j).gC), .int .i64 ((tq m_ j).kd), .int .i64 ((tq m_ j).cd)] (by kernel_rfl) (by kernel_rfl) (by kernel_rfl) (fun k u hk => by rw [hB15.cell]; exact get_part _ 0 _ k u rfl hk)) ?_)
    refine zC (vsame_ok (tq l j) (tq m_ j) _ ((hL.el _ (tq_mem (by omega))).tch0 hT0) ((hM.el _ (tq_mem (by omega))).tch0 hT0)) ?_
    rintro _ w21 ⟨rfl, hT22⟩
    have hT0 := hT0.t0 hT22
    have hB7 := hB7.tch0 hT22
    have hB15 := hB15.tch0 hT22
    refine zS [(30, .bool (!(decide (core (tq l j) = core (tq m_ j)))))] ?_
    refine zO (!(decide (core (tq l j) = core (tq m_ j)))) (fun hc23 => ?_) (fun hc23 => ?_)
    ·
     replace hc23 : ¬ (core (tq l j) = core (tq m_ j)) := (of_decide_eq_false (not_t hc23))
     refine zQ ?_
     refine zS [(6, .bool false)] ?_
     refine op_nil ?_
     refine W_ret ?_
     exact ⟨_, Res_of (v := .bool false) (by kernel_rfl), ⟨congrArg Value.bool (decide_eq_false (by first | exact cores_ne (j := j) (by omega) (by omega) (by assumption) | exact (fun e => by have q := congrArg List.length e; rw [cores_length, cores_length] at q; omega))).symm, hT0⟩⟩
    ·
     replace hc23 : (core (tq l j) = core (tq m_ j)) := (of_decide_eq_true (not_f hc23))
     refine W_skip ?_
     refine zR ?_
     refine zS [(31, .int .i64 (IntKind.i64.wrap (((j : Nat) : Int) + 1)))] ?_
     rw [show IntKind.i64.wrap (((j : Nat) : Int) + 1) = ((j : Nat) : Int) + 1 from wrap_i64 (by omega) (by omega)]
     refine fixR (y := ((j + 1 : Nat) : Int)) (by omega) ?_
     refine zS [(17, .int .i64 ((j + 1 : Nat) : Int))] ?_
     refine op_nil ?_
     refine ⟨_, (by omega), j + 1, _, updL_self (by kernel_rfl), (by omega), (fun i h => (Nat.lt_or_eq_of_le (Nat.le_of_lt_succ h)).elim (hall i) (fun e => by rw [e]; assumption)), hT0, rfl⟩
   ·
    replace hc3 : (l.length : Int) ≤ ((j : Nat) : Int) := (Int.not_lt.1 (of_decide_eq_false hc3))
    refine W_exit ?_
    refine X_hit ?_
    refine zQ ?_
    refine zS [(6, .bool true)] ?_
    refine op_nil ?_
    refine W_ret ?_
    exact ⟨_, Res_of (v := .bool true) (by kernel_rfl), ⟨congrArg Value.bool (decide_eq_true (cores_eq (by omega) (fun i h => hall i (by omega)))).symm, hT0⟩⟩

set_option maxRecDepth 100000 in
theorem allsame_ok (A B : Option Addr) (ca cb : Nat) (l m_ : List T6) (w : World) (hL : TsW w A l) (hM : TsW w B m_) : Ret Try.prog 33 [.slice A l.length ca, .slice B m_.length cb] w fun v w' => v = .bool (decide (cores l = cores m_)) ∧ Tch N0 w w' := by
 have hLm := hL.rd.2.1
 have hMm := hM.rd.2.1
 have hLr := hL.rd
 have hMr := hM.rd
 refine enter Try.func33 rfl rfl ?_
 refine zQ ?_
 refine zS [(4, .bool false)] ?_
 refine op_nil ?_
 refine W_seq ?_
 refine zQ ?_
 refine zS [(6, .slice A l.length ca), (7, .int .i64 (l.length : Int)), (8, .slice B m_.length cb), (9, .int .i64 (m_.length : Int)), (10, .bool ((l.length : Int) != (m_.length : Int)))] ?_
 refine zO ((l.length : Int) != (m_.length : Int)) (fun hc1 => ?_) (fun hc1 => ?_)
 ·
  replace hc1 : (l.length : Int) ≠ (m_.length : Int) := (bne_iff_ne.1 hc1)
  refine zQ ?_
  refine zS [(4, .bool false)] ?_
  refine op_nil ?_
  refine W_ret ?_
  exact ⟨_, Res_of (v := .bool false) (by kernel_rfl), ⟨congrArg Value.bool (decide_eq_false (by first | exact cores_ne (j := j) (by omega) (by omega) (by assumption) | exact (fun e => by have q := congrArg List.length e; rw [cores_length, cores_length] at q; omega))).symm, Tch.refl _ _⟩⟩
 ·
  replace hc1 : (l.length : Int) = (m_.length : Int) := (bne_eq_false_iff_eq.1 hc1)
  refine W_skip ?_
  refine W_seq ?_
  refine zQ ?_
  refine zS [(5, .int .i64 0)] ?_
  refine op_nil ?_
  refine W_block ?_
  refine W_loop (fun m ρ w' => ∃ (j : Nat) (ρ0 : Env), ρ = updL ρ0 [(0, .slice A l.length ca), (1, .slice B m_.length cb), (5, .int .i64 ((j : Nat) : Int))] ∧ (j ≤ l.length) ∧ (∀ i, i < j → core (tq l i) = core (tq m_ i)) ∧ Tch N0 w w' ∧ RdW w' 6 l.length A (tcs l) ∧ RdW w' 6 m_.length B (tcs m_) ∧ m = l.length + 1 - j) (m := l.length + 1 - 0) ?_ ?_
  ·
   refine ⟨0, _, updL_self (by kernel_rfl), by omega, (fun i h => by omega), Tch.refl _ _, hLr, hMr, rfl⟩
  ·
   rintro m ρ w2 ⟨j, ρ, rfl, hj, hall, hT0, hLr, hMr, rfl⟩
   refine W_seq ?_
   refine zQ ?_
   refine zS [(11, .int .i64 ((j : Nat) : Int)), (12, .slice A l.length ca), (13, .int .i64 (l.length : Int)), (14, .bool (decide (((j : Nat) : Int) < (l.length : Int))))] ?_
   refine zO (decide (((j : Nat) : Int) < (l.length : Int))) (fun hc3 => ?_) (fun hc3 => ?_)
   ·
    replace hc3 : ((j : Nat) : Int) < (l.length : Int) := (of_decide_eq_true hc3)
    refine W_skip ?_
    refine W_seq ?_
    refine W_block ?_
    refine W_seq ?_
    refine W_draw (fun w' => RdW w' 6 l.length A (tcs l) ∧ RdW w' 6 m_.length B (tcs m_)) (by kernel_rfl) (by kernel_rfl) (by kernel_rfl) fun w4 hT5 hh6 => ?_
    have hT0 := hT0.t0 hT5
    have hLr := hL.rd.tch0 hT0
    have hMr := hM.rd.tch0 hT0
    refine zK [0, 1, 4, 5] #[true, true, false, false, true, true, false, false, false, false] [(17, .slice A l.length ca), (18, .int .i64 ((j : Nat) : Int)), (21, .slice B m_.length cb), (22, .int .i64 ((j : Nat) : Int))] ⟨hLr, hMr⟩ ?_
    refine zV 2 rfl (ptrAt A (j * 6)) (fun _ ⟨hLr, hMr⟩ => R_indexRd (sz := 6) (len := l.length) (cap := ca) (k := .i64) (i := ((j : Nat) : Int)) (e := 43) j hLr (by kernel_rfl) (by kernel_rfl) (by kernel_rfl) (by kernel_rfl) rfl (by omega)) ⟨hLr, hMr⟩ ?_
    refine zV 3 rfl (.agg #[.slice ((tq l j).iA) ((tq l j).inp.length) ((tq l j).iC), .int .i64 ((tq l j).pt), .int .i64 ((tq l j).ms), .slice ((tq l j).gA) ((tq l j).img.length) ((tq l j).gC), .int .i64 ((tq l j).kd), .int .i64 ((tq l j).cd)]) (fun _ ⟨hLr, hMr⟩ => R_loadRdA [.slice ((tq l j).iA) ((tq l j).inp.length) ((tq l j).iC), .int .i64 ((tq l j).pt), .int .i64 ((tq l j).ms), .slice ((tq l j).gA) ((tq l j).img.length) ((tq l j).gC), .int .i64 ((tq l j).kd), .int .i64 ((tq l j).cd)] hLr (by omega) (by kernel_rfl) (by kernel_rfl) (by kernel_rfl) (tcs_part l (by omega))) ⟨hLr, hMr⟩ ?_
    refine zV 6 rfl (ptrAt B (j * 6)) (fun _ ⟨hLr, hMr⟩ => R_indexRd (sz := 6) (len := m_.length) (cap := cb) (k := .i64) (i := ((j : Nat) : Int)) (e := 43) j hMr (by kernel_rfl) (by kernel_rfl) (by kernel_rfl) (by kernel_rfl) rfl (by omega)) ⟨hLr, hMr⟩ ?_
    refine zV 7 rfl (.agg #[.slice ((tq m_ j).iA) ((tq m_ j).inp.length) ((tq m_ j).iC), .int .i64 ((tq m_ j).pt), .int .i64 ((tq m_ j).ms), .slice ((tq m_ j).gA) ((tq m_ j).img.length) ((tq m_ j).gC), .int .i64 ((tq m_ j).kd), .int .i64 ((tq m_ j).cd)]) (fun _ ⟨hLr, hMr⟩ => R_loadRdA [.slice ((tq m_ j).iA) ((tq m_ j).inp.length) ((tq m_ j).iC), .int .i64 ((tq m_ j).pt), .int .i64 ((tq m_ j).ms), .slice ((tq m_ j).gA) ((tq m_ j).img.length) ((tq m_ j).gC), .int .i64 ((tq m_ j).kd), .int .i64 ((tq m_ j).cd)] hMr (by omega) (by kernel_rfl) (by kernel_rfl) (by kernel_rfl) (tcs_part m_ (by omega))) ⟨hLr, hMr⟩ ?_
    refine zD 8 rfl (S_call (args := [.agg #[.slice ((tq l j).iA) ((tq l j).inp.length) ((tq l j).iC), .int .i64 ((tq l j).pt), .int .i64 ((tq l j).ms), .slice ((tq l j).gA) ((tq l j).img.length) ((tq l j).gC), .int .i64 ((tq l j).kd), .int .i64 ((tq l j).cd)], .agg #[.slice ((tq m_ j).iA) ((tq m_ j).inp.length) ((tq m_ j).iC), .int .i64 ((tq m_ j).pt), .int .i64 ((tq m_ j).ms), .slice ((tq m_ j).gA) ((tq m_ j).img.length) ((tq m_ j).gC), .int .i64 ((tq m_ j).kd), .int .i64 ((tq m_ j).cd)]]) (by kernel_rfl) (rsame_ok (tq l j) (tq m_ j) _ ((hL.el _ (tq_mem (by omega))).tch0 hT0) ((hM.el _ (tq_mem (by omega))).tch0 hT0)) ?_)
    rintro _ w7 ⟨rfl, hT8⟩
    have hT0 := hT0.t0 hT8
    have hLr := hL.rd.tch0 hT0
    have hMr := hM.rd.tch0 hT0
    refine ⟨⟨hLr, hMr⟩, ?_⟩
    refine zK [9] #[true, true, true, true, true, true, true, true, true, true] [(26, .bool (!(decide (core (tq l j) = core (tq m_ j)))))] ⟨hLr, hMr⟩ ?_
    refine d_done (by kernel_rfl) ?_
    refine zW (!(decide (core (tq l j) = core (tq m_ j)))) (fun hc9 => ?_) (fun hc9 => ?_)
    ·
     replace hc9 : ¬ (core (tq l j) = core (tq m_ j)) := (of_decide_eq_false (not_t hc9))
     refine W_seq ?_
     refine zF [(0, .slice A l.length ca), (1, .slice B m_.length cb), (5, .int .i64 ((j : Nat) : Int)), (14, .bool (decide (((j : Nat) : Int) < (l.length : Int)))), (26, .bool (!(decide (core (tq l j) = core (tq m_ j)))))] fun ρ => ?_
     refine zR ?_
     refine zS [(4, .bool false)] ?_
     refine op_nil ?_
     refine W_ret ?_
     exact ⟨_, Res_of (v := .bool false) (by kernel_rfl), ⟨congrArg Value.bool (decide_eq_false (by first | exact cores_ne (j := j) (by omega) (by omega) (by assumption) | exact (fun e => by have q := congrArg List.length e; rw [cores_length, cores_length] at q; omega))).symm, hT0⟩⟩
    ·
     replace hc9 : (core (tq l j) = core (tq m_ j)) := (of_decide_eq_true (not_f hc9))
     refine W_skip ?_
     refine zF [(0, .slice A l.length ca), (1, .slice B m_.length cb), (5, .int .i64 ((j : Nat) : Int)), (14, .bool (decide (((j : Nat) : Int) < (l.length : Int)))), (26, .bool (!(decide (core (tq l j) = core (tq m_ j)))))] fun ρ => ?_
     refine zR ?_
     refine zS [(15, .int .i64 ((j : Nat) : Int)), (16, .int .i64 (IntKind.i64.wrap (((j : Nat) : Int) + 1)))] ?_
     rw [show IntKind.i64.wrap (((j : Nat) : Int) + 1) = ((j : Nat) : Int) + 1 from wrap_i64 (by omega) (by omega)]
     refine fixR (y := ((j + 1 : Nat) : Int)) (by omega) ?_
     refine zS [(5, .int .i64 ((j + 1 : Nat) : Int))] ?_
     refine op_nil ?_
     refine ⟨_, (by omega), j + 1, _, updL_self (by kernel_rfl), (by omega), (fun i h => (Nat.lt_or_eq_of_le (Nat.le_of_lt_succ h)).elim (hall i) (fun e => by rw [e]; assumption)), hT0, hLr, hMr, rfl⟩
   ·
    replace hc3 : (l.length : Int) ≤ ((j : Nat) : Int) := (Int.not_lt.1 (of_decide_eq_false hc3))
    refine W_exit ?_
    refine X_hit ?_
    refine zQ ?_
    refine zS [(4, .bool true)] ?_
    refine op_nil ?_
    refine W_ret ?_
    exact ⟨_, Res_of (v := .bool true) (by kernel_rfl), ⟨congrArg Value.bool (decide_eq_true (cores_eq (by omega) (fun i h => hall i (by omega)))).symm, hT0⟩⟩

set_option maxRecDepth 100000 in
theorem same_ok (V E S U V' E' S' U' : Int) (A B : Option Addr) (ca cb : Nat) (l m_ : List T6) (w : World) (hL : TsW w A l) (hM : TsW w B m_) : Ret Try.prog 12 [.agg #[.int .i64 V, .int .i64 E, .slice A l.length ca, .int .i64 S, .int .i64 U], .agg #[.int .i64 V', .int .i64 E', .slice B m_.length cb, .int .i64 S', .int .i64 U']] w fun v w' => v = .bool (sameR V E S U (cores l) V' E' S' U' (cores m_)) ∧ Tch N0 w w' := by
 refine enter Try.func12 rfl rfl ?_
 refine zQ ?_
 refine st (by rfl) (S_new (v := .pointer (some ⟨w.heap.size, 0, none⟩)) (ob := .cells #[.int .i64 V, .int .i64 E, .slice A l.length ca, .int .i64 S, .int .i64 U] 25) (by kernel_rfl) fun w1 hT2 hs3 hB4 => ?_)
 replace hB4 : Blk w1 (w.heap.size) 25 [.int .i64 V, .int .i64 E, .slice A l.length ca, .int .i64 S, .int .i64 U] := hB4
 have hT0 := hT2
 have hz9 := hT0.size
 have lt10 := hB4.lt
 refine st (by rfl) (S_new (v := .pointer (some ⟨w1.heap.size, 0, none⟩)) (ob := .cells #[.int .i64 V', .int .i64 E', .slice B m_.length cb, .int .i64 S', .int .i64 U'] 25) (by kernel_rfl) fun w5 hT6 hs7 hB8 => ?_)
 replace hB8 : Blk w5 (w1.heap.size) 25 [.int .i64 V', .int .i64 E', .slice B m_.length cb, .int .i64 S', .int .i64 U'] := hB8
 have hT0 := hT0.t0 hT6
 have hB4 := hB4.tch0 hT6
 refine zS [(4, .bool false)] ?_
 refine op_nil ?_
 refine zQ ?_
 refine zS [(5, .pointer (some ⟨w.heap.size, 0, none⟩))] ?_
 refine zL (.int .i64 V) ((hB4.cell 0).trans rfl) ?_
 refine zS [(7, .pointer (some ⟨w1.heap.size, 0, none⟩))] ?_
 refine zL (.int .i64 V') ((hB8.cell 0).trans rfl) ?_
 refine zS [(9, .bool (V == V')), (10, .bool (V == V'))] ?_
 cases hb11 : V == V'
 ·
  replace hb11 : V ≠ V' := (ne_of_beq_false hb11)
  refine zS [(11, undef), (12, undef), (13, undef), (14, undef), (15, undef), (16, .bool false), (17, .bool false), (18, undef), (19, undef), (20, undef), (21, undef), (22, undef), (23, .bool false), (24, .bool false), (25, undef), (26, undef), (27, undef), (28, undef), (29, undef), (30, .bool false), (31, .bool false), (32, undef), (33, undef), (34, undef)] ?_
  refine zS [(35, undef), (36, undef), (37, .bool false), (4, .bool false)] ?_
  refine op_nil ?_
  refine W_ret ?_
  exact ⟨_, Res_of (v := .bool false) (by kernel_rfl), ⟨congrArg Value.bool (by unfold sameR; rw [decide_eq_false (by omega)]; rfl), hT0⟩⟩
 ·
  replace hb11 : V = V' := (eq_of_beq hb11)
  refine zS [(11, .pointer (some ⟨w.heap.size, 1, none⟩))] ?_
  refine zL (.int .i64 E) ((hB4.cell 1).trans rfl) ?_
  refine zS [(13, .pointer (some ⟨w1.heap.size, 1, none⟩))] ?_
  refine zL (.int .i64 E') ((hB8.cell 1).trans rfl) ?_
  refine zS [(15, .bool (E == E')), (16, .bool (E == E')), (17, .bool (E == E'))] ?_
  cases hb12 : E == E'
  ·
   replace hb12 : E ≠ E' := (ne_of_beq_false hb12)
   refine zS [(18, undef), (19, undef), (20, undef), (21, undef), (22, undef), (23, .bool false), (24, .bool false), (25, undef), (26, undef), (27, undef), (28, undef), (29, undef), (30, .bool false), (31, .bool false), (32, undef), (33, undef), (34, undef), (35, undef), (36, undef), (37, .bool false), (4, .bool false)] ?_
   refine op_nil ?_
   refine W_ret ?_
   exact ⟨_, Res_of (v := .bool false) (by kernel_rfl), ⟨congrArg Value.bool (by unfold sameR; rw [decide_eq_false (by omega)]; rfl), hT0⟩⟩
  ·
   replace hb12 : E = E' := (eq_of_beq hb12)
   refine zS [(18, .pointer (some ⟨w.heap.size, 3, none⟩))] ?_
   refine zL (.int .i64 S) ((hB4.cell 3).trans rfl) ?_
   refine zS [(20, .pointer (some ⟨w1.heap.size, 3, none⟩))] ?_
   refine zL (.int .i64 S') ((hB8.cell 3).trans rfl) ?_
   refine zS [(22, .bool (S == S')), (23, .bool (S == S')), (24, .bool (S == S'))] ?_
   cases hb13 : S == S'
   ·
    replace hb13 : S ≠ S' := (ne_of_beq_false hb13)
    refine zS [(25, undef), (26, undef), (27, undef), (28, undef), (29, undef), (30, .bool false), (31, .bool false), (32, undef), (33, undef), (34, undef), (35, undef), (36, undef), (37, .bool false), (4, .bool false)] ?_
    refine op_nil ?_
    refine W_ret ?_
    exact ⟨_, Res_of (v := .bool false) (by kernel_rfl), ⟨congrArg Value.bool (by unfold sameR; rw [decide_eq_false (by omega)]; rfl), hT0⟩⟩
   ·
    replace hb13 : S = S' := (eq_of_beq hb13)
    refine zS [(25, .pointer (some ⟨w.heap.size, 4, none⟩))] ?_
    refine zL (.int .i64 U) ((hB4.cell 4).trans rfl) ?_
    refine zS [(27, .pointer (some ⟨w1.heap.size, 4, none⟩))] ?_
    refine zL (.int .i64 U') ((hB8.cell 4).trans rfl) ?_
    refine zS [(29, .bool (U == U')), (30, .bool (U == U')), (31, .bool (U == U'))] ?_
    cases hb14 : U == U'
    ·
     replace hb14 : U ≠ U' := (ne_of_beq_false hb14)
     refine zS [(32, undef), (33, undef), (34, undef), (35, undef), (36, undef), (37, .bool false), (4, .bool false)] ?_
     refine op_nil ?_
     refine W_ret ?_
     exact ⟨_, Res_of (v := .bool false) (by kernel_rfl), ⟨congrArg Value.bool (by unfold sameR; rw [decide_eq_false (by omega)]; rfl), hT0⟩⟩
    ·
     replace hb14 : U = U' := (eq_of_beq hb14)
     refine zS [(32, .pointer (some ⟨w.heap.size, 2, none⟩))] ?_
     refine zL (.slice A l.length ca) ((hB4.cell 2).trans rfl) ?_
     refine zS [(34, .pointer (some ⟨w1.heap.size, 2, none⟩))] ?_
     refine zL (.slice B m_.length cb) ((hB8.cell 2).trans rfl) ?_
     refine zC (eqf_ok A B ca cb l m_ _ (hL.tch0 hT0) (hM.tch0 hT0)) ?_
     rintro _ w15 ⟨rfl, hT16⟩
     have hT0 := hT0.t0 hT16
     have hB4 := hB4.tch0 hT16
     have hB8 := hB8.tch0 hT16
     refine zS [(37, .bool (decide (cores l = cores m_))), (4, .bool (decide (cores l = cores m_)))] ?_
     refine op_nil ?_
     refine W_ret ?_
     exact ⟨_, Res_of (v := .bool (decide (cores l = cores m_))) (by kernel_rfl), ⟨congrArg Value.bool (by unfold sameR; rw [decide_eq_true (show V = V' ∧ E = E' ∧ S = S' ∧ U = U' by omega)]; rfl), hT0⟩⟩

set_option maxRecDepth 100000 in
theorem rsameR_ok (V E S U V' E' S' U' : Int) (A B : Option Addr) (ca cb : Nat) (l m_ : List T6) (w : World) (hL : TsW w A l) (hM : TsW w B m_) : Ret Try.prog 13 [.agg #[.int .i64 V, .int .i64 E, .slice A l.length ca, .int .i64 S, .int .i64 U], .agg #[.int .i64 V', .int .i64 E', .slice B m_.length cb, .int .i64 S', .int .i64 U']] w fun v w' => v = .bool (sameR V E S U (cores l) V' E' S' U' (cores m_)) ∧ Tch N0 w w' := by
 refine enter Try.func13 rfl rfl ?_
 refine zQ ?_
 refine st (by rfl) (S_new (v := .pointer (some ⟨w.heap.size, 0, none⟩)) (ob := .cells #[.int .i64 V, .int .i64 E, .slice A l.length ca, .int .i64 S, .int .i64 U] 25) (by kernel_rfl) fun w1 hT2 hs3 hB4 => ?_)
 replace hB4 : Blk w1 (w.heap.size) 25 [.int .i64 V, .int .i64 E, .slice A l.length ca, .int .i64 S, .int .i64 U] := hB4
 have hT0 := hT2
 have hz9 := hT0.size
 have lt10 := hB4.lt
 refine st (by rfl) (S_new (v := .pointer (some ⟨w1.heap.size, 0, none⟩)) (ob := .cells #[.int .i64 V', .int .i64 E', .slice B m_.length cb, .int .i64 S', .int .i64 U'] 25) (by kernel_rfl) fun w5 hT6 hs7 hB8 => ?_)
 replace hB8 : Blk w5 (w1.heap.size) 25 [.int .i64 V', .int .i64 E', .slice B m_.length cb, .int .i64 S', .int .i64 U'] := hB8
 have hT0 := hT0.t0 hT6
 have hB4 := hB4.tch0 hT6
 refine zS [(4, .bool false)] ?_
 refine op_nil ?_
 refine zQ ?_
 refine zS [(5, .pointer (some ⟨w.heap.size, 0, none⟩))] ?_
 refine zL (.int .i64 V) ((hB4.cell 0).trans rfl) ?_
 refine zS [(7, .pointer (some ⟨w1.heap.size, 0, none⟩))] ?_
 refine zL (.int .i64 V') ((hB8.cell 0).trans rfl) ?_
 refine zS [(9, .bool (V == V')), (10, .bool (V == V'))] ?_
 cases hb11 : V == V'
 ·
  replace hb11 : V ≠ V' := (ne_of_beq_false hb11)
  refine zS [(11, undef), (12, undef), (13, undef), (14, undef), (15, undef), (16, .bool false), (17, .bool false), (18, undef), (19, undef), (20, undef), (21, undef), (22, undef), (23, .bool false), (24, .bool false), (25, undef), (26, undef), (27, undef), (28, undef), (29, undef), (30, .bool false), (31, .bool false), (32, undef), (33, undef), (34, undef)] ?_
  refine zS [(35, undef), (36, undef), (37, .bool false), (4, .bool false)] ?_
  refine op_nil ?_
  refine W_ret ?_
  exact ⟨_, Res_of (v := .bool false) (by kernel_rfl), ⟨congrArg Value.bool (by unfold sameR; rw [decide_eq_false (by omega)]; rfl), hT0⟩⟩
 ·
  replace hb11 : V = V' := (eq_of_beq hb11)
  refine zS [(11, .pointer (some ⟨w.heap.size, 1, none⟩))] ?_
  refine zL (.int .i64 E) ((hB4.cell 1).trans rfl) ?_
  refine zS [(13, .pointer (some ⟨w1.heap.size, 1, none⟩))] ?_
  refine zL (.int .i64 E') ((hB8.cell 1).trans rfl) ?_
  refine zS [(15, .bool (E == E')), (16, .bool (E == E')), (17, .bool (E == E'))] ?_
  cases hb12 : E == E'
  ·
   replace hb12 : E ≠ E' := (ne_of_beq_false hb12)
   refine zS [(18, undef), (19, undef), (20, undef), (21, undef), (22, undef), (23, .bool false), (24, .bool false), (25, undef), (26, undef), (27, undef), (28, undef), (29, undef), (30, .bool false), (31, .bool false), (32, undef), (33, undef), (34, undef), (35, undef), (36, undef), (37, .bool false), (4, .bool false)] ?_
   refine op_nil ?_
   refine W_ret ?_
   exact ⟨_, Res_of (v := .bool false) (by kernel_rfl), ⟨congrArg Value.bool (by unfold sameR; rw [decide_eq_false (by omega)]; rfl), hT0⟩⟩
  ·
   replace hb12 : E = E' := (eq_of_beq hb12)
   refine zS [(18, .pointer (some ⟨w.heap.size, 3, none⟩))] ?_
   refine zL (.int .i64 S) ((hB4.cell 3).trans rfl) ?_
   refine zS [(20, .pointer (some ⟨w1.heap.size, 3, none⟩))] ?_
   refine zL (.int .i64 S') ((hB8.cell 3).trans rfl) ?_
   refine zS [(22, .bool (S == S')), (23, .bool (S == S')), (24, .bool (S == S'))] ?_
   cases hb13 : S == S'
   ·
    replace hb13 : S ≠ S' := (ne_of_beq_false hb13)
    refine zS [(25, undef), (26, undef), (27, undef), (28, undef), (29, undef), (30, .bool false), (31, .bool false), (32, undef), (33, undef), (34, undef), (35, undef), (36, undef), (37, .bool false), (4, .bool false)] ?_
    refine op_nil ?_
    refine W_ret ?_
    exact ⟨_, Res_of (v := .bool false) (by kernel_rfl), ⟨congrArg Value.bool (by unfold sameR; rw [decide_eq_false (by omega)]; rfl), hT0⟩⟩
   ·
    replace hb13 : S = S' := (eq_of_beq hb13)
    refine zS [(25, .pointer (some ⟨w.heap.size, 4, none⟩))] ?_
    refine zL (.int .i64 U) ((hB4.cell 4).trans rfl) ?_
    refine zS [(27, .pointer (some ⟨w1.heap.size, 4, none⟩))] ?_
    refine zL (.int .i64 U') ((hB8.cell 4).trans rfl) ?_
    refine zS [(29, .bool (U == U')), (30, .bool (U == U')), (31, .bool (U == U'))] ?_
    cases hb14 : U == U'
    ·
     replace hb14 : U ≠ U' := (ne_of_beq_false hb14)
     refine zS [(32, undef), (33, undef), (34, undef), (35, undef), (36, undef), (37, .bool false), (4, .bool false)] ?_
     refine op_nil ?_
     refine W_ret ?_
     exact ⟨_, Res_of (v := .bool false) (by kernel_rfl), ⟨congrArg Value.bool (by unfold sameR; rw [decide_eq_false (by omega)]; rfl), hT0⟩⟩
    ·
     replace hb14 : U = U' := (eq_of_beq hb14)
     refine zS [(32, .pointer (some ⟨w.heap.size, 2, none⟩))] ?_
     refine zL (.slice A l.length ca) ((hB4.cell 2).trans rfl) ?_
     refine zS [(34, .pointer (some ⟨w1.heap.size, 2, none⟩))] ?_
     refine zL (.slice B m_.length cb) ((hB8.cell 2).trans rfl) ?_
     refine zC (allsame_ok A B ca cb l m_ _ (hL.tch0 hT0) (hM.tch0 hT0)) ?_
     rintro _ w15 ⟨rfl, hT16⟩
     have hT0 := hT0.t0 hT16
     have hB4 := hB4.tch0 hT16
     have hB8 := hB8.tch0 hT16
     refine zS [(37, .bool (decide (cores l = cores m_))), (4, .bool (decide (cores l = cores m_)))] ?_
     refine op_nil ?_
     refine W_ret ?_
     exact ⟨_, Res_of (v := .bool (decide (cores l = cores m_))) (by kernel_rfl), ⟨congrArg Value.bool (by unfold sameR; rw [decide_eq_true (show V = V' ∧ E = E' ∧ S = S' ∧ U = U' by omega)]; rfl), hT0⟩⟩

end Go.Proofs.YtlkjhkennbdbnaaV
