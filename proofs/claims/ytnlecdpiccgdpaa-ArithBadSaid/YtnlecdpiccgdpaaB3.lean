/- Walks of functions of the program and of the document's texts. The conditions stand with each theorem. -/
import Derived.Test.YtnlecdpiccgdpaaVx13
import Derived.Test.YtnlecdpiccgdpaaProg
import Derived.Test.YtnlecdpiccgdpaaVx4
import Derived.Test.YtnlecdpiccgdpaaB2
set_option linter.unusedVariables false
set_option linter.unusedSimpArgs false
namespace Go.Proofs.YtnlecdpiccgdpaaV
open Go Go.RowKit Go.Proofs

set_option maxRecDepth 100000 in
theorem fits_ok (n : Nat) (K : Option Addr) (ck : Nat) (jv : Value) (x : Nat) (w : World) (hx : x < 4611686018427387904) : Ret Try.prog 73 [.agg #[.slice K n ck, jv], .int .i64 ((x : Nat) : Int)] w fun v w' => v = .bool (decide (x / 2 < n)) ∧ Tch N0 w w' := by
  refine enter Try.func73 rfl rfl ?_
  refine W_seq ?_
  refine W_region (by kernel_rfl) ?_
  refine st (by rfl) (S_new (v := .pointer (some ⟨w.heap.size, 0, none⟩)) (ob := .cells #[.slice K n ck, jv] 54) (by kernel_rfl) fun w1 hT2 hs3 hB4 => ?_)
  replace hB4 : Blk w1 (w.heap.size) 54 [.slice K n ck, jv] := hB4
  have hT0 := hT2
  refine sg [(4, .bool false)] (by kernel_rfl) ?_
  refine op_nil ?_
  refine W_seq ?_
  refine W_region (by kernel_rfl) ?_
  refine sg [(5, .int .i64 ((x : Nat) : Int)), (6, .bool (decide (((x : Nat) : Int) ≥ 0))), (7, .bool (decide (((x : Nat) : Int) ≥ 0)))] (by kernel_rfl) ?_
  cases hb5 : decide (((x : Nat) : Int) ≥ 0)
  · replace hb5 : ((x : Nat) : Int) < 0 := (Int.not_le.1 (of_decide_eq_false hb5))
    exfalso; omega
  · replace hb5 : 0 ≤ ((x : Nat) : Int) := (of_decide_eq_true hb5)
    refine sg [(8, .int .i64 ((x : Nat) : Int)), (9, .int .i64 (IntKind.i64.wrap (((x : Nat) : Int).tdiv 2)))] (by kernel_rfl) ?_
    rw [show IntKind.i64.wrap (((x : Nat) : Int).tdiv 2) = ((x : Nat) : Int) / 2 from by rw [Int.tdiv_eq_ediv_of_nonneg (by omega)]; exact wrap_i64 (by omega) (by omega)]
    refine fixR (y := ((x / 2 : Nat) : Int)) (by omega) ?_
    refine sg [(10, .pointer (some ⟨w.heap.size, 0, none⟩))] (by kernel_rfl) ?_
    refine st (by kernel_rfl) (S_val (v := .slice K n ck) (R_load (v := .slice K n ck) (by kernel_rfl) (by kernel_rfl) ((hB4.cell 0).trans rfl)) ?_)
    refine sg [(12, .int .i64 (n : Int)), (13, .bool (decide (((x / 2 : Nat) : Int) < (n : Int)))), (14, .bool (decide (((x / 2 : Nat) : Int) < (n : Int)))), (4, .bool (decide (((x / 2 : Nat) : Int) < (n : Int))))] (by kernel_rfl) ?_
    refine op_nil ?_
    refine W_ret ?_
    exact ⟨_, Res_of (v := .bool (decide (((x / 2 : Nat) : Int) < (n : Int)))) (by kernel_rfl), ⟨congrArg Value.bool (by rw [decide_eq_decide]; omega), hT0⟩⟩

/-- What a literal is, where its variable is known. -/
def hIs (kn tr : List Bool) (x : Nat) : Bool := kn.getD (x / 2) false && (tr.getD (x / 2) false != decide (x % 2 = 1))

set_option maxRecDepth 100000 in
theorem holds_ok (n : Nat) (K J : Option Addr) (ck cj : Nat) (kn tr : List Bool) (x : Nat) (w : World) (hK : RdW w 1 n K (boolsV kn)) (hJ : RdW w 1 n J (boolsV tr)) (hn : n < 2305843009213693952) (hx : x < 4611686018427387904) (hxn : x / 2 < n) : Ret Try.prog 50 [.agg #[.slice K n ck, .slice J n cj], .int .i64 ((x : Nat) : Int)] w fun v w' => v = .tuple #[.bool (hIs kn tr x), .bool (kn.getD (x / 2) false)] ∧ Tch N0 w w' := by
  have lk := hK.lenb
  have lj := hJ.lenb
  have hJc := hJ
  refine enter Try.func50 rfl rfl ?_
  refine W_seq ?_
  refine W_region (by kernel_rfl) ?_
  refine st (by rfl) (S_new (v := .pointer (some ⟨w.heap.size, 0, none⟩)) (ob := .cells #[.slice K n ck, .slice J n cj] 54) (by kernel_rfl) fun w1 hT2 hs3 hB4 => ?_)
  replace hB4 : Blk w1 (w.heap.size) 54 [.slice K n ck, .slice J n cj] := hB4
  have hT0 := hT2
  have hJc := hJ.tch0 hT0
  refine sg [(4, .bool false), (5, .bool false)] (by kernel_rfl) ?_
  refine op_nil ?_
  refine W_seq ?_
  refine W_seq ?_
  refine W_region (by kernel_rfl) ?_
  refine st (by rfl) (S_val (v := .agg #[.slice K n ck, .slice J n cj]) (R_loadA [.slice K n ck, .slice J n cj] (by kernel_rfl) (by kernel_rfl) (by kernel_rfl) (fun k u hk => by rw [hB4.cell]; exact get_part _ 0 _ k u rfl hk)) ?_)
  refine sg [(7, .int .i64 ((x : Nat) : Int))] (by kernel_rfl) ?_
  refine st (by rfl) (S_call (args := [.agg #[.slice K n ck, .slice J n cj], .int .i64 ((x : Nat) : Int)]) (by kernel_rfl) (fits_ok n K ck (.slice J n cj) x _ (by omega)) ?_)
  rintro _ w5 ⟨rfl, hT6⟩
  have hT0 := hT0.t0 hT6
  have hJc := hJ.tch0 hT0
  have hB4 := hB4.tch0 hT6
  refine sg [(9, .bool (!(decide (x / 2 < n)))), (10, .bool (!(decide (x / 2 < n))))] (by kernel_rfl) ?_
  cases hb7 : decide (x / 2 < n)
  · replace hb7 : n ≤ x / 2 := (Nat.not_lt.1 (of_decide_eq_false hb7))
    exfalso; omega
  · replace hb7 : x / 2 < n := (of_decide_eq_true hb7)
    refine sg [(11, .pointer (some ⟨w.heap.size, 0, none⟩))] (by kernel_rfl) ?_
    refine st (by kernel_rfl) (S_val (v := .slice K n ck) (R_load (v := .slice K n ck) (by kernel_rfl) (by kernel_rfl) ((hB4.cell 0).trans rfl)) ?_)
    refine sg [(13, .int .i64 ((x : Nat) : Int)), (14, .int .i64 (IntKind.i64.wrap (((x : Nat) : Int).tdiv 2)))] (by kernel_rfl) ?_
    rw [show IntKind.i64.wrap (((x : Nat) : Int).tdiv 2) = ((x : Nat) : Int) / 2 from by rw [Int.tdiv_eq_ediv_of_nonneg (by omega)]; exact wrap_i64 (by omega) (by omega)]
    refine fixR (y := ((x / 2 : Nat) : Int)) (by omega) ?_
    refine stv (v := ptrAt K (x / 2)) (by kernel_rfl) (R_indexRd1 (len := n) (cap := ck) (k := .i64) (i := ((x / 2 : Nat) : Int)) (e := 4) (x / 2) (hK.tch0 hT0) (by kernel_rfl) (by kernel_rfl) (by kernel_rfl) (by kernel_rfl) rfl (by omega)) ?_
    refine stv (v := .bool (kn.getD (x / 2) false)) (by kernel_rfl) (R_loadRd (v := .bool (kn.getD (x / 2) false)) (hK.tch0 hT0) (by omega) (by kernel_rfl) (by kernel_rfl) (boolsV_at kn (by omega))) ?_
    refine sg [(17, .bool (!(kn.getD (x / 2) false))), (18, .bool (!(kn.getD (x / 2) false)))] (by kernel_rfl) ?_
    refine op_nil ?_
    refine W_cond (!(kn.getD (x / 2) false)) (by kernel_rfl) (by kernel_rfl) (fun hc8 => ?_) (fun hc8 => ?_)
    · replace hc8 : kn.getD (x / 2) false = false := ((not_t hc8))
      refine W_seq ?_
      refine W_fg [(0, .agg #[.slice K n ck, .slice J n cj]), (1, .int .i64 ((x : Nat) : Int)), (2, .pointer (some ⟨w.heap.size, 0, none⟩)), (4, .bool false), (5, .bool false), (18, .bool (!(kn.getD (x / 2) false)))] (by kernel_rfl) fun ρ => ?_
      refine W_region (by kernel_rfl) ?_
      refine sg [(4, .bool false), (5, .bool false)] (by kernel_rfl) ?_
      refine op_nil ?_
      refine W_ret ?_
      exact ⟨_, Res_of (v := .tuple #[.bool false, .bool false]) (by kernel_rfl), ⟨by unfold hIs; simp_all [bne], hT0⟩⟩
    · replace hc8 : kn.getD (x / 2) false = true := ((not_f hc8))
      refine W_skip ?_
      refine W_seq ?_
      refine W_fg [(0, .agg #[.slice K n ck, .slice J n cj]), (1, .int .i64 ((x : Nat) : Int)), (2, .pointer (some ⟨w.heap.size, 0, none⟩)), (4, .bool false), (5, .bool false), (18, .bool (!(kn.getD (x / 2) false)))] (by kernel_rfl) fun ρ => ?_
      refine W_draw (fun w' => RdW w' 1 n J (boolsV tr) ∧ Blk w' (w.heap.size) 54 [.slice K n ck, .slice J n cj]) (by kernel_rfl) (by kernel_rfl) (by kernel_rfl) fun w9 hT10 hh11 => ?_
      have hT0 := hT0.t0 hT10
      have hJc := hJ.tch0 hT0
      have hB4 := hB4.tch0 hT10
      refine dtk [0, 2, 6] #[true, false, true, false, false, false, true, false, false, false, false] [(19, .pointer (some ⟨w.heap.size, 1, none⟩)), (21, .int .i64 ((x : Nat) : Int)), (25, .int .i64 ((x : Nat) : Int))] ⟨hJc, hB4⟩ (by kernel_rfl) ?_
      refine d_val (v := .slice J n cj) 1 (by rfl) (by kernel_rfl) (by kernel_rfl) (by kernel_rfl) (fun w' hs => by obtain ⟨hJc, hB4⟩ := hs; exact R_load (v := .slice J n cj) (by kernel_rfl) (by kernel_rfl) ((hB4.cell 1).trans rfl)) ⟨hJc, hB4⟩ ?_
      refine dtk [3] #[true, true, true, true, false, false, true, false, false, false, false] [(22, .int .i64 (IntKind.i64.wrap (((x : Nat) : Int).tdiv 2)))] ⟨hJc, hB4⟩ (by kernel_rfl) ?_
      rw [show IntKind.i64.wrap (((x : Nat) : Int).tdiv 2) = ((x : Nat) : Int) / 2 from by rw [Int.tdiv_eq_ediv_of_nonneg (by omega)]; exact wrap_i64 (by omega) (by omega)]
      refine fixD (y := ((x / 2 : Nat) : Int)) (by omega) ?_
      refine d_val (v := ptrAt J (x / 2)) 4 (by rfl) (by kernel_rfl) (by kernel_rfl) (by kernel_rfl) (fun w' hs => by obtain ⟨hJc, hB4⟩ := hs; exact R_indexRd1 (len := n) (cap := cj) (k := .i64) (i := ((x / 2 : Nat) : Int)) (e := 4) (x / 2) hJc (by kernel_rfl) (by kernel_rfl) (by kernel_rfl) (by kernel_rfl) rfl (by omega)) ⟨hJc, hB4⟩ ?_
      refine d_val (v := .bool (tr.getD (x / 2) false)) 5 (by rfl) (by kernel_rfl) (by kernel_rfl) (by kernel_rfl) (fun w' hs => by obtain ⟨hJc, hB4⟩ := hs; exact R_loadRd (v := .bool (tr.getD (x / 2) false)) hJc (by omega) (by kernel_rfl) (by kernel_rfl) (boolsV_at tr (by omega))) ⟨hJc, hB4⟩ ?_
      refine d_one 7 (by kernel_rfl) (by rfl) (by kernel_rfl) (S_call (args := [.int .i64 ((x : Nat) : Int)]) (by kernel_rfl) (rneg_ok x _ (by omega)) ?_)
      rintro _ w12 ⟨rfl, hT13⟩
      have hT0 := hT0.t0 hT13
      have hJc := hJ.tch0 hT0
      have hB4 := hB4.tch0 hT13
      refine ⟨⟨hJc, hB4⟩, ?_⟩
      refine dtk [8, 9, 10] #[true, true, true, true, true, true, true, true, true, true, true] [(27, .bool (!((tr.getD (x / 2) false) == (decide (x % 2 = 1))))), (4, .bool (!((tr.getD (x / 2) false) == (decide (x % 2 = 1))))), (5, .bool true)] ⟨hJc, hB4⟩ (by kernel_rfl) ?_
      refine d_done (by kernel_rfl) ?_
      refine W_ret ?_
      exact ⟨_, Res_of (v := .tuple #[.bool (!((tr.getD (x / 2) false) == (decide (x % 2 = 1)))), .bool true]) (by kernel_rfl), ⟨by unfold hIs; simp_all [bne], hT0⟩⟩

end Go.Proofs.YtnlecdpiccgdpaaV
