/- Walks of functions of the program and of the document's texts: each call returns what the plain function says, and turns nothing that lay. The conditions stand with each theorem. -/
import Derived.Test.YthfjceemphhgcaaProg
import Derived.Test.YthfjceemphhgcaaVx2
import Derived.Test.YthfjceemphhgcaaR3
set_option linter.unusedVariables false
set_option linter.unusedSimpArgs false
namespace Go.Proofs.YthfjceemphhgcaaV
open Go Go.RowKit Go.Proofs

theorem half_snoc {ac : List Int} {v : Nat} (h : v < ac.length) : ints .i64 ((HeapP.halveL ac).take v) ++ [.int .i64 (ac.getD v 0 / 2)] = ints .i64 ((HeapP.halveL ac).take (v + 1)) := by
  rw [List.take_succ_eq_append_getElem (by simpa [HeapP.halveL] using h), ints_append]
  simp [ints, HeapP.halveL, List.getD_eq_getElem?_getD, List.getElem?_eq_getElem h]
theorem half_full {ac : List Int} {n : Nat} (h : ac.length = n) : (HeapP.halveL ac).take n = HeapP.halveL ac := List.take_of_length_le (by simp [HeapP.halveL, h])

set_option maxRecDepth 100000 in
theorem rbump_yes (n : Nat) (A B : Option Addr) (ca cb : Nat) (ac : List Int) (wt : List Bool) (x : Nat) (d : Int) (w : World) (hA : RdW w 1 n A (ints .i64 ac)) (hB : RdW w 1 n B (boolsV wt)) (hn : n ≤ 1048576) (hac : okA ac) (hx : x < n) : Ret Try.prog 31 [.agg #[.slice A n ca, .slice B n cb], .int .i64 ((x : Nat) : Int), .int .i64 d] w fun v w' => ∃ g cp sp, v = .tuple #[.agg #[.slice (some ⟨g, 0, none⟩) n cp, .slice B n cb], .bool true] ∧ Blk w' g 3 (ints .i64 (ac.set x (HeapP.bumpA (ac.getD x 0) d)) ++ sp) ∧ w.heap.size ≤ g ∧ Tch N0 w w' := by
  have la := hA.len
  have lb := hB.lenb
  have hb := hac x
  refine enter Try.func31 rfl rfl ?_
  refine W_seq ?_
  refine W_region (by kernel_rfl) ?_
  refine st (by rfl) (S_new (v := .pointer (some ⟨w.heap.size, 0, none⟩)) (ob := .cells #[.slice A n ca, .slice B n cb] 35) (by kernel_rfl) fun w1 hT2 hs3 hB4 => ?_)
  replace hB4 : Blk w1 (w.heap.size) 35 [.slice A n ca, .slice B n cb] := hB4
  have hT0 := hT2
  refine st (by rfl) (S_new (v := .pointer (some ⟨w1.heap.size, 0, none⟩)) (ob := .cells #[.slice none 0 0, .slice none 0 0] 35) (by kernel_rfl) fun w5 hT6 hs7 hB8 => ?_)
  replace hB8 : Blk w5 (w1.heap.size) 35 [.slice none 0 0, .slice none 0 0] := hB8
  have hT0 := hT0.t0 hT6
  have hB4 := hB4.tch0 hT6
  refine seg1 (ρ' := upd (upd (upd (ini [.agg #[.slice A n ca, .slice B n cb], .int .i64 ((x : Nat) : Int), .int .i64 d]) 3 (.pointer (some ⟨w.heap.size, 0, none⟩))) 6 (.pointer (some ⟨w1.heap.size, 0, none⟩))) 7 (.bool false)) (by kernel_rfl) ?_
  refine op_nil ?_
  refine W_seq ?_
  refine W_seq ?_
  refine W_region (by kernel_rfl) ?_
  refine st (by rfl) (S_val (v := .agg #[.slice A n ca, .slice B n cb]) (R_loadA [.slice A n ca, .slice B n cb] (by kernel_rfl) (by kernel_rfl) (by kernel_rfl) (fun k u hk => by rw [hB4.cell]; exact get_part _ 0 _ k u rfl hk)) ?_)
  refine seg1 (ρ' := upd (upd (upd (upd (upd (ini [.agg #[.slice A n ca, .slice B n cb], .int .i64 ((x : Nat) : Int), .int .i64 d]) 3 (.pointer (some ⟨w.heap.size, 0, none⟩))) 6 (.pointer (some ⟨w1.heap.size, 0, none⟩))) 7 (.bool false)) 8 (.agg #[.slice A n ca, .slice B n cb])) 9 (.int .i64 ((x : Nat) : Int))) (by kernel_rfl) ?_
  refine st (by rfl) (S_call (args := [.agg #[.slice A n ca, .slice B n cb], .int .i64 ((x : Nat) : Int)]) (by kernel_rfl) (ris_ok n A ca (.slice B n cb) ((x : Nat) : Int) _) ?_)
  rintro _ w9 ⟨rfl, hT10⟩
  have hT0 := hT0.t0 hT10
  have hB4 := hB4.tch0 hT10
  have hB8 := hB8.tch0 hT10
  refine seg1 (ρ' := upd (upd (upd (upd (upd (upd (upd (ini [.agg #[.slice A n ca, .slice B n cb], .int .i64 ((x : Nat) : Int), .int .i64 d]) 3 (.pointer (some ⟨w.heap.size, 0, none⟩))) 6 (.pointer (some ⟨w1.heap.size, 0, none⟩))) 7 (.bool false)) 8 (.agg #[.slice A n ca, .slice B n cb])) 9 (.int .i64 ((x : Nat) : Int))) 10 (.bool (isB n ((x : Nat) : Int)))) 11 (.bool (!(isB n ((x : Nat) : Int))))) (by kernel_rfl) ?_
  refine op_nil ?_
  refine W_cond (!(isB n ((x : Nat) : Int))) (by kernel_rfl) (by kernel_rfl) (fun hc11 => ?_) (fun hc11 => ?_)
  · replace hc11 : ((x : Nat) : Int) < 0 ∨ (n : Int) ≤ ((x : Nat) : Int) := (isB_f (not_t hc11))
    exfalso; omega
  · replace hc11 : 0 ≤ ((x : Nat) : Int) ∧ ((x : Nat) : Int) < (n : Int) := (isB_t (not_f hc11))
    refine W_skip ?_
    refine W_seq ?_
    refine W_region (by kernel_rfl) ?_
    refine seg1 (ρ' := upd (upd (upd (upd (upd (upd (upd (upd (ini [.agg #[.slice A n ca, .slice B n cb], .int .i64 ((x : Nat) : Int), .int .i64 d]) 3 (.pointer (some ⟨w.heap.size, 0, none⟩))) 6 (.pointer (some ⟨w1.heap.size, 0, none⟩))) 7 (.bool false)) 8 (.agg #[.slice A n ca, .slice B n cb])) 9 (.int .i64 ((x : Nat) : Int))) 10 (.bool (isB n ((x : Nat) : Int)))) 11 (.bool (!(isB n ((x : Nat) : Int))))) 13 (.pointer (some ⟨w.heap.size, 0, none⟩))) (by kernel_rfl) ?_
    refine st (by rfl) (S_val (v := .slice A n ca) (R_load (v := .slice A n ca) (by kernel_rfl) (by kernel_rfl) ((hB4.cell 0).trans rfl)) ?_)
    have hz_ := hT0.size
    refine st (by rfl) (S_append_nil 26 3 (.int .i64 0) 8 (m := n) (news := ints .i64 ac) (A := A) (c := ca) (by kernel_rfl) (by rfl) (by kernel_rfl) (by kernel_rfl) (by kernel_rfl) (hA.tch0 hT0) (ints_one .i64 _) (by simp only [maxLen]; omega) (by omega) (by omega) fun cp sp w12 hN hT13 => ?_)
    have hT0 := hT0.t0 hT13
    have hB4 := hB4.tch0 hT13
    have hB8 := hB8.tch0 hT13
    have sz_ := hT13.size
    have lt_ := hN.lt
    refine seg1 (ρ' := upd (upd (upd (upd (upd (upd (upd (upd (upd (upd (upd (ini [.agg #[.slice A n ca, .slice B n cb], .int .i64 ((x : Nat) : Int), .int .i64 d]) 3 (.pointer (some ⟨w.heap.size, 0, none⟩))) 6 (.pointer (some ⟨w1.heap.size, 0, none⟩))) 7 (.bool false)) 8 (.agg #[.slice A n ca, .slice B n cb])) 9 (.int .i64 ((x : Nat) : Int))) 10 (.bool (isB n ((x : Nat) : Int)))) 11 (.bool (!(isB n ((x : Nat) : Int))))) 13 (.pointer (some ⟨w.heap.size, 0, none⟩))) 14 (.slice A n ca)) 15 (.slice (some ⟨w9.heap.size, 0, none⟩) n cp)) 16 (.pointer (some ⟨w.heap.size, 0, none⟩))) (by kernel_rfl) ?_
    refine st (by rfl) (S_store (b := w.heap.size) (j := 0) (v := .slice (some ⟨w9.heap.size, 0, none⟩) n cp) (by kernel_rfl) (by kernel_rfl) (by kernel_rfl) (by rfl) hB4 (by simp) fun w14 hT15 hs16 hB4' => ?_)
    have hT0 := (hT0).then hT15 (fun c e => by have : c = w.heap.size := e; omega)
    have hB8 := hB8.tch hT15 (fun e => by have : w1.heap.size = w.heap.size := e; omega)
    have hN := hN.tch hT15 (hN.ne hB4 (by decide))
    replace hB4 : Blk w14 w.heap.size 35 [.slice (some ⟨w9.heap.size, 0, none⟩) n cp, .slice B n cb] := hB4'
    refine op_nil ?_
    refine W_seq ?_
    refine W_block ?_
    refine W_seq ?_
    refine W_fg [(0, .agg #[.slice A n ca, .slice B n cb]), (1, .int .i64 ((x : Nat) : Int)), (2, .int .i64 d), (3, .pointer (some ⟨w.heap.size, 0, none⟩)), (6, .pointer (some ⟨w1.heap.size, 0, none⟩)), (7, .bool false), (11, .bool (!(isB n ((x : Nat) : Int))))] (by kernel_rfl) fun ρ => ?_
    refine W_region (by kernel_rfl) ?_
    refine seg2 (ρ' := upd (upd (updL ρ [(0, .agg #[.slice A n ca, .slice B n cb]), (1, .int .i64 ((x : Nat) : Int)), (2, .int .i64 d), (3, .pointer (some ⟨w.heap.size, 0, none⟩)), (6, .pointer (some ⟨w1.heap.size, 0, none⟩)), (7, .bool false), (11, .bool (!(isB n ((x : Nat) : Int))))]) 29 (.int .i64 d)) 30 (.pointer (some ⟨w.heap.size, 0, none⟩))) (by kernel_rfl) ?_
    refine st (by rfl) (S_val (v := .slice (some ⟨w9.heap.size, 0, none⟩) n cp) (R_load (v := .slice (some ⟨w9.heap.size, 0, none⟩) n cp) (by kernel_rfl) (by kernel_rfl) ((hB4.cell 0).trans rfl)) ?_)
    refine seg1 (ρ' := upd (upd (upd (upd (updL ρ [(0, .agg #[.slice A n ca, .slice B n cb]), (1, .int .i64 ((x : Nat) : Int)), (2, .int .i64 d), (3, .pointer (some ⟨w.heap.size, 0, none⟩)), (6, .pointer (some ⟨w1.heap.size, 0, none⟩)), (7, .bool false), (11, .bool (!(isB n ((x : Nat) : Int))))]) 29 (.int .i64 d)) 30 (.pointer (some ⟨w.heap.size, 0, none⟩))) 31 (.slice (some ⟨w9.heap.size, 0, none⟩) n cp)) 32 (.int .i64 ((x : Nat) : Int))) (by kernel_rfl) ?_
    refine stv (v := .pointer (some ⟨w9.heap.size, x, none⟩)) (by rfl) (R_index0 (b := w9.heap.size) (len := n) (cap := cp) (k := .i64) (i := ((x : Nat) : Int)) (e := 3) x (by kernel_rfl) (by kernel_rfl) (by kernel_rfl) (by kernel_rfl) rfl (by first | omega | (simp only [List.length_set, List.length_map]; omega))) ?_
    refine st (by rfl) (S_val (v := .int .i64 (ac.getD x 0)) (R_load (v := .int .i64 (ac.getD x 0)) (by kernel_rfl) (by kernel_rfl) ((hN.cell _).trans (ints_atP (by first | omega | (simp only [List.length_set, List.length_map]; omega))))) ?_)
    refine seg1 (ρ' := upd (upd (upd (upd (upd (upd (upd (updL ρ [(0, .agg #[.slice A n ca, .slice B n cb]), (1, .int .i64 ((x : Nat) : Int)), (2, .int .i64 d), (3, .pointer (some ⟨w.heap.size, 0, none⟩)), (6, .pointer (some ⟨w1.heap.size, 0, none⟩)), (7, .bool false), (11, .bool (!(isB n ((x : Nat) : Int))))]) 29 (.int .i64 d)) 30 (.pointer (some ⟨w.heap.size, 0, none⟩))) 31 (.slice (some ⟨w9.heap.size, 0, none⟩) n cp)) 32 (.int .i64 ((x : Nat) : Int))) 33 (.pointer (some ⟨w9.heap.size, x, none⟩))) 34 (.int .i64 (ac.getD x 0))) 35 (.int .i64 (IntKind.i64.wrap (1099511627776 - (ac.getD x 0))))) (by kernel_rfl) ?_
    rw [show IntKind.i64.wrap (1099511627776 - (ac.getD x 0)) = 1099511627776 - (ac.getD x 0) from wrap_i64 (by omega) (by omega)]
    refine seg2 (ρ' := upd (upd (upd (upd (upd (upd (upd (upd (upd (updL ρ [(0, .agg #[.slice A n ca, .slice B n cb]), (1, .int .i64 ((x : Nat) : Int)), (2, .int .i64 d), (3, .pointer (some ⟨w.heap.size, 0, none⟩)), (6, .pointer (some ⟨w1.heap.size, 0, none⟩)), (7, .bool false), (11, .bool (!(isB n ((x : Nat) : Int))))]) 29 (.int .i64 d)) 30 (.pointer (some ⟨w.heap.size, 0, none⟩))) 31 (.slice (some ⟨w9.heap.size, 0, none⟩) n cp)) 32 (.int .i64 ((x : Nat) : Int))) 33 (.pointer (some ⟨w9.heap.size, x, none⟩))) 34 (.int .i64 (ac.getD x 0))) 35 (.int .i64 (1099511627776 - (ac.getD x 0)))) 36 (.bool (decide (d > 1099511627776 - (ac.getD x 0))))) 28 (.bool (decide (d > 1099511627776 - (ac.getD x 0))))) (by kernel_rfl) ?_
    refine op_nil ?_
    refine W_cond (decide (d > 1099511627776 - (ac.getD x 0))) (by kernel_rfl) (by kernel_rfl) (fun hc17 => ?_) (fun hc17 => ?_)
    · replace hc17 : 1099511627776 - (ac.getD x 0) < d := (of_decide_eq_true hc17)
      refine W_fg [(0, .agg #[.slice A n ca, .slice B n cb]), (1, .int .i64 ((x : Nat) : Int)), (2, .int .i64 d), (3, .pointer (some ⟨w.heap.size, 0, none⟩)), (6, .pointer (some ⟨w1.heap.size, 0, none⟩)), (7, .bool false), (11, .bool (!(isB n ((x : Nat) : Int)))), (28, .bool (decide (d > 1099511627776 - (ac.getD x 0))))] (by kernel_rfl) fun ρ => ?_
      refine W_region (by kernel_rfl) ?_
      refine seg1 (ρ' := upd (updL ρ [(0, .agg #[.slice A n ca, .slice B n cb]), (1, .int .i64 ((x : Nat) : Int)), (2, .int .i64 d), (3, .pointer (some ⟨w.heap.size, 0, none⟩)), (6, .pointer (some ⟨w1.heap.size, 0, none⟩)), (7, .bool false), (11, .bool (!(isB n ((x : Nat) : Int)))), (28, .bool (decide (d > 1099511627776 - (ac.getD x 0))))]) 37 (.pointer (some ⟨w.heap.size, 0, none⟩))) (by kernel_rfl) ?_
      refine st (by rfl) (S_val (v := .slice (some ⟨w9.heap.size, 0, none⟩) n cp) (R_load (v := .slice (some ⟨w9.heap.size, 0, none⟩) n cp) (by kernel_rfl) (by kernel_rfl) ((hB4.cell 0).trans rfl)) ?_)
      refine seg1 (ρ' := upd (upd (upd (updL ρ [(0, .agg #[.slice A n ca, .slice B n cb]), (1, .int .i64 ((x : Nat) : Int)), (2, .int .i64 d), (3, .pointer (some ⟨w.heap.size, 0, none⟩)), (6, .pointer (some ⟨w1.heap.size, 0, none⟩)), (7, .bool false), (11, .bool (!(isB n ((x : Nat) : Int)))), (28, .bool (decide (d > 1099511627776 - (ac.getD x 0))))]) 37 (.pointer (some ⟨w.heap.size, 0, none⟩))) 38 (.slice (some ⟨w9.heap.size, 0, none⟩) n cp)) 39 (.int .i64 ((x : Nat) : Int))) (by kernel_rfl) ?_
      refine stv (v := .pointer (some ⟨w9.heap.size, x, none⟩)) (by rfl) (R_index0 (b := w9.heap.size) (len := n) (cap := cp) (k := .i64) (i := ((x : Nat) : Int)) (e := 3) x (by kernel_rfl) (by kernel_rfl) (by kernel_rfl) (by kernel_rfl) rfl (by first | omega | (simp only [List.length_set, List.length_map]; omega))) ?_
      refine st (by rfl) (S_store (b := w9.heap.size) (j := x) (v := .int .i64 1099511627776) (by kernel_rfl) (by kernel_rfl) (by kernel_rfl) (by rfl) hN (by (try rw [List.length_append]); rw [ints_length]; first | omega | (simp only [List.length_set, List.length_map]; omega)) fun w18 hT19 hs20 hN' => ?_)
      have hT0 := (hT0).then hT19 (fun c e => by have : c = w9.heap.size := e; omega)
      have hB4 := hB4.tch hT19 (hB4.ne hN (by decide))
      have hB8 := hB8.tch hT19 (hB8.ne hN (by decide))
      replace hN : Blk w18 (w9.heap.size) 3 (ints .i64 (ac.set x 1099511627776) ++ sp) := (ints_setP (l := ac) (sp := sp) (i := x) 1099511627776 (by first | omega | (simp only [List.length_set, List.length_map]; omega))) ▸ hN'
      refine op_nil ?_
      refine W_seq ?_
      refine W_region (by kernel_rfl) ?_
      refine st (by rfl) (S_val (v := .agg #[.slice (some ⟨w9.heap.size, 0, none⟩) n cp, .slice B n cb]) (R_loadA [.slice (some ⟨w9.heap.size, 0, none⟩) n cp, .slice B n cb] (by kernel_rfl) (by kernel_rfl) (by kernel_rfl) (fun k u hk => by rw [hB4.cell]; exact get_part _ 0 _ k u rfl hk)) ?_)
      refine st (by rfl) (S_storeA (b := w1.heap.size) (j := 0) (cs := [.slice (some ⟨w9.heap.size, 0, none⟩) n cp, .slice B n cb]) (by kernel_rfl) (by kernel_rfl) (by kernel_rfl) (by simp [oneV]) hB8 (by simp) fun w21 hT22 hs23 hB8' => ?_)
      have hT0 := (hT0).then hT22 (fun c e => by have : c = w1.heap.size := e; omega)
      have hB4 := hB4.tch hT22 (fun e => by have : w.heap.size = w1.heap.size := e; omega)
      have hN := hN.tch hT22 (hN.ne hB8 (by decide))
      replace hB8 : Blk w21 w1.heap.size 35 [.slice (some ⟨w9.heap.size, 0, none⟩) n cp, .slice B n cb] := hB8'
      refine seg1 (ρ' := upd (upd (upd (upd (upd (upd (updL ρ [(0, .agg #[.slice A n ca, .slice B n cb]), (1, .int .i64 ((x : Nat) : Int)), (2, .int .i64 d), (3, .pointer (some ⟨w.heap.size, 0, none⟩)), (6, .pointer (some ⟨w1.heap.size, 0, none⟩)), (7, .bool false), (11, .bool (!(isB n ((x : Nat) : Int)))), (28, .bool (decide (d > 1099511627776 - (ac.getD x 0))))]) 37 (.pointer (some ⟨w.heap.size, 0, none⟩))) 38 (.slice (some ⟨w9.heap.size, 0, none⟩) n cp)) 39 (.int .i64 ((x : Nat) : Int))) 40 (.pointer (some ⟨w9.heap.size, x, none⟩))) 54 (.agg #[.slice (some ⟨w9.heap.size, 0, none⟩) n cp, .slice B n cb])) 7 (.bool true)) (by kernel_rfl) ?_
      refine op_nil ?_
      refine W_ret ?_
      refine ⟨_, Res_cell1 (b := w1.heap.size) (cs := [.slice (some ⟨w9.heap.size, 0, none⟩) n cp, .slice B n cb]) (by rfl) (by kernel_rfl) (by kernel_rfl) (by kernel_rfl) hB8 (by kernel_rfl) (by kernel_rfl), ?_⟩
      rw [show HeapP.bumpA (ac.getD x 0) d = 1099511627776 from by unfold HeapP.bumpA; first | (rw [if_pos (by omega)]; done) | (rw [if_neg (by omega)]; first | (rw [if_pos (by omega)]; done) | (rw [if_neg (by omega)]; done))]
      exact ⟨_, _, _, rfl, hN, (by omega), hT0⟩
    · replace hc17 : d ≤ 1099511627776 - (ac.getD x 0) := (Int.not_lt.1 (of_decide_eq_false hc17))
      refine W_seq ?_
      refine W_fg [(0, .agg #[.slice A n ca, .slice B n cb]), (1, .int .i64 ((x : Nat) : Int)), (2, .int .i64 d), (3, .pointer (some ⟨w.heap.size, 0, none⟩)), (6, .pointer (some ⟨w1.heap.size, 0, none⟩)), (7, .bool false), (11, .bool (!(isB n ((x : Nat) : Int)))), (28, .bool (decide (d > 1099511627776 - (ac.getD x 0))))] (by kernel_rfl) fun ρ => ?_
      refine W_region (by kernel_rfl) ?_
      refine seg2 (ρ' := upd (upd (updL ρ [(0, .agg #[.slice A n ca, .slice B n cb]), (1, .int .i64 ((x : Nat) : Int)), (2, .int .i64 d), (3, .pointer (some ⟨w.heap.size, 0, none⟩)), (6, .pointer (some ⟨w1.heap.size, 0, none⟩)), (7, .bool false), (11, .bool (!(isB n ((x : Nat) : Int)))), (28, .bool (decide (d > 1099511627776 - (ac.getD x 0))))]) 42 (.int .i64 d)) 43 (.pointer (some ⟨w.heap.size, 0, none⟩))) (by kernel_rfl) ?_
      refine st (by rfl) (S_val (v := .slice (some ⟨w9.heap.size, 0, none⟩) n cp) (R_load (v := .slice (some ⟨w9.heap.size, 0, none⟩) n cp) (by kernel_rfl) (by kernel_rfl) ((hB4.cell 0).trans rfl)) ?_)
      refine seg1 (ρ' := upd (upd (upd (upd (updL ρ [(0, .agg #[.slice A n ca, .slice B n cb]), (1, .int .i64 ((x : Nat) : Int)), (2, .int .i64 d), (3, .pointer (some ⟨w.heap.size, 0, none⟩)), (6, .pointer (some ⟨w1.heap.size, 0, none⟩)), (7, .bool false), (11, .bool (!(isB n ((x : Nat) : Int)))), (28, .bool (decide (d > 1099511627776 - (ac.getD x 0))))]) 42 (.int .i64 d)) 43 (.pointer (some ⟨w.heap.size, 0, none⟩))) 44 (.slice (some ⟨w9.heap.size, 0, none⟩) n cp)) 45 (.int .i64 ((x : Nat) : Int))) (by kernel_rfl) ?_
      refine stv (v := .pointer (some ⟨w9.heap.size, x, none⟩)) (by rfl) (R_index0 (b := w9.heap.size) (len := n) (cap := cp) (k := .i64) (i := ((x : Nat) : Int)) (e := 3) x (by kernel_rfl) (by kernel_rfl) (by kernel_rfl) (by kernel_rfl) rfl (by first | omega | (simp only [List.length_set, List.length_map]; omega))) ?_
      refine st (by rfl) (S_val (v := .int .i64 (ac.getD x 0)) (R_load (v := .int .i64 (ac.getD x 0)) (by kernel_rfl) (by kernel_rfl) ((hN.cell _).trans (ints_atP (by first | omega | (simp only [List.length_set, List.length_map]; omega))))) ?_)
      refine seg1 (ρ' := upd (upd (upd (upd (upd (upd (upd (updL ρ [(0, .agg #[.slice A n ca, .slice B n cb]), (1, .int .i64 ((x : Nat) : Int)), (2, .int .i64 d), (3, .pointer (some ⟨w.heap.size, 0, none⟩)), (6, .pointer (some ⟨w1.heap.size, 0, none⟩)), (7, .bool false), (11, .bool (!(isB n ((x : Nat) : Int)))), (28, .bool (decide (d > 1099511627776 - (ac.getD x 0))))]) 42 (.int .i64 d)) 43 (.pointer (some ⟨w.heap.size, 0, none⟩))) 44 (.slice (some ⟨w9.heap.size, 0, none⟩) n cp)) 45 (.int .i64 ((x : Nat) : Int))) 46 (.pointer (some ⟨w9.heap.size, x, none⟩))) 47 (.int .i64 (ac.getD x 0))) 48 (.int .i64 (IntKind.i64.wrap (0 - (ac.getD x 0))))) (by kernel_rfl) ?_
      rw [show IntKind.i64.wrap (0 - (ac.getD x 0)) = 0 - (ac.getD x 0) from wrap_i64 (by omega) (by omega)]
      refine seg2 (ρ' := upd (upd (upd (upd (upd (upd (upd (upd (upd (updL ρ [(0, .agg #[.slice A n ca, .slice B n cb]), (1, .int .i64 ((x : Nat) : Int)), (2, .int .i64 d), (3, .pointer (some ⟨w.heap.size, 0, none⟩)), (6, .pointer (some ⟨w1.heap.size, 0, none⟩)), (7, .bool false), (11, .bool (!(isB n ((x : Nat) : Int)))), (28, .bool (decide (d > 1099511627776 - (ac.getD x 0))))]) 42 (.int .i64 d)) 43 (.pointer (some ⟨w.heap.size, 0, none⟩))) 44 (.slice (some ⟨w9.heap.size, 0, none⟩) n cp)) 45 (.int .i64 ((x : Nat) : Int))) 46 (.pointer (some ⟨w9.heap.size, x, none⟩))) 47 (.int .i64 (ac.getD x 0))) 48 (.int .i64 (0 - (ac.getD x 0)))) 49 (.bool (decide (d < 0 - (ac.getD x 0))))) 41 (.bool (decide (d < 0 - (ac.getD x 0))))) (by kernel_rfl) ?_
      refine op_nil ?_
      refine W_cond (decide (d < 0 - (ac.getD x 0))) (by kernel_rfl) (by kernel_rfl) (fun hc24 => ?_) (fun hc24 => ?_)
      · replace hc24 : d < 0 - (ac.getD x 0) := (of_decide_eq_true hc24)
        refine W_fg [(0, .agg #[.slice A n ca, .slice B n cb]), (1, .int .i64 ((x : Nat) : Int)), (2, .int .i64 d), (3, .pointer (some ⟨w.heap.size, 0, none⟩)), (6, .pointer (some ⟨w1.heap.size, 0, none⟩)), (7, .bool false), (11, .bool (!(isB n ((x : Nat) : Int)))), (28, .bool (decide (d > 1099511627776 - (ac.getD x 0)))), (41, .bool (decide (d < 0 - (ac.getD x 0))))] (by kernel_rfl) fun ρ => ?_
        refine W_region (by kernel_rfl) ?_
        refine seg1 (ρ' := upd (updL ρ [(0, .agg #[.slice A n ca, .slice B n cb]), (1, .int .i64 ((x : Nat) : Int)), (2, .int .i64 d), (3, .pointer (some ⟨w.heap.size, 0, none⟩)), (6, .pointer (some ⟨w1.heap.size, 0, none⟩)), (7, .bool false), (11, .bool (!(isB n ((x : Nat) : Int)))), (28, .bool (decide (d > 1099511627776 - (ac.getD x 0)))), (41, .bool (decide (d < 0 - (ac.getD x 0))))]) 50 (.pointer (some ⟨w.heap.size, 0, none⟩))) (by kernel_rfl) ?_
        refine st (by rfl) (S_val (v := .slice (some ⟨w9.heap.size, 0, none⟩) n cp) (R_load (v := .slice (some ⟨w9.heap.size, 0, none⟩) n cp) (by kernel_rfl) (by kernel_rfl) ((hB4.cell 0).trans rfl)) ?_)
        refine seg1 (ρ' := upd (upd (upd (updL ρ [(0, .agg #[.slice A n ca, .slice B n cb]), (1, .int .i64 ((x : Nat) : Int)), (2, .int .i64 d), (3, .pointer (some ⟨w.heap.size, 0, none⟩)), (6, .pointer (some ⟨w1.heap.size, 0, none⟩)), (7, .bool false), (11, .bool (!(isB n ((x : Nat) : Int)))), (28, .bool (decide (d > 1099511627776 - (ac.getD x 0)))), (41, .bool (decide (d < 0 - (ac.getD x 0))))]) 50 (.pointer (some ⟨w.heap.size, 0, none⟩))) 51 (.slice (some ⟨w9.heap.size, 0, none⟩) n cp)) 52 (.int .i64 ((x : Nat) : Int))) (by kernel_rfl) ?_
        refine stv (v := .pointer (some ⟨w9.heap.size, x, none⟩)) (by rfl) (R_index0 (b := w9.heap.size) (len := n) (cap := cp) (k := .i64) (i := ((x : Nat) : Int)) (e := 3) x (by kernel_rfl) (by kernel_rfl) (by kernel_rfl) (by kernel_rfl) rfl (by first | omega | (simp only [List.length_set, List.length_map]; omega))) ?_
        refine st (by rfl) (S_store (b := w9.heap.size) (j := x) (v := .int .i64 0) (by kernel_rfl) (by kernel_rfl) (by kernel_rfl) (by rfl) hN (by (try rw [List.length_append]); rw [ints_length]; first | omega | (simp only [List.length_set, List.length_map]; omega)) fun w25 hT26 hs27 hN' => ?_)
        have hT0 := (hT0).then hT26 (fun c e => by have : c = w9.heap.size := e; omega)
        have hB4 := hB4.tch hT26 (hB4.ne hN (by decide))
        have hB8 := hB8.tch hT26 (hB8.ne hN (by decide))
        replace hN : Blk w25 (w9.heap.size) 3 (ints .i64 (ac.set x 0) ++ sp) := (ints_setP (l := ac) (sp := sp) (i := x) 0 (by first | omega | (simp only [List.length_set, List.length_map]; omega))) ▸ hN'
        refine op_nil ?_
        refine W_seq ?_
        refine W_region (by kernel_rfl) ?_
        refine st (by rfl) (S_val (v := .agg #[.slice (some ⟨w9.heap.size, 0, none⟩) n cp, .slice B n cb]) (R_loadA [.slice (some ⟨w9.heap.size, 0, none⟩) n cp, .slice B n cb] (by kernel_rfl) (by kernel_rfl) (by kernel_rfl) (fun k u hk => by rw [hB4.cell]; exact get_part _ 0 _ k u rfl hk)) ?_)
        refine st (by rfl) (S_storeA (b := w1.heap.size) (j := 0) (cs := [.slice (some ⟨w9.heap.size, 0, none⟩) n cp, .slice B n cb]) (by kernel_rfl) (by kernel_rfl) (by kernel_rfl) (by simp [oneV]) hB8 (by simp) fun w28 hT29 hs30 hB8' => ?_)
        have hT0 := (hT0).then hT29 (fun c e => by have : c = w1.heap.size := e; omega)
        have hB4 := hB4.tch hT29 (fun e => by have : w.heap.size = w1.heap.size := e; omega)
        have hN := hN.tch hT29 (hN.ne hB8 (by decide))
        replace hB8 : Blk w28 w1.heap.size 35 [.slice (some ⟨w9.heap.size, 0, none⟩) n cp, .slice B n cb] := hB8'
        refine seg1 (ρ' := upd (upd (upd (upd (upd (upd (updL ρ [(0, .agg #[.slice A n ca, .slice B n cb]), (1, .int .i64 ((x : Nat) : Int)), (2, .int .i64 d), (3, .pointer (some ⟨w.heap.size, 0, none⟩)), (6, .pointer (some ⟨w1.heap.size, 0, none⟩)), (7, .bool false), (11, .bool (!(isB n ((x : Nat) : Int)))), (28, .bool (decide (d > 1099511627776 - (ac.getD x 0)))), (41, .bool (decide (d < 0 - (ac.getD x 0))))]) 50 (.pointer (some ⟨w.heap.size, 0, none⟩))) 51 (.slice (some ⟨w9.heap.size, 0, none⟩) n cp)) 52 (.int .i64 ((x : Nat) : Int))) 53 (.pointer (some ⟨w9.heap.size, x, none⟩))) 54 (.agg #[.slice (some ⟨w9.heap.size, 0, none⟩) n cp, .slice B n cb])) 7 (.bool true)) (by kernel_rfl) ?_
        refine op_nil ?_
        refine W_ret ?_
        refine ⟨_, Res_cell1 (b := w1.heap.size) (cs := [.slice (some ⟨w9.heap.size, 0, none⟩) n cp, .slice B n cb]) (by rfl) (by kernel_rfl) (by kernel_rfl) (by kernel_rfl) hB8 (by kernel_rfl) (by kernel_rfl), ?_⟩
        rw [show HeapP.bumpA (ac.getD x 0) d = 0 from by unfold HeapP.bumpA; first | (rw [if_pos (by omega)]; done) | (rw [if_neg (by omega)]; first | (rw [if_pos (by omega)]; done) | (rw [if_neg (by omega)]; done))]
        exact ⟨_, _, _, rfl, hN, (by omega), hT0⟩
      · replace hc24 : 0 - (ac.getD x 0) ≤ d := (Int.not_lt.1 (of_decide_eq_false hc24))
        refine W_fg [(0, .agg #[.slice A n ca, .slice B n cb]), (1, .int .i64 ((x : Nat) : Int)), (2, .int .i64 d), (3, .pointer (some ⟨w.heap.size, 0, none⟩)), (6, .pointer (some ⟨w1.heap.size, 0, none⟩)), (7, .bool false), (11, .bool (!(isB n ((x : Nat) : Int)))), (28, .bool (decide (d > 1099511627776 - (ac.getD x 0)))), (41, .bool (decide (d < 0 - (ac.getD x 0))))] (by kernel_rfl) fun ρ => ?_
        refine W_tail 10 (by kernel_rfl) (by kernel_rfl) (by kernel_rfl) fun w31 hT32 hh33 => ?_
        have hT0 := hT0.t0 hT32
        have hB4 := hB4.tch0 hT32
        have hB8 := hB8.tch0 hT32
        have hN := hN.tch0 hT32
        refine qseg1 (ρ' := upd (updL ρ [(0, .agg #[.slice A n ca, .slice B n cb]), (1, .int .i64 ((x : Nat) : Int)), (2, .int .i64 d), (3, .pointer (some ⟨w.heap.size, 0, none⟩)), (6, .pointer (some ⟨w1.heap.size, 0, none⟩)), (7, .bool false), (11, .bool (!(isB n ((x : Nat) : Int)))), (28, .bool (decide (d > 1099511627776 - (ac.getD x 0)))), (41, .bool (decide (d < 0 - (ac.getD x 0))))]) 17 (.pointer (some ⟨w.heap.size, 0, none⟩))) (by kernel_rfl) ?_
        refine q_val (v := .slice (some ⟨w9.heap.size, 0, none⟩) n cp) (by rfl) (R_load (v := .slice (some ⟨w9.heap.size, 0, none⟩) n cp) (by kernel_rfl) (by kernel_rfl) ((hB4.cell 0).trans rfl)) ?_
        refine qseg2 (ρ' := upd (upd (upd (upd (updL ρ [(0, .agg #[.slice A n ca, .slice B n cb]), (1, .int .i64 ((x : Nat) : Int)), (2, .int .i64 d), (3, .pointer (some ⟨w.heap.size, 0, none⟩)), (6, .pointer (some ⟨w1.heap.size, 0, none⟩)), (7, .bool false), (11, .bool (!(isB n ((x : Nat) : Int)))), (28, .bool (decide (d > 1099511627776 - (ac.getD x 0)))), (41, .bool (decide (d < 0 - (ac.getD x 0))))]) 17 (.pointer (some ⟨w.heap.size, 0, none⟩))) 18 (.slice (some ⟨w9.heap.size, 0, none⟩) n cp)) 19 (.int .i64 ((x : Nat) : Int))) 20 (.pointer (some ⟨w.heap.size, 0, none⟩))) (by kernel_rfl) ?_
        refine q_val (v := .slice (some ⟨w9.heap.size, 0, none⟩) n cp) (by rfl) (R_load (v := .slice (some ⟨w9.heap.size, 0, none⟩) n cp) (by kernel_rfl) (by kernel_rfl) ((hB4.cell 0).trans rfl)) ?_
        refine qseg1 (ρ' := upd (upd (upd (upd (upd (upd (updL ρ [(0, .agg #[.slice A n ca, .slice B n cb]), (1, .int .i64 ((x : Nat) : Int)), (2, .int .i64 d), (3, .pointer (some ⟨w.heap.size, 0, none⟩)), (6, .pointer (some ⟨w1.heap.size, 0, none⟩)), (7, .bool false), (11, .bool (!(isB n ((x : Nat) : Int)))), (28, .bool (decide (d > 1099511627776 - (ac.getD x 0)))), (41, .bool (decide (d < 0 - (ac.getD x 0))))]) 17 (.pointer (some ⟨w.heap.size, 0, none⟩))) 18 (.slice (some ⟨w9.heap.size, 0, none⟩) n cp)) 19 (.int .i64 ((x : Nat) : Int))) 20 (.pointer (some ⟨w.heap.size, 0, none⟩))) 21 (.slice (some ⟨w9.heap.size, 0, none⟩) n cp)) 22 (.int .i64 ((x : Nat) : Int))) (by kernel_rfl) ?_
        refine q_val (v := .pointer (some ⟨w9.heap.size, x, none⟩)) (by rfl) (R_index0 (b := w9.heap.size) (len := n) (cap := cp) (k := .i64) (i := ((x : Nat) : Int)) (e := 3) x (by kernel_rfl) (by kernel_rfl) (by kernel_rfl) (by kernel_rfl) rfl (by first | omega | (simp only [List.length_set, List.length_map]; omega))) ?_
        refine q_val (v := .int .i64 (ac.getD x 0)) (by rfl) (R_load (v := .int .i64 (ac.getD x 0)) (by kernel_rfl) (by kernel_rfl) ((hN.cell _).trans (ints_atP (by first | omega | (simp only [List.length_set, List.length_map]; omega))))) ?_
        refine qseg2 (ρ' := upd (upd (upd (upd (upd (upd (upd (upd (upd (upd (updL ρ [(0, .agg #[.slice A n ca, .slice B n cb]), (1, .int .i64 ((x : Nat) : Int)), (2, .int .i64 d), (3, .pointer (some ⟨w.heap.size, 0, none⟩)), (6, .pointer (some ⟨w1.heap.size, 0, none⟩)), (7, .bool false), (11, .bool (!(isB n ((x : Nat) : Int)))), (28, .bool (decide (d > 1099511627776 - (ac.getD x 0)))), (41, .bool (decide (d < 0 - (ac.getD x 0))))]) 17 (.pointer (some ⟨w.heap.size, 0, none⟩))) 18 (.slice (some ⟨w9.heap.size, 0, none⟩) n cp)) 19 (.int .i64 ((x : Nat) : Int))) 20 (.pointer (some ⟨w.heap.size, 0, none⟩))) 21 (.slice (some ⟨w9.heap.size, 0, none⟩) n cp)) 22 (.int .i64 ((x : Nat) : Int))) 23 (.pointer (some ⟨w9.heap.size, x, none⟩))) 24 (.int .i64 (ac.getD x 0))) 25 (.int .i64 d)) 26 (.int .i64 (IntKind.i64.wrap ((ac.getD x 0) + d)))) (by kernel_rfl) ?_
        rw [show IntKind.i64.wrap ((ac.getD x 0) + d) = (ac.getD x 0) + d from wrap_i64 (by omega) (by omega)]
        refine q_nil ?_
        refine stv (v := .pointer (some ⟨w9.heap.size, x, none⟩)) (by rfl) (R_index0 (b := w9.heap.size) (len := n) (cap := cp) (k := .i64) (i := ((x : Nat) : Int)) (e := 3) x (by kernel_rfl) (by kernel_rfl) (by kernel_rfl) (by kernel_rfl) rfl (by first | omega | (simp only [List.length_set, List.length_map]; omega))) ?_
        refine st (by rfl) (S_store (b := w9.heap.size) (j := x) (v := .int .i64 ((ac.getD x 0) + d)) (by kernel_rfl) (by kernel_rfl) (by kernel_rfl) (by rfl) hN (by (try rw [List.length_append]); rw [ints_length]; first | omega | (simp only [List.length_set, List.length_map]; omega)) fun w34 hT35 hs36 hN' => ?_)
        have hT0 := (hT0).then hT35 (fun c e => by have : c = w9.heap.size := e; omega)
        have hB4 := hB4.tch hT35 (hB4.ne hN (by decide))
        have hB8 := hB8.tch hT35 (hB8.ne hN (by decide))
        replace hN : Blk w34 (w9.heap.size) 3 (ints .i64 (ac.set x ((ac.getD x 0) + d)) ++ sp) := (ints_setP (l := ac) (sp := sp) (i := x) ((ac.getD x 0) + d) (by first | omega | (simp only [List.length_set, List.length_map]; omega))) ▸ hN'
        refine op_nil ?_
        refine W_seq ?_
        refine W_fg [(0, .agg #[.slice A n ca, .slice B n cb]), (1, .int .i64 ((x : Nat) : Int)), (2, .int .i64 d), (3, .pointer (some ⟨w.heap.size, 0, none⟩)), (6, .pointer (some ⟨w1.heap.size, 0, none⟩)), (7, .bool false), (11, .bool (!(isB n ((x : Nat) : Int)))), (28, .bool (decide (d > 1099511627776 - (ac.getD x 0)))), (41, .bool (decide (d < 0 - (ac.getD x 0))))] (by kernel_rfl) fun ρ => ?_
        refine W_region (by kernel_rfl) ?_
        refine st (by rfl) (S_val (v := .agg #[.slice (some ⟨w9.heap.size, 0, none⟩) n cp, .slice B n cb]) (R_loadA [.slice (some ⟨w9.heap.size, 0, none⟩) n cp, .slice B n cb] (by kernel_rfl) (by kernel_rfl) (by kernel_rfl) (fun k u hk => by rw [hB4.cell]; exact get_part _ 0 _ k u rfl hk)) ?_)
        refine st (by rfl) (S_storeA (b := w1.heap.size) (j := 0) (cs := [.slice (some ⟨w9.heap.size, 0, none⟩) n cp, .slice B n cb]) (by kernel_rfl) (by kernel_rfl) (by kernel_rfl) (by simp [oneV]) hB8 (by simp) fun w37 hT38 hs39 hB8' => ?_)
        have hT0 := (hT0).then hT38 (fun c e => by have : c = w1.heap.size := e; omega)
        have hB4 := hB4.tch hT38 (fun e => by have : w.heap.size = w1.heap.size := e; omega)
        have hN := hN.tch hT38 (hN.ne hB8 (by decide))
        replace hB8 : Blk w37 w1.heap.size 35 [.slice (some ⟨w9.heap.size, 0, none⟩) n cp, .slice B n cb] := hB8'
        refine seg1 (ρ' := upd (upd (updL ρ [(0, .agg #[.slice A n ca, .slice B n cb]), (1, .int .i64 ((x : Nat) : Int)), (2, .int .i64 d), (3, .pointer (some ⟨w.heap.size, 0, none⟩)), (6, .pointer (some ⟨w1.heap.size, 0, none⟩)), (7, .bool false), (11, .bool (!(isB n ((x : Nat) : Int)))), (28, .bool (decide (d > 1099511627776 - (ac.getD x 0)))), (41, .bool (decide (d < 0 - (ac.getD x 0))))]) 54 (.agg #[.slice (some ⟨w9.heap.size, 0, none⟩) n cp, .slice B n cb])) 7 (.bool true)) (by kernel_rfl) ?_
        refine op_nil ?_
        refine W_ret ?_
        refine ⟨_, Res_cell1 (b := w1.heap.size) (cs := [.slice (some ⟨w9.heap.size, 0, none⟩) n cp, .slice B n cb]) (by rfl) (by kernel_rfl) (by kernel_rfl) (by kernel_rfl) hB8 (by kernel_rfl) (by kernel_rfl), ?_⟩
        rw [show HeapP.bumpA (ac.getD x 0) d = ((ac.getD x 0) + d) from by unfold HeapP.bumpA; first | (rw [if_pos (by omega)]; done) | (rw [if_neg (by omega)]; first | (rw [if_pos (by omega)]; done) | (rw [if_neg (by omega)]; done))]
        exact ⟨_, _, _, rfl, hN, (by omega), hT0⟩

set_option maxRecDepth 100000 in
theorem rbump_no (n : Nat) (A B : Option Addr) (ca cb : Nat) (ac : List Int) (wt : List Bool) (v d : Int) (w : World) (hA : RdW w 1 n A (ints .i64 ac)) (hB : RdW w 1 n B (boolsV wt)) (hn : n ≤ 1048576) (hx : v < 0 ∨ (n : Int) ≤ v) : Ret Try.prog 31 [.agg #[.slice A n ca, .slice B n cb], .int .i64 v, .int .i64 d] w fun x w' => x = .tuple #[.agg #[.slice A n ca, .slice B n cb], .bool false] ∧ Tch N0 w w' := by
  have la := hA.len
  have lb := hB.lenb
  refine enter Try.func31 rfl rfl ?_
  refine W_seq ?_
  refine W_region (by kernel_rfl) ?_
  refine st (by rfl) (S_new (v := .pointer (some ⟨w.heap.size, 0, none⟩)) (ob := .cells #[.slice A n ca, .slice B n cb] 35) (by kernel_rfl) fun w1 hT2 hs3 hB4 => ?_)
  replace hB4 : Blk w1 (w.heap.size) 35 [.slice A n ca, .slice B n cb] := hB4
  have hT0 := hT2
  refine st (by rfl) (S_new (v := .pointer (some ⟨w1.heap.size, 0, none⟩)) (ob := .cells #[.slice none 0 0, .slice none 0 0] 35) (by kernel_rfl) fun w5 hT6 hs7 hB8 => ?_)
  replace hB8 : Blk w5 (w1.heap.size) 35 [.slice none 0 0, .slice none 0 0] := hB8
  have hT0 := hT0.t0 hT6
  have hB4 := hB4.tch0 hT6
  refine seg1 (ρ' := upd (upd (upd (ini [.agg #[.slice A n ca, .slice B n cb], .int .i64 v, .int .i64 d]) 3 (.pointer (some ⟨w.heap.size, 0, none⟩))) 6 (.pointer (some ⟨w1.heap.size, 0, none⟩))) 7 (.bool false)) (by kernel_rfl) ?_
  refine op_nil ?_
  refine W_seq ?_
  refine W_seq ?_
  refine W_region (by kernel_rfl) ?_
  refine st (by rfl) (S_val (v := .agg #[.slice A n ca, .slice B n cb]) (R_loadA [.slice A n ca, .slice B n cb] (by kernel_rfl) (by kernel_rfl) (by kernel_rfl) (fun k u hk => by rw [hB4.cell]; exact get_part _ 0 _ k u rfl hk)) ?_)
  refine seg1 (ρ' := upd (upd (upd (upd (upd (ini [.agg #[.slice A n ca, .slice B n cb], .int .i64 v, .int .i64 d]) 3 (.pointer (some ⟨w.heap.size, 0, none⟩))) 6 (.pointer (some ⟨w1.heap.size, 0, none⟩))) 7 (.bool false)) 8 (.agg #[.slice A n ca, .slice B n cb])) 9 (.int .i64 v)) (by kernel_rfl) ?_
  refine st (by rfl) (S_call (args := [.agg #[.slice A n ca, .slice B n cb], .int .i64 v]) (by kernel_rfl) (ris_ok n A ca (.slice B n cb) v _) ?_)
  rintro _ w9 ⟨rfl, hT10⟩
  have hT0 := hT0.t0 hT10
  have hB4 := hB4.tch0 hT10
  have hB8 := hB8.tch0 hT10
  refine seg1 (ρ' := upd (upd (upd (upd (upd (upd (upd (ini [.agg #[.slice A n ca, .slice B n cb], .int .i64 v, .int .i64 d]) 3 (.pointer (some ⟨w.heap.size, 0, none⟩))) 6 (.pointer (some ⟨w1.heap.size, 0, none⟩))) 7 (.bool false)) 8 (.agg #[.slice A n ca, .slice B n cb])) 9 (.int .i64 v)) 10 (.bool (isB n v))) 11 (.bool (!(isB n v)))) (by kernel_rfl) ?_
  refine op_nil ?_
  refine W_cond (!(isB n v)) (by kernel_rfl) (by kernel_rfl) (fun hc11 => ?_) (fun hc11 => ?_)
  · replace hc11 : v < 0 ∨ (n : Int) ≤ v := (isB_f (not_t hc11))
    refine W_seq ?_
    refine W_region (by kernel_rfl) ?_
    refine st (by rfl) (S_val (v := .agg #[.slice A n ca, .slice B n cb]) (R_loadA [.slice A n ca, .slice B n cb] (by kernel_rfl) (by kernel_rfl) (by kernel_rfl) (fun k u hk => by rw [hB4.cell]; exact get_part _ 0 _ k u rfl hk)) ?_)
    refine st (by rfl) (S_storeA (b := w1.heap.size) (j := 0) (cs := [.slice A n ca, .slice B n cb]) (by kernel_rfl) (by kernel_rfl) (by kernel_rfl) (by simp [oneV]) hB8 (by simp) fun w12 hT13 hs14 hB8' => ?_)
    have hT0 := (hT0).then hT13 (fun c e => by have : c = w1.heap.size := e; omega)
    have hB4 := hB4.tch hT13 (fun e => by have : w.heap.size = w1.heap.size := e; omega)
    replace hB8 : Blk w12 w1.heap.size 35 [.slice A n ca, .slice B n cb] := hB8'
    refine seg1 (ρ' := upd (upd (upd (upd (upd (upd (upd (upd (upd (ini [.agg #[.slice A n ca, .slice B n cb], .int .i64 v, .int .i64 d]) 3 (.pointer (some ⟨w.heap.size, 0, none⟩))) 6 (.pointer (some ⟨w1.heap.size, 0, none⟩))) 7 (.bool false)) 8 (.agg #[.slice A n ca, .slice B n cb])) 9 (.int .i64 v)) 10 (.bool (isB n v))) 11 (.bool (!(isB n v)))) 12 (.agg #[.slice A n ca, .slice B n cb])) 7 (.bool false)) (by kernel_rfl) ?_
    refine op_nil ?_
    refine W_ret ?_
    exact ⟨_, Res_cell1 (b := w1.heap.size) (cs := [.slice A n ca, .slice B n cb]) (by rfl) (by kernel_rfl) (by kernel_rfl) (by kernel_rfl) hB8 (by kernel_rfl) (by kernel_rfl), ⟨rfl, hT0⟩⟩
  · replace hc11 : 0 ≤ v ∧ v < (n : Int) := (isB_t (not_f hc11))
    exfalso; omega

end Go.Proofs.YthfjceemphhgcaaV
