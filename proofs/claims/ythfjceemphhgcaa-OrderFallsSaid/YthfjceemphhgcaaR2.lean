/- Walks of functions of the program and of the document's texts: each call returns what the plain function says, and turns nothing that lay. The conditions stand with each theorem. -/
import Derived.Test.YthfjceemphhgcaaProg
import Derived.Test.YthfjceemphhgcaaVx2
import Derived.Test.YthfjceemphhgcaaR1
set_option linter.unusedVariables false
set_option linter.unusedSimpArgs false
namespace Go.Proofs.YthfjceemphhgcaaV
open Go Go.RowKit Go.Proofs

theorem isB_t {n : Nat} {v : Int} (h : isB n v = true) : 0 ≤ v ∧ v < (n : Int) := of_decide_eq_true h
theorem isB_f {n : Nat} {v : Int} (h : isB n v = false) : v < 0 ∨ (n : Int) ≤ v := by have := of_decide_eq_false h; omega
def BestB (ac : List Int) (wt : List Bool) (v : Nat) (a : Int) : Prop := (a = -1 ∧ ∀ y, y < v → wt.getD y false = false) ∨ (0 ≤ a ∧ a.toNat < v ∧ wt.getD a.toNat false = true ∧ ∀ y, y < v → wt.getD y false = true → y ≠ a.toNat → HeapP.lt ac a.toNat y)
theorem BestB.zero (ac : List Int) (wt : List Bool) : BestB ac wt 0 (-1) := .inl ⟨rfl, fun y h => by omega⟩
theorem BestB.skip {ac : List Int} {wt : List Bool} {v : Nat} {a : Int} (h : BestB ac wt v a) (hw : wt.getD v false = false) : BestB ac wt (v + 1) a := by
  rcases h with ⟨h1, h2⟩ | ⟨h1, h2, h3, h4⟩
  · exact .inl ⟨h1, fun y hy => by
      by_cases e : y = v
      · subst e; exact hw
      · exact h2 y (by omega)⟩
  · exact .inr ⟨h1, by omega, h3, fun y hy hwy hne => by
      by_cases e : y = v
      · subst e; rw [hw] at hwy; cases hwy
      · exact h4 y (by omega) hwy hne⟩
theorem BestB.first {ac : List Int} {wt : List Bool} {v : Nat} {a : Int} (h : BestB ac wt v a) (hw : wt.getD v false = true) (ha : a < 0) : BestB ac wt (v + 1) (v : Int) := by
  rcases h with ⟨h1, h2⟩ | ⟨h1, h2, h3, h4⟩
  · exact .inr ⟨by omega, by omega, by rw [Int.toNat_natCast]; exact hw, fun y hy hwy hne => by
      rw [Int.toNat_natCast] at hne
      have := h2 y (by omega)
      rw [this] at hwy; cases hwy⟩
  · omega
theorem BestB.take {ac : List Int} {wt : List Bool} {v : Nat} {a : Int} (h : BestB ac wt v a) (hw : wt.getD v false = true) (ha : 0 ≤ a) (hc : ac.getD a.toNat 0 < ac.getD v 0) : BestB ac wt (v + 1) (v : Int) := by
  rcases h with ⟨h1, h2⟩ | ⟨h1, h2, h3, h4⟩
  · omega
  · exact .inr ⟨by omega, by omega, by rw [Int.toNat_natCast]; exact hw, fun y hy hwy hne => by
      rw [Int.toNat_natCast] at hne ⊢
      by_cases e : y = a.toNat
      · subst e; rw [HeapP.lt_iff]; omega
      · have := h4 y (by omega) hwy e
        rw [HeapP.lt_iff] at this ⊢
        omega⟩
theorem BestB.keep {ac : List Int} {wt : List Bool} {v : Nat} {a : Int} (h : BestB ac wt v a) (ha : 0 ≤ a) (hc : ac.getD v 0 ≤ ac.getD a.toNat 0) : BestB ac wt (v + 1) a := by
  rcases h with ⟨h1, h2⟩ | ⟨h1, h2, h3, h4⟩
  · omega
  · exact .inr ⟨h1, by omega, h3, fun y hy hwy hne => by
      by_cases e : y = v
      · subst e; rw [HeapP.lt_iff]; omega
      · exact h4 y (by omega) hwy hne⟩
theorem BestB.none {ac : List Int} {wt : List Bool} {n : Nat} {a : Int} (h : BestB ac wt n a) (hw : ∀ y, y < n → wt.getD y false = false) : a = -1 := by
  rcases h with ⟨h1, _⟩ | ⟨h1, h2, h3, _⟩
  · exact h1
  · rw [hw _ h2] at h3; cases h3
theorem BestB.some {ac : List Int} {wt : List Bool} {n x : Nat} {a : Int} (h : BestB ac wt n a) (hx : x < n) (hw : wt.getD x false = true) (hb : ∀ y, y < n → wt.getD y false = true → y ≠ x → HeapP.lt ac x y) : a = (x : Int) := by
  rcases h with ⟨h1, h2⟩ | ⟨h1, h2, h3, h4⟩
  · rw [h2 x hx] at hw; cases hw
  · by_cases e : x = a.toNat
    · omega
    · exact absurd (h4 x hx hw e) ((HeapP.lt_strict ac).asym (hb _ h2 h3 (fun q => e q.symm)))

set_option maxRecDepth 100000 in
theorem rpush_yes (n : Nat) (A B : Option Addr) (ca cb : Nat) (ac : List Int) (wt : List Bool) (x : Nat) (w : World) (hA : RdW w 1 n A (ints .i64 ac)) (hB : RdW w 1 n B (boolsV wt)) (hn : n ≤ 1048576) (hx : x < n) (hw : wt.getD x false = false) : Ret Try.prog 29 [.agg #[.slice A n ca, .slice B n cb], .int .i64 ((x : Nat) : Int)] w fun v w' => ∃ g cp sp, v = .tuple #[.agg #[.slice A n ca, .slice (some ⟨g, 0, none⟩) n cp], .bool true] ∧ Blk w' g 4 (boolsV (wt.set x true) ++ sp) ∧ w.heap.size ≤ g ∧ Tch N0 w w' := by
  have la := hA.len
  have lb := hB.lenb
  refine enter Try.func29 rfl rfl ?_
  refine W_seq ?_
  refine W_region (by kernel_rfl) ?_
  refine st (by rfl) (S_new (v := .pointer (some ⟨w.heap.size, 0, none⟩)) (ob := .cells #[.slice A n ca, .slice B n cb] 35) (by kernel_rfl) fun w1 hT2 hs3 hB4 => ?_)
  replace hB4 : Blk w1 (w.heap.size) 35 [.slice A n ca, .slice B n cb] := hB4
  have hT0 := hT2
  refine st (by rfl) (S_new (v := .pointer (some ⟨w1.heap.size, 0, none⟩)) (ob := .cells #[.slice none 0 0, .slice none 0 0] 35) (by kernel_rfl) fun w5 hT6 hs7 hB8 => ?_)
  replace hB8 : Blk w5 (w1.heap.size) 35 [.slice none 0 0, .slice none 0 0] := hB8
  have hT0 := hT0.t0 hT6
  have hB4 := hB4.tch0 hT6
  refine seg1 (ρ' := upd (upd (upd (ini [.agg #[.slice A n ca, .slice B n cb], .int .i64 ((x : Nat) : Int)]) 2 (.pointer (some ⟨w.heap.size, 0, none⟩))) 4 (.pointer (some ⟨w1.heap.size, 0, none⟩))) 5 (.bool false)) (by kernel_rfl) ?_
  refine op_nil ?_
  refine W_seq ?_
  refine W_seq ?_
  refine W_region (by kernel_rfl) ?_
  refine st (by rfl) (S_val (v := .agg #[.slice A n ca, .slice B n cb]) (R_loadA [.slice A n ca, .slice B n cb] (by kernel_rfl) (by kernel_rfl) (by kernel_rfl) (fun k u hk => by rw [hB4.cell]; exact get_part _ 0 _ k u rfl hk)) ?_)
  refine seg1 (ρ' := upd (upd (upd (upd (upd (ini [.agg #[.slice A n ca, .slice B n cb], .int .i64 ((x : Nat) : Int)]) 2 (.pointer (some ⟨w.heap.size, 0, none⟩))) 4 (.pointer (some ⟨w1.heap.size, 0, none⟩))) 5 (.bool false)) 6 (.agg #[.slice A n ca, .slice B n cb])) 7 (.int .i64 ((x : Nat) : Int))) (by kernel_rfl) ?_
  refine st (by rfl) (S_call (args := [.agg #[.slice A n ca, .slice B n cb], .int .i64 ((x : Nat) : Int)]) (by kernel_rfl) (ris_ok n A ca (.slice B n cb) ((x : Nat) : Int) _) ?_)
  rintro _ w9 ⟨rfl, hT10⟩
  have hT0 := hT0.t0 hT10
  have hB4 := hB4.tch0 hT10
  have hB8 := hB8.tch0 hT10
  refine seg2 (ρ' := upd (upd (upd (upd (upd (upd (upd (upd (ini [.agg #[.slice A n ca, .slice B n cb], .int .i64 ((x : Nat) : Int)]) 2 (.pointer (some ⟨w.heap.size, 0, none⟩))) 4 (.pointer (some ⟨w1.heap.size, 0, none⟩))) 5 (.bool false)) 6 (.agg #[.slice A n ca, .slice B n cb])) 7 (.int .i64 ((x : Nat) : Int))) 8 (.bool (isB n ((x : Nat) : Int)))) 9 (.bool (!(isB n ((x : Nat) : Int))))) 10 (.bool (!(isB n ((x : Nat) : Int))))) (by kernel_rfl) ?_
  cases hb11 : isB n ((x : Nat) : Int)
  · replace hb11 : ((x : Nat) : Int) < 0 ∨ (n : Int) ≤ ((x : Nat) : Int) := (isB_f hb11)
    exfalso; omega
  · replace hb11 : 0 ≤ ((x : Nat) : Int) ∧ ((x : Nat) : Int) < (n : Int) := (isB_t hb11)
    refine seg1 (ρ' := upd (upd (upd (upd (upd (upd (upd (upd (upd (ini [.agg #[.slice A n ca, .slice B n cb], .int .i64 ((x : Nat) : Int)]) 2 (.pointer (some ⟨w.heap.size, 0, none⟩))) 4 (.pointer (some ⟨w1.heap.size, 0, none⟩))) 5 (.bool false)) 6 (.agg #[.slice A n ca, .slice B n cb])) 7 (.int .i64 ((x : Nat) : Int))) 8 (.bool true)) 9 (.bool false)) 10 (.bool false)) 11 (.pointer (some ⟨w.heap.size, 1, none⟩))) (by kernel_rfl) ?_
    refine st (by kernel_rfl) (S_val (v := .slice B n cb) (R_load (v := .slice B n cb) (by kernel_rfl) (by kernel_rfl) ((hB4.cell 1).trans rfl)) ?_)
    refine seg1 (ρ' := upd (upd (upd (upd (upd (upd (upd (upd (upd (upd (upd (ini [.agg #[.slice A n ca, .slice B n cb], .int .i64 ((x : Nat) : Int)]) 2 (.pointer (some ⟨w.heap.size, 0, none⟩))) 4 (.pointer (some ⟨w1.heap.size, 0, none⟩))) 5 (.bool false)) 6 (.agg #[.slice A n ca, .slice B n cb])) 7 (.int .i64 ((x : Nat) : Int))) 8 (.bool true)) 9 (.bool false)) 10 (.bool false)) 11 (.pointer (some ⟨w.heap.size, 1, none⟩))) 12 (.slice B n cb)) 13 (.int .i64 ((x : Nat) : Int))) (by kernel_rfl) ?_
    refine stv (v := ptrAt B x) (by kernel_rfl) (R_indexRd1 (len := n) (cap := cb) (k := .i64) (i := ((x : Nat) : Int)) (e := 4) x (hB.tch0 hT0) (by kernel_rfl) (by kernel_rfl) (by kernel_rfl) (by kernel_rfl) rfl (by omega)) ?_
    refine stv (v := .bool (wt.getD x false)) (by kernel_rfl) (R_loadRd (v := .bool (wt.getD x false)) (hB.tch0 hT0) (by omega) (by kernel_rfl) (by kernel_rfl) (boolsV_at wt (by omega))) ?_
    refine seg1 (ρ' := upd (upd (upd (upd (upd (upd (upd (upd (upd (upd (upd (upd (upd (upd (ini [.agg #[.slice A n ca, .slice B n cb], .int .i64 ((x : Nat) : Int)]) 2 (.pointer (some ⟨w.heap.size, 0, none⟩))) 4 (.pointer (some ⟨w1.heap.size, 0, none⟩))) 5 (.bool false)) 6 (.agg #[.slice A n ca, .slice B n cb])) 7 (.int .i64 ((x : Nat) : Int))) 8 (.bool true)) 9 (.bool false)) 10 (.bool false)) 11 (.pointer (some ⟨w.heap.size, 1, none⟩))) 12 (.slice B n cb)) 13 (.int .i64 ((x : Nat) : Int))) 14 (ptrAt B x)) 15 (.bool (wt.getD x false))) 16 (.bool (wt.getD x false))) (by kernel_rfl) ?_
    refine op_nil ?_
    refine W_cond (wt.getD x false) (by kernel_rfl) (by kernel_rfl) (fun hc12 => ?_) (fun hc12 => ?_)
    · replace hc12 : wt.getD x false = true := (hc12)
      rw [hw] at hc12; cases hc12
    · replace hc12 : wt.getD x false = false := (hc12)
      refine W_skip ?_
      refine W_seq ?_
      refine W_fg [(0, .agg #[.slice A n ca, .slice B n cb]), (1, .int .i64 ((x : Nat) : Int)), (2, .pointer (some ⟨w.heap.size, 0, none⟩)), (4, .pointer (some ⟨w1.heap.size, 0, none⟩)), (5, .bool false), (16, .bool (wt.getD x false))] (by kernel_rfl) fun ρ => ?_
      refine W_region (by kernel_rfl) ?_
      refine st (by rfl) (S_val (v := .agg #[.slice A n ca, .slice B n cb]) (R_loadA [.slice A n ca, .slice B n cb] (by kernel_rfl) (by kernel_rfl) (by kernel_rfl) (fun k u hk => by rw [hB4.cell]; exact get_part _ 0 _ k u rfl hk)) ?_)
      refine seg1 (ρ' := upd (upd (updL ρ [(0, .agg #[.slice A n ca, .slice B n cb]), (1, .int .i64 ((x : Nat) : Int)), (2, .pointer (some ⟨w.heap.size, 0, none⟩)), (4, .pointer (some ⟨w1.heap.size, 0, none⟩)), (5, .bool false), (16, .bool (wt.getD x false))]) 18 (.agg #[.slice A n ca, .slice B n cb])) 19 (.int .i64 ((x : Nat) : Int))) (by kernel_rfl) ?_
      have hz_ := hT0.size
      refine st (by rfl) (S_call (args := [.agg #[.slice A n ca, .slice B n cb], .int .i64 ((x : Nat) : Int), .bool true]) (by kernel_rfl) (rset_ok n A B ca cb ac wt x true _ (hA.tch0 hT0) (hB.tch0 hT0) hn (by omega)) ?_)
      rintro _ w13 ⟨g15, cp16, sp17, rfl, hN18, hg19, hT14⟩
      have hT0 := hT0.t0 hT14
      have hB4 := hB4.tch0 hT14
      have hB8 := hB8.tch0 hT14
      refine st (by rfl) (S_storeA (b := w1.heap.size) (j := 0) (cs := [.slice A n ca, .slice (some ⟨g15, 0, none⟩) n cp16]) (by kernel_rfl) (by kernel_rfl) (by kernel_rfl) (by simp [oneV]) hB8 (by simp) fun w20 hT21 hs22 hB8' => ?_)
      have hT0 := (hT0).then hT21 (fun c e => by have : c = w1.heap.size := e; omega)
      have hB4 := hB4.tch hT21 (fun e => by have : w.heap.size = w1.heap.size := e; omega)
      have hN18 := hN18.tch hT21 (hN18.ne hB8 (by decide))
      replace hB8 : Blk w20 w1.heap.size 35 [.slice A n ca, .slice (some ⟨g15, 0, none⟩) n cp16] := hB8'
      refine seg1 (ρ' := upd (upd (upd (upd (updL ρ [(0, .agg #[.slice A n ca, .slice B n cb]), (1, .int .i64 ((x : Nat) : Int)), (2, .pointer (some ⟨w.heap.size, 0, none⟩)), (4, .pointer (some ⟨w1.heap.size, 0, none⟩)), (5, .bool false), (16, .bool (wt.getD x false))]) 18 (.agg #[.slice A n ca, .slice B n cb])) 19 (.int .i64 ((x : Nat) : Int))) 20 (.agg #[.slice A n ca, .slice (some ⟨g15, 0, none⟩) n cp16])) 5 (.bool true)) (by kernel_rfl) ?_
      refine op_nil ?_
      refine W_ret ?_
      exact ⟨_, Res_cell1 (b := w1.heap.size) (cs := [.slice A n ca, .slice (some ⟨g15, 0, none⟩) n cp16]) (by rfl) (by kernel_rfl) (by kernel_rfl) (by kernel_rfl) hB8 (by kernel_rfl) (by kernel_rfl), ⟨_, _, _, rfl, hN18, (by omega), hT0⟩⟩

set_option maxRecDepth 100000 in
theorem rpush_no (n : Nat) (A B : Option Addr) (ca cb : Nat) (ac : List Int) (wt : List Bool) (v : Int) (w : World) (hA : RdW w 1 n A (ints .i64 ac)) (hB : RdW w 1 n B (boolsV wt)) (hn : n ≤ 1048576) (hw : (v < 0 ∨ (n : Int) ≤ v) ∨ wt.getD v.toNat false = true) : Ret Try.prog 29 [.agg #[.slice A n ca, .slice B n cb], .int .i64 v] w fun x w' => x = .tuple #[.agg #[.slice A n ca, .slice B n cb], .bool false] ∧ Tch N0 w w' := by
  have la := hA.len
  have lb := hB.lenb
  refine enter Try.func29 rfl rfl ?_
  refine W_seq ?_
  refine W_region (by kernel_rfl) ?_
  refine st (by rfl) (S_new (v := .pointer (some ⟨w.heap.size, 0, none⟩)) (ob := .cells #[.slice A n ca, .slice B n cb] 35) (by kernel_rfl) fun w1 hT2 hs3 hB4 => ?_)
  replace hB4 : Blk w1 (w.heap.size) 35 [.slice A n ca, .slice B n cb] := hB4
  have hT0 := hT2
  refine st (by rfl) (S_new (v := .pointer (some ⟨w1.heap.size, 0, none⟩)) (ob := .cells #[.slice none 0 0, .slice none 0 0] 35) (by kernel_rfl) fun w5 hT6 hs7 hB8 => ?_)
  replace hB8 : Blk w5 (w1.heap.size) 35 [.slice none 0 0, .slice none 0 0] := hB8
  have hT0 := hT0.t0 hT6
  have hB4 := hB4.tch0 hT6
  refine seg1 (ρ' := upd (upd (upd (ini [.agg #[.slice A n ca, .slice B n cb], .int .i64 v]) 2 (.pointer (some ⟨w.heap.size, 0, none⟩))) 4 (.pointer (some ⟨w1.heap.size, 0, none⟩))) 5 (.bool false)) (by kernel_rfl) ?_
  refine op_nil ?_
  refine W_seq ?_
  refine W_seq ?_
  refine W_region (by kernel_rfl) ?_
  refine st (by rfl) (S_val (v := .agg #[.slice A n ca, .slice B n cb]) (R_loadA [.slice A n ca, .slice B n cb] (by kernel_rfl) (by kernel_rfl) (by kernel_rfl) (fun k u hk => by rw [hB4.cell]; exact get_part _ 0 _ k u rfl hk)) ?_)
  refine seg1 (ρ' := upd (upd (upd (upd (upd (ini [.agg #[.slice A n ca, .slice B n cb], .int .i64 v]) 2 (.pointer (some ⟨w.heap.size, 0, none⟩))) 4 (.pointer (some ⟨w1.heap.size, 0, none⟩))) 5 (.bool false)) 6 (.agg #[.slice A n ca, .slice B n cb])) 7 (.int .i64 v)) (by kernel_rfl) ?_
  refine st (by rfl) (S_call (args := [.agg #[.slice A n ca, .slice B n cb], .int .i64 v]) (by kernel_rfl) (ris_ok n A ca (.slice B n cb) v _) ?_)
  rintro _ w9 ⟨rfl, hT10⟩
  have hT0 := hT0.t0 hT10
  have hB4 := hB4.tch0 hT10
  have hB8 := hB8.tch0 hT10
  refine seg2 (ρ' := upd (upd (upd (upd (upd (upd (upd (upd (ini [.agg #[.slice A n ca, .slice B n cb], .int .i64 v]) 2 (.pointer (some ⟨w.heap.size, 0, none⟩))) 4 (.pointer (some ⟨w1.heap.size, 0, none⟩))) 5 (.bool false)) 6 (.agg #[.slice A n ca, .slice B n cb])) 7 (.int .i64 v)) 8 (.bool (isB n v))) 9 (.bool (!(isB n v)))) 10 (.bool (!(isB n v)))) (by kernel_rfl) ?_
  cases hb11 : isB n v
  · replace hb11 : v < 0 ∨ (n : Int) ≤ v := (isB_f hb11)
    refine seg6 (ρ' := upd (upd (upd (upd (upd (upd (upd (upd (upd (upd (upd (upd (upd (upd (ini [.agg #[.slice A n ca, .slice B n cb], .int .i64 v]) 2 (.pointer (some ⟨w.heap.size, 0, none⟩))) 4 (.pointer (some ⟨w1.heap.size, 0, none⟩))) 5 (.bool false)) 6 (.agg #[.slice A n ca, .slice B n cb])) 7 (.int .i64 v)) 8 (.bool false)) 9 (.bool true)) 10 (.bool true)) 11 (undef)) 12 (undef)) 13 (undef)) 14 (undef)) 15 (undef)) 16 (.bool true)) (by kernel_rfl) ?_
    refine op_nil ?_
    refine W_cond true (by kernel_rfl) (by kernel_rfl) (fun _ => ?_) (fun h => nomatch h)
    refine W_seq ?_
    refine W_fg [(0, .agg #[.slice A n ca, .slice B n cb]), (1, .int .i64 v), (2, .pointer (some ⟨w.heap.size, 0, none⟩)), (4, .pointer (some ⟨w1.heap.size, 0, none⟩)), (5, .bool false), (16, .bool true)] (by kernel_rfl) fun ρ => ?_
    refine W_region (by kernel_rfl) ?_
    refine st (by rfl) (S_val (v := .agg #[.slice A n ca, .slice B n cb]) (R_loadA [.slice A n ca, .slice B n cb] (by kernel_rfl) (by kernel_rfl) (by kernel_rfl) (fun k u hk => by rw [hB4.cell]; exact get_part _ 0 _ k u rfl hk)) ?_)
    refine st (by rfl) (S_storeA (b := w1.heap.size) (j := 0) (cs := [.slice A n ca, .slice B n cb]) (by kernel_rfl) (by kernel_rfl) (by kernel_rfl) (by simp [oneV]) hB8 (by simp) fun w12 hT13 hs14 hB8' => ?_)
    have hT0 := (hT0).then hT13 (fun c e => by have : c = w1.heap.size := e; omega)
    have hB4 := hB4.tch hT13 (fun e => by have : w.heap.size = w1.heap.size := e; omega)
    replace hB8 : Blk w12 w1.heap.size 35 [.slice A n ca, .slice B n cb] := hB8'
    refine seg1 (ρ' := upd (upd (updL ρ [(0, .agg #[.slice A n ca, .slice B n cb]), (1, .int .i64 v), (2, .pointer (some ⟨w.heap.size, 0, none⟩)), (4, .pointer (some ⟨w1.heap.size, 0, none⟩)), (5, .bool false), (16, .bool true)]) 17 (.agg #[.slice A n ca, .slice B n cb])) 5 (.bool false)) (by kernel_rfl) ?_
    refine op_nil ?_
    refine W_ret ?_
    exact ⟨_, Res_cell1 (b := w1.heap.size) (cs := [.slice A n ca, .slice B n cb]) (by rfl) (by kernel_rfl) (by kernel_rfl) (by kernel_rfl) hB8 (by kernel_rfl) (by kernel_rfl), ⟨rfl, hT0⟩⟩
  · replace hb11 : 0 ≤ v ∧ v < (n : Int) := (isB_t hb11)
    refine seg1 (ρ' := upd (upd (upd (upd (upd (upd (upd (upd (upd (ini [.agg #[.slice A n ca, .slice B n cb], .int .i64 v]) 2 (.pointer (some ⟨w.heap.size, 0, none⟩))) 4 (.pointer (some ⟨w1.heap.size, 0, none⟩))) 5 (.bool false)) 6 (.agg #[.slice A n ca, .slice B n cb])) 7 (.int .i64 v)) 8 (.bool true)) 9 (.bool false)) 10 (.bool false)) 11 (.pointer (some ⟨w.heap.size, 1, none⟩))) (by kernel_rfl) ?_
    refine st (by kernel_rfl) (S_val (v := .slice B n cb) (R_load (v := .slice B n cb) (by kernel_rfl) (by kernel_rfl) ((hB4.cell 1).trans rfl)) ?_)
    refine seg1 (ρ' := upd (upd (upd (upd (upd (upd (upd (upd (upd (upd (upd (ini [.agg #[.slice A n ca, .slice B n cb], .int .i64 v]) 2 (.pointer (some ⟨w.heap.size, 0, none⟩))) 4 (.pointer (some ⟨w1.heap.size, 0, none⟩))) 5 (.bool false)) 6 (.agg #[.slice A n ca, .slice B n cb])) 7 (.int .i64 v)) 8 (.bool true)) 9 (.bool false)) 10 (.bool false)) 11 (.pointer (some ⟨w.heap.size, 1, none⟩))) 12 (.slice B n cb)) 13 (.int .i64 v)) (by kernel_rfl) ?_
    refine stv (v := ptrAt B v.toNat) (by kernel_rfl) (R_indexRd1 (len := n) (cap := cb) (k := .i64) (i := v) (e := 4) v.toNat (hB.tch0 hT0) (by kernel_rfl) (by kernel_rfl) (by kernel_rfl) (by kernel_rfl) (by omega) (by omega)) ?_
    refine stv (v := .bool (wt.getD v.toNat false)) (by kernel_rfl) (R_loadRd (v := .bool (wt.getD v.toNat false)) (hB.tch0 hT0) (by omega) (by kernel_rfl) (by kernel_rfl) (boolsV_at wt (by omega))) ?_
    refine seg1 (ρ' := upd (upd (upd (upd (upd (upd (upd (upd (upd (upd (upd (upd (upd (upd (ini [.agg #[.slice A n ca, .slice B n cb], .int .i64 v]) 2 (.pointer (some ⟨w.heap.size, 0, none⟩))) 4 (.pointer (some ⟨w1.heap.size, 0, none⟩))) 5 (.bool false)) 6 (.agg #[.slice A n ca, .slice B n cb])) 7 (.int .i64 v)) 8 (.bool true)) 9 (.bool false)) 10 (.bool false)) 11 (.pointer (some ⟨w.heap.size, 1, none⟩))) 12 (.slice B n cb)) 13 (.int .i64 v)) 14 (ptrAt B v.toNat)) 15 (.bool (wt.getD v.toNat false))) 16 (.bool (wt.getD v.toNat false))) (by kernel_rfl) ?_
    refine op_nil ?_
    refine W_cond (wt.getD v.toNat false) (by kernel_rfl) (by kernel_rfl) (fun hc15 => ?_) (fun hc15 => ?_)
    · replace hc15 : wt.getD v.toNat false = true := (hc15)
      refine W_seq ?_
      refine W_fg [(0, .agg #[.slice A n ca, .slice B n cb]), (1, .int .i64 v), (2, .pointer (some ⟨w.heap.size, 0, none⟩)), (4, .pointer (some ⟨w1.heap.size, 0, none⟩)), (5, .bool false), (16, .bool (wt.getD v.toNat false))] (by kernel_rfl) fun ρ => ?_
      refine W_region (by kernel_rfl) ?_
      refine st (by rfl) (S_val (v := .agg #[.slice A n ca, .slice B n cb]) (R_loadA [.slice A n ca, .slice B n cb] (by kernel_rfl) (by kernel_rfl) (by kernel_rfl) (fun k u hk => by rw [hB4.cell]; exact get_part _ 0 _ k u rfl hk)) ?_)
      refine st (by rfl) (S_storeA (b := w1.heap.size) (j := 0) (cs := [.slice A n ca, .slice B n cb]) (by kernel_rfl) (by kernel_rfl) (by kernel_rfl) (by simp [oneV]) hB8 (by simp) fun w16 hT17 hs18 hB8' => ?_)
      have hT0 := (hT0).then hT17 (fun c e => by have : c = w1.heap.size := e; omega)
      have hB4 := hB4.tch hT17 (fun e => by have : w.heap.size = w1.heap.size := e; omega)
      replace hB8 : Blk w16 w1.heap.size 35 [.slice A n ca, .slice B n cb] := hB8'
      refine seg1 (ρ' := upd (upd (updL ρ [(0, .agg #[.slice A n ca, .slice B n cb]), (1, .int .i64 v), (2, .pointer (some ⟨w.heap.size, 0, none⟩)), (4, .pointer (some ⟨w1.heap.size, 0, none⟩)), (5, .bool false), (16, .bool (wt.getD v.toNat false))]) 17 (.agg #[.slice A n ca, .slice B n cb])) 5 (.bool false)) (by kernel_rfl) ?_
      refine op_nil ?_
      refine W_ret ?_
      exact ⟨_, Res_cell1 (b := w1.heap.size) (cs := [.slice A n ca, .slice B n cb]) (by rfl) (by kernel_rfl) (by kernel_rfl) (by kernel_rfl) hB8 (by kernel_rfl) (by kernel_rfl), ⟨rfl, hT0⟩⟩
    · replace hc15 : wt.getD v.toNat false = false := (hc15)
      exact absurd (hw.resolve_left (by omega)) (by rw [hc15]; decide)

end Go.Proofs.YthfjceemphhgcaaV
