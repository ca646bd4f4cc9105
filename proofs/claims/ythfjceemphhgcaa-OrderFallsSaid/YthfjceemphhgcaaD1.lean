/- Walks of functions of the program and of the document's texts: each call returns what the plain function says, and turns nothing that lay. The conditions stand with each theorem. -/
import Derived.Test.YthfjceemphhgcaaProg
import Derived.Test.YthfjceemphhgcaaVx2
import Derived.Test.YthfjceemphhgcaaA1
import Derived.Test.YthfjceemphhgcaaU2
set_option linter.unusedVariables false
set_option linter.unusedSimpArgs false
namespace Go.Proofs.YthfjceemphhgcaaV
open Go Go.RowKit Go.Proofs

set_option maxRecDepth 100000 in
theorem do_ok (F : Nat → Prop) (p n : Nat) (hp : List Nat) (ac : List Int) (A B : Option Addr) (ca cb : Nat) (ac2 : List Int) (wt : List Bool) (k v d : Int) (w : World) (hO : Ord F w p n hp ac) (hA : RdT F 3 w n A (ints .i64 ac2)) (hB : RdT F 4 w n B (boolsV wt)) (hac : okA ac2) : Ret Try.prog 18 [.pointer (some ⟨p, 0, none⟩), .agg #[.slice A n ca, .slice B n cb], .agg #[.int .i64 k, .int .i64 v, .int .i64 d]] w fun x w' => DoR F w p n hp ac ac2 wt x w' := by
  have hn := hO.n_le
  have hA0 := hA
  have hFl : ∀ b, F b → b < w.heap.size ∨ (1 : Nat) ≤ 0 := fun b hb => .inl (hO.F_lt b hb)
  refine enter Try.func18 rfl rfl ?_
  refine W_seq ?_
  refine W_region (by kernel_rfl) ?_
  refine st (by rfl) (S_new (v := .pointer (some ⟨w.heap.size, 0, none⟩)) (ob := .cells #[.slice A n ca, .slice B n cb] 35) (by kernel_rfl) fun w1 hT2 hs3 hB4 => ?_)
  replace hB4 : Blk w1 (w.heap.size) 35 [.slice A n ca, .slice B n cb] := hB4
  have hT0 := hT2
  have hO := hO.tch0 hT2
  have hA := hA.tch0 hT2
  have hB := hB.tch0 hT2
  have z9 := hT0.size
  have l10 := hB4.lt
  refine st (by rfl) (S_new (v := .pointer (some ⟨w1.heap.size, 0, none⟩)) (ob := .cells #[.int .i64 k, .int .i64 v, .int .i64 d] 40) (by kernel_rfl) fun w5 hT6 hs7 hB8 => ?_)
  replace hB8 : Blk w5 (w1.heap.size) 40 [.int .i64 k, .int .i64 v, .int .i64 d] := hB8
  have hT0 := hT0.t0 hT6
  have hO := hO.tch0 hT6
  have hA := hA.tch0 hT6
  have hB := hB.tch0 hT6
  have hB4 := hB4.tch0 hT6
  have z15 := hT0.size
  have l16 := hB4.lt
  have l17 := hB8.lt
  refine st (by rfl) (S_new (v := .pointer (some ⟨w5.heap.size, 0, none⟩)) (ob := .cells #[.slice none 0 0, .slice none 0 0] 35) (by kernel_rfl) fun w11 hT12 hs13 hB14 => ?_)
  replace hB14 : Blk w11 (w5.heap.size) 35 [.slice none 0 0, .slice none 0 0] := hB14
  have hT0 := hT0.t0 hT12
  have hO := hO.tch0 hT12
  have hA := hA.tch0 hT12
  have hB := hB.tch0 hT12
  have hB4 := hB4.tch0 hT12
  have hB8 := hB8.tch0 hT12
  refine seg1 (ρ' := upd (upd (upd (upd (ini [.pointer (some ⟨p, 0, none⟩), .agg #[.slice A n ca, .slice B n cb], .agg #[.int .i64 k, .int .i64 v, .int .i64 d]]) 4 (.pointer (some ⟨w.heap.size, 0, none⟩))) 5 (.pointer (some ⟨w1.heap.size, 0, none⟩))) 6 (.pointer (some ⟨w5.heap.size, 0, none⟩))) 7 (.bool false)) (by kernel_rfl) ?_
  refine op_nil ?_
  refine W_seq ?_
  refine W_seq ?_
  refine W_region (by kernel_rfl) ?_
  refine seg1 (ρ' := upd (upd (upd (upd (upd (ini [.pointer (some ⟨p, 0, none⟩), .agg #[.slice A n ca, .slice B n cb], .agg #[.int .i64 k, .int .i64 v, .int .i64 d]]) 4 (.pointer (some ⟨w.heap.size, 0, none⟩))) 5 (.pointer (some ⟨w1.heap.size, 0, none⟩))) 6 (.pointer (some ⟨w5.heap.size, 0, none⟩))) 7 (.bool false)) 17 (.pointer (some ⟨w1.heap.size, 0, none⟩))) (by kernel_rfl) ?_
  refine st (by rfl) (S_val (v := .int .i64 k) (R_load (v := .int .i64 k) (by kernel_rfl) (by kernel_rfl) ((hB8.cell 0).trans rfl)) ?_)
  refine op_nil ?_
  refine W_block ?_
  refine W_seq ?_
  refine W_region (by kernel_rfl) ?_
  refine seg2 (ρ' := upd (upd (upd (upd (upd (upd (upd (upd (ini [.pointer (some ⟨p, 0, none⟩), .agg #[.slice A n ca, .slice B n cb], .agg #[.int .i64 k, .int .i64 v, .int .i64 d]]) 4 (.pointer (some ⟨w.heap.size, 0, none⟩))) 5 (.pointer (some ⟨w1.heap.size, 0, none⟩))) 6 (.pointer (some ⟨w5.heap.size, 0, none⟩))) 7 (.bool false)) 17 (.pointer (some ⟨w1.heap.size, 0, none⟩))) 18 (.int .i64 k)) 20 (.bool (k == 0))) 19 (.bool (k == 0))) (by kernel_rfl) ?_
  refine op_nil ?_
  refine W_cond (k == 0) (by kernel_rfl) (by kernel_rfl) (fun hc18 => ?_) (fun hc18 => ?_)
  · replace hc18 : k = 0 := (eq_of_beq hc18)
    refine W_seq ?_
    refine W_region (by kernel_rfl) ?_
    refine st (by rfl) (S_val (v := .agg #[.slice A n ca, .slice B n cb]) (R_loadA [.slice A n ca, .slice B n cb] (by kernel_rfl) (by kernel_rfl) (by kernel_rfl) (fun k u hk => by rw [hB4.cell]; exact get_part _ 0 _ k u rfl hk)) ?_)
    refine seg1 (ρ' := upd (upd (upd (upd (upd (upd (upd (upd (upd (upd (ini [.pointer (some ⟨p, 0, none⟩), .agg #[.slice A n ca, .slice B n cb], .agg #[.int .i64 k, .int .i64 v, .int .i64 d]]) 4 (.pointer (some ⟨w.heap.size, 0, none⟩))) 5 (.pointer (some ⟨w1.heap.size, 0, none⟩))) 6 (.pointer (some ⟨w5.heap.size, 0, none⟩))) 7 (.bool false)) 17 (.pointer (some ⟨w1.heap.size, 0, none⟩))) 18 (.int .i64 k)) 20 (.bool (k == 0))) 19 (.bool (k == 0))) 22 (.agg #[.slice A n ca, .slice B n cb])) 23 (.pointer (some ⟨w1.heap.size, 1, none⟩))) (by kernel_rfl) ?_
    refine st (by rfl) (S_val (v := .int .i64 v) (R_load (v := .int .i64 v) (by kernel_rfl) (by kernel_rfl) ((hB8.cell 1).trans rfl)) ?_)
    refine st (by rfl) (S_call (args := [.agg #[.slice A n ca, .slice B n cb], .int .i64 v]) (by kernel_rfl) (rpush_ok F n A B ca cb ac2 wt v _ hO.F_lt hA hB hn) ?_)
    rintro _ w19 ⟨r21, B22, cb23, wt24, rfl, hB, hT20, hq⟩
    have hT0 := hT0.t0 hT20
    have hO := hO.tch0 hT20
    have hA := hA.tch0 hT20
    have hB4 := hB4.tch0 hT20
    have hB8 := hB8.tch0 hT20
    have hB14 := hB14.tch0 hT20
    refine seg3 (ρ' := upd (upd (upd (upd (upd (upd (upd (upd (upd (upd (upd (upd (upd (upd (upd (ini [.pointer (some ⟨p, 0, none⟩), .agg #[.slice A n ca, .slice B n cb], .agg #[.int .i64 k, .int .i64 v, .int .i64 d]]) 4 (.pointer (some ⟨w.heap.size, 0, none⟩))) 5 (.pointer (some ⟨w1.heap.size, 0, none⟩))) 6 (.pointer (some ⟨w5.heap.size, 0, none⟩))) 7 (.bool false)) 17 (.pointer (some ⟨w1.heap.size, 0, none⟩))) 18 (.int .i64 k)) 20 (.bool (k == 0))) 19 (.bool (k == 0))) 22 (.agg #[.slice A n ca, .slice B n cb])) 23 (.pointer (some ⟨w1.heap.size, 1, none⟩))) 24 (.int .i64 v)) 25 (.tuple #[.agg #[.slice A n ca, .slice B22 n cb23], .bool r21])) 21 (.tuple #[.agg #[.slice A n ca, .slice B22 n cb23], .bool r21])) 26 (.agg #[.slice A n ca, .slice B22 n cb23])) 27 (.bool r21)) (by kernel_rfl) ?_
    have z29 := hT0.size
    have l30 := hB4.lt
    have l31 := hB8.lt
    have l32 := hB14.lt
    refine st (by rfl) (S_new (v := .pointer (some ⟨w19.heap.size, 0, none⟩)) (ob := .cells #[.slice none 0 0, .slice none 0 0] 35) (by kernel_rfl) fun w25 hT26 hs27 hB28 => ?_)
    replace hB28 : Blk w25 (w19.heap.size) 35 [.slice none 0 0, .slice none 0 0] := hB28
    have hT0 := hT0.t0 hT26
    have hO := hO.tch0 hT26
    have hA := hA.tch0 hT26
    have hB := hB.tch0 hT26
    have hB4 := hB4.tch0 hT26
    have hB8 := hB8.tch0 hT26
    have hB14 := hB14.tch0 hT26
    refine st (by rfl) (S_storeA (b := w19.heap.size) (j := 0) (cs := [.slice A n ca, .slice B22 n cb23]) (by kernel_rfl) (by kernel_rfl) (by kernel_rfl) (by simp [oneV]) hB28 (by simp) fun w33 hT34 hs35 hB28' => ?_)
    have hT0 := (hT0).then hT34 (fun c e => by have : c = w19.heap.size := e; omega)
    have hO := hO.tchS hT34 (fun c e q => by cases e; have q2 := hFl _ q; omega)
    have hA := hA.tch1 hB28 (by decide) hT34
    have hB := hB.tch1 hB28 (by decide) hT34
    have hB4 := hB4.tch hT34 (fun e => by have : w.heap.size = w19.heap.size := e; omega)
    have hB8 := hB8.tch hT34 (hB8.ne hB28 (by decide))
    have hB14 := hB14.tch hT34 (fun e => by have : w5.heap.size = w19.heap.size := e; omega)
    replace hB28 : Blk w33 w19.heap.size 35 [.slice A n ca, .slice B22 n cb23] := hB28'
    refine seg1 (ρ' := upd (upd (upd (upd (upd (upd (upd (upd (upd (upd (upd (upd (upd (upd (upd (upd (upd (ini [.pointer (some ⟨p, 0, none⟩), .agg #[.slice A n ca, .slice B n cb], .agg #[.int .i64 k, .int .i64 v, .int .i64 d]]) 4 (.pointer (some ⟨w.heap.size, 0, none⟩))) 5 (.pointer (some ⟨w1.heap.size, 0, none⟩))) 6 (.pointer (some ⟨w5.heap.size, 0, none⟩))) 7 (.bool false)) 17 (.pointer (some ⟨w1.heap.size, 0, none⟩))) 18 (.int .i64 k)) 20 (.bool (k == 0))) 19 (.bool (k == 0))) 22 (.agg #[.slice A n ca, .slice B n cb])) 23 (.pointer (some ⟨w1.heap.size, 1, none⟩))) 24 (.int .i64 v)) 25 (.tuple #[.agg #[.slice A n ca, .slice B22 n cb23], .bool r21])) 21 (.tuple #[.agg #[.slice A n ca, .slice B22 n cb23], .bool r21])) 26 (.agg #[.slice A n ca, .slice B22 n cb23])) 27 (.bool r21)) 8 (.pointer (some ⟨w19.heap.size, 0, none⟩))) 9 (.bool r21)) (by kernel_rfl) ?_
    refine op_nil ?_
    refine W_seq ?_
    refine W_draw (fun w' => Blk w' (w1.heap.size) 40 [.int .i64 k, .int .i64 v, .int .i64 d] ∧ Blk w' (w19.heap.size) 35 [.slice A n ca, .slice B22 n cb23]) (by kernel_rfl) (by kernel_rfl) (by kernel_rfl) fun w36 hT37 hh38 => ?_
    have hT0 := hT0.t0 hT37
    have hO := hO.tch0 hT37
    have hA := hA.tch0 hT37
    have hB := hB.tch0 hT37
    have hB4 := hB4.tch0 hT37
    have hB8 := hB8.tch0 hT37
    have hB14 := hB14.tch0 hT37
    have hB28 := hB28.tch0 hT37
    refine d_takes [1, 2, 5] (listed' := #[false, true, true, false, false, true, false, false, false]) (ρ' := upd (upd (upd (upd (upd (upd (upd (upd (upd (upd (upd (upd (upd (upd (upd (upd (upd (upd (upd (upd (ini [.pointer (some ⟨p, 0, none⟩), .agg #[.slice A n ca, .slice B n cb], .agg #[.int .i64 k, .int .i64 v, .int .i64 d]]) 4 (.pointer (some ⟨w.heap.size, 0, none⟩))) 5 (.pointer (some ⟨w1.heap.size, 0, none⟩))) 6 (.pointer (some ⟨w5.heap.size, 0, none⟩))) 7 (.bool false)) 17 (.pointer (some ⟨w1.heap.size, 0, none⟩))) 18 (.int .i64 k)) 20 (.bool (k == 0))) 19 (.bool (k == 0))) 22 (.agg #[.slice A n ca, .slice B n cb])) 23 (.pointer (some ⟨w1.heap.size, 1, none⟩))) 24 (.int .i64 v)) 25 (.tuple #[.agg #[.slice A n ca, .slice B22 n cb23], .bool r21])) 21 (.tuple #[.agg #[.slice A n ca, .slice B22 n cb23], .bool r21])) 26 (.agg #[.slice A n ca, .slice B22 n cb23])) 27 (.bool r21)) 8 (.pointer (some ⟨w19.heap.size, 0, none⟩))) 9 (.bool r21)) 29 (.pointer (some ⟨p, 0, none⟩))) 30 (.pointer (some ⟨w1.heap.size, 1, none⟩))) 33 (.bool r21)) ⟨hB8, hB28⟩ (by kernel_rfl) ?_
    refine d_val (v := .agg #[.slice A n ca, .slice B22 n cb23]) 0 (by rfl) (by kernel_rfl) (by kernel_rfl) (by kernel_rfl) (fun w' hs => by obtain ⟨hB8, hB28⟩ := hs; exact R_loadA [.slice A n ca, .slice B22 n cb23] (by kernel_rfl) (by kernel_rfl) (by kernel_rfl) (fun k u hk => by rw [hB28.cell]; exact get_part _ 0 _ k u rfl hk)) ⟨hB8, hB28⟩ ?_
    refine d_val (v := .int .i64 v) 3 (by rfl) (by kernel_rfl) (by kernel_rfl) (by kernel_rfl) (fun w' hs => by obtain ⟨hB8, hB28⟩ := hs; exact R_load (v := .int .i64 v) (by kernel_rfl) (by kernel_rfl) ((hB8.cell 1).trans rfl)) ⟨hB8, hB28⟩ ?_
    have hT9 := hT0
    have hac_ := hO.acLen
    have hnd_ := hO.nodup
    have hltn_ := hO.lt_
    have l44 := hB4.lt
    have l45 := hB8.lt
    have l46 := hB14.lt
    have l47 := hB28.lt
    refine d_one 4 (by kernel_rfl) (by rfl) (by kernel_rfl) (S_call (args := [.pointer (some ⟨p, 0, none⟩), .int .i64 v]) (by kernel_rfl) (push_ok F p n hp ac v _ hO) ?_)
    rintro _ w39 ⟨r40, F41, hp42, rfl, hO, hmv43, hr⟩
    have hA := hA.mv hmv43
    have hB := hB.mv hmv43
    have hB4 := hB4.tch hmv43.1 (fun e => by have q2 := hFl _ e; omega)
    have hB8 := hB8.tch hmv43.1 (fun e => by have q2 := hFl _ e; omega)
    have hB14 := hB14.tch hmv43.1 (fun e => by have q2 := hFl _ e; omega)
    have hB28 := hB28.tch hmv43.1 (fun e => by have q2 := hFl _ e; omega)
    have hFt : Tch F w _ := Tch.trans (S := F) hT9 hmv43.1 (fun _ _ e => e.elim) (fun _ _ e => e)
    have hmv2 : ∀ b, F41 b → F b ∨ w.heap.size ≤ b := fun b hb => (hmv43.2 b hb).imp id (fun q => Nat.le_trans hT9.size q)
    have hFl0 := hFl
    replace hFl : ∀ b, F41 b → b < w.heap.size ∨ w36.heap.size ≤ b := fun b hb => (hmv43.2 b hb).imp (fun q => by have := hFl0 b q; omega) id
    refine ⟨⟨hB8, hB28⟩, ?_⟩
    refine d_takes [6] (listed' := #[true, true, true, true, true, true, true, false, false]) (ρ' := upd (upd (upd (upd (upd (upd (upd (upd (upd (upd (upd (upd (upd (upd (upd (upd (upd (upd (upd (upd (upd (upd (upd (upd (ini [.pointer (some ⟨p, 0, none⟩), .agg #[.slice A n ca, .slice B n cb], .agg #[.int .i64 k, .int .i64 v, .int .i64 d]]) 4 (.pointer (some ⟨w.heap.size, 0, none⟩))) 5 (.pointer (some ⟨w1.heap.size, 0, none⟩))) 6 (.pointer (some ⟨w5.heap.size, 0, none⟩))) 7 (.bool false)) 17 (.pointer (some ⟨w1.heap.size, 0, none⟩))) 18 (.int .i64 k)) 20 (.bool (k == 0))) 19 (.bool (k == 0))) 22 (.agg #[.slice A n ca, .slice B n cb])) 23 (.pointer (some ⟨w1.heap.size, 1, none⟩))) 24 (.int .i64 v)) 25 (.tuple #[.agg #[.slice A n ca, .slice B22 n cb23], .bool r21])) 21 (.tuple #[.agg #[.slice A n ca, .slice B22 n cb23], .bool r21])) 26 (.agg #[.slice A n ca, .slice B22 n cb23])) 27 (.bool r21)) 8 (.pointer (some ⟨w19.heap.size, 0, none⟩))) 9 (.bool r21)) 29 (.pointer (some ⟨p, 0, none⟩))) 30 (.pointer (some ⟨w1.heap.size, 1, none⟩))) 33 (.bool r21)) 28 (.agg #[.slice A n ca, .slice B22 n cb23])) 31 (.int .i64 v)) 32 (.bool r40)) 34 (.bool (r40 == r21))) ⟨hB8, hB28⟩ (by kernel_rfl) ?_
    refine d_one 7 (by kernel_rfl) (by rfl) (by kernel_rfl) (S_storeA (b := w5.heap.size) (j := 0) (cs := [.slice A n ca, .slice B22 n cb23]) (by kernel_rfl) (by kernel_rfl) (by kernel_rfl) (by simp [oneV]) hB14 (by simp) fun w48 hT49 hs50 hB14' => ?_)
    have hO := hO.tchS hT49 (fun c e q => by cases e; have q2 := hFl _ q; omega)
    have hA := hA.tch1 hB14 (by decide) hT49
    have hB := hB.tch1 hB14 (by decide) hT49
    have hB4 := hB4.tch hT49 (fun e => by have : w.heap.size = w5.heap.size := e; omega)
    have hB8 := hB8.tch hT49 (hB8.ne hB14 (by decide))
    have hB28 := hB28.tch hT49 (fun e => by have : w19.heap.size = w5.heap.size := e; omega)
    have hFt := Tch.trans hFt hT49 (fun _ _ e => e) (fun c hcl e => by cases e; exfalso; omega)
    replace hB14 : Blk w48 w5.heap.size 35 [.slice A n ca, .slice B22 n cb23] := hB14'
    refine ⟨⟨hB8, hB28⟩, ?_⟩
    refine d_takes [8] (listed' := #[true, true, true, true, true, true, true, true, true]) (ρ' := upd (upd (upd (upd (upd (upd (upd (upd (upd (upd (upd (upd (upd (upd (upd (upd (upd (upd (upd (upd (upd (upd (upd (upd (upd (ini [.pointer (some ⟨p, 0, none⟩), .agg #[.slice A n ca, .slice B n cb], .agg #[.int .i64 k, .int .i64 v, .int .i64 d]]) 4 (.pointer (some ⟨w.heap.size, 0, none⟩))) 5 (.pointer (some ⟨w1.heap.size, 0, none⟩))) 6 (.pointer (some ⟨w5.heap.size, 0, none⟩))) 7 (.bool false)) 17 (.pointer (some ⟨w1.heap.size, 0, none⟩))) 18 (.int .i64 k)) 20 (.bool (k == 0))) 19 (.bool (k == 0))) 22 (.agg #[.slice A n ca, .slice B n cb])) 23 (.pointer (some ⟨w1.heap.size, 1, none⟩))) 24 (.int .i64 v)) 25 (.tuple #[.agg #[.slice A n ca, .slice B22 n cb23], .bool r21])) 21 (.tuple #[.agg #[.slice A n ca, .slice B22 n cb23], .bool r21])) 26 (.agg #[.slice A n ca, .slice B22 n cb23])) 27 (.bool r21)) 8 (.pointer (some ⟨w19.heap.size, 0, none⟩))) 9 (.bool r21)) 29 (.pointer (some ⟨p, 0, none⟩))) 30 (.pointer (some ⟨w1.heap.size, 1, none⟩))) 33 (.bool r21)) 28 (.agg #[.slice A n ca, .slice B22 n cb23])) 31 (.int .i64 v)) 32 (.bool r40)) 34 (.bool (r40 == r21))) 7 (.bool (r40 == r21))) ⟨hB8, hB28⟩ (by kernel_rfl) ?_
    refine d_done (by kernel_rfl) ?_
    refine W_ret ?_
    refine ⟨_, Res_cell1 (b := w5.heap.size) (cs := [.slice A n ca, .slice B22 n cb23]) (by rfl) (by kernel_rfl) (by kernel_rfl) (by kernel_rfl) hB14 (by kernel_rfl) (by kernel_rfl), ?_⟩
    exact ⟨F41, hp42, ac, A, B22, ca, cb23, ac2, wt24, (r40 == r21), rfl, hO, hA, hB, hac, ⟨hFt, hmv2⟩, fun e q => by obtain ⟨e1, e2⟩ := q.push hr hq; exact ⟨by rw [e1]; simp, e, e2⟩⟩
  · replace hc18 : k ≠ 0 := (ne_of_beq_false hc18)
    refine W_seq ?_
    refine W_region (by kernel_rfl) ?_
    refine seg2 (ρ' := upd (upd (upd (upd (upd (upd (upd (upd (upd (upd (ini [.pointer (some ⟨p, 0, none⟩), .agg #[.slice A n ca, .slice B n cb], .agg #[.int .i64 k, .int .i64 v, .int .i64 d]]) 4 (.pointer (some ⟨w.heap.size, 0, none⟩))) 5 (.pointer (some ⟨w1.heap.size, 0, none⟩))) 6 (.pointer (some ⟨w5.heap.size, 0, none⟩))) 7 (.bool false)) 17 (.pointer (some ⟨w1.heap.size, 0, none⟩))) 18 (.int .i64 k)) 20 (.bool (k == 0))) 19 (.bool (k == 0))) 36 (.bool (k == 1))) 35 (.bool (k == 1))) (by kernel_rfl) ?_
    refine op_nil ?_
    refine W_cond (k == 1) (by kernel_rfl) (by kernel_rfl) (fun hc51 => ?_) (fun hc51 => ?_)
    · replace hc51 : k = 1 := (eq_of_beq hc51)
      refine W_seq ?_
      refine W_region (by kernel_rfl) ?_
      refine st (by rfl) (S_val (v := .agg #[.slice A n ca, .slice B n cb]) (R_loadA [.slice A n ca, .slice B n cb] (by kernel_rfl) (by kernel_rfl) (by kernel_rfl) (fun k u hk => by rw [hB4.cell]; exact get_part _ 0 _ k u rfl hk)) ?_)
      refine st (by rfl) (S_call (args := [.agg #[.slice A n ca, .slice B n cb]]) (by kernel_rfl) (rpop_ok F n A B ca cb ac2 wt _ hO.F_lt hA hB hn) ?_)
      rintro _ w52 ⟨a54, r55, B56, cb57, wt58, rfl, hB, hT53, hq⟩
      have hT0 := hT0.t0 hT53
      have hO := hO.tch0 hT53
      have hA := hA.tch0 hT53
      have hB4 := hB4.tch0 hT53
      have hB8 := hB8.tch0 hT53
      have hB14 := hB14.tch0 hT53
      refine seg4 (ρ' := upd (upd (upd (upd (upd (upd (upd (upd (upd (upd (upd (upd (upd (upd (upd (upd (ini [.pointer (some ⟨p, 0, none⟩), .agg #[.slice A n ca, .slice B n cb], .agg #[.int .i64 k, .int .i64 v, .int .i64 d]]) 4 (.pointer (some ⟨w.heap.size, 0, none⟩))) 5 (.pointer (some ⟨w1.heap.size, 0, none⟩))) 6 (.pointer (some ⟨w5.heap.size, 0, none⟩))) 7 (.bool false)) 17 (.pointer (some ⟨w1.heap.size, 0, none⟩))) 18 (.int .i64 k)) 20 (.bool (k == 0))) 19 (.bool (k == 0))) 36 (.bool (k == 1))) 35 (.bool (k == 1))) 38 (.agg #[.slice A n ca, .slice B n cb])) 39 (.tuple #[.agg #[.slice A n ca, .slice B56 n cb57], .int .i64 a54, .bool r55])) 37 (.tuple #[.agg #[.slice A n ca, .slice B56 n cb57], .int .i64 a54, .bool r55])) 40 (.agg #[.slice A n ca, .slice B56 n cb57])) 41 (.int .i64 a54)) 42 (.bool r55)) (by kernel_rfl) ?_
      have z63 := hT0.size
      have l64 := hB4.lt
      have l65 := hB8.lt
      have l66 := hB14.lt
      refine st (by rfl) (S_new (v := .pointer (some ⟨w52.heap.size, 0, none⟩)) (ob := .cells #[.slice none 0 0, .slice none 0 0] 35) (by kernel_rfl) fun w59 hT60 hs61 hB62 => ?_)
      replace hB62 : Blk w59 (w52.heap.size) 35 [.slice none 0 0, .slice none 0 0] := hB62
      have hT0 := hT0.t0 hT60
      have hO := hO.tch0 hT60
      have hA := hA.tch0 hT60
      have hB := hB.tch0 hT60
      have hB4 := hB4.tch0 hT60
      have hB8 := hB8.tch0 hT60
      have hB14 := hB14.tch0 hT60
      refine st (by rfl) (S_storeA (b := w52.heap.size) (j := 0) (cs := [.slice A n ca, .slice B56 n cb57]) (by kernel_rfl) (by kernel_rfl) (by kernel_rfl) (by simp [oneV]) hB62 (by simp) fun w67 hT68 hs69 hB62' => ?_)
      have hT0 := (hT0).then hT68 (fun c e => by have : c = w52.heap.size := e; omega)
      have hO := hO.tchS hT68 (fun c e q => by cases e; have q2 := hFl _ q; omega)
      have hA := hA.tch1 hB62 (by decide) hT68
      have hB := hB.tch1 hB62 (by decide) hT68
      have hB4 := hB4.tch hT68 (fun e => by have : w.heap.size = w52.heap.size := e; omega)
      have hB8 := hB8.tch hT68 (hB8.ne hB62 (by decide))
      have hB14 := hB14.tch hT68 (fun e => by have : w5.heap.size = w52.heap.size := e; omega)
      replace hB62 : Blk w67 w52.heap.size 35 [.slice A n ca, .slice B56 n cb57] := hB62'
      refine seg2 (ρ' := upd (upd (upd (upd (upd (upd (upd (upd (upd (upd (upd (upd (upd (upd (upd (upd (upd (upd (upd (ini [.pointer (some ⟨p, 0, none⟩), .agg #[.slice A n ca, .slice B n cb], .agg #[.int .i64 k, .int .i64 v, .int .i64 d]]) 4 (.pointer (some ⟨w.heap.size, 0, none⟩))) 5 (.pointer (some ⟨w1.heap.size, 0, none⟩))) 6 (.pointer (some ⟨w5.heap.size, 0, none⟩))) 7 (.bool false)) 17 (.pointer (some ⟨w1.heap.size, 0, none⟩))) 18 (.int .i64 k)) 20 (.bool (k == 0))) 19 (.bool (k == 0))) 36 (.bool (k == 1))) 35 (.bool (k == 1))) 38 (.agg #[.slice A n ca, .slice B n cb])) 39 (.tuple #[.agg #[.slice A n ca, .slice B56 n cb57], .int .i64 a54, .bool r55])) 37 (.tuple #[.agg #[.slice A n ca, .slice B56 n cb57], .int .i64 a54, .bool r55])) 40 (.agg #[.slice A n ca, .slice B56 n cb57])) 41 (.int .i64 a54)) 42 (.bool r55)) 10 (.pointer (some ⟨w52.heap.size, 0, none⟩))) 11 (.int .i64 a54)) 12 (.bool r55)) (by kernel_rfl) ?_
      refine op_nil ?_
      refine W_seq ?_
      refine W_region (by kernel_rfl) ?_
      refine seg1 (ρ' := upd (upd (upd (upd (upd (upd (upd (upd (upd (upd (upd (upd (upd (upd (upd (upd (upd (upd (upd (upd (ini [.pointer (some ⟨p, 0, none⟩), .agg #[.slice A n ca, .slice B n cb], .agg #[.int .i64 k, .int .i64 v, .int .i64 d]]) 4 (.pointer (some ⟨w.heap.size, 0, none⟩))) 5 (.pointer (some ⟨w1.heap.size, 0, none⟩))) 6 (.pointer (some ⟨w5.heap.size, 0, none⟩))) 7 (.bool false)) 17 (.pointer (some ⟨w1.heap.size, 0, none⟩))) 18 (.int .i64 k)) 20 (.bool (k == 0))) 19 (.bool (k == 0))) 36 (.bool (k == 1))) 35 (.bool (k == 1))) 38 (.agg #[.slice A n ca, .slice B n cb])) 39 (.tuple #[.agg #[.slice A n ca, .slice B56 n cb57], .int .i64 a54, .bool r55])) 37 (.tuple #[.agg #[.slice A n ca, .slice B56 n cb57], .int .i64 a54, .bool r55])) 40 (.agg #[.slice A n ca, .slice B56 n cb57])) 41 (.int .i64 a54)) 42 (.bool r55)) 10 (.pointer (some ⟨w52.heap.size, 0, none⟩))) 11 (.int .i64 a54)) 12 (.bool r55)) 44 (.pointer (some ⟨p, 0, none⟩))) (by kernel_rfl) ?_
      have hT9 := hT0
      have hac_ := hO.acLen
      have hnd_ := hO.nodup
      have hltn_ := hO.lt_
      have l75 := hB4.lt
      have l76 := hB8.lt
      have l77 := hB14.lt
      have l78 := hB62.lt
      refine st (by rfl) (S_call (args := [.pointer (some ⟨p, 0, none⟩)]) (by kernel_rfl) (pop_ok F p n hp ac _ hO) ?_)
      rintro _ w70 ⟨a71, r72, hp73, rfl, hO, hT74, hr⟩
      have hA := hA.tchF hT74
      have hB := hB.tchF hT74
      have hB4 := hB4.tch hT74 (fun e => by have q2 := hFl _ e; omega)
      have hB8 := hB8.tch hT74 (fun e => by have q2 := hFl _ e; omega)
      have hB14 := hB14.tch hT74 (fun e => by have q2 := hFl _ e; omega)
      have hB62 := hB62.tch hT74 (fun e => by have q2 := hFl _ e; omega)
      have hFt : Tch F w _ := Tch.trans (S := F) hT9 hT74 (fun _ _ e => e.elim) (fun _ _ e => e)
      have hmv2 : ∀ b, F b → F b ∨ w.heap.size ≤ b := fun b hb => .inl hb
      refine seg5 (ρ' := upd (upd (upd (upd (upd (upd (upd (upd (upd (upd (upd (upd (upd (upd (upd (upd (upd (upd (upd (upd (upd (upd (upd (upd (upd (upd (ini [.pointer (some ⟨p, 0, none⟩), .agg #[.slice A n ca, .slice B n cb], .agg #[.int .i64 k, .int .i64 v, .int .i64 d]]) 4 (.pointer (some ⟨w.heap.size, 0, none⟩))) 5 (.pointer (some ⟨w1.heap.size, 0, none⟩))) 6 (.pointer (some ⟨w5.heap.size, 0, none⟩))) 7 (.bool false)) 17 (.pointer (some ⟨w1.heap.size, 0, none⟩))) 18 (.int .i64 k)) 20 (.bool (k == 0))) 19 (.bool (k == 0))) 36 (.bool (k == 1))) 35 (.bool (k == 1))) 38 (.agg #[.slice A n ca, .slice B n cb])) 39 (.tuple #[.agg #[.slice A n ca, .slice B56 n cb57], .int .i64 a54, .bool r55])) 37 (.tuple #[.agg #[.slice A n ca, .slice B56 n cb57], .int .i64 a54, .bool r55])) 40 (.agg #[.slice A n ca, .slice B56 n cb57])) 41 (.int .i64 a54)) 42 (.bool r55)) 10 (.pointer (some ⟨w52.heap.size, 0, none⟩))) 11 (.int .i64 a54)) 12 (.bool r55)) 44 (.pointer (some ⟨p, 0, none⟩))) 45 (.tuple #[.int .i64 a71, .bool r72])) 43 (.tuple #[.int .i64 a71, .bool r72])) 46 (.int .i64 a71)) 47 (.bool r72)) 13 (.int .i64 a71)) 14 (.bool r72)) (by kernel_rfl) ?_
      refine op_nil ?_
      refine W_seq ?_
      refine W_region (by kernel_rfl) ?_
      refine st (by rfl) (S_val (v := .agg #[.slice A n ca, .slice B56 n cb57]) (R_loadA [.slice A n ca, .slice B56 n cb57] (by kernel_rfl) (by kernel_rfl) (by kernel_rfl) (fun k u hk => by rw [hB62.cell]; exact get_part _ 0 _ k u rfl hk)) ?_)
      refine seg4 (ρ' := upd (upd (upd (upd (upd (upd (upd (upd (upd (upd (upd (upd (upd (upd (upd (upd (upd (upd (upd (upd (upd (upd (upd (upd (upd (upd (upd (upd (upd (upd (upd (ini [.pointer (some ⟨p, 0, none⟩), .agg #[.slice A n ca, .slice B n cb], .agg #[.int .i64 k, .int .i64 v, .int .i64 d]]) 4 (.pointer (some ⟨w.heap.size, 0, none⟩))) 5 (.pointer (some ⟨w1.heap.size, 0, none⟩))) 6 (.pointer (some ⟨w5.heap.size, 0, none⟩))) 7 (.bool false)) 17 (.pointer (some ⟨w1.heap.size, 0, none⟩))) 18 (.int .i64 k)) 20 (.bool (k == 0))) 19 (.bool (k == 0))) 36 (.bool (k == 1))) 35 (.bool (k == 1))) 38 (.agg #[.slice A n ca, .slice B n cb])) 39 (.tuple #[.agg #[.slice A n ca, .slice B56 n cb57], .int .i64 a54, .bool r55])) 37 (.tuple #[.agg #[.slice A n ca, .slice B56 n cb57], .int .i64 a54, .bool r55])) 40 (.agg #[.slice A n ca, .slice B56 n cb57])) 41 (.int .i64 a54)) 42 (.bool r55)) 10 (.pointer (some ⟨w52.heap.size, 0, none⟩))) 11 (.int .i64 a54)) 12 (.bool r55)) 44 (.pointer (some ⟨p, 0, none⟩))) 45 (.tuple #[.int .i64 a71, .bool r72])) 43 (.tuple #[.int .i64 a71, .bool r72])) 46 (.int .i64 a71)) 47 (.bool r72)) 13 (.int .i64 a71)) 14 (.bool r72)) 48 (.agg #[.slice A n ca, .slice B56 n cb57])) 49 (.int .i64 a54)) 50 (.int .i64 a71)) 51 (.bool (a54 == a71))) 52 (.bool (a54 == a71))) (by kernel_rfl) ?_
      cases hb79 : a54 == a71
      · replace hb79 : a54 ≠ a71 := (ne_of_beq_false hb79)
        refine seg4 (ρ' := upd (upd (upd (upd (upd (upd (upd (upd (upd (upd (upd (upd (upd (upd (upd (upd (upd (upd (upd (upd (upd (upd (upd (upd (upd (upd (upd (upd (upd (upd (upd (upd (upd (upd (upd (ini [.pointer (some ⟨p, 0, none⟩), .agg #[.slice A n ca, .slice B n cb], .agg #[.int .i64 k, .int .i64 v, .int .i64 d]]) 4 (.pointer (some ⟨w.heap.size, 0, none⟩))) 5 (.pointer (some ⟨w1.heap.size, 0, none⟩))) 6 (.pointer (some ⟨w5.heap.size, 0, none⟩))) 7 (.bool false)) 17 (.pointer (some ⟨w1.heap.size, 0, none⟩))) 18 (.int .i64 k)) 20 (.bool (k == 0))) 19 (.bool (k == 0))) 36 (.bool (k == 1))) 35 (.bool (k == 1))) 38 (.agg #[.slice A n ca, .slice B n cb])) 39 (.tuple #[.agg #[.slice A n ca, .slice B56 n cb57], .int .i64 a54, .bool r55])) 37 (.tuple #[.agg #[.slice A n ca, .slice B56 n cb57], .int .i64 a54, .bool r55])) 40 (.agg #[.slice A n ca, .slice B56 n cb57])) 41 (.int .i64 a54)) 42 (.bool r55)) 10 (.pointer (some ⟨w52.heap.size, 0, none⟩))) 11 (.int .i64 a54)) 12 (.bool r55)) 44 (.pointer (some ⟨p, 0, none⟩))) 45 (.tuple #[.int .i64 a71, .bool r72])) 43 (.tuple #[.int .i64 a71, .bool r72])) 46 (.int .i64 a71)) 47 (.bool r72)) 13 (.int .i64 a71)) 14 (.bool r72)) 48 (.agg #[.slice A n ca, .slice B56 n cb57])) 49 (.int .i64 a54)) 50 (.int .i64 a71)) 51 (.bool false)) 52 (.bool false)) 53 (undef)) 54 (undef)) 55 (undef)) 56 (.bool false)) (by kernel_rfl) ?_
        refine st (by rfl) (S_storeA (b := w5.heap.size) (j := 0) (cs := [.slice A n ca, .slice B56 n cb57]) (by kernel_rfl) (by kernel_rfl) (by kernel_rfl) (by simp [oneV]) hB14 (by simp) fun w80 hT81 hs82 hB14' => ?_)
        have hO := hO.tchS hT81 (fun c e q => by cases e; have q2 := hFl _ q; omega)
        have hA := hA.tch1 hB14 (by decide) hT81
        have hB := hB.tch1 hB14 (by decide) hT81
        have hB4 := hB4.tch hT81 (fun e => by have : w.heap.size = w5.heap.size := e; omega)
        have hB8 := hB8.tch hT81 (hB8.ne hB14 (by decide))
        have hB62 := hB62.tch hT81 (fun e => by have : w52.heap.size = w5.heap.size := e; omega)
        have hFt := Tch.trans hFt hT81 (fun _ _ e => e) (fun c hcl e => by cases e; exfalso; omega)
        replace hB14 : Blk w80 w5.heap.size 35 [.slice A n ca, .slice B56 n cb57] := hB14'
        refine seg1 (ρ' := upd (upd (upd (upd (upd (upd (upd (upd (upd (upd (upd (upd (upd (upd (upd (upd (upd (upd (upd (upd (upd (upd (upd (upd (upd (upd (upd (upd (upd (upd (upd (upd (upd (upd (upd (upd (ini [.pointer (some ⟨p, 0, none⟩), .agg #[.slice A n ca, .slice B n cb], .agg #[.int .i64 k, .int .i64 v, .int .i64 d]]) 4 (.pointer (some ⟨w.heap.size, 0, none⟩))) 5 (.pointer (some ⟨w1.heap.size, 0, none⟩))) 6 (.pointer (some ⟨w5.heap.size, 0, none⟩))) 7 (.bool false)) 17 (.pointer (some ⟨w1.heap.size, 0, none⟩))) 18 (.int .i64 k)) 20 (.bool (k == 0))) 19 (.bool (k == 0))) 36 (.bool (k == 1))) 35 (.bool (k == 1))) 38 (.agg #[.slice A n ca, .slice B n cb])) 39 (.tuple #[.agg #[.slice A n ca, .slice B56 n cb57], .int .i64 a54, .bool r55])) 37 (.tuple #[.agg #[.slice A n ca, .slice B56 n cb57], .int .i64 a54, .bool r55])) 40 (.agg #[.slice A n ca, .slice B56 n cb57])) 41 (.int .i64 a54)) 42 (.bool r55)) 10 (.pointer (some ⟨w52.heap.size, 0, none⟩))) 11 (.int .i64 a54)) 12 (.bool r55)) 44 (.pointer (some ⟨p, 0, none⟩))) 45 (.tuple #[.int .i64 a71, .bool r72])) 43 (.tuple #[.int .i64 a71, .bool r72])) 46 (.int .i64 a71)) 47 (.bool r72)) 13 (.int .i64 a71)) 14 (.bool r72)) 48 (.agg #[.slice A n ca, .slice B56 n cb57])) 49 (.int .i64 a54)) 50 (.int .i64 a71)) 51 (.bool false)) 52 (.bool false)) 53 (undef)) 54 (undef)) 55 (undef)) 56 (.bool false)) 7 (.bool false)) (by kernel_rfl) ?_
        refine op_nil ?_
        refine W_ret ?_
        refine ⟨_, Res_cell1 (b := w5.heap.size) (cs := [.slice A n ca, .slice B56 n cb57]) (by rfl) (by kernel_rfl) (by kernel_rfl) (by kernel_rfl) hB14 (by kernel_rfl) (by kernel_rfl), ?_⟩
        refine ⟨F, hp73, ac, A, B56, ca, cb57, ac2, wt58, false, rfl, hO, hA, hB, hac, ⟨hFt, hmv2⟩, fun e q => ?_⟩
        subst e
        obtain ⟨e1, e2, e3⟩ := q.pop hnd_ hltn_ hr hq
        subst e1 e2
        refine ⟨?_, rfl, e3⟩
        first | rfl | (simp; done) | (simp_all; done)
      · replace hb79 : a54 = a71 := (eq_of_beq hb79)
        refine seg4 (ρ' := upd (upd (upd (upd (upd (upd (upd (upd (upd (upd (upd (upd (upd (upd (upd (upd (upd (upd (upd (upd (upd (upd (upd (upd (upd (upd (upd (upd (upd (upd (upd (upd (upd (upd (upd (ini [.pointer (some ⟨p, 0, none⟩), .agg #[.slice A n ca, .slice B n cb], .agg #[.int .i64 k, .int .i64 v, .int .i64 d]]) 4 (.pointer (some ⟨w.heap.size, 0, none⟩))) 5 (.pointer (some ⟨w1.heap.size, 0, none⟩))) 6 (.pointer (some ⟨w5.heap.size, 0, none⟩))) 7 (.bool false)) 17 (.pointer (some ⟨w1.heap.size, 0, none⟩))) 18 (.int .i64 k)) 20 (.bool (k == 0))) 19 (.bool (k == 0))) 36 (.bool (k == 1))) 35 (.bool (k == 1))) 38 (.agg #[.slice A n ca, .slice B n cb])) 39 (.tuple #[.agg #[.slice A n ca, .slice B56 n cb57], .int .i64 a54, .bool r55])) 37 (.tuple #[.agg #[.slice A n ca, .slice B56 n cb57], .int .i64 a54, .bool r55])) 40 (.agg #[.slice A n ca, .slice B56 n cb57])) 41 (.int .i64 a54)) 42 (.bool r55)) 10 (.pointer (some ⟨w52.heap.size, 0, none⟩))) 11 (.int .i64 a54)) 12 (.bool r55)) 44 (.pointer (some ⟨p, 0, none⟩))) 45 (.tuple #[.int .i64 a71, .bool r72])) 43 (.tuple #[.int .i64 a71, .bool r72])) 46 (.int .i64 a71)) 47 (.bool r72)) 13 (.int .i64 a71)) 14 (.bool r72)) 48 (.agg #[.slice A n ca, .slice B56 n cb57])) 49 (.int .i64 a54)) 50 (.int .i64 a71)) 51 (.bool true)) 52 (.bool true)) 53 (.bool r72)) 54 (.bool r55)) 55 (.bool (r72 == r55))) 56 (.bool (r72 == r55))) (by kernel_rfl) ?_
        refine st (by rfl) (S_storeA (b := w5.heap.size) (j := 0) (cs := [.slice A n ca, .slice B56 n cb57]) (by kernel_rfl) (by kernel_rfl) (by kernel_rfl) (by simp [oneV]) hB14 (by simp) fun w83 hT84 hs85 hB14' => ?_)
        have hO := hO.tchS hT84 (fun c e q => by cases e; have q2 := hFl _ q; omega)
        have hA := hA.tch1 hB14 (by decide) hT84
        have hB := hB.tch1 hB14 (by decide) hT84
        have hB4 := hB4.tch hT84 (fun e => by have : w.heap.size = w5.heap.size := e; omega)
        have hB8 := hB8.tch hT84 (hB8.ne hB14 (by decide))
        have hB62 := hB62.tch hT84 (fun e => by have : w52.heap.size = w5.heap.size := e; omega)
        have hFt := Tch.trans hFt hT84 (fun _ _ e => e) (fun c hcl e => by cases e; exfalso; omega)
        replace hB14 : Blk w83 w5.heap.size 35 [.slice A n ca, .slice B56 n cb57] := hB14'
        refine seg1 (ρ' := upd (upd (upd (upd (upd (upd (upd (upd (upd (upd (upd (upd (upd (upd (upd (upd (upd (upd (upd (upd (upd (upd (upd (upd (upd (upd (upd (upd (upd (upd (upd (upd (upd (upd (upd (upd (ini [.pointer (some ⟨p, 0, none⟩), .agg #[.slice A n ca, .slice B n cb], .agg #[.int .i64 k, .int .i64 v, .int .i64 d]]) 4 (.pointer (some ⟨w.heap.size, 0, none⟩))) 5 (.pointer (some ⟨w1.heap.size, 0, none⟩))) 6 (.pointer (some ⟨w5.heap.size, 0, none⟩))) 7 (.bool false)) 17 (.pointer (some ⟨w1.heap.size, 0, none⟩))) 18 (.int .i64 k)) 20 (.bool (k == 0))) 19 (.bool (k == 0))) 36 (.bool (k == 1))) 35 (.bool (k == 1))) 38 (.agg #[.slice A n ca, .slice B n cb])) 39 (.tuple #[.agg #[.slice A n ca, .slice B56 n cb57], .int .i64 a54, .bool r55])) 37 (.tuple #[.agg #[.slice A n ca, .slice B56 n cb57], .int .i64 a54, .bool r55])) 40 (.agg #[.slice A n ca, .slice B56 n cb57])) 41 (.int .i64 a54)) 42 (.bool r55)) 10 (.pointer (some ⟨w52.heap.size, 0, none⟩))) 11 (.int .i64 a54)) 12 (.bool r55)) 44 (.pointer (some ⟨p, 0, none⟩))) 45 (.tuple #[.int .i64 a71, .bool r72])) 43 (.tuple #[.int .i64 a71, .bool r72])) 46 (.int .i64 a71)) 47 (.bool r72)) 13 (.int .i64 a71)) 14 (.bool r72)) 48 (.agg #[.slice A n ca, .slice B56 n cb57])) 49 (.int .i64 a54)) 50 (.int .i64 a71)) 51 (.bool true)) 52 (.bool true)) 53 (.bool r72)) 54 (.bool r55)) 55 (.bool (r72 == r55))) 56 (.bool (r72 == r55))) 7 (.bool (r72 == r55))) (by kernel_rfl) ?_
        refine op_nil ?_
        refine W_ret ?_
        refine ⟨_, Res_cell1 (b := w5.heap.size) (cs := [.slice A n ca, .slice B56 n cb57]) (by rfl) (by kernel_rfl) (by kernel_rfl) (by kernel_rfl) hB14 (by kernel_rfl) (by kernel_rfl), ?_⟩
        refine ⟨F, hp73, ac, A, B56, ca, cb57, ac2, wt58, (r72 == r55), rfl, hO, hA, hB, hac, ⟨hFt, hmv2⟩, fun e q => ?_⟩
        subst e
        obtain ⟨e1, e2, e3⟩ := q.pop hnd_ hltn_ hr hq
        subst e1 e2
        refine ⟨?_, rfl, e3⟩
        first | rfl | (simp; done) | (simp_all; done)
    · replace hc51 : k ≠ 1 := (ne_of_beq_false hc51)
      refine W_seq ?_
      refine W_region (by kernel_rfl) ?_
      refine seg2 (ρ' := upd (upd (upd (upd (upd (upd (upd (upd (upd (upd (upd (upd (ini [.pointer (some ⟨p, 0, none⟩), .agg #[.slice A n ca, .slice B n cb], .agg #[.int .i64 k, .int .i64 v, .int .i64 d]]) 4 (.pointer (some ⟨w.heap.size, 0, none⟩))) 5 (.pointer (some ⟨w1.heap.size, 0, none⟩))) 6 (.pointer (some ⟨w5.heap.size, 0, none⟩))) 7 (.bool false)) 17 (.pointer (some ⟨w1.heap.size, 0, none⟩))) 18 (.int .i64 k)) 20 (.bool (k == 0))) 19 (.bool (k == 0))) 36 (.bool (k == 1))) 35 (.bool (k == 1))) 58 (.bool (k == 2))) 57 (.bool (k == 2))) (by kernel_rfl) ?_
      refine op_nil ?_
      refine W_cond (k == 2) (by kernel_rfl) (by kernel_rfl) (fun hc86 => ?_) (fun hc86 => ?_)
      · replace hc86 : k = 2 := (eq_of_beq hc86)
        refine W_seq ?_
        refine W_region (by kernel_rfl) ?_
        refine st (by rfl) (S_val (v := .agg #[.slice A n ca, .slice B n cb]) (R_loadA [.slice A n ca, .slice B n cb] (by kernel_rfl) (by kernel_rfl) (by kernel_rfl) (fun k u hk => by rw [hB4.cell]; exact get_part _ 0 _ k u rfl hk)) ?_)
        refine seg1 (ρ' := upd (upd (upd (upd (upd (upd (upd (upd (upd (upd (upd (upd (upd (upd (ini [.pointer (some ⟨p, 0, none⟩), .agg #[.slice A n ca, .slice B n cb], .agg #[.int .i64 k, .int .i64 v, .int .i64 d]]) 4 (.pointer (some ⟨w.heap.size, 0, none⟩))) 5 (.pointer (some ⟨w1.heap.size, 0, none⟩))) 6 (.pointer (some ⟨w5.heap.size, 0, none⟩))) 7 (.bool false)) 17 (.pointer (some ⟨w1.heap.size, 0, none⟩))) 18 (.int .i64 k)) 20 (.bool (k == 0))) 19 (.bool (k == 0))) 36 (.bool (k == 1))) 35 (.bool (k == 1))) 58 (.bool (k == 2))) 57 (.bool (k == 2))) 60 (.agg #[.slice A n ca, .slice B n cb])) 61 (.pointer (some ⟨w1.heap.size, 1, none⟩))) (by kernel_rfl) ?_
        refine st (by rfl) (S_val (v := .int .i64 v) (R_load (v := .int .i64 v) (by kernel_rfl) (by kernel_rfl) ((hB8.cell 1).trans rfl)) ?_)
        refine seg1 (ρ' := upd (upd (upd (upd (upd (upd (upd (upd (upd (upd (upd (upd (upd (upd (upd (upd (ini [.pointer (some ⟨p, 0, none⟩), .agg #[.slice A n ca, .slice B n cb], .agg #[.int .i64 k, .int .i64 v, .int .i64 d]]) 4 (.pointer (some ⟨w.heap.size, 0, none⟩))) 5 (.pointer (some ⟨w1.heap.size, 0, none⟩))) 6 (.pointer (some ⟨w5.heap.size, 0, none⟩))) 7 (.bool false)) 17 (.pointer (some ⟨w1.heap.size, 0, none⟩))) 18 (.int .i64 k)) 20 (.bool (k == 0))) 19 (.bool (k == 0))) 36 (.bool (k == 1))) 35 (.bool (k == 1))) 58 (.bool (k == 2))) 57 (.bool (k == 2))) 60 (.agg #[.slice A n ca, .slice B n cb])) 61 (.pointer (some ⟨w1.heap.size, 1, none⟩))) 62 (.int .i64 v)) 63 (.pointer (some ⟨w1.heap.size, 2, none⟩))) (by kernel_rfl) ?_
        refine st (by rfl) (S_val (v := .int .i64 d) (R_load (v := .int .i64 d) (by kernel_rfl) (by kernel_rfl) ((hB8.cell 2).trans rfl)) ?_)
        refine st (by rfl) (S_call (args := [.agg #[.slice A n ca, .slice B n cb], .int .i64 v, .int .i64 d]) (by kernel_rfl) (rbump_ok F n A B ca cb ac2 wt v d _ hO.F_lt hA hB hn hac) ?_)
        rintro _ w87 ⟨r89, A90, ca91, ac92, rfl, hA, hT88, hq⟩
        have hT0 := hT0.t0 hT88
        have hO := hO.tch0 hT88
        have hB := hB.tch0 hT88
        have hB4 := hB4.tch0 hT88
        have hB8 := hB8.tch0 hT88
        have hB14 := hB14.tch0 hT88
        refine seg3 (ρ' := upd (upd (upd (upd (upd (upd (upd (upd (upd (upd (upd (upd (upd (upd (upd (upd (upd (upd (upd (upd (upd (ini [.pointer (some ⟨p, 0, none⟩), .agg #[.slice A n ca, .slice B n cb], .agg #[.int .i64 k, .int .i64 v, .int .i64 d]]) 4 (.pointer (some ⟨w.heap.size, 0, none⟩))) 5 (.pointer (some ⟨w1.heap.size, 0, none⟩))) 6 (.pointer (some ⟨w5.heap.size, 0, none⟩))) 7 (.bool false)) 17 (.pointer (some ⟨w1.heap.size, 0, none⟩))) 18 (.int .i64 k)) 20 (.bool (k == 0))) 19 (.bool (k == 0))) 36 (.bool (k == 1))) 35 (.bool (k == 1))) 58 (.bool (k == 2))) 57 (.bool (k == 2))) 60 (.agg #[.slice A n ca, .slice B n cb])) 61 (.pointer (some ⟨w1.heap.size, 1, none⟩))) 62 (.int .i64 v)) 63 (.pointer (some ⟨w1.heap.size, 2, none⟩))) 64 (.int .i64 d)) 65 (.tuple #[.agg #[.slice A90 n ca91, .slice B n cb], .bool r89])) 59 (.tuple #[.agg #[.slice A90 n ca91, .slice B n cb], .bool r89])) 66 (.agg #[.slice A90 n ca91, .slice B n cb])) 67 (.bool r89)) (by kernel_rfl) ?_
        have z97 := hT0.size
        have l98 := hB4.lt
        have l99 := hB8.lt
        have l100 := hB14.lt
        refine st (by rfl) (S_new (v := .pointer (some ⟨w87.heap.size, 0, none⟩)) (ob := .cells #[.slice none 0 0, .slice none 0 0] 35) (by kernel_rfl) fun w93 hT94 hs95 hB96 => ?_)
        replace hB96 : Blk w93 (w87.heap.size) 35 [.slice none 0 0, .slice none 0 0] := hB96
        have hT0 := hT0.t0 hT94
        have hO := hO.tch0 hT94
        have hA := hA.tch0 hT94
        have hB := hB.tch0 hT94
        have hB4 := hB4.tch0 hT94
        have hB8 := hB8.tch0 hT94
        have hB14 := hB14.tch0 hT94
        refine st (by rfl) (S_storeA (b := w87.heap.size) (j := 0) (cs := [.slice A90 n ca91, .slice B n cb]) (by kernel_rfl) (by kernel_rfl) (by kernel_rfl) (by simp [oneV]) hB96 (by simp) fun w101 hT102 hs103 hB96' => ?_)
        have hT0 := (hT0).then hT102 (fun c e => by have : c = w87.heap.size := e; omega)
        have hO := hO.tchS hT102 (fun c e q => by cases e; have q2 := hFl _ q; omega)
        have hA := hA.tch1 hB96 (by decide) hT102
        have hB := hB.tch1 hB96 (by decide) hT102
        have hB4 := hB4.tch hT102 (fun e => by have : w.heap.size = w87.heap.size := e; omega)
        have hB8 := hB8.tch hT102 (hB8.ne hB96 (by decide))
        have hB14 := hB14.tch hT102 (fun e => by have : w5.heap.size = w87.heap.size := e; omega)
        replace hB96 : Blk w101 w87.heap.size 35 [.slice A90 n ca91, .slice B n cb] := hB96'
        refine seg1 (ρ' := upd (upd (upd (upd (upd (upd (upd (upd (upd (upd (upd (upd (upd (upd (upd (upd (upd (upd (upd (upd (upd (upd (upd (ini [.pointer (some ⟨p, 0, none⟩), .agg #[.slice A n ca, .slice B n cb], .agg #[.int .i64 k, .int .i64 v, .int .i64 d]]) 4 (.pointer (some ⟨w.heap.size, 0, none⟩))) 5 (.pointer (some ⟨w1.heap.size, 0, none⟩))) 6 (.pointer (some ⟨w5.heap.size, 0, none⟩))) 7 (.bool false)) 17 (.pointer (some ⟨w1.heap.size, 0, none⟩))) 18 (.int .i64 k)) 20 (.bool (k == 0))) 19 (.bool (k == 0))) 36 (.bool (k == 1))) 35 (.bool (k == 1))) 58 (.bool (k == 2))) 57 (.bool (k == 2))) 60 (.agg #[.slice A n ca, .slice B n cb])) 61 (.pointer (some ⟨w1.heap.size, 1, none⟩))) 62 (.int .i64 v)) 63 (.pointer (some ⟨w1.heap.size, 2, none⟩))) 64 (.int .i64 d)) 65 (.tuple #[.agg #[.slice A90 n ca91, .slice B n cb], .bool r89])) 59 (.tuple #[.agg #[.slice A90 n ca91, .slice B n cb], .bool r89])) 66 (.agg #[.slice A90 n ca91, .slice B n cb])) 67 (.bool r89)) 15 (.pointer (some ⟨w87.heap.size, 0, none⟩))) 16 (.bool r89)) (by kernel_rfl) ?_
        refine op_nil ?_
        refine W_seq ?_
        refine W_draw (fun w' => Blk w' (w1.heap.size) 40 [.int .i64 k, .int .i64 v, .int .i64 d] ∧ Blk w' (w87.heap.size) 35 [.slice A90 n ca91, .slice B n cb]) (by kernel_rfl) (by kernel_rfl) (by kernel_rfl) fun w104 hT105 hh106 => ?_
        have hT0 := hT0.t0 hT105
        have hO := hO.tch0 hT105
        have hA := hA.tch0 hT105
        have hB := hB.tch0 hT105
        have hB4 := hB4.tch0 hT105
        have hB8 := hB8.tch0 hT105
        have hB14 := hB14.tch0 hT105
        have hB96 := hB96.tch0 hT105
        refine d_takes [1, 2, 4, 7] (listed' := #[false, true, true, false, true, false, false, true, false, false, false]) (ρ' := upd (upd (upd (upd (upd (upd (upd (upd (upd (upd (upd (upd (upd (upd (upd (upd (upd (upd (upd (upd (upd (upd (upd (upd (upd (upd (upd (ini [.pointer (some ⟨p, 0, none⟩), .agg #[.slice A n ca, .slice B n cb], .agg #[.int .i64 k, .int .i64 v, .int .i64 d]]) 4 (.pointer (some ⟨w.heap.size, 0, none⟩))) 5 (.pointer (some ⟨w1.heap.size, 0, none⟩))) 6 (.pointer (some ⟨w5.heap.size, 0, none⟩))) 7 (.bool false)) 17 (.pointer (some ⟨w1.heap.size, 0, none⟩))) 18 (.int .i64 k)) 20 (.bool (k == 0))) 19 (.bool (k == 0))) 36 (.bool (k == 1))) 35 (.bool (k == 1))) 58 (.bool (k == 2))) 57 (.bool (k == 2))) 60 (.agg #[.slice A n ca, .slice B n cb])) 61 (.pointer (some ⟨w1.heap.size, 1, none⟩))) 62 (.int .i64 v)) 63 (.pointer (some ⟨w1.heap.size, 2, none⟩))) 64 (.int .i64 d)) 65 (.tuple #[.agg #[.slice A90 n ca91, .slice B n cb], .bool r89])) 59 (.tuple #[.agg #[.slice A90 n ca91, .slice B n cb], .bool r89])) 66 (.agg #[.slice A90 n ca91, .slice B n cb])) 67 (.bool r89)) 15 (.pointer (some ⟨w87.heap.size, 0, none⟩))) 16 (.bool r89)) 69 (.pointer (some ⟨p, 0, none⟩))) 70 (.pointer (some ⟨w1.heap.size, 1, none⟩))) 72 (.pointer (some ⟨w1.heap.size, 2, none⟩))) 75 (.bool r89)) ⟨hB8, hB96⟩ (by kernel_rfl) ?_
        refine d_val (v := .agg #[.slice A90 n ca91, .slice B n cb]) 0 (by rfl) (by kernel_rfl) (by kernel_rfl) (by kernel_rfl) (fun w' hs => by obtain ⟨hB8, hB96⟩ := hs; exact R_loadA [.slice A90 n ca91, .slice B n cb] (by kernel_rfl) (by kernel_rfl) (by kernel_rfl) (fun k u hk => by rw [hB96.cell]; exact get_part _ 0 _ k u rfl hk)) ⟨hB8, hB96⟩ ?_
        refine d_val (v := .int .i64 v) 3 (by rfl) (by kernel_rfl) (by kernel_rfl) (by kernel_rfl) (fun w' hs => by obtain ⟨hB8, hB96⟩ := hs; exact R_load (v := .int .i64 v) (by kernel_rfl) (by kernel_rfl) ((hB8.cell 1).trans rfl)) ⟨hB8, hB96⟩ ?_
        refine d_val (v := .int .i64 d) 5 (by rfl) (by kernel_rfl) (by kernel_rfl) (by kernel_rfl) (fun w' hs => by obtain ⟨hB8, hB96⟩ := hs; exact R_load (v := .int .i64 d) (by kernel_rfl) (by kernel_rfl) ((hB8.cell 2).trans rfl)) ⟨hB8, hB96⟩ ?_
        have hT9 := hT0
        have hac_ := hO.acLen
        have hnd_ := hO.nodup
        have hltn_ := hO.lt_
        have l112 := hB4.lt
        have l113 := hB8.lt
        have l114 := hB14.lt
        have l115 := hB96.lt
        refine d_one 6 (by kernel_rfl) (by rfl) (by kernel_rfl) (S_call (args := [.pointer (some ⟨p, 0, none⟩), .int .i64 v, .int .i64 d]) (by kernel_rfl) (bump_ok F p n hp ac v d _ hO) ?_)
        rintro _ w107 ⟨r108, hp109, ac110, rfl, hO, hpm, hT111, hr⟩
        have hA := hA.tchF hT111
        have hB := hB.tchF hT111
        have hB4 := hB4.tch hT111 (fun e => by have q2 := hFl _ e; omega)
        have hB8 := hB8.tch hT111 (fun e => by have q2 := hFl _ e; omega)
        have hB14 := hB14.tch hT111 (fun e => by have q2 := hFl _ e; omega)
        have hB96 := hB96.tch hT111 (fun e => by have q2 := hFl _ e; omega)
        have hFt : Tch F w _ := Tch.trans (S := F) hT9 hT111 (fun _ _ e => e.elim) (fun _ _ e => e)
        have hmv2 : ∀ b, F b → F b ∨ w.heap.size ≤ b := fun b hb => .inl hb
        refine ⟨⟨hB8, hB96⟩, ?_⟩
        refine d_takes [8] (listed' := #[true, true, true, true, true, true, true, true, true, false, false]) (ρ' := upd (upd (upd (upd (upd (upd (upd (upd (upd (upd (upd (upd (upd (upd (upd (upd (upd (upd (upd (upd (upd (upd (upd (upd (upd (upd (upd (upd (upd (upd (upd (upd (ini [.pointer (some ⟨p, 0, none⟩), .agg #[.slice A n ca, .slice B n cb], .agg #[.int .i64 k, .int .i64 v, .int .i64 d]]) 4 (.pointer (some ⟨w.heap.size, 0, none⟩))) 5 (.pointer (some ⟨w1.heap.size, 0, none⟩))) 6 (.pointer (some ⟨w5.heap.size, 0, none⟩))) 7 (.bool false)) 17 (.pointer (some ⟨w1.heap.size, 0, none⟩))) 18 (.int .i64 k)) 20 (.bool (k == 0))) 19 (.bool (k == 0))) 36 (.bool (k == 1))) 35 (.bool (k == 1))) 58 (.bool (k == 2))) 57 (.bool (k == 2))) 60 (.agg #[.slice A n ca, .slice B n cb])) 61 (.pointer (some ⟨w1.heap.size, 1, none⟩))) 62 (.int .i64 v)) 63 (.pointer (some ⟨w1.heap.size, 2, none⟩))) 64 (.int .i64 d)) 65 (.tuple #[.agg #[.slice A90 n ca91, .slice B n cb], .bool r89])) 59 (.tuple #[.agg #[.slice A90 n ca91, .slice B n cb], .bool r89])) 66 (.agg #[.slice A90 n ca91, .slice B n cb])) 67 (.bool r89)) 15 (.pointer (some ⟨w87.heap.size, 0, none⟩))) 16 (.bool r89)) 69 (.pointer (some ⟨p, 0, none⟩))) 70 (.pointer (some ⟨w1.heap.size, 1, none⟩))) 72 (.pointer (some ⟨w1.heap.size, 2, none⟩))) 75 (.bool r89)) 68 (.agg #[.slice A90 n ca91, .slice B n cb])) 71 (.int .i64 v)) 73 (.int .i64 d)) 74 (.bool r108)) 76 (.bool (r108 == r89))) ⟨hB8, hB96⟩ (by kernel_rfl) ?_
        refine d_one 9 (by kernel_rfl) (by rfl) (by kernel_rfl) (S_storeA (b := w5.heap.size) (j := 0) (cs := [.slice A90 n ca91, .slice B n cb]) (by kernel_rfl) (by kernel_rfl) (by kernel_rfl) (by simp [oneV]) hB14 (by simp) fun w116 hT117 hs118 hB14' => ?_)
        have hO := hO.tchS hT117 (fun c e q => by cases e; have q2 := hFl _ q; omega)
        have hA := hA.tch1 hB14 (by decide) hT117
        have hB := hB.tch1 hB14 (by decide) hT117
        have hB4 := hB4.tch hT117 (fun e => by have : w.heap.size = w5.heap.size := e; omega)
        have hB8 := hB8.tch hT117 (hB8.ne hB14 (by decide))
        have hB96 := hB96.tch hT117 (fun e => by have : w87.heap.size = w5.heap.size := e; omega)
        have hFt := Tch.trans hFt hT117 (fun _ _ e => e) (fun c hcl e => by cases e; exfalso; omega)
        replace hB14 : Blk w116 w5.heap.size 35 [.slice A90 n ca91, .slice B n cb] := hB14'
        refine ⟨⟨hB8, hB96⟩, ?_⟩
        refine d_takes [10] (listed' := #[true, true, true, true, true, true, true, true, true, true, true]) (ρ' := upd (upd (upd (upd (upd (upd (upd (upd (upd (upd (upd (upd (upd (upd (upd (upd (upd (upd (upd (upd (upd (upd (upd (upd (upd (upd (upd (upd (upd (upd (upd (upd (upd (ini [.pointer (some ⟨p, 0, none⟩), .agg #[.slice A n ca, .slice B n cb], .agg #[.int .i64 k, .int .i64 v, .int .i64 d]]) 4 (.pointer (some ⟨w.heap.size, 0, none⟩))) 5 (.pointer (some ⟨w1.heap.size, 0, none⟩))) 6 (.pointer (some ⟨w5.heap.size, 0, none⟩))) 7 (.bool false)) 17 (.pointer (some ⟨w1.heap.size, 0, none⟩))) 18 (.int .i64 k)) 20 (.bool (k == 0))) 19 (.bool (k == 0))) 36 (.bool (k == 1))) 35 (.bool (k == 1))) 58 (.bool (k == 2))) 57 (.bool (k == 2))) 60 (.agg #[.slice A n ca, .slice B n cb])) 61 (.pointer (some ⟨w1.heap.size, 1, none⟩))) 62 (.int .i64 v)) 63 (.pointer (some ⟨w1.heap.size, 2, none⟩))) 64 (.int .i64 d)) 65 (.tuple #[.agg #[.slice A90 n ca91, .slice B n cb], .bool r89])) 59 (.tuple #[.agg #[.slice A90 n ca91, .slice B n cb], .bool r89])) 66 (.agg #[.slice A90 n ca91, .slice B n cb])) 67 (.bool r89)) 15 (.pointer (some ⟨w87.heap.size, 0, none⟩))) 16 (.bool r89)) 69 (.pointer (some ⟨p, 0, none⟩))) 70 (.pointer (some ⟨w1.heap.size, 1, none⟩))) 72 (.pointer (some ⟨w1.heap.size, 2, none⟩))) 75 (.bool r89)) 68 (.agg #[.slice A90 n ca91, .slice B n cb])) 71 (.int .i64 v)) 73 (.int .i64 d)) 74 (.bool r108)) 76 (.bool (r108 == r89))) 7 (.bool (r108 == r89))) ⟨hB8, hB96⟩ (by kernel_rfl) ?_
        refine d_done (by kernel_rfl) ?_
        refine W_ret ?_
        refine ⟨_, Res_cell1 (b := w5.heap.size) (cs := [.slice A90 n ca91, .slice B n cb]) (by rfl) (by kernel_rfl) (by kernel_rfl) (by kernel_rfl) hB14 (by kernel_rfl) (by kernel_rfl), ?_⟩
        exact ⟨F, hp109, ac110, A90, B, ca91, cb, ac92, wt, (r108 == r89), rfl, hO, hA, hB, hq.ok hA0.1.len hac, ⟨hFt, hmv2⟩, fun e q => by subst e; obtain ⟨e1, e2⟩ := hr.same hq; exact ⟨by rw [e1]; simp, e2.symm, q.perm hpm⟩⟩
      · replace hc86 : k ≠ 2 := (ne_of_beq_false hc86)
        refine W_seq ?_
        refine W_region (by kernel_rfl) ?_
        refine seg2 (ρ' := upd (upd (upd (upd (upd (upd (upd (upd (upd (upd (upd (upd (upd (upd (ini [.pointer (some ⟨p, 0, none⟩), .agg #[.slice A n ca, .slice B n cb], .agg #[.int .i64 k, .int .i64 v, .int .i64 d]]) 4 (.pointer (some ⟨w.heap.size, 0, none⟩))) 5 (.pointer (some ⟨w1.heap.size, 0, none⟩))) 6 (.pointer (some ⟨w5.heap.size, 0, none⟩))) 7 (.bool false)) 17 (.pointer (some ⟨w1.heap.size, 0, none⟩))) 18 (.int .i64 k)) 20 (.bool (k == 0))) 19 (.bool (k == 0))) 36 (.bool (k == 1))) 35 (.bool (k == 1))) 58 (.bool (k == 2))) 57 (.bool (k == 2))) 78 (.bool (k == 3))) 77 (.bool (k == 3))) (by kernel_rfl) ?_
        refine op_nil ?_
        refine W_cond (k == 3) (by kernel_rfl) (by kernel_rfl) (fun hc119 => ?_) (fun hc119 => ?_)
        · replace hc119 : k = 3 := (eq_of_beq hc119)
          refine W_seq ?_
          refine W_region (by kernel_rfl) ?_
          refine seg1 (ρ' := upd (upd (upd (upd (upd (upd (upd (upd (upd (upd (upd (upd (upd (upd (upd (ini [.pointer (some ⟨p, 0, none⟩), .agg #[.slice A n ca, .slice B n cb], .agg #[.int .i64 k, .int .i64 v, .int .i64 d]]) 4 (.pointer (some ⟨w.heap.size, 0, none⟩))) 5 (.pointer (some ⟨w1.heap.size, 0, none⟩))) 6 (.pointer (some ⟨w5.heap.size, 0, none⟩))) 7 (.bool false)) 17 (.pointer (some ⟨w1.heap.size, 0, none⟩))) 18 (.int .i64 k)) 20 (.bool (k == 0))) 19 (.bool (k == 0))) 36 (.bool (k == 1))) 35 (.bool (k == 1))) 58 (.bool (k == 2))) 57 (.bool (k == 2))) 78 (.bool (k == 3))) 77 (.bool (k == 3))) 79 (.pointer (some ⟨p, 0, none⟩))) (by kernel_rfl) ?_
          have hT9 := hT0
          have hac_ := hO.acLen
          have hnd_ := hO.nodup
          have hltn_ := hO.lt_
          have l124 := hB4.lt
          have l125 := hB8.lt
          have l126 := hB14.lt
          refine st (by rfl) (S_call (args := [.pointer (some ⟨p, 0, none⟩)]) (by kernel_rfl) (halve_ok F p n hp ac _ hO) ?_)
          rintro v123 w120 ⟨hp121, hO, hpm, hT122⟩
          have hA := hA.tchF hT122
          have hB := hB.tchF hT122
          have hB4 := hB4.tch hT122 (fun e => by have q2 := hFl _ e; omega)
          have hB8 := hB8.tch hT122 (fun e => by have q2 := hFl _ e; omega)
          have hB14 := hB14.tch hT122 (fun e => by have q2 := hFl _ e; omega)
          have hFt : Tch F w _ := Tch.trans (S := F) hT9 hT122 (fun _ _ e => e.elim) (fun _ _ e => e)
          have hmv2 : ∀ b, F b → F b ∨ w.heap.size ≤ b := fun b hb => .inl hb
          refine op_nil ?_
          refine W_seq ?_
          refine W_region (by kernel_rfl) ?_
          refine st (by rfl) (S_val (v := .agg #[.slice A n ca, .slice B n cb]) (R_loadA [.slice A n ca, .slice B n cb] (by kernel_rfl) (by kernel_rfl) (by kernel_rfl) (fun k u hk => by rw [hB4.cell]; exact get_part _ 0 _ k u rfl hk)) ?_)
          refine st (by rfl) (S_call (args := [.agg #[.slice A n ca, .slice B n cb]]) (by kernel_rfl) (rhalve_T F n A B ca cb ac2 wt _ hO.F_lt hA hB hn hac) ?_)
          rintro _ w127 ⟨A129, ca130, rfl, hA, hT128⟩
          have hO := hO.tch0 hT128
          have hB := hB.tch0 hT128
          have hB4 := hB4.tch0 hT128
          have hB8 := hB8.tch0 hT128
          have hB14 := hB14.tch0 hT128
          have hFt := hFt.then0 hT128
          refine st (by rfl) (S_storeA (b := w5.heap.size) (j := 0) (cs := [.slice A129 n ca130, .slice B n cb]) (by kernel_rfl) (by kernel_rfl) (by kernel_rfl) (by simp [oneV]) hB14 (by simp) fun w131 hT132 hs133 hB14' => ?_)
          have hO := hO.tchS hT132 (fun c e q => by cases e; have q2 := hFl _ q; omega)
          have hA := hA.tch1 hB14 (by decide) hT132
          have hB := hB.tch1 hB14 (by decide) hT132
          have hB4 := hB4.tch hT132 (fun e => by have : w.heap.size = w5.heap.size := e; omega)
          have hB8 := hB8.tch hT132 (hB8.ne hB14 (by decide))
          have hFt := Tch.trans hFt hT132 (fun _ _ e => e) (fun c hcl e => by cases e; exfalso; omega)
          replace hB14 : Blk w131 w5.heap.size 35 [.slice A129 n ca130, .slice B n cb] := hB14'
          refine seg1 (ρ' := upd (upd (upd (upd (upd (upd (upd (upd (upd (upd (upd (upd (upd (upd (upd (upd (upd (upd (upd (ini [.pointer (some ⟨p, 0, none⟩), .agg #[.slice A n ca, .slice B n cb], .agg #[.int .i64 k, .int .i64 v, .int .i64 d]]) 4 (.pointer (some ⟨w.heap.size, 0, none⟩))) 5 (.pointer (some ⟨w1.heap.size, 0, none⟩))) 6 (.pointer (some ⟨w5.heap.size, 0, none⟩))) 7 (.bool false)) 17 (.pointer (some ⟨w1.heap.size, 0, none⟩))) 18 (.int .i64 k)) 20 (.bool (k == 0))) 19 (.bool (k == 0))) 36 (.bool (k == 1))) 35 (.bool (k == 1))) 58 (.bool (k == 2))) 57 (.bool (k == 2))) 78 (.bool (k == 3))) 77 (.bool (k == 3))) 79 (.pointer (some ⟨p, 0, none⟩))) 80 (v123)) 81 (.agg #[.slice A n ca, .slice B n cb])) 82 (.agg #[.slice A129 n ca130, .slice B n cb])) 7 (.bool true)) (by kernel_rfl) ?_
          refine op_nil ?_
          refine W_ret ?_
          refine ⟨_, Res_cell1 (b := w5.heap.size) (cs := [.slice A129 n ca130, .slice B n cb]) (by rfl) (by kernel_rfl) (by kernel_rfl) (by kernel_rfl) hB14 (by kernel_rfl) (by kernel_rfl), ?_⟩
          exact ⟨F, hp121, (HeapP.halveL ac), A129, B, ca130, cb, (HeapP.halveL ac2), wt, true, rfl, hO, hA, hB, hac.half, ⟨hFt, hmv2⟩, fun e q => ⟨rfl, by rw [e], q.perm hpm⟩⟩
        · replace hc119 : k ≠ 3 := (ne_of_beq_false hc119)
          refine W_skip ?_
          refine W_seq ?_
          refine W_region (by kernel_rfl) ?_
          refine st (by rfl) (S_val (v := .agg #[.slice A n ca, .slice B n cb]) (R_loadA [.slice A n ca, .slice B n cb] (by kernel_rfl) (by kernel_rfl) (by kernel_rfl) (fun k u hk => by rw [hB4.cell]; exact get_part _ 0 _ k u rfl hk)) ?_)
          refine st (by rfl) (S_storeA (b := w5.heap.size) (j := 0) (cs := [.slice A n ca, .slice B n cb]) (by kernel_rfl) (by kernel_rfl) (by kernel_rfl) (by simp [oneV]) hB14 (by simp) fun w134 hT135 hs136 hB14' => ?_)
          have hT0 := (hT0).then hT135 (fun c e => by have : c = w5.heap.size := e; omega)
          have hO := hO.tchS hT135 (fun c e q => by cases e; have q2 := hFl _ q; omega)
          have hA := hA.tch1 hB14 (by decide) hT135
          have hB := hB.tch1 hB14 (by decide) hT135
          have hB4 := hB4.tch hT135 (fun e => by have : w.heap.size = w5.heap.size := e; omega)
          have hB8 := hB8.tch hT135 (hB8.ne hB14 (by decide))
          replace hB14 : Blk w134 w5.heap.size 35 [.slice A n ca, .slice B n cb] := hB14'
          refine seg1 (ρ' := upd (upd (upd (upd (upd (upd (upd (upd (upd (upd (upd (upd (upd (upd (upd (upd (ini [.pointer (some ⟨p, 0, none⟩), .agg #[.slice A n ca, .slice B n cb], .agg #[.int .i64 k, .int .i64 v, .int .i64 d]]) 4 (.pointer (some ⟨w.heap.size, 0, none⟩))) 5 (.pointer (some ⟨w1.heap.size, 0, none⟩))) 6 (.pointer (some ⟨w5.heap.size, 0, none⟩))) 7 (.bool false)) 17 (.pointer (some ⟨w1.heap.size, 0, none⟩))) 18 (.int .i64 k)) 20 (.bool (k == 0))) 19 (.bool (k == 0))) 36 (.bool (k == 1))) 35 (.bool (k == 1))) 58 (.bool (k == 2))) 57 (.bool (k == 2))) 78 (.bool (k == 3))) 77 (.bool (k == 3))) 83 (.agg #[.slice A n ca, .slice B n cb])) 7 (.bool true)) (by kernel_rfl) ?_
          refine op_nil ?_
          refine W_ret ?_
          refine ⟨_, Res_cell1 (b := w5.heap.size) (cs := [.slice A n ca, .slice B n cb]) (by rfl) (by kernel_rfl) (by kernel_rfl) (by kernel_rfl) hB14 (by kernel_rfl) (by kernel_rfl), ?_⟩
          exact ⟨F, hp, ac, A, B, ca, cb, ac2, wt, true, rfl, hO, hA, hB, hac, .n0 hT0, fun e q => ⟨rfl, e, q⟩⟩

end Go.Proofs.YthfjceemphhgcaaV
