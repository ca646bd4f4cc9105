/- Walks of functions of the program and of the document's texts. The conditions stand with each theorem. -/
import Derived.Test.YtnlecdpiccgdpaaVx13
import Derived.Test.YtnlecdpiccgdpaaProg
import Derived.Test.YtnlecdpiccgdpaaVx4
import Derived.Test.YtnlecdpiccgdpaaG6
set_option linter.unusedVariables false
set_option linter.unusedSimpArgs false
namespace Go.Proofs.YtnlecdpiccgdpaaV
open Go Go.RowKit Go.Proofs

set_option maxRecDepth 100000 in
theorem and_bad (F : Nat → Prop) (p n : Nat) (a b : Int) (cs : List (List Nat)) (I : Nat → Prop) (w : World) (hG : GObj F w p n cs I) (hma : a ≤ 9223372036854775807) (hmb : b ≤ 9223372036854775807) (hb : badB n [a, b] = true) : Ret Try.prog 24 [.pointer (some ⟨p, 0, none⟩), .int .i64 a, .int .i64 b] w fun v w' => v = .int .i64 (-1) ∧ Tch N0 w w' := by
  refine enter Try.func24 rfl rfl ?_
  refine W_seq ?_
  refine W_region (by kernel_rfl) ?_
  refine st (by rfl) (S_new (v := .pointer (some ⟨w.heap.size, 0, none⟩)) (ob := .cells #[.int .i64 a] 3) (by kernel_rfl) fun w1 hT2 hs3 hB4 => ?_)
  replace hB4 : Blk w1 (w.heap.size) 3 [.int .i64 a] := hB4
  have hT0 := hT2
  have hG := hG.tch0 hT2
  refine st (by rfl) (S_new (v := .pointer (some ⟨w1.heap.size, 0, none⟩)) (ob := .cells #[.int .i64 b] 3) (by kernel_rfl) fun w5 hT6 hs7 hB8 => ?_)
  replace hB8 : Blk w5 (w1.heap.size) 3 [.int .i64 b] := hB8
  have hT0 := hT0.t0 hT6
  have hG := hG.tch0 hT6
  have hB4 := hB4.tch0 hT6
  refine sg [(6, .int .i64 0)] (by kernel_rfl) ?_
  refine op_nil ?_
  refine W_seq ?_
  refine W_seq ?_
  refine W_region (by kernel_rfl) ?_
  refine sg [(7, .pointer (some ⟨p, 0, none⟩))] (by kernel_rfl) ?_
  refine st (by rfl) (S_val (v := .int .i64 a) (R_load (v := .int .i64 a) (by kernel_rfl) (by kernel_rfl) ((hB4.cell 0).trans rfl)) ?_)
  refine st (by rfl) (S_val (v := .int .i64 b) (R_load (v := .int .i64 b) (by kernel_rfl) (by kernel_rfl) ((hB8.cell 0).trans rfl)) ?_)
  refine st (by rfl) (S_new (v := .slice (some ⟨w5.heap.size, 0, none⟩) 2 2) (ob := .cells #[.int .i64 a, .int .i64 b] 3) (by kernel_rfl) fun w9 hT10 hs11 hB12 => ?_)
  replace hB12 : Blk w9 (w5.heap.size) 3 [.int .i64 a, .int .i64 b] := hB12
  have hT0 := hT0.t0 hT10
  have hG := hG.tch0 hT10
  have hB4 := hB4.tch0 hT10
  have hB8 := hB8.tch0 hT10
  refine st (by rfl) (S_call (args := [.pointer (some ⟨p, 0, none⟩), .slice (some ⟨w5.heap.size, 0, none⟩) 2 2]) (by kernel_rfl) (obad_ok F p n (w5.heap.size) 2 cs I [a, b] true _ hG (show Blk _ _ 3 (ints .i64 [a, b]) from hB12) rfl (by omega) (by intro x hx; simp only [List.mem_cons, List.not_mem_nil, or_false] at hx; omega) hb) ?_)
  rintro _ w13 ⟨rfl, hT14⟩
  have hT0 := hT0.t0 hT14
  have hG := hG.tch0 hT14
  have hB4 := hB4.tch0 hT14
  have hB8 := hB8.tch0 hT14
  have hB12 := hB12.tch0 hT14
  refine op_nil ?_
  refine W_cond true (by kernel_rfl) (by kernel_rfl) (fun _ => ?_) (fun h => nomatch h)
  refine W_seq ?_
  refine W_fg [(0, .pointer (some ⟨p, 0, none⟩)), (1, .int .i64 a), (2, .int .i64 b), (4, .pointer (some ⟨w.heap.size, 0, none⟩)), (5, .pointer (some ⟨w1.heap.size, 0, none⟩)), (6, .int .i64 0), (11, .bool true)] (by kernel_rfl) fun ρ => ?_
  refine W_region (by kernel_rfl) ?_
  refine sg [(6, .int .i64 (-1))] (by kernel_rfl) ?_
  refine op_nil ?_
  refine W_ret ?_
  exact ⟨_, Res_of (v := .int .i64 (-1)) (by kernel_rfl), ⟨rfl, hT0⟩⟩

set_option maxRecDepth 100000 in
theorem or_bad (F : Nat → Prop) (p n : Nat) (a b : Int) (cs : List (List Nat)) (I : Nat → Prop) (w : World) (hG : GObj F w p n cs I) (hma : a ≤ 9223372036854775807) (hmb : b ≤ 9223372036854775807) (hb : badB n [a, b] = true) : Ret Try.prog 25 [.pointer (some ⟨p, 0, none⟩), .int .i64 a, .int .i64 b] w fun v w' => v = .int .i64 (-1) ∧ Tch N0 w w' := by
  refine enter Try.func25 rfl rfl ?_
  refine W_seq ?_
  refine W_region (by kernel_rfl) ?_
  refine sg [(6, .int .i64 0)] (by kernel_rfl) ?_
  refine op_nil ?_
  refine W_seq ?_
  refine W_seq ?_
  refine W_region (by kernel_rfl) ?_
  refine sg [(7, .pointer (some ⟨p, 0, none⟩)), (8, .int .i64 a), (9, .int .i64 b)] (by kernel_rfl) ?_
  refine st (by rfl) (S_new (v := .slice (some ⟨w.heap.size, 0, none⟩) 2 2) (ob := .cells #[.int .i64 a, .int .i64 b] 3) (by kernel_rfl) fun w1 hT2 hs3 hB4 => ?_)
  replace hB4 : Blk w1 (w.heap.size) 3 [.int .i64 a, .int .i64 b] := hB4
  have hT0 := hT2
  have hG := hG.tch0 hT2
  refine st (by rfl) (S_call (args := [.pointer (some ⟨p, 0, none⟩), .slice (some ⟨w.heap.size, 0, none⟩) 2 2]) (by kernel_rfl) (obad_ok F p n (w.heap.size) 2 cs I [a, b] true _ hG (show Blk _ _ 3 (ints .i64 [a, b]) from hB4) rfl (by omega) (by intro x hx; simp only [List.mem_cons, List.not_mem_nil, or_false] at hx; omega) hb) ?_)
  rintro _ w5 ⟨rfl, hT6⟩
  have hT0 := hT0.t0 hT6
  have hG := hG.tch0 hT6
  have hB4 := hB4.tch0 hT6
  refine op_nil ?_
  refine W_cond true (by kernel_rfl) (by kernel_rfl) (fun _ => ?_) (fun h => nomatch h)
  refine W_seq ?_
  refine W_region (by kernel_rfl) ?_
  refine sg [(6, .int .i64 (-1))] (by kernel_rfl) ?_
  refine op_nil ?_
  refine W_ret ?_
  exact ⟨_, Res_of (v := .int .i64 (-1)) (by kernel_rfl), ⟨rfl, hT0⟩⟩

set_option maxRecDepth 100000 in
theorem xor_bad (F : Nat → Prop) (p n : Nat) (a b : Int) (cs : List (List Nat)) (I : Nat → Prop) (w : World) (hG : GObj F w p n cs I) (hma : a ≤ 9223372036854775807) (hmb : b ≤ 9223372036854775807) (hb : badB n [a, b] = true) : Ret Try.prog 21 [.pointer (some ⟨p, 0, none⟩), .int .i64 a, .int .i64 b] w fun v w' => v = .int .i64 (-1) ∧ Tch N0 w w' := by
  refine enter Try.func21 rfl rfl ?_
  refine W_seq ?_
  refine W_region (by kernel_rfl) ?_
  refine st (by rfl) (S_new (v := .pointer (some ⟨w.heap.size, 0, none⟩)) (ob := .cells #[.int .i64 a] 3) (by kernel_rfl) fun w1 hT2 hs3 hB4 => ?_)
  replace hB4 : Blk w1 (w.heap.size) 3 [.int .i64 a] := hB4
  have hT0 := hT2
  have hG := hG.tch0 hT2
  refine st (by rfl) (S_new (v := .pointer (some ⟨w1.heap.size, 0, none⟩)) (ob := .cells #[.int .i64 b] 3) (by kernel_rfl) fun w5 hT6 hs7 hB8 => ?_)
  replace hB8 : Blk w5 (w1.heap.size) 3 [.int .i64 b] := hB8
  have hT0 := hT0.t0 hT6
  have hG := hG.tch0 hT6
  have hB4 := hB4.tch0 hT6
  refine sg [(6, .int .i64 0)] (by kernel_rfl) ?_
  refine op_nil ?_
  refine W_seq ?_
  refine W_seq ?_
  refine W_region (by kernel_rfl) ?_
  refine sg [(9, .pointer (some ⟨p, 0, none⟩))] (by kernel_rfl) ?_
  refine st (by rfl) (S_val (v := .int .i64 a) (R_load (v := .int .i64 a) (by kernel_rfl) (by kernel_rfl) ((hB4.cell 0).trans rfl)) ?_)
  refine st (by rfl) (S_val (v := .int .i64 b) (R_load (v := .int .i64 b) (by kernel_rfl) (by kernel_rfl) ((hB8.cell 0).trans rfl)) ?_)
  refine st (by rfl) (S_new (v := .slice (some ⟨w5.heap.size, 0, none⟩) 2 2) (ob := .cells #[.int .i64 a, .int .i64 b] 3) (by kernel_rfl) fun w9 hT10 hs11 hB12 => ?_)
  replace hB12 : Blk w9 (w5.heap.size) 3 [.int .i64 a, .int .i64 b] := hB12
  have hT0 := hT0.t0 hT10
  have hG := hG.tch0 hT10
  have hB4 := hB4.tch0 hT10
  have hB8 := hB8.tch0 hT10
  refine st (by rfl) (S_call (args := [.pointer (some ⟨p, 0, none⟩), .slice (some ⟨w5.heap.size, 0, none⟩) 2 2]) (by kernel_rfl) (obad_ok F p n (w5.heap.size) 2 cs I [a, b] true _ hG (show Blk _ _ 3 (ints .i64 [a, b]) from hB12) rfl (by omega) (by intro x hx; simp only [List.mem_cons, List.not_mem_nil, or_false] at hx; omega) hb) ?_)
  rintro _ w13 ⟨rfl, hT14⟩
  have hT0 := hT0.t0 hT14
  have hG := hG.tch0 hT14
  have hB4 := hB4.tch0 hT14
  have hB8 := hB8.tch0 hT14
  have hB12 := hB12.tch0 hT14
  refine op_nil ?_
  refine W_cond true (by kernel_rfl) (by kernel_rfl) (fun _ => ?_) (fun h => nomatch h)
  refine W_seq ?_
  refine W_fg [(0, .pointer (some ⟨p, 0, none⟩)), (1, .int .i64 a), (2, .int .i64 b), (4, .pointer (some ⟨w.heap.size, 0, none⟩)), (5, .pointer (some ⟨w1.heap.size, 0, none⟩)), (6, .int .i64 0), (13, .bool true)] (by kernel_rfl) fun ρ => ?_
  refine W_region (by kernel_rfl) ?_
  refine sg [(6, .int .i64 (-1))] (by kernel_rfl) ?_
  refine op_nil ?_
  refine W_ret ?_
  exact ⟨_, Res_of (v := .int .i64 (-1)) (by kernel_rfl), ⟨rfl, hT0⟩⟩

set_option maxRecDepth 100000 in
theorem ite_bad (F : Nat → Prop) (p n : Nat) (c a b : Int) (cs : List (List Nat)) (I : Nat → Prop) (w : World) (hG : GObj F w p n cs I) (hmc : c ≤ 9223372036854775807) (hma : a ≤ 9223372036854775807) (hmb : b ≤ 9223372036854775807) (hb : badB n [c, a, b] = true) : Ret Try.prog 26 [.pointer (some ⟨p, 0, none⟩), .int .i64 c, .int .i64 a, .int .i64 b] w fun v w' => v = .int .i64 (-1) ∧ Tch N0 w w' := by
  refine enter Try.func26 rfl rfl ?_
  refine W_seq ?_
  refine W_region (by kernel_rfl) ?_
  refine st (by rfl) (S_new (v := .pointer (some ⟨w.heap.size, 0, none⟩)) (ob := .cells #[.int .i64 c] 3) (by kernel_rfl) fun w1 hT2 hs3 hB4 => ?_)
  replace hB4 : Blk w1 (w.heap.size) 3 [.int .i64 c] := hB4
  have hT0 := hT2
  have hG := hG.tch0 hT2
  refine st (by rfl) (S_new (v := .pointer (some ⟨w1.heap.size, 0, none⟩)) (ob := .cells #[.int .i64 a] 3) (by kernel_rfl) fun w5 hT6 hs7 hB8 => ?_)
  replace hB8 : Blk w5 (w1.heap.size) 3 [.int .i64 a] := hB8
  have hT0 := hT0.t0 hT6
  have hG := hG.tch0 hT6
  have hB4 := hB4.tch0 hT6
  refine st (by rfl) (S_new (v := .pointer (some ⟨w5.heap.size, 0, none⟩)) (ob := .cells #[.int .i64 b] 3) (by kernel_rfl) fun w9 hT10 hs11 hB12 => ?_)
  replace hB12 : Blk w9 (w5.heap.size) 3 [.int .i64 b] := hB12
  have hT0 := hT0.t0 hT10
  have hG := hG.tch0 hT10
  have hB4 := hB4.tch0 hT10
  have hB8 := hB8.tch0 hT10
  refine sg [(8, .int .i64 0)] (by kernel_rfl) ?_
  refine op_nil ?_
  refine W_seq ?_
  refine W_seq ?_
  refine W_region (by kernel_rfl) ?_
  refine sg [(9, .pointer (some ⟨p, 0, none⟩))] (by kernel_rfl) ?_
  refine st (by rfl) (S_val (v := .int .i64 c) (R_load (v := .int .i64 c) (by kernel_rfl) (by kernel_rfl) ((hB4.cell 0).trans rfl)) ?_)
  refine st (by rfl) (S_val (v := .int .i64 a) (R_load (v := .int .i64 a) (by kernel_rfl) (by kernel_rfl) ((hB8.cell 0).trans rfl)) ?_)
  refine st (by rfl) (S_val (v := .int .i64 b) (R_load (v := .int .i64 b) (by kernel_rfl) (by kernel_rfl) ((hB12.cell 0).trans rfl)) ?_)
  refine st (by rfl) (S_new (v := .slice (some ⟨w9.heap.size, 0, none⟩) 3 3) (ob := .cells #[.int .i64 c, .int .i64 a, .int .i64 b] 3) (by kernel_rfl) fun w13 hT14 hs15 hB16 => ?_)
  replace hB16 : Blk w13 (w9.heap.size) 3 [.int .i64 c, .int .i64 a, .int .i64 b] := hB16
  have hT0 := hT0.t0 hT14
  have hG := hG.tch0 hT14
  have hB4 := hB4.tch0 hT14
  have hB8 := hB8.tch0 hT14
  have hB12 := hB12.tch0 hT14
  refine st (by rfl) (S_call (args := [.pointer (some ⟨p, 0, none⟩), .slice (some ⟨w9.heap.size, 0, none⟩) 3 3]) (by kernel_rfl) (obad_ok F p n (w9.heap.size) 3 cs I [c, a, b] true _ hG (show Blk _ _ 3 (ints .i64 [c, a, b]) from hB16) rfl (by omega) (by intro x hx; simp only [List.mem_cons, List.not_mem_nil, or_false] at hx; omega) hb) ?_)
  rintro _ w17 ⟨rfl, hT18⟩
  have hT0 := hT0.t0 hT18
  have hG := hG.tch0 hT18
  have hB4 := hB4.tch0 hT18
  have hB8 := hB8.tch0 hT18
  have hB12 := hB12.tch0 hT18
  have hB16 := hB16.tch0 hT18
  refine op_nil ?_
  refine W_cond true (by kernel_rfl) (by kernel_rfl) (fun _ => ?_) (fun h => nomatch h)
  refine W_seq ?_
  refine W_fg [(0, .pointer (some ⟨p, 0, none⟩)), (1, .int .i64 c), (2, .int .i64 a), (3, .int .i64 b), (5, .pointer (some ⟨w.heap.size, 0, none⟩)), (6, .pointer (some ⟨w1.heap.size, 0, none⟩)), (7, .pointer (some ⟨w5.heap.size, 0, none⟩)), (8, .int .i64 0), (14, .bool true)] (by kernel_rfl) fun ρ => ?_
  refine W_region (by kernel_rfl) ?_
  refine sg [(8, .int .i64 (-1))] (by kernel_rfl) ?_
  refine op_nil ?_
  refine W_ret ?_
  exact ⟨_, Res_of (v := .int .i64 (-1)) (by kernel_rfl), ⟨rfl, hT0⟩⟩

set_option maxRecDepth 100000 in
theorem maj_bad (F : Nat → Prop) (p n : Nat) (a b c : Int) (cs : List (List Nat)) (I : Nat → Prop) (w : World) (hG : GObj F w p n cs I) (hma : a ≤ 9223372036854775807) (hmb : b ≤ 9223372036854775807) (hmc : c ≤ 9223372036854775807) (hb : badB n [a, b, c] = true) : Ret Try.prog 27 [.pointer (some ⟨p, 0, none⟩), .int .i64 a, .int .i64 b, .int .i64 c] w fun v w' => v = .int .i64 (-1) ∧ Tch N0 w w' := by
  refine enter Try.func27 rfl rfl ?_
  refine W_seq ?_
  refine W_region (by kernel_rfl) ?_
  refine sg [(8, .int .i64 0)] (by kernel_rfl) ?_
  refine op_nil ?_
  refine W_seq ?_
  refine W_seq ?_
  refine W_region (by kernel_rfl) ?_
  refine sg [(9, .pointer (some ⟨p, 0, none⟩)), (10, .int .i64 a), (11, .int .i64 b), (12, .int .i64 c)] (by kernel_rfl) ?_
  refine st (by rfl) (S_new (v := .slice (some ⟨w.heap.size, 0, none⟩) 3 3) (ob := .cells #[.int .i64 a, .int .i64 b, .int .i64 c] 3) (by kernel_rfl) fun w1 hT2 hs3 hB4 => ?_)
  replace hB4 : Blk w1 (w.heap.size) 3 [.int .i64 a, .int .i64 b, .int .i64 c] := hB4
  have hT0 := hT2
  have hG := hG.tch0 hT2
  refine st (by rfl) (S_call (args := [.pointer (some ⟨p, 0, none⟩), .slice (some ⟨w.heap.size, 0, none⟩) 3 3]) (by kernel_rfl) (obad_ok F p n (w.heap.size) 3 cs I [a, b, c] true _ hG (show Blk _ _ 3 (ints .i64 [a, b, c]) from hB4) rfl (by omega) (by intro x hx; simp only [List.mem_cons, List.not_mem_nil, or_false] at hx; omega) hb) ?_)
  rintro _ w5 ⟨rfl, hT6⟩
  have hT0 := hT0.t0 hT6
  have hG := hG.tch0 hT6
  have hB4 := hB4.tch0 hT6
  refine op_nil ?_
  refine W_cond true (by kernel_rfl) (by kernel_rfl) (fun _ => ?_) (fun h => nomatch h)
  refine W_seq ?_
  refine W_region (by kernel_rfl) ?_
  refine sg [(8, .int .i64 (-1))] (by kernel_rfl) ?_
  refine op_nil ?_
  refine W_ret ?_
  exact ⟨_, Res_of (v := .int .i64 (-1)) (by kernel_rfl), ⟨rfl, hT0⟩⟩

set_option maxRecDepth 100000 in
theorem and_nil (a b : Int) (w : World) : Ret Try.prog 24 [.pointer none, .int .i64 a, .int .i64 b] w fun v w' => v = .int .i64 (-1) ∧ Tch N0 w w' := by
  refine enter Try.func24 rfl rfl ?_
  refine W_seq ?_
  refine W_region (by kernel_rfl) ?_
  refine st (by rfl) (S_new (v := .pointer (some ⟨w.heap.size, 0, none⟩)) (ob := .cells #[.int .i64 a] 3) (by kernel_rfl) fun w1 hT2 hs3 hB4 => ?_)
  replace hB4 : Blk w1 (w.heap.size) 3 [.int .i64 a] := hB4
  have hT0 := hT2
  refine st (by rfl) (S_new (v := .pointer (some ⟨w1.heap.size, 0, none⟩)) (ob := .cells #[.int .i64 b] 3) (by kernel_rfl) fun w5 hT6 hs7 hB8 => ?_)
  replace hB8 : Blk w5 (w1.heap.size) 3 [.int .i64 b] := hB8
  have hT0 := hT0.t0 hT6
  have hB4 := hB4.tch0 hT6
  refine sg [(6, .int .i64 0)] (by kernel_rfl) ?_
  refine op_nil ?_
  refine W_seq ?_
  refine W_seq ?_
  refine W_region (by kernel_rfl) ?_
  refine sg [(7, .pointer none)] (by kernel_rfl) ?_
  refine st (by rfl) (S_val (v := .int .i64 a) (R_load (v := .int .i64 a) (by kernel_rfl) (by kernel_rfl) ((hB4.cell 0).trans rfl)) ?_)
  refine st (by rfl) (S_val (v := .int .i64 b) (R_load (v := .int .i64 b) (by kernel_rfl) (by kernel_rfl) ((hB8.cell 0).trans rfl)) ?_)
  refine st (by rfl) (S_new (v := .slice (some ⟨w5.heap.size, 0, none⟩) 2 2) (ob := .cells #[.int .i64 a, .int .i64 b] 3) (by kernel_rfl) fun w9 hT10 hs11 hB12 => ?_)
  replace hB12 : Blk w9 (w5.heap.size) 3 [.int .i64 a, .int .i64 b] := hB12
  have hT0 := hT0.t0 hT10
  have hB4 := hB4.tch0 hT10
  have hB8 := hB8.tch0 hT10
  refine st (by rfl) (S_call (args := [.pointer none, .slice (some ⟨w5.heap.size, 0, none⟩) 2 2]) (by kernel_rfl) (bad_nil (w5.heap.size) 2 [a, b] _ (show Blk _ _ 3 (ints .i64 [a, b]) from hB12) rfl (by omega) (by omega)) ?_)
  rintro _ w13 ⟨rfl, hT14⟩
  have hT0 := hT0.t0 hT14
  have hB4 := hB4.tch0 hT14
  have hB8 := hB8.tch0 hT14
  have hB12 := hB12.tch0 hT14
  refine op_nil ?_
  refine W_cond true (by kernel_rfl) (by kernel_rfl) (fun _ => ?_) (fun h => nomatch h)
  refine W_seq ?_
  refine W_fg [(0, .pointer none), (1, .int .i64 a), (2, .int .i64 b), (4, .pointer (some ⟨w.heap.size, 0, none⟩)), (5, .pointer (some ⟨w1.heap.size, 0, none⟩)), (6, .int .i64 0), (11, .bool true)] (by kernel_rfl) fun ρ => ?_
  refine W_region (by kernel_rfl) ?_
  refine sg [(6, .int .i64 (-1))] (by kernel_rfl) ?_
  refine op_nil ?_
  refine W_ret ?_
  exact ⟨_, Res_of (v := .int .i64 (-1)) (by kernel_rfl), ⟨rfl, hT0⟩⟩

set_option maxRecDepth 100000 in
theorem or_nil (a b : Int) (w : World) : Ret Try.prog 25 [.pointer none, .int .i64 a, .int .i64 b] w fun v w' => v = .int .i64 (-1) ∧ Tch N0 w w' := by
  refine enter Try.func25 rfl rfl ?_
  refine W_seq ?_
  refine W_region (by kernel_rfl) ?_
  refine sg [(6, .int .i64 0)] (by kernel_rfl) ?_
  refine op_nil ?_
  refine W_seq ?_
  refine W_seq ?_
  refine W_region (by kernel_rfl) ?_
  refine sg [(7, .pointer none), (8, .int .i64 a), (9, .int .i64 b)] (by kernel_rfl) ?_
  refine st (by rfl) (S_new (v := .slice (some ⟨w.heap.size, 0, none⟩) 2 2) (ob := .cells #[.int .i64 a, .int .i64 b] 3) (by kernel_rfl) fun w1 hT2 hs3 hB4 => ?_)
  replace hB4 : Blk w1 (w.heap.size) 3 [.int .i64 a, .int .i64 b] := hB4
  have hT0 := hT2
  refine st (by rfl) (S_call (args := [.pointer none, .slice (some ⟨w.heap.size, 0, none⟩) 2 2]) (by kernel_rfl) (bad_nil (w.heap.size) 2 [a, b] _ (show Blk _ _ 3 (ints .i64 [a, b]) from hB4) rfl (by omega) (by omega)) ?_)
  rintro _ w5 ⟨rfl, hT6⟩
  have hT0 := hT0.t0 hT6
  have hB4 := hB4.tch0 hT6
  refine op_nil ?_
  refine W_cond true (by kernel_rfl) (by kernel_rfl) (fun _ => ?_) (fun h => nomatch h)
  refine W_seq ?_
  refine W_region (by kernel_rfl) ?_
  refine sg [(6, .int .i64 (-1))] (by kernel_rfl) ?_
  refine op_nil ?_
  refine W_ret ?_
  exact ⟨_, Res_of (v := .int .i64 (-1)) (by kernel_rfl), ⟨rfl, hT0⟩⟩

set_option maxRecDepth 100000 in
theorem xor_nil (a b : Int) (w : World) : Ret Try.prog 21 [.pointer none, .int .i64 a, .int .i64 b] w fun v w' => v = .int .i64 (-1) ∧ Tch N0 w w' := by
  refine enter Try.func21 rfl rfl ?_
  refine W_seq ?_
  refine W_region (by kernel_rfl) ?_
  refine st (by rfl) (S_new (v := .pointer (some ⟨w.heap.size, 0, none⟩)) (ob := .cells #[.int .i64 a] 3) (by kernel_rfl) fun w1 hT2 hs3 hB4 => ?_)
  replace hB4 : Blk w1 (w.heap.size) 3 [.int .i64 a] := hB4
  have hT0 := hT2
  refine st (by rfl) (S_new (v := .pointer (some ⟨w1.heap.size, 0, none⟩)) (ob := .cells #[.int .i64 b] 3) (by kernel_rfl) fun w5 hT6 hs7 hB8 => ?_)
  replace hB8 : Blk w5 (w1.heap.size) 3 [.int .i64 b] := hB8
  have hT0 := hT0.t0 hT6
  have hB4 := hB4.tch0 hT6
  refine sg [(6, .int .i64 0)] (by kernel_rfl) ?_
  refine op_nil ?_
  refine W_seq ?_
  refine W_seq ?_
  refine W_region (by kernel_rfl) ?_
  refine sg [(9, .pointer none)] (by kernel_rfl) ?_
  refine st (by rfl) (S_val (v := .int .i64 a) (R_load (v := .int .i64 a) (by kernel_rfl) (by kernel_rfl) ((hB4.cell 0).trans rfl)) ?_)
  refine st (by rfl) (S_val (v := .int .i64 b) (R_load (v := .int .i64 b) (by kernel_rfl) (by kernel_rfl) ((hB8.cell 0).trans rfl)) ?_)
  refine st (by rfl) (S_new (v := .slice (some ⟨w5.heap.size, 0, none⟩) 2 2) (ob := .cells #[.int .i64 a, .int .i64 b] 3) (by kernel_rfl) fun w9 hT10 hs11 hB12 => ?_)
  replace hB12 : Blk w9 (w5.heap.size) 3 [.int .i64 a, .int .i64 b] := hB12
  have hT0 := hT0.t0 hT10
  have hB4 := hB4.tch0 hT10
  have hB8 := hB8.tch0 hT10
  refine st (by rfl) (S_call (args := [.pointer none, .slice (some ⟨w5.heap.size, 0, none⟩) 2 2]) (by kernel_rfl) (bad_nil (w5.heap.size) 2 [a, b] _ (show Blk _ _ 3 (ints .i64 [a, b]) from hB12) rfl (by omega) (by omega)) ?_)
  rintro _ w13 ⟨rfl, hT14⟩
  have hT0 := hT0.t0 hT14
  have hB4 := hB4.tch0 hT14
  have hB8 := hB8.tch0 hT14
  have hB12 := hB12.tch0 hT14
  refine op_nil ?_
  refine W_cond true (by kernel_rfl) (by kernel_rfl) (fun _ => ?_) (fun h => nomatch h)
  refine W_seq ?_
  refine W_fg [(0, .pointer none), (1, .int .i64 a), (2, .int .i64 b), (4, .pointer (some ⟨w.heap.size, 0, none⟩)), (5, .pointer (some ⟨w1.heap.size, 0, none⟩)), (6, .int .i64 0), (13, .bool true)] (by kernel_rfl) fun ρ => ?_
  refine W_region (by kernel_rfl) ?_
  refine sg [(6, .int .i64 (-1))] (by kernel_rfl) ?_
  refine op_nil ?_
  refine W_ret ?_
  exact ⟨_, Res_of (v := .int .i64 (-1)) (by kernel_rfl), ⟨rfl, hT0⟩⟩

set_option maxRecDepth 100000 in
theorem ite_nil (c a b : Int) (w : World) : Ret Try.prog 26 [.pointer none, .int .i64 c, .int .i64 a, .int .i64 b] w fun v w' => v = .int .i64 (-1) ∧ Tch N0 w w' := by
  refine enter Try.func26 rfl rfl ?_
  refine W_seq ?_
  refine W_region (by kernel_rfl) ?_
  refine st (by rfl) (S_new (v := .pointer (some ⟨w.heap.size, 0, none⟩)) (ob := .cells #[.int .i64 c] 3) (by kernel_rfl) fun w1 hT2 hs3 hB4 => ?_)
  replace hB4 : Blk w1 (w.heap.size) 3 [.int .i64 c] := hB4
  have hT0 := hT2
  refine st (by rfl) (S_new (v := .pointer (some ⟨w1.heap.size, 0, none⟩)) (ob := .cells #[.int .i64 a] 3) (by kernel_rfl) fun w5 hT6 hs7 hB8 => ?_)
  replace hB8 : Blk w5 (w1.heap.size) 3 [.int .i64 a] := hB8
  have hT0 := hT0.t0 hT6
  have hB4 := hB4.tch0 hT6
  refine st (by rfl) (S_new (v := .pointer (some ⟨w5.heap.size, 0, none⟩)) (ob := .cells #[.int .i64 b] 3) (by kernel_rfl) fun w9 hT10 hs11 hB12 => ?_)
  replace hB12 : Blk w9 (w5.heap.size) 3 [.int .i64 b] := hB12
  have hT0 := hT0.t0 hT10
  have hB4 := hB4.tch0 hT10
  have hB8 := hB8.tch0 hT10
  refine sg [(8, .int .i64 0)] (by kernel_rfl) ?_
  refine op_nil ?_
  refine W_seq ?_
  refine W_seq ?_
  refine W_region (by kernel_rfl) ?_
  refine sg [(9, .pointer none)] (by kernel_rfl) ?_
  refine st (by rfl) (S_val (v := .int .i64 c) (R_load (v := .int .i64 c) (by kernel_rfl) (by kernel_rfl) ((hB4.cell 0).trans rfl)) ?_)
  refine st (by rfl) (S_val (v := .int .i64 a) (R_load (v := .int .i64 a) (by kernel_rfl) (by kernel_rfl) ((hB8.cell 0).trans rfl)) ?_)
  refine st (by rfl) (S_val (v := .int .i64 b) (R_load (v := .int .i64 b) (by kernel_rfl) (by kernel_rfl) ((hB12.cell 0).trans rfl)) ?_)
  refine st (by rfl) (S_new (v := .slice (some ⟨w9.heap.size, 0, none⟩) 3 3) (ob := .cells #[.int .i64 c, .int .i64 a, .int .i64 b] 3) (by kernel_rfl) fun w13 hT14 hs15 hB16 => ?_)
  replace hB16 : Blk w13 (w9.heap.size) 3 [.int .i64 c, .int .i64 a, .int .i64 b] := hB16
  have hT0 := hT0.t0 hT14
  have hB4 := hB4.tch0 hT14
  have hB8 := hB8.tch0 hT14
  have hB12 := hB12.tch0 hT14
  refine st (by rfl) (S_call (args := [.pointer none, .slice (some ⟨w9.heap.size, 0, none⟩) 3 3]) (by kernel_rfl) (bad_nil (w9.heap.size) 3 [c, a, b] _ (show Blk _ _ 3 (ints .i64 [c, a, b]) from hB16) rfl (by omega) (by omega)) ?_)
  rintro _ w17 ⟨rfl, hT18⟩
  have hT0 := hT0.t0 hT18
  have hB4 := hB4.tch0 hT18
  have hB8 := hB8.tch0 hT18
  have hB12 := hB12.tch0 hT18
  have hB16 := hB16.tch0 hT18
  refine op_nil ?_
  refine W_cond true (by kernel_rfl) (by kernel_rfl) (fun _ => ?_) (fun h => nomatch h)
  refine W_seq ?_
  refine W_fg [(0, .pointer none), (1, .int .i64 c), (2, .int .i64 a), (3, .int .i64 b), (5, .pointer (some ⟨w.heap.size, 0, none⟩)), (6, .pointer (some ⟨w1.heap.size, 0, none⟩)), (7, .pointer (some ⟨w5.heap.size, 0, none⟩)), (8, .int .i64 0), (14, .bool true)] (by kernel_rfl) fun ρ => ?_
  refine W_region (by kernel_rfl) ?_
  refine sg [(8, .int .i64 (-1))] (by kernel_rfl) ?_
  refine op_nil ?_
  refine W_ret ?_
  exact ⟨_, Res_of (v := .int .i64 (-1)) (by kernel_rfl), ⟨rfl, hT0⟩⟩

set_option maxRecDepth 100000 in
theorem maj_nil (a b c : Int) (w : World) : Ret Try.prog 27 [.pointer none, .int .i64 a, .int .i64 b, .int .i64 c] w fun v w' => v = .int .i64 (-1) ∧ Tch N0 w w' := by
  refine enter Try.func27 rfl rfl ?_
  refine W_seq ?_
  refine W_region (by kernel_rfl) ?_
  refine sg [(8, .int .i64 0)] (by kernel_rfl) ?_
  refine op_nil ?_
  refine W_seq ?_
  refine W_seq ?_
  refine W_region (by kernel_rfl) ?_
  refine sg [(9, .pointer none), (10, .int .i64 a), (11, .int .i64 b), (12, .int .i64 c)] (by kernel_rfl) ?_
  refine st (by rfl) (S_new (v := .slice (some ⟨w.heap.size, 0, none⟩) 3 3) (ob := .cells #[.int .i64 a, .int .i64 b, .int .i64 c] 3) (by kernel_rfl) fun w1 hT2 hs3 hB4 => ?_)
  replace hB4 : Blk w1 (w.heap.size) 3 [.int .i64 a, .int .i64 b, .int .i64 c] := hB4
  have hT0 := hT2
  refine st (by rfl) (S_call (args := [.pointer none, .slice (some ⟨w.heap.size, 0, none⟩) 3 3]) (by kernel_rfl) (bad_nil (w.heap.size) 3 [a, b, c] _ (show Blk _ _ 3 (ints .i64 [a, b, c]) from hB4) rfl (by omega) (by omega)) ?_)
  rintro _ w5 ⟨rfl, hT6⟩
  have hT0 := hT0.t0 hT6
  have hB4 := hB4.tch0 hT6
  refine op_nil ?_
  refine W_cond true (by kernel_rfl) (by kernel_rfl) (fun _ => ?_) (fun h => nomatch h)
  refine W_seq ?_
  refine W_region (by kernel_rfl) ?_
  refine sg [(8, .int .i64 (-1))] (by kernel_rfl) ?_
  refine op_nil ?_
  refine W_ret ?_
  exact ⟨_, Res_of (v := .int .i64 (-1)) (by kernel_rfl), ⟨rfl, hT0⟩⟩

set_option maxRecDepth 100000 in
theorem true_ok (p : Nat) (w : World) : Ret Try.prog 16 [.pointer (some ⟨p, 0, none⟩)] w fun v w' => v = .int .i64 0 ∧ Tch N0 w w' := by
  refine enter Try.func16 rfl rfl ?_
  refine W_seq ?_
  refine W_region (by kernel_rfl) ?_
  refine sg [(2, .int .i64 0)] (by kernel_rfl) ?_
  refine op_nil ?_
  refine W_seq ?_
  refine W_seq ?_
  refine W_region (by kernel_rfl) ?_
  refine sg [(3, .pointer (some ⟨p, 0, none⟩)), (4, .bool false)] (by kernel_rfl) ?_
  refine op_nil ?_
  refine W_cond false (by kernel_rfl) (by kernel_rfl) (fun h => nomatch h) (fun _ => ?_)
  refine W_skip ?_
  refine W_seq ?_
  refine W_region (by kernel_rfl) ?_
  refine sg [(2, .int .i64 0)] (by kernel_rfl) ?_
  refine op_nil ?_
  refine W_ret ?_
  exact ⟨_, Res_of (v := .int .i64 0) (by kernel_rfl), ⟨rfl, Tch.refl _ _⟩⟩

set_option maxRecDepth 100000 in
theorem true_nil (w : World) : Ret Try.prog 16 [.pointer none] w fun v w' => v = .int .i64 (-1) ∧ Tch N0 w w' := by
  refine enter Try.func16 rfl rfl ?_
  refine W_seq ?_
  refine W_region (by kernel_rfl) ?_
  refine sg [(2, .int .i64 0)] (by kernel_rfl) ?_
  refine op_nil ?_
  refine W_seq ?_
  refine W_seq ?_
  refine W_region (by kernel_rfl) ?_
  refine sg [(3, .pointer none), (4, .bool true)] (by kernel_rfl) ?_
  refine op_nil ?_
  refine W_cond true (by kernel_rfl) (by kernel_rfl) (fun _ => ?_) (fun h => nomatch h)
  refine W_seq ?_
  refine W_region (by kernel_rfl) ?_
  refine sg [(2, .int .i64 (-1))] (by kernel_rfl) ?_
  refine op_nil ?_
  refine W_ret ?_
  exact ⟨_, Res_of (v := .int .i64 (-1)) (by kernel_rfl), ⟨rfl, Tch.refl _ _⟩⟩

set_option maxRecDepth 100000 in
theorem input_nil (w : World) : Ret Try.prog 17 [.pointer none] w fun v w' => v = .int .i64 (-1) ∧ Tch N0 w w' := by
  refine enter Try.func17 rfl rfl ?_
  refine W_seq ?_
  refine W_region (by kernel_rfl) ?_
  refine sg [(2, .int .i64 0)] (by kernel_rfl) ?_
  refine op_nil ?_
  refine W_seq ?_
  refine W_seq ?_
  refine W_region (by kernel_rfl) ?_
  refine sg [(3, .pointer none), (4, .bool true)] (by kernel_rfl) ?_
  refine op_nil ?_
  refine W_cond true (by kernel_rfl) (by kernel_rfl) (fun _ => ?_) (fun h => nomatch h)
  refine W_seq ?_
  refine W_region (by kernel_rfl) ?_
  refine sg [(2, .int .i64 (-1))] (by kernel_rfl) ?_
  refine op_nil ?_
  refine W_ret ?_
  exact ⟨_, Res_of (v := .int .i64 (-1)) (by kernel_rfl), ⟨rfl, Tch.refl _ _⟩⟩

set_option maxRecDepth 100000 in
theorem vars_nil (w : World) : Ret Try.prog 22 [.pointer none] w fun v w' => v = .int .i64 0 ∧ Tch N0 w w' := by
  refine enter Try.func22 rfl rfl ?_
  refine W_seq ?_
  refine W_region (by kernel_rfl) ?_
  refine sg [(2, .int .i64 0)] (by kernel_rfl) ?_
  refine op_nil ?_
  refine W_seq ?_
  refine W_seq ?_
  refine W_region (by kernel_rfl) ?_
  refine sg [(3, .pointer none), (4, .bool true)] (by kernel_rfl) ?_
  refine op_nil ?_
  refine W_cond true (by kernel_rfl) (by kernel_rfl) (fun _ => ?_) (fun h => nomatch h)
  refine W_seq ?_
  refine W_region (by kernel_rfl) ?_
  refine sg [(2, .int .i64 0)] (by kernel_rfl) ?_
  refine op_nil ?_
  refine W_ret ?_
  exact ⟨_, Res_of (v := .int .i64 0) (by kernel_rfl), ⟨rfl, Tch.refl _ _⟩⟩

set_option maxRecDepth 100000 in
theorem clauses_nil (w : World) : Ret Try.prog 23 [.pointer none] w fun v w' => v = .slice none 0 0 ∧ Tch N0 w w' := by
  refine enter Try.func23 rfl rfl ?_
  refine W_seq ?_
  refine W_region (by kernel_rfl) ?_
  refine sg [(2, .slice none 0 0)] (by kernel_rfl) ?_
  refine op_nil ?_
  refine W_seq ?_
  refine W_seq ?_
  refine W_region (by kernel_rfl) ?_
  refine sg [(3, .pointer none), (4, .bool true)] (by kernel_rfl) ?_
  refine op_nil ?_
  refine W_cond true (by kernel_rfl) (by kernel_rfl) (fun _ => ?_) (fun h => nomatch h)
  refine W_seq ?_
  refine W_region (by kernel_rfl) ?_
  refine sg [(2, .slice none 0 0)] (by kernel_rfl) ?_
  refine op_nil ?_
  refine W_ret ?_
  exact ⟨_, Res_of (v := .slice none 0 0) (by kernel_rfl), ⟨rfl, Tch.refl _ _⟩⟩

set_option maxRecDepth 100000 in
theorem input_ok (F : Nat → Prop) (p n : Nat) (cs : List (List Nat)) (I : Nat → Prop) (w : World) (hG : GObj F w p n cs I) (hn : n ≤ 68719476000) : Ret Try.prog 17 [.pointer (some ⟨p, 0, none⟩)] w fun v w' => v = .int .i64 ((2 * n : Nat) : Int) ∧ GObj F w' p (n + 1) cs (fun v => I v ∨ v = n) ∧ Mv F F w w' := by
  have hL := hG.1
  have hMv := Mv.refl F w
  refine enter Try.func17 rfl rfl ?_
  refine W_seq ?_
  refine W_region (by kernel_rfl) ?_
  refine sg [(2, .int .i64 0)] (by kernel_rfl) ?_
  refine op_nil ?_
  refine W_seq ?_
  refine W_seq ?_
  refine W_region (by kernel_rfl) ?_
  refine sg [(3, .pointer (some ⟨p, 0, none⟩)), (4, .bool false)] (by kernel_rfl) ?_
  refine op_nil ?_
  refine W_cond false (by kernel_rfl) (by kernel_rfl) (fun h => nomatch h) (fun _ => ?_)
  refine W_skip ?_
  refine W_seq ?_
  refine W_region (by kernel_rfl) ?_
  refine sg [(5, .pointer (some ⟨p, 0, none⟩))] (by kernel_rfl) ?_
  refine st (by rfl) (S_call (args := [.pointer (some ⟨p, 0, none⟩)]) (by kernel_rfl) (low_fresh F p n cs (MkE n cs) _ hL (by omega)) ?_)
  rintro _ w1 ⟨rfl, hL, hm2⟩
  have hMv := hMv.trans hm2
  refine sg [(2, .int .i64 ((2 * n : Nat) : Int))] (by kernel_rfl) ?_
  refine op_nil ?_
  refine W_ret ?_
  exact ⟨_, Res_of (v := .int .i64 ((2 * n : Nat) : Int)) (by kernel_rfl), ⟨rfl, ⟨hL.mono (MkE.mono (Nat.le_succ n) (fun c h => h)), hG.2.input⟩, hMv⟩⟩

set_option maxRecDepth 100000 in
theorem vars_ok (F : Nat → Prop) (p n : Nat) (cs : List (List Nat)) (I : Nat → Prop) (w : World) (hG : GObj F w p n cs I) : Ret Try.prog 22 [.pointer (some ⟨p, 0, none⟩)] w fun v w' => v = .int .i64 ((n : Nat) : Int) ∧ Tch N0 w w' := by
  obtain ⟨⟨A, cp, mb, Lv, hP, _⟩, _⟩ := hG
  refine enter Try.func22 rfl rfl ?_
  refine W_seq ?_
  refine W_region (by kernel_rfl) ?_
  refine sg [(2, .int .i64 0)] (by kernel_rfl) ?_
  refine op_nil ?_
  refine W_seq ?_
  refine W_seq ?_
  refine W_region (by kernel_rfl) ?_
  refine sg [(3, .pointer (some ⟨p, 0, none⟩)), (4, .bool false)] (by kernel_rfl) ?_
  refine op_nil ?_
  refine W_cond false (by kernel_rfl) (by kernel_rfl) (fun h => nomatch h) (fun _ => ?_)
  refine W_skip ?_
  refine W_seq ?_
  refine W_region (by kernel_rfl) ?_
  refine sg [(5, .pointer (some ⟨p, 0, none⟩)), (6, .pointer (some ⟨p, 0, none⟩)), (7, .pointer (some ⟨p, 0, none⟩))] (by kernel_rfl) ?_
  refine st (by rfl) (S_val (v := .int .i64 ((n : Nat) : Int)) (R_load (v := .int .i64 ((n : Nat) : Int)) (by kernel_rfl) (by kernel_rfl) ((hP.cell 0).trans rfl)) ?_)
  refine sg [(2, .int .i64 ((n : Nat) : Int))] (by kernel_rfl) ?_
  refine op_nil ?_
  refine W_ret ?_
  exact ⟨_, Res_of (v := .int .i64 ((n : Nat) : Int)) (by kernel_rfl), ⟨rfl, Tch.refl _ _⟩⟩

theorem ClsT.cls {F : Nat → Prop} {w : World} {Lv : List Value} {cs : List (List Nat)} (h : ClsT F w Lv cs) (hm : ∀ c, c ∈ cs → c.length ≤ 9223372036854775807) : Cls w Lv cs := fun i hi => by
  obtain ⟨g, h1, _, h3⟩ := h.2 i hi
  exact ⟨_, _, _, h1, h3.rd 1 _ (by rw [nats_length]; omega) (hm _ (cmem hi))⟩
theorem Cls.tch0 {w w' : World} {Lv : List Value} {cs : List (List Nat)} (h : Cls w Lv cs) (k : Tch N0 w w') : Cls w' Lv cs := fun i hi => by
  obtain ⟨C, m, cc, h1, h2⟩ := h i hi
  exact ⟨C, m, cc, h1, h2.tch0 k⟩
theorem Own.rd1 {w : World} {base e n : Nat} {A : Option Addr} {cp : Nat} {cells : List Value} (h : Own w base e 1 (.slice A n cp) n cells) : RdW w 1 n A cells := by
  obtain ⟨A', c', e, hr⟩ := h.rd
  injection e with e1 e2 e3
  subst e1; exact hr
theorem ClsT.one {F : Nat → Prop} {w : World} {Lv : List Value} {cs : List (List Nat)} (h : ClsT F w Lv cs) : ∀ u ∈ Lv, oneV u = true := fun u hu => by
  obtain ⟨i, hi, e⟩ := List.getElem_of_mem hu
  obtain ⟨g, h1, _⟩ := h.2 i (by rw [← h.1]; exact hi)
  rw [List.getElem?_eq_getElem hi, e] at h1
  cases h1; rfl

set_option maxRecDepth 100000 in
theorem clauses_ok (F : Nat → Prop) (p n : Nat) (cs : List (List Nat)) (I : Nat → Prop) (w : World) (hG : GObj F w p n cs I) (hn : n ≤ 68719476736) : Ret Try.prog 23 [.pointer (some ⟨p, 0, none⟩)] w fun v w' => ∃ L lcp Lv, v = .slice L cs.length lcp ∧ RdW w' 1 cs.length L Lv ∧ Cls w' Lv cs ∧ Tch N0 w w' := by
  have hcl : 0 < cs.length := List.length_pos_of_mem hG.2.top
  have hlen := hG.2.len
  have hml := hG.2.len3
  obtain ⟨⟨A, cp, mb, Lv, hP, hO, hM, hC, fp, fm, fA, hlt⟩, _⟩ := hG
  refine enter Try.func23 rfl rfl ?_
  refine W_seq ?_
  refine W_region (by kernel_rfl) ?_
  refine sg [(2, .slice none 0 0)] (by kernel_rfl) ?_
  refine op_nil ?_
  refine W_seq ?_
  refine W_seq ?_
  refine W_region (by kernel_rfl) ?_
  refine sg [(3, .pointer (some ⟨p, 0, none⟩)), (4, .bool false)] (by kernel_rfl) ?_
  refine op_nil ?_
  refine W_cond false (by kernel_rfl) (by kernel_rfl) (fun h => nomatch h) (fun _ => ?_)
  refine W_skip ?_
  refine W_seq ?_
  refine W_region (by kernel_rfl) ?_
  refine sg [(5, .pointer (some ⟨p, 0, none⟩)), (6, .pointer (some ⟨p, 0, none⟩)), (7, .pointer (some ⟨p, 1, none⟩))] (by kernel_rfl) ?_
  refine st (by rfl) (S_val (v := .slice A cs.length cp) (R_load (v := .slice A cs.length cp) (by kernel_rfl) (by kernel_rfl) ((hP.cell 1).trans rfl)) ?_)
  refine st (by rfl) (S_append_nil 39 27 (.slice none 0 0) 24 (m := cs.length) (A := A) (c := cp) (news := Lv) (by kernel_rfl) (by rfl) (by kernel_rfl) (by kernel_rfl) (by kernel_rfl) (hO.rd1) hC.one (by simp only [maxLen]; omega) (by omega) hcl fun cpn spn w1 hN hT2 => ?_)
  have hT0 := hT2
  have hO := hO.tch0 hT2
  have hC := hC.tch0 hT2
  refine sg [(2, .slice (some ⟨w.heap.size, 0, none⟩) cs.length cpn)] (by kernel_rfl) ?_
  refine op_nil ?_
  refine W_ret ?_
  exact ⟨_, Res_of (v := .slice (some ⟨w.heap.size, 0, none⟩) cs.length cpn) (by kernel_rfl), ⟨_, _, Lv, rfl, hN.rdP 1 _ (by rw [hC.1]; omega) (by omega), hC.cls (fun c hc => by have := hml c hc; omega), hT0⟩⟩

end Go.Proofs.YtnlecdpiccgdpaaV
