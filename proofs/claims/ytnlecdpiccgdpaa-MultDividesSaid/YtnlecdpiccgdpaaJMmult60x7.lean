/- Texts laid together: Walks of functions of the program and of the document's texts. The conditions stand with each theorem. Walks of functions of the program and of the document's texts. The conditions stand with each theorem. What Run tells of gates: every literal follows, and is what its gate says. The calculus' words for a place of an array, by a pointer that only reads. Rows of literals: their words, and how they lie in memory. Walks of functions of the program and of the document's texts. The conditions stand with each theorem. Moves of rows and of words: plain. Words: plain. -/
import Derived.Test.YtnlecdpiccgdpaaJMmult60x2
import Derived.Test.YtnlecdpiccgdpaaProg
import Derived.Test.YtnlecdpiccgdpaaJMmult60x1
import Derived.Test.YtnlecdpiccgdpaaG6
set_option linter.unusedVariables false
set_option linter.unusedSimpArgs false
namespace Go.Proofs.YtnlecdpiccgdpaaV
open Go Go.RowKit Go.Proofs

set_option maxRecDepth 100000 in
theorem and_bad (F : Nat → Prop) (p n : Nat) (a b : Int) (cs : List (List Nat)) (I : Nat → Prop) (w : World) (hG : GObj F w p n cs I) (hma : a ≤ 9223372036854775807) (hmb : b ≤ 9223372036854775807) (hb : badB n [a, b] = true) : Ret Try.prog 24 [.pointer (some ⟨p, 0, none⟩), .int .i64 a, .int .i64 b] w fun v w' => v = .int .i64 (-1) ∧ Tch N0 w w' := by
  refine enter Try.func24 rfl rfl ?_
  refine W_seq ?_
  refine W_region (by kernel_rfl) ?_
  refine st (by rfl) (S_new (v := .pointer (some ⟨w.heap.size, 0, none⟩)) (ob := .cells #[.int .i64 a] 3) (by kernel_rfl) fun w1 hT2 hs3 hB4 => ?_)
  replace hB4 : Blk w1 (w.heap.size) 3 [.int .i64 a] := hB4
  have hT0 := hT2
  have hG := hG.tch0 hT2
  refine st (by rfl) (S_new (v := .pointer (some ⟨w1.heap.size, 0, none⟩)) (ob := .cells #[.int .i64 b] 3) (by kernel_rfl) fun w5 hT6 hs7 hB8 => ?_)
  replace hB8 : Blk w5 (w1.heap.size) 3 [.int .i64 b] := hB8
  have hT0 := hT0.t0 hT6
  have hG := hG.tch0 hT6
  have hB4 := hB4.tch0 hT6
  refine sg [(6, .int .i64 0)] (by kernel_rfl) ?_
  refine op_nil ?_
  refine W_seq ?_
  refine W_seq ?_
  refine W_region (by kernel_rfl) ?_
  refine sg [(7, .pointer (some ⟨p, 0, none⟩))] (by kernel_rfl) ?_
  refine st (by rfl) (S_val (v := .int .i64 a) (R_load (v := .int .i64 a) (by kernel_rfl) (by kernel_rfl) ((hB4.cell 0).trans rfl)) ?_)
  refine st (by rfl) (S_val (v := .int .i64 b) (R_load (v := .int .i64 b) (by kernel_rfl) (by kernel_rfl) ((hB8.cell 0).trans rfl)) ?_)
  refine st (by rfl) (S_new (v := .slice (some ⟨w5.heap.size, 0, none⟩) 2 2) (ob := .cells #[.int .i64 a, .int .i64 b] 3) (by kernel_rfl) fun w9 hT10 hs11 hB12 => ?_)
  replace hB12 : Blk w9 (w5.heap.size) 3 [.int .i64 a, .int .i64 b] := hB12
  have hT0 := hT0.t0 hT10
  have hG := hG.tch0 hT10
  have hB4 := hB4.tch0 hT10
  have hB8 := hB8.tch0 hT10
  refine st (by rfl) (S_call (args := [.pointer (some ⟨p, 0, none⟩), .slice (some ⟨w5.heap.size, 0, none⟩) 2 2]) (by kernel_rfl) (obad_ok F p n (w5.heap.size) 2 cs I [a, b] true _ hG (show Blk _ _ 3 (ints .i64 [a, b]) from hB12) rfl (by omega) (by intro x hx; simp only [List.mem_cons, List.not_mem_nil, or_false] at hx; omega) hb) ?_)
  rintro _ w13 ⟨rfl, hT14⟩
  have hT0 := hT0.t0 hT14
  have hG := hG.tch0 hT14
  have hB4 := hB4.tch0 hT14
  have hB8 := hB8.tch0 hT14
  have hB12 := hB12.tch0 hT14
  refine op_nil ?_
  refine W_cond true (by kernel_rfl) (by kernel_rfl) (fun _ => ?_) (fun h => nomatch h)
  refine W_seq ?_
  refine W_fg [(0, .pointer (some ⟨p, 0, none⟩)), (1, .int .i64 a), (2, .int .i64 b), (4, .pointer (some ⟨w.heap.size, 0, none⟩)), (5, .pointer (some ⟨w1.heap.size, 0, none⟩)), (6, .int .i64 0), (11, .bool true)] (by kernel_rfl) fun ρ => ?_
  refine W_region (by kernel_rfl) ?_
  refine sg [(6, .int .i64 (-1))] (by kernel_rfl) ?_
  refine op_nil ?_
  refine W_ret ?_
  exact ⟨_, Res_of (v := .int .i64 (-1)) (by kernel_rfl), ⟨rfl, hT0⟩⟩

set_option maxRecDepth 100000 in
theorem or_bad (F : Nat → Prop) (p n : Nat) (a b : Int) (cs : List (List Nat)) (I : Nat → Prop) (w : World) (hG : GObj F w p n cs I) (hma : a ≤ 9223372036854775807) (hmb : b ≤ 9223372036854775807) (hb : badB n [a, b] = true) : Ret Try.prog 25 [.pointer (some ⟨p, 0, none⟩), .int .i64 a, .int .i64 b] w fun v w' => v = .int .i64 (-1) ∧ Tch N0 w w' := by
  refine enter Try.func25 rfl rfl ?_
  refine W_seq ?_
  refine W_region (by kernel_rfl) ?_
  refine sg [(6, .int .i64 0)] (by kernel_rfl) ?_
  refine op_nil ?_
  refine W_seq ?_
  refine W_seq ?_
  refine W_region (by kernel_rfl) ?_
  refine sg [(7, .pointer (some ⟨p, 0, none⟩)), (8, .int .i64 a), (9, .int .i64 b)] (by kernel_rfl) ?_
  refine st (by rfl) (S_new (v := .slice (some ⟨w.heap.size, 0, none⟩) 2 2) (ob := .cells #[.int .i64 a, .int .i64 b] 3) (by kernel_rfl) fun w1 hT2 hs3 hB4 => ?_)
  replace hB4 : Blk w1 (w.heap.size) 3 [.int .i64 a, .int .i64 b] := hB4
  have hT0 := hT2
  have hG := hG.tch0 hT2
  refine st (by rfl) (S_call (args := [.pointer (some ⟨p, 0, none⟩), .slice (some ⟨w.heap.size, 0, none⟩) 2 2]) (by kernel_rfl) (obad_ok F p n (w.heap.size) 2 cs I [a, b] true _ hG (show Blk _ _ 3 (ints .i64 [a, b]) from hB4) rfl (by omega) (by intro x hx; simp only [List.mem_cons, List.not_mem_nil, or_false] at hx; omega) hb) ?_)
  rintro _ w5 ⟨rfl, hT6⟩
  have hT0 := hT0.t0 hT6
  have hG := hG.tch0 hT6
  have hB4 := hB4.tch0 hT6
  refine op_nil ?_
  refine W_cond true (by kernel_rfl) (by kernel_rfl) (fun _ => ?_) (fun h => nomatch h)
  refine W_seq ?_
  refine W_region (by kernel_rfl) ?_
  refine sg [(6, .int .i64 (-1))] (by kernel_rfl) ?_
  refine op_nil ?_
  refine W_ret ?_
  exact ⟨_, Res_of (v := .int .i64 (-1)) (by kernel_rfl), ⟨rfl, hT0⟩⟩

set_option maxRecDepth 100000 in
theorem xor_bad (F : Nat → Prop) (p n : Nat) (a b : Int) (cs : List (List Nat)) (I : Nat → Prop) (w : World) (hG : GObj F w p n cs I) (hma : a ≤ 9223372036854775807) (hmb : b ≤ 9223372036854775807) (hb : badB n [a, b] = true) : Ret Try.prog 21 [.pointer (some ⟨p, 0, none⟩), .int .i64 a, .int .i64 b] w fun v w' => v = .int .i64 (-1) ∧ Tch N0 w w' := by
  refine enter Try.func21 rfl rfl ?_
  refine W_seq ?_
  refine W_region (by kernel_rfl) ?_
  refine st (by rfl) (S_new (v := .pointer (some ⟨w.heap.size, 0, none⟩)) (ob := .cells #[.int .i64 a] 3) (by kernel_rfl) fun w1 hT2 hs3 hB4 => ?_)
  replace hB4 : Blk w1 (w.heap.size) 3 [.int .i64 a] := hB4
  have hT0 := hT2
  have hG := hG.tch0 hT2
  refine st (by rfl) (S_new (v := .pointer (some ⟨w1.heap.size, 0, none⟩)) (ob := .cells #[.int .i64 b] 3) (by kernel_rfl) fun w5 hT6 hs7 hB8 => ?_)
  replace hB8 : Blk w5 (w1.heap.size) 3 [.int .i64 b] := hB8
  have hT0 := hT0.t0 hT6
  have hG := hG.tch0 hT6
  have hB4 := hB4.tch0 hT6
  refine sg [(6, .int .i64 0)] (by kernel_rfl) ?_
  refine op_nil ?_
  refine W_seq ?_
  refine W_seq ?_
  refine W_region (by kernel_rfl) ?_
  refine sg [(9, .pointer (some ⟨p, 0, none⟩))] (by kernel_rfl) ?_
  refine st (by rfl) (S_val (v := .int .i64 a) (R_load (v := .int .i64 a) (by kernel_rfl) (by kernel_rfl) ((hB4.cell 0).trans rfl)) ?_)
  refine st (by rfl) (S_val (v := .int .i64 b) (R_load (v := .int .i64 b) (by kernel_rfl) (by kernel_rfl) ((hB8.cell 0).trans rfl)) ?_)
  refine st (by rfl) (S_new (v := .slice (some ⟨w5.heap.size, 0, none⟩) 2 2) (ob := .cells #[.int .i64 a, .int .i64 b] 3) (by kernel_rfl) fun w9 hT10 hs11 hB12 => ?_)
  replace hB12 : Blk w9 (w5.heap.size) 3 [.int .i64 a, .int .i64 b] := hB12
  have hT0 := hT0.t0 hT10
  have hG := hG.tch0 hT10
  have hB4 := hB4.tch0 hT10
  have hB8 := hB8.tch0 hT10
  refine st (by rfl) (S_call (args := [.pointer (some ⟨p, 0, none⟩), .slice (some ⟨w5.heap.size, 0, none⟩) 2 2]) (by kernel_rfl) (obad_ok F p n (w5.heap.size) 2 cs I [a, b] true _ hG (show Blk _ _ 3 (ints .i64 [a, b]) from hB12) rfl (by omega) (by intro x hx; simp only [List.mem_cons, List.not_mem_nil, or_false] at hx; omega) hb) ?_)
  rintro _ w13 ⟨rfl, hT14⟩
  have hT0 := hT0.t0 hT14
  have hG := hG.tch0 hT14
  have hB4 := hB4.tch0 hT14
  have hB8 := hB8.tch0 hT14
  have hB12 := hB12.tch0 hT14
  refine op_nil ?_
  refine W_cond true (by kernel_rfl) (by kernel_rfl) (fun _ => ?_) (fun h => nomatch h)
  refine W_seq ?_
  refine W_fg [(0, .pointer (some ⟨p, 0, none⟩)), (1, .int .i64 a), (2, .int .i64 b), (4, .pointer (some ⟨w.heap.size, 0, none⟩)), (5, .pointer (some ⟨w1.heap.size, 0, none⟩)), (6, .int .i64 0), (13, .bool true)] (by kernel_rfl) fun ρ => ?_
  refine W_region (by kernel_rfl) ?_
  refine sg [(6, .int .i64 (-1))] (by kernel_rfl) ?_
  refine op_nil ?_
  refine W_ret ?_
  exact ⟨_, Res_of (v := .int .i64 (-1)) (by kernel_rfl), ⟨rfl, hT0⟩⟩

set_option maxRecDepth 100000 in
theorem ite_bad (F : Nat → Prop) (p n : Nat) (c a b : Int) (cs : List (List Nat)) (I : Nat → Prop) (w : World) (hG : GObj F w p n cs I) (hmc : c ≤ 9223372036854775807) (hma : a ≤ 9223372036854775807) (hmb : b ≤ 9223372036854775807) (hb : badB n [c, a, b] = true) : Ret Try.prog 26 [.pointer (some ⟨p, 0, none⟩), .int .i64 c, .int .i64 a, .int .i64 b] w fun v w' => v = .int .i64 (-1) ∧ Tch N0 w w' := by
  refine enter Try.func26 rfl rfl ?_
  refine W_seq ?_
  refine W_region (by kernel_rfl) ?_
  refine st (by rfl) (S_new (v := .pointer (some ⟨w.heap.size, 0, none⟩)) (ob := .cells #[.int .i64 c] 3) (by kernel_rfl) fun w1 hT2 hs3 hB4 => ?_)
  replace hB4 : Blk w1 (w.heap.size) 3 [.int .i64 c] := hB4
  have hT0 := hT2
  have hG := hG.tch0 hT2
  refine st (by rfl) (S_new (v := .pointer (some ⟨w1.heap.size, 0, none⟩)) (ob := .cells #[.int .i64 a] 3) (by kernel_rfl) fun w5 hT6 hs7 hB8 => ?_)
  replace hB8 : Blk w5 (w1.heap.size) 3 [.int .i64 a] := hB8
  have hT0 := hT0.t0 hT6
  have hG := hG.tch0 hT6
  have hB4 := hB4.tch0 hT6
  refine st (by rfl) (S_new (v := .pointer (some ⟨w5.heap.size, 0, none⟩)) (ob := .cells #[.int .i64 b] 3) (by kernel_rfl) fun w9 hT10 hs11 hB12 => ?_)
  replace hB12 : Blk w9 (w5.heap.size) 3 [.int .i64 b] := hB12
  have hT0 := hT0.t0 hT10
  have hG := hG.tch0 hT10
  have hB4 := hB4.tch0 hT10
  have hB8 := hB8.tch0 hT10
  refine sg [(8, .int .i64 0)] (by kernel_rfl) ?_
  refine op_nil ?_
  refine W_seq ?_
  refine W_seq ?_
  refine W_region (by kernel_rfl) ?_
  refine sg [(9, .pointer (some ⟨p, 0, none⟩))] (by kernel_rfl) ?_
  refine st (by rfl) (S_val (v := .int .i64 c) (R_load (v := .int .i64 c) (by kernel_rfl) (by kernel_rfl) ((hB4.cell 0).trans rfl)) ?_)
  refine st (by rfl) (S_val (v := .int .i64 a) (R_load (v := .int .i64 a) (by kernel_rfl) (by kernel_rfl) ((hB8.cell 0).trans rfl)) ?_)
  refine st (by rfl) (S_val (v := .int .i64 b) (R_load (v := .int .i64 b) (by kernel_rfl) (by kernel_rfl) ((hB12.cell 0).trans rfl)) ?_)
  refine st (by rfl) (S_new (v := .slice (some ⟨w9.heap.size, 0, none⟩) 3 3) (ob := .cells #[.int .i64 c, .int .i64 a, .int .i64 b] 3) (by kernel_rfl) fun w13 hT14 hs15 hB16 => ?_)
  replace hB16 : Blk w13 (w9.heap.size) 3 [.int .i64 c, .int .i64 a, .int .i64 b] := hB16
  have hT0 := hT0.t0 hT14
  have hG := hG.tch0 hT14
  have hB4 := hB4.tch0 hT14
  have hB8 := hB8.tch0 hT14
  have hB12 := hB12.tch0 hT14
  refine st (by rfl) (S_call (args := [.pointer (some ⟨p, 0, none⟩), .slice (some ⟨w9.heap.size, 0, none⟩) 3 3]) (by kernel_rfl) (obad_ok F p n (w9.heap.size) 3 cs I [c, a, b] true _ hG (show Blk _ _ 3 (ints .i64 [c, a, b]) from hB16) rfl (by omega) (by intro x hx; simp only [List.mem_cons, List.not_mem_nil, or_false] at hx; omega) hb) ?_)
  rintro _ w17 ⟨rfl, hT18⟩
  have hT0 := hT0.t0 hT18
  have hG := hG.tch0 hT18
  have hB4 := hB4.tch0 hT18
  have hB8 := hB8.tch0 hT18
  have hB12 := hB12.tch0 hT18
  have hB16 := hB16.tch0 hT18
  refine op_nil ?_
  refine W_cond true (by kernel_rfl) (by kernel_rfl) (fun _ => ?_) (fun h => nomatch h)
  refine W_seq ?_
  refine W_fg [(0, .pointer (some ⟨p, 0, none⟩)), (1, .int .i64 c), (2, .int .i64 a), (3, .int .i64 b), (5, .pointer (some ⟨w.heap.size, 0, none⟩)), (6, .pointer (some ⟨w1.heap.size, 0, none⟩)), (7, .pointer (some ⟨w5.heap.size, 0, none⟩)), (8, .int .i64 0), (14, .bool true)] (by kernel_rfl) fun ρ => ?_
  refine W_region (by kernel_rfl) ?_
  refine sg [(8, .int .i64 (-1))] (by kernel_rfl) ?_
  refine op_nil ?_
  refine W_ret ?_
  exact ⟨_, Res_of (v := .int .i64 (-1)) (by kernel_rfl), ⟨rfl, hT0⟩⟩

set_option maxRecDepth 100000 in
theorem maj_bad (F : Nat → Prop) (p n : Nat) (a b c : Int) (cs : List (List Nat)) (I : Nat → Prop) (w : World) (hG : GObj F w p n cs I) (hma : a ≤ 9223372036854775807) (hmb : b ≤ 9223372036854775807) (hmc : c ≤ 9223372036854775807) (hb : badB n [a, b, c] = true) : Ret Try.prog 27 [.pointer (some ⟨p, 0, none⟩), .int .i64 a, .int .i64 b, .int .i64 c] w fun v w' => v = .int .i64 (-1) ∧ Tch N0 w w' := by
  refine enter Try.func27 rfl rfl ?_
  refine W_seq ?_
  refine W_region (by kernel_rfl) ?_
  refine sg [(8, .int .i64 0)] (by kernel_rfl) ?_
  refine op_nil ?_
  refine W_seq ?_
  refine W_seq ?_
  refine W_region (by kernel_rfl) ?_
  refine sg [(9, .pointer (some ⟨p, 0, none⟩)), (10, .int .i64 a), (11, .int .i64 b), (12, .int .i64 c)] (by kernel_rfl) ?_
  refine st (by rfl) (S_new (v := .slice (some ⟨w.heap.size, 0, none⟩) 3 3) (ob := .cells #[.int .i64 a, .int .i64 b, .int .i64 c] 3) (by kernel_rfl) fun w1 hT2 hs3 hB4 => ?_)
  replace hB4 : Blk w1 (w.heap.size) 3 [.int .i64 a, .int .i64 b, .int .i64 c] := hB4
  have hT0 := hT2
  have hG := hG.tch0 hT2
  refine st (by rfl) (S_call (args := [.pointer (some ⟨p, 0, none⟩), .slice (some ⟨w.heap.size, 0, none⟩) 3 3]) (by kernel_rfl) (obad_ok F p n (w.heap.size) 3 cs I [a, b, c] true _ hG (show Blk _ _ 3 (ints .i64 [a, b, c]) from hB4) rfl (by omega) (by intro x hx; simp only [List.mem_cons, List.not_mem_nil, or_false] at hx; omega) hb) ?_)
  rintro _ w5 ⟨rfl, hT6⟩
  have hT0 := hT0.t0 hT6
  have hG := hG.tch0 hT6
  have hB4 := hB4.tch0 hT6
  refine op_nil ?_
  refine W_cond true (by kernel_rfl) (by kernel_rfl) (fun _ => ?_) (fun h => nomatch h)
  refine W_seq ?_
  refine W_region (by kernel_rfl) ?_
  refine sg [(8, .int .i64 (-1))] (by kernel_rfl) ?_
  refine op_nil ?_
  refine W_ret ?_
  exact ⟨_, Res_of (v := .int .i64 (-1)) (by kernel_rfl), ⟨rfl, hT0⟩⟩

set_option maxRecDepth 100000 in
theorem and_nil (a b : Int) (w : World) : Ret Try.prog 24 [.pointer none, .int .i64 a, .int .i64 b] w fun v w' => v = .int .i64 (-1) ∧ Tch N0 w w' := by
  refine enter Try.func24 rfl rfl ?_
  refine W_seq ?_
  refine W_region (by kernel_rfl) ?_
  refine st (by rfl) (S_new (v := .pointer (some ⟨w.heap.size, 0, none⟩)) (ob := .cells #[.int .i64 a] 3) (by kernel_rfl) fun w1 hT2 hs3 hB4 => ?_)
  replace hB4 : Blk w1 (w.heap.size) 3 [.int .i64 a] := hB4
  have hT0 := hT2
  refine st (by rfl) (S_new (v := .pointer (some ⟨w1.heap.size, 0, none⟩)) (ob := .cells #[.int .i64 b] 3) (by kernel_rfl) fun w5 hT6 hs7 hB8 => ?_)
  replace hB8 : Blk w5 (w1.heap.size) 3 [.int .i64 b] := hB8
  have hT0 := hT0.t0 hT6
  have hB4 := hB4.tch0 hT6
  refine sg [(6, .int .i64 0)] (by kernel_rfl) ?_
  refine op_nil ?_
  refine W_seq ?_
  refine W_seq ?_
  refine W_region (by kernel_rfl) ?_
  refine sg [(7, .pointer none)] (by kernel_rfl) ?_
  refine st (by rfl) (S_val (v := .int .i64 a) (R_load (v := .int .i64 a) (by kernel_rfl) (by kernel_rfl) ((hB4.cell 0).trans rfl)) ?_)
  refine st (by rfl) (S_val (v := .int .i64 b) (R_load (v := .int .i64 b) (by kernel_rfl) (by kernel_rfl) ((hB8.cell 0).trans rfl)) ?_)
  refine st (by rfl) (S_new (v := .slice (some ⟨w5.heap.size, 0, none⟩) 2 2) (ob := .cells #[.int .i64 a, .int .i64 b] 3) (by kernel_rfl) fun w9 hT10 hs11 hB12 => ?_)
  replace hB12 : Blk w9 (w5.heap.size) 3 [.int .i64 a, .int .i64 b] := hB12
  have hT0 := hT0.t0 hT10
  have hB4 := hB4.tch0 hT10
  have hB8 := hB8.tch0 hT10
  refine st (by rfl) (S_call (args := [.pointer none, .slice (some ⟨w5.heap.size, 0, none⟩) 2 2]) (by kernel_rfl) (bad_nil (w5.heap.size) 2 [a, b] _ (show Blk _ _ 3 (ints .i64 [a, b]) from hB12) rfl (by omega) (by omega)) ?_)
  rintro _ w13 ⟨rfl, hT14⟩
  have hT0 := hT0.t0 hT14
  have hB4 := hB4.tch0 hT14
  have hB8 := hB8.tch0 hT14
  have hB12 := hB12.tch0 hT14
  refine op_nil ?_
  refine W_cond true (by kernel_rfl) (by kernel_rfl) (fun _ => ?_) (fun h => nomatch h)
  refine W_seq ?_
  refine W_fg [(0, .pointer none), (1, .int .i64 a), (2, .int .i64 b), (4, .pointer (some ⟨w.heap.size, 0, none⟩)), (5, .pointer (some ⟨w1.heap.size, 0, none⟩)), (6, .int .i64 0), (11, .bool true)] (by kernel_rfl) fun ρ => ?_
  refine W_region (by kernel_rfl) ?_
  refine sg [(6, .int .i64 (-1))] (by kernel_rfl) ?_
  refine op_nil ?_
  refine W_ret ?_
  exact ⟨_, Res_of (v := .int .i64 (-1)) (by kernel_rfl), ⟨rfl, hT0⟩⟩

set_option maxRecDepth 100000 in
theorem or_nil (a b : Int) (w : World) : Ret Try.prog 25 [.pointer none, .int .i64 a, .int .i64 b] w fun v w' => v = .int .i64 (-1) ∧ Tch N0 w w' := by
  refine enter Try.func25 rfl rfl ?_
  refine W_seq ?_
  refine W_region (by kernel_rfl) ?_
  refine sg [(6, .int .i64 0)] (by kernel_rfl) ?_
  refine op_nil ?_
  refine W_seq ?_
  refine W_seq ?_
  refine W_region (by kernel_rfl) ?_
  refine sg [(7, .pointer none), (8, .int .i64 a), (9, .int .i64 b)] (by kernel_rfl) ?_
  refine st (by rfl) (S_new (v := .slice (some ⟨w.heap.size, 0, none⟩) 2 2) (ob := .cells #[.int .i64 a, .int .i64 b] 3) (by kernel_rfl) fun w1 hT2 hs3 hB4 => ?_)
  replace hB4 : Blk w1 (w.heap.size) 3 [.int .i64 a, .int .i64 b] := hB4
  have hT0 := hT2
  refine st (by rfl) (S_call (args := [.pointer none, .slice (some ⟨w.heap.size, 0, none⟩) 2 2]) (by kernel_rfl) (bad_nil (w.heap.size) 2 [a, b] _ (show Blk _ _ 3 (ints .i64 [a, b]) from hB4) rfl (by omega) (by omega)) ?_)
  rintro _ w5 ⟨rfl, hT6⟩
  have hT0 := hT0.t0 hT6
  have hB4 := hB4.tch0 hT6
  refine op_nil ?_
  refine W_cond true (by kernel_rfl) (by kernel_rfl) (fun _ => ?_) (fun h => nomatch h)
  refine W_seq ?_
  refine W_region (by kernel_rfl) ?_
  refine sg [(6, .int .i64 (-1))] (by kernel_rfl) ?_
  refine op_nil ?_
  refine W_ret ?_
  exact ⟨_, Res_of (v := .int .i64 (-1)) (by kernel_rfl), ⟨rfl, hT0⟩⟩

set_option maxRecDepth 100000 in
theorem xor_nil (a b : Int) (w : World) : Ret Try.prog 21 [.pointer none, .int .i64 a, .int .i64 b] w fun v w' => v = .int .i64 (-1) ∧ Tch N0 w w' := by
  refine enter Try.func21 rfl rfl ?_
  refine W_seq ?_
  refine W_region (by kernel_rfl) ?_
  refine st (by rfl) (S_new (v := .pointer (some ⟨w.heap.size, 0, none⟩)) (ob := .cells #[.int .i64 a] 3) (by kernel_rfl) fun w1 hT2 hs3 hB4 => ?_)
  replace hB4 : Blk w1 (w.heap.size) 3 [.int .i64 a] := hB4
  have hT0 := hT2
  refine st (by rfl) (S_new (v := .pointer (some ⟨w1.heap.size, 0, none⟩)) (ob := .cells #[.int .i64 b] 3) (by kernel_rfl) fun w5 hT6 hs7 hB8 => ?_)
  replace hB8 : Blk w5 (w1.heap.size) 3 [.int .i64 b] := hB8
  have hT0 := hT0.t0 hT6
  have hB4 := hB4.tch0 hT6
  refine sg [(6, .int .i64 0)] (by kernel_rfl) ?_
  refine op_nil ?_
  refine W_seq ?_
  refine W_seq ?_
  refine W_region (by kernel_rfl) ?_
  refine sg [(9, .pointer none)] (by kernel_rfl) ?_
  refine st (by rfl) (S_val (v := .int .i64 a) (R_load (v := .int .i64 a) (by kernel_rfl) (by kernel_rfl) ((hB4.cell 0).trans rfl)) ?_)
  refine st (by rfl) (S_val (v := .int .i64 b) (R_load (v := .int .i64 b) (by kernel_rfl) (by kernel_rfl) ((hB8.cell 0).trans rfl)) ?_)
  refine st (by rfl) (S_new (v := .slice (some ⟨w5.heap.size, 0, none⟩) 2 2) (ob := .cells #[.int .i64 a, .int .i64 b] 3) (by kernel_rfl) fun w9 hT10 hs11 hB12 => ?_)
  replace hB12 : Blk w9 (w5.heap.size) 3 [.int .i64 a, .int .i64 b] := hB12
  have hT0 := hT0.t0 hT10
  have hB4 := hB4.tch0 hT10
  have hB8 := hB8.tch0 hT10
  refine st (by rfl) (S_call (args := [.pointer none, .slice (some ⟨w5.heap.size, 0, none⟩) 2 2]) (by kernel_rfl) (bad_nil (w5.heap.size) 2 [a, b] _ (show Blk _ _ 3 (ints .i64 [a, b]) from hB12) rfl (by omega) (by omega)) ?_)
  rintro _ w13 ⟨rfl, hT14⟩
  have hT0 := hT0.t0 hT14
  have hB4 := hB4.tch0 hT14
  have hB8 := hB8.tch0 hT14
  have hB12 := hB12.tch0 hT14
  refine op_nil ?_
  refine W_cond true (by kernel_rfl) (by kernel_rfl) (fun _ => ?_) (fun h => nomatch h)
  refine W_seq ?_
  refine W_fg [(0, .pointer none), (1, .int .i64 a), (2, .int .i64 b), (4, .pointer (some ⟨w.heap.size, 0, none⟩)), (5, .pointer (some ⟨w1.heap.size, 0, none⟩)), (6, .int .i64 0), (13, .bool true)] (by kernel_rfl) fun ρ => ?_
  refine W_region (by kernel_rfl) ?_
  refine sg [(6, .int .i64 (-1))] (by kernel_rfl) ?_
  refine op_nil ?_
  refine W_ret ?_
  exact ⟨_, Res_of (v := .int .i64 (-1)) (by kernel_rfl), ⟨rfl, hT0⟩⟩

set_option maxRecDepth 100000 in
theorem ite_nil (c a b : Int) (w : World) : Ret Try.prog 26 [.pointer none, .int .i64 c, .int .i64 a, .int .i64 b] w fun v w' => v = .int .i64 (-1) ∧ Tch N0 w w' := by
  refine enter Try.func26 rfl rfl ?_
  refine W_seq ?_
  refine W_region (by kernel_rfl) ?_
  refine st (by rfl) (S_new (v := .pointer (some ⟨w.heap.size, 0, none⟩)) (ob := .cells #[.int .i64 c] 3) (by kernel_rfl) fun w1 hT2 hs3 hB4 => ?_)
  replace hB4 : Blk w1 (w.heap.size) 3 [.int .i64 c] := hB4
  have hT0 := hT2
  refine st (by rfl) (S_new (v := .pointer (some ⟨w1.heap.size, 0, none⟩)) (ob := .cells #[.int .i64 a] 3) (by kernel_rfl) fun w5 hT6 hs7 hB8 => ?_)
  replace hB8 : Blk w5 (w1.heap.size) 3 [.int .i64 a] := hB8
  have hT0 := hT0.t0 hT6
  have hB4 := hB4.tch0 hT6
  refine st (by rfl) (S_new (v := .pointer (some ⟨w5.heap.size, 0, none⟩)) (ob := .cells #[.int .i64 b] 3) (by kernel_rfl) fun w9 hT10 hs11 hB12 => ?_)
  replace hB12 : Blk w9 (w5.heap.size) 3 [.int .i64 b] := hB12
  have hT0 := hT0.t0 hT10
  have hB4 := hB4.tch0 hT10
  have hB8 := hB8.tch0 hT10
  refine sg [(8, .int .i64 0)] (by kernel_rfl) ?_
  refine op_nil ?_
  refine W_seq ?_
  refine W_seq ?_
  refine W_region (by kernel_rfl) ?_
  refine sg [(9, .pointer none)] (by kernel_rfl) ?_
  refine st (by rfl) (S_val (v := .int .i64 c) (R_load (v := .int .i64 c) (by kernel_rfl) (by kernel_rfl) ((hB4.cell 0).trans rfl)) ?_)
  refine st (by rfl) (S_val (v := .int .i64 a) (R_load (v := .int .i64 a) (by kernel_rfl) (by kernel_rfl) ((hB8.cell 0).trans rfl)) ?_)
  refine st (by rfl) (S_val (v := .int .i64 b) (R_load (v := .int .i64 b) (by kernel_rfl) (by kernel_rfl) ((hB12.cell 0).trans rfl)) ?_)
  refine st (by rfl) (S_new (v := .slice (some ⟨w9.heap.size, 0, none⟩) 3 3) (ob := .cells #[.int .i64 c, .int .i64 a, .int .i64 b] 3) (by kernel_rfl) fun w13 hT14 hs15 hB16 => ?_)
  replace hB16 : Blk w13 (w9.heap.size) 3 [.int .i64 c, .int .i64 a, .int .i64 b] := hB16
  have hT0 := hT0.t0 hT14
  have hB4 := hB4.tch0 hT14
  have hB8 := hB8.tch0 hT14
  have hB12 := hB12.tch0 hT14
  refine st (by rfl) (S_call (args := [.pointer none, .slice (some ⟨w9.heap.size, 0, none⟩) 3 3]) (by kernel_rfl) (bad_nil (w9.heap.size) 3 [c, a, b] _ (show Blk _ _ 3 (ints .i64 [c, a, b]) from hB16) rfl (by omega) (by omega)) ?_)
  rintro _ w17 ⟨rfl, hT18⟩
  have hT0 := hT0.t0 hT18
  have hB4 := hB4.tch0 hT18
  have hB8 := hB8.tch0 hT18
  have hB12 := hB12.tch0 hT18
  have hB16 := hB16.tch0 hT18
  refine op_nil ?_
  refine W_cond true (by kernel_rfl) (by kernel_rfl) (fun _ => ?_) (fun h => nomatch h)
  refine W_seq ?_
  refine W_fg [(0, .pointer none), (1, .int .i64 c), (2, .int .i64 a), (3, .int .i64 b), (5, .pointer (some ⟨w.heap.size, 0, none⟩)), (6, .pointer (some ⟨w1.heap.size, 0, none⟩)), (7, .pointer (some ⟨w5.heap.size, 0, none⟩)), (8, .int .i64 0), (14, .bool true)] (by kernel_rfl) fun ρ => ?_
  refine W_region (by kernel_rfl) ?_
  refine sg [(8, .int .i64 (-1))] (by kernel_rfl) ?_
  refine op_nil ?_
  refine W_ret ?_
  exact ⟨_, Res_of (v := .int .i64 (-1)) (by kernel_rfl), ⟨rfl, hT0⟩⟩

set_option maxRecDepth 100000 in
theorem maj_nil (a b c : Int) (w : World) : Ret Try.prog 27 [.pointer none, .int .i64 a, .int .i64 b, .int .i64 c] w fun v w' => v = .int .i64 (-1) ∧ Tch N0 w w' := by
  refine enter Try.func27 rfl rfl ?_
  refine W_seq ?_
  refine W_region (by kernel_rfl) ?_
  refine sg [(8, .int .i64 0)] (by kernel_rfl) ?_
  refine op_nil ?_
  refine W_seq ?_
  refine W_seq ?_
  refine W_region (by kernel_rfl) ?_
  refine sg [(9, .pointer none), (10, .int .i64 a), (11, .int .i64 b), (12, .int .i64 c)] (by kernel_rfl) ?_
  refine st (by rfl) (S_new (v := .slice (some ⟨w.heap.size, 0, none⟩) 3 3) (ob := .cells #[.int .i64 a, .int .i64 b, .int .i64 c] 3) (by kernel_rfl) fun w1 hT2 hs3 hB4 => ?_)
  replace hB4 : Blk w1 (w.heap.size) 3 [.int .i64 a, .int .i64 b, .int .i64 c] := hB4
  have hT0 := hT2
  refine st (by rfl) (S_call (args := [.pointer none, .slice (some ⟨w.heap.size, 0, none⟩) 3 3]) (by kernel_rfl) (bad_nil (w.heap.size) 3 [a, b, c] _ (show Blk _ _ 3 (ints .i64 [a, b, c]) from hB4) rfl (by omega) (by omega)) ?_)
  rintro _ w5 ⟨rfl, hT6⟩
  have hT0 := hT0.t0 hT6
  have hB4 := hB4.tch0 hT6
  refine op_nil ?_
  refine W_cond true (by kernel_rfl) (by kernel_rfl) (fun _ => ?_) (fun h => nomatch h)
  refine W_seq ?_
  refine W_region (by kernel_rfl) ?_
  refine sg [(8, .int .i64 (-1))] (by kernel_rfl) ?_
  refine op_nil ?_
  refine W_ret ?_
  exact ⟨_, Res_of (v := .int .i64 (-1)) (by kernel_rfl), ⟨rfl, hT0⟩⟩

set_option maxRecDepth 100000 in
theorem true_ok (p : Nat) (w : World) : Ret Try.prog 16 [.pointer (some ⟨p, 0, none⟩)] w fun v w' => v = .int .i64 0 ∧ Tch N0 w w' := by
  refine enter Try.func16 rfl rfl ?_
  refine W_seq ?_
  refine W_region (by kernel_rfl) ?_
  refine sg [(2, .int .i64 0)] (by kernel_rfl) ?_
  refine op_nil ?_
  refine W_seq ?_
  refine W_seq ?_
  refine W_region (by kernel_rfl) ?_
  refine sg [(3, .pointer (some ⟨p, 0, none⟩)), (4, .bool false)] (by kernel_rfl) ?_
  refine op_nil ?_
  refine W_cond false (by kernel_rfl) (by kernel_rfl) (fun h => nomatch h) (fun _ => ?_)
  refine W_skip ?_
  refine W_seq ?_
  refine W_region (by kernel_rfl) ?_
  refine sg [(2, .int .i64 0)] (by kernel_rfl) ?_
  refine op_nil ?_
  refine W_ret ?_
  exact ⟨_, Res_of (v := .int .i64 0) (by kernel_rfl), ⟨rfl, Tch.refl _ _⟩⟩

set_option maxRecDepth 100000 in
theorem true_nil (w : World) : Ret Try.prog 16 [.pointer none] w fun v w' => v = .int .i64 (-1) ∧ Tch N0 w w' := by
  refine enter Try.func16 rfl rfl ?_
  refine W_seq ?_
  refine W_region (by kernel_rfl) ?_
  refine sg [(2, .int .i64 0)] (by kernel_rfl) ?_
  refine op_nil ?_
  refine W_seq ?_
  refine W_seq ?_
  refine W_region (by kernel_rfl) ?_
  refine sg [(3, .pointer none), (4, .bool true)] (by kernel_rfl) ?_
  refine op_nil ?_
  refine W_cond true (by kernel_rfl) (by kernel_rfl) (fun _ => ?_) (fun h => nomatch h)
  refine W_seq ?_
  refine W_region (by kernel_rfl) ?_
  refine sg [(2, .int .i64 (-1))] (by kernel_rfl) ?_
  refine op_nil ?_
  refine W_ret ?_
  exact ⟨_, Res_of (v := .int .i64 (-1)) (by kernel_rfl), ⟨rfl, Tch.refl _ _⟩⟩

set_option maxRecDepth 100000 in
theorem input_nil (w : World) : Ret Try.prog 17 [.pointer none] w fun v w' => v = .int .i64 (-1) ∧ Tch N0 w w' := by
  refine enter Try.func17 rfl rfl ?_
  refine W_seq ?_
  refine W_region (by kernel_rfl) ?_
  refine sg [(2, .int .i64 0)] (by kernel_rfl) ?_
  refine op_nil ?_
  refine W_seq ?_
  refine W_seq ?_
  refine W_region (by kernel_rfl) ?_
  refine sg [(3, .pointer none), (4, .bool true)] (by kernel_rfl) ?_
  refine op_nil ?_
  refine W_cond true (by kernel_rfl) (by kernel_rfl) (fun _ => ?_) (fun h => nomatch h)
  refine W_seq ?_
  refine W_region (by kernel_rfl) ?_
  refine sg [(2, .int .i64 (-1))] (by kernel_rfl) ?_
  refine op_nil ?_
  refine W_ret ?_
  exact ⟨_, Res_of (v := .int .i64 (-1)) (by kernel_rfl), ⟨rfl, Tch.refl _ _⟩⟩

set_option maxRecDepth 100000 in
theorem vars_nil (w : World) : Ret Try.prog 22 [.pointer none] w fun v w' => v = .int .i64 0 ∧ Tch N0 w w' := by
  refine enter Try.func22 rfl rfl ?_
  refine W_seq ?_
  refine W_region (by kernel_rfl) ?_
  refine sg [(2, .int .i64 0)] (by kernel_rfl) ?_
  refine op_nil ?_
  refine W_seq ?_
  refine W_seq ?_
  refine W_region (by kernel_rfl) ?_
  refine sg [(3, .pointer none), (4, .bool true)] (by kernel_rfl) ?_
  refine op_nil ?_
  refine W_cond true (by kernel_rfl) (by kernel_rfl) (fun _ => ?_) (fun h => nomatch h)
  refine W_seq ?_
  refine W_region (by kernel_rfl) ?_
  refine sg [(2, .int .i64 0)] (by kernel_rfl) ?_
  refine op_nil ?_
  refine W_ret ?_
  exact ⟨_, Res_of (v := .int .i64 0) (by kernel_rfl), ⟨rfl, Tch.refl _ _⟩⟩

set_option maxRecDepth 100000 in
theorem clauses_nil (w : World) : Ret Try.prog 23 [.pointer none] w fun v w' => v = .slice none 0 0 ∧ Tch N0 w w' := by
  refine enter Try.func23 rfl rfl ?_
  refine W_seq ?_
  refine W_region (by kernel_rfl) ?_
  refine sg [(2, .slice none 0 0)] (by kernel_rfl) ?_
  refine op_nil ?_
  refine W_seq ?_
  refine W_seq ?_
  refine W_region (by kernel_rfl) ?_
  refine sg [(3, .pointer none), (4, .bool true)] (by kernel_rfl) ?_
  refine op_nil ?_
  refine W_cond true (by kernel_rfl) (by kernel_rfl) (fun _ => ?_) (fun h => nomatch h)
  refine W_seq ?_
  refine W_region (by kernel_rfl) ?_
  refine sg [(2, .slice none 0 0)] (by kernel_rfl) ?_
  refine op_nil ?_
  refine W_ret ?_
  exact ⟨_, Res_of (v := .slice none 0 0) (by kernel_rfl), ⟨rfl, Tch.refl _ _⟩⟩

set_option maxRecDepth 100000 in
theorem input_ok (F : Nat → Prop) (p n : Nat) (cs : List (List Nat)) (I : Nat → Prop) (w : World) (hG : GObj F w p n cs I) (hn : n ≤ 68719476000) : Ret Try.prog 17 [.pointer (some ⟨p, 0, none⟩)] w fun v w' => v = .int .i64 ((2 * n : Nat) : Int) ∧ GObj F w' p (n + 1) cs (fun v => I v ∨ v = n) ∧ Mv F F w w' := by
  have hL := hG.1
  have hMv := Mv.refl F w
  refine enter Try.func17 rfl rfl ?_
  refine W_seq ?_
  refine W_region (by kernel_rfl) ?_
  refine sg [(2, .int .i64 0)] (by kernel_rfl) ?_
  refine op_nil ?_
  refine W_seq ?_
  refine W_seq ?_
  refine W_region (by kernel_rfl) ?_
  refine sg [(3, .pointer (some ⟨p, 0, none⟩)), (4, .bool false)] (by kernel_rfl) ?_
  refine op_nil ?_
  refine W_cond false (by kernel_rfl) (by kernel_rfl) (fun h => nomatch h) (fun _ => ?_)
  refine W_skip ?_
  refine W_seq ?_
  refine W_region (by kernel_rfl) ?_
  refine sg [(5, .pointer (some ⟨p, 0, none⟩))] (by kernel_rfl) ?_
  refine st (by rfl) (S_call (args := [.pointer (some ⟨p, 0, none⟩)]) (by kernel_rfl) (low_fresh F p n cs (MkE n cs) _ hL (by omega)) ?_)
  rintro _ w1 ⟨rfl, hL, hm2⟩
  have hMv := hMv.trans hm2
  refine sg [(2, .int .i64 ((2 * n : Nat) : Int))] (by kernel_rfl) ?_
  refine op_nil ?_
  refine W_ret ?_
  exact ⟨_, Res_of (v := .int .i64 ((2 * n : Nat) : Int)) (by kernel_rfl), ⟨rfl, ⟨hL.mono (MkE.mono (Nat.le_succ n) (fun c h => h)), hG.2.input⟩, hMv⟩⟩

set_option maxRecDepth 100000 in
theorem vars_ok (F : Nat → Prop) (p n : Nat) (cs : List (List Nat)) (I : Nat → Prop) (w : World) (hG : GObj F w p n cs I) : Ret Try.prog 22 [.pointer (some ⟨p, 0, none⟩)] w fun v w' => v = .int .i64 ((n : Nat) : Int) ∧ Tch N0 w w' := by
  obtain ⟨⟨A, cp, mb, Lv, hP, _⟩, _⟩ := hG
  refine enter Try.func22 rfl rfl ?_
  refine W_seq ?_
  refine W_region (by kernel_rfl) ?_
  refine sg [(2, .int .i64 0)] (by kernel_rfl) ?_
  refine op_nil ?_
  refine W_seq ?_
  refine W_seq ?_
  refine W_region (by kernel_rfl) ?_
  refine sg [(3, .pointer (some ⟨p, 0, none⟩)), (4, .bool false)] (by kernel_rfl) ?_
  refine op_nil ?_
  refine W_cond false (by kernel_rfl) (by kernel_rfl) (fun h => nomatch h) (fun _ => ?_)
  refine W_skip ?_
  refine W_seq ?_
  refine W_region (by kernel_rfl) ?_
  refine sg [(5, .pointer (some ⟨p, 0, none⟩)), (6, .pointer (some ⟨p, 0, none⟩)), (7, .pointer (some ⟨p, 0, none⟩))] (by kernel_rfl) ?_
  refine st (by rfl) (S_val (v := .int .i64 ((n : Nat) : Int)) (R_load (v := .int .i64 ((n : Nat) : Int)) (by kernel_rfl) (by kernel_rfl) ((hP.cell 0).trans rfl)) ?_)
  refine sg [(2, .int .i64 ((n : Nat) : Int))] (by kernel_rfl) ?_
  refine op_nil ?_
  refine W_ret ?_
  exact ⟨_, Res_of (v := .int .i64 ((n : Nat) : Int)) (by kernel_rfl), ⟨rfl, Tch.refl _ _⟩⟩

theorem ClsT.cls {F : Nat → Prop} {w : World} {Lv : List Value} {cs : List (List Nat)} (h : ClsT F w Lv cs) (hm : ∀ c, c ∈ cs → c.length ≤ 9223372036854775807) : Cls w Lv cs := fun i hi => by
  obtain ⟨g, h1, _, h3⟩ := h.2 i hi
  exact ⟨_, _, _, h1, h3.rd 1 _ (by rw [nats_length]; omega) (hm _ (cmem hi))⟩
theorem Cls.tch0 {w w' : World} {Lv : List Value} {cs : List (List Nat)} (h : Cls w Lv cs) (k : Tch N0 w w') : Cls w' Lv cs := fun i hi => by
  obtain ⟨C, m, cc, h1, h2⟩ := h i hi
  exact ⟨C, m, cc, h1, h2.tch0 k⟩
theorem Own.rd1 {w : World} {base e n : Nat} {A : Option Addr} {cp : Nat} {cells : List Value} (h : Own w base e 1 (.slice A n cp) n cells) : RdW w 1 n A cells := by
  obtain ⟨A', c', e, hr⟩ := h.rd
  injection e with e1 e2 e3
  subst e1; exact hr
theorem ClsT.one {F : Nat → Prop} {w : World} {Lv : List Value} {cs : List (List Nat)} (h : ClsT F w Lv cs) : ∀ u ∈ Lv, oneV u = true := fun u hu => by
  obtain ⟨i, hi, e⟩ := List.getElem_of_mem hu
  obtain ⟨g, h1, _⟩ := h.2 i (by rw [← h.1]; exact hi)
  rw [List.getElem?_eq_getElem hi, e] at h1
  cases h1; rfl

set_option maxRecDepth 100000 in
theorem clauses_ok (F : Nat → Prop) (p n : Nat) (cs : List (List Nat)) (I : Nat → Prop) (w : World) (hG : GObj F w p n cs I) (hn : n ≤ 68719476736) : Ret Try.prog 23 [.pointer (some ⟨p, 0, none⟩)] w fun v w' => ∃ L lcp Lv, v = .slice L cs.length lcp ∧ RdW w' 1 cs.length L Lv ∧ Cls w' Lv cs ∧ Tch N0 w w' := by
  have hcl : 0 < cs.length := List.length_pos_of_mem hG.2.top
  have hlen := hG.2.len
  have hml := hG.2.len3
  obtain ⟨⟨A, cp, mb, Lv, hP, hO, hM, hC, fp, fm, fA, hlt⟩, _⟩ := hG
  refine enter Try.func23 rfl rfl ?_
  refine W_seq ?_
  refine W_region (by kernel_rfl) ?_
  refine sg [(2, .slice none 0 0)] (by kernel_rfl) ?_
  refine op_nil ?_
  refine W_seq ?_
  refine W_seq ?_
  refine W_region (by kernel_rfl) ?_
  refine sg [(3, .pointer (some ⟨p, 0, none⟩)), (4, .bool false)] (by kernel_rfl) ?_
  refine op_nil ?_
  refine W_cond false (by kernel_rfl) (by kernel_rfl) (fun h => nomatch h) (fun _ => ?_)
  refine W_skip ?_
  refine W_seq ?_
  refine W_region (by kernel_rfl) ?_
  refine sg [(5, .pointer (some ⟨p, 0, none⟩)), (6, .pointer (some ⟨p, 0, none⟩)), (7, .pointer (some ⟨p, 1, none⟩))] (by kernel_rfl) ?_
  refine st (by rfl) (S_val (v := .slice A cs.length cp) (R_load (v := .slice A cs.length cp) (by kernel_rfl) (by kernel_rfl) ((hP.cell 1).trans rfl)) ?_)
  refine st (by rfl) (S_append_nil 39 27 (.slice none 0 0) 24 (m := cs.length) (A := A) (c := cp) (news := Lv) (by kernel_rfl) (by rfl) (by kernel_rfl) (by kernel_rfl) (by kernel_rfl) (hO.rd1) hC.one (by simp only [maxLen]; omega) (by omega) hcl fun cpn spn w1 hN hT2 => ?_)
  have hT0 := hT2
  have hO := hO.tch0 hT2
  have hC := hC.tch0 hT2
  refine sg [(2, .slice (some ⟨w.heap.size, 0, none⟩) cs.length cpn)] (by kernel_rfl) ?_
  refine op_nil ?_
  refine W_ret ?_
  exact ⟨_, Res_of (v := .slice (some ⟨w.heap.size, 0, none⟩) cs.length cpn) (by kernel_rfl), ⟨_, _, Lv, rfl, hN.rdP 1 _ (by rw [hC.1]; omega) (by omega), hC.cls (fun c hc => by have := hml c hc; omega), hT0⟩⟩

end Go.Proofs.YtnlecdpiccgdpaaV

set_option linter.unusedVariables false
set_option linter.unusedSimpArgs false
namespace Go.Proofs.YtnlecdpiccgdpaaV
open Go Go.RowKit Go.Proofs

theorem hN2 {w : World} {g cp : Nat} {v : Value} {sp : List Value} (h : Blk w g 27 ([] ++ [v] ++ sp)) (hl : ([] ++ [v] ++ sp).length = cp) (hc : cp ≤ maxLen) : Own w 0 27 1 (.slice (some ⟨g, 0, none⟩) 1 cp) 1 [v] := Blk.own1 (cells := [v]) h rfl hl (by rw [← hl]; simp) hc

set_option maxRecDepth 100000 in
theorem new_ok (w : World) : Ret Try.prog 14 [] w fun v w' => ∃ p F, v = .pointer (some ⟨p, 0, none⟩) ∧ GObj F w' p 1 [[0]] (fun _ => False) ∧ Tch N0 w w' ∧ ∀ b, F b → w.heap.size ≤ b := by
  refine enter Try.func14 rfl rfl ?_
  refine W_seq ?_
  refine W_region (by kernel_rfl) ?_
  refine sg [(0, .pointer none)] (by kernel_rfl) ?_
  refine op_nil ?_
  refine W_seq ?_
  refine W_region (by kernel_rfl) ?_
  refine st (by rfl) (S_makeMap 34 (MkE 1 [[0]]) fun w1 hT2 hs3 hM => ?_)
  have hT0 := hT2
  refine sg [(3, .agg #[.int .i64 0, .slice none 0 0, .map (some w.heap.size)])] (by kernel_rfl) ?_
  have z8 := hT0.size
  refine st (by rfl) (S_new (v := .pointer (some ⟨w1.heap.size, 0, none⟩)) (ob := .cells #[.int .i64 0, .slice none 0 0, .map (some w.heap.size)] 78) (by kernel_rfl) fun w4 hT5 hs6 hB7 => ?_)
  replace hB7 : Blk w4 (w1.heap.size) 78 [.int .i64 0, .slice none 0 0, .map (some w.heap.size)] := hB7
  have hT0 := hT0.t0 hT5
  have hM := hM.tch0 hT5
  refine sg [(1, .pointer (some ⟨w1.heap.size, 0, none⟩))] (by kernel_rfl) ?_
  refine op_nil ?_
  refine W_seq ?_
  refine W_drawT (fun w' => True) 12 (by kernel_rfl) (by kernel_rfl) (by kernel_rfl) fun w9 hT10 hh11 => ?_
  have hT0 := hT0.t0 hT10
  have hM := hM.tch0 hT10
  have hB7 := hB7.tch0 hT10
  refine ttk [0, 1, 5, 2, 3] #[true, true, true, true, false, true, false, false, false, false, false, false, false] [(5, .pointer (some ⟨w1.heap.size, 0, none⟩)), (6, .pointer (some ⟨w1.heap.size, 0, none⟩)), (10, .pointer (some ⟨w1.heap.size, 0, none⟩)), (7, .pointer (some ⟨w1.heap.size, 0, none⟩)), (8, .pointer (some ⟨w1.heap.size, 1, none⟩))] trivial (by kernel_rfl) ?_
  refine t_two 4 6 (by kernel_rfl) (by rfl) (by rfl) (by kernel_rfl) (by kernel_rfl) ?_ ?_
  · refine (S_val (v := .slice none 0 0) (R_load (v := .slice none 0 0) (by kernel_rfl) (by kernel_rfl) ((hB7.cell 1).trans rfl)) ?_)
    refine ⟨fun _ => trivial, ?_⟩
    have hz14 := hT0.size
    have lt15 := hB7.lt
    refine t_one 6 (by kernel_rfl) (by rfl) (by kernel_rfl) (S_call (args := [.pointer (some ⟨w1.heap.size, 0, none⟩)]) (by kernel_rfl) (fresh_ok (w1.heap.size) 0 (.slice none 0 0) (.map (some w.heap.size)) _ hB7 (by omega)) ?_)
    rintro _ w12 ⟨rfl, hB7', hT13⟩
    have hT0 := (hT0).then hT13 (fun c e => by have : c = w1.heap.size := e; omega)
    have hM := hM.tch hT13 (fun e => hM.ne hB7 e)
    have hB7 : Blk w12 (w1.heap.size) 78 [.int .i64 ((0 + 1 : Nat) : Int), .slice none 0 0, .map (some w.heap.size)] := hB7'
    refine ⟨fun _ => trivial, ?_⟩
    have z20 := hT0.size
    have l21 := hB7.lt
    refine t_one 7 (by kernel_rfl) (by rfl) (by kernel_rfl) (S_new (v := .slice (some ⟨w12.heap.size, 0, none⟩) 1 1) (ob := .cells #[.int .i64 ((2 * 0 : Nat) : Int)] 3) (by kernel_rfl) fun w16 hT17 hs18 hB19 => ?_)
    replace hB19 : Blk w16 (w12.heap.size) 3 [.int .i64 ((2 * 0 : Nat) : Int)] := hB19
    have hT0 := hT0.t0 hT17
    have hM := hM.tch0 hT17
    have hB7 := hB7.tch0 hT17
    refine ⟨fun _ => trivial, ?_⟩
    have z26 := hT0.size
    have l27 := hB7.lt
    have l28 := hB19.lt
    refine t_one 8 (by kernel_rfl) (by rfl) (by kernel_rfl) (S_new (v := .slice (some ⟨w16.heap.size, 0, none⟩) 1 1) (ob := .cells #[.slice (some ⟨w12.heap.size, 0, none⟩) 1 1] 27) (by kernel_rfl) fun w22 hT23 hs24 hB25 => ?_)
    replace hB25 : Blk w22 (w16.heap.size) 27 [.slice (some ⟨w12.heap.size, 0, none⟩) 1 1] := hB25
    have hT0 := hT0.t0 hT23
    have hM := hM.tch0 hT23
    have hB7 := hB7.tch0 hT23
    have hB19 := hB19.tch0 hT23
    refine ⟨fun _ => trivial, ?_⟩
    refine t_one 9 (by kernel_rfl) (by rfl) (by kernel_rfl) (S_append_at 39 27 (.slice none 0 0) 24 (n := 0) (m := 1) (v := .slice none 0 0) (cells := []) (news := [.slice (some ⟨w12.heap.size, 0, none⟩) 1 1]) (b := w16.heap.size) (off := 0) (c := 1) (by kernel_rfl) (by rfl) (by kernel_rfl) (by kernel_rfl) (by kernel_rfl) (Own.nil_ _ _ _ _) (by rfl) (fun k u hk => by rw [Nat.zero_add, hB25.cell]; exact hk) (by simp [oneV]) (by simp only [maxLen]; omega) (by omega) (by omega) fun g2 cp2 sp2 w29 hG2 hl2 hc1 hc2 hg2 hT30 => ?_)
    replace hT30 := hT30.weaken (S' := N0) (fun _ _ e => by cases e)
    replace hg2 : g2 = w22.heap.size := hg2.elim (fun e => by cases e) id
    subst hg2
    have hT0 := hT0.t0 hT30
    have hM := hM.tch0 hT30
    have hB7 := hB7.tch0 hT30
    have hB19 := hB19.tch0 hT30
    have hB25 := hB25.tch0 hT30
    refine ⟨fun _ => trivial, ?_⟩
    refine t_one 10 (by kernel_rfl) (by rfl) (by kernel_rfl) (S_val (v := .pointer (some ⟨w1.heap.size, 0, none⟩)) (plainV_run (by kernel_rfl) _) ?_)
    refine ⟨fun _ => trivial, ?_⟩
    refine ttk [11] #[true, true, true, true, true, true, true, true, true, true, true, true, false] [(16, .pointer (some ⟨w1.heap.size, 1, none⟩))] trivial (by kernel_rfl) ?_
    refine t_one 12 (by kernel_rfl) (by rfl) (by kernel_rfl) (S_store (b := w1.heap.size) (j := 1) (v := .slice (some ⟨w22.heap.size, 0, none⟩) 1 cp2) (by kernel_rfl) (by kernel_rfl) (by kernel_rfl) (by rfl) hB7 (by simp) fun w31 hT32 hs33 hB7' => ?_)
    have hT0 := (hT0).then hT32 (fun c e => by have : c = w1.heap.size := e; omega)
    have hM := hM.tch hT32 (fun e => hM.ne hB7 e)
    have hB19 := hB19.tch hT32 (hB19.ne hB7 (by decide))
    have hB25 := hB25.tch hT32 (hB25.ne hB7 (by decide))
    have hG2 := hG2.tch hT32 (fun e => hG2.ne hB7 (by decide) e)
    replace hB7 : Blk w31 w1.heap.size 78 [.int .i64 ((0 + 1 : Nat) : Int), .slice (some ⟨w22.heap.size, 0, none⟩) 1 cp2, .map (some w.heap.size)] := hB7'
    refine ⟨fun h => absurd h (by decide), ?_⟩
    refine t_done (by kernel_rfl) ?_
    refine W_seq ?_
    refine W_region (by kernel_rfl) ?_
    refine sg [(17, .pointer (some ⟨w1.heap.size, 0, none⟩)), (0, .pointer (some ⟨w1.heap.size, 0, none⟩))] (by kernel_rfl) ?_
    refine op_nil ?_
    refine W_ret ?_
    have := (hT2).size
    have := (hT5).size
    have := (hT10).size
    have := (hT13).size
    have := (hT17).size
    have := (hT23).size
    have := (hT30).size
    have := (hT32).size
    refine ⟨_, Res_of (v := .pointer (some ⟨w1.heap.size, 0, none⟩)) (by kernel_rfl), ?_⟩
    refine ⟨_, fun b => b = (w1.heap.size) ∨ b = (w12.heap.size) ∨ b = (w22.heap.size) ∨ b = (w.heap.size), rfl, ⟨⟨some ⟨w22.heap.size, 0, none⟩, cp2, w.heap.size, _, hB7, hN2 hG2 hl2 hc2, hM, ⟨rfl, fun i hi => ?_⟩, .inl rfl, .inr (.inr (.inr rfl)), ?_, ?_⟩, GI.zero⟩, hT0, ?_⟩
    · have e : i = 0 := by simp at hi; omega
      subst e
      exact ⟨_, rfl, .inr (.inl rfl), hB19⟩
    · intro c e; exact .inr (.inr (.inl (by injection e with e; exact e.symm)))
    · rintro b (hb | hb | hb | hb)
      · rw [hb]; exact hB7.lt
      · rw [hb]; exact hB19.lt
      · rw [hb]; exact hG2.lt
      · rw [hb]; exact hM.lt
    · rintro b (hb | hb | hb | hb) <;> rw [hb] <;> omega
  · have hz36 := hT0.size
    have lt37 := hB7.lt
    refine (S_call (args := [.pointer (some ⟨w1.heap.size, 0, none⟩)]) (by kernel_rfl) (fresh_ok (w1.heap.size) 0 (.slice none 0 0) (.map (some w.heap.size)) _ hB7 (by omega)) ?_)
    rintro _ w34 ⟨rfl, hB7', hT35⟩
    have hT0 := (hT0).then hT35 (fun c e => by have : c = w1.heap.size := e; omega)
    have hM := hM.tch hT35 (fun e => hM.ne hB7 e)
    have hB7 : Blk w34 (w1.heap.size) 78 [.int .i64 ((0 + 1 : Nat) : Int), .slice none 0 0, .map (some w.heap.size)] := hB7'
    refine ⟨fun _ => trivial, ?_⟩
    refine t_two 4 7 (by kernel_rfl) (by rfl) (by rfl) (by kernel_rfl) (by kernel_rfl) ?_ ?_
    · refine (S_val (v := .slice none 0 0) (R_load (v := .slice none 0 0) (by kernel_rfl) (by kernel_rfl) ((hB7.cell 1).trans rfl)) ?_)
      refine ⟨fun _ => trivial, ?_⟩
      have z42 := hT0.size
      have l43 := hB7.lt
      refine t_one 7 (by kernel_rfl) (by rfl) (by kernel_rfl) (S_new (v := .slice (some ⟨w34.heap.size, 0, none⟩) 1 1) (ob := .cells #[.int .i64 ((2 * 0 : Nat) : Int)] 3) (by kernel_rfl) fun w38 hT39 hs40 hB41 => ?_)
      replace hB41 : Blk w38 (w34.heap.size) 3 [.int .i64 ((2 * 0 : Nat) : Int)] := hB41
      have hT0 := hT0.t0 hT39
      have hM := hM.tch0 hT39
      have hB7 := hB7.tch0 hT39
      refine ⟨fun _ => trivial, ?_⟩
      have z48 := hT0.size
      have l49 := hB7.lt
      have l50 := hB41.lt
      refine t_one 8 (by kernel_rfl) (by rfl) (by kernel_rfl) (S_new (v := .slice (some ⟨w38.heap.size, 0, none⟩) 1 1) (ob := .cells #[.slice (some ⟨w34.heap.size, 0, none⟩) 1 1] 27) (by kernel_rfl) fun w44 hT45 hs46 hB47 => ?_)
      replace hB47 : Blk w44 (w38.heap.size) 27 [.slice (some ⟨w34.heap.size, 0, none⟩) 1 1] := hB47
      have hT0 := hT0.t0 hT45
      have hM := hM.tch0 hT45
      have hB7 := hB7.tch0 hT45
      have hB41 := hB41.tch0 hT45
      refine ⟨fun _ => trivial, ?_⟩
      refine t_one 9 (by kernel_rfl) (by rfl) (by kernel_rfl) (S_append_at 39 27 (.slice none 0 0) 24 (n := 0) (m := 1) (v := .slice none 0 0) (cells := []) (news := [.slice (some ⟨w34.heap.size, 0, none⟩) 1 1]) (b := w38.heap.size) (off := 0) (c := 1) (by kernel_rfl) (by rfl) (by kernel_rfl) (by kernel_rfl) (by kernel_rfl) (Own.nil_ _ _ _ _) (by rfl) (fun k u hk => by rw [Nat.zero_add, hB47.cell]; exact hk) (by simp [oneV]) (by simp only [maxLen]; omega) (by omega) (by omega) fun g2 cp2 sp2 w51 hG2 hl2 hc1 hc2 hg2 hT52 => ?_)
      replace hT52 := hT52.weaken (S' := N0) (fun _ _ e => by cases e)
      replace hg2 : g2 = w44.heap.size := hg2.elim (fun e => by cases e) id
      subst hg2
      have hT0 := hT0.t0 hT52
      have hM := hM.tch0 hT52
      have hB7 := hB7.tch0 hT52
      have hB41 := hB41.tch0 hT52
      have hB47 := hB47.tch0 hT52
      refine ⟨fun _ => trivial, ?_⟩
      refine t_one 10 (by kernel_rfl) (by rfl) (by kernel_rfl) (S_val (v := .pointer (some ⟨w1.heap.size, 0, none⟩)) (plainV_run (by kernel_rfl) _) ?_)
      refine ⟨fun _ => trivial, ?_⟩
      refine ttk [11] #[true, true, true, true, true, true, true, true, true, true, true, true, false] [(16, .pointer (some ⟨w1.heap.size, 1, none⟩))] trivial (by kernel_rfl) ?_
      refine t_one 12 (by kernel_rfl) (by rfl) (by kernel_rfl) (S_store (b := w1.heap.size) (j := 1) (v := .slice (some ⟨w44.heap.size, 0, none⟩) 1 cp2) (by kernel_rfl) (by kernel_rfl) (by kernel_rfl) (by rfl) hB7 (by simp) fun w53 hT54 hs55 hB7' => ?_)
      have hT0 := (hT0).then hT54 (fun c e => by have : c = w1.heap.size := e; omega)
      have hM := hM.tch hT54 (fun e => hM.ne hB7 e)
      have hB41 := hB41.tch hT54 (hB41.ne hB7 (by decide))
      have hB47 := hB47.tch hT54 (hB47.ne hB7 (by decide))
      have hG2 := hG2.tch hT54 (fun e => hG2.ne hB7 (by decide) e)
      replace hB7 : Blk w53 w1.heap.size 78 [.int .i64 ((0 + 1 : Nat) : Int), .slice (some ⟨w44.heap.size, 0, none⟩) 1 cp2, .map (some w.heap.size)] := hB7'
      refine ⟨fun h => absurd h (by decide), ?_⟩
      refine t_done (by kernel_rfl) ?_
      refine W_seq ?_
      refine W_region (by kernel_rfl) ?_
      refine sg [(17, .pointer (some ⟨w1.heap.size, 0, none⟩)), (0, .pointer (some ⟨w1.heap.size, 0, none⟩))] (by kernel_rfl) ?_
      refine op_nil ?_
      refine W_ret ?_
      have := (hT2).size
      have := (hT5).size
      have := (hT10).size
      have := (hT35).size
      have := (hT39).size
      have := (hT45).size
      have := (hT52).size
      have := (hT54).size
      refine ⟨_, Res_of (v := .pointer (some ⟨w1.heap.size, 0, none⟩)) (by kernel_rfl), ?_⟩
      refine ⟨_, fun b => b = (w1.heap.size) ∨ b = (w34.heap.size) ∨ b = (w44.heap.size) ∨ b = (w.heap.size), rfl, ⟨⟨some ⟨w44.heap.size, 0, none⟩, cp2, w.heap.size, _, hB7, hN2 hG2 hl2 hc2, hM, ⟨rfl, fun i hi => ?_⟩, .inl rfl, .inr (.inr (.inr rfl)), ?_, ?_⟩, GI.zero⟩, hT0, ?_⟩
      · have e : i = 0 := by simp at hi; omega
        subst e
        exact ⟨_, rfl, .inr (.inl rfl), hB41⟩
      · intro c e; exact .inr (.inr (.inl (by injection e with e; exact e.symm)))
      · rintro b (hb | hb | hb | hb)
        · rw [hb]; exact hB7.lt
        · rw [hb]; exact hB41.lt
        · rw [hb]; exact hG2.lt
        · rw [hb]; exact hM.lt
      · rintro b (hb | hb | hb | hb) <;> rw [hb] <;> omega
    · have z60 := hT0.size
      have l61 := hB7.lt
      refine (S_new (v := .slice (some ⟨w34.heap.size, 0, none⟩) 1 1) (ob := .cells #[.int .i64 ((2 * 0 : Nat) : Int)] 3) (by kernel_rfl) fun w56 hT57 hs58 hB59 => ?_)
      replace hB59 : Blk w56 (w34.heap.size) 3 [.int .i64 ((2 * 0 : Nat) : Int)] := hB59
      have hT0 := hT0.t0 hT57
      have hM := hM.tch0 hT57
      have hB7 := hB7.tch0 hT57
      refine ⟨fun _ => trivial, ?_⟩
      refine t_two 4 8 (by kernel_rfl) (by rfl) (by rfl) (by kernel_rfl) (by kernel_rfl) ?_ ?_
      · refine (S_val (v := .slice none 0 0) (R_load (v := .slice none 0 0) (by kernel_rfl) (by kernel_rfl) ((hB7.cell 1).trans rfl)) ?_)
        refine ⟨fun _ => trivial, ?_⟩
        have z66 := hT0.size
        have l67 := hB7.lt
        have l68 := hB59.lt
        refine t_one 8 (by kernel_rfl) (by rfl) (by kernel_rfl) (S_new (v := .slice (some ⟨w56.heap.size, 0, none⟩) 1 1) (ob := .cells #[.slice (some ⟨w34.heap.size, 0, none⟩) 1 1] 27) (by kernel_rfl) fun w62 hT63 hs64 hB65 => ?_)
        replace hB65 : Blk w62 (w56.heap.size) 27 [.slice (some ⟨w34.heap.size, 0, none⟩) 1 1] := hB65
        have hT0 := hT0.t0 hT63
        have hM := hM.tch0 hT63
        have hB7 := hB7.tch0 hT63
        have hB59 := hB59.tch0 hT63
        refine ⟨fun _ => trivial, ?_⟩
        refine t_one 9 (by kernel_rfl) (by rfl) (by kernel_rfl) (S_append_at 39 27 (.slice none 0 0) 24 (n := 0) (m := 1) (v := .slice none 0 0) (cells := []) (news := [.slice (some ⟨w34.heap.size, 0, none⟩) 1 1]) (b := w56.heap.size) (off := 0) (c := 1) (by kernel_rfl) (by rfl) (by kernel_rfl) (by kernel_rfl) (by kernel_rfl) (Own.nil_ _ _ _ _) (by rfl) (fun k u hk => by rw [Nat.zero_add, hB65.cell]; exact hk) (by simp [oneV]) (by simp only [maxLen]; omega) (by omega) (by omega) fun g2 cp2 sp2 w69 hG2 hl2 hc1 hc2 hg2 hT70 => ?_)
        replace hT70 := hT70.weaken (S' := N0) (fun _ _ e => by cases e)
        replace hg2 : g2 = w62.heap.size := hg2.elim (fun e => by cases e) id
        subst hg2
        have hT0 := hT0.t0 hT70
        have hM := hM.tch0 hT70
        have hB7 := hB7.tch0 hT70
        have hB59 := hB59.tch0 hT70
        have hB65 := hB65.tch0 hT70
        refine ⟨fun _ => trivial, ?_⟩
        refine t_one 10 (by kernel_rfl) (by rfl) (by kernel_rfl) (S_val (v := .pointer (some ⟨w1.heap.size, 0, none⟩)) (plainV_run (by kernel_rfl) _) ?_)
        refine ⟨fun _ => trivial, ?_⟩
        refine ttk [11] #[true, true, true, true, true, true, true, true, true, true, true, true, false] [(16, .pointer (some ⟨w1.heap.size, 1, none⟩))] trivial (by kernel_rfl) ?_
        refine t_one 12 (by kernel_rfl) (by rfl) (by kernel_rfl) (S_store (b := w1.heap.size) (j := 1) (v := .slice (some ⟨w62.heap.size, 0, none⟩) 1 cp2) (by kernel_rfl) (by kernel_rfl) (by kernel_rfl) (by rfl) hB7 (by simp) fun w71 hT72 hs73 hB7' => ?_)
        have hT0 := (hT0).then hT72 (fun c e => by have : c = w1.heap.size := e; omega)
        have hM := hM.tch hT72 (fun e => hM.ne hB7 e)
        have hB59 := hB59.tch hT72 (hB59.ne hB7 (by decide))
        have hB65 := hB65.tch hT72 (hB65.ne hB7 (by decide))
        have hG2 := hG2.tch hT72 (fun e => hG2.ne hB7 (by decide) e)
        replace hB7 : Blk w71 w1.heap.size 78 [.int .i64 ((0 + 1 : Nat) : Int), .slice (some ⟨w62.heap.size, 0, none⟩) 1 cp2, .map (some w.heap.size)] := hB7'
        refine ⟨fun h => absurd h (by decide), ?_⟩
        refine t_done (by kernel_rfl) ?_
        refine W_seq ?_
        refine W_region (by kernel_rfl) ?_
        refine sg [(17, .pointer (some ⟨w1.heap.size, 0, none⟩)), (0, .pointer (some ⟨w1.heap.size, 0, none⟩))] (by kernel_rfl) ?_
        refine op_nil ?_
        refine W_ret ?_
        have := (hT2).size
        have := (hT5).size
        have := (hT10).size
        have := (hT35).size
        have := (hT57).size
        have := (hT63).size
        have := (hT70).size
        have := (hT72).size
        refine ⟨_, Res_of (v := .pointer (some ⟨w1.heap.size, 0, none⟩)) (by kernel_rfl), ?_⟩
        refine ⟨_, fun b => b = (w1.heap.size) ∨ b = (w34.heap.size) ∨ b = (w62.heap.size) ∨ b = (w.heap.size), rfl, ⟨⟨some ⟨w62.heap.size, 0, none⟩, cp2, w.heap.size, _, hB7, hN2 hG2 hl2 hc2, hM, ⟨rfl, fun i hi => ?_⟩, .inl rfl, .inr (.inr (.inr rfl)), ?_, ?_⟩, GI.zero⟩, hT0, ?_⟩
        · have e : i = 0 := by simp at hi; omega
          subst e
          exact ⟨_, rfl, .inr (.inl rfl), hB59⟩
        · intro c e; exact .inr (.inr (.inl (by injection e with e; exact e.symm)))
        · rintro b (hb | hb | hb | hb)
          · rw [hb]; exact hB7.lt
          · rw [hb]; exact hB59.lt
          · rw [hb]; exact hG2.lt
          · rw [hb]; exact hM.lt
        · rintro b (hb | hb | hb | hb) <;> rw [hb] <;> omega
      · have z78 := hT0.size
        have l79 := hB7.lt
        have l80 := hB59.lt
        refine (S_new (v := .slice (some ⟨w56.heap.size, 0, none⟩) 1 1) (ob := .cells #[.slice (some ⟨w34.heap.size, 0, none⟩) 1 1] 27) (by kernel_rfl) fun w74 hT75 hs76 hB77 => ?_)
        replace hB77 : Blk w74 (w56.heap.size) 27 [.slice (some ⟨w34.heap.size, 0, none⟩) 1 1] := hB77
        have hT0 := hT0.t0 hT75
        have hM := hM.tch0 hT75
        have hB7 := hB7.tch0 hT75
        have hB59 := hB59.tch0 hT75
        refine ⟨fun _ => trivial, ?_⟩
        refine t_one 4 (by kernel_rfl) (by rfl) (by kernel_rfl) (S_val (v := .slice none 0 0) (R_load (v := .slice none 0 0) (by kernel_rfl) (by kernel_rfl) ((hB7.cell 1).trans rfl)) ?_)
        refine ⟨fun _ => trivial, ?_⟩
        refine t_one 9 (by kernel_rfl) (by rfl) (by kernel_rfl) (S_append_at 39 27 (.slice none 0 0) 24 (n := 0) (m := 1) (v := .slice none 0 0) (cells := []) (news := [.slice (some ⟨w34.heap.size, 0, none⟩) 1 1]) (b := w56.heap.size) (off := 0) (c := 1) (by kernel_rfl) (by rfl) (by kernel_rfl) (by kernel_rfl) (by kernel_rfl) (Own.nil_ _ _ _ _) (by rfl) (fun k u hk => by rw [Nat.zero_add, hB77.cell]; exact hk) (by simp [oneV]) (by simp only [maxLen]; omega) (by omega) (by omega) fun g2 cp2 sp2 w81 hG2 hl2 hc1 hc2 hg2 hT82 => ?_)
        replace hT82 := hT82.weaken (S' := N0) (fun _ _ e => by cases e)
        replace hg2 : g2 = w74.heap.size := hg2.elim (fun e => by cases e) id
        subst hg2
        have hT0 := hT0.t0 hT82
        have hM := hM.tch0 hT82
        have hB7 := hB7.tch0 hT82
        have hB59 := hB59.tch0 hT82
        have hB77 := hB77.tch0 hT82
        refine ⟨fun _ => trivial, ?_⟩
        refine t_one 10 (by kernel_rfl) (by rfl) (by kernel_rfl) (S_val (v := .pointer (some ⟨w1.heap.size, 0, none⟩)) (plainV_run (by kernel_rfl) _) ?_)
        refine ⟨fun _ => trivial, ?_⟩
        refine ttk [11] #[true, true, true, true, true, true, true, true, true, true, true, true, false] [(16, .pointer (some ⟨w1.heap.size, 1, none⟩))] trivial (by kernel_rfl) ?_
        refine t_one 12 (by kernel_rfl) (by rfl) (by kernel_rfl) (S_store (b := w1.heap.size) (j := 1) (v := .slice (some ⟨w74.heap.size, 0, none⟩) 1 cp2) (by kernel_rfl) (by kernel_rfl) (by kernel_rfl) (by rfl) hB7 (by simp) fun w83 hT84 hs85 hB7' => ?_)
        have hT0 := (hT0).then hT84 (fun c e => by have : c = w1.heap.size := e; omega)
        have hM := hM.tch hT84 (fun e => hM.ne hB7 e)
        have hB59 := hB59.tch hT84 (hB59.ne hB7 (by decide))
        have hB77 := hB77.tch hT84 (hB77.ne hB7 (by decide))
        have hG2 := hG2.tch hT84 (fun e => hG2.ne hB7 (by decide) e)
        replace hB7 : Blk w83 w1.heap.size 78 [.int .i64 ((0 + 1 : Nat) : Int), .slice (some ⟨w74.heap.size, 0, none⟩) 1 cp2, .map (some w.heap.size)] := hB7'
        refine ⟨fun h => absurd h (by decide), ?_⟩
        refine t_done (by kernel_rfl) ?_
        refine W_seq ?_
        refine W_region (by kernel_rfl) ?_
        refine sg [(17, .pointer (some ⟨w1.heap.size, 0, none⟩)), (0, .pointer (some ⟨w1.heap.size, 0, none⟩))] (by kernel_rfl) ?_
        refine op_nil ?_
        refine W_ret ?_
        have := (hT2).size
        have := (hT5).size
        have := (hT10).size
        have := (hT35).size
        have := (hT57).size
        have := (hT75).size
        have := (hT82).size
        have := (hT84).size
        refine ⟨_, Res_of (v := .pointer (some ⟨w1.heap.size, 0, none⟩)) (by kernel_rfl), ?_⟩
        refine ⟨_, fun b => b = (w1.heap.size) ∨ b = (w34.heap.size) ∨ b = (w74.heap.size) ∨ b = (w.heap.size), rfl, ⟨⟨some ⟨w74.heap.size, 0, none⟩, cp2, w.heap.size, _, hB7, hN2 hG2 hl2 hc2, hM, ⟨rfl, fun i hi => ?_⟩, .inl rfl, .inr (.inr (.inr rfl)), ?_, ?_⟩, GI.zero⟩, hT0, ?_⟩
        · have e : i = 0 := by simp at hi; omega
          subst e
          exact ⟨_, rfl, .inr (.inl rfl), hB59⟩
        · intro c e; exact .inr (.inr (.inl (by injection e with e; exact e.symm)))
        · rintro b (hb | hb | hb | hb)
          · rw [hb]; exact hB7.lt
          · rw [hb]; exact hB59.lt
          · rw [hb]; exact hG2.lt
          · rw [hb]; exact hM.lt
        · rintro b (hb | hb | hb | hb) <;> rw [hb] <;> omega

end Go.Proofs.YtnlecdpiccgdpaaV

set_option linter.unusedVariables false
set_option linter.unusedSimpArgs false
namespace Go.Proofs.YtnlecdpiccgdpaaV
open Go Go.RowKit Go.Proofs
theorem runG (F : Nat → Prop) (p n hm hcp k lcp : Nat) (cs : List (List Nat)) (I : Nat → Prop) (H L : Option Addr) (hol : List Nat) (Lv : List Value) (t : Nat → Bool) (w : World) (hG : GObj F w p n cs I) (hH : RdW w 1 hm H (nats hol)) (hL : RdW w 1 k L Lv) (hcl : Cls w Lv cs) (hk : cs.length = k) (hn : n ≤ 68719476736)
    (hin : ∀ v, I v → ∃ x, x ∈ hol ∧ x / 2 = v) (hfh : ∀ x, x ∈ hol → I (x / 2) ∧ t (x / 2) = !decide (x % 2 = 1)) :
    Ret Try.prog 49 [.int .i64 ((n : Nat) : Int), .slice H hm hcp, .slice L k lcp] w fun v w' => ∃ K J ck cj kn tr b, v = .tuple #[.agg #[.slice K n ck, .slice J n cj], .bool true] ∧ RdW w' 1 n K (boolsV kn) ∧ RdW w' 1 n J (boolsV tr) ∧ Mod cs b ∧ (∀ v, I v → b v = t v) ∧ (∀ x, x / 2 < n → kn.getD (x / 2) false = true ∧ hIs kn tr x = lt_ b x) ∧ Tch N0 w w' := by
  obtain ⟨b, hb1, hb2⟩ := hG.2.ex t
  refine (run_ok n hm hcp k lcp H L hol Lv cs b w hH hL hcl hk (by omega) (fun x hx => ?_) (fun c hc => ⟨hb2 c hc, hG.2.fit c hc⟩)).mono fun v w' ⟨K, J, ck, cj, kn, tr, e, hK, hJ, l1, l2, hc, hh, hs, T⟩ => ⟨K, J, ck, cj, kn, tr, b, e, hK, hJ, hb2, hb1, fun x hx => ?_, T⟩
  · obtain ⟨h1, h2⟩ := hfh x hx
    refine ⟨hG.2.ins _ h1, ?_⟩
    unfold lt_
    rw [hb1 _ h1, h2]
    cases decide (x % 2 = 1) <;> rfl
  · have hkn := hG.2.cpl kn tr (fun v hv => by obtain ⟨y, hy, rfl⟩ := hin v hv; exact hh y hy) hs (x / 2) hx
    exact ⟨hkn, hc.is hkn⟩
theorem holds_is (n : Nat) (K J : Option Addr) (ck cj : Nat) (kn tr : List Bool) (x : Nat) (r : Bool) (w : World) (hK : RdW w 1 n K (boolsV kn)) (hJ : RdW w 1 n J (boolsV tr)) (hn : n ≤ 68719476736) (hxn : x / 2 < n) (h : kn.getD (x / 2) false = true ∧ hIs kn tr x = r) :
    Ret Try.prog 50 [.agg #[.slice K n ck, .slice J n cj], .int .i64 ((x : Nat) : Int)] w fun v w' => v = .tuple #[.bool r, .bool true] ∧ Tch N0 w w' := by
  have := holds_ok n K J ck cj kn tr x w hK hJ (by omega) (by omega) hxn
  rw [h.1, h.2] at this
  exact this
/-- A gate of two inputs is a variable of its own. -/
theorem and_four {n : Nat} {cs : List (List Nat)} {x : Nat} (hI : GI n cs (fun v => (False ∨ v = 1) ∨ v = 2)) (hx : x / 2 < n) (hs : ∀ be, Mod cs be → lt_ be x = (lt_ be 2 && lt_ be 4)) : 4 ≤ n := by
  by_cases h4 : 4 ≤ n
  · exact h4
  exfalso
  have key : ∀ p q : Bool, ∃ be, Mod cs be ∧ be 1 = p ∧ be 2 = q := fun p q => by
    obtain ⟨be, h1, h2⟩ := hI.ex (fun v => if v = 1 then p else q)
    exact ⟨be, h2, by rw [h1 1 (.inl (.inr rfl))]; rfl, by rw [h1 2 (.inr rfl)]; rfl⟩
  have l2 : ∀ be : Nat → Bool, lt_ be 2 = be 1 := fun be => by unfold lt_; simp
  have l4 : ∀ be : Nat → Bool, lt_ be 4 = be 2 := fun be => by unfold lt_; simp
  have l3 : ∀ be : Nat → Bool, lt_ be 3 = !be 1 := fun be => by unfold lt_; simp
  have l5 : ∀ be : Nat → Bool, lt_ be 5 = !be 2 := fun be => by unfold lt_; simp
  obtain ⟨b1, m1, p1, q1⟩ := key true true
  obtain ⟨b2, m2, p2, q2⟩ := key true false
  obtain ⟨b3, m3, p3, q3⟩ := key false true
  have e1 := hs b1 m1
  have e2 := hs b2 m2
  have e3 := hs b3 m3
  rw [l2, l4, p1, q1] at e1
  rw [l2, l4, p2, q2] at e2
  rw [l2, l4, p3, q3] at e3
  have hx6 : x = 0 ∨ x = 1 ∨ x = 2 ∨ x = 3 ∨ x = 4 ∨ x = 5 := by omega
  rcases hx6 with rfl | rfl | rfl | rfl | rfl | rfl
  · rw [hI.t0 m2] at e2; cases e2
  · rw [hI.t1 m1] at e1; cases e1
  · rw [l2, p2] at e2; cases e2
  · rw [l3, p1] at e1; cases e1
  · rw [l4, q3] at e3; cases e3
  · rw [l5, q1] at e1; cases e1
end Go.Proofs.YtnlecdpiccgdpaaV

set_option linter.unusedVariables false
set_option linter.unusedSimpArgs false
namespace Go.Proofs.YtnlecdpiccgdpaaV
open Go Go.RowKit
section
variable {P : Program} {ρ : Env} {w : World}
theorem R_indexArr {d : Option Tmp} {t : TypeId} {u : Tmp} {c : Value} {m : Nat} {ty : TypeId} {pos : String} {af : Array Edge} {g : Option (Nat × Bool)} {A : Option Addr} {len sz j : Nat} {w0 : World} {cells : List Value} (hA : RdW w0 sz len A cells) (h0 : 0 < len)
    (hx : evR ρ (.tmp u) = ptrAt A j) (hf : ∀ b off, pureR P (execOp (fun o => match o with | .const v => v | _ => .pointer (some ⟨b, off, none⟩)) ⟨d, .indexAddr t (.tmp u) (.const c), ty, pos, af, g⟩) = some (.value (.pointer (some ⟨b, off + m, none⟩)))) :
    (execOp (evR ρ) ⟨d, .indexAddr t (.tmp u) (.const c), ty, pos, af, g⟩).run P w = .ok (.value (ptrAt A (j + m))) w := by
  obtain ⟨b, off, rfl⟩ := hA.some_ h0
  have h1 := pureR_run (w := w) (hf b (off + j))
  simp only [execOp] at h1 ⊢
  rw [hx]
  simp only [ptrAt, ← Nat.add_assoc]
  exact h1
end
end Go.Proofs.YtnlecdpiccgdpaaV

set_option linter.unusedVariables false
set_option linter.unusedSimpArgs false
namespace Go.Proofs.YtnlecdpiccgdpaaV
open Go Go.RowKit Go.Proofs
/-- The word of some bits. -/
def bval (m : Nat) (f : Nat → Bool) : Nat := match m with
  | 0 => 0
  | m + 1 => bval m f + (if f m then 2 ^ m else 0)
theorem bval_lt (m : Nat) (f : Nat → Bool) : bval m f < 2 ^ m := by
  induction m with
  | zero => simp [bval]
  | succ m ih => unfold bval; rw [Nat.pow_succ]; split <;> omega
theorem bval_congr {m : Nat} {f g : Nat → Bool} (h : ∀ j, j < m → f j = g j) : bval m f = bval m g := by
  induction m with
  | zero => rfl
  | succ m ih => unfold bval; rw [ih (fun j hj => h j (by omega)), h m (by omega)]
theorem bval_bit (m : Nat) (f : Nat → Bool) (j : Nat) : (bval m f).testBit j = (decide (j < m) && f j) := by
  induction m with
  | zero => simp [bval]
  | succ m ih =>
    have hl := bval_lt m f
    unfold bval
    by_cases hf : f m = true
    · rw [if_pos hf, Nat.add_comm]
      rcases Nat.lt_trichotomy j m with h | h | h
      · rw [Nat.testBit_two_pow_add_gt h, ih]; simp [h, Nat.lt_succ_of_lt h]
      · subst h; rw [Nat.testBit_two_pow_add_eq, Nat.testBit_lt_two_pow hl]; simp [hf]
      · have : 2 ^ m + bval m f < 2 ^ j := Nat.lt_of_lt_of_le (by rw [Nat.pow_succ]; omega : 2 ^ m + bval m f < 2 ^ (m + 1)) (Nat.pow_le_pow_right (by decide) h)
        rw [Nat.testBit_lt_two_pow this]
        simp; omega
    · rw [if_neg hf, Nat.add_zero, ih]
      by_cases e : j = m
      · subst e; simp [hf]
      · have : decide (j < m) = decide (j < m + 1) := decide_eq_decide.2 (by omega)
        rw [this]
theorem bval_of (m x : Nat) : bval m (fun j => x.testBit j) = x % 2 ^ m := by
  apply Nat.eq_of_testBit_eq
  intro j
  rw [bval_bit, Nat.testBit_mod_two_pow]
theorem bval_eq {m x : Nat} {f : Nat → Bool} (h : ∀ j, j < m → f j = x.testBit j) : bval m f = x % 2 ^ m := (bval_congr h).trans (bval_of m x)
theorem bval_inj {m : Nat} {f g : Nat → Bool} (h : bval m f = bval m g) : ∀ j, j < m → f j = g j := fun j hj => by
  have := congrArg (fun x => Nat.testBit x j) h
  simp only [bval_bit] at this
  simpa [hj] using this
/-- What some literals say, out of gates. -/
structure Rw (n : Nat) (cs : List (List Nat)) (n' : Nat) (cs' : List (List Nat)) (i : Nat) (o : List Nat) (f : (Nat → Bool) → Nat → Bool) : Prop where
  le : n ≤ n'
  sub : ∀ c, c ∈ cs → c ∈ cs'
  fit : ∀ j, j < i → o.getD j 0 / 2 < n'
  val : ∀ be, Mod cs' be → ∀ j, j < i → lt_ be (o.getD j 0) = f be j
theorem Rw.zero (n : Nat) (cs : List (List Nat)) (o : List Nat) (f : (Nat → Bool) → Nat → Bool) : Rw n cs n cs 0 o f := ⟨Nat.le_refl _, fun _ h => h, fun j h => by omega, fun _ _ j h => by omega⟩
theorem setN (l : List Nat) (i j x : Nat) (hi : i < l.length) : (l.set i x).getD j 0 = if j = i then x else l.getD j 0 := by
  simp only [List.getD_eq_getElem?_getD, List.getElem?_set]
  by_cases h : i = j
  · subst h; simp [hi]
  · simp [h, Ne.symm h, show ¬ j = i from fun e => h e.symm]
theorem Rw.step {n n1 n2 i x : Nat} {cs cs1 cs2 : List (List Nat)} {o : List Nat} {f : (Nat → Bool) → Nat → Bool} {g : (Nat → Bool) → Bool} (h : Rw n cs n1 cs1 i o f) (k : GR n1 cs1 n2 cs2 x g) (hl : i < o.length) (e : ∀ be, Mod cs2 be → g be = f be i) : Rw n cs n2 cs2 (i + 1) (o.set i x) f where
  le := Nat.le_trans h.le k.1
  sub := fun c hc => k.2.1 c (h.sub c hc)
  fit := fun j hj => by
    rw [setN _ _ _ _ hl]
    by_cases q : j = i
    · rw [if_pos q]; exact k.2.2.1
    · rw [if_neg q]; have := h.fit j (by omega); have := k.1; omega
  val := fun be hm j hj => by
    rw [setN _ _ _ _ hl]
    by_cases q : j = i
    · rw [if_pos q, q, k.2.2.2 be hm, e be hm]
    · rw [if_neg q]; exact h.val be (hm.sub k.2.1) j (by omega)
theorem Rw.mono {n n1 n2 i : Nat} {cs cs1 cs2 : List (List Nat)} {o : List Nat} {f : (Nat → Bool) → Nat → Bool} (h : Rw n cs n1 cs1 i o f) (hn : n1 ≤ n2) (hs : ∀ c, c ∈ cs1 → c ∈ cs2) : Rw n cs n2 cs2 i o f := ⟨Nat.le_trans h.le hn, fun c hc => hs c (h.sub c hc), fun j hj => by have := h.fit j hj; omega, fun be hm j hj => h.val be (hm.sub hs) j hj⟩
theorem Rw.trans {n n1 n2 m m' : Nat} {cs cs1 cs2 : List (List Nat)} {o o' : List Nat} {f g : (Nat → Bool) → Nat → Bool} (h : Rw n cs n1 cs1 m o f) (k : Rw n1 cs1 n2 cs2 m' o' g) : Rw n cs n2 cs2 m' o' g := ⟨Nat.le_trans h.le k.le, fun c hc => k.sub c (h.sub c hc), k.fit, k.val⟩
theorem Rw.eq {n n1 m : Nat} {cs cs1 : List (List Nat)} {o : List Nat} {f g : (Nat → Bool) → Nat → Bool} (h : Rw n cs n1 cs1 m o f) (e : ∀ be, Mod cs1 be → ∀ j, j < m → f be j = g be j) : Rw n cs n1 cs1 m o g := ⟨h.le, h.sub, h.fit, fun be hm j hj => (h.val be hm j hj).trans (e be hm j hj)⟩
/-! ### Rows in memory that gates leave alone -/
def blkOf (A : Option Addr) : Option Nat := A.map (·.block)
theorem RdW.tchS {S : Nat → Prop} {w w' : World} {sz n : Nat} {A : Option Addr} {cells : List Value} (h : RdW w sz n A cells) (k : Tch S w w') (hs : ∀ c, blkOf A = some c → ¬ S c) : RdW w' sz n A cells :=
  ⟨h.1, h.2.1, fun hn => by
    obtain ⟨b, off, e, hb, hc⟩ := h.2.2 hn
    exact ⟨b, off, e, Nat.lt_of_lt_of_le hb k.size, fun j u hu => (cell_tch k hb (hs b (by rw [e]; rfl))).trans (hc j u hu)⟩⟩
/-- A row that reads, in a block that is not of F. -/
def RdX (F : Nat → Prop) (w : World) (m : Nat) (A : Option Addr) (cells : List Value) : Prop := RdW w 1 m A cells ∧ ∀ c, blkOf A = some c → c < w.heap.size ∧ ¬ F c
theorem RdX.tch0 {F : Nat → Prop} {w w' : World} {m : Nat} {A : Option Addr} {cells : List Value} (h : RdX F w m A cells) (k : Tch N0 w w') : RdX F w' m A cells := ⟨h.1.tch0 k, fun c hc => ⟨Nat.lt_of_lt_of_le (h.2 c hc).1 k.size, (h.2 c hc).2⟩⟩
theorem RdX.st {F S : Nat → Prop} {w w' : World} {m : Nat} {A : Option Addr} {cells : List Value} (h : RdX F w m A cells) (k : Tch S w w') (hs : ∀ c, blkOf A = some c → ¬ S c) : RdX F w' m A cells := ⟨h.1.tchS k hs, fun c hc => ⟨Nat.lt_of_lt_of_le (h.2 c hc).1 k.size, (h.2 c hc).2⟩⟩
theorem RdX.mv {F F' : Nat → Prop} {w w' : World} {m : Nat} {A : Option Addr} {cells : List Value} (h : RdX F w m A cells) (k : Mv F F' w w') : RdX F' w' m A cells := ⟨h.1.tchS k.1 (fun c hc => (h.2 c hc).2), fun c hc => ⟨Nat.lt_of_lt_of_le (h.2 c hc).1 k.1.size, fun e => (k.2 c e).elim (h.2 c hc).2 (fun q => by have := (h.2 c hc).1; omega)⟩⟩
theorem RdX.lt {F : Nat → Prop} {w : World} {m : Nat} {A : Option Addr} {cells : List Value} (h : RdX F w m A cells) : ∀ c, blkOf A = some c → c < w.heap.size := fun c hc => (h.2 c hc).1
theorem RdX.of {F : Nat → Prop} {w : World} {m g : Nat} {cells : List Value} (h : Blk w g 3 cells) (hl : cells.length = m) (hm : m ≤ 9223372036854775807) (hF : ¬ F g) : RdX F w m (some ⟨g, 0, none⟩) cells := ⟨h.rd 1 m (by omega) hm, fun c hc => by injection hc with hc; subst hc; exact ⟨h.lt, hF⟩⟩
theorem RdX.ofP {F : Nat → Prop} {w : World} {m g : Nat} {cells sp : List Value} (h : Blk w g 3 (cells ++ sp)) (hl : cells.length = m) (hm : m ≤ 9223372036854775807) (hF : ¬ F g) : RdX F w m (some ⟨g, 0, none⟩) cells := ⟨h.rdP 1 m (by omega) hm, fun c hc => by injection hc with hc; subst hc; exact ⟨h.lt, hF⟩⟩
theorem nats_ints (l : List Nat) : nats l = ints .i64 (l.map fun (x : Nat) => (x : Int)) := by simp [nats, ints]
/-- What comes of a call that makes a row. -/
def RowR (F : Nat → Prop) (p n : Nat) (cs : List (List Nat)) (I : Nat → Prop) (w : World) (m d : Nat) (f : (Nat → Bool) → Nat → Bool) (v : Value) (w' : World) : Prop :=
  ∃ F' n' cs' g r, v = .slice (some ⟨g, 0, none⟩) m m ∧ r.length = m ∧ RdX F' w' m (some ⟨g, 0, none⟩) (nats r) ∧ w.heap.size ≤ g ∧ GObj F' w' p n' cs' I ∧ Mv F F' w w' ∧ Rw n cs n' cs' m r f ∧ n' ≤ n + d
theorem mz_nats (k : Nat) : (madeCells #[Value.int .i64 0] (k * 1)).toList = nats (List.replicate k 0) ++ [] := by
  rw [Nat.mul_one, show (#[Value.int .i64 0] : Array Value) = (Value.int .i64 0).cells from rfl, madeOne _ rfl]; simp [nats]
end Go.Proofs.YtnlecdpiccgdpaaV

set_option linter.unusedVariables false
set_option linter.unusedSimpArgs false
namespace Go.Proofs.YtnlecdpiccgdpaaV
open Go Go.RowKit Go.Proofs

set_option maxRecDepth 100000 in
theorem fine_ok (p k kc g : Nat) (Ra : Nat → Option Addr) (Rm Rc : Nat → Nat) (Rl : Nat → List Int) (cells : List Value) (w : World) (hG : RdW w 1 k (some ⟨g, 0, none⟩) cells) (hc : ∀ i, i < k → cells[i]? = some (.slice (Ra i) (Rm i) (Rc i))) (hr : ∀ i, i < k → RdW w 1 (Rm i) (Ra i) (ints .i64 (Rl i))) : Ret Try.prog 70 [.pointer (some ⟨p, 0, none⟩), .slice (some ⟨g, 0, none⟩) k kc] w fun v w' => ∃ r, v = .bool r ∧ (r = true ↔ ∀ i, i < k → 0 < Rm i ∧ Rm i = Rm 0 ∧ ∀ j, j < Rm i → 0 ≤ (Rl i).getD j 0) ∧ Tch N0 w w' := by
  have hk63 := hG.2.1
  refine enter Try.func70 rfl rfl ?_
  refine W_seq ?_
  refine W_region (by kernel_rfl) ?_
  refine sg [(4, .bool false)] (by kernel_rfl) ?_
  refine op_nil ?_
  refine W_seq ?_
  refine W_seq ?_
  refine W_region (by kernel_rfl) ?_
  refine sg [(9, .pointer (some ⟨p, 0, none⟩)), (10, .bool false)] (by kernel_rfl) ?_
  refine op_nil ?_
  refine W_cond false (by kernel_rfl) (by kernel_rfl) (fun h => nomatch h) (fun _ => ?_)
  refine W_skip ?_
  refine W_seq ?_
  refine W_seq ?_
  refine W_region (by kernel_rfl) ?_
  refine sg [(11, .slice (some ⟨g, 0, none⟩) k kc), (12, .int .i64 (k : Int)), (13, .int .i64 0)] (by kernel_rfl) ?_
  refine op_nil ?_
  refine W_block ?_
  refine W_loop (fun m ρ w' => ∃ (i : Nat) (ρ0 : Env), ρ = updL ρ0 [(1, .slice (some ⟨g, 0, none⟩) k kc), (4, .bool false), (11, .slice (some ⟨g, 0, none⟩) k kc), (12, .int .i64 (k : Int)), (13, .int .i64 ((i : Nat) : Int))] ∧ (i ≤ k) ∧ (∀ q, q < i → 0 < Rm q ∧ Rm q = Rm 0 ∧ ∀ j, j < Rm q → 0 ≤ (Rl q).getD j 0) ∧ w = w' ∧ m = k - i) (m := k - 0) ?_ ?_
  · refine ⟨0, _, updL_self (by kernel_rfl), by omega, (fun q h => by omega), rfl, rfl⟩
  · rintro m ρ w1 ⟨i, ρ, rfl, hi, hq, rfl, rfl⟩
    refine W_seq ?_
    refine W_region (by kernel_rfl) ?_
    refine sg [(14, .bool (decide (((i : Nat) : Int) < (k : Int))))] (by kernel_rfl) ?_
    refine op_nil ?_
    refine W_seq ?_
    refine W_cond (decide (((i : Nat) : Int) < (k : Int))) (by kernel_rfl) (by kernel_rfl) (fun hc2 => ?_) (fun hc2 => ?_)
    · replace hc2 : ((i : Nat) : Int) < (k : Int) := (of_decide_eq_true hc2)
      refine W_skip ?_
      refine W_seq ?_
      refine W_block ?_
      refine W_seq ?_
      refine W_region (by kernel_rfl) ?_
      refine stv (v := ptrAt (some ⟨g, 0, none⟩) i) (by rfl) (R_indexRd1 (len := k) (cap := kc) (k := .i64) (i := ((i : Nat) : Int)) (e := 27) i hG (by kernel_rfl) (by kernel_rfl) (by kernel_rfl) (by kernel_rfl) rfl (by omega)) ?_
      refine stv (v := .slice (Ra i) (Rm i) (Rc i)) (by rfl) (R_loadRd (v := .slice (Ra i) (Rm i) (Rc i)) hG (by omega) (by kernel_rfl) (by kernel_rfl) (hc i (by omega))) ?_
      refine sg [(6, .slice (Ra i) (Rm i) (Rc i))] (by kernel_rfl) ?_
      refine op_nil ?_
      refine W_seq ?_
      refine W_seq ?_
      refine W_region (by kernel_rfl) ?_
      refine sg [(17, .slice (Ra i) (Rm i) (Rc i)), (18, .int .i64 ((Rm i) : Int)), (19, .bool (((Rm i) : Int) == 0)), (20, .bool (((Rm i) : Int) == 0))] (by kernel_rfl) ?_
      cases hb3 : ((Rm i) : Int) == 0
      · replace hb3 : ((Rm i) : Int) ≠ 0 := (ne_of_beq_false hb3)
        refine sg [(21, .slice (Ra i) (Rm i) (Rc i)), (22, .int .i64 ((Rm i) : Int)), (23, .slice (some ⟨g, 0, none⟩) k kc)] (by kernel_rfl) ?_
        refine stv (v := ptrAt (some ⟨g, 0, none⟩) 0) (by kernel_rfl) (R_indexRd1 (len := k) (cap := kc) (k := .i64) (i := 0) (e := 27) 0 hG (by kernel_rfl) (by kernel_rfl) (by kernel_rfl) (by kernel_rfl) rfl (by omega)) ?_
        refine stv (v := .slice (Ra 0) (Rm 0) (Rc 0)) (by kernel_rfl) (R_loadRd (v := .slice (Ra 0) (Rm 0) (Rc 0)) hG (by omega) (by kernel_rfl) (by kernel_rfl) (hc 0 (by omega))) ?_
        refine sg [(26, .int .i64 ((Rm 0) : Int)), (27, .bool (((Rm i) : Int) != ((Rm 0) : Int))), (28, .bool (((Rm i) : Int) != ((Rm 0) : Int)))] (by kernel_rfl) ?_
        refine op_nil ?_
        refine W_cond (((Rm i) : Int) != ((Rm 0) : Int)) (by kernel_rfl) (by kernel_rfl) (fun hc4 => ?_) (fun hc4 => ?_)
        · replace hc4 : ((Rm i) : Int) ≠ ((Rm 0) : Int) := (bne_iff_ne.1 hc4)
          refine W_seq ?_
          refine W_fg [(1, .slice (some ⟨g, 0, none⟩) k kc), (4, .bool false), (6, .slice (Ra i) (Rm i) (Rc i)), (11, .slice (some ⟨g, 0, none⟩) k kc), (12, .int .i64 (k : Int)), (13, .int .i64 ((i : Nat) : Int)), (14, .bool (decide (((i : Nat) : Int) < (k : Int)))), (28, .bool (((Rm i) : Int) != ((Rm 0) : Int)))] (by kernel_rfl) fun ρ => ?_
          refine W_region (by kernel_rfl) ?_
          refine sg [(4, .bool false)] (by kernel_rfl) ?_
          refine op_nil ?_
          refine W_ret ?_
          exact ⟨_, Res_of (v := .bool false) (by kernel_rfl), ⟨false, rfl, ⟨(fun h => nomatch h), fun h => by have h1 := h i (by omega); omega⟩, Tch.refl _ _⟩⟩
        · replace hc4 : ((Rm i) : Int) = ((Rm 0) : Int) := (bne_eq_false_iff_eq.1 hc4)
          refine W_skip ?_
          refine W_seq ?_
          refine W_fg [(1, .slice (some ⟨g, 0, none⟩) k kc), (4, .bool false), (6, .slice (Ra i) (Rm i) (Rc i)), (11, .slice (some ⟨g, 0, none⟩) k kc), (12, .int .i64 (k : Int)), (13, .int .i64 ((i : Nat) : Int)), (14, .bool (decide (((i : Nat) : Int) < (k : Int)))), (28, .bool (((Rm i) : Int) != ((Rm 0) : Int)))] (by kernel_rfl) fun ρ => ?_
          have hm63 := (hr i (by omega)).2.1
          refine W_region (by kernel_rfl) ?_
          refine sg [(29, .slice (Ra i) (Rm i) (Rc i)), (30, .int .i64 ((Rm i) : Int)), (31, .int .i64 0)] (by kernel_rfl) ?_
          refine op_nil ?_
          refine W_block ?_
          refine W_loop (fun m ρ w' => ∃ (j : Nat) (ρ0 : Env), ρ = updL ρ0 [(1, .slice (some ⟨g, 0, none⟩) k kc), (4, .bool false), (11, .slice (some ⟨g, 0, none⟩) k kc), (12, .int .i64 (k : Int)), (13, .int .i64 ((i : Nat) : Int)), (29, .slice (Ra i) (Rm i) (Rc i)), (30, .int .i64 (Rm i : Int)), (31, .int .i64 ((j : Nat) : Int))] ∧ (j ≤ Rm i) ∧ (∀ z, z < j → 0 ≤ (Rl i).getD z 0) ∧ w = w' ∧ m = Rm i - j) (m := Rm i - 0) ?_ ?_
          · refine ⟨0, _, updL_self (by kernel_rfl), by omega, (fun q h => by omega), rfl, rfl⟩
          · rintro m ρ w5 ⟨j, ρ, rfl, hj, hj2, rfl, rfl⟩
            refine W_seq ?_
            refine W_region (by kernel_rfl) ?_
            refine sg [(32, .bool (decide (((j : Nat) : Int) < (Rm i : Int))))] (by kernel_rfl) ?_
            refine op_nil ?_
            refine W_seq ?_
            refine W_cond (decide (((j : Nat) : Int) < (Rm i : Int))) (by kernel_rfl) (by kernel_rfl) (fun hc6 => ?_) (fun hc6 => ?_)
            · replace hc6 : ((j : Nat) : Int) < (Rm i : Int) := (of_decide_eq_true hc6)
              refine W_skip ?_
              refine W_seq ?_
              refine W_block ?_
              refine W_seq ?_
              refine W_region (by kernel_rfl) ?_
              refine stv (v := ptrAt (Ra i) j) (by rfl) (R_indexRd1 (len := (Rm i)) (cap := (Rc i)) (k := .i64) (i := ((j : Nat) : Int)) (e := 3) j (hr i (by omega)) (by kernel_rfl) (by kernel_rfl) (by kernel_rfl) (by kernel_rfl) rfl (by omega)) ?_
              refine stv (v := .int .i64 ((Rl i).getD j 0)) (by rfl) (R_loadRd (v := .int .i64 ((Rl i).getD j 0)) (hr i (by omega)) (by omega) (by kernel_rfl) (by kernel_rfl) (ints_at .i64 _ (by have := (hr i (by omega)).1; simp [ints] at this; omega))) ?_
              refine sg [(8, .int .i64 ((Rl i).getD j 0))] (by kernel_rfl) ?_
              refine op_nil ?_
              refine W_seq ?_
              refine W_region (by kernel_rfl) ?_
              refine sg [(35, .int .i64 ((Rl i).getD j 0)), (36, .bool (decide ((Rl i).getD j 0 < 0)))] (by kernel_rfl) ?_
              refine op_nil ?_
              refine W_cond (decide ((Rl i).getD j 0 < 0)) (by kernel_rfl) (by kernel_rfl) (fun hc7 => ?_) (fun hc7 => ?_)
              · replace hc7 : (Rl i).getD j 0 < 0 := (of_decide_eq_true hc7)
                refine W_seq ?_
                refine W_region (by kernel_rfl) ?_
                refine sg [(4, .bool false)] (by kernel_rfl) ?_
                refine op_nil ?_
                refine W_ret ?_
                exact ⟨_, Res_of (v := .bool false) (by kernel_rfl), ⟨false, rfl, ⟨(fun h => nomatch h), fun h => by have := (h i (by omega)).2.2 j (by omega); omega⟩, Tch.refl _ _⟩⟩
              · replace hc7 : 0 ≤ (Rl i).getD j 0 := (Int.not_lt.1 (of_decide_eq_false hc7))
                refine W_skip ?_
                refine W_region (by kernel_rfl) ?_
                refine sg [(37, .int .i64 (IntKind.i64.wrap (((j : Nat) : Int) + 1)))] (by kernel_rfl) ?_
                rw [show IntKind.i64.wrap (((j : Nat) : Int) + 1) = ((j : Nat) : Int) + 1 from wrap_i64 (by omega) (by omega)]
                refine fixR (y := ((j + 1 : Nat) : Int)) (by omega) ?_
                refine sg [(31, .int .i64 ((j + 1 : Nat) : Int))] (by kernel_rfl) ?_
                refine op_nil ?_
                refine ⟨_, ?_, j + 1, _, updL_self (by kernel_rfl), ?_, ?_, rfl, rfl⟩
                · omega
                · omega
                · intro z hz; by_cases e : z = j; (subst e; omega); exact hj2 z (by omega)
            · replace hc6 : (Rm i : Int) ≤ ((j : Nat) : Int) := (Int.not_lt.1 (of_decide_eq_false hc6))
              refine W_exit ?_
              refine X_hit ?_
              refine W_region (by kernel_rfl) ?_
              refine sg [(38, .int .i64 (IntKind.i64.wrap (((i : Nat) : Int) + 1)))] (by kernel_rfl) ?_
              rw [show IntKind.i64.wrap (((i : Nat) : Int) + 1) = ((i : Nat) : Int) + 1 from wrap_i64 (by omega) (by omega)]
              refine fixR (y := ((i + 1 : Nat) : Int)) (by omega) ?_
              refine sg [(13, .int .i64 ((i + 1 : Nat) : Int))] (by kernel_rfl) ?_
              refine op_nil ?_
              refine ⟨_, ?_, i + 1, _, updL_self (by kernel_rfl), ?_, ?_, rfl, rfl⟩
              · omega
              · omega
              · intro q hq2; by_cases e : q = i; (subst e; exact ⟨by omega, by omega, fun z hz => hj2 z (by omega)⟩); exact hq q (by omega)
      · replace hb3 : ((Rm i) : Int) = 0 := (eq_of_beq hb3)
        refine sg [(21, undef), (22, undef), (23, undef), (24, undef), (25, undef), (26, undef), (27, undef), (28, .bool true)] (by kernel_rfl) ?_
        refine op_nil ?_
        refine W_cond true (by kernel_rfl) (by kernel_rfl) (fun _ => ?_) (fun h => nomatch h)
        refine W_seq ?_
        refine W_fg [(1, .slice (some ⟨g, 0, none⟩) k kc), (4, .bool false), (6, .slice (Ra i) (Rm i) (Rc i)), (11, .slice (some ⟨g, 0, none⟩) k kc), (12, .int .i64 (k : Int)), (13, .int .i64 ((i : Nat) : Int)), (14, .bool (decide (((i : Nat) : Int) < (k : Int)))), (28, .bool true)] (by kernel_rfl) fun ρ => ?_
        refine W_region (by kernel_rfl) ?_
        refine sg [(4, .bool false)] (by kernel_rfl) ?_
        refine op_nil ?_
        refine W_ret ?_
        exact ⟨_, Res_of (v := .bool false) (by kernel_rfl), ⟨false, rfl, ⟨(fun h => nomatch h), fun h => by have h1 := h i (by omega); omega⟩, Tch.refl _ _⟩⟩
    · replace hc2 : (k : Int) ≤ ((i : Nat) : Int) := (Int.not_lt.1 (of_decide_eq_false hc2))
      refine W_exit ?_
      refine X_hit ?_
      refine W_seq ?_
      refine W_region (by kernel_rfl) ?_
      refine sg [(4, .bool true)] (by kernel_rfl) ?_
      refine op_nil ?_
      refine W_ret ?_
      exact ⟨_, Res_of (v := .bool true) (by kernel_rfl), ⟨true, rfl, ⟨fun _ q h => hq q (by omega), fun _ => rfl⟩, Tch.refl _ _⟩⟩

set_option maxRecDepth 100000 in
theorem fine_nil (k kc g : Nat) (w : World) : Ret Try.prog 70 [.pointer none, .slice (some ⟨g, 0, none⟩) k kc] w fun v w' => v = .bool false ∧ Tch N0 w w' := by
  refine enter Try.func70 rfl rfl ?_
  refine W_seq ?_
  refine W_region (by kernel_rfl) ?_
  refine sg [(4, .bool false)] (by kernel_rfl) ?_
  refine op_nil ?_
  refine W_seq ?_
  refine W_seq ?_
  refine W_region (by kernel_rfl) ?_
  refine sg [(9, .pointer none), (10, .bool true)] (by kernel_rfl) ?_
  refine op_nil ?_
  refine W_cond true (by kernel_rfl) (by kernel_rfl) (fun _ => ?_) (fun h => nomatch h)
  refine W_seq ?_
  refine W_region (by kernel_rfl) ?_
  refine sg [(4, .bool false)] (by kernel_rfl) ?_
  refine op_nil ?_
  refine W_ret ?_
  exact ⟨_, Res_of (v := .bool false) (by kernel_rfl), ⟨rfl, Tch.refl _ _⟩⟩

theorem fine_two (p g ma mb ca cb : Nat) (A B : Option Addr) (a b : List Int) (w : World) (hG : Blk w g 27 [.slice A ma ca, .slice B mb cb]) (hA : RdW w 1 ma A (ints .i64 a)) (hB : RdW w 1 mb B (ints .i64 b)) : Ret Try.prog 70 [.pointer (some ⟨p, 0, none⟩), .slice (some ⟨g, 0, none⟩) 2 2] w fun v w' => ∃ r, v = .bool r ∧ (r = true ↔ 0 < ma ∧ ma = mb ∧ (∀ j, j < ma → 0 ≤ a.getD j 0) ∧ ∀ j, j < mb → 0 ≤ b.getD j 0) ∧ Tch N0 w w' := by
  refine (fine_ok p 2 2 g (fun i => if i = 0 then A else B) (fun i => if i = 0 then ma else mb) (fun i => if i = 0 then ca else cb) (fun i => if i = 0 then a else b) _ w (hG.rd 1 2 (by rfl) (by omega)) (fun i hi => ?_) (fun i hi => ?_)).mono fun v w' ⟨r, e, h, T⟩ => ⟨r, e, h.trans ⟨fun q => ?_, fun q i hi => ?_⟩, T⟩
  · rcases (show i = 0 ∨ i = 1 by omega) with rfl | rfl <;> rfl
  · rcases (show i = 0 ∨ i = 1 by omega) with rfl | rfl
    · exact hA
    · exact hB
  · have q0 := q 0 (by omega)
    have q1 := q 1 (by omega)
    simp only [if_true, Nat.one_ne_zero, if_false] at q0 q1
    exact ⟨q0.1, q1.2.1.symm, q0.2.2, q1.2.2⟩
  · rcases (show i = 0 ∨ i = 1 by omega) with rfl | rfl
    · exact ⟨q.1, rfl, q.2.2.1⟩
    · exact ⟨by have := q.1; have := q.2.1; simp only [Nat.one_ne_zero, if_false]; omega, q.2.1.symm, q.2.2.2⟩
theorem nneg (l : List Nat) (mm : Nat) : ∀ j, j < mm → 0 ≤ (l.map fun (x : Nat) => (x : Int)).getD j 0 := fun j _ => by
  rw [List.getD_eq_getElem?_getD, List.getElem?_map]
  cases l[j]? <;> simp
theorem fine_nats (p g mm ca cb : Nat) (A B : Option Addr) (a b : List Nat) (w : World) (hG : Blk w g 27 [.slice A mm ca, .slice B mm cb]) (hA : RdW w 1 mm A (nats a)) (hB : RdW w 1 mm B (nats b)) (hm : 0 < mm) : Ret Try.prog 70 [.pointer (some ⟨p, 0, none⟩), .slice (some ⟨g, 0, none⟩) 2 2] w fun v w' => v = .bool true ∧ Tch N0 w w' := by
  rw [nats_ints] at hA hB
  refine (fine_two p g mm mm ca cb A B _ _ w hG hA hB).mono fun v w' ⟨r, e, h, T⟩ => ⟨?_, T⟩
  rw [e, h.2 ⟨hm, rfl, nneg _ _, nneg _ _⟩]
/-- Rows that are none. -/
def BadR (ma : Nat) (a : List Int) (mb : Nat) (b : List Int) : Prop := ¬ (0 < ma ∧ ma = mb ∧ (∀ j, j < ma → 0 ≤ a.getD j 0) ∧ ∀ j, j < mb → 0 ≤ b.getD j 0)
theorem fine_bad (p g ma mb ca cb : Nat) (A B : Option Addr) (a b : List Int) (w : World) (hG : Blk w g 27 [.slice A ma ca, .slice B mb cb]) (hA : RdW w 1 ma A (ints .i64 a)) (hB : RdW w 1 mb B (ints .i64 b)) (hb : BadR ma a mb b) : Ret Try.prog 70 [.pointer (some ⟨p, 0, none⟩), .slice (some ⟨g, 0, none⟩) 2 2] w fun v w' => v = .bool false ∧ Tch N0 w w' := by
  refine (fine_two p g ma mb ca cb A B _ _ w hG hA hB).mono fun v w' ⟨r, e, h, T⟩ => ⟨?_, T⟩
  rw [e]
  cases r with
  | false => rfl
  | true => exact absurd (h.1 rfl) hb

set_option maxRecDepth 100000 in
theorem itr_ok (F : Nat → Prop) (p n mm ca cb : Nat) (A B : Option Addr) (a b : List Nat) (c : Nat) (cs : List (List Nat)) (I : Nat → Prop) (w : World) (hG : GObj F w p n cs I) (hA : RdX F w mm A (nats a)) (hB : RdX F w mm B (nats b)) (hfa : ∀ j, j < mm → a.getD j 0 / 2 < n) (hfb : ∀ j, j < mm → b.getD j 0 / 2 < n) (hm : 0 < mm) (hm2 : mm ≤ 1000) (hn : n ≤ 60000000000) (hc : c / 2 < n) : Ret Try.prog 45 [.pointer (some ⟨p, 0, none⟩), .int .i64 ((c : Nat) : Int), .slice A mm ca, .slice B mm cb] w fun v w' => RowR F p n cs I w mm mm (fun be j => ite_ (lt_ be c) (lt_ be (a.getD j 0)) (lt_ be (b.getD j 0))) v w' := by
  have hMv := Mv.refl F w
  have hla : a.length = mm := by have := hA.1.1; rw [nats_length] at this; omega
  have hlb : b.length = mm := by have := hB.1.1; rw [nats_length] at this; omega
  have hAr := hA.1
  have hBr := hB.1
  have lt_hA := hA.lt
  have lt_hB := hB.lt
  have ge_hA : ∀ c, blkOf A = some c → 0 ≤ c := fun c _ => Nat.zero_le c
  have ge_hB : ∀ c, blkOf B = some c → 0 ≤ c := fun c _ => Nat.zero_le c
  refine enter Try.func45 rfl rfl ?_
  refine W_seq ?_
  refine W_region (by kernel_rfl) ?_
  refine sg [(8, .slice none 0 0)] (by kernel_rfl) ?_
  refine op_nil ?_
  refine W_seq ?_
  refine W_seq ?_
  refine W_region (by kernel_rfl) ?_
  refine sg [(11, .int .i64 ((c : Nat) : Int)), (12, .bool (decide (((c : Nat) : Int) < 0))), (13, .bool (decide (((c : Nat) : Int) < 0)))] (by kernel_rfl) ?_
  cases hb1 : decide (((c : Nat) : Int) < 0)
  · replace hb1 : 0 ≤ ((c : Nat) : Int) := (Int.not_lt.1 (of_decide_eq_false hb1))
    refine sg [(14, .pointer (some ⟨p, 0, none⟩)), (15, .slice A mm ca), (16, .slice B mm cb)] (by kernel_rfl) ?_
    have hlt_ := hG.1.lt
    have hz6 := hMv.1.size
    refine st (by kernel_rfl) (S_new (v := .slice (some ⟨w.heap.size, 0, none⟩) 2 2) (ob := .cells #[.slice A mm ca, .slice B mm cb] 27) (by kernel_rfl) fun w2 hT3 hs4 hB5 => ?_)
    replace hB5 : Blk w2 (w.heap.size) 27 [.slice A mm ca, .slice B mm cb] := hB5
    have hG := hG.tch0 hT3
    have hMv := hMv.then0 hT3
    have hA := hA.tch0 hT3
    have hAr := hA.1
    have hB := hB.tch0 hT3
    have hBr := hB.1
    have nF_hB5 : ¬ F (w.heap.size) := fun e => by have := hlt_ _ e; omega
    refine st (by kernel_rfl) (S_call (args := [.pointer (some ⟨p, 0, none⟩), .slice (some ⟨w.heap.size, 0, none⟩) 2 2]) (by kernel_rfl) (fine_nats p (w.heap.size) mm ca cb A B _ _ _ hB5 hAr hBr (by omega)) ?_)
    rintro _ w7 ⟨rfl, hT8⟩
    have hG := hG.tch0 hT8
    have hMv := hMv.then0 hT8
    have hA := hA.tch0 hT8
    have hAr := hA.1
    have hB := hB.tch0 hT8
    have hBr := hB.1
    have hB5 := hB5.tch0 hT8
    refine sg [(19, .bool false), (20, .bool false)] (by kernel_rfl) ?_
    refine op_nil ?_
    refine W_cond false (by kernel_rfl) (by kernel_rfl) (fun h => nomatch h) (fun _ => ?_)
    refine W_skip ?_
    refine W_seq ?_
    refine W_fg [(0, .pointer (some ⟨p, 0, none⟩)), (1, .int .i64 ((c : Nat) : Int)), (2, .slice A mm ca), (3, .slice B mm cb), (8, .slice none 0 0), (20, .bool false)] (by kernel_rfl) fun ρ => ?_
    refine W_region (by kernel_rfl) ?_
    refine sg [(21, .slice A mm ca), (22, .int .i64 (mm : Int))] (by kernel_rfl) ?_
    have hlt_ := hG.1.lt
    have hz13 := hMv.1.size
    have lt14 := hB5.lt
    refine st (by rfl) (S_make 27 3 (.int .i64 0) 1 8 (k1 := .i64) (k2 := .i64) (l := (mm : Int)) (c := (mm : Int)) (by kernel_rfl) (by kernel_rfl) (by kernel_rfl) (by kernel_rfl) (by omega) (by omega) (by omega) (by omega) fun w9 hT10 hs11 hB12 => ?_)
    replace hB12 : Blk w9 (w7.heap.size) 3 (nats (List.replicate ((mm : Int).toNat) 0) ++ []) := by rw [← mz_nats]; exact hB12
    have hG := hG.tch0 hT10
    have hMv := hMv.then0 hT10
    have hA := hA.tch0 hT10
    have hAr := hA.1
    have hB := hB.tch0 hT10
    have hBr := hB.1
    have hB5 := hB5.tch0 hT10
    have nF_hB12 : ¬ F (w7.heap.size) := fun e => by have := hlt_ _ e; omega
    refine sg [(9, .slice (some ⟨w7.heap.size, 0, none⟩) ((mm : Int).toNat) ((mm : Int).toNat))] (by kernel_rfl) ?_
    refine op_nil ?_
    refine W_seq ?_
    refine W_seq ?_
    refine W_region (by kernel_rfl) ?_
    refine sg [(24, .slice (some ⟨w7.heap.size, 0, none⟩) ((mm : Int).toNat) ((mm : Int).toNat)), (25, .int .i64 ((mm : Int).toNat : Int)), (26, .int .i64 0)] (by kernel_rfl) ?_
    refine op_nil ?_
    refine W_block ?_
    refine W_loop (fun m ρ w' => ∃ (F1 : Nat → Prop) (n1 : Nat) (cs1 : List (List Nat)) (o : List Nat) (i : Nat) (ρ0 : Env), ρ = updL ρ0 [(0, .pointer (some ⟨p, 0, none⟩)), (1, .int .i64 ((c : Nat) : Int)), (2, .slice A mm ca), (3, .slice B mm cb), (8, .slice none 0 0), (9, .slice (some ⟨w7.heap.size, 0, none⟩) ((mm : Int).toNat) ((mm : Int).toNat)), (25, .int .i64 (mm : Int)), (26, .int .i64 ((i : Nat) : Int))] ∧ (i ≤ mm) ∧ (o.length = mm) ∧ (Rw n cs n1 cs1 i o (fun be j => ite_ (lt_ be c) (lt_ be (a.getD j 0)) (lt_ be (b.getD j 0)))) ∧ (n1 ≤ n + i) ∧ (¬ F1 (w7.heap.size)) ∧ GObj F1 w' p n1 cs1 I ∧ Mv F F1 w w' ∧ RdX F1 w' mm A (nats a) ∧ RdW w' 1 mm A (nats a) ∧ RdX F1 w' mm B (nats b) ∧ RdW w' 1 mm B (nats b) ∧ Blk w' (w7.heap.size) 3 (nats o ++ []) ∧ m = mm - i) (m := mm - 0) ?_ ?_
    · refine ⟨F, n, cs, List.replicate mm 0, 0, _, updL_self (by kernel_rfl), by omega, by simp, Rw.zero _ _ _ _, by omega, nF_hB12, hG, hMv, hA, hAr, hB, hBr, hB12, rfl⟩
    · rintro m ρ w15 ⟨F1, n1, cs1, o, i, ρ, rfl, hi, hol, hrw, hd, nF_hOut, hG, hMv, hA, hAr, hB, hBr, hOut, rfl⟩
      have hle_ := hrw.le
      have fa := fun q : i < mm => hfa i q
      have fb := fun q : i < mm => hfb i q
      have hpos := hG.2.pos
      refine W_seq ?_
      refine W_region (by kernel_rfl) ?_
      refine sg [(27, .bool (decide (((i : Nat) : Int) < (mm : Int))))] (by kernel_rfl) ?_
      refine op_nil ?_
      refine W_seq ?_
      refine W_cond (decide (((i : Nat) : Int) < (mm : Int))) (by kernel_rfl) (by kernel_rfl) (fun hc16 => ?_) (fun hc16 => ?_)
      · replace hc16 : ((i : Nat) : Int) < (mm : Int) := (of_decide_eq_true hc16)
        refine W_skip ?_
        refine W_seq ?_
        refine W_block ?_
        refine W_seq ?_
        refine W_region (by kernel_rfl) ?_
        refine sg [(28, .int .i64 ((i : Nat) : Int)), (10, .int .i64 ((i : Nat) : Int))] (by kernel_rfl) ?_
        refine op_nil ?_
        refine W_draw (fun w' => RdW w' 1 mm A (nats a) ∧ RdW w' 1 mm B (nats b)) (by kernel_rfl) (by kernel_rfl) (by kernel_rfl) fun w17 hT18 hh19 => ?_
        have hG := hG.tch0 hT18
        have hMv := hMv.then0 hT18
        have hA := hA.tch0 hT18
        have hAr := hA.1
        have hB := hB.tch0 hT18
        have hBr := hB.1
        have hOut := hOut.tch0 hT18
        refine dtk [0, 1, 2, 3, 4, 5, 8, 9] #[true, true, true, true, true, true, false, false, true, true, false, false, false, false, false] [(29, .slice (some ⟨w7.heap.size, 0, none⟩) ((mm : Int).toNat) ((mm : Int).toNat)), (30, .int .i64 ((i : Nat) : Int)), (31, .pointer (some ⟨p, 0, none⟩)), (32, .int .i64 ((c : Nat) : Int)), (33, .slice A mm ca), (34, .int .i64 ((i : Nat) : Int)), (37, .slice B mm cb), (38, .int .i64 ((i : Nat) : Int))] ⟨hAr, hBr⟩ (by kernel_rfl) ?_
        refine d_val (v := ptrAt A i) 6 (by rfl) (by kernel_rfl) (by kernel_rfl) (by kernel_rfl) (fun w' hs => by obtain ⟨hAr, hBr⟩ := hs; exact R_indexRd1 (len := mm) (cap := ca) (k := .i64) (i := ((i : Nat) : Int)) (e := 3) i hAr (by kernel_rfl) (by kernel_rfl) (by kernel_rfl) (by kernel_rfl) rfl (by omega)) ⟨hAr, hBr⟩ ?_
        refine d_val (v := .int .i64 ((a.getD i 0 : Nat) : Int)) 7 (by rfl) (by kernel_rfl) (by kernel_rfl) (by kernel_rfl) (fun w' hs => by obtain ⟨hAr, hBr⟩ := hs; exact R_loadRd (v := .int .i64 ((a.getD i 0 : Nat) : Int)) hAr (by omega) (by kernel_rfl) (by kernel_rfl) (nats_at (l := a) (by omega))) ⟨hAr, hBr⟩ ?_
        refine d_val (v := ptrAt B i) 10 (by rfl) (by kernel_rfl) (by kernel_rfl) (by kernel_rfl) (fun w' hs => by obtain ⟨hAr, hBr⟩ := hs; exact R_indexRd1 (len := mm) (cap := cb) (k := .i64) (i := ((i : Nat) : Int)) (e := 3) i hBr (by kernel_rfl) (by kernel_rfl) (by kernel_rfl) (by kernel_rfl) rfl (by omega)) ⟨hAr, hBr⟩ ?_
        refine d_val (v := .int .i64 ((b.getD i 0 : Nat) : Int)) 11 (by rfl) (by kernel_rfl) (by kernel_rfl) (by kernel_rfl) (fun w' hs => by obtain ⟨hAr, hBr⟩ := hs; exact R_loadRd (v := .int .i64 ((b.getD i 0 : Nat) : Int)) hBr (by omega) (by kernel_rfl) (by kernel_rfl) (nats_at (l := b) (by omega))) ⟨hAr, hBr⟩ ?_
        have lt28 := hOut.lt
        refine d_one 12 (by kernel_rfl) (by rfl) (by kernel_rfl) (S_call (args := [.pointer (some ⟨p, 0, none⟩), .int .i64 ((c : Nat) : Int), .int .i64 ((a.getD i 0 : Nat) : Int), .int .i64 ((b.getD i 0 : Nat) : Int)]) (by kernel_rfl) (ite_ok F1 p n1 c (a.getD i 0) (b.getD i 0) cs1 I _ hG (by omega) (by omega) (by omega) (by omega)) ?_)
        rintro _ w20 ⟨F21, n22, cs23, x24, rfl, hG, hm25, hr26, hd27⟩
        have hMv := hMv.trans hm25
        have hA := hA.mv hm25
        have hAr := hA.1
        have hB := hB.mv hm25
        have hBr := hB.1
        have hOut := hOut.tch hm25.1 nF_hOut
        have hxb29 := hr26.2.2.1
        have hle30 := hr26.1
        replace nF_hOut : ¬ F21 (w7.heap.size) := fun e => (hm25.2 _ e).elim nF_hOut (fun q => by omega)
        refine ⟨⟨hAr, hBr⟩, ?_⟩
        refine d_val (v := .pointer (some ⟨w7.heap.size, i, none⟩)) 13 (by rfl) (by kernel_rfl) (by kernel_rfl) (by kernel_rfl) (fun w' hs => by obtain ⟨hAr, hBr⟩ := hs; exact R_index0 (b := w7.heap.size) (len := (mm : Int).toNat) (cap := (mm : Int).toNat) (k := .i64) (i := ((i : Nat) : Int)) (e := 3) i (by kernel_rfl) (by kernel_rfl) (by kernel_rfl) (by kernel_rfl) rfl (by first | omega | (simp only [List.length_set, List.length_map]; omega))) ⟨hAr, hBr⟩ ?_
        refine d_one 14 (by kernel_rfl) (by rfl) (by kernel_rfl) (S_store (b := w7.heap.size) (j := i) (v := .int .i64 ((x24 : Nat) : Int)) (by kernel_rfl) (by kernel_rfl) (by kernel_rfl) (by rfl) hOut (by rw [List.length_append, nats_length]; (first | omega | (simp only [List.length_set, List.length_map]; omega))) fun w31 hT32 hs33 hOut' => ?_)
        have hG := hG.tchS hT32 (fun c e q => by cases e; exact nF_hOut q)
        have hMv := hMv.newst hT32 (by omega)
        have hA := hA.st hT32 (fun c hc e => by have h1 := lt_hA c hc; have h2 := ge_hA c hc; have : c = w7.heap.size := e; omega)
        have hAr := hA.1
        have hB := hB.st hT32 (fun c hc e => by have h1 := lt_hB c hc; have h2 := ge_hB c hc; have : c = w7.heap.size := e; omega)
        have hBr := hB.1
        replace hOut : Blk w31 (w7.heap.size) 3 (nats (o.set i x24) ++ []) := (nats_setP (l := o) (sp := []) (i := i) x24 (by first | omega | (simp only [List.length_set, List.length_map]; omega))) ▸ hOut'
        refine ⟨⟨hAr, hBr⟩, ?_⟩
        refine d_done (by kernel_rfl) ?_
        refine W_fg [(0, .pointer (some ⟨p, 0, none⟩)), (1, .int .i64 ((c : Nat) : Int)), (2, .slice A mm ca), (3, .slice B mm cb), (8, .slice none 0 0), (9, .slice (some ⟨w7.heap.size, 0, none⟩) ((mm : Int).toNat) ((mm : Int).toNat)), (10, .int .i64 ((i : Nat) : Int)), (25, .int .i64 (mm : Int)), (26, .int .i64 ((i : Nat) : Int)), (27, .bool (decide (((i : Nat) : Int) < (mm : Int))))] (by kernel_rfl) fun ρ => ?_
        refine W_region (by kernel_rfl) ?_
        refine sg [(43, .int .i64 (IntKind.i64.wrap (((i : Nat) : Int) + 1)))] (by kernel_rfl) ?_
        rw [show IntKind.i64.wrap (((i : Nat) : Int) + 1) = ((i : Nat) : Int) + 1 from wrap_i64 (by omega) (by omega)]
        refine fixR (y := ((i + 1 : Nat) : Int)) (by omega) ?_
        refine sg [(26, .int .i64 ((i + 1 : Nat) : Int))] (by kernel_rfl) ?_
        refine op_nil ?_
        refine ⟨_, ?_, F21, n22, cs23, o.set i x24, i + 1, _, updL_self (by kernel_rfl), ?_, by rw [List.length_set]; exact hol, hrw.step hr26 (by omega) (fun be hm => rfl), by omega, nF_hOut, hG, hMv, hA, hAr, hB, hBr, hOut, rfl⟩
        · omega
        · omega
      · replace hc16 : (mm : Int) ≤ ((i : Nat) : Int) := (Int.not_lt.1 (of_decide_eq_false hc16))
        refine W_exit ?_
        refine X_hit ?_
        refine W_seq ?_
        refine W_region (by kernel_rfl) ?_
        refine sg [(44, .slice (some ⟨w7.heap.size, 0, none⟩) ((mm : Int).toNat) ((mm : Int).toNat)), (8, .slice (some ⟨w7.heap.size, 0, none⟩) ((mm : Int).toNat) ((mm : Int).toNat))] (by kernel_rfl) ?_
        refine op_nil ?_
        refine W_ret ?_
        exact ⟨_, Res_of (v := .slice (some ⟨w7.heap.size, 0, none⟩) ((mm : Int).toNat) ((mm : Int).toNat)) (by kernel_rfl), ⟨F1, n1, cs1, w7.heap.size, o, rfl, hol, RdX.ofP hOut (by rw [nats_length]; exact hol) (by omega) nF_hOut, by omega, hG, hMv, (show i = mm by omega) ▸ hrw, by omega⟩⟩
  · replace hb1 : ((c : Nat) : Int) < 0 := (of_decide_eq_true hb1)
    exfalso; omega

end Go.Proofs.YtnlecdpiccgdpaaV

set_option linter.unusedVariables false
set_option linter.unusedSimpArgs false
namespace Go.Proofs.YtnlecdpiccgdpaaV
open Go Go.RowKit Go.Proofs
def pw (i : Nat) : Nat := 2 ^ i
theorem pw_i64 {i : Nat} (h : i < 63) : IntKind.i64.wrap ((1 : Int) * 2 ^ i) = ((pw i : Nat) : Int) := by
  have h2 : pw i ≤ 4611686018427387904 := Nat.pow_le_pow_right (n := 2) (j := 62) (by decide) (by omega)
  have e : ((1 : Int) * 2 ^ i) = ((pw i : Nat) : Int) := by unfold pw; simp
  rw [e, wrap_i64 (by omega) (by omega)]
theorem pw30 {i : Nat} (h : 30 ≤ i) : 1000 < pw i := by
  have : (2 : Nat) ^ 30 ≤ 2 ^ i := Nat.pow_le_pow_right (by decide) h
  unfold pw
  have : (2 : Nat) ^ 30 = 1073741824 := by decide
  omega
/-- The literals of a row that is moved. -/
def mvN (up : Bool) (m : Nat) (a : List Nat) (s fl j : Nat) : Nat := if up = true then (if s ≤ j then a.getD (j - s) 0 else fl) else (if j + s < m then a.getD (j + s) 0 else fl)
def mvB (up : Bool) (m : Nat) (A : Nat → Bool) (fl : Bool) (s j : Nat) : Bool := if up = true then (if s ≤ j then A (j - s) else fl) else (if j + s < m then A (j + s) else fl)
theorem mv_put {o : List Nat} {i x : Nat} {f : Nat → Nat} (hl : i < o.length) (h : ∀ j, j < i → o.getD j 0 = f j) (e : x = f i) : ∀ j, j < i + 1 → (o.set i x).getD j 0 = f j := fun j hj => by
  rw [setN _ _ _ _ hl]
  by_cases q : j = i
  · rw [if_pos q, q]; exact e
  · rw [if_neg q]; exact h j (by omega)
theorem mv_put2 {o : List Nat} {i x y : Nat} {f : Nat → Nat} (hl : i < o.length) (h : ∀ j, j < i → o.getD j 0 = f j) (e : x = f i) : ∀ j, j < i + 1 → ((o.set i y).set i x).getD j 0 = f j := by
  rw [List.set_set]; exact mv_put hl h e
theorem mvN_fit {up : Bool} {m n s fl : Nat} {a : List Nat} (ha : ∀ j, j < m → a.getD j 0 / 2 < n) (hf : fl / 2 < n) {j : Nat} (hj : j < m) : mvN up m a s fl j / 2 < n := by
  unfold mvN
  split
  · split
    · exact ha _ (by omega)
    · exact hf
  · split
    · exact ha _ (by omega)
    · exact hf
def lowV (m : Nat) (B : Nat → Bool) (i : Nat) : Nat := match i with
  | 0 => 0
  | i + 1 => lowV m B i + (if pw i < m ∧ B i = true then pw i else 0)
def farV (m : Nat) (B : Nat → Bool) (i : Nat) : Bool := match i with
  | 0 => false
  | i + 1 => farV m B i || (decide (m ≤ pw i) && B i)
theorem far_low {m : Nat} {B : Nat → Bool} {i : Nat} (h : farV m B i = false) : lowV m B i = bval i B := by
  induction i with
  | zero => rfl
  | succ i ih =>
    unfold farV at h
    rw [Bool.or_eq_false_iff] at h
    unfold lowV bval
    rw [ih h.1]
    cases hb : B i with
    | false => simp
    | true =>
      have : pw i < m := by
        have := h.2; rw [hb] at this; simp at this; exact this
      rw [if_pos ⟨this, rfl⟩]; rfl
theorem bval_ge {m : Nat} {B : Nat → Bool} {k : Nat} (hk : k < m) (h : B k = true) : pw k ≤ bval m B := by
  induction m with
  | zero => omega
  | succ m ih =>
    unfold bval
    by_cases e : k = m
    · subst e; rw [if_pos h]; unfold pw; omega
    · have := ih (by omega); omega
theorem far_big {m : Nat} {B : Nat → Bool} {i : Nat} (h : farV m B i = true) : ∃ k, k < i ∧ m ≤ pw k ∧ B k = true := by
  induction i with
  | zero => cases h
  | succ i ih =>
    unfold farV at h
    rw [Bool.or_eq_true] at h
    rcases h with h | h
    · obtain ⟨k, h1, h2⟩ := ih h; exact ⟨k, by omega, h2⟩
    · simp at h; exact ⟨i, by omega, h⟩
theorem mvB_far {up : Bool} {m : Nat} {A : Nat → Bool} {fl : Bool} {s j : Nat} (hj : j < m) (hs : m ≤ s) : mvB up m A fl s j = fl := by
  unfold mvB
  split
  · rw [if_neg (by omega)]
  · rw [if_neg (by omega)]
theorem mv_end {up : Bool} {m : Nat} {A B : Nat → Bool} {fl : Bool} {j : Nat} (hj : j < m) : ite_ (farV m B m) fl (mvB up m A fl (lowV m B m) j) = mvB up m A fl (bval m B) j := by
  unfold ite_
  cases h : farV m B m with
  | false => rw [far_low h]; simp
  | true =>
    obtain ⟨k, h1, h2, h3⟩ := far_big h
    have := bval_ge h1 h3
    rw [mvB_far hj (by omega : m ≤ bval m B)]; simp
theorem mv_stage {be : Nat → Bool} {up : Bool} {m : Nat} {o : List Nat} {fl i j : Nat} {A B : Nat → Bool} (ho : ∀ j, j < m → lt_ be (o.getD j 0) = mvB up m A (lt_ be fl) (lowV m B i) j) (hp : pw i < m) (hj : j < m) :
    ite_ (B i) (lt_ be (mvN up m o (pw i) fl j)) (lt_ be (o.getD j 0)) = mvB up m A (lt_ be fl) (lowV m B (i + 1)) j := by
  unfold ite_
  cases hb : B i with
  | false =>
    have e : lowV m B (i + 1) = lowV m B i := by
      show lowV m B i + (if pw i < m ∧ B i = true then pw i else 0) = _
      rw [hb]; simp
    rw [e, ← ho j hj]; simp
  | true =>
    have e : lowV m B (i + 1) = lowV m B i + pw i := by
      show lowV m B i + (if pw i < m ∧ B i = true then pw i else 0) = _
      rw [hb, if_pos ⟨hp, rfl⟩]
    rw [e]
    simp only [Bool.true_and, Bool.not_true, Bool.false_and, Bool.or_false]
    unfold mvN mvB
    cases up with
    | true =>
      rw [if_pos rfl, if_pos rfl]
      by_cases h1 : pw i ≤ j
      · rw [if_pos h1, ho _ (by omega)]
        unfold mvB
        rw [if_pos rfl]
        by_cases h2 : lowV m B i ≤ j - pw i
        · rw [if_pos h2, if_pos (by omega)]; congr 1; omega
        · rw [if_neg h2, if_neg (by omega)]
      · rw [if_neg h1, if_neg (by omega)]
    | false =>
      simp only [Bool.false_eq_true, if_false]
      by_cases h1 : j + pw i < m
      · rw [if_pos h1, ho _ h1]
        unfold mvB
        simp only [Bool.false_eq_true, if_false]
        by_cases h2 : j + pw i + lowV m B i < m
        · rw [if_pos h2, if_pos (by omega)]; congr 1; omega
        · rw [if_neg h2, if_neg (by omega)]
      · rw [if_neg h1, if_neg (by omega)]
theorem low_same {m : Nat} {B : Nat → Bool} {i : Nat} (h : m ≤ pw i) : lowV m B (i + 1) = lowV m B i := by
  show lowV m B i + (if pw i < m ∧ B i = true then pw i else 0) = _
  rw [if_neg (by omega)]; rfl
theorem far_same {m : Nat} {B : Nat → Bool} {i : Nat} (h : pw i < m) : farV m B (i + 1) = farV m B i := by
  show (farV m B i || (decide (m ≤ pw i) && B i)) = _
  rw [decide_eq_false (by omega)]; simp
theorem far_step {m : Nat} {B : Nat → Bool} {i : Nat} (h : m ≤ pw i) : farV m B (i + 1) = (farV m B i || B i) := by
  show (farV m B i || (decide (m ≤ pw i) && B i)) = _
  rw [decide_eq_true h]; simp
theorem Rw.far {n n1 n2 m x : Nat} {cs cs1 cs2 : List (List Nat)} {o : List Nat} {f : (Nat → Bool) → Nat → Bool} {g : (Nat → Bool) → Bool} (h : Rw n cs n1 cs1 m o f) (k : GR n1 cs1 n2 cs2 x g) : Rw n cs n2 cs2 m o f := h.mono k.1 k.2.1
/-- A literal and what it says. -/
def Lw (n : Nat) (cs : List (List Nat)) (x : Nat) (f : (Nat → Bool) → Bool) : Prop := x / 2 < n ∧ ∀ be, Mod cs be → lt_ be x = f be
theorem Lw.mono {n n' : Nat} {cs cs' : List (List Nat)} {x : Nat} {f : (Nat → Bool) → Bool} (h : Lw n cs x f) (hn : n ≤ n') (hs : ∀ c, c ∈ cs → c ∈ cs') : Lw n' cs' x f := ⟨by have := h.1; omega, fun be hm => h.2 be (hm.sub hs)⟩
theorem Lw.eq {n : Nat} {cs : List (List Nat)} {x : Nat} {f g : (Nat → Bool) → Bool} (h : Lw n cs x f) (e : ∀ be, Mod cs be → f be = g be) : Lw n cs x g := ⟨h.1, fun be hm => (h.2 be hm).trans (e be hm)⟩
theorem Lw.of {n n' : Nat} {cs cs' : List (List Nat)} {x : Nat} {f : (Nat → Bool) → Bool} (h : GR n cs n' cs' x f) : Lw n' cs' x f := ⟨h.2.2.1, h.2.2.2⟩
end Go.Proofs.YtnlecdpiccgdpaaV

set_option linter.unusedVariables false
set_option linter.unusedSimpArgs false
namespace Go.Proofs.YtnlecdpiccgdpaaV
open Go Go.RowKit Go.Proofs
theorem pw_u64 {i : Nat} (h : i < 64) : pw i ≤ 9223372036854775808 := Nat.pow_le_pow_right (n := 2) (j := 63) (by decide) (by omega)
theorem pw_pos (i : Nat) : 1 ≤ pw i := Nat.one_le_two_pow
theorem pw_succ (i : Nat) : pw (i + 1) = 2 * pw i := by unfold pw; rw [Nat.pow_succ]; omega
theorem lt64 {x : Nat} (h : x < 18446744073709551616) : x < 2 ^ 64 := h
theorem bval_u {m : Nat} {f : Nat → Bool} (h : m ≤ 64) : bval m f < 18446744073709551616 := Nat.lt_of_lt_of_le (bval_lt m f) (Nat.pow_le_pow_right (n := 2) (j := 64) (by decide) h)
theorem fdiv_nat (x i : Nat) : ((x : Nat) : Int).fdiv (2 ^ i) = ((x / pw i : Nat) : Int) := by
  have e : ((2 : Int) ^ i) = ((pw i : Nat) : Int) := by unfold pw; simp
  rw [e, Int.fdiv_eq_ediv_of_nonneg _ (by omega)]
  rfl
theorem bit_div (x i : Nat) : (x / pw i % 2 = 1) ↔ x.testBit i = true := by
  unfold pw
  rw [Nat.testBit_eq_decide_div_mod_eq]
  simp
theorem bitB (x i : Nat) : decide (x / pw i % 2 = 1) = x.testBit i := by
  unfold pw; rw [Nat.testBit_eq_decide_div_mod_eq]
theorem bit_eq (x i : Nat) : ((((x / pw i : Nat) : Int)) % 2 == 1) = x.testBit i := by
  rw [← bitB]
  rcases (show x / pw i % 2 = 0 ∨ x / pw i % 2 = 1 by omega) with h | h
  · rw [decide_eq_false (by omega)]
    exact beq_eq_false_iff_ne.2 (by omega)
  · rw [decide_eq_true h]
    exact beq_iff_eq.2 (by omega)
theorem bv_u (a : Nat) (h : a < 18446744073709551616) : (BitVec.ofInt 64 (a : Int)).toNat = a := by
  rw [BitVec.toNat_ofInt]
  have : (2 : Int) ^ 64 = 18446744073709551616 := by decide
  omega
theorem and_u (a b : Nat) (ha : a < 18446744073709551616) (hb : b < 18446744073709551616) : IntKind.u64.wrap ((BitVec.ofInt 64 (a : Int) &&& BitVec.ofInt 64 (b : Int)).toNat : Int) = ((a &&& b : Nat) : Int) := by
  have e : (BitVec.ofInt 64 (a : Int) &&& BitVec.ofInt 64 (b : Int)).toNat = a &&& b := by rw [BitVec.toNat_and, bv_u a ha, bv_u b hb]
  have : a &&& b ≤ a := Nat.and_le_left
  rw [e, wrap_u64 (by omega) (by omega)]
theorem or_u (a b : Nat) (ha : a < 18446744073709551616) (hb : b < 18446744073709551616) : IntKind.u64.wrap ((BitVec.ofInt 64 (a : Int) ||| BitVec.ofInt 64 (b : Int)).toNat : Int) = ((a ||| b : Nat) : Int) := by
  have e : (BitVec.ofInt 64 (a : Int) ||| BitVec.ofInt 64 (b : Int)).toNat = a ||| b := by rw [BitVec.toNat_or, bv_u a ha, bv_u b hb]
  have : a ||| b < 2 ^ 64 := Nat.or_lt_two_pow ha hb
  have h64 : (2 : Nat) ^ 64 = 18446744073709551616 := by decide
  rw [e, wrap_u64 (by omega) (by omega)]
/-- One more bit. -/
theorem bval_or (i : Nat) (f : Nat → Bool) (b : Bool) (hb : b = f i) : (bval i f ||| (if b = true then pw i else 0)) = bval (i + 1) f := by
  subst hb
  have hl := bval_lt i f
  show _ = bval i f + (if f i then 2 ^ i else 0)
  by_cases h : f i = true
  · rw [if_pos h, if_pos h]
    unfold pw
    rw [Nat.add_comm, Nat.or_comm]
    have := Nat.two_pow_add_eq_or_of_lt hl 1
    rw [Nat.mul_one] at this
    exact this.symm
  · rw [if_neg h, if_neg h]; simp
theorem bvalor_u (i : Nat) (f : Nat → Bool) (b : Bool) (hi : i < 64) (hb : b = f i) : IntKind.u64.wrap ((BitVec.ofInt 64 ((bval i f : Nat) : Int) ||| BitVec.ofInt 64 (((if b = true then pw i else 0 : Nat)) : Int)).toNat : Int) = ((bval (i + 1) f : Nat) : Int) := by
  have h1 := bval_u (m := i) (f := f) (by omega)
  have h2 := pw_u64 hi
  rw [or_u _ _ h1 (by split <;> omega), bval_or i f b hb]
theorem bval_not {i : Nat} {f : Nat → Bool} (h : f i = false) : bval i f = bval (i + 1) f := by
  show _ = bval i f + (if f i then 2 ^ i else 0)
  rw [h]; simp
def bitN (b : Bool) : Nat := if b = true then 1 else 0
theorem shl_bit (b : Bool) {i : Nat} (h : i < 64) : IntKind.u64.wrap (((bitN b : Nat) : Int) * 2 ^ i) = (((if b = true then pw i else 0 : Nat)) : Int) := by
  have h2 := pw_u64 h
  have e : ((2 : Int) ^ i) = ((pw i : Nat) : Int) := by unfold pw; simp
  rw [e]
  cases b with
  | true => simp only [bitN, if_true]; rw [wrap_u64 (by omega) (by omega)]; simp
  | false => simp only [bitN, Bool.false_eq_true, if_false]; rw [wrap_u64 (by omega) (by omega)]; simp
/-- The lowest bits. -/
def cutN (w x : Nat) : Nat := x % pw w
theorem cutN_lt (w x : Nat) : cutN w x < pw w := Nat.mod_lt _ (pw_pos w)
theorem pw64 {w : Nat} (h : w ≤ 64) : pw w ≤ 18446744073709551616 := Nat.pow_le_pow_right (n := 2) (j := 64) (by decide) h
theorem cut_and (w x : Nat) : x &&& (pw w - 1) = cutN w x := by unfold pw cutN pw; exact Nat.and_two_pow_sub_one_eq_mod x w
theorem cut_u (w x : Nat) (hw : w ≤ 64) (hx : x < 18446744073709551616) : IntKind.u64.wrap ((BitVec.ofInt 64 (x : Int) &&& BitVec.ofInt 64 ((pw w - 1 : Nat) : Int)).toNat : Int) = ((cutN w x : Nat) : Int) := by
  have := pw64 hw
  rw [and_u _ _ hx (by have := pw_pos w; omega), cut_and]
theorem cut_bval (w : Nat) (f : Nat → Bool) : cutN w (bval w f) = bval w f := Nat.mod_eq_of_lt (bval_lt w f)
theorem cut_bit (w x j : Nat) : (cutN w x).testBit j = (decide (j < w) && x.testBit j) := by unfold cutN pw; rw [Nat.testBit_mod_two_pow]
theorem bval_cut {m x : Nat} {f : Nat → Bool} (h : ∀ j, j < m → f j = x.testBit j) : bval m f = cutN m x := bval_eq h
/-- The word that is moved, bit by bit. -/
def mvR (w a : Nat) (sh : Int) (fl : Bool) (i : Nat) : Bool := if (w : Int) ≤ (i : Int) - sh then fl else if 0 ≤ (i : Int) - sh then a.testBit ((i : Int) - sh).toNat else false
theorem mvR_up {w a b i : Nat} (hi : i < w) (hw : w ≤ 64) (s : Int) (hs : s = if b < 64 then (b : Int) else 64) : mvR w a s false i = mvB true w (fun j => a.testBit j) false b i := by
  unfold mvR mvB
  rw [if_pos rfl]
  by_cases h : b ≤ i
  · rw [if_pos (by omega) (c := b < 64)] at hs
    rw [if_neg (by omega), if_pos (by omega), if_pos h]
    congr 1; omega
  · have : i < s.toNat := by split at hs <;> omega
    rw [if_neg (by split at hs <;> omega), if_neg (by split at hs <;> omega), if_neg h]
theorem mvR_dn {w a b i : Nat} (hi : i < w) (hw : w ≤ 64) (fl : Bool) (s : Int) (hs : s = if b < 64 then (b : Int) else 64) : mvR w a (-s) fl i = mvB false w (fun j => a.testBit j) fl b i := by
  unfold mvR mvB
  simp only [Bool.false_eq_true, if_false]
  by_cases h : i + b < w
  · rw [if_pos (by omega) (c := b < 64)] at hs
    rw [if_neg (by omega), if_pos (by omega), if_pos h]
    congr 1; omega
  · rw [if_pos (by split at hs <;> omega), if_neg h]
end Go.Proofs.YtnlecdpiccgdpaaV
