/- Texts laid together: Walks of functions of the program and of the document's texts. The conditions stand with each theorem. Walks of functions of the program and of the document's texts. The conditions stand with each theorem. -/
import Derived.Test.YtlkjhkennbdbnaaJRrepo91x1
import Derived.Test.YtlkjhkennbdbnaaProg
import Derived.Test.YtlkjhkennbdbnaaJRrepo91x2
set_option linter.unusedVariables false
set_option linter.unusedSimpArgs false
namespace Go.Proofs.YtlkjhkennbdbnaaV
open Go Go.RowKit Go.Proofs

theorem u8s_snoc (t : Tx) (x i : Nat) {v : Value} (h : v = .int .u8 (((bt x i).toNat : Nat) : Int)) : u8s t ++ [v] = u8s (t ++ [bt x i]) := by
 rw [u8s_app, h]; rfl
theorem be1_nat {x : Nat} : be 1 x = [UInt8.ofNat x] := by
 show [UInt8.ofNat (x / 2 ^ (8 * 0))] = _
 simp

set_option maxRecDepth 100000 in
theorem num2_ok (A : Option Addr) (n cp : Nat) (t : Tx) (x : Nat) (w : World) (hO : Own w 0 5 1 (.slice A n cp) n (u8s t)) (hn : n + 8 ≤ 140737488355328) (hx : x < 18446744073709551616) : Ret Try.prog 17 [.slice A n cp, .int .u64 ((x : Nat) : Int), .int .i64 2] w fun v w' => ∃ A2 cp2, v = .slice A2 (n + 2) cp2 ∧ Own w' 0 5 1 (.slice A2 (n + 2) cp2) (n + 2) (u8s (t ++ be 2 x)) ∧ (∀ c, (Value.slice A2 (n + 2) cp2).ownBlock = some c → (Value.slice A n cp).ownBlock = some c ∨ w.heap.size ≤ c) ∧ Tch (ownS (.slice A n cp)) w w' := by
 have hTt := Tch.refl (ownS (.slice A n cp)) w
 have hMo : ∀ c, (Value.slice A n cp).ownBlock = some c → (Value.slice A n cp).ownBlock = some c ∨ w.heap.size ≤ c := fun c h => .inl h
 have hsz := hTt.size
 refine enter Try.func17 rfl rfl ?_
 refine zQ ?_
 refine zS [(6, .slice none 0 0)] ?_
 refine op_nil ?_
 refine W_seq ?_
 refine zQ ?_
 refine zS [(8, .int .i64 2), (9, .int .i64 1), (7, .int .i64 1)] ?_
 refine op_nil ?_
 refine W_block ?_
 refine W_un 3 ?_
 refine Un_s ?_
 refine W_seq ?_
 refine zQ ?_
 refine zS [(10, .int .i64 1), (11, .bool true)] ?_
 refine zO true (fun _ => ?_) (fun h => nomatch h)
 refine W_skip ?_
 refine W_seq ?_
 refine W_block ?_
 refine zR ?_
 refine zS [(14, .slice A n cp), (15, .int .u64 ((x : Nat) : Int)), (16, .int .i64 1), (17, .int .i64 8), (18, .int .u64 (((x : Nat) : Int).fdiv (2 ^ 8))), (19, .int .u8 (IntKind.u8.wrap (((x : Nat) : Int).fdiv (2 ^ 8))))] ?_
 refine st (by rfl) (S_new (v := .slice (some ⟨w.heap.size, 0, none⟩) 1 1) (ob := .cells #[.int .u8 (IntKind.u8.wrap (((x : Nat) : Int).fdiv (2 ^ 8)))] 5) (by kernel_rfl) fun w1 hT2 hs3 hB4 => ?_)
 replace hB4 : Blk w1 (w.heap.size) 5 [.int .u8 (IntKind.u8.wrap (((x : Nat) : Int).fdiv (2 ^ 8)))] := hB4
 have hO := hO.tch0 hT2
 have hTt := hTt.then0 hT2
 have hsz := hTt.size
 refine st (by rfl) (S_appendR 39 5 (.int .u8 0) 1 1 (n := n) (m := 1) (A := A) (cp := cp) (cells := u8s t) (news := [.int .u8 (IntKind.u8.wrap (((x : Nat) : Int).fdiv (2 ^ 8)))]) (b := w.heap.size) (off := 0) (c := 1) (by kernel_rfl) (by kernel_rfl) (by decide) (by kernel_rfl) (by kernel_rfl) (by kernel_rfl) hO (by rfl) (fun k u hk => by rw [Nat.zero_add, hB4.cell]; exact hk) (by simp [oneV]) (by simp only [maxLen]; omega) (by omega) fun A5 c5 w5 hO5 hw5 hT5 => ?_)
 rw [u8s_snoc _ x 1 (by_cell x 8)] at hO5
 have hTt := hTt.trans hT5 (fun _ _ e => e) (fun b hb e => (hMo b e).elim id (fun q => by omega))
 have hsz := hTt.size
 have hMo : ∀ c, (Value.slice A5 (n + 1) c5).ownBlock = some c → (Value.slice A n cp).ownBlock = some c ∨ w.heap.size ≤ c := fun c hc => (hw5 c hc).elim (hMo c) (fun q => .inr (by omega))
 have hO := hO5
 refine zS [(0, .slice A5 (n + 1) c5)] ?_
 refine op_nil ?_
 refine zF [(0, .slice A5 (n + 1) c5), (1, .int .u64 ((x : Nat) : Int)), (2, .int .i64 2), (6, .slice none 0 0), (7, .int .i64 1), (11, .bool true)] fun ρ => ?_
 refine zR ?_
 refine zS [(12, .int .i64 1), (13, .int .i64 0), (7, .int .i64 0)] ?_
 refine op_nil ?_
 refine Un_s ?_
 refine W_seq ?_
 refine zQ ?_
 refine zS [(10, .int .i64 0), (11, .bool true)] ?_
 refine zO true (fun _ => ?_) (fun h => nomatch h)
 refine W_skip ?_
 refine W_seq ?_
 refine W_block ?_
 refine zR ?_
 refine zS [(14, .slice A5 (n + 1) c5), (15, .int .u64 ((x : Nat) : Int)), (16, .int .i64 0), (17, .int .i64 0), (18, .int .u64 (((x : Nat) : Int).fdiv (2 ^ 0))), (19, .int .u8 (IntKind.u8.wrap (((x : Nat) : Int).fdiv (2 ^ 0))))] ?_
 refine st (by rfl) (S_new (v := .slice (some ⟨w5.heap.size, 0, none⟩) 1 1) (ob := .cells #[.int .u8 (IntKind.u8.wrap (((x : Nat) : Int).fdiv (2 ^ 0)))] 5) (by kernel_rfl) fun w6 hT7 hs8 hB9 => ?_)
 replace hB9 : Blk w6 (w5.heap.size) 5 [.int .u8 (IntKind.u8.wrap (((x : Nat) : Int).fdiv (2 ^ 0)))] := hB9
 have hO := hO.tch0 hT7
 have hTt := hTt.then0 hT7
 have hsz := hTt.size
 refine st (by rfl) (S_appendR 39 5 (.int .u8 0) 1 1 (n := n + 1) (m := 1) (A := A5) (cp := c5) (cells := u8s (t ++ [bt x 1])) (news := [.int .u8 (IntKind.u8.wrap (((x : Nat) : Int).fdiv (2 ^ 0)))]) (b := w5.heap.size) (off := 0) (c := 1) (by kernel_rfl) (by kernel_rfl) (by decide) (by kernel_rfl) (by kernel_rfl) (by kernel_rfl) hO (by rfl) (fun k u hk => by rw [Nat.zero_add, hB9.cell]; exact hk) (by simp [oneV]) (by simp only [maxLen]; omega) (by omega) fun A10 c10 w10 hO10 hw10 hT10 => ?_)
 rw [u8s_snoc _ x 0 (by_cell x 0)] at hO10
 have hTt := hTt.trans hT10 (fun _ _ e => e) (fun b hb e => (hMo b e).elim id (fun q => by omega))
 have hsz := hTt.size
 have hMo : ∀ c, (Value.slice A10 (n + 1 + 1) c10).ownBlock = some c → (Value.slice A n cp).ownBlock = some c ∨ w.heap.size ≤ c := fun c hc => (hw10 c hc).elim (hMo c) (fun q => .inr (by omega))
 have hO := hO10
 refine zS [(0, .slice A10 (n + 1 + 1) c10)] ?_
 refine op_nil ?_
 refine zF [(0, .slice A10 (n + 1 + 1) c10), (1, .int .u64 ((x : Nat) : Int)), (2, .int .i64 2), (6, .slice none 0 0), (7, .int .i64 0), (11, .bool true)] fun ρ => ?_
 refine zR ?_
 refine zS [(12, .int .i64 0), (13, .int .i64 (-1)), (7, .int .i64 (-1))] ?_
 refine op_nil ?_
 refine Un_s ?_
 refine W_seq ?_
 refine zQ ?_
 refine zS [(10, .int .i64 (-1)), (11, .bool false)] ?_
 refine zO false (fun h => nomatch h) (fun _ => ?_)
 refine W_exit ?_
 refine X_hit ?_
 refine zQ ?_
 refine zS [(22, .slice A10 (n + 1 + 1) c10), (6, .slice A10 (n + 1 + 1) c10)] ?_
 refine op_nil ?_
 refine W_ret ?_
 exact ⟨_, Res_of (v := .slice A10 (n + 1 + 1) c10) (by kernel_rfl), ⟨_, _, rfl, by have q := hO; simp only [List.append_assoc, List.cons_append, List.nil_append] at q; exact q, hMo, hTt⟩⟩

set_option maxRecDepth 100000 in
theorem num4_ok (A : Option Addr) (n cp : Nat) (t : Tx) (x : Nat) (w : World) (hO : Own w 0 5 1 (.slice A n cp) n (u8s t)) (hn : n + 8 ≤ 140737488355328) (hx : x < 18446744073709551616) : Ret Try.prog 17 [.slice A n cp, .int .u64 ((x : Nat) : Int), .int .i64 4] w fun v w' => ∃ A2 cp2, v = .slice A2 (n + 4) cp2 ∧ Own w' 0 5 1 (.slice A2 (n + 4) cp2) (n + 4) (u8s (t ++ be 4 x)) ∧ (∀ c, (Value.slice A2 (n + 4) cp2).ownBlock = some c → (Value.slice A n cp).ownBlock = some c ∨ w.heap.size ≤ c) ∧ Tch (ownS (.slice A n cp)) w w' := by
 have hTt := Tch.refl (ownS (.slice A n cp)) w
 have hMo : ∀ c, (Value.slice A n cp).ownBlock = some c → (Value.slice A n cp).ownBlock = some c ∨ w.heap.size ≤ c := fun c h => .inl h
 have hsz := hTt.size
 refine enter Try.func17 rfl rfl ?_
 refine zQ ?_
 refine zS [(6, .slice none 0 0)] ?_
 refine op_nil ?_
 refine W_seq ?_
 refine zQ ?_
 refine zS [(8, .int .i64 4), (9, .int .i64 3), (7, .int .i64 3)] ?_
 refine op_nil ?_
 refine W_block ?_
 refine W_un 5 ?_
 refine Un_s ?_
 refine W_seq ?_
 refine zQ ?_
 refine zS [(10, .int .i64 3), (11, .bool true)] ?_
 refine zO true (fun _ => ?_) (fun h => nomatch h)
 refine W_skip ?_
 refine W_seq ?_
 refine W_block ?_
 refine zR ?_
 refine zS [(14, .slice A n cp), (15, .int .u64 ((x : Nat) : Int)), (16, .int .i64 3), (17, .int .i64 24), (18, .int .u64 (((x : Nat) : Int).fdiv (2 ^ 24))), (19, .int .u8 (IntKind.u8.wrap (((x : Nat) : Int).fdiv (2 ^ 24))))] ?_
 refine st (by rfl) (S_new (v := .slice (some ⟨w.heap.size, 0, none⟩) 1 1) (ob := .cells #[.int .u8 (IntKind.u8.wrap (((x : Nat) : Int).fdiv (2 ^ 24)))] 5) (by kernel_rfl) fun w1 hT2 hs3 hB4 => ?_)
 replace hB4 : Blk w1 (w.heap.size) 5 [.int .u8 (IntKind.u8.wrap (((x : Nat) : Int).fdiv (2 ^ 24)))] := hB4
 have hO := hO.tch0 hT2
 have hTt := hTt.then0 hT2
 have hsz := hTt.size
 refine st (by rfl) (S_appendR 39 5 (.int .u8 0) 1 1 (n := n) (m := 1) (A := A) (cp := cp) (cells := u8s t) (news := [.int .u8 (IntKind.u8.wrap (((x : Nat) : Int).fdiv (2 ^ 24)))]) (b := w.heap.size) (off := 0) (c := 1) (by kernel_rfl) (by kernel_rfl) (by decide) (by kernel_rfl) (by kernel_rfl) (by kernel_rfl) hO (by rfl) (fun k u hk => by rw [Nat.zero_add, hB4.cell]; exact hk) (by simp [oneV]) (by simp only [maxLen]; omega) (by omega) fun A5 c5 w5 hO5 hw5 hT5 => ?_)
 rw [u8s_snoc _ x 3 (by_cell x 24)] at hO5
 have hTt := hTt.trans hT5 (fun _ _ e => e) (fun b hb e => (hMo b e).elim id (fun q => by omega))
 have hsz := hTt.size
 have hMo : ∀ c, (Value.slice A5 (n + 1) c5).ownBlock = some c → (Value.slice A n cp).ownBlock = some c ∨ w.heap.size ≤ c := fun c hc => (hw5 c hc).elim (hMo c) (fun q => .inr (by omega))
 have hO := hO5
 refine zS [(0, .slice A5 (n + 1) c5)] ?_
 refine op_nil ?_
 refine zF [(0, .slice A5 (n + 1) c5), (1, .int .u64 ((x : Nat) : Int)), (2, .int .i64 4), (6, .slice none 0 0), (7, .int .i64 3), (11, .bool true)] fun ρ => ?_
 refine zR ?_
 refine zS [(12, .int .i64 3), (13, .int .i64 2), (7, .int .i64 2)] ?_
 refine op_nil ?_
 refine Un_s ?_
 refine W_seq ?_
 refine zQ ?_
 refine zS [(10, .int .i64 2), (11, .bool true)] ?_
 refine zO true (fun _ => ?_) (fun h => nomatch h)
 refine W_skip ?_
 refine W_seq ?_
 refine W_block ?_
 refine zR ?_
 refine zS [(14, .slice A5 (n + 1) c5), (15, .int .u64 ((x : Nat) : Int)), (16, .int .i64 2), (17, .int .i64 16), (18, .int .u64 (((x : Nat) : Int).fdiv (2 ^ 16))), (19, .int .u8 (IntKind.u8.wrap (((x : Nat) : Int).fdiv (2 ^ 16))))] ?_
 refine st (by rfl) (S_new (v := .slice (some ⟨w5.heap.size, 0, none⟩) 1 1) (ob := .cells #[.int .u8 (IntKind.u8.wrap (((x : Nat) : Int).fdiv (2 ^ 16)))] 5) (by kernel_rfl) fun w6 hT7 hs8 hB9 => ?_)
 replace hB9 : Blk w6 (w5.heap.size) 5 [.int .u8 (IntKind.u8.wrap (((x : Nat) : Int).fdiv (2 ^ 16)))] := hB9
 have hO := hO.tch0 hT7
 have hTt := hTt.then0 hT7
 have hsz := hTt.size
 refine st (by rfl) (S_appendR 39 5 (.int .u8 0) 1 1 (n := n + 1) (m := 1) (A := A5) (cp := c5) (cells := u8s (t ++ [bt x 3])) (news := [.int .u8 (IntKind.u8.wrap (((x : Nat) : Int).fdiv (2 ^ 16)))]) (b := w5.heap.size) (off := 0) (c := 1) (by kernel_rfl) (by kernel_rfl) (by decide) (by kernel_rfl) (by kernel_rfl) (by kernel_rfl) hO (by rfl) (fun k u hk => by rw [Nat.zero_add, hB9.cell]; exact hk) (by simp [oneV]) (by simp only [maxLen]; omega) (by omega) fun A10 c10 w10 hO10 hw10 hT10 => ?_)
 rw [u8s_snoc _ x 2 (by_cell x 16)] at hO10
 have hTt := hTt.trans hT10 (fun _ _ e => e) (fun b hb e => (hMo b e).elim id (fun q => by omega))
 have hsz := hTt.size
 have hMo : ∀ c, (Value.slice A10 (n + 1 + 1) c10).ownBlock = some c → (Value.slice A n cp).ownBlock = some c ∨ w.heap.size ≤ c := fun c hc => (hw10 c hc).elim (hMo c) (fun q => .inr (by omega))
 have hO := hO10
 refine zS [(0, .slice A10 (n + 1 + 1) c10)] ?_
 refine op_nil ?_
 refine zF [(0, .slice A10 (n + 1 + 1) c10), (1, .int .u64 ((x : Nat) : Int)), (2, .int .i64 4), (6, .slice none 0 0), (7, .int .i64 2), (11, .bool true)] fun ρ => ?_
 refine zR ?_
 refine zS [(12, .int .i64 2), (13, .int .i64 1), (7, .int .i64 1)] ?_
 refine op_nil ?_
 refine Un_s ?_
 refine W_seq ?_
 refine zQ ?_
 refine zS [(10, .int .i64 1), (11, .bool true)] ?_
 refine zO true (fun _ => ?_) (fun h => nomatch h)
 refine W_skip ?_
 refine W_seq ?_
 refine W_block ?_
 refine zR ?_
 refine zS [(14, .slice A10 (n + 1 + 1) c10), (15, .int .u64 ((x : Nat) : Int)), (16, .int .i64 1), (17, .int .i64 8), (18, .int .u64 (((x : Nat) : Int).fdiv (2 ^ 8))), (19, .int .u8 (IntKind.u8.wrap (((x : Nat) : Int).fdiv (2 ^ 8))))] ?_
 refine st (by rfl) (S_new (v := .slice (some ⟨w10.heap.size, 0, none⟩) 1 1) (ob := .cells #[.int .u8 (IntKind.u8.wrap (((x : Nat) : Int).fdiv (2 ^ 8)))] 5) (by kernel_rfl) fun w11 hT12 hs13 hB14 => ?_)
 replace hB14 : Blk w11 (w10.heap.size) 5 [.int .u8 (IntKind.u8.wrap (((x : Nat) : Int).fdiv (2 ^ 8)))] := hB14
 have hO := hO.tch0 hT12
 have hTt := hTt.then0 hT12
 have hsz := hTt.size
 refine st (by rfl) (S_appendR 39 5 (.int .u8 0) 1 1 (n := n + 1 + 1) (m := 1) (A := A10) (cp := c10) (cells := u8s (t ++ [bt x 3] ++ [bt x 2])) (news := [.int .u8 (IntKind.u8.wrap (((x : Nat) : Int).fdiv (2 ^ 8)))]) (b := w10.heap.size) (off := 0) (c := 1) (by kernel_rfl) (by kernel_rfl) (by decide) (by kernel_rfl) (by kernel_rfl) (by kernel_rfl) hO (by rfl) (fun k u hk => by rw [Nat.zero_add, hB14.cell]; exact hk) (by simp [oneV]) (by simp only [maxLen]; omega) (by omega) fun A15 c15 w15 hO15 hw15 hT15 => ?_)
 rw [u8s_snoc _ x 1 (by_cell x 8)] at hO15
 have hTt := hTt.trans hT15 (fun _ _ e => e) (fun b hb e => (hMo b e).elim id (fun q => by omega))
 have hsz := hTt.size
 have hMo : ∀ c, (Value.slice A15 (n + 1 + 1 + 1) c15).ownBlock = some c → (Value.slice A n cp).ownBlock = some c ∨ w.heap.size ≤ c := fun c hc => (hw15 c hc).elim (hMo c) (fun q => .inr (by omega))
 have hO := hO15
 refine zS [(0, .slice A15 (n + 1 + 1 + 1) c15)] ?_
 refine op_nil ?_
 refine zF [(0, .slice A15 (n + 1 + 1 + 1) c15), (1, .int .u64 ((x : Nat) : Int)), (2, .int .i64 4), (6, .slice none 0 0), (7, .int .i64 1), (11, .bool true)] fun ρ => ?_
 refine zR ?_
 refine zS [(12, .int .i64 1), (13, .int .i64 0), (7, .int .i64 0)] ?_
 refine op_nil ?_
 refine Un_s ?_
 refine W_seq ?_
 refine zQ ?_
 refine zS [(10, .int .i64 0), (11, .bool true)] ?_
 refine zO true (fun _ => ?_) (fun h => nomatch h)
 refine W_skip ?_
 refine W_seq ?_
 refine W_block ?_
 refine zR ?_
 refine zS [(14, .slice A15 (n + 1 + 1 + 1) c15), (15, .int .u64 ((x : Nat) : Int)), (16, .int .i64 0), (17, .int .i64 0), (18, .int .u64 (((x : Nat) : Int).fdiv (2 ^ 0))), (19, .int .u8 (IntKind.u8.wrap (((x : Nat) : Int).fdiv (2 ^ 0))))] ?_
 refine st (by rfl) (S_new (v := .slice (some ⟨w15.heap.size, 0, none⟩) 1 1) (ob := .cells #[.int .u8 (IntKind.u8.wrap (((x : Nat) : Int).fdiv (2 ^ 0)))] 5) (by kernel_rfl) fun w16 hT17 hs18 hB19 => ?_)
 replace hB19 : Blk w16 (w15.heap.size) 5 [.int .u8 (IntKind.u8.wrap (((x : Nat) : Int).fdiv (2 ^ 0)))] := hB19
 have hO := hO.tch0 hT17
 have hTt := hTt.then0 hT17
 have hsz := hTt.size
 refine st (by rfl) (S_appendR 39 5 (.int .u8 0) 1 1 (n := n + 1 + 1 + 1) (m := 1) (A := A15) (cp := c15) (cells := u8s (t ++ [bt x 3] ++ [bt x 2] ++ [bt x 1])) (news := [.int .u8 (IntKind.u8.wrap (((x : Nat) : Int).fdiv (2 ^ 0)))]) (b := w15.heap.size) (off := 0) (c := 1) (by kernel_rfl) (by kernel_rfl) (by decide) (by kernel_rfl) (by kernel_rfl) (by kernel_rfl) hO (by rfl) (fun k u hk => by rw [Nat.zero_add, hB19.cell]; exact hk) (by simp [oneV]) (by simp only [maxLen]; omega) (by omega) fun A20 c20 w20 hO20 hw20 hT20 => ?_)
 rw [u8s_snoc _ x 0 (by_cell x 0)] at hO20
 have hTt := hTt.trans hT20 (fun _ _ e => e) (fun b hb e => (hMo b e).elim id (fun q => by omega))
 have hsz := hTt.size
 have hMo : ∀ c, (Value.slice A20 (n + 1 + 1 + 1 + 1) c20).ownBlock = some c → (Value.slice A n cp).ownBlock = some c ∨ w.heap.size ≤ c := fun c hc => (hw20 c hc).elim (hMo c) (fun q => .inr (by omega))
 have hO := hO20
 refine zS [(0, .slice A20 (n + 1 + 1 + 1 + 1) c20)] ?_
 refine op_nil ?_
 refine zF [(0, .slice A20 (n + 1 + 1 + 1 + 1) c20), (1, .int .u64 ((x : Nat) : Int)), (2, .int .i64 4), (6, .slice none 0 0), (7, .int .i64 0), (11, .bool true)] fun ρ => ?_
 refine zR ?_
 refine zS [(12, .int .i64 0), (13, .int .i64 (-1)), (7, .int .i64 (-1))] ?_
 refine op_nil ?_
 refine Un_s ?_
 refine W_seq ?_
 refine zQ ?_
 refine zS [(10, .int .i64 (-1)), (11, .bool false)] ?_
 refine zO false (fun h => nomatch h) (fun _ => ?_)
 refine W_exit ?_
 refine X_hit ?_
 refine zQ ?_
 refine zS [(22, .slice A20 (n + 1 + 1 + 1 + 1) c20), (6, .slice A20 (n + 1 + 1 + 1 + 1) c20)] ?_
 refine op_nil ?_
 refine W_ret ?_
 exact ⟨_, Res_of (v := .slice A20 (n + 1 + 1 + 1 + 1) c20) (by kernel_rfl), ⟨_, _, rfl, by have q := hO; simp only [List.append_assoc, List.cons_append, List.nil_append] at q; exact q, hMo, hTt⟩⟩

set_option maxRecDepth 100000 in
theorem num8_ok (A : Option Addr) (n cp : Nat) (t : Tx) (x : Nat) (w : World) (hO : Own w 0 5 1 (.slice A n cp) n (u8s t)) (hn : n + 8 ≤ 140737488355328) (hx : x < 18446744073709551616) : Ret Try.prog 17 [.slice A n cp, .int .u64 ((x : Nat) : Int), .int .i64 8] w fun v w' => ∃ A2 cp2, v = .slice A2 (n + 8) cp2 ∧ Own w' 0 5 1 (.slice A2 (n + 8) cp2) (n + 8) (u8s (t ++ be 8 x)) ∧ (∀ c, (Value.slice A2 (n + 8) cp2).ownBlock = some c → (Value.slice A n cp).ownBlock = some c ∨ w.heap.size ≤ c) ∧ Tch (ownS (.slice A n cp)) w w' := by
 have hTt := Tch.refl (ownS (.slice A n cp)) w
 have hMo : ∀ c, (Value.slice A n cp).ownBlock = some c → (Value.slice A n cp).ownBlock = some c ∨ w.heap.size ≤ c := fun c h => .inl h
 have hsz := hTt.size
 refine enter Try.func17 rfl rfl ?_
 refine zQ ?_
 refine zS [(6, .slice none 0 0)] ?_
 refine op_nil ?_
 refine W_seq ?_
 refine zQ ?_
 refine zS [(8, .int .i64 8), (9, .int .i64 7), (7, .int .i64 7)] ?_
 refine op_nil ?_
 refine W_block ?_
 refine W_un 9 ?_
 refine Un_s ?_
 refine W_seq ?_
 refine zQ ?_
 refine zS [(10, .int .i64 7), (11, .bool true)] ?_
 refine zO true (fun _ => ?_) (fun h => nomatch h)
 refine W_skip ?_
 refine W_seq ?_
 refine W_block ?_
 refine zR ?_
 refine zS [(14, .slice A n cp), (15, .int .u64 ((x : Nat) : Int)), (16, .int .i64 7), (17, .int .i64 56), (18, .int .u64 (((x : Nat) : Int).fdiv (2 ^ 56))), (19, .int .u8 (IntKind.u8.wrap (((x : Nat) : Int).fdiv (2 ^ 56))))] ?_
 refine st (by rfl) (S_new (v := .slice (some ⟨w.heap.size, 0, none⟩) 1 1) (ob := .cells #[.int .u8 (IntKind.u8.wrap (((x : Nat) : Int).fdiv (2 ^ 56)))] 5) (by kernel_rfl) fun w1 hT2 hs3 hB4 => ?_)
 replace hB4 : Blk w1 (w.heap.size) 5 [.int .u8 (IntKind.u8.wrap (((x : Nat) : Int).fdiv (2 ^ 56)))] := hB4
 have hO := hO.tch0 hT2
 have hTt := hTt.then0 hT2
 have hsz := hTt.size
 refine st (by rfl) (S_appendR 39 5 (.int .u8 0) 1 1 (n := n) (m := 1) (A := A) (cp := cp) (cells := u8s t) (news := [.int .u8 (IntKind.u8.wrap (((x : Nat) : Int).fdiv (2 ^ 56)))]) (b := w.heap.size) (off := 0) (c := 1) (by kernel_rfl) (by kernel_rfl) (by decide) (by kernel_rfl) (by kernel_rfl) (by kernel_rfl) hO (by rfl) (fun k u hk => by rw [Nat.zero_add, hB4.cell]; exact hk) (by simp [oneV]) (by simp only [maxLen]; omega) (by omega) fun A5 c5 w5 hO5 hw5 hT5 => ?_)
 rw [u8s_snoc _ x 7 (by_cell x 56)] at hO5
 have hTt := hTt.trans hT5 (fun _ _ e => e) (fun b hb e => (hMo b e).elim id (fun q => by omega))
 have hsz := hTt.size
 have hMo : ∀ c, (Value.slice A5 (n + 1) c5).ownBlock = some c → (Value.slice A n cp).ownBlock = some c ∨ w.heap.size ≤ c := fun c hc => (hw5 c hc).elim (hMo c) (fun q => .inr (by omega))
 have hO := hO5
 refine zS [(0, .slice A5 (n + 1) c5)] ?_
 refine op_nil ?_
 refine zF [(0, .slice A5 (n + 1) c5), (1, .int .u64 ((x : Nat) : Int)), (2, .int .i64 8), (6, .slice none 0 0), (7, .int .i64 7), (11, .bool true)] fun ρ => ?_
 refine zR ?_
 refine zS [(12, .int .i64 7), (13, .int .i64 6), (7, .int .i64 6)] ?_
 refine op_nil ?_
 refine Un_s ?_
 refine W_seq ?_
 refine zQ ?_
 refine zS [(10, .int .i64 6), (11, .bool true)] ?_
 refine zO true (fun _ => ?_) (fun h => nomatch h)
 refine W_skip ?_
 refine W_seq ?_
 refine W_block ?_
 refine zR ?_
 refine zS [(14, .slice A5 (n + 1) c5), (15, .int .u64 ((x : Nat) : Int)), (16, .int .i64 6), (17, .int .i64 48), (18, .int .u64 (((x : Nat) : Int).fdiv (2 ^ 48))), (19, .int .u8 (IntKind.u8.wrap (((x : Nat) : Int).fdiv (2 ^ 48))))] ?_
 refine st (by rfl) (S_new (v := .slice (some ⟨w5.heap.size, 0, none⟩) 1 1) (ob := .cells #[.int .u8 (IntKind.u8.wrap (((x : Nat) : Int).fdiv (2 ^ 48)))] 5) (by kernel_rfl) fun w6 hT7 hs8 hB9 => ?_)
 replace hB9 : Blk w6 (w5.heap.size) 5 [.int .u8 (IntKind.u8.wrap (((x : Nat) : Int).fdiv (2 ^ 48)))] := hB9
 have hO := hO.tch0 hT7
 have hTt := hTt.then0 hT7
 have hsz := hTt.size
 refine st (by rfl) (S_appendR 39 5 (.int .u8 0) 1 1 (n := n + 1) (m := 1) (A := A5) (cp := c5) (cells := u8s (t ++ [bt x 7])) (news := [.int .u8 (IntKind.u8.wrap (((x : Nat) : Int).fdiv (2 ^ 48)))]) (b := w5.heap.size) (off := 0) (c := 1) (by kernel_rfl) (by kernel_rfl) (by decide) (by kernel_rfl) (by kernel_rfl) (by kernel_rfl) hO (by rfl) (fun k u hk => by rw [Nat.zero_add, hB9.cell]; exact hk) (by simp [oneV]) (by simp only [maxLen]; omega) (by omega) fun A10 c10 w10 hO10 hw10 hT10 => ?_)
 rw [u8s_snoc _ x 6 (by_cell x 48)] at hO10
 have hTt := hTt.trans hT10 (fun _ _ e => e) (fun b hb e => (hMo b e).elim id (fun q => by omega))
 have hsz := hTt.size
 have hMo : ∀ c, (Value.slice A10 (n + 1 + 1) c10).ownBlock = some c → (Value.slice A n cp).ownBlock = some c ∨ w.heap.size ≤ c := fun c hc => (hw10 c hc).elim (hMo c) (fun q => .inr (by omega))
 have hO := hO10
 refine zS [(0, .slice A10 (n + 1 + 1) c10)] ?_
 refine op_nil ?_
 refine zF [(0, .slice A10 (n + 1 + 1) c10), (1, .int .u64 ((x : Nat) : Int)), (2, .int .i64 8), (6, .slice none 0 0), (7, .int .i64 6), (11, .bool true)] fun ρ => ?_
 refine zR ?_
 refine zS [(12, .int .i64 6), (13, .int .i64 5), (7, .int .i64 5)] ?_
 refine op_nil ?_
 refine Un_s ?_
 refine W_seq ?_
 refine zQ ?_
 refine zS [(10, .int .i64 5), (11, .bool true)] ?_
 refine zO true (fun _ => ?_) (fun h => nomatch h)
 refine W_skip ?_
 refine W_seq ?_
 refine W_block ?_
 refine zR ?_
 refine zS [(14, .slice A10 (n + 1 + 1) c10), (15, .int .u64 ((x : Nat) : Int)), (16, .int .i64 5), (17, .int .i64 40), (18, .int .u64 (((x : Nat) : Int).fdiv (2 ^ 40))), (19, .int .u8 (IntKind.u8.wrap (((x : Nat) : Int).fdiv (2 ^ 40))))] ?_
 refine st (by rfl) (S_new (v := .slice (some ⟨w10.heap.size, 0, none⟩) 1 1) (ob := .cells #[.int .u8 (IntKind.u8.wrap (((x : Nat) : Int).fdiv (2 ^ 40)))] 5) (by kernel_rfl) fun w11 hT12 hs13 hB14 => ?_)
 replace hB14 : Blk w11 (w10.heap.size) 5 [.int .u8 (IntKind.u8.wrap (((x : Nat) : Int).fdiv (2 ^ 40)))] := hB14
 have hO := hO.tch0 hT12
 have hTt := hTt.then0 hT12
 have hsz := hTt.size
 refine st (by rfl) (S_appendR 39 5 (.int .u8 0) 1 1 (n := n + 1 + 1) (m := 1) (A := A10) (cp := c10) (cells := u8s (t ++ [bt x 7] ++ [bt x 6])) (news := [.int .u8 (IntKind.u8.wrap (((x : Nat) : Int).fdiv (2 ^ 40)))]) (b := w10.heap.size) (off := 0) (c := 1) (by kernel_rfl) (by kernel_rfl) (by decide) (by kernel_rfl) (by kernel_rfl) (by kernel_rfl) hO (by rfl) (fun k u hk => by rw [Nat.zero_add, hB14.cell]; exact hk) (by simp [oneV]) (by simp only [maxLen]; omega) (by omega) fun A15 c15 w15 hO15 hw15 hT15 => ?_)
 rw [u8s_snoc _ x 5 (by_cell x 40)] at hO15
 have hTt := hTt.trans hT15 (fun _ _ e => e) (fun b hb e => (hMo b e).elim id (fun q => by omega))
 have hsz := hTt.size
 have hMo : ∀ c, (Value.slice A15 (n + 1 + 1 + 1) c15).ownBlock = some c → (Value.slice A n cp).ownBlock = some c ∨ w.heap.size ≤ c := fun c hc => (hw15 c hc).elim (hMo c) (fun q => .inr (by omega))
 have hO := hO15
 refine zS [(0, .slice A15 (n + 1 + 1 + 1) c15)] ?_
 refine op_nil ?_
 refine zF [(0, .slice A15 (n + 1 + 1 + 1) c15), (1, .int .u64 ((x : Nat) : Int)), (2, .int .i64 8), (6, .slice none 0 0), (7, .int .i64 5), (11, .bool true)] fun ρ => ?_
 refine zR ?_
 refine zS [(12, .int .i64 5), (13, .int .i64 4), (7, .int .i64 4)] ?_
 refine op_nil ?_
 refine Un_s ?_
 refine W_seq ?_
 refine zQ ?_
 refine zS [(10, .int .i64 4), (11, .bool true)] ?_
 refine zO true (fun _ => ?_) (fun h => nomatch h)
 refine W_skip ?_
 refine W_seq ?_
 refine W_block ?_
 refine zR ?_
 refine zS [(14, .slice A15 (n + 1 + 1 + 1) c15), (15, .int .u64 ((x : Nat) : Int)), (16, .int .i64 4), (17, .int .i64 32), (18, .int .u64 (((x : Nat) : Int).fdiv (2 ^ 32))), (19, .int .u8 (IntKind.u8.wrap (((x : Nat) : Int).fdiv (2 ^ 32))))] ?_
 refine st (by rfl) (S_new (v := .slice (some ⟨w15.heap.size, 0, none⟩) 1 1) (ob := .cells #[.int .u8 (IntKind.u8.wrap (((x : Nat) : Int).fdiv (2 ^ 32)))] 5) (by kernel_rfl) fun w16 hT17 hs18 hB19 => ?_)
 replace hB19 : Blk w16 (w15.heap.size) 5 [.int .u8 (IntKind.u8.wrap (((x : Nat) : Int).fdiv (2 ^ 32)))] := hB19
 have hO := hO.tch0 hT17
 have hTt := hTt.then0 hT17
 have hsz := hTt.size
 refine st (by rfl) (S_appendR 39 5 (.int .u8 0) 1 1 (n := n + 1 + 1 + 1) (m := 1) (A := A15) (cp := c15) (cells := u8s (t ++ [bt x 7] ++ [bt x 6] ++ [bt x 5])) (news := [.int .u8 (IntKind.u8.wrap (((x : Nat) : Int).fdiv (2 ^ 32)))]) (b := w15.heap.size) (off := 0) (c := 1) (by kernel_rfl) (by kernel_rfl) (by decide) (by kernel_rfl) (by kernel_rfl) (by kernel_rfl) hO (by rfl) (fun k u hk => by rw [Nat.zero_add, hB19.cell]; exact hk) (by simp [oneV]) (by simp only [maxLen]; omega) (by omega) fun A20 c20 w20 hO20 hw20 hT20 => ?_)
 rw [u8s_snoc _ x 4 (by_cell x 32)] at hO20
 have hTt := hTt.trans hT20 (fun _ _ e => e) (fun b hb e => (hMo b e).elim id (fun q => by omega))
 have hsz := hTt.size
 have hMo : ∀ c, (Value.slice A20 (n + 1 + 1 + 1 + 1) c20).ownBlock = some c → (Value.slice A n cp).ownBlock = some c ∨ w.heap.size ≤ c := fun c hc => (hw20 c hc).elim (hMo c) (fun q => .inr (by omega))
 have hO := hO20
 refine zS [(0, .slice A20 (n + 1 + 1 + 1 + 1) c20)] ?_
 refine op_nil ?_
 refine zF [(0, .slice A20 (n + 1 + 1 + 1 + 1) c20), (1, .int .u64 ((x : Nat) : Int)), (2, .int .i64 8), (6, .slice none 0 0), (7, .int .i64 4), (11, .bool true)] fun ρ => ?_
 refine zR ?_
 refine zS [(12, .int .i64 4), (13, .int .i64 3), (7, .int .i64 3)] ?_
 refine op_nil ?_
 refine Un_s ?_
 refine W_seq ?_
 refine zQ ?_
 refine zS [(10, .int .i64 3), (11, .bool true)] ?_
 refine zO true (fun _ => ?_) (fun h => nomatch h)
 refine W_skip ?_
 refine W_seq ?_
 refine W_block ?_
 refine zR ?_
 refine zS [(14, .slice A20 (n + 1 + 1 + 1 + 1) c20), (15, .int .u64 ((x : Nat) : Int)), (16, .int .i64 3), (17, .int .i64 24), (18, .int .u64 (((x : Nat) : Int).fdiv (2 ^ 24))), (19, .int .u8 (IntKind.u8.wrap (((x : Nat) : Int).fdiv (2 ^ 24))))] ?_
 refine st (by rfl) (S_new (v := .slice (some ⟨w20.heap.size, 0, none⟩) 1 1) (ob := .cells #[.int .u8 (IntKind.u8.wrap (((x : Nat) : Int).fdiv (2 ^ 24)))] 5) (by kernel_rfl) fun w21 hT22 hs23 hB24 => ?_)
 replace hB24 : Blk w21 (w20.heap.size) 5 [.int .u8 (IntKind.u8.wrap (((x : Nat) : Int).fdiv (2 ^ 24)))] := hB24
 have hO := hO.tch0 hT22
 have hTt := hTt.then0 hT22
 have hsz := hTt.size
 refine st (by rfl) (S_appendR 39 5 (.int .u8 0) 1 1 (n := n + 1 + 1 + 1 + 1) (m := 1) (A := A20) (cp := c20) (cells := u8s (t ++ [bt x 7] ++ [bt x 6] ++ [bt x 5] ++ [bt x 4])) (news := [.int .u8 (IntKind.u8.wrap (((x : Nat) : Int).fdiv (2 ^ 24)))]) (b := w20.heap.size) (off := 0) (c := 1) (by kernel_rfl) (by kernel_rfl) (by decide) (by kernel_rfl) (by kernel_rfl) (by kernel_rfl) hO (by rfl) (fun k u hk => by rw [Nat.zero_add, hB24.cell]; exact hk) (by simp [oneV]) (by simp only [maxLen]; omega) (by omega) fun A25 c25 w25 hO25 hw25 hT25 => ?_)
 rw [u8s_snoc _ x 3 (by_cell x 24)] at hO25
 have hTt := hTt.trans hT25 (fun _ _ e => e) (fun b hb e => (hMo b e).elim id (fun q => by omega))
 have hsz := hTt.size
 have hMo : ∀ c, (Value.slice A25 (n + 1 + 1 + 1 + 1 + 1) c25).ownBlock = some c → (Value.slice A n cp).ownBlock = some c ∨ w.heap.size ≤ c := fun c hc => (hw25 c hc).elim (hMo c) (fun q => .inr (by omega))
 have hO := hO25
 refine zS [(0, .slice A25 (n + 1 + 1 + 1 + 1 + 1) c25)] ?_
 refine op_nil ?_
 refine zF [(0, .slice A25 (n + 1 + 1 + 1 + 1 + 1) c25), (1, .int .u64 ((x : Nat) : Int)), (2, .int .i64 8), (6, .slice none 0 0), (7, .int .i64 3), (11, .bool true)] fun ρ => ?_
 refine zR ?_
 refine zS [(12, .int .i64 3), (13, .int .i64 2), (7, .int .i64 2)] ?_
 refine op_nil ?_
 refine Un_s ?_
 refine W_seq ?_
 refine zQ ?_
 refine zS [(10, .int .i64 2), (11, .bool true)] ?_
 refine zO true (fun _ => ?_) (fun h => nomatch h)
 refine W_skip ?_
 refine W_seq ?_
 refine W_block ?_
 refine zR ?_
 refine zS [(14, .slice A25 (n + 1 + 1 + 1 + 1 + 1) c25), (15, .int .u64 ((x : Nat) : Int)), (16, .int .i64 2), (17, .int .i64 16), (18, .int .u64 (((x : Nat) : Int).fdiv (2 ^ 16))), (19, .int .u8 (IntKind.u8.wrap (((x : Nat) : Int).fdiv (2 ^ 16))))] ?_
 refine st (by rfl) (S_new (v := .slice (some ⟨w25.heap.size, 0, none⟩) 1 1) (ob := .cells #[.int .u8 (IntKind.u8.wrap (((x : Nat) : Int).fdiv (2 ^ 16)))] 5) (by kernel_rfl) fun w26 hT27 hs28 hB29 => ?_)
 replace hB29 : Blk w26 (w25.heap.size) 5 [.int .u8 (IntKind.u8.wrap (((x : Nat) : Int).fdiv (2 ^ 16)))] := hB29
 have hO := hO.tch0 hT27
 have hTt := hTt.then0 hT27
 have hsz := hTt.size
 refine st (by rfl) (S_appendR 39 5 (.int .u8 0) 1 1 (n := n + 1 + 1 + 1 + 1 + 1) (m := 1) (A := A25) (cp := c25) (cells := u8s (t ++ [bt x 7] ++ [bt x 6] ++ [bt x 5] ++ [bt x 4] ++ [bt x 3])) (news := [.int .u8 (IntKind.u8.wrap (((x : Nat) : Int).fdiv (2 ^ 16)))]) (b := w25.heap.size) (off := 0) (c := 1) (by kernel_rfl) (by kernel_rfl) (by decide) (by kernel_rfl) (by kernel_rfl) (by kernel_rfl) hO (by rfl) (fun k u hk => by rw [Nat.zero_add, hB29.cell]; exact hk) (by simp [oneV]) (by simp only [maxLen]; omega) (by omega) fun A30 c30 w30 hO30 hw30 hT30 => ?_)
 rw [u8s_snoc _ x 2 (by_cell x 16)] at hO30
 have hTt := hTt.trans hT30 (fun _ _ e => e) (fun b hb e => (hMo b e).elim id (fun q => by omega))
 have hsz := hTt.size
 have hMo : ∀ c, (Value.slice A30 (n + 1 + 1 + 1 + 1 + 1 + 1) c30).ownBlock = some c → (Value.slice A n cp).ownBlock = some c ∨ w.heap.size ≤ c := fun c hc => (hw30 c hc).elim (hMo c) (fun q => .inr (by omega))
 have hO := hO30
 refine zS [(0, .slice A30 (n + 1 + 1 + 1 + 1 + 1 + 1) c30)] ?_
 refine op_nil ?_
 refine zF [(0, .slice A30 (n + 1 + 1 + 1 + 1 + 1 + 1) c30), (1, .int .u64 ((x : Nat) : Int)), (2, .int .i64 8), (6, .slice none 0 0), (7, .int .i64 2), (11, .bool true)] fun ρ => ?_
 refine zR ?_
 refine zS [(12, .int .i64 2), (13, .int .i64 1), (7, .int .i64 1)] ?_
 refine op_nil ?_
 refine Un_s ?_
 refine W_seq ?_
 refine zQ ?_
 refine zS [(10, .int .i64 1), (11, .bool true)] ?_
 refine zO true (fun _ => ?_) (fun h => nomatch h)
 refine W_skip ?_
 refine W_seq ?_
 refine W_block ?_
 refine zR ?_
 refine zS [(14, .slice A30 (n + 1 + 1 + 1 + 1 + 1 + 1) c30), (15, .int .u64 ((x : Nat) : Int)), (16, .int .i64 1), (17, .int .i64 8), (18, .int .u64 (((x : Nat) : Int).fdiv (2 ^ 8))), (19, .int .u8 (IntKind.u8.wrap (((x : Nat) : Int).fdiv (2 ^ 8))))] ?_
 refine st (by rfl) (S_new (v := .slice (some ⟨w30.heap.size, 0, none⟩) 1 1) (ob := .cells #[.int .u8 (IntKind.u8.wrap (((x : Nat) : Int).fdiv (2 ^ 8)))] 5) (by kernel_rfl) fun w31 hT32 hs33 hB34 => ?_)
 replace hB34 : Blk w31 (w30.heap.size) 5 [.int .u8 (IntKind.u8.wrap (((x : Nat) : Int).fdiv (2 ^ 8)))] := hB34
 have hO := hO.tch0 hT32
 have hTt := hTt.then0 hT32
 have hsz := hTt.size
 refine st (by rfl) (S_appendR 39 5 (.int .u8 0) 1 1 (n := n + 1 + 1 + 1 + 1 + 1 + 1) (m := 1) (A := A30) (cp := c30) (cells := u8s (t ++ [bt x 7] ++ [bt x 6] ++ [bt x 5] ++ [bt x 4] ++ [bt x 3] ++ [bt x 2])) (news := [.int .u8 (IntKind.u8.wrap (((x : Nat) : Int).fdiv (2 ^ 8)))]) (b := w30.heap.size) (off := 0) (c := 1) (by kernel_rfl) (by kernel_rfl) (by decide) (by kernel_rfl) (by kernel_rfl) (by kernel_rfl) hO (by rfl) (fun k u hk => by rw [Nat.zero_add, hB34.cell]; exact hk) (by simp [oneV]) (by simp only [maxLen]; omega) (by omega) fun A35 c35 w35 hO35 hw35 hT35 => ?_)
 rw [u8s_snoc _ x 1 (by_cell x 8)] at hO35
 have hTt := hTt.trans hT35 (fun _ _ e => e) (fun b hb e => (hMo b e).elim id (fun q => by omega))
 have hsz := hTt.size
 have hMo : ∀ c, (Value.slice A35 (n + 1 + 1 + 1 + 1 + 1 + 1 + 1) c35).ownBlock = some c → (Value.slice A n cp).ownBlock = some c ∨ w.heap.size ≤ c := fun c hc => (hw35 c hc).elim (hMo c) (fun q => .inr (by omega))
 have hO := hO35
 refine zS [(0, .slice A35 (n + 1 + 1 + 1 + 1 + 1 + 1 + 1) c35)] ?_
 refine op_nil ?_
 refine zF [(0, .slice A35 (n + 1 + 1 + 1 + 1 + 1 + 1 + 1) c35), (1, .int .u64 ((x : Nat) : Int)), (2, .int .i64 8), (6, .slice none 0 0), (7, .int .i64 1), (11, .bool true)] fun ρ => ?_
 refine zR ?_
 refine zS [(12, .int .i64 1), (13, .int .i64 0), (7, .int .i64 0)] ?_
 refine op_nil ?_
 refine Un_s ?_
 refine W_seq ?_
 refine zQ ?_
 refine zS [(10, .int .i64 0), (11, .bool true)] ?_
 refine zO true (fun _ => ?_) (fun h => nomatch h)
 refine W_skip ?_
 refine W_seq ?_
 refine W_block ?_
 refine zR ?_
 refine zS [(14, .slice A35 (n + 1 + 1 + 1 + 1 + 1 + 1 + 1) c35), (15, .int .u64 ((x : Nat) : Int)), (16, .int .i64 0), (17, .int .i64 0), (18, .int .u64 (((x : Nat) : Int).fdiv (2 ^ 0))), (19, .int .u8 (IntKind.u8.wrap (((x : Nat) : Int).fdiv (2 ^ 0))))] ?_
 refine st (by rfl) (S_new (v := .slice (some ⟨w35.heap.size, 0, none⟩) 1 1) (ob := .cells #[.int .u8 (IntKind.u8.wrap (((x : Nat) : Int).fdiv (2 ^ 0)))] 5) (by kernel_rfl) fun w36 hT37 hs38 hB39 => ?_)
 replace hB39 : Blk w36 (w35.heap.size) 5 [.int .u8 (IntKind.u8.wrap (((x : Nat) : Int).fdiv (2 ^ 0)))] := hB39
 have hO := hO.tch0 hT37
 have hTt := hTt.then0 hT37
 have hsz := hTt.size
 refine st (by rfl) (S_appendR 39 5 (.int .u8 0) 1 1 (n := n + 1 + 1 + 1 + 1 + 1 + 1 + 1) (m := 1) (A := A35) (cp := c35) (cells := u8s (t ++ [bt x 7] ++ [bt x 6] ++ [bt x 5] ++ [bt x 4] ++ [bt x 3] ++ [bt x 2] ++ [bt x 1])) (news := [.int .u8 (IntKind.u8.wrap (((x : Nat) : Int).fdiv (2 ^ 0)))]) (b := w35.heap.size) (off := 0) (c := 1) (by kernel_rfl) (by kernel_rfl) (by decide) (by kernel_rfl) (by kernel_rfl) (by kernel_rfl) hO (by rfl) (fun k u hk => by rw [Nat.zero_add, hB39.cell]; exact hk) (by simp [oneV]) (by simp only [maxLen]; omega) (by omega) fun A40 c40 w40 hO40 hw40 hT40 => ?_)
 rw [u8s_snoc _ x 0 (by_cell x 0)] at hO40
 have hTt := hTt.trans hT40 (fun _ _ e => e) (fun b hb e => (hMo b e).elim id (fun q => by omega))
 have hsz := hTt.size
 have hMo : ∀ c, (Value.slice A40 (n + 1 + 1 + 1 + 1 + 1 + 1 + 1 + 1) c40).ownBlock = some c → (Value.slice A n cp).ownBlock = some c ∨ w.heap.size ≤ c := fun c hc => (hw40 c hc).elim (hMo c) (fun q => .inr (by omega))
 have hO := hO40
 refine zS [(0, .slice A40 (n + 1 + 1 + 1 + 1 + 1 + 1 + 1 + 1) c40)] ?_
 refine op_nil ?_
 refine zF [(0, .slice A40 (n + 1 + 1 + 1 + 1 + 1 + 1 + 1 + 1) c40), (1, .int .u64 ((x : Nat) : Int)), (2, .int .i64 8), (6, .slice none 0 0), (7, .int .i64 0), (11, .bool true)] fun ρ => ?_
 refine zR ?_
 refine zS [(12, .int .i64 0), (13, .int .i64 (-1)), (7, .int .i64 (-1))] ?_
 refine op_nil ?_
 refine Un_s ?_
 refine W_seq ?_
 refine zQ ?_
 refine zS [(10, .int .i64 (-1)), (11, .bool false)] ?_
 refine zO false (fun h => nomatch h) (fun _ => ?_)
 refine W_exit ?_
 refine X_hit ?_
 refine zQ ?_
 refine zS [(22, .slice A40 (n + 1 + 1 + 1 + 1 + 1 + 1 + 1 + 1) c40), (6, .slice A40 (n + 1 + 1 + 1 + 1 + 1 + 1 + 1 + 1) c40)] ?_
 refine op_nil ?_
 refine W_ret ?_
 exact ⟨_, Res_of (v := .slice A40 (n + 1 + 1 + 1 + 1 + 1 + 1 + 1 + 1) c40) (by kernel_rfl), ⟨_, _, rfl, by have q := hO; simp only [List.append_assoc, List.cons_append, List.nil_append] at q; exact q, hMo, hTt⟩⟩

set_option maxRecDepth 100000 in
theorem eight_ok (x : Nat) (w : World) (hx : x < 18446744073709551616) : Ret Try.prog 21 [.int .u64 ((x : Nat) : Int)] w fun v w' => v = .string (bsT (be 8 x)) ∧ Tch N0 w w' := by
 have hO := Own.nil_ w 0 5 1
 have nB_hO : ∀ c, (Value.slice none 0 0).ownBlock = some c → w.heap.size ≤ c := fun c h => by cases h
 have hT0 := Tch.refl N0 w
 refine enter Try.func21 rfl rfl ?_
 refine zQ ?_
 refine zS [(2, .string (bsT ([])))] ?_
 refine op_nil ?_
 refine zQ ?_
 refine zS [(3, .slice none 0 0)] ?_
 refine op_nil ?_
 refine W_seq ?_
 refine zQ ?_
 refine zS [(4, .int .i64 0)] ?_
 refine op_nil ?_
 refine W_block ?_
 refine W_un 9 ?_
 refine Un_s ?_
 refine W_seq ?_
 refine zQ ?_
 refine zS [(5, .int .i64 0), (6, .bool true)] ?_
 refine zO true (fun _ => ?_) (fun h => nomatch h)
 refine W_skip ?_
 refine W_seq ?_
 refine W_block ?_
 refine zR ?_
 refine zS [(9, .slice none 0 0), (10, .int .u64 ((x : Nat) : Int)), (11, .int .i64 0), (12, .int .i64 0), (13, .int .i64 56), (14, .int .u64 56), (15, .int .u64 (((x : Nat) : Int).fdiv (2 ^ 56))), (16, .int .u8 (IntKind.u8.wrap (((x : Nat) : Int).fdiv (2 ^ 56))))] ?_
 have hz5 := hT0.size
 have lR_hO := hO.lt
 refine st (by rfl) (S_new (v := .slice (some ⟨w.heap.size, 0, none⟩) 1 1) (ob := .cells #[.int .u8 (IntKind.u8.wrap (((x : Nat) : Int).fdiv (2 ^ 56)))] 5) (by kernel_rfl) fun w1 hT2 hs3 hB4 => ?_)
 replace hB4 : Blk w1 (w.heap.size) 5 [.int .u8 (IntKind.u8.wrap (((x : Nat) : Int).fdiv (2 ^ 56)))] := hB4
 have hT0 := hT0.t0 hT2
 have hO := hO.tch0 hT2
 refine st (by rfl) (S_appendR 39 5 (.int .u8 0) 1 1 (n := 0) (m := 1) (A := none) (cp := 0) (cells := u8s ([])) (news := [.int .u8 (IntKind.u8.wrap (((x : Nat) : Int).fdiv (2 ^ 56)))]) (b := w.heap.size) (off := 0) (c := 1) (by kernel_rfl) (by kernel_rfl) (by decide) (by kernel_rfl) (by kernel_rfl) (by kernel_rfl) hO (by rfl) (fun k u hk => by rw [Nat.zero_add, hB4.cell]; exact hk) (by simp [oneV]) (by simp only [maxLen]; omega) (by omega) fun A6 c6 w6 hO6 hw6 hT6 => ?_)
 rw [u8s_snoc _ x 7 (by_cell x 56)] at hO6
 have hz_ := hT0.size
 have hT0 := hT0.then hT6 nB_hO
 have nB_hO : ∀ c, (Value.slice A6 (0 + 1) c6).ownBlock = some c → w.heap.size ≤ c := fun c hc => (hw6 c hc).elim (nB_hO c) (fun q => by omega)
 have hO := hO6
 refine zS [(3, .slice A6 (0 + 1) c6)] ?_
 refine op_nil ?_
 refine zF [(0, .int .u64 ((x : Nat) : Int)), (2, .string (bsT ([]))), (3, .slice A6 (0 + 1) c6), (4, .int .i64 0), (6, .bool true)] fun ρ => ?_
 refine zR ?_
 refine zS [(7, .int .i64 0), (8, .int .i64 1), (4, .int .i64 1)] ?_
 refine op_nil ?_
 refine Un_s ?_
 refine W_seq ?_
 refine zQ ?_
 refine zS [(5, .int .i64 1), (6, .bool true)] ?_
 refine zO true (fun _ => ?_) (fun h => nomatch h)
 refine W_skip ?_
 refine W_seq ?_
 refine W_block ?_
 refine zR ?_
 refine zS [(9, .slice A6 (0 + 1) c6), (10, .int .u64 ((x : Nat) : Int)), (11, .int .i64 1), (12, .int .i64 8), (13, .int .i64 48), (14, .int .u64 48), (15, .int .u64 (((x : Nat) : Int).fdiv (2 ^ 48))), (16, .int .u8 (IntKind.u8.wrap (((x : Nat) : Int).fdiv (2 ^ 48))))] ?_
 have hz11 := hT0.size
 have lR_hO := hO.lt
 refine st (by rfl) (S_new (v := .slice (some ⟨w6.heap.size, 0, none⟩) 1 1) (ob := .cells #[.int .u8 (IntKind.u8.wrap (((x : Nat) : Int).fdiv (2 ^ 48)))] 5) (by kernel_rfl) fun w7 hT8 hs9 hB10 => ?_)
 replace hB10 : Blk w7 (w6.heap.size) 5 [.int .u8 (IntKind.u8.wrap (((x : Nat) : Int).fdiv (2 ^ 48)))] := hB10
 have hT0 := hT0.t0 hT8
 have hO := hO.tch0 hT8
 refine st (by rfl) (S_appendR 39 5 (.int .u8 0) 1 1 (n := 0 + 1) (m := 1) (A := A6) (cp := c6) (cells := u8s ([] ++ [bt x 7])) (news := [.int .u8 (IntKind.u8.wrap (((x : Nat) : Int).fdiv (2 ^ 48)))]) (b := w6.heap.size) (off := 0) (c := 1) (by kernel_rfl) (by kernel_rfl) (by decide) (by kernel_rfl) (by kernel_rfl) (by kernel_rfl) hO (by rfl) (fun k u hk => by rw [Nat.zero_add, hB10.cell]; exact hk) (by simp [oneV]) (by simp only [maxLen]; omega) (by omega) fun A12 c12 w12 hO12 hw12 hT12 => ?_)
 rw [u8s_snoc _ x 6 (by_cell x 48)] at hO12
 have hz_ := hT0.size
 have hT0 := hT0.then hT12 nB_hO
 have nB_hO : ∀ c, (Value.slice A12 (0 + 1 + 1) c12).ownBlock = some c → w.heap.size ≤ c := fun c hc => (hw12 c hc).elim (nB_hO c) (fun q => by omega)
 have hO := hO12
 refine zS [(3, .slice A12 (0 + 1 + 1) c12)] ?_
 refine op_nil ?_
 refine zF [(0, .int .u64 ((x : Nat) : Int)), (2, .string (bsT ([]))), (3, .slice A12 (0 + 1 + 1) c12), (4, .int .i64 1), (6, .bool true)] fun ρ => ?_
 refine zR ?_
 refine zS [(7, .int .i64 1), (8, .int .i64 2), (4, .int .i64 2)] ?_
 refine op_nil ?_
 refine Un_s ?_
 refine W_seq ?_
 refine zQ ?_
 refine zS [(5, .int .i64 2), (6, .bool true)] ?_
 refine zO true (fun _ => ?_) (fun h => nomatch h)
 refine W_skip ?_
 refine W_seq ?_
 refine W_block ?_
 refine zR ?_
 refine zS [(9, .slice A12 (0 + 1 + 1) c12), (10, .int .u64 ((x : Nat) : Int)), (11, .int .i64 2), (12, .int .i64 16), (13, .int .i64 40), (14, .int .u64 40), (15, .int .u64 (((x : Nat) : Int).fdiv (2 ^ 40))), (16, .int .u8 (IntKind.u8.wrap (((x : Nat) : Int).fdiv (2 ^ 40))))] ?_
 have hz17 := hT0.size
 have lR_hO := hO.lt
 refine st (by rfl) (S_new (v := .slice (some ⟨w12.heap.size, 0, none⟩) 1 1) (ob := .cells #[.int .u8 (IntKind.u8.wrap (((x : Nat) : Int).fdiv (2 ^ 40)))] 5) (by kernel_rfl) fun w13 hT14 hs15 hB16 => ?_)
 replace hB16 : Blk w13 (w12.heap.size) 5 [.int .u8 (IntKind.u8.wrap (((x : Nat) : Int).fdiv (2 ^ 40)))] := hB16
 have hT0 := hT0.t0 hT14
 have hO := hO.tch0 hT14
 refine st (by rfl) (S_appendR 39 5 (.int .u8 0) 1 1 (n := 0 + 1 + 1) (m := 1) (A := A12) (cp := c12) (cells := u8s ([] ++ [bt x 7] ++ [bt x 6])) (news := [.int .u8 (IntKind.u8.wrap (((x : Nat) : Int).fdiv (2 ^ 40)))]) (b := w12.heap.size) (off := 0) (c := 1) (by kernel_rfl) (by kernel_rfl) (by decide) (by kernel_rfl) (by kernel_rfl) (by kernel_rfl) hO (by rfl) (fun k u hk => by rw [Nat.zero_add, hB16.cell]; exact hk) (by simp [oneV]) (by simp only [maxLen]; omega) (by omega) fun A18 c18 w18 hO18 hw18 hT18 => ?_)
 rw [u8s_snoc _ x 5 (by_cell x 40)] at hO18
 have hz_ := hT0.size
 have hT0 := hT0.then hT18 nB_hO
 have nB_hO : ∀ c, (Value.slice A18 (0 + 1 + 1 + 1) c18).ownBlock = some c → w.heap.size ≤ c := fun c hc => (hw18 c hc).elim (nB_hO c) (fun q => by omega)
 have hO := hO18
 refine zS [(3, .slice A18 (0 + 1 + 1 + 1) c18)] ?_
 refine op_nil ?_
 refine zF [(0, .int .u64 ((x : Nat) : Int)), (2, .string (bsT ([]))), (3, .slice A18 (0 + 1 + 1 + 1) c18), (4, .int .i64 2), (6, .bool true)] fun ρ => ?_
 refine zR ?_
 refine zS [(7, .int .i64 2), (8, .int .i64 3), (4, .int .i64 3)] ?_
 refine op_nil ?_
 refine Un_s ?_
 refine W_seq ?_
 refine zQ ?_
 refine zS [(5, .int .i64 3), (6, .bool true)] ?_
 refine zO true (fun _ => ?_) (fun h => nomatch h)
 refine W_skip ?_
 refine W_seq ?_
 refine W_block ?_
 refine zR ?_
 refine zS [(9, .slice A18 (0 + 1 + 1 + 1) c18), (10, .int .u64 ((x : Nat) : Int)), (11, .int .i64 3), (12, .int .i64 24), (13, .int .i64 32), (14, .int .u64 32), (15, .int .u64 (((x : Nat) : Int).fdiv (2 ^ 32))), (16, .int .u8 (IntKind.u8.wrap (((x : Nat) : Int).fdiv (2 ^ 32))))] ?_
 have hz23 := hT0.size
 have lR_hO := hO.lt
 refine st (by rfl) (S_new (v := .slice (some ⟨w18.heap.size, 0, none⟩) 1 1) (ob := .cells #[.int .u8 (IntKind.u8.wrap (((x : Nat) : Int).fdiv (2 ^ 32)))] 5) (by kernel_rfl) fun w19 hT20 hs21 hB22 => ?_)
 replace hB22 : Blk w19 (w18.heap.size) 5 [.int .u8 (IntKind.u8.wrap (((x : Nat) : Int).fdiv (2 ^ 32)))] := hB22
 have hT0 := hT0.t0 hT20
 have hO := hO.tch0 hT20
 refine st (by rfl) (S_appendR 39 5 (.int .u8 0) 1 1 (n := 0 + 1 + 1 + 1) (m := 1) (A := A18) (cp := c18) (cells := u8s ([] ++ [bt x 7] ++ [bt x 6] ++ [bt x 5])) (news := [.int .u8 (IntKind.u8.wrap (((x : Nat) : Int).fdiv (2 ^ 32)))]) (b := w18.heap.size) (off := 0) (c := 1) (by kernel_rfl) (by kernel_rfl) (by decide) (by kernel_rfl) (by kernel_rfl) (by kernel_rfl) hO (by rfl) (fun k u hk => by rw [Nat.zero_add, hB22.cell]; exact hk) (by simp [oneV]) (by simp only [maxLen]; omega) (by omega) fun A24 c24 w24 hO24 hw24 hT24 => ?_)
 rw [u8s_snoc _ x 4 (by_cell x 32)] at hO24
 have hz_ := hT0.size
 have hT0 := hT0.then hT24 nB_hO
 have nB_hO : ∀ c, (Value.slice A24 (0 + 1 + 1 + 1 + 1) c24).ownBlock = some c → w.heap.size ≤ c := fun c hc => (hw24 c hc).elim (nB_hO c) (fun q => by omega)
 have hO := hO24
 refine zS [(3, .slice A24 (0 + 1 + 1 + 1 + 1) c24)] ?_
 refine op_nil ?_
 refine zF [(0, .int .u64 ((x : Nat) : Int)), (2, .string (bsT ([]))), (3, .slice A24 (0 + 1 + 1 + 1 + 1) c24), (4, .int .i64 3), (6, .bool true)] fun ρ => ?_
 refine zR ?_
 refine zS [(7, .int .i64 3), (8, .int .i64 4), (4, .int .i64 4)] ?_
 refine op_nil ?_
 refine Un_s ?_
 refine W_seq ?_
 refine zQ ?_
 refine zS [(5, .int .i64 4), (6, .bool true)] ?_
 refine zO true (fun _ => ?_) (fun h => nomatch h)
 refine W_skip ?_
 refine W_seq ?_
 refine W_block ?_
 refine zR ?_
 refine zS [(9, .slice A24 (0 + 1 + 1 + 1 + 1) c24), (10, .int .u64 ((x : Nat) : Int)), (11, .int .i64 4), (12, .int .i64 32), (13, .int .i64 24), (14, .int .u64 24), (15, .int .u64 (((x : Nat) : Int).fdiv (2 ^ 24))), (16, .int .u8 (IntKind.u8.wrap (((x : Nat) : Int).fdiv (2 ^ 24))))] ?_
 have hz29 := hT0.size
 have lR_hO := hO.lt
 refine st (by rfl) (S_new (v := .slice (some ⟨w24.heap.size, 0, none⟩) 1 1) (ob := .cells #[.int .u8 (IntKind.u8.wrap (((x : Nat) : Int).fdiv (2 ^ 24)))] 5) (by kernel_rfl) fun w25 hT26 hs27 hB28 => ?_)
 replace hB28 : Blk w25 (w24.heap.size) 5 [.int .u8 (IntKind.u8.wrap (((x : Nat) : Int).fdiv (2 ^ 24)))] := hB28
 have hT0 := hT0.t0 hT26
 have hO := hO.tch0 hT26
 refine st (by rfl) (S_appendR 39 5 (.int .u8 0) 1 1 (n := 0 + 1 + 1 + 1 + 1) (m := 1) (A := A24) (cp := c24) (cells := u8s ([] ++ [bt x 7] ++ [bt x 6] ++ [bt x 5] ++ [bt x 4])) (news := [.int .u8 (IntKind.u8.wrap (((x : Nat) : Int).fdiv (2 ^ 24)))]) (b := w24.heap.size) (off := 0) (c := 1) (by kernel_rfl) (by kernel_rfl) (by decide) (by kernel_rfl) (by kernel_rfl) (by kernel_rfl) hO (by rfl) (fun k u hk => by rw [Nat.zero_add, hB28.cell]; exact hk) (by simp [oneV]) (by simp only [maxLen]; omega) (by omega) fun A30 c30 w30 hO30 hw30 hT30 => ?_)
 rw [u8s_snoc _ x 3 (by_cell x 24)] at hO30
 have hz_ := hT0.size
 have hT0 := hT0.then hT30 nB_hO
 have nB_hO : ∀ c, (Value.slice A30 (0 + 1 + 1 + 1 + 1 + 1) c30).ownBlock = some c → w.heap.size ≤ c := fun c hc => (hw30 c hc).elim (nB_hO c) (fun q => by omega)
 have hO := hO30
 refine zS [(3, .slice A30 (0 + 1 + 1 + 1 + 1 + 1) c30)] ?_
 refine op_nil ?_
 refine zF [(0, .int .u64 ((x : Nat) : Int)), (2, .string (bsT ([]))), (3, .slice A30 (0 + 1 + 1 + 1 + 1 + 1) c30), (4, .int .i64 4), (6, .bool true)] fun ρ => ?_
 refine zR ?_
 refine zS [(7, .int .i64 4), (8, .int .i64 5), (4, .int .i64 5)] ?_
 refine op_nil ?_
 refine Un_s ?_
 refine W_seq ?_
 refine zQ ?_
 refine zS [(5, .int .i64 5), (6, .bool true)] ?_
 refine zO true (fun _ => ?_) (fun h => nomatch h)
 refine W_skip ?_
 refine W_seq ?_
 refine W_block ?_
 refine zR ?_
 refine zS [(9, .slice A30 (0 + 1 + 1 + 1 + 1 + 1) c30), (10, .int .u64 ((x : Nat) : Int)), (11, .int .i64 5), (12, .int .i64 40), (13, .int .i64 16), (14, .int .u64 16), (15, .int .u64 (((x : Nat) : Int).fdiv (2 ^ 16))), (16, .int .u8 (IntKind.u8.wrap (((x : Nat) : Int).fdiv (2 ^ 16))))] ?_
 have hz35 := hT0.size
 have lR_hO := hO.lt
 refine st (by rfl) (S_new (v := .slice (some ⟨w30.heap.size, 0, none⟩) 1 1) (ob := .cells #[.int .u8 (IntKind.u8.wrap (((x : Nat) : Int).fdiv (2 ^ 16)))] 5) (by kernel_rfl) fun w31 hT32 hs33 hB34 => ?_)
 replace hB34 : Blk w31 (w30.heap.size) 5 [.int .u8 (IntKind.u8.wrap (((x : Nat) : Int).fdiv (2 ^ 16)))] := hB34
 have hT0 := hT0.t0 hT32
 have hO := hO.tch0 hT32
 refine st (by rfl) (S_appendR 39 5 (.int .u8 0) 1 1 (n := 0 + 1 + 1 + 1 + 1 + 1) (m := 1) (A := A30) (cp := c30) (cells := u8s ([] ++ [bt x 7] ++ [bt x 6] ++ [bt x 5] ++ [bt x 4] ++ [bt x 3])) (news := [.int .u8 (IntKind.u8.wrap (((x : Nat) : Int).fdiv (2 ^ 16)))]) (b := w30.heap.size) (off := 0) (c := 1) (by kernel_rfl) (by kernel_rfl) (by decide) (by kernel_rfl) (by kernel_rfl) (by kernel_rfl) hO (by rfl) (fun k u hk => by rw [Nat.zero_add, hB34.cell]; exact hk) (by simp [oneV]) (by simp only [maxLen]; omega) (by omega) fun A36 c36 w36 hO36 hw36 hT36 => ?_)
 rw [u8s_snoc _ x 2 (by_cell x 16)] at hO36
 have hz_ := hT0.size
 have hT0 := hT0.then hT36 nB_hO
 have nB_hO : ∀ c, (Value.slice A36 (0 + 1 + 1 + 1 + 1 + 1 + 1) c36).ownBlock = some c → w.heap.size ≤ c := fun c hc => (hw36 c hc).elim (nB_hO c) (fun q => by omega)
 have hO := hO36
 refine zS [(3, .slice A36 (0 + 1 + 1 + 1 + 1 + 1 + 1) c36)] ?_
 refine op_nil ?_
 refine zF [(0, .int .u64 ((x : Nat) : Int)), (2, .string (bsT ([]))), (3, .slice A36 (0 + 1 + 1 + 1 + 1 + 1 + 1) c36), (4, .int .i64 5), (6, .bool true)] fun ρ => ?_
 refine zR ?_
 refine zS [(7, .int .i64 5), (8, .int .i64 6), (4, .int .i64 6)] ?_
 refine op_nil ?_
 refine Un_s ?_
 refine W_seq ?_
 refine zQ ?_
 refine zS [(5, .int .i64 6), (6, .bool true)] ?_
 refine zO true (fun _ => ?_) (fun h => nomatch h)
 refine W_skip ?_
 refine W_seq ?_
 refine W_block ?_
 refine zR ?_
 refine zS [(9, .slice A36 (0 + 1 + 1 + 1 + 1 + 1 + 1) c36), (10, .int .u64 ((x : Nat) : Int)), (11, .int .i64 6), (12, .int .i64 48), (13, .int .i64 8), (14, .int .u64 8), (15, .int .u64 (((x : Nat) : Int).fdiv (2 ^ 8))), (16, .int .u8 (IntKind.u8.wrap (((x : Nat) : Int).fdiv (2 ^ 8))))] ?_
 have hz41 := hT0.size
 have lR_hO := hO.lt
 refine st (by rfl) (S_new (v := .slice (some ⟨w36.heap.size, 0, none⟩) 1 1) (ob := .cells #[.int .u8 (IntKind.u8.wrap (((x : Nat) : Int).fdiv (2 ^ 8)))] 5) (by kernel_rfl) fun w37 hT38 hs39 hB40 => ?_)
 replace hB40 : Blk w37 (w36.heap.size) 5 [.int .u8 (IntKind.u8.wrap (((x : Nat) : Int).fdiv (2 ^ 8)))] := hB40
 have hT0 := hT0.t0 hT38
 have hO := hO.tch0 hT38
 refine st (by rfl) (S_appendR 39 5 (.int .u8 0) 1 1 (n := 0 + 1 + 1 + 1 + 1 + 1 + 1) (m := 1) (A := A36) (cp := c36) (cells := u8s ([] ++ [bt x 7] ++ [bt x 6] ++ [bt x 5] ++ [bt x 4] ++ [bt x 3] ++ [bt x 2])) (news := [.int .u8 (IntKind.u8.wrap (((x : Nat) : Int).fdiv (2 ^ 8)))]) (b := w36.heap.size) (off := 0) (c := 1) (by kernel_rfl) (by kernel_rfl) (by decide) (by kernel_rfl) (by kernel_rfl) (by kernel_rfl) hO (by rfl) (fun k u hk => by rw [Nat.zero_add, hB40.cell]; exact hk) (by simp [oneV]) (by simp only [maxLen]; omega) (by omega) fun A42 c42 w42 hO42 hw42 hT42 => ?_)
 rw [u8s_snoc _ x 1 (by_cell x 8)] at hO42
 have hz_ := hT0.size
 have hT0 := hT0.then hT42 nB_hO
 have nB_hO : ∀ c, (Value.slice A42 (0 + 1 + 1 + 1 + 1 + 1 + 1 + 1) c42).ownBlock = some c → w.heap.size ≤ c := fun c hc => (hw42 c hc).elim (nB_hO c) (fun q => by omega)
 have hO := hO42
 refine zS [(3, .slice A42 (0 + 1 + 1 + 1 + 1 + 1 + 1 + 1) c42)] ?_
 refine op_nil ?_
 refine zF [(0, .int .u64 ((x : Nat) : Int)), (2, .string (bsT ([]))), (3, .slice A42 (0 + 1 + 1 + 1 + 1 + 1 + 1 + 1) c42), (4, .int .i64 6), (6, .bool true)] fun ρ => ?_
 refine zR ?_
 refine zS [(7, .int .i64 6), (8, .int .i64 7), (4, .int .i64 7)] ?_
 refine op_nil ?_
 refine Un_s ?_
 refine W_seq ?_
 refine zQ ?_
 refine zS [(5, .int .i64 7), (6, .bool true)] ?_
 refine zO true (fun _ => ?_) (fun h => nomatch h)
 refine W_skip ?_
 refine W_seq ?_
 refine W_block ?_
 refine zR ?_
 refine zS [(9, .slice A42 (0 + 1 + 1 + 1 + 1 + 1 + 1 + 1) c42), (10, .int .u64 ((x : Nat) : Int)), (11, .int .i64 7), (12, .int .i64 56), (13, .int .i64 0), (14, .int .u64 0), (15, .int .u64 (((x : Nat) : Int).fdiv (2 ^ 0))), (16, .int .u8 (IntKind.u8.wrap (((x : Nat) : Int).fdiv (2 ^ 0))))] ?_
 have hz47 := hT0.size
 have lR_hO := hO.lt
 refine st (by rfl) (S_new (v := .slice (some ⟨w42.heap.size, 0, none⟩) 1 1) (ob := .cells #[.int .u8 (IntKind.u8.wrap (((x : Nat) : Int).fdiv (2 ^ 0)))] 5) (by kernel_rfl) fun w43 hT44 hs45 hB46 => ?_)
 replace hB46 : Blk w43 (w42.heap.size) 5 [.int .u8 (IntKind.u8.wrap (((x : Nat) : Int).fdiv (2 ^ 0)))] := hB46
 have hT0 := hT0.t0 hT44
 have hO := hO.tch0 hT44
 refine st (by rfl) (S_appendR 39 5 (.int .u8 0) 1 1 (n := 0 + 1 + 1 + 1 + 1 + 1 + 1 + 1) (m := 1) (A := A42) (cp := c42) (cells := u8s ([] ++ [bt x 7] ++ [bt x 6] ++ [bt x 5] ++ [bt x 4] ++ [bt x 3] ++ [bt x 2] ++ [bt x 1])) (news := [.int .u8 (IntKind.u8.wrap (((x : Nat) : Int).fdiv (2 ^ 0)))]) (b := w42.heap.size) (off := 0) (c := 1) (by kernel_rfl) (by kernel_rfl) (by decide) (by kernel_rfl) (by kernel_rfl) (by kernel_rfl) hO (by rfl) (fun k u hk => by rw [Nat.zero_add, hB46.cell]; exact hk) (by simp [oneV]) (by simp only [maxLen]; omega) (by omega) fun A48 c48 w48 hO48 hw48 hT48 => ?_)
 rw [u8s_snoc _ x 0 (by_cell x 0)] at hO48
 have hz_ := hT0.size
 have hT0 := hT0.then hT48 nB_hO
 have nB_hO : ∀ c, (Value.slice A48 (0 + 1 + 1 + 1 + 1 + 1 + 1 + 1 + 1) c48).ownBlock = some c → w.heap.size ≤ c := fun c hc => (hw48 c hc).elim (nB_hO c) (fun q => by omega)
 have hO := hO48
 refine zS [(3, .slice A48 (0 + 1 + 1 + 1 + 1 + 1 + 1 + 1 + 1) c48)] ?_
 refine op_nil ?_
 refine zF [(0, .int .u64 ((x : Nat) : Int)), (2, .string (bsT ([]))), (3, .slice A48 (0 + 1 + 1 + 1 + 1 + 1 + 1 + 1 + 1) c48), (4, .int .i64 7), (6, .bool true)] fun ρ => ?_
 refine zR ?_
 refine zS [(7, .int .i64 7), (8, .int .i64 8), (4, .int .i64 8)] ?_
 refine op_nil ?_
 refine Un_s ?_
 refine W_seq ?_
 refine zQ ?_
 refine zS [(5, .int .i64 8), (6, .bool false)] ?_
 refine zO false (fun h => nomatch h) (fun _ => ?_)
 refine W_exit ?_
 refine X_hit ?_
 refine W_seq ?_
 obtain ⟨g, sp, hA9, hG, hsl, _, _⟩ := hO.blk1 (by omega)
 subst hA9
 refine zR ?_
 refine zS [(19, .slice (some ⟨g, 0, none⟩) (0 + 1 + 1 + 1 + 1 + 1 + 1 + 1 + 1) c48)] ?_
 refine stv (v := .string (bsT ([] ++ [bt x 7] ++ [bt x 6] ++ [bt x 5] ++ [bt x 4] ++ [bt x 3] ++ [bt x 2] ++ [bt x 1] ++ [bt x 0]))) (by rfl) (R_b2s (l := [] ++ [bt x 7] ++ [bt x 6] ++ [bt x 5] ++ [bt x 4] ++ [bt x 3] ++ [bt x 2] ++ [bt x 1] ++ [bt x 0]) (len := 0 + 1 + 1 + 1 + 1 + 1 + 1 + 1 + 1) (cap := c48) (by kernel_rfl) (by kernel_rfl) (by kernel_rfl) (by kernel_rfl) (rfl) (blk_pre hG)) ?_
 refine zS [(2, .string (bsT ([] ++ [bt x 7] ++ [bt x 6] ++ [bt x 5] ++ [bt x 4] ++ [bt x 3] ++ [bt x 2] ++ [bt x 1] ++ [bt x 0])))] ?_
 refine op_nil ?_
 refine W_ret ?_
 exact ⟨_, Res_of (v := .string (bsT ([] ++ [bt x 7] ++ [bt x 6] ++ [bt x 5] ++ [bt x 4] ++ [bt x 3] ++ [bt x 2] ++ [bt x 1] ++ [bt x 0]))) (by kernel_rfl), ⟨congrArg Value.string (congrArg bsT (by rfl)), hT0⟩⟩

set_option maxRecDepth 100000 in
theorem bytes1_ok (x : Nat) (w : World) (hx : x < 9223372036854775808) : Ret Try.prog 20 [.int .i64 ((x : Nat) : Int), .int .i64 1] w fun v w' => v = .string (bsT (be 1 x)) ∧ Tch N0 w w' := by
 refine enter Try.func20 rfl rfl ?_
 refine zQ ?_
 refine zS [(4, .string (bsT ([])))] ?_
 refine op_nil ?_
 refine zQ ?_
 refine zS [(5, .int .i64 ((x : Nat) : Int)), (6, .int .u64 (IntKind.u64.wrap ((x : Nat) : Int)))] ?_
 rw [show IntKind.u64.wrap ((x : Nat) : Int) = ((x : Nat) : Int) from wrap_u64 (by omega) (by omega)]
 refine zC (eight_ok x _ (by omega)) ?_
 rintro _ w1 ⟨rfl, hT2⟩
 have hT0 := hT2
 refine zS [(8, .int .i64 1), (9, .int .i64 7)] ?_
 refine stv (v := .string (bsT ((be 8 x).drop 7))) (by rfl) (R_sslL (a := be 8 x) 7 (by kernel_rfl) (by kernel_rfl) (by kernel_rfl) rfl (by rw [be_length]; omega)) ?_
 refine zS [(4, .string (bsT ((be 8 x).drop 7)))] ?_
 refine op_nil ?_
 refine W_ret ?_
 exact ⟨_, Res_of (v := .string (bsT ((be 8 x).drop 7))) (by kernel_rfl), ⟨rfl, hT0⟩⟩

set_option maxRecDepth 100000 in
theorem bytes2_ok (x : Nat) (w : World) (hx : x < 9223372036854775808) : Ret Try.prog 20 [.int .i64 ((x : Nat) : Int), .int .i64 2] w fun v w' => v = .string (bsT (be 2 x)) ∧ Tch N0 w w' := by
 refine enter Try.func20 rfl rfl ?_
 refine zQ ?_
 refine zS [(4, .string (bsT ([])))] ?_
 refine op_nil ?_
 refine zQ ?_
 refine zS [(5, .int .i64 ((x : Nat) : Int)), (6, .int .u64 (IntKind.u64.wrap ((x : Nat) : Int)))] ?_
 rw [show IntKind.u64.wrap ((x : Nat) : Int) = ((x : Nat) : Int) from wrap_u64 (by omega) (by omega)]
 refine zC (eight_ok x _ (by omega)) ?_
 rintro _ w1 ⟨rfl, hT2⟩
 have hT0 := hT2
 refine zS [(8, .int .i64 2), (9, .int .i64 6)] ?_
 refine stv (v := .string (bsT ((be 8 x).drop 6))) (by rfl) (R_sslL (a := be 8 x) 6 (by kernel_rfl) (by kernel_rfl) (by kernel_rfl) rfl (by rw [be_length]; omega)) ?_
 refine zS [(4, .string (bsT ((be 8 x).drop 6)))] ?_
 refine op_nil ?_
 refine W_ret ?_
 exact ⟨_, Res_of (v := .string (bsT ((be 8 x).drop 6))) (by kernel_rfl), ⟨rfl, hT0⟩⟩

set_option maxRecDepth 100000 in
theorem bytes4_ok (x : Nat) (w : World) (hx : x < 9223372036854775808) : Ret Try.prog 20 [.int .i64 ((x : Nat) : Int), .int .i64 4] w fun v w' => v = .string (bsT (be 4 x)) ∧ Tch N0 w w' := by
 refine enter Try.func20 rfl rfl ?_
 refine zQ ?_
 refine zS [(4, .string (bsT ([])))] ?_
 refine op_nil ?_
 refine zQ ?_
 refine zS [(5, .int .i64 ((x : Nat) : Int)), (6, .int .u64 (IntKind.u64.wrap ((x : Nat) : Int)))] ?_
 rw [show IntKind.u64.wrap ((x : Nat) : Int) = ((x : Nat) : Int) from wrap_u64 (by omega) (by omega)]
 refine zC (eight_ok x _ (by omega)) ?_
 rintro _ w1 ⟨rfl, hT2⟩
 have hT0 := hT2
 refine zS [(8, .int .i64 4), (9, .int .i64 4)] ?_
 refine stv (v := .string (bsT ((be 8 x).drop 4))) (by rfl) (R_sslL (a := be 8 x) 4 (by kernel_rfl) (by kernel_rfl) (by kernel_rfl) rfl (by rw [be_length]; omega)) ?_
 refine zS [(4, .string (bsT ((be 8 x).drop 4)))] ?_
 refine op_nil ?_
 refine W_ret ?_
 exact ⟨_, Res_of (v := .string (bsT ((be 8 x).drop 4))) (by kernel_rfl), ⟨rfl, hT0⟩⟩

end Go.Proofs.YtlkjhkennbdbnaaV

set_option linter.unusedVariables false
set_option linter.unusedSimpArgs false
namespace Go.Proofs.YtlkjhkennbdbnaaV
open Go Go.RowKit Go.Proofs

theorem by_lowI {x : Int} (h : 0 ≤ x) : Value.int .u8 (IntKind.u8.wrap x) = .int .u8 (((UInt8.ofNat x.toNat).toNat : Nat) : Int) := by
 have := by_low x.toNat
 rwa [show ((x.toNat : Nat) : Int) = x by omega] at this
theorem lo1 {v : Value} {x : Nat} (h : v = .int .u8 (((UInt8.ofNat x).toNat : Nat) : Int)) : [v] = u8s (be 1 x) := by rw [be1_nat, h]; rfl
theorem lo2 {v v' : Value} {x y : Nat} (h : v = .int .u8 (((UInt8.ofNat x).toNat : Nat) : Int)) (h' : v' = .int .u8 (((UInt8.ofNat y).toNat : Nat) : Int)) : [v, v'] = u8s (be 1 x ++ be 1 y) := by rw [be1_nat, be1_nat, h, h']; rfl
def hdP (V E S U : Int) (n : Nat) : Tx := be 1 V.toNat ++ be 1 E.toNat ++ be 4 S.toNat ++ be 4 U.toNat ++ be 2 n
def preP (V E S U : Int) (l : List T6) (j : Nat) : Tx := hdP V E S U l.length ++ ((l.take j).map core).flatMap encC
def encH (t : Co) : Tx := be 1 t.1.length ++ t.1 ++ be 2 t.2.1.toNat ++ be 2 t.2.2.1.toNat ++ be 2 t.2.2.2.2.2.toNat ++ be 1 t.2.2.2.2.1.toNat ++ be 1 t.2.2.2.1.length
def preI (V E S U : Int) (l : List T6) (j i : Nat) : Tx := preP V E S U l j ++ encH (core (tq l j)) ++ ((tq l j).img.take i).flatMap (be 8)
theorem preP_0 (V E S U : Int) (l : List T6) : preP V E S U l 0 = hdP V E S U l.length := by simp [preP]
theorem preP_all (V E S U : Int) (l : List T6) : preP V E S U l l.length = encR V E S U (cores l) := by
 unfold preP encR hdP; rw [List.take_length, cores_length]; rfl
theorem preI_0 (V E S U : Int) (l : List T6) (j : Nat) : preI V E S U l j 0 = preP V E S U l j ++ encH (core (tq l j)) := by simp [preI]
theorem preI_step {V E S U : Int} {l : List T6} {j i : Nat} (h : i < (tq l j).img.length) : preI V E S U l j (i + 1) = preI V E S U l j i ++ be 8 ((tq l j).img.getD i 0) := by
 unfold preI
 have e : (tq l j).img.take (i + 1) = (tq l j).img.take i ++ [(tq l j).img[i]] := List.take_succ_eq_append_getElem h
 have e2 : (tq l j).img.getD i 0 = (tq l j).img[i] := by rw [List.getD_eq_getElem?_getD, List.getElem?_eq_getElem h]; rfl
 rw [e, e2, List.flatMap_append]; simp
theorem preI_all {V E S U : Int} {l : List T6} {j : Nat} (h : j < l.length) : preI V E S U l j (tq l j).img.length = preP V E S U l (j + 1) := by
 unfold preI preP
 rw [List.take_length, take_snoc core l h, List.flatMap_append]
 simp [encC, encH, core]
theorem img_lt {w : World} {A : Option Addr} {l : List T6} (h : TsW w A l) {j i : Nat} (hj : j < l.length) (hi : i < (tq l j).img.length) : (tq l j).img.getD i 0 < 18446744073709551616 := by
 refine (h.wf hj).2.2.2.2 _ ?_
 rw [List.getD_eq_getElem?_getD, List.getElem?_eq_getElem hi]; exact List.getElem_mem hi
theorem may_el {V E S U : Int} {l : List T6} (h : mayR V E S U (cores l) = true) {j : Nat} (hj : j < l.length) : mayC (core (tq l j)) = true := by
 unfold mayR at h
 rw [Bool.and_eq_true] at h
 exact List.all_eq_true.1 h.2 _ (List.mem_of_getElem? (core_tq hj))
theorem may_hd {V E S U : Int} {l : List T6} (h : mayR V E S U (cores l) = true) : (0 ≤ V ∧ V ≤ 3) ∧ (0 ≤ E ∧ E ≤ 255) ∧ (0 ≤ S ∧ S ≤ 1073741824) ∧ (0 ≤ U ∧ U ≤ 1073741824) ∧ l.length ≤ 65535 := by
 unfold mayR mayH at h
 rw [Bool.and_eq_true, cores_length] at h
 exact of_decide_eq_true h.1

theorem enc_pos (V E S U : Int) (l : List T6) : 0 < (preP V E S U l l.length).length := by
 unfold preP hdP
 simp only [List.length_append, be_length]; omega

set_option maxRecDepth 100000 in
set_option maxHeartbeats 2000000 in
theorem put_ok (V E S U : Int) (A : Option Addr) (c : Nat) (l : List T6) (w : World) (hR : TsW w A l) : Ret Try.prog 8 [.agg #[.int .i64 V, .int .i64 E, .slice A l.length c, .int .i64 S, .int .i64 U]] w fun v w' => v = .tuple #[.string (bsT (putT V E S U (cores l))), .int .i64 (putE V E S U (cores l))] ∧ Tch N0 w w' := by
 have hXm := hR.rd.2.1
 refine enter Try.func8 rfl rfl ?_
 refine zQ ?_
 refine st (by rfl) (S_new (v := .pointer (some ⟨w.heap.size, 0, none⟩)) (ob := .cells #[.int .i64 V, .int .i64 E, .slice A l.length c, .int .i64 S, .int .i64 U] 25) (by kernel_rfl) fun w1 hT2 hs3 hB4 => ?_)
 replace hB4 : Blk w1 (w.heap.size) 25 [.int .i64 V, .int .i64 E, .slice A l.length c, .int .i64 S, .int .i64 U] := hB4
 have hT0 := hT2
 refine zS [(2, .string (bsT ([]))), (3, .int .i64 0)] ?_
 refine op_nil ?_
 refine W_seq ?_
 refine zQ ?_
 refine st (by rfl) (S_val (v := .agg #[.int .i64 V, .int .i64 E, .slice A l.length c, .int .i64 S, .int .i64 U]) (R_loadA [.int .i64 V, .int .i64 E, .slice A l.length c, .int .i64 S, .int .i64 U] (by kernel_rfl) (by kernel_rfl) (by kernel_rfl) (fun k u hk => by rw [hB4.cell]; exact get_part _ 0 _ k u rfl hk)) ?_)
 refine zC (may_ok V E S U A c l _ (hR.tch0 hT0)) ?_
 rintro _ w5 ⟨rfl, hT6⟩
 have hT0 := hT0.t0 hT6
 have hB4 := hB4.tch0 hT6
 refine zS [(13, .bool (!(mayR V E S U (cores l))))] ?_
 refine zO (!(mayR V E S U (cores l))) (fun hc7 => ?_) (fun hc7 => ?_)
 ·
  replace hc7 : mayR V E S U (cores l) = false := ((not_t hc7))
  refine zQ ?_
  refine zS [(2, .string (bsT ([]))), (3, .int .i64 4)] ?_
  refine op_nil ?_
  refine W_ret ?_
  refine ⟨_, Res_of (v := .tuple #[.string (bsT ([])), .int .i64 4]) (by kernel_rfl), ?_⟩
  have hq := put_f (V := V) (E := E) (S := S) (U := U) (by assumption)
  rw [hq.1, hq.2]
  exact ⟨rfl, hT0⟩
 ·
  replace hc7 : mayR V E S U (cores l) = true := ((not_f hc7))
  refine W_skip ?_
  refine zQ ?_
  refine zS [(14, .pointer (some ⟨w.heap.size, 0, none⟩))] ?_
  refine zL (.int .i64 V) ((hB4.cell 0).trans rfl) ?_
  refine zS [(16, .int .u8 (IntKind.u8.wrap V)), (17, .pointer (some ⟨w.heap.size, 1, none⟩))] ?_
  refine zL (.int .i64 E) ((hB4.cell 1).trans rfl) ?_
  refine zS [(19, .int .u8 (IntKind.u8.wrap E))] ?_
  have hz12 := hT0.size
  have lt13 := hB4.lt
  refine st (by rfl) (S_new (v := .slice (some ⟨w5.heap.size, 0, none⟩) 2 2) (ob := .cells #[.int .u8 (IntKind.u8.wrap V), .int .u8 (IntKind.u8.wrap E)] 5) (by kernel_rfl) fun w8 hT9 hs10 hB11 => ?_)
  replace hB11 : Blk w8 (w5.heap.size) 5 [.int .u8 (IntKind.u8.wrap V), .int .u8 (IntKind.u8.wrap E)] := hB11
  have hT0 := hT0.t0 hT9
  have hB4 := hB4.tch0 hT9
  refine zS [(4, .slice (some ⟨w5.heap.size, 0, none⟩) 2 2)] ?_
  refine op_nil ?_
  refine W_seq ?_
  refine zF [(0, .agg #[.int .i64 V, .int .i64 E, .slice A l.length c, .int .i64 S, .int .i64 U]), (1, .pointer (some ⟨w.heap.size, 0, none⟩)), (2, .string (bsT ([]))), (3, .int .i64 0), (4, .slice (some ⟨w5.heap.size, 0, none⟩) 2 2), (13, .bool (!(mayR V E S U (cores l))))] fun ρ => ?_
  have hmay : mayR V E S U (cores l) = true := by assumption
  have hm := may_hd hmay
  have hz_ := hT0.size
  have hO := hB11.own (base := 0) (sz := 1) (n := 2) (Nat.zero_le _) rfl (by decide)
  rw [lo2 (by_lowI (by omega)) (by_lowI (by omega))] at hO
  have nB_hO : ∀ c, (Value.slice (some ⟨w5.heap.size, 0, none⟩) 2 2).ownBlock = some c → w.heap.size ≤ c := fun c hc => by have e : w5.heap.size = c := Option.some.inj hc; omega
  refine W_draw (fun w' => Blk w' (w.heap.size) 25 [.int .i64 V, .int .i64 E, .slice A l.length c, .int .i64 S, .int .i64 U]) (by kernel_rfl) (by kernel_rfl) (by kernel_rfl) fun w14 hT15 hh16 => ?_
  have hT0 := hT0.t0 hT15
  have hB4 := hB4.tch0 hT15
  have hO := hO.tch0 hT15
  refine zK [0, 1, 5] #[true, true, false, false, false, true, false, false, false, false] [(21, .slice (some ⟨w5.heap.size, 0, none⟩) 2 2), (22, .pointer (some ⟨w.heap.size, 3, none⟩)), (26, .pointer (some ⟨w.heap.size, 4, none⟩))] hB4 ?_
  refine zV 2 rfl (.int .i64 S) (fun _ hB4 => R_load (v := .int .i64 S) (by kernel_rfl) (by kernel_rfl) ((hB4.cell 3).trans rfl)) hB4 ?_
  refine zK [3] #[true, true, true, true, false, true, false, false, false, false] [(24, .int .u64 (IntKind.u64.wrap S))] hB4 ?_
  rw [show IntKind.u64.wrap S = S from wrap_u64 (by omega) (by omega)]
  refine fixD (y := ((S.toNat : Nat) : Int)) (by omega) ?_
  refine zV 6 rfl (.int .i64 U) (fun _ hB4 => R_load (v := .int .i64 U) (by kernel_rfl) (by kernel_rfl) ((hB4.cell 4).trans rfl)) hB4 ?_
  refine zK [7] #[true, true, true, true, false, true, true, true, false, false] [(28, .int .u64 (IntKind.u64.wrap U))] hB4 ?_
  rw [show IntKind.u64.wrap U = U from wrap_u64 (by omega) (by omega)]
  refine fixD (y := ((U.toNat : Nat) : Int)) (by omega) ?_
  have hz_ := hT0.size
  refine zD 4 rfl (S_call (args := [.slice (some ⟨w5.heap.size, 0, none⟩) 2 2, .int .u64 ((S.toNat : Nat) : Int), .int .i64 4]) (by kernel_rfl) (num4_ok (some ⟨w5.heap.size, 0, none⟩) 2 2 (be 1 V.toNat ++ be 1 E.toNat) S.toNat _ hO (by omega) (by omega)) ?_)
  rintro _ w17 ⟨A18, c18, rfl, hO18, hw18, hT18⟩
  have hT0 := (hT0).then hT18 nB_hO
  have hB4 := hB4.tch hT18 (fun e => hO.blk_ne hB4 (by decide) _ e rfl)
  have hO := hO18
  have nB_hO : ∀ c, (Value.slice A18 (2 + 4) c18).ownBlock = some c → w.heap.size ≤ c := fun c hc => (hw18 c hc).elim (nB_hO c) (fun q => by omega)
  refine ⟨hB4, ?_⟩
  have hz_ := hT0.size
  refine zD 8 rfl (S_call (args := [.slice A18 (2 + 4) c18, .int .u64 ((U.toNat : Nat) : Int), .int .i64 4]) (by kernel_rfl) (num4_ok A18 (2 + 4) c18 (be 1 V.toNat ++ be 1 E.toNat ++ be 4 S.toNat) U.toNat _ hO (by omega) (by omega)) ?_)
  rintro _ w19 ⟨A20, c20, rfl, hO20, hw20, hT20⟩
  have hT0 := (hT0).then hT20 nB_hO
  have hB4 := hB4.tch hT20 (fun e => hO.blk_ne hB4 (by decide) _ e rfl)
  have hO := hO20
  have nB_hO : ∀ c, (Value.slice A20 (2 + 4 + 4) c20).ownBlock = some c → w.heap.size ≤ c := fun c hc => (hw20 c hc).elim (nB_hO c) (fun q => by omega)
  refine ⟨hB4, ?_⟩
  refine zK [9] #[true, true, true, true, true, true, true, true, true, true] [(4, .slice A20 (2 + 4 + 4) c20)] hB4 ?_
  refine d_done (by kernel_rfl) ?_
  refine W_seq ?_
  refine zF [(0, .agg #[.int .i64 V, .int .i64 E, .slice A l.length c, .int .i64 S, .int .i64 U]), (1, .pointer (some ⟨w.heap.size, 0, none⟩)), (2, .string (bsT ([]))), (3, .int .i64 0), (4, .slice A20 (2 + 4 + 4) c20), (13, .bool (!(mayR V E S U (cores l))))] fun ρ => ?_
  refine zR ?_
  refine zS [(30, .slice A20 (2 + 4 + 4) c20), (31, .pointer (some ⟨w.heap.size, 2, none⟩))] ?_
  refine zL (.slice A l.length c) ((hB4.cell 2).trans rfl) ?_
  refine zS [(33, .int .i64 (l.length : Int)), (34, .int .u64 (IntKind.u64.wrap (l.length : Int)))] ?_
  rw [show IntKind.u64.wrap (l.length : Int) = (l.length : Int) from wrap_u64 (by omega) (by omega)]
  refine fixR (y := ((l.length : Nat) : Int)) (by omega) ?_
  have hz_ := hT0.size
  refine zC (num2_ok A20 (2 + 4 + 4) c20 (be 1 V.toNat ++ be 1 E.toNat ++ be 4 S.toNat ++ be 4 U.toNat) l.length _ hO (by omega) (by omega)) ?_
  rintro _ w21 ⟨A22, c22, rfl, hO22, hw22, hT22⟩
  have hT0 := (hT0).then hT22 nB_hO
  have hB4 := hB4.tch hT22 (fun e => hO.blk_ne hB4 (by decide) _ e rfl)
  have hO := hO22
  have nB_hO : ∀ c, (Value.slice A22 (2 + 4 + 4 + 2) c22).ownBlock = some c → w.heap.size ≤ c := fun c hc => (hw22 c hc).elim (nB_hO c) (fun q => by omega)
  refine zS [(4, .slice A22 (2 + 4 + 4 + 2) c22)] ?_
  refine op_nil ?_
  refine W_seq ?_
  refine zQ ?_
  refine zS [(36, .pointer (some ⟨w.heap.size, 2, none⟩))] ?_
  refine zL (.slice A l.length c) ((hB4.cell 2).trans rfl) ?_
  refine zS [(38, .int .i64 (l.length : Int)), (39, .int .i64 0)] ?_
  refine op_nil ?_
  refine W_block ?_
  refine W_loop (fun m ρ w' => ∃ (B : Option Addr) (n cb j : Nat) (ρ0 : Env), ρ = updL ρ0 [(1, .pointer (some ⟨w.heap.size, 0, none⟩)), (4, .slice B n cb), (37, .slice A l.length c), (38, .int .i64 (l.length : Int)), (39, .int .i64 ((j : Nat) : Int))] ∧ (j ≤ l.length) ∧ (n ≤ 12 + 2400 * j) ∧ (∀ c, (Value.slice B n cb).ownBlock = some c → w.heap.size ≤ c) ∧ Tch N0 w w' ∧ Blk w' (w.heap.size) 25 [.int .i64 V, .int .i64 E, .slice A l.length c, .int .i64 S, .int .i64 U] ∧ Own w' 0 5 1 (.slice B n cb) n (u8s (preP V E S U l j)) ∧ m = l.length + 1 - j) (m := l.length + 1 - 0) ?_ ?_
  ·
   refine ⟨A22, 2 + 4 + 4 + 2, c22, 0, _, updL_self (by kernel_rfl), by omega, by omega, nB_hO, hT0, hB4, (by have q := hO; rw [show be 1 V.toNat ++ be 1 E.toNat ++ be 4 S.toNat ++ be 4 U.toNat ++ be 2 l.length = preP V E S U l 0 from by rw [preP_0]; unfold hdP; simp only [List.append_assoc]] at q; exact q), rfl⟩
  ·
   rintro m ρ w23 ⟨B, n, cb, j, ρ, rfl, hj, hn, nB_hO, hT0, hB4, hO, rfl⟩
   refine zQ ?_
   refine zS [(40, .bool (decide (((j : Nat) : Int) < (l.length : Int))))] ?_
   refine op_nil ?_
   refine W_seq ?_
   refine zW (decide (((j : Nat) : Int) < (l.length : Int))) (fun hc24 => ?_) (fun hc24 => ?_)
   ·
    replace hc24 : ((j : Nat) : Int) < (l.length : Int) := (of_decide_eq_true hc24)
    refine W_skip ?_
    refine W_seq ?_
    refine W_block ?_
    refine W_seq ?_
    have hmc := may_el hmay (j := j) (by omega)
    rw [mayC_core] at hmc
    have hmc := of_decide_eq_true hmc
    refine zR ?_
    refine stv (v := ptrAt A (j * 6)) (by rfl) (R_indexRd (sz := 6) (len := l.length) (cap := c) (k := .i64) (i := ((j : Nat) : Int)) (e := 43) j (hR.rd.tch0 hT0) (by kernel_rfl) (by kernel_rfl) (by kernel_rfl) (by kernel_rfl) rfl (by omega)) ?_
    refine stv (v := .agg #[.slice ((tq l j).iA) ((tq l j).inp.length) ((tq l j).iC), .int .i64 ((tq l j).pt), .int .i64 ((tq l j).ms), .slice ((tq l j).gA) ((tq l j).img.length) ((tq l j).gC), .int .i64 ((tq l j).kd), .int .i64 ((tq l j).cd)]) (by rfl) (R_loadRdA [.slice ((tq l j).iA) ((tq l j).inp.length) ((tq l j).iC), .int .i64 ((tq l j).pt), .int .i64 ((tq l j).ms), .slice ((tq l j).gA) ((tq l j).img.length) ((tq l j).gC), .int .i64 ((tq l j).kd), .int .i64 ((tq l j).cd)] (hR.rd.tch0 hT0) (by omega) (by kernel_rfl) (by kernel_rfl) (by kernel_rfl) (tcs_part l (by omega))) ?_
    have hz29 := hT0.size
    have lt30 := hB4.lt
    have lR_hO := hO.lt
    refine st (by rfl) (S_new (v := .pointer (some ⟨w23.heap.size, 0, none⟩)) (ob := .cells #[.slice none 0 0, .int .i64 0, .int .i64 0, .slice none 0 0, .int .i64 0, .int .i64 0] 43) (by kernel_rfl) fun w25 hT26 hs27 hB28 => ?_)
    replace hB28 : Blk w25 (w23.heap.size) 43 [.slice none 0 0, .int .i64 0, .int .i64 0, .slice none 0 0, .int .i64 0, .int .i64 0] := hB28
    have hT0 := hT0.t0 hT26
    have hB4 := hB4.tch0 hT26
    have hO := hO.tch0 hT26
    refine st (by rfl) (S_storeA (b := w23.heap.size) (j := 0) (cs := [.slice ((tq l j).iA) ((tq l j).inp.length) ((tq l j).iC), .int .i64 ((tq l j).pt), .int .i64 ((tq l j).ms), .slice ((tq l j).gA) ((tq l j).img.length) ((tq l j).gC), .int .i64 ((tq l j).kd), .int .i64 ((tq l j).cd)]) (by kernel_rfl) (by kernel_rfl) (by kernel_rfl) (by simp [oneV]) hB28 (by simp) fun w31 hT32 hs33 hB28' => ?_)
    have hT0 := (hT0).then hT32 (fun c e => by have : c = w23.heap.size := e; omega)
    have hB4 := hB4.tch hT32 (hB4.ne hB28 (by decide))
    have hO := hO.tch hT32 (fun c hc e => hO.blk_ne hB28 (by decide) c hc e)
    replace hB28 : Blk w31 w23.heap.size 43 [.slice ((tq l j).iA) ((tq l j).inp.length) ((tq l j).iC), .int .i64 ((tq l j).pt), .int .i64 ((tq l j).ms), .slice ((tq l j).gA) ((tq l j).img.length) ((tq l j).gC), .int .i64 ((tq l j).kd), .int .i64 ((tq l j).cd)] := hB28'
    refine op_nil ?_
    refine W_seq ?_
    refine W_draw (fun w' => Blk w' (w23.heap.size) 43 [.slice ((tq l j).iA) ((tq l j).inp.length) ((tq l j).iC), .int .i64 ((tq l j).pt), .int .i64 ((tq l j).ms), .slice ((tq l j).gA) ((tq l j).img.length) ((tq l j).gC), .int .i64 ((tq l j).kd), .int .i64 ((tq l j).cd)]) (by kernel_rfl) (by kernel_rfl) (by kernel_rfl) fun w34 hT35 hh36 => ?_
    have hT0 := hT0.t0 hT35
    have hB4 := hB4.tch0 hT35
    have hO := hO.tch0 hT35
    have hB28 := hB28.tch0 hT35
    refine zK [0, 1, 7] #[true, true, false, false, false, false, false, true, false, false, false] [(43, .slice B n cb), (44, .pointer (some ⟨w23.heap.size, 0, none⟩)), (50, .pointer (some ⟨w23.heap.size, 0, none⟩))] hB28 ?_
    refine zV 2 rfl (.slice ((tq l j).iA) ((tq l j).inp.length) ((tq l j).iC)) (fun _ hB28 => R_load (v := .slice ((tq l j).iA) ((tq l j).inp.length) ((tq l j).iC)) (by kernel_rfl) (by kernel_rfl) ((hB28.cell 0).trans rfl)) hB28 ?_
    refine zK [3, 4] #[true, true, true, true, true, false, false, true, false, false, false] [(46, .int .i64 ((tq l j).inp.length : Int)), (47, .int .u8 (IntKind.u8.wrap ((tq l j).inp.length : Int)))] hB28 ?_
    refine zV 8 rfl (.slice ((tq l j).iA) ((tq l j).inp.length) ((tq l j).iC)) (fun _ hB28 => R_load (v := .slice ((tq l j).iA) ((tq l j).inp.length) ((tq l j).iC)) (by kernel_rfl) (by kernel_rfl) ((hB28.cell 0).trans rfl)) hB28 ?_
    have hz41 := hT0.size
    have lt42 := hB4.lt
    have lR_hO := hO.lt
    have lt43 := hB28.lt
    refine zD 5 rfl (S_new (v := .slice (some ⟨w34.heap.size, 0, none⟩) 1 1) (ob := .cells #[.int .u8 (IntKind.u8.wrap ((tq l j).inp.length : Int))] 5) (by kernel_rfl) fun w37 hT38 hs39 hB40 => ?_)
    replace hB40 : Blk w37 (w34.heap.size) 5 [.int .u8 (IntKind.u8.wrap ((tq l j).inp.length : Int))] := hB40
    have hT0 := hT0.t0 hT38
    have hB4 := hB4.tch0 hT38
    have hO := hO.tch0 hT38
    have hB28 := hB28.tch0 hT38
    refine ⟨hB28, ?_⟩
    have hz_ := hT0.size
    have lt_hB4 := hB4.lt
    have lt_hB28 := hB28.lt
    have lt_hB40 := hB40.lt
    refine zD 6 rfl (S_appendR 39 5 (.int .u8 0) 1 1 (n := n) (m := 1) (A := B) (cp := cb) (cells := u8s (preP V E S U l j)) (news := [.int .u8 (IntKind.u8.wrap ((tq l j).inp.length : Int))]) (b := w34.heap.size) (off := 0) (c := 1) (by kernel_rfl) (by kernel_rfl) (by decide) (by kernel_rfl) (by kernel_rfl) (by kernel_rfl) hO (by rfl) (fun k u hk => by rw [Nat.zero_add, hB40.cell]; exact hk) (by simp [oneV]) (by simp only [maxLen]; omega) (by omega) fun A44 c44 w44 hO44 hw44 hT44 => ?_)
    rw [lo1 (by_low _), ← u8s_app] at hO44
    have hT0 := (hT0).then hT44 nB_hO
    have hB4 := hB4.tch hT44 (fun e => hO.blk_ne hB4 (by decide) _ e rfl)
    have hB28 := hB28.tch hT44 (fun e => hO.blk_ne hB28 (by decide) _ e rfl)
    have hO := hO44
    have nB_hO : ∀ c, (Value.slice A44 (n + 1) c44).ownBlock = some c → w.heap.size ≤ c := fun c hc => (hw44 c hc).elim (nB_hO c) (fun q => by omega)
    refine ⟨hB28, ?_⟩
    have hz_ := hT0.size
    refine zD 9 rfl (S_appendY 39 5 (.int .u8 0) 1 (c := (tq l j).iC) (n := n + 1) (m := (tq l j).inp.length) (A := A44) (cp := c44) (cells := u8s (preP V E S U l j ++ be 1 ((tq l j).inp.length))) (news := u8s ((tq l j).inp)) (by kernel_rfl) (by kernel_rfl) (by kernel_rfl) (by kernel_rfl) (by kernel_rfl) hO ((hR.ri (by omega)).tch0 hT0) (u8s_one _) (by simp only [maxLen]; omega) (by omega) fun A45 c45 w45 hO45 hw45 hT45 => ?_)
    rw [← u8s_app] at hO45
    have hT0 := (hT0).then hT45 nB_hO
    have hB4 := hB4.tch hT45 (fun e => hO.blk_ne hB4 (by decide) _ e rfl)
    have hB28 := hB28.tch hT45 (fun e => hO.blk_ne hB28 (by decide) _ e rfl)
    have hO := hO45
    have nB_hO : ∀ c, (Value.slice A45 (n + 1 + (tq l j).inp.length) c45).ownBlock = some c → w.heap.size ≤ c := fun c hc => (hw45 c hc).elim (nB_hO c) (fun q => by omega)
    refine ⟨hB28, ?_⟩
    refine zK [10] #[true, true, true, true, true, true, true, true, true, true, true] [(4, .slice A45 (n + 1 + (tq l j).inp.length) c45)] hB28 ?_
    refine d_done (by kernel_rfl) ?_
    refine W_seq ?_
    refine W_seq ?_
    refine zF [(1, .pointer (some ⟨w.heap.size, 0, none⟩)), (4, .slice A45 (n + 1 + (tq l j).inp.length) c45), (6, .pointer (some ⟨w23.heap.size, 0, none⟩)), (37, .slice A l.length c), (38, .int .i64 (l.length : Int)), (39, .int .i64 ((j : Nat) : Int)), (40, .bool (decide (((j : Nat) : Int) < (l.length : Int))))] fun ρ => ?_
    refine zR ?_
    refine zS [(53, .pointer (some ⟨w23.heap.size, 1, none⟩))] ?_
    refine zL (.int .i64 ((tq l j).pt)) ((hB28.cell 1).trans rfl) ?_
    refine zS [(55, .pointer (some ⟨w23.heap.size, 2, none⟩))] ?_
    refine zL (.int .i64 ((tq l j).ms)) ((hB28.cell 2).trans rfl) ?_
    refine zS [(57, .pointer (some ⟨w23.heap.size, 5, none⟩))] ?_
    refine zL (.int .i64 ((tq l j).cd)) ((hB28.cell 5).trans rfl) ?_
    refine zS [(59, .agg #[.int .i64 ((tq l j).pt), .int .i64 ((tq l j).ms), .int .i64 ((tq l j).cd)]), (60, .int .i64 0)] ?_
    refine op_nil ?_
    refine W_block ?_
    refine W_un 4 ?_
    refine Un_s ?_
    refine W_seq ?_
    refine zF [(1, .pointer (some ⟨w.heap.size, 0, none⟩)), (4, .slice A45 (n + 1 + (tq l j).inp.length) c45), (6, .pointer (some ⟨w23.heap.size, 0, none⟩)), (37, .slice A l.length c), (38, .int .i64 (l.length : Int)), (39, .int .i64 ((j : Nat) : Int)), (40, .bool (decide (((j : Nat) : Int) < (l.length : Int)))), (59, .agg #[.int .i64 ((tq l j).pt), .int .i64 ((tq l j).ms), .int .i64 ((tq l j).cd)]), (60, .int .i64 0)] fun ρ => ?_
    refine zR ?_
    refine zS [(61, .bool true)] ?_
    refine op_nil ?_
    refine W_seq ?_
    refine zW true (fun _ => ?_) (fun h => nomatch h)
    refine W_skip ?_
    refine W_seq ?_
    refine W_block ?_
    refine zQ ?_
    refine zS [(62, .int .i64 ((tq l j).pt)), (8, .int .i64 ((tq l j).pt))] ?_
    refine op_nil ?_
    refine zR ?_
    refine zS [(63, .slice A45 (n + 1 + (tq l j).inp.length) c45), (64, .int .i64 ((tq l j).pt)), (65, .int .u64 (IntKind.u64.wrap ((tq l j).pt)))] ?_
    rw [show IntKind.u64.wrap ((tq l j).pt) = (tq l j).pt from wrap_u64 (by omega) (by omega)]
    refine fixR (y := ((((tq l j).pt).toNat : Nat) : Int)) (by omega) ?_
    have hz_ := hT0.size
    refine zC (num2_ok A45 (n + 1 + (tq l j).inp.length) c45 (preP V E S U l j ++ be 1 ((tq l j).inp.length) ++ ((tq l j).inp)) (((tq l j).pt).toNat) _ hO (by omega) (by omega)) ?_
    rintro _ w46 ⟨A47, c47, rfl, hO47, hw47, hT47⟩
    have hT0 := (hT0).then hT47 nB_hO
    have hB4 := hB4.tch hT47 (fun e => hO.blk_ne hB4 (by decide) _ e rfl)
    have hB28 := hB28.tch hT47 (fun e => hO.blk_ne hB28 (by decide) _ e rfl)
    have hO := hO47
    have nB_hO : ∀ c, (Value.slice A47 (n + 1 + (tq l j).inp.length + 2) c47).ownBlock = some c → w.heap.size ≤ c := fun c hc => (hw47 c hc).elim (nB_hO c) (fun q => by omega)
    refine zS [(4, .slice A47 (n + 1 + (tq l j).inp.length + 2) c47)] ?_
    refine op_nil ?_
    refine zF [(1, .pointer (some ⟨w.heap.size, 0, none⟩)), (4, .slice A47 (n + 1 + (tq l j).inp.length + 2) c47), (6, .pointer (some ⟨w23.heap.size, 0, none⟩)), (8, .int .i64 ((tq l j).pt)), (37, .slice A l.length c), (38, .int .i64 (l.length : Int)), (39, .int .i64 ((j : Nat) : Int)), (40, .bool (decide (((j : Nat) : Int) < (l.length : Int)))), (59, .agg #[.int .i64 ((tq l j).pt), .int .i64 ((tq l j).ms), .int .i64 ((tq l j).cd)]), (60, .int .i64 0), (61, .bool true)] fun ρ => ?_
    refine zR ?_
    refine zS [(67, .int .i64 1), (60, .int .i64 1)] ?_
    refine op_nil ?_
    refine Un_s ?_
    refine zQ ?_
    refine zS [(61, .bool true)] ?_
    refine op_nil ?_
    refine W_seq ?_
    refine zW true (fun _ => ?_) (fun h => nomatch h)
    refine W_skip ?_
    refine W_seq ?_
    refine W_block ?_
    refine zQ ?_
    refine zS [(62, .int .i64 ((tq l j).ms)), (8, .int .i64 ((tq l j).ms))] ?_
    refine op_nil ?_
    refine zR ?_
    refine zS [(63, .slice A47 (n + 1 + (tq l j).inp.length + 2) c47), (64, .int .i64 ((tq l j).ms)), (65, .int .u64 (IntKind.u64.wrap ((tq l j).ms)))] ?_
    rw [show IntKind.u64.wrap ((tq l j).ms) = (tq l j).ms from wrap_u64 (by omega) (by omega)]
    refine fixR (y := ((((tq l j).ms).toNat : Nat) : Int)) (by omega) ?_
    have hz_ := hT0.size
    refine zC (num2_ok A47 (n + 1 + (tq l j).inp.length + 2) c47 (preP V E S U l j ++ be 1 ((tq l j).inp.length) ++ ((tq l j).inp) ++ be 2 (((tq l j).pt).toNat)) (((tq l j).ms).toNat) _ hO (by omega) (by omega)) ?_
    rintro _ w48 ⟨A49, c49, rfl, hO49, hw49, hT49⟩
    have hT0 := (hT0).then hT49 nB_hO
    have hB4 := hB4.tch hT49 (fun e => hO.blk_ne hB4 (by decide) _ e rfl)
    have hB28 := hB28.tch hT49 (fun e => hO.blk_ne hB28 (by decide) _ e rfl)
    have hO := hO49
    have nB_hO : ∀ c, (Value.slice A49 (n + 1 + (tq l j).inp.length + 2 + 2) c49).ownBlock = some c → w.heap.size ≤ c := fun c hc => (hw49 c hc).elim (nB_hO c) (fun q => by omega)
    refine zS [(4, .slice A49 (n + 1 + (tq l j).inp.length + 2 + 2) c49)] ?_
    refine op_nil ?_
    refine zF [(1, .pointer (some ⟨w.heap.size, 0, none⟩)), (4, .slice A49 (n + 1 + (tq l j).inp.length + 2 + 2) c49), (6, .pointer (some ⟨w23.heap.size, 0, none⟩)), (8, .int .i64 ((tq l j).ms)), (37, .slice A l.length c), (38, .int .i64 (l.length : Int)), (39, .int .i64 ((j : Nat) : Int)), (40, .bool (decide (((j : Nat) : Int) < (l.length : Int)))), (59, .agg #[.int .i64 ((tq l j).pt), .int .i64 ((tq l j).ms), .int .i64 ((tq l j).cd)]), (60, .int .i64 1), (61, .bool true)] fun ρ => ?_
    refine zR ?_
    refine zS [(67, .int .i64 2), (60, .int .i64 2)] ?_
    refine op_nil ?_
    refine Un_s ?_
    refine zQ ?_
    refine zS [(61, .bool true)] ?_
    refine op_nil ?_
    refine W_seq ?_
    refine zW true (fun _ => ?_) (fun h => nomatch h)
    refine W_skip ?_
    refine W_seq ?_
    refine W_block ?_
    refine zQ ?_
    refine zS [(62, .int .i64 ((tq l j).cd)), (8, .int .i64 ((tq l j).cd))] ?_
    refine op_nil ?_
    refine zR ?_
    refine zS [(63, .slice A49 (n + 1 + (tq l j).inp.length + 2 + 2) c49), (64, .int .i64 ((tq l j).cd)), (65, .int .u64 (IntKind.u64.wrap ((tq l j).cd)))] ?_
    rw [show IntKind.u64.wrap ((tq l j).cd) = (tq l j).cd from wrap_u64 (by omega) (by omega)]
    refine fixR (y := ((((tq l j).cd).toNat : Nat) : Int)) (by omega) ?_
    have hz_ := hT0.size
    refine zC (num2_ok A49 (n + 1 + (tq l j).inp.length + 2 + 2) c49 (preP V E S U l j ++ be 1 ((tq l j).inp.length) ++ ((tq l j).inp) ++ be 2 (((tq l j).pt).toNat) ++ be 2 (((tq l j).ms).toNat)) (((tq l j).cd).toNat) _ hO (by omega) (by omega)) ?_
    rintro _ w50 ⟨A51, c51, rfl, hO51, hw51, hT51⟩
    have hT0 := (hT0).then hT51 nB_hO
    have hB4 := hB4.tch hT51 (fun e => hO.blk_ne hB4 (by decide) _ e rfl)
    have hB28 := hB28.tch hT51 (fun e => hO.blk_ne hB28 (by decide) _ e rfl)
    have hO := hO51
    have nB_hO : ∀ c, (Value.slice A51 (n + 1 + (tq l j).inp.length + 2 + 2 + 2) c51).ownBlock = some c → w.heap.size ≤ c := fun c hc => (hw51 c hc).elim (nB_hO c) (fun q => by omega)
    refine zS [(4, .slice A51 (n + 1 + (tq l j).inp.length + 2 + 2 + 2) c51)] ?_
    refine op_nil ?_
    refine zF [(1, .pointer (some ⟨w.heap.size, 0, none⟩)), (4, .slice A51 (n + 1 + (tq l j).inp.length + 2 + 2 + 2) c51), (6, .pointer (some ⟨w23.heap.size, 0, none⟩)), (8, .int .i64 ((tq l j).cd)), (37, .slice A l.length c), (38, .int .i64 (l.length : Int)), (39, .int .i64 ((j : Nat) : Int)), (40, .bool (decide (((j : Nat) : Int) < (l.length : Int)))), (59, .agg #[.int .i64 ((tq l j).pt), .int .i64 ((tq l j).ms), .int .i64 ((tq l j).cd)]), (60, .int .i64 2), (61, .bool true)] fun ρ => ?_
    refine zR ?_
    refine zS [(67, .int .i64 3), (60, .int .i64 3)] ?_
    refine op_nil ?_
    refine Un_s ?_
    refine zQ ?_
    refine zS [(61, .bool false)] ?_
    refine op_nil ?_
    refine W_seq ?_
    refine zW false (fun h => nomatch h) (fun _ => ?_)
    refine W_exit ?_
    refine X_hit ?_
    refine zQ ?_
    refine zS [(68, .slice A51 (n + 1 + (tq l j).inp.length + 2 + 2 + 2) c51), (69, .pointer (some ⟨w23.heap.size, 4, none⟩))] ?_
    refine zL (.int .i64 ((tq l j).kd)) ((hB28.cell 4).trans rfl) ?_
    refine zS [(71, .int .u8 (IntKind.u8.wrap ((tq l j).kd))), (72, .pointer (some ⟨w23.heap.size, 3, none⟩))] ?_
    refine zL (.slice ((tq l j).gA) ((tq l j).img.length) ((tq l j).gC)) ((hB28.cell 3).trans rfl) ?_
    refine zS [(74, .int .i64 ((tq l j).img.length : Int)), (75, .int .u8 (IntKind.u8.wrap ((tq l j).img.length : Int)))] ?_
    have hz56 := hT0.size
    have lt57 := hB4.lt
    have lt58 := hB28.lt
    have lR_hO := hO.lt
    refine st (by rfl) (S_new (v := .slice (some ⟨w50.heap.size, 0, none⟩) 2 2) (ob := .cells #[.int .u8 (IntKind.u8.wrap ((tq l j).kd)), .int .u8 (IntKind.u8.wrap ((tq l j).img.length : Int))] 5) (by kernel_rfl) fun w52 hT53 hs54 hB55 => ?_)
    replace hB55 : Blk w52 (w50.heap.size) 5 [.int .u8 (IntKind.u8.wrap ((tq l j).kd)), .int .u8 (IntKind.u8.wrap ((tq l j).img.length : Int))] := hB55
    have hT0 := hT0.t0 hT53
    have hB4 := hB4.tch0 hT53
    have hB28 := hB28.tch0 hT53
    have hO := hO.tch0 hT53
    have hz_ := hT0.size
    have lt_hB4 := hB4.lt
    have lt_hB28 := hB28.lt
    have lt_hB55 := hB55.lt
    refine st (by rfl) (S_appendR 39 5 (.int .u8 0) 1 1 (n := n + 1 + (tq l j).inp.length + 2 + 2 + 2) (m := 2) (A := A51) (cp := c51) (cells := u8s (preP V E S U l j ++ be 1 ((tq l j).inp.length) ++ ((tq l j).inp) ++ be 2 (((tq l j).pt).toNat) ++ be 2 (((tq l j).ms).toNat) ++ be 2 (((tq l j).cd).toNat))) (news := [.int .u8 (IntKind.u8.wrap ((tq l j).kd)), .int .u8 (IntKind.u8.wrap ((tq l j).img.length : Int))]) (b := w50.heap.size) (off := 0) (c := 2) (by kernel_rfl) (by kernel_rfl) (by decide) (by kernel_rfl) (by kernel_rfl) (by kernel_rfl) hO (by rfl) (fun k u hk => by rw [Nat.zero_add, hB55.cell]; exact hk) (by simp [oneV]) (by simp only [maxLen]; omega) (by omega) fun A59 c59 w59 hO59 hw59 hT59 => ?_)
    rw [lo2 (by_lowI (by omega)) (by_low _), ← u8s_app] at hO59
    have hT0 := (hT0).then hT59 nB_hO
    have hB4 := hB4.tch hT59 (fun e => hO.blk_ne hB4 (by decide) _ e rfl)
    have hB28 := hB28.tch hT59 (fun e => hO.blk_ne hB28 (by decide) _ e rfl)
    have hO := hO59
    have nB_hO : ∀ c, (Value.slice A59 (n + 1 + (tq l j).inp.length + 2 + 2 + 2 + 2) c59).ownBlock = some c → w.heap.size ≤ c := fun c hc => (hw59 c hc).elim (nB_hO c) (fun q => by omega)
    refine zS [(4, .slice A59 (n + 1 + (tq l j).inp.length + 2 + 2 + 2 + 2) c59)] ?_
    refine op_nil ?_
    refine W_seq ?_
    refine zF [(1, .pointer (some ⟨w.heap.size, 0, none⟩)), (4, .slice A59 (n + 1 + (tq l j).inp.length + 2 + 2 + 2 + 2) c59), (6, .pointer (some ⟨w23.heap.size, 0, none⟩)), (8, .int .i64 ((tq l j).cd)), (37, .slice A l.length c), (38, .int .i64 (l.length : Int)), (39, .int .i64 ((j : Nat) : Int)), (40, .bool (decide (((j : Nat) : Int) < (l.length : Int)))), (59, .agg #[.int .i64 ((tq l j).pt), .int .i64 ((tq l j).ms), .int .i64 ((tq l j).cd)]), (60, .int .i64 3), (61, .bool false)] fun ρ => ?_
    refine zR ?_
    refine zS [(78, .pointer (some ⟨w23.heap.size, 3, none⟩))] ?_
    refine zL (.slice ((tq l j).gA) ((tq l j).img.length) ((tq l j).gC)) ((hB28.cell 3).trans rfl) ?_
    refine zS [(80, .int .i64 ((tq l j).img.length : Int)), (81, .int .i64 0)] ?_
    refine op_nil ?_
    refine W_block ?_
    refine W_loop (fun m ρ w' => ∃ (C : Option Addr) (n2 cc i2 : Nat) (ρ0 : Env), ρ = updL ρ0 [(1, .pointer (some ⟨w.heap.size, 0, none⟩)), (4, .slice C n2 cc), (37, .slice A l.length c), (38, .int .i64 (l.length : Int)), (39, .int .i64 ((j : Nat) : Int)), (79, .slice ((tq l j).gA) ((tq l j).img.length) ((tq l j).gC)), (80, .int .i64 ((tq l j).img.length : Int)), (81, .int .i64 ((i2 : Nat) : Int))] ∧ (i2 ≤ (tq l j).img.length) ∧ (n2 ≤ 12 + 2400 * j + 300 + 8 * i2) ∧ (∀ c, (Value.slice C n2 cc).ownBlock = some c → w.heap.size ≤ c) ∧ Tch N0 w w' ∧ Blk w' (w.heap.size) 25 [.int .i64 V, .int .i64 E, .slice A l.length c, .int .i64 S, .int .i64 U] ∧ Own w' 0 5 1 (.slice C n2 cc) n2 (u8s (preI V E S U l j i2)) ∧ m = (tq l j).img.length + 1 - i2) (m := (tq l j).img.length + 1 - 0) ?_ ?_
    ·
     refine ⟨A59, n + 1 + (tq l j).inp.length + 2 + 2 + 2 + 2, c59, 0, _, updL_self (by kernel_rfl), by omega, by omega, nB_hO, hT0, hB4, (by have q := hO; rw [show preP V E S U l j ++ be 1 ((tq l j).inp.length) ++ ((tq l j).inp) ++ be 2 (((tq l j).pt).toNat) ++ be 2 (((tq l j).ms).toNat) ++ be 2 (((tq l j).cd).toNat) ++ (be 1 ((tq l j).kd.toNat) ++ be 1 ((tq l j).img.length)) = preI V E S U l j 0 from by rw [preI_0]; unfold encH core; simp only [List.append_assoc]] at q; exact q), rfl⟩
    ·
     rintro m ρ w60 ⟨C, n2, cc, i2, ρ, rfl, hi2, hn2, nB_hO, hT0, hB4, hO, rfl⟩
     refine zQ ?_
     refine zS [(82, .bool (decide (((i2 : Nat) : Int) < ((tq l j).img.length : Int))))] ?_
     refine op_nil ?_
     refine W_seq ?_
     refine zW (decide (((i2 : Nat) : Int) < ((tq l j).img.length : Int))) (fun hc61 => ?_) (fun hc61 => ?_)
     ·
      replace hc61 : ((i2 : Nat) : Int) < ((tq l j).img.length : Int) := (of_decide_eq_true hc61)
      refine W_skip ?_
      refine W_seq ?_
      refine W_block ?_
      refine zQ ?_
      refine stv (v := ptrAt ((tq l j).gA) i2) (by rfl) (R_indexRd1 (len := (tq l j).img.length) (cap := (tq l j).gC) (k := .i64) (i := ((i2 : Nat) : Int)) (e := 44) i2 ((hR.rg (by omega)).tch0 hT0) (by kernel_rfl) (by kernel_rfl) (by kernel_rfl) (by kernel_rfl) rfl (by omega)) ?_
      refine stv (v := .int .u64 (((tq l j).img.getD i2 0 : Nat) : Int)) (by rfl) (R_loadRd (v := .int .u64 (((tq l j).img.getD i2 0 : Nat) : Int)) ((hR.rg (by omega)).tch0 hT0) (by omega) (by kernel_rfl) (by kernel_rfl) (u64s_at (by omega))) ?_
      refine zS [(10, .int .u64 (((tq l j).img.getD i2 0 : Nat) : Int))] ?_
      refine op_nil ?_
      have hil := img_lt hR (j := j) (i := i2) (by omega) (by omega)
      refine zR ?_
      refine zS [(85, .slice C n2 cc), (86, .int .u64 (((tq l j).img.getD i2 0 : Nat) : Int))] ?_
      have hz_ := hT0.size
      refine zC (num8_ok C n2 cc (preI V E S U l j i2) ((tq l j).img.getD i2 0) _ hO (by omega) (by omega)) ?_
      rintro _ w62 ⟨A63, c63, rfl, hO63, hw63, hT63⟩
      have hT0 := (hT0).then hT63 nB_hO
      have hB4 := hB4.tch hT63 (fun e => hO.blk_ne hB4 (by decide) _ e rfl)
      have hO := hO63
      have nB_hO : ∀ c, (Value.slice A63 (n2 + 8) c63).ownBlock = some c → w.heap.size ≤ c := fun c hc => (hw63 c hc).elim (nB_hO c) (fun q => by omega)
      refine zS [(4, .slice A63 (n2 + 8) c63)] ?_
      refine op_nil ?_
      refine zF [(1, .pointer (some ⟨w.heap.size, 0, none⟩)), (4, .slice A63 (n2 + 8) c63), (10, .int .u64 (((tq l j).img.getD i2 0 : Nat) : Int)), (37, .slice A l.length c), (38, .int .i64 (l.length : Int)), (39, .int .i64 ((j : Nat) : Int)), (79, .slice ((tq l j).gA) ((tq l j).img.length) ((tq l j).gC)), (80, .int .i64 ((tq l j).img.length : Int)), (81, .int .i64 ((i2 : Nat) : Int)), (82, .bool (decide (((i2 : Nat) : Int) < ((tq l j).img.length : Int))))] fun ρ => ?_
      refine zR ?_
      refine zS [(88, .int .i64 (IntKind.i64.wrap (((i2 : Nat) : Int) + 1)))] ?_
      rw [show IntKind.i64.wrap (((i2 : Nat) : Int) + 1) = ((i2 : Nat) : Int) + 1 from wrap_i64 (by omega) (by omega)]
      refine fixR (y := ((i2 + 1 : Nat) : Int)) (by omega) ?_
      refine zS [(81, .int .i64 ((i2 + 1 : Nat) : Int))] ?_
      refine op_nil ?_
      refine ⟨_, (by omega), A63, n2 + 8, c63, i2 + 1, _, updL_self (by kernel_rfl), (by omega), (by omega), nB_hO, hT0, hB4, (by have q := hO; rw [← preI_step (by omega)] at q; exact q), rfl⟩
     ·
      replace hc61 : ((tq l j).img.length : Int) ≤ ((i2 : Nat) : Int) := (Int.not_lt.1 (of_decide_eq_false hc61))
      refine W_exit ?_
      refine X_hit ?_
      refine zR ?_
      refine zS [(89, .int .i64 (IntKind.i64.wrap (((j : Nat) : Int) + 1)))] ?_
      rw [show IntKind.i64.wrap (((j : Nat) : Int) + 1) = ((j : Nat) : Int) + 1 from wrap_i64 (by omega) (by omega)]
      refine fixR (y := ((j + 1 : Nat) : Int)) (by omega) ?_
      refine zS [(39, .int .i64 ((j + 1 : Nat) : Int))] ?_
      refine op_nil ?_
      refine ⟨_, (by omega), C, n2, cc, j + 1, _, updL_self (by kernel_rfl), (by omega), (by omega), nB_hO, hT0, hB4, (by have q := hO; rw [show i2 = (tq l j).img.length by omega, preI_all (by omega)] at q; exact q), rfl⟩
   ·
    replace hc24 : (l.length : Int) ≤ ((j : Nat) : Int) := (Int.not_lt.1 (of_decide_eq_false hc24))
    refine W_exit ?_
    refine X_hit ?_
    refine W_seq ?_
    have hjl : j = l.length := by omega
    subst hjl
    have hOl := hO.1
    rw [u8s_length] at hOl
    obtain ⟨g, sp, hA9, hG, hsl, _, _⟩ := hO.blk1 (by have := enc_pos V E S U l; omega)
    subst hA9
    refine zR ?_
    refine zS [(90, .slice (some ⟨g, 0, none⟩) n cb)] ?_
    refine stv (v := .string (bsT (preP V E S U l l.length))) (by rfl) (R_b2s (l := preP V E S U l l.length) (len := n) (cap := cb) (by kernel_rfl) (by kernel_rfl) (by kernel_rfl) (by kernel_rfl) (by omega) (blk_pre hG)) ?_
    refine zS [(2, .string (bsT (preP V E S U l l.length))), (3, .int .i64 0)] ?_
    refine op_nil ?_
    refine W_ret ?_
    refine ⟨_, Res_of (v := .tuple #[.string (bsT (preP V E S U l l.length)), .int .i64 0]) (by kernel_rfl), ?_⟩
    have hq := put_t hmay
    rw [hq.1, hq.2, ← preP_all]
    exact ⟨rfl, hT0⟩

end Go.Proofs.YtlkjhkennbdbnaaV
