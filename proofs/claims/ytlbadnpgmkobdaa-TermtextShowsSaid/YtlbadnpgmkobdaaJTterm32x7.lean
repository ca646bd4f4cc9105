/- Texts laid together: Walks of functions of the program and of the document's texts. The conditions stand with each theorem. Terms' texts: plain. No two terms have one text: plain. A term's text tells the term: plain. Walks of functions of the program and of the document's texts. The conditions stand with each theorem. A loop whose measure is two numbers; a row cut short. Which terms a term is made of: steps of the reckoning, plain. Texts of all terms, as the document makes them: plain. -/
import Derived.Test.YtlbadnpgmkobdaaJTterm32x1
import Derived.Test.YtlbadnpgmkobdaaProg
import Derived.Test.YtlbadnpgmkobdaaJTterm32x6
import Derived.Test.YtlbadnpgmkobdaaJTterm32x3
set_option linter.unusedVariables false
set_option linter.unusedSimpArgs false
namespace Go.Proofs.YtlbadnpgmkobdaaV
open Go Go.RowKit Go.Proofs

def errV (b : Bool) : Value := cond b .nilIface (.iface 86 (.string (bsT [116, 111, 111, 32, 108, 111, 110, 103])))
section
variable {ρ : Env} {w : World}
theorem R_errNeq {d : Option Tmp} {u : TypeId} {r : Tmp} {ty : TypeId} {pos : String} {af : Array Edge} {g : Option (Nat × Bool)} {b : Bool} (hx : evR ρ (.tmp r) = errV b) :
  (execOp (evR ρ) ⟨d, .binOp .neq 83 (.tmp r) (.const .nilIface) u, ty, pos, af, g⟩).run Try.prog w = .ok (.value (.bool (!b))) w := by
 refine pureR_run ?_
 simp only [execOp, hx]
 cases b <;> kernel_rfl
end
/-- A writer: its block, its text. -/
def BW (G : Nat → Prop) (w : World) (q p : Nat) (t : Tx) : Prop :=
 ∃ a A n cp, Blk w q 81 [.pointer (some ⟨p, 0, none⟩), .pointer a, .slice A n cp] ∧ n = t.length ∧ (a = none ∨ a = some ⟨q, 1, none⟩) ∧ Own w 0 5 1 (.slice A n cp) n (u8s t) ∧ G q ∧ (∀ c, (Value.slice A n cp).ownBlock = some c → G c) ∧ ∀ c, G c → c < w.heap.size
theorem BW.lt {G : Nat → Prop} {w : World} {q p : Nat} {t : Tx} (h : BW G w q p t) : ∀ c, G c → c < w.heap.size := by obtain ⟨_, _, _, _, _, _, _, _, _, _, h⟩ := h; exact h
theorem BW.tch0 {G : Nat → Prop} {w w' : World} {q p : Nat} {t : Tx} (h : BW G w q p t) (k : Tch N0 w w') : BW G w' q p t := by
 obtain ⟨a, A, n, cp, h1, h2, h3, h4, h5, h6, h7⟩ := h
 exact ⟨a, A, n, cp, h1.tch0 k, h2, h3, h4.tch0 k, h5, h6, fun c hc => Nat.lt_of_lt_of_le (h7 c hc) k.size⟩
theorem BW.tchS {G S : Nat → Prop} {w w' : World} {q p : Nat} {t : Tx} (h : BW G w q p t) (k : Tch S w w') (hs : ∀ b, S b → ¬ G b) : BW G w' q p t := by
 obtain ⟨a, A, n, cp, h1, h2, h3, h4, h5, h6, h7⟩ := h
 exact ⟨a, A, n, cp, h1.tch k (fun e => hs _ e h5), h2, h3, h4.tch k (fun c hc e => hs _ e (h6 c hc)), h5, h6, fun c hc => Nat.lt_of_lt_of_le (h7 c hc) k.size⟩
theorem shape_blk {w : World} {b t : Nat} {l : List Value} (h : Blk w b t l) : w.shape? b = some (t, l.length) := by
 unfold Blk at h
 simp [World.shape?, h]

set_option maxRecDepth 100000 in
theorem blen_ok (G : Nat → Prop) (q p : Nat) (t : Tx) (w : World) (hB : BW G w q p t) : Ret Try.prog 98 [.pointer (some ⟨q, 1, none⟩)] w fun v w' => v = .int .i64 ((t.length : Nat) : Int) ∧ Tch N0 w w' := by
 obtain ⟨a, A, n, cp, hQ, hn, ha, hO, hGq, hGA, hGl⟩ := hB
 subst hn
 refine enter Try.func98 rfl rfl ?_
 refine zQ ?_
 refine zS [(2, .int .i64 0)] ?_
 refine op_nil ?_
 refine zQ ?_
 refine zS [(3, .pointer (some ⟨q, 1, none⟩)), (4, .pointer (some ⟨q, 1, none⟩)), (5, .pointer (some ⟨q, 2, none⟩))] ?_
 refine zL (.slice A t.length cp) ((hQ.cell 2).trans rfl) ?_
 refine zS [(7, .int .i64 (t.length : Int)), (2, .int .i64 (t.length : Int))] ?_
 refine op_nil ?_
 refine W_ret ?_
 exact ⟨_, Res_of (v := .int .i64 (t.length : Int)) (by kernel_rfl), ⟨rfl, Tch.refl _ _⟩⟩

theorem sz79 : (Try.prog.info? 79).map (·.size) = some 2 := by kernel_rfl
theorem lies79 : liesAt Try.prog Try.prog.depth 81 (3 / Try.prog.cellsOf 81) 1 79 1 = true := by kernel_rfl

set_option maxRecDepth 100000 in
theorem cc0_ok (q : Nat) (X Y : Value) (w : World) (hQ : Blk w q 81 [X, .pointer none, Y]) : Ret Try.prog 115 [.pointer (some ⟨q, 1, none⟩)] w fun v w' => v = .tuple #[] ∧ Blk w' q 81 [X, .pointer (some ⟨q, 1, none⟩), Y] ∧ Tch (one q) w w' := by
 obtain ⟨j, hj, hjs⟩ := Option.map_eq_some_iff.1 sz79
 have hsh := shape_blk hQ
 refine enter Try.func115 rfl rfl ?_
 refine zQ ?_
 refine zS [(2, .pointer (some ⟨q, 1, none⟩)), (3, .pointer (some ⟨q, 1, none⟩)), (4, .pointer (some ⟨q, 1, none⟩))] ?_
 refine zL (.pointer none) ((hQ.cell 1).trans rfl) ?_
 refine zS [(6, .bool true)] ?_
 refine zO true (fun _ => ?_) (fun h => nomatch h)
 refine zR ?_
 refine zS [(7, .pointer (some ⟨q, 1, none⟩)), (8, .pointer (some ⟨q, 1, none⟩))] ?_
 refine stv (v := .pointer (some ⟨q, 1, none⟩)) (by rfl) (R_conv (v := .pointer (some ⟨q, 1, none⟩)) (by kernel_rfl) (Lib.run_to_unsafe w ⟨q, 1, none⟩ (by kernel_rfl) (by kernel_rfl) hj (by rw [hjs]; decide) hsh (by show (1 : Nat) < 3; omega))) ?_
 refine stv (v := .pointer (some ⟨q, 1, none⟩)) (by rfl) (R_pure (by kernel_rfl)) ?_
 refine stv (v := .pointer (some ⟨q, 1, none⟩)) (by rfl) (R_conv (v := .pointer (some ⟨q, 1, none⟩)) (by kernel_rfl) (Lib.run_from_unsafe w ⟨q, 1, none⟩ (by kernel_rfl) (by kernel_rfl) hj hsh lies79)) ?_
 refine zS [(12, .pointer (some ⟨q, 1, none⟩)), (13, .pointer (some ⟨q, 1, none⟩))] ?_
 refine st (by rfl) (S_store (b := q) (j := 1) (v := .pointer (some ⟨q, 1, none⟩)) (by kernel_rfl) (by kernel_rfl) (by kernel_rfl) (by rfl) hQ (by simp) fun w1 hT2 hs3 hQ' => ?_)
 replace hQ : Blk w1 q 81 [X, .pointer (some ⟨q, 1, none⟩), Y] := hQ'
 refine op_nil ?_
 exact ⟨_, Res_of (v := .tuple #[]) (by kernel_rfl), ⟨rfl, hQ, hT2⟩⟩

set_option maxRecDepth 100000 in
theorem cc1_ok (q : Nat) (X Y : Value) (w : World) (hQ : Blk w q 81 [X, .pointer (some ⟨q, 1, none⟩), Y]) : Ret Try.prog 115 [.pointer (some ⟨q, 1, none⟩)] w fun v w' => v = .tuple #[] ∧ Blk w' q 81 [X, .pointer (some ⟨q, 1, none⟩), Y] ∧ Tch (one q) w w' := by
 obtain ⟨j, hj, hjs⟩ := Option.map_eq_some_iff.1 sz79
 refine enter Try.func115 rfl rfl ?_
 refine zQ ?_
 refine zS [(2, .pointer (some ⟨q, 1, none⟩)), (3, .pointer (some ⟨q, 1, none⟩)), (4, .pointer (some ⟨q, 1, none⟩))] ?_
 refine zL (.pointer (some ⟨q, 1, none⟩)) ((hQ.cell 1).trans rfl) ?_
 refine zS [(6, .bool false)] ?_
 refine zO false (fun h => nomatch h) (fun _ => ?_)
 refine zQ ?_
 refine zS [(14, .pointer (some ⟨q, 1, none⟩)), (15, .pointer (some ⟨q, 1, none⟩)), (16, .pointer (some ⟨q, 1, none⟩))] ?_
 refine zL (.pointer (some ⟨q, 1, none⟩)) ((hQ.cell 1).trans rfl) ?_
 refine zS [(18, .pointer (some ⟨q, 1, none⟩))] ?_
 refine stv (v := .bool false) (by rfl) (R_binop (v := .pointer (some ⟨q, 1, none⟩)) (v' := .pointer (some ⟨q, 1, none⟩)) (by kernel_rfl) (by kernel_rfl) (by kernel_rfl) (Lib.run_neq_ptr_same w ⟨q, 1, none⟩ (by kernel_rfl) hj)) ?_
 refine zO false (fun h => nomatch h) (fun _ => ?_)
 refine W_skip ?_
 exact ⟨_, Res_of (v := .tuple #[]) (by kernel_rfl), ⟨rfl, hQ, Tch.refl _ _⟩⟩

theorem cc_ok (q : Nat) (X Y : Value) (a : Option Addr) (w : World) (hQ : Blk w q 81 [X, .pointer a, Y]) (ha : a = none ∨ a = some ⟨q, 1, none⟩) : Ret Try.prog 115 [.pointer (some ⟨q, 1, none⟩)] w fun v w' => v = .tuple #[] ∧ Blk w' q 81 [X, .pointer (some ⟨q, 1, none⟩), Y] ∧ Tch (one q) w w' := by
 rcases ha with rfl | rfl
 ·
  exact cc0_ok q X Y w hQ
 ·
  exact cc1_ok q X Y w hQ

set_option maxRecDepth 100000 in
theorem ws_ok (G : Nat → Prop) (q p : Nat) (t : Tx) (z : Tx) (w : World) (hB : BW G w q p t) (hl : t.length + z.length ≤ 140737488355328) : Ret Try.prog 99 [.pointer (some ⟨q, 1, none⟩), .string (bsT z)] w fun v w' => v = .tuple #[.int .i64 ((z.length : Nat) : Int), .nilIface] ∧ ∃ G', BW G' w' q p (t ++ z) ∧ Mv G G' w w' := by
 obtain ⟨a, A, n, cp, hQ, hn, ha, hO, hGq, hGA, hGl⟩ := hB
 have hMv := Mv.refl G w
 refine enter Try.func99 rfl rfl ?_
 refine zQ ?_
 refine zS [(4, .int .i64 0), (5, .nilIface)] ?_
 refine op_nil ?_
 refine zQ ?_
 refine zS [(6, .pointer (some ⟨q, 1, none⟩))] ?_
 have lQ_ := hQ.lt
 refine zC (cc_ok q _ _ a _ hQ ha) ?_
 rintro _ w1 ⟨rfl, hQ1, hT2⟩
 have hO := hO.tch hT2 (fun c hc e => hO.blk_ne hQ (by decide) c hc e)
 have hMv := hMv.trans (.same ((hT2).weaken (fun b _ e => by have : b = q := e; rw [this]; exact hGq)))
 have hQ := hQ1
 refine op_nil ?_
 refine zQ ?_
 refine zS [(8, .pointer (some ⟨q, 1, none⟩)), (9, .pointer (some ⟨q, 1, none⟩)), (10, .pointer (some ⟨q, 1, none⟩)), (11, .pointer (some ⟨q, 2, none⟩))] ?_
 refine zL (.slice A n cp) ((hQ.cell 2).trans rfl) ?_
 refine zS [(13, .string (bsT z))] ?_
 have hMs := hMv.1.size
 refine st (by rfl) (S_appendS 77 9 5 (n := n) (A := A) (cp := cp) (cells := u8s t) (s := z) (by kernel_rfl) (by kernel_rfl) (by kernel_rfl) (by kernel_rfl) (by kernel_rfl) hO (by omega) fun A2 cp2 w3 hO2 hw2 hT4 => ?_)
 have hQ := hQ.tch hT4 (fun e => hO.blk_ne hQ (by decide) _ e rfl)
 have hMv := hMv.trans (.same (hT4.weaken (fun b _ e => hGA b e)))
 have hO := hO2
 refine zS [(15, .pointer (some ⟨q, 1, none⟩)), (16, .pointer (some ⟨q, 2, none⟩))] ?_
 refine st (by rfl) (S_store (b := q) (j := 2) (v := .slice A2 (n + z.length) cp2) (by kernel_rfl) (by kernel_rfl) (by kernel_rfl) (by rfl) hQ (by simp) fun w5 hT6 hs7 hQ' => ?_)
 have hMv := hMv.trans (.same ((hT6).weaken (fun b _ e => by have : b = q := e; rw [this]; exact hGq)))
 have hO := hO.tch hT6 (fun c hc e => hO.blk_ne hQ (by decide) c hc e)
 replace hQ : Blk w5 q 81 [.pointer (some ⟨p, 0, none⟩), .pointer (some ⟨q, 1, none⟩), .slice A2 (n + z.length) cp2] := hQ'
 refine op_nil ?_
 refine W_seq ?_
 refine zF [(0, .pointer (some ⟨q, 1, none⟩)), (1, .string (bsT z)), (4, .int .i64 0), (5, .nilIface)] fun ρ => ?_
 refine zR ?_
 refine zS [(17, .string (bsT z)), (18, .int .i64 ((z.length : Nat) : Int)), (4, .int .i64 ((z.length : Nat) : Int)), (5, .nilIface)] ?_
 refine op_nil ?_
 refine W_ret ?_
 refine ⟨_, Res_of (v := .tuple #[.int .i64 ((z.length : Nat) : Int), .nilIface]) (by kernel_rfl), ?_⟩
 have hlt := hO.lt
 refine ⟨rfl, fun c => G c ∨ (Value.slice A2 (n + z.length) cp2).ownBlock = some c, ⟨_, A2, n + z.length, cp2, hQ, by rw [List.length_append, hn], .inr rfl, by rw [u8s_app]; exact hO, .inl hGq, fun c hc => .inr hc, ?_⟩, ⟨hMv.1, ?_⟩⟩
 ·
  rintro c (hc | hc)
  ·
   exact Nat.lt_of_lt_of_le (hGl c hc) hMv.1.size
  ·
   exact hlt c hc
 ·
  rintro c (hc | hc)
  ·
   exact .inl hc
  ·
   exact (hw2 c hc).elim (fun e => .inl (hGA c e)) (fun e => .inr (by omega))

set_option maxRecDepth 100000 in
theorem bstr_ok (G : Nat → Prop) (q p : Nat) (t : Tx) (w : World) (hB : BW G w q p t) (h0 : t ≠ []) : Ret Try.prog 47 [.pointer (some ⟨q, 1, none⟩)] w fun v w' => v = .string (bsT t) ∧ Tch G w w' := by
 obtain ⟨a, A, n, cp, hQ, hn, ha, hO, hGq, hGA, hGl⟩ := hB
 obtain ⟨g, sp, rfl, hG, hsl, hnc, hcm⟩ := hO.blk1 (by rw [hn]; exact List.length_pos_iff.2 h0)
 have hsh := shape_blk hG
 rw [hsl] at hsh
 simp only [maxLen] at hcm
 have h0l : 0 < t.length := List.length_pos_iff.2 h0
 subst hn
 refine enter Try.func47 rfl rfl ?_
 refine zQ ?_
 refine zS [(2, .string (bsT ([])))] ?_
 refine op_nil ?_
 refine W_seq ?_
 refine W_tail 10 (by kernel_rfl) (by kernel_rfl) (by kernel_rfl) fun w1 hT2 hh3 => ?_
 have hT0 := hT2
 have hQ := hQ.tch0 hT2
 have hG := hG.tch0 hT2
 refine qsg [(3, .pointer (some ⟨q, 1, none⟩)), (4, .pointer (some ⟨q, 1, none⟩)), (5, .pointer (some ⟨q, 2, none⟩))] (by kernel_rfl) ?_
 refine q_val (v := .slice (some ⟨g, 0, none⟩) t.length cp) (by rfl) (R_load (v := .slice (some ⟨g, 0, none⟩) t.length cp) (by kernel_rfl) (by kernel_rfl) ((hQ.cell 2).trans rfl)) ?_
 refine q_val (v := .pointer (some ⟨g, 0, none⟩)) (by rfl) (R_usd (n := t.length) (c := cp) (by kernel_rfl) (by omega)) ?_
 refine qsg [(8, .pointer (some ⟨q, 1, none⟩)), (9, .pointer (some ⟨q, 1, none⟩)), (10, .pointer (some ⟨q, 2, none⟩))] (by kernel_rfl) ?_
 refine q_val (v := .slice (some ⟨g, 0, none⟩) t.length cp) (by rfl) (R_load (v := .slice (some ⟨g, 0, none⟩) t.length cp) (by kernel_rfl) (by kernel_rfl) ((hQ.cell 2).trans rfl)) ?_
 refine qsg [(12, .int .i64 (t.length : Int))] (by kernel_rfl) ?_
 refine q_nil ?_
 have hsh2 := shape_blk hG; rw [hsl] at hsh2
 refine st (by rfl) (S_ustr (e := 5) (q := g) (cells := cp) (l := t) (by kernel_rfl) (by kernel_rfl) (by kernel_rfl) (by kernel_rfl) hsh2 h0 (by omega) (by omega) (fun k u hk => by rw [hG.cell, List.getElem?_append_left (by rw [u8s_length]; rcases Nat.lt_or_ge k t.length with h | h; exact h; rw [List.getElem?_eq_none (by rw [u8s_length]; exact h)] at hk; cases hk)]; exact hk) fun w4 hT5 => ?_)
 have hT9 : Tch G w w4 := (hT0).trans hT5 (fun _ _ e => e.elim) (fun b _ e => by have : b = g := e; rw [this]; exact hGA g rfl)
 refine zS [(2, .string (bsT t))] ?_
 refine op_nil ?_
 refine W_ret ?_
 exact ⟨_, Res_of (v := .string (bsT t)) (by kernel_rfl), ⟨rfl, hT9⟩⟩

set_option maxRecDepth 100000 in
theorem is_ok (w : World) : Ret Try.prog 71 [.iface 86 (.string (bsT ([116, 111, 111, 32, 108, 111, 110, 103]))), .iface 86 (.string (bsT ([116, 111, 111, 32, 108, 111, 110, 103]))), .bool true] w fun v w' => v = .bool true ∧ Tch N0 w w' := by
 refine enter Try.func71 rfl rfl ?_
 refine zQ ?_
 refine zS [(6, .bool false)] ?_
 refine op_nil ?_
 refine W_block ?_
 refine W_un 1 ?_
 refine Un_s ?_
 refine W_block ?_
 refine W_seq ?_
 refine zQ ?_
 refine zS [(14, .bool true), (15, .bool true), (16, .iface 86 (.string (bsT ([116, 111, 111, 32, 108, 111, 110, 103])))), (17, .iface 86 (.string (bsT ([116, 111, 111, 32, 108, 111, 110, 103])))), (18, .bool true), (19, .bool true)] ?_
 refine zO true (fun _ => ?_) (fun h => nomatch h)
 refine zQ ?_
 refine zS [(6, .bool true)] ?_
 refine op_nil ?_
 refine W_ret ?_
 exact ⟨_, Res_of (v := .bool true) (by kernel_rfl), ⟨rfl, Tch.refl _ _⟩⟩

set_option maxRecDepth 100000 in
theorem Is_t (w : World) : Ret Try.prog 46 [.iface 86 (.string (bsT ([116, 111, 111, 32, 108, 111, 110, 103]))), .iface 86 (.string (bsT ([116, 111, 111, 32, 108, 111, 110, 103])))] w fun v w' => v = .bool true ∧ Tch N0 w w' := by
 refine enter Try.func46 rfl rfl ?_
 refine zQ ?_
 refine zS [(4, .bool false)] ?_
 refine op_nil ?_
 refine W_seq ?_
 refine zQ ?_
 refine zS [(6, .iface 86 (.string (bsT ([116, 111, 111, 32, 108, 111, 110, 103])))), (7, .bool false), (8, .bool false), (9, .iface 86 (.string (bsT ([116, 111, 111, 32, 108, 111, 110, 103])))), (10, .bool false), (11, .bool false)] ?_
 refine zO false (fun h => nomatch h) (fun _ => ?_)
 refine W_skip ?_
 refine zQ ?_
 refine zS [(15, .iface 86 (.string (bsT ([116, 111, 111, 32, 108, 111, 110, 103]))))] ?_
 refine stv (v := .iface 162 (.agg #[.pointer (some ⟨0, 86, none⟩)])) (w' := w) (by rfl) (by kernel_rfl) ?_
 refine stv (v := .bool true) (w' := w) (by rfl) (by kernel_rfl) ?_
 refine zS [(5, .bool true)] ?_
 refine op_nil ?_
 refine W_seq ?_
 refine zF [(0, .iface 86 (.string (bsT ([116, 111, 111, 32, 108, 111, 110, 103])))), (1, .iface 86 (.string (bsT ([116, 111, 111, 32, 108, 111, 110, 103])))), (4, .bool false), (5, .bool true), (11, .bool false)] fun ρ => ?_
 refine zR ?_
 refine zS [(18, .iface 86 (.string (bsT ([116, 111, 111, 32, 108, 111, 110, 103])))), (19, .iface 86 (.string (bsT ([116, 111, 111, 32, 108, 111, 110, 103])))), (20, .bool true)] ?_
 refine zC (is_ok _) ?_
 rintro _ w1 ⟨rfl, hT2⟩
 have hT0 := hT2
 refine zS [(4, .bool true)] ?_
 refine op_nil ?_
 refine W_ret ?_
 exact ⟨_, Res_of (v := .bool true) (by kernel_rfl), ⟨rfl, hT0⟩⟩

set_option maxRecDepth 100000 in
theorem Is_n (w : World) : Ret Try.prog 46 [.nilIface, .iface 86 (.string (bsT ([116, 111, 111, 32, 108, 111, 110, 103])))] w fun v w' => v = .bool false ∧ Tch N0 w w' := by
 refine enter Try.func46 rfl rfl ?_
 refine zQ ?_
 refine zS [(4, .bool false)] ?_
 refine op_nil ?_
 refine W_seq ?_
 refine zQ ?_
 refine zS [(6, .nilIface), (7, .bool true), (8, .bool true), (9, undef), (10, undef), (11, .bool true)] ?_
 refine zO true (fun _ => ?_) (fun h => nomatch h)
 refine zQ ?_
 refine zS [(12, .nilIface), (13, .iface 86 (.string (bsT ([116, 111, 111, 32, 108, 111, 110, 103])))), (14, .bool false), (4, .bool false)] ?_
 refine op_nil ?_
 refine W_ret ?_
 exact ⟨_, Res_of (v := .bool false) (by kernel_rfl), ⟨rfl, Tch.refl _ _⟩⟩

theorem Is_ok (b : Bool) (w : World) : Ret Try.prog 46 [errV b, errV false] w fun v w' => v = .bool (!b) ∧ Tch N0 w w' := by
 cases b
 ·
  exact Is_t w
 ·
  exact Is_n w

set_option maxRecDepth 100000 in
theorem add_ok (G : Nat → Prop) (q p : Nat) (t : Tx) (z : Tx) (w : World) (hB : BW G w q p t) (ht : t.length ≤ 4096) (hz : z.length ≤ 1000000) : Ret Try.prog 67 [.pointer (some ⟨q, 0, none⟩), .string (bsT z)] w fun v w' => v = errV (decide (t.length + z.length ≤ 4096)) ∧ ∃ G' t', BW G' w' q p t' ∧ Mv G G' w w' ∧ t'.length ≤ 4096 ∧ (t.length + z.length ≤ 4096 → t' = t ++ z) := by
 have hMv := Mv.refl G w
 refine enter Try.func67 rfl rfl ?_
 refine zQ ?_
 refine zS [(4, .nilIface)] ?_
 refine op_nil ?_
 refine W_seq ?_
 refine zQ ?_
 refine zS [(5, .pointer (some ⟨q, 0, none⟩)), (6, .pointer (some ⟨q, 0, none⟩)), (7, .pointer (some ⟨q, 1, none⟩))] ?_
 refine zC (blen_ok G q p t _ hB) ?_
 rintro _ w1 ⟨rfl, hT2⟩
 have hB := hB.tch0 hT2
 have hMv := hMv.then0 hT2
 refine zS [(9, .string (bsT z)), (10, .int .i64 ((z.length : Nat) : Int)), (11, .int .i64 (IntKind.i64.wrap (((t.length : Nat) : Int) + ((z.length : Nat) : Int))))] ?_
 rw [show IntKind.i64.wrap (((t.length : Nat) : Int) + ((z.length : Nat) : Int)) = ((t.length : Nat) : Int) + ((z.length : Nat) : Int) from wrap_i64 (by omega) (by omega)]
 refine zS [(12, .bool (decide (((t.length : Nat) : Int) + ((z.length : Nat) : Int) > 4096)))] ?_
 refine zO (decide (((t.length : Nat) : Int) + ((z.length : Nat) : Int) > 4096)) (fun hc3 => ?_) (fun hc3 => ?_)
 ·
  replace hc3 : 4096 < ((t.length : Nat) : Int) + ((z.length : Nat) : Int) := (of_decide_eq_true hc3)
  refine W_seq ?_
  refine zF [(0, .pointer (some ⟨q, 0, none⟩)), (1, .string (bsT z)), (4, .nilIface), (12, .bool (decide (((t.length : Nat) : Int) + ((z.length : Nat) : Int) > 4096)))] fun ρ => ?_
  refine zR ?_
  refine zS [(13, .iface 86 (.string (bsT ([116, 111, 111, 32, 108, 111, 110, 103])))), (4, .iface 86 (.string (bsT ([116, 111, 111, 32, 108, 111, 110, 103]))))] ?_
  refine op_nil ?_
  refine W_ret ?_
  exact ⟨_, Res_of (v := .iface 86 (.string (bsT ([116, 111, 111, 32, 108, 111, 110, 103])))) (by kernel_rfl), ⟨by rw [decide_eq_false (by omega)]; rfl, _, t, hB, hMv, by omega, fun h => by omega⟩⟩
 ·
  replace hc3 : ((t.length : Nat) : Int) + ((z.length : Nat) : Int) ≤ 4096 := (Int.not_lt.1 (of_decide_eq_false hc3))
  refine W_skip ?_
  refine W_seq ?_
  refine zF [(0, .pointer (some ⟨q, 0, none⟩)), (1, .string (bsT z)), (4, .nilIface), (12, .bool (decide (((t.length : Nat) : Int) + ((z.length : Nat) : Int) > 4096)))] fun ρ => ?_
  refine zR ?_
  refine zS [(14, .pointer (some ⟨q, 0, none⟩)), (15, .pointer (some ⟨q, 0, none⟩)), (16, .pointer (some ⟨q, 1, none⟩)), (17, .string (bsT z))] ?_
  refine zC (ws_ok G q p t z _ hB (by omega)) ?_
  rintro _ w4 ⟨rfl, G5, hB, hM6⟩
  have hMv := hMv.trans hM6
  refine op_nil ?_
  refine zQ ?_
  refine zS [(4, .nilIface)] ?_
  refine op_nil ?_
  refine W_ret ?_
  exact ⟨_, Res_of (v := .nilIface) (by kernel_rfl), ⟨by rw [decide_eq_true (by omega)]; rfl, _, _, hB, hMv, by rw [List.length_append]; omega, fun _ => rfl⟩⟩

end Go.Proofs.YtlbadnpgmkobdaaV

set_option linter.unusedVariables false
set_option linter.unusedSimpArgs false
namespace Go.Proofs.YtlbadnpgmkobdaaV
open Go Go.RowKit Go.Proofs
/-- The word of an operator. -/
def wordT (o : Nat) : Tx :=
 if o = 1 then [97, 100, 100] else if o = 2 then [115, 117, 98] else if o = 3 then [109, 117, 108] else if o = 4 then [117, 100, 105, 118] else if o = 5 then [117, 114, 101, 109] else if o = 6 then [97, 110, 100]
 else if o = 7 then [111, 114] else if o = 8 then [120, 111, 114] else if o = 9 then [115, 104, 108] else if o = 10 then [115, 104, 114] else if o = 11 then [115, 97, 114] else if o = 12 then [101, 113]
 else if o = 13 then [117, 108, 116] else if o = 14 then [115, 108, 116] else if o = 15 then [110, 111, 116] else if o = 16 then [110, 101, 103] else if o = 22 then [105, 116, 101] else if o = 23 then [101, 120, 116]
 else if o = 24 then [99, 97, 116] else if o = 25 then [122, 101, 120, 116] else if o = 26 then [115, 101, 120, 116] else []
def tg (l : List Tx) (i : Nat) : Tx := l.getD i []
/-- A node's text, of those of all ahead. -/
def midT (n : Nd) : Tx := if nO n = 23 then [32] ++ dgs (nB n).toNat ++ [32] ++ dgs (nW n).toNat else if nO n = 25 ∨ nO n = 26 then [32] ++ dgs (nW n).toNat else []
def ndT (l : List Tx) (n : Nd) : Tx :=
 if nO n = 20 then dgs (nV n).toNat ++ [58] ++ dgs (nW n).toNat else if nO n = 21 then [120] ++ dgs (nA n).toNat ++ [58] ++ dgs (nW n).toNat
 else [40] ++ wordT (nO n).toNat ++ midT n ++ (kidsN n).flatMap (fun k => 32 :: tg l k) ++ [41]
def tl (N : List Nd) : Nat → List Tx
 | 0 => []
 | i + 1 => tl N i ++ [ndT (tl N i) (nth N i)]
theorem tl_length (N : List Nd) (i : Nat) : (tl N i).length = i := by
 induction i with
 | zero => rfl
 | succ i ih => show (tl N i ++ [_]).length = _; rw [List.length_append, ih]; rfl
def txt (N : List Nd) (i : Nat) : Tx := ndT (tl N i) (nth N i)
theorem tg_app_eq {l : List Tx} {x : Tx} : tg (l ++ [x]) l.length = x := by unfold tg; simp [List.getD_eq_getElem?_getD]
theorem tl_tg {N : List Nd} {i j : Nat} (h : i < j) : tg (tl N j) i = txt N i := by
 induction j with
 | zero => omega
 | succ j ih =>
  show tg (tl N j ++ [txt N j]) i = _
  by_cases e : i = j
  ·
   subst e
   have := tg_app_eq (l := tl N i) (x := txt N i)
   rw [tl_length] at this
   exact this
  ·
   have hl := tl_length N j
   unfold tg
   rw [List.getD_eq_getElem?_getD, List.getElem?_append_left (by omega), ← List.getD_eq_getElem?_getD]
   exact ih (by omega)
end Go.Proofs.YtlbadnpgmkobdaaV

set_option linter.unusedVariables false
set_option linter.unusedSimpArgs false
namespace Go.Proofs.YtlbadnpgmkobdaaV
open Go Go.RowKit Go.Proofs
end Go.Proofs.YtlbadnpgmkobdaaV

set_option linter.unusedVariables false
set_option linter.unusedSimpArgs false
namespace Go.Proofs.YtlbadnpgmkobdaaV
open Go Go.RowKit Go.Proofs
def opB (o : Nat) : Bool := (decide (1 ≤ o) && decide (o ≤ 16)) || (decide (22 ≤ o) && decide (o ≤ 26))
def opOK (o : Nat) : Prop := (1 ≤ o ∧ o ≤ 16) ∨ (22 ≤ o ∧ o ≤ 26)
theorem opOK.b {o : Nat} (h : opOK o) : opB o = true := by
 unfold opOK at h; unfold opB
 simp only [Bool.or_eq_true, Bool.and_eq_true, decide_eq_true_eq]; exact h
theorem flat_tg {N : List Nd} {i : Nat} : ∀ {ks : List Nat}, (∀ k, k ∈ ks → k < i) → ks.flatMap (fun k => 32 :: tg (tl N i) k) = ks.flatMap (fun k => 32 :: txt N k)
  | [], _ => rfl
  | k :: ks, h => by simp only [List.flatMap_cons]; rw [tl_tg (h k (by simp)), flat_tg (fun x hx => h x (by simp [hx]))]
theorem txt_c {N : List Nd} {i : Nat} (h : nO (nth N i) = 20) (s : Tx) : txt N i ++ s = dgs (nV (nth N i)).toNat ++ 58 :: (dgs (nW (nth N i)).toNat ++ s) := by
 rw [show txt N i = ndT (tl N i) (nth N i) from rfl]; unfold ndT; rw [if_pos h]; simp
theorem txt_v {N : List Nd} {i : Nat} (h : nO (nth N i) = 21) (s : Tx) : txt N i ++ s = 120 :: (dgs (nA (nth N i)).toNat ++ 58 :: (dgs (nW (nth N i)).toNat ++ s)) := by
 rw [show txt N i = ndT (tl N i) (nth N i) from rfl]; unfold ndT; rw [if_neg (by omega), if_pos h]; simp
theorem txt_o {N : List Nd} {i : Nat} (hn : NdW N i (nth N i)) (h : ¬ nO (nth N i) = 20) (h' : ¬ nO (nth N i) = 21) (s : Tx) : txt N i ++ s = 40 :: (wordT (nO (nth N i)).toNat ++ (midT (nth N i) ++ ((kidsN (nth N i)).flatMap (fun k => 32 :: txt N k) ++ 41 :: s))) := by
 rw [show txt N i = ndT (tl N i) (nth N i) from rfl]; unfold ndT; rw [if_neg h, if_neg h', flat_tg (kids_lt hn)]; simp
theorem NdW.pos {N : List Nd} {i : Nat} {n : Nd} (h : NdW N i n) (h1 : ¬ nO n = 20) (h2 : ¬ nO n = 21) : 0 ≤ nA n ∧ ((nO n ≤ 14 ∨ nO n = 24 ∨ nO n = 22 ∨ nO n = 23) → 0 ≤ nB n) ∧ (nO n = 22 → 0 ≤ nC n) ∧ 0 ≤ nO n ∧ opOK (nO n).toNat := by
 unfold opOK
 rcases h with h | h | ⟨h, a, e⟩ | ⟨h, a, b, e, e2⟩ | ⟨h, a, b, c, e, e2, e3⟩ | ⟨h, a, b, e⟩ | ⟨h, a, b, e⟩ | ⟨h, a, e⟩ <;> (try simp only [pt] at *) <;> omega
theorem NdW.wid {N : List Nd} {i j : Nat} {n m : Nd} (hn : NdW N i n) (hm : NdW N j m) (ho : nO n = nO m) (hA : nA n = nA m) (hB : (nO n ≤ 14 ∨ nO n = 24 ∨ nO n = 22) → nB n = nB m) (hop : ¬ (nO n = 20 ∨ nO n = 21 ∨ nO n = 23 ∨ nO n = 25 ∨ nO n = 26)) : nW n = nW m := by
 rcases hn with h | h | ⟨h, a, e⟩ | ⟨h, a, b, e, e2⟩ | ⟨h, a, b, c, e, e2, e3⟩ | ⟨h, a, b, e⟩ | ⟨h, a, b, e⟩ | ⟨h, a, e⟩
 ·
  omega
 ·
  omega
 ·
  rcases hm with h' | h' | ⟨h', a', e'⟩ | ⟨h', a', b', e', e2'⟩ | ⟨h', a', b', c', e', e2', e3'⟩ | ⟨h', a', b', e'⟩ | ⟨h', a', b', e'⟩ | ⟨h', a', e'⟩ <;> first | (exfalso; omega) | rw [e, e', hA]
 ·
  rcases hm with h' | h' | ⟨h', a', e'⟩ | ⟨h', a', b', e', e2'⟩ | ⟨h', a', b', c', e', e2', e3'⟩ | ⟨h', a', b', e'⟩ | ⟨h', a', b', e'⟩ | ⟨h', a', e'⟩ <;> first | (exfalso; omega) | rw [e2, e2', hA, ho]
 ·
  rcases hm with h' | h' | ⟨h', a', e'⟩ | ⟨h', a', b', e', e2'⟩ | ⟨h', a', b', c', e', e2', e3'⟩ | ⟨h', a', b', e'⟩ | ⟨h', a', b', e'⟩ | ⟨h', a', e'⟩ <;> first | (exfalso; omega) | rw [e3, e3', hB (by omega)]
 ·
  omega
 ·
  rcases hm with h' | h' | ⟨h', a', e'⟩ | ⟨h', a', b', e', e2'⟩ | ⟨h', a', b', c', e', e2', e3'⟩ | ⟨h', a', b', e'⟩ | ⟨h', a', b', e'⟩ | ⟨h', a', e'⟩ <;> first | (exfalso; omega) | rw [e, e', hA, hB (by omega)]
 ·
  omega
end Go.Proofs.YtlbadnpgmkobdaaV

set_option linter.unusedVariables false
set_option linter.unusedSimpArgs false
namespace Go.Proofs.YtlbadnpgmkobdaaV
open Go Go.RowKit Go.Proofs

def wdF (op : Int) : Tx := if op < 0 then [] else wordT op.toNat
theorem wordT_out {n : Nat} (h : n < 1 ∨ (16 < n ∧ n < 22) ∨ 26 < n) : wordT n = [] := by
 unfold wordT
 rw [if_neg (by omega), if_neg (by omega), if_neg (by omega), if_neg (by omega), if_neg (by omega), if_neg (by omega), if_neg (by omega), if_neg (by omega), if_neg (by omega), if_neg (by omega), if_neg (by omega), if_neg (by omega), if_neg (by omega), if_neg (by omega), if_neg (by omega), if_neg (by omega), if_neg (by omega), if_neg (by omega), if_neg (by omega), if_neg (by omega), if_neg (by omega)]
theorem wdF_out {op : Int} (h : op < 1 ∨ (16 < op ∧ op < 22) ∨ 26 < op) : wdF op = [] := by
 unfold wdF
 split
 ·
  rfl
 ·
  exact wordT_out (by omega)
theorem wdF_at {op : Int} {n : Nat} (h : op = (n : Int)) : wdF op = wordT n := by
 subst h
 unfold wdF
 rw [if_neg (by omega)]
 rfl
section
variable {P : Program} {ρ : Env} {w : World}
theorem R_idxV {d : Option Tmp} {t : TypeId} {x y : Operand} {ty : TypeId} {pos : String} {af : Array Edge} {g : Option (Nat × Bool)} {a b v : Value} (hx : evR ρ x = a) (hy : evR ρ y = b) (h : pureR P (Instr.index t a b) = some v) : (execOp (evR ρ) ⟨d, .index t x y, ty, pos, af, g⟩).run P w = .ok (.value v) w := by
 have h1 := pureR_run (w := w) h
 simp only [execOp, hx, hy]
 simp [h1]
end

theorem w16_at (n : Nat) (h : n < 16) : pureR Try.prog (Instr.index 92 (.agg #[.string (bsT [97, 100, 100]), .string (bsT [115, 117, 98]), .string (bsT [109, 117, 108]), .string (bsT [117, 100, 105, 118]), .string (bsT [117, 114, 101, 109]), .string (bsT [97, 110, 100]), .string (bsT [111, 114]), .string (bsT [120, 111, 114]), .string (bsT [115, 104, 108]), .string (bsT [115, 104, 114]), .string (bsT [115, 97, 114]), .string (bsT [101, 113]), .string (bsT [117, 108, 116]), .string (bsT [115, 108, 116]), .string (bsT [110, 111, 116]), .string (bsT [110, 101, 103])]) (.int .i64 ((n : Nat) : Int))) = some (.string (bsT (wordT (n + 1)))) := by
 have : n = 0 ∨ n = 1 ∨ n = 2 ∨ n = 3 ∨ n = 4 ∨ n = 5 ∨ n = 6 ∨ n = 7 ∨ n = 8 ∨ n = 9 ∨ n = 10 ∨ n = 11 ∨ n = 12 ∨ n = 13 ∨ n = 14 ∨ n = 15 := by omega
 rcases this with rfl | rfl | rfl | rfl | rfl | rfl | rfl | rfl | rfl | rfl | rfl | rfl | rfl | rfl | rfl | rfl <;> (show _ = _; kernel_rfl)
theorem w5_at (n : Nat) (h : n < 5) : pureR Try.prog (Instr.index 93 (.agg #[.string (bsT [105, 116, 101]), .string (bsT [101, 120, 116]), .string (bsT [99, 97, 116]), .string (bsT [122, 101, 120, 116]), .string (bsT [115, 101, 120, 116])]) (.int .i64 ((n : Nat) : Int))) = some (.string (bsT (wordT (n + 22)))) := by
 have : n = 0 ∨ n = 1 ∨ n = 2 ∨ n = 3 ∨ n = 4 := by omega
 rcases this with rfl | rfl | rfl | rfl | rfl <;> (show _ = _; kernel_rfl)
theorem w27_at (n : Nat) (h : n < 27) : ([.string (bsT []), .string (bsT [97, 100, 100]), .string (bsT [115, 117, 98]), .string (bsT [109, 117, 108]), .string (bsT [117, 100, 105, 118]), .string (bsT [117, 114, 101, 109]), .string (bsT [97, 110, 100]), .string (bsT [111, 114]), .string (bsT [120, 111, 114]), .string (bsT [115, 104, 108]), .string (bsT [115, 104, 114]), .string (bsT [115, 97, 114]), .string (bsT [101, 113]), .string (bsT [117, 108, 116]), .string (bsT [115, 108, 116]), .string (bsT [110, 111, 116]), .string (bsT [110, 101, 103]), .string (bsT []), .string (bsT []), .string (bsT []), .string (bsT []), .string (bsT []), .string (bsT [105, 116, 101]), .string (bsT [101, 120, 116]), .string (bsT [99, 97, 116]), .string (bsT [122, 101, 120, 116]), .string (bsT [115, 101, 120, 116])] : List Value)[n]? = some (.string (bsT (wordT n))) := by
 have : n = 0 ∨ n = 1 ∨ n = 2 ∨ n = 3 ∨ n = 4 ∨ n = 5 ∨ n = 6 ∨ n = 7 ∨ n = 8 ∨ n = 9 ∨ n = 10 ∨ n = 11 ∨ n = 12 ∨ n = 13 ∨ n = 14 ∨ n = 15 ∨ n = 16 ∨ n = 17 ∨ n = 18 ∨ n = 19 ∨ n = 20 ∨ n = 21 ∨ n = 22 ∨ n = 23 ∨ n = 24 ∨ n = 25 ∨ n = 26 := by omega
 rcases this with rfl | rfl | rfl | rfl | rfl | rfl | rfl | rfl | rfl | rfl | rfl | rfl | rfl | rfl | rfl | rfl | rfl | rfl | rfl | rfl | rfl | rfl | rfl | rfl | rfl | rfl | rfl <;> (show _ = _; kernel_rfl)

set_option maxRecDepth 100000 in
theorem word_ok (op : Int) (w : World) : Ret Try.prog 24 [.int .i64 op] w fun v w' => v = .string (bsT (wdF op)) ∧ Tch N0 w w' := by
 refine enter Try.func24 rfl rfl ?_
 refine zQ ?_
 refine zS [(2, .string (bsT ([])))] ?_
 refine op_nil ?_
 refine W_seq ?_
 refine W_block ?_
 refine zQ ?_
 refine zS [(4, .int .i64 op), (5, .bool (decide (op ≥ 1))), (6, .bool (decide (op ≥ 1)))] ?_
 cases hb1 : decide (op ≥ 1)
 ·
  replace hb1 : op < 1 := (Int.not_le.1 (of_decide_eq_false hb1))
  refine zS [(7, undef), (8, undef), (9, .bool false), (3, .bool false)] ?_
  refine zO false (fun h => nomatch h) (fun _ => ?_)
  refine W_seq ?_
  refine zF [(0, .int .i64 op), (2, .string (bsT ([]))), (3, .bool false)] fun ρ => ?_
  refine zR ?_
  refine zS [(15, .int .i64 op), (16, .bool (decide (op ≥ 22))), (17, .bool (decide (op ≥ 22)))] ?_
  cases hb2 : decide (op ≥ 22)
  ·
   replace hb2 : op < 22 := (Int.not_le.1 (of_decide_eq_false hb2))
   refine zS [(18, undef), (19, undef), (20, .bool false), (14, .bool false)] ?_
   refine zO false (fun h => nomatch h) (fun _ => ?_)
   refine W_skip ?_
   refine zQ ?_
   refine zS [(2, .string (bsT ([])))] ?_
   refine op_nil ?_
   refine W_ret ?_
   exact ⟨_, Res_of (v := .string (bsT ([]))) (by kernel_rfl), ⟨by rw [wdF_out (by omega)], Tch.refl _ _⟩⟩
  ·
   replace hb2 : 22 ≤ op := (of_decide_eq_true hb2)
   refine zS [(18, .int .i64 op), (19, .bool (decide (op ≤ 26))), (20, .bool (decide (op ≤ 26))), (14, .bool (decide (op ≤ 26)))] ?_
   refine zO (decide (op ≤ 26)) (fun hc3 => ?_) (fun hc3 => ?_)
   ·
    replace hc3 : op ≤ 26 := (of_decide_eq_true hc3)
    refine zQ ?_
    refine zS [(21, .agg #[.string (bsT ([105, 116, 101])), .string (bsT ([101, 120, 116])), .string (bsT ([99, 97, 116])), .string (bsT ([122, 101, 120, 116])), .string (bsT ([115, 101, 120, 116]))]), (22, .int .i64 op), (23, .int .i64 (IntKind.i64.wrap (op - 22)))] ?_
    rw [show IntKind.i64.wrap (op - 22) = op - 22 from wrap_i64 (by omega) (by omega)]
    refine stv (v := .string (bsT (wordT op.toNat))) (by rfl) (R_idxV (by kernel_rfl) (by kernel_rfl) (by have q := w5_at (op.toNat - 22) (by omega); rw [show op.toNat - 22 + 22 = op.toNat by omega, show (((op.toNat - 22 : Nat)) : Int) = op - 22 by omega] at q; exact q)) ?_
    refine zS [(2, .string (bsT (wordT op.toNat)))] ?_
    refine op_nil ?_
    refine W_ret ?_
    exact ⟨_, Res_of (v := .string (bsT (wordT op.toNat))) (by kernel_rfl), ⟨by rw [wdF_at (n := op.toNat) (by omega)], Tch.refl _ _⟩⟩
   ·
    replace hc3 : 26 < op := (Int.not_le.1 (of_decide_eq_false hc3))
    refine W_skip ?_
    refine zQ ?_
    refine zS [(2, .string (bsT ([])))] ?_
    refine op_nil ?_
    refine W_ret ?_
    exact ⟨_, Res_of (v := .string (bsT ([]))) (by kernel_rfl), ⟨by rw [wdF_out (by omega)], Tch.refl _ _⟩⟩
 ·
  replace hb1 : 1 ≤ op := (of_decide_eq_true hb1)
  refine zS [(7, .int .i64 op), (8, .bool (decide (op ≤ 16))), (9, .bool (decide (op ≤ 16))), (3, .bool (decide (op ≤ 16)))] ?_
  refine zO (decide (op ≤ 16)) (fun hc4 => ?_) (fun hc4 => ?_)
  ·
   replace hc4 : op ≤ 16 := (of_decide_eq_true hc4)
   refine W_seq ?_
   refine zF [(0, .int .i64 op), (2, .string (bsT ([]))), (3, .bool (decide (op ≤ 16)))] fun ρ => ?_
   refine zR ?_
   refine zS [(10, .agg #[.string (bsT ([97, 100, 100])), .string (bsT ([115, 117, 98])), .string (bsT ([109, 117, 108])), .string (bsT ([117, 100, 105, 118])), .string (bsT ([117, 114, 101, 109])), .string (bsT ([97, 110, 100])), .string (bsT ([111, 114])), .string (bsT ([120, 111, 114])), .string (bsT ([115, 104, 108])), .string (bsT ([115, 104, 114])), .string (bsT ([115, 97, 114])), .string (bsT ([101, 113])), .string (bsT ([117, 108, 116])), .string (bsT ([115, 108, 116])), .string (bsT ([110, 111, 116])), .string (bsT ([110, 101, 103]))]), (11, .int .i64 op), (12, .int .i64 (IntKind.i64.wrap (op - 1)))] ?_
   rw [show IntKind.i64.wrap (op - 1) = op - 1 from wrap_i64 (by omega) (by omega)]
   refine stv (v := .string (bsT (wordT op.toNat))) (by rfl) (R_idxV (by kernel_rfl) (by kernel_rfl) (by have q := w16_at (op.toNat - 1) (by omega); rw [show op.toNat - 1 + 1 = op.toNat by omega, show (((op.toNat - 1 : Nat)) : Int) = op - 1 by omega] at q; exact q)) ?_
   refine zS [(2, .string (bsT (wordT op.toNat)))] ?_
   refine op_nil ?_
   refine W_ret ?_
   exact ⟨_, Res_of (v := .string (bsT (wordT op.toNat))) (by kernel_rfl), ⟨by rw [wdF_at (n := op.toNat) (by omega)], Tch.refl _ _⟩⟩
  ·
   replace hc4 : 16 < op := (Int.not_le.1 (of_decide_eq_false hc4))
   refine W_seq ?_
   refine zF [(0, .int .i64 op), (2, .string (bsT ([]))), (3, .bool (decide (op ≤ 16)))] fun ρ => ?_
   refine zR ?_
   refine zS [(15, .int .i64 op), (16, .bool (decide (op ≥ 22))), (17, .bool (decide (op ≥ 22)))] ?_
   cases hb5 : decide (op ≥ 22)
   ·
    replace hb5 : op < 22 := (Int.not_le.1 (of_decide_eq_false hb5))
    refine zS [(18, undef), (19, undef), (20, .bool false), (14, .bool false)] ?_
    refine zO false (fun h => nomatch h) (fun _ => ?_)
    refine W_skip ?_
    refine zQ ?_
    refine zS [(2, .string (bsT ([])))] ?_
    refine op_nil ?_
    refine W_ret ?_
    exact ⟨_, Res_of (v := .string (bsT ([]))) (by kernel_rfl), ⟨by rw [wdF_out (by omega)], Tch.refl _ _⟩⟩
   ·
    replace hb5 : 22 ≤ op := (of_decide_eq_true hb5)
    refine zS [(18, .int .i64 op), (19, .bool (decide (op ≤ 26))), (20, .bool (decide (op ≤ 26))), (14, .bool (decide (op ≤ 26)))] ?_
    refine zO (decide (op ≤ 26)) (fun hc6 => ?_) (fun hc6 => ?_)
    ·
     replace hc6 : op ≤ 26 := (of_decide_eq_true hc6)
     refine zQ ?_
     refine zS [(21, .agg #[.string (bsT ([105, 116, 101])), .string (bsT ([101, 120, 116])), .string (bsT ([99, 97, 116])), .string (bsT ([122, 101, 120, 116])), .string (bsT ([115, 101, 120, 116]))]), (22, .int .i64 op), (23, .int .i64 (IntKind.i64.wrap (op - 22)))] ?_
     rw [show IntKind.i64.wrap (op - 22) = op - 22 from wrap_i64 (by omega) (by omega)]
     refine stv (v := .string (bsT (wordT op.toNat))) (by rfl) (R_idxV (by kernel_rfl) (by kernel_rfl) (by have q := w5_at (op.toNat - 22) (by omega); rw [show op.toNat - 22 + 22 = op.toNat by omega, show (((op.toNat - 22 : Nat)) : Int) = op - 22 by omega] at q; exact q)) ?_
     refine zS [(2, .string (bsT (wordT op.toNat)))] ?_
     refine op_nil ?_
     refine W_ret ?_
     exact ⟨_, Res_of (v := .string (bsT (wordT op.toNat))) (by kernel_rfl), ⟨by rw [wdF_at (n := op.toNat) (by omega)], Tch.refl _ _⟩⟩
    ·
     replace hc6 : 26 < op := (Int.not_le.1 (of_decide_eq_false hc6))
     refine W_skip ?_
     refine zQ ?_
     refine zS [(2, .string (bsT ([])))] ?_
     refine op_nil ?_
     refine W_ret ?_
     exact ⟨_, Res_of (v := .string (bsT ([]))) (by kernel_rfl), ⟨by rw [wdF_out (by omega)], Tch.refl _ _⟩⟩

set_option maxRecDepth 100000 in
theorem rword_ok (op : Int) (w : World) : Ret Try.prog 25 [.int .i64 op] w fun v w' => v = .string (bsT (wdF op)) ∧ Tch N0 w w' := by
 refine enter Try.func25 rfl rfl ?_
 refine zQ ?_
 refine zS [(2, .string (bsT ([])))] ?_
 refine op_nil ?_
 refine zQ ?_
 refine st (by rfl) (S_new (v := .slice (some ⟨w.heap.size, 0, none⟩) 27 27) (ob := .cells #[.string (bsT ([])), .string (bsT ([97, 100, 100])), .string (bsT ([115, 117, 98])), .string (bsT ([109, 117, 108])), .string (bsT ([117, 100, 105, 118])), .string (bsT ([117, 114, 101, 109])), .string (bsT ([97, 110, 100])), .string (bsT ([111, 114])), .string (bsT ([120, 111, 114])), .string (bsT ([115, 104, 108])), .string (bsT ([115, 104, 114])), .string (bsT ([115, 97, 114])), .string (bsT ([101, 113])), .string (bsT ([117, 108, 116])), .string (bsT ([115, 108, 116])), .string (bsT ([110, 111, 116])), .string (bsT ([110, 101, 103])), .string (bsT ([])), .string (bsT ([])), .string (bsT ([])), .string (bsT ([])), .string (bsT ([])), .string (bsT ([105, 116, 101])), .string (bsT ([101, 120, 116])), .string (bsT ([99, 97, 116])), .string (bsT ([122, 101, 120, 116])), .string (bsT ([115, 101, 120, 116]))] 9) (by kernel_rfl) fun w1 hT2 hs3 hB4 => ?_)
 replace hB4 : Blk w1 (w.heap.size) 9 [.string (bsT ([])), .string (bsT ([97, 100, 100])), .string (bsT ([115, 117, 98])), .string (bsT ([109, 117, 108])), .string (bsT ([117, 100, 105, 118])), .string (bsT ([117, 114, 101, 109])), .string (bsT ([97, 110, 100])), .string (bsT ([111, 114])), .string (bsT ([120, 111, 114])), .string (bsT ([115, 104, 108])), .string (bsT ([115, 104, 114])), .string (bsT ([115, 97, 114])), .string (bsT ([101, 113])), .string (bsT ([117, 108, 116])), .string (bsT ([115, 108, 116])), .string (bsT ([110, 111, 116])), .string (bsT ([110, 101, 103])), .string (bsT ([])), .string (bsT ([])), .string (bsT ([])), .string (bsT ([])), .string (bsT ([])), .string (bsT ([105, 116, 101])), .string (bsT ([101, 120, 116])), .string (bsT ([99, 97, 116])), .string (bsT ([122, 101, 120, 116])), .string (bsT ([115, 101, 120, 116]))] := hB4
 have hT0 := hT2
 refine zS [(3, .slice (some ⟨w.heap.size, 0, none⟩) 27 27)] ?_
 refine op_nil ?_
 refine W_seq ?_
 refine zQ ?_
 refine zS [(5, .int .i64 op), (6, .bool (decide (op < 0))), (7, .bool (decide (op < 0)))] ?_
 cases hb5 : decide (op < 0)
 ·
  replace hb5 : 0 ≤ op := (Int.not_lt.1 (of_decide_eq_false hb5))
  refine zS [(8, .int .i64 op), (9, .slice (some ⟨w.heap.size, 0, none⟩) 27 27), (10, .int .i64 27), (11, .bool (decide (op ≥ 27))), (12, .bool (decide (op ≥ 27)))] ?_
  refine zO (decide (op ≥ 27)) (fun hc6 => ?_) (fun hc6 => ?_)
  ·
   replace hc6 : 27 ≤ op := (of_decide_eq_true hc6)
   refine W_seq ?_
   refine zF [(0, .int .i64 op), (2, .string (bsT ([]))), (3, .slice (some ⟨w.heap.size, 0, none⟩) 27 27), (12, .bool (decide (op ≥ 27)))] fun ρ => ?_
   refine zR ?_
   refine zS [(2, .string (bsT ([])))] ?_
   refine op_nil ?_
   refine W_ret ?_
   exact ⟨_, Res_of (v := .string (bsT ([]))) (by kernel_rfl), ⟨by rw [wdF_out (by omega)], hT0⟩⟩
  ·
   replace hc6 : op < 27 := (Int.not_le.1 (of_decide_eq_false hc6))
   refine W_skip ?_
   refine W_seq ?_
   refine zF [(0, .int .i64 op), (2, .string (bsT ([]))), (3, .slice (some ⟨w.heap.size, 0, none⟩) 27 27), (12, .bool (decide (op ≥ 27)))] fun ρ => ?_
   refine zR ?_
   refine zS [(13, .slice (some ⟨w.heap.size, 0, none⟩) 27 27), (14, .int .i64 op)] ?_
   refine stv (v := .pointer (some ⟨w.heap.size, 0 + op.toNat, none⟩)) (by rfl) (R_index1 (b := w.heap.size) (off := 0) (len := 27) (cap := 27) (k := .i64) (i := op) (e := 9) (by kernel_rfl) (by kernel_rfl) (by kernel_rfl) (by kernel_rfl) (by omega) (by omega)) ?_
   refine zL (.string (bsT (wordT op.toNat))) ((hB4.cell (0 + op.toNat)).trans (by rw [Nat.zero_add]; exact w27_at _ (by omega))) ?_
   refine zS [(2, .string (bsT (wordT op.toNat)))] ?_
   refine op_nil ?_
   refine W_ret ?_
   exact ⟨_, Res_of (v := .string (bsT (wordT op.toNat))) (by kernel_rfl), ⟨by rw [wdF_at (n := op.toNat) (by omega)], hT0⟩⟩
 ·
  replace hb5 : op < 0 := (of_decide_eq_true hb5)
  refine zS [(8, undef), (9, undef), (10, undef), (11, undef), (12, .bool true)] ?_
  refine zO true (fun _ => ?_) (fun h => nomatch h)
  refine W_seq ?_
  refine zF [(0, .int .i64 op), (2, .string (bsT ([]))), (3, .slice (some ⟨w.heap.size, 0, none⟩) 27 27), (12, .bool true)] fun ρ => ?_
  refine zR ?_
  refine zS [(2, .string (bsT ([])))] ?_
  refine op_nil ?_
  refine W_ret ?_
  exact ⟨_, Res_of (v := .string (bsT ([]))) (by kernel_rfl), ⟨by rw [wdF_out (by omega)], hT0⟩⟩

theorem numberI_ok (x : Int) (w : World) (h0 : 0 ≤ x) (h1 : x < 9223372036854775808) : Ret Try.prog 69 [.int .i64 x] w fun v w' => v = .string (bsT (dgs x.toNat)) ∧ Tch N0 w w' := by
 have := number_ok x.toNat w (by omega)
 rwa [show ((x.toNat : Nat) : Int) = x by omega] at this
theorem rnumberI_ok (x : Int) (w : World) (h0 : 0 ≤ x) (h1 : x < 9223372036854775808) : Ret Try.prog 73 [.int .i64 x] w fun v w' => v = .string (bsT (dgs x.toNat)) ∧ Tch N0 w w' := by
 have := rnumber_ok x.toNat w (by omega)
 rwa [show ((x.toNat : Nat) : Int) = x by omega] at this
theorem digitsI_ok (x : Int) (w : World) (h : u64 x) : Ret Try.prog 68 [.int .u64 x] w fun v w' => v = .string (bsT (dgs x.toNat)) ∧ Tch N0 w w' := by
 unfold u64 at h
 have := digits_ok x.toNat w (by omega)
 rwa [show ((x.toNat : Nat) : Int) = x by omega] at this
theorem rdigitsI_ok (x : Int) (w : World) (h : u64 x) : Ret Try.prog 72 [.int .u64 x] w fun v w' => v = .string (bsT (dgs x.toNat)) ∧ Tch N0 w w' := by
 unfold u64 at h
 have := rdigits_ok x.toNat w (by omega)
 rwa [show ((x.toNat : Nat) : Int) = x by omega] at this

def pdN (n : Nd) : List Value := if nO n = 22 then [] else if nO n ≤ 14 ∨ nO n = 24 then [.int .i64 0] else [.int .i64 0, .int .i64 0]
set_option maxRecDepth 100000 in
theorem parts_ok (N : List Nd) (i : Nat) (n : Nd) (w : World) (hn : NdW N i n) (h1 : ¬ nO n = 20) (h2 : ¬ nO n = 21) : Ret Try.prog 74 [.agg #[.int .i64 (nO n), .int .i64 (nW n), .int .i64 (nA n), .int .i64 (nB n), .int .i64 (nC n), .int .u64 (nV n)]] w fun v w' => ∃ x y z k, v = .tuple #[.agg #[.int .i64 x, .int .i64 y, .int .i64 z], .int .i64 ((k : Nat) : Int)] ∧ k = (kidsN n).length ∧ [Value.int .i64 x, .int .i64 y, .int .i64 z] = nats (kidsN n) ++ pdN n ∧ Tch N0 w w' := by
 refine enter Try.func74 rfl rfl ?_
 refine zQ ?_
 refine st (by rfl) (S_new (v := .pointer (some ⟨w.heap.size, 0, none⟩)) (ob := .cells #[.int .i64 (nO n), .int .i64 (nW n), .int .i64 (nA n), .int .i64 (nB n), .int .i64 (nC n), .int .u64 (nV n)] 32) (by kernel_rfl) fun w1 hT2 hs3 hB4 => ?_)
 replace hB4 : Blk w1 (w.heap.size) 32 [.int .i64 (nO n), .int .i64 (nW n), .int .i64 (nA n), .int .i64 (nB n), .int .i64 (nC n), .int .u64 (nV n)] := hB4
 have hT0 := hT2
 refine st (by rfl) (S_new (v := .pointer (some ⟨w1.heap.size, 0, none⟩)) (ob := .cells #[.int .i64 0, .int .i64 0, .int .i64 0] 134) (by kernel_rfl) fun w5 hT6 hs7 hB8 => ?_)
 replace hB8 : Blk w5 (w1.heap.size) 134 [.int .i64 0, .int .i64 0, .int .i64 0] := hB8
 have hT0 := hT0.t0 hT6
 have hB4 := hB4.tch0 hT6
 refine zS [(3, .int .i64 0)] ?_
 refine op_nil ?_
 refine W_seq ?_
 refine W_block ?_
 refine zQ ?_
 refine zS [(5, .pointer (some ⟨w.heap.size, 0, none⟩))] ?_
 refine zL (.int .i64 (nO n)) ((hB4.cell 0).trans rfl) ?_
 refine zS [(7, .bool ((nO n) == 22)), (4, .bool ((nO n) == 22))] ?_
 refine zO ((nO n) == 22) (fun hc9 => ?_) (fun hc9 => ?_)
 ·
  replace hc9 : nO n = 22 := (eq_of_beq hc9)
  refine zQ ?_
  refine zS [(8, .pointer (some ⟨w.heap.size, 2, none⟩))] ?_
  refine zL (.int .i64 (nA n)) ((hB4.cell 2).trans rfl) ?_
  refine zS [(10, .pointer (some ⟨w.heap.size, 3, none⟩))] ?_
  refine zL (.int .i64 (nB n)) ((hB4.cell 3).trans rfl) ?_
  refine zS [(12, .pointer (some ⟨w.heap.size, 4, none⟩))] ?_
  refine zL (.int .i64 (nC n)) ((hB4.cell 4).trans rfl) ?_
  refine zS [(14, .agg #[.int .i64 (nA n), .int .i64 (nB n), .int .i64 (nC n)])] ?_
  refine st (by rfl) (S_storeA (b := w1.heap.size) (j := 0) (cs := [.int .i64 (nA n), .int .i64 (nB n), .int .i64 (nC n)]) (by kernel_rfl) (by kernel_rfl) (by kernel_rfl) (by simp [oneV]) hB8 (by simp) fun w10 hT11 hs12 hB8' => ?_)
  have hT0 := (hT0).then hT11 (fun c e => by have : c = w1.heap.size := e; omega)
  have hB4 := hB4.tch hT11 (hB4.ne hB8 (by decide))
  replace hB8 : Blk w10 w1.heap.size 134 [.int .i64 (nA n), .int .i64 (nB n), .int .i64 (nC n)] := hB8'
  refine zS [(3, .int .i64 3)] ?_
  refine op_nil ?_
  refine W_ret ?_
  refine ⟨_, Res_cell1 (b := w1.heap.size) (cs := [.int .i64 (nA n), .int .i64 (nB n), .int .i64 (nC n)]) (by rfl) (by kernel_rfl) (by kernel_rfl) (by kernel_rfl) hB8 (by kernel_rfl) (by kernel_rfl), ?_⟩
  have p := hn.pos (by omega) (by omega)
  have ek : kidsN n = [(nA n).toNat, (nB n).toNat, (nC n).toNat] := by unfold kidsN; rw [if_neg (show ¬ (nO n = 20 ∨ nO n = 21) by omega), if_pos (show nO n = 22 by omega)]
  have ep : pdN n = [] := by unfold pdN; rw [if_pos (show nO n = 22 by omega)]
  obtain ⟨p1, p2, p3, _⟩ := p
  have p2 := fun q => p2 q
  refine ⟨_, _, _, 3, rfl, by rw [ek]; rfl, ?_, hT0⟩
  rw [ek, ep]
  simp only [nats, List.map_cons, List.map_nil, List.cons_append, List.nil_append, List.cons.injEq, Value.int.injEq, true_and, and_true]
  first | (refine ⟨?_, ?_, ?_⟩ <;> omega) | (refine ⟨?_, ?_⟩ <;> omega) | omega
 ·
  replace hc9 : nO n ≠ 22 := (ne_of_beq_false hc9)
  refine zQ ?_
  refine zS [(16, .pointer (some ⟨w.heap.size, 0, none⟩))] ?_
  refine zL (.int .i64 (nO n)) ((hB4.cell 0).trans rfl) ?_
  refine zS [(18, .bool (decide (nO n ≤ 14))), (19, .bool (decide (nO n ≤ 14)))] ?_
  cases hb13 : decide (nO n ≤ 14)
  ·
   replace hb13 : 14 < nO n := (Int.not_le.1 (of_decide_eq_false hb13))
   refine zS [(20, .pointer (some ⟨w.heap.size, 0, none⟩))] ?_
   refine zL (.int .i64 (nO n)) ((hB4.cell 0).trans rfl) ?_
   refine zS [(22, .bool ((nO n) == 24)), (23, .bool ((nO n) == 24)), (15, .bool ((nO n) == 24))] ?_
   refine zO ((nO n) == 24) (fun hc14 => ?_) (fun hc14 => ?_)
   ·
    replace hc14 : nO n = 24 := (eq_of_beq hc14)
    refine W_seq ?_
    refine zF [(0, .agg #[.int .i64 (nO n), .int .i64 (nW n), .int .i64 (nA n), .int .i64 (nB n), .int .i64 (nC n), .int .u64 (nV n)]), (1, .pointer (some ⟨w.heap.size, 0, none⟩)), (2, .pointer (some ⟨w1.heap.size, 0, none⟩)), (3, .int .i64 0), (4, .bool ((nO n) == 22)), (15, .bool ((nO n) == 24))] fun ρ => ?_
    refine zR ?_
    refine zS [(24, .pointer (some ⟨w.heap.size, 2, none⟩))] ?_
    refine zL (.int .i64 (nA n)) ((hB4.cell 2).trans rfl) ?_
    refine zS [(26, .pointer (some ⟨w.heap.size, 3, none⟩))] ?_
    refine zL (.int .i64 (nB n)) ((hB4.cell 3).trans rfl) ?_
    refine zS [(28, .agg #[.int .i64 (nA n), .int .i64 (nB n), .int .i64 0])] ?_
    refine st (by rfl) (S_storeA (b := w1.heap.size) (j := 0) (cs := [.int .i64 (nA n), .int .i64 (nB n), .int .i64 0]) (by kernel_rfl) (by kernel_rfl) (by kernel_rfl) (by simp [oneV]) hB8 (by simp) fun w15 hT16 hs17 hB8' => ?_)
    have hT0 := (hT0).then hT16 (fun c e => by have : c = w1.heap.size := e; omega)
    have hB4 := hB4.tch hT16 (hB4.ne hB8 (by decide))
    replace hB8 : Blk w15 w1.heap.size 134 [.int .i64 (nA n), .int .i64 (nB n), .int .i64 0] := hB8'
    refine zS [(3, .int .i64 2)] ?_
    refine op_nil ?_
    refine W_ret ?_
    refine ⟨_, Res_cell1 (b := w1.heap.size) (cs := [.int .i64 (nA n), .int .i64 (nB n), .int .i64 0]) (by rfl) (by kernel_rfl) (by kernel_rfl) (by kernel_rfl) hB8 (by kernel_rfl) (by kernel_rfl), ?_⟩
    have p := hn.pos (by omega) (by omega)
    have ek : kidsN n = [(nA n).toNat, (nB n).toNat] := by unfold kidsN; rw [if_neg (show ¬ (nO n = 20 ∨ nO n = 21) by omega), if_neg (show ¬ nO n = 22 by omega), if_pos (show nO n ≤ 14 ∨ nO n = 24 by omega)]
    have ep : pdN n = [.int .i64 0] := by unfold pdN; rw [if_neg (show ¬ nO n = 22 by omega), if_pos (show nO n ≤ 14 ∨ nO n = 24 by omega)]
    obtain ⟨p1, p2, p3, _⟩ := p
    have p2 := fun q => p2 q
    refine ⟨_, _, _, 2, rfl, by rw [ek]; rfl, ?_, hT0⟩
    rw [ek, ep]
    simp only [nats, List.map_cons, List.map_nil, List.cons_append, List.nil_append, List.cons.injEq, Value.int.injEq, true_and, and_true]
    first | (refine ⟨?_, ?_, ?_⟩ <;> omega) | (refine ⟨?_, ?_⟩ <;> omega) | omega
   ·
    replace hc14 : nO n ≠ 24 := (ne_of_beq_false hc14)
    refine W_skip ?_
    refine W_seq ?_
    refine zF [(0, .agg #[.int .i64 (nO n), .int .i64 (nW n), .int .i64 (nA n), .int .i64 (nB n), .int .i64 (nC n), .int .u64 (nV n)]), (1, .pointer (some ⟨w.heap.size, 0, none⟩)), (2, .pointer (some ⟨w1.heap.size, 0, none⟩)), (3, .int .i64 0), (4, .bool ((nO n) == 22)), (15, .bool ((nO n) == 24))] fun ρ => ?_
    refine zR ?_
    refine zS [(29, .pointer (some ⟨w.heap.size, 2, none⟩))] ?_
    refine zL (.int .i64 (nA n)) ((hB4.cell 2).trans rfl) ?_
    refine zS [(31, .agg #[.int .i64 (nA n), .int .i64 0, .int .i64 0])] ?_
    refine st (by rfl) (S_storeA (b := w1.heap.size) (j := 0) (cs := [.int .i64 (nA n), .int .i64 0, .int .i64 0]) (by kernel_rfl) (by kernel_rfl) (by kernel_rfl) (by simp [oneV]) hB8 (by simp) fun w18 hT19 hs20 hB8' => ?_)
    have hT0 := (hT0).then hT19 (fun c e => by have : c = w1.heap.size := e; omega)
    have hB4 := hB4.tch hT19 (hB4.ne hB8 (by decide))
    replace hB8 : Blk w18 w1.heap.size 134 [.int .i64 (nA n), .int .i64 0, .int .i64 0] := hB8'
    refine zS [(3, .int .i64 1)] ?_
    refine op_nil ?_
    refine W_ret ?_
    refine ⟨_, Res_cell1 (b := w1.heap.size) (cs := [.int .i64 (nA n), .int .i64 0, .int .i64 0]) (by rfl) (by kernel_rfl) (by kernel_rfl) (by kernel_rfl) hB8 (by kernel_rfl) (by kernel_rfl), ?_⟩
    have p := hn.pos (by omega) (by omega)
    have ek : kidsN n = [(nA n).toNat] := by unfold kidsN; rw [if_neg (show ¬ (nO n = 20 ∨ nO n = 21) by omega), if_neg (show ¬ nO n = 22 by omega), if_neg (show ¬ (nO n ≤ 14 ∨ nO n = 24) by omega)]
    have ep : pdN n = [.int .i64 0, .int .i64 0] := by unfold pdN; rw [if_neg (show ¬ nO n = 22 by omega), if_neg (show ¬ (nO n ≤ 14 ∨ nO n = 24) by omega)]
    obtain ⟨p1, p2, p3, _⟩ := p
    have p2 := fun q => p2 q
    refine ⟨_, _, _, 1, rfl, by rw [ek]; rfl, ?_, hT0⟩
    rw [ek, ep]
    simp only [nats, List.map_cons, List.map_nil, List.cons_append, List.nil_append, List.cons.injEq, Value.int.injEq, true_and, and_true]
    first | (refine ⟨?_, ?_, ?_⟩ <;> omega) | (refine ⟨?_, ?_⟩ <;> omega) | omega
  ·
   replace hb13 : nO n ≤ 14 := (of_decide_eq_true hb13)
   refine zS [(20, undef), (21, undef), (22, undef), (23, .bool true), (15, .bool true)] ?_
   refine zO true (fun _ => ?_) (fun h => nomatch h)
   refine W_seq ?_
   refine zF [(0, .agg #[.int .i64 (nO n), .int .i64 (nW n), .int .i64 (nA n), .int .i64 (nB n), .int .i64 (nC n), .int .u64 (nV n)]), (1, .pointer (some ⟨w.heap.size, 0, none⟩)), (2, .pointer (some ⟨w1.heap.size, 0, none⟩)), (3, .int .i64 0), (4, .bool ((nO n) == 22)), (15, .bool true)] fun ρ => ?_
   refine zR ?_
   refine zS [(24, .pointer (some ⟨w.heap.size, 2, none⟩))] ?_
   refine zL (.int .i64 (nA n)) ((hB4.cell 2).trans rfl) ?_
   refine zS [(26, .pointer (some ⟨w.heap.size, 3, none⟩))] ?_
   refine zL (.int .i64 (nB n)) ((hB4.cell 3).trans rfl) ?_
   refine zS [(28, .agg #[.int .i64 (nA n), .int .i64 (nB n), .int .i64 0])] ?_
   refine st (by rfl) (S_storeA (b := w1.heap.size) (j := 0) (cs := [.int .i64 (nA n), .int .i64 (nB n), .int .i64 0]) (by kernel_rfl) (by kernel_rfl) (by kernel_rfl) (by simp [oneV]) hB8 (by simp) fun w21 hT22 hs23 hB8' => ?_)
   have hT0 := (hT0).then hT22 (fun c e => by have : c = w1.heap.size := e; omega)
   have hB4 := hB4.tch hT22 (hB4.ne hB8 (by decide))
   replace hB8 : Blk w21 w1.heap.size 134 [.int .i64 (nA n), .int .i64 (nB n), .int .i64 0] := hB8'
   refine zS [(3, .int .i64 2)] ?_
   refine op_nil ?_
   refine W_ret ?_
   refine ⟨_, Res_cell1 (b := w1.heap.size) (cs := [.int .i64 (nA n), .int .i64 (nB n), .int .i64 0]) (by rfl) (by kernel_rfl) (by kernel_rfl) (by kernel_rfl) hB8 (by kernel_rfl) (by kernel_rfl), ?_⟩
   have p := hn.pos (by omega) (by omega)
   have ek : kidsN n = [(nA n).toNat, (nB n).toNat] := by unfold kidsN; rw [if_neg (show ¬ (nO n = 20 ∨ nO n = 21) by omega), if_neg (show ¬ nO n = 22 by omega), if_pos (show nO n ≤ 14 ∨ nO n = 24 by omega)]
   have ep : pdN n = [.int .i64 0] := by unfold pdN; rw [if_neg (show ¬ nO n = 22 by omega), if_pos (show nO n ≤ 14 ∨ nO n = 24 by omega)]
   obtain ⟨p1, p2, p3, _⟩ := p
   have p2 := fun q => p2 q
   refine ⟨_, _, _, 2, rfl, by rw [ek]; rfl, ?_, hT0⟩
   rw [ek, ep]
   simp only [nats, List.map_cons, List.map_nil, List.cons_append, List.nil_append, List.cons.injEq, Value.int.injEq, true_and, and_true]
   first | (refine ⟨?_, ?_, ?_⟩ <;> omega) | (refine ⟨?_, ?_⟩ <;> omega) | omega

end Go.Proofs.YtlbadnpgmkobdaaV

set_option linter.unusedVariables false
set_option linter.unusedSimpArgs false
namespace Go.Proofs.YtlbadnpgmkobdaaV
open Go Go.RowKit Go.Proofs
section
variable {P : Program} {n : Nat} {N R : Env → World → Prop} {X : Nat → Env → World → Prop} {ρ : Env} {w : World}
end
end Go.Proofs.YtlbadnpgmkobdaaV

set_option linter.unusedVariables false
set_option linter.unusedSimpArgs false
namespace Go.Proofs.YtlbadnpgmkobdaaV
open Go Go.RowKit Go.Proofs
/-- What comes of kids. -/
def KidR (n : Nd) (w : World) (v : Value) (w' : World) : Prop := ∃ K m, v = .slice K m m ∧ m = (kidsN n).length ∧ Own w' 0 3 1 (.slice K m m) m (nats (kidsN n)) ∧ (∀ c, (Value.slice K m m).ownBlock = some c → w.heap.size ≤ c) ∧ Tch N0 w w'
theorem KidR.nil {n : Nd} {w w' : World} (e : nats (kidsN n) = []) (T : Tch N0 w w') : KidR n w (.slice none 0 0) w' := by
 have hl : (kidsN n).length = 0 := by rw [← nats_length, e]; rfl
 exact ⟨none, 0, rfl, hl.symm, by rw [e]; exact Own.nil_ _ _ _ _, (fun c h => by cases h), T⟩
/-! ### The loop's measure -/
def lastN (wt : List Nat) : Nat := wt.getD (wt.length - 1) 0
theorem kids_len (n : Nd) : (kidsN n).length ≤ 3 := by unfold kidsN; (repeat' split) <;> simp
/-- How far a place in the stack can be. -/
def Far (n : Nat) (wt : List Nat) : Prop := ∀ i, i < wt.length → i + 1 + 3 * wt.getD i 0 ≤ 3 * n
theorem Far.take {n m : Nat} {wt : List Nat} (h : Far n wt) : Far n (wt.take m) := fun i hi => by
 have hi2 : i < m ∧ i < wt.length := by rw [List.length_take] at hi; omega
 have e : (wt.take m).getD i 0 = wt.getD i 0 := by simp only [List.getD_eq_getElem?_getD, List.getElem?_take, if_pos hi2.1]
 rw [e]; exact h i hi2.2
theorem Far.push {n x : Nat} {wt : List Nat} (h : Far n wt) (hx : wt.length + 1 + 3 * x ≤ 3 * n) : Far n (wt ++ [x]) := fun i hi => by
 have hi2 : i < wt.length + 1 := by simpa using hi
 by_cases e : i < wt.length
 ·
  have e2 : (wt ++ [x]).getD i 0 = wt.getD i 0 := by simp only [List.getD_eq_getElem?_getD, List.getElem?_append_left e]
  rw [e2]; exact h i e
 ·
  obtain rfl : i = wt.length := by omega
  have e2 : (wt ++ [x]).getD wt.length 0 = x := by simp [List.getD_eq_getElem?_getD]
  rw [e2]; exact hx
theorem Far.len {n : Nat} {wt : List Nat} (h : Far n wt) : wt.length ≤ 3 * n := by
 rcases Nat.eq_zero_or_pos wt.length with q | q
 ·
  omega
 ·
  have := h (wt.length - 1) (by omega); omega
/-- What the stack of those that wait holds. -/
def Wst (n id : Nat) (hd : List Bool) (wt : List Nat) : Prop := hd.length = n ∧ (∀ x, x ∈ wt → x < n) ∧ (id ∈ wt ∨ hd.getD id false = true) ∧ Far n wt
theorem Wst.last {n id : Nat} {hd : List Bool} {wt : List Nat} (h : Wst n id hd wt) (h0 : wt ≠ []) : lastN wt < n := by
 refine h.2.1 _ ?_
 unfold lastN
 have hl2 := List.length_pos_iff.2 h0
 rw [List.getD_eq_getElem?_getD, List.getElem?_eq_getElem (by omega)]
 exact List.getElem_mem _
theorem Wst.room {n id : Nat} {hd : List Bool} {wt : List Nat} (h : Wst n id hd wt) (h0 : wt ≠ []) : wt.length + 3 * lastN wt ≤ 3 * n := by
 have hl2 := List.length_pos_iff.2 h0
 have := h.2.2.2 (wt.length - 1) (by omega)
 unfold lastN; omega
/-- What the stack is while the kids are looked at. -/
def Kst (n : Nat) (hd : List Bool) (kids wt wt1 : List Nat) (mr : Bool) : Prop :=
 (mr = false → wt1 = wt) ∧ (mr = true → ∃ ws x, wt1 = ws ++ [x] ∧ x ∈ kids ∧ hd.getD x false = false) ∧ (∀ x, x ∈ wt → x ∈ wt1) ∧ (∀ x, x ∈ wt1 → x < n) ∧ Far n wt1
theorem Kst.push {n : Nat} {hd : List Bool} {kids wt wt1 : List Nat} {mr : Bool} {x : Nat} (h : Kst n hd kids wt wt1 mr) (hx : x ∈ kids) (hn : x < n) (hp : wt1.length + 1 + 3 * x ≤ 3 * n) (hf : hd.getD x false = false) : Kst n hd kids wt (wt1 ++ [x]) true :=
 ⟨(fun h => nomatch h), fun _ => ⟨wt1, x, rfl, hx, hf⟩, fun y hy => List.mem_append.2 (.inl (h.2.2.1 y hy)), fun y hy => by
  rcases List.mem_append.1 hy with q | q
  ·
   exact h.2.2.2.1 y q
  ·
   simp at q; omega, h.2.2.2.2.push hp⟩
/-! ### How many a map holds -/
section
variable {P : Program} {ρ : Env} {w : World} {J : Env → World → Prop}
end
end Go.Proofs.YtlbadnpgmkobdaaV

set_option linter.unusedVariables false
set_option linter.unusedSimpArgs false
namespace Go.Proofs.YtlbadnpgmkobdaaV
open Go Go.RowKit Go.Proofs
def txs (l : List Tx) : List Value := l.map fun t => .string (bsT t)
theorem txs_app (l m : List Tx) : txs (l ++ m) = txs l ++ txs m := by simp [txs]
theorem txs_at {l : List Tx} {i : Nat} (h : i < l.length) : (txs l)[i]? = some (.string (bsT (l.getD i []))) := by
 simp [txs, List.getElem?_eq_getElem h, List.getD_eq_getElem?_getD]
def fitB (N : List Nd) (i : Nat) : Bool := decide ((txt N i).length ≤ 4096)
def dtx (N : List Nd) (i : Nat) : Tx := if fitB N i = true then txt N i else []
def rl (N : List Nd) (i : Nat) : List Tx := (List.range i).map (dtx N)
def fl (N : List Nd) (i : Nat) : List Bool := (List.range i).map (fitB N)
theorem rl_length (N : List Nd) (i : Nat) : (rl N i).length = i := by simp [rl]
theorem fl_length (N : List Nd) (i : Nat) : (fl N i).length = i := by simp [fl]
theorem rl_get {N : List Nd} {i k : Nat} (h : k < i) : (rl N i).getD k [] = dtx N k := by
 simp [rl, List.getD_eq_getElem?_getD, h]
theorem fl_get {N : List Nd} {i k : Nat} (h : k < i) : (fl N i).getD k false = fitB N k := by
 simp [fl, List.getD_eq_getElem?_getD, h]
theorem rl_at {N : List Nd} {i k : Nat} (h : k < i) : (txs (rl N i))[k]? = some (.string (bsT (dtx N k))) := by
 rw [txs_at (by rw [rl_length]; exact h), rl_get h]
theorem fl_at {N : List Nd} {i k : Nat} (h : k < i) : (boolsV (fl N i))[k]? = some (.bool (fitB N k)) := by
 rw [boolsV_at _ (by rw [fl_length]; exact h), fl_get h]
theorem rl_succ (N : List Nd) (i : Nat) : rl N (i + 1) = rl N i ++ [dtx N i] := by simp [rl, List.range_succ]
theorem fl_succ (N : List Nd) (i : Nat) : fl N (i + 1) = fl N i ++ [fitB N i] := by simp [fl, List.range_succ]
theorem dtx_t {N : List Nd} {i : Nat} (h : fitB N i = true) : dtx N i = txt N i := by unfold dtx; rw [if_pos h]
theorem dtx_f {N : List Nd} {i : Nat} (h : fitB N i = false) : dtx N i = [] := by unfold dtx; rw [if_neg (by rw [h]; simp)]
theorem dtx_le (N : List Nd) (i : Nat) : (dtx N i).length ≤ 4096 := by
 unfold dtx
 split
 ·
  rename_i h; exact of_decide_eq_true h
 ·
  simp
theorem wordT_tab : (List.range 27).all (fun o => decide ((wordT o).length ≤ 4)) = true := by decide
theorem wordT_len (o : Nat) : (wordT o).length ≤ 4 := by
 by_cases h : o < 27
 ·
  exact of_decide_eq_true (List.all_eq_true.1 wordT_tab o (List.mem_range.2 h))
 ·
  rw [wordT_out (by omega)]; simp
/-! ### A node's text, piece by piece -/
def hdT (n : Nd) : Tx := [40] ++ wordT (nO n).toNat ++ midT n
def preT (N : List Nd) (n : Nd) (j : Nat) : Tx := hdT n ++ ((kidsN n).take j).flatMap (fun k => 32 :: txt N k)
theorem preT_0 (N : List Nd) (n : Nd) : preT N n 0 = hdT n := by simp [preT]
theorem preT_step {N : List Nd} {n : Nd} {j : Nat} (h : j < (kidsN n).length) : preT N n (j + 1) = preT N n j ++ [32] ++ txt N ((kidsN n).getD j 0) := by
 have e : (kidsN n).take (j + 1) = (kidsN n).take j ++ [(kidsN n)[j]] := List.take_succ_eq_append_getElem h
 have e2 : (kidsN n).getD j 0 = (kidsN n)[j] := by rw [List.getD_eq_getElem?_getD, List.getElem?_eq_getElem h]; rfl
 unfold preT
 rw [e, e2, List.flatMap_append]
 simp only [List.flatMap_cons, List.flatMap_nil, List.append_nil, List.append_assoc, List.cons_append, List.nil_append]
theorem preT_all {N : List Nd} {i : Nat} {n : Nd} (hni : nth N i = n) (hn : NdW N i n) (h1 : ¬ nO n = 20) (h2 : ¬ nO n = 21) : txt N i = preT N n (kidsN n).length ++ [41] := by
 subst hni
 have := txt_o hn h1 h2 []
 simp only [List.append_nil] at this
 rw [this]
 unfold preT hdT
 rw [List.take_length]
 simp
theorem preT_le {N : List Nd} {n : Nd} : ∀ (k j : Nat), j ≤ k → k ≤ (kidsN n).length → (preT N n j).length ≤ (preT N n k).length
 | 0, j, h, _ => by rw [show j = 0 by omega]; exact Nat.le_refl _
 | k + 1, j, h, hk => by
  by_cases e : j = k + 1
  ·
   rw [e]; exact Nat.le_refl _
  ·
   have := preT_le (N := N) (n := n) k j (by omega) (by omega)
   have e3 := preT_step (N := N) (n := n) (j := k) (by omega)
   rw [e3]
   simp only [List.length_append]; omega
theorem txt_hd {N : List Nd} {i : Nat} {n : Nd} (hni : nth N i = n) (hn : NdW N i n) (h1 : ¬ nO n = 20) (h2 : ¬ nO n = 21) {j : Nat} (hj : j ≤ (kidsN n).length) : (preT N n j).length < (txt N i).length := by
 have := preT_le (N := N) (kidsN n).length j hj (Nat.le_refl _)
 rw [preT_all hni hn h1 h2, List.length_append]
 simp only [List.length_cons, List.length_nil]; omega
theorem txt_kid {N : List Nd} {i : Nat} {n : Nd} (hni : nth N i = n) (hn : NdW N i n) (h1 : ¬ nO n = 20) (h2 : ¬ nO n = 21) {j : Nat} (hj : j < (kidsN n).length) : (preT N n j).length + 1 + (txt N ((kidsN n).getD j 0)).length < (txt N i).length := by
 have := txt_hd hni hn h1 h2 (j := j + 1) (by omega)
 rw [preT_step hj] at this
 simp only [List.length_append, List.length_cons, List.length_nil] at this; omega
theorem kid_lt {N : List Nd} {i : Nat} {n : Nd} (hn : NdW N i n) {j : Nat} (hj : j < (kidsN n).length) : (kidsN n).getD j 0 < i := by
 refine kids_lt hn _ ?_
 rw [List.getD_eq_getElem?_getD, List.getElem?_eq_getElem hj]
 exact List.getElem_mem hj
theorem txt20 {N : List Nd} {i : Nat} {n : Nd} (hni : nth N i = n) (h : nO n = 20) : txt N i = dgs (nV n).toNat ++ [58] ++ dgs (nW n).toNat := by
 subst hni
 have := txt_c h []
 simpa using this
theorem txt21 {N : List Nd} {i : Nat} {n : Nd} (hni : nth N i = n) (h : nO n = 21) : txt N i = [120] ++ dgs (nA n).toNat ++ [58] ++ dgs (nW n).toNat := by
 subst hni
 have := txt_v h []
 simpa using this
theorem NdW.varA {N : List Nd} {i : Nat} {n : Nd} (h : NdW N i n) (h1 : nO n = 21) : 0 ≤ nA n ∧ nA n < 256 := by
 rcases h with c | c | c | c | c | c | c | c <;> omega
theorem len20 {N : List Nd} {i : Nat} {n : Nd} (hni : nth N i = n) (h : nO n = 20) (hV : u64 (nV n)) (hw : 1 ≤ nW n ∧ nW n ≤ 64) : (txt N i).length ≤ 50 := by
 unfold u64 at hV
 rw [txt20 hni h]
 have := dgs_20 (n := (nV n).toNat) (by omega)
 have := dgs_20 (n := (nW n).toNat) (by omega)
 simp only [List.length_append, List.length_cons, List.length_nil]; omega
theorem len21 {N : List Nd} {i : Nat} {n : Nd} (hni : nth N i = n) (h : nO n = 21) (hn : NdW N i n) (hw : 1 ≤ nW n ∧ nW n ≤ 64) : (txt N i).length ≤ 50 := by
 rw [txt21 hni h]
 have := hn.varA h
 have := dgs_20 (n := (nA n).toNat) (by omega)
 have := dgs_20 (n := (nW n).toNat) (by omega)
 simp only [List.length_append, List.length_cons, List.length_nil]; omega
theorem fit_le {N : List Nd} {i : Nat} (h : (txt N i).length ≤ 4096) : fitB N i = true := decide_eq_true h
theorem fit_gt {N : List Nd} {i : Nat} (h : 4096 < (txt N i).length) : fitB N i = false := decide_eq_false (by omega)
theorem fit_ex {N : List Nd} {i : Nat} (h : fitB N i = false) : 4096 < (txt N i).length := by
 have := of_decide_eq_false h; omega
theorem mid_len {n : Nd} (hB : nO n = 23 → 0 ≤ nB n) (fB : nB n < 9223372036854775808) (hw : 1 ≤ nW n ∧ nW n ≤ 64) : (midT n).length ≤ 50 := by
 unfold midT
 have := dgs_20 (n := (nW n).toNat) (by omega)
 split
 ·
  rename_i h
  have := hB h
  have := dgs_20 (n := (nB n).toNat) (by omega)
  simp only [List.length_append, List.length_cons, List.length_nil]; omega
 ·
  split
  ·
   simp only [List.length_append, List.length_cons, List.length_nil]; omega
  ·
   simp
theorem hd_len {n : Nd} (hB : nO n = 23 → 0 ≤ nB n) (fB : nB n < 9223372036854775808) (hw : 1 ≤ nW n ∧ nW n ≤ 64) : (hdT n).length ≤ 60 := by
 have := mid_len hB fB hw
 have := wordT_len (nO n).toNat
 unfold hdT
 simp only [List.length_append, List.length_cons, List.length_nil]; omega
theorem mid23 {n : Nd} (h : nO n = 23) : midT n = [32] ++ dgs (nB n).toNat ++ [32] ++ dgs (nW n).toNat := by unfold midT; rw [if_pos h]
theorem mid25 {n : Nd} (h : nO n = 25 ∨ nO n = 26) : midT n = [32] ++ dgs (nW n).toNat := by unfold midT; rw [if_neg (by omega), if_pos h]
theorem mid0 {n : Nd} (h : ¬ nO n = 23) (h2 : ¬ (nO n = 25 ∨ nO n = 26)) : midT n = [] := by unfold midT; rw [if_neg h, if_neg h2]
def shF (N : List Nd) (x : Int) : Tx := if isT N x = true then dtx N x.toNat else []
def seF (N : List Nd) (x : Int) : Int := if isT N x = true then (if fitB N x.toNat = true then 0 else 8) else 11
theorem isT_t {N : List Nd} {x : Int} (h : 0 ≤ x ∧ x < (N.length : Int)) : isT N x = true := decide_eq_true h
theorem sh_out {N : List Nd} {x : Int} (h : isT N x = false) : shF N x = [] ∧ seF N x = 11 := by unfold shF seF; rw [h]; exact ⟨rfl, rfl⟩
theorem sh_in {N : List Nd} {x : Int} (h : isT N x = true) (hf : fitB N x.toNat = true) : shF N x = txt N x.toNat ∧ seF N x = 0 := by unfold shF seF; rw [if_pos h, if_pos h, if_pos hf, dtx_t hf]; exact ⟨rfl, rfl⟩
theorem sh_big {N : List Nd} {x : Int} (h : isT N x = true) (hf : fitB N x.toNat = false) : shF N x = [] ∧ seF N x = 8 := by unfold shF seF; rw [if_pos h, if_pos h, if_neg (by rw [hf]; simp), dtx_f hf]; exact ⟨rfl, rfl⟩
end Go.Proofs.YtlbadnpgmkobdaaV
