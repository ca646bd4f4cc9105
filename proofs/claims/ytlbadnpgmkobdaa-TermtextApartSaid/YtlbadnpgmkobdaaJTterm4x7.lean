/- Texts laid together: Walks of functions of the program and of the document's texts. The conditions stand with each theorem. Terms' texts: plain. No two terms have one text: plain. A term's text tells the term: plain. Walks of functions of the program and of the document's texts. The conditions stand with each theorem. A loop whose measure is two numbers; a row cut short. Which terms a term is made of: steps of the reckoning, plain. Texts of all terms, as the document makes them: plain. Walks of functions of the program and of the document's texts. The conditions stand with each theorem. Walks of functions of the program and of the document's texts. The conditions stand with each theorem. -/
import Derived.Test.YtlbadnpgmkobdaaJTterm4x1
import Derived.Test.YtlbadnpgmkobdaaProg
import Derived.Test.YtlbadnpgmkobdaaJTterm4x6
import Derived.Test.YtlbadnpgmkobdaaJTterm4x3
set_option linter.unusedVariables false
set_option linter.unusedSimpArgs false
namespace Go.Proofs.YtlbadnpgmkobdaaV
open Go Go.RowKit Go.Proofs

def errV (b : Bool) : Value := cond b .nilIface (.iface 86 (.string (bsT [116, 111, 111, 32, 108, 111, 110, 103])))
section
variable {ρ : Env} {w : World}
theorem R_errNeq {d : Option Tmp} {u : TypeId} {r : Tmp} {ty : TypeId} {pos : String} {af : Array Edge} {g : Option (Nat × Bool)} {b : Bool} (hx : evR ρ (.tmp r) = errV b) :
  (execOp (evR ρ) ⟨d, .binOp .neq 83 (.tmp r) (.const .nilIface) u, ty, pos, af, g⟩).run Try.prog w = .ok (.value (.bool (!b))) w := by
 refine pureR_run ?_
 simp only [execOp, hx]
 cases b <;> kernel_rfl
end
/-- A writer: its block, its text. -/
def BW (G : Nat → Prop) (w : World) (q p : Nat) (t : Tx) : Prop :=
 ∃ a A n cp, Blk w q 81 [.pointer (some ⟨p, 0, none⟩), .pointer a, .slice A n cp] ∧ n = t.length ∧ (a = none ∨ a = some ⟨q, 1, none⟩) ∧ Own w 0 5 1 (.slice A n cp) n (u8s t) ∧ G q ∧ (∀ c, (Value.slice A n cp).ownBlock = some c → G c) ∧ ∀ c, G c → c < w.heap.size
theorem BW.lt {G : Nat → Prop} {w : World} {q p : Nat} {t : Tx} (h : BW G w q p t) : ∀ c, G c → c < w.heap.size := by obtain ⟨_, _, _, _, _, _, _, _, _, _, h⟩ := h; exact h
theorem BW.tch0 {G : Nat → Prop} {w w' : World} {q p : Nat} {t : Tx} (h : BW G w q p t) (k : Tch N0 w w') : BW G w' q p t := by
 obtain ⟨a, A, n, cp, h1, h2, h3, h4, h5, h6, h7⟩ := h
 exact ⟨a, A, n, cp, h1.tch0 k, h2, h3, h4.tch0 k, h5, h6, fun c hc => Nat.lt_of_lt_of_le (h7 c hc) k.size⟩
theorem BW.tchS {G S : Nat → Prop} {w w' : World} {q p : Nat} {t : Tx} (h : BW G w q p t) (k : Tch S w w') (hs : ∀ b, S b → ¬ G b) : BW G w' q p t := by
 obtain ⟨a, A, n, cp, h1, h2, h3, h4, h5, h6, h7⟩ := h
 exact ⟨a, A, n, cp, h1.tch k (fun e => hs _ e h5), h2, h3, h4.tch k (fun c hc e => hs _ e (h6 c hc)), h5, h6, fun c hc => Nat.lt_of_lt_of_le (h7 c hc) k.size⟩
theorem shape_blk {w : World} {b t : Nat} {l : List Value} (h : Blk w b t l) : w.shape? b = some (t, l.length) := by
 unfold Blk at h
 simp [World.shape?, h]

set_option maxRecDepth 100000 in
theorem blen_ok (G : Nat → Prop) (q p : Nat) (t : Tx) (w : World) (hB : BW G w q p t) : Ret Try.prog 98 [.pointer (some ⟨q, 1, none⟩)] w fun v w' => v = .int .i64 ((t.length : Nat) : Int) ∧ Tch N0 w w' := by
 obtain ⟨a, A, n, cp, hQ, hn, ha, hO, hGq, hGA, hGl⟩ := hB
 subst hn
 refine enter Try.func98 rfl rfl ?_
 refine zQ ?_
 refine zS [(2, .int .i64 0)] ?_
 refine op_nil ?_
 refine zQ ?_
 refine zS [(3, .pointer (some ⟨q, 1, none⟩)), (4, .pointer (some ⟨q, 1, none⟩)), (5, .pointer (some ⟨q, 2, none⟩))] ?_
 refine zL (.slice A t.length cp) ((hQ.cell 2).trans rfl) ?_
 refine zS [(7, .int .i64 (t.length : Int)), (2, .int .i64 (t.length : Int))] ?_
 refine op_nil ?_
 refine W_ret ?_
 exact ⟨_, Res_of (v := .int .i64 (t.length : Int)) (by kernel_rfl), ⟨rfl, Tch.refl _ _⟩⟩

theorem sz79 : (Try.prog.info? 79).map (·.size) = some 2 := by kernel_rfl
theorem lies79 : liesAt Try.prog Try.prog.depth 81 (3 / Try.prog.cellsOf 81) 1 79 1 = true := by kernel_rfl

set_option maxRecDepth 100000 in
theorem cc0_ok (q : Nat) (X Y : Value) (w : World) (hQ : Blk w q 81 [X, .pointer none, Y]) : Ret Try.prog 115 [.pointer (some ⟨q, 1, none⟩)] w fun v w' => v = .tuple #[] ∧ Blk w' q 81 [X, .pointer (some ⟨q, 1, none⟩), Y] ∧ Tch (one q) w w' := by
 obtain ⟨j, hj, hjs⟩ := Option.map_eq_some_iff.1 sz79
 have hsh := shape_blk hQ
 refine enter Try.func115 rfl rfl ?_
 refine zQ ?_
 refine zS [(2, .pointer (some ⟨q, 1, none⟩)), (3, .pointer (some ⟨q, 1, none⟩)), (4, .pointer (some ⟨q, 1, none⟩))] ?_
 refine zL (.pointer none) ((hQ.cell 1).trans rfl) ?_
 refine zS [(6, .bool true)] ?_
 refine zO true (fun _ => ?_) (fun h => nomatch h)
 refine zR ?_
 refine zS [(7, .pointer (some ⟨q, 1, none⟩)), (8, .pointer (some ⟨q, 1, none⟩))] ?_
 refine stv (v := .pointer (some ⟨q, 1, none⟩)) (by rfl) (R_conv (v := .pointer (some ⟨q, 1, none⟩)) (by kernel_rfl) (Lib.run_to_unsafe w ⟨q, 1, none⟩ (by kernel_rfl) (by kernel_rfl) hj (by rw [hjs]; decide) hsh (by show (1 : Nat) < 3; omega))) ?_
 refine stv (v := .pointer (some ⟨q, 1, none⟩)) (by rfl) (R_pure (by kernel_rfl)) ?_
 refine stv (v := .pointer (some ⟨q, 1, none⟩)) (by rfl) (R_conv (v := .pointer (some ⟨q, 1, none⟩)) (by kernel_rfl) (Lib.run_from_unsafe w ⟨q, 1, none⟩ (by kernel_rfl) (by kernel_rfl) hj hsh lies79)) ?_
 refine zS [(12, .pointer (some ⟨q, 1, none⟩)), (13, .pointer (some ⟨q, 1, none⟩))] ?_
 refine st (by rfl) (S_store (b := q) (j := 1) (v := .pointer (some ⟨q, 1, none⟩)) (by kernel_rfl) (by kernel_rfl) (by kernel_rfl) (by rfl) hQ (by simp) fun w1 hT2 hs3 hQ' => ?_)
 replace hQ : Blk w1 q 81 [X, .pointer (some ⟨q, 1, none⟩), Y] := hQ'
 refine op_nil ?_
 exact ⟨_, Res_of (v := .tuple #[]) (by kernel_rfl), ⟨rfl, hQ, hT2⟩⟩

set_option maxRecDepth 100000 in
theorem cc1_ok (q : Nat) (X Y : Value) (w : World) (hQ : Blk w q 81 [X, .pointer (some ⟨q, 1, none⟩), Y]) : Ret Try.prog 115 [.pointer (some ⟨q, 1, none⟩)] w fun v w' => v = .tuple #[] ∧ Blk w' q 81 [X, .pointer (some ⟨q, 1, none⟩), Y] ∧ Tch (one q) w w' := by
 obtain ⟨j, hj, hjs⟩ := Option.map_eq_some_iff.1 sz79
 refine enter Try.func115 rfl rfl ?_
 refine zQ ?_
 refine zS [(2, .pointer (some ⟨q, 1, none⟩)), (3, .pointer (some ⟨q, 1, none⟩)), (4, .pointer (some ⟨q, 1, none⟩))] ?_
 refine zL (.pointer (some ⟨q, 1, none⟩)) ((hQ.cell 1).trans rfl) ?_
 refine zS [(6, .bool false)] ?_
 refine zO false (fun h => nomatch h) (fun _ => ?_)
 refine zQ ?_
 refine zS [(14, .pointer (some ⟨q, 1, none⟩)), (15, .pointer (some ⟨q, 1, none⟩)), (16, .pointer (some ⟨q, 1, none⟩))] ?_
 refine zL (.pointer (some ⟨q, 1, none⟩)) ((hQ.cell 1).trans rfl) ?_
 refine zS [(18, .pointer (some ⟨q, 1, none⟩))] ?_
 refine stv (v := .bool false) (by rfl) (R_binop (v := .pointer (some ⟨q, 1, none⟩)) (v' := .pointer (some ⟨q, 1, none⟩)) (by kernel_rfl) (by kernel_rfl) (by kernel_rfl) (Lib.run_neq_ptr_same w ⟨q, 1, none⟩ (by kernel_rfl) hj)) ?_
 refine zO false (fun h => nomatch h) (fun _ => ?_)
 refine W_skip ?_
 exact ⟨_, Res_of (v := .tuple #[]) (by kernel_rfl), ⟨rfl, hQ, Tch.refl _ _⟩⟩

theorem cc_ok (q : Nat) (X Y : Value) (a : Option Addr) (w : World) (hQ : Blk w q 81 [X, .pointer a, Y]) (ha : a = none ∨ a = some ⟨q, 1, none⟩) : Ret Try.prog 115 [.pointer (some ⟨q, 1, none⟩)] w fun v w' => v = .tuple #[] ∧ Blk w' q 81 [X, .pointer (some ⟨q, 1, none⟩), Y] ∧ Tch (one q) w w' := by
 rcases ha with rfl | rfl
 ·
  exact cc0_ok q X Y w hQ
 ·
  exact cc1_ok q X Y w hQ

set_option maxRecDepth 100000 in
theorem ws_ok (G : Nat → Prop) (q p : Nat) (t : Tx) (z : Tx) (w : World) (hB : BW G w q p t) (hl : t.length + z.length ≤ 140737488355328) : Ret Try.prog 99 [.pointer (some ⟨q, 1, none⟩), .string (bsT z)] w fun v w' => v = .tuple #[.int .i64 ((z.length : Nat) : Int), .nilIface] ∧ ∃ G', BW G' w' q p (t ++ z) ∧ Mv G G' w w' := by
 obtain ⟨a, A, n, cp, hQ, hn, ha, hO, hGq, hGA, hGl⟩ := hB
 have hMv := Mv.refl G w
 refine enter Try.func99 rfl rfl ?_
 refine zQ ?_
 refine zS [(4, .int .i64 0), (5, .nilIface)] ?_
 refine op_nil ?_
 refine zQ ?_
 refine zS [(6, .pointer (some ⟨q, 1, none⟩))] ?_
 have lQ_ := hQ.lt
 refine zC (cc_ok q _ _ a _ hQ ha) ?_
 rintro _ w1 ⟨rfl, hQ1, hT2⟩
 have hO := hO.tch hT2 (fun c hc e => hO.blk_ne hQ (by decide) c hc e)
 have hMv := hMv.trans (.same ((hT2).weaken (fun b _ e => by have : b = q := e; rw [this]; exact hGq)))
 have hQ := hQ1
 refine op_nil ?_
 refine zQ ?_
 refine zS [(8, .pointer (some ⟨q, 1, none⟩)), (9, .pointer (some ⟨q, 1, none⟩)), (10, .pointer (some ⟨q, 1, none⟩)), (11, .pointer (some ⟨q, 2, none⟩))] ?_
 refine zL (.slice A n cp) ((hQ.cell 2).trans rfl) ?_
 refine zS [(13, .string (bsT z))] ?_
 have hMs := hMv.1.size
 refine st (by rfl) (S_appendS 77 9 5 (n := n) (A := A) (cp := cp) (cells := u8s t) (s := z) (by kernel_rfl) (by kernel_rfl) (by kernel_rfl) (by kernel_rfl) (by kernel_rfl) hO (by omega) fun A2 cp2 w3 hO2 hw2 hT4 => ?_)
 have hQ := hQ.tch hT4 (fun e => hO.blk_ne hQ (by decide) _ e rfl)
 have hMv := hMv.trans (.same (hT4.weaken (fun b _ e => hGA b e)))
 have hO := hO2
 refine zS [(15, .pointer (some ⟨q, 1, none⟩)), (16, .pointer (some ⟨q, 2, none⟩))] ?_
 refine st (by rfl) (S_store (b := q) (j := 2) (v := .slice A2 (n + z.length) cp2) (by kernel_rfl) (by kernel_rfl) (by kernel_rfl) (by rfl) hQ (by simp) fun w5 hT6 hs7 hQ' => ?_)
 have hMv := hMv.trans (.same ((hT6).weaken (fun b _ e => by have : b = q := e; rw [this]; exact hGq)))
 have hO := hO.tch hT6 (fun c hc e => hO.blk_ne hQ (by decide) c hc e)
 replace hQ : Blk w5 q 81 [.pointer (some ⟨p, 0, none⟩), .pointer (some ⟨q, 1, none⟩), .slice A2 (n + z.length) cp2] := hQ'
 refine op_nil ?_
 refine W_seq ?_
 refine zF [(0, .pointer (some ⟨q, 1, none⟩)), (1, .string (bsT z)), (4, .int .i64 0), (5, .nilIface)] fun ρ => ?_
 refine zR ?_
 refine zS [(17, .string (bsT z)), (18, .int .i64 ((z.length : Nat) : Int)), (4, .int .i64 ((z.length : Nat) : Int)), (5, .nilIface)] ?_
 refine op_nil ?_
 refine W_ret ?_
 refine ⟨_, Res_of (v := .tuple #[.int .i64 ((z.length : Nat) : Int), .nilIface]) (by kernel_rfl), ?_⟩
 have hlt := hO.lt
 refine ⟨rfl, fun c => G c ∨ (Value.slice A2 (n + z.length) cp2).ownBlock = some c, ⟨_, A2, n + z.length, cp2, hQ, by rw [List.length_append, hn], .inr rfl, by rw [u8s_app]; exact hO, .inl hGq, fun c hc => .inr hc, ?_⟩, ⟨hMv.1, ?_⟩⟩
 ·
  rintro c (hc | hc)
  ·
   exact Nat.lt_of_lt_of_le (hGl c hc) hMv.1.size
  ·
   exact hlt c hc
 ·
  rintro c (hc | hc)
  ·
   exact .inl hc
  ·
   exact (hw2 c hc).elim (fun e => .inl (hGA c e)) (fun e => .inr (by omega))

set_option maxRecDepth 100000 in
theorem bstr_ok (G : Nat → Prop) (q p : Nat) (t : Tx) (w : World) (hB : BW G w q p t) (h0 : t ≠ []) : Ret Try.prog 47 [.pointer (some ⟨q, 1, none⟩)] w fun v w' => v = .string (bsT t) ∧ Tch G w w' := by
 obtain ⟨a, A, n, cp, hQ, hn, ha, hO, hGq, hGA, hGl⟩ := hB
 obtain ⟨g, sp, rfl, hG, hsl, hnc, hcm⟩ := hO.blk1 (by rw [hn]; exact List.length_pos_iff.2 h0)
 have hsh := shape_blk hG
 rw [hsl] at hsh
 simp only [maxLen] at hcm
 have h0l : 0 < t.length := List.length_pos_iff.2 h0
 subst hn
 refine enter Try.func47 rfl rfl ?_
 refine zQ ?_
 refine zS [(2, .string (bsT ([])))] ?_
 refine op_nil ?_
 refine W_seq ?_
 refine W_tail 10 (by kernel_rfl) (by kernel_rfl) (by kernel_rfl) fun w1 hT2 hh3 => ?_
 have hT0 := hT2
 have hQ := hQ.tch0 hT2
 have hG := hG.tch0 hT2
 refine qsg [(3, .pointer (some ⟨q, 1, none⟩)), (4, .pointer (some ⟨q, 1, none⟩)), (5, .pointer (some ⟨q, 2, none⟩))] (by kernel_rfl) ?_
 refine q_val (v := .slice (some ⟨g, 0, none⟩) t.length cp) (by rfl) (R_load (v := .slice (some ⟨g, 0, none⟩) t.length cp) (by kernel_rfl) (by kernel_rfl) ((hQ.cell 2).trans rfl)) ?_
 refine q_val (v := .pointer (some ⟨g, 0, none⟩)) (by rfl) (R_usd (n := t.length) (c := cp) (by kernel_rfl) (by omega)) ?_
 refine qsg [(8, .pointer (some ⟨q, 1, none⟩)), (9, .pointer (some ⟨q, 1, none⟩)), (10, .pointer (some ⟨q, 2, none⟩))] (by kernel_rfl) ?_
 refine q_val (v := .slice (some ⟨g, 0, none⟩) t.length cp) (by rfl) (R_load (v := .slice (some ⟨g, 0, none⟩) t.length cp) (by kernel_rfl) (by kernel_rfl) ((hQ.cell 2).trans rfl)) ?_
 refine qsg [(12, .int .i64 (t.length : Int))] (by kernel_rfl) ?_
 refine q_nil ?_
 have hsh2 := shape_blk hG; rw [hsl] at hsh2
 refine st (by rfl) (S_ustr (e := 5) (q := g) (cells := cp) (l := t) (by kernel_rfl) (by kernel_rfl) (by kernel_rfl) (by kernel_rfl) hsh2 h0 (by omega) (by omega) (fun k u hk => by rw [hG.cell, List.getElem?_append_left (by rw [u8s_length]; rcases Nat.lt_or_ge k t.length with h | h; exact h; rw [List.getElem?_eq_none (by rw [u8s_length]; exact h)] at hk; cases hk)]; exact hk) fun w4 hT5 => ?_)
 have hT9 : Tch G w w4 := (hT0).trans hT5 (fun _ _ e => e.elim) (fun b _ e => by have : b = g := e; rw [this]; exact hGA g rfl)
 refine zS [(2, .string (bsT t))] ?_
 refine op_nil ?_
 refine W_ret ?_
 exact ⟨_, Res_of (v := .string (bsT t)) (by kernel_rfl), ⟨rfl, hT9⟩⟩

set_option maxRecDepth 100000 in
theorem is_ok (w : World) : Ret Try.prog 71 [.iface 86 (.string (bsT ([116, 111, 111, 32, 108, 111, 110, 103]))), .iface 86 (.string (bsT ([116, 111, 111, 32, 108, 111, 110, 103]))), .bool true] w fun v w' => v = .bool true ∧ Tch N0 w w' := by
 refine enter Try.func71 rfl rfl ?_
 refine zQ ?_
 refine zS [(6, .bool false)] ?_
 refine op_nil ?_
 refine W_block ?_
 refine W_un 1 ?_
 refine Un_s ?_
 refine W_block ?_
 refine W_seq ?_
 refine zQ ?_
 refine zS [(14, .bool true), (15, .bool true), (16, .iface 86 (.string (bsT ([116, 111, 111, 32, 108, 111, 110, 103])))), (17, .iface 86 (.string (bsT ([116, 111, 111, 32, 108, 111, 110, 103])))), (18, .bool true), (19, .bool true)] ?_
 refine zO true (fun _ => ?_) (fun h => nomatch h)
 refine zQ ?_
 refine zS [(6, .bool true)] ?_
 refine op_nil ?_
 refine W_ret ?_
 exact ⟨_, Res_of (v := .bool true) (by kernel_rfl), ⟨rfl, Tch.refl _ _⟩⟩

set_option maxRecDepth 100000 in
theorem Is_t (w : World) : Ret Try.prog 46 [.iface 86 (.string (bsT ([116, 111, 111, 32, 108, 111, 110, 103]))), .iface 86 (.string (bsT ([116, 111, 111, 32, 108, 111, 110, 103])))] w fun v w' => v = .bool true ∧ Tch N0 w w' := by
 refine enter Try.func46 rfl rfl ?_
 refine zQ ?_
 refine zS [(4, .bool false)] ?_
 refine op_nil ?_
 refine W_seq ?_
 refine zQ ?_
 refine zS [(6, .iface 86 (.string (bsT ([116, 111, 111, 32, 108, 111, 110, 103])))), (7, .bool false), (8, .bool false), (9, .iface 86 (.string (bsT ([116, 111, 111, 32, 108, 111, 110, 103])))), (10, .bool false), (11, .bool false)] ?_
 refine zO false (fun h => nomatch h) (fun _ => ?_)
 refine W_skip ?_
 refine zQ ?_
 refine zS [(15, .iface 86 (.string (bsT ([116, 111, 111, 32, 108, 111, 110, 103]))))] ?_
 refine stv (v := .iface 162 (.agg #[.pointer (some ⟨0, 86, none⟩)])) (w' := w) (by rfl) (by kernel_rfl) ?_
 refine stv (v := .bool true) (w' := w) (by rfl) (by kernel_rfl) ?_
 refine zS [(5, .bool true)] ?_
 refine op_nil ?_
 refine W_seq ?_
 refine zF [(0, .iface 86 (.string (bsT ([116, 111, 111, 32, 108, 111, 110, 103])))), (1, .iface 86 (.string (bsT ([116, 111, 111, 32, 108, 111, 110, 103])))), (4, .bool false), (5, .bool true), (11, .bool false)] fun ρ => ?_
 refine zR ?_
 refine zS [(18, .iface 86 (.string (bsT ([116, 111, 111, 32, 108, 111, 110, 103])))), (19, .iface 86 (.string (bsT ([116, 111, 111, 32, 108, 111, 110, 103])))), (20, .bool true)] ?_
 refine zC (is_ok _) ?_
 rintro _ w1 ⟨rfl, hT2⟩
 have hT0 := hT2
 refine zS [(4, .bool true)] ?_
 refine op_nil ?_
 refine W_ret ?_
 exact ⟨_, Res_of (v := .bool true) (by kernel_rfl), ⟨rfl, hT0⟩⟩

set_option maxRecDepth 100000 in
theorem Is_n (w : World) : Ret Try.prog 46 [.nilIface, .iface 86 (.string (bsT ([116, 111, 111, 32, 108, 111, 110, 103])))] w fun v w' => v = .bool false ∧ Tch N0 w w' := by
 refine enter Try.func46 rfl rfl ?_
 refine zQ ?_
 refine zS [(4, .bool false)] ?_
 refine op_nil ?_
 refine W_seq ?_
 refine zQ ?_
 refine zS [(6, .nilIface), (7, .bool true), (8, .bool true), (9, undef), (10, undef), (11, .bool true)] ?_
 refine zO true (fun _ => ?_) (fun h => nomatch h)
 refine zQ ?_
 refine zS [(12, .nilIface), (13, .iface 86 (.string (bsT ([116, 111, 111, 32, 108, 111, 110, 103])))), (14, .bool false), (4, .bool false)] ?_
 refine op_nil ?_
 refine W_ret ?_
 exact ⟨_, Res_of (v := .bool false) (by kernel_rfl), ⟨rfl, Tch.refl _ _⟩⟩

theorem Is_ok (b : Bool) (w : World) : Ret Try.prog 46 [errV b, errV false] w fun v w' => v = .bool (!b) ∧ Tch N0 w w' := by
 cases b
 ·
  exact Is_t w
 ·
  exact Is_n w

set_option maxRecDepth 100000 in
theorem add_ok (G : Nat → Prop) (q p : Nat) (t : Tx) (z : Tx) (w : World) (hB : BW G w q p t) (ht : t.length ≤ 4096) (hz : z.length ≤ 1000000) : Ret Try.prog 67 [.pointer (some ⟨q, 0, none⟩), .string (bsT z)] w fun v w' => v = errV (decide (t.length + z.length ≤ 4096)) ∧ ∃ G' t', BW G' w' q p t' ∧ Mv G G' w w' ∧ t'.length ≤ 4096 ∧ (t.length + z.length ≤ 4096 → t' = t ++ z) := by
 have hMv := Mv.refl G w
 refine enter Try.func67 rfl rfl ?_
 refine zQ ?_
 refine zS [(4, .nilIface)] ?_
 refine op_nil ?_
 refine W_seq ?_
 refine zQ ?_
 refine zS [(5, .pointer (some ⟨q, 0, none⟩)), (6, .pointer (some ⟨q, 0, none⟩)), (7, .pointer (some ⟨q, 1, none⟩))] ?_
 refine zC (blen_ok G q p t _ hB) ?_
 rintro _ w1 ⟨rfl, hT2⟩
 have hB := hB.tch0 hT2
 have hMv := hMv.then0 hT2
 refine zS [(9, .string (bsT z)), (10, .int .i64 ((z.length : Nat) : Int)), (11, .int .i64 (IntKind.i64.wrap (((t.length : Nat) : Int) + ((z.length : Nat) : Int))))] ?_
 rw [show IntKind.i64.wrap (((t.length : Nat) : Int) + ((z.length : Nat) : Int)) = ((t.length : Nat) : Int) + ((z.length : Nat) : Int) from wrap_i64 (by omega) (by omega)]
 refine zS [(12, .bool (decide (((t.length : Nat) : Int) + ((z.length : Nat) : Int) > 4096)))] ?_
 refine zO (decide (((t.length : Nat) : Int) + ((z.length : Nat) : Int) > 4096)) (fun hc3 => ?_) (fun hc3 => ?_)
 ·
  replace hc3 : 4096 < ((t.length : Nat) : Int) + ((z.length : Nat) : Int) := (of_decide_eq_true hc3)
  refine W_seq ?_
  refine zF [(0, .pointer (some ⟨q, 0, none⟩)), (1, .string (bsT z)), (4, .nilIface), (12, .bool (decide (((t.length : Nat) : Int) + ((z.length : Nat) : Int) > 4096)))] fun ρ => ?_
  refine zR ?_
  refine zS [(13, .iface 86 (.string (bsT ([116, 111, 111, 32, 108, 111, 110, 103])))), (4, .iface 86 (.string (bsT ([116, 111, 111, 32, 108, 111, 110, 103]))))] ?_
  refine op_nil ?_
  refine W_ret ?_
  exact ⟨_, Res_of (v := .iface 86 (.string (bsT ([116, 111, 111, 32, 108, 111, 110, 103])))) (by kernel_rfl), ⟨by rw [decide_eq_false (by omega)]; rfl, _, t, hB, hMv, by omega, fun h => by omega⟩⟩
 ·
  replace hc3 : ((t.length : Nat) : Int) + ((z.length : Nat) : Int) ≤ 4096 := (Int.not_lt.1 (of_decide_eq_false hc3))
  refine W_skip ?_
  refine W_seq ?_
  refine zF [(0, .pointer (some ⟨q, 0, none⟩)), (1, .string (bsT z)), (4, .nilIface), (12, .bool (decide (((t.length : Nat) : Int) + ((z.length : Nat) : Int) > 4096)))] fun ρ => ?_
  refine zR ?_
  refine zS [(14, .pointer (some ⟨q, 0, none⟩)), (15, .pointer (some ⟨q, 0, none⟩)), (16, .pointer (some ⟨q, 1, none⟩)), (17, .string (bsT z))] ?_
  refine zC (ws_ok G q p t z _ hB (by omega)) ?_
  rintro _ w4 ⟨rfl, G5, hB, hM6⟩
  have hMv := hMv.trans hM6
  refine op_nil ?_
  refine zQ ?_
  refine zS [(4, .nilIface)] ?_
  refine op_nil ?_
  refine W_ret ?_
  exact ⟨_, Res_of (v := .nilIface) (by kernel_rfl), ⟨by rw [decide_eq_true (by omega)]; rfl, _, _, hB, hMv, by rw [List.length_append]; omega, fun _ => rfl⟩⟩

end Go.Proofs.YtlbadnpgmkobdaaV

set_option linter.unusedVariables false
set_option linter.unusedSimpArgs false
namespace Go.Proofs.YtlbadnpgmkobdaaV
open Go Go.RowKit Go.Proofs
/-- The word of an operator. -/
def wordT (o : Nat) : Tx :=
 if o = 1 then [97, 100, 100] else if o = 2 then [115, 117, 98] else if o = 3 then [109, 117, 108] else if o = 4 then [117, 100, 105, 118] else if o = 5 then [117, 114, 101, 109] else if o = 6 then [97, 110, 100]
 else if o = 7 then [111, 114] else if o = 8 then [120, 111, 114] else if o = 9 then [115, 104, 108] else if o = 10 then [115, 104, 114] else if o = 11 then [115, 97, 114] else if o = 12 then [101, 113]
 else if o = 13 then [117, 108, 116] else if o = 14 then [115, 108, 116] else if o = 15 then [110, 111, 116] else if o = 16 then [110, 101, 103] else if o = 22 then [105, 116, 101] else if o = 23 then [101, 120, 116]
 else if o = 24 then [99, 97, 116] else if o = 25 then [122, 101, 120, 116] else if o = 26 then [115, 101, 120, 116] else []
def tg (l : List Tx) (i : Nat) : Tx := l.getD i []
/-- A node's text, of those of all ahead. -/
def midT (n : Nd) : Tx := if nO n = 23 then [32] ++ dgs (nB n).toNat ++ [32] ++ dgs (nW n).toNat else if nO n = 25 ∨ nO n = 26 then [32] ++ dgs (nW n).toNat else []
def ndT (l : List Tx) (n : Nd) : Tx :=
 if nO n = 20 then dgs (nV n).toNat ++ [58] ++ dgs (nW n).toNat else if nO n = 21 then [120] ++ dgs (nA n).toNat ++ [58] ++ dgs (nW n).toNat
 else [40] ++ wordT (nO n).toNat ++ midT n ++ (kidsN n).flatMap (fun k => 32 :: tg l k) ++ [41]
def tl (N : List Nd) : Nat → List Tx
 | 0 => []
 | i + 1 => tl N i ++ [ndT (tl N i) (nth N i)]
theorem tl_length (N : List Nd) (i : Nat) : (tl N i).length = i := by
 induction i with
 | zero => rfl
 | succ i ih => show (tl N i ++ [_]).length = _; rw [List.length_append, ih]; rfl
def txt (N : List Nd) (i : Nat) : Tx := ndT (tl N i) (nth N i)
theorem tg_app_eq {l : List Tx} {x : Tx} : tg (l ++ [x]) l.length = x := by unfold tg; simp [List.getD_eq_getElem?_getD]
theorem tl_tg {N : List Nd} {i j : Nat} (h : i < j) : tg (tl N j) i = txt N i := by
 induction j with
 | zero => omega
 | succ j ih =>
  show tg (tl N j ++ [txt N j]) i = _
  by_cases e : i = j
  ·
   subst e
   have := tg_app_eq (l := tl N i) (x := txt N i)
   rw [tl_length] at this
   exact this
  ·
   have hl := tl_length N j
   unfold tg
   rw [List.getD_eq_getElem?_getD, List.getElem?_append_left (by omega), ← List.getD_eq_getElem?_getD]
   exact ih (by omega)
end Go.Proofs.YtlbadnpgmkobdaaV

set_option linter.unusedVariables false
set_option linter.unusedSimpArgs false
namespace Go.Proofs.YtlbadnpgmkobdaaV
open Go Go.RowKit Go.Proofs
/-- What a node does not use is zero. -/
def NdZ (n : Nd) : Prop := (nO n = 20 → nA n = 0 ∧ nB n = 0 ∧ nC n = 0) ∧ (nO n = 21 → nB n = 0 ∧ nC n = 0 ∧ nV n = 0) ∧ (nO n ≠ 20 → nV n = 0) ∧ (nO n ≠ 22 → nC n = 0) ∧ (nO n = 15 ∨ nO n = 16 ∨ nO n = 25 ∨ nO n = 26 → nB n = 0)
def TZ (N : List Nd) : Prop := ∀ n, n ∈ N → NdZ n
theorem TZ_nil : TZ [] := fun n h => by simp at h
theorem mk_TZ {N : List Nd} {most : Int} {n : Nd} (h : TZ N) (hn : NdZ n) : TZ (mk N most n).2.2 := by
 unfold mk
 split
 ·
  exact h
 ·
  split
  ·
   exact h
  ·
   intro m hm
   have hm' : m ∈ N ++ [n] := hm
   rw [List.mem_append] at hm'
   rcases hm' with q | q
   ·
    exact h m q
   ·
    rw [show m = n by simpa using q]; exact hn
theorem made_TZ {N : List Nd} (h : TZ N) (most k w a b c x : Int) : TZ (madeF N most k w a b c x).2.2 := by
 unfold madeF
 split
 ·
  unfold constF; split
  ·
   exact h
  ·
   exact mk_TZ h ⟨fun _ => ⟨rfl, rfl, rfl⟩, fun q => by simp [nO] at q, fun q => absurd rfl q, fun _ => rfl, fun q => by simp [nO] at q⟩
 ·
  split
  ·
   unfold varF; split
   ·
    exact h
   ·
    split
    ·
     exact h
    ·
     split
     ·
      exact h
     ·
      exact mk_TZ h ⟨fun q => by simp [nO] at q, fun _ => ⟨rfl, rfl, rfl⟩, fun _ => rfl, fun _ => rfl, fun _ => rfl⟩
  ·
   split
   ·
    unfold unaF; split
    ·
     exact h
    ·
     split
     ·
      exact h
     ·
      exact mk_TZ h ⟨fun q => ⟨by rename_i h1 _; have : a = 20 := q; omega, rfl, rfl⟩, fun _ => ⟨rfl, rfl, rfl⟩, fun _ => rfl, fun _ => rfl, fun _ => rfl⟩
   ·
    split
    ·
     unfold binF; split
     ·
      exact h
     ·
      split
      ·
       exact h
      ·
       split
       ·
        exact h
       ·
        rename_i h1 _ _
        exact mk_TZ h ⟨fun q => by have : a = 20 := q; omega, fun q => by have : a = 21 := q; omega, fun _ => rfl, fun _ => rfl, fun q => by have : a = 15 ∨ a = 16 ∨ a = 25 ∨ a = 26 := q; omega⟩
    ·
     split
     ·
      unfold iteF; split
      ·
       exact h
      ·
       split
       ·
        exact h
       ·
        exact mk_TZ h ⟨fun q => by simp [nO] at q, fun q => by simp [nO] at q, fun _ => rfl, fun q => absurd rfl q, fun q => by simp [nO] at q⟩
     ·
      split
      ·
       unfold extF; split
       ·
        exact h
       ·
        split
        ·
         exact h
        ·
         exact mk_TZ h ⟨fun q => by simp [nO] at q, fun q => by simp [nO] at q, fun _ => rfl, fun _ => rfl, fun q => by simp [nO] at q⟩
      ·
       split
       ·
        unfold catF; split
        ·
         exact h
        ·
         split
         ·
          exact h
         ·
          exact mk_TZ h ⟨fun q => by simp [nO] at q, fun q => by simp [nO] at q, fun _ => rfl, fun _ => rfl, fun q => by simp [nO] at q⟩
       ·
        unfold exdF; split
        ·
         exact h
        ·
         split
         ·
          exact h
         ·
          split
          ·
           exact h
          ·
           refine mk_TZ h ⟨fun q => ?_, fun q => ?_, fun _ => rfl, fun _ => rfl, fun _ => rfl⟩
           ·
            exfalso
            have : (if b.tmod 2 != 0 then (26 : Int) else 25) = 20 := q
            split at this <;> omega
           ·
            exfalso
            have : (if b.tmod 2 != 0 then (26 : Int) else 25) = 21 := q
            split at this <;> omega
end Go.Proofs.YtlbadnpgmkobdaaV

set_option linter.unusedVariables false
set_option linter.unusedSimpArgs false
namespace Go.Proofs.YtlbadnpgmkobdaaV
open Go Go.RowKit Go.Proofs
/-- What may stand behind a text. -/
def okE (s : Tx) : Prop := s = [] ∨ ∃ r, s = 32 :: r ∨ s = 41 :: r
theorem okE.noD {s : Tx} (h : okE s) : noD s := fun b l e => by
 rcases h with h | ⟨r, h | h⟩
 ·
  rw [h] at e; cases e
 ·
  rw [h] at e; injection e with e _; subst e; decide
 ·
  rw [h] at e; injection e with e _; subst e; decide
theorem okE_sp (s : Tx) : okE (32 :: s) := .inr ⟨s, .inl rfl⟩
theorem okE_cl (s : Tx) : okE (41 :: s) := .inr ⟨s, .inr rfl⟩
theorem noD_col (s : Tx) : noD (58 :: s) := fun b l e => by injection e with e _; subst e; decide
/-- Cut at the first blank. -/
theorem cut_sp {a b s t : Tx} (ha : (32 : UInt8) ∉ a) (hb : (32 : UInt8) ∉ b) (h : a ++ 32 :: s = b ++ 32 :: t) : a = b ∧ s = t := by
 induction a generalizing b with
 | nil =>
  cases b with
  | nil => exact ⟨rfl, by simpa using h⟩
  | cons y b => simp at h; exact absurd h.1.symm (fun e => hb (by simp [e]))
 | cons x a ih =>
  cases b with
  | nil => simp at h; exact absurd h.1 (fun e => ha (by simp [e]))
  | cons y b =>
   simp only [List.cons_append, List.cons.injEq] at h
   obtain ⟨rfl, h⟩ := h
   obtain ⟨e, e2⟩ := ih (fun q => ha (by simp [q])) (fun q => hb (by simp [q])) h
   exact ⟨by rw [e], e2⟩
def opB (o : Nat) : Bool := (decide (1 ≤ o) && decide (o ≤ 16)) || (decide (22 ≤ o) && decide (o ≤ 26))
def opOK (o : Nat) : Prop := (1 ≤ o ∧ o ≤ 16) ∨ (22 ≤ o ∧ o ≤ 26)
theorem opOK.b {o : Nat} (h : opOK o) : opB o = true := by
 unfold opOK at h; unfold opB
 simp only [Bool.or_eq_true, Bool.and_eq_true, decide_eq_true_eq]; exact h
theorem word_tab : (List.range 27).all (fun o => !(wordT o).contains 32) = true := by decide
theorem word_sp {o : Nat} (h : opOK o) : (32 : UInt8) ∉ wordT o := by
 have := List.all_eq_true.1 word_tab o (List.mem_range.2 (by unfold opOK at h; omega))
 simpa using this
theorem word_inj_tab : (List.range 27).all (fun o => (List.range 27).all fun p => !opB o || !opB p || !(wordT o == wordT p) || o == p) = true := by decide
theorem word_inj {o p : Nat} (ho : opOK o) (hp : opOK p) (h : wordT o = wordT p) : o = p := by
 have h1 := List.all_eq_true.1 word_inj_tab o (List.mem_range.2 (by unfold opOK at ho; omega))
 have h2 := List.all_eq_true.1 h1 p (List.mem_range.2 (by unfold opOK at hp; omega))
 rw [ho.b, hp.b, h] at h2
 simpa using h2
theorem flat_ok (f : Nat → Tx) (l : List Nat) (s : Tx) : okE (l.flatMap (fun k => 32 :: f k) ++ 41 :: s) := by
 cases l with
 | nil => exact okE_cl s
 | cons k l => simp only [List.flatMap_cons, List.cons_append]; exact okE_sp _
theorem kids_inj {N : List Nd} {m : Nat} (IH : ∀ k, k < m → ∀ (j : Nat) (s t : Tx), k < N.length → j < N.length → okE s → okE t → txt N k ++ s = txt N j ++ t → k = j ∧ s = t) :
  ∀ (ks ks' : List Nat) (s t : Tx), ks.length = ks'.length → (∀ k, k ∈ ks → k < m ∧ k < N.length) → (∀ k, k ∈ ks' → k < N.length) →
   ks.flatMap (fun k => 32 :: txt N k) ++ 41 :: s = ks'.flatMap (fun k => 32 :: txt N k) ++ 41 :: t → ks = ks' ∧ s = t
 | [], [], s, t, _, _, _, h => ⟨rfl, by simpa using h⟩
 | [], _ :: _, _, _, hl, _, _, _ => by simp at hl
 | _ :: _, [], _, _, hl, _, _, _ => by simp at hl
 | k :: ks, k' :: ks', s, t, hl, h1, h2, h => by
  simp only [List.flatMap_cons, List.cons_append, List.append_assoc, List.cons.injEq, true_and] at h
  obtain ⟨e1, h3⟩ := IH k (h1 k (by simp)).1 k' _ _ (h1 k (by simp)).2 (h2 k' (by simp)) (flat_ok _ ks s) (flat_ok _ ks' t) h
  obtain ⟨e2, e3⟩ := kids_inj IH ks ks' s t (by simpa using hl) (fun x hx => h1 x (by simp [hx])) (fun x hx => h2 x (by simp [hx])) h3
  subst e1 e2 e3
  exact ⟨rfl, rfl⟩
theorem flat_tg {N : List Nd} {i : Nat} : ∀ {ks : List Nat}, (∀ k, k ∈ ks → k < i) → ks.flatMap (fun k => 32 :: tg (tl N i) k) = ks.flatMap (fun k => 32 :: txt N k)
  | [], _ => rfl
  | k :: ks, h => by simp only [List.flatMap_cons]; rw [tl_tg (h k (by simp)), flat_tg (fun x hx => h x (by simp [hx]))]
theorem txt_c {N : List Nd} {i : Nat} (h : nO (nth N i) = 20) (s : Tx) : txt N i ++ s = dgs (nV (nth N i)).toNat ++ 58 :: (dgs (nW (nth N i)).toNat ++ s) := by
 rw [show txt N i = ndT (tl N i) (nth N i) from rfl]; unfold ndT; rw [if_pos h]; simp
theorem txt_v {N : List Nd} {i : Nat} (h : nO (nth N i) = 21) (s : Tx) : txt N i ++ s = 120 :: (dgs (nA (nth N i)).toNat ++ 58 :: (dgs (nW (nth N i)).toNat ++ s)) := by
 rw [show txt N i = ndT (tl N i) (nth N i) from rfl]; unfold ndT; rw [if_neg (by omega), if_pos h]; simp
theorem txt_o {N : List Nd} {i : Nat} (hn : NdW N i (nth N i)) (h : ¬ nO (nth N i) = 20) (h' : ¬ nO (nth N i) = 21) (s : Tx) : txt N i ++ s = 40 :: (wordT (nO (nth N i)).toNat ++ (midT (nth N i) ++ ((kidsN (nth N i)).flatMap (fun k => 32 :: txt N k) ++ 41 :: s))) := by
 rw [show txt N i = ndT (tl N i) (nth N i) from rfl]; unfold ndT; rw [if_neg h, if_neg h', flat_tg (kids_lt hn)]; simp
theorem dgs_head {n : Nat} {X Y : Tx} {c : UInt8} (h : dgs n ++ X = c :: Y) : isD c = true := by
 cases e : dgs n with
 | nil => exact absurd e (dgs_ne n)
 | cons b l =>
  rw [e] at h
  simp only [List.cons_append, List.cons.injEq] at h
  rw [← h.1]; exact dgs_all n b (by rw [e]; simp)
theorem NdW.pos {N : List Nd} {i : Nat} {n : Nd} (h : NdW N i n) (h1 : ¬ nO n = 20) (h2 : ¬ nO n = 21) : 0 ≤ nA n ∧ ((nO n ≤ 14 ∨ nO n = 24 ∨ nO n = 22 ∨ nO n = 23) → 0 ≤ nB n) ∧ (nO n = 22 → 0 ≤ nC n) ∧ 0 ≤ nO n ∧ opOK (nO n).toNat := by
 unfold opOK
 rcases h with h | h | ⟨h, a, e⟩ | ⟨h, a, b, e, e2⟩ | ⟨h, a, b, c, e, e2, e3⟩ | ⟨h, a, b, e⟩ | ⟨h, a, b, e⟩ | ⟨h, a, e⟩ <;> (try simp only [pt] at *) <;> omega
theorem kids_ne {n : Nd} (h1 : ¬ nO n = 20) (h2 : ¬ nO n = 21) : kidsN n ≠ [] := by
 unfold kidsN; rw [if_neg (by omega)]; (repeat' split) <;> simp
theorem rest_sp {n : Nd} (f : Nat → Tx) (h : kidsN n ≠ []) (s : Tx) : ∃ r, midT n ++ ((kidsN n).flatMap (fun k => 32 :: f k) ++ 41 :: s) = 32 :: r := by
 unfold midT
 split
 ·
  exact ⟨_, by simp only [List.cons_append, List.nil_append]; rfl⟩
 ·
  split
  ·
   exact ⟨_, by simp only [List.cons_append, List.nil_append]; rfl⟩
  ·
   cases e : kidsN n with
   | nil => exact absurd e h
   | cons k l => exact ⟨_, by simp only [List.flatMap_cons, List.cons_append, List.nil_append]; rfl⟩
theorem kids_eq {N : List Nd} {i j : Nat} {n m : Nd} (hn : NdW N i n) (hm : NdW N j m) (ho : nO n = nO m) (h1 : ¬ nO n = 20) (h2 : ¬ nO n = 21) (h : kidsN n = kidsN m) :
  nA n = nA m ∧ ((nO n ≤ 14 ∨ nO n = 24 ∨ nO n = 22) → nB n = nB m) ∧ (nO n = 22 → nC n = nC m) := by
 have p := hn.pos h1 h2
 have q := hm.pos (by omega) (by omega)
 obtain ⟨p1, p2, p3, _⟩ := p
 obtain ⟨q1, q2, q3, _⟩ := q
 unfold kidsN at h
 rw [if_neg (show ¬ (nO n = 20 ∨ nO n = 21) by omega), if_neg (show ¬ (nO m = 20 ∨ nO m = 21) by omega)] at h
 by_cases c : nO n = 22
 ·
  rw [if_pos c, if_pos (show nO m = 22 by omega)] at h
  simp only [List.cons.injEq] at h
  have := p2 (by omega); have := q2 (by omega); have := p3 (by omega); have := q3 (by omega)
  refine ⟨by omega, fun _ => by omega, fun _ => by omega⟩
 ·
  rw [if_neg c, if_neg (show ¬ nO m = 22 by omega)] at h
  by_cases c2 : nO n ≤ 14 ∨ nO n = 24
  ·
   rw [if_pos c2, if_pos (show nO m ≤ 14 ∨ nO m = 24 by omega)] at h
   simp only [List.cons.injEq] at h
   have := p2 (by omega); have := q2 (by omega)
   refine ⟨by omega, fun _ => by omega, fun _ => by omega⟩
  ·
   rw [if_neg c2, if_neg (show ¬ (nO m ≤ 14 ∨ nO m = 24) by omega)] at h
   simp only [List.cons.injEq] at h
   refine ⟨by omega, fun _ => by omega, fun _ => by omega⟩
theorem NdW.wid {N : List Nd} {i j : Nat} {n m : Nd} (hn : NdW N i n) (hm : NdW N j m) (ho : nO n = nO m) (hA : nA n = nA m) (hB : (nO n ≤ 14 ∨ nO n = 24 ∨ nO n = 22) → nB n = nB m) (hop : ¬ (nO n = 20 ∨ nO n = 21 ∨ nO n = 23 ∨ nO n = 25 ∨ nO n = 26)) : nW n = nW m := by
 rcases hn with h | h | ⟨h, a, e⟩ | ⟨h, a, b, e, e2⟩ | ⟨h, a, b, c, e, e2, e3⟩ | ⟨h, a, b, e⟩ | ⟨h, a, b, e⟩ | ⟨h, a, e⟩
 ·
  omega
 ·
  omega
 ·
  rcases hm with h' | h' | ⟨h', a', e'⟩ | ⟨h', a', b', e', e2'⟩ | ⟨h', a', b', c', e', e2', e3'⟩ | ⟨h', a', b', e'⟩ | ⟨h', a', b', e'⟩ | ⟨h', a', e'⟩ <;> first | (exfalso; omega) | rw [e, e', hA]
 ·
  rcases hm with h' | h' | ⟨h', a', e'⟩ | ⟨h', a', b', e', e2'⟩ | ⟨h', a', b', c', e', e2', e3'⟩ | ⟨h', a', b', e'⟩ | ⟨h', a', b', e'⟩ | ⟨h', a', e'⟩ <;> first | (exfalso; omega) | rw [e2, e2', hA, ho]
 ·
  rcases hm with h' | h' | ⟨h', a', e'⟩ | ⟨h', a', b', e', e2'⟩ | ⟨h', a', b', c', e', e2', e3'⟩ | ⟨h', a', b', e'⟩ | ⟨h', a', b', e'⟩ | ⟨h', a', e'⟩ <;> first | (exfalso; omega) | rw [e3, e3', hB (by omega)]
 ·
  omega
 ·
  rcases hm with h' | h' | ⟨h', a', e'⟩ | ⟨h', a', b', e', e2'⟩ | ⟨h', a', b', c', e', e2', e3'⟩ | ⟨h', a', b', e'⟩ | ⟨h', a', b', e'⟩ | ⟨h', a', e'⟩ <;> first | (exfalso; omega) | rw [e, e', hA, hB (by omega)]
 ·
  omega
theorem nd_eq {n m : Nd} (o : nO n = nO m) (w : nW n = nW m) (a : nA n = nA m) (b : nB n = nB m) (c : nC n = nC m) (v : nV n = nV m) : n = m := by
 obtain ⟨n1, n2, n3, n4, n5, n6⟩ := n
 obtain ⟨m1, m2, m3, m4, m5, m6⟩ := m
 simp only [nO, nW, nA, nB, nC, nV] at *
 simp [*]
theorem nth_inj {N : List Nd} (h : N.Nodup) {i j : Nat} (hi : i < N.length) (hj : j < N.length) (e : nth N i = nth N j) : i = j := by
 rcases Nat.lt_trichotomy i j with q | q | q
 ·
  exact absurd e (nth_ne h q hj)
 ·
  exact q
 ·
  exact absurd e.symm (nth_ne h q hi)
theorem txt_nd {N : List Nd} {mo : Int} (hJ : TJ N mo) (hB : TB N) (hZ : TZ N) {i j : Nat} {s t : Tx} (hi : i < N.length) (hj : j < N.length) (hs : okE s) (ht : okE t)
  (ih : ∀ k, k < i → ∀ (j : Nat) (s t : Tx), k < N.length → j < N.length → okE s → okE t → txt N k ++ s = txt N j ++ t → k = j ∧ s = t)
  (h : txt N i ++ s = txt N j ++ t) : nth N i = nth N j ∧ s = t := by
 have hn := hB i hi
 have hm := hB j hj
 have zn := hZ _ (nth_mem hi)
 have zm := hZ _ (nth_mem hj)
 have wn := hJ.wr _ (nth_mem hi)
 have wm := hJ.wr _ (nth_mem hj)
 have un := hJ.ti.wf _ (nth_mem hi)
 have um := hJ.ti.wf _ (nth_mem hj)
 have kn := @kids_lt N i _ hn
 have km := @kids_lt N j _ hm
 have A1 := @txt_c N i
 have A2 := @txt_v N i
 have A3 := @txt_o N i hn
 have B1 := @txt_c N j
 have B2 := @txt_v N j
 have B3 := @txt_o N j hm
 generalize nth N i = n at *
 generalize nth N j = m at *
 obtain ⟨z1, z2, z3, z4, z5⟩ := zn
 obtain ⟨y1, y2, y3, y4, y5⟩ := zm
 have un6 := un.2.2.2.2.2
 have um6 := um.2.2.2.2.2
 unfold u64 at un6 um6
 by_cases a0 : nO n = 20
 ·
  rw [A1 a0] at h
  by_cases b0 : nO m = 20
  ·
   rw [B1 b0] at h
   obtain ⟨e1, h⟩ := dgs_cut (noD_col _) (noD_col _) h
   simp only [List.cons.injEq, true_and] at h
   obtain ⟨e2, h⟩ := dgs_cut hs.noD ht.noD h
   have p := z1 a0
   have q := y1 b0
   exact ⟨nd_eq (by omega) (by omega) (by omega) (by omega) (by omega) (by omega), h⟩
  ·
   by_cases b1 : nO m = 21
   ·
    rw [B2 b1] at h; exact absurd (dgs_head h) (by decide)
   ·
    rw [B3 b0 b1] at h; exact absurd (dgs_head h) (by decide)
 ·
  by_cases a1 : nO n = 21
  ·
   rw [A2 a1] at h
   by_cases b0 : nO m = 20
   ·
    rw [B1 b0] at h; exact absurd (dgs_head h.symm) (by decide)
   ·
    by_cases b1 : nO m = 21
    ·
     rw [B2 b1] at h
     simp only [List.cons.injEq, true_and] at h
     obtain ⟨e1, h⟩ := dgs_cut (noD_col _) (noD_col _) h
     simp only [List.cons.injEq, true_and] at h
     obtain ⟨e2, h⟩ := dgs_cut hs.noD ht.noD h
     have p := z2 a1
     have q := y2 b1
     have pa : 0 ≤ nA n := by rcases hn with c | c | c | c | c | c | c | c <;> omega
     have qa : 0 ≤ nA m := by rcases hm with c | c | c | c | c | c | c | c <;> omega
     exact ⟨nd_eq (by omega) (by omega) (by omega) (by omega) (by omega) (by omega), h⟩
    ·
     rw [B3 b0 b1] at h
     simp at h
  ·
   rw [A3 a0 a1] at h
   by_cases b0 : nO m = 20
   ·
    rw [B1 b0] at h; exact absurd (dgs_head h.symm) (by decide)
   ·
    by_cases b1 : nO m = 21
    ·
     rw [B2 b1] at h
     simp at h
    ·
     rw [B3 b0 b1] at h
     simp only [List.cons.injEq, true_and] at h
     obtain ⟨p1, p2, p3, p4, p5⟩ := hn.pos a0 a1
     obtain ⟨q1, q2, q3, q4, q5⟩ := hm.pos b0 b1
     obtain ⟨r1, er1⟩ := rest_sp (txt N) (kids_ne a0 a1) s
     obtain ⟨r2, er2⟩ := rest_sp (txt N) (kids_ne b0 b1) t
     have h0 := h
     rw [er1, er2] at h0
     obtain ⟨ew, _⟩ := cut_sp (word_sp p5) (word_sp q5) h0
     have ho := word_inj p5 q5 ew
     have eo : nO n = nO m := by omega
     rw [ew] at h
     have h := List.append_cancel_left h
     have hlen : (kidsN n).length = (kidsN m).length := by
      unfold kidsN; rw [eo]; (repeat' split) <;> rfl
     have kk : ∀ {s' t' : Tx}, (kidsN n).flatMap (fun k => 32 :: txt N k) ++ 41 :: s' = (kidsN m).flatMap (fun k => 32 :: txt N k) ++ 41 :: t' → kidsN n = kidsN m ∧ s' = t' := fun {s' t'} e =>
      kids_inj ih _ _ s' t' hlen (fun k hk => ⟨kn k hk, by have := kn k hk; omega⟩) (fun k hk => by have := km k hk; omega) e
     unfold midT at h
     rw [eo] at h
     by_cases c23 : nO m = 23
     ·
      rw [if_pos c23, if_pos c23] at h
      simp only [List.append_assoc, List.cons_append, List.nil_append, List.cons.injEq, true_and] at h
      obtain ⟨e1, h⟩ := dgs_cut (okE_sp _).noD (okE_sp _).noD h
      simp only [List.cons.injEq, true_and] at h
      obtain ⟨e2, h⟩ := dgs_cut (flat_ok _ _ _).noD (flat_ok _ _ _).noD h
      obtain ⟨ek, h⟩ := kk h
      obtain ⟨eA, eB, eC⟩ := kids_eq hn hm eo a0 a1 ek
      have := p2 (by omega)
      have := q2 (by omega)
      have := z3 a0; have := y3 b0; have := z4 (by omega); have := y4 (by omega)
      exact ⟨nd_eq eo (by omega) eA (by omega) (by omega) (by omega), h⟩
     ·
      rw [if_neg c23, if_neg c23] at h
      by_cases c25 : nO m = 25 ∨ nO m = 26
      ·
       rw [if_pos c25, if_pos c25] at h
       simp only [List.append_assoc, List.cons_append, List.nil_append, List.cons.injEq, true_and] at h
       obtain ⟨e2, h⟩ := dgs_cut (flat_ok _ _ _).noD (flat_ok _ _ _).noD h
       obtain ⟨ek, h⟩ := kk h
       obtain ⟨eA, eB, eC⟩ := kids_eq hn hm eo a0 a1 ek
       have := z3 a0; have := y3 b0; have := z4 (by omega); have := y4 (by omega); have := z5 (by omega); have := y5 (by omega)
       exact ⟨nd_eq eo (by omega) eA (by omega) (by omega) (by omega), h⟩
      ·
       rw [if_neg c25, if_neg c25] at h
       simp only [List.nil_append] at h
       obtain ⟨ek, h⟩ := kk h
       obtain ⟨eA, eB, eC⟩ := kids_eq hn hm eo a0 a1 ek
       have ew' := hn.wid hm eo eA eB (by omega)
       have := z3 a0; have := y3 b0
       have eb : nB n = nB m := by
        by_cases c : nO n ≤ 14 ∨ nO n = 24 ∨ nO n = 22
        ·
         exact eB c
        ·
         unfold opOK at p5
         have := z5 (by omega); have := y5 (by omega); omega
       have ec : nC n = nC m := by
        by_cases c : nO n = 22
        ·
         exact eC c
        ·
         have := z4 c; have := y4 (by omega); omega
       exact ⟨nd_eq eo ew' eA eb ec (by omega), h⟩
theorem txt_inj {N : List Nd} {mo : Int} (hJ : TJ N mo) (hB : TB N) (hZ : TZ N) : ∀ (i j : Nat) (s t : Tx), i < N.length → j < N.length → okE s → okE t → txt N i ++ s = txt N j ++ t → i = j ∧ s = t := by
 intro i
 induction i using Nat.strongRecOn with
 | _ i ih =>
  intro j s t hi hj hs ht h
  obtain ⟨q, e⟩ := txt_nd hJ hB hZ hi hj hs ht ih h
  exact ⟨nth_inj hJ.ti.nd hi hj q, e⟩
theorem txt_apart {N : List Nd} {mo : Int} (hJ : TJ N mo) (hB : TB N) (hZ : TZ N) {i j : Nat} (hi : i < N.length) (hj : j < N.length) (h : txt N i = txt N j) : i = j :=
 (txt_inj hJ hB hZ i j [] [] hi hj (.inl rfl) (.inl rfl) (by rw [h])).1
end Go.Proofs.YtlbadnpgmkobdaaV

set_option linter.unusedVariables false
set_option linter.unusedSimpArgs false
namespace Go.Proofs.YtlbadnpgmkobdaaV
open Go Go.RowKit Go.Proofs

def wdF (op : Int) : Tx := if op < 0 then [] else wordT op.toNat
theorem wordT_out {n : Nat} (h : n < 1 ∨ (16 < n ∧ n < 22) ∨ 26 < n) : wordT n = [] := by
 unfold wordT
 rw [if_neg (by omega), if_neg (by omega), if_neg (by omega), if_neg (by omega), if_neg (by omega), if_neg (by omega), if_neg (by omega), if_neg (by omega), if_neg (by omega), if_neg (by omega), if_neg (by omega), if_neg (by omega), if_neg (by omega), if_neg (by omega), if_neg (by omega), if_neg (by omega), if_neg (by omega), if_neg (by omega), if_neg (by omega), if_neg (by omega), if_neg (by omega)]
theorem wdF_out {op : Int} (h : op < 1 ∨ (16 < op ∧ op < 22) ∨ 26 < op) : wdF op = [] := by
 unfold wdF
 split
 ·
  rfl
 ·
  exact wordT_out (by omega)
theorem wdF_at {op : Int} {n : Nat} (h : op = (n : Int)) : wdF op = wordT n := by
 subst h
 unfold wdF
 rw [if_neg (by omega)]
 rfl
section
variable {P : Program} {ρ : Env} {w : World}
theorem R_idxV {d : Option Tmp} {t : TypeId} {x y : Operand} {ty : TypeId} {pos : String} {af : Array Edge} {g : Option (Nat × Bool)} {a b v : Value} (hx : evR ρ x = a) (hy : evR ρ y = b) (h : pureR P (Instr.index t a b) = some v) : (execOp (evR ρ) ⟨d, .index t x y, ty, pos, af, g⟩).run P w = .ok (.value v) w := by
 have h1 := pureR_run (w := w) h
 simp only [execOp, hx, hy]
 simp [h1]
end

theorem w16_at (n : Nat) (h : n < 16) : pureR Try.prog (Instr.index 92 (.agg #[.string (bsT [97, 100, 100]), .string (bsT [115, 117, 98]), .string (bsT [109, 117, 108]), .string (bsT [117, 100, 105, 118]), .string (bsT [117, 114, 101, 109]), .string (bsT [97, 110, 100]), .string (bsT [111, 114]), .string (bsT [120, 111, 114]), .string (bsT [115, 104, 108]), .string (bsT [115, 104, 114]), .string (bsT [115, 97, 114]), .string (bsT [101, 113]), .string (bsT [117, 108, 116]), .string (bsT [115, 108, 116]), .string (bsT [110, 111, 116]), .string (bsT [110, 101, 103])]) (.int .i64 ((n : Nat) : Int))) = some (.string (bsT (wordT (n + 1)))) := by
 have : n = 0 ∨ n = 1 ∨ n = 2 ∨ n = 3 ∨ n = 4 ∨ n = 5 ∨ n = 6 ∨ n = 7 ∨ n = 8 ∨ n = 9 ∨ n = 10 ∨ n = 11 ∨ n = 12 ∨ n = 13 ∨ n = 14 ∨ n = 15 := by omega
 rcases this with rfl | rfl | rfl | rfl | rfl | rfl | rfl | rfl | rfl | rfl | rfl | rfl | rfl | rfl | rfl | rfl <;> (show _ = _; kernel_rfl)
theorem w5_at (n : Nat) (h : n < 5) : pureR Try.prog (Instr.index 93 (.agg #[.string (bsT [105, 116, 101]), .string (bsT [101, 120, 116]), .string (bsT [99, 97, 116]), .string (bsT [122, 101, 120, 116]), .string (bsT [115, 101, 120, 116])]) (.int .i64 ((n : Nat) : Int))) = some (.string (bsT (wordT (n + 22)))) := by
 have : n = 0 ∨ n = 1 ∨ n = 2 ∨ n = 3 ∨ n = 4 := by omega
 rcases this with rfl | rfl | rfl | rfl | rfl <;> (show _ = _; kernel_rfl)
set_option maxRecDepth 100000 in
theorem word_ok (op : Int) (w : World) : Ret Try.prog 24 [.int .i64 op] w fun v w' => v = .string (bsT (wdF op)) ∧ Tch N0 w w' := by
 refine enter Try.func24 rfl rfl ?_
 refine zQ ?_
 refine zS [(2, .string (bsT ([])))] ?_
 refine op_nil ?_
 refine W_seq ?_
 refine W_block ?_
 refine zQ ?_
 refine zS [(4, .int .i64 op), (5, .bool (decide (op ≥ 1))), (6, .bool (decide (op ≥ 1)))] ?_
 cases hb1 : decide (op ≥ 1)
 ·
  replace hb1 : op < 1 := (Int.not_le.1 (of_decide_eq_false hb1))
  refine zS [(7, undef), (8, undef), (9, .bool false), (3, .bool false)] ?_
  refine zO false (fun h => nomatch h) (fun _ => ?_)
  refine W_seq ?_
  refine zF [(0, .int .i64 op), (2, .string (bsT ([]))), (3, .bool false)] fun ρ => ?_
  refine zR ?_
  refine zS [(15, .int .i64 op), (16, .bool (decide (op ≥ 22))), (17, .bool (decide (op ≥ 22)))] ?_
  cases hb2 : decide (op ≥ 22)
  ·
   replace hb2 : op < 22 := (Int.not_le.1 (of_decide_eq_false hb2))
   refine zS [(18, undef), (19, undef), (20, .bool false), (14, .bool false)] ?_
   refine zO false (fun h => nomatch h) (fun _ => ?_)
   refine W_skip ?_
   refine zQ ?_
   refine zS [(2, .string (bsT ([])))] ?_
   refine op_nil ?_
   refine W_ret ?_
   exact ⟨_, Res_of (v := .string (bsT ([]))) (by kernel_rfl), ⟨by rw [wdF_out (by omega)], Tch.refl _ _⟩⟩
  ·
   replace hb2 : 22 ≤ op := (of_decide_eq_true hb2)
   refine zS [(18, .int .i64 op), (19, .bool (decide (op ≤ 26))), (20, .bool (decide (op ≤ 26))), (14, .bool (decide (op ≤ 26)))] ?_
   refine zO (decide (op ≤ 26)) (fun hc3 => ?_) (fun hc3 => ?_)
   ·
    replace hc3 : op ≤ 26 := (of_decide_eq_true hc3)
    refine zQ ?_
    refine zS [(21, .agg #[.string (bsT ([105, 116, 101])), .string (bsT ([101, 120, 116])), .string (bsT ([99, 97, 116])), .string (bsT ([122, 101, 120, 116])), .string (bsT ([115, 101, 120, 116]))]), (22, .int .i64 op), (23, .int .i64 (IntKind.i64.wrap (op - 22)))] ?_
    rw [show IntKind.i64.wrap (op - 22) = op - 22 from wrap_i64 (by omega) (by omega)]
    refine stv (v := .string (bsT (wordT op.toNat))) (by rfl) (R_idxV (by kernel_rfl) (by kernel_rfl) (by have q := w5_at (op.toNat - 22) (by omega); rw [show op.toNat - 22 + 22 = op.toNat by omega, show (((op.toNat - 22 : Nat)) : Int) = op - 22 by omega] at q; exact q)) ?_
    refine zS [(2, .string (bsT (wordT op.toNat)))] ?_
    refine op_nil ?_
    refine W_ret ?_
    exact ⟨_, Res_of (v := .string (bsT (wordT op.toNat))) (by kernel_rfl), ⟨by rw [wdF_at (n := op.toNat) (by omega)], Tch.refl _ _⟩⟩
   ·
    replace hc3 : 26 < op := (Int.not_le.1 (of_decide_eq_false hc3))
    refine W_skip ?_
    refine zQ ?_
    refine zS [(2, .string (bsT ([])))] ?_
    refine op_nil ?_
    refine W_ret ?_
    exact ⟨_, Res_of (v := .string (bsT ([]))) (by kernel_rfl), ⟨by rw [wdF_out (by omega)], Tch.refl _ _⟩⟩
 ·
  replace hb1 : 1 ≤ op := (of_decide_eq_true hb1)
  refine zS [(7, .int .i64 op), (8, .bool (decide (op ≤ 16))), (9, .bool (decide (op ≤ 16))), (3, .bool (decide (op ≤ 16)))] ?_
  refine zO (decide (op ≤ 16)) (fun hc4 => ?_) (fun hc4 => ?_)
  ·
   replace hc4 : op ≤ 16 := (of_decide_eq_true hc4)
   refine W_seq ?_
   refine zF [(0, .int .i64 op), (2, .string (bsT ([]))), (3, .bool (decide (op ≤ 16)))] fun ρ => ?_
   refine zR ?_
   refine zS [(10, .agg #[.string (bsT ([97, 100, 100])), .string (bsT ([115, 117, 98])), .string (bsT ([109, 117, 108])), .string (bsT ([117, 100, 105, 118])), .string (bsT ([117, 114, 101, 109])), .string (bsT ([97, 110, 100])), .string (bsT ([111, 114])), .string (bsT ([120, 111, 114])), .string (bsT ([115, 104, 108])), .string (bsT ([115, 104, 114])), .string (bsT ([115, 97, 114])), .string (bsT ([101, 113])), .string (bsT ([117, 108, 116])), .string (bsT ([115, 108, 116])), .string (bsT ([110, 111, 116])), .string (bsT ([110, 101, 103]))]), (11, .int .i64 op), (12, .int .i64 (IntKind.i64.wrap (op - 1)))] ?_
   rw [show IntKind.i64.wrap (op - 1) = op - 1 from wrap_i64 (by omega) (by omega)]
   refine stv (v := .string (bsT (wordT op.toNat))) (by rfl) (R_idxV (by kernel_rfl) (by kernel_rfl) (by have q := w16_at (op.toNat - 1) (by omega); rw [show op.toNat - 1 + 1 = op.toNat by omega, show (((op.toNat - 1 : Nat)) : Int) = op - 1 by omega] at q; exact q)) ?_
   refine zS [(2, .string (bsT (wordT op.toNat)))] ?_
   refine op_nil ?_
   refine W_ret ?_
   exact ⟨_, Res_of (v := .string (bsT (wordT op.toNat))) (by kernel_rfl), ⟨by rw [wdF_at (n := op.toNat) (by omega)], Tch.refl _ _⟩⟩
  ·
   replace hc4 : 16 < op := (Int.not_le.1 (of_decide_eq_false hc4))
   refine W_seq ?_
   refine zF [(0, .int .i64 op), (2, .string (bsT ([]))), (3, .bool (decide (op ≤ 16)))] fun ρ => ?_
   refine zR ?_
   refine zS [(15, .int .i64 op), (16, .bool (decide (op ≥ 22))), (17, .bool (decide (op ≥ 22)))] ?_
   cases hb5 : decide (op ≥ 22)
   ·
    replace hb5 : op < 22 := (Int.not_le.1 (of_decide_eq_false hb5))
    refine zS [(18, undef), (19, undef), (20, .bool false), (14, .bool false)] ?_
    refine zO false (fun h => nomatch h) (fun _ => ?_)
    refine W_skip ?_
    refine zQ ?_
    refine zS [(2, .string (bsT ([])))] ?_
    refine op_nil ?_
    refine W_ret ?_
    exact ⟨_, Res_of (v := .string (bsT ([]))) (by kernel_rfl), ⟨by rw [wdF_out (by omega)], Tch.refl _ _⟩⟩
   ·
    replace hb5 : 22 ≤ op := (of_decide_eq_true hb5)
    refine zS [(18, .int .i64 op), (19, .bool (decide (op ≤ 26))), (20, .bool (decide (op ≤ 26))), (14, .bool (decide (op ≤ 26)))] ?_
    refine zO (decide (op ≤ 26)) (fun hc6 => ?_) (fun hc6 => ?_)
    ·
     replace hc6 : op ≤ 26 := (of_decide_eq_true hc6)
     refine zQ ?_
     refine zS [(21, .agg #[.string (bsT ([105, 116, 101])), .string (bsT ([101, 120, 116])), .string (bsT ([99, 97, 116])), .string (bsT ([122, 101, 120, 116])), .string (bsT ([115, 101, 120, 116]))]), (22, .int .i64 op), (23, .int .i64 (IntKind.i64.wrap (op - 22)))] ?_
     rw [show IntKind.i64.wrap (op - 22) = op - 22 from wrap_i64 (by omega) (by omega)]
     refine stv (v := .string (bsT (wordT op.toNat))) (by rfl) (R_idxV (by kernel_rfl) (by kernel_rfl) (by have q := w5_at (op.toNat - 22) (by omega); rw [show op.toNat - 22 + 22 = op.toNat by omega, show (((op.toNat - 22 : Nat)) : Int) = op - 22 by omega] at q; exact q)) ?_
     refine zS [(2, .string (bsT (wordT op.toNat)))] ?_
     refine op_nil ?_
     refine W_ret ?_
     exact ⟨_, Res_of (v := .string (bsT (wordT op.toNat))) (by kernel_rfl), ⟨by rw [wdF_at (n := op.toNat) (by omega)], Tch.refl _ _⟩⟩
    ·
     replace hc6 : 26 < op := (Int.not_le.1 (of_decide_eq_false hc6))
     refine W_skip ?_
     refine zQ ?_
     refine zS [(2, .string (bsT ([])))] ?_
     refine op_nil ?_
     refine W_ret ?_
     exact ⟨_, Res_of (v := .string (bsT ([]))) (by kernel_rfl), ⟨by rw [wdF_out (by omega)], Tch.refl _ _⟩⟩

theorem numberI_ok (x : Int) (w : World) (h0 : 0 ≤ x) (h1 : x < 9223372036854775808) : Ret Try.prog 69 [.int .i64 x] w fun v w' => v = .string (bsT (dgs x.toNat)) ∧ Tch N0 w w' := by
 have := number_ok x.toNat w (by omega)
 rwa [show ((x.toNat : Nat) : Int) = x by omega] at this
theorem digitsI_ok (x : Int) (w : World) (h : u64 x) : Ret Try.prog 68 [.int .u64 x] w fun v w' => v = .string (bsT (dgs x.toNat)) ∧ Tch N0 w w' := by
 unfold u64 at h
 have := digits_ok x.toNat w (by omega)
 rwa [show ((x.toNat : Nat) : Int) = x by omega] at this
end Go.Proofs.YtlbadnpgmkobdaaV

set_option linter.unusedVariables false
set_option linter.unusedSimpArgs false
namespace Go.Proofs.YtlbadnpgmkobdaaV
open Go Go.RowKit Go.Proofs
section
variable {P : Program} {n : Nat} {N R : Env → World → Prop} {X : Nat → Env → World → Prop} {ρ : Env} {w : World}
end
end Go.Proofs.YtlbadnpgmkobdaaV

set_option linter.unusedVariables false
set_option linter.unusedSimpArgs false
namespace Go.Proofs.YtlbadnpgmkobdaaV
open Go Go.RowKit Go.Proofs
/-- What comes of kids. -/
def KidR (n : Nd) (w : World) (v : Value) (w' : World) : Prop := ∃ K m, v = .slice K m m ∧ m = (kidsN n).length ∧ Own w' 0 3 1 (.slice K m m) m (nats (kidsN n)) ∧ (∀ c, (Value.slice K m m).ownBlock = some c → w.heap.size ≤ c) ∧ Tch N0 w w'
theorem KidR.nil {n : Nd} {w w' : World} (e : nats (kidsN n) = []) (T : Tch N0 w w') : KidR n w (.slice none 0 0) w' := by
 have hl : (kidsN n).length = 0 := by rw [← nats_length, e]; rfl
 exact ⟨none, 0, rfl, hl.symm, by rw [e]; exact Own.nil_ _ _ _ _, (fun c h => by cases h), T⟩
/-! ### The loop's measure -/
def lastN (wt : List Nat) : Nat := wt.getD (wt.length - 1) 0
theorem kids_len (n : Nd) : (kidsN n).length ≤ 3 := by unfold kidsN; (repeat' split) <;> simp
/-- How far a place in the stack can be. -/
def Far (n : Nat) (wt : List Nat) : Prop := ∀ i, i < wt.length → i + 1 + 3 * wt.getD i 0 ≤ 3 * n
theorem Far.take {n m : Nat} {wt : List Nat} (h : Far n wt) : Far n (wt.take m) := fun i hi => by
 have hi2 : i < m ∧ i < wt.length := by rw [List.length_take] at hi; omega
 have e : (wt.take m).getD i 0 = wt.getD i 0 := by simp only [List.getD_eq_getElem?_getD, List.getElem?_take, if_pos hi2.1]
 rw [e]; exact h i hi2.2
theorem Far.push {n x : Nat} {wt : List Nat} (h : Far n wt) (hx : wt.length + 1 + 3 * x ≤ 3 * n) : Far n (wt ++ [x]) := fun i hi => by
 have hi2 : i < wt.length + 1 := by simpa using hi
 by_cases e : i < wt.length
 ·
  have e2 : (wt ++ [x]).getD i 0 = wt.getD i 0 := by simp only [List.getD_eq_getElem?_getD, List.getElem?_append_left e]
  rw [e2]; exact h i e
 ·
  obtain rfl : i = wt.length := by omega
  have e2 : (wt ++ [x]).getD wt.length 0 = x := by simp [List.getD_eq_getElem?_getD]
  rw [e2]; exact hx
theorem Far.len {n : Nat} {wt : List Nat} (h : Far n wt) : wt.length ≤ 3 * n := by
 rcases Nat.eq_zero_or_pos wt.length with q | q
 ·
  omega
 ·
  have := h (wt.length - 1) (by omega); omega
/-- What the stack of those that wait holds. -/
def Wst (n id : Nat) (hd : List Bool) (wt : List Nat) : Prop := hd.length = n ∧ (∀ x, x ∈ wt → x < n) ∧ (id ∈ wt ∨ hd.getD id false = true) ∧ Far n wt
theorem Wst.last {n id : Nat} {hd : List Bool} {wt : List Nat} (h : Wst n id hd wt) (h0 : wt ≠ []) : lastN wt < n := by
 refine h.2.1 _ ?_
 unfold lastN
 have hl2 := List.length_pos_iff.2 h0
 rw [List.getD_eq_getElem?_getD, List.getElem?_eq_getElem (by omega)]
 exact List.getElem_mem _
theorem Wst.room {n id : Nat} {hd : List Bool} {wt : List Nat} (h : Wst n id hd wt) (h0 : wt ≠ []) : wt.length + 3 * lastN wt ≤ 3 * n := by
 have hl2 := List.length_pos_iff.2 h0
 have := h.2.2.2 (wt.length - 1) (by omega)
 unfold lastN; omega
/-- What the stack is while the kids are looked at. -/
def Kst (n : Nat) (hd : List Bool) (kids wt wt1 : List Nat) (mr : Bool) : Prop :=
 (mr = false → wt1 = wt) ∧ (mr = true → ∃ ws x, wt1 = ws ++ [x] ∧ x ∈ kids ∧ hd.getD x false = false) ∧ (∀ x, x ∈ wt → x ∈ wt1) ∧ (∀ x, x ∈ wt1 → x < n) ∧ Far n wt1
theorem Kst.push {n : Nat} {hd : List Bool} {kids wt wt1 : List Nat} {mr : Bool} {x : Nat} (h : Kst n hd kids wt wt1 mr) (hx : x ∈ kids) (hn : x < n) (hp : wt1.length + 1 + 3 * x ≤ 3 * n) (hf : hd.getD x false = false) : Kst n hd kids wt (wt1 ++ [x]) true :=
 ⟨(fun h => nomatch h), fun _ => ⟨wt1, x, rfl, hx, hf⟩, fun y hy => List.mem_append.2 (.inl (h.2.2.1 y hy)), fun y hy => by
  rcases List.mem_append.1 hy with q | q
  ·
   exact h.2.2.2.1 y q
  ·
   simp at q; omega, h.2.2.2.2.push hp⟩
/-! ### How many a map holds -/
section
variable {P : Program} {ρ : Env} {w : World} {J : Env → World → Prop}
end
end Go.Proofs.YtlbadnpgmkobdaaV

set_option linter.unusedVariables false
set_option linter.unusedSimpArgs false
namespace Go.Proofs.YtlbadnpgmkobdaaV
open Go Go.RowKit Go.Proofs
def fitB (N : List Nd) (i : Nat) : Bool := decide ((txt N i).length ≤ 4096)
def dtx (N : List Nd) (i : Nat) : Tx := if fitB N i = true then txt N i else []
theorem dtx_t {N : List Nd} {i : Nat} (h : fitB N i = true) : dtx N i = txt N i := by unfold dtx; rw [if_pos h]
theorem dtx_f {N : List Nd} {i : Nat} (h : fitB N i = false) : dtx N i = [] := by unfold dtx; rw [if_neg (by rw [h]; simp)]
theorem wordT_tab : (List.range 27).all (fun o => decide ((wordT o).length ≤ 4)) = true := by decide
theorem wordT_len (o : Nat) : (wordT o).length ≤ 4 := by
 by_cases h : o < 27
 ·
  exact of_decide_eq_true (List.all_eq_true.1 wordT_tab o (List.mem_range.2 h))
 ·
  rw [wordT_out (by omega)]; simp
/-! ### A node's text, piece by piece -/
def hdT (n : Nd) : Tx := [40] ++ wordT (nO n).toNat ++ midT n
def preT (N : List Nd) (n : Nd) (j : Nat) : Tx := hdT n ++ ((kidsN n).take j).flatMap (fun k => 32 :: txt N k)
theorem preT_all {N : List Nd} {i : Nat} {n : Nd} (hni : nth N i = n) (hn : NdW N i n) (h1 : ¬ nO n = 20) (h2 : ¬ nO n = 21) : txt N i = preT N n (kidsN n).length ++ [41] := by
 subst hni
 have := txt_o hn h1 h2 []
 simp only [List.append_nil] at this
 rw [this]
 unfold preT hdT
 rw [List.take_length]
 simp
theorem txt20 {N : List Nd} {i : Nat} {n : Nd} (hni : nth N i = n) (h : nO n = 20) : txt N i = dgs (nV n).toNat ++ [58] ++ dgs (nW n).toNat := by
 subst hni
 have := txt_c h []
 simpa using this
theorem txt21 {N : List Nd} {i : Nat} {n : Nd} (hni : nth N i = n) (h : nO n = 21) : txt N i = [120] ++ dgs (nA n).toNat ++ [58] ++ dgs (nW n).toNat := by
 subst hni
 have := txt_v h []
 simpa using this
theorem NdW.varA {N : List Nd} {i : Nat} {n : Nd} (h : NdW N i n) (h1 : nO n = 21) : 0 ≤ nA n ∧ nA n < 256 := by
 rcases h with c | c | c | c | c | c | c | c <;> omega
theorem fit_le {N : List Nd} {i : Nat} (h : (txt N i).length ≤ 4096) : fitB N i = true := decide_eq_true h
theorem fit_gt {N : List Nd} {i : Nat} (h : 4096 < (txt N i).length) : fitB N i = false := decide_eq_false (by omega)
theorem mid_len {n : Nd} (hB : nO n = 23 → 0 ≤ nB n) (fB : nB n < 9223372036854775808) (hw : 1 ≤ nW n ∧ nW n ≤ 64) : (midT n).length ≤ 50 := by
 unfold midT
 have := dgs_20 (n := (nW n).toNat) (by omega)
 split
 ·
  rename_i h
  have := hB h
  have := dgs_20 (n := (nB n).toNat) (by omega)
  simp only [List.length_append, List.length_cons, List.length_nil]; omega
 ·
  split
  ·
   simp only [List.length_append, List.length_cons, List.length_nil]; omega
  ·
   simp
theorem hd_len {n : Nd} (hB : nO n = 23 → 0 ≤ nB n) (fB : nB n < 9223372036854775808) (hw : 1 ≤ nW n ∧ nW n ≤ 64) : (hdT n).length ≤ 60 := by
 have := mid_len hB fB hw
 have := wordT_len (nO n).toNat
 unfold hdT
 simp only [List.length_append, List.length_cons, List.length_nil]; omega
theorem mid23 {n : Nd} (h : nO n = 23) : midT n = [32] ++ dgs (nB n).toNat ++ [32] ++ dgs (nW n).toNat := by unfold midT; rw [if_pos h]
theorem mid25 {n : Nd} (h : nO n = 25 ∨ nO n = 26) : midT n = [32] ++ dgs (nW n).toNat := by unfold midT; rw [if_neg (by omega), if_pos h]
theorem mid0 {n : Nd} (h : ¬ nO n = 23) (h2 : ¬ (nO n = 25 ∨ nO n = 26)) : midT n = [] := by unfold midT; rw [if_neg h, if_neg h2]
def shF (N : List Nd) (x : Int) : Tx := if isT N x = true then dtx N x.toNat else []
def seF (N : List Nd) (x : Int) : Int := if isT N x = true then (if fitB N x.toNat = true then 0 else 8) else 11
theorem isT_t {N : List Nd} {x : Int} (h : 0 ≤ x ∧ x < (N.length : Int)) : isT N x = true := decide_eq_true h
theorem sh_out {N : List Nd} {x : Int} (h : isT N x = false) : shF N x = [] ∧ seF N x = 11 := by unfold shF seF; rw [h]; exact ⟨rfl, rfl⟩
theorem sh_in {N : List Nd} {x : Int} (h : isT N x = true) (hf : fitB N x.toNat = true) : shF N x = txt N x.toNat ∧ seF N x = 0 := by unfold shF seF; rw [if_pos h, if_pos h, if_pos hf, dtx_t hf]; exact ⟨rfl, rfl⟩
theorem sh_big {N : List Nd} {x : Int} (h : isT N x = true) (hf : fitB N x.toNat = false) : shF N x = [] ∧ seF N x = 8 := by unfold shF seF; rw [if_pos h, if_pos h, if_neg (by rw [hf]; simp), dtx_f hf]; exact ⟨rfl, rfl⟩
end Go.Proofs.YtlbadnpgmkobdaaV

set_option linter.unusedVariables false
set_option linter.unusedSimpArgs false
namespace Go.Proofs.YtlbadnpgmkobdaaV
open Go Go.RowKit Go.Proofs

end Go.Proofs.YtlbadnpgmkobdaaV

set_option linter.unusedVariables false
set_option linter.unusedSimpArgs false
namespace Go.Proofs.YtlbadnpgmkobdaaV
open Go Go.RowKit Go.Proofs

end Go.Proofs.YtlbadnpgmkobdaaV
