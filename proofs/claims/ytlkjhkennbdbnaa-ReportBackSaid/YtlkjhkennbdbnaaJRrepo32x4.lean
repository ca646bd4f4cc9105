/- Texts laid together: Walks of functions of the program and of the document's texts. The conditions stand with each theorem. Walks of functions of the program and of the document's texts. The conditions stand with each theorem. Walks of functions of the program and of the document's texts. The conditions stand with each theorem. Walks of functions of the program and of the document's texts. The conditions stand with each theorem. Walks of functions of the program and of the document's texts. The conditions stand with each theorem. Walks of functions of the program and of the document's texts. The conditions stand with each theorem. Walks of functions of the program and of the document's texts. The conditions stand with each theorem. -/
import Derived.Test.YtlkjhkennbdbnaaJRrepo32x1
import Derived.Test.YtlkjhkennbdbnaaProg
import Derived.Test.YtlkjhkennbdbnaaJRrepo32x3
import Derived.Test.YtlkjhkennbdbnaaJRrepo32x2
import Derived.Lib.MakeNoZero
import Derived.Laws.Externs
set_option linter.unusedVariables false
set_option linter.unusedSimpArgs false
namespace Go.Proofs.YtlkjhkennbdbnaaV
open Go Go.RowKit Go.Proofs

/-- A builder: its block, its text. -/
def BD (G : Nat → Prop) (w : World) (q : Nat) (t : Tx) : Prop :=
 ∃ a A n cp, Blk w q 55 [.pointer a, .slice A n cp] ∧ n = t.length ∧ (a = none ∨ a = some ⟨q, 0, none⟩) ∧ Own w 0 5 1 (.slice A n cp) n (u8s t) ∧ G q ∧ (∀ c, (Value.slice A n cp).ownBlock = some c → G c) ∧ ∀ c, G c → c < w.heap.size
theorem BD.lt {G : Nat → Prop} {w : World} {q : Nat} {t : Tx} (h : BD G w q t) : ∀ c, G c → c < w.heap.size := by obtain ⟨_, _, _, _, _, _, _, _, _, _, h⟩ := h; exact h
theorem BD.tch0 {G : Nat → Prop} {w w' : World} {q : Nat} {t : Tx} (h : BD G w q t) (k : Tch N0 w w') : BD G w' q t := by
 obtain ⟨a, A, n, cp, h1, h2, h3, h4, h5, h6, h7⟩ := h
 exact ⟨a, A, n, cp, h1.tch0 k, h2, h3, h4.tch0 k, h5, h6, fun c hc => Nat.lt_of_lt_of_le (h7 c hc) k.size⟩
theorem BD.tchS {G S : Nat → Prop} {w w' : World} {q : Nat} {t : Tx} (h : BD G w q t) (k : Tch S w w') (hs : ∀ b, S b → ¬ G b) : BD G w' q t := by
 obtain ⟨a, A, n, cp, h1, h2, h3, h4, h5, h6, h7⟩ := h
 exact ⟨a, A, n, cp, h1.tch k (fun e => hs _ e h5), h2, h3, h4.tch k (fun c hc e => hs _ e (h6 c hc)), h5, h6, fun c hc => Nat.lt_of_lt_of_le (h7 c hc) k.size⟩
def Mv (F F' : Nat → Prop) (w w' : World) : Prop := Tch F w w' ∧ ∀ b, F' b → F b ∨ w.heap.size ≤ b
theorem Mv.refl (F : Nat → Prop) (w : World) : Mv F F w w := ⟨Tch.refl _ _, fun b hb => .inl hb⟩
theorem Mv.trans {F F1 F2 : Nat → Prop} {w w1 w2 : World} (h : Mv F F1 w w1) (k : Mv F1 F2 w1 w2) : Mv F F2 w w2 :=
 ⟨h.1.trans k.1 (fun _ _ e => e) (fun b hb e => (h.2 b e).elim id (fun q => by omega)), fun b hb => (k.2 b hb).elim (h.2 b) (fun q => .inr (Nat.le_trans h.1.size q))⟩
theorem Mv.same {F : Nat → Prop} {w w' : World} (h : Tch F w w') : Mv F F w w' := ⟨h, fun b hb => .inl hb⟩
theorem Mv.n0 {F : Nat → Prop} {w w' : World} (h : Tch N0 w w') : Mv F F w w' := .same (h.weaken (fun _ _ e => e.elim))
theorem Mv.then0 {F F' : Nat → Prop} {w w1 w2 : World} (h : Mv F F' w w1) (k : Tch N0 w1 w2) : Mv F F' w w2 := h.trans (.n0 k)
theorem shape_blk {w : World} {b t : Nat} {l : List Value} (h : Blk w b t l) : w.shape? b = some (t, l.length) := by
 unfold Blk at h
 simp [World.shape?, h]
theorem sz55 : (Try.prog.info? 55).map (·.size) = some 2 := by kernel_rfl
theorem lies55 : liesAt Try.prog Try.prog.depth 55 (2 / Try.prog.cellsOf 55) 0 55 1 = true := by kernel_rfl
section
variable {ρ : Env} {w : World} {J : Env → World → Prop} {d : Option Tmp} {x y : Operand} {ty : TypeId} {pos : String} {af : Array Edge} {g : Option (Nat × Bool)}
/-- bytealg.MakeNoZero. -/
theorem S_mkz {ts : Array TypeId} {n : Nat} (hx : evR ρ x = .int .i64 ((n : Nat) : Int)) (hn : n ≤ 281474976710656)
  (h : ∀ cap w1, n ≤ cap → cap ≠ 0 ∨ n = 0 → Own w1 0 5 1 (.slice (some ⟨w.heap.size, 0, none⟩) 0 cap) 0 [] → Tch N0 w w1 → w1.heap.size = w.heap.size + 1 → J (updO ρ d (.slice (some ⟨w.heap.size, 0, none⟩) n cap)) w1) :
  Step Try.prog ⟨d, .call { callee := .value (.func 62), args := #[x], argTypes := ts }, ty, pos, af, g⟩ ρ w J := by
 obtain ⟨cs, hrun, hle, hmax⟩ := Lib.run_makeNoZero (P := Try.prog) w #[3] 39 5 (by kernel_rfl) n hn
 have hcall : (callFunc 62 #[.int .i64 ((n : Nat) : Int)]).run Try.prog w = .ok (.value (.slice (some ⟨w.heap.size, 0, none⟩) n cs.size)) (w.drew.drew.alloc (.cells cs 5)) := by
  rw [run_callFunc_extern Try.func62 (by kernel_rfl) (by kernel_rfl) (by kernel_rfl) (e := Extern.BytealgMakeNoZero.makeNoZero #[3] #[39]) (by kernel_rfl), hrun]
  rfl
 have hcm : cs.size ≤ maxLen := hmax (by simp only [maxLen]; omega)
 refine S_val (v := .slice (some ⟨w.heap.size, 0, none⟩) n cs.size) (w' := w.drew.drew.alloc (.cells cs 5)) ?_ (h cs.size _ hle (by omega) ?_ ⟨rfl, rfl, rfl, ?_, fun k hk _ => ?_⟩ ?_)
 ·
  simp only [execOp, resolve, invoke]
  have e62 : evR ρ (.func 62) = .func (.func 62) #[] #[] := rfl
  simp [hx, e62, Deferred.ofValue, hcall]
 ·
  exact ⟨rfl, .inr ⟨w.heap.size, cs.size, cs, rfl, Nat.zero_le _, heap_alloc_new w.drew.drew _, Nat.zero_le _, hcm, by simp, by simp⟩⟩
 ·
  simp
 ·
  exact heap_alloc_old w.drew.drew _ k hk
 ·
  simp
theorem R_copy0 {t u : TypeId} {A : Option Addr} {c : Nat} (hx : evR ρ x = .slice A 0 c) (hy : evR ρ y = .slice none 0 0) (ht : pureR Try.prog (underlying t) = some (.slice (Try.prog.elem t))) (hz : pureR Try.prog (sizeOf (Try.prog.elem t)) = some 1) :
  (execOp (evR ρ) ⟨d, .call { callee := .builtin .copy, args := #[x, y], argTypes := #[t, u] }, ty, pos, af, g⟩).run Try.prog w = .ok (.value (.int .i64 0)) w := by
 have h1 := pureR_run (w := w) ht
 have h2 := pureR_run (w := w) hz
 simp only [execOp, resolve, invoke, builtin, Array.map, hx, hy]
 cases A <;> simp [hx, hy, Builtin.copy_, h1, h2, Builtin.lenOf, Builtin.firstCells, storeCells, goInt]
end

set_option maxRecDepth 100000 in
theorem cc0_ok (q : Nat) (Y : Value) (w : World) (hQ : Blk w q 55 [.pointer none, Y]) : Ret Try.prog 43 [.pointer (some ⟨q, 0, none⟩)] w fun v w' => v = .tuple #[] ∧ Blk w' q 55 [.pointer (some ⟨q, 0, none⟩), Y] ∧ Tch (one q) w w' := by
 obtain ⟨j, hj, hjs⟩ := Option.map_eq_some_iff.1 sz55
 have hsh := shape_blk hQ
 refine enter Try.func43 rfl rfl ?_
 refine zQ ?_
 refine zS [(2, .pointer (some ⟨q, 0, none⟩)), (3, .pointer (some ⟨q, 0, none⟩)), (4, .pointer (some ⟨q, 0, none⟩))] ?_
 refine zL (.pointer none) ((hQ.cell 0).trans rfl) ?_
 refine zS [(6, .bool true)] ?_
 refine zO true (fun _ => ?_) (fun h => nomatch h)
 refine zR ?_
 refine zS [(7, .pointer (some ⟨q, 0, none⟩)), (8, .pointer (some ⟨q, 0, none⟩))] ?_
 refine stv (v := .pointer (some ⟨q, 0, none⟩)) (by rfl) (R_conv (v := .pointer (some ⟨q, 0, none⟩)) (by kernel_rfl) (Lib.run_to_unsafe w ⟨q, 0, none⟩ (by kernel_rfl) (by kernel_rfl) hj (by rw [hjs]; decide) hsh (by show (0 : Nat) < 2; omega))) ?_
 refine stv (v := .pointer (some ⟨q, 0, none⟩)) (by rfl) (R_pure (by kernel_rfl)) ?_
 refine stv (v := .pointer (some ⟨q, 0, none⟩)) (by rfl) (R_conv (v := .pointer (some ⟨q, 0, none⟩)) (by kernel_rfl) (Lib.run_from_unsafe w ⟨q, 0, none⟩ (by kernel_rfl) (by kernel_rfl) hj hsh lies55)) ?_
 refine zS [(12, .pointer (some ⟨q, 0, none⟩)), (13, .pointer (some ⟨q, 0, none⟩))] ?_
 refine st (by rfl) (S_store (b := q) (j := 0) (v := .pointer (some ⟨q, 0, none⟩)) (by kernel_rfl) (by kernel_rfl) (by kernel_rfl) (by rfl) hQ (by simp) fun w1 hT2 hs3 hQ' => ?_)
 replace hQ : Blk w1 q 55 [.pointer (some ⟨q, 0, none⟩), Y] := hQ'
 refine op_nil ?_
 exact ⟨_, Res_of (v := .tuple #[]) (by kernel_rfl), ⟨rfl, hQ, hT2⟩⟩

set_option maxRecDepth 100000 in
theorem cc1_ok (q : Nat) (Y : Value) (w : World) (hQ : Blk w q 55 [.pointer (some ⟨q, 0, none⟩), Y]) : Ret Try.prog 43 [.pointer (some ⟨q, 0, none⟩)] w fun v w' => v = .tuple #[] ∧ Blk w' q 55 [.pointer (some ⟨q, 0, none⟩), Y] ∧ Tch (one q) w w' := by
 obtain ⟨j, hj, hjs⟩ := Option.map_eq_some_iff.1 sz55
 refine enter Try.func43 rfl rfl ?_
 refine zQ ?_
 refine zS [(2, .pointer (some ⟨q, 0, none⟩)), (3, .pointer (some ⟨q, 0, none⟩)), (4, .pointer (some ⟨q, 0, none⟩))] ?_
 refine zL (.pointer (some ⟨q, 0, none⟩)) ((hQ.cell 0).trans rfl) ?_
 refine zS [(6, .bool false)] ?_
 refine zO false (fun h => nomatch h) (fun _ => ?_)
 refine zQ ?_
 refine zS [(14, .pointer (some ⟨q, 0, none⟩)), (15, .pointer (some ⟨q, 0, none⟩)), (16, .pointer (some ⟨q, 0, none⟩))] ?_
 refine zL (.pointer (some ⟨q, 0, none⟩)) ((hQ.cell 0).trans rfl) ?_
 refine zS [(18, .pointer (some ⟨q, 0, none⟩))] ?_
 refine stv (v := .bool false) (by rfl) (R_binop (v := .pointer (some ⟨q, 0, none⟩)) (v' := .pointer (some ⟨q, 0, none⟩)) (by kernel_rfl) (by kernel_rfl) (by kernel_rfl) (Lib.run_neq_ptr_same w ⟨q, 0, none⟩ (by kernel_rfl) hj)) ?_
 refine zO false (fun h => nomatch h) (fun _ => ?_)
 refine W_skip ?_
 exact ⟨_, Res_of (v := .tuple #[]) (by kernel_rfl), ⟨rfl, hQ, Tch.refl _ _⟩⟩

theorem cc_ok (q : Nat) (Y : Value) (a : Option Addr) (w : World) (hQ : Blk w q 55 [.pointer a, Y]) (ha : a = none ∨ a = some ⟨q, 0, none⟩) : Ret Try.prog 43 [.pointer (some ⟨q, 0, none⟩)] w fun v w' => v = .tuple #[] ∧ Blk w' q 55 [.pointer (some ⟨q, 0, none⟩), Y] ∧ Tch (one q) w w' := by
 rcases ha with rfl | rfl
 ·
  exact cc0_ok q Y w hQ
 ·
  exact cc1_ok q Y w hQ

set_option maxRecDepth 100000 in
theorem ws_ok (G : Nat → Prop) (q : Nat) (t : Tx) (z : Tx) (w : World) (hB : BD G w q t) (hl : t.length + z.length ≤ 140737488355328) : Ret Try.prog 24 [.pointer (some ⟨q, 0, none⟩), .string (bsT z)] w fun v w' => v = .tuple #[.int .i64 ((z.length : Nat) : Int), .nilIface] ∧ ∃ G', BD G' w' q (t ++ z) ∧ Mv G G' w w' := by
 obtain ⟨a, A, n, cp, hQ, hn, ha, hO, hGq, hGA, hGl⟩ := hB
 have hMv := Mv.refl G w
 refine enter Try.func24 rfl rfl ?_
 refine zQ ?_
 refine zS [(4, .int .i64 0), (5, .nilIface)] ?_
 refine op_nil ?_
 refine zQ ?_
 refine zS [(6, .pointer (some ⟨q, 0, none⟩))] ?_
 have lQ_ := hQ.lt
 refine zC (cc_ok q _ a _ hQ ha) ?_
 rintro _ w1 ⟨rfl, hQ1, hT2⟩
 have hO := hO.tch hT2 (fun c hc e => hO.blk_ne hQ (by decide) c hc e)
 have hMv := hMv.trans (.same ((hT2).weaken (fun b _ e => by have : b = q := e; rw [this]; exact hGq)))
 have hQ := hQ1
 refine op_nil ?_
 refine zQ ?_
 refine zS [(8, .pointer (some ⟨q, 0, none⟩)), (9, .pointer (some ⟨q, 0, none⟩)), (10, .pointer (some ⟨q, 0, none⟩)), (11, .pointer (some ⟨q, 1, none⟩))] ?_
 refine zL (.slice A n cp) ((hQ.cell 1).trans rfl) ?_
 refine zS [(13, .string (bsT z))] ?_
 have hMs := hMv.1.size
 refine st (by rfl) (S_appendS 39 9 5 (n := n) (A := A) (cp := cp) (cells := u8s t) (s := z) (by kernel_rfl) (by kernel_rfl) (by kernel_rfl) (by kernel_rfl) (by kernel_rfl) hO (by omega) fun A2 cp2 w3 hO2 hw2 hT4 => ?_)
 have hQ := hQ.tch hT4 (fun e => hO.blk_ne hQ (by decide) _ e rfl)
 have hMv := hMv.trans (.same (hT4.weaken (fun b _ e => hGA b e)))
 have hO := hO2
 refine zS [(15, .pointer (some ⟨q, 0, none⟩)), (16, .pointer (some ⟨q, 1, none⟩))] ?_
 refine st (by rfl) (S_store (b := q) (j := 1) (v := .slice A2 (n + z.length) cp2) (by kernel_rfl) (by kernel_rfl) (by kernel_rfl) (by rfl) hQ (by simp) fun w5 hT6 hs7 hQ' => ?_)
 have hMv := hMv.trans (.same ((hT6).weaken (fun b _ e => by have : b = q := e; rw [this]; exact hGq)))
 have hO := hO.tch hT6 (fun c hc e => hO.blk_ne hQ (by decide) c hc e)
 replace hQ : Blk w5 q 55 [.pointer (some ⟨q, 0, none⟩), .slice A2 (n + z.length) cp2] := hQ'
 refine op_nil ?_
 refine W_seq ?_
 refine zF [(0, .pointer (some ⟨q, 0, none⟩)), (1, .string (bsT z)), (4, .int .i64 0), (5, .nilIface)] fun ρ => ?_
 refine zR ?_
 refine zS [(17, .string (bsT z)), (18, .int .i64 ((z.length : Nat) : Int)), (4, .int .i64 ((z.length : Nat) : Int)), (5, .nilIface)] ?_
 refine op_nil ?_
 refine W_ret ?_
 refine ⟨_, Res_of (v := .tuple #[.int .i64 ((z.length : Nat) : Int), .nilIface]) (by kernel_rfl), ?_⟩
 have hlt := hO.lt
 refine ⟨rfl, fun c => G c ∨ (Value.slice A2 (n + z.length) cp2).ownBlock = some c, ⟨_, A2, n + z.length, cp2, hQ, by rw [List.length_append, hn], .inr rfl, by rw [u8s_app]; exact hO, .inl hGq, fun c hc => .inr hc, ?_⟩, ⟨hMv.1, ?_⟩⟩
 ·
  rintro c (hc | hc)
  ·
   exact Nat.lt_of_lt_of_le (hGl c hc) hMv.1.size
  ·
   exact hlt c hc
 ·
  rintro c (hc | hc)
  ·
   exact .inl hc
  ·
   exact (hw2 c hc).elim (fun e => .inl (hGA c e)) (fun e => .inr (by omega))

set_option maxRecDepth 100000 in
theorem bstr_ok (G : Nat → Prop) (q : Nat) (t : Tx) (w : World) (hB : BD G w q t) (h0 : t ≠ []) : Ret Try.prog 27 [.pointer (some ⟨q, 0, none⟩)] w fun v w' => v = .string (bsT t) ∧ Tch G w w' := by
 obtain ⟨a, A, n, cp, hQ, hn, ha, hO, hGq, hGA, hGl⟩ := hB
 obtain ⟨g, sp, rfl, hG, hsl, hnc, hcm⟩ := hO.blk1 (by rw [hn]; exact List.length_pos_iff.2 h0)
 have hsh := shape_blk hG
 rw [hsl] at hsh
 simp only [maxLen] at hcm
 have h0l : 0 < t.length := List.length_pos_iff.2 h0
 subst hn
 refine enter Try.func27 rfl rfl ?_
 refine zQ ?_
 refine zS [(2, .string (bsT ([])))] ?_
 refine op_nil ?_
 refine W_seq ?_
 refine W_tail 10 (by kernel_rfl) (by kernel_rfl) (by kernel_rfl) fun w1 hT2 hh3 => ?_
 have hT0 := hT2
 have hQ := hQ.tch0 hT2
 have hG := hG.tch0 hT2
 refine qsg [(3, .pointer (some ⟨q, 0, none⟩)), (4, .pointer (some ⟨q, 0, none⟩)), (5, .pointer (some ⟨q, 1, none⟩))] (by kernel_rfl) ?_
 refine q_val (v := .slice (some ⟨g, 0, none⟩) t.length cp) (by rfl) (R_load (v := .slice (some ⟨g, 0, none⟩) t.length cp) (by kernel_rfl) (by kernel_rfl) ((hQ.cell 1).trans rfl)) ?_
 refine q_val (v := .pointer (some ⟨g, 0, none⟩)) (by rfl) (R_usd (n := t.length) (c := cp) (by kernel_rfl) (by omega)) ?_
 refine qsg [(8, .pointer (some ⟨q, 0, none⟩)), (9, .pointer (some ⟨q, 0, none⟩)), (10, .pointer (some ⟨q, 1, none⟩))] (by kernel_rfl) ?_
 refine q_val (v := .slice (some ⟨g, 0, none⟩) t.length cp) (by rfl) (R_load (v := .slice (some ⟨g, 0, none⟩) t.length cp) (by kernel_rfl) (by kernel_rfl) ((hQ.cell 1).trans rfl)) ?_
 refine qsg [(12, .int .i64 (t.length : Int))] (by kernel_rfl) ?_
 refine q_nil ?_
 have hsh2 := shape_blk hG; rw [hsl] at hsh2
 refine st (by rfl) (S_ustr (e := 5) (q := g) (cells := cp) (l := t) (by kernel_rfl) (by kernel_rfl) (by kernel_rfl) (by kernel_rfl) hsh2 h0 (by omega) (by omega) (fun k u hk => by have := blk_pre hG k u hk; rwa [Nat.zero_add] at this) fun w4 hT5 => ?_)
 have hT9 : Tch G w w4 := (hT0).trans hT5 (fun _ _ e => e.elim) (fun b _ e => by have : b = g := e; rw [this]; exact hGA g rfl)
 refine zS [(2, .string (bsT t))] ?_
 refine op_nil ?_
 refine W_ret ?_
 exact ⟨_, Res_of (v := .string (bsT t)) (by kernel_rfl), ⟨rfl, hT9⟩⟩

end Go.Proofs.YtlkjhkennbdbnaaV

set_option linter.unusedVariables false
set_option linter.unusedSimpArgs false
namespace Go.Proofs.YtlkjhkennbdbnaaV
open Go Go.RowKit Go.Proofs

theorem R_sl0 {ρ : Env} {w : World} {d : Option Tmp} {t : TypeId} {x hi : Operand} {ty : TypeId} {pos : String} {af : Array Edge} {g : Option (Nat × Bool)} {b n cp : Nat} (hx : evR ρ x = .slice (some ⟨b, 0, none⟩) n cp) (hh : evR ρ hi = .int .i64 0) (ht : Try.prog.underlying t = some (.slice (Try.prog.elem t))) (hz : pureR Try.prog (sizeOf (Try.prog.elem t)) = some 1) :
  (execOp (evR ρ) ⟨d, .slice t x none (some hi) none, ty, pos, af, g⟩).run Try.prog w = .ok (.value (.slice (some ⟨b, 0, none⟩) 0 cp)) w := by
 have q := R_sliceH (P := Try.prog) (w := w) (d := d) (ty := ty) (pos := pos) (af := af) (g := g) (A := some ⟨b, 0, none⟩) (n := n) (cp := cp) 0 hx hh ht hz (by omega)
 have e : slA (some ⟨b, 0, none⟩) 0 cp = some ⟨b, 0, none⟩ := by
  unfold slA; split
  ·
   rfl
  ·
   simp [add_at]
 rw [e] at q
 exact q
def txs (l : List Tx) : List Value := l.map fun t => .string (bsT t)
theorem txs_app (l m : List Tx) : txs (l ++ m) = txs l ++ txs m := by simp [txs]
theorem txs_at {l : List Tx} {i : Nat} (h : i < l.length) : (txs l)[i]? = some (.string (bsT (l.getD i []))) := by
 simp [txs, List.getElem?_eq_getElem h, List.getD_eq_getElem?_getD]
theorem txs_drop (l : List Tx) (k : Nat) : (txs l).drop k = txs (l.drop k) := by simp [txs, List.map_drop]
def sumL (L : List Tx) : Nat := (L.map List.length).sum
theorem sum_step {L : List Tx} {j : Nat} (h : j < L.length) : sumL (L.take (j + 1)) = sumL (L.take j) + (L.getD j []).length := by
 unfold sumL
 rw [List.take_succ_eq_append_getElem h, List.map_append, List.sum_append, List.getD_eq_getElem?_getD, List.getElem?_eq_getElem h]
 simp
theorem sum_le (L : List Tx) (j : Nat) : sumL (L.take j) ≤ sumL L := by
 unfold sumL
 have : L.map List.length = (L.take j).map List.length ++ (L.drop j).map List.length := by rw [← List.map_append, List.take_append_drop]
 rw [this, List.sum_append]; omega
def joinT (sep : Tx) : List Tx → Tx
 | [] => []
 | x :: xs => x ++ xs.flatMap (fun y => sep ++ y)
def joinP (sep : Tx) (L : List Tx) (j : Nat) : Tx := L.getD 0 [] ++ ((L.drop 1).take j).flatMap (fun y => sep ++ y)
theorem joinP_0 (sep : Tx) (L : List Tx) : joinP sep L 0 = L.getD 0 [] := by simp [joinP]
theorem joinP_step {sep : Tx} {L : List Tx} {j : Nat} (h : j < L.length - 1) : joinP sep L (j + 1) = joinP sep L j ++ sep ++ (L.drop 1).getD j [] := by
 unfold joinP
 have hl : j < (L.drop 1).length := by simp; omega
 rw [List.take_succ_eq_append_getElem hl, List.flatMap_append, List.getD_eq_getElem?_getD (l := L.drop 1), List.getElem?_eq_getElem hl]
 simp
theorem joinP_all {sep : Tx} {L : List Tx} (h : 0 < L.length) : joinP sep L (L.length - 1) = joinT sep L := by
 cases L with
 | nil => simp at h
 | cons x xs => simp [joinP, joinT]
theorem joinT_one {sep : Tx} {L : List Tx} (h : L.length = 1) : joinT sep L = L.getD 0 [] := by
 match L, h with
 | [x], _ => simp [joinT]
theorem joinP_len {sep : Tx} {L : List Tx} (hs : sep.length = 1) : ∀ (j : Nat), j ≤ L.length - 1 → 0 < L.length → (joinP sep L j).length = j + sumL (L.take (j + 1))
 | 0, _, h0 => by rw [joinP_0, sum_step h0]; simp [sumL]
 | j + 1, h, h0 => by
  rw [joinP_step (by omega), List.length_append, List.length_append, joinP_len hs j (by omega) h0, sum_step (j := j + 1) (by omega), hs]
  have : (L.drop 1).getD j [] = L.getD (j + 1) [] := by simp [List.getD_eq_getElem?_getD, Nat.add_comm]
  rw [this]; omega
theorem slA_rd {w : World} {n cp : Nat} {A : Option Addr} {cells : List Value} (h : RdW w 1 n A cells) (hc : n ≤ cp) (h1 : 1 < n) : RdW w 1 (n - 1) (slA A 1 cp) (cells.drop 1) := by
 obtain ⟨b, off, rfl, hb, hr⟩ := h.2.2 (by omega)
 have hl := h.1
 refine ⟨by rw [List.length_drop]; omega, by have := h.2.1; omega, fun _ => ⟨b, off + 1, ?_, hb, fun k u hk => ?_⟩⟩
 ·
  unfold slA; rw [if_neg (by omega)]; simp [add_at]
 ·
  rw [List.getElem?_drop] at hk
  rw [Nat.add_assoc]
  exact hr (1 + k) u hk

theorem el_le {L : List Tx} {j : Nat} (h : j < L.length - 1) : ((L.drop 1).getD j []).length ≤ sumL L := by
 have h1 := sum_step (L := L) (j := j + 1) (by omega)
 have h2 := sum_le L (j + 2)
 have h3 : (L.drop 1).getD j [] = L.getD (j + 1) [] := by simp [List.getD_eq_getElem?_getD, Nat.add_comm]
 rw [h3]; have h4 : j + 1 + 1 = j + 2 := rfl
 rw [h4] at h1; omega
theorem el_le2 {L : List Tx} {j : Nat} (h : j < L.length) : (L.getD j []).length ≤ sumL L := by
 have h1 := sum_step (L := L) (j := j) h
 have h2 := sum_le L (j + 1)
 omega

set_option maxRecDepth 100000 in
theorem grow_ok (q n : Nat) (w : World) (hQ : Blk w q 55 [.pointer (some ⟨q, 0, none⟩), .slice none 0 0]) (hn : n ≤ 140737488355328) : Ret Try.prog 58 [.pointer (some ⟨q, 0, none⟩), .int .i64 ((n : Nat) : Int)] w fun v w' => v = .tuple #[] ∧ ∃ g cap, w.heap.size ≤ g ∧ Blk w' q 55 [.pointer (some ⟨q, 0, none⟩), .slice (some ⟨g, 0, none⟩) 0 cap] ∧ Own w' 0 5 1 (.slice (some ⟨g, 0, none⟩) 0 cap) 0 [] ∧ Tch (one q) w w' := by
 have hT0 := Tch.refl N0 w
 have lQw := hQ.lt
 refine enter Try.func58 rfl rfl ?_
 refine W_seq ?_
 refine W_draw (fun w' => Blk w' q 55 [.pointer (some ⟨q, 0, none⟩), .slice none 0 0]) (by kernel_rfl) (by kernel_rfl) (by kernel_rfl) fun w1 hT2 hh3 => ?_
 have hT0 := hT0.t0 hT2
 have hQ := hQ.tch0 hT2
 refine zK [0, 6, 9, 1, 10, 2, 11] #[true, true, true, false, false, false, true, false, false, true, true, true, false, false, false, false] [(5, .pointer (some ⟨q, 0, none⟩)), (11, .int .i64 ((n : Nat) : Int)), (14, .pointer (some ⟨q, 0, none⟩)), (6, .pointer (some ⟨q, 0, none⟩)), (15, .pointer (some ⟨q, 0, none⟩)), (7, .pointer (some ⟨q, 1, none⟩)), (16, .pointer (some ⟨q, 1, none⟩))] hQ ?_
 refine zV 3 rfl (.slice none 0 0) (fun _ hQ => R_load (v := .slice none 0 0) (by kernel_rfl) (by kernel_rfl) ((hQ.cell 1).trans rfl)) hQ ?_
 refine zK [4, 5] #[true, true, true, true, true, true, true, false, false, true, true, true, false, false, false, false] [(9, .int .i64 0), (10, .int .i64 0)] hQ ?_
 refine zV 12 rfl (.slice none 0 0) (fun _ hQ => R_load (v := .slice none 0 0) (by kernel_rfl) (by kernel_rfl) ((hQ.cell 1).trans rfl)) hQ ?_
 refine zK [7] #[true, true, true, true, true, true, true, true, false, true, true, true, true, false, false, false] [(12, .int .i64 (IntKind.i64.wrap (0 + ((n : Nat) : Int))))] hQ ?_
 rw [show IntKind.i64.wrap (0 + ((n : Nat) : Int)) = 0 + ((n : Nat) : Int) from wrap_i64 (by omega) (by omega)]
 refine fixD (y := ((n : Nat) : Int)) (by omega) ?_
 refine zK [13] #[true, true, true, true, true, true, true, true, false, true, true, true, true, true, false, false] [(18, .int .i64 0)] hQ ?_
 have lQ_ := hQ.lt
 have hzT := hT0.size
 refine zD 8 rfl (S_mkz (n := n) (by kernel_rfl) (by omega) fun cap w4 hcap hcap0 hOg hT5 hszg => ?_)
 have hT0 := hT0.t0 hT5
 have hQ := hQ.tch0 hT5
 have hgg : w.heap.size ≤ w1.heap.size := by omega
 refine ⟨hQ, ?_⟩
 refine zV 14 rfl (.slice (some ⟨w1.heap.size, 0, none⟩) 0 cap) (fun _ hQ => R_sl0 (n := n) (by kernel_rfl) (by kernel_rfl) (by kernel_rfl) (by kernel_rfl)) hQ ?_
 refine zK [15] #[true, true, true, true, true, true, true, true, true, true, true, true, true, true, true, true] [(4, .slice (some ⟨w1.heap.size, 0, none⟩) 0 cap)] hQ ?_
 refine d_done (by kernel_rfl) ?_
 refine W_seq ?_
 refine zF [(0, .pointer (some ⟨q, 0, none⟩)), (1, .int .i64 ((n : Nat) : Int)), (4, .slice (some ⟨w1.heap.size, 0, none⟩) 0 cap)] fun ρ => ?_
 refine zR ?_
 refine zS [(20, .slice (some ⟨w1.heap.size, 0, none⟩) 0 cap), (21, .pointer (some ⟨q, 0, none⟩)), (22, .pointer (some ⟨q, 0, none⟩)), (23, .pointer (some ⟨q, 1, none⟩))] ?_
 refine zL (.slice none 0 0) ((hQ.cell 1).trans rfl) ?_
 refine stv (v := .int .i64 0) (by rfl) (R_copy0 (A := some ⟨w1.heap.size, 0, none⟩) (c := cap) (by kernel_rfl) (by kernel_rfl) (by kernel_rfl) (by kernel_rfl)) ?_
 refine op_nil ?_
 refine zR ?_
 refine zS [(26, .pointer (some ⟨q, 0, none⟩)), (27, .slice (some ⟨w1.heap.size, 0, none⟩) 0 cap), (28, .pointer (some ⟨q, 0, none⟩)), (29, .pointer (some ⟨q, 1, none⟩))] ?_
 refine st (by rfl) (S_store (b := q) (j := 1) (v := .slice (some ⟨w1.heap.size, 0, none⟩) 0 cap) (by kernel_rfl) (by kernel_rfl) (by kernel_rfl) (by rfl) hQ (by show 1 < 2; decide) fun w6 hT7 hs8 hQ1 => ?_)
 have hOg := hOg.tch hT7 (fun c hc e => hOg.blk_ne hQ (by decide) c hc e)
 have hT1 : Tch (one q) w w6 := hT0.trans hT7 (fun _ _ e => e.elim) (fun _ _ e => e)
 refine op_nil ?_
 exact ⟨_, Res_of (v := .tuple #[]) (by kernel_rfl), ⟨rfl, w1.heap.size, cap, hgg, hQ1, hOg, hT1⟩⟩

set_option maxRecDepth 100000 in
theorem Grow_ok (q n : Nat) (w : World) (hQ : Blk w q 55 [.pointer none, .slice none 0 0]) (hn : n ≤ 140737488355328) (hn1 : 1 ≤ n) : Ret Try.prog 44 [.pointer (some ⟨q, 0, none⟩), .int .i64 ((n : Nat) : Int)] w fun v w' => v = .tuple #[] ∧ ∃ g cap, w.heap.size ≤ g ∧ Blk w' q 55 [.pointer (some ⟨q, 0, none⟩), .slice (some ⟨g, 0, none⟩) 0 cap] ∧ Own w' 0 5 1 (.slice (some ⟨g, 0, none⟩) 0 cap) 0 [] ∧ Tch (one q) w w' := by
 have hTq := Tch.refl (one q) w
 refine enter Try.func44 rfl rfl ?_
 refine zQ ?_
 refine zS [(4, .pointer (some ⟨q, 0, none⟩))] ?_
 refine zC (cc_ok q _ none _ hQ (.inl rfl)) ?_
 rintro _ w1 ⟨rfl, hQ, hT2⟩
 have hTq := hTq.trans hT2 (fun _ _ e => e) (fun _ _ e => e)
 refine op_nil ?_
 refine W_seq ?_
 refine zQ ?_
 refine zS [(6, .int .i64 ((n : Nat) : Int)), (7, .bool (decide (((n : Nat) : Int) < 0)))] ?_
 refine zO (decide (((n : Nat) : Int) < 0)) (fun hc3 => ?_) (fun hc3 => ?_)
 ·
  replace hc3 : ((n : Nat) : Int) < 0 := (of_decide_eq_true hc3)
  exfalso; omega
 ·
  replace hc3 : 0 ≤ ((n : Nat) : Int) := (Int.not_lt.1 (of_decide_eq_false hc3))
  refine W_skip ?_
  refine W_seq ?_
  refine W_draw (fun w' => Blk w' q 55 [.pointer (some ⟨q, 0, none⟩), .slice none 0 0]) (by kernel_rfl) (by kernel_rfl) (by kernel_rfl) fun w4 hT5 hh6 => ?_
  have hTq := hTq.then0 hT5
  have hQ := hQ.tch0 hT5
  refine zK [0, 5, 11, 1, 6, 2, 7] #[true, true, true, false, false, true, true, true, false, false, false, true, false] [(9, .pointer (some ⟨q, 0, none⟩)), (14, .pointer (some ⟨q, 0, none⟩)), (20, .int .i64 ((n : Nat) : Int)), (10, .pointer (some ⟨q, 0, none⟩)), (15, .pointer (some ⟨q, 0, none⟩)), (11, .pointer (some ⟨q, 1, none⟩)), (16, .pointer (some ⟨q, 1, none⟩))] hQ ?_
  refine zV 3 rfl (.slice none 0 0) (fun _ hQ => R_load (v := .slice none 0 0) (by kernel_rfl) (by kernel_rfl) ((hQ.cell 1).trans rfl)) hQ ?_
  refine zK [4] #[true, true, true, true, true, true, true, true, false, false, false, true, false] [(13, .int .i64 0)] hQ ?_
  refine zV 8 rfl (.slice none 0 0) (fun _ hQ => R_load (v := .slice none 0 0) (by kernel_rfl) (by kernel_rfl) ((hQ.cell 1).trans rfl)) hQ ?_
  refine zK [9, 10, 12] #[true, true, true, true, true, true, true, true, true, true, true, true, true] [(18, .int .i64 0), (19, .int .i64 0), (21, .bool (decide (0 < ((n : Nat) : Int))))] hQ ?_
  refine d_done (by kernel_rfl) ?_
  refine zW (decide (0 < ((n : Nat) : Int))) (fun hc7 => ?_) (fun hc7 => ?_)
  ·
   replace hc7 : 0 < ((n : Nat) : Int) := (of_decide_eq_true hc7)
   refine zF [(0, .pointer (some ⟨q, 0, none⟩)), (1, .int .i64 ((n : Nat) : Int)), (7, .bool (decide (((n : Nat) : Int) < 0))), (21, .bool (decide (0 < ((n : Nat) : Int))))] fun ρ => ?_
   refine zR ?_
   refine zS [(22, .pointer (some ⟨q, 0, none⟩)), (23, .int .i64 ((n : Nat) : Int))] ?_
   have hsq := hTq.size
   refine zC (grow_ok q n _ hQ hn) ?_
   rintro _ w8 ⟨rfl, g, cap, hgg, hQ, hOg, hT9⟩
   have hTq := hTq.trans hT9 (fun _ _ e => e) (fun _ _ e => e)
   refine op_nil ?_
   exact ⟨_, Res_of (v := .tuple #[]) (by kernel_rfl), ⟨rfl, g, cap, by omega, hQ, hOg, hTq⟩⟩
  ·
   replace hc7 : ((n : Nat) : Int) ≤ 0 := (Int.not_lt.1 (of_decide_eq_false hc7))
   exfalso; omega

set_option maxRecDepth 100000 in
set_option maxHeartbeats 2000000 in
theorem join_ok (L : List Tx) (A : Option Addr) (cA : Nat) (w : World) (hL : RdW w 1 L.length A (txs L)) (hcc : L.length ≤ cA) (hn : L.length ≤ 1000000) (hs : sumL L ≤ 1000000000) : Ret Try.prog 25 [.slice A L.length cA, .string (bsT ([32]))] w fun v w' => v = .string (bsT (joinT [32] L)) ∧ Tch N0 w w' := by
 have hRL := hL
 refine enter Try.func25 rfl rfl ?_
 refine zQ ?_
 refine zS [(4, .string (bsT ([])))] ?_
 refine op_nil ?_
 refine W_seq ?_
 refine zQ ?_
 refine zS [(11, .slice A L.length cA), (12, .int .i64 (L.length : Int))] ?_
 refine op_nil ?_
 refine W_block ?_
 refine zQ ?_
 refine zS [(14, .bool ((L.length : Int) == 0)), (13, .bool ((L.length : Int) == 0))] ?_
 refine zO ((L.length : Int) == 0) (fun hc1 => ?_) (fun hc1 => ?_)
 ·
  replace hc1 : (L.length : Int) = 0 := (eq_of_beq hc1)
  refine zQ ?_
  refine zS [(4, .string (bsT ([])))] ?_
  refine op_nil ?_
  refine W_ret ?_
  exact ⟨_, Res_of (v := .string (bsT ([]))) (by kernel_rfl), ⟨by rw [show L = [] from List.eq_nil_of_length_eq_zero (by omega)]; rfl, Tch.refl _ _⟩⟩
 ·
  replace hc1 : (L.length : Int) ≠ 0 := (ne_of_beq_false hc1)
  refine zQ ?_
  refine zS [(16, .bool ((L.length : Int) == 1)), (15, .bool ((L.length : Int) == 1))] ?_
  refine zO ((L.length : Int) == 1) (fun hc2 => ?_) (fun hc2 => ?_)
  ·
   replace hc2 : (L.length : Int) = 1 := (eq_of_beq hc2)
   refine zQ ?_
   refine zS [(17, .slice A L.length cA)] ?_
   refine stv (v := ptrAt A 0) (by rfl) (R_indexRd1 (len := L.length) (cap := cA) (k := .i64) (i := 0) (e := 9) 0 hRL (by kernel_rfl) (by kernel_rfl) (by kernel_rfl) (by kernel_rfl) rfl (by omega)) ?_
   refine stv (v := .string (bsT (L.getD 0 []))) (by rfl) (R_loadRd (v := .string (bsT (L.getD 0 []))) hRL (by omega) (by kernel_rfl) (by kernel_rfl) (txs_at (by omega))) ?_
   refine zS [(4, .string (bsT (L.getD 0 [])))] ?_
   refine op_nil ?_
   refine W_ret ?_
   exact ⟨_, Res_of (v := .string (bsT (L.getD 0 []))) (by kernel_rfl), ⟨by rw [joinT_one (by omega)], Tch.refl _ _⟩⟩
  ·
   replace hc2 : (L.length : Int) ≠ 1 := (ne_of_beq_false hc2)
   refine W_skip ?_
   refine zQ ?_
   refine zS [(5, .int .i64 0)] ?_
   refine op_nil ?_
   refine W_seq ?_
   refine W_seq ?_
   refine zF [(0, .slice A L.length cA), (1, .string (bsT ([32]))), (4, .string (bsT ([]))), (5, .int .i64 0), (12, .int .i64 (L.length : Int)), (13, .bool ((L.length : Int) == 0)), (15, .bool ((L.length : Int) == 1))] fun ρ => ?_
   refine zR ?_
   refine zS [(20, .string (bsT ([32]))), (21, .int .i64 1), (22, .bool true)] ?_
   refine zO true (fun _ => ?_) (fun h => nomatch h)
   refine W_seq ?_
   refine zQ ?_
   refine zS [(23, .string (bsT ([32]))), (24, .int .i64 1), (25, .slice A L.length cA), (26, .int .i64 (L.length : Int)), (27, .int .i64 (IntKind.i64.wrap ((L.length : Int) - 1)))] ?_
   rw [show IntKind.i64.wrap ((L.length : Int) - 1) = (L.length : Int) - 1 from wrap_i64 (by omega) (by omega)]
   have hq9 : 2 ≤ (9223372036854775807 : Int) / ((L.length : Int) - 1) := Int.le_ediv_of_mul_le (by omega) (by omega)
   refine stv (v := .int .i64 (9223372036854775807 / ((L.length : Int) - 1))) (by rfl) (R_quo (by kernel_rfl) (by kernel_rfl) (by omega) (by omega) (wrap_i64 (by omega) (by have := Int.ediv_le_self (b := (L.length : Int) - 1) (a := 9223372036854775807) (by omega); omega))) ?_
   refine zS [(29, .bool (decide (1 ≥ 9223372036854775807 / ((L.length : Int) - 1))))] ?_
   refine zO (decide (1 ≥ 9223372036854775807 / ((L.length : Int) - 1))) (fun hc3 => ?_) (fun hc3 => ?_)
   ·
    replace hc3 : 9223372036854775807 / ((L.length : Int) - 1) ≤ 1 := (of_decide_eq_true hc3)
    exfalso; omega
   ·
    replace hc3 : 1 < 9223372036854775807 / ((L.length : Int) - 1) := (Int.not_le.1 (of_decide_eq_false hc3))
    refine W_skip ?_
    refine zF [(0, .slice A L.length cA), (1, .string (bsT ([32]))), (4, .string (bsT ([]))), (5, .int .i64 0), (12, .int .i64 (L.length : Int)), (13, .bool ((L.length : Int) == 0)), (15, .bool ((L.length : Int) == 1)), (22, .bool true), (29, .bool (decide (1 ≥ 9223372036854775807 / ((L.length : Int) - 1))))] fun ρ => ?_
    refine zR ?_
    refine zS [(31, .int .i64 0), (32, .string (bsT ([32]))), (33, .int .i64 1), (34, .slice A L.length cA), (35, .int .i64 (L.length : Int)), (36, .int .i64 (IntKind.i64.wrap ((L.length : Int) - 1)))] ?_
    rw [show IntKind.i64.wrap ((L.length : Int) - 1) = (L.length : Int) - 1 from wrap_i64 (by omega) (by omega)]
    refine zS [(37, .int .i64 (IntKind.i64.wrap (1 * ((L.length : Int) - 1))))] ?_
    rw [show IntKind.i64.wrap (1 * ((L.length : Int) - 1)) = 1 * ((L.length : Int) - 1) from wrap_i64 (by omega) (by omega)]
    refine fixR (y := ((L.length - 1 : Nat) : Int)) (by omega) ?_
    refine zS [(38, .int .i64 (IntKind.i64.wrap (0 + ((L.length - 1 : Nat) : Int))))] ?_
    rw [show IntKind.i64.wrap (0 + ((L.length - 1 : Nat) : Int)) = 0 + ((L.length - 1 : Nat) : Int) from wrap_i64 (by omega) (by omega)]
    refine fixR (y := ((L.length - 1 : Nat) : Int)) (by omega) ?_
    refine zS [(5, .int .i64 ((L.length - 1 : Nat) : Int))] ?_
    refine op_nil ?_
    refine W_seq ?_
    refine W_seq ?_
    refine zF [(0, .slice A L.length cA), (1, .string (bsT ([32]))), (4, .string (bsT ([]))), (5, .int .i64 ((L.length - 1 : Nat) : Int)), (12, .int .i64 (L.length : Int)), (13, .bool ((L.length : Int) == 0)), (15, .bool ((L.length : Int) == 1)), (22, .bool true), (29, .bool (decide (1 ≥ 9223372036854775807 / ((L.length : Int) - 1))))] fun ρ => ?_
    refine zR ?_
    refine zS [(39, .slice A L.length cA), (40, .int .i64 (L.length : Int)), (41, .int .i64 0)] ?_
    refine op_nil ?_
    refine W_block ?_
    refine W_loop (fun m ρ w' => ∃ (tot j : Nat) (ρ0 : Env), ρ = updL ρ0 [(0, .slice A L.length cA), (1, .string (bsT ([32]))), (5, .int .i64 ((tot : Nat) : Int)), (39, .slice A L.length cA), (40, .int .i64 (L.length : Int)), (41, .int .i64 ((j : Nat) : Int))] ∧ (j ≤ L.length) ∧ (tot = L.length - 1 + sumL (L.take j)) ∧ Tch N0 w w' ∧ RdW w' 1 L.length A (txs L) ∧ m = L.length + 1 - j) (m := L.length + 1 - 0) ?_ ?_
    ·
     refine ⟨L.length - 1, 0, _, updL_self (by kernel_rfl), by omega, (by simp [sumL]), Tch.refl _ _, hRL, rfl⟩
    ·
     rintro m ρ w4 ⟨tot, j, ρ, rfl, hj, htot, hT0, hRL, rfl⟩
     have hsl := sum_le L j
     refine zQ ?_
     refine zS [(42, .bool (decide (((j : Nat) : Int) < (L.length : Int))))] ?_
     refine op_nil ?_
     refine W_seq ?_
     refine zW (decide (((j : Nat) : Int) < (L.length : Int))) (fun hc5 => ?_) (fun hc5 => ?_)
     ·
      replace hc5 : ((j : Nat) : Int) < (L.length : Int) := (of_decide_eq_true hc5)
      refine W_skip ?_
      refine W_seq ?_
      refine W_block ?_
      refine zQ ?_
      refine stv (v := ptrAt A j) (by rfl) (R_indexRd1 (len := L.length) (cap := cA) (k := .i64) (i := ((j : Nat) : Int)) (e := 9) j hRL (by kernel_rfl) (by kernel_rfl) (by kernel_rfl) (by kernel_rfl) rfl (by omega)) ?_
      refine stv (v := .string (bsT (L.getD j []))) (by rfl) (R_loadRd (v := .string (bsT (L.getD j []))) hRL (by omega) (by kernel_rfl) (by kernel_rfl) (txs_at (by omega))) ?_
      refine zS [(7, .string (bsT (L.getD j [])))] ?_
      refine op_nil ?_
      refine W_seq ?_
      refine W_seq ?_
      have hel2 := el_le2 (L := L) (j := j) (by omega)
      refine zR ?_
      refine zS [(45, .string (bsT (L.getD j []))), (46, .int .i64 (((L.getD j []).length : Nat) : Int)), (47, .int .i64 ((tot : Nat) : Int)), (48, .int .i64 (IntKind.i64.wrap (9223372036854775807 - ((tot : Nat) : Int))))] ?_
      rw [show IntKind.i64.wrap (9223372036854775807 - ((tot : Nat) : Int)) = 9223372036854775807 - ((tot : Nat) : Int) from wrap_i64 (by omega) (by omega)]
      refine zS [(49, .bool (decide ((((L.getD j []).length : Nat) : Int) > 9223372036854775807 - ((tot : Nat) : Int))))] ?_
      refine zO (decide ((((L.getD j []).length : Nat) : Int) > 9223372036854775807 - ((tot : Nat) : Int))) (fun hc6 => ?_) (fun hc6 => ?_)
      ·
       replace hc6 : 9223372036854775807 - ((tot : Nat) : Int) < (((L.getD j []).length : Nat) : Int) := (of_decide_eq_true hc6)
       exfalso; omega
      ·
       replace hc6 : (((L.getD j []).length : Nat) : Int) ≤ 9223372036854775807 - ((tot : Nat) : Int) := (Int.not_lt.1 (of_decide_eq_false hc6))
       refine W_skip ?_
       refine zF [(0, .slice A L.length cA), (1, .string (bsT ([32]))), (5, .int .i64 ((tot : Nat) : Int)), (7, .string (bsT (L.getD j []))), (39, .slice A L.length cA), (40, .int .i64 (L.length : Int)), (41, .int .i64 ((j : Nat) : Int)), (42, .bool (decide (((j : Nat) : Int) < (L.length : Int)))), (49, .bool (decide ((((L.getD j []).length : Nat) : Int) > 9223372036854775807 - ((tot : Nat) : Int))))] fun ρ => ?_
       refine zR ?_
       refine zS [(51, .int .i64 ((tot : Nat) : Int)), (52, .string (bsT (L.getD j []))), (53, .int .i64 (((L.getD j []).length : Nat) : Int)), (54, .int .i64 (IntKind.i64.wrap (((tot : Nat) : Int) + (((L.getD j []).length : Nat) : Int))))] ?_
       rw [show IntKind.i64.wrap (((tot : Nat) : Int) + (((L.getD j []).length : Nat) : Int)) = ((tot : Nat) : Int) + (((L.getD j []).length : Nat) : Int) from wrap_i64 (by omega) (by omega)]
       refine fixR (y := ((tot + (L.getD j []).length : Nat) : Int)) (by omega) ?_
       refine zS [(5, .int .i64 ((tot + (L.getD j []).length : Nat) : Int))] ?_
       refine op_nil ?_
       refine zR ?_
       refine zS [(55, .int .i64 (IntKind.i64.wrap (((j : Nat) : Int) + 1)))] ?_
       rw [show IntKind.i64.wrap (((j : Nat) : Int) + 1) = ((j : Nat) : Int) + 1 from wrap_i64 (by omega) (by omega)]
       refine fixR (y := ((j + 1 : Nat) : Int)) (by omega) ?_
       refine zS [(41, .int .i64 ((j + 1 : Nat) : Int))] ?_
       refine op_nil ?_
       refine ⟨_, (by omega), tot + (L.getD j []).length, j + 1, _, updL_self (by kernel_rfl), (by omega), (by rw [sum_step (by omega)]; omega), hT0, hRL, rfl⟩
     ·
      replace hc5 : (L.length : Int) ≤ ((j : Nat) : Int) := (Int.not_lt.1 (of_decide_eq_false hc5))
      refine W_exit ?_
      refine X_hit ?_
      refine zQ ?_
      have hz11 := hT0.size
      refine st (by rfl) (S_new (v := .pointer (some ⟨w4.heap.size, 0, none⟩)) (ob := .cells #[.pointer none, .slice none 0 0] 55) (by kernel_rfl) fun w7 hT8 hs9 hB10 => ?_)
      replace hB10 : Blk w7 (w4.heap.size) 55 [.pointer none, .slice none 0 0] := hB10
      have hT0 := hT0.t0 hT8
      have hRL := hL.tch0 hT0
      refine op_nil ?_
      refine zQ ?_
      refine zS [(56, .int .i64 ((tot : Nat) : Int))] ?_
      have hz_ := hT0.size
      refine zC (Grow_ok (w4.heap.size) tot _ hB10 (by omega) (by omega)) ?_
      rintro _ w12 ⟨rfl, g, cap, hgg, hQg, hOg, hT13⟩
      have hT0 := (hT0).then hT13 (fun c e => by have e2 : c = w4.heap.size := e; omega)
      have hRL := hL.tch0 hT0
      have hB : BD (fun c => c = w4.heap.size ∨ c = g) w12 (w4.heap.size) [] := ⟨_, _, 0, cap, hQg, rfl, .inr rfl, hOg, .inl rfl, (fun c hc => .inr (Option.some.inj hc).symm), fun c hc => hc.elim (fun e => by rw [e]; exact hQg.lt) (fun e => by rw [e]; exact hOg.lt _ rfl)⟩
      have hGn : ∀ c, (c = w4.heap.size ∨ c = g) → w.heap.size ≤ c := fun c e => e.elim (fun e => by omega) (fun e => by omega)
      refine op_nil ?_
      refine W_seq ?_
      have hg0 : (L.getD 0 []).length ≤ sumL L := by have h1 := sum_step (L := L) (j := 0) (by omega); have h2 := sum_le L (0 + 1); omega
      refine zR ?_
      refine zS [(58, .slice A L.length cA)] ?_
      refine stv (v := ptrAt A 0) (by rfl) (R_indexRd1 (len := L.length) (cap := cA) (k := .i64) (i := 0) (e := 9) 0 hRL (by kernel_rfl) (by kernel_rfl) (by kernel_rfl) (by kernel_rfl) rfl (by omega)) ?_
      refine stv (v := .string (bsT (L.getD 0 []))) (by rfl) (R_loadRd (v := .string (bsT (L.getD 0 []))) hRL (by omega) (by kernel_rfl) (by kernel_rfl) (txs_at (by omega))) ?_
      have hz_ := hT0.size
      have htl : List.length (α := UInt8) ([]) ≤ 1099511627776 := by first | omega | (rw [List.length_append]; omega) | (simp only [List.length_append, List.length_cons, List.length_nil]; omega)
      refine zC (ws_ok (fun c => c = w4.heap.size ∨ c = g) (w4.heap.size) ([]) (L.getD 0 []) _ hB (by first | omega | (simp only [List.length_cons, List.length_nil, List.length_append]; omega))) ?_
      rintro _ w14 ⟨rfl, G15, hB, hM15⟩
      have hT0 := (hT0).then hM15.1 hGn
      have hRL := hL.tch0 hT0
      have hGn : ∀ c, G15 c → w.heap.size ≤ c := fun c e => (hM15.2 c e).elim (hGn c) (fun q => by omega)
      refine op_nil ?_
      refine W_seq ?_
      refine W_seq ?_
      refine zF [(0, .slice A L.length cA), (1, .string (bsT ([32]))), (5, .int .i64 ((tot : Nat) : Int)), (8, .pointer (some ⟨w4.heap.size, 0, none⟩)), (39, .slice A L.length cA), (40, .int .i64 (L.length : Int)), (41, .int .i64 ((j : Nat) : Int)), (42, .bool (decide (((j : Nat) : Int) < (L.length : Int))))] fun ρ => ?_
      have hL2 := slA_rd hL hcc (by omega)
      rw [txs_drop] at hL2
      have hR2 := hL2.tch0 hT0
      refine zR ?_
      refine zS [(62, .slice A L.length cA)] ?_
      refine stv (v := .slice (slA A 1 cA) (L.length - 1) (cA - 1)) (by rfl) (R_sliceL (A := A) (n := L.length) (cp := cA) 1 (by kernel_rfl) (by kernel_rfl) (by kernel_rfl) (by kernel_rfl) (by omega)) ?_
      refine zS [(64, .int .i64 ((L.length - 1 : Nat) : Int)), (65, .int .i64 0)] ?_
      refine op_nil ?_
      refine W_block ?_
      refine W_loop (fun m ρ w' => ∃ (G2 : Nat → Prop) (j2 : Nat) (ρ0 : Env), ρ = updL ρ0 [(0, .slice A L.length cA), (1, .string (bsT ([32]))), (8, .pointer (some ⟨w4.heap.size, 0, none⟩)), (63, .slice (slA A 1 cA) (L.length - 1) (cA - 1)), (64, .int .i64 ((L.length - 1 : Nat) : Int)), (65, .int .i64 ((j2 : Nat) : Int))] ∧ (j2 ≤ L.length - 1) ∧ (∀ c, G2 c → w.heap.size ≤ c) ∧ Tch N0 w w' ∧ RdW w' 1 L.length A (txs L) ∧ RdW w' 1 (L.length - 1) (slA A 1 cA) (txs (L.drop 1)) ∧ BD G2 w' (w4.heap.size) (joinP [32] L j2) ∧ m = L.length + 1 - j2) (m := L.length + 1 - 0) ?_ ?_
      ·
       refine ⟨G15, 0, _, updL_self (by kernel_rfl), by omega, hGn, hT0, hRL, hR2, (by rw [joinP_0]; simpa using hB), rfl⟩
      ·
       rintro m ρ w16 ⟨G2, j2, ρ, rfl, hj2, hGn, hT0, hRL, hR2, hB, rfl⟩
       have hpl := joinP_len (sep := [32]) (L := L) rfl j2 hj2 (by omega)
       have hsl2 := sum_le L (j2 + 1)
       refine zQ ?_
       refine zS [(66, .bool (decide (((j2 : Nat) : Int) < ((L.length - 1 : Nat) : Int))))] ?_
       refine op_nil ?_
       refine W_seq ?_
       refine zW (decide (((j2 : Nat) : Int) < ((L.length - 1 : Nat) : Int))) (fun hc17 => ?_) (fun hc17 => ?_)
       ·
        replace hc17 : ((j2 : Nat) : Int) < ((L.length - 1 : Nat) : Int) := (of_decide_eq_true hc17)
        refine W_skip ?_
        refine W_seq ?_
        refine W_block ?_
        refine zQ ?_
        refine stv (v := ptrAt (slA A 1 cA) j2) (by rfl) (R_indexRd1 (len := L.length - 1) (cap := cA - 1) (k := .i64) (i := ((j2 : Nat) : Int)) (e := 9) j2 hR2 (by kernel_rfl) (by kernel_rfl) (by kernel_rfl) (by kernel_rfl) rfl (by omega)) ?_
        refine stv (v := .string (bsT ((L.drop 1).getD j2 []))) (by rfl) (R_loadRd (v := .string (bsT ((L.drop 1).getD j2 []))) hR2 (by omega) (by kernel_rfl) (by kernel_rfl) (txs_at (by simp; omega))) ?_
        refine zS [(10, .string (bsT ((L.drop 1).getD j2 [])))] ?_
        refine op_nil ?_
        refine W_seq ?_
        have hel := el_le (L := L) (j := j2) (by omega)
        refine zR ?_
        refine zS [(69, .string (bsT ([32])))] ?_
        have hz_ := hT0.size
        have htl : List.length (α := UInt8) (joinP [32] L j2) ≤ 1099511627776 := by first | omega | (rw [List.length_append]; omega) | (simp only [List.length_append, List.length_cons, List.length_nil]; omega)
        refine zC (ws_ok G2 (w4.heap.size) (joinP [32] L j2) ([32]) _ hB (by first | omega | (simp only [List.length_cons, List.length_nil, List.length_append]; omega))) ?_
        rintro _ w18 ⟨rfl, G19, hB, hM19⟩
        have hT0 := (hT0).then hM19.1 hGn
        have hRL := hL.tch0 hT0
        have hR2 := hL2.tch0 hT0
        have hGn : ∀ c, G19 c → w.heap.size ≤ c := fun c e => (hM19.2 c e).elim (hGn c) (fun q => by omega)
        refine op_nil ?_
        refine zR ?_
        refine zS [(71, .string (bsT ((L.drop 1).getD j2 [])))] ?_
        have hz_ := hT0.size
        have htl : List.length (α := UInt8) (joinP [32] L j2 ++ [32]) ≤ 1099511627776 := by first | omega | (rw [List.length_append]; omega) | (simp only [List.length_append, List.length_cons, List.length_nil]; omega)
        refine zC (ws_ok G19 (w4.heap.size) (joinP [32] L j2 ++ [32]) ((L.drop 1).getD j2 []) _ hB (by first | omega | (simp only [List.length_cons, List.length_nil, List.length_append]; omega))) ?_
        rintro _ w20 ⟨rfl, G21, hB, hM21⟩
        have hT0 := (hT0).then hM21.1 hGn
        have hRL := hL.tch0 hT0
        have hR2 := hL2.tch0 hT0
        have hGn : ∀ c, G21 c → w.heap.size ≤ c := fun c e => (hM21.2 c e).elim (hGn c) (fun q => by omega)
        refine op_nil ?_
        refine zF [(0, .slice A L.length cA), (1, .string (bsT ([32]))), (8, .pointer (some ⟨w4.heap.size, 0, none⟩)), (10, .string (bsT ((L.drop 1).getD j2 []))), (63, .slice (slA A 1 cA) (L.length - 1) (cA - 1)), (64, .int .i64 ((L.length - 1 : Nat) : Int)), (65, .int .i64 ((j2 : Nat) : Int)), (66, .bool (decide (((j2 : Nat) : Int) < ((L.length - 1 : Nat) : Int))))] fun ρ => ?_
        refine zR ?_
        refine zS [(73, .int .i64 (IntKind.i64.wrap (((j2 : Nat) : Int) + 1)))] ?_
        rw [show IntKind.i64.wrap (((j2 : Nat) : Int) + 1) = ((j2 : Nat) : Int) + 1 from wrap_i64 (by omega) (by omega)]
        refine fixR (y := ((j2 + 1 : Nat) : Int)) (by omega) ?_
        refine zS [(65, .int .i64 ((j2 + 1 : Nat) : Int))] ?_
        refine op_nil ?_
        refine ⟨_, (by omega), G21, j2 + 1, _, updL_self (by kernel_rfl), (by omega), hGn, hT0, hRL, hR2, (by rw [joinP_step (by omega)]; exact hB), rfl⟩
       ·
        replace hc17 : ((L.length - 1 : Nat) : Int) ≤ ((j2 : Nat) : Int) := (Int.not_lt.1 (of_decide_eq_false hc17))
        refine W_exit ?_
        refine X_hit ?_
        refine zQ ?_
        have hj9 : j2 = L.length - 1 := by omega
        subst hj9
        refine zC (bstr_ok G2 (w4.heap.size) _ _ hB (by intro e; have e2 := congrArg List.length e; simp only [List.length_nil] at e2; omega)) ?_
        rintro _ w22 ⟨rfl, hT23⟩
        have hT0 := (hT0).then hT23 hGn
        have hRL := hL.tch0 hT0
        have hR2 := hL2.tch0 hT0
        refine zS [(4, .string (bsT (joinP [32] L (L.length - 1))))] ?_
        refine op_nil ?_
        refine W_ret ?_
        exact ⟨_, Res_of (v := .string (bsT (joinP [32] L (L.length - 1)))) (by kernel_rfl), ⟨by rw [joinP_all (by omega)], hT0⟩⟩

end Go.Proofs.YtlkjhkennbdbnaaV

set_option linter.unusedVariables false
set_option linter.unusedSimpArgs false
namespace Go.Proofs.YtlkjhkennbdbnaaV
open Go Go.RowKit Go.Proofs

theorem Own.rdS {w : World} {base e sz n : Nat} {A : Option Addr} {cp : Nat} {cells : List Value} (h : Own w base e sz (.slice A n cp) n cells) : RdW w sz n A cells := by
 obtain ⟨A', c', e, hr⟩ := h.rd
 injection e with e1 e2 e3
 subst e1; exact hr

def nameT (V : Int) : Tx := if V = 0 then [114, 101, 106, 101, 99, 116, 101, 100] else if V = 1 then [99, 108, 101, 97, 110] else if V = 2 then [118, 105, 111, 108, 97, 116, 105, 111, 110] else if V = 3 then [105, 110, 99, 111, 109, 112, 108, 101, 116, 101] else [117, 110, 107, 110, 111, 119, 110]
theorem nameT_len (V : Int) : (nameT V).length ≤ 10 := by
 unfold nameT
 split
 ·
  decide
 ·
  split
  ·
   decide
  ·
   split
   ·
    decide
   ·
    split <;> decide
def lineA (c : Co) (i : Nat) : Tx := [112, 111, 105, 110, 116, 32] ++ sgn c.2.1 ++ [32, 109, 97, 115, 107, 32] ++ sgn c.2.2.1 ++ [32, 107, 105, 110, 100, 32] ++ sgn c.2.2.2.2.1 ++ [32, 99, 111, 100, 101, 32] ++ sgn c.2.2.2.2.2 ++ [32, 105, 110, 112, 117, 116] ++ (c.1.take i).flatMap (fun b => [32] ++ dgs b.toNat)
def lineB (c : Co) (i : Nat) : Tx := lineA c c.1.length ++ [32, 105, 109, 97, 103, 101] ++ (c.2.2.2.1.take i).flatMap (fun x => [32] ++ dgs x)
def lineT (c : Co) : Tx := lineB c c.2.2.2.1.length ++ [10]
def hdX (V E S U : Int) : Tx := nameT V ++ (if V = 0 then [32] ++ sgn E else []) ++ [32] ++ sgn S ++ [32] ++ sgn U ++ [10]
def textR (V E S U : Int) (l : List Co) : Tx := hdX V E S U ++ l.flatMap lineT
def textP (V E S U : Int) (l : List T6) (j : Nat) : Tx := hdX V E S U ++ ((l.take j).map core).flatMap lineT
theorem textP_0 (V E S U : Int) (l : List T6) : textP V E S U l 0 = hdX V E S U := by simp [textP]
theorem textP_step {V E S U : Int} {l : List T6} {j : Nat} (h : j < l.length) : textP V E S U l (j + 1) = textP V E S U l j ++ lineT (core (tq l j)) := by
 unfold textP
 rw [take_snoc core l h, List.flatMap_append]; simp
theorem textP_all (V E S U : Int) (l : List T6) : textP V E S U l l.length = textR V E S U (cores l) := by
 unfold textP textR; rw [List.take_length]; rfl
theorem sgn_le {n : Int} (h : b64 n) : (sgn n).length ≤ 21 := by
 unfold sgn b64 at *
 split
 ·
  have := @dgs_20 (-n).toNat (by omega)
  simp only [List.length_append, List.length_cons, List.length_nil]; omega
 ·
  have := @dgs_20 n.toNat (by omega)
  omega
theorem flat_le {α : Type} {f : α → Tx} {k : Nat} {l : List α} (h : ∀ x, x ∈ l → (f x).length ≤ k) : (l.flatMap f).length ≤ k * l.length := by
 induction l with
 | nil => simp
 | cons x l ih =>
  have h1 := h x (by simp)
  have h2 := ih (fun t ht => h t (by simp [ht]))
  rw [List.flatMap_cons, List.length_append, List.length_cons, Nat.mul_succ]; omega
theorem take_le {α : Type} (l : List α) (i : Nat) : (l.take i).length ≤ l.length := by rw [List.length_take]; exact Nat.min_le_right _ _
theorem lineA_le {t : T6} (h : wfT t) (hi : t.inp.length ≤ 300) (i : Nat) : (lineA (core t) i).length ≤ 6430 := by
 obtain ⟨h1, h2, h3, h4, h5⟩ := h
 have a1 := sgn_le h1
 have a2 := sgn_le h2
 have a3 := sgn_le h3
 have a4 := sgn_le h4
 have a5 := flat_le (l := t.inp.take i) (f := fun b => [32] ++ dgs b.toNat) (k := 21) (fun x _ => by
  have := @dgs_20 x.toNat (by have := x.toNat_lt; omega)
  simp only [List.length_append, List.length_cons, List.length_nil]; omega)
 have a6 := take_le t.inp i
 unfold lineA core
 simp only [List.length_append, List.length_cons, List.length_nil]
 omega
theorem lineB_le {t : T6} (h : wfT t) (hi : t.inp.length ≤ 300) (hg : t.img.length ≤ 300) (i : Nat) : (lineB (core t) i).length ≤ 12740 := by
 have a1 := lineA_le h hi t.inp.length
 obtain ⟨h1, h2, h3, h4, h5⟩ := h
 have a5 := flat_le (l := t.img.take i) (f := fun x => [32] ++ dgs x) (k := 21) (fun x hx => by
  have := @dgs_20 x (h5 x (List.mem_of_mem_take hx))
  simp only [List.length_append, List.length_cons, List.length_nil]; omega)
 have a6 := take_le t.img i
 unfold lineB
 simp only [List.length_append, List.length_cons, List.length_nil]
 simp only [core] at a1 ⊢
 omega
theorem lineT_le {t : T6} (h : wfT t) (hi : t.inp.length ≤ 300) (hg : t.img.length ≤ 300) : (lineT (core t)).length ≤ 12741 := by
 have a1 := lineB_le h hi hg (core t).2.2.2.1.length
 unfold lineT
 rw [List.length_append]; simp only [List.length_cons, List.length_nil]; omega
theorem img_ltT {t : T6} (h : wfT t) {i : Nat} (hi : i < t.img.length) : t.img.getD i 0 < 18446744073709551616 := by
 refine h.2.2.2.2 _ ?_
 rw [List.getD_eq_getElem?_getD, List.getElem?_eq_getElem hi]; exact List.getElem_mem hi
/-! the program's line, as a row of words -/
def lineL (c : Co) (i : Nat) : List Tx := [[112, 111, 105, 110, 116], sgn c.2.1, [109, 97, 115, 107], sgn c.2.2.1, [107, 105, 110, 100], sgn c.2.2.2.2.1, [99, 111, 100, 101], sgn c.2.2.2.2.2, [105, 110, 112, 117, 116]] ++ (c.1.take i).map (fun b => dgs b.toNat)
def lineM (c : Co) (i : Nat) : List Tx := lineL c c.1.length ++ [[105, 109, 97, 103, 101]] ++ (c.2.2.2.1.take i).map dgs
theorem lineL_step {c : Co} {i : Nat} (h : i < c.1.length) : lineL c (i + 1) = lineL c i ++ [dgs (c.1.getD i 0).toNat] := by
 unfold lineL
 rw [List.take_succ_eq_append_getElem h, List.map_append, List.getD_eq_getElem?_getD, List.getElem?_eq_getElem h]; simp
theorem lineM_step {c : Co} {i : Nat} (h : i < c.2.2.2.1.length) : lineM c (i + 1) = lineM c i ++ [dgs (c.2.2.2.1.getD i 0)] := by
 unfold lineM
 rw [List.take_succ_eq_append_getElem h, List.map_append, List.getD_eq_getElem?_getD, List.getElem?_eq_getElem h]; simp
theorem lineL_len {c : Co} {i : Nat} (h : i ≤ c.1.length) : (lineL c i).length = 9 + i := by
 unfold lineL; simp only [List.length_append, List.length_cons, List.length_nil, List.length_map, List.length_take]; omega
theorem lineM_len {c : Co} {i : Nat} (h : i ≤ c.2.2.2.1.length) : (lineM c i).length = 10 + c.1.length + i := by
 unfold lineM; simp only [List.length_append, List.length_cons, List.length_nil, List.length_map, List.length_take, lineL_len (Nat.le_refl _)]; omega
theorem line_join (c : Co) : joinT [32] (lineM c c.2.2.2.1.length) ++ [10] = lineT c := by
 unfold lineM lineL lineT lineB lineA joinT
 simp [List.flatMap_append, List.flatMap_map]
theorem joinT_len : ∀ (L : List Tx), (joinT [32] L).length ≤ L.length + sumL L
 | [] => by simp [joinT]
 | x :: xs => by
  have h : (xs.flatMap (fun y => [32] ++ y)).length = xs.length + sumL xs := by
   induction xs with
   | nil => rfl
   | cons y ys ih => rw [List.flatMap_cons, List.length_append, ih]; simp [sumL]; omega
  unfold joinT
  rw [List.length_append, h]; simp [sumL]; omega
theorem sumL_le {L : List Tx} {k : Nat} (h : ∀ x, x ∈ L → x.length ≤ k) : sumL L ≤ k * L.length := by
 induction L with
 | nil => simp [sumL]
 | cons x l ih =>
  have h1 := h x (by simp)
  have h2 := ih (fun t ht => h t (by simp [ht]))
  rw [List.length_cons, Nat.mul_succ]; simp only [sumL, List.map_cons, List.sum_cons] at h2 ⊢; omega
theorem lineM_sum {t : T6} (h : wfT t) (i : Nat) : sumL (lineM (core t) i) ≤ 21 * (lineM (core t) i).length := by
 obtain ⟨h1, h2, h3, h4, h5⟩ := h
 refine sumL_le fun x hx => ?_
 unfold lineM lineL core at hx
 simp only [List.mem_append, List.mem_cons, List.mem_map, List.not_mem_nil, or_false] at hx
 rcases hx with ((((q | q | q | q | q | q | q | q | q) | ⟨b, _, q⟩) | q) | ⟨b, hb, q⟩)
 ·
  rw [q]; decide
 ·
  rw [q]; exact sgn_le h1
 ·
  rw [q]; decide
 ·
  rw [q]; exact sgn_le h2
 ·
  rw [q]; decide
 ·
  rw [q]; exact sgn_le h3
 ·
  rw [q]; decide
 ·
  rw [q]; exact sgn_le h4
 ·
  rw [q]; decide
 ·
  have := @dgs_20 b.toNat (by have := b.toNat_lt; omega)
  rw [← q]; omega
 ·
  rw [q]; decide
 ·
  have := @dgs_20 b (h5 b (List.mem_of_mem_take hb))
  rw [← q]; omega
theorem join_okN (L : List Tx) (n : Nat) (A : Option Addr) (cA : Nat) (w : World) (hO : Own w 0 9 1 (.slice A n cA) n (txs L)) (hl : L.length = n) (hn : n ≤ 1000000) (hs : sumL L ≤ 1000000000) : Ret Try.prog 25 [.slice A n cA, .string (bsT ([32]))] w fun v w' => v = .string (bsT (joinT [32] L)) ∧ Tch N0 w w' := by
  subst hl
  exact join_ok L A cA w hO.rdS (by rcases hO with ⟨_, ⟨hv, hn⟩ | ⟨b, cap, cur, hv, _, _, hn, _⟩⟩
                                    · omega
                                    · injection hv with _ _ q; omega) hn hs

set_option maxRecDepth 100000 in
theorem name22_0 (w : World) : Ret Try.prog 22 [.int .i64 0] w fun v w' => v = .string (bsT (nameT 0)) ∧ Tch N0 w w' := by
 refine enter Try.func22 rfl rfl ?_
 refine zQ ?_
 refine zS [(2, .string (bsT ([])))] ?_
 refine op_nil ?_
 refine W_seq ?_
 refine zQ ?_
 refine zS [(3, .int .i64 0), (4, .bool false), (5, .bool false), (6, .int .i64 0), (7, .bool false), (8, .bool false)] ?_
 refine zO false (fun h => nomatch h) (fun _ => ?_)
 refine W_skip ?_
 refine zQ ?_
 refine zS [(9, .agg #[.string (bsT ([114, 101, 106, 101, 99, 116, 101, 100])), .string (bsT ([99, 108, 101, 97, 110])), .string (bsT ([118, 105, 111, 108, 97, 116, 105, 111, 110])), .string (bsT ([105, 110, 99, 111, 109, 112, 108, 101, 116, 101]))]), (10, .int .i64 0), (11, .string (bsT ([114, 101, 106, 101, 99, 116, 101, 100]))), (2, .string (bsT ([114, 101, 106, 101, 99, 116, 101, 100])))] ?_
 refine op_nil ?_
 refine W_ret ?_
 exact ⟨_, Res_of (v := .string (bsT ([114, 101, 106, 101, 99, 116, 101, 100]))) (by kernel_rfl), ⟨rfl, Tch.refl _ _⟩⟩

set_option maxRecDepth 100000 in
theorem name22_1 (w : World) : Ret Try.prog 22 [.int .i64 1] w fun v w' => v = .string (bsT (nameT 1)) ∧ Tch N0 w w' := by
 refine enter Try.func22 rfl rfl ?_
 refine zQ ?_
 refine zS [(2, .string (bsT ([])))] ?_
 refine op_nil ?_
 refine W_seq ?_
 refine zQ ?_
 refine zS [(3, .int .i64 1), (4, .bool false), (5, .bool false), (6, .int .i64 1), (7, .bool false), (8, .bool false)] ?_
 refine zO false (fun h => nomatch h) (fun _ => ?_)
 refine W_skip ?_
 refine zQ ?_
 refine zS [(9, .agg #[.string (bsT ([114, 101, 106, 101, 99, 116, 101, 100])), .string (bsT ([99, 108, 101, 97, 110])), .string (bsT ([118, 105, 111, 108, 97, 116, 105, 111, 110])), .string (bsT ([105, 110, 99, 111, 109, 112, 108, 101, 116, 101]))]), (10, .int .i64 1), (11, .string (bsT ([99, 108, 101, 97, 110]))), (2, .string (bsT ([99, 108, 101, 97, 110])))] ?_
 refine op_nil ?_
 refine W_ret ?_
 exact ⟨_, Res_of (v := .string (bsT ([99, 108, 101, 97, 110]))) (by kernel_rfl), ⟨rfl, Tch.refl _ _⟩⟩

set_option maxRecDepth 100000 in
theorem name22_2 (w : World) : Ret Try.prog 22 [.int .i64 2] w fun v w' => v = .string (bsT (nameT 2)) ∧ Tch N0 w w' := by
 refine enter Try.func22 rfl rfl ?_
 refine zQ ?_
 refine zS [(2, .string (bsT ([])))] ?_
 refine op_nil ?_
 refine W_seq ?_
 refine zQ ?_
 refine zS [(3, .int .i64 2), (4, .bool false), (5, .bool false), (6, .int .i64 2), (7, .bool false), (8, .bool false)] ?_
 refine zO false (fun h => nomatch h) (fun _ => ?_)
 refine W_skip ?_
 refine zQ ?_
 refine zS [(9, .agg #[.string (bsT ([114, 101, 106, 101, 99, 116, 101, 100])), .string (bsT ([99, 108, 101, 97, 110])), .string (bsT ([118, 105, 111, 108, 97, 116, 105, 111, 110])), .string (bsT ([105, 110, 99, 111, 109, 112, 108, 101, 116, 101]))]), (10, .int .i64 2), (11, .string (bsT ([118, 105, 111, 108, 97, 116, 105, 111, 110]))), (2, .string (bsT ([118, 105, 111, 108, 97, 116, 105, 111, 110])))] ?_
 refine op_nil ?_
 refine W_ret ?_
 exact ⟨_, Res_of (v := .string (bsT ([118, 105, 111, 108, 97, 116, 105, 111, 110]))) (by kernel_rfl), ⟨rfl, Tch.refl _ _⟩⟩

set_option maxRecDepth 100000 in
theorem name22_3 (w : World) : Ret Try.prog 22 [.int .i64 3] w fun v w' => v = .string (bsT (nameT 3)) ∧ Tch N0 w w' := by
 refine enter Try.func22 rfl rfl ?_
 refine zQ ?_
 refine zS [(2, .string (bsT ([])))] ?_
 refine op_nil ?_
 refine W_seq ?_
 refine zQ ?_
 refine zS [(3, .int .i64 3), (4, .bool false), (5, .bool false), (6, .int .i64 3), (7, .bool false), (8, .bool false)] ?_
 refine zO false (fun h => nomatch h) (fun _ => ?_)
 refine W_skip ?_
 refine zQ ?_
 refine zS [(9, .agg #[.string (bsT ([114, 101, 106, 101, 99, 116, 101, 100])), .string (bsT ([99, 108, 101, 97, 110])), .string (bsT ([118, 105, 111, 108, 97, 116, 105, 111, 110])), .string (bsT ([105, 110, 99, 111, 109, 112, 108, 101, 116, 101]))]), (10, .int .i64 3), (11, .string (bsT ([105, 110, 99, 111, 109, 112, 108, 101, 116, 101]))), (2, .string (bsT ([105, 110, 99, 111, 109, 112, 108, 101, 116, 101])))] ?_
 refine op_nil ?_
 refine W_ret ?_
 exact ⟨_, Res_of (v := .string (bsT ([105, 110, 99, 111, 109, 112, 108, 101, 116, 101]))) (by kernel_rfl), ⟨rfl, Tch.refl _ _⟩⟩

set_option maxRecDepth 100000 in
theorem name22_x (V : Int) (w : World) (hV : V < 0 ∨ 3 < V) : Ret Try.prog 22 [.int .i64 V] w fun v w' => v = .string (bsT (nameT V)) ∧ Tch N0 w w' := by
 refine enter Try.func22 rfl rfl ?_
 refine zQ ?_
 refine zS [(2, .string (bsT ([])))] ?_
 refine op_nil ?_
 refine W_seq ?_
 refine zQ ?_
 refine zS [(3, .int .i64 V), (4, .bool (decide (V < 0))), (5, .bool (decide (V < 0)))] ?_
 cases hb1 : decide (V < 0)
 ·
  replace hb1 : 0 ≤ V := (Int.not_lt.1 (of_decide_eq_false hb1))
  refine zS [(6, .int .i64 V), (7, .bool (decide (V > 3))), (8, .bool (decide (V > 3)))] ?_
  refine zO (decide (V > 3)) (fun hc2 => ?_) (fun hc2 => ?_)
  ·
   replace hc2 : 3 < V := (of_decide_eq_true hc2)
   refine zQ ?_
   refine zS [(2, .string (bsT ([117, 110, 107, 110, 111, 119, 110])))] ?_
   refine op_nil ?_
   refine W_ret ?_
   exact ⟨_, Res_of (v := .string (bsT ([117, 110, 107, 110, 111, 119, 110]))) (by kernel_rfl), ⟨by unfold nameT; rw [if_neg (by omega), if_neg (by omega), if_neg (by omega), if_neg (by omega)], Tch.refl _ _⟩⟩
  ·
   replace hc2 : V ≤ 3 := (Int.not_lt.1 (of_decide_eq_false hc2))
   exfalso; omega
 ·
  replace hb1 : V < 0 := (of_decide_eq_true hb1)
  refine zS [(6, undef), (7, undef), (8, .bool true)] ?_
  refine zO true (fun _ => ?_) (fun h => nomatch h)
  refine zQ ?_
  refine zS [(2, .string (bsT ([117, 110, 107, 110, 111, 119, 110])))] ?_
  refine op_nil ?_
  refine W_ret ?_
  exact ⟨_, Res_of (v := .string (bsT ([117, 110, 107, 110, 111, 119, 110]))) (by kernel_rfl), ⟨by unfold nameT; rw [if_neg (by omega), if_neg (by omega), if_neg (by omega), if_neg (by omega)], Tch.refl _ _⟩⟩

theorem name22_ok (V : Int) (w : World) : Ret Try.prog 22 [.int .i64 V] w fun v w' => v = .string (bsT (nameT V)) ∧ Tch N0 w w' := by
 by_cases h0 : V = 0
 ·
  subst h0; exact name22_0 w
 by_cases h1 : V = 1
 ·
  subst h1; exact name22_1 w
 by_cases h2 : V = 2
 ·
  subst h2; exact name22_2 w
 by_cases h3 : V = 3
 ·
  subst h3; exact name22_3 w
 exact name22_x V w (by omega)

set_option maxRecDepth 100000 in
set_option maxHeartbeats 2000000 in
theorem line_ok (t : T6) (w : World) (hW : TmW w t) (hi3 : t.inp.length ≤ 300) (hg3 : t.img.length ≤ 300) : Ret Try.prog 26 [.agg #[.slice t.iA t.inp.length t.iC, .int .i64 t.pt, .int .i64 t.ms, .slice t.gA t.img.length t.gC, .int .i64 t.kd, .int .i64 t.cd]] w fun v w' => v = .string (bsT (lineT (core t))) ∧ Tch N0 w w' := by
 have hci : (core t).1.length = t.inp.length := rfl
 have hcg : (core t).2.2.2.1.length = t.img.length := rfl
 have hwf := hW.wf
 obtain ⟨hw1, hw2, hw3, hw4, hw5⟩ := hwf
 unfold b64 at hw1 hw2 hw3 hw4
 refine enter Try.func26 rfl rfl ?_
 refine zQ ?_
 refine st (by rfl) (S_new (v := .pointer (some ⟨w.heap.size, 0, none⟩)) (ob := .cells #[.slice t.iA t.inp.length t.iC, .int .i64 t.pt, .int .i64 t.ms, .slice t.gA t.img.length t.gC, .int .i64 t.kd, .int .i64 t.cd] 43) (by kernel_rfl) fun w1 hT2 hs3 hB4 => ?_)
 replace hB4 : Blk w1 (w.heap.size) 43 [.slice t.iA t.inp.length t.iC, .int .i64 t.pt, .int .i64 t.ms, .slice t.gA t.img.length t.gC, .int .i64 t.kd, .int .i64 t.cd] := hB4
 have hT0 := hT2
 refine zS [(2, .string (bsT ([])))] ?_
 refine op_nil ?_
 refine W_seq ?_
 refine W_draw (fun w' => Blk w' (w.heap.size) 43 [.slice t.iA t.inp.length t.iC, .int .i64 t.pt, .int .i64 t.ms, .slice t.gA t.img.length t.gC, .int .i64 t.kd, .int .i64 t.cd]) (by kernel_rfl) (by kernel_rfl) (by kernel_rfl) fun w5 hT6 hh7 => ?_
 have hT0 := hT0.t0 hT6
 have hB4 := hB4.tch0 hT6
 refine zK [0, 3, 6, 9] #[true, false, false, true, false, false, true, false, false, true, false, false, false, false] [(8, .pointer (some ⟨w.heap.size, 1, none⟩)), (11, .pointer (some ⟨w.heap.size, 2, none⟩)), (14, .pointer (some ⟨w.heap.size, 4, none⟩)), (17, .pointer (some ⟨w.heap.size, 5, none⟩))] hB4 ?_
 refine zV 1 rfl (.int .i64 t.pt) (fun _ hB4 => R_load (v := .int .i64 t.pt) (by kernel_rfl) (by kernel_rfl) ((hB4.cell 1).trans rfl)) hB4 ?_
 refine zV 4 rfl (.int .i64 t.ms) (fun _ hB4 => R_load (v := .int .i64 t.ms) (by kernel_rfl) (by kernel_rfl) ((hB4.cell 2).trans rfl)) hB4 ?_
 refine zV 7 rfl (.int .i64 t.kd) (fun _ hB4 => R_load (v := .int .i64 t.kd) (by kernel_rfl) (by kernel_rfl) ((hB4.cell 4).trans rfl)) hB4 ?_
 refine zV 10 rfl (.int .i64 t.cd) (fun _ hB4 => R_load (v := .int .i64 t.cd) (by kernel_rfl) (by kernel_rfl) ((hB4.cell 5).trans rfl)) hB4 ?_
 refine zD 2 rfl (S_call (args := [.int .i64 t.pt]) (by kernel_rfl) (signed_ok t.pt _ (by omega) (by omega)) ?_)
 rintro _ w8 ⟨rfl, hT9⟩
 have hT0 := hT0.t0 hT9
 have hB4 := hB4.tch0 hT9
 refine ⟨hB4, ?_⟩
 refine zD 5 rfl (S_call (args := [.int .i64 t.ms]) (by kernel_rfl) (signed_ok t.ms _ (by omega) (by omega)) ?_)
 rintro _ w10 ⟨rfl, hT11⟩
 have hT0 := hT0.t0 hT11
 have hB4 := hB4.tch0 hT11
 refine ⟨hB4, ?_⟩
 refine zD 8 rfl (S_call (args := [.int .i64 t.kd]) (by kernel_rfl) (signed_ok t.kd _ (by omega) (by omega)) ?_)
 rintro _ w12 ⟨rfl, hT13⟩
 have hT0 := hT0.t0 hT13
 have hB4 := hB4.tch0 hT13
 refine ⟨hB4, ?_⟩
 refine zD 11 rfl (S_call (args := [.int .i64 t.cd]) (by kernel_rfl) (signed_ok t.cd _ (by omega) (by omega)) ?_)
 rintro _ w14 ⟨rfl, hT15⟩
 have hT0 := hT0.t0 hT15
 have hB4 := hB4.tch0 hT15
 refine ⟨hB4, ?_⟩
 have hz20 := hT0.size
 have lt21 := hB4.lt
 refine zD 12 rfl (S_new (v := .slice (some ⟨w14.heap.size, 0, none⟩) 9 9) (ob := .cells #[.string (bsT ([112, 111, 105, 110, 116])), .string (bsT (sgn t.pt)), .string (bsT ([109, 97, 115, 107])), .string (bsT (sgn t.ms)), .string (bsT ([107, 105, 110, 100])), .string (bsT (sgn t.kd)), .string (bsT ([99, 111, 100, 101])), .string (bsT (sgn t.cd)), .string (bsT ([105, 110, 112, 117, 116]))] 9) (by kernel_rfl) fun w16 hT17 hs18 hB19 => ?_)
 replace hB19 : Blk w16 (w14.heap.size) 9 [.string (bsT ([112, 111, 105, 110, 116])), .string (bsT (sgn t.pt)), .string (bsT ([109, 97, 115, 107])), .string (bsT (sgn t.ms)), .string (bsT ([107, 105, 110, 100])), .string (bsT (sgn t.kd)), .string (bsT ([99, 111, 100, 101])), .string (bsT (sgn t.cd)), .string (bsT ([105, 110, 112, 117, 116]))] := hB19
 have hT0 := hT0.t0 hT17
 have hB4 := hB4.tch0 hT17
 refine ⟨hB4, ?_⟩
 refine zK [13] #[true, true, true, true, true, true, true, true, true, true, true, true, true, true] [(3, .slice (some ⟨w14.heap.size, 0, none⟩) 9 9)] hB4 ?_
 refine d_done (by kernel_rfl) ?_
 refine W_seq ?_
 refine W_seq ?_
 refine zF [(0, .agg #[.slice t.iA t.inp.length t.iC, .int .i64 t.pt, .int .i64 t.ms, .slice t.gA t.img.length t.gC, .int .i64 t.kd, .int .i64 t.cd]), (1, .pointer (some ⟨w.heap.size, 0, none⟩)), (2, .string (bsT ([]))), (3, .slice (some ⟨w14.heap.size, 0, none⟩) 9 9)] fun ρ => ?_
 have hz_ := hT0.size
 have hO : Own w16 0 9 1 (.slice (some ⟨w14.heap.size, 0, none⟩) 9 9) 9 (txs ([[112, 111, 105, 110, 116], sgn t.pt, [109, 97, 115, 107], sgn t.ms, [107, 105, 110, 100], sgn t.kd, [99, 111, 100, 101], sgn t.cd, [105, 110, 112, 117, 116]])) := hB19.own (base := 0) (sz := 1) (n := 9) (Nat.zero_le _) rfl (by decide)
 have nB_hO : ∀ c, (Value.slice (some ⟨w14.heap.size, 0, none⟩) 9 9).ownBlock = some c → w.heap.size ≤ c := fun c hc => by have e : w14.heap.size = c := Option.some.inj hc; omega
 refine zR ?_
 refine zS [(21, .pointer (some ⟨w.heap.size, 0, none⟩))] ?_
 refine zL (.slice t.iA t.inp.length t.iC) ((hB4.cell 0).trans rfl) ?_
 refine zS [(23, .int .i64 (t.inp.length : Int)), (24, .int .i64 0)] ?_
 refine op_nil ?_
 refine W_block ?_
 refine W_loop (fun m ρ w' => ∃ (B : Option Addr) (nj cb j : Nat) (ρ0 : Env), ρ = updL ρ0 [(1, .pointer (some ⟨w.heap.size, 0, none⟩)), (3, .slice B nj cb), (22, .slice t.iA t.inp.length t.iC), (23, .int .i64 (t.inp.length : Int)), (24, .int .i64 ((j : Nat) : Int))] ∧ (j ≤ t.inp.length) ∧ (nj = 9 + j) ∧ (∀ c, (Value.slice B nj cb).ownBlock = some c → w.heap.size ≤ c) ∧ Tch N0 w w' ∧ Blk w' (w.heap.size) 43 [.slice t.iA t.inp.length t.iC, .int .i64 t.pt, .int .i64 t.ms, .slice t.gA t.img.length t.gC, .int .i64 t.kd, .int .i64 t.cd] ∧ Own w' 0 9 1 (.slice B nj cb) nj (txs (lineL (core t) j)) ∧ m = t.inp.length + 1 - j) (m := t.inp.length + 1 - 0) ?_ ?_
 ·
  refine ⟨some ⟨w14.heap.size, 0, none⟩, 9, 9, 0, _, updL_self (by kernel_rfl), by omega, by omega, nB_hO, hT0, hB4, (by rw [show lineL (core t) 0 = [[112, 111, 105, 110, 116], sgn t.pt, [109, 97, 115, 107], sgn t.ms, [107, 105, 110, 100], sgn t.kd, [99, 111, 100, 101], sgn t.cd, [105, 110, 112, 117, 116]] from rfl]; exact hO), rfl⟩
 ·
  rintro m ρ w22 ⟨B, nj, cb, j, ρ, rfl, hj, hnj, nB_hO, hT0, hB4, hO, rfl⟩
  refine zQ ?_
  refine zS [(25, .bool (decide (((j : Nat) : Int) < (t.inp.length : Int))))] ?_
  refine op_nil ?_
  refine W_seq ?_
  refine zW (decide (((j : Nat) : Int) < (t.inp.length : Int))) (fun hc23 => ?_) (fun hc23 => ?_)
  ·
   replace hc23 : ((j : Nat) : Int) < (t.inp.length : Int) := (of_decide_eq_true hc23)
   refine W_skip ?_
   refine W_seq ?_
   refine W_block ?_
   refine zQ ?_
   refine stv (v := ptrAt t.iA j) (by rfl) (R_indexRd1 (len := t.inp.length) (cap := t.iC) (k := .i64) (i := ((j : Nat) : Int)) (e := 5) j (hW.ri.tch0 hT0) (by kernel_rfl) (by kernel_rfl) (by kernel_rfl) (by kernel_rfl) rfl (by omega)) ?_
   refine stv (v := .int .u8 (((t.inp.getD j 0).toNat : Nat) : Int)) (by rfl) (R_loadRd (v := .int .u8 (((t.inp.getD j 0).toNat : Nat) : Int)) (hW.ri.tch0 hT0) (by omega) (by kernel_rfl) (by kernel_rfl) (u8s_at (by omega))) ?_
   refine zS [(5, .int .u8 (((t.inp.getD j 0).toNat : Nat) : Int))] ?_
   refine op_nil ?_
   have hb8 := (t.inp.getD j 0).toNat_lt
   refine zR ?_
   refine zS [(28, .slice B nj cb), (29, .int .u8 (((t.inp.getD j 0).toNat : Nat) : Int)), (30, .int .u64 (IntKind.u64.wrap (((t.inp.getD j 0).toNat : Nat) : Int)))] ?_
   rw [show IntKind.u64.wrap (((t.inp.getD j 0).toNat : Nat) : Int) = (((t.inp.getD j 0).toNat : Nat) : Int) from wrap_u64 (by omega) (by omega)]
   refine zC (digits_ok ((t.inp.getD j 0).toNat) _ (by omega)) ?_
   rintro _ w24 ⟨rfl, hT25⟩
   have hT0 := hT0.t0 hT25
   have hB4 := hB4.tch0 hT25
   have hO := hO.tch0 hT25
   have hz30 := hT0.size
   have lt31 := hB4.lt
   have lR_hO := hO.lt
   refine st (by rfl) (S_new (v := .slice (some ⟨w24.heap.size, 0, none⟩) 1 1) (ob := .cells #[.string (bsT (dgs ((t.inp.getD j 0).toNat)))] 9) (by kernel_rfl) fun w26 hT27 hs28 hB29 => ?_)
   replace hB29 : Blk w26 (w24.heap.size) 9 [.string (bsT (dgs ((t.inp.getD j 0).toNat)))] := hB29
   have hT0 := hT0.t0 hT27
   have hB4 := hB4.tch0 hT27
   have hO := hO.tch0 hT27
   have hz_ := hT0.size
   have lt_hB4 := hB4.lt
   have lt_hB29 := hB29.lt
   refine st (by rfl) (S_appendR 52 9 (.string (bsT [])) 1 16 (n := nj) (m := 1) (A := B) (cp := cb) (cells := txs (lineL (core t) j)) (news := [.string (bsT (dgs ((t.inp.getD j 0).toNat)))]) (b := w24.heap.size) (off := 0) (c := 1) (by kernel_rfl) (by kernel_rfl) (by decide) (by kernel_rfl) (by kernel_rfl) (by kernel_rfl) hO (by rfl) (fun k u hk => by rw [Nat.zero_add, hB29.cell]; exact hk) (by simp [oneV]) (by simp only [maxLen]; omega) (by omega) fun A32 c32 w32 hO32 hw32 hT32 => ?_)
   have hT0 := (hT0).then hT32 nB_hO
   have hB4 := hB4.tch hT32 (fun e => hO.blk_ne hB4 (by decide) _ e rfl)
   have hO : Own w32 0 9 1 (.slice A32 (nj + 1) c32) (nj + 1) (txs (lineL (core t) j ++ [dgs ((t.inp.getD j 0).toNat)])) := by rw [txs_app]; exact hO32
   have nB_hO : ∀ c, (Value.slice A32 (nj + 1) c32).ownBlock = some c → w.heap.size ≤ c := fun c hc => (hw32 c hc).elim (nB_hO c) (fun q => by omega)
   refine zS [(3, .slice A32 (nj + 1) c32)] ?_
   refine op_nil ?_
   refine zF [(1, .pointer (some ⟨w.heap.size, 0, none⟩)), (3, .slice A32 (nj + 1) c32), (5, .int .u8 (((t.inp.getD j 0).toNat : Nat) : Int)), (22, .slice t.iA t.inp.length t.iC), (23, .int .i64 (t.inp.length : Int)), (24, .int .i64 ((j : Nat) : Int)), (25, .bool (decide (((j : Nat) : Int) < (t.inp.length : Int))))] fun ρ => ?_
   refine zR ?_
   refine zS [(34, .int .i64 (IntKind.i64.wrap (((j : Nat) : Int) + 1)))] ?_
   rw [show IntKind.i64.wrap (((j : Nat) : Int) + 1) = ((j : Nat) : Int) + 1 from wrap_i64 (by omega) (by omega)]
   refine fixR (y := ((j + 1 : Nat) : Int)) (by omega) ?_
   refine zS [(24, .int .i64 ((j + 1 : Nat) : Int))] ?_
   refine op_nil ?_
   refine ⟨_, (by omega), A32, nj + 1, c32, j + 1, _, updL_self (by kernel_rfl), (by omega), (by omega), nB_hO, hT0, hB4, (by rw [lineL_step (by omega)]; exact hO), rfl⟩
  ·
   replace hc23 : (t.inp.length : Int) ≤ ((j : Nat) : Int) := (Int.not_lt.1 (of_decide_eq_false hc23))
   refine W_exit ?_
   refine X_hit ?_
   refine zQ ?_
   refine zS [(35, .slice B nj cb)] ?_
   have hz37 := hT0.size
   have lt38 := hB4.lt
   have lR_hO := hO.lt
   refine st (by rfl) (S_new (v := .slice (some ⟨w22.heap.size, 0, none⟩) 1 1) (ob := .cells #[.string (bsT ([105, 109, 97, 103, 101]))] 9) (by kernel_rfl) fun w33 hT34 hs35 hB36 => ?_)
   replace hB36 : Blk w33 (w22.heap.size) 9 [.string (bsT ([105, 109, 97, 103, 101]))] := hB36
   have hT0 := hT0.t0 hT34
   have hB4 := hB4.tch0 hT34
   have hO := hO.tch0 hT34
   have hz_ := hT0.size
   have lt_hB4 := hB4.lt
   have lt_hB36 := hB36.lt
   refine st (by rfl) (S_appendR 52 9 (.string (bsT [])) 1 16 (n := nj) (m := 1) (A := B) (cp := cb) (cells := txs (lineL (core t) j)) (news := [.string (bsT ([105, 109, 97, 103, 101]))]) (b := w22.heap.size) (off := 0) (c := 1) (by kernel_rfl) (by kernel_rfl) (by decide) (by kernel_rfl) (by kernel_rfl) (by kernel_rfl) hO (by rfl) (fun k u hk => by rw [Nat.zero_add, hB36.cell]; exact hk) (by simp [oneV]) (by simp only [maxLen]; omega) (by omega) fun A39 c39 w39 hO39 hw39 hT39 => ?_)
   have hT0 := (hT0).then hT39 nB_hO
   have hB4 := hB4.tch hT39 (fun e => hO.blk_ne hB4 (by decide) _ e rfl)
   have hO : Own w39 0 9 1 (.slice A39 (nj + 1) c39) (nj + 1) (txs (lineL (core t) j ++ [[105, 109, 97, 103, 101]])) := by rw [txs_app]; exact hO39
   have nB_hO : ∀ c, (Value.slice A39 (nj + 1) c39).ownBlock = some c → w.heap.size ≤ c := fun c hc => (hw39 c hc).elim (nB_hO c) (fun q => by omega)
   refine zS [(3, .slice A39 (nj + 1) c39)] ?_
   refine op_nil ?_
   refine W_seq ?_
   refine zQ ?_
   refine zS [(38, .pointer (some ⟨w.heap.size, 3, none⟩))] ?_
   refine zL (.slice t.gA t.img.length t.gC) ((hB4.cell 3).trans rfl) ?_
   refine zS [(40, .int .i64 (t.img.length : Int)), (41, .int .i64 0)] ?_
   refine op_nil ?_
   refine W_block ?_
   refine W_loop (fun m ρ w' => ∃ (C : Option Addr) (ni2 cc i2 : Nat) (ρ0 : Env), ρ = updL ρ0 [(1, .pointer (some ⟨w.heap.size, 0, none⟩)), (3, .slice C ni2 cc), (39, .slice t.gA t.img.length t.gC), (40, .int .i64 (t.img.length : Int)), (41, .int .i64 ((i2 : Nat) : Int))] ∧ (i2 ≤ t.img.length) ∧ (ni2 = 10 + t.inp.length + i2) ∧ (∀ c, (Value.slice C ni2 cc).ownBlock = some c → w.heap.size ≤ c) ∧ Tch N0 w w' ∧ Blk w' (w.heap.size) 43 [.slice t.iA t.inp.length t.iC, .int .i64 t.pt, .int .i64 t.ms, .slice t.gA t.img.length t.gC, .int .i64 t.kd, .int .i64 t.cd] ∧ Own w' 0 9 1 (.slice C ni2 cc) ni2 (txs (lineM (core t) i2)) ∧ m = t.img.length + 1 - i2) (m := t.img.length + 1 - 0) ?_ ?_
   ·
    refine ⟨A39, nj + 1, c39, 0, _, updL_self (by kernel_rfl), by omega, by omega, nB_hO, hT0, hB4, (by rw [show lineM (core t) 0 = lineL (core t) j ++ [[105, 109, 97, 103, 101]] from (by unfold lineM; rw [show (core t).1.length = j from by show t.inp.length = j; omega]; simp)]; exact hO), rfl⟩
   ·
    rintro m ρ w40 ⟨C, ni2, cc, i2, ρ, rfl, hi2, hni2, nB_hO, hT0, hB4, hO, rfl⟩
    refine zQ ?_
    refine zS [(42, .bool (decide (((i2 : Nat) : Int) < (t.img.length : Int))))] ?_
    refine op_nil ?_
    refine W_seq ?_
    refine zW (decide (((i2 : Nat) : Int) < (t.img.length : Int))) (fun hc41 => ?_) (fun hc41 => ?_)
    ·
     replace hc41 : ((i2 : Nat) : Int) < (t.img.length : Int) := (of_decide_eq_true hc41)
     refine W_skip ?_
     refine W_seq ?_
     refine W_block ?_
     refine zQ ?_
     refine stv (v := ptrAt t.gA i2) (by rfl) (R_indexRd1 (len := t.img.length) (cap := t.gC) (k := .i64) (i := ((i2 : Nat) : Int)) (e := 44) i2 (hW.rg.tch0 hT0) (by kernel_rfl) (by kernel_rfl) (by kernel_rfl) (by kernel_rfl) rfl (by omega)) ?_
     refine stv (v := .int .u64 ((t.img.getD i2 0 : Nat) : Int)) (by rfl) (R_loadRd (v := .int .u64 ((t.img.getD i2 0 : Nat) : Int)) (hW.rg.tch0 hT0) (by omega) (by kernel_rfl) (by kernel_rfl) (u64s_at (by omega))) ?_
     refine zS [(7, .int .u64 ((t.img.getD i2 0 : Nat) : Int))] ?_
     refine op_nil ?_
     have hil := img_ltT hW.wf (i := i2) (by omega)
     refine zR ?_
     refine zS [(45, .slice C ni2 cc), (46, .int .u64 ((t.img.getD i2 0 : Nat) : Int))] ?_
     refine zC (digits_ok (t.img.getD i2 0) _ (by omega)) ?_
     rintro _ w42 ⟨rfl, hT43⟩
     have hT0 := hT0.t0 hT43
     have hB4 := hB4.tch0 hT43
     have hO := hO.tch0 hT43
     have hz48 := hT0.size
     have lt49 := hB4.lt
     have lR_hO := hO.lt
     refine st (by rfl) (S_new (v := .slice (some ⟨w42.heap.size, 0, none⟩) 1 1) (ob := .cells #[.string (bsT (dgs (t.img.getD i2 0)))] 9) (by kernel_rfl) fun w44 hT45 hs46 hB47 => ?_)
     replace hB47 : Blk w44 (w42.heap.size) 9 [.string (bsT (dgs (t.img.getD i2 0)))] := hB47
     have hT0 := hT0.t0 hT45
     have hB4 := hB4.tch0 hT45
     have hO := hO.tch0 hT45
     have hz_ := hT0.size
     have lt_hB4 := hB4.lt
     have lt_hB47 := hB47.lt
     refine st (by rfl) (S_appendR 52 9 (.string (bsT [])) 1 16 (n := ni2) (m := 1) (A := C) (cp := cc) (cells := txs (lineM (core t) i2)) (news := [.string (bsT (dgs (t.img.getD i2 0)))]) (b := w42.heap.size) (off := 0) (c := 1) (by kernel_rfl) (by kernel_rfl) (by decide) (by kernel_rfl) (by kernel_rfl) (by kernel_rfl) hO (by rfl) (fun k u hk => by rw [Nat.zero_add, hB47.cell]; exact hk) (by simp [oneV]) (by simp only [maxLen]; omega) (by omega) fun A50 c50 w50 hO50 hw50 hT50 => ?_)
     have hT0 := (hT0).then hT50 nB_hO
     have hB4 := hB4.tch hT50 (fun e => hO.blk_ne hB4 (by decide) _ e rfl)
     have hO : Own w50 0 9 1 (.slice A50 (ni2 + 1) c50) (ni2 + 1) (txs (lineM (core t) i2 ++ [dgs (t.img.getD i2 0)])) := by rw [txs_app]; exact hO50
     have nB_hO : ∀ c, (Value.slice A50 (ni2 + 1) c50).ownBlock = some c → w.heap.size ≤ c := fun c hc => (hw50 c hc).elim (nB_hO c) (fun q => by omega)
     refine zS [(3, .slice A50 (ni2 + 1) c50)] ?_
     refine op_nil ?_
     refine zF [(1, .pointer (some ⟨w.heap.size, 0, none⟩)), (3, .slice A50 (ni2 + 1) c50), (7, .int .u64 ((t.img.getD i2 0 : Nat) : Int)), (39, .slice t.gA t.img.length t.gC), (40, .int .i64 (t.img.length : Int)), (41, .int .i64 ((i2 : Nat) : Int)), (42, .bool (decide (((i2 : Nat) : Int) < (t.img.length : Int))))] fun ρ => ?_
     refine zR ?_
     refine zS [(50, .int .i64 (IntKind.i64.wrap (((i2 : Nat) : Int) + 1)))] ?_
     rw [show IntKind.i64.wrap (((i2 : Nat) : Int) + 1) = ((i2 : Nat) : Int) + 1 from wrap_i64 (by omega) (by omega)]
     refine fixR (y := ((i2 + 1 : Nat) : Int)) (by omega) ?_
     refine zS [(41, .int .i64 ((i2 + 1 : Nat) : Int))] ?_
     refine op_nil ?_
     refine ⟨_, (by omega), A50, ni2 + 1, c50, i2 + 1, _, updL_self (by kernel_rfl), (by omega), (by omega), nB_hO, hT0, hB4, (by rw [lineM_step (by omega)]; exact hO), rfl⟩
    ·
     replace hc41 : (t.img.length : Int) ≤ ((i2 : Nat) : Int) := (Int.not_lt.1 (of_decide_eq_false hc41))
     refine W_exit ?_
     refine X_hit ?_
     refine zQ ?_
     refine zS [(51, .slice C ni2 cc)] ?_
     have hLn : List.length (α := Tx) (lineM (core t) i2) = ni2 := (by rw [lineM_len (by omega)]; omega)
     have hLs : sumL (lineM (core t) i2) ≤ 1000000 := (by have h1 := lineM_sum hW.wf i2; rw [lineM_len (by omega)] at h1; omega)
     have hJl := joinT_len (lineM (core t) i2)
     refine zC (join_okN (lineM (core t) i2) _ _ _ _ hO hLn (by omega) (by omega)) ?_
     rintro _ w51 ⟨rfl, hT52⟩
     have hT0 := hT0.t0 hT52
     have hB4 := hB4.tch0 hT52
     have hO := hO.tch0 hT52
     refine stv (v := .string (bsT ((joinT [32] (lineM (core t) i2)) ++ ([10])))) (by rfl) (R_sadd (a := joinT [32] (lineM (core t) i2)) (b := [10]) (by kernel_rfl) (by kernel_rfl) (by first | omega | (simp only [List.length_append, List.length_cons, List.length_nil]; omega))) ?_
     refine zS [(2, .string (bsT ((joinT [32] (lineM (core t) i2)) ++ ([10]))))] ?_
     refine op_nil ?_
     refine W_ret ?_
     exact ⟨_, Res_of (v := .string (bsT ((joinT [32] (lineM (core t) i2)) ++ ([10])))) (by kernel_rfl), ⟨by rw [← line_join, show (core t).2.2.2.1.length = i2 from by show t.img.length = i2; omega], hT0⟩⟩

end Go.Proofs.YtlkjhkennbdbnaaV

set_option linter.unusedVariables false
set_option linter.unusedSimpArgs false
namespace Go.Proofs.YtlkjhkennbdbnaaV
open Go Go.RowKit Go.Proofs

theorem hdX_t {V E S U : Int} (h : V = 0) : joinT [32] ([nameT V] ++ [sgn E] ++ [sgn S, sgn U]) ++ [10] = hdX V E S U := by
 unfold hdX joinT; rw [if_pos h]; simp
theorem hdX_f {V E S U : Int} (h : V ≠ 0) : joinT [32] ([nameT V] ++ [sgn S, sgn U]) ++ [10] = hdX V E S U := by
 unfold hdX joinT; rw [if_neg h]; simp
theorem hdX_le {V E S U : Int} (hb : b64 E ∧ b64 S ∧ b64 U) : (hdX V E S U).length ≤ 100 := by
 have h1 := nameT_len V
 have h2 := sgn_le hb.1
 have h3 := sgn_le hb.2.1
 have h4 := sgn_le hb.2.2
 unfold hdX
 split <;> (simp only [List.length_append, List.length_cons, List.length_nil]; omega)
theorem textP_leJ {V E S U : Int} {w : World} {A : Option Addr} {l : List T6} (hR : TsW w A l) (hF : fewP l) (hb : b64 E ∧ b64 S ∧ b64 U) (j : Nat) : (textP V E S U l j).length ≤ 100 + 12741 * (l.take j).length := by
 have h1 := hdX_le (V := V) hb
 have h2 := flat_le (l := (l.take j).map core) (f := lineT) (k := 12741) (fun x hx => by
  rw [List.mem_map] at hx
  obtain ⟨t, ht, rfl⟩ := hx
  have hm := List.mem_of_mem_take ht
  exact lineT_le (hR.el t hm).wf (hF.2 t hm).1 (hF.2 t hm).2)
 unfold textP
 rw [List.length_append]; rw [List.length_map] at h2; omega
theorem textP_le {V E S U : Int} {w : World} {A : Option Addr} {l : List T6} (hR : TsW w A l) (hF : fewP l) (hb : b64 E ∧ b64 S ∧ b64 U) (j : Nat) : (textP V E S U l j).length ≤ 1000000 := by
 have h1 := textP_leJ (V := V) hR hF hb j
 have h2 := take_le l j
 have h3 := hF.1
 omega
theorem textP_ne (V E S U : Int) (l : List T6) (j : Nat) : textP V E S U l j ≠ [] := by
 unfold textP hdX
 intro e
 have := congrArg List.length e
 simp at this

set_option maxRecDepth 100000 in
set_option maxHeartbeats 4000000 in
theorem text_ok (V E S U : Int) (A : Option Addr) (c : Nat) (l : List T6) (w : World) (hR : TsW w A l) (hF : fewP l) (hb : b64 E ∧ b64 S ∧ b64 U)  : Ret Try.prog 10 [.agg #[.int .i64 V, .int .i64 E, .slice A l.length c, .int .i64 S, .int .i64 U]] w fun v w' => v = .string (bsT (textR V E S U (cores l))) ∧ Tch N0 w w' := by
 have hXm := hR.rd.2.1
 have hb2 := hb
 unfold b64 at hb2
 refine enter Try.func10 rfl rfl ?_
 refine zQ ?_
 refine st (by rfl) (S_new (v := .pointer (some ⟨w.heap.size, 0, none⟩)) (ob := .cells #[.int .i64 V, .int .i64 E, .slice A l.length c, .int .i64 S, .int .i64 U] 25) (by kernel_rfl) fun w1 hT2 hs3 hB4 => ?_)
 replace hB4 : Blk w1 (w.heap.size) 25 [.int .i64 V, .int .i64 E, .slice A l.length c, .int .i64 S, .int .i64 U] := hB4
 have hT0 := hT2
 refine zS [(2, .string (bsT ([])))] ?_
 refine op_nil ?_
 refine zQ ?_
 refine zS [(7, .pointer (some ⟨w.heap.size, 0, none⟩))] ?_
 refine zL (.int .i64 V) ((hB4.cell 0).trans rfl) ?_
 refine zC (name22_ok V _) ?_
 rintro _ w5 ⟨rfl, hT6⟩
 have hT0 := hT0.t0 hT6
 have hB4 := hB4.tch0 hT6
 have hz11 := hT0.size
 have lt12 := hB4.lt
 refine st (by rfl) (S_new (v := .slice (some ⟨w5.heap.size, 0, none⟩) 1 1) (ob := .cells #[.string (bsT (nameT V))] 9) (by kernel_rfl) fun w7 hT8 hs9 hB10 => ?_)
 replace hB10 : Blk w7 (w5.heap.size) 9 [.string (bsT (nameT V))] := hB10
 have hT0 := hT0.t0 hT8
 have hB4 := hB4.tch0 hT8
 refine zS [(3, .slice (some ⟨w5.heap.size, 0, none⟩) 1 1)] ?_
 refine op_nil ?_
 refine W_seq ?_
 refine W_seq ?_
 have hz_ := hT0.size
 have hO : Own w7 0 9 1 (.slice (some ⟨w5.heap.size, 0, none⟩) 1 1) 1 (txs ([nameT V])) := hB10.own (base := 0) (sz := 1) (n := 1) (Nat.zero_le _) rfl (by decide)
 have nB_hO : ∀ c, (Value.slice (some ⟨w5.heap.size, 0, none⟩) 1 1).ownBlock = some c → w.heap.size ≤ c := fun c hc => by have e : w5.heap.size = c := Option.some.inj hc; omega
 refine zR ?_
 refine zS [(11, .pointer (some ⟨w.heap.size, 0, none⟩))] ?_
 refine zL (.int .i64 V) ((hB4.cell 0).trans rfl) ?_
 refine zS [(13, .bool (V == 0))] ?_
 refine zO (V == 0) (fun hc13 => ?_) (fun hc13 => ?_)
 ·
  replace hc13 : V = 0 := (eq_of_beq hc13)
  refine zF [(0, .agg #[.int .i64 V, .int .i64 E, .slice A l.length c, .int .i64 S, .int .i64 U]), (1, .pointer (some ⟨w.heap.size, 0, none⟩)), (2, .string (bsT ([]))), (3, .slice (some ⟨w5.heap.size, 0, none⟩) 1 1), (13, .bool (V == 0))] fun ρ => ?_
  refine zR ?_
  refine zS [(14, .slice (some ⟨w5.heap.size, 0, none⟩) 1 1), (15, .pointer (some ⟨w.heap.size, 1, none⟩))] ?_
  refine zL (.int .i64 E) ((hB4.cell 1).trans rfl) ?_
  refine zC (signed_ok E _ (by omega) (by omega)) ?_
  rintro _ w14 ⟨rfl, hT15⟩
  have hT0 := hT0.t0 hT15
  have hB4 := hB4.tch0 hT15
  have hO := hO.tch0 hT15
  have hz20 := hT0.size
  have lt21 := hB4.lt
  have lR_hO := hO.lt
  refine st (by rfl) (S_new (v := .slice (some ⟨w14.heap.size, 0, none⟩) 1 1) (ob := .cells #[.string (bsT (sgn E))] 9) (by kernel_rfl) fun w16 hT17 hs18 hB19 => ?_)
  replace hB19 : Blk w16 (w14.heap.size) 9 [.string (bsT (sgn E))] := hB19
  have hT0 := hT0.t0 hT17
  have hB4 := hB4.tch0 hT17
  have hO := hO.tch0 hT17
  have hz_ := hT0.size
  have lt_hB4 := hB4.lt
  have lt_hB19 := hB19.lt
  refine st (by rfl) (S_appendR 52 9 (.string (bsT [])) 1 16 (n := 1) (m := 1) (A := some ⟨w5.heap.size, 0, none⟩) (cp := 1) (cells := txs ([nameT V])) (news := [.string (bsT (sgn E))]) (b := w14.heap.size) (off := 0) (c := 1) (by kernel_rfl) (by kernel_rfl) (by decide) (by kernel_rfl) (by kernel_rfl) (by kernel_rfl) hO (by rfl) (fun k u hk => by rw [Nat.zero_add, hB19.cell]; exact hk) (by simp [oneV]) (by simp only [maxLen]; omega) (by omega) fun A22 c22 w22 hO22 hw22 hT22 => ?_)
  have hT0 := (hT0).then hT22 nB_hO
  have hB4 := hB4.tch hT22 (fun e => hO.blk_ne hB4 (by decide) _ e rfl)
  have hO : Own w22 0 9 1 (.slice A22 (1 + 1) c22) (1 + 1) (txs ([nameT V] ++ [sgn E])) := by rw [txs_app]; exact hO22
  have nB_hO : ∀ c, (Value.slice A22 (1 + 1) c22).ownBlock = some c → w.heap.size ≤ c := fun c hc => (hw22 c hc).elim (nB_hO c) (fun q => by omega)
  refine zS [(3, .slice A22 (1 + 1) c22)] ?_
  refine op_nil ?_
  refine W_seq ?_
  refine W_draw (fun w' => Blk w' (w.heap.size) 25 [.int .i64 V, .int .i64 E, .slice A l.length c, .int .i64 S, .int .i64 U]) (by kernel_rfl) (by kernel_rfl) (by kernel_rfl) fun w23 hT24 hh25 => ?_
  have hT0 := hT0.t0 hT24
  have hB4 := hB4.tch0 hT24
  have hO := hO.tch0 hT24
  refine zK [0, 1, 4] #[true, true, false, false, true, false, false, false, false, false] [(20, .slice A22 (1 + 1) c22), (21, .pointer (some ⟨w.heap.size, 3, none⟩)), (24, .pointer (some ⟨w.heap.size, 4, none⟩))] hB4 ?_
  refine zV 2 rfl (.int .i64 S) (fun _ hB4 => R_load (v := .int .i64 S) (by kernel_rfl) (by kernel_rfl) ((hB4.cell 3).trans rfl)) hB4 ?_
  refine zV 5 rfl (.int .i64 U) (fun _ hB4 => R_load (v := .int .i64 U) (by kernel_rfl) (by kernel_rfl) ((hB4.cell 4).trans rfl)) hB4 ?_
  refine zD 3 rfl (S_call (args := [.int .i64 S]) (by kernel_rfl) (signed_ok S _ (by omega) (by omega)) ?_)
  rintro _ w26 ⟨rfl, hT27⟩
  have hT0 := hT0.t0 hT27
  have hB4 := hB4.tch0 hT27
  have hO := hO.tch0 hT27
  refine ⟨hB4, ?_⟩
  refine zD 6 rfl (S_call (args := [.int .i64 U]) (by kernel_rfl) (signed_ok U _ (by omega) (by omega)) ?_)
  rintro _ w28 ⟨rfl, hT29⟩
  have hT0 := hT0.t0 hT29
  have hB4 := hB4.tch0 hT29
  have hO := hO.tch0 hT29
  refine ⟨hB4, ?_⟩
  have hz34 := hT0.size
  have lt35 := hB4.lt
  have lR_hO := hO.lt
  refine zD 7 rfl (S_new (v := .slice (some ⟨w28.heap.size, 0, none⟩) 2 2) (ob := .cells #[.string (bsT (sgn S)), .string (bsT (sgn U))] 9) (by kernel_rfl) fun w30 hT31 hs32 hB33 => ?_)
  replace hB33 : Blk w30 (w28.heap.size) 9 [.string (bsT (sgn S)), .string (bsT (sgn U))] := hB33
  have hT0 := hT0.t0 hT31
  have hB4 := hB4.tch0 hT31
  have hO := hO.tch0 hT31
  refine ⟨hB4, ?_⟩
  have hz_ := hT0.size
  have lt_hB4 := hB4.lt
  have lt_hB33 := hB33.lt
  refine zD 8 rfl (S_appendR 52 9 (.string (bsT [])) 1 16 (n := 1 + 1) (m := 2) (A := A22) (cp := c22) (cells := txs ([nameT V] ++ [sgn E])) (news := [.string (bsT (sgn S)), .string (bsT (sgn U))]) (b := w28.heap.size) (off := 0) (c := 2) (by kernel_rfl) (by kernel_rfl) (by decide) (by kernel_rfl) (by kernel_rfl) (by kernel_rfl) hO (by rfl) (fun k u hk => by rw [Nat.zero_add, hB33.cell]; exact hk) (by simp [oneV]) (by simp only [maxLen]; omega) (by omega) fun A36 c36 w36 hO36 hw36 hT36 => ?_)
  have hT0 := (hT0).then hT36 nB_hO
  have hB4 := hB4.tch hT36 (fun e => hO.blk_ne hB4 (by decide) _ e rfl)
  have hO : Own w36 0 9 1 (.slice A36 (1 + 1 + 2) c36) (1 + 1 + 2) (txs ([nameT V] ++ [sgn E] ++ [sgn S, sgn U])) := by rw [txs_app]; exact hO36
  have nB_hO : ∀ c, (Value.slice A36 (1 + 1 + 2) c36).ownBlock = some c → w.heap.size ≤ c := fun c hc => (hw36 c hc).elim (nB_hO c) (fun q => by omega)
  refine ⟨hB4, ?_⟩
  refine zK [9] #[true, true, true, true, true, true, true, true, true, true] [(3, .slice A36 (1 + 1 + 2) c36)] hB4 ?_
  refine d_done (by kernel_rfl) ?_
  refine W_seq ?_
  refine zF [(0, .agg #[.int .i64 V, .int .i64 E, .slice A l.length c, .int .i64 S, .int .i64 U]), (1, .pointer (some ⟨w.heap.size, 0, none⟩)), (2, .string (bsT ([]))), (3, .slice A36 (1 + 1 + 2) c36), (13, .bool (V == 0))] fun ρ => ?_
  refine zR ?_
  have hz41 := hT0.size
  have lt42 := hB4.lt
  have lR_hO := hO.lt
  refine st (by rfl) (S_new (v := .pointer (some ⟨w36.heap.size, 0, none⟩)) (ob := .cells #[.pointer none, .slice none 0 0] 55) (by kernel_rfl) fun w37 hT38 hs39 hB40 => ?_)
  replace hB40 : Blk w37 (w36.heap.size) 55 [.pointer none, .slice none 0 0] := hB40
  have hT0 := hT0.t0 hT38
  have hB4 := hB4.tch0 hT38
  have hO := hO.tch0 hT38
  refine op_nil ?_
  refine W_seq ?_
  have hz_ := hT0.size
  have lt_hB4 := hB4.lt
  have lt_hB40 := hB40.lt
  have hB : BD (fun c => c = w36.heap.size) w37 (w36.heap.size) [] := ⟨_, _, 0, 0, hB40, rfl, .inl rfl, Own.nil_ _ _ _ _, rfl, (fun c hc => by cases hc), fun c hc => by rw [hc]; exact hB40.lt⟩
  have hGn : ∀ c, (c = w36.heap.size) → w.heap.size + 1 ≤ c := fun c e => by omega
  refine zR ?_
  refine zS [(29, .slice A36 (1 + 1 + 2) c36)] ?_
  have hLn : List.length (α := Tx) ([nameT V] ++ [sgn E] ++ [sgn S, sgn U]) = 1 + 1 + 2 := rfl
  have hLs : sumL ([nameT V] ++ [sgn E] ++ [sgn S, sgn U]) ≤ 1000000 := (by have h1 := nameT_len V; have h2 := sgn_le hb.1; have h3 := sgn_le hb.2.1; have h4 := sgn_le hb.2.2; simp only [sumL, List.map_append, List.map_cons, List.map_nil, List.sum_append, List.sum_cons, List.sum_nil]; omega)
  have hJl := joinT_len ([nameT V] ++ [sgn E] ++ [sgn S, sgn U])
  refine zC (join_okN ([nameT V] ++ [sgn E] ++ [sgn S, sgn U]) _ _ _ _ hO hLn (by omega) (by omega)) ?_
  rintro _ w43 ⟨rfl, hT44⟩
  have hT0 := hT0.t0 hT44
  have hB4 := hB4.tch0 hT44
  have hO := hO.tch0 hT44
  have hB := hB.tch0 hT44
  refine stv (v := .string (bsT ((joinT [32] ([nameT V] ++ [sgn E] ++ [sgn S, sgn U])) ++ ([10])))) (by rfl) (R_sadd (a := joinT [32] ([nameT V] ++ [sgn E] ++ [sgn S, sgn U])) (b := [10]) (by kernel_rfl) (by kernel_rfl) (by first | omega | (simp only [List.length_append, List.length_cons, List.length_nil]; omega))) ?_
  have hz_ := hT0.size
  have lt_ := hB4.lt
  have htl : List.length (α := UInt8) ([]) ≤ 10000000 := (by simp)
  have hzl : List.length (α := UInt8) ((joinT [32] ([nameT V] ++ [sgn E] ++ [sgn S, sgn U])) ++ ([10])) ≤ 10000000 := (by rw [List.length_append]; simp only [List.length_cons, List.length_nil]; omega)
  refine zC (ws_ok (fun c => c = w36.heap.size) (w36.heap.size) ([]) ((joinT [32] ([nameT V] ++ [sgn E] ++ [sgn S, sgn U])) ++ ([10])) _ hB (by omega)) ?_
  rintro _ w45 ⟨rfl, G46, hB, hM46⟩
  have hT0 := (hT0).then hM46.1 (fun c e => by have := hGn c e; omega)
  have hB4 := hB4.tch hM46.1 (fun e => by have := hGn _ e; omega)
  have hGn : ∀ c, G46 c → w.heap.size + 1 ≤ c := fun c e => (hM46.2 c e).elim (hGn c) (fun q => by omega)
  refine op_nil ?_
  refine W_seq ?_
  refine zQ ?_
  refine zS [(33, .pointer (some ⟨w.heap.size, 2, none⟩))] ?_
  refine zL (.slice A l.length c) ((hB4.cell 2).trans rfl) ?_
  refine zS [(35, .int .i64 (l.length : Int)), (36, .int .i64 0)] ?_
  refine op_nil ?_
  refine W_block ?_
  refine W_loop (fun m ρ w' => ∃ (G2 : Nat → Prop) (j : Nat) (ρ0 : Env), ρ = updL ρ0 [(4, .pointer (some ⟨w36.heap.size, 0, none⟩)), (34, .slice A l.length c), (35, .int .i64 (l.length : Int)), (36, .int .i64 ((j : Nat) : Int))] ∧ (j ≤ l.length) ∧ (∀ c, G2 c → w.heap.size ≤ c) ∧ Tch N0 w w' ∧ BD G2 w' (w36.heap.size) (textP V E S U l j) ∧ m = l.length + 1 - j) (m := l.length + 1 - 0) ?_ ?_
  ·
   refine ⟨G46, 0, _, updL_self (by kernel_rfl), by omega, (fun c e => by have := hGn c e; omega), hT0, (by rw [textP_0, ← hdX_t (by omega)]; exact hB), rfl⟩
  ·
   rintro m ρ w47 ⟨G2, j, ρ, rfl, hj, hGn, hT0, hB, rfl⟩
   refine zQ ?_
   refine zS [(37, .bool (decide (((j : Nat) : Int) < (l.length : Int))))] ?_
   refine op_nil ?_
   refine W_seq ?_
   refine zW (decide (((j : Nat) : Int) < (l.length : Int))) (fun hc48 => ?_) (fun hc48 => ?_)
   ·
    replace hc48 : ((j : Nat) : Int) < (l.length : Int) := (of_decide_eq_true hc48)
    refine W_skip ?_
    refine W_seq ?_
    refine W_block ?_
    refine W_seq ?_
    have hGl_ := hB.lt
    refine zR ?_
    refine stv (v := ptrAt A (j * 6)) (by rfl) (R_indexRd (sz := 6) (len := l.length) (cap := c) (k := .i64) (i := ((j : Nat) : Int)) (e := 43) j (hR.rd.tch0 hT0) (by kernel_rfl) (by kernel_rfl) (by kernel_rfl) (by kernel_rfl) rfl (by omega)) ?_
    refine stv (v := .agg #[.slice ((tq l j).iA) ((tq l j).inp.length) ((tq l j).iC), .int .i64 ((tq l j).pt), .int .i64 ((tq l j).ms), .slice ((tq l j).gA) ((tq l j).img.length) ((tq l j).gC), .int .i64 ((tq l j).kd), .int .i64 ((tq l j).cd)]) (by rfl) (R_loadRdA [.slice ((tq l j).iA) ((tq l j).inp.length) ((tq l j).iC), .int .i64 ((tq l j).pt), .int .i64 ((tq l j).ms), .slice ((tq l j).gA) ((tq l j).img.length) ((tq l j).gC), .int .i64 ((tq l j).kd), .int .i64 ((tq l j).cd)] (hR.rd.tch0 hT0) (by omega) (by kernel_rfl) (by kernel_rfl) (by kernel_rfl) (tcs_part l (by omega))) ?_
    have hz53 := hT0.size
    refine st (by rfl) (S_new (v := .pointer (some ⟨w47.heap.size, 0, none⟩)) (ob := .cells #[.slice none 0 0, .int .i64 0, .int .i64 0, .slice none 0 0, .int .i64 0, .int .i64 0] 43) (by kernel_rfl) fun w49 hT50 hs51 hB52 => ?_)
    replace hB52 : Blk w49 (w47.heap.size) 43 [.slice none 0 0, .int .i64 0, .int .i64 0, .slice none 0 0, .int .i64 0, .int .i64 0] := hB52
    have hT0 := hT0.t0 hT50
    have hB := hB.tch0 hT50
    have nF_hB52 : ¬ G2 (w47.heap.size) := fun q => by have := hGl_ _ q; omega
    refine st (by rfl) (S_storeA (b := w47.heap.size) (j := 0) (cs := [.slice ((tq l j).iA) ((tq l j).inp.length) ((tq l j).iC), .int .i64 ((tq l j).pt), .int .i64 ((tq l j).ms), .slice ((tq l j).gA) ((tq l j).img.length) ((tq l j).gC), .int .i64 ((tq l j).kd), .int .i64 ((tq l j).cd)]) (by kernel_rfl) (by kernel_rfl) (by kernel_rfl) (by simp [oneV]) hB52 (by simp) fun w54 hT55 hs56 hB52' => ?_)
    have hT0 := (hT0).then hT55 (fun c e => by have : c = w47.heap.size := e; omega)
    have hB := hB.tchS hT55 (fun c e q => by cases e; exact nF_hB52 q)
    replace hB52 : Blk w54 w47.heap.size 43 [.slice ((tq l j).iA) ((tq l j).inp.length) ((tq l j).iC), .int .i64 ((tq l j).pt), .int .i64 ((tq l j).ms), .slice ((tq l j).gA) ((tq l j).img.length) ((tq l j).gC), .int .i64 ((tq l j).kd), .int .i64 ((tq l j).cd)] := hB52'
    refine op_nil ?_
    refine zR ?_
    refine st (by rfl) (S_val (v := .agg #[.slice ((tq l j).iA) ((tq l j).inp.length) ((tq l j).iC), .int .i64 ((tq l j).pt), .int .i64 ((tq l j).ms), .slice ((tq l j).gA) ((tq l j).img.length) ((tq l j).gC), .int .i64 ((tq l j).kd), .int .i64 ((tq l j).cd)]) (R_loadA [.slice ((tq l j).iA) ((tq l j).inp.length) ((tq l j).iC), .int .i64 ((tq l j).pt), .int .i64 ((tq l j).ms), .slice ((tq l j).gA) ((tq l j).img.length) ((tq l j).gC), .int .i64 ((tq l j).kd), .int .i64 ((tq l j).cd)] (by kernel_rfl) (by kernel_rfl) (by kernel_rfl) (fun k u hk => by rw [hB52.cell]; exact get_part _ 0 _ k u rfl hk)) ?_)
    have hm_ := tq_mem (l := l) (i := j) (by omega)
    have hLl := lineT_le (hR.el _ hm_).wf (hF.2 _ hm_).1 (hF.2 _ hm_).2
    refine zC (line_ok (tq l j) _ ((hR.el _ hm_).tch0 hT0) (hF.2 _ hm_).1 (hF.2 _ hm_).2) ?_
    rintro _ w57 ⟨rfl, hT58⟩
    have hT0 := hT0.t0 hT58
    have hB := hB.tch0 hT58
    have hB52 := hB52.tch0 hT58
    have hz_ := hT0.size
    have htl : List.length (α := UInt8) (textP V E S U l j) ≤ 10000000 := (by have := textP_le (V := V) hR hF hb j; omega)
    have hzl : List.length (α := UInt8) (lineT (core (tq l j))) ≤ 10000000 := (by omega)
    refine zC (ws_ok G2 (w36.heap.size) (textP V E S U l j) (lineT (core (tq l j))) _ hB (by omega)) ?_
    rintro _ w59 ⟨rfl, G60, hB, hM60⟩
    have hT0 := (hT0).then hM60.1 (fun c e => by have := hGn c e; omega)
    have hGn : ∀ c, G60 c → w.heap.size ≤ c := fun c e => (hM60.2 c e).elim (hGn c) (fun q => by omega)
    refine op_nil ?_
    refine zR ?_
    refine zS [(43, .int .i64 (IntKind.i64.wrap (((j : Nat) : Int) + 1)))] ?_
    rw [show IntKind.i64.wrap (((j : Nat) : Int) + 1) = ((j : Nat) : Int) + 1 from wrap_i64 (by omega) (by omega)]
    refine fixR (y := ((j + 1 : Nat) : Int)) (by omega) ?_
    refine zS [(36, .int .i64 ((j + 1 : Nat) : Int))] ?_
    refine op_nil ?_
    refine ⟨_, (by omega), G60, j + 1, _, updL_self (by kernel_rfl), (by omega), hGn, hT0, (by rw [textP_step (by omega)]; exact hB), rfl⟩
   ·
    replace hc48 : (l.length : Int) ≤ ((j : Nat) : Int) := (Int.not_lt.1 (of_decide_eq_false hc48))
    refine W_exit ?_
    refine X_hit ?_
    refine zQ ?_
    have hj9 : j = l.length := by omega
    subst hj9
    refine zC (bstr_ok G2 (w36.heap.size) _ _ hB (textP_ne _ _ _ _ _ _)) ?_
    rintro _ w61 ⟨rfl, hT62⟩
    have hT0 := (hT0).then hT62 (fun c e => by have := hGn c e; omega)
    refine zS [(2, .string (bsT (textP V E S U l l.length)))] ?_
    refine op_nil ?_
    refine W_ret ?_
    exact ⟨_, Res_of (v := .string (bsT (textP V E S U l l.length))) (by kernel_rfl), ⟨by rw [textP_all], hT0⟩⟩
 ·
  replace hc13 : V ≠ 0 := (ne_of_beq_false hc13)
  refine W_skip ?_
  refine W_seq ?_
  refine zF [(0, .agg #[.int .i64 V, .int .i64 E, .slice A l.length c, .int .i64 S, .int .i64 U]), (1, .pointer (some ⟨w.heap.size, 0, none⟩)), (2, .string (bsT ([]))), (3, .slice (some ⟨w5.heap.size, 0, none⟩) 1 1), (13, .bool (V == 0))] fun ρ => ?_
  refine W_draw (fun w' => Blk w' (w.heap.size) 25 [.int .i64 V, .int .i64 E, .slice A l.length c, .int .i64 S, .int .i64 U]) (by kernel_rfl) (by kernel_rfl) (by kernel_rfl) fun w63 hT64 hh65 => ?_
  have hT0 := hT0.t0 hT64
  have hB4 := hB4.tch0 hT64
  have hO := hO.tch0 hT64
  refine zK [0, 1, 4] #[true, true, false, false, true, false, false, false, false, false] [(20, .slice (some ⟨w5.heap.size, 0, none⟩) 1 1), (21, .pointer (some ⟨w.heap.size, 3, none⟩)), (24, .pointer (some ⟨w.heap.size, 4, none⟩))] hB4 ?_
  refine zV 2 rfl (.int .i64 S) (fun _ hB4 => R_load (v := .int .i64 S) (by kernel_rfl) (by kernel_rfl) ((hB4.cell 3).trans rfl)) hB4 ?_
  refine zV 5 rfl (.int .i64 U) (fun _ hB4 => R_load (v := .int .i64 U) (by kernel_rfl) (by kernel_rfl) ((hB4.cell 4).trans rfl)) hB4 ?_
  refine zD 3 rfl (S_call (args := [.int .i64 S]) (by kernel_rfl) (signed_ok S _ (by omega) (by omega)) ?_)
  rintro _ w66 ⟨rfl, hT67⟩
  have hT0 := hT0.t0 hT67
  have hB4 := hB4.tch0 hT67
  have hO := hO.tch0 hT67
  refine ⟨hB4, ?_⟩
  refine zD 6 rfl (S_call (args := [.int .i64 U]) (by kernel_rfl) (signed_ok U _ (by omega) (by omega)) ?_)
  rintro _ w68 ⟨rfl, hT69⟩
  have hT0 := hT0.t0 hT69
  have hB4 := hB4.tch0 hT69
  have hO := hO.tch0 hT69
  refine ⟨hB4, ?_⟩
  have hz74 := hT0.size
  have lt75 := hB4.lt
  have lR_hO := hO.lt
  refine zD 7 rfl (S_new (v := .slice (some ⟨w68.heap.size, 0, none⟩) 2 2) (ob := .cells #[.string (bsT (sgn S)), .string (bsT (sgn U))] 9) (by kernel_rfl) fun w70 hT71 hs72 hB73 => ?_)
  replace hB73 : Blk w70 (w68.heap.size) 9 [.string (bsT (sgn S)), .string (bsT (sgn U))] := hB73
  have hT0 := hT0.t0 hT71
  have hB4 := hB4.tch0 hT71
  have hO := hO.tch0 hT71
  refine ⟨hB4, ?_⟩
  have hz_ := hT0.size
  have lt_hB4 := hB4.lt
  have lt_hB73 := hB73.lt
  refine zD 8 rfl (S_appendR 52 9 (.string (bsT [])) 1 16 (n := 1) (m := 2) (A := some ⟨w5.heap.size, 0, none⟩) (cp := 1) (cells := txs ([nameT V])) (news := [.string (bsT (sgn S)), .string (bsT (sgn U))]) (b := w68.heap.size) (off := 0) (c := 2) (by kernel_rfl) (by kernel_rfl) (by decide) (by kernel_rfl) (by kernel_rfl) (by kernel_rfl) hO (by rfl) (fun k u hk => by rw [Nat.zero_add, hB73.cell]; exact hk) (by simp [oneV]) (by simp only [maxLen]; omega) (by omega) fun A76 c76 w76 hO76 hw76 hT76 => ?_)
  have hT0 := (hT0).then hT76 nB_hO
  have hB4 := hB4.tch hT76 (fun e => hO.blk_ne hB4 (by decide) _ e rfl)
  have hO : Own w76 0 9 1 (.slice A76 (1 + 2) c76) (1 + 2) (txs ([nameT V] ++ [sgn S, sgn U])) := by rw [txs_app]; exact hO76
  have nB_hO : ∀ c, (Value.slice A76 (1 + 2) c76).ownBlock = some c → w.heap.size ≤ c := fun c hc => (hw76 c hc).elim (nB_hO c) (fun q => by omega)
  refine ⟨hB4, ?_⟩
  refine zK [9] #[true, true, true, true, true, true, true, true, true, true] [(3, .slice A76 (1 + 2) c76)] hB4 ?_
  refine d_done (by kernel_rfl) ?_
  refine W_seq ?_
  refine zF [(0, .agg #[.int .i64 V, .int .i64 E, .slice A l.length c, .int .i64 S, .int .i64 U]), (1, .pointer (some ⟨w.heap.size, 0, none⟩)), (2, .string (bsT ([]))), (3, .slice A76 (1 + 2) c76), (13, .bool (V == 0))] fun ρ => ?_
  refine zR ?_
  have hz81 := hT0.size
  have lt82 := hB4.lt
  have lR_hO := hO.lt
  refine st (by rfl) (S_new (v := .pointer (some ⟨w76.heap.size, 0, none⟩)) (ob := .cells #[.pointer none, .slice none 0 0] 55) (by kernel_rfl) fun w77 hT78 hs79 hB80 => ?_)
  replace hB80 : Blk w77 (w76.heap.size) 55 [.pointer none, .slice none 0 0] := hB80
  have hT0 := hT0.t0 hT78
  have hB4 := hB4.tch0 hT78
  have hO := hO.tch0 hT78
  refine op_nil ?_
  refine W_seq ?_
  have hz_ := hT0.size
  have lt_hB4 := hB4.lt
  have lt_hB80 := hB80.lt
  have hB : BD (fun c => c = w76.heap.size) w77 (w76.heap.size) [] := ⟨_, _, 0, 0, hB80, rfl, .inl rfl, Own.nil_ _ _ _ _, rfl, (fun c hc => by cases hc), fun c hc => by rw [hc]; exact hB80.lt⟩
  have hGn : ∀ c, (c = w76.heap.size) → w.heap.size + 1 ≤ c := fun c e => by omega
  refine zR ?_
  refine zS [(29, .slice A76 (1 + 2) c76)] ?_
  have hLn : List.length (α := Tx) ([nameT V] ++ [sgn S, sgn U]) = 1 + 2 := rfl
  have hLs : sumL ([nameT V] ++ [sgn S, sgn U]) ≤ 1000000 := (by have h1 := nameT_len V; have h2 := sgn_le hb.1; have h3 := sgn_le hb.2.1; have h4 := sgn_le hb.2.2; simp only [sumL, List.map_append, List.map_cons, List.map_nil, List.sum_append, List.sum_cons, List.sum_nil]; omega)
  have hJl := joinT_len ([nameT V] ++ [sgn S, sgn U])
  refine zC (join_okN ([nameT V] ++ [sgn S, sgn U]) _ _ _ _ hO hLn (by omega) (by omega)) ?_
  rintro _ w83 ⟨rfl, hT84⟩
  have hT0 := hT0.t0 hT84
  have hB4 := hB4.tch0 hT84
  have hO := hO.tch0 hT84
  have hB := hB.tch0 hT84
  refine stv (v := .string (bsT ((joinT [32] ([nameT V] ++ [sgn S, sgn U])) ++ ([10])))) (by rfl) (R_sadd (a := joinT [32] ([nameT V] ++ [sgn S, sgn U])) (b := [10]) (by kernel_rfl) (by kernel_rfl) (by first | omega | (simp only [List.length_append, List.length_cons, List.length_nil]; omega))) ?_
  have hz_ := hT0.size
  have lt_ := hB4.lt
  have htl : List.length (α := UInt8) ([]) ≤ 10000000 := (by simp)
  have hzl : List.length (α := UInt8) ((joinT [32] ([nameT V] ++ [sgn S, sgn U])) ++ ([10])) ≤ 10000000 := (by rw [List.length_append]; simp only [List.length_cons, List.length_nil]; omega)
  refine zC (ws_ok (fun c => c = w76.heap.size) (w76.heap.size) ([]) ((joinT [32] ([nameT V] ++ [sgn S, sgn U])) ++ ([10])) _ hB (by omega)) ?_
  rintro _ w85 ⟨rfl, G86, hB, hM86⟩
  have hT0 := (hT0).then hM86.1 (fun c e => by have := hGn c e; omega)
  have hB4 := hB4.tch hM86.1 (fun e => by have := hGn _ e; omega)
  have hGn : ∀ c, G86 c → w.heap.size + 1 ≤ c := fun c e => (hM86.2 c e).elim (hGn c) (fun q => by omega)
  refine op_nil ?_
  refine W_seq ?_
  refine zQ ?_
  refine zS [(33, .pointer (some ⟨w.heap.size, 2, none⟩))] ?_
  refine zL (.slice A l.length c) ((hB4.cell 2).trans rfl) ?_
  refine zS [(35, .int .i64 (l.length : Int)), (36, .int .i64 0)] ?_
  refine op_nil ?_
  refine W_block ?_
  refine W_loop (fun m ρ w' => ∃ (G2 : Nat → Prop) (j : Nat) (ρ0 : Env), ρ = updL ρ0 [(4, .pointer (some ⟨w76.heap.size, 0, none⟩)), (34, .slice A l.length c), (35, .int .i64 (l.length : Int)), (36, .int .i64 ((j : Nat) : Int))] ∧ (j ≤ l.length) ∧ (∀ c, G2 c → w.heap.size ≤ c) ∧ Tch N0 w w' ∧ BD G2 w' (w76.heap.size) (textP V E S U l j) ∧ m = l.length + 1 - j) (m := l.length + 1 - 0) ?_ ?_
  ·
   refine ⟨G86, 0, _, updL_self (by kernel_rfl), by omega, (fun c e => by have := hGn c e; omega), hT0, (by rw [textP_0, ← hdX_f (by omega)]; exact hB), rfl⟩
  ·
   rintro m ρ w87 ⟨G2, j, ρ, rfl, hj, hGn, hT0, hB, rfl⟩
   refine zQ ?_
   refine zS [(37, .bool (decide (((j : Nat) : Int) < (l.length : Int))))] ?_
   refine op_nil ?_
   refine W_seq ?_
   refine zW (decide (((j : Nat) : Int) < (l.length : Int))) (fun hc88 => ?_) (fun hc88 => ?_)
   ·
    replace hc88 : ((j : Nat) : Int) < (l.length : Int) := (of_decide_eq_true hc88)
    refine W_skip ?_
    refine W_seq ?_
    refine W_block ?_
    refine W_seq ?_
    have hGl_ := hB.lt
    refine zR ?_
    refine stv (v := ptrAt A (j * 6)) (by rfl) (R_indexRd (sz := 6) (len := l.length) (cap := c) (k := .i64) (i := ((j : Nat) : Int)) (e := 43) j (hR.rd.tch0 hT0) (by kernel_rfl) (by kernel_rfl) (by kernel_rfl) (by kernel_rfl) rfl (by omega)) ?_
    refine stv (v := .agg #[.slice ((tq l j).iA) ((tq l j).inp.length) ((tq l j).iC), .int .i64 ((tq l j).pt), .int .i64 ((tq l j).ms), .slice ((tq l j).gA) ((tq l j).img.length) ((tq l j).gC), .int .i64 ((tq l j).kd), .int .i64 ((tq l j).cd)]) (by rfl) (R_loadRdA [.slice ((tq l j).iA) ((tq l j).inp.length) ((tq l j).iC), .int .i64 ((tq l j).pt), .int .i64 ((tq l j).ms), .slice ((tq l j).gA) ((tq l j).img.length) ((tq l j).gC), .int .i64 ((tq l j).kd), .int .i64 ((tq l j).cd)] (hR.rd.tch0 hT0) (by omega) (by kernel_rfl) (by kernel_rfl) (by kernel_rfl) (tcs_part l (by omega))) ?_
    have hz93 := hT0.size
    refine st (by rfl) (S_new (v := .pointer (some ⟨w87.heap.size, 0, none⟩)) (ob := .cells #[.slice none 0 0, .int .i64 0, .int .i64 0, .slice none 0 0, .int .i64 0, .int .i64 0] 43) (by kernel_rfl) fun w89 hT90 hs91 hB92 => ?_)
    replace hB92 : Blk w89 (w87.heap.size) 43 [.slice none 0 0, .int .i64 0, .int .i64 0, .slice none 0 0, .int .i64 0, .int .i64 0] := hB92
    have hT0 := hT0.t0 hT90
    have hB := hB.tch0 hT90
    have nF_hB92 : ¬ G2 (w87.heap.size) := fun q => by have := hGl_ _ q; omega
    refine st (by rfl) (S_storeA (b := w87.heap.size) (j := 0) (cs := [.slice ((tq l j).iA) ((tq l j).inp.length) ((tq l j).iC), .int .i64 ((tq l j).pt), .int .i64 ((tq l j).ms), .slice ((tq l j).gA) ((tq l j).img.length) ((tq l j).gC), .int .i64 ((tq l j).kd), .int .i64 ((tq l j).cd)]) (by kernel_rfl) (by kernel_rfl) (by kernel_rfl) (by simp [oneV]) hB92 (by simp) fun w94 hT95 hs96 hB92' => ?_)
    have hT0 := (hT0).then hT95 (fun c e => by have : c = w87.heap.size := e; omega)
    have hB := hB.tchS hT95 (fun c e q => by cases e; exact nF_hB92 q)
    replace hB92 : Blk w94 w87.heap.size 43 [.slice ((tq l j).iA) ((tq l j).inp.length) ((tq l j).iC), .int .i64 ((tq l j).pt), .int .i64 ((tq l j).ms), .slice ((tq l j).gA) ((tq l j).img.length) ((tq l j).gC), .int .i64 ((tq l j).kd), .int .i64 ((tq l j).cd)] := hB92'
    refine op_nil ?_
    refine zR ?_
    refine st (by rfl) (S_val (v := .agg #[.slice ((tq l j).iA) ((tq l j).inp.length) ((tq l j).iC), .int .i64 ((tq l j).pt), .int .i64 ((tq l j).ms), .slice ((tq l j).gA) ((tq l j).img.length) ((tq l j).gC), .int .i64 ((tq l j).kd), .int .i64 ((tq l j).cd)]) (R_loadA [.slice ((tq l j).iA) ((tq l j).inp.length) ((tq l j).iC), .int .i64 ((tq l j).pt), .int .i64 ((tq l j).ms), .slice ((tq l j).gA) ((tq l j).img.length) ((tq l j).gC), .int .i64 ((tq l j).kd), .int .i64 ((tq l j).cd)] (by kernel_rfl) (by kernel_rfl) (by kernel_rfl) (fun k u hk => by rw [hB92.cell]; exact get_part _ 0 _ k u rfl hk)) ?_)
    have hm_ := tq_mem (l := l) (i := j) (by omega)
    have hLl := lineT_le (hR.el _ hm_).wf (hF.2 _ hm_).1 (hF.2 _ hm_).2
    refine zC (line_ok (tq l j) _ ((hR.el _ hm_).tch0 hT0) (hF.2 _ hm_).1 (hF.2 _ hm_).2) ?_
    rintro _ w97 ⟨rfl, hT98⟩
    have hT0 := hT0.t0 hT98
    have hB := hB.tch0 hT98
    have hB92 := hB92.tch0 hT98
    have hz_ := hT0.size
    have htl : List.length (α := UInt8) (textP V E S U l j) ≤ 10000000 := (by have := textP_le (V := V) hR hF hb j; omega)
    have hzl : List.length (α := UInt8) (lineT (core (tq l j))) ≤ 10000000 := (by omega)
    refine zC (ws_ok G2 (w76.heap.size) (textP V E S U l j) (lineT (core (tq l j))) _ hB (by omega)) ?_
    rintro _ w99 ⟨rfl, G100, hB, hM100⟩
    have hT0 := (hT0).then hM100.1 (fun c e => by have := hGn c e; omega)
    have hGn : ∀ c, G100 c → w.heap.size ≤ c := fun c e => (hM100.2 c e).elim (hGn c) (fun q => by omega)
    refine op_nil ?_
    refine zR ?_
    refine zS [(43, .int .i64 (IntKind.i64.wrap (((j : Nat) : Int) + 1)))] ?_
    rw [show IntKind.i64.wrap (((j : Nat) : Int) + 1) = ((j : Nat) : Int) + 1 from wrap_i64 (by omega) (by omega)]
    refine fixR (y := ((j + 1 : Nat) : Int)) (by omega) ?_
    refine zS [(36, .int .i64 ((j + 1 : Nat) : Int))] ?_
    refine op_nil ?_
    refine ⟨_, (by omega), G100, j + 1, _, updL_self (by kernel_rfl), (by omega), hGn, hT0, (by rw [textP_step (by omega)]; exact hB), rfl⟩
   ·
    replace hc88 : (l.length : Int) ≤ ((j : Nat) : Int) := (Int.not_lt.1 (of_decide_eq_false hc88))
    refine W_exit ?_
    refine X_hit ?_
    refine zQ ?_
    have hj9 : j = l.length := by omega
    subst hj9
    refine zC (bstr_ok G2 (w76.heap.size) _ _ hB (textP_ne _ _ _ _ _ _)) ?_
    rintro _ w101 ⟨rfl, hT102⟩
    have hT0 := (hT0).then hT102 (fun c e => by have := hGn c e; omega)
    refine zS [(2, .string (bsT (textP V E S U l l.length)))] ?_
    refine op_nil ?_
    refine W_ret ?_
    exact ⟨_, Res_of (v := .string (bsT (textP V E S U l l.length))) (by kernel_rfl), ⟨by rw [textP_all], hT0⟩⟩

end Go.Proofs.YtlkjhkennbdbnaaV

set_option linter.unusedVariables false
set_option linter.unusedSimpArgs false
namespace Go.Proofs.YtlkjhkennbdbnaaV
open Go Go.RowKit Go.Proofs

end Go.Proofs.YtlkjhkennbdbnaaV

set_option linter.unusedVariables false
set_option linter.unusedSimpArgs false
namespace Go.Proofs.YtlkjhkennbdbnaaV
open Go Go.RowKit Go.Proofs

/-! ### Numbers of bytes -/
def vl (t : Tx) : Nat := t.foldl (fun a b => a * 256 + b.toNat) 0
theorem vl_snoc (t : Tx) (b : UInt8) : vl (t ++ [b]) = vl t * 256 + b.toNat := by simp [vl]
theorem vl_nil : vl [] = 0 := rfl
theorem pow256 (k : Nat) : 256 ^ (k + 1) = 256 ^ k * 256 := Nat.pow_succ 256 k
theorem vl_gen : ∀ (t : Tx) (i : Nat), t.foldl (fun a b => a * 256 + b.toNat) i = i * 256 ^ t.length + vl t
  | [], i => by simp [vl]
  | b :: t, i => by
    have h1 := vl_gen t (i * 256 + b.toNat)
    have h2 := vl_gen t (0 * 256 + b.toNat)
    show t.foldl _ (i * 256 + b.toNat) = i * 256 ^ (t.length + 1) + t.foldl _ (0 * 256 + b.toNat)
    rw [h1, h2, pow256, Nat.add_mul, Nat.mul_assoc, Nat.mul_comm 256, Nat.zero_mul, Nat.zero_add]; omega
theorem vl_cons (b : UInt8) (t : Tx) : vl (b :: t) = b.toNat * 256 ^ t.length + vl t := by
 have h := vl_gen t (0 * 256 + b.toNat)
 rw [Nat.zero_mul, Nat.zero_add] at h
 rw [← h]
 unfold vl
 rw [List.foldl_cons, Nat.zero_mul, Nat.zero_add]
theorem vl_lt : ∀ (t : Tx), vl t < 256 ^ t.length
 | [] => by simp [vl_nil]
 | b :: t => by
  have h := vl_lt t
  have hb := b.toNat_lt
  rw [vl_cons, List.length_cons, pow256]
  have : b.toNat * 256 ^ t.length ≤ 255 * 256 ^ t.length := Nat.mul_le_mul_right _ (by omega)
  omega
theorem vl_take {t : Tx} {j : Nat} (h : j < t.length) : vl (t.take (j + 1)) = vl (t.take j) * 256 + (t.getD j 0).toNat := by
 rw [List.take_succ_eq_append_getElem h, vl_snoc, List.getD_eq_getElem?_getD, List.getElem?_eq_getElem h]; rfl
theorem vl_small {t : Tx} (h : t.length ≤ 7) : vl t < 72057594037927936 := Nat.lt_of_lt_of_le (vl_lt t) (Nat.le_trans (Nat.pow_le_pow_right (by decide) h) (by decide))
theorem vl_tk {t : Tx} {j : Nat} (h : t.length ≤ 8) (hj : j < t.length) : vl (t.take j) < 72057594037927936 := vl_small (by rw [List.length_take]; omega)
theorem or_by (a b : Nat) (hb : b < 256) : (a * 256) ||| b = a * 256 + b := by
 have := Nat.two_pow_add_eq_or_of_lt (i := 8) (b := b) hb a
 rw [show (2 : Nat) ^ 8 = 256 from rfl, Nat.mul_comm] at this
 exact this.symm

theorem or_raw {a b : Nat} {x y : Int} (hx : x = ((a * 256 : Nat) : Int)) (hy : y = ((b : Nat) : Int)) (ha : a < 72057594037927936) (hb : b < 256) : (((BitVec.ofInt 64 x ||| BitVec.ofInt 64 y).toNat : Nat) : Int) = ((a * 256 + b : Nat) : Int) := by
 subst hx hy
 rw [← or_by a b hb]
 have h : (BitVec.ofInt 64 ((a * 256 : Nat) : Int) ||| BitVec.ofInt 64 ((b : Nat) : Int)).toNat = (a * 256) ||| b := by
  rw [BitVec.toNat_or, BitVec.toNat_ofInt, BitVec.toNat_ofInt]
  have e1 : (((a * 256 : Nat) : Int) % ((2 ^ 64 : Nat) : Int)).toNat = a * 256 := by omega
  have e2 : (((b : Nat) : Int) % ((2 ^ 64 : Nat) : Int)).toNat = b := by omega
  rw [e1, e2]
 rw [h]

end Go.Proofs.YtlkjhkennbdbnaaV

set_option linter.unusedVariables false
set_option linter.unusedSimpArgs false
namespace Go.Proofs.YtlkjhkennbdbnaaV
open Go Go.RowKit Go.Proofs

def rn (k : Nat) (t : Tx) : Nat := if t.length < k then 0 else vl (t.take k)
def rr (k : Nat) (t : Tx) : Tx := if t.length < k then [] else t.drop k
theorem rn_t {k : Nat} {t : Tx} (h : k ≤ t.length) : rn k t = vl (t.take k) ∧ rr k t = t.drop k := by unfold rn rr; rw [if_neg (by omega), if_neg (by omega)]; exact ⟨rfl, rfl⟩
theorem vl_le {t : Tx} (k : Nat) (h : t.length ≤ k) : vl t < 256 ^ k := Nat.lt_of_lt_of_le (vl_lt t) (Nat.pow_le_pow_right (by decide) h)
theorem vl_1 (t : Tx) : vl (t.take 1) < 256 := vl_le 1 (by rw [List.length_take]; omega)
theorem vl_2 (t : Tx) : vl (t.take 2) < 65536 := vl_le 2 (by rw [List.length_take]; omega)
theorem vl_8 (t : Tx) : vl (t.take 8) < 18446744073709551616 := vl_le 8 (by rw [List.length_take]; omega)
theorem rn_1 (t : Tx) : rn 1 t < 256 := by unfold rn; split; omega; exact vl_1 t
/-! a test parsed -/
def p1k (t : Tx) : Nat := rn 1 t
def p1a (t : Tx) : Tx := rr 1 t
def p1d (t : Tx) : Tx := (p1a t).drop (p1k t)
def p1n (t : Tx) : Nat := ((p1d t).getD 7 0).toNat
def p1e (t : Tx) : Tx := (p1d t).drop 8
def im8 (e : Tx) (i : Nat) : Nat := vl ((e.drop (8 * i)).take 8)
def ims (e : Tx) (n : Nat) : List Nat := (List.range n).map (im8 e)
theorem ims_len (e : Tx) (n : Nat) : (ims e n).length = n := by simp [ims]
theorem ims_step (e : Tx) (n : Nat) : ims e (n + 1) = ims e n ++ [im8 e n] := by simp [ims, List.range_succ]
theorem ims_lt {e : Tx} {n : Nat} : ∀ x, x ∈ ims e n → x < 18446744073709551616 := by
 intro x hx
 unfold ims at hx
 rw [List.mem_map] at hx
 obtain ⟨i, _, rfl⟩ := hx
 exact vl_8 _
def p1b (t : Tx) : Bool := decide (1 ≤ t.length ∧ p1k t ≤ (p1a t).length ∧ 8 ≤ (p1d t).length ∧ 8 * p1n t ≤ (p1e t).length)
def p1c (t : Tx) : Co := ((p1a t).take (p1k t), ((vl ((p1d t).take 2) : Nat) : Int), ((vl (((p1d t).drop 2).take 2) : Nat) : Int), ims (p1e t) (p1n t), ((((p1d t).getD 6 0).toNat : Nat) : Int), ((vl (((p1d t).drop 4).take 2) : Nat) : Int))
def p1r (t : Tx) : Tx := if p1b t = true then (p1e t).drop (8 * p1n t) else []
theorem p1_t {t : Tx} (h : p1b t = true) : p1r t = (p1e t).drop (8 * p1n t) := by unfold p1r; rw [if_pos h]
def RdN (w : World) (n b : Nat) (cells : List Value) : Prop := RdW w 1 n (some ⟨b, 0, none⟩) cells
theorem RdN.st {S : Nat → Prop} {w w' : World} {n b : Nat} {cells : List Value} (h : RdN w n b cells) (k : Tch S w w') (hs : ¬ S b) : RdN w' n b cells :=
 RdW.tchB h k (fun _ b' o s e => by injection e with e; injection e with e; rw [← e]; exact hs)
theorem RdN.tch0 {w w' : World} {n b : Nat} {cells : List Value} (h : RdN w n b cells) (k : Tch N0 w w') : RdN w' n b cells := RdW.tch0 h k
/-- what a test read lies in -/
def Fresh (u : T6) (k : Nat) : Prop := ∀ b, u.has b → k ≤ b
theorem fresh_mk {i ic : Nat} {inp : Tx} {pt ms : Int} {gA : Option Addr} {gC : Nat} {img : List Nat} {kd cd : Int} {k : Nat} (hi : k ≤ i) (hg : ∀ c, (Value.slice gA img.length gC).ownBlock = some c → k ≤ c) : Fresh ⟨some ⟨i, 0, none⟩, ic, inp, pt, ms, gA, gC, img, kd, cd⟩ k := by
 rintro b (⟨_, o, s, e⟩ | ⟨_, o, s, e⟩)
 ·
  injection e with e; injection e with e; omega
 ·
  refine hg b ?_
  have e : gA = some ⟨b, o, s⟩ := e
  rw [e]; rfl
theorem wf_mk {iA gA : Option Addr} {iC gC : Nat} {inp : Tx} {a b c d : Nat} {img : List Nat} (ha : a < 65536) (hb : b < 65536) (hc : c < 65536) (hd : d < 65536) (hi : ∀ x, x ∈ img → x < 18446744073709551616) : wfT ⟨iA, iC, inp, ((a : Nat) : Int), ((b : Nat) : Int), gA, gC, img, ((c : Nat) : Int), ((d : Nat) : Int)⟩ := by
 refine ⟨?_, ?_, ?_, ?_, hi⟩ <;> (unfold b64; simp only; omega)

end Go.Proofs.YtlkjhkennbdbnaaV
