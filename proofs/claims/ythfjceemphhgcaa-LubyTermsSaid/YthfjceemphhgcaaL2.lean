/- A range over an endless iterator that the body leaves: one rule, and luby.Row by it. -/
import Derived.RangeFuncNested
import Derived.RangeFuncBound
import Derived.RangeFuncCalls
import Derived.RangeFuncLeaves
import Derived.RangeFuncBox
import Derived.Shelf.Abstract
import Derived.Shelf.RegionOpen
import Derived.WalkKit
import Derived.OwnWalkIn
import Derived.TacticsInMore
import Derived.LoopNIn
import Derived.LoopIn
import Derived.Maps.AppendAt
import Derived.Test.YthfjceemphhgcaaL1
set_option linter.unusedVariables false
set_option linter.unusedSimpArgs false
namespace Go.Proofs.YthfjceemphhgcaaV
open Go Go.RowKit Go.Shelf Go.Proofs
attribute [local go_sem] Oper.semAt_some

/-- An iterator that hands out 'encs 0', 'encs 1', .. until a round says 'no more', which one does after at most N. -/
def SeqN (F : Fence) (n : Nat) (P : Program) (g : Nat) (lb : Array Value) (encs : Nat → Array Value) (N : Nat) (w : World) : Prop :=
  ∀ (l : Nat) (J Jx : Nat → World → Prop) (W : World), Below w.heap.size w W → AbidesFrom W.heap.size J → AbidesFrom W.heap.size Jx →
    (∀ k W1, J k W1 → YieldAt F (n - 1) P l (encs k) W1 fun e W' =>
      (e = .returned (.bool true) ∧ J (k + 1) W' ∧ KeepsWalks W1 W') ∨ (e = .returned (.bool false) ∧ Jx (k + 1) W')) →
    (∀ k W1, J k W1 → k ≤ N) → J 0 W →
    CallsIn F n P g (#[.func (.yield l) #[] #[]] ++ lb) W fun e W' => (∃ v, e = .returned v) ∧ ∃ k, Jx k W'
/-- How a round ends. -/
def rndPost (I : Nat → World → Prop) (Ix : Nat → Nat → World → Prop) (k : Nat) (W : World) : Exit → Act → World → Prop
  | .normal, _, W' => KeepsOthers W W' ∧ I (k + 1) W'
  | .exit i, _, W' => KeepsOthers W W' ∧ Ix i (k + 1) W'
  | _, _, _ => False

theorem rangeN {F : Fence} {n : Nat} {P : Program} {g : Operand} {ps : Array Tmp} {assign body : Code} {Q : Exit → Act → World → Prop} {a : Act} {w : World}
    (hro : F.round = none) (h1 : 1 ≤ n) {gf : Nat} {lb : Array Value} (hg : a.eval g = .func (.func gf) #[] lb) (hFg : F.fn gf) (eg : ∀ args w, (callFunc gf args).run P w = .ok (.enter gf args) w)
    {encs : Nat → Array Value} {N : Nat} {w0 : World} (hseq : SeqN F (n - 1) P gf lb encs N w0) (hb0 : Below w0.heap.size w0 w) (hps : ∀ x, (encs x).size = ps.size)
    (I : Nat → World → Prop) (Ix : Nat → Nat → World → Prop) (hI : OwnFrom w.heap.size I) (hIx : ∀ c, OwnFrom w.heap.size (Ix c)) (h0 : I 0 w) (hN : ∀ k W, I k W → k ≤ N) (a₁ : Nat → Act)
    (hassign : ∀ (l k : Nat) (W : World) (K : Act → World → Prop), K (a₁ k) W →
      assign.wpIn (F.inRound l) (n - 1 - 1) P (Exit.then K (fun _ _ _ => False)) { tmps := (ps.zip (encs k)).foldl (fun t (p, v) => t.setIfInBounds p v) a.tmps, defers := [] } W)
    (hbody : ∀ (l k : Nat) (W : World), I k W → body.wpIn (F.inRound l) (n - 1 - 1) P (rndPost I Ix k W) (a₁ k) W)
    (hstop : ∀ (D i k : Nat) (W : World), w.heap.size ≤ D → Ix i k W → W.heap[D]? = some (.deferred (some [])) → (Code.exit i).wpIn F n P Q { a with defers := { target := .collected D, args := #[] } :: a.defers } W) :
    (Code.rangeFunc g ps assign body).wpIn F n P Q a w := by
  refine wpIn_rangeFunc ?_
  intro fn hfn
  rw [hro]
  let rec_ : LoopState → Option Code → Loop := fun st pe => { state := st, pending := pe, fn, tmps := a.tmps, params := ps, assign, body, defers := w.heap.size }
  obtain ⟨rec, hrec⟩ : ∃ rec : LoopState → Option Code → Loop, rec = rec_ := ⟨_, rfl⟩
  obtain ⟨W1, hW1⟩ : ∃ W1, (w.alloc (.deferred (some []))).alloc (.loop (rec .ready none)) = W1 := ⟨_, rfl⟩
  have hL1 : W1.heap[w.heap.size + 1]? = some (.loop (rec .ready none)) := by
    have := World.alloc_heap_new (w.alloc (.deferred (some []))) (.loop (rec .ready none))
    rw [World.size_alloc, hW1] at this
    exact this
  have hK1 : W1.heap[w.heap.size]? = some (.deferred (some [])) := by
    rw [← hW1]; exact (Below.heap_alloc _ _ _ (by simp)).trans (World.alloc_heap_new w _)
  have hb1 : Below w0.heap.size w0 W1 := by
    rw [← hW1]; exact hb0.trans ((((Below.refl _ w).alloc (Nat.le_refl _) _).alloc (by simp) _).mono hb0.size)
  have hs1 : w.heap.size ≤ W1.heap.size := by rw [← hW1]; simp; omega
  refine ⟨w.heap.size + 1, [{ target := .collected w.heap.size, args := #[] }], W1, { target := .fn (.func gf) lb, args := #[.func (.yield (w.heap.size + 1)) #[] #[]] }, W1, gf, #[.func (.yield (w.heap.size + 1)) #[] #[]] ++ lb, W1, ?_, ?_, ?_, ?_, fun _ => h1, ?_⟩
  · rw [← hW1, hrec]; exact run_enterLoop_outer _ _ _ _ _
  · simp only [resolve, hg]
    simp [go_sem]
  · intro f' hf'; simp [Target.leads] at hf'; subst hf'; exact hFg
  · simp [invoke, go_sem, eg]
  have hnw : ∀ {A : World} {row : Option Nat}, (∀ r, row = some r → W1.heap.size ≤ r ∧ ∃ o : Obj, A.heap[r]? = some o ∧ o.isWalk = true) → (∀ r, row = some r → w.heap.size ≤ r ∧ ∃ o : Obj, A.heap[r]? = some o ∧ o.isCells = false) :=
    fun hr r e => by obtain ⟨hB, o, ho, hw⟩ := hr r e; exact ⟨by omega, o, ho, Obj.not_cells_of_walk hw⟩
  refine (hseq (w.heap.size + 1)
    (fun k W => I k W ∧ W.heap[w.heap.size + 1]? = some (.loop (rec .ready none)) ∧ W.heap[w.heap.size]? = some (.deferred (some [])))
    (fun k W => ∃ i, Ix i k W ∧ W.heap[w.heap.size + 1]? = some (.loop (rec .done (some (.exit i)))) ∧ W.heap[w.heap.size]? = some (.deferred (some [])))
    W1 hb1 ?_ ?_ ?_ (fun k W h => hN k W h.1) ⟨by rw [← hW1]; exact hI.alloc _ (hI.alloc _ h0), hL1, hK1⟩).mono ?_
  · exact fun s A B row hs hg' hr => ⟨hI s A B row hs.1 hg' (hnw hr), (grownBy_keeps hg' (fun r e => (hr r e).2) hs.2.1 rfl).trans hs.2.1, (grownBy_keeps hg' (fun r e => (hr r e).2) hs.2.2 rfl).trans hs.2.2⟩
  · rintro s A B row ⟨i, hc, hl, hk⟩ hg' hr
    exact ⟨i, hIx i s A B row hc hg' (hnw hr), (grownBy_keeps hg' (fun r e => (hr r e).2) hl rfl).trans hl, (grownBy_keeps hg' (fun r e => (hr r e).2) hk rfl).trans hk⟩
  · rintro k W ⟨hi, hl, hk⟩
    have hlt : w.heap.size + 1 < W.heap.size := (Array.getElem?_eq_some_iff.1 hl).1
    have hy := run_yield (P := P) (args := encs k) hl (by rw [hrec]; exact hps k)
    rw [hrec] at hy
    refine ⟨fn, _, assign, body, hy, roundIn_of_wpIn hfn (hassign _ k W _ ⟨_, run_beginRound hl (by rw [hrec]), ?_⟩)⟩
    have hl2 : (W.putObj (w.heap.size + 1) (.loop { rec .ready none with state := .busy })).heap[w.heap.size + 1]? = some (.loop { rec .ready none with state := .busy }) := World.putObj_heap_same hlt
    have hk2 : (W.putObj (w.heap.size + 1) (.loop { rec .ready none with state := .busy })).heap[w.heap.size]? = some (.deferred (some [])) := (World.putObj_heap_other (by omega)).trans hk
    have hw2 : KeepsWalks W (W.putObj (w.heap.size + 1) (.loop { rec .ready none with state := .busy })) := KeepsWalks.putObj _ hl rfl
    refine wpIn_mono (hbody _ k _ (hI.putObj _ hi (by omega) hl rfl)) ?_
    have fin : ∀ (jump : Option Code) (W3 : World), KeepsOthers (W.putObj (w.heap.size + 1) (.loop { rec .ready none with state := .busy })) W3 →
        (Instr.endRound (w.heap.size + 1) jump).run P W3 = .ok (.bool jump.isNone) (W3.putObj (w.heap.size + 1) (.loop (rec (if jump.isNone then .ready else .done) jump))) ∧
        W3.heap[w.heap.size + 1]? = some (.loop { rec .ready none with state := .busy }) ∧
        (W3.putObj (w.heap.size + 1) (.loop (rec (if jump.isNone then .ready else .done) jump))).heap[w.heap.size + 1]? = some (.loop (rec (if jump.isNone then .ready else .done) jump)) ∧
        (W3.putObj (w.heap.size + 1) (.loop (rec (if jump.isNone then .ready else .done) jump))).heap[w.heap.size]? = some (.deferred (some [])) := fun jump W3 hk3 => by
      have hl3 := hk3.same _ _ hl2 rfl
      have h5 := run_endRound (P := P) jump hl3
      rw [hrec] at h5 ⊢
      exact ⟨h5, by rw [hrec] at hl3; exact hl3, World.putObj_heap_same (Array.getElem?_eq_some_iff.1 hl3).1, (World.putObj_heap_other (by omega)).trans (hk3.same _ _ hk2 rfl)⟩
    rintro e a3 W3 hp
    cases e with
    | normal =>
      obtain ⟨hk3, hi3⟩ := hp
      obtain ⟨hr, hl3, hl4, hk4⟩ := fin none W3 hk3
      exact ⟨_, _, hr, .inl ⟨rfl, ⟨hI.putObj _ hi3 (by omega) hl3 rfl, hl4, hk4⟩, (hw2.trans hk3.walks).trans (KeepsWalks.putObj _ hl3 rfl)⟩⟩
    | exit i =>
      obtain ⟨hk3, hi3⟩ := hp
      obtain ⟨hr, hl3, hl4, hk4⟩ := fin (some (.exit i)) W3 hk3
      exact ⟨_, _, hr, .inr ⟨rfl, i, (hIx i).putObj _ hi3 (by omega) hl3 rfl, hl4, hk4⟩⟩
    | ret => exact hp.elim
    | goto t => exact hp.elim
    | panic ch => exact hp.elim
    | outgrown => exact hp.elim
  · rintro e W2 ⟨⟨v, rfl⟩, k, i, hi, hl, hk⟩
    exact ⟨some (.exit i), _, by have := run_endLoop (P := P) hl (by rw [hrec]; simp [rec_]); rw [hrec] at this; exact this, hstop _ i k _ (by omega) ((hIx i).putObj _ hi (by omega) hl rfl) ((World.putObj_heap_other (by omega)).trans hk)⟩

theorem termC (i : Int) (w : World) : Calls Try.prog 9 #[.int .i64 i] w fun e w' => e = .returned (.int .i64 (LubyP.term i)) ∧ w = w' :=
  Calls.mono (lubyTerm_same i w) fun e w' ⟨v, h1, h2, h3⟩ => ⟨by rw [h1, h2], h3⟩
def encT (k : Nat) : Array Value := #[.int .i64 ((k : Int) + 1), .int .i64 (LubyP.term ((k : Int) + 1))]
set_option maxRecDepth 100000 in
set_option maxHeartbeats 1000000 in
theorem terms_seq (n : Nat) (w : World) : SeqN Fence.wide n Try.prog 37 #[] encT 100001 w := fun l J Jx W _ _ _ hY hN h0 => by
  refine callsIn_of_wp Try.func37 rfl trivial ?_ rfl
  simp only [Try.ntmps37, List.size_toArray, List.length_cons, List.length_nil, Nat.reduceAdd, Nat.reduceSub, Array.replicate_succ, Array.replicate_zero, List.push_toArray, List.append_toArray, List.nil_append, List.cons_append]
  gi_wp2
  gi_loopw [2] (fun i wr => ∃ k : Nat, i = .int .i64 ((k : Int) + 1) ∧ J k wr) (fun i _ => 100003 - (intOf i).toNat)
  case atStart => exact ⟨0, rfl, h0⟩
  case round =>
    obtain ⟨k, rfl, hJk⟩ := hrel
    have hk := hN k _ hJk
    obtain ⟨fn, tmps, assign, body, hy, hR⟩ := hY k wr hJk
    unfold encT at hy
    gi_wp2_with (refine ⟨trivial, (by intro h; cases h), ?_⟩; refine (callsIn_wide.2 (termC _ _)).mono ?_; rintro e w' ⟨rfl, rfl⟩)
    refine ⟨(by intro h; cases h), hR.mono ?_⟩
    rintro e W' (⟨rfl, hJ', _⟩ | ⟨rfl, hJx'⟩)
    · gi_wp2
      go_roundw
      case rel => exact ⟨k + 1, by go_num, hJ'⟩
      case measure => simp [intOf]; omega
    · gi_wp2
      go_end0
      exact ⟨⟨_, rfl⟩, k + 1, hJx'⟩
def GT : Prop := True
theorem gt : GT := trivial
def G0 (w : World) (v : Value) : Prop := ∀ g, v.ownBlock = some g → w.heap.size + 2 ≤ g
theorem ownsRow_rebase {w : World} {base base' e sz n : Nat} {v : Value} {xs : List Value} (h : w.ownsRow base e sz v n xs) (hb : ∀ g, v.ownBlock = some g → base' ≤ g) : w.ownsRow base' e sz v n xs := by
  obtain ⟨hl, h2⟩ := h
  refine ⟨hl, ?_⟩
  rcases h2 with h2 | ⟨g, cap, cur, rfl, _, h3⟩
  · exact .inl h2
  · exact .inr ⟨g, cap, cur, rfl, hb g rfl, h3⟩
theorem many_of {n : Int} {k : Nat} (h1 : k ≤ 100000) (h2 : k = 0 ∨ (k : Int) ≤ n) (h3 : n < (k : Int) + 1 ∨ 100000 < (k : Int) + 1) : LubyP.many n = k := by
  unfold LubyP.many; omega
theorem Try_infoI : (Try.prog.info? 3).map (fun i => (i.zero, i.size, i.bytes)) = some (some (.int .i64 0), 1, 8) := by kernel_rfl
theorem termsC (w : World) : Calls Try.prog 28 #[] w fun e w' => e = .returned (.func (.func 37) #[] #[]) ∧ w = w' := by
  go_enter Try.func28, Try.ntmps28
  go_wp2
  go_ret
  exact ⟨rfl, rfl⟩
set_option maxRecDepth 100000 in
set_option maxHeartbeats 2000000 in
theorem rowC (n : Int) (w : World) (hn : n ≤ 9223372036854775806) : Calls Try.prog 13 #[.int .i64 n] w fun e w' => ∃ v, e = .returned v ∧ w'.ownsRow w.heap.size 3 1 v (LubyP.many n) (ints .i64 (LubyP.row n)) ∧ Below w.heap.size w w' := by
  refine (callsIn_wide (n := 5)).1 ?_
  obtain ⟨i0, hi, hz0, hz1, hz2⟩ := info_parts Try_infoI
  refine callsIn_of_wp_marks Try.func13 rfl trivial ?_ rfl
  simp only [Try.ntmps13, List.size_toArray, List.length_cons, List.length_nil, Nat.reduceAdd, Nat.reduceSub, Array.replicate_succ, Array.replicate_zero, List.push_toArray, List.append_toArray, List.nil_append, List.cons_append]
  gi_wp2_with (refine ⟨trivial, ?_⟩; refine (callsIn_wide.2 (termsC _)).mono ?_; rintro e w' ⟨rfl, rfl⟩)
  have bO := Boxed.new (w.alloc (.cells #[.int .i64 n] 3)) 26 (.slice none 0 0)
  rw [World.size_alloc] at bO
  have cN : ((w.alloc (.cells #[.int .i64 n] 3)).alloc (.cells #[.slice none 0 0] 26)).cell? ⟨w.heap.size, 0, none⟩ = some (.int .i64 n) := by simp
  have hB0 : Below w.heap.size w ((w.alloc (.cells #[.int .i64 n] 3)).alloc (.cells #[.slice none 0 0] 26)) := ((Below.refl _ w).alloc (Nat.le_refl _) _).alloc (by simp) _
  refine rangeN rfl (by omega) (gf := 37) (lb := #[]) rfl trivial (enters_of Try.func37 (by kernel_rfl) rfl) (terms_seq 4 _) (Below.refl _ _) (fun _ => rfl)
    (fun k W => ((∃ v, Boxed W (w.heap.size + 1) 26 v ∧ W.ownsRow w.heap.size 3 1 v k (ints .i64 (LubyP.rowTo k)) ∧ G0 w v) ∧ W.cell? ⟨w.heap.size, 0, none⟩ = some (.int .i64 n)) ∧ Below w.heap.size w W ∧ (k ≤ 100000 ∧ (k = 0 ∨ (k : Int) ≤ n)))
    (fun i k W => (∃ v, Boxed W (w.heap.size + 1) 26 v ∧ W.ownsRow w.heap.size 3 1 v (LubyP.many n) (ints .i64 (LubyP.row n)) ∧ GT) ∧ Below w.heap.size w W ∧ i = 0)
    (OwnFrom.and (Own.from (fun s A B row hs hg hr => ⟨holdsRow_own w.heap.size (w.heap.size + 1) 26 3 1 (fun k : Nat => k) (fun k => ints .i64 (LubyP.rowTo k)) (fun _ v => G0 w v) s A B row hs.1 hg hr, cell_kept hs.2 hg hr⟩) _) (OwnFrom.and (ownFrom_below (Nat.le_refl _) (by simp; omega)) (ownFrom_pure _ _)))
    (fun i => OwnFrom.and (Own.from (holdsRow_own w.heap.size (w.heap.size + 1) 26 3 1 (fun k : Nat => LubyP.many n) (fun k => ints .i64 (LubyP.row n)) (fun _ _ => GT)) _) (OwnFrom.and (ownFrom_below (Nat.le_refl _) (by simp; omega)) (ownFrom_pure _ _)))
    ⟨⟨⟨_, bO, World.ownsRow_nil _ _ _ _, (fun g h => by cases h)⟩, cN⟩, hB0, by omega, .inl rfl⟩ (fun k W h => by have := h.2.2.1; omega)
    (fun k => { tmps := #[.int .i64 n, .pointer (some ⟨w.heap.size, 0, none⟩), .slice none 0 0, .pointer (some ⟨w.heap.size + 1, 0, none⟩), .int .i64 ((k : Int) + 1), .int .i64 (LubyP.term ((k : Int) + 1)), .func (.func 37) #[] #[], .int .i64 ((k : Int) + 1), .int .i64 (LubyP.term ((k : Int) + 1)), undef, undef, undef, undef, undef, undef, undef, undef, undef, undef, undef, undef], defers := [] }) ?assign ?body ?stop
  case assign =>
    intro l k W K hK
    unfold encT
    gi_wp2
    exact hK
  case body =>
    rintro l k W ⟨⟨⟨v, hv, hrow, _⟩, hc⟩, hB, hk1, hk2⟩
    have hcv := hv.cell
    have hlt := hv.lt
    have hfin : (n < (k : Int) + 1 ∨ 100000 < (k : Int) + 1) → LubyP.many n = k := many_of hk1 hk2
    by_cases h1 : n < (k : Int) + 1
    · gi_wp2
      exact ⟨KeepsOthers.refl _, ⟨v, hv, (by rw [LubyP.row, hfin (.inl h1)]; exact hrow), gt⟩, hB, rfl⟩
    · by_cases h2 : 100000 < (k : Int) + 1
      · gi_wp2
        exact ⟨KeepsOthers.refl _, ⟨v, hv, (by rw [LubyP.row, hfin (.inr h2)]; exact hrow), gt⟩, hB, rfl⟩
      · clear hfin
        have hrow2 : W.ownsRow (w.heap.size + 2) 3 1 v k (ints .i64 (LubyP.rowTo k)) := ownsRow_rebase hrow ‹_›
        have hne : ∀ g, v.ownBlock = some g → w.heap.size ≠ g := fun g hg e => by have := Own.base_le hrow2 g hg; omega
        gi_wp2_with (gi_at_builtin; refine wpListIn_append_own _ rfl _ _ 26 rfl (w.heap.size + 2) 3 i0 (.int .i64 0) 1 8 Try.underlying26 hi hz0 hz1 hz2 rfl (by decide) _ _ _ rfl (hrow2.alloc _) ⟨W.heap.size, 0, none⟩ 1 1 [.int .i64 (LubyP.term ((k : Int) + 1))] rfl rfl (cell_one_new _ _ _) (by simp [Value.oneCell']) (by simp only [maxLen]; omega) (by omega) (by simp; omega) ?_; intro v' w1 hown2 hgrow _; obtain ⟨g', cap', rfl⟩ := ownsRow_succ hown2; have hG2 := Own.base_le hown2; obtain ⟨hv1, hv2, hr2, hk2', hb2⟩ := hv.appended (by decide) hrow hB.size (Nat.le_succ _) (ownsRow_rebase hown2 (fun g hg => Nat.le_trans (by omega) (hG2 g hg))) hgrow; have hc1 := hv1.cell; have hf1 := hv1.frozen)
        refine ⟨hk2', ⟨⟨_, hv2, by rw [LubyP.rowTo_succ, ints_append]; exact hr2, hG2⟩, ?_⟩, hB.trans hb2, by omega, .inr (by omega)⟩
        rw [World.cell?_setCell_other _ _ _ _ (by intro e; injection e; omega)]
        rw [World.cell?_of_block (hgrow.block w.heap.size (by simp; omega) (fun e => hne _ e.symm rfl))]
        rw [World.cell?_alloc_lt _ _ _ (by show w.heap.size < _; omega)]
        exact hc
  case stop =>
    rintro D i k W hD ⟨⟨v, hv, hrow, _⟩, hB, rfl⟩ hK
    have hcv := hv.cell
    gi_wp2
    refine ⟨by simp, .inl ⟨_, _, rfl, run_takeDeferred hK, ?_⟩⟩
    exact ⟨_, results_tmp rfl _ _ _, v, rfl, ownsRow_putObj hrow _ hK rfl, hB.trans (belowK_b (w := w) (Nat.le_refl _) W D _ _ (by simp at hD; omega) hK rfl rfl)⟩
theorem row_ok (n : Int) (w : World) (hn : n ≤ 9223372036854775806) : Ret Try.prog 13 [.int .i64 n] w fun v w' => Own w' w.heap.size 3 1 v (LubyP.many n) (ints .i64 (LubyP.row n)) ∧ Tch N0 w w' :=
  Calls.mono (rowC n w hn) fun e w' ⟨v, h1, h2, h3⟩ => ⟨v, h1, h2, Tch.of_below h3⟩
end Go.Proofs.YthfjceemphhgcaaV
