/- The document's texts in one sentence each, apart from an order's blocks; what the two have to do with one another. -/
import Derived.Test.YthfjceemphhgcaaU1
set_option linter.unusedVariables false
set_option linter.unusedSimpArgs false
namespace Go.Proofs.YthfjceemphhgcaaV
open Go Go.RowKit Go.Proofs

/-- A slice that reads, of blocks of this type, none of F. -/
def RdT (F : Nat → Prop) (t : TypeId) (w : World) (n : Nat) (A : Option Addr) (cells : List Value) : Prop := RdW w 1 n A cells ∧ (0 < n → ∃ b off l, A = some ⟨b, off, none⟩ ∧ Blk w b t l ∧ ¬ F b)
section
variable {F : Nat → Prop} {t : TypeId} {w w' : World} {n : Nat} {A : Option Addr} {cells : List Value}
theorem RdT.tchG {F' S : Nat → Prop} (h : RdT F t w n A cells) (k : Tch S w w') (hS : ∀ b l, Blk w b t l → ¬ F b → ¬ S b ∧ ¬ F' b) : RdT F' t w' n A cells := by
  obtain ⟨⟨h1, h2, h3⟩, h4⟩ := h
  refine ⟨⟨h1, h2, fun hn => ?_⟩, fun hn => ?_⟩
  · obtain ⟨b, off, l, e, hb, hf⟩ := h4 hn
    obtain ⟨b2, off2, e2, hb2, hc⟩ := h3 hn
    rw [e] at e2
    injection e2 with e2
    injection e2 with e3 e4
    subst e3 e4
    exact ⟨b, off, e, Nat.lt_of_lt_of_le hb2 k.size, fun j u hu => (cell_tch k hb2 (hS b l hb hf).1).trans (hc j u hu)⟩
  · obtain ⟨b, off, l, e, hb, hf⟩ := h4 hn
    exact ⟨b, off, l, e, hb.tch k (hS b l hb hf).1, (hS b l hb hf).2⟩
theorem RdT.tch0 (h : RdT F t w n A cells) (k : Tch N0 w w') : RdT F t w' n A cells := h.tchG k fun b l _ hf => ⟨fun e => e, hf⟩
theorem RdT.tchF (h : RdT F t w n A cells) (k : Tch F w w') : RdT F t w' n A cells := h.tchG k fun b l _ hf => ⟨hf, hf⟩
theorem RdT.mv {F' : Nat → Prop} (h : RdT F t w n A cells) (k : Mv F F' w w') : RdT F' t w' n A cells := h.tchG k.1 fun b l hb hf => ⟨hf, fun e => (k.2 b e).elim hf (fun q => by have := hb.lt; omega)⟩
theorem RdT.of_blk {b : Nat} {sp : List Value} (h : Blk w b t (cells ++ sp)) (hl : cells.length = n) (hn : n ≤ 1048576) (hF : ¬ F b) : RdT F t w n (some ⟨b, 0, none⟩) cells :=
  ⟨h.rdP 1 n (by omega) (by omega), fun _ => ⟨b, 0, _, rfl, h, hF⟩⟩
theorem RdT.of_own {base c : Nat} (h : Own w base t 1 (.slice A n c) n cells) (hn : n ≤ 1048576) (hF : ∀ b, F b → b < base) : RdT F t w n A cells := by
  refine ⟨?_, fun h0 => ?_⟩
  · obtain ⟨A', c', e, hr⟩ := h.rd
    injection e with e1 e2 e3
    subst e1
    exact hr
  · obtain ⟨g, sp, e, hb, _⟩ := h.blk1 h0
    refine ⟨g, 0, _, e, hb, fun hf => ?_⟩
    have h1 := h.base_le g (by rw [e]; rfl)
    have h2 := hF g hf
    omega
end
def PushW (n : Nat) (wt : List Bool) (v : Int) (r : Bool) (wt' : List Bool) : Prop := (r = true ∧ 0 ≤ v ∧ v < n ∧ wt.getD v.toNat false = false ∧ wt' = wt.set v.toNat true) ∨ (r = false ∧ ((v < 0 ∨ (n : Int) ≤ v) ∨ wt.getD v.toNat false = true) ∧ wt' = wt)
section
variable (F : Nat → Prop) (n : Nat) (A B : Option Addr) (ca cb : Nat) (ac : List Int) (wt : List Bool)
theorem rpush_ok (v : Int) (w : World) (hFl : ∀ b, F b → b < w.heap.size) (hA : RdT F 3 w n A (ints .i64 ac)) (hB : RdT F 4 w n B (boolsV wt)) (hn : n ≤ 1048576) :
    Ret Try.prog 29 [.agg #[.slice A n ca, .slice B n cb], .int .i64 v] w fun x w' => ∃ r B' cb' wt', x = .tuple #[.agg #[.slice A n ca, .slice B' n cb'], .bool r] ∧ RdT F 4 w' n B' (boolsV wt') ∧ Tch N0 w w' ∧ PushW n wt v r wt' := by
  by_cases hv : (v < 0 ∨ (n : Int) ≤ v) ∨ wt.getD v.toNat false = true
  · exact (rpush_no n A B ca cb ac wt v w hA.1 hB.1 hn hv).mono fun _ _ ⟨e, hT⟩ => ⟨_, B, cb, wt, e, hB.tch0 hT, hT, .inr ⟨rfl, hv, rfl⟩⟩
  · obtain ⟨x, rfl⟩ : ∃ x : Nat, v = x := ⟨v.toNat, by omega⟩
    have hw : wt.getD x false = false := by
      cases hh : wt.getD x false with
      | false => rfl
      | true => exact absurd (.inr (by rw [Int.toNat_natCast]; exact hh)) hv
    have hl := hB.1.lenb
    exact (rpush_yes n A B ca cb ac wt x w hA.1 hB.1 hn (by omega) hw).mono fun _ _ ⟨g, cp, sp, e, hb, hg, hT⟩ =>
      ⟨_, _, _, _, e, RdT.of_blk hb (by rw [boolsV_length, List.length_set, hl]) hn (fun q => by have := hFl _ q; omega), hT, .inl ⟨rfl, by omega, by omega, by rw [Int.toNat_natCast]; exact hw, by rw [Int.toNat_natCast]⟩⟩
theorem best_ex : ∀ v, ∃ a, BestB ac wt v a := by
  intro v
  induction v with
  | zero => exact ⟨_, .zero ac wt⟩
  | succ v ih =>
    obtain ⟨a, h⟩ := ih
    cases hw : wt.getD v false with
    | false => exact ⟨a, h.skip hw⟩
    | true =>
      by_cases ha : a < 0
      · exact ⟨_, h.first hw ha⟩
      · by_cases hc : ac.getD a.toNat 0 < ac.getD v 0
        · exact ⟨_, h.take hw (by omega) hc⟩
        · exact ⟨a, h.keep (by omega) (by omega)⟩
def PopW (a : Int) (r : Bool) (wt' : List Bool) : Prop := (r = true ∧ ∃ x : Nat, a = x ∧ x < n ∧ wt.getD x false = true ∧ (∀ y, y < n → wt.getD y false = true → y ≠ x → HeapP.lt ac x y) ∧ wt' = wt.set x false) ∨ (r = false ∧ a = -1 ∧ (∀ y, y < n → wt.getD y false = false) ∧ wt' = wt)
theorem rpop_ok (w : World) (hFl : ∀ b, F b → b < w.heap.size) (hA : RdT F 3 w n A (ints .i64 ac)) (hB : RdT F 4 w n B (boolsV wt)) (hn : n ≤ 1048576) :
    Ret Try.prog 30 [.agg #[.slice A n ca, .slice B n cb]] w fun x w' => ∃ a r B' cb' wt', x = .tuple #[.agg #[.slice A n ca, .slice B' n cb'], .int .i64 a, .bool r] ∧ RdT F 4 w' n B' (boolsV wt') ∧ Tch N0 w w' ∧ PopW n ac wt a r wt' := by
  obtain ⟨a, h⟩ := best_ex ac wt n
  have hl := hB.1.lenb
  rcases h with ⟨h1, h2⟩ | ⟨h1, h2, h3, h4⟩
  · exact (rpop_no n A B ca cb ac wt w hA.1 hB.1 hn h2).mono fun _ _ ⟨e, hT⟩ => ⟨_, _, B, cb, wt, e, hB.tch0 hT, hT, .inr ⟨rfl, rfl, h2, rfl⟩⟩
  · exact (rpop_yes n A B ca cb ac wt a.toNat w hA.1 hB.1 hn h2 h3 h4).mono fun _ _ ⟨g, cp, sp, e, hb, hg, hT⟩ =>
      ⟨_, _, _, _, _, e, RdT.of_blk hb (by rw [boolsV_length, List.length_set, hl]) hn (fun q => by have := hFl _ q; omega), hT, .inl ⟨rfl, a.toNat, rfl, h2, h3, h4, rfl⟩⟩
theorem rbump_ok (v d : Int) (w : World) (hFl : ∀ b, F b → b < w.heap.size) (hA : RdT F 3 w n A (ints .i64 ac)) (hB : RdT F 4 w n B (boolsV wt)) (hn : n ≤ 1048576) (hac : okA ac) :
    Ret Try.prog 31 [.agg #[.slice A n ca, .slice B n cb], .int .i64 v, .int .i64 d] w fun x w' => ∃ r A' ca' ac', x = .tuple #[.agg #[.slice A' n ca', .slice B n cb], .bool r] ∧ RdT F 3 w' n A' (ints .i64 ac') ∧ Tch N0 w w' ∧ BumpR n ac v d r ac' := by
  by_cases hv : v < 0 ∨ (n : Int) ≤ v
  · exact (rbump_no n A B ca cb ac wt v d w hA.1 hB.1 hn hv).mono fun _ _ ⟨e, hT⟩ => ⟨_, A, ca, ac, e, hA.tch0 hT, hT, .inr ⟨rfl, hv, rfl⟩⟩
  · obtain ⟨x, rfl⟩ : ∃ x : Nat, v = x := ⟨v.toNat, by omega⟩
    have hl := hA.1.len
    exact (rbump_yes n A B ca cb ac wt x d w hA.1 hB.1 hn hac (by omega)).mono fun _ _ ⟨g, cp, sp, e, hb, hg, hT⟩ =>
      ⟨_, _, _, _, e, RdT.of_blk hb (by rw [ints_length, List.length_set, hl]) hn (fun q => by have := hFl _ q; omega), hT, .inl ⟨rfl, by omega, by omega, by rw [Int.toNat_natCast]⟩⟩
theorem rhalve_T (w : World) (hFl : ∀ b, F b → b < w.heap.size) (hA : RdT F 3 w n A (ints .i64 ac)) (hB : RdT F 4 w n B (boolsV wt)) (hn : n ≤ 1048576) (hac : okA ac) :
    Ret Try.prog 32 [.agg #[.slice A n ca, .slice B n cb]] w fun x w' => ∃ A' ca', x = .agg #[.slice A' n ca', .slice B n cb] ∧ RdT F 3 w' n A' (ints .i64 (HeapP.halveL ac)) ∧ Tch N0 w w' :=
  (rhalve_ok n A B ca cb ac wt w hA.1 hB.1 hn hac).mono fun _ _ ⟨A', ca', e, ho, hT⟩ => ⟨A', ca', e, RdT.of_own ho hn hFl, hT⟩
end
/-- The order and the document's O say the same. -/
def Rel (n : Nat) (hp : List Nat) (wt : List Bool) : Prop := wt.length = n ∧ ∀ v, v < n → wt.getD v false = decide (v ∈ hp)
theorem setB (l : List Bool) (i j : Nat) (x : Bool) (hi : i < l.length) : (l.set i x).getD j false = if j = i then x else l.getD j false := by
  simp only [List.getD_eq_getElem?_getD, List.getElem?_set]
  by_cases h : i = j
  · subst h; simp [hi]
  · simp [h, Ne.symm h]
theorem Rel.perm {n : Nat} {hp hp' : List Nat} {wt : List Bool} (h : Rel n hp wt) (hq : hp'.Perm hp) : Rel n hp' wt := ⟨h.1, fun v hv => by rw [h.2 v hv]; simp [hq.mem_iff]⟩
theorem Rel.push {n : Nat} {hp hp' : List Nat} {wt wt' : List Bool} {v : Int} {r r2 : Bool} (h : Rel n hp wt) (h1 : PushR n hp v r hp') (h2 : PushW n wt v r2 wt') : r = r2 ∧ Rel n hp' wt' := by
  rcases h1 with ⟨rfl, a1, a2, a3, a4⟩ | ⟨rfl, a1, rfl⟩
  · have e := h.2 v.toNat (by omega)
    rcases h2 with ⟨rfl, b1, b2, b3, rfl⟩ | ⟨rfl, b1, rfl⟩
    · refine ⟨rfl, by rw [List.length_set]; exact h.1, fun y hy => ?_⟩
      rw [setB _ _ _ _ (by have := h.1; omega)]
      by_cases q : y = v.toNat
      · subst q; simp [a4.mem_iff]
      · rw [if_neg q, h.2 y hy]; simp [a4.mem_iff, q]
    · rcases b1 with b1 | b1
      · omega
      · rw [b1] at e; simp [a3] at e
  · rcases h2 with ⟨rfl, b1, b2, b3, rfl⟩ | ⟨rfl, b1, rfl⟩
    · rcases a1 with a1 | a1
      · omega
      · have e := h.2 v.toNat (by omega)
        rw [b3] at e; simp [a1] at e
    · exact ⟨rfl, h⟩
theorem Rel.pop {n : Nat} {hp hp' : List Nat} {ac : List Int} {wt wt' : List Bool} {a a2 : Int} {r r2 : Bool} (h : Rel n hp wt) (hd : hp.Nodup) (hlt : ∀ x, x ∈ hp → x < n) (h1 : PopR ac hp a r hp') (h2 : PopW n ac wt a2 r2 wt') : a = a2 ∧ r = r2 ∧ Rel n hp' wt' := by
  rcases h1 with ⟨rfl, x, rfl, a1, a2, a3⟩ | ⟨rfl, rfl, rfl, rfl⟩
  · have ex := h.2 x (hlt x a1)
    simp only [a1, decide_true] at ex
    rcases h2 with ⟨rfl, y, rfl, b1, b2, b3, rfl⟩ | ⟨rfl, rfl, b1, rfl⟩
    · have ey := h.2 y b1
      rw [b2] at ey
      have hy : y ∈ hp := by simpa using ey.symm
      have exy : x = y := by
        by_cases q : x = y
        · exact q
        · exact absurd (a3 y hy (fun e => q e.symm)) ((HeapP.lt_strict ac).asym (b3 x (hlt x a1) ex q))
      subst exy
      refine ⟨rfl, rfl, by rw [List.length_set]; exact h.1, fun z hz => ?_⟩
      have hd2 := a2.nodup_iff.2 hd
      rw [List.nodup_cons] at hd2
      rw [setB _ _ _ _ (by have := h.1; omega)]
      by_cases q : z = x
      · subst q; simp [hd2.1]
      · rw [if_neg q, h.2 z hz]
        have := a2.mem_iff (a := z)
        simp only [List.mem_cons] at this
        simp [← this, q]
    · rw [b1 x (hlt x a1)] at ex; cases ex
  · rcases h2 with ⟨rfl, y, rfl, b1, b2, b3, rfl⟩ | ⟨rfl, rfl, b1, rfl⟩
    · rw [h.2 y b1] at b2; simp at b2
    · exact ⟨rfl, rfl, h⟩
theorem BumpR.same {n : Nat} {ac a1 a2 : List Int} {v d : Int} {r r2 : Bool} (h1 : BumpR n ac v d r a1) (h2 : BumpR n ac v d r2 a2) : r = r2 ∧ a1 = a2 := by
  rcases h1 with ⟨rfl, x1, x2, rfl⟩ | ⟨rfl, x1, rfl⟩ <;> rcases h2 with ⟨rfl, y1, y2, rfl⟩ | ⟨rfl, y1, rfl⟩
  · exact ⟨rfl, rfl⟩
  · omega
  · omega
  · exact ⟨rfl, rfl⟩
theorem bumpA_ok {a d : Int} (h : 0 ≤ a ∧ a ≤ 1099511627776) : 0 ≤ HeapP.bumpA a d ∧ HeapP.bumpA a d ≤ 1099511627776 := by
  unfold HeapP.bumpA
  split
  · omega
  · split <;> omega
theorem BumpR.ok {n : Nat} {ac a1 : List Int} {v d : Int} {r : Bool} (h1 : BumpR n ac v d r a1) (hl : ac.length = n) (h : okA ac) : okA a1 := by
  rcases h1 with ⟨rfl, x1, x2, rfl⟩ | ⟨rfl, x1, rfl⟩
  · have := bumpA_ok (d := d) (h v.toNat)
    exact h.set (by omega) this.1 this.2
  · exact h
theorem RdT.tch1 {F : Nat → Prop} {t : TypeId} {w w' : World} {n : Nat} {A : Option Addr} {cells : List Value} (h : RdT F t w n A cells) {b t' : Nat} {l : List Value} (hb : Blk w b t' l) (hne : t' ≠ t) (k : Tch (one b) w w') : RdT F t w' n A cells :=
  h.tchG k fun c l' hc hf => ⟨fun e => hb.ne hc hne e.symm, hf⟩
theorem Ord.tchS {F S : Nat → Prop} {w w' : World} {p n : Nat} {hp : List Nat} {ac : List Int} (h : Ord F w p n hp ac) (k : Tch S w w') (hS : ∀ c, S c → F c → False) : Ord F w' p n hp ac := by
  obtain ⟨A, cp, bat, bac, at_, hP, hO, hT, hC, h1, h2, h3, h4, h5, h6, h7⟩ := h
  exact ⟨A, cp, bat, bac, at_, hP.tch k (fun e => hS _ e h3), hO.tch k (fun c hc e => hS c e (h1 c hc).2.2), hT.tch k (fun e => hS _ e h4), hC.tch k (fun e => hS _ e h5), h1, h2, h3, h4, h5, fun b hb => Nat.lt_of_lt_of_le (h6 b hb) k.size, h7⟩
def DoR (F : Nat → Prop) (w : World) (p n : Nat) (hp : List Nat) (ac ac2 : List Int) (wt : List Bool) (x : Value) (w' : World) : Prop :=
  ∃ F' hp' ac' A' B' ca' cb' ac2' wt' r, x = .tuple #[.agg #[.slice A' n ca', .slice B' n cb'], .bool r] ∧ Ord F' w' p n hp' ac' ∧ RdT F' 3 w' n A' (ints .i64 ac2') ∧ RdT F' 4 w' n B' (boolsV wt') ∧ okA ac2' ∧ Mv F F' w w' ∧ (ac2 = ac → Rel n hp wt → r = true ∧ ac2' = ac' ∧ Rel n hp' wt')
end Go.Proofs.YthfjceemphhgcaaV
