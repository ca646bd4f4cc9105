/- Gates in memory: what holds of their blocks, and how it stays. -/
import Derived.Test.YtnlecdpiccgdpaaGateA
import Derived.Test.YtnlecdpiccgdpaaGateK
import Derived.Test.YtnlecdpiccgdpaaVx6
set_option linter.unusedVariables false
set_option linter.unusedSimpArgs false
namespace Go.Proofs.YtnlecdpiccgdpaaV
open Go Go.RowKit Go.Proofs
theorem Own.ne_map {P : Program} {k : TypeId} {w : World} {base e sz n b : Nat} {v : Value} {cells : List Value} {I : Value → Value → Prop} (h : Own w base e sz v n cells) (hM : MapB P k w b I) : ∀ c, v.ownBlock = some c → c ≠ b := by
  rintro c hc rfl
  obtain ⟨hl, hc'⟩ := h
  rcases hc' with ⟨hv, _⟩ | ⟨g, cap, cur, hv, _, hgb, _⟩
  · rw [hv] at hc; cases hc
  · rw [hv] at hc
    have : g = c := by injection hc
    subst this
    obtain ⟨es, clock, hb, _⟩ := hM
    rw [hb] at hgb; cases hgb
/-- So many clauses, each in a block of its own. -/
def ClsT (F : Nat → Prop) (w : World) (Lv : List Value) (cs : List (List Nat)) : Prop := Lv.length = cs.length ∧ ∀ i, i < cs.length → ∃ g, Lv[i]? = some (.slice (some ⟨g, 0, none⟩) (cs.getD i []).length (cs.getD i []).length) ∧ F g ∧ Blk w g 3 (nats (cs.getD i []))
theorem ClsT.tch {F S : Nat → Prop} {w w' : World} {Lv : List Value} {cs : List (List Nat)} (h : ClsT F w Lv cs) (k : Tch S w w') (hs : ∀ g l, F g → Blk w g 3 l → ¬ S g) : ClsT F w' Lv cs := ⟨h.1, fun i hi => by
  obtain ⟨g, h1, h2, h3⟩ := h.2 i hi
  exact ⟨g, h1, h2, h3.tch k (hs g _ h2 h3)⟩⟩
theorem ClsT.tch0 {F : Nat → Prop} {w w' : World} {Lv : List Value} {cs : List (List Nat)} (h : ClsT F w Lv cs) (k : Tch N0 w w') : ClsT F w' Lv cs := h.tch k (fun _ _ _ _ e => e)
theorem ClsT.up {F F' : Nat → Prop} {w : World} {Lv : List Value} {cs : List (List Nat)} (h : ClsT F w Lv cs) (hF : ∀ b, F b → F' b) : ClsT F' w Lv cs := ⟨h.1, fun i hi => by
  obtain ⟨g, h1, h2, h3⟩ := h.2 i hi
  exact ⟨g, h1, hF g h2, h3⟩⟩
theorem ClsT.push {F : Nat → Prop} {w : World} {Lv : List Value} {cs : List (List Nat)} (h : ClsT F w Lv cs) {g : Nat} {c : List Nat} (hg : F g) (hb : Blk w g 3 (nats c)) : ClsT F w (Lv ++ [.slice (some ⟨g, 0, none⟩) c.length c.length]) (cs ++ [c]) := by
  refine ⟨by simp [h.1], fun i hi => ?_⟩
  rcases Nat.lt_or_ge i cs.length with hi' | hi'
  · obtain ⟨g, h1, h2, h3⟩ := h.2 i hi'
    have e : (cs ++ [c]).getD i [] = cs.getD i [] := by simp [List.getD_eq_getElem?_getD, List.getElem?_append_left hi']
    rw [e]
    exact ⟨g, by rw [List.getElem?_append_left (by rw [h.1]; exact hi')]; exact h1, h2, h3⟩
  · have e : i = cs.length := by simp at hi; omega
    subst e
    have e2 : (cs ++ [c]).getD cs.length [] = c := by simp [List.getD_eq_getElem?_getD]
    rw [e2]
    exact ⟨g, by rw [← h.1]; simp, hg, hb⟩
/-- Gates in memory, all of whose blocks are of F: so many variables, these clauses, a map each of whose entries is as M says. -/
def Low (F : Nat → Prop) (w : World) (p nv : Nat) (cs : List (List Nat)) (M : Value → Value → Prop) : Prop :=
  ∃ A cp mb Lv, Blk w p 78 [.int .i64 ((nv : Nat) : Int), .slice A cs.length cp, .map (some mb)] ∧ Own w 0 27 1 (.slice A cs.length cp) cs.length Lv ∧ MapB Try.prog 34 w mb M ∧ ClsT F w Lv cs ∧ F p ∧ F mb ∧ (∀ c, (Value.slice A cs.length cp).ownBlock = some c → F c) ∧ (∀ b, F b → b < w.heap.size)
theorem Low.tch {F S : Nat → Prop} {w w' : World} {p nv : Nat} {cs : List (List Nat)} {M : Value → Value → Prop} (h : Low F w p nv cs M) (k : Tch S w w') (hs : ∀ b, F b → ¬ S b) : Low F w' p nv cs M := by
  obtain ⟨A, cp, mb, Lv, hP, hO, hM, hC, fp, fm, fA, hl⟩ := h
  exact ⟨A, cp, mb, Lv, hP.tch k (hs p fp), hO.tch k (fun b hb => hs b (fA b hb)), hM.tch k (hs mb fm), hC.tch k (fun g _ hg _ => hs g hg), fp, fm, fA, fun b hb => Nat.lt_of_lt_of_le (hl b hb) k.size⟩
theorem Low.tch0 {F : Nat → Prop} {w w' : World} {p nv : Nat} {cs : List (List Nat)} {M : Value → Value → Prop} (h : Low F w p nv cs M) (k : Tch N0 w w') : Low F w' p nv cs M := h.tch k (fun _ _ e => e)
theorem Low.lt {F : Nat → Prop} {w : World} {p nv : Nat} {cs : List (List Nat)} {M : Value → Value → Prop} (h : Low F w p nv cs M) : ∀ b, F b → b < w.heap.size := by
  obtain ⟨A, cp, mb, Lv, hP, hO, hM, hC, fp, fm, fA, hl⟩ := h
  exact hl
theorem Low.Fp {F : Nat → Prop} {w : World} {p nv : Nat} {cs : List (List Nat)} {M : Value → Value → Prop} (h : Low F w p nv cs M) : F p := by
  obtain ⟨A, cp, mb, Lv, hP, hO, hM, hC, fp, fm, fA, hl⟩ := h
  exact fp
theorem Low.mono {F : Nat → Prop} {w : World} {p nv : Nat} {cs : List (List Nat)} {M M' : Value → Value → Prop} (h : Low F w p nv cs M) (hm : ∀ x y, M x y → M' x y) : Low F w p nv cs M' := by
  obtain ⟨A, cp, mb, Lv, hP, hO, hM, hC, fp, fm, fA, hl⟩ := h
  exact ⟨A, cp, mb, Lv, hP, hO, hM.mono hm, hC, fp, fm, fA, hl⟩
def Mv (F F' : Nat → Prop) (w w' : World) : Prop := Tch F w w' ∧ ∀ b, F' b → F b ∨ w.heap.size ≤ b
theorem Mv.refl (F : Nat → Prop) (w : World) : Mv F F w w := ⟨Tch.refl _ _, fun b hb => .inl hb⟩
theorem Mv.trans {F F1 F2 : Nat → Prop} {w w1 w2 : World} (h : Mv F F1 w w1) (k : Mv F1 F2 w1 w2) : Mv F F2 w w2 :=
  ⟨h.1.trans k.1 (fun _ _ e => e) (fun b hb e => (h.2 b e).resolve_right (by omega)), fun b hb => (k.2 b hb).elim (fun e => h.2 b e) (fun e => .inr (Nat.le_trans h.1.size e))⟩
theorem Mv.same {F : Nat → Prop} {w w' : World} (h : Tch F w w') : Mv F F w w' := ⟨h, fun b hb => .inl hb⟩
theorem Mv.n0 {F : Nat → Prop} {w w' : World} (h : Tch N0 w w') : Mv F F w w' := .same (h.weaken (fun _ _ e => e.elim))
theorem Mv.then0 {F F' : Nat → Prop} {w w1 w2 : World} (h : Mv F F' w w1) (k : Tch N0 w1 w2) : Mv F F' w w2 := h.trans (.n0 k)
theorem Mv.newst {F F' : Nat → Prop} {w w1 w2 : World} {b : Nat} (h : Mv F F' w w1) (k : Tch (one b) w1 w2) (hb : w.heap.size ≤ b) : Mv F F' w w2 :=
  ⟨h.1.trans k (fun _ _ e => e) (fun c hc e => by have : c = b := e; omega), h.2⟩
theorem Mv.ge {F F' : Nat → Prop} {w0 w w' : World} (h : Mv F F' w w') (hF : ∀ b, F b → w0.heap.size ≤ b) (hz : w0.heap.size ≤ w.heap.size) : ∀ b, F' b → w0.heap.size ≤ b := fun b hb => (h.2 b hb).elim (hF b) (fun q => Nat.le_trans hz q)
/-- What an entry of the map of gates is. -/
def MkE (n : Nat) (cs : List (List Nat)) : Value → Value → Prop := fun key val => ∀ k a b c : Nat, key = key4 k a b c → ∃ x : Nat, val = .int .i64 ((x : Nat) : Int) ∧ MkI n cs k a b c x
theorem MkE.mono {n n' : Nat} {cs cs' : List (List Nat)} (hn : n ≤ n') (hs : ∀ c, c ∈ cs → c ∈ cs') (x y : Value) (h : MkE n cs x y) : MkE n' cs' x y := fun k a b c e => by
  obtain ⟨x, h1, h2⟩ := h k a b c e
  exact ⟨x, h1, h2.mono hn hs⟩
theorem key4_inj {k a b c k' a' b' c' : Nat} (h : key4 k a b c = key4 k' a' b' c') : k = k' ∧ a = a' ∧ b = b' ∧ c = c' := by
  unfold key4 at h
  injection h with h
  injection h with h
  simp only [List.cons.injEq, Value.int.injEq, true_and, and_true] at h
  omega
theorem MkE.new (n : Nat) (cs : List (List Nat)) (k a b c : Nat) : MkE (n + 1) (cs ++ gcl k a b c (2 * n)) (key4 k a b c) (.int .i64 ((2 * n : Nat) : Int)) := fun k' a' b' c' e => by
  obtain ⟨rfl, rfl, rfl, rfl⟩ := key4_inj e
  exact ⟨2 * n, rfl, MkI.new n cs k a b c⟩
/-- Gates, in memory and as clauses. -/
def GObj (F : Nat → Prop) (w : World) (p n : Nat) (cs : List (List Nat)) (I : Nat → Prop) : Prop := Low F w p n cs (MkE n cs) ∧ GI n cs I
theorem GObj.tch0 {F : Nat → Prop} {w w' : World} {p n : Nat} {cs : List (List Nat)} {I : Nat → Prop} (h : GObj F w p n cs I) (k : Tch N0 w w') : GObj F w' p n cs I := ⟨h.1.tch0 k, h.2⟩
theorem GObj.tchS {F S : Nat → Prop} {w w' : World} {p n : Nat} {cs : List (List Nat)} {I : Nat → Prop} (h : GObj F w p n cs I) (k : Tch S w w') (hs : ∀ b, S b → ¬ F b) : GObj F w' p n cs I := ⟨h.1.tch k (fun b hb e => hs b e hb), h.2⟩
theorem Low.tchS {F S : Nat → Prop} {w w' : World} {p nv : Nat} {cs : List (List Nat)} {M : Value → Value → Prop} (h : Low F w p nv cs M) (k : Tch S w w') (hs : ∀ b, S b → ¬ F b) : Low F w' p nv cs M := h.tch k (fun b hb e => hs b e hb)
theorem wf_i64 {x : Int} (h0 : -9223372036854775808 ≤ x) (h1 : x ≤ 9223372036854775807) : (Lit.int .i64 x).wf = true := by
  simp only [Lit.wf, IntKind.min, IntKind.max, Bool.and_eq_true, decide_eq_true_eq]
  simp [IntKind.signed, IntKind.bits]
  omega
theorem key_nat (k a b c : Nat) (hk : k < 9223372036854775807) (ha : a < 9223372036854775807) (hb : b < 9223372036854775807) (hc : c < 9223372036854775807) : ∃ l, keyOf Try.prog 34 (key4 k a b c) = some l :=
  key_is _ _ _ _ (wf_i64 (by omega) (by omega)) (wf_i64 (by omega) (by omega)) (wf_i64 (by omega) (by omega)) (wf_i64 (by omega) (by omega))
section
variable {ρ : Env} {w : World} {J : Env → World → Prop}
set_option maxRecDepth 100000 in
/-- A look for a gate. -/
theorem S_lookupG {d : Option Tmp} {m x : Operand} {ty : TypeId} {pos : String} {af : Array Edge} {g : Option (Nat × Bool)} {mb n : Nat} {cs : List (List Nat)} (k a b c : Nat) (hm : evR ρ m = .map (some mb)) (hx : evR ρ x = key4 k a b c) (hk : ∃ l, keyOf Try.prog 34 (key4 k a b c) = some l) (hM : MapB Try.prog 34 w mb (MkE n cs))
    (h : ∀ (x : Nat) ok, (ok = true → MkI n cs k a b c x) → J (updO ρ d (.tuple #[.int .i64 ((x : Nat) : Int), .bool ok])) w) : Step Try.prog ⟨d, .lookup 76 m x true, ty, pos, af, g⟩ ρ w J :=
  S_lookup 34 3 (.int .i64 0) key_law (by kernel_rfl) (by kernel_rfl) hm hx hk hM fun v ok hv => by
    rcases hv with ⟨rfl, hv⟩ | ⟨rfl, rfl⟩
    · obtain ⟨x, rfl, hx⟩ := hv k a b c rfl
      exact h x true (fun _ => hx)
    · exact h 0 false (fun e => by cases e)
set_option maxRecDepth 100000 in
/-- A gate is put down. -/
theorem S_updateG {d : Option Tmp} {m x y : Operand} {ty : TypeId} {pos : String} {af : Array Edge} {g : Option (Nat × Bool)} {F : Nat → Prop} {p nv n : Nat} {A : Option Addr} {cp mb : Nat} {Lv : List Value} {cs : List (List Nat)} (k a b c : Nat) (hm : evR ρ m = .map (some mb)) (hx : evR ρ x = key4 k a b c) (hy : evR ρ y = .int .i64 ((2 * n : Nat) : Int)) (hk : ∃ l, keyOf Try.prog 34 (key4 k a b c) = some l)
    (hP : Blk w p 78 [.int .i64 ((nv : Nat) : Int), .slice A cs.length cp, .map (some mb)]) (hO : Own w 0 27 1 (.slice A cs.length cp) cs.length Lv) (hM : MapB Try.prog 34 w mb (MkE n cs)) (hC : ClsT F w Lv cs) (fp : F p) (fm : F mb) (fA : ∀ c, (Value.slice A cs.length cp).ownBlock = some c → F c) (hl : ∀ b, F b → b < w.heap.size)
    (h : ∀ w1, Tch F w w1 → w1.heap.size = w.heap.size → Low F w1 p nv cs (MkE (n + 1) (cs ++ gcl k a b c (2 * n))) → J (updO ρ d undef) w1) : Step Try.prog ⟨d, .mapUpdate 76 m x y, ty, pos, af, g⟩ ρ w J :=
  S_mapUpdate 34 3 key_law (by kernel_rfl) hm hx hy hk (hM.mono (MkE.mono (Nat.le_succ n) (fun c hc => List.mem_append.2 (.inl hc)))) (MkE.new n cs k a b c) fun w1 T hs hM1 => by
    refine h w1 (T.weaken (fun b _ e => by have : b = mb := e; rw [this]; exact fm)) hs ⟨A, cp, mb, Lv, hP.tch T (fun e => hM.ne hP (Eq.symm e)), hO.tch T (fun c hc e => hO.ne_map hM c hc e), hM1, hC.tch T (fun g l _ hb e => hM.ne hb (Eq.symm e)), fp, fm, fA, fun b hb => by rw [hs]; exact hl b hb⟩
end
end Go.Proofs.YtnlecdpiccgdpaaV
