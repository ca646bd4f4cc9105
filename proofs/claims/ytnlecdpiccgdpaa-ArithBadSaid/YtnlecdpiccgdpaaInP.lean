/- A word's row: inputs and constants: plain. -/
import Derived.Test.YtnlecdpiccgdpaaY1
import Derived.Test.YtnlecdpiccgdpaaVx10
import Derived.Test.YtnlecdpiccgdpaaVx11
set_option linter.unusedVariables false
set_option linter.unusedSimpArgs false
namespace Go.Proofs.YtnlecdpiccgdpaaV
open Go Go.RowKit Go.Proofs
theorem Mv.newS {F F' S : Nat → Prop} {w w1 w2 : World} (h : Mv F F' w w1) (k : Tch S w1 w2) (hb : ∀ b, S b → w.heap.size ≤ b) : Mv F F' w w2 :=
  ⟨h.1.trans k (fun _ _ e => e) (fun c hc e => by have := hb c e; omega), h.2⟩
/-- The row of some bits of a word x, of which those of ins are inputs. -/
structure RowI (n : Nat) (cs : List (List Nat)) (I : Nat → Prop) (n' : Nat) (I' : Nat → Prop) (i : Nat) (row hold : List Nat) (x ins : Nat) : Prop where
  len : row.length = i
  le : n ≤ n'
  fit : ∀ j, j < i → row.getD j 0 / 2 < n'
  val : ∀ be, Mod cs be → (∀ h, h ∈ hold → lt_ be h = true) → ∀ j, j < i → lt_ be (row.getD j 0) = x.testBit j
  new : ∀ h, h ∈ hold → n ≤ h / 2 ∧ h / 2 < n' ∧ I' (h / 2)
  uniq : ∀ h h', h ∈ hold → h' ∈ hold → h / 2 = h' / 2 → h = h'
  inp : ∀ v, I' v → I v ∨ ∃ h, h ∈ hold ∧ h / 2 = v
  old : ∀ v, I v → I' v
  none : (∀ j, j < i → ins.testBit j = false) → hold = []
theorem RowI.zero (n : Nat) (cs : List (List Nat)) (I : Nat → Prop) (x ins : Nat) : RowI n cs I n I 0 [] [] x ins := ⟨rfl, Nat.le_refl _, fun j h => by omega, fun _ _ _ j h => by omega, (fun h q => by cases q), (fun h _ q => by cases q), fun v h => .inl h, fun v h => h, fun _ => rfl⟩
theorem getD_snoc (l : List Nat) (x j : Nat) : (l ++ [x]).getD j 0 = if j = l.length then x else l.getD j 0 := by
  simp only [List.getD_eq_getElem?_getD, List.getElem?_append]
  by_cases h : j < l.length
  · rw [if_pos h, if_neg (by omega)]
  · rw [if_neg h]
    by_cases e : j = l.length
    · subst e; simp
    · rw [if_neg e]
      rw [List.getElem?_eq_none (by simp; omega), List.getElem?_eq_none (by omega)]
theorem RowI.const {n n' i x ins y : Nat} {cs : List (List Nat)} {I I' : Nat → Prop} {row hold : List Nat} (h : RowI n cs I n' I' i row hold x ins) (hy : y / 2 < n') (hv : ∀ be, Mod cs be → lt_ be y = x.testBit i) : RowI n cs I n' I' (i + 1) (row ++ [y]) hold x ins where
  len := by rw [List.length_append, h.len]; rfl
  le := h.le
  fit := fun j hj => by
    rw [getD_snoc, h.len]
    split
    · exact hy
    · exact h.fit j (by omega)
  val := fun be hm hh j hj => by
    rw [getD_snoc, h.len]
    split
    · rename_i e; rw [e]; exact hv be hm
    · exact h.val be hm hh j (by omega)
  new := h.new
  uniq := h.uniq
  inp := h.inp
  old := h.old
  none := fun q => h.none (fun j hj => q j (by omega))
theorem RowI.input {n n' i x ins y : Nat} {cs : List (List Nat)} {I I' : Nat → Prop} {row hold : List Nat} (h : RowI n cs I n' I' i row hold x ins) (hn : 2 * n ≤ 2 * n') (hi : ins.testBit i = true) (hy : (y = 2 * n' ∧ x.testBit i = true) ∨ (y = GateP.nt (2 * n') ∧ x.testBit i = false)) :
    RowI n cs I (n' + 1) (fun v => I' v ∨ v = n') (i + 1) (row ++ [2 * n']) (hold ++ [y]) x ins := by
  have hy2 : y / 2 = n' := by
    rcases hy with ⟨e, _⟩ | ⟨e, _⟩
    · rw [e]; omega
    · rw [e, nt_div]; omega
  exact {
    len := by rw [List.length_append, h.len]; rfl
    le := by have := h.le; omega
    fit := fun j hj => by
      rw [getD_snoc, h.len]
      split
      · omega
      · have := h.fit j (by omega); omega
    val := fun be hm hh j hj => by
      rw [getD_snoc, h.len]
      split
      · rename_i e
        have hl := hh y (List.mem_append.2 (.inr (by simp)))
        rw [e]
        rcases hy with ⟨e1, e2⟩ | ⟨e1, e2⟩
        · rw [e2, ← e1]; exact hl
        · rw [e2]; rw [e1, lt_nt] at hl; simpa using hl
      · exact h.val be hm (fun z hz => hh z (List.mem_append.2 (.inl hz))) j (by omega)
    new := fun z hz => by
      rcases List.mem_append.1 hz with q | q
      · have := h.new z q; exact ⟨this.1, by omega, .inl this.2.2⟩
      · simp at q; subst q; rw [hy2]; exact ⟨by omega, by omega, .inr rfl⟩
    uniq := fun z z' hz hz' e => by
      rcases List.mem_append.1 hz with q | q <;> rcases List.mem_append.1 hz' with q' | q'
      · exact h.uniq z z' q q' e
      · simp at q'; subst q'; have := (h.new z q).2.1; omega
      · simp at q; subst q; have := (h.new z' q').2.1; omega
      · simp at q q'; rw [q, q']
    inp := fun v hv => by
      rcases hv with hv | hv
      · rcases h.inp v hv with q | ⟨z, hz, e⟩
        · exact .inl q
        · exact .inr ⟨z, List.mem_append.2 (.inl hz), e⟩
      · exact .inr ⟨y, List.mem_append.2 (.inr (by simp)), by omega⟩
    old := fun v hv => .inl (h.old v hv)
    none := fun q => by have := q i (by omega); rw [hi] at this; cases this }
/-- The truths of inputs. -/
theorem hold_truths {hold : List Nat} (hu : ∀ h h', h ∈ hold → h' ∈ hold → h / 2 = h' / 2 → h = h') : ∀ x, x ∈ hold → (fun v => decide (2 * v ∈ hold)) (x / 2) = !decide (x % 2 = 1) := fun x hx => by
  rcases (show x % 2 = 0 ∨ x % 2 = 1 by omega) with e | e
  · have e2 : 2 * (x / 2) = x := by omega
    show decide (2 * (x / 2) ∈ hold) = _
    rw [e2, decide_eq_true hx, decide_eq_false (by omega)]; rfl
  · have : ¬ 2 * (x / 2) ∈ hold := fun q => by
      have := hu x (2 * (x / 2)) hx q (by omega)
      omega
    show decide (2 * (x / 2) ∈ hold) = _
    rw [decide_eq_false this, decide_eq_true e]; rfl
theorem hold_true {hold : List Nat} {be : Nat → Bool} (hu : ∀ h h', h ∈ hold → h' ∈ hold → h / 2 = h' / 2 → h = h') (hb : ∀ x, x ∈ hold → be (x / 2) = (fun v => decide (2 * v ∈ hold)) (x / 2)) : ∀ x, x ∈ hold → lt_ be x = true := fun x hx => by
  unfold lt_
  rw [hb x hx, hold_truths hu x hx]
  cases decide (x % 2 = 1) <;> rfl
theorem RdW.ne_sl {w : World} {n b t : Nat} {A : Option Addr} {kn : List Bool} {x1 y1 : Option Addr} {x2 x3 y2 y3 : Nat} (h : RdW w 1 n A (boolsV kn)) (hn : 0 < n) (hB : Blk w b t [.slice x1 x2 x3, .slice y1 y2 y3]) : ∀ c, blkOf A = some c → c ≠ b := fun c hc e => by
  obtain ⟨b', off, e1, _, h3⟩ := h.2.2 hn
  subst e1
  injection hc with hc
  have hl := h.lenb
  have := h3 0 (.bool (kn.getD 0 false)) (boolsV_at kn (by omega))
  simp only at hc
  rw [hc, e, hB.cell] at this
  match off with
  | 0 => simp at this
  | 1 => simp at this
  | k + 2 => simp at this
theorem own_blk (A : Option Addr) (n cp : Nat) : blkOf A = (Value.slice A n cp).ownBlock := by cases A <;> rfl
/-- An address of a whole block's cell, or none. -/
def AdOk (A : Option Addr) : Prop := A = none ∨ ∃ b off, A = some ⟨b, off, none⟩
theorem Own.adok {w : World} {n : Nat} {A : Option Addr} {cp : Nat} {cells : List Value} (h : Own w 0 3 1 (.slice A n cp) n cells) : AdOk A := by
  rcases h with ⟨_, ⟨hv, _⟩ | ⟨b, cap, cur, hv, _⟩⟩
  · injection hv with q; exact .inl q
  · injection hv with q; exact .inr ⟨b, 0, q⟩
theorem Own.rdx {F : Nat → Prop} {w : World} {n : Nat} {A : Option Addr} {cp : Nat} {cells : List Value} (h : Own w 0 3 1 (.slice A n cp) n cells) (hF : ∀ c, (Value.slice A n cp).ownBlock = some c → ¬ F c) : RdX F w n A cells := ⟨h.rd1, fun c hc => by rw [own_blk A n cp] at hc; exact ⟨h.lt c hc, hF c hc⟩⟩
theorem RdX.len {F : Nat → Prop} {w : World} {m : Nat} {A : Option Addr} {l : List Nat} (h : RdX F w m A (nats l)) : l.length = m := by have := h.1.1; rw [nats_length] at this; omega
end Go.Proofs.YtnlecdpiccgdpaaV
