/- The calculus' words for slices: what a slice reads as; rows of the call's own; append; make. -/
import Derived.Test.YtnlecdpiccgdpaaVx2
set_option linter.unusedVariables false
set_option linter.unusedSimpArgs false
namespace Go.Proofs.YtnlecdpiccgdpaaV
open Go Go.RowKit

def ints (k : IntKind) (xs : List Int) : List Value := xs.map fun x => .int k x
def boolsV (xs : List Bool) : List Value := xs.map fun x => .bool x
theorem ints_length (k : IntKind) (xs : List Int) : (ints k xs).length = xs.length := by simp [ints]
theorem boolsV_length (xs : List Bool) : (boolsV xs).length = xs.length := by simp [boolsV]
theorem ints_append (k : IntKind) (xs ys : List Int) : ints k (xs ++ ys) = ints k xs ++ ints k ys := by simp [ints]
theorem boolsV_append (xs ys : List Bool) : boolsV (xs ++ ys) = boolsV xs ++ boolsV ys := by simp [boolsV]
theorem ints_at (k : IntKind) (xs : List Int) {i : Nat} (h : i < xs.length) : (ints k xs)[i]? = some (.int k (xs.getD i 0)) := by
  simp [ints, List.getElem?_eq_getElem h, List.getD_eq_getElem?_getD]
theorem boolsV_at (xs : List Bool) {i : Nat} (h : i < xs.length) : (boolsV xs)[i]? = some (.bool (xs.getD i false)) := by
  simp [boolsV, List.getElem?_eq_getElem h, List.getD_eq_getElem?_getD]
/-- In this world a slice of n elements, sz cells each, at address A reads as these cells. -/
def RdW (w : World) (sz n : Nat) (A : Option Addr) (cells : List Value) : Prop :=
  cells.length = n * sz ∧ n ≤ 9223372036854775807 ∧ (0 < n → ∃ b off, A = some ⟨b, off, none⟩ ∧ b < w.heap.size ∧ ∀ k u, cells[k]? = some u → w.cell? ⟨b, off + k, none⟩ = some u)
theorem cell_tch {S : Nat → Prop} {w w' : World} (k : Tch S w w') {b j : Nat} (hb : b < w.heap.size) (hs : ¬ S b) : w'.cell? ⟨b, j, none⟩ = w.cell? ⟨b, j, none⟩ := World.cell?_of_block (k.block b hb hs)
theorem cell_lt_ {w : World} {b j : Nat} {v : Value} (h : w.cell? ⟨b, j, none⟩ = some v) : b < w.heap.size := World.block_lt_of_cell? w ⟨b, j, none⟩ h
theorem cell_tch0 {w w' : World} (k : Tch N0 w w') {b j : Nat} {v : Value} (h : w.cell? ⟨b, j, none⟩ = some v) : w'.cell? ⟨b, j, none⟩ = some v := (cell_tch k (cell_lt_ h) (fun e => e)).trans h
theorem RdW.tch0 {w w' : World} {sz n : Nat} {A : Option Addr} {cells : List Value} (h : RdW w sz n A cells) (k : Tch N0 w w') : RdW w' sz n A cells :=
  ⟨h.1, h.2.1, fun hn => by
    obtain ⟨b, off, e, hb, hc⟩ := h.2.2 hn
    exact ⟨b, off, e, Nat.lt_of_lt_of_le hb k.size, fun j u hu => (cell_tch k hb (fun e => e)).trans (hc j u hu)⟩⟩
theorem RdW.nil_ (w : World) (sz : Nat) (A : Option Addr) : RdW w sz 0 A [] := ⟨by simp, by omega, fun h => absurd h (by omega)⟩
theorem RdW.at_int {w : World} {n : Nat} {A : Option Addr} {k : IntKind} {xs : List Int} (h : RdW w 1 n A (ints k xs)) {i : Int} (h0 : 0 ≤ i) (h1 : i < n) :
    ∃ b off, A = some ⟨b, off, none⟩ ∧ w.cell? ⟨b, off + i.toNat, none⟩ = some (.int k (xs.getD i.toNat 0)) := by
  obtain ⟨b, off, e, _, hc⟩ := h.2.2 (by omega)
  have hl := h.1
  rw [ints_length] at hl
  exact ⟨b, off, e, hc _ _ (ints_at k xs (by omega))⟩
theorem RdW.at_bool {w : World} {n : Nat} {A : Option Addr} {xs : List Bool} (h : RdW w 1 n A (boolsV xs)) {i : Int} (h0 : 0 ≤ i) (h1 : i < n) :
    ∃ b off, A = some ⟨b, off, none⟩ ∧ w.cell? ⟨b, off + i.toNat, none⟩ = some (.bool (xs.getD i.toNat false)) := by
  obtain ⟨b, off, e, _, hc⟩ := h.2.2 (by omega)
  have hl := h.1
  rw [boolsV_length] at hl
  exact ⟨b, off, e, hc _ _ (boolsV_at xs (by omega))⟩
theorem RdW.len {w : World} {n : Nat} {A : Option Addr} {k : IntKind} {xs : List Int} (h : RdW w 1 n A (ints k xs)) : xs.length = n := by
  have := h.1; rw [ints_length] at this; omega
theorem RdW.lenb {w : World} {n : Nat} {A : Option Addr} {xs : List Bool} (h : RdW w 1 n A (boolsV xs)) : xs.length = n := by
  have := h.1; rw [boolsV_length] at this; omega
/-- A block is read as a slice. -/
theorem Blk.rd {w : World} {b : Nat} {t : TypeId} {l : List Value} (h : Blk w b t l) (sz n : Nat) (hl : l.length = n * sz) (hn : n ≤ 9223372036854775807) : RdW w sz n (some ⟨b, 0, none⟩) l :=
  ⟨hl, hn, fun _ => ⟨b, 0, rfl, h.lt, fun k u hu => by rw [h.cell, Nat.zero_add]; exact hu⟩⟩
/-- A row of the call's own: slice v of n elements of type e, sz cells each, from block base on, holds these cells; it may be appended to. -/
def Own (w : World) (base e sz : Nat) (v : Value) (n : Nat) (cells : List Value) : Prop := w.ownsRow base e sz v n cells
theorem Own.rd {w : World} {base e sz n : Nat} {v : Value} {cells : List Value} (h : Own w base e sz v n cells) : ∃ A c, v = .slice A n c ∧ RdW w sz n A cells := by
  obtain ⟨hl, h2⟩ := h
  rcases h2 with ⟨rfl, rfl⟩ | ⟨g, cap, cur, rfl, hb, hg, hn, hc, hs, ht⟩
  · refine ⟨none, 0, rfl, hl, by omega, fun h => absurd h (by omega)⟩
  · refine ⟨_, cap, rfl, hl, by simp only [maxLen] at hc; omega, fun hn0 => ⟨g, 0, rfl, (Array.getElem?_eq_some_iff.1 hg).1, fun k u hu => ?_⟩⟩
    have hk : k < n * sz := by
      rcases Nat.lt_or_ge k (n * sz) with h' | h'
      · exact h'
      · rw [List.getElem?_eq_none (by omega)] at hu; cases hu
    rw [← ht, List.getElem?_take_of_lt hk] at hu
    simp only [World.cell?, hg, Option.isSome_none, Bool.false_eq_true, if_false, Nat.zero_add]
    simpa using hu
theorem Own.tch {S : Nat → Prop} {w w' : World} {base e sz n : Nat} {v : Value} {cells : List Value} (h : Own w base e sz v n cells) (k : Tch S w w') (hs : ∀ b, v.ownBlock = some b → ¬ S b) : Own w' base e sz v n cells := by
  obtain ⟨hl, h2⟩ := h
  refine ⟨hl, ?_⟩
  rcases h2 with h2 | ⟨g, cap, cur, rfl, hb, hg, h3⟩
  · exact .inl h2
  · exact .inr ⟨g, cap, cur, rfl, hb, (k.block g (Array.getElem?_eq_some_iff.1 hg).1 (hs g rfl)).trans hg, h3⟩
theorem Own.tch0 {w w' : World} {base e sz n : Nat} {v : Value} {cells : List Value} (h : Own w base e sz v n cells) (k : Tch N0 w w') : Own w' base e sz v n cells := h.tch k (fun _ _ e => e)
theorem Own.nil_ (w : World) (base e sz : Nat) : Own w base e sz (.slice none 0 0) 0 [] := ⟨by simp, .inl ⟨rfl, rfl⟩⟩
theorem Own.base_le {w : World} {base e sz n : Nat} {v : Value} {cells : List Value} (h : Own w base e sz v n cells) : ∀ b, v.ownBlock = some b → base ≤ b := by
  intro b hb
  rcases h.2 with ⟨rfl, _⟩ | ⟨g, cap, cur, rfl, h1, _⟩
  · cases hb
  · simp only [Value.ownBlock, Option.some.injEq] at hb; omega
theorem Own.lt {w : World} {base e sz n : Nat} {v : Value} {cells : List Value} (h : Own w base e sz v n cells) : ∀ b, v.ownBlock = some b → b < w.heap.size := by
  intro b hb
  rcases h.2 with ⟨rfl, _⟩ | ⟨g, cap, cur, rfl, h1, hg, _⟩
  · cases hb
  · simp only [Value.ownBlock, Option.some.injEq] at hb; subst hb; exact (Array.getElem?_eq_some_iff.1 hg).1
/-- Its block is of its own element type. -/
theorem Own.blk_ne {w : World} {base e sz n : Nat} {v : Value} {cells : List Value} (h : Own w base e sz v n cells) {b t : Nat} {l : List Value} (hb : Blk w b t l) (hne : t ≠ e) : ∀ c, v.ownBlock = some c → c ≠ b := by
  intro c hc
  rcases h.2 with ⟨rfl, _⟩ | ⟨g, cap, cur, rfl, h1, hg, _⟩
  · cases hc
  · simp only [Value.ownBlock, Option.some.injEq] at hc
    subst hc
    rintro rfl
    unfold Blk at hb
    rw [hg] at hb
    injection hb with hb
    injection hb with _ ht
    exact hne ht.symm
/-- A block of one's own, whole. -/
theorem Blk.own {w : World} {b e : Nat} {l : List Value} (h : Blk w b e l) {base sz n : Nat} (hb : base ≤ b) (hl : l.length = n * sz) (hn : n ≤ maxLen) : Own w base e sz (.slice (some ⟨b, 0, none⟩) n n) n l :=
  ⟨hl, .inr ⟨b, n, l.toArray, rfl, hb, h, Nat.le_refl _, hn, by simpa using hl, by simp [← hl]⟩⟩
/-- What an append turns: the row's own block alone. -/
def ownS (v : Value) : Nat → Prop := fun b => v.ownBlock = some b
theorem Tch.of_grown {w w' : World} {v : Value} (h : w.grownBy w' v.ownBlock) : Tch (ownS v) w w' := ⟨h.os, h.tape, h.output, h.size, fun k hk hn => h.block k hk (fun e => hn e.symm)⟩
theorem oneV_oneCell {v : Value} (h : oneV v = true) : v.oneCell' = true := by cases v <;> first | rfl | cases h
theorem info_of {P : Program} {e : TypeId} {z : Value} {sz by_ : Nat} (h : (P.info? e).map (fun i => (i.zero, i.size, i.bytes)) = some (some z, sz, by_)) : ∃ i, P.info? e = some i ∧ i.zero = some z ∧ i.size = sz ∧ i.bytes = by_ := by
  cases hi : P.info? e with
  | none => rw [hi] at h; cases h
  | some i =>
    rw [hi] at h
    simp only [Option.map_some, Option.some.injEq, Prod.mk.injEq] at h
    exact ⟨i, rfl, h.1, h.2.1, h.2.2⟩
section
variable {P : Program} {ρ : Env} {w : World} {J : Env → World → Prop}
/-- append(v, x..): onto a row of the call's own. -/
theorem S_append {d : Option Tmp} {x y : Operand} {ty : TypeId} {pos : String} {af : Array Edge} {g : Option (Nat × Bool)} (t e : TypeId) (z : Value) (sz by_ : Nat) {base n m : Nat} {v : Value} {cells news : List Value} {b off c : Nat}
    (hi : (P.info? e).map (fun i => (i.zero, i.size, i.bytes)) = some (some z, sz, by_)) (hzs : z.cells.size = sz) (hsz : 0 < sz) (ht : pureR P (underlying t) = some (.slice e))
    (hx : evR ρ x = v) (hy : evR ρ y = .slice (some ⟨b, off, none⟩) m c) (hown : Own w base e sz v n cells)
    (hl : news.length = m * sz) (hnews : ∀ k u, news[k]? = some u → w.cell? ⟨b, off + k, none⟩ = some u) (h1 : ∀ u ∈ news, oneV u = true)
    (h63 : n + m ≤ maxLen) (hbytes : (n + m) * by_ ≤ 140737488355328) (hbase : base ≤ w.heap.size)
    (h : ∀ v' w1, Own w1 base e sz v' (n + m) (cells ++ news) → Tch (ownS v) w w1 → J (updO ρ d v') w1) :
    Step P ⟨d, .call { callee := .builtin .append, args := #[x, y], argTypes := #[t, t] }, ty, pos, af, g⟩ ρ w J := by
  obtain ⟨i, hi1, hi2, hi3, hi4⟩ := info_of hi
  have ht' : P.underlying t = some (.slice e) := by
    have := pureR_run (w := w) ht
    simp only [underlying] at this
    cases hu : P.underlying t with
    | none => simp [hu] at this
    | some u => simp [hu] at this; rw [this]
  obtain ⟨v', w', hr, ho, hg, _⟩ := run_append_own (P := P) w base t ty e i z sz by_ ht' hi1 hi2 hi3 hi4 hzs hsz v n cells hown ⟨b, off, none⟩ m c news hl (fun k u hu => by rw [add_at]; exact hnews k u hu) (fun u hu => oneV_oneCell (h1 u hu)) h63 hbytes hbase
  refine S_val (v := v') (w' := w') ?_ (h v' w' ho (Tch.of_grown hg))
  simp only [execOp, resolve, invoke, builtin, Array.map, hx, hy]
  simp [hx, hy, hr]
/-- make([]T, n, c) of a length that is known to be no less than 0. -/
theorem S_make {d : Option Tmp} {x y : Operand} {ty : TypeId} {pos : String} {af : Array Edge} {g : Option (Nat × Bool)} (t e : TypeId) (z : Value) (sz by_ : Nat) {k1 k2 : IntKind} {l c : Int}
    (hi : (P.info? e).map (fun i => (i.zero, i.size, i.bytes)) = some (some z, sz, by_)) (ht : pureR P (underlying t) = some (.slice e))
    (hx : evR ρ x = .int k1 l) (hy : evR ρ y = .int k2 c) (h0 : 0 ≤ l) (hlc : l ≤ c) (hb : (by_ : Int) * c ≤ 281474976710656) (h63 : c ≤ 9223372036854775807)
    (h : ∀ w1, Tch N0 w w1 → w1.heap.size = w.heap.size + 1 → Blk w1 w.heap.size e (madeCells z.cells (c.toNat * sz)).toList → J (updO ρ d (.slice (some ⟨w.heap.size, 0, none⟩) l.toNat c.toNat)) w1) :
    Step P ⟨d, .makeSlice t x y, ty, pos, af, g⟩ ρ w J := by
  obtain ⟨i, hi1, hi2, hi3, hi4⟩ := info_of hi
  have ht' : P.underlying t = some (.slice e) := by
    have := pureR_run (w := w) ht
    simp only [underlying] at this
    cases hu : P.underlying t with
    | none => simp [hu] at this
    | some u => simp [hu] at this; rw [this]
  have hr := run_make (P := P) w t e i z ht' hi1 hi2 k1 k2 l c h0 hlc (by rw [hi4]; exact hb) h63
  rw [hi3] at hr
  refine S_new (v := .slice (some ⟨w.heap.size, 0, none⟩) l.toNat c.toNat) (ob := .cells (madeCells z.cells (c.toNat * sz)) e) ?_ (fun w1 h1 h2 h3 => h w1 h1 h2 ?_)
  · simp only [execOp, hx, hy]
    simp [hr]
  · unfold Blk; rw [h3]
theorem madeOne (v : Value) (hv : v.cells = #[v]) (n : Nat) : (madeCells v.cells n).toList = List.replicate n v := by
  rw [hv]
  simp only [madeCells]
  apply List.ext_getElem?
  intro i
  by_cases h : i < n
  · simp [h, Nat.mod_one]
  · simp [h]
theorem R_index1 {d : Option Tmp} {t : TypeId} {x y : Operand} {ty : TypeId} {pos : String} {af : Array Edge} {g : Option (Nat × Bool)} {b off len cap : Nat} {k : IntKind} {i : Int} {e : TypeId} (hx : evR ρ x = .slice (some ⟨b, off, none⟩) len cap) (hy : evR ρ y = .int k i)
    (ht : pureR P (underlying t) = some (.slice e)) (hz : pureR P (sizeOf e) = some 1) (h0 : 0 ≤ i) (h1 : i < len) :
    (execOp (evR ρ) ⟨d, .indexAddr t x y, ty, pos, af, g⟩).run P w = .ok (.value (.pointer (some ⟨b, off + i.toNat, none⟩))) w := by
  have := R_index (P := P) (w := w) (d := d) (ty := ty) (pos := pos) (af := af) (g := g) hx hy ht hz h0 h1
  rw [Nat.mul_one] at this
  exact this
end

/-! ### Division and shifts by what is no constant -/
section
variable {P : Program} {ρ : Env} {w : World}
theorem R_rem {d : Option Tmp} {t u : TypeId} {x y : Operand} {ty : TypeId} {pos : String} {af : Array Edge} {g : Option (Nat × Bool)} {k : IntKind} {a b : Int} (hx : evR ρ x = .int k a) (hy : evR ρ y = .int k b) (h0 : 0 ≤ a) (hb : 0 < b) :
    (execOp (evR ρ) ⟨d, .binOp .rem t x y u, ty, pos, af, g⟩).run P w = .ok (.value (.int k (a % b))) w := by
  have hb' : ¬ b = 0 := by omega
  have e : a.tmod b = a % b := Int.tmod_eq_emod_of_nonneg h0
  simp only [execOp, hx, hy]
  simp [eqGuard, binOp, Op.intDiv, hb', e]
theorem R_quo {d : Option Tmp} {t u : TypeId} {x y : Operand} {ty : TypeId} {pos : String} {af : Array Edge} {g : Option (Nat × Bool)} {k : IntKind} {a b : Int} (hx : evR ρ x = .int k a) (hy : evR ρ y = .int k b) (h0 : 0 ≤ a) (hb : 0 < b) (hw : k.wrap (a / b) = a / b) :
    (execOp (evR ρ) ⟨d, .binOp .quo t x y u, ty, pos, af, g⟩).run P w = .ok (.value (.int k (a / b))) w := by
  have hb' : ¬ b = 0 := by omega
  have e : a.tdiv b = a / b := Int.tdiv_eq_ediv_of_nonneg h0
  simp only [execOp, hx, hy]
  simp [eqGuard, binOp, Op.intDiv, hb', e, hw]
theorem R_shl {d : Option Tmp} {t u : TypeId} {x y : Operand} {ty : TypeId} {pos : String} {af : Array Edge} {g : Option (Nat × Bool)} {k k2 : IntKind} {a b : Int} (m : Nat) (hx : evR ρ x = .int k a) (hy : evR ρ y = .int k2 b) (hm : b = m) (hk : m ≤ k.bits) :
    (execOp (evR ρ) ⟨d, .binOp .shl t x y u, ty, pos, af, g⟩).run P w = .ok (.value (.int k (k.wrap (a * 2 ^ m)))) w := by
  have hb' : ¬ b < 0 := by omega
  have e : min b.toNat k.bits = m := by omega
  simp only [execOp, hx, hy]
  simp [eqGuard, binOp, Op.shift, hb', e]
theorem R_shr {d : Option Tmp} {t u : TypeId} {x y : Operand} {ty : TypeId} {pos : String} {af : Array Edge} {g : Option (Nat × Bool)} {k k2 : IntKind} {a b : Int} (m : Nat) (hx : evR ρ x = .int k a) (hy : evR ρ y = .int k2 b) (hm : b = m) (hk : m ≤ k.bits) :
    (execOp (evR ρ) ⟨d, .binOp .shr t x y u, ty, pos, af, g⟩).run P w = .ok (.value (.int k (a.fdiv (2 ^ m)))) w := by
  have hb' : ¬ b < 0 := by omega
  have e : min b.toNat k.bits = m := by omega
  simp only [execOp, hx, hy]
  simp [eqGuard, binOp, Op.shift, hb', e]
end
end Go.Proofs.YtnlecdpiccgdpaaV
