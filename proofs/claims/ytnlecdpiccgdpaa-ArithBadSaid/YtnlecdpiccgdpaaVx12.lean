/- Slices of slices; a row behind a row. -/
import Derived.Test.YtnlecdpiccgdpaaVx7
import Derived.Test.YtnlecdpiccgdpaaVx4
import Derived.Laws.Slices
set_option linter.unusedVariables false
set_option linter.unusedSimpArgs false
namespace Go.Proofs.YtnlecdpiccgdpaaV
open Go Go.RowKit Go.Proofs
section
variable {P : Program} {ρ : Env} {w : World} {J : Env → World → Prop}
theorem R_pure {o : Oper} {v : Next} (h : pureR P (execOp (evR ρ) o) = some v) : (execOp (evR ρ) o).run P w = .ok v w := pureR_run h
variable {d : Option Tmp} {t : TypeId} {x lo hi mx : Operand} {ty : TypeId} {pos : String} {af : Array Edge} {g : Option (Nat × Bool)} {A : Option Addr} {n cp : Nat}
/-- Where a slice of a slice begins. -/
def slA (A : Option Addr) (l cap : Nat) : Option Addr := if cap = l then A else A.map (·.add l)
theorem R_sliceL (l : Nat) (hx : evR ρ x = .slice A n cp) (hl : evR ρ lo = .int .i64 ((l : Nat) : Int)) (ht : P.underlying t = some (.slice (P.elem t))) (hz : pureR P (sizeOf (P.elem t)) = some 1) (h1 : l ≤ n) :
    (execOp (evR ρ) ⟨d, .slice t x (some lo) none none, ty, pos, af, g⟩).run P w = .ok (.value (.slice (slA A l cp) (n - l) (cp - l))) w := by
  simp only [execOp, hx, hl, Option.map]
  have := run_slice_l (w := w) t A n cp ht .i64 (l : Int) (by omega) (by omega)
  rw [pureR_run hz] at this
  simp only [Result.andThen, sliced, Int.toNat_natCast, Nat.mul_one] at this
  cases A <;> simp [run_sliceAt_slice (w := w) t _ _ _ _ ht, this, slA]
theorem R_sliceH (h : Nat) (hx : evR ρ x = .slice A n cp) (hh : evR ρ hi = .int .i64 ((h : Nat) : Int)) (ht : P.underlying t = some (.slice (P.elem t))) (hz : pureR P (sizeOf (P.elem t)) = some 1) (h1 : h ≤ cp) :
    (execOp (evR ρ) ⟨d, .slice t x none (some hi) none, ty, pos, af, g⟩).run P w = .ok (.value (.slice (slA A 0 cp) (h - 0) (cp - 0))) w := by
  simp only [execOp, hx, hh, Option.map]
  have := run_slice_h (w := w) t A n cp ht .i64 (h : Int) (by omega) (by omega)
  rw [pureR_run hz] at this
  simp only [Result.andThen, sliced, Int.toNat_natCast, Nat.mul_one] at this
  cases A <;> simp [run_sliceAt_slice (w := w) t _ _ _ _ ht, this, slA]
theorem R_sliceHM (h m : Nat) (hx : evR ρ x = .slice A n cp) (hh : evR ρ hi = .int .i64 ((h : Nat) : Int)) (hm : evR ρ mx = .int .i64 ((m : Nat) : Int)) (ht : P.underlying t = some (.slice (P.elem t))) (hz : pureR P (sizeOf (P.elem t)) = some 1) (h1 : h ≤ m) (h2 : m ≤ cp) :
    (execOp (evR ρ) ⟨d, .slice t x none (some hi) (some mx), ty, pos, af, g⟩).run P w = .ok (.value (.slice (slA A 0 m) (h - 0) (m - 0))) w := by
  simp only [execOp, hx, hh, hm, Option.map]
  have := run_slice_hm (w := w) t A n cp ht .i64 .i64 (h : Int) (m : Int) (by omega) (by omega) (by omega)
  rw [pureR_run hz] at this
  simp only [Result.andThen, sliced, Int.toNat_natCast, Nat.mul_one] at this
  cases A <;> simp [run_sliceAt_slice (w := w) t _ _ _ _ ht, this, slA]
theorem R_sliceLHM (l h m : Nat) (hx : evR ρ x = .slice A n cp) (hl : evR ρ lo = .int .i64 ((l : Nat) : Int)) (hh : evR ρ hi = .int .i64 ((h : Nat) : Int)) (hm : evR ρ mx = .int .i64 ((m : Nat) : Int)) (ht : P.underlying t = some (.slice (P.elem t))) (hz : pureR P (sizeOf (P.elem t)) = some 1) (h0 : l ≤ h) (h1 : h ≤ m) (h2 : m ≤ cp) :
    (execOp (evR ρ) ⟨d, .slice t x (some lo) (some hi) (some mx), ty, pos, af, g⟩).run P w = .ok (.value (.slice (slA A l m) (h - l) (m - l))) w := by
  simp only [execOp, hx, hl, hh, hm, Option.map]
  have := run_slice_lhm (w := w) t A n cp ht .i64 .i64 .i64 (l : Int) (h : Int) (m : Int) (by omega) (by omega) (by omega) (by omega)
  rw [pureR_run hz] at this
  simp only [Result.andThen, sliced, Int.toNat_natCast, Nat.mul_one] at this
  cases A <;> simp [run_sliceAt_slice (w := w) t _ _ _ _ ht, this, slA]
end
section
variable {P : Program} {ρ : Env} {w : World} {J : Env → World → Prop}
/-- append(v, x..), of one-cell elements, whatever x is. -/
theorem S_appendX {d : Option Tmp} {x y : Operand} {ty : TypeId} {pos : String} {af : Array Edge} {g : Option (Nat × Bool)} (t e : TypeId) (z : Value) (by_ : Nat) {n m : Nat} {A B : Option Addr} {cp c : Nat} {cells news : List Value}
    (hi : (P.info? e).map (fun i => (i.zero, i.size, i.bytes)) = some (some z, 1, by_)) (hzs : z.cells.size = 1) (ht : pureR P (underlying t) = some (.slice e))
    (hx : evR ρ x = .slice A n cp) (hy : evR ρ y = .slice B m c) (hown : Own w 0 e 1 (.slice A n cp) n cells) (hB : RdW w 1 m B news) (h0B : m = 0 → B = none ∨ ∃ b off, B = some ⟨b, off, none⟩) (h1 : ∀ u ∈ news, oneV u = true)
    (h63 : n + m ≤ maxLen) (hbytes : (n + m) * by_ ≤ 140737488355328)
    (h : ∀ A2 cp2 w1, Own w1 0 e 1 (.slice A2 (n + m) cp2) (n + m) (cells ++ news) → (∀ c, (Value.slice A2 (n + m) cp2).ownBlock = some c → (Value.slice A n cp).ownBlock = some c ∨ c = w.heap.size) → Tch (ownS (.slice A n cp)) w w1 → J (updO ρ d (.slice A2 (n + m) cp2)) w1) :
    Step P ⟨d, .call { callee := .builtin .append, args := #[x, y], argTypes := #[t, t] }, ty, pos, af, g⟩ ρ w J := by
  have key : (∃ b off, B = some ⟨b, off, none⟩ ∧ ∀ k u, news[k]? = some u → w.cell? ⟨b, off + k, none⟩ = some u) ∨ (m = 0 ∧ B = none) := by
    rcases Nat.eq_zero_or_pos m with q | q
    · rcases h0B q with r | ⟨b, off, r⟩
      · exact .inr ⟨q, r⟩
      · refine .inl ⟨b, off, r, fun k u hk => ?_⟩
        have : news = [] := List.eq_nil_of_length_eq_zero (by have := hB.1; omega)
        rw [this] at hk; cases hk
    · obtain ⟨b, off, r, _, hc⟩ := hB.2.2 q
      exact .inl ⟨b, off, r, hc⟩
  rcases key with ⟨b, off, rfl, hc⟩ | ⟨rfl, rfl⟩
  · exact S_appendR t e z 1 by_ (n := n) (m := m) (A := A) (cp := cp) (cells := cells) (news := news) (b := b) (off := off) (c := c) hi hzs (by omega) ht hx hy hown hB.1 hc h1 h63 hbytes h
  · have hnil : news = [] := List.eq_nil_of_length_eq_zero (by have := hB.1; omega)
    subst hnil
    obtain ⟨i, hi1, hi2, hi3, hi4⟩ := info_of hi
    have ht' : P.underlying t = some (.slice e) := by
      have := pureR_run (w := w) ht
      simp only [underlying] at this
      cases hu : P.underlying t with
      | none => simp [hu] at this
      | some u => simp [hu] at this; rw [this]
    have hcp : n ≤ cp := by
      rcases hown with ⟨_, ⟨hv, hn⟩ | ⟨b, cap, cur, hv, _, _, hn, _⟩⟩
      · omega
      · injection hv with _ _ q; omega
    refine S_val (v := .slice A n cp) (w' := w) ?_ (h A cp w (by simpa using hown) (fun c hc => .inl hc) (Tch.refl _ _))
    simp only [execOp, resolve, invoke, builtin, Array.map, hx, hy]
    cases A <;> simp [hx, hy, Builtin.append_, run_underlying ht', sizeOf, typeInfo, zeroValue, hi1, hi2, Builtin.lenOf, Builtin.firstCells, hcp, storeCells]
end
end Go.Proofs.YtnlecdpiccgdpaaV
