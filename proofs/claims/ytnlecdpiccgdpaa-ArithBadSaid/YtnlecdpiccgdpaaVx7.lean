/- The calculus' words for rows of one's own, kept apart from other blocks by hand. -/
import Derived.Test.YtnlecdpiccgdpaaVx4
set_option linter.unusedVariables false
set_option linter.unusedSimpArgs false
namespace Go.Proofs.YtnlecdpiccgdpaaV
open Go Go.RowKit
theorem Own.ne_own {w : World} {b e sz n b' e' sz' n' : Nat} {v v' : Value} {cells cells' : List Value} (h : Own w b e sz v n cells) (h' : Own w b' e' sz' v' n' cells') (hne : e ≠ e') : ∀ c, v.ownBlock = some c → v'.ownBlock = some c → False := by
  intro c hc hc'
  obtain ⟨_, k⟩ := h
  obtain ⟨_, k'⟩ := h'
  rcases k with ⟨hv, _⟩ | ⟨g, cap, cur, hv, _, hgb, _⟩
  · rw [hv] at hc; cases hc
  · rcases k' with ⟨hv', _⟩ | ⟨g', cap', cur', hv', _, hgb', _⟩
    · rw [hv'] at hc'; cases hc'
    · rw [hv] at hc; rw [hv'] at hc'
      have e1 : g = c := by injection hc
      have e2 : g' = c := by injection hc'
      subst e1; subst e2
      rw [hgb] at hgb'
      injection hgb' with q
      injection q with q1 q2
      exact hne q2
section
variable {P : Program} {ρ : Env} {w : World} {J : Env → World → Prop}
/-- append(v, x..), where the row lies in its own block: behind it, in that block or in a new one. -/
theorem S_appendR {d : Option Tmp} {x y : Operand} {ty : TypeId} {pos : String} {af : Array Edge} {g : Option (Nat × Bool)} (t e : TypeId) (z : Value) (sz by_ : Nat) {n m : Nat} {A : Option Addr} {cp : Nat} {cells news : List Value} {b off c : Nat}
    (hi : (P.info? e).map (fun i => (i.zero, i.size, i.bytes)) = some (some z, sz, by_)) (hzs : z.cells.size = sz) (hsz : 0 < sz) (ht : pureR P (underlying t) = some (.slice e))
    (hx : evR ρ x = .slice A n cp) (hy : evR ρ y = .slice (some ⟨b, off, none⟩) m c) (hown : Own w 0 e sz (.slice A n cp) n cells)
    (hl : news.length = m * sz) (hnews : ∀ k u, news[k]? = some u → w.cell? ⟨b, off + k, none⟩ = some u) (h1 : ∀ u ∈ news, oneV u = true)
    (h63 : n + m ≤ maxLen) (hbytes : (n + m) * by_ ≤ 140737488355328)
    (h : ∀ A2 cp2 w1, Own w1 0 e sz (.slice A2 (n + m) cp2) (n + m) (cells ++ news) → (∀ c, (Value.slice A2 (n + m) cp2).ownBlock = some c → (Value.slice A n cp).ownBlock = some c ∨ c = w.heap.size) → Tch (ownS (.slice A n cp)) w w1 → J (updO ρ d (.slice A2 (n + m) cp2)) w1) :
    Step P ⟨d, .call { callee := .builtin .append, args := #[x, y], argTypes := #[t, t] }, ty, pos, af, g⟩ ρ w J := by
  obtain ⟨i, hi1, hi2, hi3, hi4⟩ := info_of hi
  have ht' : P.underlying t = some (.slice e) := by
    have := pureR_run (w := w) ht
    simp only [underlying] at this
    cases hu : P.underlying t with
    | none => simp [hu] at this
    | some u => simp [hu] at this; rw [this]
  obtain ⟨v', w', hr, ho, hg, _, hwh⟩ := run_append_own_at (P := P) (w := w) 0 t ty e i z sz by_ ht' hi1 hi2 hi3 hi4 hzs hsz (.slice A n cp) n cells hown ⟨b, off, none⟩ m c news hl (fun k u hu => by rw [add_at]; exact hnews k u hu) (fun u hu => oneV_oneCell (h1 u hu)) h63 hbytes (by omega)
  have ho' : Own w' 0 e sz v' (n + m) (cells ++ news) := ho
  obtain ⟨A2, cp2, rfl, _⟩ := ho'.rd
  refine S_val (v := .slice A2 (n + m) cp2) (w' := w') ?_ (h A2 cp2 w' ho' (fun c hc => ?_) (Tch.of_grown hg))
  · simp only [execOp, resolve, invoke, builtin, Array.map, hx, hy]
    simp [hx, hy, hr]
  · rcases hwh with h' | h'
    · rw [h'] at hc; exact .inl hc
    · rw [h'] at hc; injection hc with hc; exact .inr hc.symm
/-- %, by a number that is not 0. -/
theorem S_rem_ {d : Option Tmp} {t u : TypeId} {x y : Operand} {ty : TypeId} {pos : String} {af : Array Edge} {g : Option (Nat × Bool)} {a b : Nat} (hx : evR ρ x = .int .i64 ((a : Nat) : Int)) (hy : evR ρ y = .int .i64 ((b : Nat) : Int)) (hb : 0 < b) :
    (execOp (evR ρ) ⟨d, .binOp .rem t x y u, ty, pos, af, g⟩).run P w = .ok (.value (.int .i64 ((a % b : Nat) : Int))) w := by
  have := R_rem (P := P) (w := w) (d := d) (t := t) (u := u) (ty := ty) (pos := pos) (af := af) (g := g) hx hy (by omega) (by omega)
  rw [this]
  congr 1
end
end Go.Proofs.YtnlecdpiccgdpaaV
