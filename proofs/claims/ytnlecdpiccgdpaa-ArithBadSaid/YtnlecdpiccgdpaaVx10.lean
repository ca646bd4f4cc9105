/- A row is copied behind none. -/
import Derived.Test.YtnlecdpiccgdpaaVx7
import Derived.Test.YtnlecdpiccgdpaaVx4
set_option linter.unusedVariables false
set_option linter.unusedSimpArgs false
namespace Go.Proofs.YtnlecdpiccgdpaaV
open Go Go.RowKit Go.Proofs
section
variable {P : Program} {ρ : Env} {w : World} {J : Env → World → Prop}
theorem S_copyR {d : Option Tmp} {x y : Operand} {ty : TypeId} {pos : String} {af : Array Edge} {g : Option (Nat × Bool)} (t e : TypeId) (z : Value) (sz by_ : Nat) {m : Nat} {A : Option Addr} {cp : Nat} {cells : List Value}
    (hi : (P.info? e).map (fun i => (i.zero, i.size, i.bytes)) = some (some z, sz, by_)) (hzs : z.cells.size = sz) (hsz : 0 < sz) (ht : pureR P (underlying t) = some (.slice e))
    (hx : evR ρ x = .slice none 0 0) (hy : evR ρ y = .slice A m cp) (hown : Own w 0 e sz (.slice A m cp) m cells) (h1 : ∀ u ∈ cells, oneV u = true)
    (h63 : m ≤ maxLen) (hbytes : m * by_ ≤ 140737488355328)
    (h : ∀ A2 cp2 w1, Own w1 0 e sz (.slice A2 m cp2) m cells → (∀ c, (Value.slice A2 m cp2).ownBlock = some c → c = w.heap.size) → Tch N0 w w1 → J (updO ρ d (.slice A2 m cp2)) w1) :
    Step P ⟨d, .call { callee := .builtin .append, args := #[x, y], argTypes := #[t, t] }, ty, pos, af, g⟩ ρ w J := by
  rcases hown with ⟨hl, ⟨hv, hm⟩ | ⟨b, cap, cur, hv, _, hg, hn, hcap, hsize, hcur⟩⟩
  · subst hm
    injection hv with hA _ hc
    subst hA; subst hc
    have hc0 : cells = [] := List.eq_nil_of_length_eq_zero (by omega)
    subst hc0
    obtain ⟨i, hi1, hi2, hi3, hi4⟩ := info_of hi
    have ht' : P.underlying t = some (.slice e) := by
      have := pureR_run (w := w) ht
      simp only [underlying] at this
      cases hu : P.underlying t with
      | none => simp [hu] at this
      | some u => simp [hu] at this; rw [this]
    refine S_val (v := .slice none 0 0) (w' := w) ?_ (h none 0 w (Own.nil_ _ _ _ _) (fun c hc => by cases hc) (Tch.refl _ _))
    simp only [execOp, resolve, invoke, builtin, Array.map, hx, hy]
    simp [hx, hy, Builtin.append_, run_underlying ht', sizeOf, typeInfo, zeroValue, hi1, hi2, Builtin.lenOf, Builtin.firstCells]
  · injection hv with hA _ hc
    subst hA; subst hc
    refine S_appendR t e z sz by_ (n := 0) (m := m) (A := none) (cp := 0) (cells := []) (news := cells) (b := b) (off := 0) (c := cp) hi hzs hsz ht hx hy (Own.nil_ _ _ _ _) hl (fun k u hk => ?_) h1 (by omega) (by rw [Nat.zero_add]; exact hbytes) fun A2 cp2 w1 hO hw hT => ?_
    · rw [Nat.zero_add]
      rw [← hcur] at hk
      have hk2 : cur.toList[k]? = some u := by
        rw [List.getElem?_take] at hk
        split at hk
        · exact hk
        · cases hk
      simp [World.cell?, hg]
      simpa using hk2
    · rw [Nat.zero_add] at hO hw ⊢
      exact h A2 cp2 w1 (by simpa using hO) (fun c hc => (hw c hc).resolve_left (fun q => by cases q)) (hT.weaken (fun b _ q => by cases q))
end
theorem Res_tc {P : Program} {fn : Func} {ρ : Env} {w : World} {p u : Tmp} {ty : TypeId} {b : Nat} {e : TypeId} {cs : List Value} (h : fn.results = #[.tmp u, .cell p ty]) (hp : Nat.blt p fn.ntmps = true) (hu : Nat.blt u fn.ntmps = true) (hx : ρ p = .pointer (some ⟨b, 0, none⟩)) (hb : Blk w b e cs) (ha : pureR P (isAgg ty) = some true) (hz : pureR P (sizeOf ty) = some cs.length) :
    Res P fn ρ w (.tuple #[ρ u, .agg cs.toArray]) := by
  unfold Res results
  have h3 := run_loadVarA (P := P) (w := w) (b := b) (j := 0) cs ha hz (blk_part hb)
  simp [h, Fr_getD hp, Fr_getD hu, hx, asAddr_run, h3]
end Go.Proofs.YtnlecdpiccgdpaaV
