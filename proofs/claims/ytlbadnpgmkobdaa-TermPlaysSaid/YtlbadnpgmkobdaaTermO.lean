/- Terms: steps on their map. -/
import Derived.Test.YtlbadnpgmkobdaaTermP
set_option linter.unusedVariables false
set_option linter.unusedSimpArgs false
namespace Go.Proofs.YtlbadnpgmkobdaaV
open Go Go.RowKit Go.Proofs
section
variable {ρ : Env} {w : World} {J : Env → World → Prop}
set_option maxRecDepth 100000 in
theorem S_lookT {d : Option Tmp} {m x : Operand} {ty : TypeId} {pos : String} {af : Array Edge} {g : Option (Nat × Bool)} (cm : Bool) {ma : Nat} {N : List Nd} (n : Nd) (hN : N.Nodup) (hwf : nwf n) (hm : evR ρ m = .map (some ma)) (hx : evR ρ x = nodeV n) (hM : MapE Try.prog 32 w ma (atR N))
    (h : ∀ (i : Nat) ok, (ok = true → N[i]? = some n) → (ok = false → n ∉ N) → J (updO ρ d (if cm then .tuple #[.int .i64 ((i : Nat) : Int), .bool ok] else .int .i64 ((i : Nat) : Int))) w) : Step Try.prog ⟨d, .lookup 71 m x cm, ty, pos, af, g⟩ ρ w J :=
  S_lookupE cm 32 3 (.int .i64 0) key_law32 (by kernel_rfl) (by kernel_rfl) hm hx (key_nd hwf) hM fun v ok hv => by
    rcases hv with ⟨rfl, i, m, h1, h2, rfl⟩ | ⟨rfl, rfl, h2⟩
    · have := nodeV_inj h2
      subst this
      exact h i true (fun _ => h1) (fun e => by cases e)
    · refine h 0 false (fun e => by cases e) (fun _ hn => ?_)
      obtain ⟨i, hi, e⟩ := List.getElem_of_mem hn
      exact h2 _ ⟨i, n, by rw [List.getElem?_eq_getElem hi, e], rfl, rfl⟩
set_option maxRecDepth 100000 in
theorem S_updT {d : Option Tmp} {m x y : Operand} {ty : TypeId} {pos : String} {af : Array Edge} {g : Option (Nat × Bool)} {ma : Nat} {N : List Nd} (n : Nd) (hn : n ∉ N) (hwf : nwf n) (hm : evR ρ m = .map (some ma)) (hx : evR ρ x = nodeV n) (hy : evR ρ y = .int .i64 (N.length : Int)) (hM : MapE Try.prog 32 w ma (atR N))
    (h : ∀ w1, Tch (one ma) w w1 → w1.heap.size = w.heap.size → MapE Try.prog 32 w1 ma (atR (N ++ [n])) → J (updO ρ d undef) w1) : Step Try.prog ⟨d, .mapUpdate 71 m x y, ty, pos, af, g⟩ ρ w J :=
  S_updateE 32 3 key_law32 (by kernel_rfl) hm hx hy (key_nd hwf) hM fun w1 T hs hM1 => h w1 T hs (hM1.congr (atR_push hn))
set_option maxRecDepth 100000 in
theorem S_lookW {d : Option Tmp} {m x : Operand} {ty : TypeId} {pos : String} {af : Array Edge} {g : Option (Nat × Bool)} {mw : Nat} {N : List Nd} (i : Int) (hi : b64 i) (hm : evR ρ m = .map (some mw)) (hx : evR ρ x = .int .i64 i) (hM : MapE Try.prog 3 w mw (wdR N))
    (h : ∀ (q : Int) ok, (ok = true → ∃ n, n ∈ N ∧ nO n = 21 ∧ nA n = i ∧ nW n = q) → (ok = false → ∀ n, n ∈ N → nO n = 21 → nA n ≠ i) → J (updO ρ d (.tuple #[.int .i64 q, .bool ok])) w) : Step Try.prog ⟨d, .lookup 72 m x true, ty, pos, af, g⟩ ρ w J :=
  S_lookupE true 3 3 (.int .i64 0) key_law3 (by kernel_rfl) (by kernel_rfl) hm hx (key_int hi) hM fun v ok hv => by
    rcases hv with ⟨rfl, n, h1, h2, h3, rfl⟩ | ⟨rfl, rfl, h2⟩
    · injection h3 with _ h3
      exact h _ true (fun _ => ⟨n, h1, h2, h3.symm, rfl⟩) (fun e => by cases e)
    · exact h 0 false (fun e => by cases e) (fun _ n hn ho e => h2 _ ⟨n, hn, ho, by rw [e], rfl⟩)
end
end Go.Proofs.YtlbadnpgmkobdaaV
