/- What Run tells of gates: every literal follows, and is what its gate says. -/
import Derived.Test.YtnlecdpiccgdpaaG8
set_option linter.unusedVariables false
set_option linter.unusedSimpArgs false
namespace Go.Proofs.YtnlecdpiccgdpaaV
open Go Go.RowKit Go.Proofs
theorem runG (F : Nat → Prop) (p n hm hcp k lcp : Nat) (cs : List (List Nat)) (I : Nat → Prop) (H L : Option Addr) (hol : List Nat) (Lv : List Value) (t : Nat → Bool) (w : World) (hG : GObj F w p n cs I) (hH : RdW w 1 hm H (nats hol)) (hL : RdW w 1 k L Lv) (hcl : Cls w Lv cs) (hk : cs.length = k) (hn : n ≤ 68719476736)
    (hin : ∀ v, I v → ∃ x, x ∈ hol ∧ x / 2 = v) (hfh : ∀ x, x ∈ hol → I (x / 2) ∧ t (x / 2) = !decide (x % 2 = 1)) :
    Ret Try.prog 49 [.int .i64 ((n : Nat) : Int), .slice H hm hcp, .slice L k lcp] w fun v w' => ∃ K J ck cj kn tr b, v = .tuple #[.agg #[.slice K n ck, .slice J n cj], .bool true] ∧ RdW w' 1 n K (boolsV kn) ∧ RdW w' 1 n J (boolsV tr) ∧ Mod cs b ∧ (∀ v, I v → b v = t v) ∧ (∀ x, x / 2 < n → kn.getD (x / 2) false = true ∧ hIs kn tr x = lt_ b x) ∧ Tch N0 w w' := by
  obtain ⟨b, hb1, hb2⟩ := hG.2.ex t
  refine (run_ok n hm hcp k lcp H L hol Lv cs b w hH hL hcl hk (by omega) (fun x hx => ?_) (fun c hc => ⟨hb2 c hc, hG.2.fit c hc⟩)).mono fun v w' ⟨K, J, ck, cj, kn, tr, e, hK, hJ, l1, l2, hc, hh, hs, T⟩ => ⟨K, J, ck, cj, kn, tr, b, e, hK, hJ, hb2, hb1, fun x hx => ?_, T⟩
  · obtain ⟨h1, h2⟩ := hfh x hx
    refine ⟨hG.2.ins _ h1, ?_⟩
    unfold lt_
    rw [hb1 _ h1, h2]
    cases decide (x % 2 = 1) <;> rfl
  · have hkn := hG.2.cpl kn tr (fun v hv => by obtain ⟨y, hy, rfl⟩ := hin v hv; exact hh y hy) hs (x / 2) hx
    exact ⟨hkn, hc.is hkn⟩
theorem holds_is (n : Nat) (K J : Option Addr) (ck cj : Nat) (kn tr : List Bool) (x : Nat) (r : Bool) (w : World) (hK : RdW w 1 n K (boolsV kn)) (hJ : RdW w 1 n J (boolsV tr)) (hn : n ≤ 68719476736) (hxn : x / 2 < n) (h : kn.getD (x / 2) false = true ∧ hIs kn tr x = r) :
    Ret Try.prog 50 [.agg #[.slice K n ck, .slice J n cj], .int .i64 ((x : Nat) : Int)] w fun v w' => v = .tuple #[.bool r, .bool true] ∧ Tch N0 w w' := by
  have := holds_ok n K J ck cj kn tr x w hK hJ (by omega) (by omega) hxn
  rw [h.1, h.2] at this
  exact this
/-- A gate of two inputs is a variable of its own. -/
theorem and_four {n : Nat} {cs : List (List Nat)} {x : Nat} (hI : GI n cs (fun v => (False ∨ v = 1) ∨ v = 2)) (hx : x / 2 < n) (hs : ∀ be, Mod cs be → lt_ be x = (lt_ be 2 && lt_ be 4)) : 4 ≤ n := by
  by_cases h4 : 4 ≤ n
  · exact h4
  exfalso
  have key : ∀ p q : Bool, ∃ be, Mod cs be ∧ be 1 = p ∧ be 2 = q := fun p q => by
    obtain ⟨be, h1, h2⟩ := hI.ex (fun v => if v = 1 then p else q)
    exact ⟨be, h2, by rw [h1 1 (.inl (.inr rfl))]; rfl, by rw [h1 2 (.inr rfl)]; rfl⟩
  have l2 : ∀ be : Nat → Bool, lt_ be 2 = be 1 := fun be => by unfold lt_; simp
  have l4 : ∀ be : Nat → Bool, lt_ be 4 = be 2 := fun be => by unfold lt_; simp
  have l3 : ∀ be : Nat → Bool, lt_ be 3 = !be 1 := fun be => by unfold lt_; simp
  have l5 : ∀ be : Nat → Bool, lt_ be 5 = !be 2 := fun be => by unfold lt_; simp
  obtain ⟨b1, m1, p1, q1⟩ := key true true
  obtain ⟨b2, m2, p2, q2⟩ := key true false
  obtain ⟨b3, m3, p3, q3⟩ := key false true
  have e1 := hs b1 m1
  have e2 := hs b2 m2
  have e3 := hs b3 m3
  rw [l2, l4, p1, q1] at e1
  rw [l2, l4, p2, q2] at e2
  rw [l2, l4, p3, q3] at e3
  have hx6 : x = 0 ∨ x = 1 ∨ x = 2 ∨ x = 3 ∨ x = 4 ∨ x = 5 := by omega
  rcases hx6 with rfl | rfl | rfl | rfl | rfl | rfl
  · rw [hI.t0 m2] at e2; cases e2
  · rw [hI.t1 m1] at e1; cases e1
  · rw [l2, p2] at e2; cases e2
  · rw [l3, p1] at e1; cases e1
  · rw [l4, q3] at e3; cases e3
  · rw [l5, q1] at e1; cases e1
end Go.Proofs.YtnlecdpiccgdpaaV
