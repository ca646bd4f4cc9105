/- Each method of an order, and each of the document's texts, in one sentence. -/
import Derived.Test.YthfjceemphhgcaaR6
set_option linter.unusedVariables false
set_option linter.unusedSimpArgs false
namespace Go.Proofs.YthfjceemphhgcaaV
open Go Go.RowKit Go.Proofs

theorem Mv.same {F : Nat → Prop} {w w' : World} (h : Tch F w w') : Mv F F w w' := ⟨h, fun b hb => .inl hb⟩
theorem Mv.n0 {F : Nat → Prop} {w w' : World} (h : Tch N0 w w') : Mv F F w w' := .same (h.weaken (fun _ _ e => e.elim))
def PushR (n : Nat) (hp : List Nat) (v : Int) (r : Bool) (hp' : List Nat) : Prop := (r = true ∧ 0 ≤ v ∧ v < n ∧ v.toNat ∉ hp ∧ hp'.Perm (v.toNat :: hp)) ∨ (r = false ∧ ((v < 0 ∨ (n : Int) ≤ v) ∨ v.toNat ∈ hp) ∧ hp' = hp)
theorem push_ok (F : Nat → Prop) (p n : Nat) (hp : List Nat) (ac : List Int) (v : Int) (w : World) (h : Ord F w p n hp ac) : Ret Try.prog 26 [.pointer (some ⟨p, 0, none⟩), .int .i64 v] w fun x w' => ∃ r F' hp', x = .bool r ∧ Ord F' w' p n hp' ac ∧ Mv F F' w w' ∧ PushR n hp v r hp' := by
  by_cases hv : 0 ≤ v ∧ v < n
  · obtain ⟨x, rfl⟩ : ∃ x : Nat, v = x := ⟨v.toNat, by omega⟩
    by_cases hm : x ∈ hp
    · exact (push_no F p n hp ac x w h (.inr (by rw [Int.toNat_natCast]; exact hm))).mono fun _ _ ⟨e, hT⟩ => ⟨_, F, hp, e, h.tch0 hT, .n0 hT, .inr ⟨rfl, .inr (by rw [Int.toNat_natCast]; exact hm), rfl⟩⟩
    · exact (push_yes F p n hp ac x w h (by omega) hm).mono fun _ _ ⟨e, F', hp', ho, hpm, hmv⟩ => ⟨_, F', hp', e, ho, hmv, .inl ⟨rfl, hv.1, hv.2, by rw [Int.toNat_natCast]; exact hm, by rw [Int.toNat_natCast]; exact hpm⟩⟩
  · exact (push_no F p n hp ac v w h (.inl (by omega))).mono fun _ _ ⟨e, hT⟩ => ⟨_, F, hp, e, h.tch0 hT, .n0 hT, .inr ⟨rfl, .inl (by omega), rfl⟩⟩
def PopR (ac : List Int) (hp : List Nat) (a : Int) (r : Bool) (hp' : List Nat) : Prop := (r = true ∧ ∃ x : Nat, a = x ∧ x ∈ hp ∧ (x :: hp').Perm hp ∧ ∀ y, y ∈ hp → y ≠ x → HeapP.lt ac x y) ∨ (r = false ∧ a = -1 ∧ hp = [] ∧ hp' = [])
theorem Ord.fine {F : Nat → Prop} {w : World} {p n : Nat} {hp : List Nat} {ac : List Int} (h : Ord F w p n hp ac) : HeapP.Fine (HeapP.lt ac) hp := by
  obtain ⟨A, cp, bat, bac, at_, hP, hO, hT, hC, h1, h2, h3, h4, h5, h6, h7, h8, h9, h10, h11, h12, h13⟩ := h
  exact h13
theorem Ord.lt_ {F : Nat → Prop} {w : World} {p n : Nat} {hp : List Nat} {ac : List Int} (h : Ord F w p n hp ac) : ∀ x, x ∈ hp → x < n := by
  obtain ⟨A, cp, bat, bac, at_, hP, hO, hT, hC, h1, h2, h3, h4, h5, h6, h7, h8, h9, h10, h11, h12, h13⟩ := h
  exact h10
theorem Ord.nodup {F : Nat → Prop} {w : World} {p n : Nat} {hp : List Nat} {ac : List Int} (h : Ord F w p n hp ac) : hp.Nodup := by
  obtain ⟨A, cp, bat, bac, at_, hP, hO, hT, hC, h1, h2, h3, h4, h5, h6, h7, h8, h9, h10, h11, h12, h13⟩ := h
  exact h11.nodup
theorem Ord.F_lt {F : Nat → Prop} {w : World} {p n : Nat} {hp : List Nat} {ac : List Int} (h : Ord F w p n hp ac) : ∀ b, F b → b < w.heap.size := by
  obtain ⟨A, cp, bat, bac, at_, hP, hO, hT, hC, h1, h2, h3, h4, h5, h6, h7, h8, h9, h10, h11, h12, h13⟩ := h
  exact h6
theorem Ord.n_le {F : Nat → Prop} {w : World} {p n : Nat} {hp : List Nat} {ac : List Int} (h : Ord F w p n hp ac) : n ≤ 1048576 := by
  obtain ⟨A, cp, bat, bac, at_, hP, hO, hT, hC, h1, h2, h3, h4, h5, h6, h7, h8, h9, h10, h11, h12, h13⟩ := h
  exact h9
theorem Ord.acLen {F : Nat → Prop} {w : World} {p n : Nat} {hp : List Nat} {ac : List Int} (h : Ord F w p n hp ac) : ac.length = n := by
  obtain ⟨A, cp, bat, bac, at_, hP, hO, hT, hC, h1, h2, h3, h4, h5, h6, h7, h8, h9, h10, h11, h12, h13⟩ := h
  exact h8
theorem pop_ok (F : Nat → Prop) (p n : Nat) (hp : List Nat) (ac : List Int) (w : World) (h : Ord F w p n hp ac) : Ret Try.prog 24 [.pointer (some ⟨p, 0, none⟩)] w fun v w' => ∃ a r hp', v = .tuple #[.int .i64 a, .bool r] ∧ Ord F w' p n hp' ac ∧ Tch F w w' ∧ PopR ac hp a r hp' := by
  by_cases h0 : hp.length = 0
  · have e0 : hp = [] := List.length_eq_zero_iff.1 h0
    subst e0
    exact (pop_no F p n [] ac w h h0).mono fun _ _ ⟨e, hT⟩ => ⟨_, _, [], e, h.tch0 hT, hT.weaken (fun _ _ e => e.elim), .inr ⟨rfl, rfl, rfl, rfl⟩⟩
  · have hf := h.fine
    have hd := h.nodup
    refine (pop_yes F p n hp ac w h (by omega)).mono fun _ _ ⟨e, hp', ho, hpm, hT⟩ => ⟨_, _, hp', e, ho, hT, .inl ⟨rfl, hp.getD 0 0, rfl, HeapP.getD_mem (by omega), hpm, fun y hy hne => ?_⟩⟩
    obtain ⟨j, hj, rfl⟩ := HeapP.mem_getD hy
    have h1 := HeapP.fine_root (HeapP.lt_strict ac) hp hf j hj
    rcases (HeapP.lt_strict ac).tri (hp.getD 0 0) (hp.getD j 0) with q | q | q
    · exact q
    · exact absurd q.symm hne
    · exact absurd q h1
def BumpR (n : Nat) (ac : List Int) (v d : Int) (r : Bool) (ac' : List Int) : Prop := (r = true ∧ 0 ≤ v ∧ v < n ∧ ac' = ac.set v.toNat (HeapP.bumpA (ac.getD v.toNat 0) d)) ∨ (r = false ∧ (v < 0 ∨ (n : Int) ≤ v) ∧ ac' = ac)
theorem bump_ok (F : Nat → Prop) (p n : Nat) (hp : List Nat) (ac : List Int) (v d : Int) (w : World) (h : Ord F w p n hp ac) : Ret Try.prog 27 [.pointer (some ⟨p, 0, none⟩), .int .i64 v, .int .i64 d] w fun x w' => ∃ r hp' ac', x = .bool r ∧ Ord F w' p n hp' ac' ∧ hp'.Perm hp ∧ Tch F w w' ∧ BumpR n ac v d r ac' := by
  by_cases hv : 0 ≤ v ∧ v < n
  · obtain ⟨x, rfl⟩ : ∃ x : Nat, v = x := ⟨v.toNat, by omega⟩
    by_cases hm : x ∈ hp
    · exact (bump_in F p n hp ac x d w h (by omega) hm).mono fun _ _ ⟨e, hp', ho, hpm, hT⟩ => ⟨_, hp', _, e, ho, hpm, hT, .inl ⟨rfl, hv.1, hv.2, by rw [Int.toNat_natCast]⟩⟩
    · exact (bump_out F p n hp ac x d w h (by omega) hm).mono fun _ _ ⟨e, hp', ho, hpm, hT⟩ => ⟨_, hp', _, e, ho, hpm, hT, .inl ⟨rfl, hv.1, hv.2, by rw [Int.toNat_natCast]⟩⟩
  · exact (bump_no F p n hp ac v d w h (by omega)).mono fun _ _ ⟨e, hT⟩ => ⟨_, hp, ac, e, h.tch0 hT, List.Perm.refl _, hT.weaken (fun _ _ e => e.elim), .inr ⟨rfl, by omega, rfl⟩⟩
theorem halve_ok (F : Nat → Prop) (p n : Nat) (hp : List Nat) (ac : List Int) (w : World) (h : Ord F w p n hp ac) : Ret Try.prog 25 [.pointer (some ⟨p, 0, none⟩)] w fun v w' => ∃ hp', Ord F w' p n hp' (HeapP.halveL ac) ∧ hp'.Perm hp ∧ Tch F w w' := by
  by_cases h0 : hp.length = 0
  · exact halve_out F p n hp ac w h h0
  · exact halve_in F p n hp ac w h (by omega)
def cl (n : Int) : Nat := if n < 0 ∨ 1048576 < n then 0 else n.toNat
theorem new_ok (n : Int) (w : World) : Ret Try.prog 16 [.int .i64 n] w fun v w' => ∃ F p, v = .pointer (some ⟨p, 0, none⟩) ∧ Ord F w' p (cl n) [] (List.replicate (cl n) 0) ∧ Tch N0 w w' ∧ ∀ b, F b → w.heap.size ≤ b := by
  unfold cl
  split
  · rename_i h; exact new_out n w h
  · obtain ⟨x, rfl⟩ : ∃ x : Nat, n = x := ⟨n.toNat, by omega⟩
    rw [Int.toNat_natCast]; exact new_in x w (by omega)
/-- The one that comes out. -/
theorem PopR.is {ac : List Int} {hp hp' : List Nat} {a : Int} {r : Bool} (h : PopR ac hp a r hp') {l : List Nat} {x : Nat} (hl : hp.Perm (x :: l)) (hx : ∀ y, y ∈ l → HeapP.lt ac x y) : a = x ∧ r = true ∧ hp'.Perm l := by
  rcases h with ⟨h1, z, h2, h3, h4, h5⟩ | ⟨_, _, h3, _⟩
  · have e : z = x := by
      by_cases e : z = x
      · exact e
      · have hz : z ∈ l := by
          have := hl.mem_iff.1 h3
          simp only [List.mem_cons] at this
          exact this.resolve_left e
        have q := h5 x (hl.mem_iff.2 (by simp)) (fun q => e q.symm)
        exact absurd q ((HeapP.lt_strict ac).asym (hx z hz))
    subst e
    exact ⟨h2, h1, (List.perm_cons _).1 (h4.trans hl)⟩
  · subst h3
    have := hl.length_eq
    simp at this
theorem PopR.none {ac : List Int} {hp hp' : List Nat} {a : Int} {r : Bool} (h : PopR ac hp a r hp') (hl : hp.Perm []) : a = -1 ∧ r = false ∧ hp'.Perm [] := by
  rcases h with ⟨h1, z, h2, h3, h4, h5⟩ | ⟨h1, h2, h3, h4⟩
  · have := hl.mem_iff.1 h3
    simp at this
  · exact ⟨h2, h1, by rw [h4]⟩
theorem PushR.yes {n : Nat} {hp hp' l : List Nat} {v : Int} {r : Bool} (h : PushR n hp v r hp') (x : Nat) (hv : v = x) (hx : x < n) (hl : hp.Perm l) (hn : x ∉ l) : r = true ∧ hp'.Perm (x :: l) := by
  subst hv
  rcases h with ⟨h1, h2, h3, h4, h5⟩ | ⟨h1, h2, h3⟩
  · rw [Int.toNat_natCast] at h5
    exact ⟨h1, h5.trans (hl.cons _)⟩
  · rw [Int.toNat_natCast] at h2
    rcases h2 with h2 | h2
    · omega
    · exact absurd (hl.mem_iff.1 h2) hn
theorem PushR.no {n : Nat} {hp hp' l : List Nat} {v : Int} {r : Bool} (h : PushR n hp v r hp') (x : Nat) (hv : v = x) (hl : hp.Perm l) (hn : x ∈ l) : r = false ∧ hp'.Perm l := by
  subst hv
  rcases h with ⟨h1, h2, h3, h4, h5⟩ | ⟨h1, h2, h3⟩
  · rw [Int.toNat_natCast] at h4
    exact absurd (hl.mem_iff.2 hn) h4
  · exact ⟨h1, by rw [h3]; exact hl⟩
theorem BumpR.yes {n : Nat} {ac ac' : List Int} {v d : Int} {r : Bool} (h : BumpR n ac v d r ac') (h0 : 0 ≤ v) (h1 : v < n) : r = true ∧ ac' = ac.set v.toNat (HeapP.bumpA (ac.getD v.toNat 0) d) := by
  rcases h with ⟨h2, _, _, h3⟩ | ⟨h2, h3, _⟩
  · exact ⟨h2, h3⟩
  · omega
theorem BumpR.no {n : Nat} {ac ac' : List Int} {v d : Int} {r : Bool} (h : BumpR n ac v d r ac') (h1 : (n : Int) ≤ v) : r = false ∧ ac' = ac := by
  rcases h with ⟨h2, _, _, h3⟩ | ⟨h2, h3, h4⟩
  · omega
  · exact ⟨h2, h4⟩
end Go.Proofs.YthfjceemphhgcaaV
