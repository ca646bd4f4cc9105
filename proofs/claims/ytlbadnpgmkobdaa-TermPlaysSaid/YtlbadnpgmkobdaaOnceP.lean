/- Terms, asked for twice; and each made of ones ahead of it: plain. -/
import Derived.Test.YtlbadnpgmkobdaaT6
set_option linter.unusedVariables false
set_option linter.unusedSimpArgs false
namespace Go.Proofs.YtlbadnpgmkobdaaV
open Go Go.RowKit Go.Proofs
def NdOk (i : Nat) (n : Nd) : Prop := (nO n ≠ 21 → nO n ≠ 20 → nA n < (i : Int)) ∧ (nO n ≠ 23 → nB n > 0 → nB n < (i : Int)) ∧ (nC n > 0 → nC n < (i : Int))
def TK (N : List Nd) : Prop := ∀ i, i < N.length → NdOk i (nth N i)
theorem nth_app {N : List Nd} {n : Nd} {i : Nat} (h : i < N.length) : nth (N ++ [n]) i = nth N i := by unfold nth; simp [List.getD_eq_getElem?_getD, List.getElem?_append_left h]
theorem nth_last {N : List Nd} {n : Nd} : nth (N ++ [n]) N.length = n := by unfold nth; simp [List.getD_eq_getElem?_getD]
theorem mk_TK {N : List Nd} {most : Int} {n : Nd} (h : TK N) (hn : NdOk N.length n) : TK (mk N most n).2.2 := by
  unfold mk
  split
  · exact h
  · split
    · exact h
    · intro i hi
      have hi' : i < N.length + 1 := by simpa using hi
      rcases Nat.lt_or_ge i N.length with q | q
      · show NdOk i (nth (N ++ [n]) i)
        rw [nth_app q]; exact h i q
      · have e : i = N.length := by omega
        subst e
        show NdOk N.length (nth (N ++ [n]) N.length)
        rw [nth_last]; exact hn
theorem mk_len {N : List Nd} {most : Int} {n : Nd} : N.length ≤ (mk N most n).2.2.length := by
  unfold mk
  split
  · exact Nat.le_refl _
  · split
    · exact Nat.le_refl _
    · simp
theorem mk_twice {N : List Nd} {most : Int} {n : Nd} : mk (mk N most n).2.2 most n = mk N most n := by
  by_cases h : n ∈ N
  · have e : mk N most n = (((N.idxOf n : Nat) : Int), 0, N) := by unfold mk; rw [if_pos h]
    rw [e]; exact e
  · by_cases hm : most ≤ (N.length : Int)
    · have e : mk N most n = (0, 8, N) := mk_full h hm
      rw [e]; exact e
    · have e : mk N most n = ((N.length : Int), 0, N ++ [n]) := mk_new h (by omega)
      rw [e]
      unfold mk
      rw [if_pos (by simp)]
      have : (N ++ [n]).idxOf n = N.length := by rw [List.idxOf_append, if_neg h]; simp
      rw [this]
theorem widF_mk {N : List Nd} {most : Int} {n : Nd} {a : Int} (h0 : 0 ≤ a) (h1 : a < (N.length : Int)) : widF (mk N most n).2.2 a = widF N a := by
  have hl := mk_len (N := N) (most := most) (n := n)
  have e1 : widF N a = nW (nth N a.toNat) := by unfold widF; rw [if_pos ⟨h0, h1⟩]
  have e2 : widF (mk N most n).2.2 a = nW (nth (mk N most n).2.2 a.toNat) := by unfold widF; rw [if_pos ⟨h0, by omega⟩]
  rw [e1, e2]
  unfold mk
  split
  · rfl
  · split
    · rfl
    · show nW (nth (N ++ [n]) a.toNat) = _
      rw [nth_app (by omega)]
theorem bad_mk {N : List Nd} {most : Int} {n : Nd} {l : List Int} (h : badT N.length l = false) : badT (mk N most n).2.2.length l = false := by
  have hl := mk_len (N := N) (most := most) (n := n)
  unfold badT at *
  rw [List.any_eq_false] at *
  intro x hx
  have := h x hx
  simp only [decide_eq_true_eq] at this ⊢
  omega
theorem varBad_mk {N : List Nd} {most w i : Int} (h : ¬ varBad N w i) : ¬ varBad (mk N most (21, w, i, 0, 0, 0)).2.2 w i := by
  rintro ⟨m, h1, h2, h3, h4⟩
  by_cases e : (mk N most (21, w, i, 0, 0, 0)).2.1 = 0
  · rcases ((mk_ok_in e).2 m).1 h1 with q | q
    · exact h ⟨m, q, h2, h3, h4⟩
    · subst q; exact h4 rfl
  · rw [mk_err e] at h1; exact h ⟨m, h1, h2, h3, h4⟩
theorem const_twice (N : List Nd) (most w x : Int) : constF (constF N most w x).2.2 most w x = constF N most w x := by
  by_cases h : ¬ (1 ≤ w ∧ w ≤ 64)
  · have e : ∀ N, constF N most w x = (0, 2, N) := fun N => by unfold constF; rw [if_pos h]
    rw [e]; rw [e]
  · have e : ∀ N, constF N most w x = mk N most (20, w, 0, 0, 0, cutF w x) := fun N => by unfold constF; rw [if_neg h]
    rw [e, e]; exact mk_twice
theorem var_twice (N : List Nd) (most w i : Int) : varF (varF N most w i).2.2 most w i = varF N most w i := by
  by_cases h : ¬ (1 ≤ w ∧ w ≤ 64)
  · have e : ∀ N, varF N most w i = (0, 2, N) := fun N => by unfold varF; rw [if_pos h]
    rw [e]; rw [e]
  · by_cases h2 : i < 0 ∨ 256 ≤ i
    · have e : ∀ N, varF N most w i = (0, 10, N) := fun N => by unfold varF; rw [if_neg h, if_pos h2]
      rw [e]; rw [e]
    · by_cases h3 : varBad N w i
      · have e : varF N most w i = (0, 2, N) := by unfold varF; rw [if_neg h, if_neg h2, if_pos h3]
        rw [e]; exact e
      · have e : varF N most w i = mk N most (21, w, i, 0, 0, 0) := by unfold varF; rw [if_neg h, if_neg h2, if_neg h3]
        rw [e]
        have e2 : ∀ N, ¬ varBad N w i → varF N most w i = mk N most (21, w, i, 0, 0, 0) := fun N hb => by unfold varF; rw [if_neg h, if_neg h2, if_neg hb]
        rw [e2 _ (varBad_mk h3)]; exact mk_twice
theorem una_twice (N : List Nd) (most o a : Int) : unaF (unaF N most o a).2.2 most o a = unaF N most o a := by
  by_cases h : o ≠ 15 ∧ o ≠ 16
  · have e : ∀ N, unaF N most o a = (0, 3, N) := fun N => by unfold unaF; rw [if_pos h]
    rw [e]; rw [e]
  · cases hb : badT N.length [a] with
    | true =>
      have e : unaF N most o a = (0, 11, N) := by unfold unaF; rw [if_neg h, if_pos hb]
      rw [e]; exact e
    | false =>
      have e2 : ∀ N, badT N.length [a] = false → unaF N most o a = mk N most (o, widF N a, a, 0, 0, 0) := fun N hb => by unfold unaF; rw [if_neg h, if_neg (nb hb)]
      obtain ⟨q, r⟩ := bad1f.1 hb
      rw [e2 N hb, e2 _ (bad_mk hb), widF_mk q r]; exact mk_twice
theorem bin_twice (N : List Nd) (most o a b : Int) : binF (binF N most o a b).2.2 most o a b = binF N most o a b := by
  by_cases h : o < 1 ∨ 14 < o
  · have e : ∀ N, binF N most o a b = (0, 3, N) := fun N => by unfold binF; rw [if_pos h]
    rw [e]; rw [e]
  · cases hb : badT N.length [a, b] with
    | true =>
      have e : binF N most o a b = (0, 11, N) := by unfold binF; rw [if_neg h, if_pos hb]
      rw [e]; exact e
    | false =>
      obtain ⟨⟨q, r⟩, q2, r2⟩ := bad2f.1 hb
      by_cases hw : widF N a ≠ widF N b
      · have e : binF N most o a b = (0, 2, N) := by unfold binF; rw [if_neg h, if_neg (nb hb), if_pos hw]
        rw [e]; exact e
      · have e2 : ∀ N, badT N.length [a, b] = false → ¬ (widF N a ≠ widF N b) → binF N most o a b = mk N most (o, if o = 12 ∨ o = 13 ∨ o = 14 then 1 else widF N a, a, b, 0, 0) := fun N hb hw => by unfold binF; rw [if_neg h, if_neg (nb hb), if_neg hw]
        rw [e2 N hb hw, e2 _ (bad_mk hb) (by rw [widF_mk q r, widF_mk q2 r2]; exact hw), widF_mk q r]; exact mk_twice
theorem ite_twice (N : List Nd) (most c a b : Int) : iteF (iteF N most c a b).2.2 most c a b = iteF N most c a b := by
  cases hb : badT N.length [c, a, b] with
  | true =>
    have e : iteF N most c a b = (0, 11, N) := by unfold iteF; rw [if_pos hb]
    rw [e]; exact e
  | false =>
    obtain ⟨⟨q, r⟩, ⟨q2, r2⟩, q3, r3⟩ := bad3f.1 hb
    by_cases hw : widF N c ≠ 1 ∨ widF N a ≠ widF N b
    · have e : iteF N most c a b = (0, 2, N) := by unfold iteF; rw [if_neg (nb hb), if_pos hw]
      rw [e]; exact e
    · have e2 : ∀ N, badT N.length [c, a, b] = false → ¬ (widF N c ≠ 1 ∨ widF N a ≠ widF N b) → iteF N most c a b = mk N most (22, widF N a, c, a, b, 0) := fun N hb hw => by unfold iteF; rw [if_neg (nb hb), if_neg hw]
      rw [e2 N hb hw, e2 _ (bad_mk hb) (by rw [widF_mk q r, widF_mk q2 r2, widF_mk q3 r3]; exact hw), widF_mk q2 r2]; exact mk_twice
theorem ext_twice (N : List Nd) (most a lo w : Int) : extF (extF N most a lo w).2.2 most a lo w = extF N most a lo w := by
  cases hb : badT N.length [a] with
  | true =>
    have e : extF N most a lo w = (0, 11, N) := by unfold extF; rw [if_pos hb]
    rw [e]; exact e
  | false =>
    obtain ⟨q, r⟩ := bad1f.1 hb
    by_cases hw : w < 1 ∨ lo < 0 ∨ widF N a < w ∨ widF N a - w < lo
    · have e : extF N most a lo w = (0, 2, N) := by unfold extF; rw [if_neg (nb hb), if_pos hw]
      rw [e]; exact e
    · have e2 : ∀ N, badT N.length [a] = false → ¬ (w < 1 ∨ lo < 0 ∨ widF N a < w ∨ widF N a - w < lo) → extF N most a lo w = mk N most (23, w, a, lo, 0, 0) := fun N hb hw => by unfold extF; rw [if_neg (nb hb), if_neg hw]
      rw [e2 N hb hw, e2 _ (bad_mk hb) (by rw [widF_mk q r]; exact hw)]; exact mk_twice
theorem cat_twice (N : List Nd) (most a b : Int) : catF (catF N most a b).2.2 most a b = catF N most a b := by
  cases hb : badT N.length [a, b] with
  | true =>
    have e : catF N most a b = (0, 11, N) := by unfold catF; rw [if_pos hb]
    rw [e]; exact e
  | false =>
    obtain ⟨⟨q, r⟩, q2, r2⟩ := bad2f.1 hb
    by_cases hw : 64 < widF N a + widF N b
    · have e : catF N most a b = (0, 2, N) := by unfold catF; rw [if_neg (nb hb), if_pos hw]
      rw [e]; exact e
    · have e2 : ∀ N, badT N.length [a, b] = false → ¬ (64 < widF N a + widF N b) → catF N most a b = mk N most (24, widF N a + widF N b, a, b, 0, 0) := fun N hb hw => by unfold catF; rw [if_neg (nb hb), if_neg hw]
      rw [e2 N hb hw, e2 _ (bad_mk hb) (by rw [widF_mk q r, widF_mk q2 r2]; exact hw), widF_mk q r, widF_mk q2 r2]; exact mk_twice
theorem exd_twice (N : List Nd) (most a w : Int) (sg : Bool) : exdF (exdF N most a w sg).2.2 most a w sg = exdF N most a w sg := by
  cases hb : badT N.length [a] with
  | true =>
    have e : exdF N most a w sg = (0, 11, N) := by unfold exdF; rw [if_pos hb]
    rw [e]; exact e
  | false =>
    obtain ⟨q, r⟩ := bad1f.1 hb
    by_cases hw : w < widF N a ∨ 64 < w
    · have e : exdF N most a w sg = (0, 2, N) := by unfold exdF; rw [if_neg (nb hb), if_pos hw]
      rw [e]; exact e
    · by_cases hw2 : w = widF N a
      · have e : exdF N most a w sg = (a, 0, N) := by unfold exdF; rw [if_neg (nb hb), if_neg hw, if_pos hw2]
        rw [e]; exact e
      · have e2 : ∀ N, badT N.length [a] = false → ¬ (w < widF N a ∨ 64 < w) → ¬ (w = widF N a) → exdF N most a w sg = mk N most (if sg then 26 else 25, w, a, 0, 0, 0) := fun N hb hw hw2 => by unfold exdF; rw [if_neg (nb hb), if_neg hw, if_neg hw2]
        rw [e2 N hb hw hw2, e2 _ (bad_mk hb) (by rw [widF_mk q r]; exact hw) (by rw [widF_mk q r]; exact hw2)]; exact mk_twice
theorem made_twice (N : List Nd) (most k w a b c x : Int) : madeF (madeF N most k w a b c x).2.2 most k w a b c x = madeF N most k w a b c x := by
  by_cases h0 : k = 0
  · have e : ∀ N, madeF N most k w a b c x = constF N most w x := fun N => by unfold madeF; rw [if_pos h0]
    rw [e, e]; exact const_twice _ _ _ _
  by_cases h1 : k = 1
  · have e : ∀ N, madeF N most k w a b c x = varF N most w a := fun N => by unfold madeF; rw [if_neg h0, if_pos h1]
    rw [e, e]; exact var_twice _ _ _ _
  by_cases h2 : k = 2
  · have e : ∀ N, madeF N most k w a b c x = unaF N most a b := fun N => by unfold madeF; rw [if_neg h0, if_neg h1, if_pos h2]
    rw [e, e]; exact una_twice _ _ _ _
  by_cases h3 : k = 3
  · have e : ∀ N, madeF N most k w a b c x = binF N most a b c := fun N => by unfold madeF; rw [if_neg h0, if_neg h1, if_neg h2, if_pos h3]
    rw [e, e]; exact bin_twice _ _ _ _ _
  by_cases h4 : k = 4
  · have e : ∀ N, madeF N most k w a b c x = iteF N most a b c := fun N => by unfold madeF; rw [if_neg h0, if_neg h1, if_neg h2, if_neg h3, if_pos h4]
    rw [e, e]; exact ite_twice _ _ _ _ _
  by_cases h5 : k = 5
  · have e : ∀ N, madeF N most k w a b c x = extF N most a b w := fun N => by unfold madeF; rw [if_neg h0, if_neg h1, if_neg h2, if_neg h3, if_neg h4, if_pos h5]
    rw [e, e]; exact ext_twice _ _ _ _ _
  by_cases h6 : k = 6
  · have e : ∀ N, madeF N most k w a b c x = catF N most a b := fun N => by unfold madeF; rw [if_neg h0, if_neg h1, if_neg h2, if_neg h3, if_neg h4, if_neg h5, if_pos h6]
    rw [e, e]; exact cat_twice _ _ _ _
  have e : ∀ N, madeF N most k w a b c x = exdF N most a w (b.tmod 2 != 0) := fun N => by unfold madeF; rw [if_neg h0, if_neg h1, if_neg h2, if_neg h3, if_neg h4, if_neg h5, if_neg h6]
  rw [e, e]; exact exd_twice _ _ _ _ _
theorem made_TK {N : List Nd} (h : TK N) (most k w a b c x : Int) : TK (madeF N most k w a b c x).2.2 := by
  unfold madeF
  split
  · unfold constF; split
    · exact h
    · exact mk_TK h ⟨fun _ q => absurd rfl q, fun _ q => absurd q (by show ¬ ((0 : Int) > 0); decide), fun q => absurd q (by show ¬ ((0 : Int) > 0); decide)⟩
  · split
    · unfold varF; split
      · exact h
      · split
        · exact h
        · split
          · exact h
          · exact mk_TK h ⟨fun q => absurd rfl q, fun _ q => absurd q (by show ¬ ((0 : Int) > 0); decide), fun q => absurd q (by show ¬ ((0 : Int) > 0); decide)⟩
    · split
      · unfold unaF; split
        · exact h
        · split
          · exact h
          · rename_i _ hb
            obtain ⟨q, r⟩ := bad1f.1 (Bool.eq_false_iff.2 hb)
            exact mk_TK h ⟨fun _ _ => r, fun _ q => absurd q (by show ¬ ((0 : Int) > 0); decide), fun q => absurd q (by show ¬ ((0 : Int) > 0); decide)⟩
      · split
        · unfold binF; split
          · exact h
          · split
            · exact h
            · rename_i _ hb
              obtain ⟨⟨q, r⟩, q2, r2⟩ := bad2f.1 (Bool.eq_false_iff.2 hb)
              split
              · exact h
              · exact mk_TK h ⟨fun _ _ => r, fun _ _ => r2, fun q => absurd q (by show ¬ ((0 : Int) > 0); decide)⟩
        · split
          · unfold iteF; split
            · exact h
            · rename_i hb
              obtain ⟨⟨q, r⟩, ⟨q2, r2⟩, q3, r3⟩ := bad3f.1 (Bool.eq_false_iff.2 hb)
              split
              · exact h
              · exact mk_TK h ⟨fun _ _ => r, fun _ _ => r2, fun _ => r3⟩
          · split
            · unfold extF; split
              · exact h
              · rename_i hb
                obtain ⟨q, r⟩ := bad1f.1 (Bool.eq_false_iff.2 hb)
                split
                · exact h
                · exact mk_TK h ⟨fun _ _ => r, fun z => absurd rfl z, fun q => absurd q (by show ¬ ((0 : Int) > 0); decide)⟩
            · split
              · unfold catF; split
                · exact h
                · rename_i hb
                  obtain ⟨⟨q, r⟩, q2, r2⟩ := bad2f.1 (Bool.eq_false_iff.2 hb)
                  split
                  · exact h
                  · exact mk_TK h ⟨fun _ _ => r, fun _ _ => r2, fun q => absurd q (by show ¬ ((0 : Int) > 0); decide)⟩
              · unfold exdF; split
                · exact h
                · rename_i hb
                  obtain ⟨q, r⟩ := bad1f.1 (Bool.eq_false_iff.2 hb)
                  split
                  · exact h
                  · split
                    · exact h
                    · exact mk_TK h ⟨fun _ _ => r, fun _ q => absurd q (by show ¬ ((0 : Int) > 0); decide), fun q => absurd q (by show ¬ ((0 : Int) > 0); decide)⟩
theorem nth_ne {N : List Nd} (h : N.Nodup) {i k : Nat} (hk : k < i) (hi : i < N.length) : nth N k ≠ nth N i := by
  intro e
  unfold nth at e
  rw [List.getD_eq_getElem?_getD, List.getD_eq_getElem?_getD, List.getElem?_eq_getElem hi, List.getElem?_eq_getElem (by omega)] at e
  have e' : N[k]'(by omega) = N[i] := e
  have h1 := h.idxOf_getElem k (by omega)
  have h2 := h.idxOf_getElem i hi
  rw [e'] at h1
  omega
theorem TK_nil : TK [] := fun i h => by simp at h
theorem node_at (F : Nat → Prop) (p : Nat) (most : Int) (N : List Nd) (W : Value → Value → Prop) (i : Nat) (w : World) (hL : TLow F w p most N W) (hN : N.length ≤ 65536) (hi : i < N.length) :
    Ret Try.prog 14 [.pointer (some ⟨p, 0, none⟩), .int .i64 ((i : Nat) : Int)] w fun v w' => v = .tuple #[.agg #[.int .i64 (nO (nth N i)), .int .i64 (nW (nth N i)), .int .i64 (nA (nth N i)), .int .i64 (nB (nth N i)), .int .i64 (nC (nth N i)), .int .u64 (nV (nth N i))], .bool true] ∧ Tch N0 w w' := by
  have := node_in F p most N W (i : Int) w hL hN (by omega) (by omega)
  simpa only [Int.toNat_natCast] using this
end Go.Proofs.YtlbadnpgmkobdaaV
