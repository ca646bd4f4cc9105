/- Texts laid together: Both readings of a report's bytes are one: plain. Walks of functions of the program and of the document's texts. The conditions stand with each theorem. A report's bytes there and back: plain. Walks of functions of the program and of the document's texts. The conditions stand with each theorem. Walks of functions of the program and of the document's texts. The conditions stand with each theorem. An argument that is a report, opened. Walks of functions of the program and of the document's texts. The conditions stand with each theorem. -/
import Derived.Test.YtlkjhkennbdbnaaJRrepo91x7
import Derived.Test.YtlkjhkennbdbnaaJRrepo91x1
import Derived.Test.YtlkjhkennbdbnaaProg
import Derived.WideShapes
import Derived.ProofKit
import Derived.OpenShut
import Derived.Deep.Slices
import Derived.Deep.Strs
import Derived.Lib.SmallJoins
set_option linter.unusedVariables false
set_option linter.unusedSimpArgs false
namespace Go.Proofs.YtlkjhkennbdbnaaV
open Go Go.RowKit Go.Proofs
theorem nxo {t : Tx} {k : Nat} (h : k ≤ t.length) : nx (t, none) k = (t.drop k, none) := by
 unfold nx; rw [if_neg (by show ¬ (false = true); decide), if_neg (by show ¬ t.length < k; omega)]
theorem nxs {t : Tx} {k : Nat} (h : t.length < k) : nx (t, none) k = (t, some shT) := by
 unfold nx; rw [if_neg (by show ¬ (false = true); decide), if_pos (by show t.length < k; omega)]
theorem tko {t : Tx} {k : Nat} (h : k ≤ t.length) : tk (t, none) k = t.take k := by
 unfold tk; rw [if_neg]
 rintro (h1 | h1)
 ·
  exact absurd h1 (by show ¬ (false = true); decide)
 ·
  have h1 : t.length < k := h1
  omega
theorem nuo {t : Tx} {k : Nat} (h : k ≤ t.length) : nu (t, none) k = vl (t.take k) := by unfold nu; rw [tko h]
theorem vl_one {t : Tx} (h : 1 ≤ t.length) : vl (t.take 1) = (t.getD 0 0).toNat := by
 cases t with
 | nil => simp at h
 | cons a t => simp [vl]
theorem getD_drop {t : Tx} (k : Nat) : (t.drop k).getD 0 0 = t.getD k 0 := by simp [List.getD_eq_getElem?_getD, List.getElem?_drop]
/-! ### one test -/
theorem er_nx {x : St} {k : Nat} (h : x.2 = some shT) : (nx x k).2 = some shT := by rw [nx_err (by rw [h]; rfl), h]
theorem er_q7 {x : St} (h : (q7 x).2 = some shT) : ∀ i, (qi x i).2 = some shT
 | 0 => h
 | i + 1 => er_nx (er_q7 h i)
theorem er_qi {x : St} {i : Nat} (h : (qi x i).2 = some shT) : ∀ d, (qi x (i + d)).2 = some shT
 | 0 => h
 | d + 1 => er_nx (er_qi h d)
theorem er6 {x : St} (h : (q6 x).2 = some shT) : (tf x).2 = some shT := er_q7 (er_nx h) _
theorem er5 {x : St} (h : (q5 x).2 = some shT) : (tf x).2 = some shT := er6 (er_nx h)
theorem er4 {x : St} (h : (q4 x).2 = some shT) : (tf x).2 = some shT := er5 (er_nx h)
theorem er3 {x : St} (h : (q3 x).2 = some shT) : (tf x).2 = some shT := er4 (er_nx h)
theorem er2 {x : St} (h : (q2 x).2 = some shT) : (tf x).2 = some shT := er3 (er_nx h)
theorem er1 {x : St} (h : (q1 x).2 = some shT) : (tf x).2 = some shT := er2 (er_nx h)
theorem qi_go {t : Tx} (h7 : q7 (t, none) = (p1e t, none)) : ∀ i, 8 * i ≤ (p1e t).length → qi (t, none) i = ((p1e t).drop (8 * i), none)
 | 0, _ => by show q7 (t, none) = _; rw [h7]; simp
 | i + 1, h => by
  show nx (qi (t, none) i) 8 = _
  rw [qi_go h7 i (by omega), nxo (by rw [List.length_drop]; omega), List.drop_drop]
  rw [show 8 * i + 8 = 8 * (i + 1) by omega]
theorem q12 {t : Tx} (h1 : 1 ≤ t.length) : q1 (t, none) = (p1a t, none) ∧ nu (t, none) 1 = p1k t := by
 have ha := rn_t h1
 constructor
 ·
  unfold q1 p1a; rw [nxo h1, ha.2]
 ·
  unfold p1k; rw [nuo h1, ha.1]
theorem q2_go {t : Tx} (h1 : 1 ≤ t.length) (h2 : p1k t ≤ (p1a t).length) : q2 (t, none) = (p1d t, none) ∧ tk (q1 (t, none)) (nu (t, none) 1) = (p1a t).take (p1k t) := by
 obtain ⟨e1, k1⟩ := q12 h1
 constructor
 ·
  unfold q2 p1d; rw [e1, k1, nxo h2]
 ·
  rw [e1, k1, tko h2]
theorem q7_go {t : Tx} (h1 : 1 ≤ t.length) (h2 : p1k t ≤ (p1a t).length) (h3 : 8 ≤ (p1d t).length) :
  q3 (t, none) = ((p1d t).drop 2, none) ∧ q4 (t, none) = ((p1d t).drop 4, none) ∧ q5 (t, none) = ((p1d t).drop 6, none) ∧ q6 (t, none) = ((p1d t).drop 7, none) ∧ q7 (t, none) = (p1e t, none) := by
 obtain ⟨e2, _⟩ := q2_go h1 h2
 have e3 : q3 (t, none) = ((p1d t).drop 2, none) := by unfold q3; rw [e2, nxo (by omega)]
 have e4 : q4 (t, none) = ((p1d t).drop 4, none) := by unfold q4; rw [e3, nxo (by rw [List.length_drop]; omega), List.drop_drop]
 have e5 : q5 (t, none) = ((p1d t).drop 6, none) := by unfold q5; rw [e4, nxo (by rw [List.length_drop]; omega), List.drop_drop]
 have e6 : q6 (t, none) = ((p1d t).drop 7, none) := by unfold q6; rw [e5, nxo (by rw [List.length_drop]; omega), List.drop_drop]
 have e7 : q7 (t, none) = (p1e t, none) := by unfold q7 p1e; rw [e6, nxo (by rw [List.length_drop]; omega), List.drop_drop]
 exact ⟨e3, e4, e5, e6, e7⟩
theorem nN {t : Tx} (h1 : 1 ≤ t.length) (h2 : p1k t ≤ (p1a t).length) (h3 : 8 ≤ (p1d t).length) : nu (q6 (t, none)) 1 = p1n t := by
 obtain ⟨e3, e4, e5, e6, e7⟩ := q7_go h1 h2 h3
 rw [e6, nuo (by rw [List.length_drop]; omega), vl_one (by rw [List.length_drop]; omega), getD_drop]; rfl
theorem tf_ok {t : Tx} (h : p1b t = true) : tf (t, none) = (p1r t, none) ∧ tco (t, none) = p1c t := by
 obtain ⟨h1, h2, h3, h4⟩ := of_decide_eq_true h
 obtain ⟨e2, ei⟩ := q2_go h1 h2
 obtain ⟨e3, e4, e5, e6, e7⟩ := q7_go h1 h2 h3
 have en := nN h1 h2 h3
 constructor
 ·
  unfold tf; rw [en, qi_go e7 _ h4, p1_t h]
 ·
  unfold tco p1c
  rw [ei, en, e2, e3, e4, e5, nuo (by omega), nuo (by rw [List.length_drop]; omega), nuo (by rw [List.length_drop]; omega), nuo (by rw [List.length_drop]; omega), vl_one (t := (p1d t).drop 6) (by rw [List.length_drop]; omega), getD_drop]
  have em : imx (t, none) (p1n t) = ims (p1e t) (p1n t) := by
   unfold imx ims
   refine List.map_congr_left fun i hi => ?_
   rw [List.mem_range] at hi
   rw [qi_go e7 i (by omega), nuo (by rw [List.length_drop]; omega)]; rfl
  rw [em]
theorem tf_bad {t : Tx} (h : p1b t = false) : (tf (t, none)).2 = some shT := by
 have h := of_decide_eq_false h
 rcases Nat.lt_or_ge t.length 1 with c1 | c1
 ·
  exact er1 (by unfold q1; rw [nxs c1])
 obtain ⟨e1, k1⟩ := q12 c1
 rcases Nat.lt_or_ge (p1a t).length (p1k t) with c2 | c2
 ·
  exact er2 (by unfold q2; rw [e1, k1, nxs c2])
 obtain ⟨e2, ei⟩ := q2_go c1 c2
 rcases Nat.lt_or_ge (p1d t).length 2 with c3 | c3
 ·
  exact er3 (by unfold q3; rw [e2, nxs c3])
 have e3 : q3 (t, none) = ((p1d t).drop 2, none) := by unfold q3; rw [e2, nxo c3]
 rcases Nat.lt_or_ge (p1d t).length 4 with c4 | c4
 ·
  exact er4 (by unfold q4; rw [e3, nxs (by rw [List.length_drop]; omega)])
 have e4 : q4 (t, none) = ((p1d t).drop 4, none) := by unfold q4; rw [e3, nxo (by rw [List.length_drop]; omega), List.drop_drop]
 rcases Nat.lt_or_ge (p1d t).length 6 with c5 | c5
 ·
  exact er5 (by unfold q5; rw [e4, nxs (by rw [List.length_drop]; omega)])
 have e5 : q5 (t, none) = ((p1d t).drop 6, none) := by unfold q5; rw [e4, nxo (by rw [List.length_drop]; omega), List.drop_drop]
 rcases Nat.lt_or_ge (p1d t).length 7 with c6 | c6
 ·
  exact er6 (by unfold q6; rw [e5, nxs (by rw [List.length_drop]; omega)])
 have e6 : q6 (t, none) = ((p1d t).drop 7, none) := by unfold q6; rw [e5, nxo (by rw [List.length_drop]; omega), List.drop_drop]
 rcases Nat.lt_or_ge (p1d t).length 8 with c7 | c7
 ·
  exact er_q7 (by unfold q7; rw [e6, nxs (by rw [List.length_drop]; omega)]) _
 obtain ⟨_, _, _, _, e7⟩ := q7_go c1 c2 c7
 have en := nN c1 c2 c7
 have c8 : (p1e t).length < 8 * p1n t := by
  rcases Nat.lt_or_ge (p1e t).length (8 * p1n t) with q | q
  ·
   exact q
  ·
   exact absurd ⟨c1, c2, c7, q⟩ h
 have e8 := qi_go e7 ((p1e t).length / 8) (by omega)
 have e9 : (qi (t, none) ((p1e t).length / 8 + 1)).2 = some shT := by
  show (nx (qi (t, none) ((p1e t).length / 8)) 8).2 = _
  rw [e8, nxs (by rw [List.length_drop]; omega)]
 have e10 := er_qi e9 (p1n t - ((p1e t).length / 8 + 1))
 unfold tf
 rw [en, show p1n t = (p1e t).length / 8 + 1 + (p1n t - ((p1e t).length / 8 + 1)) by omega]
 exact e10
/-! ### the whole -/
def cdE (E : Option Tx) : Int := if E = some shT then 6 else if E = some rgT then 4 else if E = some fmT then 5 else 0
theorem blo {t : Tx} {k m : Nat} (h : k ≤ t.length) (h2 : vl (t.take k) ≤ m) : bl (t, none) k m = (t.drop k, none) := by
 unfold bl; rw [nxo h, nuo h, if_neg (by rintro ⟨_, q⟩; omega)]
theorem blb {t : Tx} {k m : Nat} (h : k ≤ t.length) (h2 : m < vl (t.take k)) : (bl (t, none) k m).2 = some rgT := by
 unfold bl; rw [nxo h, nuo h, if_pos ⟨rfl, h2⟩]
theorem bls {t : Tx} {k m : Nat} (h : t.length < k) : bl (t, none) k m = (t, some shT) := by
 unfold bl; rw [nxs h, if_neg (by rintro ⟨q, _⟩; exact absurd q (by show ¬ (true = false); decide))]
theorem er_bl {x : St} {k m : Nat} {e : Tx} (h : x.2 = some e) : (bl x k m).2 = some e := by
 have h2 : x.2.isSome = true := by rw [h]; rfl
 unfold bl; rw [nx_err h2, if_neg (by rintro ⟨q, _⟩; rw [h2] at q; cases q), h]
theorem er_nx2 {x : St} {k : Nat} {e : Tx} (h : x.2 = some e) : (nx x k).2 = some e := by rw [nx_err (by rw [h]; rfl), h]
theorem fe5 {s : Tx} {e : Tx} (h : (a5 s).2 = some e) : fe s = some e := by
 have h0 : (tst s 0).2.isSome = true := by show (a5 s).2.isSome = true; rw [h]; rfl
 have := tst_err h0 (aN s)
 rw [Nat.zero_add] at this
 unfold fe
 rw [this, if_neg (by rintro ⟨q, _⟩; rw [h0] at q; cases q)]
 exact h
theorem fe4 {s : Tx} {e : Tx} (h : (a4 s).2 = some e) : fe s = some e := fe5 (er_nx2 h)
theorem fe3 {s : Tx} {e : Tx} (h : (a3 s).2 = some e) : fe s = some e := fe4 (er_bl h)
theorem fe2 {s : Tx} {e : Tx} (h : (a2 s).2 = some e) : fe s = some e := fe3 (er_bl h)
theorem fe1 {s : Tx} {e : Tx} (h : (a1 s).2 = some e) : fe s = some e := fe2 (er_nx2 h)
theorem tst_go {s : Tx} (h5 : a5 s = (hT s, none)) : ∀ j, (∀ i, i < j → p1b (pl i (hT s)) = true) → tst s j = (pl j (hT s), none) ∧ ptc s j = pc j (hT s)
 | 0, _ => ⟨h5, rfl⟩
 | j + 1, h => by
  obtain ⟨e1, e2⟩ := tst_go h5 j (fun i hi => h i (by omega))
  obtain ⟨e3, e4⟩ := tf_ok (h j (by omega))
  constructor
  ·
   show tf (tst s j) = _
   rw [e1, e3]; rfl
  ·
   rw [ptc_step, pc_step, e2, e1, e4]
theorem first_bad (f : Nat → Bool) : ∀ n, (∀ i, i < n → f i = true) ∨ ∃ j, j < n ∧ f j = false ∧ ∀ i, i < j → f i = true
 | 0 => .inl (fun i h => by omega)
 | n + 1 => by
  rcases first_bad f n with h | ⟨j, hj, hf, ha⟩
  ·
   cases hn : f n with
   | true => exact .inl (fun i hi => (Nat.lt_or_eq_of_le (Nat.le_of_lt_succ hi)).elim (h i) (fun e => by rw [e]; exact hn))
   | false => exact .inr ⟨n, by omega, hn, h⟩
  ·
   exact .inr ⟨j, by omega, hf, ha⟩
/-- What the program's reader says is what the document says. -/
theorem both (s : Tx) : code s = cdE (fe s) ∧ (fe s = none ∨ fe s = some shT ∨ fe s = some rgT ∨ fe s = some fmT) ∧ (fe s = none → nu (a0 s) 1 = hV s ∧ nu (a1 s) 1 = hE s ∧ nu (a2 s) 4 = hS s ∧ nu (a3 s) 4 = hU s ∧ ptc s (aN s) = pc (hN s) (hT s)) := by
 have csh : cdE (some shT) = 6 := by decide
 have crg : cdE (some rgT) = 4 := by decide
 have cfm : cdE (some fmT) = 5 := by decide
 have fsh : ∀ c : Int, code s = 6 → fe s = some shT → code s = cdE (fe s) ∧ (fe s = none ∨ fe s = some shT ∨ fe s = some rgT ∨ fe s = some fmT) ∧ (fe s = none → nu (a0 s) 1 = hV s ∧ nu (a1 s) 1 = hE s ∧ nu (a2 s) 4 = hS s ∧ nu (a3 s) 4 = hU s ∧ ptc s (aN s) = pc (hN s) (hT s)) := fun _ h1 h2 => ⟨by rw [h1, h2, csh], .inr (.inl h2), fun h => by rw [h2] at h; cases h⟩
 have frg : ∀ c : Int, code s = 4 → fe s = some rgT → code s = cdE (fe s) ∧ (fe s = none ∨ fe s = some shT ∨ fe s = some rgT ∨ fe s = some fmT) ∧ (fe s = none → nu (a0 s) 1 = hV s ∧ nu (a1 s) 1 = hE s ∧ nu (a2 s) 4 = hS s ∧ nu (a3 s) 4 = hU s ∧ ptc s (aN s) = pc (hN s) (hT s)) := fun _ h1 h2 => ⟨by rw [h1, h2, crg], .inr (.inr (.inl h2)), fun h => by rw [h2] at h; cases h⟩
 rcases Nat.lt_or_ge s.length 1 with c1 | c1
 ·
  exact fsh 0 (by unfold code; rw [if_neg (by omega), if_pos (by omega)]) (fe1 (by unfold a1 a0; rw [bls c1]))
 have v0 : vl (s.take 1) = hV s := vl_one c1
 rcases Nat.lt_or_ge 3 (hV s) with c2 | c2
 ·
  exact frg 0 (by unfold code; rw [if_pos (by omega)]) (fe1 (by unfold a1 a0; exact blb c1 (by omega)))
 have e1 : a1 s = (s.drop 1, none) := by unfold a1 a0; exact blo c1 (by omega)
 rcases Nat.lt_or_ge s.length 2 with c3 | c3
 ·
  exact fsh 0 (by unfold code; rw [if_neg (by omega), if_pos (by omega)]) (fe2 (by unfold a2; rw [e1, nxs (by rw [List.length_drop]; omega)]))
 have e2 : a2 s = (s.drop 2, none) := by unfold a2; rw [e1, nxo (by rw [List.length_drop]; omega), List.drop_drop]
 rcases Nat.lt_or_ge s.length 6 with c4 | c4
 ·
  exact fsh 0 (by unfold code; rw [if_neg (by omega), if_pos (by omega)]) (fe3 (by unfold a3; rw [e2, bls (by rw [List.length_drop]; omega)]))
 rcases Nat.lt_or_ge 1073741824 (hS s) with c5 | c5
 ·
  exact frg 0 (by unfold code; rw [if_neg (by omega), if_neg (by omega), if_pos (by omega)]) (fe3 (by unfold a3; rw [e2]; exact blb (by rw [List.length_drop]; omega) c5))
 have e3 : a3 s = (s.drop 6, none) := by unfold a3; rw [e2, blo (by rw [List.length_drop]; omega) c5, List.drop_drop]
 rcases Nat.lt_or_ge (s.length - 6) 4 with c6 | c6
 ·
  exact fsh 0 (by unfold code; rw [if_neg (by omega), if_neg (by omega), if_neg (by omega), if_pos (by omega)]) (fe4 (by unfold a4; rw [e3, bls (by rw [List.length_drop]; omega)]))
 have hd6 : (s.drop 6).length = s.length - 6 := List.length_drop
 have hu := rn_t (k := 4) (t := s.drop 6) (by omega)
 have vU : vl ((s.drop 6).take 4) = hU s := hu.1.symm
 rcases Nat.lt_or_ge 1073741824 (hU s) with c7 | c7
 ·
  exact frg 0 (by unfold code; rw [if_neg (by omega), if_neg (by omega), if_neg (by omega), if_neg (by omega), if_pos (by omega)]) (fe4 (by unfold a4; rw [e3]; exact blb (by omega) (by omega)))
 have e4 : a4 s = (hR s, none) := by unfold a4 hR; rw [e3, blo (by omega) (by omega), hu.2]
 rcases Nat.lt_or_ge (hR s).length 2 with c8 | c8
 ·
  exact fsh 0 (by unfold code; rw [if_neg (by omega), if_neg (by omega), if_neg (by omega), if_neg (by omega), if_neg (by omega), if_pos (by omega)]) (fe5 (by unfold a5; rw [e4, nxs c8]))
 have hn := rn_t (k := 2) (t := hR s) c8
 have e5 : a5 s = (hT s, none) := by unfold a5 hT; rw [e4, nxo c8, hn.2]
 have eN : aN s = hN s := by unfold aN hN; rw [e4, nuo c8, hn.1]
 have base : code s = if okN (hN s) (hT s) = false then 6 else if 0 < (pl (hN s) (hT s)).length then 5 else 0 := by
  unfold code; rw [if_neg (by omega), if_neg (by omega), if_neg (by omega), if_neg (by omega), if_neg (by omega), if_neg (by omega)]
 rcases first_bad (fun i => p1b (pl i (hT s))) (hN s) with hall | ⟨j, hj, hf, ha⟩
 ·
  obtain ⟨t1, t2⟩ := tst_go e5 (hN s) hall
  have vals : nu (a0 s) 1 = hV s ∧ nu (a1 s) 1 = hE s ∧ nu (a2 s) 4 = hS s ∧ nu (a3 s) 4 = hU s ∧ ptc s (aN s) = pc (hN s) (hT s) := by
   refine ⟨?_, ?_, ?_, ?_, ?_⟩
   ·
    unfold a0; rw [nuo c1, v0]
   ·
    rw [e1, nuo (by rw [List.length_drop]; omega), vl_one (by rw [List.length_drop]; omega), getD_drop]; rfl
   ·
    rw [e2, nuo (by rw [List.length_drop]; omega)]; rfl
   ·
    rw [e3, nuo (by omega), vU]
   ·
    rw [eN, t2]
  rw [if_neg (okN_t hall)] at base
  rcases Nat.eq_zero_or_pos (pl (hN s) (hT s)).length with c9 | c9
  ·
   have hfe : fe s = none := by
    unfold fe; rw [eN, t1, if_neg]
    rintro ⟨_, q⟩
    exact q (List.eq_nil_of_length_eq_zero c9)
   rw [if_neg (by omega)] at base
   exact ⟨by rw [base, hfe]; decide, .inl hfe, fun _ => vals⟩
  ·
   have hfe : fe s = some fmT := by
    unfold fe; rw [eN, t1, if_pos]
    refine ⟨rfl, fun q => ?_⟩
    have q : pl (hN s) (hT s) = [] := q
    rw [q] at c9; simp at c9
   rw [if_pos c9] at base
   exact ⟨by rw [base, hfe, cfm], .inr (.inr (.inr hfe)), fun h => by rw [hfe] at h; cases h⟩
 ·
  rw [if_pos (okN_f hj hf)] at base
  obtain ⟨t1, _⟩ := tst_go e5 j ha
  have t2 : (tst s (j + 1)).2 = some shT := by
   show (tf (tst s j)).2 = _
   rw [t1]; exact tf_bad hf
  have t3 := tst_err (s := s) (j := j + 1) (by rw [t2]; rfl) (aN s - (j + 1))
  have hfe : fe s = some shT := by
   unfold fe
   rw [show aN s = j + 1 + (aN s - (j + 1)) by omega, t3, t2, if_neg (by rintro ⟨q, _⟩; cases q)]
  exact fsh 0 base hfe
end Go.Proofs.YtlkjhkennbdbnaaV

set_option linter.unusedVariables false
set_option linter.unusedSimpArgs false
namespace Go.Proofs.YtlkjhkennbdbnaaV
open Go Go.RowKit Go.Proofs

theorem isO_sh (E : Option Tx) (w : World) (h : E = none ∨ E = some shT ∨ E = some rgT ∨ E = some fmT) : Ret Try.prog 35 [evO E, .iface 72 (.string (bsT [116, 111, 111, 32, 115, 104, 111, 114, 116]))] w fun v w' => v = .bool (decide (E = some shT)) ∧ Tch N0 w w' := by
 rcases h with rfl | rfl | rfl | rfl
 ·
  exact Is_n_sh w
 ·
  exact Is_sh_sh w
 ·
  exact Is_rg_sh w
 ·
  exact Is_fm_sh w
theorem isO_rg (E : Option Tx) (w : World) (h : E = none ∨ E = some shT ∨ E = some rgT ∨ E = some fmT) : Ret Try.prog 35 [evO E, .iface 72 (.string (bsT [111, 117, 116, 32, 111, 102, 32, 114, 97, 110, 103, 101]))] w fun v w' => v = .bool (decide (E = some rgT)) ∧ Tch N0 w w' := by
 rcases h with rfl | rfl | rfl | rfl
 ·
  exact Is_n_rg w
 ·
  exact Is_sh_rg w
 ·
  exact Is_rg_rg w
 ·
  exact Is_fm_rg w
theorem isO_fm (E : Option Tx) (w : World) (h : E = none ∨ E = some shT ∨ E = some rgT ∨ E = some fmT) : Ret Try.prog 35 [evO E, .iface 72 (.string (bsT [98, 121, 116, 101, 115, 32, 108, 101, 102, 116]))] w fun v w' => v = .bool (decide (E = some fmT)) ∧ Tch N0 w w' := by
 rcases h with rfl | rfl | rfl | rfl
 ·
  exact Is_n_fm w
 ·
  exact Is_sh_fm w
 ·
  exact Is_rg_fm w
 ·
  exact Is_fm_fm w
theorem cd_sh {E : Option Tx} (h : E = some shT) : cdE E = 6 := by rw [h]; decide
theorem cd_rg {E : Option Tx} (h : E = some rgT) : cdE E = 4 := by rw [h]; decide
theorem cd_fm {E : Option Tx} (h : E = some fmT) : cdE E = 5 := by rw [h]; decide
theorem cd_no {E : Option Tx} (h : E = none ∨ E = some shT ∨ E = some rgT ∨ E = some fmT) (h1 : ¬ E = some shT) (h2 : ¬ E = some rgT) (h3 : ¬ E = some fmT) : E = none := by
 rcases h with h | h | h | h
 ·
  exact h
 ·
  exact absurd h h1
 ·
  exact absurd h h2
 ·
  exact absurd h h3

set_option maxRecDepth 100000 in
theorem read_ok (s : Tx) (w : World) : Ret Try.prog 14 [.string (bsT s)] w fun v w' => ∃ A c l, v = .tuple #[.agg #[.int .i64 (rV s), .int .i64 (rE s), .slice A l.length c, .int .i64 (rS s), .int .i64 (rU s)], .int .i64 (code s)] ∧ TsW w' A l ∧ cores l = rL s ∧ TsB A l w.heap.size w'.heap.size ∧ Tch N0 w w' := by
 have hbo := both s
 refine enter Try.func14 rfl rfl ?_
 refine zQ ?_
 refine st (by rfl) (S_new (v := .pointer (some ⟨w.heap.size, 0, none⟩)) (ob := .cells #[.int .i64 0, .int .i64 0, .slice none 0 0, .int .i64 0, .int .i64 0] 25) (by kernel_rfl) fun w1 hT2 hs3 hB4 => ?_)
 replace hB4 : Blk w1 (w.heap.size) 25 [.int .i64 0, .int .i64 0, .slice none 0 0, .int .i64 0, .int .i64 0] := hB4
 have hT0 := hT2
 refine zS [(3, .int .i64 0)] ?_
 refine op_nil ?_
 refine zQ ?_
 refine zS [(7, .string (bsT s)), (8, .agg #[.string (bsT s), .nilIface])] ?_
 have hz9 := hT0.size
 have lt10 := hB4.lt
 refine st (by rfl) (S_new (v := .pointer (some ⟨w1.heap.size, 0, none⟩)) (ob := .cells #[.string (bsT s), .nilIface] 69) (by kernel_rfl) fun w5 hT6 hs7 hB8 => ?_)
 replace hB8 : Blk w5 (w1.heap.size) 69 [.string (bsT s), .nilIface] := hB8
 have hT0 := hT0.t0 hT6
 have hB4 := hB4.tch0 hT6
 have hz_ := hT0.size
 refine zC (all_ok (w1.heap.size) s _ hB8) ?_
 rintro _ w11 ⟨A, c, l, rfl, hTs, hcl, hTb, hT12⟩
 have hT0 := (hT0).then hT12 (fun c e => by have : c = w1.heap.size := e; omega)
 have hB4 := hB4.tch hT12 (hB4.ne hB8 (by decide))
 have hzL : w11.heap.size ≤ w11.heap.size := Nat.le_refl _
 refine zS [(6, .tuple #[.agg #[.int .i64 ((nu (a0 s) 1 : Nat) : Int), .int .i64 ((nu (a1 s) 1 : Nat) : Int), .slice A l.length c, .int .i64 ((nu (a2 s) 4 : Nat) : Int), .int .i64 ((nu (a3 s) 4 : Nat) : Int)], (evO (fe s))]), (11, .agg #[.int .i64 ((nu (a0 s) 1 : Nat) : Int), .int .i64 ((nu (a1 s) 1 : Nat) : Int), .slice A l.length c, .int .i64 ((nu (a2 s) 4 : Nat) : Int), .int .i64 ((nu (a3 s) 4 : Nat) : Int)]), (12, (evO (fe s)))] ?_
 have hz17 := hT0.size
 have lt18 := hB4.lt
 refine st (by rfl) (S_new (v := .pointer (some ⟨w11.heap.size, 0, none⟩)) (ob := .cells #[.int .i64 0, .int .i64 0, .slice none 0 0, .int .i64 0, .int .i64 0] 25) (by kernel_rfl) fun w13 hT14 hs15 hB16 => ?_)
 replace hB16 : Blk w13 (w11.heap.size) 25 [.int .i64 0, .int .i64 0, .slice none 0 0, .int .i64 0, .int .i64 0] := hB16
 have hT0 := hT0.t0 hT14
 have hB4 := hB4.tch0 hT14
 have hTs := hTs.tch0 hT14
 have hzL := Nat.le_trans hzL hT14.size
 refine st (by rfl) (S_storeA (b := w11.heap.size) (j := 0) (cs := [.int .i64 ((nu (a0 s) 1 : Nat) : Int), .int .i64 ((nu (a1 s) 1 : Nat) : Int), .slice A l.length c, .int .i64 ((nu (a2 s) 4 : Nat) : Int), .int .i64 ((nu (a3 s) 4 : Nat) : Int)]) (by kernel_rfl) (by kernel_rfl) (by kernel_rfl) (by simp [oneV]) hB16 (by simp) fun w19 hT20 hs21 hB16' => ?_)
 have hT0 := (hT0).then hT20 (fun c e => by have : c = w11.heap.size := e; omega)
 have hB4 := hB4.tch hT20 (fun e => by have : w.heap.size = w11.heap.size := e; omega)
 have hTs := hTs.tchB hTb hT20 (fun c h1 h2 e => by have e : c = w11.heap.size := e; omega)
 have hzL := Nat.le_trans hzL hT20.size
 replace hB16 : Blk w19 w11.heap.size 25 [.int .i64 ((nu (a0 s) 1 : Nat) : Int), .int .i64 ((nu (a1 s) 1 : Nat) : Int), .slice A l.length c, .int .i64 ((nu (a2 s) 4 : Nat) : Int), .int .i64 ((nu (a3 s) 4 : Nat) : Int)] := hB16'
 refine zS [(5, (evO (fe s)))] ?_
 refine op_nil ?_
 refine W_seq ?_
 refine W_block ?_
 refine W_seq ?_
 refine zF [(0, .string (bsT s)), (2, .pointer (some ⟨w.heap.size, 0, none⟩)), (3, .int .i64 0), (4, .pointer (some ⟨w11.heap.size, 0, none⟩)), (5, (evO (fe s)))] fun ρ => ?_
 refine zR ?_
 refine zS [(14, (evO (fe s))), (15, .iface 72 (.string (bsT ([116, 111, 111, 32, 115, 104, 111, 114, 116]))))] ?_
 refine zC (isO_sh (fe s) _ hbo.2.1) ?_
 rintro _ w22 ⟨rfl, hT23⟩
 have hT0 := hT0.t0 hT23
 have hB4 := hB4.tch0 hT23
 have hTs := hTs.tch0 hT23
 have hzL := Nat.le_trans hzL hT23.size
 have hB16 := hB16.tch0 hT23
 refine zS [(13, .bool (decide (fe s = some shT)))] ?_
 refine zO (decide (fe s = some shT)) (fun hc24 => ?_) (fun hc24 => ?_)
 ·
  replace hc24 : fe s = some shT := (of_decide_eq_true hc24)
  refine zQ ?_
  refine zS [(17, .agg #[.int .i64 0, .int .i64 0, .slice none 0 0, .int .i64 0, .int .i64 0])] ?_
  refine st (by rfl) (S_storeA (b := w.heap.size) (j := 0) (cs := [.int .i64 0, .int .i64 0, .slice none 0 0, .int .i64 0, .int .i64 0]) (by kernel_rfl) (by kernel_rfl) (by kernel_rfl) (by simp [oneV]) hB4 (by simp) fun w25 hT26 hs27 hB4' => ?_)
  have hT0 := (hT0).then hT26 (fun c e => by have : c = w.heap.size := e; omega)
  have hTs := hTs.tchB hTb hT26 (fun c h1 h2 e => by have e : c = w.heap.size := e; omega)
  have hzL := Nat.le_trans hzL hT26.size
  have hB16 := hB16.tch hT26 (fun e => by have : w11.heap.size = w.heap.size := e; omega)
  replace hB4 : Blk w25 w.heap.size 25 [.int .i64 0, .int .i64 0, .slice none 0 0, .int .i64 0, .int .i64 0] := hB4'
  refine zS [(3, .int .i64 6)] ?_
  refine op_nil ?_
  refine W_ret ?_
  refine ⟨_, Res_cell1 (b := w.heap.size) (cs := [.int .i64 0, .int .i64 0, .slice none 0 0, .int .i64 0, .int .i64 0]) (by rfl) (by kernel_rfl) (by kernel_rfl) (by kernel_rfl) hB4 (by kernel_rfl) (by kernel_rfl), ?_⟩
  have hc : code s = 6 := by rw [hbo.1]; exact cd_sh (by assumption)
  have hr := rep_f (s := s) (by rw [hc]; decide)
  refine ⟨none, 0, [], by rw [hc, hr.1, hr.2.1, hr.2.2.1, hr.2.2.2.1]; rfl, TsW.nil_ _ _, hr.2.2.2.2.symm, TsB.nil_ _ _ _, hT0⟩
 ·
  replace hc24 : ¬ fe s = some shT := (of_decide_eq_false hc24)
  refine zQ ?_
  refine zS [(19, (evO (fe s))), (20, .iface 72 (.string (bsT ([111, 117, 116, 32, 111, 102, 32, 114, 97, 110, 103, 101]))))] ?_
  refine zC (isO_rg (fe s) _ hbo.2.1) ?_
  rintro _ w28 ⟨rfl, hT29⟩
  have hT0 := hT0.t0 hT29
  have hB4 := hB4.tch0 hT29
  have hTs := hTs.tch0 hT29
  have hzL := Nat.le_trans hzL hT29.size
  have hB16 := hB16.tch0 hT29
  refine zS [(18, .bool (decide (fe s = some rgT)))] ?_
  refine zO (decide (fe s = some rgT)) (fun hc30 => ?_) (fun hc30 => ?_)
  ·
   replace hc30 : fe s = some rgT := (of_decide_eq_true hc30)
   refine W_seq ?_
   refine zF [(0, .string (bsT s)), (2, .pointer (some ⟨w.heap.size, 0, none⟩)), (3, .int .i64 0), (4, .pointer (some ⟨w11.heap.size, 0, none⟩)), (5, (evO (fe s))), (13, .bool (decide (fe s = some shT))), (18, .bool (decide (fe s = some rgT)))] fun ρ => ?_
   refine zR ?_
   refine zS [(22, .agg #[.int .i64 0, .int .i64 0, .slice none 0 0, .int .i64 0, .int .i64 0])] ?_
   refine st (by rfl) (S_storeA (b := w.heap.size) (j := 0) (cs := [.int .i64 0, .int .i64 0, .slice none 0 0, .int .i64 0, .int .i64 0]) (by kernel_rfl) (by kernel_rfl) (by kernel_rfl) (by simp [oneV]) hB4 (by simp) fun w31 hT32 hs33 hB4' => ?_)
   have hT0 := (hT0).then hT32 (fun c e => by have : c = w.heap.size := e; omega)
   have hTs := hTs.tchB hTb hT32 (fun c h1 h2 e => by have e : c = w.heap.size := e; omega)
   have hzL := Nat.le_trans hzL hT32.size
   have hB16 := hB16.tch hT32 (fun e => by have : w11.heap.size = w.heap.size := e; omega)
   replace hB4 : Blk w31 w.heap.size 25 [.int .i64 0, .int .i64 0, .slice none 0 0, .int .i64 0, .int .i64 0] := hB4'
   refine zS [(3, .int .i64 4)] ?_
   refine op_nil ?_
   refine W_ret ?_
   refine ⟨_, Res_cell1 (b := w.heap.size) (cs := [.int .i64 0, .int .i64 0, .slice none 0 0, .int .i64 0, .int .i64 0]) (by rfl) (by kernel_rfl) (by kernel_rfl) (by kernel_rfl) hB4 (by kernel_rfl) (by kernel_rfl), ?_⟩
   have hc : code s = 4 := by rw [hbo.1]; exact cd_rg (by assumption)
   have hr := rep_f (s := s) (by rw [hc]; decide)
   refine ⟨none, 0, [], by rw [hc, hr.1, hr.2.1, hr.2.2.1, hr.2.2.2.1]; rfl, TsW.nil_ _ _, hr.2.2.2.2.symm, TsB.nil_ _ _ _, hT0⟩
  ·
   replace hc30 : ¬ fe s = some rgT := (of_decide_eq_false hc30)
   refine W_seq ?_
   refine zF [(0, .string (bsT s)), (2, .pointer (some ⟨w.heap.size, 0, none⟩)), (3, .int .i64 0), (4, .pointer (some ⟨w11.heap.size, 0, none⟩)), (5, (evO (fe s))), (13, .bool (decide (fe s = some shT))), (18, .bool (decide (fe s = some rgT)))] fun ρ => ?_
   refine zR ?_
   refine zS [(24, (evO (fe s))), (25, .iface 72 (.string (bsT ([98, 121, 116, 101, 115, 32, 108, 101, 102, 116]))))] ?_
   refine zC (isO_fm (fe s) _ hbo.2.1) ?_
   rintro _ w34 ⟨rfl, hT35⟩
   have hT0 := hT0.t0 hT35
   have hB4 := hB4.tch0 hT35
   have hTs := hTs.tch0 hT35
   have hzL := Nat.le_trans hzL hT35.size
   have hB16 := hB16.tch0 hT35
   refine zS [(23, .bool (decide (fe s = some fmT)))] ?_
   refine zO (decide (fe s = some fmT)) (fun hc36 => ?_) (fun hc36 => ?_)
   ·
    replace hc36 : fe s = some fmT := (of_decide_eq_true hc36)
    refine zQ ?_
    refine zS [(27, .agg #[.int .i64 0, .int .i64 0, .slice none 0 0, .int .i64 0, .int .i64 0])] ?_
    refine st (by rfl) (S_storeA (b := w.heap.size) (j := 0) (cs := [.int .i64 0, .int .i64 0, .slice none 0 0, .int .i64 0, .int .i64 0]) (by kernel_rfl) (by kernel_rfl) (by kernel_rfl) (by simp [oneV]) hB4 (by simp) fun w37 hT38 hs39 hB4' => ?_)
    have hT0 := (hT0).then hT38 (fun c e => by have : c = w.heap.size := e; omega)
    have hTs := hTs.tchB hTb hT38 (fun c h1 h2 e => by have e : c = w.heap.size := e; omega)
    have hzL := Nat.le_trans hzL hT38.size
    have hB16 := hB16.tch hT38 (fun e => by have : w11.heap.size = w.heap.size := e; omega)
    replace hB4 : Blk w37 w.heap.size 25 [.int .i64 0, .int .i64 0, .slice none 0 0, .int .i64 0, .int .i64 0] := hB4'
    refine zS [(3, .int .i64 5)] ?_
    refine op_nil ?_
    refine W_ret ?_
    refine ⟨_, Res_cell1 (b := w.heap.size) (cs := [.int .i64 0, .int .i64 0, .slice none 0 0, .int .i64 0, .int .i64 0]) (by rfl) (by kernel_rfl) (by kernel_rfl) (by kernel_rfl) hB4 (by kernel_rfl) (by kernel_rfl), ?_⟩
    have hc : code s = 5 := by rw [hbo.1]; exact cd_fm (by assumption)
    have hr := rep_f (s := s) (by rw [hc]; decide)
    refine ⟨none, 0, [], by rw [hc, hr.1, hr.2.1, hr.2.2.1, hr.2.2.2.1]; rfl, TsW.nil_ _ _, hr.2.2.2.2.symm, TsB.nil_ _ _ _, hT0⟩
   ·
    replace hc36 : ¬ fe s = some fmT := (of_decide_eq_false hc36)
    refine W_skip ?_
    refine zQ ?_
    refine st (by rfl) (S_val (v := .agg #[.int .i64 ((nu (a0 s) 1 : Nat) : Int), .int .i64 ((nu (a1 s) 1 : Nat) : Int), .slice A l.length c, .int .i64 ((nu (a2 s) 4 : Nat) : Int), .int .i64 ((nu (a3 s) 4 : Nat) : Int)]) (R_loadA [.int .i64 ((nu (a0 s) 1 : Nat) : Int), .int .i64 ((nu (a1 s) 1 : Nat) : Int), .slice A l.length c, .int .i64 ((nu (a2 s) 4 : Nat) : Int), .int .i64 ((nu (a3 s) 4 : Nat) : Int)] (by kernel_rfl) (by kernel_rfl) (by kernel_rfl) (fun k u hk => by rw [hB16.cell]; exact get_part _ 0 _ k u rfl hk)) ?_)
    refine st (by rfl) (S_storeA (b := w.heap.size) (j := 0) (cs := [.int .i64 ((nu (a0 s) 1 : Nat) : Int), .int .i64 ((nu (a1 s) 1 : Nat) : Int), .slice A l.length c, .int .i64 ((nu (a2 s) 4 : Nat) : Int), .int .i64 ((nu (a3 s) 4 : Nat) : Int)]) (by kernel_rfl) (by kernel_rfl) (by kernel_rfl) (by simp [oneV]) hB4 (by simp) fun w40 hT41 hs42 hB4' => ?_)
    have hT0 := (hT0).then hT41 (fun c e => by have : c = w.heap.size := e; omega)
    have hTs := hTs.tchB hTb hT41 (fun c h1 h2 e => by have e : c = w.heap.size := e; omega)
    have hzL := Nat.le_trans hzL hT41.size
    have hB16 := hB16.tch hT41 (fun e => by have : w11.heap.size = w.heap.size := e; omega)
    replace hB4 : Blk w40 w.heap.size 25 [.int .i64 ((nu (a0 s) 1 : Nat) : Int), .int .i64 ((nu (a1 s) 1 : Nat) : Int), .slice A l.length c, .int .i64 ((nu (a2 s) 4 : Nat) : Int), .int .i64 ((nu (a3 s) 4 : Nat) : Int)] := hB4'
    refine zS [(3, .int .i64 0)] ?_
    refine op_nil ?_
    refine W_ret ?_
    refine ⟨_, Res_cell1 (b := w.heap.size) (cs := [.int .i64 ((nu (a0 s) 1 : Nat) : Int), .int .i64 ((nu (a1 s) 1 : Nat) : Int), .slice A l.length c, .int .i64 ((nu (a2 s) 4 : Nat) : Int), .int .i64 ((nu (a3 s) 4 : Nat) : Int)]) (by rfl) (by kernel_rfl) (by kernel_rfl) (by kernel_rfl) hB4 (by kernel_rfl) (by kernel_rfl), ?_⟩
    have hno : fe s = none := cd_no hbo.2.1 (by assumption) (by assumption) (by assumption)
    have hc : code s = 0 := by rw [hbo.1, hno]; decide
    have hr := rep_t hc
    have hv := hbo.2.2 hno
    refine ⟨A, c, l, by rw [hc, hr.1, hr.2.1, hr.2.2.1, hr.2.2.2.1, ← hv.1, ← hv.2.1, ← hv.2.2.1, ← hv.2.2.2.1]; rfl, hTs, by rw [hcl hno, hr.2.2.2.2, hv.2.2.2.2], hTb.up (by omega) hzL, hT0⟩

end Go.Proofs.YtlkjhkennbdbnaaV

set_option linter.unusedVariables false
set_option linter.unusedSimpArgs false
namespace Go.Proofs.YtlkjhkennbdbnaaV
open Go Go.RowKit Go.Proofs
theorem p8 (k : Nat) : (2 : Nat) ^ (8 * k) = 256 ^ k := by rw [Nat.pow_mul]
theorem be_succ (k x : Nat) : be (k + 1) x = UInt8.ofNat (x / 256 ^ k) :: be k x := by
 show bt x k :: be k x = _
 unfold bt; rw [p8]
theorem vl_be : ∀ (k x : Nat), vl (be k x) = x % 256 ^ k
 | 0, x => by show 0 = _; rw [Nat.pow_zero, Nat.mod_one]
 | k + 1, x => by
  rw [be_succ, vl_cons, be_length, vl_be k x, UInt8.toNat_ofNat', pow256, Nat.mod_mul, Nat.mul_comm]
  rw [show (2 : Nat) ^ 8 = 256 from rfl]; omega
theorem vl_beL {k x : Nat} (h : x < 256 ^ k) : vl (be k x) = x := by rw [vl_be, Nat.mod_eq_of_lt h]
theorem dr {a b : Tx} {k : Nat} (h : a.length = k) : (a ++ b).drop k = b := by subst h; exact List.drop_left
theorem ta {a b : Tx} {k : Nat} (h : a.length = k) : (a ++ b).take k = a := by subst h; exact List.take_left
theorem drb {k x : Nat} {b : Tx} : (be k x ++ b).drop k = b := dr (be_length k x)
theorem vtb {k x : Nat} {b : Tx} (h : x < 256 ^ k) : vl ((be k x ++ b).take k) = x := by rw [ta (be_length k x), vl_beL h]
/-! ### one test -/
def encI (l : List Nat) : Tx := l.flatMap (be 8)
theorem encI_len (l : List Nat) : (encI l).length = 8 * l.length := flat8_length l
theorem im8_enc : ∀ (l : List Nat) (r : Tx) (i : Nat), i < l.length → (∀ x, x ∈ l → x < 18446744073709551616) → im8 (encI l ++ r) i = l.getD i 0
 | [], _, _, h, _ => by simp at h
 | x :: l, r, 0, _, hx => by
  unfold im8
  have e : encI (x :: l) ++ r = be 8 x ++ (encI l ++ r) := by unfold encI; rw [List.flatMap_cons, List.append_assoc]
  rw [e]
  show vl ((be 8 x ++ (encI l ++ r)).take 8) = x
  exact vtb (hx x (by simp))
 | x :: l, r, i + 1, h, hx => by
  have e : encI (x :: l) ++ r = be 8 x ++ (encI l ++ r) := by unfold encI; rw [List.flatMap_cons, List.append_assoc]
  have q := im8_enc l r i (by simpa using h) (fun y hy => hx y (by simp [hy]))
  unfold im8 at q ⊢
  rw [e, show 8 * (i + 1) = 8 + 8 * i by omega, ← List.drop_drop, drb, q]
  simp
theorem ims_enc {l : List Nat} {r : Tx} (hx : ∀ x, x ∈ l → x < 18446744073709551616) : ims (encI l ++ r) l.length = l := by
 refine List.ext_getElem (by rw [ims_len]) fun i h1 h2 => ?_
 have q := im8_enc l r i h2 hx
 have e : (ims (encI l ++ r) l.length)[i] = im8 (encI l ++ r) i := by simp [ims]
 rw [e, q, List.getD_eq_getElem?_getD, List.getElem?_eq_getElem h2]; rfl
/-- What a test is made of, fit to be put. -/
theorem p1_enc {c : Co} (hm : mayC c = true) (hx : ∀ x, x ∈ c.2.2.2.1 → x < 18446744073709551616) (r : Tx) : p1b (encC c ++ r) = true ∧ p1c (encC c ++ r) = c ∧ p1r (encC c ++ r) = r := by
 obtain ⟨inp, pt, ms, img, kd, cd⟩ := c
 have hm := of_decide_eq_true hm
 simp only at hm hx
 obtain ⟨m1, m2, m3, m4, m5, m6⟩ := hm
 have hs : encC (inp, pt, ms, img, kd, cd) ++ r = be 1 inp.length ++ (inp ++ (be 2 pt.toNat ++ (be 2 ms.toNat ++ (be 2 cd.toNat ++ (be 1 kd.toNat ++ (be 1 img.length ++ (encI img ++ r))))))) := by
  unfold encC encI; simp only [List.append_assoc]
 rw [hs]
 generalize ht : be 1 inp.length ++ (inp ++ (be 2 pt.toNat ++ (be 2 ms.toNat ++ (be 2 cd.toNat ++ (be 1 kd.toNat ++ (be 1 img.length ++ (encI img ++ r))))))) = t
 have l1 : 1 ≤ t.length := by rw [← ht, List.length_append, be_length]; omega
 have hr := rn_t l1
 have ek : p1k t = inp.length := by unfold p1k; rw [hr.1, ← ht]; exact vtb (by omega)
 have ea : p1a t = inp ++ (be 2 pt.toNat ++ (be 2 ms.toNat ++ (be 2 cd.toNat ++ (be 1 kd.toNat ++ (be 1 img.length ++ (encI img ++ r)))))) := by unfold p1a; rw [hr.2, ← ht, drb]
 have ed : p1d t = be 2 pt.toNat ++ (be 2 ms.toNat ++ (be 2 cd.toNat ++ (be 1 kd.toNat ++ (be 1 img.length ++ (encI img ++ r))))) := by unfold p1d; rw [ea, ek, dr rfl]
 have d2 : (p1d t).drop 2 = be 2 ms.toNat ++ (be 2 cd.toNat ++ (be 1 kd.toNat ++ (be 1 img.length ++ (encI img ++ r)))) := by rw [ed, drb]
 have d4 : (p1d t).drop 4 = be 2 cd.toNat ++ (be 1 kd.toNat ++ (be 1 img.length ++ (encI img ++ r))) := by rw [show (4 : Nat) = 2 + 2 from rfl, ← List.drop_drop, d2, drb]
 have d6 : (p1d t).drop 6 = be 1 kd.toNat ++ (be 1 img.length ++ (encI img ++ r)) := by rw [show (6 : Nat) = 4 + 2 from rfl, ← List.drop_drop, d4, drb]
 have d7 : (p1d t).drop 7 = be 1 img.length ++ (encI img ++ r) := by rw [show (7 : Nat) = 6 + 1 from rfl, ← List.drop_drop, d6, drb]
 have ee : p1e t = encI img ++ r := by unfold p1e; rw [show (8 : Nat) = 7 + 1 from rfl, ← List.drop_drop, d7, drb]
 have l8 : 8 ≤ (p1d t).length := by rw [ed]; simp only [List.length_append, be_length]; omega
 have en : p1n t = img.length := by
  unfold p1n
  rw [← getD_drop, ← vl_one (by rw [List.length_drop]; omega), d7]
  exact vtb (by omega)
 have g6 : ((p1d t).getD 6 0).toNat = kd.toNat := by
  rw [← getD_drop, ← vl_one (by rw [List.length_drop]; omega), d6]
  exact vtb (by omega)
 have hb : p1b t = true := decide_eq_true ⟨l1, by rw [ek, ea, List.length_append]; omega, l8, by rw [en, ee, List.length_append, encI_len]; omega⟩
 refine ⟨hb, ?_, ?_⟩
 ·
  have e0 : (p1a t).take (p1k t) = inp := by rw [ek, ea, ta rfl]
  have e1 : vl ((p1d t).take 2) = pt.toNat := by rw [ed]; exact vtb (by omega)
  have e2 : vl (((p1d t).drop 2).take 2) = ms.toNat := by rw [d2]; exact vtb (by omega)
  have e4 : vl (((p1d t).drop 4).take 2) = cd.toNat := by rw [d4]; exact vtb (by omega)
  have e3 : ims (p1e t) (p1n t) = img := by rw [ee, en, ims_enc hx]
  have z1 : ((pt.toNat : Nat) : Int) = pt := by omega
  have z2 : ((ms.toNat : Nat) : Int) = ms := by omega
  have z3 : ((kd.toNat : Nat) : Int) = kd := by omega
  have z4 : ((cd.toNat : Nat) : Int) = cd := by omega
  unfold p1c
  rw [e0, e1, e2, e3, e4, g6, z1, z2, z3, z4]
 ·
  rw [p1_t hb, ee, en]
  exact dr (encI_len img)
/-! ### a row of tests -/
def okC (l : List Co) : Prop := ∀ c, c ∈ l → mayC c = true ∧ ∀ x, x ∈ c.2.2.2.1 → x < 18446744073709551616
theorem pl_sh (t : Tx) : ∀ j, pl (j + 1) t = pl j (p1r t)
 | 0 => rfl
 | j + 1 => by
  show p1r (pl (j + 1) t) = p1r (pl j (p1r t))
  rw [pl_sh t j]
theorem rows_enc : ∀ (l : List Co) (r : Tx), okC l → (∀ i, i < l.length → p1b (pl i (l.flatMap encC ++ r)) = true) ∧ pl l.length (l.flatMap encC ++ r) = r ∧ pc l.length (l.flatMap encC ++ r) = l
 | [], r, _ => ⟨fun i h => by simp at h, rfl, rfl⟩
 | c :: l, r, h => by
  obtain ⟨i1, i2, i3⟩ := rows_enc l r (fun d hd => h d (by simp [hd]))
  have e : (c :: l).flatMap encC ++ r = encC c ++ (l.flatMap encC ++ r) := by rw [List.flatMap_cons, List.append_assoc]
  obtain ⟨j1, j2, j3⟩ := p1_enc (h c (by simp)).1 (h c (by simp)).2 (l.flatMap encC ++ r)
  rw [e]
  refine ⟨fun i hi => ?_, ?_, ?_⟩
  ·
   cases i with
   | zero => exact j1
   | succ i => rw [pl_sh, j3]; exact i1 i (by simpa using hi)
  ·
   rw [List.length_cons, pl_sh, j3, i2]
  ·
   rw [List.length_cons]
   have hp : pc (l.length + 1) (encC c ++ (l.flatMap encC ++ r)) = p1c (encC c ++ (l.flatMap encC ++ r)) :: pc l.length (l.flatMap encC ++ r) := by
    unfold pc
    rw [List.range_succ_eq_map, List.map_cons, List.map_map]
    congr 1
    refine List.map_congr_left fun i _ => ?_
    show p1c (pl (i + 1) _) = _
    rw [pl_sh, j3]
   rw [hp, j2, i3]
/-! ### the whole -/
theorem hd12 {s : Tx} (h : 12 ≤ s.length) : hV s = vl (s.take 1) ∧ hE s = vl ((s.drop 1).take 1) ∧ hU s = vl ((s.drop 6).take 4) ∧ hR s = s.drop 10 ∧ hN s = vl ((s.drop 10).take 2) ∧ hT s = s.drop 12 := by
 have h6 : 4 ≤ (s.drop 6).length := by rw [List.length_drop]; omega
 have eR : hR s = s.drop 10 := by unfold hR; rw [(rn_t h6).2, List.drop_drop]
 have h2 : 2 ≤ (hR s).length := by rw [eR, List.length_drop]; omega
 refine ⟨(vl_one (by omega)).symm, ?_, (rn_t h6).1, eR, ?_, ?_⟩
 ·
  unfold hE; rw [← getD_drop, vl_one (by rw [List.length_drop]; omega)]
 ·
  unfold hN; rw [(rn_t h2).1, eR]
 ·
  unfold hT; rw [(rn_t h2).2, eR, List.drop_drop]
theorem code12 {s : Tx} (h : 12 ≤ s.length) (h1 : hV s ≤ 3) (h2 : hS s ≤ 1073741824) (h3 : hU s ≤ 1073741824) : code s = if okN (hN s) (hT s) = false then 6 else if 0 < (pl (hN s) (hT s)).length then 5 else 0 := by
 have hl : 2 ≤ (hR s).length := by rw [(hd12 h).2.2.2.1, List.length_drop]; omega
 unfold code
 rw [if_neg (by omega), if_neg (by omega), if_neg (by omega), if_neg (by omega), if_neg (by omega), if_neg (by omega)]
theorem enc_hd (V E S U : Int) (l : List Co) (x : Tx) (hm : mayR V E S U l = true) : 12 ≤ (encR V E S U l ++ x).length ∧ hV (encR V E S U l ++ x) = V.toNat ∧ hE (encR V E S U l ++ x) = E.toNat ∧ hS (encR V E S U l ++ x) = S.toNat ∧ hU (encR V E S U l ++ x) = U.toNat ∧ hN (encR V E S U l ++ x) = l.length ∧ hT (encR V E S U l ++ x) = l.flatMap encC ++ x := by
 unfold mayR at hm
 rw [Bool.and_eq_true] at hm
 have hm := of_decide_eq_true hm.1
 have hs : encR V E S U l ++ x = be 1 V.toNat ++ (be 1 E.toNat ++ (be 4 S.toNat ++ (be 4 U.toNat ++ (be 2 l.length ++ (l.flatMap encC ++ x))))) := by
  unfold encR; simp only [List.append_assoc]
 rw [hs]
 generalize ht : be 1 V.toNat ++ (be 1 E.toNat ++ (be 4 S.toNat ++ (be 4 U.toNat ++ (be 2 l.length ++ (l.flatMap encC ++ x))))) = s
 have hl : 12 ≤ s.length := by rw [← ht]; simp only [List.length_append, be_length]; omega
 obtain ⟨e1, e2, e4, e5, e6, e7⟩ := hd12 hl
 have d1 : s.drop 1 = be 1 E.toNat ++ (be 4 S.toNat ++ (be 4 U.toNat ++ (be 2 l.length ++ (l.flatMap encC ++ x)))) := by rw [← ht, drb]
 have d2 : s.drop 2 = be 4 S.toNat ++ (be 4 U.toNat ++ (be 2 l.length ++ (l.flatMap encC ++ x))) := by rw [show (2 : Nat) = 1 + 1 from rfl, ← List.drop_drop, d1, drb]
 have d6 : s.drop 6 = be 4 U.toNat ++ (be 2 l.length ++ (l.flatMap encC ++ x)) := by rw [show (6 : Nat) = 2 + 4 from rfl, ← List.drop_drop, d2, drb]
 have d10 : s.drop 10 = be 2 l.length ++ (l.flatMap encC ++ x) := by rw [show (10 : Nat) = 6 + 4 from rfl, ← List.drop_drop, d6, drb]
 have d12 : s.drop 12 = l.flatMap encC ++ x := by rw [show (12 : Nat) = 10 + 2 from rfl, ← List.drop_drop, d10, drb]
 refine ⟨hl, ?_, ?_, ?_, ?_, ?_, ?_⟩
 ·
  rw [e1, ← ht]; exact vtb (by omega)
 ·
  rw [e2, d1]; exact vtb (by omega)
 ·
  unfold hS; rw [d2]; exact vtb (by omega)
 ·
  rw [e4, d6]; exact vtb (by omega)
 ·
  rw [e6, d10]; exact vtb (by omega)
 ·
  rw [e7, d12]
theorem may_rows {V E S U : Int} {l : List Co} (hm : mayR V E S U l = true) (hx : ∀ c, c ∈ l → ∀ x, x ∈ c.2.2.2.1 → x < 18446744073709551616) : okC l := by
 unfold mayR at hm
 rw [Bool.and_eq_true] at hm
 exact fun c hc => ⟨List.all_eq_true.1 hm.2 c hc, hx c hc⟩
theorem may_nums {V E S U : Int} {l : List Co} (hm : mayR V E S U l = true) : (0 ≤ V ∧ V ≤ 3) ∧ (0 ≤ E ∧ E ≤ 255) ∧ (0 ≤ S ∧ S ≤ 1073741824) ∧ (0 ≤ U ∧ U ≤ 1073741824) ∧ l.length ≤ 65535 := by
 unfold mayR at hm
 rw [Bool.and_eq_true] at hm
 exact of_decide_eq_true hm.1
/-- What was put is read, and nothing may follow. -/
theorem enc_read {V E S U : Int} {l : List Co} (x : Tx) (hm : mayR V E S U l = true) (hx : ∀ c, c ∈ l → ∀ x, x ∈ c.2.2.2.1 → x < 18446744073709551616) : code (encR V E S U l ++ x) = (if 0 < x.length then 5 else 0) ∧ pc (hN (encR V E S U l ++ x)) (hT (encR V E S U l ++ x)) = l := by
 obtain ⟨hl, e1, e2, e3, e4, e5, e6⟩ := enc_hd V E S U l x hm
 have hn := may_nums hm
 obtain ⟨r1, r2, r3⟩ := rows_enc l x (may_rows hm hx)
 constructor
 ·
  rw [code12 hl (by omega) (by omega) (by omega), e5, e6, if_neg (okN_t r1), r2]
 ·
  rw [e5, e6, r3]
theorem enc_rep {V E S U : Int} {l : List Co} (hm : mayR V E S U l = true) (hx : ∀ c, c ∈ l → ∀ x, x ∈ c.2.2.2.1 → x < 18446744073709551616) : code (encR V E S U l) = 0 ∧ rV (encR V E S U l) = V ∧ rE (encR V E S U l) = E ∧ rS (encR V E S U l) = S ∧ rU (encR V E S U l) = U ∧ rL (encR V E S U l) = l := by
 have h1 := enc_read [] hm hx
 have h2 := enc_hd V E S U l [] hm
 have hn := may_nums hm
 rw [List.append_nil] at h1 h2
 have hc : code (encR V E S U l) = 0 := h1.1
 have hr := rep_t hc
 obtain ⟨_, e1, e2, e3, e4, _, _⟩ := h2
 exact ⟨hc, by rw [hr.1, e1]; omega, by rw [hr.2.1, e2]; omega, by rw [hr.2.2.1, e3]; omega, by rw [hr.2.2.2.1, e4]; omega, by rw [hr.2.2.2.2, h1.2]⟩
end Go.Proofs.YtlkjhkennbdbnaaV

set_option linter.unusedVariables false
set_option linter.unusedSimpArgs false
namespace Go.Proofs.YtlkjhkennbdbnaaV
open Go Go.RowKit Go.Proofs

def u9 (a b : Nat) : T6 := ⟨some ⟨a, 0, none⟩, 1, [7], 1, 0, some ⟨b, 0, none⟩, 1, [9], 1, 0⟩
def c9 : Co := ([7], 1, 0, [9], 1, 0)
theorem wf9 (a b : Nat) : wfT (u9 a b) := by
 refine ⟨?_, ?_, ?_, ?_, ?_⟩
 ·
  show b64 1; unfold b64; decide
 ·
  show b64 0; unfold b64; decide
 ·
  show b64 1; unfold b64; decide
 ·
  show b64 0; unfold b64; decide
 ·
  intro x hx
  have hx : x ∈ [9] := hx
  rw [List.mem_singleton] at hx; rw [hx]; decide
theorem ts9 {w : World} {a b r : Nat} (h1 : Blk w a 5 [.int .u8 7]) (h2 : Blk w b 44 [.int .u64 9]) (h3 : Blk w r 43 [.slice (some ⟨a, 0, none⟩) 1 1, .int .i64 1, .int .i64 0, .slice (some ⟨b, 0, none⟩) 1 1, .int .i64 1, .int .i64 0]) : TsW w (some ⟨r, 0, none⟩) [u9 a b] := by
 refine ⟨h3.rd 6 1 rfl (by decide), fun t ht => ?_⟩
 rw [List.mem_singleton] at ht
 subst ht
 exact ⟨h1.rd 1 1 rfl (by decide), h2.rd 1 1 rfl (by decide), wf9 a b⟩
theorem tb9 {a b r m : Nat} (ha : a < m) (hb : b < m) (hr : r < m) : TsB (some ⟨r, 0, none⟩) [u9 a b] 0 m := by
 refine ⟨fun _ k o s e => ?_, fun t ht k hk => ?_⟩
 ·
  injection e with e; injection e with e; omega
 ·
  rw [List.mem_singleton] at ht
  subst ht
  rcases hk with ⟨_, o, s, e⟩ | ⟨_, o, s, e⟩
  ·
   have e : some (⟨a, 0, none⟩ : Addr) = some ⟨k, o, s⟩ := e
   injection e with e; injection e with e; omega
  ·
   have e : some (⟨b, 0, none⟩ : Addr) = some ⟨k, o, s⟩ := e
   injection e with e; injection e with e; omega
theorem aw1 (w : World) : Ret Try.prog 8 [.agg #[.int .i64 1, .int .i64 0, .slice none 0 0, .int .i64 1, .int .i64 0]] w fun v w' => v = .tuple #[.string (bsT [1, 0, 0, 0, 0, 1, 0, 0, 0, 0, 0, 0]), .int .i64 0] ∧ Tch N0 w w' := by
 have q := put_ok 1 0 1 0 none 0 [] w (TsW.nil_ _ _)
 rw [show putT 1 0 1 0 (cores []) = [1, 0, 0, 0, 0, 1, 0, 0, 0, 0, 0, 0] by decide, show putE 1 0 1 0 (cores []) = 0 by decide] at q
 exact q
theorem aw2 (a b r : Nat) (w : World) (h : TsW w (some ⟨r, 0, none⟩) [u9 a b]) : Ret Try.prog 8 [.agg #[.int .i64 2, .int .i64 0, .slice (some ⟨r, 0, none⟩) 1 1, .int .i64 0, .int .i64 0]] w fun v w' => v = .tuple #[.string (bsT [2, 0, 0, 0, 0, 0, 0, 0, 0, 0, 0, 1, 1, 7, 0, 1, 0, 0, 0, 0, 1, 1, 0, 0, 0, 0, 0, 0, 0, 9]), .int .i64 0] ∧ Tch N0 w w' := by
 have q := put_ok 2 0 0 0 (some ⟨r, 0, none⟩) 1 [u9 a b] w h
 have e : cores [u9 a b] = [c9] := rfl
 rw [e, show putT 2 0 0 0 [c9] = [2, 0, 0, 0, 0, 0, 0, 0, 0, 0, 0, 1, 1, 7, 0, 1, 0, 0, 0, 0, 1, 1, 0, 0, 0, 0, 0, 0, 0, 9] by decide, show putE 2 0 0 0 [c9] = 0 by decide] at q
 exact q
theorem aw3 (w : World) : Ret Try.prog 8 [.agg #[.int .i64 4, .int .i64 0, .slice none 0 0, .int .i64 0, .int .i64 0]] w fun v w' => v = .tuple #[.string (bsT []), .int .i64 4] ∧ Tch N0 w w' := by
 have q := put_ok 4 0 0 0 none 0 [] w (TsW.nil_ _ _)
 rw [show putT 4 0 0 0 (cores []) = [] by decide, show putE 4 0 0 0 (cores []) = 4 by decide] at q
 exact q
theorem cores_nil {l : List T6} (h : cores l = []) : l = [] := List.eq_nil_of_length_eq_zero (by rw [← cores_length, h]; rfl)
theorem rd_err (s : Tx) (K : Int) (w : World) (h : code s = K) (hK : K ≠ 0) : Ret Try.prog 14 [.string (bsT s)] w fun v w' => ∃ A c, v = .tuple #[.agg #[.int .i64 0, .int .i64 0, .slice A 0 c, .int .i64 0, .int .i64 0], .int .i64 K] ∧ Tch N0 w w' := by
 refine (read_ok s w).mono ?_
 rintro v w' ⟨A, c, l, rfl, _, hc, _, hT⟩
 have hr := rep_f (s := s) (by rw [h]; exact hK)
 rw [hr.2.2.2.2] at hc
 have := cores_nil hc
 subst this
 exact ⟨A, c, by rw [h, hr.1, hr.2.1, hr.2.2.1, hr.2.2.2.1]; rfl, hT⟩
theorem rd9 (w : World) : Ret Try.prog 14 [.string (bsT [2, 0, 0, 0, 0, 0, 0, 0, 0, 0, 0, 1, 1, 7, 0, 1, 0, 0, 0, 0, 1, 1, 0, 0, 0, 0, 0, 0, 0, 9])] w fun v w' => ∃ A c l, v = .tuple #[.agg #[.int .i64 2, .int .i64 0, .slice A l.length c, .int .i64 0, .int .i64 0], .int .i64 0] ∧ TsW w' A l ∧ cores l = [c9] ∧ TsB A l w.heap.size w'.heap.size ∧ Tch N0 w w' := by
 have he := enc_rep (V := 2) (E := 0) (S := 0) (U := 0) (l := [c9]) (by decide) (fun c hc x hx => by
  rw [List.mem_singleton] at hc; subst hc
  have hx : x ∈ [9] := hx
  rw [List.mem_singleton] at hx; rw [hx]; decide)
 have es : encR 2 0 0 0 [c9] = [2, 0, 0, 0, 0, 0, 0, 0, 0, 0, 0, 1, 1, 7, 0, 1, 0, 0, 0, 0, 1, 1, 0, 0, 0, 0, 0, 0, 0, 9] := by decide
 rw [es] at he
 obtain ⟨e0, e1, e2, e3, e4, e5⟩ := he
 refine (read_ok _ w).mono ?_
 rintro v w' ⟨A, c, l, rfl, h1, h2, h3, h4⟩
 exact ⟨A, c, l, by rw [e0, e1, e2, e3, e4], h1, by rw [h2, e5], h3, h4⟩
theorem sm9 (A B : Option Addr) (ca cb a b : Nat) (l : List T6) (w : World) (hl : TsW w A l) (hc : cores l = [c9]) (h9 : TsW w B [u9 a b]) : Ret Try.prog 12 [.agg #[.int .i64 2, .int .i64 0, .slice A l.length ca, .int .i64 0, .int .i64 0], .agg #[.int .i64 2, .int .i64 0, .slice B 1 cb, .int .i64 0, .int .i64 0]] w fun v w' => v = .bool true ∧ Tch N0 w w' := by
 have q := same_ok 2 0 0 0 2 0 0 0 A B ca cb l [u9 a b] w hl h9
 rw [hc, show sameR 2 0 0 0 [c9] 2 0 0 0 (cores [u9 a b]) = true by rfl] at q
 exact q
theorem sm0 (A : Option Addr) (ca : Nat) (l : List T6) (w : World) (hl : TsW w A l) : Ret Try.prog 12 [.agg #[.int .i64 2, .int .i64 0, .slice A l.length ca, .int .i64 0, .int .i64 0], .agg #[.int .i64 0, .int .i64 0, .slice none 0 0, .int .i64 0, .int .i64 0]] w fun v w' => v = .bool false ∧ Tch N0 w w' := by
 have q := same_ok 2 0 0 0 0 0 0 0 A none ca 0 l [] w hl (TsW.nil_ _ _)
 rw [show sameR 2 0 0 0 (cores l) 0 0 0 0 (cores []) = false by unfold sameR; rw [decide_eq_false (by decide), Bool.false_and]] at q
 exact q
theorem sg0 : sgn 0 = [48] := by unfold sgn; rw [if_neg (by decide)]; exact dgs_lo (by decide)
theorem sg1 : sgn 1 = [49] := by unfold sgn; rw [if_neg (by decide)]; exact dgs_lo (by decide)
theorem sg18 : sgn 18 = [49, 56] := by
 unfold sgn; rw [if_neg (by decide)]
 show dgs 18 = _
 rw [dgs_hi (by decide), show 18 / 10 = 1 by rfl, dgs_lo (by decide)]; rfl
theorem tx1 (a b r : Nat) (w : World) (h : TsW w (some ⟨r, 0, none⟩) [u9 a b]) : Ret Try.prog 10 [.agg #[.int .i64 2, .int .i64 0, .slice (some ⟨r, 0, none⟩) 1 1, .int .i64 0, .int .i64 0]] w fun v w' => v = .string (bsT [118, 105, 111, 108, 97, 116, 105, 111, 110, 32, 48, 32, 48, 10, 112, 111, 105, 110, 116, 32, 49, 32, 109, 97, 115, 107, 32, 48, 32, 107, 105, 110, 100, 32, 49, 32, 99, 111, 100, 101, 32, 48, 32, 105, 110, 112, 117, 116, 32, 55, 32, 105, 109, 97, 103, 101, 32, 57, 10]) ∧ Tch N0 w w' := by
 have q := text_ok 2 0 0 0 (some ⟨r, 0, none⟩) 1 [u9 a b] w h ⟨show 1 ≤ 60 by decide, fun t ht => by rw [List.mem_singleton] at ht; subst ht; exact ⟨show 1 ≤ 300 by decide, show 1 ≤ 300 by decide⟩⟩ (by unfold b64; decide)
 have e : textR 2 0 0 0 (cores [u9 a b]) = [118, 105, 111, 108, 97, 116, 105, 111, 110, 32, 48, 32, 48, 10, 112, 111, 105, 110, 116, 32, 49, 32, 109, 97, 115, 107, 32, 48, 32, 107, 105, 110, 100, 32, 49, 32, 99, 111, 100, 101, 32, 48, 32, 105, 110, 112, 117, 116, 32, 55, 32, 105, 109, 97, 103, 101, 32, 57, 10] := by
  show textR 2 0 0 0 [([7], 1, 0, [9], 1, 0)] = _
  unfold textR hdX lineT lineB lineA
  simp only [List.flatMap_cons, List.flatMap_nil, sg0, sg1, List.length_cons, List.length_nil, List.take]
  rw [if_neg (by decide)]
  have d7 : dgs (7 : UInt8).toNat = [55] := dgs_lo (by decide)
  have d9 : dgs 9 = [57] := dgs_lo (by decide)
  simp only [d7, d9, List.take, Nat.zero_add, List.flatMap_cons, List.flatMap_nil]
  rfl
 rw [e] at q
 exact q
theorem tx2 (w : World) : Ret Try.prog 10 [.agg #[.int .i64 0, .int .i64 18, .slice none 0 0, .int .i64 0, .int .i64 0]] w fun v w' => v = .string (bsT [114, 101, 106, 101, 99, 116, 101, 100, 32, 49, 56, 32, 48, 32, 48, 10]) ∧ Tch N0 w w' := by
 have q := text_ok 0 18 0 0 none 0 [] w (TsW.nil_ _ _) ⟨by decide, fun t ht => by cases ht⟩ (by unfold b64; decide)
 have e : textR 0 18 0 0 (cores []) = [114, 101, 106, 101, 99, 116, 101, 100, 32, 49, 56, 32, 48, 32, 48, 10] := by
  unfold textR hdX
  rw [if_pos rfl, sg18, sg0]; rfl
 rw [e] at q
 exact q

set_option maxRecDepth 100000 in
set_option maxHeartbeats 2000000 in
theorem awake_ok (w : World) : Ret Try.prog 7 [] w fun v w' => v = .bool true ∧ Tch N0 w w' := by
 refine enter Try.func7 rfl rfl ?_
 refine zQ ?_
 refine zS [(0, .bool false)] ?_
 refine op_nil ?_
 refine zQ ?_
 refine zS [(17, .agg #[.int .i64 1, .int .i64 0, .slice none 0 0, .int .i64 1, .int .i64 0])] ?_
 refine zC (aw1 _) ?_
 rintro _ w1 ⟨rfl, hT2⟩
 have hT0 := hT2
 refine zS [(16, .tuple #[.string (bsT ([1, 0, 0, 0, 0, 1, 0, 0, 0, 0, 0, 0])), .int .i64 0]), (19, .string (bsT ([1, 0, 0, 0, 0, 1, 0, 0, 0, 0, 0, 0]))), (20, .int .i64 0), (1, .string (bsT ([1, 0, 0, 0, 0, 1, 0, 0, 0, 0, 0, 0]))), (2, .int .i64 0)] ?_
 refine op_nil ?_
 refine W_seq ?_
 refine zF [(0, .bool false), (1, .string (bsT ([1, 0, 0, 0, 0, 1, 0, 0, 0, 0, 0, 0]))), (2, .int .i64 0)] fun ρ => ?_
 refine zR ?_
 have hz7 := hT0.size
 refine st (by rfl) (S_new (v := .slice (some ⟨w1.heap.size, 0, none⟩) 1 1) (ob := .cells #[.int .u8 7] 5) (by kernel_rfl) fun w3 hT4 hs5 hB6 => ?_)
 replace hB6 : Blk w3 (w1.heap.size) 5 [.int .u8 7] := hB6
 have hT0 := hT0.t0 hT4
 have hz12 := hT0.size
 have lt13 := hB6.lt
 refine st (by rfl) (S_new (v := .slice (some ⟨w3.heap.size, 0, none⟩) 1 1) (ob := .cells #[.int .u64 9] 44) (by kernel_rfl) fun w8 hT9 hs10 hB11 => ?_)
 replace hB11 : Blk w8 (w3.heap.size) 44 [.int .u64 9] := hB11
 have hT0 := hT0.t0 hT9
 have hB6 := hB6.tch0 hT9
 refine zS [(23, .agg #[.slice (some ⟨w1.heap.size, 0, none⟩) 1 1, .int .i64 1, .int .i64 0, .slice (some ⟨w3.heap.size, 0, none⟩) 1 1, .int .i64 1, .int .i64 0])] ?_
 have hz18 := hT0.size
 have lt19 := hB6.lt
 have lt20 := hB11.lt
 refine st (by rfl) (S_new (v := .slice (some ⟨w8.heap.size, 0, none⟩) 1 1) (ob := .cells #[.slice (some ⟨w1.heap.size, 0, none⟩) 1 1, .int .i64 1, .int .i64 0, .slice (some ⟨w3.heap.size, 0, none⟩) 1 1, .int .i64 1, .int .i64 0] 43) (by kernel_rfl) fun w14 hT15 hs16 hB17 => ?_)
 replace hB17 : Blk w14 (w8.heap.size) 43 [.slice (some ⟨w1.heap.size, 0, none⟩) 1 1, .int .i64 1, .int .i64 0, .slice (some ⟨w3.heap.size, 0, none⟩) 1 1, .int .i64 1, .int .i64 0] := hB17
 have hT0 := hT0.t0 hT15
 have hB6 := hB6.tch0 hT15
 have hB11 := hB11.tch0 hT15
 refine zS [(25, .agg #[.int .i64 2, .int .i64 0, .slice (some ⟨w8.heap.size, 0, none⟩) 1 1, .int .i64 0, .int .i64 0])] ?_
 have hz25 := hT0.size
 have lt26 := hB6.lt
 have lt27 := hB11.lt
 have lt28 := hB17.lt
 refine st (by rfl) (S_new (v := .pointer (some ⟨w14.heap.size, 0, none⟩)) (ob := .cells #[.int .i64 0, .int .i64 0, .slice none 0 0, .int .i64 0, .int .i64 0] 25) (by kernel_rfl) fun w21 hT22 hs23 hB24 => ?_)
 replace hB24 : Blk w21 (w14.heap.size) 25 [.int .i64 0, .int .i64 0, .slice none 0 0, .int .i64 0, .int .i64 0] := hB24
 have hT0 := hT0.t0 hT22
 have hB6 := hB6.tch0 hT22
 have hB11 := hB11.tch0 hT22
 have hB17 := hB17.tch0 hT22
 refine st (by rfl) (S_storeA (b := w14.heap.size) (j := 0) (cs := [.int .i64 2, .int .i64 0, .slice (some ⟨w8.heap.size, 0, none⟩) 1 1, .int .i64 0, .int .i64 0]) (by kernel_rfl) (by kernel_rfl) (by kernel_rfl) (by simp [oneV]) hB24 (by simp) fun w29 hT30 hs31 hB24' => ?_)
 have hT0 := (hT0).then hT30 (fun c e => by have : c = w14.heap.size := e; omega)
 have hB6 := hB6.tch hT30 (hB6.ne hB24 (by decide))
 have hB11 := hB11.tch hT30 (hB11.ne hB24 (by decide))
 have hB17 := hB17.tch hT30 (hB17.ne hB24 (by decide))
 replace hB24 : Blk w29 w14.heap.size 25 [.int .i64 2, .int .i64 0, .slice (some ⟨w8.heap.size, 0, none⟩) 1 1, .int .i64 0, .int .i64 0] := hB24'
 refine op_nil ?_
 refine W_seq ?_
 have hT9 := ts9 hB6 hB11 hB17
 have lb_hB6 := hB6.lt
 have lb_hB11 := hB11.lt
 have lb_hB17 := hB17.lt
 have lb_hB24 := hB24.lt
 have hb9 : TsB (some ⟨w8.heap.size, 0, none⟩) [u9 (w1.heap.size) (w3.heap.size)] 0 (w29.heap.size) := tb9 (by omega) (by omega) (by omega)
 have hz9 : w29.heap.size ≤ w29.heap.size := Nat.le_refl _
 refine zR ?_
 refine st (by rfl) (S_val (v := .agg #[.int .i64 2, .int .i64 0, .slice (some ⟨w8.heap.size, 0, none⟩) 1 1, .int .i64 0, .int .i64 0]) (R_loadA [.int .i64 2, .int .i64 0, .slice (some ⟨w8.heap.size, 0, none⟩) 1 1, .int .i64 0, .int .i64 0] (by kernel_rfl) (by kernel_rfl) (by kernel_rfl) (fun k u hk => by rw [hB24.cell]; exact get_part _ 0 _ k u rfl hk)) ?_)
 refine zC (aw2 _ _ _ _ hT9) ?_
 rintro _ w32 ⟨rfl, hT33⟩
 have hT0 := hT0.t0 hT33
 have hB24 := hB24.tch0 hT33
 have hT9 := hT9.tch0 hT33
 have hz9 := Nat.le_trans hz9 hT33.size
 refine zS [(26, .tuple #[.string (bsT ([2, 0, 0, 0, 0, 0, 0, 0, 0, 0, 0, 1, 1, 7, 0, 1, 0, 0, 0, 0, 1, 1, 0, 0, 0, 0, 0, 0, 0, 9])), .int .i64 0]), (29, .string (bsT ([2, 0, 0, 0, 0, 0, 0, 0, 0, 0, 0, 1, 1, 7, 0, 1, 0, 0, 0, 0, 1, 1, 0, 0, 0, 0, 0, 0, 0, 9]))), (30, .int .i64 0), (4, .string (bsT ([2, 0, 0, 0, 0, 0, 0, 0, 0, 0, 0, 1, 1, 7, 0, 1, 0, 0, 0, 0, 1, 1, 0, 0, 0, 0, 0, 0, 0, 9]))), (5, .int .i64 0)] ?_
 refine op_nil ?_
 refine W_seq ?_
 refine zF [(0, .bool false), (1, .string (bsT ([1, 0, 0, 0, 0, 1, 0, 0, 0, 0, 0, 0]))), (2, .int .i64 0), (3, .pointer (some ⟨w14.heap.size, 0, none⟩)), (4, .string (bsT ([2, 0, 0, 0, 0, 0, 0, 0, 0, 0, 0, 1, 1, 7, 0, 1, 0, 0, 0, 0, 1, 1, 0, 0, 0, 0, 0, 0, 0, 9]))), (5, .int .i64 0)] fun ρ => ?_
 refine zR ?_
 refine zS [(32, .string (bsT ([2, 0, 0, 0, 0, 0, 0, 0, 0, 0, 0, 1, 1, 7, 0, 1, 0, 0, 0, 0, 1, 1, 0, 0, 0, 0, 0, 0, 0, 9])))] ?_
 refine zC (rd9 _) ?_
 rintro _ w34 ⟨A, c, l, rfl, hTs, hcl, hTb, hT35⟩
 have hT0 := hT0.t0 hT35
 have hB24 := hB24.tch0 hT35
 have hT9 := hT9.tch0 hT35
 have hz9 := Nat.le_trans hz9 hT35.size
 have hzL : w34.heap.size ≤ w34.heap.size := Nat.le_refl _
 refine zS [(31, .tuple #[.agg #[.int .i64 2, .int .i64 0, .slice A l.length c, .int .i64 0, .int .i64 0], .int .i64 0]), (34, .agg #[.int .i64 2, .int .i64 0, .slice A l.length c, .int .i64 0, .int .i64 0]), (35, .int .i64 0)] ?_
 have hz40 := hT0.size
 have lt41 := hB24.lt
 refine st (by rfl) (S_new (v := .pointer (some ⟨w34.heap.size, 0, none⟩)) (ob := .cells #[.int .i64 0, .int .i64 0, .slice none 0 0, .int .i64 0, .int .i64 0] 25) (by kernel_rfl) fun w36 hT37 hs38 hB39 => ?_)
 replace hB39 : Blk w36 (w34.heap.size) 25 [.int .i64 0, .int .i64 0, .slice none 0 0, .int .i64 0, .int .i64 0] := hB39
 have hT0 := hT0.t0 hT37
 have hB24 := hB24.tch0 hT37
 have hT9 := hT9.tch0 hT37
 have hz9 := Nat.le_trans hz9 hT37.size
 have hTs := hTs.tch0 hT37
 have hzL := Nat.le_trans hzL hT37.size
 refine st (by rfl) (S_storeA (b := w34.heap.size) (j := 0) (cs := [.int .i64 2, .int .i64 0, .slice A l.length c, .int .i64 0, .int .i64 0]) (by kernel_rfl) (by kernel_rfl) (by kernel_rfl) (by simp [oneV]) hB39 (by simp) fun w42 hT43 hs44 hB39' => ?_)
 have hT0 := (hT0).then hT43 (fun c e => by have : c = w34.heap.size := e; omega)
 have hB24 := hB24.tch hT43 (fun e => by have : w14.heap.size = w34.heap.size := e; omega)
 have hT9 := hT9.tchB hb9 hT43 (fun c h1 h2 e => by have e : c = w34.heap.size := e; omega)
 have hz9 := Nat.le_trans hz9 hT43.size
 have hTs := hTs.tchB hTb hT43 (fun c h1 h2 e => by have e : c = w34.heap.size := e; omega)
 have hzL := Nat.le_trans hzL hT43.size
 replace hB39 : Blk w42 w34.heap.size 25 [.int .i64 2, .int .i64 0, .slice A l.length c, .int .i64 0, .int .i64 0] := hB39'
 refine zS [(7, .int .i64 0)] ?_
 refine op_nil ?_
 refine zQ ?_
 refine zS [(37, .string (bsT ([2, 0, 0, 0, 0, 0, 0, 0, 0, 0, 0, 1, 1, 7, 0, 1, 0, 0, 0, 0, 1, 1, 0, 0, 0, 0, 0, 0, 0, 9]))), (38, .string (bsT ([2, 0, 0, 0, 0, 0, 0, 0, 0, 0, 0, 1, 1, 7, 0, 1, 0, 0, 0, 0, 1, 1, 0, 0, 0, 0, 0, 0, 0, 9]))), (39, .int .i64 30), (40, .int .i64 15)] ?_
 refine stv (v := .string (bsT ([2, 0, 0, 0, 0, 0, 0, 0, 0, 0, 0, 1, 1, 7, 0]))) (by rfl) (R_sslH (a := [2, 0, 0, 0, 0, 0, 0, 0, 0, 0, 0, 1, 1, 7, 0, 1, 0, 0, 0, 0, 1, 1, 0, 0, 0, 0, 0, 0, 0, 9]) (i := 15) 15 (by kernel_rfl) (by kernel_rfl) (by kernel_rfl) rfl (by decide)) ?_
 refine zC (rd_err [2, 0, 0, 0, 0, 0, 0, 0, 0, 0, 0, 1, 1, 7, 0] 6 _ (by decide) (by decide)) ?_
 rintro _ w45 ⟨A47, c47, rfl, hT46⟩
 have hT0 := hT0.t0 hT46
 have hB24 := hB24.tch0 hT46
 have hT9 := hT9.tch0 hT46
 have hz9 := Nat.le_trans hz9 hT46.size
 have hTs := hTs.tch0 hT46
 have hzL := Nat.le_trans hzL hT46.size
 have hB39 := hB39.tch0 hT46
 refine zS [(36, .tuple #[.agg #[.int .i64 0, .int .i64 0, .slice A47 0 c47, .int .i64 0, .int .i64 0], .int .i64 6]), (43, .agg #[.int .i64 0, .int .i64 0, .slice A47 0 c47, .int .i64 0, .int .i64 0]), (44, .int .i64 6)] ?_
 have hz52 := hT0.size
 have lt53 := hB24.lt
 have lt54 := hB39.lt
 refine st (by rfl) (S_new (v := .pointer (some ⟨w45.heap.size, 0, none⟩)) (ob := .cells #[.int .i64 0, .int .i64 0, .slice none 0 0, .int .i64 0, .int .i64 0] 25) (by kernel_rfl) fun w48 hT49 hs50 hB51 => ?_)
 replace hB51 : Blk w48 (w45.heap.size) 25 [.int .i64 0, .int .i64 0, .slice none 0 0, .int .i64 0, .int .i64 0] := hB51
 have hT0 := hT0.t0 hT49
 have hB24 := hB24.tch0 hT49
 have hT9 := hT9.tch0 hT49
 have hz9 := Nat.le_trans hz9 hT49.size
 have hTs := hTs.tch0 hT49
 have hzL := Nat.le_trans hzL hT49.size
 have hB39 := hB39.tch0 hT49
 refine st (by rfl) (S_storeA (b := w45.heap.size) (j := 0) (cs := [.int .i64 0, .int .i64 0, .slice A47 0 c47, .int .i64 0, .int .i64 0]) (by kernel_rfl) (by kernel_rfl) (by kernel_rfl) (by simp [oneV]) hB51 (by simp) fun w55 hT56 hs57 hB51' => ?_)
 have hT0 := (hT0).then hT56 (fun c e => by have : c = w45.heap.size := e; omega)
 have hB24 := hB24.tch hT56 (fun e => by have : w14.heap.size = w45.heap.size := e; omega)
 have hT9 := hT9.tchB hb9 hT56 (fun c h1 h2 e => by have e : c = w45.heap.size := e; omega)
 have hz9 := Nat.le_trans hz9 hT56.size
 have hTs := hTs.tchB hTb hT56 (fun c h1 h2 e => by have e : c = w45.heap.size := e; omega)
 have hzL := Nat.le_trans hzL hT56.size
 have hB39 := hB39.tch hT56 (fun e => by have : w34.heap.size = w45.heap.size := e; omega)
 replace hB51 : Blk w55 w45.heap.size 25 [.int .i64 0, .int .i64 0, .slice A47 0 c47, .int .i64 0, .int .i64 0] := hB51'
 refine zS [(9, .int .i64 6)] ?_
 refine op_nil ?_
 refine W_seq ?_
 refine zF [(0, .bool false), (1, .string (bsT ([1, 0, 0, 0, 0, 1, 0, 0, 0, 0, 0, 0]))), (2, .int .i64 0), (3, .pointer (some ⟨w14.heap.size, 0, none⟩)), (4, .string (bsT ([2, 0, 0, 0, 0, 0, 0, 0, 0, 0, 0, 1, 1, 7, 0, 1, 0, 0, 0, 0, 1, 1, 0, 0, 0, 0, 0, 0, 0, 9]))), (5, .int .i64 0), (6, .pointer (some ⟨w34.heap.size, 0, none⟩)), (7, .int .i64 0), (9, .int .i64 6)] fun ρ => ?_
 refine zR ?_
 refine zC (rd_err [4] 4 _ (by decide) (by decide)) ?_
 rintro _ w58 ⟨A60, c60, rfl, hT59⟩
 have hT0 := hT0.t0 hT59
 have hB24 := hB24.tch0 hT59
 have hT9 := hT9.tch0 hT59
 have hz9 := Nat.le_trans hz9 hT59.size
 have hTs := hTs.tch0 hT59
 have hzL := Nat.le_trans hzL hT59.size
 have hB39 := hB39.tch0 hT59
 have hB51 := hB51.tch0 hT59
 refine zS [(45, .tuple #[.agg #[.int .i64 0, .int .i64 0, .slice A60 0 c60, .int .i64 0, .int .i64 0], .int .i64 4]), (47, .agg #[.int .i64 0, .int .i64 0, .slice A60 0 c60, .int .i64 0, .int .i64 0]), (48, .int .i64 4)] ?_
 have hz65 := hT0.size
 have lt66 := hB24.lt
 have lt67 := hB39.lt
 have lt68 := hB51.lt
 refine st (by rfl) (S_new (v := .pointer (some ⟨w58.heap.size, 0, none⟩)) (ob := .cells #[.int .i64 0, .int .i64 0, .slice none 0 0, .int .i64 0, .int .i64 0] 25) (by kernel_rfl) fun w61 hT62 hs63 hB64 => ?_)
 replace hB64 : Blk w61 (w58.heap.size) 25 [.int .i64 0, .int .i64 0, .slice none 0 0, .int .i64 0, .int .i64 0] := hB64
 have hT0 := hT0.t0 hT62
 have hB24 := hB24.tch0 hT62
 have hT9 := hT9.tch0 hT62
 have hz9 := Nat.le_trans hz9 hT62.size
 have hTs := hTs.tch0 hT62
 have hzL := Nat.le_trans hzL hT62.size
 have hB39 := hB39.tch0 hT62
 have hB51 := hB51.tch0 hT62
 refine st (by rfl) (S_storeA (b := w58.heap.size) (j := 0) (cs := [.int .i64 0, .int .i64 0, .slice A60 0 c60, .int .i64 0, .int .i64 0]) (by kernel_rfl) (by kernel_rfl) (by kernel_rfl) (by simp [oneV]) hB64 (by simp) fun w69 hT70 hs71 hB64' => ?_)
 have hT0 := (hT0).then hT70 (fun c e => by have : c = w58.heap.size := e; omega)
 have hB24 := hB24.tch hT70 (fun e => by have : w14.heap.size = w58.heap.size := e; omega)
 have hT9 := hT9.tchB hb9 hT70 (fun c h1 h2 e => by have e : c = w58.heap.size := e; omega)
 have hz9 := Nat.le_trans hz9 hT70.size
 have hTs := hTs.tchB hTb hT70 (fun c h1 h2 e => by have e : c = w58.heap.size := e; omega)
 have hzL := Nat.le_trans hzL hT70.size
 have hB39 := hB39.tch hT70 (fun e => by have : w34.heap.size = w58.heap.size := e; omega)
 have hB51 := hB51.tch hT70 (fun e => by have : w45.heap.size = w58.heap.size := e; omega)
 replace hB64 : Blk w69 w58.heap.size 25 [.int .i64 0, .int .i64 0, .slice A60 0 c60, .int .i64 0, .int .i64 0] := hB64'
 refine zS [(11, .int .i64 4)] ?_
 refine op_nil ?_
 refine zQ ?_
 refine zS [(50, .string (bsT ([1, 0, 0, 0, 0, 1, 0, 0, 0, 0, 0, 0]))), (51, .string (bsT ([1, 0, 0, 0, 0, 1, 0, 0, 0, 0, 0, 0, 120])))] ?_
 refine zC (rd_err [1, 0, 0, 0, 0, 1, 0, 0, 0, 0, 0, 0, 120] 5 _ (by decide) (by decide)) ?_
 rintro _ w72 ⟨A74, c74, rfl, hT73⟩
 have hT0 := hT0.t0 hT73
 have hB24 := hB24.tch0 hT73
 have hT9 := hT9.tch0 hT73
 have hz9 := Nat.le_trans hz9 hT73.size
 have hTs := hTs.tch0 hT73
 have hzL := Nat.le_trans hzL hT73.size
 have hB39 := hB39.tch0 hT73
 have hB51 := hB51.tch0 hT73
 have hB64 := hB64.tch0 hT73
 refine zS [(49, .tuple #[.agg #[.int .i64 0, .int .i64 0, .slice A74 0 c74, .int .i64 0, .int .i64 0], .int .i64 5]), (53, .agg #[.int .i64 0, .int .i64 0, .slice A74 0 c74, .int .i64 0, .int .i64 0]), (54, .int .i64 5)] ?_
 have hz79 := hT0.size
 have lt80 := hB24.lt
 have lt81 := hB39.lt
 have lt82 := hB51.lt
 have lt83 := hB64.lt
 refine st (by rfl) (S_new (v := .pointer (some ⟨w72.heap.size, 0, none⟩)) (ob := .cells #[.int .i64 0, .int .i64 0, .slice none 0 0, .int .i64 0, .int .i64 0] 25) (by kernel_rfl) fun w75 hT76 hs77 hB78 => ?_)
 replace hB78 : Blk w75 (w72.heap.size) 25 [.int .i64 0, .int .i64 0, .slice none 0 0, .int .i64 0, .int .i64 0] := hB78
 have hT0 := hT0.t0 hT76
 have hB24 := hB24.tch0 hT76
 have hT9 := hT9.tch0 hT76
 have hz9 := Nat.le_trans hz9 hT76.size
 have hTs := hTs.tch0 hT76
 have hzL := Nat.le_trans hzL hT76.size
 have hB39 := hB39.tch0 hT76
 have hB51 := hB51.tch0 hT76
 have hB64 := hB64.tch0 hT76
 refine st (by rfl) (S_storeA (b := w72.heap.size) (j := 0) (cs := [.int .i64 0, .int .i64 0, .slice A74 0 c74, .int .i64 0, .int .i64 0]) (by kernel_rfl) (by kernel_rfl) (by kernel_rfl) (by simp [oneV]) hB78 (by simp) fun w84 hT85 hs86 hB78' => ?_)
 have hT0 := (hT0).then hT85 (fun c e => by have : c = w72.heap.size := e; omega)
 have hB24 := hB24.tch hT85 (fun e => by have : w14.heap.size = w72.heap.size := e; omega)
 have hT9 := hT9.tchB hb9 hT85 (fun c h1 h2 e => by have e : c = w72.heap.size := e; omega)
 have hz9 := Nat.le_trans hz9 hT85.size
 have hTs := hTs.tchB hTb hT85 (fun c h1 h2 e => by have e : c = w72.heap.size := e; omega)
 have hzL := Nat.le_trans hzL hT85.size
 have hB39 := hB39.tch hT85 (fun e => by have : w34.heap.size = w72.heap.size := e; omega)
 have hB51 := hB51.tch hT85 (fun e => by have : w45.heap.size = w72.heap.size := e; omega)
 have hB64 := hB64.tch hT85 (fun e => by have : w58.heap.size = w72.heap.size := e; omega)
 replace hB78 : Blk w84 w72.heap.size 25 [.int .i64 0, .int .i64 0, .slice A74 0 c74, .int .i64 0, .int .i64 0] := hB78'
 refine zS [(13, .int .i64 5)] ?_
 refine op_nil ?_
 refine W_seq ?_
 refine zF [(0, .bool false), (1, .string (bsT ([1, 0, 0, 0, 0, 1, 0, 0, 0, 0, 0, 0]))), (2, .int .i64 0), (3, .pointer (some ⟨w14.heap.size, 0, none⟩)), (4, .string (bsT ([2, 0, 0, 0, 0, 0, 0, 0, 0, 0, 0, 1, 1, 7, 0, 1, 0, 0, 0, 0, 1, 1, 0, 0, 0, 0, 0, 0, 0, 9]))), (5, .int .i64 0), (6, .pointer (some ⟨w34.heap.size, 0, none⟩)), (7, .int .i64 0), (9, .int .i64 6), (11, .int .i64 4), (13, .int .i64 5)] fun ρ => ?_
 refine zR ?_
 refine zS [(56, .agg #[.int .i64 4, .int .i64 0, .slice none 0 0, .int .i64 0, .int .i64 0])] ?_
 refine zC (aw3 _) ?_
 rintro _ w87 ⟨rfl, hT88⟩
 have hT0 := hT0.t0 hT88
 have hB24 := hB24.tch0 hT88
 have hT9 := hT9.tch0 hT88
 have hz9 := Nat.le_trans hz9 hT88.size
 have hTs := hTs.tch0 hT88
 have hzL := Nat.le_trans hzL hT88.size
 have hB39 := hB39.tch0 hT88
 have hB51 := hB51.tch0 hT88
 have hB64 := hB64.tch0 hT88
 have hB78 := hB78.tch0 hT88
 refine zS [(55, .tuple #[.string (bsT ([])), .int .i64 4]), (58, .string (bsT ([]))), (59, .int .i64 4), (14, .string (bsT ([]))), (15, .int .i64 4)] ?_
 refine op_nil ?_
 refine zQ ?_
 refine zS [(60, .string (bsT ([1, 0, 0, 0, 0, 1, 0, 0, 0, 0, 0, 0])))] ?_
 refine stv (v := .bool true) (by rfl) (R_seq_t (a := [1, 0, 0, 0, 0, 1, 0, 0, 0, 0, 0, 0]) (b := [1, 0, 0, 0, 0, 1, 0, 0, 0, 0, 0, 0]) (by kernel_rfl) (by kernel_rfl) rfl) ?_
 refine zS [(62, .bool true), (63, .int .i64 0), (64, .bool true), (65, .bool true), (66, .bool true), (67, .int .i64 0), (68, .bool true), (69, .bool true), (70, .bool true)] ?_
 refine st (by kernel_rfl) (S_val (v := .agg #[.int .i64 2, .int .i64 0, .slice A l.length c, .int .i64 0, .int .i64 0]) (R_loadA [.int .i64 2, .int .i64 0, .slice A l.length c, .int .i64 0, .int .i64 0] (by kernel_rfl) (by kernel_rfl) (by kernel_rfl) (fun k u hk => by rw [hB39.cell]; exact get_part _ 0 _ k u rfl hk)) ?_)
 refine st (by kernel_rfl) (S_val (v := .agg #[.int .i64 2, .int .i64 0, .slice (some ⟨w8.heap.size, 0, none⟩) 1 1, .int .i64 0, .int .i64 0]) (R_loadA [.int .i64 2, .int .i64 0, .slice (some ⟨w8.heap.size, 0, none⟩) 1 1, .int .i64 0, .int .i64 0] (by kernel_rfl) (by kernel_rfl) (by kernel_rfl) (fun k u hk => by rw [hB24.cell]; exact get_part _ 0 _ k u rfl hk)) ?_)
 refine zC (sm9 A (some ⟨w8.heap.size, 0, none⟩) c 1 _ _ _ _ hTs hcl hT9) ?_
 rintro _ w89 ⟨rfl, hT90⟩
 have hT0 := hT0.t0 hT90
 have hB24 := hB24.tch0 hT90
 have hT9 := hT9.tch0 hT90
 have hz9 := Nat.le_trans hz9 hT90.size
 have hTs := hTs.tch0 hT90
 have hzL := Nat.le_trans hzL hT90.size
 have hB39 := hB39.tch0 hT90
 have hB51 := hB51.tch0 hT90
 have hB64 := hB64.tch0 hT90
 have hB78 := hB78.tch0 hT90
 refine zS [(74, .bool true), (75, .bool true), (76, .int .i64 0), (77, .bool true), (78, .bool true), (79, .bool true), (80, .int .i64 6), (81, .bool true), (82, .bool true), (83, .bool true), (84, .int .i64 4), (85, .bool true), (86, .bool true), (87, .bool true), (88, .int .i64 5), (89, .bool true), (90, .bool true), (91, .bool true), (92, .int .i64 4), (93, .bool true), (94, .bool true), (95, .bool true)] ?_
 refine st (by kernel_rfl) (S_val (v := .agg #[.int .i64 2, .int .i64 0, .slice A l.length c, .int .i64 0, .int .i64 0]) (R_loadA [.int .i64 2, .int .i64 0, .slice A l.length c, .int .i64 0, .int .i64 0] (by kernel_rfl) (by kernel_rfl) (by kernel_rfl) (fun k u hk => by rw [hB39.cell]; exact get_part _ 0 _ k u rfl hk)) ?_)
 refine zS [(97, .agg #[.int .i64 0, .int .i64 0, .slice none 0 0, .int .i64 0, .int .i64 0])] ?_
 refine zC (sm0 A c _ _ hTs) ?_
 rintro _ w91 ⟨rfl, hT92⟩
 have hT0 := hT0.t0 hT92
 have hB24 := hB24.tch0 hT92
 have hT9 := hT9.tch0 hT92
 have hz9 := Nat.le_trans hz9 hT92.size
 have hTs := hTs.tch0 hT92
 have hzL := Nat.le_trans hzL hT92.size
 have hB39 := hB39.tch0 hT92
 have hB51 := hB51.tch0 hT92
 have hB64 := hB64.tch0 hT92
 have hB78 := hB78.tch0 hT92
 refine zS [(99, .bool true), (100, .bool true), (101, .bool true)] ?_
 refine st (by kernel_rfl) (S_val (v := .agg #[.int .i64 2, .int .i64 0, .slice (some ⟨w8.heap.size, 0, none⟩) 1 1, .int .i64 0, .int .i64 0]) (R_loadA [.int .i64 2, .int .i64 0, .slice (some ⟨w8.heap.size, 0, none⟩) 1 1, .int .i64 0, .int .i64 0] (by kernel_rfl) (by kernel_rfl) (by kernel_rfl) (fun k u hk => by rw [hB24.cell]; exact get_part _ 0 _ k u rfl hk)) ?_)
 refine zC (tx1 _ _ _ _ hT9) ?_
 rintro _ w93 ⟨rfl, hT94⟩
 have hT0 := hT0.t0 hT94
 have hB24 := hB24.tch0 hT94
 have hT9 := hT9.tch0 hT94
 have hz9 := Nat.le_trans hz9 hT94.size
 have hTs := hTs.tch0 hT94
 have hzL := Nat.le_trans hzL hT94.size
 have hB39 := hB39.tch0 hT94
 have hB51 := hB51.tch0 hT94
 have hB64 := hB64.tch0 hT94
 have hB78 := hB78.tch0 hT94
 refine stv (v := .bool true) (by kernel_rfl) (R_seq_t (a := [118, 105, 111, 108, 97, 116, 105, 111, 110, 32, 48, 32, 48, 10, 112, 111, 105, 110, 116, 32, 49, 32, 109, 97, 115, 107, 32, 48, 32, 107, 105, 110, 100, 32, 49, 32, 99, 111, 100, 101, 32, 48, 32, 105, 110, 112, 117, 116, 32, 55, 32, 105, 109, 97, 103, 101, 32, 57, 10]) (b := [118, 105, 111, 108, 97, 116, 105, 111, 110, 32, 48, 32, 48, 10, 112, 111, 105, 110, 116, 32, 49, 32, 109, 97, 115, 107, 32, 48, 32, 107, 105, 110, 100, 32, 49, 32, 99, 111, 100, 101, 32, 48, 32, 105, 110, 112, 117, 116, 32, 55, 32, 105, 109, 97, 103, 101, 32, 57, 10]) (by kernel_rfl) (by kernel_rfl) rfl) ?_
 refine zS [(105, .bool true), (106, .bool true), (107, .agg #[.int .i64 0, .int .i64 18, .slice none 0 0, .int .i64 0, .int .i64 0])] ?_
 refine zC (tx2 _) ?_
 rintro _ w95 ⟨rfl, hT96⟩
 have hT0 := hT0.t0 hT96
 have hB24 := hB24.tch0 hT96
 have hT9 := hT9.tch0 hT96
 have hz9 := Nat.le_trans hz9 hT96.size
 have hTs := hTs.tch0 hT96
 have hzL := Nat.le_trans hzL hT96.size
 have hB39 := hB39.tch0 hT96
 have hB51 := hB51.tch0 hT96
 have hB64 := hB64.tch0 hT96
 have hB78 := hB78.tch0 hT96
 refine stv (v := .bool true) (by kernel_rfl) (R_seq_t (a := [114, 101, 106, 101, 99, 116, 101, 100, 32, 49, 56, 32, 48, 32, 48, 10]) (b := [114, 101, 106, 101, 99, 116, 101, 100, 32, 49, 56, 32, 48, 32, 48, 10]) (by kernel_rfl) (by kernel_rfl) rfl) ?_
 refine zS [(110, .bool true), (0, .bool true)] ?_
 refine op_nil ?_
 refine W_ret ?_
 exact ⟨_, Res_of (v := .bool true) (by kernel_rfl), ⟨rfl, hT0⟩⟩

end Go.Proofs.YtlkjhkennbdbnaaV

set_option linter.unusedVariables false
set_option linter.unusedSimpArgs false
namespace Go.Proofs.YtlkjhkennbdbnaaV
open Go Go.RowKit Go.Proofs

set_option maxRecDepth 100000 in
set_option maxHeartbeats 2000000 in
theorem law3_ok (V E S U : Int) (A : Option Addr) (c : Nat) (l : List T6) (V2 E2 S2 U2 : Int) (A2 : Option Addr) (c2 : Nat) (l2 : List T6) (w : World) (hR : TsW w A l) (hR2 : TsW w A2 l2) (hb : b64 E ∧ b64 S ∧ b64 U) : Ret Try.prog 3 [.agg #[.int .i64 V, .int .i64 E, .slice A l.length c, .int .i64 S, .int .i64 U], .agg #[.int .i64 V2, .int .i64 E2, .slice A2 l2.length c2, .int .i64 S2, .int .i64 U2]] w fun v w' => v = .bool true ∧ Tch N0 w w' := by
 refine enter Try.func3 rfl rfl ?_
 refine zQ ?_
 refine st (by rfl) (S_new (v := .pointer (some ⟨w.heap.size, 0, none⟩)) (ob := .cells #[.int .i64 V, .int .i64 E, .slice A l.length c, .int .i64 S, .int .i64 U] 25) (by kernel_rfl) fun w1 hT2 hs3 hB4 => ?_)
 replace hB4 : Blk w1 (w.heap.size) 25 [.int .i64 V, .int .i64 E, .slice A l.length c, .int .i64 S, .int .i64 U] := hB4
 have hT0 := hT2
 have hz9 := hT0.size
 have lt10 := hB4.lt
 refine st (by rfl) (S_new (v := .pointer (some ⟨w1.heap.size, 0, none⟩)) (ob := .cells #[.int .i64 V2, .int .i64 E2, .slice A2 l2.length c2, .int .i64 S2, .int .i64 U2] 25) (by kernel_rfl) fun w5 hT6 hs7 hB8 => ?_)
 replace hB8 : Blk w5 (w1.heap.size) 25 [.int .i64 V2, .int .i64 E2, .slice A2 l2.length c2, .int .i64 S2, .int .i64 U2] := hB8
 have hT0 := hT0.t0 hT6
 have hB4 := hB4.tch0 hT6
 refine zS [(4, .bool false)] ?_
 refine op_nil ?_
 refine W_seq ?_
 refine zQ ?_
 refine st (by rfl) (S_val (v := .agg #[.int .i64 V, .int .i64 E, .slice A l.length c, .int .i64 S, .int .i64 U]) (R_loadA [.int .i64 V, .int .i64 E, .slice A l.length c, .int .i64 S, .int .i64 U] (by kernel_rfl) (by kernel_rfl) (by kernel_rfl) (fun k u hk => by rw [hB4.cell]; exact get_part _ 0 _ k u rfl hk)) ?_)
 refine zC (few_ok V E S U A c l _ (hR.tch0 hT0)) ?_
 rintro _ w11 ⟨b1, rfl, hF1, hT12⟩
 have hT0 := hT0.t0 hT12
 have hB4 := hB4.tch0 hT12
 have hB8 := hB8.tch0 hT12
 refine zS [(11, .bool (!b1)), (12, .bool (!b1))] ?_
 cases hb13 : b1
 ·
  replace hb13 : b1 = false := (hb13)
  refine zS [(13, undef), (14, undef), (15, undef), (16, .bool true)] ?_
  refine zO true (fun _ => ?_) (fun h => nomatch h)
  refine W_seq ?_
  refine zF [(0, .agg #[.int .i64 V, .int .i64 E, .slice A l.length c, .int .i64 S, .int .i64 U]), (1, .agg #[.int .i64 V2, .int .i64 E2, .slice A2 l2.length c2, .int .i64 S2, .int .i64 U2]), (2, .pointer (some ⟨w.heap.size, 0, none⟩)), (3, .pointer (some ⟨w1.heap.size, 0, none⟩)), (4, .bool false), (16, .bool true)] fun ρ => ?_
  refine zR ?_
  refine zC (awake_ok _) ?_
  rintro _ w14 ⟨rfl, hT15⟩
  have hT0 := hT0.t0 hT15
  have hB4 := hB4.tch0 hT15
  have hB8 := hB8.tch0 hT15
  refine zS [(4, .bool true)] ?_
  refine op_nil ?_
  refine W_ret ?_
  exact ⟨_, Res_of (v := .bool true) (by kernel_rfl), ⟨rfl, hT0⟩⟩
 ·
  replace hb13 : b1 = true := (hb13)
  refine st (by kernel_rfl) (S_val (v := .agg #[.int .i64 V2, .int .i64 E2, .slice A2 l2.length c2, .int .i64 S2, .int .i64 U2]) (R_loadA [.int .i64 V2, .int .i64 E2, .slice A2 l2.length c2, .int .i64 S2, .int .i64 U2] (by kernel_rfl) (by kernel_rfl) (by kernel_rfl) (fun k u hk => by rw [hB8.cell]; exact get_part _ 0 _ k u rfl hk)) ?_)
  refine zC (few_ok V2 E2 S2 U2 A2 c2 l2 _ (hR2.tch0 hT0)) ?_
  rintro _ w16 ⟨b2, rfl, hF2, hT17⟩
  have hT0 := hT0.t0 hT17
  have hB4 := hB4.tch0 hT17
  have hB8 := hB8.tch0 hT17
  refine zS [(15, .bool (!b2)), (16, .bool (!b2))] ?_
  refine zO (!b2) (fun hc18 => ?_) (fun hc18 => ?_)
  ·
   replace hc18 : b2 = false := ((not_t hc18))
   refine W_seq ?_
   refine zF [(0, .agg #[.int .i64 V, .int .i64 E, .slice A l.length c, .int .i64 S, .int .i64 U]), (1, .agg #[.int .i64 V2, .int .i64 E2, .slice A2 l2.length c2, .int .i64 S2, .int .i64 U2]), (2, .pointer (some ⟨w.heap.size, 0, none⟩)), (3, .pointer (some ⟨w1.heap.size, 0, none⟩)), (4, .bool false), (16, .bool (!b2))] fun ρ => ?_
   refine zR ?_
   refine zC (awake_ok _) ?_
   rintro _ w19 ⟨rfl, hT20⟩
   have hT0 := hT0.t0 hT20
   have hB4 := hB4.tch0 hT20
   have hB8 := hB8.tch0 hT20
   refine zS [(4, .bool true)] ?_
   refine op_nil ?_
   refine W_ret ?_
   exact ⟨_, Res_of (v := .bool true) (by kernel_rfl), ⟨rfl, hT0⟩⟩
  ·
   replace hc18 : b2 = true := ((not_f hc18))
   refine W_skip ?_
   refine W_seq ?_
   refine zF [(0, .agg #[.int .i64 V, .int .i64 E, .slice A l.length c, .int .i64 S, .int .i64 U]), (1, .agg #[.int .i64 V2, .int .i64 E2, .slice A2 l2.length c2, .int .i64 S2, .int .i64 U2]), (2, .pointer (some ⟨w.heap.size, 0, none⟩)), (3, .pointer (some ⟨w1.heap.size, 0, none⟩)), (4, .bool false), (16, .bool (!b2))] fun ρ => ?_
   refine zR ?_
   refine st (by rfl) (S_val (v := .agg #[.int .i64 V, .int .i64 E, .slice A l.length c, .int .i64 S, .int .i64 U]) (R_loadA [.int .i64 V, .int .i64 E, .slice A l.length c, .int .i64 S, .int .i64 U] (by kernel_rfl) (by kernel_rfl) (by kernel_rfl) (fun k u hk => by rw [hB4.cell]; exact get_part _ 0 _ k u rfl hk)) ?_)
   refine zC (put_ok V E S U A c l _ (hR.tch0 hT0)) ?_
   rintro _ w21 ⟨rfl, hT22⟩
   have hT0 := hT0.t0 hT22
   have hB4 := hB4.tch0 hT22
   have hB8 := hB8.tch0 hT22
   refine zS [(18, .tuple #[.string (bsT (putT V E S U (cores l))), .int .i64 (putE V E S U (cores l))]), (21, .string (bsT (putT V E S U (cores l)))), (22, .int .i64 (putE V E S U (cores l))), (5, .string (bsT (putT V E S U (cores l)))), (6, .int .i64 (putE V E S U (cores l)))] ?_
   refine op_nil ?_
   refine zQ ?_
   refine st (by rfl) (S_val (v := .agg #[.int .i64 V, .int .i64 E, .slice A l.length c, .int .i64 S, .int .i64 U]) (R_loadA [.int .i64 V, .int .i64 E, .slice A l.length c, .int .i64 S, .int .i64 U] (by kernel_rfl) (by kernel_rfl) (by kernel_rfl) (fun k u hk => by rw [hB4.cell]; exact get_part _ 0 _ k u rfl hk)) ?_)
   refine zC (rput_ok V E S U A c l _ (hR.tch0 hT0)) ?_
   rintro _ w23 ⟨rfl, hT24⟩
   have hT0 := hT0.t0 hT24
   have hB4 := hB4.tch0 hT24
   have hB8 := hB8.tch0 hT24
   refine zS [(23, .tuple #[.string (bsT (putT V E S U (cores l))), .int .i64 (putE V E S U (cores l))]), (26, .string (bsT (putT V E S U (cores l)))), (27, .int .i64 (putE V E S U (cores l))), (7, .string (bsT (putT V E S U (cores l)))), (8, .int .i64 (putE V E S U (cores l)))] ?_
   refine op_nil ?_
   refine W_seq ?_
   refine zF [(0, .agg #[.int .i64 V, .int .i64 E, .slice A l.length c, .int .i64 S, .int .i64 U]), (1, .agg #[.int .i64 V2, .int .i64 E2, .slice A2 l2.length c2, .int .i64 S2, .int .i64 U2]), (2, .pointer (some ⟨w.heap.size, 0, none⟩)), (3, .pointer (some ⟨w1.heap.size, 0, none⟩)), (4, .bool false), (5, .string (bsT (putT V E S U (cores l)))), (6, .int .i64 (putE V E S U (cores l))), (7, .string (bsT (putT V E S U (cores l)))), (8, .int .i64 (putE V E S U (cores l))), (16, .bool (!b2))] fun ρ => ?_
   refine W_draw (fun w' => Blk w' (w.heap.size) 25 [.int .i64 V, .int .i64 E, .slice A l.length c, .int .i64 S, .int .i64 U] ∧ Blk w' (w1.heap.size) 25 [.int .i64 V2, .int .i64 E2, .slice A2 l2.length c2, .int .i64 S2, .int .i64 U2]) (by kernel_rfl) (by kernel_rfl) (by kernel_rfl) fun w25 hT26 hh27 => ?_
   have hT0 := hT0.t0 hT26
   have hB4 := hB4.tch0 hT26
   have hB8 := hB8.tch0 hT26
   refine zK [0, 1] #[true, true, false, false, false, false, false, false, false, false, false, false, false, false, false, false, false, false, false, false, false, false, false, false, false, false, false, false] [(28, .string (bsT (putT V E S U (cores l)))), (29, .string (bsT (putT V E S U (cores l))))] ⟨hB4, hB8⟩ ?_
   refine zV 2 rfl (.bool true) (fun _ ⟨hB4, hB8⟩ => R_seq_t (a := putT V E S U (cores l)) (b := putT V E S U (cores l)) (by kernel_rfl) (by kernel_rfl) rfl) ⟨hB4, hB8⟩ ?_
   refine zK [3, 4, 5, 6, 7, 8] #[true, true, true, true, true, true, true, true, true, false, false, false, false, false, false, false, false, false, false, false, false, false, false, false, false, false, false, false] [(31, .bool true), (32, .int .i64 (putE V E S U (cores l))), (33, .int .i64 (putE V E S U (cores l))), (34, .bool ((putE V E S U (cores l)) == (putE V E S U (cores l)))), (35, .bool ((putE V E S U (cores l)) == (putE V E S U (cores l)))), (36, .bool ((putE V E S U (cores l)) == (putE V E S U (cores l))))] ⟨hB4, hB8⟩ ?_
   cases hb28 : (putE V E S U (cores l)) == (putE V E S U (cores l))
   ·
    replace hb28 : putE V E S U (cores l) ≠ putE V E S U (cores l) := (ne_of_beq_false hb28)
    exact absurd rfl hb28
   ·
    replace hb28 : putE V E S U (cores l) = putE V E S U (cores l) := (eq_of_beq hb28)
    refine zV 9 rfl (.agg #[.int .i64 V, .int .i64 E, .slice A l.length c, .int .i64 S, .int .i64 U]) (fun _ ⟨hB4, hB8⟩ => R_loadA [.int .i64 V, .int .i64 E, .slice A l.length c, .int .i64 S, .int .i64 U] (by kernel_rfl) (by kernel_rfl) (by kernel_rfl) (fun k u hk => by rw [hB4.cell]; exact get_part _ 0 _ k u rfl hk)) ⟨hB4, hB8⟩ ?_
    refine zV 11 rfl (.agg #[.int .i64 V, .int .i64 E, .slice A l.length c, .int .i64 S, .int .i64 U]) (fun _ ⟨hB4, hB8⟩ => R_loadA [.int .i64 V, .int .i64 E, .slice A l.length c, .int .i64 S, .int .i64 U] (by kernel_rfl) (by kernel_rfl) (by kernel_rfl) (fun k u hk => by rw [hB4.cell]; exact get_part _ 0 _ k u rfl hk)) ⟨hB4, hB8⟩ ?_
    refine zD 10 rfl (S_call (args := [.agg #[.int .i64 V, .int .i64 E, .slice A l.length c, .int .i64 S, .int .i64 U]]) (by kernel_rfl) (text_ok V E S U A c l _ (hR.tch0 hT0) (hF1 (by assumption)) hb) ?_)
    rintro _ w29 ⟨rfl, hT30⟩
    have hT0 := hT0.t0 hT30
    have hB4 := hB4.tch0 hT30
    have hB8 := hB8.tch0 hT30
    refine ⟨⟨hB4, hB8⟩, ?_⟩
    refine zD 12 rfl (S_call (args := [.agg #[.int .i64 V, .int .i64 E, .slice A l.length c, .int .i64 S, .int .i64 U]]) (by kernel_rfl) (rtext_ok V E S U A c l _ (hR.tch0 hT0) (hF1 (by assumption)) hb) ?_)
    rintro _ w31 ⟨rfl, hT32⟩
    have hT0 := hT0.t0 hT32
    have hB4 := hB4.tch0 hT32
    have hB8 := hB8.tch0 hT32
    refine ⟨⟨hB4, hB8⟩, ?_⟩
    refine zV 13 rfl (.bool true) (fun _ ⟨hB4, hB8⟩ => R_seq_t (a := textR V E S U (cores l)) (b := textR V E S U (cores l)) (by kernel_rfl) (by kernel_rfl) rfl) ⟨hB4, hB8⟩ ?_
    refine zK [14, 15] #[true, true, true, true, true, true, true, true, true, true, true, true, true, true, true, true, false, false, false, false, false, false, false, false, false, false, false, false] [(42, .bool true), (43, .bool true)] ⟨hB4, hB8⟩ ?_
    refine zV 16 rfl (.agg #[.int .i64 V, .int .i64 E, .slice A l.length c, .int .i64 S, .int .i64 U]) (fun _ ⟨hB4, hB8⟩ => R_loadA [.int .i64 V, .int .i64 E, .slice A l.length c, .int .i64 S, .int .i64 U] (by kernel_rfl) (by kernel_rfl) (by kernel_rfl) (fun k u hk => by rw [hB4.cell]; exact get_part _ 0 _ k u rfl hk)) ⟨hB4, hB8⟩ ?_
    refine zV 17 rfl (.agg #[.int .i64 V2, .int .i64 E2, .slice A2 l2.length c2, .int .i64 S2, .int .i64 U2]) (fun _ ⟨hB4, hB8⟩ => R_loadA [.int .i64 V2, .int .i64 E2, .slice A2 l2.length c2, .int .i64 S2, .int .i64 U2] (by kernel_rfl) (by kernel_rfl) (by kernel_rfl) (fun k u hk => by rw [hB8.cell]; exact get_part _ 0 _ k u rfl hk)) ⟨hB4, hB8⟩ ?_
    refine zV 19 rfl (.agg #[.int .i64 V, .int .i64 E, .slice A l.length c, .int .i64 S, .int .i64 U]) (fun _ ⟨hB4, hB8⟩ => R_loadA [.int .i64 V, .int .i64 E, .slice A l.length c, .int .i64 S, .int .i64 U] (by kernel_rfl) (by kernel_rfl) (by kernel_rfl) (fun k u hk => by rw [hB4.cell]; exact get_part _ 0 _ k u rfl hk)) ⟨hB4, hB8⟩ ?_
    refine zV 20 rfl (.agg #[.int .i64 V2, .int .i64 E2, .slice A2 l2.length c2, .int .i64 S2, .int .i64 U2]) (fun _ ⟨hB4, hB8⟩ => R_loadA [.int .i64 V2, .int .i64 E2, .slice A2 l2.length c2, .int .i64 S2, .int .i64 U2] (by kernel_rfl) (by kernel_rfl) (by kernel_rfl) (fun k u hk => by rw [hB8.cell]; exact get_part _ 0 _ k u rfl hk)) ⟨hB4, hB8⟩ ?_
    refine zD 18 rfl (S_call (args := [.agg #[.int .i64 V, .int .i64 E, .slice A l.length c, .int .i64 S, .int .i64 U], .agg #[.int .i64 V2, .int .i64 E2, .slice A2 l2.length c2, .int .i64 S2, .int .i64 U2]]) (by kernel_rfl) (same_ok V E S U V2 E2 S2 U2 A A2 c c2 l l2 _ (hR.tch0 hT0) (hR2.tch0 hT0)) ?_)
    rintro _ w33 ⟨rfl, hT34⟩
    have hT0 := hT0.t0 hT34
    have hB4 := hB4.tch0 hT34
    have hB8 := hB8.tch0 hT34
    refine ⟨⟨hB4, hB8⟩, ?_⟩
    refine zD 21 rfl (S_call (args := [.agg #[.int .i64 V, .int .i64 E, .slice A l.length c, .int .i64 S, .int .i64 U], .agg #[.int .i64 V2, .int .i64 E2, .slice A2 l2.length c2, .int .i64 S2, .int .i64 U2]]) (by kernel_rfl) (rsameR_ok V E S U V2 E2 S2 U2 A A2 c c2 l l2 _ (hR.tch0 hT0) (hR2.tch0 hT0)) ?_)
    rintro _ w35 ⟨rfl, hT36⟩
    have hT0 := hT0.t0 hT36
    have hB4 := hB4.tch0 hT36
    have hB8 := hB8.tch0 hT36
    refine ⟨⟨hB4, hB8⟩, ?_⟩
    refine zK [22, 23, 24] #[true, true, true, true, true, true, true, true, true, true, true, true, true, true, true, true, true, true, true, true, true, true, true, true, true, false, false, false] [(50, .bool ((sameR V E S U (cores l) V2 E2 S2 U2 (cores l2)) == (sameR V E S U (cores l) V2 E2 S2 U2 (cores l2)))), (51, .bool ((sameR V E S U (cores l) V2 E2 S2 U2 (cores l2)) == (sameR V E S U (cores l) V2 E2 S2 U2 (cores l2)))), (52, .bool ((sameR V E S U (cores l) V2 E2 S2 U2 (cores l2)) == (sameR V E S U (cores l) V2 E2 S2 U2 (cores l2))))] ⟨hB4, hB8⟩ ?_
    cases hb37 : (sameR V E S U (cores l) V2 E2 S2 U2 (cores l2)) == (sameR V E S U (cores l) V2 E2 S2 U2 (cores l2))
    ·
     replace hb37 : (sameR V E S U (cores l) V2 E2 S2 U2 (cores l2)) ≠ (sameR V E S U (cores l) V2 E2 S2 U2 (cores l2)) := (ne_of_beq_false hb37)
     exact absurd rfl hb37
    ·
     replace hb37 : sameR V E S U (cores l) V2 E2 S2 U2 (cores l2) = sameR V E S U (cores l) V2 E2 S2 U2 (cores l2) := (eq_of_beq hb37)
     refine zD 25 rfl (S_call (args := []) (by kernel_rfl) (awake_ok _) ?_)
     rintro _ w38 ⟨rfl, hT39⟩
     have hT0 := hT0.t0 hT39
     have hB4 := hB4.tch0 hT39
     have hB8 := hB8.tch0 hT39
     refine ⟨⟨hB4, hB8⟩, ?_⟩
     refine zK [26, 27] #[true, true, true, true, true, true, true, true, true, true, true, true, true, true, true, true, true, true, true, true, true, true, true, true, true, true, true, true] [(54, .bool true), (4, .bool true)] ⟨hB4, hB8⟩ ?_
     refine d_done (by kernel_rfl) ?_
     refine W_ret ?_
     exact ⟨_, Res_of (v := .bool true) (by kernel_rfl), ⟨rfl, hT0⟩⟩

end Go.Proofs.YtlkjhkennbdbnaaV

set_option linter.unusedVariables false
set_option linter.unusedSimpArgs false
namespace Go.Proofs.YtlkjhkennbdbnaaV
open Go Go.RowKit Go.Proofs Go.ChangeShapes Go.WideShapes Go.Deep Go.Joins
section
variable {H : Type} {enc : TypeId × Value → H} {P : Program} {w : World} {base : Nat} {spare : Nat → Bool} {held : Bool}
theorem array5 {α : Type} {cs : Array α} (h : cs.size = 5) : ∃ c0 c1 c2 c3 c4, cs = #[c0, c1, c2, c3, c4] := by
 obtain ⟨l⟩ := cs
 match l, h with
 | [c0, c1, c2, c3, c4], _ => exact ⟨c0, c1, c2, c3, c4, rfl⟩
theorem trod_struct6 {t : TypeId} {f0 f1 f2 f3 f4 f5 : Field} {fuel : Nat} {cs : List Value} {x : DataW H × List MemPlace} (ht : P.underlying t = some (.struct #[f0, f1, f2, f3, f4, f5])) (h : DataW.trod enc P w base spare held fuel t cs = some x) :
  ∃ y0 y1 y2 y3 y4 y5 n, cs.length = P.cellsOf t ∧ DataW.trod enc P w base spare held n f0.type ((cs.drop f0.offset).take (P.cellsOf f0.type)) = some y0 ∧ DataW.trod enc P w base spare held n f1.type ((cs.drop f1.offset).take (P.cellsOf f1.type)) = some y1 ∧ DataW.trod enc P w base spare held n f2.type ((cs.drop f2.offset).take (P.cellsOf f2.type)) = some y2 ∧ DataW.trod enc P w base spare held n f3.type ((cs.drop f3.offset).take (P.cellsOf f3.type)) = some y3 ∧ DataW.trod enc P w base spare held n f4.type ((cs.drop f4.offset).take (P.cellsOf f4.type)) = some y4 ∧ DataW.trod enc P w base spare held n f5.type ((cs.drop f5.offset).take (P.cellsOf f5.type)) = some y5 := by
 obtain ⟨xs, n, _, rfl, hl, hlen, hf⟩ := DataW.trod_struct ht h
 match xs, hlen with
 | [y0, y1, y2, y3, y4, y5], _ => exact ⟨y0, y1, y2, y3, y4, y5, n, hl, by simpa using hf 0 f0 rfl, by simpa using hf 1 f1 rfl, by simpa using hf 2 f2 rfl, by simpa using hf 3 f3 rfl, by simpa using hf 4 f4 rfl, by simpa using hf 5 f5 rfl⟩
theorem trod_struct5 {t : TypeId} {f0 f1 f2 f3 f4 : Field} {fuel : Nat} {cs : List Value} {x : DataW H × List MemPlace} (ht : P.underlying t = some (.struct #[f0, f1, f2, f3, f4])) (h : DataW.trod enc P w base spare held fuel t cs = some x) :
  ∃ y0 y1 y2 y3 y4 n, cs.length = P.cellsOf t ∧ DataW.trod enc P w base spare held n f0.type ((cs.drop f0.offset).take (P.cellsOf f0.type)) = some y0 ∧ DataW.trod enc P w base spare held n f1.type ((cs.drop f1.offset).take (P.cellsOf f1.type)) = some y1 ∧ DataW.trod enc P w base spare held n f2.type ((cs.drop f2.offset).take (P.cellsOf f2.type)) = some y2 ∧ DataW.trod enc P w base spare held n f3.type ((cs.drop f3.offset).take (P.cellsOf f3.type)) = some y3 ∧ DataW.trod enc P w base spare held n f4.type ((cs.drop f4.offset).take (P.cellsOf f4.type)) = some y4 := by
 obtain ⟨xs, n, _, rfl, hl, hlen, hf⟩ := DataW.trod_struct ht h
 match xs, hlen with
 | [y0, y1, y2, y3, y4], _ => exact ⟨y0, y1, y2, y3, y4, n, hl, by simpa using hf 0 f0 rfl, by simpa using hf 1 f1 rfl, by simpa using hf 2 f2 rfl, by simpa using hf 3 f3 rfl, by simpa using hf 4 f4 rfl⟩
end
theorem cell_ltU {W : World} {b k : Nat} {u : Value} (h : W.cell? ⟨b, k, none⟩ = some u) : b < W.heap.size := by
 rcases Nat.lt_or_ge b W.heap.size with q | q
 ·
  exact q
 ·
  unfold World.cell? at h
  rw [Array.getElem?_eq_none q] at h
  simp at h
theorem add_add (a : Addr) (i j : Nat) : (a.add i).add j = a.add (i + j) := by
 unfold Addr.add
 by_cases hj : j = 0
 ·
  subst hj; simp
 ·
  by_cases hi : i = 0
  ·
   subst hi; simp
  ·
   rw [if_neg hj, if_neg hi, if_neg (by omega : ¬ i + j = 0)]
   simp [Nat.add_assoc]
theorem rdN {W : World} {sz len : Nat} {a : Addr} {cells : List Value} (hsz : 0 < sz) (hl : cells.length = len * sz) (hm : len ≤ 9223372036854775807) (hV : ∀ k u, cells[k]? = some u → W.cell? (a.add k) = some u) : RdW W sz len (some a) cells := by
 refine ⟨hl, hm, fun hn => ?_⟩
 have h0 : 0 < cells.length := by rw [hl]; exact Nat.mul_pos hn hsz
 have hc := hV 0 _ (List.getElem?_eq_getElem h0)
 have hsp : a.spot = none := by
  have e : a.add 0 = a := by simp [Addr.add]
  rw [e] at hc
  unfold World.cell? at hc
  split at hc
  ·
   split at hc
   ·
    cases hc
   ·
    rename_i hh; simpa using hh
  ·
   cases hc
 obtain ⟨b, off, spot⟩ := a
 simp only at hsp
 subst hsp
 have hc' : W.cell? ⟨b, off + 0, none⟩ = some cells[0] := by simpa only [add_at] using hc
 exact ⟨b, off, rfl, cell_ltU hc', fun k u hk => by have := hV k u hk; simpa only [add_at] using this⟩
section
variable {H : Type} {enc : TypeId × Value → H} {W : World} {sp : Nat → Bool}
theorem open_in {fuel : Nat} {c : Value} {y : DataW H × List MemPlace} (h : DataW.trod enc Try.prog W 0 sp true fuel 39 [c] = some y) : ∃ (L : Option Addr) (cl : Nat) (inp : Tx), c = .slice L inp.length cl ∧ RdW W 1 inp.length L (u8s inp) := by
 rcases open_slice1 Try.underlying39 (by kernel_rfl) h with ⟨e, _⟩ | ⟨a, len, cap, m, n, V, D, Pl, e, _, hl, hcm, hmm, _, hx⟩
 ·
  injection e with e
  exact ⟨none, 0, [], e, RdW.nil_ _ _ _⟩
 ·
  injection e with e
  have hlm : len ≤ m := by rw [hmm]; split <;> omega
  have key : ∀ i, ∃ x : Nat, i < len → V i = .int .u8 ((x : Nat) : Int) ∧ x < 256 := by
   intro i
   by_cases hi : i < len
   ·
    obtain ⟨_, h2⟩ := hx i (by omega)
    obtain ⟨x, ex, _, wx⟩ := DataW.trod_int Try.underlying5 h2
    have ex' : [V i] = [Value.int .u8 x] := ex
    injection ex' with ex'
    have hb := bounds_u8 wx
    exact ⟨x.toNat, fun _ => ⟨by rw [ex']; congr 1; omega, by omega⟩⟩
   ·
    exact ⟨0, fun q => absurd q hi⟩
  obtain ⟨f, hf⟩ := Classical.skolem.1 key
  refine ⟨some a, cap, (List.range len).map (fun i => UInt8.ofNat (f i)), by rw [e]; simp, ?_⟩
  have hlen : ((List.range len).map (fun i => UInt8.ofNat (f i))).length = len := by simp
  rw [hlen]
  refine rdN (by decide) (by rw [u8s_length, hlen]; omega) (by simp only [maxLen] at hcm; omega) fun k u hk => ?_
  have hk2 : k < len := by
   rcases Nat.lt_or_ge k len with q | q
   ·
    exact q
   ·
    rw [List.getElem?_eq_none (by rw [u8s_length, hlen]; exact q)] at hk; cases hk
  rw [u8s_at (by rw [hlen]; exact hk2)] at hk
  rw [(hx k (by omega)).1, (hf k hk2).1, ← hk]
  have e1 : ((List.range len).map (fun i => UInt8.ofNat (f i))).getD k 0 = UInt8.ofNat (f k) := by
   rw [List.getD_eq_getElem?_getD, List.getElem?_map, List.getElem?_range hk2]; rfl
  rw [e1, UInt8.toNat_ofNat']
  have := (hf k hk2).2
  rw [show f k % 2 ^ 8 = f k from Nat.mod_eq_of_lt (by omega)]
theorem open_im {fuel : Nat} {c : Value} {y : DataW H × List MemPlace} (h : DataW.trod enc Try.prog W 0 sp true fuel 41 [c] = some y) : ∃ (L : Option Addr) (cl : Nat) (img : List Nat), c = .slice L img.length cl ∧ RdW W 1 img.length L (u64s img) ∧ ∀ x, x ∈ img → x < 18446744073709551616 := by
 rcases open_slice1 Try.underlying41 (by kernel_rfl) h with ⟨e, _⟩ | ⟨a, len, cap, m, n, V, D, Pl, e, _, hl, hcm, hmm, _, hx⟩
 ·
  injection e with e
  exact ⟨none, 0, [], e, RdW.nil_ _ _ _, fun x hx => by cases hx⟩
 ·
  injection e with e
  have hlm : len ≤ m := by rw [hmm]; split <;> omega
  have key : ∀ i, ∃ x : Nat, i < len → V i = .int .u64 ((x : Nat) : Int) ∧ x < 18446744073709551616 := by
   intro i
   by_cases hi : i < len
   ·
    obtain ⟨_, h2⟩ := hx i (by omega)
    obtain ⟨x, ex, _, wx⟩ := DataW.trod_int Try.underlying44 h2
    have ex' : [V i] = [Value.int .u64 x] := ex
    injection ex' with ex'
    have hb := bounds_u64 wx
    exact ⟨x.toNat, fun _ => ⟨by rw [ex']; congr 1; omega, by omega⟩⟩
   ·
    exact ⟨0, fun q => absurd q hi⟩
  obtain ⟨f, hf⟩ := Classical.skolem.1 key
  refine ⟨some a, cap, (List.range len).map f, by rw [e]; simp, ?_, fun x hx => ?_⟩
  ·
   have hlen : ((List.range len).map f).length = len := by simp
   rw [hlen]
   refine rdN (by decide) (by rw [u64s_length, hlen]; omega) (by simp only [maxLen] at hcm; omega) fun k u hk => ?_
   have hk2 : k < len := by
    rcases Nat.lt_or_ge k len with q | q
    ·
     exact q
    ·
     rw [List.getElem?_eq_none (by rw [u64s_length, hlen]; exact q)] at hk; cases hk
   rw [u64s_at (by rw [hlen]; exact hk2)] at hk
   rw [(hx k (by omega)).1, (hf k hk2).1, ← hk]
   have e1 : ((List.range len).map f).getD k 0 = f k := by
    rw [List.getD_eq_getElem?_getD, List.getElem?_map, List.getElem?_range hk2]; rfl
   rw [e1]
  ·
   rw [List.mem_map] at hx
   obtain ⟨i, hi, rfl⟩ := hx
   exact (hf i (List.mem_range.1 hi)).2
set_option maxRecDepth 100000 in
theorem open_ts {fuel : Nat} {c : Value} {y : DataW H × List MemPlace} (h : DataW.trod enc Try.prog W 0 sp true fuel 23 [c] = some y) : ∃ (A : Option Addr) (cl : Nat) (l : List T6), c = .slice A l.length cl ∧ TsW W A l := by
 rcases open_slice Try.underlying23 h with ⟨e, _⟩ | ⟨a, len, cap, m, n, D, Pl, e, _, hl, hcm, hmm, _, hx⟩
 ·
  injection e with e
  exact ⟨none, 0, [], e, TsW.nil_ _ _⟩
 ·
  injection e with e
  have hlm : len ≤ m := by rw [hmm]; split <;> omega
  have key : ∀ i, ∃ u : T6, i < len → (∀ k v, (tc u)[k]? = some v → W.cell? ((a.add (i * 6)).add k) = some v) ∧ TmW W u := by
   intro i
   by_cases hi : i < len
   ·
    obtain ⟨cs, h1, h2⟩ := hx i (by omega)
    obtain ⟨_, hcl, hc⟩ := World.cells?_some h1
    obtain ⟨y0, y1, y2, y3, y4, y5, k, _, t0, t1, t2, t3, t4, t5⟩ := trod_struct6 Try.underlying43 h2
    have hcl6 : cs.length = 6 := hcl
    obtain ⟨c0, c1, c2, c3, c4, c5, rfl⟩ : ∃ c0 c1 c2 c3 c4 c5, cs = [c0, c1, c2, c3, c4, c5] := by
     match cs, hcl6 with
     | [c0, c1, c2, c3, c4, c5], _ => exact ⟨c0, c1, c2, c3, c4, c5, rfl⟩
    obtain ⟨iA, iC, inp, rfl, hri⟩ := open_in (c := c0) t0
    obtain ⟨q1, e1, _, w1⟩ := DataW.trod_int Try.underlying3 t1
    have e1' : [c1] = [Value.int .i64 q1] := e1
    injection e1' with e1'
    subst e1'
    obtain ⟨q2, e2, _, w2⟩ := DataW.trod_int Try.underlying3 t2
    have e2' : [c2] = [Value.int .i64 q2] := e2
    injection e2' with e2'
    subst e2'
    obtain ⟨gA, gC, img, rfl, hrg, hgl⟩ := open_im (c := c3) t3
    obtain ⟨q4, e4, _, w4⟩ := DataW.trod_int Try.underlying3 t4
    have e4' : [c4] = [Value.int .i64 q4] := e4
    injection e4' with e4'
    subst e4'
    obtain ⟨q5, e5, _, w5⟩ := DataW.trod_int Try.underlying3 t5
    have e5' : [c5] = [Value.int .i64 q5] := e5
    injection e5' with e5'
    subst e5'
    refine ⟨⟨iA, iC, inp, q1, q2, gA, gC, img, q4, q5⟩, fun _ => ⟨fun k v hk => ?_, ⟨hri, hrg, ⟨bounds_i64 w1, bounds_i64 w2, bounds_i64 w4, bounds_i64 w5, hgl⟩⟩⟩⟩
    have hk6 : k < 6 := by
     rcases Nat.lt_or_ge k 6 with q | q
     ·
      exact q
     ·
      rw [List.getElem?_eq_none (by simpa [tc] using q)] at hk; cases hk
    have hck := hc k hk6
    rw [show i * Try.prog.cellsOf 43 = i * 6 from rfl] at hck
    rw [hck]
    exact hk
   ·
    exact ⟨t60, fun q => absurd q hi⟩
  obtain ⟨f, hf⟩ := Classical.skolem.1 key
  have hlen : ((List.range len).map f).length = len := by simp
  have htq : ∀ i, i < len → tq ((List.range len).map f) i = f i := by
   intro i hi
   unfold tq
   rw [List.getD_eq_getElem?_getD, List.getElem?_map, List.getElem?_range hi]; rfl
  refine ⟨some a, cap, (List.range len).map f, by rw [e, hlen], ?_, fun t ht => ?_⟩
  ·
   rw [hlen]
   refine rdN (by decide) (by rw [tcs_length, hlen]) (by simp only [maxLen] at hcm; omega) fun k u hk => ?_
   have hk2 : k < len * 6 := by
    rcases Nat.lt_or_ge k (len * 6) with q | q
    ·
     exact q
    ·
     rw [List.getElem?_eq_none (by rw [tcs_length, hlen]; exact q)] at hk; cases hk
   have hi : k / 6 < len := by omega
   have h6 : (tc (f (k / 6))).length = 6 := rfl
   have hlt : k % 6 < (tc (f (k / 6))).length := by rw [h6]; omega
   have hp := tcs_part ((List.range len).map f) (i := k / 6) (by rw [hlen]; exact hi) (k % 6) _ (by rw [htq _ hi]; exact List.getElem?_eq_getElem hlt)
   rw [show k / 6 * 6 + k % 6 = k by omega, hk] at hp
   injection hp with hp
   have hc := (hf (k / 6) hi).1 (k % 6) _ (List.getElem?_eq_getElem hlt)
   have ea : (a.add (k / 6 * 6)).add (k % 6) = a.add k := by
    rw [add_add, show k / 6 * 6 + k % 6 = k by omega]
   rw [ea] at hc
   rw [hp, ← hc]
  ·
   rw [List.mem_map] at ht
   obtain ⟨i, hi, rfl⟩ := ht
   exact (hf i (List.mem_range.1 hi)).2
set_option maxRecDepth 100000 in
theorem open_report {r : Reach} {b0 : Nat} {v : Value} {d : DataW H} {ps : List MemPlace} (hv : Value.okWide Try.prog W r b0 25 v) (h : DataW.Trod enc Try.prog W 0 sp true 25 v d ps) :
  ∃ (V E S U : Int) (A : Option Addr) (c : Nat) (l : List T6), v = .agg #[.int .i64 V, .int .i64 E, .slice A l.length c, .int .i64 S, .int .i64 U] ∧ TsW W A l ∧ (b64 E ∧ b64 S ∧ b64 U) := by
 obtain ⟨cs, rfl, hsz⟩ := okWide_struct Try.underlying25 hv
 obtain ⟨c0, c1, c2, c3, c4, rfl⟩ := array5 (hsz.trans (by kernel_rfl))
 obtain ⟨fuel, hf⟩ := h
 obtain ⟨y0, y1, y2, y3, y4, n, _, t0, t1, t2, t3, t4⟩ := trod_struct5 Try.underlying25 hf
 obtain ⟨q0, e0, _, w0⟩ := DataW.trod_int Try.underlying3 t0
 have e0' : [c0] = [Value.int .i64 q0] := e0
 injection e0' with e0'
 subst e0'
 obtain ⟨q1, e1, _, w1⟩ := DataW.trod_int Try.underlying22 t1
 have e1' : [c1] = [Value.int .i64 q1] := e1
 injection e1' with e1'
 subst e1'
 obtain ⟨A, cl, l, rfl, hT⟩ := open_ts (c := c2) t2
 obtain ⟨q3, e3, _, w3⟩ := DataW.trod_int Try.underlying3 t3
 have e3' : [c3] = [Value.int .i64 q3] := e3
 injection e3' with e3'
 subst e3'
 obtain ⟨q4, e4, _, w4⟩ := DataW.trod_int Try.underlying3 t4
 have e4' : [c4] = [Value.int .i64 q4] := e4
 injection e4' with e4'
 subst e4'
 exact ⟨q0, q1, q3, q4, A, cl, l, rfl, hT, ⟨bounds_i64 w1, bounds_i64 w3, bounds_i64 w4⟩⟩
end
end Go.Proofs.YtlkjhkennbdbnaaV

set_option linter.unusedVariables false
set_option linter.unusedSimpArgs false
namespace Go.Proofs.YtlkjhkennbdbnaaV
open Go Go.RowKit Go.Proofs

end Go.Proofs.YtlkjhkennbdbnaaV
