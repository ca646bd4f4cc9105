/- Texts laid together: TermPlays: plain. Which terms a term is made of: steps of the reckoning, plain. Known bits: plain. Known bits of all terms: plain. What is known of a term holds of its value: plain. Walks of functions of the program and of the document's texts. The conditions stand with each theorem. Walks of functions of the program and of the document's texts. The conditions stand with each theorem. -/
import Derived.Test.YtlbadnpgmkobdaaD2
import Derived.Test.YtlbadnpgmkobdaaJKkbit24x4
import Derived.Test.YtlbadnpgmkobdaaJKkbit24x1
import Derived.Test.YtlbadnpgmkobdaaProg
set_option linter.unusedVariables false
set_option linter.unusedSimpArgs false
namespace Go.Proofs.YtlbadnpgmkobdaaV
open Go Go.RowKit Go.Proofs
section
variable {ρ : Env} {w : World}
end
def ndF (N : List Nd) (x : Int) : Nd := if 0 ≤ x ∧ x < (N.length : Int) then nth N x.toNat else nd0
theorem ndF_out {N : List Nd} {x : Int} (h : ¬ (0 ≤ x ∧ x < (N.length : Int))) : ndF N x = nd0 := by unfold ndF; rw [if_neg h]
theorem node_ok (F : Nat → Prop) (p : Nat) (most : Int) (N : List Nd) (W : Value → Value → Prop) (ix : Int) (w : World) (hL : TLow F w p most N W) (hN : N.length ≤ 65536) :
  Ret Try.prog 14 [.pointer (some ⟨p, 0, none⟩), .int .i64 ix] w fun v w' => v = .tuple #[.agg #[.int .i64 (nO (ndF N ix)), .int .i64 (nW (ndF N ix)), .int .i64 (nA (ndF N ix)), .int .i64 (nB (ndF N ix)), .int .i64 (nC (ndF N ix)), .int .u64 (nV (ndF N ix))], .bool (isT N ix)] ∧ Tch N0 w w' := by
 by_cases h : 0 ≤ ix ∧ ix < (N.length : Int)
 ·
  have e : isT N ix = true := decide_eq_true h
  have e2 : ndF N ix = nth N ix.toNat := by unfold ndF; rw [if_pos h]
  rw [e, e2]; exact node_in F p most N W ix w hL hN h.1 h.2
 ·
  have e : isT N ix = false := decide_eq_false h
  rw [e, ndF_out h]; exact node_out F p most N W ix w hL hN h
end Go.Proofs.YtlbadnpgmkobdaaV

set_option linter.unusedVariables false
set_option linter.unusedSimpArgs false
namespace Go.Proofs.YtlbadnpgmkobdaaV
open Go Go.RowKit Go.Proofs
theorem pt_nat {i : Nat} {x : Int} (h : pt i x) : ((x.toNat : Nat) : Int) = x := by have := h.1; omega
theorem kids_cells {N : List Nd} {i : Nat} {n : Nd} (h : NdW N i n) : nats (kidsN n) = if nO n = 20 ∨ nO n = 21 then [] else if nO n = 22 then [.int .i64 (nA n), .int .i64 (nB n), .int .i64 (nC n)] else if nO n ≤ 14 ∨ nO n = 24 then [.int .i64 (nA n), .int .i64 (nB n)] else [.int .i64 (nA n)] := by
 unfold kidsN
 rcases h with h | h | ⟨h, a, e⟩ | ⟨h, a, b, e, e2⟩ | ⟨h, a, b, c, e, e2, e3⟩ | ⟨h, a, b, e⟩ | ⟨h, a, b, e⟩ | ⟨h, a, e⟩
 ·
  rw [if_pos (.inl h.1), if_pos (.inl h.1)]; rfl
 ·
  rw [if_pos (.inr h.1), if_pos (.inr h.1)]; rfl
 ·
  rw [if_neg (by omega), if_neg (by omega), if_neg (by omega), if_neg (by omega), if_neg (by omega), if_neg (by omega)]; simp only [nats, List.map_cons, List.map_nil, pt_nat a]
 ·
  rw [if_neg (by omega), if_neg (by omega), if_pos (by omega), if_neg (by omega), if_neg (by omega), if_pos (by omega)]; simp only [nats, List.map_cons, List.map_nil, pt_nat a, pt_nat b]
 ·
  rw [if_neg (by omega), if_pos (by omega), if_neg (by omega), if_pos (by omega)]; simp only [nats, List.map_cons, List.map_nil, pt_nat a, pt_nat b, pt_nat c]
 ·
  rw [if_neg (by omega), if_neg (by omega), if_neg (by omega), if_neg (by omega), if_neg (by omega), if_neg (by omega)]; simp only [nats, List.map_cons, List.map_nil, pt_nat a]
 ·
  rw [if_neg (by omega), if_neg (by omega), if_pos (by omega), if_neg (by omega), if_neg (by omega), if_pos (by omega)]; simp only [nats, List.map_cons, List.map_nil, pt_nat a, pt_nat b]
 ·
  rw [if_neg (by omega), if_neg (by omega), if_neg (by omega), if_neg (by omega), if_neg (by omega), if_neg (by omega)]; simp only [nats, List.map_cons, List.map_nil, pt_nat a]
/-- What comes of kids. -/
def KidR (n : Nd) (w : World) (v : Value) (w' : World) : Prop := ∃ K m, v = .slice K m m ∧ m = (kidsN n).length ∧ Own w' 0 3 1 (.slice K m m) m (nats (kidsN n)) ∧ (∀ c, (Value.slice K m m).ownBlock = some c → w.heap.size ≤ c) ∧ Tch N0 w w'
theorem KidR.nil {n : Nd} {w w' : World} (e : nats (kidsN n) = []) (T : Tch N0 w w') : KidR n w (.slice none 0 0) w' := by
 have hl : (kidsN n).length = 0 := by rw [← nats_length, e]; rfl
 exact ⟨none, 0, rfl, hl.symm, by rw [e]; exact Own.nil_ _ _ _ _, (fun c h => by cases h), T⟩
theorem KidR.blk {n : Nd} {w w' : World} {g k : Nat} {cs : List Value} (e : nats (kidsN n) = cs) (hk : cs.length = k) (hB : Blk w' g 3 cs) (hg : w.heap.size ≤ g) (hk2 : k ≤ 1000) (T : Tch N0 w w') : KidR n w (.slice (some ⟨g, 0, none⟩) k k) w' := by
 have hl : (kidsN n).length = k := by rw [← nats_length, e]; exact hk
 refine ⟨some ⟨g, 0, none⟩, k, rfl, hl.symm, ?_, (fun c h => by have e : g = c := (by injection h); omega), T⟩
 rw [e]
 exact Blk.own1 (sp := []) (by rw [List.append_nil]; exact hB) hk (by rw [List.append_nil]; exact hk) (Nat.le_refl _) (by simp only [maxLen]; omega)
theorem look_hd {N : List Nd} {hd : List Bool} {k : Nat} {v : Value} {ok : Bool} (hk : k < N.length) (hv : ok = true ∧ hdR N hd (.int .i64 ((k : Nat) : Int)) v ∨ ok = false ∧ v = nodeV nd0 ∧ ∀ y, ¬ hdR N hd (.int .i64 ((k : Nat) : Int)) y) : ∃ z, v = nodeV z ∧ ok = hd.getD k false := by
 rcases hv with ⟨rfl, i, _, h, e, rfl⟩ | ⟨rfl, rfl, h⟩
 ·
  refine ⟨_, rfl, ?_⟩
  have : k = i := by injection e with _ e; omega
  rw [this, h]
 ·
  refine ⟨_, rfl, ?_⟩
  cases q : hd.getD k false with
  | false => rfl
  | true => exact absurd ⟨k, hk, q, rfl, rfl⟩ (h _)
/-! ### The loop's measure -/
def lastN (wt : List Nat) : Nat := wt.getD (wt.length - 1) 0
def sec (n : Nat) (hd : List Bool) (wt : List Nat) : Nat := if wt = [] then 0 else if hd.getD (lastN wt) false = true then n + wt.length else lastN wt
theorem last_snoc (ws : List Nat) (x : Nat) : lastN (ws ++ [x]) = x := by
 unfold lastN
 simp [List.getD_eq_getElem?_getD]
theorem sec_snoc {n : Nat} {hd : List Bool} {ws : List Nat} {x : Nat} (h : hd.getD x false = false) : sec n hd (ws ++ [x]) = x := by
 unfold sec
 rw [if_neg (by simp), last_snoc, h]; simp
theorem lex_more {n : Nat} {hd : List Bool} {wt ws : List Nat} {x tp : Nat} (h0 : wt ≠ []) (htp : lastN wt = tp) (hx : x < tp) (htn : tp < n) (h : hd.getD x false = false) : ltL (offs hd, sec n hd (ws ++ [x])) (offs hd, sec n hd wt) := by
 refine .inr ⟨rfl, ?_⟩
 show sec n hd (ws ++ [x]) < sec n hd wt
 rw [sec_snoc h]
 unfold sec
 rw [if_neg h0, htp]
 split <;> omega
theorem lex_pop {n : Nat} {hd : List Bool} {wt : List Nat} {tp : Nat} (h0 : wt ≠ []) (htp : lastN wt = tp) (htn : tp < hd.length) (hall : ∀ x, x ∈ wt → x < n) : ltL (offs (hd.set tp true), sec n (hd.set tp true) (wt.take (wt.length - 1))) (offs hd, sec n hd wt) := by
 cases q : hd.getD tp false with
 | false => exact .inl (offs_set htn q)
 | true =>
  have e : hd.set tp true = hd := by
   apply List.ext_getElem?
   intro i
   rw [List.getElem?_set]
   by_cases e : tp = i
   ·
    subst e
    rw [if_pos rfl, if_pos htn]
    rw [List.getD_eq_getElem?_getD, List.getElem?_eq_getElem htn] at q
    rw [List.getElem?_eq_getElem htn]
    exact congrArg some q.symm
   ·
    rw [if_neg e]
  rw [e]
  refine .inr ⟨rfl, ?_⟩
  show sec n hd (wt.take (wt.length - 1)) < sec n hd wt
  have hl : 0 < wt.length := List.length_pos_iff.2 h0
  have e2 : sec n hd wt = n + wt.length := by unfold sec; rw [if_neg h0, htp, q]; simp
  rw [e2]
  unfold sec
  split
  ·
   omega
  ·
   rename_i hne
   split
   ·
    rw [List.length_take]; omega
   ·
    have hm : lastN (wt.take (wt.length - 1)) ∈ wt := by
     unfold lastN
     have hl2 := List.length_pos_iff.2 hne
     rw [List.getD_eq_getElem?_getD, List.getElem?_eq_getElem (by omega)]
     exact List.mem_of_mem_take (List.getElem_mem _)
    have := hall _ hm
    omega
theorem Own.capge {w : World} {e sz n : Nat} {A : Option Addr} {cp : Nat} {cells : List Value} (h : Own w 0 e sz (.slice A n cp) n cells) : n ≤ cp := by
 rcases h with ⟨_, ⟨hv, hn⟩ | ⟨b, cap, cur, hv, _, _, hn, _⟩⟩
 ·
  omega
 ·
  injection hv with _ _ q; omega
theorem kids_len (n : Nd) : (kidsN n).length ≤ 3 := by unfold kidsN; (repeat' split) <;> simp
theorem own_len (A : Option Addr) (n m cp : Nat) : (Value.slice A n cp).ownBlock = (Value.slice A m cp).ownBlock := by cases A <;> rfl
/-- How far a place in the stack can be. -/
def Far (n : Nat) (wt : List Nat) : Prop := ∀ i, i < wt.length → i + 1 + 3 * wt.getD i 0 ≤ 3 * n
theorem Far.take {n m : Nat} {wt : List Nat} (h : Far n wt) : Far n (wt.take m) := fun i hi => by
 have hi2 : i < m ∧ i < wt.length := by rw [List.length_take] at hi; omega
 have e : (wt.take m).getD i 0 = wt.getD i 0 := by simp only [List.getD_eq_getElem?_getD, List.getElem?_take, if_pos hi2.1]
 rw [e]; exact h i hi2.2
theorem Far.push {n x : Nat} {wt : List Nat} (h : Far n wt) (hx : wt.length + 1 + 3 * x ≤ 3 * n) : Far n (wt ++ [x]) := fun i hi => by
 have hi2 : i < wt.length + 1 := by simpa using hi
 by_cases e : i < wt.length
 ·
  have e2 : (wt ++ [x]).getD i 0 = wt.getD i 0 := by simp only [List.getD_eq_getElem?_getD, List.getElem?_append_left e]
  rw [e2]; exact h i e
 ·
  obtain rfl : i = wt.length := by omega
  have e2 : (wt ++ [x]).getD wt.length 0 = x := by simp [List.getD_eq_getElem?_getD]
  rw [e2]; exact hx
theorem Far.len {n : Nat} {wt : List Nat} (h : Far n wt) : wt.length ≤ 3 * n := by
 rcases Nat.eq_zero_or_pos wt.length with q | q
 ·
  omega
 ·
  have := h (wt.length - 1) (by omega); omega
/-- What the stack of those that wait holds. -/
def Wst (n id : Nat) (hd : List Bool) (wt : List Nat) : Prop := hd.length = n ∧ (∀ x, x ∈ wt → x < n) ∧ (id ∈ wt ∨ hd.getD id false = true) ∧ Far n wt
theorem Wst.start {n id : Nat} (h : id < n) : Wst n id (List.replicate n false) [id] := ⟨by simp, by simpa using h, .inl (by simp), fun i hi => by
 have : i = 0 := by simpa using hi
 subst this
 show 0 + 1 + 3 * id ≤ 3 * n
 omega⟩
theorem Wst.pop {n id : Nat} {hd : List Bool} {wt : List Nat} {tp : Nat} (h : Wst n id hd wt) (h0 : wt ≠ []) (htp : lastN wt = tp) (ht : tp < n) : Wst n id (hd.set tp true) (wt.take (wt.length - 1)) := by
 obtain ⟨h1, h2, h3, h4⟩ := h
 refine ⟨by rw [List.length_set]; exact h1, fun x hx => h2 x (List.mem_of_mem_take hx), ?_, h4.take⟩
 have hg : ∀ j, (hd.set tp true).getD j false = if tp = j then true else hd.getD j false := fun j => by
  simp only [List.getD_eq_getElem?_getD, List.getElem?_set]
  by_cases e : tp = j
  ·
   subst e; simp [h1, ht]
  ·
   simp [e]
 by_cases e : tp = id
 ·
  right; rw [hg, if_pos e]
 ·
  rcases h3 with h3 | h3
  ·
   left
   obtain ⟨j, hj, ej⟩ := List.getElem_of_mem h3
   have hjl : j ≠ wt.length - 1 := by
    rintro rfl
    apply e
    rw [← htp, ← ej]
    unfold lastN
    rw [List.getD_eq_getElem?_getD, List.getElem?_eq_getElem hj]; rfl
   rw [← ej]
   exact List.mem_take_iff_getElem.2 ⟨j, by omega, rfl⟩
  ·
   right; rw [hg, if_neg e]; exact h3
theorem Wst.last {n id : Nat} {hd : List Bool} {wt : List Nat} (h : Wst n id hd wt) (h0 : wt ≠ []) : lastN wt < n := by
 refine h.2.1 _ ?_
 unfold lastN
 have hl2 := List.length_pos_iff.2 h0
 rw [List.getD_eq_getElem?_getD, List.getElem?_eq_getElem (by omega)]
 exact List.getElem_mem _
theorem Wst.room {n id : Nat} {hd : List Bool} {wt : List Nat} (h : Wst n id hd wt) (h0 : wt ≠ []) : wt.length + 3 * lastN wt ≤ 3 * n := by
 have hl2 := List.length_pos_iff.2 h0
 have := h.2.2.2 (wt.length - 1) (by omega)
 unfold lastN; omega
/-- What the stack is while the kids are looked at. -/
def Kst (n : Nat) (hd : List Bool) (kids wt wt1 : List Nat) (mr : Bool) : Prop :=
 (mr = false → wt1 = wt) ∧ (mr = true → ∃ ws x, wt1 = ws ++ [x] ∧ x ∈ kids ∧ hd.getD x false = false) ∧ (∀ x, x ∈ wt → x ∈ wt1) ∧ (∀ x, x ∈ wt1 → x < n) ∧ Far n wt1
theorem Kst.start {n id : Nat} {hd : List Bool} {kids wt : List Nat} (h : Wst n id hd wt) : Kst n hd kids wt wt false := ⟨fun _ => rfl, (fun h => nomatch h), fun _ h => h, h.2.1, h.2.2.2⟩
theorem Kst.push {n : Nat} {hd : List Bool} {kids wt wt1 : List Nat} {mr : Bool} {x : Nat} (h : Kst n hd kids wt wt1 mr) (hx : x ∈ kids) (hn : x < n) (hp : wt1.length + 1 + 3 * x ≤ 3 * n) (hf : hd.getD x false = false) : Kst n hd kids wt (wt1 ++ [x]) true :=
 ⟨(fun h => nomatch h), fun _ => ⟨wt1, x, rfl, hx, hf⟩, fun y hy => List.mem_append.2 (.inl (h.2.2.1 y hy)), fun y hy => by
  rcases List.mem_append.1 hy with q | q
  ·
   exact h.2.2.2.1 y q
  ·
   simp at q; omega, h.2.2.2.2.push hp⟩
theorem Wst.more {n id : Nat} {hd : List Bool} {kids wt wt1 : List Nat} {mr : Bool} (h : Wst n id hd wt) (k : Kst n hd kids wt wt1 mr) : Wst n id hd wt1 := ⟨h.1, k.2.2.2.1, h.2.2.1.imp (k.2.2.1 id) (fun q => q), k.2.2.2.2⟩
theorem mem_getD {l : List Nat} {j : Nat} (h : j < l.length) : l.getD j 0 ∈ l := by rw [List.getD_eq_getElem?_getD, List.getElem?_eq_getElem h]; exact List.getElem_mem h
/-! ### How many a map holds -/
section
variable {P : Program} {ρ : Env} {w : World} {J : Env → World → Prop}
theorem R_lenM {d : Option Tmp} {t : TypeId} {x : Operand} {ty : TypeId} {pos : String} {af : Array Edge} {g : Option (Nat × Bool)} (k e : TypeId) {b : Nat} {R : Value → Value → Prop} (ht : pureR P (underlying t) = some (.map k e)) (hx : evR ρ x = .map (some b)) (h : MapE P k w b R) :
  ∃ m : Nat, (execOp (evR ρ) ⟨d, .call { callee := .builtin .len, args := #[x], argTypes := #[t] }, ty, pos, af, g⟩).run P w = .ok (.value (.int .i64 ((m : Nat) : Int))) w ∧ ((∃ x y, R x y) → 0 < m) ∧ ((∀ x y, ¬ R x y) → m = 0) := by
 obtain ⟨es, clock, hb, q1, q2, q3⟩ := h
 refine ⟨es.size, ?_, fun ⟨x, y, q⟩ => ?_, fun q => ?_⟩
 ·
  have h1 := pureR_run (w := w) ht
  simp only [execOp, resolve, invoke, builtin, Array.map, hx]
  simp [hx, Builtin.len_, h1, MapKept.run_getObj_map hb, goInt, Result.andThen]
 ·
  obtain ⟨e0, he, _⟩ := (q2 x y).1 q
  have := List.length_pos_of_mem he
  simpa using this
 ·
  rcases Nat.eq_zero_or_pos es.size with z | z
  ·
   exact z
  ·
   exact absurd ((q2 _ _).2 ⟨es[0], by simp, rfl, rfl⟩) (q _ _)
end
end Go.Proofs.YtlbadnpgmkobdaaV

set_option linter.unusedVariables false
set_option linter.unusedSimpArgs false
namespace Go.Proofs.YtlbadnpgmkobdaaV
open Go Go.RowKit Go.Proofs
theorem mask_nat {x : Nat} (h : x ≤ 64) : maskF ((x : Nat) : Int) = ((pw x - 1 : Nat) : Int) := by
 rcases Nat.eq_zero_or_pos x with q | q
 ·
  subst q; rw [mask_z (by omega)]; rfl
 ·
  rw [mask_pow (by omega), Int.toNat_natCast]
  unfold pw
  have h1 : (1 : Nat) ≤ 2 ^ x := Nat.one_le_two_pow
  rw [Int.natCast_sub h1]; simp
theorem pwm_lt {x : Nat} (h : x ≤ 64) : pw x - 1 < 18446744073709551616 := by have := pw64 h; have := pw_pos x; omega
theorem pwm_bit (x t : Nat) : (pw x - 1).testBit t = decide (t < x) := by unfold pw; exact Nat.testBit_two_pow_sub_one x t
/-- Bits that are known, and what they are. -/
abbrev K := Nat × Nat
def KI (w : Nat) (x : K) : Prop := x.1 < pw w ∧ ∀ t, x.2.testBit t = true → x.1.testBit t = true
theorem KI.hi {w : Nat} {x : K} (h : KI w x) {t : Nat} (ht : w ≤ t) : x.1.testBit t = false := Nat.testBit_lt_two_pow (Nat.lt_of_lt_of_le h.1 (Nat.pow_le_pow_right (n := 2) (by decide) ht))
theorem KI.hv {w : Nat} {x : K} (h : KI w x) {t : Nat} (ht : w ≤ t) : x.2.testBit t = false := by
 cases q : x.2.testBit t with
 | false => rfl
 | true => have := h.2 t q; rw [h.hi ht] at this; cases this
theorem KI.lt2 {w : Nat} {x : K} (h : KI w x) : x.2 < pw w := by
 apply Nat.lt_of_not_le
 intro hle
 have : x.2 ≠ 0 := by have := pw_pos w; omega
 have hl := Nat.log2_self_le this
 have hb : x.2.testBit x.2.log2 = true := Nat.testBit_log2 this
 have : w ≤ x.2.log2 := (Nat.le_log2 this).2 hle
 rw [h.hv this] at hb; cases hb
theorem KI.u1 {w : Nat} {x : K} (h : KI w x) (hw : w ≤ 64) : x.1 < 18446744073709551616 := Nat.lt_of_lt_of_le h.1 (pw64 hw)
theorem KI.u2 {w : Nat} {x : K} (h : KI w x) (hw : w ≤ 64) : x.2 < 18446744073709551616 := Nat.lt_of_lt_of_le h.lt2 (pw64 hw)
/-- A word that is told bit by bit. -/
theorem eq_bval {w z : Nat} {f : Nat → Bool} (h : ∀ t, z.testBit t = (decide (t < w) && f t)) : z = bval w f := by
 apply Nat.eq_of_testBit_eq
 intro t
 rw [h, bval_bit]
theorem KI_bval {w : Nat} {k v : Nat → Bool} (h : ∀ t, t < w → v t = true → k t = true) : KI w (bval w k, bval w v) := ⟨bval_lt w k, fun t ht => by
 rw [bval_bit] at ht ⊢
 simp only [Bool.and_eq_true, decide_eq_true_eq] at ht ⊢
 exact ⟨ht.1, h t ht.1 ht.2⟩⟩
def gk (op : Nat) (x y : K) (t : Nat) : Bool := if op = 6 then (x.1.testBit t && !x.2.testBit t) || (y.1.testBit t && !y.2.testBit t) || (x.1.testBit t && y.1.testBit t) else if op = 7 then (x.1.testBit t && x.2.testBit t) || (y.1.testBit t && y.2.testBit t) || (x.1.testBit t && y.1.testBit t) else x.1.testBit t && y.1.testBit t
def gv (op : Nat) (x y : K) (t : Nat) : Bool := if op = 6 then x.1.testBit t && x.2.testBit t && y.1.testBit t && y.2.testBit t else if op = 7 then (x.1.testBit t && x.2.testBit t) || (y.1.testBit t && y.2.testBit t) else x.1.testBit t && y.1.testBit t && (x.2.testBit t != y.2.testBit t)
def kgate (op w : Nat) (x y : K) : K := (bval w (gk op x y), bval w (gv op x y))
section
variable {w : Nat} {x y : K} (hx : KI w x) (hy : KI w y)
include hx hy
theorem kg6 : (((x.1 &&& y.1) ||| andn x.1 x.2) ||| andn y.1 y.2, x.2 &&& y.2) = kgate 6 w x y := by
 refine Prod.ext (eq_bval fun t => ?_) (eq_bval fun t => ?_)
 ·
  show ((x.1 &&& y.1 ||| andn x.1 x.2) ||| andn y.1 y.2).testBit t = _
  simp only [Nat.testBit_or, Nat.testBit_and, andn_bit, gk, if_true]
  by_cases h : t < w
  ·
   simp only [h, decide_true, Bool.true_and]
   cases x.1.testBit t <;> cases y.1.testBit t <;> cases x.2.testBit t <;> cases y.2.testBit t <;> rfl
  ·
   rw [hx.hi (by omega), hy.hi (by omega)]; simp [h]
 ·
  show (x.2 &&& y.2).testBit t = _
  simp only [Nat.testBit_and, gv, if_true]
  have a := hx.2 t
  have b := hy.2 t
  by_cases h : t < w
  ·
   simp only [h, decide_true, Bool.true_and]
   revert a b
   cases x.1.testBit t <;> cases y.1.testBit t <;> cases x.2.testBit t <;> cases y.2.testBit t <;> simp
  ·
   rw [hx.hv (by omega)]; simp [h]
theorem kg7 : (((x.1 &&& y.1) ||| x.2) ||| y.2, x.2 ||| y.2) = kgate 7 w x y := by
 refine Prod.ext (eq_bval fun t => ?_) (eq_bval fun t => ?_)
 ·
  show ((x.1 &&& y.1 ||| x.2) ||| y.2).testBit t = _
  simp only [Nat.testBit_or, Nat.testBit_and, gk, if_true]
  rw [if_neg (by decide)]
  have a := hx.2 t
  have b := hy.2 t
  by_cases h : t < w
  ·
   simp only [h, decide_true, Bool.true_and]
   revert a b
   cases x.1.testBit t <;> cases y.1.testBit t <;> cases x.2.testBit t <;> cases y.2.testBit t <;> simp
  ·
   rw [hx.hi (by omega), hx.hv (by omega), hy.hv (by omega)]; simp [h]
 ·
  show (x.2 ||| y.2).testBit t = _
  simp only [Nat.testBit_or, gv, if_true]
  rw [if_neg (by decide)]
  have a := hx.2 t
  have b := hy.2 t
  by_cases h : t < w
  ·
   simp only [h, decide_true, Bool.true_and]
   revert a b
   cases x.1.testBit t <;> cases y.1.testBit t <;> cases x.2.testBit t <;> cases y.2.testBit t <;> simp
  ·
   rw [hx.hv (by omega), hy.hv (by omega)]; simp [h]
end
theorem kg8 {w : Nat} {x y : K} (hx : KI w x) (hy : KI w y) : (x.1 &&& y.1, (x.2 ^^^ y.2) &&& (x.1 &&& y.1)) = kgate 8 w x y := by
 refine Prod.ext (eq_bval fun t => ?_) (eq_bval fun t => ?_)
 ·
  show (x.1 &&& y.1).testBit t = _
  simp only [Nat.testBit_and, gk]
  rw [if_neg (by decide), if_neg (by decide)]
  by_cases h : t < w
  ·
   simp [h]
  ·
   rw [hx.hi (by omega)]; simp [h]
 ·
  show ((x.2 ^^^ y.2) &&& (x.1 &&& y.1)).testBit t = _
  simp only [Nat.testBit_and, Nat.testBit_xor, gv]
  rw [if_neg (by decide), if_neg (by decide)]
  by_cases h : t < w
  ·
   simp only [h, decide_true, Bool.true_and]
   cases x.1.testBit t <;> cases y.1.testBit t <;> cases x.2.testBit t <;> cases y.2.testBit t <;> rfl
  ·
   rw [hx.hi (by omega)]; simp [h]
theorem kgate_KI {w : Nat} {x y : K} (hx : KI w x) (hy : KI w y) (op : Nat) : KI w (kgate op w x y) := KI_bval fun t _ => by
 unfold gk gv
 split
 ·
  cases x.1.testBit t <;> cases y.1.testBit t <;> cases x.2.testBit t <;> cases y.2.testBit t <;> simp
 ·
  split
  ·
   cases x.1.testBit t <;> cases y.1.testBit t <;> cases x.2.testBit t <;> cases y.2.testBit t <;> simp
  ·
   cases x.1.testBit t <;> cases y.1.testBit t <;> cases x.2.testBit t <;> cases y.2.testBit t <;> simp
/-! ### Sums -/
def preB (f : Nat → Bool) : Nat → Bool
 | 0 => f 0
 | t + 1 => preB f t && f (t + 1)
theorem preB_all {f : Nat → Bool} (t : Nat) : preB f t = true ↔ ∀ s, s ≤ t → f s = true := by
  induction t with
  | zero => exact ⟨fun h s hs => by obtain rfl : s = 0 := by omega
                                    exact h, fun h => h 0 (by omega)⟩
  | succ t ih =>
    show (preB f t && f (t + 1)) = true ↔ _
    rw [Bool.and_eq_true, ih]
    exact ⟨fun ⟨a, b⟩ s hs => by
      by_cases e : s = t + 1
      · rw [e]; exact b
      · exact a s (by omega), fun h => ⟨fun s hs => h s (by omega), h _ (by omega)⟩⟩
def bothB (x y : K) (t : Nat) : Bool := x.1.testBit t && y.1.testBit t
def ksum (w : Nat) (x y : K) : K := (bval w (preB (bothB x y)), bval w fun t => preB (bothB x y) t && (x.2 + y.2).testBit t)
theorem ksum_eq {w n : Nat} {x y : K} (hn : n ≤ w) (h1 : ∀ s, s < n → bothB x y s = true) (h2 : n = w ∨ bothB x y n = false) : (pw n - 1, (x.2 + y.2) % pw n) = ksum w x y := by
 have key : ∀ t, t < w → preB (bothB x y) t = decide (t < n) := fun t ht => by
  by_cases h : t < n
  ·
   rw [decide_eq_true h, preB_all]; exact fun s hs => h1 s (by omega)
  ·
   rw [decide_eq_false h]
   cases q : preB (bothB x y) t with
   | false => rfl
   | true =>
    have := (preB_all t).1 q n (by omega)
    rcases h2 with h2 | h2
    ·
     omega
    ·
     rw [h2] at this; cases this
 refine Prod.ext (eq_bval fun t => ?_) (eq_bval fun t => ?_)
 ·
  show (pw n - 1).testBit t = _
  rw [pwm_bit]
  by_cases h : t < w
  ·
   rw [key t h]; simp [h]
  ·
   have : ¬ t < n := by omega
   simp [h, this]
 ·
  show ((x.2 + y.2) % pw n).testBit t = _
  rw [show (x.2 + y.2) % pw n = (x.2 + y.2) % 2 ^ n from rfl, Nat.testBit_mod_two_pow]
  by_cases h : t < w
  ·
   rw [key t h]; simp [h]
  ·
   have : ¬ t < n := by omega
   simp [h, this]
theorem ksum_KI (w : Nat) (x y : K) : KI w (ksum w x y) := KI_bval fun t _ h => by
 simp only [Bool.and_eq_true] at h; exact h.1
/-! ### Moves, comparisons, choices -/
def kmv (op w : Nat) (x : K) (by_ : Nat) : K := (bval w fun t => if op = 9 then (if by_ < w then decide (t < by_) || x.1.testBit (t - by_) else true) else (if by_ < w then decide (w ≤ t + by_) || x.1.testBit (t + by_) else true),
  bval w fun t => if op = 9 then decide (by_ < w) && decide (by_ ≤ t) && x.1.testBit (t - by_) && x.2.testBit (t - by_) else decide (by_ < w) && decide (t + by_ < w) && x.1.testBit (t + by_) && x.2.testBit (t + by_))
theorem kmv_far {op w by_ : Nat} {x : K} (h : w ≤ by_) : (pw w - 1, 0) = kmv op w x by_ := by
 have hn : ¬ by_ < w := by omega
 refine Prod.ext (eq_bval fun t => ?_) (eq_bval fun t => ?_)
 ·
  show (pw w - 1).testBit t = _
  rw [pwm_bit]; simp [hn]
 ·
  show (0 : Nat).testBit t = _
  rw [Nat.zero_testBit]; simp [hn]
theorem shl64_bit {a b t : Nat} (ht : t < 64) : (a * pw b % 18446744073709551616).testBit t = (decide (b ≤ t) && a.testBit (t - b)) := by
 rw [show a * pw b % 18446744073709551616 = a * 2 ^ b % 2 ^ 64 from rfl, Nat.testBit_mod_two_pow, decide_eq_true ht, Bool.true_and, ← Nat.shiftLeft_eq, Nat.testBit_shiftLeft]
theorem shr_bit {a b t : Nat} : (a / pw b).testBit t = a.testBit (t + b) := by
 rw [show a / pw b = a / 2 ^ b from rfl, Nat.testBit_div_two_pow]
theorem kmv9 {w by_ : Nat} {x : K} (hx : KI w x) (hw : w ≤ 64) (h : by_ < w) : ((x.1 * pw by_ % 18446744073709551616 ||| (pw by_ - 1)) &&& (pw w - 1), (x.2 * pw by_ % 18446744073709551616) &&& (pw w - 1)) = kmv 9 w x by_ := by
 refine Prod.ext (eq_bval fun t => ?_) (eq_bval fun t => ?_)
 ·
  show ((x.1 * pw by_ % 18446744073709551616 ||| (pw by_ - 1)) &&& (pw w - 1)).testBit t = _
  rw [Nat.testBit_and, Nat.testBit_or, pwm_bit, pwm_bit]
  by_cases ht : t < w
  ·
   rw [shl64_bit (by omega)]
   simp only [ht, h, decide_true, Bool.and_true, Bool.true_and, if_true]
   by_cases q : t < by_
   ·
    simp [q]
   ·
    have : by_ ≤ t := by omega
    simp [q, this]
  ·
   simp [ht]
 ·
  show ((x.2 * pw by_ % 18446744073709551616) &&& (pw w - 1)).testBit t = _
  rw [Nat.testBit_and, pwm_bit]
  by_cases ht : t < w
  ·
   rw [shl64_bit (by omega)]
   have a := hx.2 (t - by_)
   simp only [ht, h, decide_true, Bool.and_true, Bool.true_and, if_true]
   revert a
   cases x.1.testBit (t - by_) <;> cases x.2.testBit (t - by_) <;> simp
  ·
   simp [ht]
theorem kmv10 {w by_ : Nat} {x : K} (hx : KI w x) (hw : w ≤ 64) (h : by_ < w) : (x.1 / pw by_ ||| andn (pw w - 1) ((pw w - 1) / pw by_), x.2 / pw by_) = kmv 10 w x by_ := by
 refine Prod.ext (eq_bval fun t => ?_) (eq_bval fun t => ?_)
 ·
  show (x.1 / pw by_ ||| andn (pw w - 1) ((pw w - 1) / pw by_)).testBit t = _
  rw [Nat.testBit_or, andn_bit, shr_bit, shr_bit, pwm_bit, pwm_bit]
  rw [if_neg (by decide), if_pos h]
  by_cases ht : t < w
  ·
   simp only [ht, decide_true, Bool.true_and]
   by_cases q : t + by_ < w
   ·
    have : ¬ w ≤ t + by_ := by omega
    simp [q, this]
   ·
    have : w ≤ t + by_ := by omega
    simp [q, this]
  ·
   rw [hx.hi (by omega)]; simp [ht]
 ·
  show (x.2 / pw by_).testBit t = _
  rw [shr_bit, if_neg (by decide)]
  have a := hx.2 (t + by_)
  by_cases ht : t < w
  ·
   by_cases q : t + by_ < w
   ·
    simp only [ht, q, h, decide_true, Bool.true_and]
    revert a
    cases x.1.testBit (t + by_) <;> cases x.2.testBit (t + by_) <;> simp
   ·
    rw [hx.hv (by omega)]; simp [q]
  ·
   rw [hx.hv (by omega)]; simp [ht]
theorem kmv_KI (op w : Nat) (x : K) (by_ : Nat) : KI w (kmv op w x by_) := KI_bval fun t ht h => by
 split at h
 ·
  rename_i q
  rw [if_pos q]
  simp only [Bool.and_eq_true, decide_eq_true_eq] at h
  rw [if_pos h.1.1.1, h.1.2]; simp
 ·
  rename_i q
  rw [if_neg q]
  simp only [Bool.and_eq_true, decide_eq_true_eq] at h
  rw [if_pos h.1.1.1, h.1.2]; simp
def kdiff (x y : K) (t : Nat) : Bool := x.1.testBit t && y.1.testBit t && (x.2.testBit t != y.2.testBit t)
def keq (w : Nat) (x y : K) : K := if bval w (kdiff x y) ≠ 0 then (1, 0) else if bval w (bothB x y) = pw w - 1 then (1, 1) else (0, 0)
theorem keq_KI (w : Nat) (x y : K) : KI 1 (keq w x y) := by
 unfold keq
 split
 ·
  exact ⟨by decide, fun t h => by rw [Nat.zero_testBit] at h; cases h⟩
 ·
  split
  ·
   exact ⟨by decide, fun t h => h⟩
  ·
   exact ⟨by decide, fun t h => h⟩
theorem keq_d {w : Nat} {x y : K} (hx : KI w x) : (x.2 ^^^ y.2) &&& (x.1 &&& y.1) = bval w (kdiff x y) := eq_bval fun t => by
 simp only [Nat.testBit_and, Nat.testBit_xor, kdiff]
 by_cases h : t < w
 ·
  simp only [h, decide_true, Bool.true_and]
  cases x.1.testBit t <;> cases y.1.testBit t <;> cases x.2.testBit t <;> cases y.2.testBit t <;> rfl
 ·
  rw [hx.hi (by omega)]; simp [h]
theorem keq_b {w : Nat} {x y : K} (hx : KI w x) : x.1 &&& y.1 = bval w (bothB x y) := eq_bval fun t => by
 simp only [Nat.testBit_and, bothB]
 by_cases h : t < w
 ·
  simp [h]
 ·
  rw [hx.hi (by omega)]; simp [h]
def ksame (w : Nat) (x y : K) : K := (bval w fun t => x.1.testBit t && y.1.testBit t && (x.2.testBit t == y.2.testBit t), bval w fun t => x.1.testBit t && y.1.testBit t && (x.2.testBit t == y.2.testBit t) && x.2.testBit t)
theorem ksame_eq {w : Nat} {x y : K} (hx : KI w x) : (andn (x.1 &&& y.1) (x.2 ^^^ y.2), x.2 &&& andn (x.1 &&& y.1) (x.2 ^^^ y.2)) = ksame w x y := by
 refine Prod.ext (eq_bval fun t => ?_) (eq_bval fun t => ?_)
 ·
  show (andn (x.1 &&& y.1) (x.2 ^^^ y.2)).testBit t = _
  simp only [andn_bit, Nat.testBit_and, Nat.testBit_xor]
  by_cases h : t < w
  ·
   simp only [h, decide_true, Bool.true_and]
   cases x.1.testBit t <;> cases y.1.testBit t <;> cases x.2.testBit t <;> cases y.2.testBit t <;> rfl
  ·
   rw [hx.hi (by omega)]; simp [h]
 ·
  show (x.2 &&& andn (x.1 &&& y.1) (x.2 ^^^ y.2)).testBit t = _
  simp only [andn_bit, Nat.testBit_and, Nat.testBit_xor]
  by_cases h : t < w
  ·
   simp only [h, decide_true, Bool.true_and]
   cases x.1.testBit t <;> cases y.1.testBit t <;> cases x.2.testBit t <;> cases y.2.testBit t <;> rfl
  ·
   rw [hx.hi (by omega)]; simp [h]
theorem ksame_KI (w : Nat) (x y : K) : KI w (ksame w x y) := KI_bval fun t _ h => by
 simp only [Bool.and_eq_true] at h ⊢; exact h.1
def kite (w : Nat) (c x y : K) : K := if c.1.testBit 0 = true ∧ c.2.testBit 0 = true then x else if c.1.testBit 0 = true then y else ksame w x y
/-- Some bits from one on; what is above the width is known or not, and what it is. -/
def kpart (w fr wide : Nat) (x : K) (ab is : Bool) : K := (bval w fun t => if wide ≤ fr + t then ab else x.1.testBit (fr + t), bval w fun t => if wide ≤ fr + t then ab && is else x.1.testBit (fr + t) && x.2.testBit (fr + t))
theorem kpart_KI (w fr wide : Nat) (x : K) (ab is : Bool) : KI w (kpart w fr wide x ab is) := KI_bval fun t _ h => by
 split at h
 ·
  rename_i q; rw [if_pos q]; simp only [Bool.and_eq_true] at h; exact h.1
 ·
  rename_i q; rw [if_neg q]; simp only [Bool.and_eq_true] at h; exact h.1
theorem kext_eq {w lo wide : Nat} {x : K} (hx : KI wide x) (h : lo + w ≤ wide) : ((x.1 / pw lo) &&& (pw w - 1), (x.2 / pw lo) &&& (pw w - 1)) = kpart w lo wide x false false := by
 refine Prod.ext (eq_bval fun t => ?_) (eq_bval fun t => ?_)
 ·
  show ((x.1 / pw lo) &&& (pw w - 1)).testBit t = _
  rw [Nat.testBit_and, pwm_bit, shr_bit]
  by_cases ht : t < w
  ·
   rw [if_neg (by omega), Nat.add_comm]; simp [ht]
  ·
   simp [ht]
 ·
  show ((x.2 / pw lo) &&& (pw w - 1)).testBit t = _
  rw [Nat.testBit_and, pwm_bit, shr_bit]
  by_cases ht : t < w
  ·
   rw [if_neg (by omega), Nat.add_comm]
   have a := hx.2 (lo + t)
   simp only [ht, decide_true, Bool.and_true, Bool.true_and]
   revert a
   cases x.1.testBit (lo + t) <;> cases x.2.testBit (lo + t) <;> simp
  ·
   simp [ht]
theorem kz_eq {w wide : Nat} {x : K} (hx : KI wide x) (h : wide ≤ w) : (x.1 ||| andn (pw w - 1) (pw wide - 1), x.2) = kpart w 0 wide x true false := by
 refine Prod.ext (eq_bval fun t => ?_) (eq_bval fun t => ?_)
 ·
  show (x.1 ||| andn (pw w - 1) (pw wide - 1)).testBit t = _
  rw [Nat.testBit_or, andn_bit, pwm_bit, pwm_bit, Nat.zero_add]
  by_cases q : wide ≤ t
  ·
   rw [if_pos q, hx.hi q]
   have : ¬ t < wide := by omega
   simp [this]
  ·
   rw [if_neg q]
   have h1 : t < wide := by omega
   have h2 : t < w := by omega
   simp [h1, h2]
 ·
  show x.2.testBit t = _
  rw [Nat.zero_add]
  by_cases q : wide ≤ t
  ·
   rw [if_pos q, hx.hv q]; simp
  ·
   rw [if_neg q]
   have h2 : t < w := by omega
   have a := hx.2 t
   simp only [h2, decide_true, Bool.true_and]
   revert a
   cases x.1.testBit t <;> cases x.2.testBit t <;> simp
theorem ks_eq {w wide : Nat} {x : K} (hx : KI wide x) (h : wide ≤ w) (hp : 1 ≤ wide) : (if (x.1.testBit (wide - 1) && !x.2.testBit (wide - 1)) = true then (x.1 ||| andn (pw w - 1) (pw wide - 1), x.2) else if x.2.testBit (wide - 1) = true then (x.1 ||| andn (pw w - 1) (pw wide - 1), x.2 ||| andn (pw w - 1) (pw wide - 1)) else x) = kpart w 0 wide x (x.1.testBit (wide - 1)) (x.2.testBit (wide - 1)) := by
 have a := hx.2 (wide - 1)
 have b1 : ∀ t, (andn (pw w - 1) (pw wide - 1)).testBit t = (decide (t < w) && decide (wide ≤ t)) := fun t => by
  rw [andn_bit, pwm_bit, pwm_bit]
  by_cases q : t < wide
  ·
   have : ¬ wide ≤ t := by omega
   simp [q, this]
  ·
   have : wide ≤ t := by omega
   simp [q, this]
 have c1 : ∀ t, x.1.testBit t = (decide (t < wide) && x.1.testBit t) := fun t => by
  by_cases q : t < wide
  ·
   simp [q]
  ·
   rw [hx.hi (by omega)]; simp
 have c2 : ∀ t, x.2.testBit t = (decide (t < wide) && (x.1.testBit t && x.2.testBit t)) := fun t => by
  by_cases q : t < wide
  ·
   have a := hx.2 t
   revert a
   cases x.1.testBit t <;> cases x.2.testBit t <;> simp [q]
  ·
   rw [hx.hv (by omega)]; simp
 cases h1 : x.1.testBit (wide - 1) <;> cases h2 : x.2.testBit (wide - 1)
 ·
  simp only [Bool.false_and, Bool.false_eq_true, if_false]
  refine Prod.ext (eq_bval fun t => ?_) (eq_bval fun t => ?_)
  ·
   show x.1.testBit t = _
   rw [Nat.zero_add, c1 t]
   by_cases q : wide ≤ t
   ·
    have : ¬ t < wide := by omega
    simp [q, this]
   ·
    have e1 : t < wide := by omega
    have e2 : t < w := by omega
    simp [q, e1, e2]
  ·
   show x.2.testBit t = _
   rw [Nat.zero_add, c2 t]
   by_cases q : wide ≤ t
   ·
    have : ¬ t < wide := by omega
    simp [q, this]
   ·
    have e1 : t < wide := by omega
    have e2 : t < w := by omega
    simp [q, e1, e2]
 ·
  have := a h2; rw [h1] at this; cases this
 ·
  simp only [Bool.not_false, Bool.and_true, if_true]
  refine Prod.ext (eq_bval fun t => ?_) (eq_bval fun t => ?_)
  ·
   show (x.1 ||| andn (pw w - 1) (pw wide - 1)).testBit t = _
   rw [Nat.testBit_or, b1, Nat.zero_add, c1 t]
   by_cases q : wide ≤ t
   ·
    have : ¬ t < wide := by omega
    simp [q, this]
   ·
    have e1 : t < wide := by omega
    have e2 : t < w := by omega
    simp [q, e1, e2]
  ·
   show x.2.testBit t = _
   rw [Nat.zero_add, c2 t]
   by_cases q : wide ≤ t
   ·
    have : ¬ t < wide := by omega
    simp [q, this]
   ·
    have e1 : t < wide := by omega
    have e2 : t < w := by omega
    simp [q, e1, e2]
 ·
  simp only [Bool.not_true, Bool.and_false, Bool.false_eq_true, if_false, if_true]
  refine Prod.ext (eq_bval fun t => ?_) (eq_bval fun t => ?_)
  ·
   show (x.1 ||| andn (pw w - 1) (pw wide - 1)).testBit t = _
   rw [Nat.testBit_or, b1, Nat.zero_add, c1 t]
   by_cases q : wide ≤ t
   ·
    have : ¬ t < wide := by omega
    simp [q, this]
   ·
    have e1 : t < wide := by omega
    have e2 : t < w := by omega
    simp [q, e1, e2]
  ·
   show (x.2 ||| andn (pw w - 1) (pw wide - 1)).testBit t = _
   rw [Nat.testBit_or, b1, Nat.zero_add, c2 t]
   by_cases q : wide ≤ t
   ·
    have : ¬ t < wide := by omega
    simp [q, this]
   ·
    have e1 : t < wide := by omega
    have e2 : t < w := by omega
    simp [q, e1, e2]
/-! ### A term's -/
def kone (O W wide up : Nat) (x y z : K) (lo V : Nat) (cst : Option Nat) : K :=
 if O = 20 then (pw W - 1, V) else if O = 15 then (x.1, andn x.1 x.2) else if O = 6 ∨ O = 7 ∨ O = 8 then kgate O wide x y else if O = 1 then ksum wide x y else if O = 12 then keq wide x y
 else if O = 9 ∨ O = 10 then (match cst with | some by_ => kmv O wide x by_ | none => (0, 0)) else if O = 22 then kite W x y z else if O = 23 then kpart W lo wide x false false
 else if O = 24 then (x.1 * pw up % 18446744073709551616 ||| y.1, x.2 * pw up % 18446744073709551616 ||| y.2) else if O = 25 then kpart W 0 wide x true false
 else if O = 26 then kpart W 0 wide x (x.1.testBit (wide - 1)) (x.2.testBit (wide - 1)) else (0, 0)
theorem both_bit (x y : K) (i : Nat) : ((x.1 &&& y.1) / pw i &&& 1) = (bothB x y i).toNat := by
 rw [Nat.and_one_is_mod]
 have h := bit_div (x.1 &&& y.1) i
 rw [Nat.testBit_and] at h
 unfold bothB
 cases q : (x.1.testBit i && y.1.testBit i) with
 | true => have := h.2 q; simp only [Bool.toNat_true]; omega
 | false =>
  have : ¬ ((x.1 &&& y.1) / pw i % 2 = 1) := fun e => by have := h.1 e; rw [q] at this; cases this
  simp only [Bool.toNat_false]; omega
theorem both_f {x y : K} {i : Nat} (h : (((x.1 &&& y.1) / pw i &&& 1 : Nat) : Int) = 0) : bothB x y i = false := by
 rw [both_bit] at h
 cases q : bothB x y i with
 | false => rfl
 | true => rw [q] at h; simp at h
theorem both_t {x y : K} {i : Nat} (h : (((x.1 &&& y.1) / pw i &&& 1 : Nat) : Int) ≠ 0) : bothB x y i = true := by
 rw [both_bit] at h
 cases q : bothB x y i with
 | true => rfl
 | false => rw [q] at h; simp at h
theorem sum_fin {n s : Nat} (hn : n ≤ 64) : (s % 18446744073709551616) &&& (pw n - 1) = s % pw n := by
 rw [cut_and]
 unfold cutN
 have hd : pw n ∣ 18446744073709551616 := by
  have : pw n ∣ 2 ^ 64 := Nat.pow_dvd_pow 2 hn
  exact this
 exact Nat.mod_mod_of_dvd _ hd
def kV (k : K) : Value := .agg #[.int .u64 ((k.1 : Nat) : Int), .int .u64 ((k.2 : Nat) : Int)]
theorem top_bit (z i : Nat) : (((z &&& pw i : Nat) : Int) ≠ 0) ↔ z.testBit i = true := by
 have e : z &&& pw i = if z.testBit i = true then pw i else 0 := by
  apply Nat.eq_of_testBit_eq
  intro t
  rw [Nat.testBit_and, show (pw i).testBit t = decide (i = t) from Nat.testBit_two_pow]
  by_cases h : i = t
  ·
   subst h
   cases q : z.testBit i
   ·
    simp
   ·
    simp only [if_true, decide_true, Bool.and_true]; rw [show pw i = 2 ^ i from rfl, Nat.testBit_two_pow_self]
  ·
   split
   ·
    rw [show (pw i).testBit t = decide (i = t) from Nat.testBit_two_pow]; simp [h]
   ·
    simp [h]
 rw [e]
 have hp := pw_pos i
 split
 ·
  rename_i q; simp only [q, iff_true]; omega
 ·
  rename_i q; simp [q]
/-! ### The same, as the document's loops tell them -/
theorem bit_eqN (x i : Nat) : (((x / pw i % 2 : Nat) : Int) == 1) = x.testBit i := by
 rw [← bitB]
 rcases (show x / pw i % 2 = 0 ∨ x / pw i % 2 = 1 by omega) with h | h
 ·
  rw [h]; rfl
 ·
  rw [h]; rfl
section
variable {w by_ t fr : Nat} {x : K}
end
end Go.Proofs.YtlbadnpgmkobdaaV

set_option linter.unusedVariables false
set_option linter.unusedSimpArgs false
namespace Go.Proofs.YtlbadnpgmkobdaaV
open Go Go.RowKit Go.Proofs
def kcl (k : K) : List Value := [.int .u64 ((k.1 : Nat) : Int), .int .u64 ((k.2 : Nat) : Int)]
def kcs (l : List K) : List Value := l.flatMap kcl
theorem kcs_length (l : List K) : (kcs l).length = l.length * 2 := by
 induction l with
 | nil => rfl
 | cons x l ih => unfold kcs at *; simp only [List.flatMap_cons, List.length_append, ih, List.length_cons]; simp [kcl]; omega
theorem kcs_app (l m : List K) : kcs (l ++ m) = kcs l ++ kcs m := by simp [kcs]
def kg (l : List K) (i : Nat) : K := l.getD i (0, 0)
theorem kcs_part (l : List K) {i : Nat} (hi : i < l.length) : ∀ j u, (kcl (kg l i))[j]? = some u → (kcs l)[i * 2 + j]? = some u := by
 induction l generalizing i with
 | nil => simp at hi
 | cons x l ih =>
  intro j u hj
  have hc : kcs (x :: l) = kcl x ++ kcs l := by simp [kcs]
  cases i with
  | zero =>
   have h2 : j < 2 := by
    rcases Nat.lt_or_ge j 2 with q | q
    ·
     exact q
    ·
     rw [List.getElem?_eq_none (by simpa [kcl] using q)] at hj; cases hj
   rw [hc, List.getElem?_append_left (by simp [kcl]; omega)]
   simpa [kg] using hj
  | succ i =>
   have e : (i + 1) * 2 + j = (kcl x).length + (i * 2 + j) := by simp [kcl]; omega
   rw [hc, e, List.getElem?_append_right (by omega), Nat.add_sub_cancel_left]
   exact ih (i := i) (by simpa using hi) j u (by simpa [kg] using hj)
theorem kg_app_lt {l : List K} {x : K} {i : Nat} (h : i < l.length) : kg (l ++ [x]) i = kg l i := by unfold kg; simp [List.getD_eq_getElem?_getD, List.getElem?_append_left h]
theorem kg_app_eq {l : List K} {x : K} : kg (l ++ [x]) l.length = x := by unfold kg; simp [List.getD_eq_getElem?_getD]
/-- A node's known bits, of those of all ahead. -/
def cstN (N : List Nd) (n : Nd) : Option Nat := if nO (nth N (nB n).toNat) = 20 then some (nV (nth N (nB n).toNat)).toNat else none
def konN (N : List Nd) (l : List K) (n : Nd) : K := kone (nO n).toNat (nW n).toNat (widF N (nA n)).toNat (widF N (nB n)).toNat (kg l (nA n).toNat) (kg l (nB n).toNat) (kg l (nC n).toNat) (nB n).toNat (nV n).toNat (cstN N n)
def kl (N : List Nd) : Nat → List K
 | 0 => []
 | i + 1 => kl N i ++ [konN N (kl N i) (nth N i)]
theorem kl_length (N : List Nd) (i : Nat) : (kl N i).length = i := by
 induction i with
 | zero => rfl
 | succ i ih => show (kl N i ++ [_]).length = _; rw [List.length_append, ih]; rfl
theorem kl_kg {N : List Nd} {i j : Nat} (h : i < j) : kg (kl N j) i = konN N (kl N i) (nth N i) := by
 induction j with
 | zero => omega
 | succ j ih =>
  show kg (kl N j ++ [konN N (kl N j) (nth N j)]) i = _
  by_cases e : i = j
  ·
   subst e
   have := kg_app_eq (l := kl N i) (x := konN N (kl N i) (nth N i))
   rw [kl_length] at this
   exact this
  ·
   rw [kg_app_lt (by rw [kl_length]; omega)]
   exact ih (by omega)
/-! ### None is known above the width -/
theorem KI_zero (w : Nat) : KI w (0, 0) := ⟨by have := pw_pos w; show 0 < pw w; omega, fun t h => by rw [Nat.zero_testBit] at h; cases h⟩
theorem KI_not {w : Nat} {x : K} (h : KI w x) : KI w (x.1, andn x.1 x.2) := ⟨h.1, fun t ht => by
 have : (andn x.1 x.2).testBit t = true := ht
 rw [andn_bit, Bool.and_eq_true] at this; exact this.1⟩
theorem KI_const {w V : Nat} (h : V < pw w) : KI w (pw w - 1, V) := ⟨by have := pw_pos w; show pw w - 1 < pw w; omega, fun t ht => by
 show (pw w - 1).testBit t = true
 rw [pwm_bit]
 cases q : decide (t < w) with
 | true => rfl
 | false =>
  have : V.testBit t = false := Nat.testBit_lt_two_pow (Nat.lt_of_lt_of_le h (Nat.pow_le_pow_right (n := 2) (by decide) (by have := of_decide_eq_false q; omega)))
  have ht' : V.testBit t = true := ht
  rw [this] at ht'; cases ht'⟩
theorem cat_mod {a wa up : Nat} (h : a < pw wa) (hw : wa + up ≤ 64) : a * pw up % 18446744073709551616 = a * pw up ∧ a * pw up < pw (wa + up) := by
 have e : pw (wa + up) = pw wa * pw up := Nat.pow_add 2 wa up
 have h1 : a * pw up < pw (wa + up) := by rw [e]; exact Nat.mul_lt_mul_of_pos_right h (pw_pos up)
 exact ⟨Nat.mod_eq_of_lt (Nat.lt_of_lt_of_le h1 (pw64 hw)), h1⟩
theorem KI_cat {wa up : Nat} {x y : K} (hx : KI wa x) (hy : KI up y) (hw : wa + up ≤ 64) : KI (wa + up) (x.1 * pw up % 18446744073709551616 ||| y.1, x.2 * pw up % 18446744073709551616 ||| y.2) := by
 obtain ⟨e1, l1⟩ := cat_mod hx.1 hw
 obtain ⟨e2, l2⟩ := cat_mod hx.lt2 hw
 rw [e1, e2]
 refine ⟨Nat.or_lt_two_pow l1 (Nat.lt_of_lt_of_le hy.1 (Nat.pow_le_pow_right (n := 2) (by decide) (by omega))), fun t ht => ?_⟩
 show (x.1 * 2 ^ up ||| y.1).testBit t = true
 have ht' : (x.2 * 2 ^ up ||| y.2).testBit t = true := ht
 rw [Nat.testBit_or, ← Nat.shiftLeft_eq, Nat.testBit_shiftLeft, Bool.or_eq_true, Bool.and_eq_true] at ht' ⊢
 exact ht'.imp (fun q => ⟨q.1, hx.2 _ q.2⟩) (hy.2 t)
theorem kite_KI {w : Nat} {c x y : K} (hx : KI w x) (hy : KI w y) : KI w (kite w c x y) := by
 unfold kite
 split
 ·
  exact hx
 ·
  split
  ·
   exact hy
  ·
   exact ksame_KI w x y
theorem wid_nth {N : List Nd} {i : Nat} {x : Int} (h : pt i x) (hi : i ≤ N.length) : widF N x = nW (nth N x.toNat) := by
 unfold widF; rw [if_pos ⟨h.1, by have := h.2; omega⟩]
theorem konN_KI {N : List Nd} {l : List K} {i : Nat} {n : Nd} (h : NdW N i n) (hw : 1 ≤ nW n ∧ nW n ≤ 64) (hi : i ≤ N.length) (hws : ∀ x, pt i x → 1 ≤ widF N x ∧ widF N x ≤ 64) (hl : ∀ j, j < i → KI (nW (nth N j)).toNat (kg l j)) : KI (nW n).toNat (konN N l n) := by
  have arg : ∀ x, pt i x → KI (widF N x).toNat (kg l x.toNat) := fun x p => by
    rw [wid_nth p hi]; exact hl _ (by have := p.1; have := p.2; omega)
  unfold konN
  generalize hc : cstN N n = cst
  rcases h with h | h | ⟨h, a, e⟩ | ⟨h, a, b, e, e2⟩ | ⟨h, a, b, c, e, e2, e3⟩ | ⟨h, a, b, e⟩ | ⟨h, a, b, e⟩ | ⟨h, a, e⟩
  · rw [show (nO n).toNat = 20 by omega]
    exact KI_const (by have h1 := h.2.1; have h2 := h.2.2; have e : ((pw (nW n).toNat : Nat) : Int) = 2 ^ (nW n).toNat := by (unfold pw; simp)
                       rw [← e] at h2; omega)
  · rw [show (nO n).toNat = 21 by omega]; exact KI_zero _
  · rcases h with h | h
    · rw [show (nO n).toNat = 15 by omega, e]; exact KI_not (arg _ a)
    · rw [show (nO n).toNat = 16 by omega]; exact KI_zero _
  · have hx := arg _ a
    have hy := arg _ b
    rw [← e] at hy
    have ho : nO n = 1 ∨ nO n = 2 ∨ nO n = 3 ∨ nO n = 4 ∨ nO n = 5 ∨ nO n = 6 ∨ nO n = 7 ∨ nO n = 8 ∨ nO n = 9 ∨ nO n = 10 ∨ nO n = 11 ∨ nO n = 12 ∨ nO n = 13 ∨ nO n = 14 := by omega
    rcases ho with o | o | o | o | o | o | o | o | o | o | o | o | o | o <;> rw [e2, o]
    · exact ksum_KI _ _ _
    · exact KI_zero _
    · exact KI_zero _
    · exact KI_zero _
    · exact KI_zero _
    · exact kgate_KI hx hy 6
    · exact kgate_KI hx hy 7
    · exact kgate_KI hx hy 8
    · cases cst with
      | none => exact KI_zero _
      | some z => exact kmv_KI 9 _ _ _
    · cases cst with
      | none => exact KI_zero _
      | some z => exact kmv_KI 10 _ _ _
    · exact KI_zero _
    · exact keq_KI _ _ _
    · exact KI_zero _
    · exact KI_zero _
  · rw [show (nO n).toNat = 22 by omega]
    have hy := arg _ b
    have hz := arg _ c
    rw [← e2] at hz
    rw [e3]
    exact kite_KI hy hz
  · rw [show (nO n).toNat = 23 by omega]; exact kpart_KI _ _ _ _ _ _
  · rw [show (nO n).toNat = 24 by omega]
    have p1 := arg _ a
    have p2 := arg _ b
    have w1 := hws _ a
    have w2 := hws _ b
    have ew : (nW n).toNat = (widF N (nA n)).toNat + (widF N (nB n)).toNat := by omega
    rw [ew]
    exact KI_cat p1 p2 (by omega)
  · rcases h with h | h
    · rw [show (nO n).toNat = 25 by omega]; exact kpart_KI _ _ _ _ _ _
    · rw [show (nO n).toNat = 26 by omega]; exact kpart_KI _ _ _ _ _ _
theorem kl_KI {N : List Nd} {most : Int} (hJ : TJ N most) (hB : TB N) : ∀ i j, i < j → i < N.length → KI (nW (nth N i)).toNat (kg (kl N j) i) := by
 intro i
 induction i using Nat.strongRecOn with
 | _ i ih =>
  intro j hij hi
  rw [kl_kg hij]
  exact konN_KI (hB i hi) (hJ.wr _ (nth_mem hi)) (by omega) (fun x p => hJ.wid p.1 (by have := p.2; omega)) (fun q hq => ih q hq i hq (by omega))
end Go.Proofs.YtlbadnpgmkobdaaV

set_option linter.unusedVariables false
set_option linter.unusedSimpArgs false
namespace Go.Proofs.YtlbadnpgmkobdaaV
open Go Go.RowKit Go.Proofs
/-- A word that is moved. -/
def mvB (up : Bool) (m : Nat) (A : Nat → Bool) (fl : Bool) (s j : Nat) : Bool := if up = true then (if s ≤ j then A (j - s) else fl) else (if j + s < m then A (j + s) else fl)
def mvR (w a : Nat) (sh : Int) (fl : Bool) (i : Nat) : Bool := if (w : Int) ≤ (i : Int) - sh then fl else if 0 ≤ (i : Int) - sh then a.testBit ((i : Int) - sh).toNat else false
theorem mvR_up {w a b i : Nat} (hi : i < w) (hw : w ≤ 64) (s : Int) (hs : s = if b < 64 then (b : Int) else 64) : mvR w a s false i = mvB true w (fun j => a.testBit j) false b i := by
 unfold mvR mvB
 rw [if_pos rfl]
 by_cases h : b ≤ i
 ·
  rw [if_pos (by omega) (c := b < 64)] at hs
  rw [if_neg (by omega), if_pos (by omega), if_pos h]
  congr 1; omega
 ·
  have : i < s.toNat := by split at hs <;> omega
  rw [if_neg (by split at hs <;> omega), if_neg (by split at hs <;> omega), if_neg h]
theorem mvR_dn {w a b i : Nat} (hi : i < w) (hw : w ≤ 64) (fl : Bool) (s : Int) (hs : s = if b < 64 then (b : Int) else 64) : mvR w a (-s) fl i = mvB false w (fun j => a.testBit j) fl b i := by
 unfold mvR mvB
 simp only [Bool.false_eq_true, if_false]
 by_cases h : i + b < w
 ·
  rw [if_pos (by omega) (c := b < 64)] at hs
  rw [if_neg (by omega), if_pos (by omega), if_pos h]
  congr 1; omega
 ·
  rw [if_pos (by split at hs <;> omega), if_neg h]
theorem mvR_dn' {w a b i : Nat} (hi : i < w) (hw : w ≤ 64) (fl : Bool) (s : Int) (hs : s = 0 - (if b < 64 then (b : Int) else 64)) : mvR w a s fl i = mvB false w (fun j => a.testBit j) fl b i := by
 rw [show s = -(if b < 64 then (b : Int) else 64) by omega]
 exact mvR_dn hi hw fl _ rfl
/-- The known bits are the value's. -/
def Snd (x : K) (v : Nat) : Prop := ∀ t, x.1.testBit t = true → v.testBit t = x.2.testBit t
theorem Snd_zero (v : Nat) : Snd (0, 0) v := fun t h => by rw [show ((0, 0) : K).1 = 0 from rfl, Nat.zero_testBit] at h; cases h
theorem Snd.and {w : Nat} {x : K} {v : Nat} (h : Snd x v) (hx : KI w x) : v &&& x.1 = x.2 := Nat.eq_of_testBit_eq fun t => by
 rw [Nat.testBit_and]
 have a := h t
 have b := hx.2 t
 revert a b
 cases x.1.testBit t <;> cases x.2.testBit t <;> simp
theorem hi_bit {v w t : Nat} (h : v < pw w) (ht : w ≤ t) : v.testBit t = false := Nat.testBit_lt_two_pow (Nat.lt_of_lt_of_le h (Nat.pow_le_pow_right (n := 2) (by decide) ht))
section
variable {w : Nat} {x y : K} {v u : Nat} (hx : Snd x v) (hy : Snd y u)
include hx hy
theorem snd_6 : Snd (kgate 6 w x y) (v &&& u) := fun t h => by
 have a := hx t
 have b := hy t
 simp only [kgate, bval_bit, gk, gv, if_true, Nat.testBit_and] at h ⊢
 revert a b h
 cases decide (t < w) <;> cases x.1.testBit t <;> cases y.1.testBit t <;> cases x.2.testBit t <;> cases y.2.testBit t <;> cases v.testBit t <;> cases u.testBit t <;> simp
theorem snd_7 : Snd (kgate 7 w x y) (v ||| u) := fun t h => by
 have a := hx t
 have b := hy t
 simp only [kgate, bval_bit, gk, gv, if_true, Nat.testBit_or, if_neg (show ¬ (7 : Nat) = 6 by decide)] at h ⊢
 revert a b h
 cases decide (t < w) <;> cases x.1.testBit t <;> cases y.1.testBit t <;> cases x.2.testBit t <;> cases y.2.testBit t <;> cases v.testBit t <;> cases u.testBit t <;> simp
theorem snd_8 : Snd (kgate 8 w x y) (v ^^^ u) := fun t h => by
 have a := hx t
 have b := hy t
 simp only [kgate, bval_bit, gk, gv, Nat.testBit_xor, if_neg (show ¬ (8 : Nat) = 6 by decide), if_neg (show ¬ (8 : Nat) = 7 by decide)] at h ⊢
 revert a b h
 cases decide (t < w) <;> cases x.1.testBit t <;> cases y.1.testBit t <;> cases x.2.testBit t <;> cases y.2.testBit t <;> cases v.testBit t <;> cases u.testBit t <;> simp
theorem snd_sum : Snd (ksum w x y) (cutN w ((v + u) % 18446744073709551616)) ∨ ¬ w ≤ 64 := by
 rcases Nat.lt_or_ge 64 w with hw | hw
 ·
  exact .inr (by omega)
 refine .inl fun t h => ?_
 simp only [ksum, bval_bit, Bool.and_eq_true, decide_eq_true_eq] at h ⊢
 obtain ⟨ht, hp⟩ := h
 have hall := (preB_all t).1 hp
 rw [hp, cut_bit, decide_eq_true ht]
 have low : ∀ {z : K} {q : Nat}, Snd z q → (∀ s, s ≤ t → z.1.testBit s = true) → q % pw (t + 1) = z.2 % pw (t + 1) := fun {z q} hz hs => Nat.eq_of_testBit_eq fun s => by
  show (q % 2 ^ (t + 1)).testBit s = (z.2 % 2 ^ (t + 1)).testBit s
  rw [Nat.testBit_mod_two_pow, Nat.testBit_mod_two_pow]
  by_cases e : s < t + 1
  ·
   rw [hz s (hs s (by omega))]
  ·
   simp [e]
 have e1 := low hx (fun s hs => by have := hall s hs; unfold bothB at this; rw [Bool.and_eq_true] at this; exact this.1)
 have e2 := low hy (fun s hs => by have := hall s hs; unfold bothB at this; rw [Bool.and_eq_true] at this; exact this.2)
 have top : ∀ z : Nat, z.testBit t = (z % pw (t + 1)).testBit t := fun z => by
  rw [show z % pw (t + 1) = z % 2 ^ (t + 1) from rfl, Nat.testBit_mod_two_pow, decide_eq_true (by omega), Bool.true_and]
 have hd : pw (t + 1) ∣ 18446744073709551616 := by
  have : pw (t + 1) ∣ 2 ^ 64 := Nat.pow_dvd_pow 2 (by omega)
  exact this
 rw [Bool.true_and, Bool.true_and, Bool.true_and, top, Nat.mod_mod_of_dvd _ hd, Nat.add_mod, e1, e2, ← Nat.add_mod, ← top]
theorem snd_eq (hv : v < pw w) (hu : u < pw w) : Snd (keq w x y) (bitN (decide (v = u))) := by
 have one : ∀ {b r : Nat}, r.testBit 0 = b.testBit 0 → Snd (1, b) r := fun {b r} e t h => by
  cases t with
  | zero => exact e
  | succ t => rw [show ((1, b) : K).1 = 1 from rfl, Nat.testBit_succ] at h; simp at h
 unfold keq
 split
 ·
  rename_i h
  obtain ⟨t, ht⟩ : ∃ t, (bval w (kdiff x y)).testBit t = true := by
   refine Classical.byContradiction fun q => h (Nat.eq_of_testBit_eq fun t => ?_)
   rw [Nat.zero_testBit]
   cases e : (bval w (kdiff x y)).testBit t with
   | false => rfl
   | true => exact absurd ⟨t, e⟩ q
  rw [bval_bit] at ht
  simp only [kdiff, Bool.and_eq_true, bne_iff_ne, ne_eq] at ht
  have : v ≠ u := fun e => ht.2.2 (by rw [← hx t ht.2.1.1, ← hy t ht.2.1.2, e])
  rw [decide_eq_false this]
  exact one (by decide)
 ·
  rename_i h
  split
  ·
   rename_i h2
   have hb : ∀ t, t < w → bothB x y t = true := fun t ht => by
    have e := congrArg (fun z => Nat.testBit z t) h2
    simp only [bval_bit, pwm_bit, decide_eq_true ht, Bool.true_and] at e
    exact e
   have hd : ∀ t, t < w → kdiff x y t = false := fun t ht => by
    have e := congrArg (fun z => Nat.testBit z t) (Decidable.not_not.1 h)
    simp only [bval_bit, decide_eq_true ht, Bool.true_and, Nat.zero_testBit] at e
    exact e
   have : v = u := Nat.eq_of_testBit_eq fun t => by
    by_cases ht : t < w
    ·
     have b := hb t ht
     have d := hd t ht
     unfold bothB at b
     unfold kdiff at d
     rw [b, Bool.true_and] at d
     rw [Bool.and_eq_true] at b
     rw [hx t b.1, hy t b.2]
     simpa using d
    ·
     rw [hi_bit hv (by omega), hi_bit hu (by omega)]
   rw [decide_eq_true this]
   exact one rfl
  ·
   exact Snd_zero _
theorem snd_same (r : Nat) (hr : r = v ∨ r = u) : Snd (ksame w x y) r := fun t h => by
 simp only [ksame, bval_bit, Bool.and_eq_true, decide_eq_true_eq, beq_iff_eq] at h ⊢
 obtain ⟨ht, ⟨h1, h2⟩, h3⟩ := h
 have a := hx t h1
 have b := hy t h2
 rw [decide_eq_true ht, h1, h2, h3]
 rcases hr with rfl | rfl
 ·
  rw [a, h3]; simp
 ·
  rw [b]; simp
theorem snd_ite {c : K} {q : Nat} (hc : Snd c q) (hq : q < pw 1) : Snd (kite w c x y) (if q = 1 then v else u) := by
 have q2 : q = 0 ∨ q = 1 := by
  have : pw 1 = 2 := rfl
  omega
 unfold kite
 split
 ·
  rename_i h
  have := hc 0 h.1
  rw [h.2] at this
  rcases q2 with rfl | rfl
  ·
   simp at this
  ·
   exact hx
 ·
  rename_i h
  split
  ·
   rename_i h1
   have := hc 0 h1
   rcases q2 with rfl | rfl
   ·
    exact hy
   ·
    exact absurd ⟨h1, by rw [← this]; rfl⟩ h
  ·
   exact snd_same hx hy _ (by split; exact .inl rfl; exact .inr rfl)
end
section
variable {w : Nat} {x : K} {v : Nat} (hx : Snd x v)
include hx
theorem snd_not (hk : KI w x) (hw : w ≤ 64) (hv : v < 18446744073709551616) : Snd (x.1, andn x.1 x.2) (cutN w (18446744073709551615 - v)) := fun t h => by
 have h1 : x.1.testBit t = true := h
 have ht : t < w := Nat.lt_of_not_le fun q => by rw [hk.hi q] at h1; cases h1
 show _ = (andn x.1 x.2).testBit t
 rw [cut_bit, andn_bit, h1, decide_eq_true ht, Bool.true_and, Bool.true_and, show 18446744073709551615 - v = 2 ^ 64 - (v + 1) by omega, Nat.testBit_two_pow_sub_succ hv, decide_eq_true (by omega), Bool.true_and, hx t h1]
theorem snd_shl (by_ : Nat) : Snd (kmv 9 w x by_) (bval w (mvB true w (fun j => v.testBit j) false by_)) := fun t h => by
 simp only [kmv, bval_bit, if_true, Bool.and_eq_true, decide_eq_true_eq] at h ⊢
 obtain ⟨ht, h⟩ := h
 unfold mvB
 rw [if_pos rfl]
 by_cases hb : by_ < w
 ·
  rw [if_pos hb, Bool.or_eq_true, decide_eq_true_eq] at h
  by_cases q : by_ ≤ t
  ·
   have h1 := h.resolve_left (by omega)
   rw [if_pos q]
   show (decide (t < w) && v.testBit (t - by_)) = _
   rw [hx _ h1, h1]; simp [ht, hb, q]
  ·
   rw [if_neg q]; simp [q]
 ·
  rw [if_neg (by omega)]; simp [hb]
theorem snd_shr (by_ : Nat) : Snd (kmv 10 w x by_) (bval w (mvB false w (fun j => v.testBit j) false by_)) := fun t h => by
 simp only [kmv, bval_bit, if_neg (show ¬ (10 : Nat) = 9 by decide), Bool.and_eq_true, decide_eq_true_eq] at h ⊢
 obtain ⟨ht, h⟩ := h
 unfold mvB
 rw [if_neg (by decide)]
 by_cases hb : by_ < w
 ·
  rw [if_pos hb, Bool.or_eq_true, decide_eq_true_eq] at h
  by_cases q : t + by_ < w
  ·
   have h1 := h.resolve_left (by omega)
   rw [if_pos q]
   show (decide (t < w) && v.testBit (t + by_)) = _
   rw [hx _ h1, h1]; simp [ht, hb, q]
  ·
   rw [if_neg q]; simp [q]
 ·
  rw [if_neg (by omega)]; simp [hb]
theorem snd_ext (wide lo : Nat) : Snd (kpart w lo wide x false false) (cutN w (v / pw lo)) := fun t h => by
 simp only [kpart, bval_bit, Bool.and_eq_true, decide_eq_true_eq] at h ⊢
 obtain ⟨ht, h⟩ := h
 rw [cut_bit, shr_bit, decide_eq_true ht]
 by_cases q : wide ≤ lo + t
 ·
  rw [if_pos q] at h; cases h
 ·
  rw [if_neg q] at h ⊢
  rw [Nat.add_comm t lo, hx _ h, h]; simp
theorem snd_zx {wide : Nat} (hv : v < pw wide) : Snd (kpart w 0 wide x true false) v := fun t h => by
 simp only [kpart, bval_bit, Bool.and_eq_true, decide_eq_true_eq, Nat.zero_add] at h ⊢
 obtain ⟨ht, h⟩ := h
 rw [decide_eq_true ht]
 by_cases q : wide ≤ t
 ·
  rw [if_pos q, hi_bit hv q]; simp
 ·
  rw [if_neg q] at h ⊢
  rw [hx _ h, h]; simp
end
/-- A word of wd bits, told with its sign in 64. -/
def sxN (wd x : Nat) : Nat := if x.testBit (wd - 1) = true then x ||| (18446744073709551615 - (pw wd - 1)) else x
theorem sxN_bit {wd x t : Nat} (hw : wd ≤ 64) (hx : x < pw wd) (ht : t < 64) : (sxN wd x).testBit t = if wd ≤ t then x.testBit (wd - 1) else x.testBit t := by
 have hp := pw_pos wd
 have h64 := pw64 hw
 have e : (18446744073709551615 - (pw wd - 1)).testBit t = decide (wd ≤ t) := by
  rw [show 18446744073709551615 - (pw wd - 1) = 2 ^ 64 - ((pw wd - 1) + 1) by omega, Nat.testBit_two_pow_sub_succ (by omega), decide_eq_true ht, pwm_bit]
  by_cases q : wd ≤ t
  ·
   have : ¬ t < wd := by omega
   simp [q, this]
  ·
   have : t < wd := by omega
   simp [q, this]
 unfold sxN
 split
 ·
  rename_i h
  rw [Nat.testBit_or, e]
  by_cases q : wd ≤ t
  ·
   rw [if_pos q, h]; simp [q]
  ·
   rw [if_neg q]; simp [q]
 ·
  rename_i h
  by_cases q : wd ≤ t
  ·
   rw [if_pos q, hi_bit hx q]; exact (Bool.eq_false_iff.2 h).symm
  ·
   rw [if_neg q]
theorem sxN_u {wd x : Nat} (hx : x < 18446744073709551616) : sxN wd x < 18446744073709551616 := by
 unfold sxN
 split
 ·
  exact Nat.or_lt_two_pow (n := 64) hx (by omega)
 ·
  exact hx
theorem snd_sx {w wide : Nat} {x : K} {v : Nat} (hx : Snd x v) (hv : v < pw wide) (hw : wide ≤ w) (h64 : w ≤ 64) : Snd (kpart w 0 wide x (x.1.testBit (wide - 1)) (x.2.testBit (wide - 1))) (cutN w (sxN wide v)) := fun t h => by
 simp only [kpart, bval_bit, Bool.and_eq_true, decide_eq_true_eq, Nat.zero_add] at h ⊢
 obtain ⟨ht, h⟩ := h
 rw [cut_bit, decide_eq_true ht, sxN_bit (by omega) hv (by omega)]
 by_cases q : wide ≤ t
 ·
  rw [if_pos q] at h ⊢
  rw [if_pos q, hx _ h, h]; simp
 ·
  rw [if_neg q] at h ⊢
  rw [if_neg q, hx _ h, h]; simp
theorem snd_cat {wa up : Nat} {x y : K} {v u : Nat} (hx : Snd x v) (hy : Snd y u) (kx : KI wa x) (ky : KI up y) (hu : u < pw up) (hw : wa + up ≤ 64) : Snd (x.1 * pw up % 18446744073709551616 ||| y.1, x.2 * pw up % 18446744073709551616 ||| y.2) (v * pw up % 18446744073709551616 ||| u) := fun t h => by
 have ht : t < 64 := Nat.lt_of_not_le fun q => by
  rw [(KI_cat kx ky hw).hi (by omega)] at h; cases h
 have h' : (x.1 * pw up % 18446744073709551616 ||| y.1).testBit t = true := h
 show _ = (x.2 * pw up % 18446744073709551616 ||| y.2).testBit t
 rw [Nat.testBit_or, shl64_bit ht] at h' ⊢
 rw [Nat.testBit_or, shl64_bit ht]
 by_cases q : up ≤ t
 ·
  rw [ky.hi q, Bool.or_false, Bool.and_eq_true] at h'
  rw [hx _ h'.2, hi_bit hu q, ky.hv q]
 ·
  have e : decide (up ≤ t) = false := decide_eq_false q
  rw [e] at h' ⊢
  simp only [Bool.false_and, Bool.false_or] at h' ⊢
  exact hy _ h'
end Go.Proofs.YtlbadnpgmkobdaaV

set_option linter.unusedVariables false
set_option linter.unusedSimpArgs false
namespace Go.Proofs.YtlbadnpgmkobdaaV
open Go Go.RowKit Go.Proofs

theorem rmask_okN (x : Nat) (w : World) (h : x ≤ 64) : Ret Try.prog 30 [.int .i64 ((x : Nat) : Int)] w fun v w' => v = .int .u64 ((pw x - 1 : Nat) : Int) ∧ Tch N0 w w' := by
 rw [← mask_nat h]; exact rmask_ok _ w

set_option maxRecDepth 100000 in
theorem rBit_ok (x i : Nat) (w : World) (hi : i < 64) (hx : x < 18446744073709551616) : Ret Try.prog 94 [.int .u64 ((x : Nat) : Int), .int .i64 ((i : Nat) : Int)] w fun v w' => v = .bool (x.testBit i) ∧ Tch N0 w w' := by
 refine enter Try.func94 rfl rfl ?_
 refine zQ ?_
 refine zS [(4, .bool false)] ?_
 refine op_nil ?_
 refine zQ ?_
 refine zS [(5, .int .i64 ((i : Nat) : Int)), (6, .bool (decide (((i : Nat) : Int) ≥ 0))), (7, .bool (decide (((i : Nat) : Int) ≥ 0)))] ?_
 cases hb1 : decide (((i : Nat) : Int) ≥ 0)
 ·
  replace hb1 : ((i : Nat) : Int) < 0 := (Int.not_le.1 (of_decide_eq_false hb1))
  exfalso; omega
 ·
  replace hb1 : 0 ≤ ((i : Nat) : Int) := (of_decide_eq_true hb1)
  refine zS [(8, .int .i64 ((i : Nat) : Int)), (9, .bool (decide (((i : Nat) : Int) < 64))), (10, .bool (decide (((i : Nat) : Int) < 64))), (11, .bool (decide (((i : Nat) : Int) < 64)))] ?_
  cases hb2 : decide (((i : Nat) : Int) < 64)
  ·
   replace hb2 : 64 ≤ ((i : Nat) : Int) := (Int.not_lt.1 (of_decide_eq_false hb2))
   exfalso; omega
  ·
   replace hb2 : ((i : Nat) : Int) < 64 := (of_decide_eq_true hb2)
   refine zS [(12, .int .u64 ((x : Nat) : Int)), (13, .int .i64 ((i : Nat) : Int)), (14, .int .u64 (IntKind.u64.wrap ((i : Nat) : Int)))] ?_
   rw [show IntKind.u64.wrap ((i : Nat) : Int) = ((i : Nat) : Int) from wrap_u64 (by omega) (by omega)]
   refine stv (v := .int .u64 ((x / pw i : Nat) : Int)) (by kernel_rfl) (R_shrP (k2 := .u64) x i (by kernel_rfl) (by kernel_rfl) (by omega)) ?_
   have hu3 : x / pw i < 18446744073709551616 := div_lt64 hx
   refine stv (v := .int .u64 (((x / pw i) % 2 : Nat) : Int)) (by kernel_rfl) (R_remN (by kernel_rfl) (by kernel_rfl) (by omega)) ?_
   have hu4 : (x / pw i) % 2 < 18446744073709551616 := rem_lt64 hu3
   refine zS [(17, .bool ((((x / pw i) % 2 : Nat) : Int) == 1)), (18, .bool ((((x / pw i) % 2 : Nat) : Int) == 1)), (4, .bool ((((x / pw i) % 2 : Nat) : Int) == 1))] ?_
   refine op_nil ?_
   refine W_ret ?_
   exact ⟨_, Res_of (v := .bool ((((x / pw i) % 2 : Nat) : Int) == 1)) (by kernel_rfl), ⟨congrArg Value.bool (bit_eqN x i), Tch.refl _ _⟩⟩

end Go.Proofs.YtlbadnpgmkobdaaV

set_option linter.unusedVariables false
set_option linter.unusedSimpArgs false
namespace Go.Proofs.YtlbadnpgmkobdaaV
open Go Go.RowKit Go.Proofs

theorem cutF_nat {w x : Nat} (hw : w ≤ 64) (hx : x < 18446744073709551616) : cutF ((w : Nat) : Int) ((x : Nat) : Int) = ((cutN w x : Nat) : Int) := by
 unfold cutF; rw [mask_nat hw]; exact cut_u w x hw hx
theorem cut_id {w x : Nat} (h : x < pw w) : cutN w x = x := Nat.mod_eq_of_lt h
theorem rcutN_ok (wd x : Nat) (w : World) (hw : wd ≤ 64) (hx : x < 18446744073709551616) : Ret Try.prog 87 [.int .i64 ((wd : Nat) : Int), .int .u64 ((x : Nat) : Int)] w fun v w' => v = .int .u64 ((cutN wd x : Nat) : Int) ∧ Tch N0 w w' := by
 rw [← cutF_nat hw hx]; exact rcut_ok _ _ w
theorem rcutI_ok (wd x : Nat) (w : World) (hw : wd ≤ 64) (hx : x < pw wd) : Ret Try.prog 87 [.int .i64 ((wd : Nat) : Int), .int .u64 ((x : Nat) : Int)] w fun v w' => v = .int .u64 ((x : Nat) : Int) ∧ Tch N0 w w' := by
 have q := rcutN_ok wd x w hw (Nat.lt_of_lt_of_le hx (pw64 hw))
 rw [cut_id hx] at q; exact q
theorem rfits_t (wd : Nat) (w : World) (h1 : 1 ≤ wd) (h2 : wd ≤ 64) : Ret Try.prog 53 [.int .i64 ((wd : Nat) : Int)] w fun v w' => v = .bool true ∧ Tch N0 w w' := by
 have q := rfits_ok ((wd : Nat) : Int) w
 rw [show fitsW ((wd : Nat) : Int) = true from decide_eq_true (by omega)] at q; exact q
theorem rBit_i (x : Nat) (z : Int) (w : World) (h0 : 0 ≤ z) (h1 : z < 64) (hx : x < 18446744073709551616) : Ret Try.prog 94 [.int .u64 ((x : Nat) : Int), .int .i64 z] w fun v w' => v = .bool (x.testBit z.toNat) ∧ Tch N0 w w' := by
 obtain ⟨i, rfl⟩ : ∃ i : Nat, z = i := ⟨z.toNat, by omega⟩
 exact rBit_ok x i w (by omega) hx
theorem bval_orB (i : Nat) (f : Nat → Bool) (b : Bool) (hi : i < 64) (hb : b = f i) : (bval i f ||| (bitN b * pw i % 18446744073709551616)) = bval (i + 1) f := by
 rw [← bval_or i f b hb]
 congr 1
 have h2 := pw_u64 hi
 unfold bitN
 cases b with
 | true => simp only [if_true]; omega
 | false => simp
theorem bitN_lt (b : Bool) : bitN b < 18446744073709551616 := by unfold bitN; split <;> omega
theorem bitN_u (b : Bool) : bitN b ≤ 1 := by unfold bitN; split <;> omega
section
variable {P : Program} {ρ : Env} {w : World}
theorem R_not64 {d : Option Tmp} {t : TypeId} {x : Operand} {ty : TypeId} {pos : String} {af : Array Edge} {g : Option (Nat × Bool)} (a : Nat) (hx : evR ρ x = .int .u64 ((a : Nat) : Int)) (ha : a < 18446744073709551616) :
  (execOp (evR ρ) ⟨d, .unOp .xor t x, ty, pos, af, g⟩).run P w = .ok (.value (.int .u64 (((18446744073709551615 - a : Nat)) : Int))) w := by
 have e : IntKind.u64.wrap ((BitVec.ofInt 64 (18446744073709551615 : Int) ^^^ BitVec.ofInt 64 (a : Int)).toNat : Int) = ((18446744073709551615 - a : Nat) : Int) := by
  have h1 : BitVec.ofInt 64 (18446744073709551615 : Int) = BitVec.allOnes 64 := by decide
  have h2 : (BitVec.ofInt 64 (18446744073709551615 : Int) ^^^ BitVec.ofInt 64 (a : Int)).toNat = 18446744073709551615 - a := by
   rw [h1, BitVec.allOnes_xor, BitVec.toNat_not, bv_u a ha]
  rw [h2, wrap_u64 (by omega) (by omega)]
 simp only [execOp, hx]
 simp [Op.unary, Op.intBits, IntKind.signed, IntKind.max, IntKind.bits] at e ⊢
 exact e
end
theorem neg_u64 (a : Nat) (ha : a < 18446744073709551616) : IntKind.u64.wrap (0 - (a : Int)) = (((18446744073709551616 - a) % 18446744073709551616 : Nat) : Int) := by
 have := u64_sub 0 a (by omega) ha
 simpa using this
theorem beq_nat (a b : Nat) : (((a : Nat) : Int) == ((b : Nat) : Int)) = decide (a = b) := by
 by_cases h : a = b
 ·
  subst h; simp
 ·
  rw [decide_eq_false h]; exact beq_eq_false_iff_ne.2 (by omega)
theorem wrap_back (x : Nat) (hx : x < 18446744073709551616) : IntKind.u64.wrap (IntKind.i64.wrap ((x : Nat) : Int)) = ((x : Nat) : Int) := by
 simp only [IntKind.wrap, IntKind.bits, IntKind.signed]; simp; split <;> omega
/-- What the document's two-argument words say, before they are cut. -/
def BinX (O wd a b X : Nat) : Prop := X < 18446744073709551616 ∧ (O = 1 → X = (a + b) % 18446744073709551616) ∧ (O = 6 → X = a &&& b) ∧ (O = 7 → X = a ||| b) ∧ (O = 8 → X = a ^^^ b) ∧ (O = 9 → X = bval wd (mvB true wd (fun j => a.testBit j) false b)) ∧ (O = 10 → X = bval wd (mvB false wd (fun j => a.testBit j) false b)) ∧ (O = 12 → X = bitN (decide (a = b))) ∧ (O = 13 ∨ O = 14 → X ≤ 1)

set_option maxRecDepth 100000 in
theorem bit1_ok (b : Bool) (w : World) : Ret Try.prog 107 [.bool b] w fun v w' => v = .int .u64 ((bitN b : Nat) : Int) ∧ Tch N0 w w' := by
 refine enter Try.func107 rfl rfl ?_
 refine zQ ?_
 refine zS [(2, .int .u64 0)] ?_
 refine op_nil ?_
 refine W_seq ?_
 refine zQ ?_
 refine zS [(3, .bool b)] ?_
 refine zO (b) (fun hc1 => ?_) (fun hc1 => ?_)
 ·
  replace hc1 : b = true := (hc1)
  refine zQ ?_
  refine zS [(2, .int .u64 1)] ?_
  refine op_nil ?_
  refine W_ret ?_
  exact ⟨_, Res_of (v := .int .u64 1) (by kernel_rfl), ⟨by simp [bitN, *], Tch.refl _ _⟩⟩
 ·
  replace hc1 : b = false := (hc1)
  refine W_skip ?_
  refine zQ ?_
  refine zS [(2, .int .u64 0)] ?_
  refine op_nil ?_
  refine W_ret ?_
  exact ⟨_, Res_of (v := .int .u64 0) (by kernel_rfl), ⟨by simp [bitN, *], Tch.refl _ _⟩⟩

set_option maxRecDepth 100000 in
theorem moved_ok (wd a : Nat) (sh : Int) (fl : Bool) (w : World) (h1 : 1 ≤ wd) (h2 : wd ≤ 64) (hs : -64 ≤ sh ∧ sh ≤ 64) (ha : a < 18446744073709551616) : Ret Try.prog 118 [.int .i64 ((wd : Nat) : Int), .int .u64 ((a : Nat) : Int), .int .i64 sh, .bool fl] w fun v w' => v = .int .u64 ((bval wd (mvR wd a sh fl) : Nat) : Int) ∧ Tch N0 w w' := by
 refine enter Try.func118 rfl rfl ?_
 refine zQ ?_
 refine zS [(8, .int .u64 0)] ?_
 refine op_nil ?_
 refine zQ ?_
 refine zS [(9, .int .u64 0)] ?_
 refine op_nil ?_
 refine W_seq ?_
 refine zQ ?_
 refine zS [(10, .int .i64 0)] ?_
 refine op_nil ?_
 refine W_block ?_
 refine W_loop (fun m ρ w' => ∃ (i : Nat) (ρ0 : Env), ρ = updL ρ0 [(0, .int .i64 ((wd : Nat) : Int)), (1, .int .u64 ((a : Nat) : Int)), (2, .int .i64 sh), (3, .bool fl), (9, .int .u64 ((bval i (mvR wd a sh fl) : Nat) : Int)), (10, .int .i64 ((i : Nat) : Int))] ∧ (i ≤ wd) ∧ Tch N0 w w' ∧ m = wd - i) (m := wd - 0) ?_ ?_
 ·
  refine ⟨0, _, updL_self (by kernel_rfl), by omega, Tch.refl _ _, rfl⟩
 ·
  rintro m ρ w1 ⟨i, ρ, rfl, hi, hT0, rfl⟩
  refine W_seq ?_
  refine zQ ?_
  refine zS [(13, .int .i64 ((i : Nat) : Int)), (14, .int .i64 ((wd : Nat) : Int)), (15, .bool (decide (((i : Nat) : Int) < ((wd : Nat) : Int))))] ?_
  refine zO (decide (((i : Nat) : Int) < ((wd : Nat) : Int))) (fun hc2 => ?_) (fun hc2 => ?_)
  ·
   replace hc2 : ((i : Nat) : Int) < ((wd : Nat) : Int) := (of_decide_eq_true hc2)
   refine W_skip ?_
   refine W_seq ?_
   refine W_block ?_
   refine zQ ?_
   refine zS [(18, .int .i64 ((i : Nat) : Int)), (19, .int .i64 sh), (20, .int .i64 (IntKind.i64.wrap (((i : Nat) : Int) - sh)))] ?_
   rw [show IntKind.i64.wrap (((i : Nat) : Int) - sh) = ((i : Nat) : Int) - sh from wrap_i64 (by omega) (by omega)]
   refine zS [(11, .int .i64 (((i : Nat) : Int) - sh))] ?_
   refine op_nil ?_
   refine zQ ?_
   refine zS [(12, .bool false)] ?_
   refine op_nil ?_
   refine W_seq ?_
   refine W_seq ?_
   refine zF [(0, .int .i64 ((wd : Nat) : Int)), (1, .int .u64 ((a : Nat) : Int)), (2, .int .i64 sh), (3, .bool fl), (9, .int .u64 ((bval i (mvR wd a sh fl) : Nat) : Int)), (10, .int .i64 ((i : Nat) : Int)), (11, .int .i64 (((i : Nat) : Int) - sh)), (12, .bool false), (15, .bool (decide (((i : Nat) : Int) < ((wd : Nat) : Int))))] fun ρ => ?_
   refine zR ?_
   refine zS [(21, .int .i64 (((i : Nat) : Int) - sh)), (22, .int .i64 ((wd : Nat) : Int)), (23, .bool (decide (((i : Nat) : Int) - sh ≥ ((wd : Nat) : Int))))] ?_
   refine zO (decide (((i : Nat) : Int) - sh ≥ ((wd : Nat) : Int))) (fun hc3 => ?_) (fun hc3 => ?_)
   ·
    replace hc3 : ((wd : Nat) : Int) ≤ ((i : Nat) : Int) - sh := (of_decide_eq_true hc3)
    refine zR ?_
    refine zS [(24, .bool fl), (12, .bool fl)] ?_
    refine op_nil ?_
    refine zR ?_
    refine zS [(30, .int .u64 ((bval i (mvR wd a sh fl) : Nat) : Int)), (31, .bool fl)] ?_
    refine zC (bit1_ok fl _) ?_
    rintro _ w4 ⟨rfl, hT5⟩
    have hT0 := hT0.t0 hT5
    have hu6 := bitN_lt fl
    have hb17 := bitN_u fl
    refine zS [(33, .int .i64 ((i : Nat) : Int)), (34, .int .u64 (IntKind.u64.wrap ((i : Nat) : Int)))] ?_
    rw [show IntKind.u64.wrap ((i : Nat) : Int) = ((i : Nat) : Int) from wrap_u64 (by omega) (by omega)]
    refine stv (v := .int .u64 (((bitN fl) * pw i % 18446744073709551616 : Nat) : Int)) (by rfl) (R_shlP (k2 := .u64) (bitN fl) i (by kernel_rfl) (by kernel_rfl) (by omega)) ?_
    have hu8 : (bitN fl) * pw i % 18446744073709551616 < 18446744073709551616 := mod_lt64 _
    refine zS [(36, .int .u64 (IntKind.u64.wrap (BitVec.ofInt 64 ((bval i (mvR wd a sh fl) : Nat) : Int) ||| BitVec.ofInt 64 (((bitN fl) * pw i % 18446744073709551616 : Nat) : Int)).toNat))] ?_
    rw [show IntKind.u64.wrap (BitVec.ofInt 64 ((bval i (mvR wd a sh fl) : Nat) : Int) ||| BitVec.ofInt 64 (((bitN fl) * pw i % 18446744073709551616 : Nat) : Int)).toNat = (((bval i (mvR wd a sh fl)) ||| ((bitN fl) * pw i % 18446744073709551616) : Nat) : Int) from or_u (bval i (mvR wd a sh fl)) ((bitN fl) * pw i % 18446744073709551616) (bval_u (by omega)) hu8]
    have hu9 : (bval i (mvR wd a sh fl)) ||| ((bitN fl) * pw i % 18446744073709551616) < 18446744073709551616 := or_lt (bval_u (by omega)) hu8
    refine fixR (y := ((bval (i + 1) (mvR wd a sh fl) : Nat) : Int)) (congrArg (fun z : Nat => (z : Int)) (bval_orB i (mvR wd a sh fl) fl (by omega) (by unfold mvR; first | rw [if_pos (by omega)] | rw [if_neg (by omega), if_pos (by omega)] | rw [if_neg (by omega), if_neg (by omega)]))) ?_
    refine zS [(9, .int .u64 ((bval (i + 1) (mvR wd a sh fl) : Nat) : Int))] ?_
    refine op_nil ?_
    refine zF [(0, .int .i64 ((wd : Nat) : Int)), (1, .int .u64 ((a : Nat) : Int)), (2, .int .i64 sh), (3, .bool fl), (9, .int .u64 ((bval (i + 1) (mvR wd a sh fl) : Nat) : Int)), (10, .int .i64 ((i : Nat) : Int)), (11, .int .i64 (((i : Nat) : Int) - sh)), (12, .bool fl), (15, .bool (decide (((i : Nat) : Int) < ((wd : Nat) : Int)))), (23, .bool (decide (((i : Nat) : Int) - sh ≥ ((wd : Nat) : Int))))] fun ρ => ?_
    refine zR ?_
    refine zS [(16, .int .i64 ((i : Nat) : Int)), (17, .int .i64 (IntKind.i64.wrap (((i : Nat) : Int) + 1)))] ?_
    rw [show IntKind.i64.wrap (((i : Nat) : Int) + 1) = ((i : Nat) : Int) + 1 from wrap_i64 (by omega) (by omega)]
    refine fixR (y := ((i + 1 : Nat) : Int)) (by omega) ?_
    refine zS [(10, .int .i64 ((i + 1 : Nat) : Int))] ?_
    refine op_nil ?_
    refine ⟨_, ?_, i + 1, _, updL_self (by kernel_rfl), ?_, hT0, rfl⟩
    ·
     omega
    ·
     omega
   ·
    replace hc3 : ((i : Nat) : Int) - sh < ((wd : Nat) : Int) := (Int.not_le.1 (of_decide_eq_false hc3))
    refine zQ ?_
    refine zS [(25, .int .i64 (((i : Nat) : Int) - sh)), (26, .bool (decide (((i : Nat) : Int) - sh ≥ 0)))] ?_
    refine zO (decide (((i : Nat) : Int) - sh ≥ 0)) (fun hc10 => ?_) (fun hc10 => ?_)
    ·
     replace hc10 : 0 ≤ ((i : Nat) : Int) - sh := (of_decide_eq_true hc10)
     refine zR ?_
     refine zS [(27, .int .u64 ((a : Nat) : Int)), (28, .int .i64 (((i : Nat) : Int) - sh))] ?_
     refine zC (rBit_i a (((i : Nat) : Int) - sh) _ (by omega) (by omega) ha) ?_
     rintro _ w11 ⟨rfl, hT12⟩
     have hT0 := hT0.t0 hT12
     refine zS [(12, .bool (a.testBit ((((i : Nat) : Int) - sh).toNat)))] ?_
     refine op_nil ?_
     refine zF [(0, .int .i64 ((wd : Nat) : Int)), (1, .int .u64 ((a : Nat) : Int)), (2, .int .i64 sh), (3, .bool fl), (9, .int .u64 ((bval i (mvR wd a sh fl) : Nat) : Int)), (10, .int .i64 ((i : Nat) : Int)), (11, .int .i64 (((i : Nat) : Int) - sh)), (12, .bool (a.testBit ((((i : Nat) : Int) - sh).toNat))), (15, .bool (decide (((i : Nat) : Int) < ((wd : Nat) : Int)))), (23, .bool (decide (((i : Nat) : Int) - sh ≥ ((wd : Nat) : Int)))), (26, .bool (decide (((i : Nat) : Int) - sh ≥ 0)))] fun ρ => ?_
     refine zR ?_
     refine zS [(30, .int .u64 ((bval i (mvR wd a sh fl) : Nat) : Int)), (31, .bool (a.testBit ((((i : Nat) : Int) - sh).toNat)))] ?_
     refine zC (bit1_ok (a.testBit ((((i : Nat) : Int) - sh).toNat)) _) ?_
     rintro _ w13 ⟨rfl, hT14⟩
     have hT0 := hT0.t0 hT14
     have hu15 := bitN_lt (a.testBit ((((i : Nat) : Int) - sh).toNat))
     have hb116 := bitN_u (a.testBit ((((i : Nat) : Int) - sh).toNat))
     refine zS [(33, .int .i64 ((i : Nat) : Int)), (34, .int .u64 (IntKind.u64.wrap ((i : Nat) : Int)))] ?_
     rw [show IntKind.u64.wrap ((i : Nat) : Int) = ((i : Nat) : Int) from wrap_u64 (by omega) (by omega)]
     refine stv (v := .int .u64 (((bitN (a.testBit ((((i : Nat) : Int) - sh).toNat))) * pw i % 18446744073709551616 : Nat) : Int)) (by rfl) (R_shlP (k2 := .u64) (bitN (a.testBit ((((i : Nat) : Int) - sh).toNat))) i (by kernel_rfl) (by kernel_rfl) (by omega)) ?_
     have hu17 : (bitN (a.testBit ((((i : Nat) : Int) - sh).toNat))) * pw i % 18446744073709551616 < 18446744073709551616 := mod_lt64 _
     refine zS [(36, .int .u64 (IntKind.u64.wrap (BitVec.ofInt 64 ((bval i (mvR wd a sh fl) : Nat) : Int) ||| BitVec.ofInt 64 (((bitN (a.testBit ((((i : Nat) : Int) - sh).toNat))) * pw i % 18446744073709551616 : Nat) : Int)).toNat))] ?_
     rw [show IntKind.u64.wrap (BitVec.ofInt 64 ((bval i (mvR wd a sh fl) : Nat) : Int) ||| BitVec.ofInt 64 (((bitN (a.testBit ((((i : Nat) : Int) - sh).toNat))) * pw i % 18446744073709551616 : Nat) : Int)).toNat = (((bval i (mvR wd a sh fl)) ||| ((bitN (a.testBit ((((i : Nat) : Int) - sh).toNat))) * pw i % 18446744073709551616) : Nat) : Int) from or_u (bval i (mvR wd a sh fl)) ((bitN (a.testBit ((((i : Nat) : Int) - sh).toNat))) * pw i % 18446744073709551616) (bval_u (by omega)) hu17]
     have hu18 : (bval i (mvR wd a sh fl)) ||| ((bitN (a.testBit ((((i : Nat) : Int) - sh).toNat))) * pw i % 18446744073709551616) < 18446744073709551616 := or_lt (bval_u (by omega)) hu17
     refine fixR (y := ((bval (i + 1) (mvR wd a sh fl) : Nat) : Int)) (congrArg (fun z : Nat => (z : Int)) (bval_orB i (mvR wd a sh fl) (a.testBit ((((i : Nat) : Int) - sh).toNat)) (by omega) (by unfold mvR; first | rw [if_pos (by omega)] | rw [if_neg (by omega), if_pos (by omega)] | rw [if_neg (by omega), if_neg (by omega)]))) ?_
     refine zS [(9, .int .u64 ((bval (i + 1) (mvR wd a sh fl) : Nat) : Int))] ?_
     refine op_nil ?_
     refine zF [(0, .int .i64 ((wd : Nat) : Int)), (1, .int .u64 ((a : Nat) : Int)), (2, .int .i64 sh), (3, .bool fl), (9, .int .u64 ((bval (i + 1) (mvR wd a sh fl) : Nat) : Int)), (10, .int .i64 ((i : Nat) : Int)), (11, .int .i64 (((i : Nat) : Int) - sh)), (12, .bool (a.testBit ((((i : Nat) : Int) - sh).toNat))), (15, .bool (decide (((i : Nat) : Int) < ((wd : Nat) : Int)))), (23, .bool (decide (((i : Nat) : Int) - sh ≥ ((wd : Nat) : Int)))), (26, .bool (decide (((i : Nat) : Int) - sh ≥ 0)))] fun ρ => ?_
     refine zR ?_
     refine zS [(16, .int .i64 ((i : Nat) : Int)), (17, .int .i64 (IntKind.i64.wrap (((i : Nat) : Int) + 1)))] ?_
     rw [show IntKind.i64.wrap (((i : Nat) : Int) + 1) = ((i : Nat) : Int) + 1 from wrap_i64 (by omega) (by omega)]
     refine fixR (y := ((i + 1 : Nat) : Int)) (by omega) ?_
     refine zS [(10, .int .i64 ((i + 1 : Nat) : Int))] ?_
     refine op_nil ?_
     refine ⟨_, ?_, i + 1, _, updL_self (by kernel_rfl), ?_, hT0, rfl⟩
     ·
      omega
     ·
      omega
    ·
     replace hc10 : ((i : Nat) : Int) - sh < 0 := (Int.not_le.1 (of_decide_eq_false hc10))
     refine W_skip ?_
     refine zR ?_
     refine zS [(30, .int .u64 ((bval i (mvR wd a sh fl) : Nat) : Int)), (31, .bool false)] ?_
     refine zC (bit1_ok false _) ?_
     rintro _ w19 ⟨rfl, hT20⟩
     have hT0 := hT0.t0 hT20
     have hu21 := bitN_lt false
     have hb122 := bitN_u false
     refine zS [(33, .int .i64 ((i : Nat) : Int)), (34, .int .u64 (IntKind.u64.wrap ((i : Nat) : Int)))] ?_
     rw [show IntKind.u64.wrap ((i : Nat) : Int) = ((i : Nat) : Int) from wrap_u64 (by omega) (by omega)]
     refine stv (v := .int .u64 (((bitN false) * pw i % 18446744073709551616 : Nat) : Int)) (by rfl) (R_shlP (k2 := .u64) (bitN false) i (by kernel_rfl) (by kernel_rfl) (by omega)) ?_
     have hu23 : (bitN false) * pw i % 18446744073709551616 < 18446744073709551616 := mod_lt64 _
     refine zS [(36, .int .u64 (IntKind.u64.wrap (BitVec.ofInt 64 ((bval i (mvR wd a sh fl) : Nat) : Int) ||| BitVec.ofInt 64 (((bitN false) * pw i % 18446744073709551616 : Nat) : Int)).toNat))] ?_
     rw [show IntKind.u64.wrap (BitVec.ofInt 64 ((bval i (mvR wd a sh fl) : Nat) : Int) ||| BitVec.ofInt 64 (((bitN false) * pw i % 18446744073709551616 : Nat) : Int)).toNat = (((bval i (mvR wd a sh fl)) ||| ((bitN false) * pw i % 18446744073709551616) : Nat) : Int) from or_u (bval i (mvR wd a sh fl)) ((bitN false) * pw i % 18446744073709551616) (bval_u (by omega)) hu23]
     have hu24 : (bval i (mvR wd a sh fl)) ||| ((bitN false) * pw i % 18446744073709551616) < 18446744073709551616 := or_lt (bval_u (by omega)) hu23
     refine fixR (y := ((bval (i + 1) (mvR wd a sh fl) : Nat) : Int)) (congrArg (fun z : Nat => (z : Int)) (bval_orB i (mvR wd a sh fl) false (by omega) (by unfold mvR; first | rw [if_pos (by omega)] | rw [if_neg (by omega), if_pos (by omega)] | rw [if_neg (by omega), if_neg (by omega)]))) ?_
     refine zS [(9, .int .u64 ((bval (i + 1) (mvR wd a sh fl) : Nat) : Int))] ?_
     refine op_nil ?_
     refine zF [(0, .int .i64 ((wd : Nat) : Int)), (1, .int .u64 ((a : Nat) : Int)), (2, .int .i64 sh), (3, .bool fl), (9, .int .u64 ((bval (i + 1) (mvR wd a sh fl) : Nat) : Int)), (10, .int .i64 ((i : Nat) : Int)), (11, .int .i64 (((i : Nat) : Int) - sh)), (12, .bool false), (15, .bool (decide (((i : Nat) : Int) < ((wd : Nat) : Int)))), (23, .bool (decide (((i : Nat) : Int) - sh ≥ ((wd : Nat) : Int)))), (26, .bool (decide (((i : Nat) : Int) - sh ≥ 0)))] fun ρ => ?_
     refine zR ?_
     refine zS [(16, .int .i64 ((i : Nat) : Int)), (17, .int .i64 (IntKind.i64.wrap (((i : Nat) : Int) + 1)))] ?_
     rw [show IntKind.i64.wrap (((i : Nat) : Int) + 1) = ((i : Nat) : Int) + 1 from wrap_i64 (by omega) (by omega)]
     refine fixR (y := ((i + 1 : Nat) : Int)) (by omega) ?_
     refine zS [(10, .int .i64 ((i + 1 : Nat) : Int))] ?_
     refine op_nil ?_
     refine ⟨_, ?_, i + 1, _, updL_self (by kernel_rfl), ?_, hT0, rfl⟩
     ·
      omega
     ·
      omega
  ·
   replace hc2 : ((wd : Nat) : Int) ≤ ((i : Nat) : Int) := (Int.not_lt.1 (of_decide_eq_false hc2))
   refine W_exit ?_
   refine X_hit ?_
   refine zQ ?_
   refine zS [(37, .int .u64 ((bval i (mvR wd a sh fl) : Nat) : Int)), (8, .int .u64 ((bval i (mvR wd a sh fl) : Nat) : Int))] ?_
   refine op_nil ?_
   refine W_ret ?_
   exact ⟨_, Res_of (v := .int .u64 ((bval i (mvR wd a sh fl) : Nat) : Int)) (by kernel_rfl), ⟨by rw [show i = wd by omega], hT0⟩⟩

set_option maxRecDepth 100000 in
theorem shift9_ok (wd a b : Nat) (w : World) (h1 : 1 ≤ wd) (h2 : wd ≤ 64) (ha : a < 18446744073709551616) (hb : b < 18446744073709551616) : Ret Try.prog 108 [.int .i64 9, .int .i64 ((wd : Nat) : Int), .int .u64 ((a : Nat) : Int), .int .u64 ((b : Nat) : Int)] w fun v w' => v = .int .u64 ((bval wd (mvB true wd (fun j => a.testBit j) false b) : Nat) : Int) ∧ Tch N0 w w' := by
 refine enter Try.func108 rfl rfl ?_
 refine zQ ?_
 refine zS [(8, .int .u64 0)] ?_
 refine op_nil ?_
 refine zQ ?_
 refine zS [(9, .int .i64 64)] ?_
 refine op_nil ?_
 refine W_seq ?_
 refine zQ ?_
 refine zS [(10, .int .u64 ((b : Nat) : Int)), (11, .bool (decide (((b : Nat) : Int) < 64)))] ?_
 refine zO (decide (((b : Nat) : Int) < 64)) (fun hc1 => ?_) (fun hc1 => ?_)
 ·
  replace hc1 : ((b : Nat) : Int) < 64 := (of_decide_eq_true hc1)
  refine zR ?_
  refine zS [(12, .int .u64 ((b : Nat) : Int)), (13, .int .i64 (IntKind.i64.wrap ((b : Nat) : Int)))] ?_
  rw [show IntKind.i64.wrap ((b : Nat) : Int) = ((b : Nat) : Int) from wrap_i64 (by omega) (by omega)]
  refine zS [(9, .int .i64 ((b : Nat) : Int))] ?_
  refine op_nil ?_
  refine W_seq ?_
  refine zQ ?_
  refine zS [(14, .int .i64 9)] ?_
  refine op_nil ?_
  refine W_block ?_
  refine W_seq ?_
  refine zF [(0, .int .i64 9), (1, .int .i64 ((wd : Nat) : Int)), (2, .int .u64 ((a : Nat) : Int)), (3, .int .u64 ((b : Nat) : Int)), (8, .int .u64 0), (9, .int .i64 ((b : Nat) : Int)), (11, .bool (decide (((b : Nat) : Int) < 64))), (14, .int .i64 9)] fun ρ => ?_
  refine zR ?_
  refine zS [(16, .bool true), (15, .bool true)] ?_
  refine zO true (fun _ => ?_) (fun h => nomatch h)
  refine zQ ?_
  refine zS [(17, .int .i64 ((wd : Nat) : Int)), (18, .int .u64 ((a : Nat) : Int)), (19, .int .i64 ((b : Nat) : Int))] ?_
  refine zC (moved_ok wd a ((b : Nat) : Int) false _ (by omega) (by omega) (by omega) ha) ?_
  rintro _ w2 ⟨rfl, hT3⟩
  have hT0 := hT3
  have hu4 : bval wd (mvR wd a ((b : Nat) : Int) false) < 18446744073709551616 := bval_u (by omega)
  refine zS [(8, .int .u64 ((bval wd (mvR wd a ((b : Nat) : Int) false) : Nat) : Int))] ?_
  refine op_nil ?_
  refine W_ret ?_
  exact ⟨_, Res_of (v := .int .u64 ((bval wd (mvR wd a ((b : Nat) : Int) false) : Nat) : Int)) (by kernel_rfl), ⟨congrArg (fun z : Nat => Value.int .u64 (z : Int)) (bval_congr fun j hj => mvR_up hj (by omega)  _ (by split <;> omega)), hT0⟩⟩
 ·
  replace hc1 : 64 ≤ ((b : Nat) : Int) := (Int.not_lt.1 (of_decide_eq_false hc1))
  refine W_skip ?_
  refine W_seq ?_
  refine zQ ?_
  refine zS [(14, .int .i64 9)] ?_
  refine op_nil ?_
  refine W_block ?_
  refine zQ ?_
  refine zS [(16, .bool true), (15, .bool true)] ?_
  refine zO true (fun _ => ?_) (fun h => nomatch h)
  refine zQ ?_
  refine zS [(17, .int .i64 ((wd : Nat) : Int)), (18, .int .u64 ((a : Nat) : Int)), (19, .int .i64 64)] ?_
  refine zC (moved_ok wd a 64 false _ (by omega) (by omega) (by omega) ha) ?_
  rintro _ w5 ⟨rfl, hT6⟩
  have hT0 := hT6
  have hu7 : bval wd (mvR wd a 64 false) < 18446744073709551616 := bval_u (by omega)
  refine zS [(8, .int .u64 ((bval wd (mvR wd a 64 false) : Nat) : Int))] ?_
  refine op_nil ?_
  refine W_ret ?_
  exact ⟨_, Res_of (v := .int .u64 ((bval wd (mvR wd a 64 false) : Nat) : Int)) (by kernel_rfl), ⟨congrArg (fun z : Nat => Value.int .u64 (z : Int)) (bval_congr fun j hj => mvR_up hj (by omega)  _ (by split <;> omega)), hT0⟩⟩

set_option maxRecDepth 100000 in
theorem shift10_ok (wd a b : Nat) (w : World) (h1 : 1 ≤ wd) (h2 : wd ≤ 64) (ha : a < 18446744073709551616) (hb : b < 18446744073709551616) : Ret Try.prog 108 [.int .i64 10, .int .i64 ((wd : Nat) : Int), .int .u64 ((a : Nat) : Int), .int .u64 ((b : Nat) : Int)] w fun v w' => v = .int .u64 ((bval wd (mvB false wd (fun j => a.testBit j) false b) : Nat) : Int) ∧ Tch N0 w w' := by
 refine enter Try.func108 rfl rfl ?_
 refine zQ ?_
 refine zS [(8, .int .u64 0)] ?_
 refine op_nil ?_
 refine zQ ?_
 refine zS [(9, .int .i64 64)] ?_
 refine op_nil ?_
 refine W_seq ?_
 refine zQ ?_
 refine zS [(10, .int .u64 ((b : Nat) : Int)), (11, .bool (decide (((b : Nat) : Int) < 64)))] ?_
 refine zO (decide (((b : Nat) : Int) < 64)) (fun hc1 => ?_) (fun hc1 => ?_)
 ·
  replace hc1 : ((b : Nat) : Int) < 64 := (of_decide_eq_true hc1)
  refine zR ?_
  refine zS [(12, .int .u64 ((b : Nat) : Int)), (13, .int .i64 (IntKind.i64.wrap ((b : Nat) : Int)))] ?_
  rw [show IntKind.i64.wrap ((b : Nat) : Int) = ((b : Nat) : Int) from wrap_i64 (by omega) (by omega)]
  refine zS [(9, .int .i64 ((b : Nat) : Int))] ?_
  refine op_nil ?_
  refine W_seq ?_
  refine zQ ?_
  refine zS [(14, .int .i64 10)] ?_
  refine op_nil ?_
  refine W_block ?_
  refine W_seq ?_
  refine zF [(0, .int .i64 10), (1, .int .i64 ((wd : Nat) : Int)), (2, .int .u64 ((a : Nat) : Int)), (3, .int .u64 ((b : Nat) : Int)), (8, .int .u64 0), (9, .int .i64 ((b : Nat) : Int)), (11, .bool (decide (((b : Nat) : Int) < 64))), (14, .int .i64 10)] fun ρ => ?_
  refine zR ?_
  refine zS [(16, .bool false), (15, .bool false)] ?_
  refine zO false (fun h => nomatch h) (fun _ => ?_)
  refine zQ ?_
  refine zS [(22, .bool true), (21, .bool true)] ?_
  refine zO true (fun _ => ?_) (fun h => nomatch h)
  refine zQ ?_
  refine zS [(23, .int .i64 ((wd : Nat) : Int)), (24, .int .u64 ((a : Nat) : Int)), (25, .int .i64 ((b : Nat) : Int)), (26, .int .i64 (IntKind.i64.wrap (0 - ((b : Nat) : Int))))] ?_
  rw [show IntKind.i64.wrap (0 - ((b : Nat) : Int)) = 0 - ((b : Nat) : Int) from wrap_i64 (by omega) (by omega)]
  refine zC (moved_ok wd a (0 - ((b : Nat) : Int)) false _ (by omega) (by omega) (by omega) ha) ?_
  rintro _ w2 ⟨rfl, hT3⟩
  have hT0 := hT3
  have hu4 : bval wd (mvR wd a (0 - ((b : Nat) : Int)) false) < 18446744073709551616 := bval_u (by omega)
  refine zS [(8, .int .u64 ((bval wd (mvR wd a (0 - ((b : Nat) : Int)) false) : Nat) : Int))] ?_
  refine op_nil ?_
  refine W_ret ?_
  exact ⟨_, Res_of (v := .int .u64 ((bval wd (mvR wd a (0 - ((b : Nat) : Int)) false) : Nat) : Int)) (by kernel_rfl), ⟨congrArg (fun z : Nat => Value.int .u64 (z : Int)) (bval_congr fun j hj => mvR_dn' hj (by omega) _ _ (by split <;> omega)), hT0⟩⟩
 ·
  replace hc1 : 64 ≤ ((b : Nat) : Int) := (Int.not_lt.1 (of_decide_eq_false hc1))
  refine W_skip ?_
  refine W_seq ?_
  refine zQ ?_
  refine zS [(14, .int .i64 10)] ?_
  refine op_nil ?_
  refine W_block ?_
  refine zQ ?_
  refine zS [(16, .bool false), (15, .bool false)] ?_
  refine zO false (fun h => nomatch h) (fun _ => ?_)
  refine zQ ?_
  refine zS [(22, .bool true), (21, .bool true)] ?_
  refine zO true (fun _ => ?_) (fun h => nomatch h)
  refine W_seq ?_
  refine zF [(0, .int .i64 10), (1, .int .i64 ((wd : Nat) : Int)), (2, .int .u64 ((a : Nat) : Int)), (3, .int .u64 ((b : Nat) : Int)), (8, .int .u64 0), (9, .int .i64 64), (11, .bool (decide (((b : Nat) : Int) < 64))), (14, .int .i64 10), (15, .bool false), (21, .bool true)] fun ρ => ?_
  refine zR ?_
  refine zS [(23, .int .i64 ((wd : Nat) : Int)), (24, .int .u64 ((a : Nat) : Int)), (25, .int .i64 64), (26, .int .i64 (-64))] ?_
  refine zC (moved_ok wd a (-64) false _ (by omega) (by omega) (by omega) ha) ?_
  rintro _ w5 ⟨rfl, hT6⟩
  have hT0 := hT6
  have hu7 : bval wd (mvR wd a (-64) false) < 18446744073709551616 := bval_u (by omega)
  refine zS [(8, .int .u64 ((bval wd (mvR wd a (-64) false) : Nat) : Int))] ?_
  refine op_nil ?_
  refine W_ret ?_
  exact ⟨_, Res_of (v := .int .u64 ((bval wd (mvR wd a (-64) false) : Nat) : Int)) (by kernel_rfl), ⟨congrArg (fun z : Nat => Value.int .u64 (z : Int)) (bval_congr fun j hj => mvR_dn' hj (by omega) _ _ (by split <;> omega)), hT0⟩⟩

set_option maxRecDepth 100000 in
theorem shift11_ok (wd a b : Nat) (w : World) (h1 : 1 ≤ wd) (h2 : wd ≤ 64) (ha : a < 18446744073709551616) (hb : b < 18446744073709551616) : Ret Try.prog 108 [.int .i64 11, .int .i64 ((wd : Nat) : Int), .int .u64 ((a : Nat) : Int), .int .u64 ((b : Nat) : Int)] w fun v w' => v = .int .u64 ((bval wd (mvB false wd (fun j => a.testBit j) (a.testBit (wd - 1)) b) : Nat) : Int) ∧ Tch N0 w w' := by
 refine enter Try.func108 rfl rfl ?_
 refine zQ ?_
 refine zS [(8, .int .u64 0)] ?_
 refine op_nil ?_
 refine zQ ?_
 refine zS [(9, .int .i64 64)] ?_
 refine op_nil ?_
 refine W_seq ?_
 refine zQ ?_
 refine zS [(10, .int .u64 ((b : Nat) : Int)), (11, .bool (decide (((b : Nat) : Int) < 64)))] ?_
 refine zO (decide (((b : Nat) : Int) < 64)) (fun hc1 => ?_) (fun hc1 => ?_)
 ·
  replace hc1 : ((b : Nat) : Int) < 64 := (of_decide_eq_true hc1)
  refine zR ?_
  refine zS [(12, .int .u64 ((b : Nat) : Int)), (13, .int .i64 (IntKind.i64.wrap ((b : Nat) : Int)))] ?_
  rw [show IntKind.i64.wrap ((b : Nat) : Int) = ((b : Nat) : Int) from wrap_i64 (by omega) (by omega)]
  refine zS [(9, .int .i64 ((b : Nat) : Int))] ?_
  refine op_nil ?_
  refine W_seq ?_
  refine zQ ?_
  refine zS [(14, .int .i64 11)] ?_
  refine op_nil ?_
  refine W_block ?_
  refine W_seq ?_
  refine zF [(0, .int .i64 11), (1, .int .i64 ((wd : Nat) : Int)), (2, .int .u64 ((a : Nat) : Int)), (3, .int .u64 ((b : Nat) : Int)), (8, .int .u64 0), (9, .int .i64 ((b : Nat) : Int)), (11, .bool (decide (((b : Nat) : Int) < 64))), (14, .int .i64 11)] fun ρ => ?_
  refine zR ?_
  refine zS [(16, .bool false), (15, .bool false)] ?_
  refine zO false (fun h => nomatch h) (fun _ => ?_)
  refine zQ ?_
  refine zS [(22, .bool false), (21, .bool false)] ?_
  refine zO false (fun h => nomatch h) (fun _ => ?_)
  refine W_skip ?_
  refine zQ ?_
  refine zS [(28, .int .i64 ((wd : Nat) : Int)), (29, .int .u64 ((a : Nat) : Int)), (30, .int .i64 ((b : Nat) : Int)), (31, .int .i64 (IntKind.i64.wrap (0 - ((b : Nat) : Int))))] ?_
  rw [show IntKind.i64.wrap (0 - ((b : Nat) : Int)) = 0 - ((b : Nat) : Int) from wrap_i64 (by omega) (by omega)]
  refine zS [(32, .int .u64 ((a : Nat) : Int)), (33, .int .i64 ((wd : Nat) : Int)), (34, .int .i64 (IntKind.i64.wrap (((wd : Nat) : Int) - 1)))] ?_
  rw [show IntKind.i64.wrap (((wd : Nat) : Int) - 1) = ((wd : Nat) : Int) - 1 from wrap_i64 (by omega) (by omega)]
  refine fixR (y := ((wd - 1 : Nat) : Int)) (by omega) ?_
  refine zC (rBit_ok a (wd - 1) _ (by omega) ha) ?_
  rintro _ w2 ⟨rfl, hT3⟩
  have hT0 := hT3
  refine zC (moved_ok wd a (0 - ((b : Nat) : Int)) (a.testBit (wd - 1)) _ (by omega) (by omega) (by omega) ha) ?_
  rintro _ w4 ⟨rfl, hT5⟩
  have hT0 := hT0.t0 hT5
  have hu6 : bval wd (mvR wd a (0 - ((b : Nat) : Int)) (a.testBit (wd - 1))) < 18446744073709551616 := bval_u (by omega)
  refine zS [(8, .int .u64 ((bval wd (mvR wd a (0 - ((b : Nat) : Int)) (a.testBit (wd - 1))) : Nat) : Int))] ?_
  refine op_nil ?_
  refine W_ret ?_
  exact ⟨_, Res_of (v := .int .u64 ((bval wd (mvR wd a (0 - ((b : Nat) : Int)) (a.testBit (wd - 1))) : Nat) : Int)) (by kernel_rfl), ⟨congrArg (fun z : Nat => Value.int .u64 (z : Int)) (bval_congr fun j hj => mvR_dn' hj (by omega) _ _ (by split <;> omega)), hT0⟩⟩
 ·
  replace hc1 : 64 ≤ ((b : Nat) : Int) := (Int.not_lt.1 (of_decide_eq_false hc1))
  refine W_skip ?_
  refine W_seq ?_
  refine zQ ?_
  refine zS [(14, .int .i64 11)] ?_
  refine op_nil ?_
  refine W_block ?_
  refine zQ ?_
  refine zS [(16, .bool false), (15, .bool false)] ?_
  refine zO false (fun h => nomatch h) (fun _ => ?_)
  refine zQ ?_
  refine zS [(22, .bool false), (21, .bool false)] ?_
  refine zO false (fun h => nomatch h) (fun _ => ?_)
  refine W_skip ?_
  refine W_seq ?_
  refine zF [(0, .int .i64 11), (1, .int .i64 ((wd : Nat) : Int)), (2, .int .u64 ((a : Nat) : Int)), (3, .int .u64 ((b : Nat) : Int)), (8, .int .u64 0), (9, .int .i64 64), (11, .bool (decide (((b : Nat) : Int) < 64))), (14, .int .i64 11), (15, .bool false), (21, .bool false)] fun ρ => ?_
  refine zR ?_
  refine zS [(28, .int .i64 ((wd : Nat) : Int)), (29, .int .u64 ((a : Nat) : Int)), (30, .int .i64 64), (31, .int .i64 (-64)), (32, .int .u64 ((a : Nat) : Int)), (33, .int .i64 ((wd : Nat) : Int)), (34, .int .i64 (IntKind.i64.wrap (((wd : Nat) : Int) - 1)))] ?_
  rw [show IntKind.i64.wrap (((wd : Nat) : Int) - 1) = ((wd : Nat) : Int) - 1 from wrap_i64 (by omega) (by omega)]
  refine fixR (y := ((wd - 1 : Nat) : Int)) (by omega) ?_
  refine zC (rBit_ok a (wd - 1) _ (by omega) ha) ?_
  rintro _ w7 ⟨rfl, hT8⟩
  have hT0 := hT8
  refine zC (moved_ok wd a (-64) (a.testBit (wd - 1)) _ (by omega) (by omega) (by omega) ha) ?_
  rintro _ w9 ⟨rfl, hT10⟩
  have hT0 := hT0.t0 hT10
  have hu11 : bval wd (mvR wd a (-64) (a.testBit (wd - 1))) < 18446744073709551616 := bval_u (by omega)
  refine zS [(8, .int .u64 ((bval wd (mvR wd a (-64) (a.testBit (wd - 1))) : Nat) : Int))] ?_
  refine op_nil ?_
  refine W_ret ?_
  exact ⟨_, Res_of (v := .int .u64 ((bval wd (mvR wd a (-64) (a.testBit (wd - 1))) : Nat) : Int)) (by kernel_rfl), ⟨congrArg (fun z : Nat => Value.int .u64 (z : Int)) (bval_congr fun j hj => mvR_dn' hj (by omega) _ _ (by split <;> omega)), hT0⟩⟩

theorem shift_all (O wd a b : Nat) (w : World) (h1 : 1 ≤ wd) (h2 : wd ≤ 64) (ha : a < 18446744073709551616) (hb : b < 18446744073709551616) (hO : 9 ≤ O ∧ O ≤ 11) : Ret Try.prog 108 [.int .i64 ((O : Nat) : Int), .int .i64 ((wd : Nat) : Int), .int .u64 ((a : Nat) : Int), .int .u64 ((b : Nat) : Int)] w fun v w' => ∃ X : Nat, v = .int .u64 ((X : Nat) : Int) ∧ BinX O wd a b X ∧ Tch N0 w w' := by
 have ho : O = 9 ∨ O = 10 ∨ O = 11 := by omega
 rcases ho with rfl | rfl | rfl
 ·
  exact (shift9_ok wd a b w h1 h2 ha hb).mono fun v w' q => ⟨_, q.1, ⟨bval_u h2, by simp, by simp, by simp, by simp, fun _ => rfl, by simp, by simp, by simp⟩, q.2⟩
 ·
  exact (shift10_ok wd a b w h1 h2 ha hb).mono fun v w' q => ⟨_, q.1, ⟨bval_u h2, by simp, by simp, by simp, by simp, by simp, fun _ => rfl, by simp, by simp⟩, q.2⟩
 ·
  exact (shift11_ok wd a b w h1 h2 ha hb).mono fun v w' q => ⟨_, q.1, ⟨bval_u h2, by simp, by simp, by simp, by simp, by simp, by simp, by simp, by simp⟩, q.2⟩

set_option maxRecDepth 100000 in
theorem signed_ok (wd x : Nat) (w : World) (h1 : 1 ≤ wd) (h2 : wd ≤ 64) (hx : x < pw wd) : Ret Try.prog 88 [.int .i64 ((wd : Nat) : Int), .int .u64 ((x : Nat) : Int)] w fun v w' => v = .int .i64 (IntKind.i64.wrap ((sxN wd x : Nat) : Int)) ∧ Tch N0 w w' := by
 have hp64 := pw64 (w := wd) (by omega)
 have hpp := pw_pos wd
 have hx_ : x < 18446744073709551616 := by omega
 refine enter Try.func88 rfl rfl ?_
 refine zQ ?_
 refine zS [(4, .int .i64 0)] ?_
 refine op_nil ?_
 refine W_seq ?_
 refine zQ ?_
 refine zS [(5, .int .i64 ((wd : Nat) : Int))] ?_
 refine zC (rfits_t wd _ (by omega) (by omega)) ?_
 rintro _ w1 ⟨rfl, hT2⟩
 have hT0 := hT2
 refine zS [(7, .bool false)] ?_
 refine zO false (fun h => nomatch h) (fun _ => ?_)
 refine W_skip ?_
 refine zQ ?_
 refine zS [(8, .int .i64 ((wd : Nat) : Int)), (9, .int .u64 ((x : Nat) : Int))] ?_
 refine zC (rcutI_ok wd x _ (by omega) hx) ?_
 rintro _ w3 ⟨rfl, hT4⟩
 have hT0 := hT0.t0 hT4
 refine zS [(1, .int .u64 ((x : Nat) : Int))] ?_
 refine op_nil ?_
 refine W_seq ?_
 refine W_seq ?_
 refine zF [(0, .int .i64 ((wd : Nat) : Int)), (1, .int .u64 ((x : Nat) : Int)), (4, .int .i64 0), (7, .bool false)] fun ρ => ?_
 refine zR ?_
 refine zS [(11, .int .u64 ((x : Nat) : Int)), (12, .int .i64 ((wd : Nat) : Int)), (13, .int .i64 (IntKind.i64.wrap (((wd : Nat) : Int) - 1)))] ?_
 rw [show IntKind.i64.wrap (((wd : Nat) : Int) - 1) = ((wd : Nat) : Int) - 1 from wrap_i64 (by omega) (by omega)]
 refine fixR (y := ((wd - 1 : Nat) : Int)) (by omega) ?_
 refine zC (rBit_ok x (wd - 1) _ (by omega) hx_) ?_
 rintro _ w5 ⟨rfl, hT6⟩
 have hT0 := hT0.t0 hT6
 refine zO (x.testBit (wd - 1)) (fun hc7 => ?_) (fun hc7 => ?_)
 ·
  replace hc7 : x.testBit (wd - 1) = true := (hc7)
  refine zR ?_
  refine zS [(15, .int .u64 ((x : Nat) : Int)), (16, .int .i64 ((wd : Nat) : Int))] ?_
  refine zC (rmask_okN wd _ (by omega)) ?_
  rintro _ w8 ⟨rfl, hT9⟩
  have hT0 := hT0.t0 hT9
  have hu10 := pwm_lt (x := wd) (by omega)
  refine stv (v := .int .u64 (((18446744073709551615 - (pw wd - 1) : Nat)) : Int)) (by rfl) (R_not64 (pw wd - 1) (by kernel_rfl) (by omega)) ?_
  refine zS [(19, .int .u64 (IntKind.u64.wrap (BitVec.ofInt 64 ((x : Nat) : Int) ||| BitVec.ofInt 64 ((18446744073709551615 - (pw wd - 1) : Nat) : Int)).toNat))] ?_
  rw [show IntKind.u64.wrap (BitVec.ofInt 64 ((x : Nat) : Int) ||| BitVec.ofInt 64 ((18446744073709551615 - (pw wd - 1) : Nat) : Int)).toNat = ((x ||| (18446744073709551615 - (pw wd - 1)) : Nat) : Int) from or_u x (18446744073709551615 - (pw wd - 1)) hx_ (by omega)]
  have hu11 : x ||| (18446744073709551615 - (pw wd - 1)) < 18446744073709551616 := or_lt hx_ (by omega)
  refine zS [(1, .int .u64 ((x ||| (18446744073709551615 - (pw wd - 1)) : Nat) : Int))] ?_
  refine op_nil ?_
  refine W_seq ?_
  refine zF [(0, .int .i64 ((wd : Nat) : Int)), (1, .int .u64 ((x ||| (18446744073709551615 - (pw wd - 1)) : Nat) : Int)), (4, .int .i64 0), (7, .bool false), (14, .bool (x.testBit (wd - 1)))] fun ρ => ?_
  refine zR ?_
  refine zS [(20, .int .u64 ((x ||| (18446744073709551615 - (pw wd - 1)) : Nat) : Int)), (21, .int .i64 (IntKind.i64.wrap ((x ||| (18446744073709551615 - (pw wd - 1)) : Nat) : Int))), (4, .int .i64 (IntKind.i64.wrap ((x ||| (18446744073709551615 - (pw wd - 1)) : Nat) : Int)))] ?_
  refine op_nil ?_
  refine W_ret ?_
  exact ⟨_, Res_of (v := .int .i64 (IntKind.i64.wrap ((x ||| (18446744073709551615 - (pw wd - 1)) : Nat) : Int))) (by kernel_rfl), ⟨congrArg (fun z : Nat => Value.int .i64 (IntKind.i64.wrap (z : Int))) (by unfold sxN; first | rw [if_pos (by assumption)] | rw [if_neg (by simp_all)]), hT0⟩⟩
 ·
  replace hc7 : x.testBit (wd - 1) = false := (hc7)
  refine W_skip ?_
  refine zQ ?_
  refine zS [(20, .int .u64 ((x : Nat) : Int)), (21, .int .i64 (IntKind.i64.wrap ((x : Nat) : Int))), (4, .int .i64 (IntKind.i64.wrap ((x : Nat) : Int)))] ?_
  refine op_nil ?_
  refine W_ret ?_
  exact ⟨_, Res_of (v := .int .i64 (IntKind.i64.wrap ((x : Nat) : Int))) (by kernel_rfl), ⟨congrArg (fun z : Nat => Value.int .i64 (IntKind.i64.wrap (z : Int))) (by unfold sxN; first | rw [if_pos (by assumption)] | rw [if_neg (by simp_all)]), hT0⟩⟩

set_option maxRecDepth 100000 in
theorem una15_ok (wd a : Nat) (w : World) (h1 : 1 ≤ wd) (h2 : wd ≤ 64) (ha : a < pw wd) : Ret Try.prog 89 [.int .i64 15, .int .i64 ((wd : Nat) : Int), .int .u64 ((a : Nat) : Int)] w fun v w' => v = .tuple #[.int .u64 ((cutN wd (18446744073709551615 - a) : Nat) : Int), .int .i64 0] ∧ Tch N0 w w' := by
 have hp64 := pw64 (w := wd) (by omega)
 have ha_ : a < 18446744073709551616 := by omega
 refine enter Try.func89 rfl rfl ?_
 refine zQ ?_
 refine zS [(6, .int .u64 0), (7, .int .i64 0)] ?_
 refine op_nil ?_
 refine W_seq ?_
 refine zQ ?_
 refine zS [(8, .int .i64 15), (9, .bool false), (10, .bool false), (11, undef), (12, undef), (13, .bool false)] ?_
 refine zO false (fun h => nomatch h) (fun _ => ?_)
 refine W_skip ?_
 refine W_seq ?_
 refine W_seq ?_
 refine zF [(0, .int .i64 15), (1, .int .i64 ((wd : Nat) : Int)), (2, .int .u64 ((a : Nat) : Int)), (6, .int .u64 0), (7, .int .i64 0), (13, .bool false)] fun ρ => ?_
 refine zR ?_
 refine zS [(14, .int .i64 ((wd : Nat) : Int))] ?_
 refine zC (rfits_t wd _ (by omega) (by omega)) ?_
 rintro _ w1 ⟨rfl, hT2⟩
 have hT0 := hT2
 refine zS [(16, .bool false)] ?_
 refine zO false (fun h => nomatch h) (fun _ => ?_)
 refine W_skip ?_
 refine W_seq ?_
 refine zQ ?_
 refine zS [(17, .int .i64 15), (18, .bool true)] ?_
 refine zO true (fun _ => ?_) (fun h => nomatch h)
 refine zQ ?_
 refine zS [(19, .int .i64 ((wd : Nat) : Int)), (20, .int .u64 ((a : Nat) : Int))] ?_
 refine stv (v := .int .u64 (((18446744073709551615 - a : Nat)) : Int)) (by rfl) (R_not64 a (by kernel_rfl) (by omega)) ?_
 refine zC (rcutN_ok wd (18446744073709551615 - a) _ (by omega) (by omega)) ?_
 rintro _ w3 ⟨rfl, hT4⟩
 have hT0 := hT0.t0 hT4
 have hu5 : cutN wd (18446744073709551615 - a) < 18446744073709551616 := Nat.lt_of_lt_of_le (cutN_lt _ _) (pw64 (by omega))
 refine zS [(6, .int .u64 ((cutN wd (18446744073709551615 - a) : Nat) : Int)), (7, .int .i64 0)] ?_
 refine op_nil ?_
 refine W_ret ?_
 exact ⟨_, Res_of (v := .tuple #[.int .u64 ((cutN wd (18446744073709551615 - a) : Nat) : Int), .int .i64 0]) (by kernel_rfl), ⟨rfl, hT0⟩⟩

set_option maxRecDepth 100000 in
theorem una16_ok (wd a : Nat) (w : World) (h1 : 1 ≤ wd) (h2 : wd ≤ 64) (ha : a < pw wd) : Ret Try.prog 89 [.int .i64 16, .int .i64 ((wd : Nat) : Int), .int .u64 ((a : Nat) : Int)] w fun v w' => v = .tuple #[.int .u64 ((cutN wd ((18446744073709551616 - a) % 18446744073709551616) : Nat) : Int), .int .i64 0] ∧ Tch N0 w w' := by
 have hp64 := pw64 (w := wd) (by omega)
 have ha_ : a < 18446744073709551616 := by omega
 refine enter Try.func89 rfl rfl ?_
 refine zQ ?_
 refine zS [(6, .int .u64 0), (7, .int .i64 0)] ?_
 refine op_nil ?_
 refine W_seq ?_
 refine zQ ?_
 refine zS [(8, .int .i64 16), (9, .bool true), (10, .bool true), (11, .int .i64 16), (12, .bool false), (13, .bool false)] ?_
 refine zO false (fun h => nomatch h) (fun _ => ?_)
 refine W_skip ?_
 refine W_seq ?_
 refine W_seq ?_
 refine zF [(0, .int .i64 16), (1, .int .i64 ((wd : Nat) : Int)), (2, .int .u64 ((a : Nat) : Int)), (6, .int .u64 0), (7, .int .i64 0), (13, .bool false)] fun ρ => ?_
 refine zR ?_
 refine zS [(14, .int .i64 ((wd : Nat) : Int))] ?_
 refine zC (rfits_t wd _ (by omega) (by omega)) ?_
 rintro _ w1 ⟨rfl, hT2⟩
 have hT0 := hT2
 refine zS [(16, .bool false)] ?_
 refine zO false (fun h => nomatch h) (fun _ => ?_)
 refine W_skip ?_
 refine W_seq ?_
 refine zQ ?_
 refine zS [(17, .int .i64 16), (18, .bool false)] ?_
 refine zO false (fun h => nomatch h) (fun _ => ?_)
 refine W_skip ?_
 refine zQ ?_
 refine zS [(23, .int .i64 ((wd : Nat) : Int)), (24, .int .u64 ((a : Nat) : Int)), (25, .int .u64 (IntKind.u64.wrap (0 - ((a : Nat) : Int))))] ?_
 refine fixR (y := (((18446744073709551616 - a) % 18446744073709551616 : Nat) : Int)) (neg_u64 a ha_) ?_
 refine zC (rcutN_ok wd ((18446744073709551616 - a) % 18446744073709551616) _ (by omega) (mod_lt64 _)) ?_
 rintro _ w3 ⟨rfl, hT4⟩
 have hT0 := hT0.t0 hT4
 have hu5 : cutN wd ((18446744073709551616 - a) % 18446744073709551616) < 18446744073709551616 := Nat.lt_of_lt_of_le (cutN_lt _ _) (pw64 (by omega))
 refine zS [(6, .int .u64 ((cutN wd ((18446744073709551616 - a) % 18446744073709551616) : Nat) : Int)), (7, .int .i64 0)] ?_
 refine op_nil ?_
 refine W_ret ?_
 exact ⟨_, Res_of (v := .tuple #[.int .u64 ((cutN wd ((18446744073709551616 - a) % 18446744073709551616) : Nat) : Int), .int .i64 0]) (by kernel_rfl), ⟨rfl, hT0⟩⟩

end Go.Proofs.YtlbadnpgmkobdaaV
