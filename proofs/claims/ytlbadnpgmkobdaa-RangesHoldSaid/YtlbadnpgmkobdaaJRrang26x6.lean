/- Texts laid together: TermPlays: plain. Which terms a term is made of: steps of the reckoning, plain. Known bits: plain. Known bits of all terms: plain. What is known of a term holds of its value: plain. Walks of functions of the program and of the document's texts. The conditions stand with each theorem. Walks of functions of the program and of the document's texts. The conditions stand with each theorem. Spans of terms: plain. A value lies in its term's span: plain. -/
import Derived.Test.YtlbadnpgmkobdaaD2
import Derived.Test.YtlbadnpgmkobdaaJRrang26x4
import Derived.Test.YtlbadnpgmkobdaaJRrang26x1
import Derived.Test.YtlbadnpgmkobdaaProg
set_option linter.unusedVariables false
set_option linter.unusedSimpArgs false
namespace Go.Proofs.YtlbadnpgmkobdaaV
open Go Go.RowKit Go.Proofs
section
variable {ρ : Env} {w : World}
end
def ndF (N : List Nd) (x : Int) : Nd := if 0 ≤ x ∧ x < (N.length : Int) then nth N x.toNat else nd0
theorem ndF_out {N : List Nd} {x : Int} (h : ¬ (0 ≤ x ∧ x < (N.length : Int))) : ndF N x = nd0 := by unfold ndF; rw [if_neg h]
theorem node_ok (F : Nat → Prop) (p : Nat) (most : Int) (N : List Nd) (W : Value → Value → Prop) (ix : Int) (w : World) (hL : TLow F w p most N W) (hN : N.length ≤ 65536) :
  Ret Try.prog 14 [.pointer (some ⟨p, 0, none⟩), .int .i64 ix] w fun v w' => v = .tuple #[.agg #[.int .i64 (nO (ndF N ix)), .int .i64 (nW (ndF N ix)), .int .i64 (nA (ndF N ix)), .int .i64 (nB (ndF N ix)), .int .i64 (nC (ndF N ix)), .int .u64 (nV (ndF N ix))], .bool (isT N ix)] ∧ Tch N0 w w' := by
 by_cases h : 0 ≤ ix ∧ ix < (N.length : Int)
 ·
  have e : isT N ix = true := decide_eq_true h
  have e2 : ndF N ix = nth N ix.toNat := by unfold ndF; rw [if_pos h]
  rw [e, e2]; exact node_in F p most N W ix w hL hN h.1 h.2
 ·
  have e : isT N ix = false := decide_eq_false h
  rw [e, ndF_out h]; exact node_out F p most N W ix w hL hN h
end Go.Proofs.YtlbadnpgmkobdaaV

set_option linter.unusedVariables false
set_option linter.unusedSimpArgs false
namespace Go.Proofs.YtlbadnpgmkobdaaV
open Go Go.RowKit Go.Proofs
theorem pt_nat {i : Nat} {x : Int} (h : pt i x) : ((x.toNat : Nat) : Int) = x := by have := h.1; omega
theorem kids_cells {N : List Nd} {i : Nat} {n : Nd} (h : NdW N i n) : nats (kidsN n) = if nO n = 20 ∨ nO n = 21 then [] else if nO n = 22 then [.int .i64 (nA n), .int .i64 (nB n), .int .i64 (nC n)] else if nO n ≤ 14 ∨ nO n = 24 then [.int .i64 (nA n), .int .i64 (nB n)] else [.int .i64 (nA n)] := by
 unfold kidsN
 rcases h with h | h | ⟨h, a, e⟩ | ⟨h, a, b, e, e2⟩ | ⟨h, a, b, c, e, e2, e3⟩ | ⟨h, a, b, e⟩ | ⟨h, a, b, e⟩ | ⟨h, a, e⟩
 ·
  rw [if_pos (.inl h.1), if_pos (.inl h.1)]; rfl
 ·
  rw [if_pos (.inr h.1), if_pos (.inr h.1)]; rfl
 ·
  rw [if_neg (by omega), if_neg (by omega), if_neg (by omega), if_neg (by omega), if_neg (by omega), if_neg (by omega)]; simp only [nats, List.map_cons, List.map_nil, pt_nat a]
 ·
  rw [if_neg (by omega), if_neg (by omega), if_pos (by omega), if_neg (by omega), if_neg (by omega), if_pos (by omega)]; simp only [nats, List.map_cons, List.map_nil, pt_nat a, pt_nat b]
 ·
  rw [if_neg (by omega), if_pos (by omega), if_neg (by omega), if_pos (by omega)]; simp only [nats, List.map_cons, List.map_nil, pt_nat a, pt_nat b, pt_nat c]
 ·
  rw [if_neg (by omega), if_neg (by omega), if_neg (by omega), if_neg (by omega), if_neg (by omega), if_neg (by omega)]; simp only [nats, List.map_cons, List.map_nil, pt_nat a]
 ·
  rw [if_neg (by omega), if_neg (by omega), if_pos (by omega), if_neg (by omega), if_neg (by omega), if_pos (by omega)]; simp only [nats, List.map_cons, List.map_nil, pt_nat a, pt_nat b]
 ·
  rw [if_neg (by omega), if_neg (by omega), if_neg (by omega), if_neg (by omega), if_neg (by omega), if_neg (by omega)]; simp only [nats, List.map_cons, List.map_nil, pt_nat a]
/-- What comes of kids. -/
def KidR (n : Nd) (w : World) (v : Value) (w' : World) : Prop := ∃ K m, v = .slice K m m ∧ m = (kidsN n).length ∧ Own w' 0 3 1 (.slice K m m) m (nats (kidsN n)) ∧ (∀ c, (Value.slice K m m).ownBlock = some c → w.heap.size ≤ c) ∧ Tch N0 w w'
theorem KidR.nil {n : Nd} {w w' : World} (e : nats (kidsN n) = []) (T : Tch N0 w w') : KidR n w (.slice none 0 0) w' := by
 have hl : (kidsN n).length = 0 := by rw [← nats_length, e]; rfl
 exact ⟨none, 0, rfl, hl.symm, by rw [e]; exact Own.nil_ _ _ _ _, (fun c h => by cases h), T⟩
theorem KidR.blk {n : Nd} {w w' : World} {g k : Nat} {cs : List Value} (e : nats (kidsN n) = cs) (hk : cs.length = k) (hB : Blk w' g 3 cs) (hg : w.heap.size ≤ g) (hk2 : k ≤ 1000) (T : Tch N0 w w') : KidR n w (.slice (some ⟨g, 0, none⟩) k k) w' := by
 have hl : (kidsN n).length = k := by rw [← nats_length, e]; exact hk
 refine ⟨some ⟨g, 0, none⟩, k, rfl, hl.symm, ?_, (fun c h => by have e : g = c := (by injection h); omega), T⟩
 rw [e]
 exact Blk.own1 (sp := []) (by rw [List.append_nil]; exact hB) hk (by rw [List.append_nil]; exact hk) (Nat.le_refl _) (by simp only [maxLen]; omega)
theorem look_hd {N : List Nd} {hd : List Bool} {k : Nat} {v : Value} {ok : Bool} (hk : k < N.length) (hv : ok = true ∧ hdR N hd (.int .i64 ((k : Nat) : Int)) v ∨ ok = false ∧ v = nodeV nd0 ∧ ∀ y, ¬ hdR N hd (.int .i64 ((k : Nat) : Int)) y) : ∃ z, v = nodeV z ∧ ok = hd.getD k false := by
 rcases hv with ⟨rfl, i, _, h, e, rfl⟩ | ⟨rfl, rfl, h⟩
 ·
  refine ⟨_, rfl, ?_⟩
  have : k = i := by injection e with _ e; omega
  rw [this, h]
 ·
  refine ⟨_, rfl, ?_⟩
  cases q : hd.getD k false with
  | false => rfl
  | true => exact absurd ⟨k, hk, q, rfl, rfl⟩ (h _)
/-! ### The loop's measure -/
def lastN (wt : List Nat) : Nat := wt.getD (wt.length - 1) 0
def sec (n : Nat) (hd : List Bool) (wt : List Nat) : Nat := if wt = [] then 0 else if hd.getD (lastN wt) false = true then n + wt.length else lastN wt
theorem last_snoc (ws : List Nat) (x : Nat) : lastN (ws ++ [x]) = x := by
 unfold lastN
 simp [List.getD_eq_getElem?_getD]
theorem sec_snoc {n : Nat} {hd : List Bool} {ws : List Nat} {x : Nat} (h : hd.getD x false = false) : sec n hd (ws ++ [x]) = x := by
 unfold sec
 rw [if_neg (by simp), last_snoc, h]; simp
theorem lex_more {n : Nat} {hd : List Bool} {wt ws : List Nat} {x tp : Nat} (h0 : wt ≠ []) (htp : lastN wt = tp) (hx : x < tp) (htn : tp < n) (h : hd.getD x false = false) : ltL (offs hd, sec n hd (ws ++ [x])) (offs hd, sec n hd wt) := by
 refine .inr ⟨rfl, ?_⟩
 show sec n hd (ws ++ [x]) < sec n hd wt
 rw [sec_snoc h]
 unfold sec
 rw [if_neg h0, htp]
 split <;> omega
theorem lex_pop {n : Nat} {hd : List Bool} {wt : List Nat} {tp : Nat} (h0 : wt ≠ []) (htp : lastN wt = tp) (htn : tp < hd.length) (hall : ∀ x, x ∈ wt → x < n) : ltL (offs (hd.set tp true), sec n (hd.set tp true) (wt.take (wt.length - 1))) (offs hd, sec n hd wt) := by
 cases q : hd.getD tp false with
 | false => exact .inl (offs_set htn q)
 | true =>
  have e : hd.set tp true = hd := by
   apply List.ext_getElem?
   intro i
   rw [List.getElem?_set]
   by_cases e : tp = i
   ·
    subst e
    rw [if_pos rfl, if_pos htn]
    rw [List.getD_eq_getElem?_getD, List.getElem?_eq_getElem htn] at q
    rw [List.getElem?_eq_getElem htn]
    exact congrArg some q.symm
   ·
    rw [if_neg e]
  rw [e]
  refine .inr ⟨rfl, ?_⟩
  show sec n hd (wt.take (wt.length - 1)) < sec n hd wt
  have hl : 0 < wt.length := List.length_pos_iff.2 h0
  have e2 : sec n hd wt = n + wt.length := by unfold sec; rw [if_neg h0, htp, q]; simp
  rw [e2]
  unfold sec
  split
  ·
   omega
  ·
   rename_i hne
   split
   ·
    rw [List.length_take]; omega
   ·
    have hm : lastN (wt.take (wt.length - 1)) ∈ wt := by
     unfold lastN
     have hl2 := List.length_pos_iff.2 hne
     rw [List.getD_eq_getElem?_getD, List.getElem?_eq_getElem (by omega)]
     exact List.mem_of_mem_take (List.getElem_mem _)
    have := hall _ hm
    omega
theorem Own.capge {w : World} {e sz n : Nat} {A : Option Addr} {cp : Nat} {cells : List Value} (h : Own w 0 e sz (.slice A n cp) n cells) : n ≤ cp := by
 rcases h with ⟨_, ⟨hv, hn⟩ | ⟨b, cap, cur, hv, _, _, hn, _⟩⟩
 ·
  omega
 ·
  injection hv with _ _ q; omega
theorem kids_len (n : Nd) : (kidsN n).length ≤ 3 := by unfold kidsN; (repeat' split) <;> simp
theorem own_len (A : Option Addr) (n m cp : Nat) : (Value.slice A n cp).ownBlock = (Value.slice A m cp).ownBlock := by cases A <;> rfl
/-- How far a place in the stack can be. -/
def Far (n : Nat) (wt : List Nat) : Prop := ∀ i, i < wt.length → i + 1 + 3 * wt.getD i 0 ≤ 3 * n
theorem Far.take {n m : Nat} {wt : List Nat} (h : Far n wt) : Far n (wt.take m) := fun i hi => by
 have hi2 : i < m ∧ i < wt.length := by rw [List.length_take] at hi; omega
 have e : (wt.take m).getD i 0 = wt.getD i 0 := by simp only [List.getD_eq_getElem?_getD, List.getElem?_take, if_pos hi2.1]
 rw [e]; exact h i hi2.2
theorem Far.push {n x : Nat} {wt : List Nat} (h : Far n wt) (hx : wt.length + 1 + 3 * x ≤ 3 * n) : Far n (wt ++ [x]) := fun i hi => by
 have hi2 : i < wt.length + 1 := by simpa using hi
 by_cases e : i < wt.length
 ·
  have e2 : (wt ++ [x]).getD i 0 = wt.getD i 0 := by simp only [List.getD_eq_getElem?_getD, List.getElem?_append_left e]
  rw [e2]; exact h i e
 ·
  obtain rfl : i = wt.length := by omega
  have e2 : (wt ++ [x]).getD wt.length 0 = x := by simp [List.getD_eq_getElem?_getD]
  rw [e2]; exact hx
theorem Far.len {n : Nat} {wt : List Nat} (h : Far n wt) : wt.length ≤ 3 * n := by
 rcases Nat.eq_zero_or_pos wt.length with q | q
 ·
  omega
 ·
  have := h (wt.length - 1) (by omega); omega
/-- What the stack of those that wait holds. -/
def Wst (n id : Nat) (hd : List Bool) (wt : List Nat) : Prop := hd.length = n ∧ (∀ x, x ∈ wt → x < n) ∧ (id ∈ wt ∨ hd.getD id false = true) ∧ Far n wt
theorem Wst.start {n id : Nat} (h : id < n) : Wst n id (List.replicate n false) [id] := ⟨by simp, by simpa using h, .inl (by simp), fun i hi => by
 have : i = 0 := by simpa using hi
 subst this
 show 0 + 1 + 3 * id ≤ 3 * n
 omega⟩
theorem Wst.pop {n id : Nat} {hd : List Bool} {wt : List Nat} {tp : Nat} (h : Wst n id hd wt) (h0 : wt ≠ []) (htp : lastN wt = tp) (ht : tp < n) : Wst n id (hd.set tp true) (wt.take (wt.length - 1)) := by
 obtain ⟨h1, h2, h3, h4⟩ := h
 refine ⟨by rw [List.length_set]; exact h1, fun x hx => h2 x (List.mem_of_mem_take hx), ?_, h4.take⟩
 have hg : ∀ j, (hd.set tp true).getD j false = if tp = j then true else hd.getD j false := fun j => by
  simp only [List.getD_eq_getElem?_getD, List.getElem?_set]
  by_cases e : tp = j
  ·
   subst e; simp [h1, ht]
  ·
   simp [e]
 by_cases e : tp = id
 ·
  right; rw [hg, if_pos e]
 ·
  rcases h3 with h3 | h3
  ·
   left
   obtain ⟨j, hj, ej⟩ := List.getElem_of_mem h3
   have hjl : j ≠ wt.length - 1 := by
    rintro rfl
    apply e
    rw [← htp, ← ej]
    unfold lastN
    rw [List.getD_eq_getElem?_getD, List.getElem?_eq_getElem hj]; rfl
   rw [← ej]
   exact List.mem_take_iff_getElem.2 ⟨j, by omega, rfl⟩
  ·
   right; rw [hg, if_neg e]; exact h3
theorem Wst.last {n id : Nat} {hd : List Bool} {wt : List Nat} (h : Wst n id hd wt) (h0 : wt ≠ []) : lastN wt < n := by
 refine h.2.1 _ ?_
 unfold lastN
 have hl2 := List.length_pos_iff.2 h0
 rw [List.getD_eq_getElem?_getD, List.getElem?_eq_getElem (by omega)]
 exact List.getElem_mem _
theorem Wst.room {n id : Nat} {hd : List Bool} {wt : List Nat} (h : Wst n id hd wt) (h0 : wt ≠ []) : wt.length + 3 * lastN wt ≤ 3 * n := by
 have hl2 := List.length_pos_iff.2 h0
 have := h.2.2.2 (wt.length - 1) (by omega)
 unfold lastN; omega
/-- What the stack is while the kids are looked at. -/
def Kst (n : Nat) (hd : List Bool) (kids wt wt1 : List Nat) (mr : Bool) : Prop :=
 (mr = false → wt1 = wt) ∧ (mr = true → ∃ ws x, wt1 = ws ++ [x] ∧ x ∈ kids ∧ hd.getD x false = false) ∧ (∀ x, x ∈ wt → x ∈ wt1) ∧ (∀ x, x ∈ wt1 → x < n) ∧ Far n wt1
theorem Kst.start {n id : Nat} {hd : List Bool} {kids wt : List Nat} (h : Wst n id hd wt) : Kst n hd kids wt wt false := ⟨fun _ => rfl, (fun h => nomatch h), fun _ h => h, h.2.1, h.2.2.2⟩
theorem Kst.push {n : Nat} {hd : List Bool} {kids wt wt1 : List Nat} {mr : Bool} {x : Nat} (h : Kst n hd kids wt wt1 mr) (hx : x ∈ kids) (hn : x < n) (hp : wt1.length + 1 + 3 * x ≤ 3 * n) (hf : hd.getD x false = false) : Kst n hd kids wt (wt1 ++ [x]) true :=
 ⟨(fun h => nomatch h), fun _ => ⟨wt1, x, rfl, hx, hf⟩, fun y hy => List.mem_append.2 (.inl (h.2.2.1 y hy)), fun y hy => by
  rcases List.mem_append.1 hy with q | q
  ·
   exact h.2.2.2.1 y q
  ·
   simp at q; omega, h.2.2.2.2.push hp⟩
theorem Wst.more {n id : Nat} {hd : List Bool} {kids wt wt1 : List Nat} {mr : Bool} (h : Wst n id hd wt) (k : Kst n hd kids wt wt1 mr) : Wst n id hd wt1 := ⟨h.1, k.2.2.2.1, h.2.2.1.imp (k.2.2.1 id) (fun q => q), k.2.2.2.2⟩
theorem mem_getD {l : List Nat} {j : Nat} (h : j < l.length) : l.getD j 0 ∈ l := by rw [List.getD_eq_getElem?_getD, List.getElem?_eq_getElem h]; exact List.getElem_mem h
/-! ### How many a map holds -/
section
variable {P : Program} {ρ : Env} {w : World} {J : Env → World → Prop}
theorem R_lenM {d : Option Tmp} {t : TypeId} {x : Operand} {ty : TypeId} {pos : String} {af : Array Edge} {g : Option (Nat × Bool)} (k e : TypeId) {b : Nat} {R : Value → Value → Prop} (ht : pureR P (underlying t) = some (.map k e)) (hx : evR ρ x = .map (some b)) (h : MapE P k w b R) :
  ∃ m : Nat, (execOp (evR ρ) ⟨d, .call { callee := .builtin .len, args := #[x], argTypes := #[t] }, ty, pos, af, g⟩).run P w = .ok (.value (.int .i64 ((m : Nat) : Int))) w ∧ ((∃ x y, R x y) → 0 < m) ∧ ((∀ x y, ¬ R x y) → m = 0) := by
 obtain ⟨es, clock, hb, q1, q2, q3⟩ := h
 refine ⟨es.size, ?_, fun ⟨x, y, q⟩ => ?_, fun q => ?_⟩
 ·
  have h1 := pureR_run (w := w) ht
  simp only [execOp, resolve, invoke, builtin, Array.map, hx]
  simp [hx, Builtin.len_, h1, MapKept.run_getObj_map hb, goInt, Result.andThen]
 ·
  obtain ⟨e0, he, _⟩ := (q2 x y).1 q
  have := List.length_pos_of_mem he
  simpa using this
 ·
  rcases Nat.eq_zero_or_pos es.size with z | z
  ·
   exact z
  ·
   exact absurd ((q2 _ _).2 ⟨es[0], by simp, rfl, rfl⟩) (q _ _)
end
end Go.Proofs.YtlbadnpgmkobdaaV

set_option linter.unusedVariables false
set_option linter.unusedSimpArgs false
namespace Go.Proofs.YtlbadnpgmkobdaaV
open Go Go.RowKit Go.Proofs
theorem mask_nat {x : Nat} (h : x ≤ 64) : maskF ((x : Nat) : Int) = ((pw x - 1 : Nat) : Int) := by
 rcases Nat.eq_zero_or_pos x with q | q
 ·
  subst q; rw [mask_z (by omega)]; rfl
 ·
  rw [mask_pow (by omega), Int.toNat_natCast]
  unfold pw
  have h1 : (1 : Nat) ≤ 2 ^ x := Nat.one_le_two_pow
  rw [Int.natCast_sub h1]; simp
theorem pwm_lt {x : Nat} (h : x ≤ 64) : pw x - 1 < 18446744073709551616 := by have := pw64 h; have := pw_pos x; omega
/-- Bits that are known, and what they are. -/
abbrev K := Nat × Nat
def KI (w : Nat) (x : K) : Prop := x.1 < pw w ∧ ∀ t, x.2.testBit t = true → x.1.testBit t = true
theorem KI.hi {w : Nat} {x : K} (h : KI w x) {t : Nat} (ht : w ≤ t) : x.1.testBit t = false := Nat.testBit_lt_two_pow (Nat.lt_of_lt_of_le h.1 (Nat.pow_le_pow_right (n := 2) (by decide) ht))
theorem KI.hv {w : Nat} {x : K} (h : KI w x) {t : Nat} (ht : w ≤ t) : x.2.testBit t = false := by
 cases q : x.2.testBit t with
 | false => rfl
 | true => have := h.2 t q; rw [h.hi ht] at this; cases this
theorem KI.lt2 {w : Nat} {x : K} (h : KI w x) : x.2 < pw w := by
 apply Nat.lt_of_not_le
 intro hle
 have : x.2 ≠ 0 := by have := pw_pos w; omega
 have hl := Nat.log2_self_le this
 have hb : x.2.testBit x.2.log2 = true := Nat.testBit_log2 this
 have : w ≤ x.2.log2 := (Nat.le_log2 this).2 hle
 rw [h.hv this] at hb; cases hb
theorem KI.u1 {w : Nat} {x : K} (h : KI w x) (hw : w ≤ 64) : x.1 < 18446744073709551616 := Nat.lt_of_lt_of_le h.1 (pw64 hw)
theorem KI.u2 {w : Nat} {x : K} (h : KI w x) (hw : w ≤ 64) : x.2 < 18446744073709551616 := Nat.lt_of_lt_of_le h.lt2 (pw64 hw)
section
variable {w : Nat} {x y : K} (hx : KI w x) (hy : KI w y)
include hx hy
end
/-! ### Sums -/
/-! ### Moves, comparisons, choices -/
theorem shr_bit {a b t : Nat} : (a / pw b).testBit t = a.testBit (t + b) := by
 rw [show a / pw b = a / 2 ^ b from rfl, Nat.testBit_div_two_pow]
/-! ### A term's -/
def kV (k : K) : Value := .agg #[.int .u64 ((k.1 : Nat) : Int), .int .u64 ((k.2 : Nat) : Int)]
/-! ### The same, as the document's loops tell them -/
theorem bit_eqN (x i : Nat) : (((x / pw i % 2 : Nat) : Int) == 1) = x.testBit i := by
 rw [← bitB]
 rcases (show x / pw i % 2 = 0 ∨ x / pw i % 2 = 1 by omega) with h | h
 ·
  rw [h]; rfl
 ·
  rw [h]; rfl
section
variable {w by_ t fr : Nat} {x : K}
end
end Go.Proofs.YtlbadnpgmkobdaaV

set_option linter.unusedVariables false
set_option linter.unusedSimpArgs false
namespace Go.Proofs.YtlbadnpgmkobdaaV
open Go Go.RowKit Go.Proofs
def kg (l : List K) (i : Nat) : K := l.getD i (0, 0)
theorem kg_app_lt {l : List K} {x : K} {i : Nat} (h : i < l.length) : kg (l ++ [x]) i = kg l i := by unfold kg; simp [List.getD_eq_getElem?_getD, List.getElem?_append_left h]
theorem kg_app_eq {l : List K} {x : K} : kg (l ++ [x]) l.length = x := by unfold kg; simp [List.getD_eq_getElem?_getD]
/-! ### None is known above the width -/
theorem cat_mod {a wa up : Nat} (h : a < pw wa) (hw : wa + up ≤ 64) : a * pw up % 18446744073709551616 = a * pw up ∧ a * pw up < pw (wa + up) := by
 have e : pw (wa + up) = pw wa * pw up := Nat.pow_add 2 wa up
 have h1 : a * pw up < pw (wa + up) := by rw [e]; exact Nat.mul_lt_mul_of_pos_right h (pw_pos up)
 exact ⟨Nat.mod_eq_of_lt (Nat.lt_of_lt_of_le h1 (pw64 hw)), h1⟩
theorem wid_nth {N : List Nd} {i : Nat} {x : Int} (h : pt i x) (hi : i ≤ N.length) : widF N x = nW (nth N x.toNat) := by
 unfold widF; rw [if_pos ⟨h.1, by have := h.2; omega⟩]
end Go.Proofs.YtlbadnpgmkobdaaV

set_option linter.unusedVariables false
set_option linter.unusedSimpArgs false
namespace Go.Proofs.YtlbadnpgmkobdaaV
open Go Go.RowKit Go.Proofs
/-- A word that is moved. -/
def mvB (up : Bool) (m : Nat) (A : Nat → Bool) (fl : Bool) (s j : Nat) : Bool := if up = true then (if s ≤ j then A (j - s) else fl) else (if j + s < m then A (j + s) else fl)
def mvR (w a : Nat) (sh : Int) (fl : Bool) (i : Nat) : Bool := if (w : Int) ≤ (i : Int) - sh then fl else if 0 ≤ (i : Int) - sh then a.testBit ((i : Int) - sh).toNat else false
theorem mvR_up {w a b i : Nat} (hi : i < w) (hw : w ≤ 64) (s : Int) (hs : s = if b < 64 then (b : Int) else 64) : mvR w a s false i = mvB true w (fun j => a.testBit j) false b i := by
 unfold mvR mvB
 rw [if_pos rfl]
 by_cases h : b ≤ i
 ·
  rw [if_pos (by omega) (c := b < 64)] at hs
  rw [if_neg (by omega), if_pos (by omega), if_pos h]
  congr 1; omega
 ·
  have : i < s.toNat := by split at hs <;> omega
  rw [if_neg (by split at hs <;> omega), if_neg (by split at hs <;> omega), if_neg h]
theorem mvR_dn {w a b i : Nat} (hi : i < w) (hw : w ≤ 64) (fl : Bool) (s : Int) (hs : s = if b < 64 then (b : Int) else 64) : mvR w a (-s) fl i = mvB false w (fun j => a.testBit j) fl b i := by
 unfold mvR mvB
 simp only [Bool.false_eq_true, if_false]
 by_cases h : i + b < w
 ·
  rw [if_pos (by omega) (c := b < 64)] at hs
  rw [if_neg (by omega), if_pos (by omega), if_pos h]
  congr 1; omega
 ·
  rw [if_pos (by split at hs <;> omega), if_neg h]
theorem mvR_dn' {w a b i : Nat} (hi : i < w) (hw : w ≤ 64) (fl : Bool) (s : Int) (hs : s = 0 - (if b < 64 then (b : Int) else 64)) : mvR w a s fl i = mvB false w (fun j => a.testBit j) fl b i := by
 rw [show s = -(if b < 64 then (b : Int) else 64) by omega]
 exact mvR_dn hi hw fl _ rfl
/-- The known bits are the value's. -/
def Snd (x : K) (v : Nat) : Prop := ∀ t, x.1.testBit t = true → v.testBit t = x.2.testBit t
theorem hi_bit {v w t : Nat} (h : v < pw w) (ht : w ≤ t) : v.testBit t = false := Nat.testBit_lt_two_pow (Nat.lt_of_lt_of_le h (Nat.pow_le_pow_right (n := 2) (by decide) ht))
section
variable {w : Nat} {x y : K} {v u : Nat} (hx : Snd x v) (hy : Snd y u)
include hx hy
end
section
variable {w : Nat} {x : K} {v : Nat} (hx : Snd x v)
include hx
end
/-- A word of wd bits, told with its sign in 64. -/
def sxN (wd x : Nat) : Nat := if x.testBit (wd - 1) = true then x ||| (18446744073709551615 - (pw wd - 1)) else x
theorem sxN_u {wd x : Nat} (hx : x < 18446744073709551616) : sxN wd x < 18446744073709551616 := by
 unfold sxN
 split
 ·
  exact Nat.or_lt_two_pow (n := 64) hx (by omega)
 ·
  exact hx
end Go.Proofs.YtlbadnpgmkobdaaV

set_option linter.unusedVariables false
set_option linter.unusedSimpArgs false
namespace Go.Proofs.YtlbadnpgmkobdaaV
open Go Go.RowKit Go.Proofs

theorem rmask_okN (x : Nat) (w : World) (h : x ≤ 64) : Ret Try.prog 30 [.int .i64 ((x : Nat) : Int)] w fun v w' => v = .int .u64 ((pw x - 1 : Nat) : Int) ∧ Tch N0 w w' := by
 rw [← mask_nat h]; exact rmask_ok _ w

set_option maxRecDepth 100000 in
theorem rBit_ok (x i : Nat) (w : World) (hi : i < 64) (hx : x < 18446744073709551616) : Ret Try.prog 94 [.int .u64 ((x : Nat) : Int), .int .i64 ((i : Nat) : Int)] w fun v w' => v = .bool (x.testBit i) ∧ Tch N0 w w' := by
 refine enter Try.func94 rfl rfl ?_
 refine zQ ?_
 refine zS [(4, .bool false)] ?_
 refine op_nil ?_
 refine zQ ?_
 refine zS [(5, .int .i64 ((i : Nat) : Int)), (6, .bool (decide (((i : Nat) : Int) ≥ 0))), (7, .bool (decide (((i : Nat) : Int) ≥ 0)))] ?_
 cases hb1 : decide (((i : Nat) : Int) ≥ 0)
 ·
  replace hb1 : ((i : Nat) : Int) < 0 := (Int.not_le.1 (of_decide_eq_false hb1))
  exfalso; omega
 ·
  replace hb1 : 0 ≤ ((i : Nat) : Int) := (of_decide_eq_true hb1)
  refine zS [(8, .int .i64 ((i : Nat) : Int)), (9, .bool (decide (((i : Nat) : Int) < 64))), (10, .bool (decide (((i : Nat) : Int) < 64))), (11, .bool (decide (((i : Nat) : Int) < 64)))] ?_
  cases hb2 : decide (((i : Nat) : Int) < 64)
  ·
   replace hb2 : 64 ≤ ((i : Nat) : Int) := (Int.not_lt.1 (of_decide_eq_false hb2))
   exfalso; omega
  ·
   replace hb2 : ((i : Nat) : Int) < 64 := (of_decide_eq_true hb2)
   refine zS [(12, .int .u64 ((x : Nat) : Int)), (13, .int .i64 ((i : Nat) : Int)), (14, .int .u64 (IntKind.u64.wrap ((i : Nat) : Int)))] ?_
   rw [show IntKind.u64.wrap ((i : Nat) : Int) = ((i : Nat) : Int) from wrap_u64 (by omega) (by omega)]
   refine stv (v := .int .u64 ((x / pw i : Nat) : Int)) (by kernel_rfl) (R_shrP (k2 := .u64) x i (by kernel_rfl) (by kernel_rfl) (by omega)) ?_
   have hu3 : x / pw i < 18446744073709551616 := div_lt64 hx
   refine stv (v := .int .u64 (((x / pw i) % 2 : Nat) : Int)) (by kernel_rfl) (R_remN (by kernel_rfl) (by kernel_rfl) (by omega)) ?_
   have hu4 : (x / pw i) % 2 < 18446744073709551616 := rem_lt64 hu3
   refine zS [(17, .bool ((((x / pw i) % 2 : Nat) : Int) == 1)), (18, .bool ((((x / pw i) % 2 : Nat) : Int) == 1)), (4, .bool ((((x / pw i) % 2 : Nat) : Int) == 1))] ?_
   refine op_nil ?_
   refine W_ret ?_
   exact ⟨_, Res_of (v := .bool ((((x / pw i) % 2 : Nat) : Int) == 1)) (by kernel_rfl), ⟨congrArg Value.bool (bit_eqN x i), Tch.refl _ _⟩⟩

end Go.Proofs.YtlbadnpgmkobdaaV

set_option linter.unusedVariables false
set_option linter.unusedSimpArgs false
namespace Go.Proofs.YtlbadnpgmkobdaaV
open Go Go.RowKit Go.Proofs

theorem cutF_nat {w x : Nat} (hw : w ≤ 64) (hx : x < 18446744073709551616) : cutF ((w : Nat) : Int) ((x : Nat) : Int) = ((cutN w x : Nat) : Int) := by
 unfold cutF; rw [mask_nat hw]; exact cut_u w x hw hx
theorem cut_id {w x : Nat} (h : x < pw w) : cutN w x = x := Nat.mod_eq_of_lt h
theorem rcutN_ok (wd x : Nat) (w : World) (hw : wd ≤ 64) (hx : x < 18446744073709551616) : Ret Try.prog 87 [.int .i64 ((wd : Nat) : Int), .int .u64 ((x : Nat) : Int)] w fun v w' => v = .int .u64 ((cutN wd x : Nat) : Int) ∧ Tch N0 w w' := by
 rw [← cutF_nat hw hx]; exact rcut_ok _ _ w
theorem rcutI_ok (wd x : Nat) (w : World) (hw : wd ≤ 64) (hx : x < pw wd) : Ret Try.prog 87 [.int .i64 ((wd : Nat) : Int), .int .u64 ((x : Nat) : Int)] w fun v w' => v = .int .u64 ((x : Nat) : Int) ∧ Tch N0 w w' := by
 have q := rcutN_ok wd x w hw (Nat.lt_of_lt_of_le hx (pw64 hw))
 rw [cut_id hx] at q; exact q
theorem rfits_t (wd : Nat) (w : World) (h1 : 1 ≤ wd) (h2 : wd ≤ 64) : Ret Try.prog 53 [.int .i64 ((wd : Nat) : Int)] w fun v w' => v = .bool true ∧ Tch N0 w w' := by
 have q := rfits_ok ((wd : Nat) : Int) w
 rw [show fitsW ((wd : Nat) : Int) = true from decide_eq_true (by omega)] at q; exact q
theorem rBit_i (x : Nat) (z : Int) (w : World) (h0 : 0 ≤ z) (h1 : z < 64) (hx : x < 18446744073709551616) : Ret Try.prog 94 [.int .u64 ((x : Nat) : Int), .int .i64 z] w fun v w' => v = .bool (x.testBit z.toNat) ∧ Tch N0 w w' := by
 obtain ⟨i, rfl⟩ : ∃ i : Nat, z = i := ⟨z.toNat, by omega⟩
 exact rBit_ok x i w (by omega) hx
theorem bval_orB (i : Nat) (f : Nat → Bool) (b : Bool) (hi : i < 64) (hb : b = f i) : (bval i f ||| (bitN b * pw i % 18446744073709551616)) = bval (i + 1) f := by
 rw [← bval_or i f b hb]
 congr 1
 have h2 := pw_u64 hi
 unfold bitN
 cases b with
 | true => simp only [if_true]; omega
 | false => simp
theorem bitN_lt (b : Bool) : bitN b < 18446744073709551616 := by unfold bitN; split <;> omega
theorem bitN_u (b : Bool) : bitN b ≤ 1 := by unfold bitN; split <;> omega
section
variable {P : Program} {ρ : Env} {w : World}
theorem R_not64 {d : Option Tmp} {t : TypeId} {x : Operand} {ty : TypeId} {pos : String} {af : Array Edge} {g : Option (Nat × Bool)} (a : Nat) (hx : evR ρ x = .int .u64 ((a : Nat) : Int)) (ha : a < 18446744073709551616) :
  (execOp (evR ρ) ⟨d, .unOp .xor t x, ty, pos, af, g⟩).run P w = .ok (.value (.int .u64 (((18446744073709551615 - a : Nat)) : Int))) w := by
 have e : IntKind.u64.wrap ((BitVec.ofInt 64 (18446744073709551615 : Int) ^^^ BitVec.ofInt 64 (a : Int)).toNat : Int) = ((18446744073709551615 - a : Nat) : Int) := by
  have h1 : BitVec.ofInt 64 (18446744073709551615 : Int) = BitVec.allOnes 64 := by decide
  have h2 : (BitVec.ofInt 64 (18446744073709551615 : Int) ^^^ BitVec.ofInt 64 (a : Int)).toNat = 18446744073709551615 - a := by
   rw [h1, BitVec.allOnes_xor, BitVec.toNat_not, bv_u a ha]
  rw [h2, wrap_u64 (by omega) (by omega)]
 simp only [execOp, hx]
 simp [Op.unary, Op.intBits, IntKind.signed, IntKind.max, IntKind.bits] at e ⊢
 exact e
end
theorem neg_u64 (a : Nat) (ha : a < 18446744073709551616) : IntKind.u64.wrap (0 - (a : Int)) = (((18446744073709551616 - a) % 18446744073709551616 : Nat) : Int) := by
 have := u64_sub 0 a (by omega) ha
 simpa using this
theorem beq_nat (a b : Nat) : (((a : Nat) : Int) == ((b : Nat) : Int)) = decide (a = b) := by
 by_cases h : a = b
 ·
  subst h; simp
 ·
  rw [decide_eq_false h]; exact beq_eq_false_iff_ne.2 (by omega)
theorem wrap_back (x : Nat) (hx : x < 18446744073709551616) : IntKind.u64.wrap (IntKind.i64.wrap ((x : Nat) : Int)) = ((x : Nat) : Int) := by
 simp only [IntKind.wrap, IntKind.bits, IntKind.signed]; simp; split <;> omega
/-- What the document's two-argument words say, before they are cut. -/
def BinX (O wd a b X : Nat) : Prop := X < 18446744073709551616 ∧ (O = 1 → X = (a + b) % 18446744073709551616) ∧ (O = 6 → X = a &&& b) ∧ (O = 7 → X = a ||| b) ∧ (O = 8 → X = a ^^^ b) ∧ (O = 9 → X = bval wd (mvB true wd (fun j => a.testBit j) false b)) ∧ (O = 10 → X = bval wd (mvB false wd (fun j => a.testBit j) false b)) ∧ (O = 12 → X = bitN (decide (a = b))) ∧ (O = 13 ∨ O = 14 → X ≤ 1)

set_option maxRecDepth 100000 in
theorem bit1_ok (b : Bool) (w : World) : Ret Try.prog 107 [.bool b] w fun v w' => v = .int .u64 ((bitN b : Nat) : Int) ∧ Tch N0 w w' := by
 refine enter Try.func107 rfl rfl ?_
 refine zQ ?_
 refine zS [(2, .int .u64 0)] ?_
 refine op_nil ?_
 refine W_seq ?_
 refine zQ ?_
 refine zS [(3, .bool b)] ?_
 refine zO (b) (fun hc1 => ?_) (fun hc1 => ?_)
 ·
  replace hc1 : b = true := (hc1)
  refine zQ ?_
  refine zS [(2, .int .u64 1)] ?_
  refine op_nil ?_
  refine W_ret ?_
  exact ⟨_, Res_of (v := .int .u64 1) (by kernel_rfl), ⟨by simp [bitN, *], Tch.refl _ _⟩⟩
 ·
  replace hc1 : b = false := (hc1)
  refine W_skip ?_
  refine zQ ?_
  refine zS [(2, .int .u64 0)] ?_
  refine op_nil ?_
  refine W_ret ?_
  exact ⟨_, Res_of (v := .int .u64 0) (by kernel_rfl), ⟨by simp [bitN, *], Tch.refl _ _⟩⟩

set_option maxRecDepth 100000 in
theorem moved_ok (wd a : Nat) (sh : Int) (fl : Bool) (w : World) (h1 : 1 ≤ wd) (h2 : wd ≤ 64) (hs : -64 ≤ sh ∧ sh ≤ 64) (ha : a < 18446744073709551616) : Ret Try.prog 118 [.int .i64 ((wd : Nat) : Int), .int .u64 ((a : Nat) : Int), .int .i64 sh, .bool fl] w fun v w' => v = .int .u64 ((bval wd (mvR wd a sh fl) : Nat) : Int) ∧ Tch N0 w w' := by
 refine enter Try.func118 rfl rfl ?_
 refine zQ ?_
 refine zS [(8, .int .u64 0)] ?_
 refine op_nil ?_
 refine zQ ?_
 refine zS [(9, .int .u64 0)] ?_
 refine op_nil ?_
 refine W_seq ?_
 refine zQ ?_
 refine zS [(10, .int .i64 0)] ?_
 refine op_nil ?_
 refine W_block ?_
 refine W_loop (fun m ρ w' => ∃ (i : Nat) (ρ0 : Env), ρ = updL ρ0 [(0, .int .i64 ((wd : Nat) : Int)), (1, .int .u64 ((a : Nat) : Int)), (2, .int .i64 sh), (3, .bool fl), (9, .int .u64 ((bval i (mvR wd a sh fl) : Nat) : Int)), (10, .int .i64 ((i : Nat) : Int))] ∧ (i ≤ wd) ∧ Tch N0 w w' ∧ m = wd - i) (m := wd - 0) ?_ ?_
 ·
  refine ⟨0, _, updL_self (by kernel_rfl), by omega, Tch.refl _ _, rfl⟩
 ·
  rintro m ρ w1 ⟨i, ρ, rfl, hi, hT0, rfl⟩
  refine W_seq ?_
  refine zQ ?_
  refine zS [(13, .int .i64 ((i : Nat) : Int)), (14, .int .i64 ((wd : Nat) : Int)), (15, .bool (decide (((i : Nat) : Int) < ((wd : Nat) : Int))))] ?_
  refine zO (decide (((i : Nat) : Int) < ((wd : Nat) : Int))) (fun hc2 => ?_) (fun hc2 => ?_)
  ·
   replace hc2 : ((i : Nat) : Int) < ((wd : Nat) : Int) := (of_decide_eq_true hc2)
   refine W_skip ?_
   refine W_seq ?_
   refine W_block ?_
   refine zQ ?_
   refine zS [(18, .int .i64 ((i : Nat) : Int)), (19, .int .i64 sh), (20, .int .i64 (IntKind.i64.wrap (((i : Nat) : Int) - sh)))] ?_
   rw [show IntKind.i64.wrap (((i : Nat) : Int) - sh) = ((i : Nat) : Int) - sh from wrap_i64 (by omega) (by omega)]
   refine zS [(11, .int .i64 (((i : Nat) : Int) - sh))] ?_
   refine op_nil ?_
   refine zQ ?_
   refine zS [(12, .bool false)] ?_
   refine op_nil ?_
   refine W_seq ?_
   refine W_seq ?_
   refine zF [(0, .int .i64 ((wd : Nat) : Int)), (1, .int .u64 ((a : Nat) : Int)), (2, .int .i64 sh), (3, .bool fl), (9, .int .u64 ((bval i (mvR wd a sh fl) : Nat) : Int)), (10, .int .i64 ((i : Nat) : Int)), (11, .int .i64 (((i : Nat) : Int) - sh)), (12, .bool false), (15, .bool (decide (((i : Nat) : Int) < ((wd : Nat) : Int))))] fun ρ => ?_
   refine zR ?_
   refine zS [(21, .int .i64 (((i : Nat) : Int) - sh)), (22, .int .i64 ((wd : Nat) : Int)), (23, .bool (decide (((i : Nat) : Int) - sh ≥ ((wd : Nat) : Int))))] ?_
   refine zO (decide (((i : Nat) : Int) - sh ≥ ((wd : Nat) : Int))) (fun hc3 => ?_) (fun hc3 => ?_)
   ·
    replace hc3 : ((wd : Nat) : Int) ≤ ((i : Nat) : Int) - sh := (of_decide_eq_true hc3)
    refine zR ?_
    refine zS [(24, .bool fl), (12, .bool fl)] ?_
    refine op_nil ?_
    refine zR ?_
    refine zS [(30, .int .u64 ((bval i (mvR wd a sh fl) : Nat) : Int)), (31, .bool fl)] ?_
    refine zC (bit1_ok fl _) ?_
    rintro _ w4 ⟨rfl, hT5⟩
    have hT0 := hT0.t0 hT5
    have hu6 := bitN_lt fl
    have hb17 := bitN_u fl
    refine zS [(33, .int .i64 ((i : Nat) : Int)), (34, .int .u64 (IntKind.u64.wrap ((i : Nat) : Int)))] ?_
    rw [show IntKind.u64.wrap ((i : Nat) : Int) = ((i : Nat) : Int) from wrap_u64 (by omega) (by omega)]
    refine stv (v := .int .u64 (((bitN fl) * pw i % 18446744073709551616 : Nat) : Int)) (by rfl) (R_shlP (k2 := .u64) (bitN fl) i (by kernel_rfl) (by kernel_rfl) (by omega)) ?_
    have hu8 : (bitN fl) * pw i % 18446744073709551616 < 18446744073709551616 := mod_lt64 _
    refine zS [(36, .int .u64 (IntKind.u64.wrap (BitVec.ofInt 64 ((bval i (mvR wd a sh fl) : Nat) : Int) ||| BitVec.ofInt 64 (((bitN fl) * pw i % 18446744073709551616 : Nat) : Int)).toNat))] ?_
    rw [show IntKind.u64.wrap (BitVec.ofInt 64 ((bval i (mvR wd a sh fl) : Nat) : Int) ||| BitVec.ofInt 64 (((bitN fl) * pw i % 18446744073709551616 : Nat) : Int)).toNat = (((bval i (mvR wd a sh fl)) ||| ((bitN fl) * pw i % 18446744073709551616) : Nat) : Int) from or_u (bval i (mvR wd a sh fl)) ((bitN fl) * pw i % 18446744073709551616) (bval_u (by omega)) hu8]
    have hu9 : (bval i (mvR wd a sh fl)) ||| ((bitN fl) * pw i % 18446744073709551616) < 18446744073709551616 := or_lt (bval_u (by omega)) hu8
    refine fixR (y := ((bval (i + 1) (mvR wd a sh fl) : Nat) : Int)) (congrArg (fun z : Nat => (z : Int)) (bval_orB i (mvR wd a sh fl) fl (by omega) (by unfold mvR; first | rw [if_pos (by omega)] | rw [if_neg (by omega), if_pos (by omega)] | rw [if_neg (by omega), if_neg (by omega)]))) ?_
    refine zS [(9, .int .u64 ((bval (i + 1) (mvR wd a sh fl) : Nat) : Int))] ?_
    refine op_nil ?_
    refine zF [(0, .int .i64 ((wd : Nat) : Int)), (1, .int .u64 ((a : Nat) : Int)), (2, .int .i64 sh), (3, .bool fl), (9, .int .u64 ((bval (i + 1) (mvR wd a sh fl) : Nat) : Int)), (10, .int .i64 ((i : Nat) : Int)), (11, .int .i64 (((i : Nat) : Int) - sh)), (12, .bool fl), (15, .bool (decide (((i : Nat) : Int) < ((wd : Nat) : Int)))), (23, .bool (decide (((i : Nat) : Int) - sh ≥ ((wd : Nat) : Int))))] fun ρ => ?_
    refine zR ?_
    refine zS [(16, .int .i64 ((i : Nat) : Int)), (17, .int .i64 (IntKind.i64.wrap (((i : Nat) : Int) + 1)))] ?_
    rw [show IntKind.i64.wrap (((i : Nat) : Int) + 1) = ((i : Nat) : Int) + 1 from wrap_i64 (by omega) (by omega)]
    refine fixR (y := ((i + 1 : Nat) : Int)) (by omega) ?_
    refine zS [(10, .int .i64 ((i + 1 : Nat) : Int))] ?_
    refine op_nil ?_
    refine ⟨_, ?_, i + 1, _, updL_self (by kernel_rfl), ?_, hT0, rfl⟩
    ·
     omega
    ·
     omega
   ·
    replace hc3 : ((i : Nat) : Int) - sh < ((wd : Nat) : Int) := (Int.not_le.1 (of_decide_eq_false hc3))
    refine zQ ?_
    refine zS [(25, .int .i64 (((i : Nat) : Int) - sh)), (26, .bool (decide (((i : Nat) : Int) - sh ≥ 0)))] ?_
    refine zO (decide (((i : Nat) : Int) - sh ≥ 0)) (fun hc10 => ?_) (fun hc10 => ?_)
    ·
     replace hc10 : 0 ≤ ((i : Nat) : Int) - sh := (of_decide_eq_true hc10)
     refine zR ?_
     refine zS [(27, .int .u64 ((a : Nat) : Int)), (28, .int .i64 (((i : Nat) : Int) - sh))] ?_
     refine zC (rBit_i a (((i : Nat) : Int) - sh) _ (by omega) (by omega) ha) ?_
     rintro _ w11 ⟨rfl, hT12⟩
     have hT0 := hT0.t0 hT12
     refine zS [(12, .bool (a.testBit ((((i : Nat) : Int) - sh).toNat)))] ?_
     refine op_nil ?_
     refine zF [(0, .int .i64 ((wd : Nat) : Int)), (1, .int .u64 ((a : Nat) : Int)), (2, .int .i64 sh), (3, .bool fl), (9, .int .u64 ((bval i (mvR wd a sh fl) : Nat) : Int)), (10, .int .i64 ((i : Nat) : Int)), (11, .int .i64 (((i : Nat) : Int) - sh)), (12, .bool (a.testBit ((((i : Nat) : Int) - sh).toNat))), (15, .bool (decide (((i : Nat) : Int) < ((wd : Nat) : Int)))), (23, .bool (decide (((i : Nat) : Int) - sh ≥ ((wd : Nat) : Int)))), (26, .bool (decide (((i : Nat) : Int) - sh ≥ 0)))] fun ρ => ?_
     refine zR ?_
     refine zS [(30, .int .u64 ((bval i (mvR wd a sh fl) : Nat) : Int)), (31, .bool (a.testBit ((((i : Nat) : Int) - sh).toNat)))] ?_
     refine zC (bit1_ok (a.testBit ((((i : Nat) : Int) - sh).toNat)) _) ?_
     rintro _ w13 ⟨rfl, hT14⟩
     have hT0 := hT0.t0 hT14
     have hu15 := bitN_lt (a.testBit ((((i : Nat) : Int) - sh).toNat))
     have hb116 := bitN_u (a.testBit ((((i : Nat) : Int) - sh).toNat))
     refine zS [(33, .int .i64 ((i : Nat) : Int)), (34, .int .u64 (IntKind.u64.wrap ((i : Nat) : Int)))] ?_
     rw [show IntKind.u64.wrap ((i : Nat) : Int) = ((i : Nat) : Int) from wrap_u64 (by omega) (by omega)]
     refine stv (v := .int .u64 (((bitN (a.testBit ((((i : Nat) : Int) - sh).toNat))) * pw i % 18446744073709551616 : Nat) : Int)) (by rfl) (R_shlP (k2 := .u64) (bitN (a.testBit ((((i : Nat) : Int) - sh).toNat))) i (by kernel_rfl) (by kernel_rfl) (by omega)) ?_
     have hu17 : (bitN (a.testBit ((((i : Nat) : Int) - sh).toNat))) * pw i % 18446744073709551616 < 18446744073709551616 := mod_lt64 _
     refine zS [(36, .int .u64 (IntKind.u64.wrap (BitVec.ofInt 64 ((bval i (mvR wd a sh fl) : Nat) : Int) ||| BitVec.ofInt 64 (((bitN (a.testBit ((((i : Nat) : Int) - sh).toNat))) * pw i % 18446744073709551616 : Nat) : Int)).toNat))] ?_
     rw [show IntKind.u64.wrap (BitVec.ofInt 64 ((bval i (mvR wd a sh fl) : Nat) : Int) ||| BitVec.ofInt 64 (((bitN (a.testBit ((((i : Nat) : Int) - sh).toNat))) * pw i % 18446744073709551616 : Nat) : Int)).toNat = (((bval i (mvR wd a sh fl)) ||| ((bitN (a.testBit ((((i : Nat) : Int) - sh).toNat))) * pw i % 18446744073709551616) : Nat) : Int) from or_u (bval i (mvR wd a sh fl)) ((bitN (a.testBit ((((i : Nat) : Int) - sh).toNat))) * pw i % 18446744073709551616) (bval_u (by omega)) hu17]
     have hu18 : (bval i (mvR wd a sh fl)) ||| ((bitN (a.testBit ((((i : Nat) : Int) - sh).toNat))) * pw i % 18446744073709551616) < 18446744073709551616 := or_lt (bval_u (by omega)) hu17
     refine fixR (y := ((bval (i + 1) (mvR wd a sh fl) : Nat) : Int)) (congrArg (fun z : Nat => (z : Int)) (bval_orB i (mvR wd a sh fl) (a.testBit ((((i : Nat) : Int) - sh).toNat)) (by omega) (by unfold mvR; first | rw [if_pos (by omega)] | rw [if_neg (by omega), if_pos (by omega)] | rw [if_neg (by omega), if_neg (by omega)]))) ?_
     refine zS [(9, .int .u64 ((bval (i + 1) (mvR wd a sh fl) : Nat) : Int))] ?_
     refine op_nil ?_
     refine zF [(0, .int .i64 ((wd : Nat) : Int)), (1, .int .u64 ((a : Nat) : Int)), (2, .int .i64 sh), (3, .bool fl), (9, .int .u64 ((bval (i + 1) (mvR wd a sh fl) : Nat) : Int)), (10, .int .i64 ((i : Nat) : Int)), (11, .int .i64 (((i : Nat) : Int) - sh)), (12, .bool (a.testBit ((((i : Nat) : Int) - sh).toNat))), (15, .bool (decide (((i : Nat) : Int) < ((wd : Nat) : Int)))), (23, .bool (decide (((i : Nat) : Int) - sh ≥ ((wd : Nat) : Int)))), (26, .bool (decide (((i : Nat) : Int) - sh ≥ 0)))] fun ρ => ?_
     refine zR ?_
     refine zS [(16, .int .i64 ((i : Nat) : Int)), (17, .int .i64 (IntKind.i64.wrap (((i : Nat) : Int) + 1)))] ?_
     rw [show IntKind.i64.wrap (((i : Nat) : Int) + 1) = ((i : Nat) : Int) + 1 from wrap_i64 (by omega) (by omega)]
     refine fixR (y := ((i + 1 : Nat) : Int)) (by omega) ?_
     refine zS [(10, .int .i64 ((i + 1 : Nat) : Int))] ?_
     refine op_nil ?_
     refine ⟨_, ?_, i + 1, _, updL_self (by kernel_rfl), ?_, hT0, rfl⟩
     ·
      omega
     ·
      omega
    ·
     replace hc10 : ((i : Nat) : Int) - sh < 0 := (Int.not_le.1 (of_decide_eq_false hc10))
     refine W_skip ?_
     refine zR ?_
     refine zS [(30, .int .u64 ((bval i (mvR wd a sh fl) : Nat) : Int)), (31, .bool false)] ?_
     refine zC (bit1_ok false _) ?_
     rintro _ w19 ⟨rfl, hT20⟩
     have hT0 := hT0.t0 hT20
     have hu21 := bitN_lt false
     have hb122 := bitN_u false
     refine zS [(33, .int .i64 ((i : Nat) : Int)), (34, .int .u64 (IntKind.u64.wrap ((i : Nat) : Int)))] ?_
     rw [show IntKind.u64.wrap ((i : Nat) : Int) = ((i : Nat) : Int) from wrap_u64 (by omega) (by omega)]
     refine stv (v := .int .u64 (((bitN false) * pw i % 18446744073709551616 : Nat) : Int)) (by rfl) (R_shlP (k2 := .u64) (bitN false) i (by kernel_rfl) (by kernel_rfl) (by omega)) ?_
     have hu23 : (bitN false) * pw i % 18446744073709551616 < 18446744073709551616 := mod_lt64 _
     refine zS [(36, .int .u64 (IntKind.u64.wrap (BitVec.ofInt 64 ((bval i (mvR wd a sh fl) : Nat) : Int) ||| BitVec.ofInt 64 (((bitN false) * pw i % 18446744073709551616 : Nat) : Int)).toNat))] ?_
     rw [show IntKind.u64.wrap (BitVec.ofInt 64 ((bval i (mvR wd a sh fl) : Nat) : Int) ||| BitVec.ofInt 64 (((bitN false) * pw i % 18446744073709551616 : Nat) : Int)).toNat = (((bval i (mvR wd a sh fl)) ||| ((bitN false) * pw i % 18446744073709551616) : Nat) : Int) from or_u (bval i (mvR wd a sh fl)) ((bitN false) * pw i % 18446744073709551616) (bval_u (by omega)) hu23]
     have hu24 : (bval i (mvR wd a sh fl)) ||| ((bitN false) * pw i % 18446744073709551616) < 18446744073709551616 := or_lt (bval_u (by omega)) hu23
     refine fixR (y := ((bval (i + 1) (mvR wd a sh fl) : Nat) : Int)) (congrArg (fun z : Nat => (z : Int)) (bval_orB i (mvR wd a sh fl) false (by omega) (by unfold mvR; first | rw [if_pos (by omega)] | rw [if_neg (by omega), if_pos (by omega)] | rw [if_neg (by omega), if_neg (by omega)]))) ?_
     refine zS [(9, .int .u64 ((bval (i + 1) (mvR wd a sh fl) : Nat) : Int))] ?_
     refine op_nil ?_
     refine zF [(0, .int .i64 ((wd : Nat) : Int)), (1, .int .u64 ((a : Nat) : Int)), (2, .int .i64 sh), (3, .bool fl), (9, .int .u64 ((bval (i + 1) (mvR wd a sh fl) : Nat) : Int)), (10, .int .i64 ((i : Nat) : Int)), (11, .int .i64 (((i : Nat) : Int) - sh)), (12, .bool false), (15, .bool (decide (((i : Nat) : Int) < ((wd : Nat) : Int)))), (23, .bool (decide (((i : Nat) : Int) - sh ≥ ((wd : Nat) : Int)))), (26, .bool (decide (((i : Nat) : Int) - sh ≥ 0)))] fun ρ => ?_
     refine zR ?_
     refine zS [(16, .int .i64 ((i : Nat) : Int)), (17, .int .i64 (IntKind.i64.wrap (((i : Nat) : Int) + 1)))] ?_
     rw [show IntKind.i64.wrap (((i : Nat) : Int) + 1) = ((i : Nat) : Int) + 1 from wrap_i64 (by omega) (by omega)]
     refine fixR (y := ((i + 1 : Nat) : Int)) (by omega) ?_
     refine zS [(10, .int .i64 ((i + 1 : Nat) : Int))] ?_
     refine op_nil ?_
     refine ⟨_, ?_, i + 1, _, updL_self (by kernel_rfl), ?_, hT0, rfl⟩
     ·
      omega
     ·
      omega
  ·
   replace hc2 : ((wd : Nat) : Int) ≤ ((i : Nat) : Int) := (Int.not_lt.1 (of_decide_eq_false hc2))
   refine W_exit ?_
   refine X_hit ?_
   refine zQ ?_
   refine zS [(37, .int .u64 ((bval i (mvR wd a sh fl) : Nat) : Int)), (8, .int .u64 ((bval i (mvR wd a sh fl) : Nat) : Int))] ?_
   refine op_nil ?_
   refine W_ret ?_
   exact ⟨_, Res_of (v := .int .u64 ((bval i (mvR wd a sh fl) : Nat) : Int)) (by kernel_rfl), ⟨by rw [show i = wd by omega], hT0⟩⟩

set_option maxRecDepth 100000 in
theorem shift9_ok (wd a b : Nat) (w : World) (h1 : 1 ≤ wd) (h2 : wd ≤ 64) (ha : a < 18446744073709551616) (hb : b < 18446744073709551616) : Ret Try.prog 108 [.int .i64 9, .int .i64 ((wd : Nat) : Int), .int .u64 ((a : Nat) : Int), .int .u64 ((b : Nat) : Int)] w fun v w' => v = .int .u64 ((bval wd (mvB true wd (fun j => a.testBit j) false b) : Nat) : Int) ∧ Tch N0 w w' := by
 refine enter Try.func108 rfl rfl ?_
 refine zQ ?_
 refine zS [(8, .int .u64 0)] ?_
 refine op_nil ?_
 refine zQ ?_
 refine zS [(9, .int .i64 64)] ?_
 refine op_nil ?_
 refine W_seq ?_
 refine zQ ?_
 refine zS [(10, .int .u64 ((b : Nat) : Int)), (11, .bool (decide (((b : Nat) : Int) < 64)))] ?_
 refine zO (decide (((b : Nat) : Int) < 64)) (fun hc1 => ?_) (fun hc1 => ?_)
 ·
  replace hc1 : ((b : Nat) : Int) < 64 := (of_decide_eq_true hc1)
  refine zR ?_
  refine zS [(12, .int .u64 ((b : Nat) : Int)), (13, .int .i64 (IntKind.i64.wrap ((b : Nat) : Int)))] ?_
  rw [show IntKind.i64.wrap ((b : Nat) : Int) = ((b : Nat) : Int) from wrap_i64 (by omega) (by omega)]
  refine zS [(9, .int .i64 ((b : Nat) : Int))] ?_
  refine op_nil ?_
  refine W_seq ?_
  refine zQ ?_
  refine zS [(14, .int .i64 9)] ?_
  refine op_nil ?_
  refine W_block ?_
  refine W_seq ?_
  refine zF [(0, .int .i64 9), (1, .int .i64 ((wd : Nat) : Int)), (2, .int .u64 ((a : Nat) : Int)), (3, .int .u64 ((b : Nat) : Int)), (8, .int .u64 0), (9, .int .i64 ((b : Nat) : Int)), (11, .bool (decide (((b : Nat) : Int) < 64))), (14, .int .i64 9)] fun ρ => ?_
  refine zR ?_
  refine zS [(16, .bool true), (15, .bool true)] ?_
  refine zO true (fun _ => ?_) (fun h => nomatch h)
  refine zQ ?_
  refine zS [(17, .int .i64 ((wd : Nat) : Int)), (18, .int .u64 ((a : Nat) : Int)), (19, .int .i64 ((b : Nat) : Int))] ?_
  refine zC (moved_ok wd a ((b : Nat) : Int) false _ (by omega) (by omega) (by omega) ha) ?_
  rintro _ w2 ⟨rfl, hT3⟩
  have hT0 := hT3
  have hu4 : bval wd (mvR wd a ((b : Nat) : Int) false) < 18446744073709551616 := bval_u (by omega)
  refine zS [(8, .int .u64 ((bval wd (mvR wd a ((b : Nat) : Int) false) : Nat) : Int))] ?_
  refine op_nil ?_
  refine W_ret ?_
  exact ⟨_, Res_of (v := .int .u64 ((bval wd (mvR wd a ((b : Nat) : Int) false) : Nat) : Int)) (by kernel_rfl), ⟨congrArg (fun z : Nat => Value.int .u64 (z : Int)) (bval_congr fun j hj => mvR_up hj (by omega)  _ (by split <;> omega)), hT0⟩⟩
 ·
  replace hc1 : 64 ≤ ((b : Nat) : Int) := (Int.not_lt.1 (of_decide_eq_false hc1))
  refine W_skip ?_
  refine W_seq ?_
  refine zQ ?_
  refine zS [(14, .int .i64 9)] ?_
  refine op_nil ?_
  refine W_block ?_
  refine zQ ?_
  refine zS [(16, .bool true), (15, .bool true)] ?_
  refine zO true (fun _ => ?_) (fun h => nomatch h)
  refine zQ ?_
  refine zS [(17, .int .i64 ((wd : Nat) : Int)), (18, .int .u64 ((a : Nat) : Int)), (19, .int .i64 64)] ?_
  refine zC (moved_ok wd a 64 false _ (by omega) (by omega) (by omega) ha) ?_
  rintro _ w5 ⟨rfl, hT6⟩
  have hT0 := hT6
  have hu7 : bval wd (mvR wd a 64 false) < 18446744073709551616 := bval_u (by omega)
  refine zS [(8, .int .u64 ((bval wd (mvR wd a 64 false) : Nat) : Int))] ?_
  refine op_nil ?_
  refine W_ret ?_
  exact ⟨_, Res_of (v := .int .u64 ((bval wd (mvR wd a 64 false) : Nat) : Int)) (by kernel_rfl), ⟨congrArg (fun z : Nat => Value.int .u64 (z : Int)) (bval_congr fun j hj => mvR_up hj (by omega)  _ (by split <;> omega)), hT0⟩⟩

set_option maxRecDepth 100000 in
theorem shift10_ok (wd a b : Nat) (w : World) (h1 : 1 ≤ wd) (h2 : wd ≤ 64) (ha : a < 18446744073709551616) (hb : b < 18446744073709551616) : Ret Try.prog 108 [.int .i64 10, .int .i64 ((wd : Nat) : Int), .int .u64 ((a : Nat) : Int), .int .u64 ((b : Nat) : Int)] w fun v w' => v = .int .u64 ((bval wd (mvB false wd (fun j => a.testBit j) false b) : Nat) : Int) ∧ Tch N0 w w' := by
 refine enter Try.func108 rfl rfl ?_
 refine zQ ?_
 refine zS [(8, .int .u64 0)] ?_
 refine op_nil ?_
 refine zQ ?_
 refine zS [(9, .int .i64 64)] ?_
 refine op_nil ?_
 refine W_seq ?_
 refine zQ ?_
 refine zS [(10, .int .u64 ((b : Nat) : Int)), (11, .bool (decide (((b : Nat) : Int) < 64)))] ?_
 refine zO (decide (((b : Nat) : Int) < 64)) (fun hc1 => ?_) (fun hc1 => ?_)
 ·
  replace hc1 : ((b : Nat) : Int) < 64 := (of_decide_eq_true hc1)
  refine zR ?_
  refine zS [(12, .int .u64 ((b : Nat) : Int)), (13, .int .i64 (IntKind.i64.wrap ((b : Nat) : Int)))] ?_
  rw [show IntKind.i64.wrap ((b : Nat) : Int) = ((b : Nat) : Int) from wrap_i64 (by omega) (by omega)]
  refine zS [(9, .int .i64 ((b : Nat) : Int))] ?_
  refine op_nil ?_
  refine W_seq ?_
  refine zQ ?_
  refine zS [(14, .int .i64 10)] ?_
  refine op_nil ?_
  refine W_block ?_
  refine W_seq ?_
  refine zF [(0, .int .i64 10), (1, .int .i64 ((wd : Nat) : Int)), (2, .int .u64 ((a : Nat) : Int)), (3, .int .u64 ((b : Nat) : Int)), (8, .int .u64 0), (9, .int .i64 ((b : Nat) : Int)), (11, .bool (decide (((b : Nat) : Int) < 64))), (14, .int .i64 10)] fun ρ => ?_
  refine zR ?_
  refine zS [(16, .bool false), (15, .bool false)] ?_
  refine zO false (fun h => nomatch h) (fun _ => ?_)
  refine zQ ?_
  refine zS [(22, .bool true), (21, .bool true)] ?_
  refine zO true (fun _ => ?_) (fun h => nomatch h)
  refine zQ ?_
  refine zS [(23, .int .i64 ((wd : Nat) : Int)), (24, .int .u64 ((a : Nat) : Int)), (25, .int .i64 ((b : Nat) : Int)), (26, .int .i64 (IntKind.i64.wrap (0 - ((b : Nat) : Int))))] ?_
  rw [show IntKind.i64.wrap (0 - ((b : Nat) : Int)) = 0 - ((b : Nat) : Int) from wrap_i64 (by omega) (by omega)]
  refine zC (moved_ok wd a (0 - ((b : Nat) : Int)) false _ (by omega) (by omega) (by omega) ha) ?_
  rintro _ w2 ⟨rfl, hT3⟩
  have hT0 := hT3
  have hu4 : bval wd (mvR wd a (0 - ((b : Nat) : Int)) false) < 18446744073709551616 := bval_u (by omega)
  refine zS [(8, .int .u64 ((bval wd (mvR wd a (0 - ((b : Nat) : Int)) false) : Nat) : Int))] ?_
  refine op_nil ?_
  refine W_ret ?_
  exact ⟨_, Res_of (v := .int .u64 ((bval wd (mvR wd a (0 - ((b : Nat) : Int)) false) : Nat) : Int)) (by kernel_rfl), ⟨congrArg (fun z : Nat => Value.int .u64 (z : Int)) (bval_congr fun j hj => mvR_dn' hj (by omega) _ _ (by split <;> omega)), hT0⟩⟩
 ·
  replace hc1 : 64 ≤ ((b : Nat) : Int) := (Int.not_lt.1 (of_decide_eq_false hc1))
  refine W_skip ?_
  refine W_seq ?_
  refine zQ ?_
  refine zS [(14, .int .i64 10)] ?_
  refine op_nil ?_
  refine W_block ?_
  refine zQ ?_
  refine zS [(16, .bool false), (15, .bool false)] ?_
  refine zO false (fun h => nomatch h) (fun _ => ?_)
  refine zQ ?_
  refine zS [(22, .bool true), (21, .bool true)] ?_
  refine zO true (fun _ => ?_) (fun h => nomatch h)
  refine W_seq ?_
  refine zF [(0, .int .i64 10), (1, .int .i64 ((wd : Nat) : Int)), (2, .int .u64 ((a : Nat) : Int)), (3, .int .u64 ((b : Nat) : Int)), (8, .int .u64 0), (9, .int .i64 64), (11, .bool (decide (((b : Nat) : Int) < 64))), (14, .int .i64 10), (15, .bool false), (21, .bool true)] fun ρ => ?_
  refine zR ?_
  refine zS [(23, .int .i64 ((wd : Nat) : Int)), (24, .int .u64 ((a : Nat) : Int)), (25, .int .i64 64), (26, .int .i64 (-64))] ?_
  refine zC (moved_ok wd a (-64) false _ (by omega) (by omega) (by omega) ha) ?_
  rintro _ w5 ⟨rfl, hT6⟩
  have hT0 := hT6
  have hu7 : bval wd (mvR wd a (-64) false) < 18446744073709551616 := bval_u (by omega)
  refine zS [(8, .int .u64 ((bval wd (mvR wd a (-64) false) : Nat) : Int))] ?_
  refine op_nil ?_
  refine W_ret ?_
  exact ⟨_, Res_of (v := .int .u64 ((bval wd (mvR wd a (-64) false) : Nat) : Int)) (by kernel_rfl), ⟨congrArg (fun z : Nat => Value.int .u64 (z : Int)) (bval_congr fun j hj => mvR_dn' hj (by omega) _ _ (by split <;> omega)), hT0⟩⟩

set_option maxRecDepth 100000 in
theorem shift11_ok (wd a b : Nat) (w : World) (h1 : 1 ≤ wd) (h2 : wd ≤ 64) (ha : a < 18446744073709551616) (hb : b < 18446744073709551616) : Ret Try.prog 108 [.int .i64 11, .int .i64 ((wd : Nat) : Int), .int .u64 ((a : Nat) : Int), .int .u64 ((b : Nat) : Int)] w fun v w' => v = .int .u64 ((bval wd (mvB false wd (fun j => a.testBit j) (a.testBit (wd - 1)) b) : Nat) : Int) ∧ Tch N0 w w' := by
 refine enter Try.func108 rfl rfl ?_
 refine zQ ?_
 refine zS [(8, .int .u64 0)] ?_
 refine op_nil ?_
 refine zQ ?_
 refine zS [(9, .int .i64 64)] ?_
 refine op_nil ?_
 refine W_seq ?_
 refine zQ ?_
 refine zS [(10, .int .u64 ((b : Nat) : Int)), (11, .bool (decide (((b : Nat) : Int) < 64)))] ?_
 refine zO (decide (((b : Nat) : Int) < 64)) (fun hc1 => ?_) (fun hc1 => ?_)
 ·
  replace hc1 : ((b : Nat) : Int) < 64 := (of_decide_eq_true hc1)
  refine zR ?_
  refine zS [(12, .int .u64 ((b : Nat) : Int)), (13, .int .i64 (IntKind.i64.wrap ((b : Nat) : Int)))] ?_
  rw [show IntKind.i64.wrap ((b : Nat) : Int) = ((b : Nat) : Int) from wrap_i64 (by omega) (by omega)]
  refine zS [(9, .int .i64 ((b : Nat) : Int))] ?_
  refine op_nil ?_
  refine W_seq ?_
  refine zQ ?_
  refine zS [(14, .int .i64 11)] ?_
  refine op_nil ?_
  refine W_block ?_
  refine W_seq ?_
  refine zF [(0, .int .i64 11), (1, .int .i64 ((wd : Nat) : Int)), (2, .int .u64 ((a : Nat) : Int)), (3, .int .u64 ((b : Nat) : Int)), (8, .int .u64 0), (9, .int .i64 ((b : Nat) : Int)), (11, .bool (decide (((b : Nat) : Int) < 64))), (14, .int .i64 11)] fun ρ => ?_
  refine zR ?_
  refine zS [(16, .bool false), (15, .bool false)] ?_
  refine zO false (fun h => nomatch h) (fun _ => ?_)
  refine zQ ?_
  refine zS [(22, .bool false), (21, .bool false)] ?_
  refine zO false (fun h => nomatch h) (fun _ => ?_)
  refine W_skip ?_
  refine zQ ?_
  refine zS [(28, .int .i64 ((wd : Nat) : Int)), (29, .int .u64 ((a : Nat) : Int)), (30, .int .i64 ((b : Nat) : Int)), (31, .int .i64 (IntKind.i64.wrap (0 - ((b : Nat) : Int))))] ?_
  rw [show IntKind.i64.wrap (0 - ((b : Nat) : Int)) = 0 - ((b : Nat) : Int) from wrap_i64 (by omega) (by omega)]
  refine zS [(32, .int .u64 ((a : Nat) : Int)), (33, .int .i64 ((wd : Nat) : Int)), (34, .int .i64 (IntKind.i64.wrap (((wd : Nat) : Int) - 1)))] ?_
  rw [show IntKind.i64.wrap (((wd : Nat) : Int) - 1) = ((wd : Nat) : Int) - 1 from wrap_i64 (by omega) (by omega)]
  refine fixR (y := ((wd - 1 : Nat) : Int)) (by omega) ?_
  refine zC (rBit_ok a (wd - 1) _ (by omega) ha) ?_
  rintro _ w2 ⟨rfl, hT3⟩
  have hT0 := hT3
  refine zC (moved_ok wd a (0 - ((b : Nat) : Int)) (a.testBit (wd - 1)) _ (by omega) (by omega) (by omega) ha) ?_
  rintro _ w4 ⟨rfl, hT5⟩
  have hT0 := hT0.t0 hT5
  have hu6 : bval wd (mvR wd a (0 - ((b : Nat) : Int)) (a.testBit (wd - 1))) < 18446744073709551616 := bval_u (by omega)
  refine zS [(8, .int .u64 ((bval wd (mvR wd a (0 - ((b : Nat) : Int)) (a.testBit (wd - 1))) : Nat) : Int))] ?_
  refine op_nil ?_
  refine W_ret ?_
  exact ⟨_, Res_of (v := .int .u64 ((bval wd (mvR wd a (0 - ((b : Nat) : Int)) (a.testBit (wd - 1))) : Nat) : Int)) (by kernel_rfl), ⟨congrArg (fun z : Nat => Value.int .u64 (z : Int)) (bval_congr fun j hj => mvR_dn' hj (by omega) _ _ (by split <;> omega)), hT0⟩⟩
 ·
  replace hc1 : 64 ≤ ((b : Nat) : Int) := (Int.not_lt.1 (of_decide_eq_false hc1))
  refine W_skip ?_
  refine W_seq ?_
  refine zQ ?_
  refine zS [(14, .int .i64 11)] ?_
  refine op_nil ?_
  refine W_block ?_
  refine zQ ?_
  refine zS [(16, .bool false), (15, .bool false)] ?_
  refine zO false (fun h => nomatch h) (fun _ => ?_)
  refine zQ ?_
  refine zS [(22, .bool false), (21, .bool false)] ?_
  refine zO false (fun h => nomatch h) (fun _ => ?_)
  refine W_skip ?_
  refine W_seq ?_
  refine zF [(0, .int .i64 11), (1, .int .i64 ((wd : Nat) : Int)), (2, .int .u64 ((a : Nat) : Int)), (3, .int .u64 ((b : Nat) : Int)), (8, .int .u64 0), (9, .int .i64 64), (11, .bool (decide (((b : Nat) : Int) < 64))), (14, .int .i64 11), (15, .bool false), (21, .bool false)] fun ρ => ?_
  refine zR ?_
  refine zS [(28, .int .i64 ((wd : Nat) : Int)), (29, .int .u64 ((a : Nat) : Int)), (30, .int .i64 64), (31, .int .i64 (-64)), (32, .int .u64 ((a : Nat) : Int)), (33, .int .i64 ((wd : Nat) : Int)), (34, .int .i64 (IntKind.i64.wrap (((wd : Nat) : Int) - 1)))] ?_
  rw [show IntKind.i64.wrap (((wd : Nat) : Int) - 1) = ((wd : Nat) : Int) - 1 from wrap_i64 (by omega) (by omega)]
  refine fixR (y := ((wd - 1 : Nat) : Int)) (by omega) ?_
  refine zC (rBit_ok a (wd - 1) _ (by omega) ha) ?_
  rintro _ w7 ⟨rfl, hT8⟩
  have hT0 := hT8
  refine zC (moved_ok wd a (-64) (a.testBit (wd - 1)) _ (by omega) (by omega) (by omega) ha) ?_
  rintro _ w9 ⟨rfl, hT10⟩
  have hT0 := hT0.t0 hT10
  have hu11 : bval wd (mvR wd a (-64) (a.testBit (wd - 1))) < 18446744073709551616 := bval_u (by omega)
  refine zS [(8, .int .u64 ((bval wd (mvR wd a (-64) (a.testBit (wd - 1))) : Nat) : Int))] ?_
  refine op_nil ?_
  refine W_ret ?_
  exact ⟨_, Res_of (v := .int .u64 ((bval wd (mvR wd a (-64) (a.testBit (wd - 1))) : Nat) : Int)) (by kernel_rfl), ⟨congrArg (fun z : Nat => Value.int .u64 (z : Int)) (bval_congr fun j hj => mvR_dn' hj (by omega) _ _ (by split <;> omega)), hT0⟩⟩

theorem shift_all (O wd a b : Nat) (w : World) (h1 : 1 ≤ wd) (h2 : wd ≤ 64) (ha : a < 18446744073709551616) (hb : b < 18446744073709551616) (hO : 9 ≤ O ∧ O ≤ 11) : Ret Try.prog 108 [.int .i64 ((O : Nat) : Int), .int .i64 ((wd : Nat) : Int), .int .u64 ((a : Nat) : Int), .int .u64 ((b : Nat) : Int)] w fun v w' => ∃ X : Nat, v = .int .u64 ((X : Nat) : Int) ∧ BinX O wd a b X ∧ Tch N0 w w' := by
 have ho : O = 9 ∨ O = 10 ∨ O = 11 := by omega
 rcases ho with rfl | rfl | rfl
 ·
  exact (shift9_ok wd a b w h1 h2 ha hb).mono fun v w' q => ⟨_, q.1, ⟨bval_u h2, by simp, by simp, by simp, by simp, fun _ => rfl, by simp, by simp, by simp⟩, q.2⟩
 ·
  exact (shift10_ok wd a b w h1 h2 ha hb).mono fun v w' q => ⟨_, q.1, ⟨bval_u h2, by simp, by simp, by simp, by simp, by simp, fun _ => rfl, by simp, by simp⟩, q.2⟩
 ·
  exact (shift11_ok wd a b w h1 h2 ha hb).mono fun v w' q => ⟨_, q.1, ⟨bval_u h2, by simp, by simp, by simp, by simp, by simp, by simp, by simp, by simp⟩, q.2⟩

set_option maxRecDepth 100000 in
theorem signed_ok (wd x : Nat) (w : World) (h1 : 1 ≤ wd) (h2 : wd ≤ 64) (hx : x < pw wd) : Ret Try.prog 88 [.int .i64 ((wd : Nat) : Int), .int .u64 ((x : Nat) : Int)] w fun v w' => v = .int .i64 (IntKind.i64.wrap ((sxN wd x : Nat) : Int)) ∧ Tch N0 w w' := by
 have hp64 := pw64 (w := wd) (by omega)
 have hpp := pw_pos wd
 have hx_ : x < 18446744073709551616 := by omega
 refine enter Try.func88 rfl rfl ?_
 refine zQ ?_
 refine zS [(4, .int .i64 0)] ?_
 refine op_nil ?_
 refine W_seq ?_
 refine zQ ?_
 refine zS [(5, .int .i64 ((wd : Nat) : Int))] ?_
 refine zC (rfits_t wd _ (by omega) (by omega)) ?_
 rintro _ w1 ⟨rfl, hT2⟩
 have hT0 := hT2
 refine zS [(7, .bool false)] ?_
 refine zO false (fun h => nomatch h) (fun _ => ?_)
 refine W_skip ?_
 refine zQ ?_
 refine zS [(8, .int .i64 ((wd : Nat) : Int)), (9, .int .u64 ((x : Nat) : Int))] ?_
 refine zC (rcutI_ok wd x _ (by omega) hx) ?_
 rintro _ w3 ⟨rfl, hT4⟩
 have hT0 := hT0.t0 hT4
 refine zS [(1, .int .u64 ((x : Nat) : Int))] ?_
 refine op_nil ?_
 refine W_seq ?_
 refine W_seq ?_
 refine zF [(0, .int .i64 ((wd : Nat) : Int)), (1, .int .u64 ((x : Nat) : Int)), (4, .int .i64 0), (7, .bool false)] fun ρ => ?_
 refine zR ?_
 refine zS [(11, .int .u64 ((x : Nat) : Int)), (12, .int .i64 ((wd : Nat) : Int)), (13, .int .i64 (IntKind.i64.wrap (((wd : Nat) : Int) - 1)))] ?_
 rw [show IntKind.i64.wrap (((wd : Nat) : Int) - 1) = ((wd : Nat) : Int) - 1 from wrap_i64 (by omega) (by omega)]
 refine fixR (y := ((wd - 1 : Nat) : Int)) (by omega) ?_
 refine zC (rBit_ok x (wd - 1) _ (by omega) hx_) ?_
 rintro _ w5 ⟨rfl, hT6⟩
 have hT0 := hT0.t0 hT6
 refine zO (x.testBit (wd - 1)) (fun hc7 => ?_) (fun hc7 => ?_)
 ·
  replace hc7 : x.testBit (wd - 1) = true := (hc7)
  refine zR ?_
  refine zS [(15, .int .u64 ((x : Nat) : Int)), (16, .int .i64 ((wd : Nat) : Int))] ?_
  refine zC (rmask_okN wd _ (by omega)) ?_
  rintro _ w8 ⟨rfl, hT9⟩
  have hT0 := hT0.t0 hT9
  have hu10 := pwm_lt (x := wd) (by omega)
  refine stv (v := .int .u64 (((18446744073709551615 - (pw wd - 1) : Nat)) : Int)) (by rfl) (R_not64 (pw wd - 1) (by kernel_rfl) (by omega)) ?_
  refine zS [(19, .int .u64 (IntKind.u64.wrap (BitVec.ofInt 64 ((x : Nat) : Int) ||| BitVec.ofInt 64 ((18446744073709551615 - (pw wd - 1) : Nat) : Int)).toNat))] ?_
  rw [show IntKind.u64.wrap (BitVec.ofInt 64 ((x : Nat) : Int) ||| BitVec.ofInt 64 ((18446744073709551615 - (pw wd - 1) : Nat) : Int)).toNat = ((x ||| (18446744073709551615 - (pw wd - 1)) : Nat) : Int) from or_u x (18446744073709551615 - (pw wd - 1)) hx_ (by omega)]
  have hu11 : x ||| (18446744073709551615 - (pw wd - 1)) < 18446744073709551616 := or_lt hx_ (by omega)
  refine zS [(1, .int .u64 ((x ||| (18446744073709551615 - (pw wd - 1)) : Nat) : Int))] ?_
  refine op_nil ?_
  refine W_seq ?_
  refine zF [(0, .int .i64 ((wd : Nat) : Int)), (1, .int .u64 ((x ||| (18446744073709551615 - (pw wd - 1)) : Nat) : Int)), (4, .int .i64 0), (7, .bool false), (14, .bool (x.testBit (wd - 1)))] fun ρ => ?_
  refine zR ?_
  refine zS [(20, .int .u64 ((x ||| (18446744073709551615 - (pw wd - 1)) : Nat) : Int)), (21, .int .i64 (IntKind.i64.wrap ((x ||| (18446744073709551615 - (pw wd - 1)) : Nat) : Int))), (4, .int .i64 (IntKind.i64.wrap ((x ||| (18446744073709551615 - (pw wd - 1)) : Nat) : Int)))] ?_
  refine op_nil ?_
  refine W_ret ?_
  exact ⟨_, Res_of (v := .int .i64 (IntKind.i64.wrap ((x ||| (18446744073709551615 - (pw wd - 1)) : Nat) : Int))) (by kernel_rfl), ⟨congrArg (fun z : Nat => Value.int .i64 (IntKind.i64.wrap (z : Int))) (by unfold sxN; first | rw [if_pos (by assumption)] | rw [if_neg (by simp_all)]), hT0⟩⟩
 ·
  replace hc7 : x.testBit (wd - 1) = false := (hc7)
  refine W_skip ?_
  refine zQ ?_
  refine zS [(20, .int .u64 ((x : Nat) : Int)), (21, .int .i64 (IntKind.i64.wrap ((x : Nat) : Int))), (4, .int .i64 (IntKind.i64.wrap ((x : Nat) : Int)))] ?_
  refine op_nil ?_
  refine W_ret ?_
  exact ⟨_, Res_of (v := .int .i64 (IntKind.i64.wrap ((x : Nat) : Int))) (by kernel_rfl), ⟨congrArg (fun z : Nat => Value.int .i64 (IntKind.i64.wrap (z : Int))) (by unfold sxN; first | rw [if_pos (by assumption)] | rw [if_neg (by simp_all)]), hT0⟩⟩

set_option maxRecDepth 100000 in
theorem una15_ok (wd a : Nat) (w : World) (h1 : 1 ≤ wd) (h2 : wd ≤ 64) (ha : a < pw wd) : Ret Try.prog 89 [.int .i64 15, .int .i64 ((wd : Nat) : Int), .int .u64 ((a : Nat) : Int)] w fun v w' => v = .tuple #[.int .u64 ((cutN wd (18446744073709551615 - a) : Nat) : Int), .int .i64 0] ∧ Tch N0 w w' := by
 have hp64 := pw64 (w := wd) (by omega)
 have ha_ : a < 18446744073709551616 := by omega
 refine enter Try.func89 rfl rfl ?_
 refine zQ ?_
 refine zS [(6, .int .u64 0), (7, .int .i64 0)] ?_
 refine op_nil ?_
 refine W_seq ?_
 refine zQ ?_
 refine zS [(8, .int .i64 15), (9, .bool false), (10, .bool false), (11, undef), (12, undef), (13, .bool false)] ?_
 refine zO false (fun h => nomatch h) (fun _ => ?_)
 refine W_skip ?_
 refine W_seq ?_
 refine W_seq ?_
 refine zF [(0, .int .i64 15), (1, .int .i64 ((wd : Nat) : Int)), (2, .int .u64 ((a : Nat) : Int)), (6, .int .u64 0), (7, .int .i64 0), (13, .bool false)] fun ρ => ?_
 refine zR ?_
 refine zS [(14, .int .i64 ((wd : Nat) : Int))] ?_
 refine zC (rfits_t wd _ (by omega) (by omega)) ?_
 rintro _ w1 ⟨rfl, hT2⟩
 have hT0 := hT2
 refine zS [(16, .bool false)] ?_
 refine zO false (fun h => nomatch h) (fun _ => ?_)
 refine W_skip ?_
 refine W_seq ?_
 refine zQ ?_
 refine zS [(17, .int .i64 15), (18, .bool true)] ?_
 refine zO true (fun _ => ?_) (fun h => nomatch h)
 refine zQ ?_
 refine zS [(19, .int .i64 ((wd : Nat) : Int)), (20, .int .u64 ((a : Nat) : Int))] ?_
 refine stv (v := .int .u64 (((18446744073709551615 - a : Nat)) : Int)) (by rfl) (R_not64 a (by kernel_rfl) (by omega)) ?_
 refine zC (rcutN_ok wd (18446744073709551615 - a) _ (by omega) (by omega)) ?_
 rintro _ w3 ⟨rfl, hT4⟩
 have hT0 := hT0.t0 hT4
 have hu5 : cutN wd (18446744073709551615 - a) < 18446744073709551616 := Nat.lt_of_lt_of_le (cutN_lt _ _) (pw64 (by omega))
 refine zS [(6, .int .u64 ((cutN wd (18446744073709551615 - a) : Nat) : Int)), (7, .int .i64 0)] ?_
 refine op_nil ?_
 refine W_ret ?_
 exact ⟨_, Res_of (v := .tuple #[.int .u64 ((cutN wd (18446744073709551615 - a) : Nat) : Int), .int .i64 0]) (by kernel_rfl), ⟨rfl, hT0⟩⟩

set_option maxRecDepth 100000 in
theorem una16_ok (wd a : Nat) (w : World) (h1 : 1 ≤ wd) (h2 : wd ≤ 64) (ha : a < pw wd) : Ret Try.prog 89 [.int .i64 16, .int .i64 ((wd : Nat) : Int), .int .u64 ((a : Nat) : Int)] w fun v w' => v = .tuple #[.int .u64 ((cutN wd ((18446744073709551616 - a) % 18446744073709551616) : Nat) : Int), .int .i64 0] ∧ Tch N0 w w' := by
 have hp64 := pw64 (w := wd) (by omega)
 have ha_ : a < 18446744073709551616 := by omega
 refine enter Try.func89 rfl rfl ?_
 refine zQ ?_
 refine zS [(6, .int .u64 0), (7, .int .i64 0)] ?_
 refine op_nil ?_
 refine W_seq ?_
 refine zQ ?_
 refine zS [(8, .int .i64 16), (9, .bool true), (10, .bool true), (11, .int .i64 16), (12, .bool false), (13, .bool false)] ?_
 refine zO false (fun h => nomatch h) (fun _ => ?_)
 refine W_skip ?_
 refine W_seq ?_
 refine W_seq ?_
 refine zF [(0, .int .i64 16), (1, .int .i64 ((wd : Nat) : Int)), (2, .int .u64 ((a : Nat) : Int)), (6, .int .u64 0), (7, .int .i64 0), (13, .bool false)] fun ρ => ?_
 refine zR ?_
 refine zS [(14, .int .i64 ((wd : Nat) : Int))] ?_
 refine zC (rfits_t wd _ (by omega) (by omega)) ?_
 rintro _ w1 ⟨rfl, hT2⟩
 have hT0 := hT2
 refine zS [(16, .bool false)] ?_
 refine zO false (fun h => nomatch h) (fun _ => ?_)
 refine W_skip ?_
 refine W_seq ?_
 refine zQ ?_
 refine zS [(17, .int .i64 16), (18, .bool false)] ?_
 refine zO false (fun h => nomatch h) (fun _ => ?_)
 refine W_skip ?_
 refine zQ ?_
 refine zS [(23, .int .i64 ((wd : Nat) : Int)), (24, .int .u64 ((a : Nat) : Int)), (25, .int .u64 (IntKind.u64.wrap (0 - ((a : Nat) : Int))))] ?_
 refine fixR (y := (((18446744073709551616 - a) % 18446744073709551616 : Nat) : Int)) (neg_u64 a ha_) ?_
 refine zC (rcutN_ok wd ((18446744073709551616 - a) % 18446744073709551616) _ (by omega) (mod_lt64 _)) ?_
 rintro _ w3 ⟨rfl, hT4⟩
 have hT0 := hT0.t0 hT4
 have hu5 : cutN wd ((18446744073709551616 - a) % 18446744073709551616) < 18446744073709551616 := Nat.lt_of_lt_of_le (cutN_lt _ _) (pw64 (by omega))
 refine zS [(6, .int .u64 ((cutN wd ((18446744073709551616 - a) % 18446744073709551616) : Nat) : Int)), (7, .int .i64 0)] ?_
 refine op_nil ?_
 refine W_ret ?_
 exact ⟨_, Res_of (v := .tuple #[.int .u64 ((cutN wd ((18446744073709551616 - a) % 18446744073709551616) : Nat) : Int), .int .i64 0]) (by kernel_rfl), ⟨rfl, hT0⟩⟩

end Go.Proofs.YtlbadnpgmkobdaaV

set_option linter.unusedVariables false
set_option linter.unusedSimpArgs false
namespace Go.Proofs.YtlbadnpgmkobdaaV
open Go Go.RowKit Go.Proofs
/-- A span: from one on, up to one, that fits the width. -/
def RI (w : Nat) (x : K) : Prop := x.1 ≤ x.2 ∧ x.2 < pw w
theorem RI.u2 {w : Nat} {x : K} (h : RI w x) (hw : w ≤ 64) : x.2 < 18446744073709551616 := Nat.lt_of_lt_of_le h.2 (pw64 hw)
theorem RI.u1 {w : Nat} {x : K} (h : RI w x) (hw : w ≤ 64) : x.1 < 18446744073709551616 := Nat.lt_of_le_of_lt h.1 (h.u2 hw)
def rall (w : Nat) : K := (0, pw w - 1)
theorem rall_RI (w : Nat) : RI w (rall w) := ⟨Nat.zero_le _, by have := pw_pos w; show pw w - 1 < pw w; omega⟩
/-- How many bits a number has. -/
def bl (x : Nat) : Nat := if x = 0 then 0 else x.log2 + 1
theorem bl_lt (x : Nat) : x < pw (bl x) := by
 unfold bl
 split
 ·
  rename_i h; subst h; decide
 ·
  exact Nat.lt_log2_self
theorem bl_le {x : Nat} (h : bl x ≠ 0) : pw (bl x - 1) ≤ x := by
 unfold bl at h ⊢
 split at h
 ·
  exact absurd rfl h
 ·
  rename_i q; rw [if_neg q]; exact Nat.log2_self_le q
theorem bl_eq {x n : Nat} (h1 : x < pw n) (h2 : n = 0 ∨ pw (n - 1) ≤ x) : bl x = n := by
 rcases Nat.lt_trichotomy (bl x) n with h | h | h
 ·
  have h3 := bl_lt x
  rcases h2 with h2 | h2
  ·
   omega
  ·
   have : pw (bl x) ≤ pw (n - 1) := Nat.pow_le_pow_right (n := 2) (by decide) (by omega)
   omega
 ·
  exact h
 ·
  have h3 := bl_le (x := x) (by omega)
  have : pw n ≤ pw (bl x - 1) := Nat.pow_le_pow_right (n := 2) (by decide) (by omega)
  omega
theorem bl_div {x k : Nat} (h : pw k ≤ x) : bl (x / pw k) + k = bl x := by
 symm
 have hp := pw_pos k
 have h0 : 1 ≤ x / pw k := (Nat.le_div_iff_mul_le (by omega)).2 (by omega)
 have hb : bl (x / pw k) ≠ 0 := fun e => by have := bl_lt (x / pw k); rw [e] at this; have e0 : pw 0 = 1 := rfl; omega
 have e1 : pw (bl (x / pw k) + k) = pw (bl (x / pw k)) * pw k := Nat.pow_add 2 _ _
 refine bl_eq ?_ (.inr ?_)
 ·
  rw [e1]; exact (Nat.div_lt_iff_lt_mul (by omega)).1 (bl_lt _)
 ·
  have e2 : pw (bl (x / pw k) + k - 1) = pw (bl (x / pw k) - 1) * pw k := by
   rw [show bl (x / pw k) + k - 1 = (bl (x / pw k) - 1) + k by omega]; exact Nat.pow_add 2 _ _
  rw [e2]; exact (Nat.le_div_iff_mul_le (by omega)).1 (bl_le hb)
theorem bl_le64 {x n : Nat} (h : x < pw n) : bl x ≤ n := by
 rcases Nat.lt_or_ge n (bl x) with q | q
 ·
  have h3 := bl_le (x := x) (by omega)
  have : pw n ≤ pw (bl x - 1) := Nat.pow_le_pow_right (n := 2) (by decide) (by omega)
  omega
 ·
  exact q
/-- All bits below the highest. -/
def rfill (x : Nat) : Nat := pw (bl x) - 1
theorem bl_or (a b : Nat) : bl (a ||| b) = bl (max a b) := by
 have h : max a b ≤ a ||| b := Nat.max_le.2 ⟨Nat.left_le_or, Nat.right_le_or⟩
 refine bl_eq ?_ ?_
 ·
  have h1 : a < pw (bl (max a b)) := Nat.lt_of_le_of_lt (Nat.le_max_left a b) (bl_lt _)
  have h2 : b < pw (bl (max a b)) := Nat.lt_of_le_of_lt (Nat.le_max_right a b) (bl_lt _)
  exact Nat.or_lt_two_pow h1 h2
 ·
  by_cases q : bl (max a b) = 0
  ·
   exact .inl q
  ·
   exact .inr (Nat.le_trans (bl_le q) h)
theorem rfill_ge (x : Nat) : x ≤ rfill x := by have := bl_lt x; unfold rfill; omega
theorem rfill_lt {x w : Nat} (h : x < pw w) : rfill x < pw w := by
 have h1 : pw (bl x) ≤ pw w := Nat.pow_le_pow_right (n := 2) (by decide) (bl_le64 h)
 have := pw_pos (bl x)
 unfold rfill; omega
def rtruth (m n : Bool) : K := if m = true then (1, 1) else if n = true then (0, 0) else (0, 1)
theorem rtruth_RI (m n : Bool) : RI 1 (rtruth m n) := by
 unfold rtruth
 split
 ·
  exact ⟨Nat.le_refl _, by decide⟩
 ·
  split
  ·
   exact ⟨Nat.le_refl _, by decide⟩
  ·
   exact ⟨by decide, by decide⟩
/-- Two spans' operation. -/
def rbin (O w : Nat) (x y : K) : K :=
 if O = 1 then (if x.2 ≤ pw w - 1 - y.2 then (x.1 + y.1, x.2 + y.2) else rall w)
 else if O = 2 then (if y.2 ≤ x.1 then (x.1 - y.2, x.2 - y.1) else rall w)
 else if O = 3 then (if x.2 * y.2 ≤ pw w - 1 then (x.1 * y.1, x.2 * y.2) else rall w)
 else if O = 4 then (if 0 < y.1 then (x.1 / y.2, x.2 / y.1) else rall w)
 else if O = 5 then (if 0 < y.1 then (0, min x.2 (y.2 - 1)) else (0, x.2))
 else if O = 10 then (0, x.2)
 else if O = 6 then (0, min x.2 y.2)
 else if O = 7 then (max x.1 y.1, rfill (max x.2 y.2))
 else if O = 12 then rtruth (decide (x = y) && decide (x.1 = x.2)) (decide (x.2 < y.1) || decide (y.2 < x.1))
 else if O = 13 then rtruth (decide (x.2 < y.1)) (decide (y.2 ≤ x.1))
 else if O = 14 then rall 1 else rall w
/-- A term's span. -/
def rone (O W wide up : Nat) (x y z : K) (lo V : Nat) : K :=
 if O = 20 then (V, V) else if O = 21 ∨ O = 16 then rall W else if O = 15 then (pw W - 1 - x.2, pw W - 1 - x.1)
 else if O = 22 then (if x.1 = 1 then y else if x.2 = 0 then z else (min y.1 z.1, max y.2 z.2))
 else if O = 23 then (if lo = 0 ∧ x.2 ≤ pw W - 1 then x else rall W)
 else if O = 24 then (x.1 * pw up % 18446744073709551616 ||| y.1, x.2 * pw up % 18446744073709551616 ||| y.2)
 else if O = 26 then (if x.2.testBit (wide - 1) = true then rall W else x) else if O = 25 then x else rbin O wide x y
def ronN (N : List Nd) (l : List K) (n : Nd) : K := rone (nO n).toNat (nW n).toNat (widF N (nA n)).toNat (widF N (nB n)).toNat (kg l (nA n).toNat) (kg l (nB n).toNat) (kg l (nC n).toNat) (nB n).toNat (nV n).toNat
def rl (N : List Nd) : Nat → List K
 | 0 => []
 | i + 1 => rl N i ++ [ronN N (rl N i) (nth N i)]
theorem rl_length (N : List Nd) (i : Nat) : (rl N i).length = i := by
 induction i with
 | zero => rfl
 | succ i ih => show (rl N i ++ [_]).length = _; rw [List.length_append, ih]; rfl
theorem rl_kg {N : List Nd} {i j : Nat} (h : i < j) : kg (rl N j) i = ronN N (rl N i) (nth N i) := by
 induction j with
 | zero => omega
 | succ j ih =>
  show kg (rl N j ++ [ronN N (rl N j) (nth N j)]) i = _
  by_cases e : i = j
  ·
   subst e
   have := kg_app_eq (l := rl N i) (x := ronN N (rl N i) (nth N i))
   rw [rl_length] at this
   exact this
  ·
   rw [kg_app_lt (by rw [rl_length]; omega)]
   exact ih (by omega)
/-! ### A span fits -/
theorem rbin_RI {O w nw : Nat} {x y : K} (hx : RI w x) (hy : RI w y) (h1 : 1 ≤ w) (hnw : nw = if O = 12 ∨ O = 13 ∨ O = 14 then 1 else w) : RI nw (rbin O w x y) := by
 have hp := pw_pos w
 obtain ⟨x1, x2⟩ := hx
 obtain ⟨y1, y2⟩ := hy
 have ra := rall_RI w
 unfold rbin
 by_cases q : O = 1
 ·
  rw [if_pos q, hnw, if_neg (by omega)]
  split
  ·
   exact ⟨by show x.1 + y.1 ≤ x.2 + y.2; omega, by show x.2 + y.2 < _; omega⟩
  ·
   exact ra
 rw [if_neg q]
 by_cases q : O = 2
 ·
  rw [if_pos q, hnw, if_neg (by omega)]
  split
  ·
   exact ⟨by show x.1 - y.2 ≤ x.2 - y.1; omega, by show x.2 - y.1 < _; omega⟩
  ·
   exact ra
 rw [if_neg q]
 by_cases q : O = 3
 ·
  rw [if_pos q, hnw, if_neg (by omega)]
  split
  ·
   exact ⟨Nat.mul_le_mul x1 y1, by show x.2 * y.2 < _; omega⟩
  ·
   exact ra
 rw [if_neg q]
 by_cases q : O = 4
 ·
  rw [if_pos q, hnw, if_neg (by omega)]
  split
  ·
   refine ⟨Nat.div_le_div x1 y1 (by omega), ?_⟩
   have := Nat.div_le_self x.2 y.1
   show x.2 / y.1 < _
   omega
  ·
   exact ra
 rw [if_neg q]
 by_cases q : O = 5
 ·
  rw [if_pos q, hnw, if_neg (by omega)]
  split
  ·
   exact ⟨Nat.zero_le _, by show min x.2 (y.2 - 1) < _; omega⟩
  ·
   exact ⟨Nat.zero_le _, x2⟩
 rw [if_neg q]
 by_cases q : O = 10
 ·
  rw [if_pos q, hnw, if_neg (by omega)]; exact ⟨Nat.zero_le _, x2⟩
 rw [if_neg q]
 by_cases q : O = 6
 ·
  rw [if_pos q, hnw, if_neg (by omega)]; exact ⟨Nat.zero_le _, by show min x.2 y.2 < _; omega⟩
 rw [if_neg q]
 by_cases q : O = 7
 ·
  rw [if_pos q, hnw, if_neg (by omega)]
  refine ⟨?_, rfill_lt (by omega)⟩
  have := rfill_ge (max x.2 y.2)
  show max x.1 y.1 ≤ rfill (max x.2 y.2)
  omega
 rw [if_neg q]
 by_cases q : O = 12
 ·
  rw [if_pos q, hnw, if_pos (by omega)]; exact rtruth_RI _ _
 rw [if_neg q]
 by_cases q : O = 13
 ·
  rw [if_pos q, hnw, if_pos (by omega)]; exact rtruth_RI _ _
 rw [if_neg q]
 by_cases q : O = 14
 ·
  rw [if_pos q, hnw, if_pos (by omega)]; exact rall_RI 1
 rw [if_neg q, hnw, if_neg (by omega)]
 exact ra
theorem or_add {a b up : Nat} (hb : b < pw up) : a * pw up ||| b = a * pw up + b := by
 rw [Nat.mul_comm]; exact (Nat.two_pow_add_eq_or_of_lt hb a).symm
theorem cat_span {wa up : Nat} {x y : K} (hx : RI wa x) (hy : RI up y) (hw : wa + up ≤ 64) : (x.1 * pw up % 18446744073709551616 ||| y.1, x.2 * pw up % 18446744073709551616 ||| y.2) = (x.1 * pw up + y.1, x.2 * pw up + y.2) := by
 rw [(cat_mod (Nat.lt_of_le_of_lt hx.1 hx.2) hw).1, (cat_mod hx.2 hw).1, or_add (Nat.lt_of_le_of_lt hy.1 hy.2), or_add hy.2]
theorem cat_RI {wa up : Nat} {x y : K} (hx : RI wa x) (hy : RI up y) : RI (wa + up) (x.1 * pw up + y.1, x.2 * pw up + y.2) := by
 refine ⟨?_, ?_⟩
 ·
  have := Nat.mul_le_mul_right (pw up) hx.1
  have := hy.1
  show x.1 * pw up + y.1 ≤ x.2 * pw up + y.2
  omega
 ·
  have e : pw (wa + up) = pw wa * pw up := Nat.pow_add 2 wa up
  have h := Nat.mul_le_mul_right (pw up) (show x.2 + 1 ≤ pw wa from hx.2)
  rw [Nat.add_mul, Nat.one_mul] at h
  have := hy.2
  show x.2 * pw up + y.2 < _
  rw [e]; omega
theorem RI.wider {w W : Nat} {x : K} (h : RI w x) (hw : w ≤ W) : RI W x := ⟨h.1, Nat.lt_of_lt_of_le h.2 (Nat.pow_le_pow_right (n := 2) (by decide) hw)⟩
theorem ronN_RI {N : List Nd} {l : List K} {i : Nat} {n : Nd} (h : NdW N i n) (hw : 1 ≤ nW n ∧ nW n ≤ 64) (hi : i ≤ N.length) (hws : ∀ x, pt i x → 1 ≤ widF N x ∧ widF N x ≤ 64) (hl : ∀ j, j < i → RI (nW (nth N j)).toNat (kg l j)) : RI (nW n).toNat (ronN N l n) := by
 have arg : ∀ x, pt i x → RI (widF N x).toNat (kg l x.toNat) := fun x p => by
  rw [wid_nth p hi]; exact hl _ (by have := p.1; have := p.2; omega)
 unfold ronN rone
 rcases h with h | h | ⟨h, a, e⟩ | ⟨h, a, b, e, e2⟩ | ⟨h, a, b, c, e, e2, e3⟩ | ⟨h, a, b, e⟩ | ⟨h, a, b, e⟩ | ⟨h, a, e⟩
 ·
  rw [if_pos (by omega)]
  have h2 := h.2.2
  have e : ((pw (nW n).toNat : Nat) : Int) = 2 ^ (nW n).toNat := by (unfold pw; simp)
  rw [← e] at h2
  exact ⟨Nat.le_refl _, by show (nV n).toNat < _; omega⟩
 ·
  rw [if_neg (by omega), if_pos (by omega)]; exact rall_RI _
 ·
  rcases h with h | h
  ·
   rw [if_neg (by omega), if_neg (by omega), if_pos (by omega), e]
   have hx := arg _ a
   have := hx.1
   have := hx.2
   exact ⟨by show pw _ - 1 - _ ≤ pw _ - 1 - _; omega, by show pw _ - 1 - _ < _; omega⟩
  ·
   rw [if_neg (by omega), if_pos (by omega)]; exact rall_RI _
 ·
  rw [if_neg (by omega), if_neg (by omega), if_neg (by omega), if_neg (by omega), if_neg (by omega), if_neg (by omega), if_neg (by omega), if_neg (by omega)]
  have hy := arg _ b
  rw [← e] at hy
  have w1 := hws _ a
  refine rbin_RI (arg _ a) hy (by omega) ?_
  rw [e2]
  by_cases q : nO n = 12 ∨ nO n = 13 ∨ nO n = 14
  ·
   rw [if_pos q, if_pos (by omega)]; rfl
  ·
   rw [if_neg q, if_neg (by omega)]
 ·
  rw [if_neg (by omega), if_neg (by omega), if_neg (by omega), if_pos (by omega)]
  have hy := arg _ b
  have hz := arg _ c
  rw [← e2, ← e3] at hz
  rw [← e3] at hy
  split
  ·
   exact hy
  ·
   split
   ·
    exact hz
   ·
    have := hy.1
    have := hy.2
    have := hz.1
    have := hz.2
    exact ⟨by show min _ _ ≤ max _ _; omega, by show max _ _ < _; omega⟩
 ·
  rw [if_neg (by omega), if_neg (by omega), if_neg (by omega), if_neg (by omega), if_pos (by omega)]
  split
  ·
   rename_i q
   have := pw_pos (nW n).toNat
   exact ⟨(arg _ a).1, by omega⟩
  ·
   exact rall_RI _
 ·
  rw [if_neg (by omega), if_neg (by omega), if_neg (by omega), if_neg (by omega), if_neg (by omega), if_pos (by omega)]
  have w1 := hws _ a
  have w2 := hws _ b
  rw [cat_span (arg _ a) (arg _ b) (by omega), show (nW n).toNat = (widF N (nA n)).toNat + (widF N (nB n)).toNat by omega]
  exact cat_RI (arg _ a) (arg _ b)
 ·
  have hx := (arg _ a).wider (show (widF N (nA n)).toNat ≤ (nW n).toNat by omega)
  rcases h with h | h
  ·
   rw [if_neg (by omega), if_neg (by omega), if_neg (by omega), if_neg (by omega), if_neg (by omega), if_neg (by omega), if_neg (by omega), if_pos (by omega)]
   exact hx
  ·
   rw [if_neg (by omega), if_neg (by omega), if_neg (by omega), if_neg (by omega), if_neg (by omega), if_neg (by omega), if_pos (by omega)]
   split
   ·
    exact rall_RI _
   ·
    exact hx
theorem rl_RI {N : List Nd} {most : Int} (hJ : TJ N most) (hB : TB N) : ∀ i j, i < j → i < N.length → RI (nW (nth N i)).toNat (kg (rl N j) i) := by
 intro i
 induction i using Nat.strongRecOn with
 | _ i ih =>
  intro j hij hi
  rw [rl_kg hij]
  exact ronN_RI (hB i hi) (hJ.wr _ (nth_mem hi)) (by omega) (fun x p => hJ.wid p.1 (by have := p.2; omega)) (fun q hq => ih q hq i hq (by omega))
/-! ### A product's upper half -/
theorem mul_hi {x y : Nat} (hx : x < 18446744073709551616) (hy : y < 18446744073709551616) :
  (((x / pw 32 * (y / pw 32) % 18446744073709551616 + ((x / pw 32 * (y &&& 4294967295) % 18446744073709551616 + ((x &&& 4294967295) * (y &&& 4294967295) % 18446744073709551616) / pw 32) % 18446744073709551616) / pw 32) % 18446744073709551616 + (((((x / pw 32 * (y &&& 4294967295) % 18446744073709551616 + ((x &&& 4294967295) * (y &&& 4294967295) % 18446744073709551616) / pw 32) % 18446744073709551616) &&& 4294967295) + (x &&& 4294967295) * (y / pw 32) % 18446744073709551616) % 18446744073709551616) / pw 32) % 18446744073709551616) = x * y / 18446744073709551616 := by
 have e32 : pw 32 = 4294967296 := rfl
 have am : ∀ z : Nat, z &&& 4294967295 = z % 4294967296 := fun z => Nat.and_two_pow_sub_one_eq_mod z 32
 rw [am x, am y, am ((x / pw 32 * (y % 4294967296) % 18446744073709551616 + x % 4294967296 * (y % 4294967296) % 18446744073709551616 / pw 32) % 18446744073709551616), e32]
 have hx1 : x / 4294967296 ≤ 4294967295 := by omega
 have hy1 : y / 4294967296 ≤ 4294967295 := by omega
 have hx0 : x % 4294967296 ≤ 4294967295 := by omega
 have hy0 : y % 4294967296 ≤ 4294967295 := by omega
 have ex : x = x / 4294967296 * 4294967296 + x % 4294967296 := by omega
 have ey : y = y / 4294967296 * 4294967296 + y % 4294967296 := by omega
 generalize x / 4294967296 = a at *
 generalize x % 4294967296 = b at *
 generalize y / 4294967296 = c at *
 generalize y % 4294967296 = d at *
 have p1 := Nat.mul_le_mul hx1 hy1
 have p2 := Nat.mul_le_mul hx1 hy0
 have p3 := Nat.mul_le_mul hx0 hy1
 have p4 := Nat.mul_le_mul hx0 hy0
 have e : x * y = a * c * 18446744073709551616 + (a * d + b * c) * 4294967296 + b * d := by
  rw [ex, ey, Nat.add_mul, Nat.mul_add, Nat.mul_add]
  have q1 : a * 4294967296 * (c * 4294967296) = a * c * 18446744073709551616 := by
   rw [Nat.mul_mul_mul_comm]
  have q2 : a * 4294967296 * d = a * d * 4294967296 := Nat.mul_right_comm _ _ _
  have q3 : b * (c * 4294967296) = b * c * 4294967296 := (Nat.mul_assoc _ _ _).symm
  rw [q1, q2, q3, Nat.add_mul]
  omega
 rw [e]
 generalize a * c = A at *
 generalize a * d = B at *
 generalize b * c = C at *
 generalize b * d = D at *
 omega
end Go.Proofs.YtlbadnpgmkobdaaV

set_option linter.unusedVariables false
set_option linter.unusedSimpArgs false
namespace Go.Proofs.YtlbadnpgmkobdaaV
open Go Go.RowKit Go.Proofs
/-- What the document's two-argument words say, before they are cut: all that spans need. -/
def BinY (O wd a b X : Nat) : Prop := X < 18446744073709551616 ∧ (O = 1 → X = (a + b) % 18446744073709551616) ∧ (O = 2 → X = (a + (18446744073709551616 - b)) % 18446744073709551616) ∧ (O = 3 → X = a * b % 18446744073709551616) ∧ (O = 4 → b ≠ 0 → X = a / b) ∧ (O = 5 → X = if b = 0 then a else a % b) ∧ (O = 6 → X = a &&& b) ∧ (O = 7 → X = a ||| b) ∧ (O = 10 → X = bval wd (mvB false wd (fun j => a.testBit j) false b)) ∧ (O = 12 → X = bitN (decide (a = b))) ∧ (O = 13 → X = bitN (decide (a < b))) ∧ (O = 14 → X ≤ 1)
def InR (x : K) (v : Nat) : Prop := x.1 ≤ v ∧ v ≤ x.2
def GoodR (nw : Nat) (x : K) (r : Nat) : Prop := r < pw nw ∧ InR x r
theorem InR_all {w r : Nat} (h : r < pw w) : InR (rall w) r := ⟨Nat.zero_le _, by show r ≤ pw w - 1; omega⟩
theorem shr_le (w a b : Nat) : bval w (mvB false w (fun j => a.testBit j) false b) ≤ a := by
 have e : bval w (mvB false w (fun j => a.testBit j) false b) = (a % pw w) / pw b := by
  apply Nat.eq_of_testBit_eq
  intro t
  rw [bval_bit, shr_bit, show a % pw w = a % 2 ^ w from rfl, Nat.testBit_mod_two_pow]
  unfold mvB
  rw [if_neg (by decide)]
  by_cases h : t + b < w
  ·
   have : t < w := by omega
   rw [if_pos h]; simp [h, this]
  ·
   rw [if_neg h]; simp [h]
 rw [e]
 exact Nat.le_trans (Nat.div_le_self _ _) (Nat.mod_le _ _)
theorem in_truth {m n : Bool} {p : Bool} (h : m = true → p = true) (k : n = true → p = false) : InR (rtruth m n) (bitN p) := by
 unfold rtruth
 split
 ·
  rename_i q; rw [h q]; exact ⟨Nat.le_refl _, Nat.le_refl _⟩
 ·
  split
  ·
   rename_i q; rw [k q]; exact ⟨Nat.le_refl _, Nat.le_refl _⟩
  ·
   exact ⟨Nat.zero_le _, bitN_u p⟩
section
variable {nw wd up : Nat} {x y z : K} {lo V va vb X O : Nat}
theorem goodR_bin (h1 : 1 ≤ wd) (h2 : wd ≤ 64) (hO : 1 ≤ O ∧ O ≤ 14) (hX : BinY O wd va vb X) (kx : RI wd x) (ky : RI wd y) (hx : InR x va) (hy : InR y vb) (ha : va < pw wd) (hb : vb < pw wd) (hnw : nw = if O = 12 ∨ O = 13 ∨ O = 14 then 1 else wd) : GoodR nw (rbin O wd x y) (cutN wd X) := by
 obtain ⟨hu, x1, x2, x3, x4, x5, x6, x7, x10, x12, x13, x14⟩ := hX
 have p1 : pw 1 ≤ pw wd := Nat.pow_le_pow_right (n := 2) (by decide) h1
 have e1 : pw 1 = 2 := rfl
 have h64 := pw64 h2
 have hlt := cutN_lt wd X
 have hid : ∀ {q : Nat}, q < pw wd → cutN wd q = q := fun h => Nat.mod_eq_of_lt h
 have ra := InR_all hlt
 obtain ⟨a1, a2⟩ := hx
 obtain ⟨b1, b2⟩ := hy
 obtain ⟨kx1, kx2⟩ := kx
 obtain ⟨ky1, ky2⟩ := ky
 unfold rbin
 by_cases q : O = 1
 ·
  rw [if_pos q, hnw, if_neg (by omega)]
  split
  ·
   have : X = va + vb := by rw [x1 q]; omega
   rw [this, hid (by omega)]
   exact ⟨by omega, by show x.1 + y.1 ≤ _; omega, by show _ ≤ x.2 + y.2; omega⟩
  ·
   exact ⟨hlt, ra⟩
 rw [if_neg q]
 by_cases q : O = 2
 ·
  rw [if_pos q, hnw, if_neg (by omega)]
  split
  ·
   have : X = va - vb := by rw [x2 q]; omega
   rw [this, hid (by omega)]
   exact ⟨by omega, by show x.1 - y.2 ≤ _; omega, by show _ ≤ x.2 - y.1; omega⟩
  ·
   exact ⟨hlt, ra⟩
 rw [if_neg q]
 by_cases q : O = 3
 ·
  rw [if_pos q, hnw, if_neg (by omega)]
  split
  ·
   have m1 := Nat.mul_le_mul a1 b1
   have m2 := Nat.mul_le_mul a2 b2
   have : X = va * vb := by rw [x3 q]; exact Nat.mod_eq_of_lt (by omega)
   rw [this, hid (by omega)]
   exact ⟨by omega, m1, m2⟩
  ·
   exact ⟨hlt, ra⟩
 rw [if_neg q]
 by_cases q : O = 4
 ·
  rw [if_pos q, hnw, if_neg (by omega)]
  split
  ·
   have : X = va / vb := x4 q (by omega)
   have hd := Nat.div_le_self va vb
   rw [this, hid (by omega)]
   exact ⟨by omega, Nat.div_le_div a1 b2 (by omega), Nat.div_le_div a2 b1 (by omega)⟩
  ·
   exact ⟨hlt, ra⟩
 rw [if_neg q]
 by_cases q : O = 5
 ·
  have hX5 := x5 q
  have hm := Nat.mod_le va vb
  have hle : X ≤ va := by rw [hX5]; split <;> omega
  rw [if_pos q, hnw, if_neg (by omega), hid (by omega)]
  split
  ·
   have hml := Nat.mod_lt va (show vb > 0 by omega)
   rw [if_neg (by omega)] at hX5
   exact ⟨by omega, Nat.zero_le _, by show X ≤ min x.2 (y.2 - 1); omega⟩
  ·
   exact ⟨by omega, Nat.zero_le _, by show X ≤ x.2; omega⟩
 rw [if_neg q]
 by_cases q : O = 10
 ·
  have hs := shr_le wd va vb
  rw [← x10 q] at hs
  rw [if_pos q, hnw, if_neg (by omega), hid (by omega)]
  exact ⟨by omega, Nat.zero_le _, by show X ≤ x.2; omega⟩
 rw [if_neg q]
 by_cases q : O = 6
 ·
  have hs1 : va &&& vb ≤ va := Nat.and_le_left
  have hs2 : va &&& vb ≤ vb := Nat.and_le_right
  rw [← x6 q] at hs1 hs2
  rw [if_pos q, hnw, if_neg (by omega), hid (by omega)]
  exact ⟨by omega, Nat.zero_le _, by show X ≤ min x.2 y.2; omega⟩
 rw [if_neg q]
 by_cases q : O = 7
 ·
  have hs1 : va ≤ va ||| vb := Nat.left_le_or
  have hs2 : vb ≤ va ||| vb := Nat.right_le_or
  have hs3 : va ||| vb < pw wd := Nat.or_lt_two_pow ha hb
  have hs4 : va ||| vb < pw (bl (max x.2 y.2)) := Nat.or_lt_two_pow (Nat.lt_of_le_of_lt (show va ≤ max x.2 y.2 by omega) (bl_lt _)) (Nat.lt_of_le_of_lt (show vb ≤ max x.2 y.2 by omega) (bl_lt _))
  rw [← x7 q] at hs1 hs2 hs3 hs4
  rw [if_pos q, hnw, if_neg (by omega), hid (by omega)]
  exact ⟨by omega, by show max x.1 y.1 ≤ X; omega, by show X ≤ pw (bl (max x.2 y.2)) - 1; omega⟩
 rw [if_neg q]
 by_cases q : O = 12
 ·
  have hb1 := bitN_u (decide (va = vb))
  rw [if_pos q, hnw, if_pos (by omega), x12 q, hid (by omega)]
  refine ⟨by omega, in_truth (fun h => ?_) (fun h => ?_)⟩
  ·
   simp only [Bool.and_eq_true, decide_eq_true_eq] at h ⊢
   obtain ⟨rfl, h⟩ := h
   omega
  ·
   simp only [Bool.or_eq_true, decide_eq_true_eq, decide_eq_false_iff_not] at h ⊢
   omega
 rw [if_neg q]
 by_cases q : O = 13
 ·
  have hb1 := bitN_u (decide (va < vb))
  rw [if_pos q, hnw, if_pos (by omega), x13 q, hid (by omega)]
  refine ⟨by omega, in_truth (fun h => ?_) (fun h => ?_)⟩
  ·
   simp only [decide_eq_true_eq] at h ⊢
   omega
  ·
   simp only [decide_eq_true_eq, decide_eq_false_iff_not] at h ⊢
   omega
 rw [if_neg q]
 by_cases q : O = 14
 ·
  have hb1 := x14 q
  rw [if_pos q, hnw, if_pos (by omega), hid (by omega)]
  exact ⟨by omega, InR_all (by omega)⟩
 rw [if_neg q, hnw, if_neg (by omega)]
 exact ⟨hlt, ra⟩
theorem goodR_bin2 (h1 : 1 ≤ wd) (h2 : wd ≤ 64) (hO : 1 ≤ O ∧ O ≤ 14) (hX : BinY O wd va vb X) (kx : RI wd x) (ky : RI wd y) (hx : InR x va) (hy : InR y vb) (ha : va < pw wd) (hb : vb < pw wd) (hnw : nw = if O = 12 ∨ O = 13 ∨ O = 14 then 1 else wd) : GoodR nw (rone O nw wd up x y z lo V) (cutN wd X) := by
 have e : rone O nw wd up x y z lo V = rbin O wd x y := by
  unfold rone
  rw [if_neg (by omega), if_neg (by omega), if_neg (by omega), if_neg (by omega), if_neg (by omega), if_neg (by omega), if_neg (by omega), if_neg (by omega)]
 rw [e]
 exact goodR_bin h1 h2 hO hX kx ky hx hy ha hb hnw
theorem goodR_una (hO : O = 15 ∨ O = 16) (h2 : wd ≤ 64) (kx : RI wd x) (hx : InR x va) (ha : va < pw wd) (hX : O = 15 → X = 18446744073709551615 - va) : GoodR wd (rone O wd wd up x y z lo V) (cutN wd X) := by
 have hlt := cutN_lt wd X
 refine ⟨hlt, ?_⟩
 rcases hO with rfl | rfl
 ·
  have h64 := pw64 h2
  have e : cutN wd X = pw wd - 1 - va := by
   rw [hX rfl]
   have hd : pw wd ∣ 18446744073709551616 := by
    have : pw wd ∣ 2 ^ 64 := Nat.pow_dvd_pow 2 h2
    exact this
   obtain ⟨c, hc⟩ := hd
   have hp := pw_pos wd
   have hc1 : 1 ≤ c := by
    rcases Nat.eq_zero_or_pos c with q | q
    ·
     rw [q, Nat.mul_zero] at hc; omega
    ·
     exact q
   obtain ⟨d, rfl⟩ : ∃ d, c = d + 1 := ⟨c - 1, by omega⟩
   rw [Nat.mul_add, Nat.mul_one] at hc
   have : 18446744073709551615 - va = (pw wd - 1 - va) + pw wd * d := by omega
   rw [this]
   unfold cutN
   rw [Nat.add_mul_mod_self_left, Nat.mod_eq_of_lt (by omega)]
  rw [e]
  obtain ⟨a1, a2⟩ := hx
  have := kx.2
  exact ⟨by show pw wd - 1 - x.2 ≤ _; omega, by show _ ≤ pw wd - 1 - x.1; omega⟩
 ·
  exact InR_all hlt
theorem goodR_ite {q : Nat} {c : K} (hc : InR c q) (hq : q < pw 1) (kc : RI 1 c) (hx : InR x va) (hy : InR y vb) (ha : va < pw nw) (hb : vb < pw nw) : GoodR nw (rone 22 nw wd up c x y lo V) (if q = 1 then va else vb) := by
 have e1 : pw 1 = 2 := rfl
 refine ⟨by split <;> assumption, ?_⟩
 show InR (if c.1 = 1 then x else if c.2 = 0 then y else (min x.1 y.1, max x.2 y.2)) _
 obtain ⟨c1, c2⟩ := hc
 obtain ⟨a1, a2⟩ := hx
 obtain ⟨b1, b2⟩ := hy
 split
 ·
  rw [if_pos (by omega)]; exact ⟨a1, a2⟩
 ·
  split
  ·
   rw [if_neg (by omega)]; exact ⟨b1, b2⟩
  ·
   split
   ·
    exact ⟨by show min _ _ ≤ _; omega, by show _ ≤ max _ _; omega⟩
   ·
    exact ⟨by show min _ _ ≤ _; omega, by show _ ≤ max _ _; omega⟩
theorem goodR_ext (hx : InR x va) : GoodR nw (rone 23 nw wd up x y z lo V) (cutN nw (va / pw lo)) := by
 refine ⟨cutN_lt _ _, ?_⟩
 show InR (if lo = 0 ∧ x.2 ≤ pw nw - 1 then x else rall nw) _
 split
 ·
  rename_i h
  obtain ⟨rfl, h⟩ := h
  have hp := pw_pos nw
  have e0 : pw 0 = 1 := rfl
  rw [e0, Nat.div_one, show cutN nw va = va from Nat.mod_eq_of_lt (by have := hx.2; omega)]
  exact hx
 ·
  exact InR_all (cutN_lt _ _)
theorem goodR_cat (kx : RI wd x) (ky : RI up y) (hx : InR x va) (hy : InR y vb) (ha : va < pw wd) (hb : vb < pw up) (hw : wd + up ≤ 64) : GoodR (wd + up) (rone 24 (wd + up) wd up x y z lo V) (va * pw up % 18446744073709551616 ||| vb) := by
 have e : rone 24 (wd + up) wd up x y z lo V = (x.1 * pw up % 18446744073709551616 ||| y.1, x.2 * pw up % 18446744073709551616 ||| y.2) := rfl
 rw [e, cat_span kx ky hw, (cat_mod ha hw).1, or_add hb]
 have h1 := Nat.mul_le_mul_right (pw up) hx.1
 have h2 := Nat.mul_le_mul_right (pw up) hx.2
 have h3 := hy.1
 have h4 := hy.2
 refine ⟨?_, by show x.1 * pw up + y.1 ≤ _; omega, by show _ ≤ x.2 * pw up + y.2; omega⟩
 have h5 := Nat.mul_le_mul_right (pw up) (show va + 1 ≤ pw wd from ha)
 have e2 : pw (wd + up) = pw wd * pw up := Nat.pow_add 2 wd up
 rw [Nat.add_mul, Nat.one_mul] at h5
 rw [e2]; omega
theorem goodR_zx (hx : InR x va) (ha : va < pw wd) (hw : wd < nw) : GoodR nw (rone 25 nw wd up x y z lo V) va := ⟨Nat.lt_of_lt_of_le ha (Nat.pow_le_pow_right (n := 2) (by decide) (by omega)), hx⟩
theorem goodR_sx (kx : RI wd x) (hx : InR x va) (h1 : 1 ≤ wd) (ha : va < pw wd) (hw : wd < nw) (h64 : nw ≤ 64) : GoodR nw (rone 26 nw wd up x y z lo V) (cutN nw (sxN wd va)) := by
 refine ⟨cutN_lt _ _, ?_⟩
 show InR (if x.2.testBit (wd - 1) = true then rall nw else x) _
 split
 ·
  exact InR_all (cutN_lt _ _)
 ·
  rename_i h
  have hx2 : x.2 < pw (wd - 1) := by
   apply Nat.lt_of_not_le
   intro q
   have hlo : x.2 / pw (wd - 1) = 1 := by
    have e : pw wd = 2 * pw (wd - 1) := by rw [← pw_succ]; congr 1; omega
    have k2 := kx.2
    have hp := pw_pos (wd - 1)
    have a1 : 1 ≤ x.2 / pw (wd - 1) := (Nat.le_div_iff_mul_le (by omega)).2 (by omega)
    have a2 : x.2 / pw (wd - 1) < 2 := (Nat.div_lt_iff_lt_mul (by omega)).2 (by omega)
    omega
   exact h ((bit_div _ _).1 (by rw [hlo]))
  have hv : va < pw (wd - 1) := Nat.lt_of_le_of_lt hx.2 hx2
  have hb : va.testBit (wd - 1) = false := hi_bit hv (Nat.le_refl _)
  unfold sxN
  rw [if_neg (by rw [hb]; decide), show cutN nw va = va from Nat.mod_eq_of_lt (Nat.lt_of_lt_of_le ha (Nat.pow_le_pow_right (n := 2) (by decide) (by omega)))]
  exact hx
theorem goodR_const (h : V < pw nw) : GoodR nw (rone 20 nw wd up x y z lo V) V := ⟨h, Nat.le_refl _, Nat.le_refl _⟩
theorem goodR_var {r : Nat} (h : r < pw nw) : GoodR nw (rone 21 nw wd up x y z lo V) r := ⟨h, InR_all h⟩
end
/-- A value of a term: it fits the width and lies in the span. -/
def FitsR (l : List K) (vs : List Nat) (wd a : Nat) : Prop := RI wd (kg l a) ∧ vs.getD a 0 < pw wd ∧ InR (kg l a) (vs.getD a 0)
def VOR (N : List Nd) (vs : List Nat) : Prop := ∀ j, j < vs.length → GoodR (nW (nth N j)).toNat (ronN N (rl N j) (nth N j)) (vs.getD j 0)
theorem VOR.fits {N : List Nd} {most : Int} {vs : List Nat} (h : VOR N vs) (hJ : TJ N most) (hB : TB N) (hl : vs.length ≤ N.length) {x : Int} (hp : pt vs.length x) : FitsR (rl N vs.length) vs (widF N x).toNat x.toNat := by
 have hx : x.toNat < vs.length := by have := hp.1; have := hp.2; omega
 have hg := h _ hx
 rw [wid_nth hp hl]
 have hk := rl_kg (N := N) hx
 exact ⟨rl_RI hJ hB _ _ hx (by omega), hg.1, by rw [hk]; exact hg.2⟩
theorem VOR.add {N : List Nd} {vs : List Nat} {r : Nat} (h : VOR N vs) (hr : GoodR (nW (nth N vs.length)).toNat (ronN N (rl N vs.length) (nth N vs.length)) r) : VOR N (vs ++ [r]) := fun j hj => by
 rw [List.length_append] at hj
 simp only [List.length_cons, List.length_nil] at hj
 by_cases e : j < vs.length
 ·
  rw [show (vs ++ [r]).getD j 0 = vs.getD j 0 by simp [List.getD_eq_getElem?_getD, List.getElem?_append_left e]]
  exact h j e
 ·
  obtain rfl : j = vs.length := by omega
  rw [show (vs ++ [r]).getD vs.length 0 = r by simp [List.getD_eq_getElem?_getD]]
  exact hr
theorem VOR_nil (N : List Nd) : VOR N [] := fun j h => by simp at h
end Go.Proofs.YtlbadnpgmkobdaaV
