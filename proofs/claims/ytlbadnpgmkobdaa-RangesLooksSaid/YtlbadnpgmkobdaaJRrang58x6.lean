/- Texts laid together: TermPlays: plain. Which terms a term is made of: steps of the reckoning, plain. Known bits: plain. Known bits of all terms: plain. Spans of terms: plain. Walks of functions of the program and of the document's texts. The conditions stand with each theorem. Walks of functions of the program and of the document's texts. The conditions stand with each theorem. Walks of functions of the program and of the document's texts. The conditions stand with each theorem. Walks of functions of the program and of the document's texts. The conditions stand with each theorem. -/
import Derived.Test.YtlbadnpgmkobdaaD2
import Derived.Test.YtlbadnpgmkobdaaJRrang58x4
import Derived.Test.YtlbadnpgmkobdaaJRrang58x1
import Derived.Test.YtlbadnpgmkobdaaProg
import Derived.Test.YtlbadnpgmkobdaaJRrang58x3
set_option linter.unusedVariables false
set_option linter.unusedSimpArgs false
namespace Go.Proofs.YtlbadnpgmkobdaaV
open Go Go.RowKit Go.Proofs
section
variable {ρ : Env} {w : World}
end
def ndF (N : List Nd) (x : Int) : Nd := if 0 ≤ x ∧ x < (N.length : Int) then nth N x.toNat else nd0
theorem ndF_out {N : List Nd} {x : Int} (h : ¬ (0 ≤ x ∧ x < (N.length : Int))) : ndF N x = nd0 := by unfold ndF; rw [if_neg h]
theorem node_ok (F : Nat → Prop) (p : Nat) (most : Int) (N : List Nd) (W : Value → Value → Prop) (ix : Int) (w : World) (hL : TLow F w p most N W) (hN : N.length ≤ 65536) :
  Ret Try.prog 14 [.pointer (some ⟨p, 0, none⟩), .int .i64 ix] w fun v w' => v = .tuple #[.agg #[.int .i64 (nO (ndF N ix)), .int .i64 (nW (ndF N ix)), .int .i64 (nA (ndF N ix)), .int .i64 (nB (ndF N ix)), .int .i64 (nC (ndF N ix)), .int .u64 (nV (ndF N ix))], .bool (isT N ix)] ∧ Tch N0 w w' := by
 by_cases h : 0 ≤ ix ∧ ix < (N.length : Int)
 ·
  have e : isT N ix = true := decide_eq_true h
  have e2 : ndF N ix = nth N ix.toNat := by unfold ndF; rw [if_pos h]
  rw [e, e2]; exact node_in F p most N W ix w hL hN h.1 h.2
 ·
  have e : isT N ix = false := decide_eq_false h
  rw [e, ndF_out h]; exact node_out F p most N W ix w hL hN h
end Go.Proofs.YtlbadnpgmkobdaaV

set_option linter.unusedVariables false
set_option linter.unusedSimpArgs false
namespace Go.Proofs.YtlbadnpgmkobdaaV
open Go Go.RowKit Go.Proofs
theorem pt_nat {i : Nat} {x : Int} (h : pt i x) : ((x.toNat : Nat) : Int) = x := by have := h.1; omega
theorem kids_cells {N : List Nd} {i : Nat} {n : Nd} (h : NdW N i n) : nats (kidsN n) = if nO n = 20 ∨ nO n = 21 then [] else if nO n = 22 then [.int .i64 (nA n), .int .i64 (nB n), .int .i64 (nC n)] else if nO n ≤ 14 ∨ nO n = 24 then [.int .i64 (nA n), .int .i64 (nB n)] else [.int .i64 (nA n)] := by
 unfold kidsN
 rcases h with h | h | ⟨h, a, e⟩ | ⟨h, a, b, e, e2⟩ | ⟨h, a, b, c, e, e2, e3⟩ | ⟨h, a, b, e⟩ | ⟨h, a, b, e⟩ | ⟨h, a, e⟩
 ·
  rw [if_pos (.inl h.1), if_pos (.inl h.1)]; rfl
 ·
  rw [if_pos (.inr h.1), if_pos (.inr h.1)]; rfl
 ·
  rw [if_neg (by omega), if_neg (by omega), if_neg (by omega), if_neg (by omega), if_neg (by omega), if_neg (by omega)]; simp only [nats, List.map_cons, List.map_nil, pt_nat a]
 ·
  rw [if_neg (by omega), if_neg (by omega), if_pos (by omega), if_neg (by omega), if_neg (by omega), if_pos (by omega)]; simp only [nats, List.map_cons, List.map_nil, pt_nat a, pt_nat b]
 ·
  rw [if_neg (by omega), if_pos (by omega), if_neg (by omega), if_pos (by omega)]; simp only [nats, List.map_cons, List.map_nil, pt_nat a, pt_nat b, pt_nat c]
 ·
  rw [if_neg (by omega), if_neg (by omega), if_neg (by omega), if_neg (by omega), if_neg (by omega), if_neg (by omega)]; simp only [nats, List.map_cons, List.map_nil, pt_nat a]
 ·
  rw [if_neg (by omega), if_neg (by omega), if_pos (by omega), if_neg (by omega), if_neg (by omega), if_pos (by omega)]; simp only [nats, List.map_cons, List.map_nil, pt_nat a, pt_nat b]
 ·
  rw [if_neg (by omega), if_neg (by omega), if_neg (by omega), if_neg (by omega), if_neg (by omega), if_neg (by omega)]; simp only [nats, List.map_cons, List.map_nil, pt_nat a]
/-- What comes of kids. -/
def KidR (n : Nd) (w : World) (v : Value) (w' : World) : Prop := ∃ K m, v = .slice K m m ∧ m = (kidsN n).length ∧ Own w' 0 3 1 (.slice K m m) m (nats (kidsN n)) ∧ (∀ c, (Value.slice K m m).ownBlock = some c → w.heap.size ≤ c) ∧ Tch N0 w w'
theorem KidR.nil {n : Nd} {w w' : World} (e : nats (kidsN n) = []) (T : Tch N0 w w') : KidR n w (.slice none 0 0) w' := by
 have hl : (kidsN n).length = 0 := by rw [← nats_length, e]; rfl
 exact ⟨none, 0, rfl, hl.symm, by rw [e]; exact Own.nil_ _ _ _ _, (fun c h => by cases h), T⟩
theorem KidR.blk {n : Nd} {w w' : World} {g k : Nat} {cs : List Value} (e : nats (kidsN n) = cs) (hk : cs.length = k) (hB : Blk w' g 3 cs) (hg : w.heap.size ≤ g) (hk2 : k ≤ 1000) (T : Tch N0 w w') : KidR n w (.slice (some ⟨g, 0, none⟩) k k) w' := by
 have hl : (kidsN n).length = k := by rw [← nats_length, e]; exact hk
 refine ⟨some ⟨g, 0, none⟩, k, rfl, hl.symm, ?_, (fun c h => by have e : g = c := (by injection h); omega), T⟩
 rw [e]
 exact Blk.own1 (sp := []) (by rw [List.append_nil]; exact hB) hk (by rw [List.append_nil]; exact hk) (Nat.le_refl _) (by simp only [maxLen]; omega)
theorem look_hd {N : List Nd} {hd : List Bool} {k : Nat} {v : Value} {ok : Bool} (hk : k < N.length) (hv : ok = true ∧ hdR N hd (.int .i64 ((k : Nat) : Int)) v ∨ ok = false ∧ v = nodeV nd0 ∧ ∀ y, ¬ hdR N hd (.int .i64 ((k : Nat) : Int)) y) : ∃ z, v = nodeV z ∧ ok = hd.getD k false := by
 rcases hv with ⟨rfl, i, _, h, e, rfl⟩ | ⟨rfl, rfl, h⟩
 ·
  refine ⟨_, rfl, ?_⟩
  have : k = i := by injection e with _ e; omega
  rw [this, h]
 ·
  refine ⟨_, rfl, ?_⟩
  cases q : hd.getD k false with
  | false => rfl
  | true => exact absurd ⟨k, hk, q, rfl, rfl⟩ (h _)
/-! ### The loop's measure -/
def lastN (wt : List Nat) : Nat := wt.getD (wt.length - 1) 0
def sec (n : Nat) (hd : List Bool) (wt : List Nat) : Nat := if wt = [] then 0 else if hd.getD (lastN wt) false = true then n + wt.length else lastN wt
theorem last_snoc (ws : List Nat) (x : Nat) : lastN (ws ++ [x]) = x := by
 unfold lastN
 simp [List.getD_eq_getElem?_getD]
theorem sec_snoc {n : Nat} {hd : List Bool} {ws : List Nat} {x : Nat} (h : hd.getD x false = false) : sec n hd (ws ++ [x]) = x := by
 unfold sec
 rw [if_neg (by simp), last_snoc, h]; simp
theorem lex_more {n : Nat} {hd : List Bool} {wt ws : List Nat} {x tp : Nat} (h0 : wt ≠ []) (htp : lastN wt = tp) (hx : x < tp) (htn : tp < n) (h : hd.getD x false = false) : ltL (offs hd, sec n hd (ws ++ [x])) (offs hd, sec n hd wt) := by
 refine .inr ⟨rfl, ?_⟩
 show sec n hd (ws ++ [x]) < sec n hd wt
 rw [sec_snoc h]
 unfold sec
 rw [if_neg h0, htp]
 split <;> omega
theorem lex_pop {n : Nat} {hd : List Bool} {wt : List Nat} {tp : Nat} (h0 : wt ≠ []) (htp : lastN wt = tp) (htn : tp < hd.length) (hall : ∀ x, x ∈ wt → x < n) : ltL (offs (hd.set tp true), sec n (hd.set tp true) (wt.take (wt.length - 1))) (offs hd, sec n hd wt) := by
 cases q : hd.getD tp false with
 | false => exact .inl (offs_set htn q)
 | true =>
  have e : hd.set tp true = hd := by
   apply List.ext_getElem?
   intro i
   rw [List.getElem?_set]
   by_cases e : tp = i
   ·
    subst e
    rw [if_pos rfl, if_pos htn]
    rw [List.getD_eq_getElem?_getD, List.getElem?_eq_getElem htn] at q
    rw [List.getElem?_eq_getElem htn]
    exact congrArg some q.symm
   ·
    rw [if_neg e]
  rw [e]
  refine .inr ⟨rfl, ?_⟩
  show sec n hd (wt.take (wt.length - 1)) < sec n hd wt
  have hl : 0 < wt.length := List.length_pos_iff.2 h0
  have e2 : sec n hd wt = n + wt.length := by unfold sec; rw [if_neg h0, htp, q]; simp
  rw [e2]
  unfold sec
  split
  ·
   omega
  ·
   rename_i hne
   split
   ·
    rw [List.length_take]; omega
   ·
    have hm : lastN (wt.take (wt.length - 1)) ∈ wt := by
     unfold lastN
     have hl2 := List.length_pos_iff.2 hne
     rw [List.getD_eq_getElem?_getD, List.getElem?_eq_getElem (by omega)]
     exact List.mem_of_mem_take (List.getElem_mem _)
    have := hall _ hm
    omega
theorem Own.capge {w : World} {e sz n : Nat} {A : Option Addr} {cp : Nat} {cells : List Value} (h : Own w 0 e sz (.slice A n cp) n cells) : n ≤ cp := by
 rcases h with ⟨_, ⟨hv, hn⟩ | ⟨b, cap, cur, hv, _, _, hn, _⟩⟩
 ·
  omega
 ·
  injection hv with _ _ q; omega
theorem kids_len (n : Nd) : (kidsN n).length ≤ 3 := by unfold kidsN; (repeat' split) <;> simp
theorem own_len (A : Option Addr) (n m cp : Nat) : (Value.slice A n cp).ownBlock = (Value.slice A m cp).ownBlock := by cases A <;> rfl
/-- How far a place in the stack can be. -/
def Far (n : Nat) (wt : List Nat) : Prop := ∀ i, i < wt.length → i + 1 + 3 * wt.getD i 0 ≤ 3 * n
theorem Far.take {n m : Nat} {wt : List Nat} (h : Far n wt) : Far n (wt.take m) := fun i hi => by
 have hi2 : i < m ∧ i < wt.length := by rw [List.length_take] at hi; omega
 have e : (wt.take m).getD i 0 = wt.getD i 0 := by simp only [List.getD_eq_getElem?_getD, List.getElem?_take, if_pos hi2.1]
 rw [e]; exact h i hi2.2
theorem Far.push {n x : Nat} {wt : List Nat} (h : Far n wt) (hx : wt.length + 1 + 3 * x ≤ 3 * n) : Far n (wt ++ [x]) := fun i hi => by
 have hi2 : i < wt.length + 1 := by simpa using hi
 by_cases e : i < wt.length
 ·
  have e2 : (wt ++ [x]).getD i 0 = wt.getD i 0 := by simp only [List.getD_eq_getElem?_getD, List.getElem?_append_left e]
  rw [e2]; exact h i e
 ·
  obtain rfl : i = wt.length := by omega
  have e2 : (wt ++ [x]).getD wt.length 0 = x := by simp [List.getD_eq_getElem?_getD]
  rw [e2]; exact hx
theorem Far.len {n : Nat} {wt : List Nat} (h : Far n wt) : wt.length ≤ 3 * n := by
 rcases Nat.eq_zero_or_pos wt.length with q | q
 ·
  omega
 ·
  have := h (wt.length - 1) (by omega); omega
/-- What the stack of those that wait holds. -/
def Wst (n id : Nat) (hd : List Bool) (wt : List Nat) : Prop := hd.length = n ∧ (∀ x, x ∈ wt → x < n) ∧ (id ∈ wt ∨ hd.getD id false = true) ∧ Far n wt
theorem Wst.start {n id : Nat} (h : id < n) : Wst n id (List.replicate n false) [id] := ⟨by simp, by simpa using h, .inl (by simp), fun i hi => by
 have : i = 0 := by simpa using hi
 subst this
 show 0 + 1 + 3 * id ≤ 3 * n
 omega⟩
theorem Wst.pop {n id : Nat} {hd : List Bool} {wt : List Nat} {tp : Nat} (h : Wst n id hd wt) (h0 : wt ≠ []) (htp : lastN wt = tp) (ht : tp < n) : Wst n id (hd.set tp true) (wt.take (wt.length - 1)) := by
 obtain ⟨h1, h2, h3, h4⟩ := h
 refine ⟨by rw [List.length_set]; exact h1, fun x hx => h2 x (List.mem_of_mem_take hx), ?_, h4.take⟩
 have hg : ∀ j, (hd.set tp true).getD j false = if tp = j then true else hd.getD j false := fun j => by
  simp only [List.getD_eq_getElem?_getD, List.getElem?_set]
  by_cases e : tp = j
  ·
   subst e; simp [h1, ht]
  ·
   simp [e]
 by_cases e : tp = id
 ·
  right; rw [hg, if_pos e]
 ·
  rcases h3 with h3 | h3
  ·
   left
   obtain ⟨j, hj, ej⟩ := List.getElem_of_mem h3
   have hjl : j ≠ wt.length - 1 := by
    rintro rfl
    apply e
    rw [← htp, ← ej]
    unfold lastN
    rw [List.getD_eq_getElem?_getD, List.getElem?_eq_getElem hj]; rfl
   rw [← ej]
   exact List.mem_take_iff_getElem.2 ⟨j, by omega, rfl⟩
  ·
   right; rw [hg, if_neg e]; exact h3
theorem Wst.last {n id : Nat} {hd : List Bool} {wt : List Nat} (h : Wst n id hd wt) (h0 : wt ≠ []) : lastN wt < n := by
 refine h.2.1 _ ?_
 unfold lastN
 have hl2 := List.length_pos_iff.2 h0
 rw [List.getD_eq_getElem?_getD, List.getElem?_eq_getElem (by omega)]
 exact List.getElem_mem _
theorem Wst.room {n id : Nat} {hd : List Bool} {wt : List Nat} (h : Wst n id hd wt) (h0 : wt ≠ []) : wt.length + 3 * lastN wt ≤ 3 * n := by
 have hl2 := List.length_pos_iff.2 h0
 have := h.2.2.2 (wt.length - 1) (by omega)
 unfold lastN; omega
/-- What the stack is while the kids are looked at. -/
def Kst (n : Nat) (hd : List Bool) (kids wt wt1 : List Nat) (mr : Bool) : Prop :=
 (mr = false → wt1 = wt) ∧ (mr = true → ∃ ws x, wt1 = ws ++ [x] ∧ x ∈ kids ∧ hd.getD x false = false) ∧ (∀ x, x ∈ wt → x ∈ wt1) ∧ (∀ x, x ∈ wt1 → x < n) ∧ Far n wt1
theorem Kst.start {n id : Nat} {hd : List Bool} {kids wt : List Nat} (h : Wst n id hd wt) : Kst n hd kids wt wt false := ⟨fun _ => rfl, (fun h => nomatch h), fun _ h => h, h.2.1, h.2.2.2⟩
theorem Kst.push {n : Nat} {hd : List Bool} {kids wt wt1 : List Nat} {mr : Bool} {x : Nat} (h : Kst n hd kids wt wt1 mr) (hx : x ∈ kids) (hn : x < n) (hp : wt1.length + 1 + 3 * x ≤ 3 * n) (hf : hd.getD x false = false) : Kst n hd kids wt (wt1 ++ [x]) true :=
 ⟨(fun h => nomatch h), fun _ => ⟨wt1, x, rfl, hx, hf⟩, fun y hy => List.mem_append.2 (.inl (h.2.2.1 y hy)), fun y hy => by
  rcases List.mem_append.1 hy with q | q
  ·
   exact h.2.2.2.1 y q
  ·
   simp at q; omega, h.2.2.2.2.push hp⟩
theorem Wst.more {n id : Nat} {hd : List Bool} {kids wt wt1 : List Nat} {mr : Bool} (h : Wst n id hd wt) (k : Kst n hd kids wt wt1 mr) : Wst n id hd wt1 := ⟨h.1, k.2.2.2.1, h.2.2.1.imp (k.2.2.1 id) (fun q => q), k.2.2.2.2⟩
theorem mem_getD {l : List Nat} {j : Nat} (h : j < l.length) : l.getD j 0 ∈ l := by rw [List.getD_eq_getElem?_getD, List.getElem?_eq_getElem h]; exact List.getElem_mem h
/-! ### How many a map holds -/
section
variable {P : Program} {ρ : Env} {w : World} {J : Env → World → Prop}
theorem R_lenM {d : Option Tmp} {t : TypeId} {x : Operand} {ty : TypeId} {pos : String} {af : Array Edge} {g : Option (Nat × Bool)} (k e : TypeId) {b : Nat} {R : Value → Value → Prop} (ht : pureR P (underlying t) = some (.map k e)) (hx : evR ρ x = .map (some b)) (h : MapE P k w b R) :
  ∃ m : Nat, (execOp (evR ρ) ⟨d, .call { callee := .builtin .len, args := #[x], argTypes := #[t] }, ty, pos, af, g⟩).run P w = .ok (.value (.int .i64 ((m : Nat) : Int))) w ∧ ((∃ x y, R x y) → 0 < m) ∧ ((∀ x y, ¬ R x y) → m = 0) := by
 obtain ⟨es, clock, hb, q1, q2, q3⟩ := h
 refine ⟨es.size, ?_, fun ⟨x, y, q⟩ => ?_, fun q => ?_⟩
 ·
  have h1 := pureR_run (w := w) ht
  simp only [execOp, resolve, invoke, builtin, Array.map, hx]
  simp [hx, Builtin.len_, h1, MapKept.run_getObj_map hb, goInt, Result.andThen]
 ·
  obtain ⟨e0, he, _⟩ := (q2 x y).1 q
  have := List.length_pos_of_mem he
  simpa using this
 ·
  rcases Nat.eq_zero_or_pos es.size with z | z
  ·
   exact z
  ·
   exact absurd ((q2 _ _).2 ⟨es[0], by simp, rfl, rfl⟩) (q _ _)
end
end Go.Proofs.YtlbadnpgmkobdaaV

set_option linter.unusedVariables false
set_option linter.unusedSimpArgs false
namespace Go.Proofs.YtlbadnpgmkobdaaV
open Go Go.RowKit Go.Proofs
theorem mask_nat {x : Nat} (h : x ≤ 64) : maskF ((x : Nat) : Int) = ((pw x - 1 : Nat) : Int) := by
 rcases Nat.eq_zero_or_pos x with q | q
 ·
  subst q; rw [mask_z (by omega)]; rfl
 ·
  rw [mask_pow (by omega), Int.toNat_natCast]
  unfold pw
  have h1 : (1 : Nat) ≤ 2 ^ x := Nat.one_le_two_pow
  rw [Int.natCast_sub h1]; simp
theorem pwm_lt {x : Nat} (h : x ≤ 64) : pw x - 1 < 18446744073709551616 := by have := pw64 h; have := pw_pos x; omega
/-- Bits that are known, and what they are. -/
abbrev K := Nat × Nat
def KI (w : Nat) (x : K) : Prop := x.1 < pw w ∧ ∀ t, x.2.testBit t = true → x.1.testBit t = true
theorem KI.hi {w : Nat} {x : K} (h : KI w x) {t : Nat} (ht : w ≤ t) : x.1.testBit t = false := Nat.testBit_lt_two_pow (Nat.lt_of_lt_of_le h.1 (Nat.pow_le_pow_right (n := 2) (by decide) ht))
theorem KI.hv {w : Nat} {x : K} (h : KI w x) {t : Nat} (ht : w ≤ t) : x.2.testBit t = false := by
 cases q : x.2.testBit t with
 | false => rfl
 | true => have := h.2 t q; rw [h.hi ht] at this; cases this
theorem KI.lt2 {w : Nat} {x : K} (h : KI w x) : x.2 < pw w := by
 apply Nat.lt_of_not_le
 intro hle
 have : x.2 ≠ 0 := by have := pw_pos w; omega
 have hl := Nat.log2_self_le this
 have hb : x.2.testBit x.2.log2 = true := Nat.testBit_log2 this
 have : w ≤ x.2.log2 := (Nat.le_log2 this).2 hle
 rw [h.hv this] at hb; cases hb
theorem KI.u1 {w : Nat} {x : K} (h : KI w x) (hw : w ≤ 64) : x.1 < 18446744073709551616 := Nat.lt_of_lt_of_le h.1 (pw64 hw)
theorem KI.u2 {w : Nat} {x : K} (h : KI w x) (hw : w ≤ 64) : x.2 < 18446744073709551616 := Nat.lt_of_lt_of_le h.lt2 (pw64 hw)
section
variable {w : Nat} {x y : K} (hx : KI w x) (hy : KI w y)
include hx hy
end
/-! ### Sums -/
/-! ### Moves, comparisons, choices -/
/-! ### A term's -/
def kV (k : K) : Value := .agg #[.int .u64 ((k.1 : Nat) : Int), .int .u64 ((k.2 : Nat) : Int)]
/-! ### The same, as the document's loops tell them -/
theorem bit_eqN (x i : Nat) : (((x / pw i % 2 : Nat) : Int) == 1) = x.testBit i := by
 rw [← bitB]
 rcases (show x / pw i % 2 = 0 ∨ x / pw i % 2 = 1 by omega) with h | h
 ·
  rw [h]; rfl
 ·
  rw [h]; rfl
section
variable {w by_ t fr : Nat} {x : K}
end
end Go.Proofs.YtlbadnpgmkobdaaV

set_option linter.unusedVariables false
set_option linter.unusedSimpArgs false
namespace Go.Proofs.YtlbadnpgmkobdaaV
open Go Go.RowKit Go.Proofs
def kcl (k : K) : List Value := [.int .u64 ((k.1 : Nat) : Int), .int .u64 ((k.2 : Nat) : Int)]
def kcs (l : List K) : List Value := l.flatMap kcl
theorem kcs_length (l : List K) : (kcs l).length = l.length * 2 := by
 induction l with
 | nil => rfl
 | cons x l ih => unfold kcs at *; simp only [List.flatMap_cons, List.length_append, ih, List.length_cons]; simp [kcl]; omega
theorem kcs_app (l m : List K) : kcs (l ++ m) = kcs l ++ kcs m := by simp [kcs]
def kg (l : List K) (i : Nat) : K := l.getD i (0, 0)
theorem kcs_part (l : List K) {i : Nat} (hi : i < l.length) : ∀ j u, (kcl (kg l i))[j]? = some u → (kcs l)[i * 2 + j]? = some u := by
 induction l generalizing i with
 | nil => simp at hi
 | cons x l ih =>
  intro j u hj
  have hc : kcs (x :: l) = kcl x ++ kcs l := by simp [kcs]
  cases i with
  | zero =>
   have h2 : j < 2 := by
    rcases Nat.lt_or_ge j 2 with q | q
    ·
     exact q
    ·
     rw [List.getElem?_eq_none (by simpa [kcl] using q)] at hj; cases hj
   rw [hc, List.getElem?_append_left (by simp [kcl]; omega)]
   simpa [kg] using hj
  | succ i =>
   have e : (i + 1) * 2 + j = (kcl x).length + (i * 2 + j) := by simp [kcl]; omega
   rw [hc, e, List.getElem?_append_right (by omega), Nat.add_sub_cancel_left]
   exact ih (i := i) (by simpa using hi) j u (by simpa [kg] using hj)
theorem kg_app_lt {l : List K} {x : K} {i : Nat} (h : i < l.length) : kg (l ++ [x]) i = kg l i := by unfold kg; simp [List.getD_eq_getElem?_getD, List.getElem?_append_left h]
theorem kg_app_eq {l : List K} {x : K} : kg (l ++ [x]) l.length = x := by unfold kg; simp [List.getD_eq_getElem?_getD]
/-! ### None is known above the width -/
theorem cat_mod {a wa up : Nat} (h : a < pw wa) (hw : wa + up ≤ 64) : a * pw up % 18446744073709551616 = a * pw up ∧ a * pw up < pw (wa + up) := by
 have e : pw (wa + up) = pw wa * pw up := Nat.pow_add 2 wa up
 have h1 : a * pw up < pw (wa + up) := by rw [e]; exact Nat.mul_lt_mul_of_pos_right h (pw_pos up)
 exact ⟨Nat.mod_eq_of_lt (Nat.lt_of_lt_of_le h1 (pw64 hw)), h1⟩
theorem wid_nth {N : List Nd} {i : Nat} {x : Int} (h : pt i x) (hi : i ≤ N.length) : widF N x = nW (nth N x.toNat) := by
 unfold widF; rw [if_pos ⟨h.1, by have := h.2; omega⟩]
end Go.Proofs.YtlbadnpgmkobdaaV

set_option linter.unusedVariables false
set_option linter.unusedSimpArgs false
namespace Go.Proofs.YtlbadnpgmkobdaaV
open Go Go.RowKit Go.Proofs
/-- A span: from one on, up to one, that fits the width. -/
def RI (w : Nat) (x : K) : Prop := x.1 ≤ x.2 ∧ x.2 < pw w
theorem RI.u2 {w : Nat} {x : K} (h : RI w x) (hw : w ≤ 64) : x.2 < 18446744073709551616 := Nat.lt_of_lt_of_le h.2 (pw64 hw)
theorem RI.u1 {w : Nat} {x : K} (h : RI w x) (hw : w ≤ 64) : x.1 < 18446744073709551616 := Nat.lt_of_le_of_lt h.1 (h.u2 hw)
def rall (w : Nat) : K := (0, pw w - 1)
theorem rall_RI (w : Nat) : RI w (rall w) := ⟨Nat.zero_le _, by have := pw_pos w; show pw w - 1 < pw w; omega⟩
/-- How many bits a number has. -/
def bl (x : Nat) : Nat := if x = 0 then 0 else x.log2 + 1
theorem bl_lt (x : Nat) : x < pw (bl x) := by
 unfold bl
 split
 ·
  rename_i h; subst h; decide
 ·
  exact Nat.lt_log2_self
theorem bl_le {x : Nat} (h : bl x ≠ 0) : pw (bl x - 1) ≤ x := by
 unfold bl at h ⊢
 split at h
 ·
  exact absurd rfl h
 ·
  rename_i q; rw [if_neg q]; exact Nat.log2_self_le q
theorem bl_eq {x n : Nat} (h1 : x < pw n) (h2 : n = 0 ∨ pw (n - 1) ≤ x) : bl x = n := by
 rcases Nat.lt_trichotomy (bl x) n with h | h | h
 ·
  have h3 := bl_lt x
  rcases h2 with h2 | h2
  ·
   omega
  ·
   have : pw (bl x) ≤ pw (n - 1) := Nat.pow_le_pow_right (n := 2) (by decide) (by omega)
   omega
 ·
  exact h
 ·
  have h3 := bl_le (x := x) (by omega)
  have : pw n ≤ pw (bl x - 1) := Nat.pow_le_pow_right (n := 2) (by decide) (by omega)
  omega
theorem bl_div {x k : Nat} (h : pw k ≤ x) : bl (x / pw k) + k = bl x := by
 symm
 have hp := pw_pos k
 have h0 : 1 ≤ x / pw k := (Nat.le_div_iff_mul_le (by omega)).2 (by omega)
 have hb : bl (x / pw k) ≠ 0 := fun e => by have := bl_lt (x / pw k); rw [e] at this; have e0 : pw 0 = 1 := rfl; omega
 have e1 : pw (bl (x / pw k) + k) = pw (bl (x / pw k)) * pw k := Nat.pow_add 2 _ _
 refine bl_eq ?_ (.inr ?_)
 ·
  rw [e1]; exact (Nat.div_lt_iff_lt_mul (by omega)).1 (bl_lt _)
 ·
  have e2 : pw (bl (x / pw k) + k - 1) = pw (bl (x / pw k) - 1) * pw k := by
   rw [show bl (x / pw k) + k - 1 = (bl (x / pw k) - 1) + k by omega]; exact Nat.pow_add 2 _ _
  rw [e2]; exact (Nat.le_div_iff_mul_le (by omega)).1 (bl_le hb)
theorem bl_le64 {x n : Nat} (h : x < pw n) : bl x ≤ n := by
 rcases Nat.lt_or_ge n (bl x) with q | q
 ·
  have h3 := bl_le (x := x) (by omega)
  have : pw n ≤ pw (bl x - 1) := Nat.pow_le_pow_right (n := 2) (by decide) (by omega)
  omega
 ·
  exact q
/-- All bits below the highest. -/
def rfill (x : Nat) : Nat := pw (bl x) - 1
theorem bl_or (a b : Nat) : bl (a ||| b) = bl (max a b) := by
 have h : max a b ≤ a ||| b := Nat.max_le.2 ⟨Nat.left_le_or, Nat.right_le_or⟩
 refine bl_eq ?_ ?_
 ·
  have h1 : a < pw (bl (max a b)) := Nat.lt_of_le_of_lt (Nat.le_max_left a b) (bl_lt _)
  have h2 : b < pw (bl (max a b)) := Nat.lt_of_le_of_lt (Nat.le_max_right a b) (bl_lt _)
  exact Nat.or_lt_two_pow h1 h2
 ·
  by_cases q : bl (max a b) = 0
  ·
   exact .inl q
  ·
   exact .inr (Nat.le_trans (bl_le q) h)
theorem rfill_ge (x : Nat) : x ≤ rfill x := by have := bl_lt x; unfold rfill; omega
theorem rfill_lt {x w : Nat} (h : x < pw w) : rfill x < pw w := by
 have h1 : pw (bl x) ≤ pw w := Nat.pow_le_pow_right (n := 2) (by decide) (bl_le64 h)
 have := pw_pos (bl x)
 unfold rfill; omega
def rtruth (m n : Bool) : K := if m = true then (1, 1) else if n = true then (0, 0) else (0, 1)
theorem rtruth_RI (m n : Bool) : RI 1 (rtruth m n) := by
 unfold rtruth
 split
 ·
  exact ⟨Nat.le_refl _, by decide⟩
 ·
  split
  ·
   exact ⟨Nat.le_refl _, by decide⟩
  ·
   exact ⟨by decide, by decide⟩
/-- Two spans' operation. -/
def rbin (O w : Nat) (x y : K) : K :=
 if O = 1 then (if x.2 ≤ pw w - 1 - y.2 then (x.1 + y.1, x.2 + y.2) else rall w)
 else if O = 2 then (if y.2 ≤ x.1 then (x.1 - y.2, x.2 - y.1) else rall w)
 else if O = 3 then (if x.2 * y.2 ≤ pw w - 1 then (x.1 * y.1, x.2 * y.2) else rall w)
 else if O = 4 then (if 0 < y.1 then (x.1 / y.2, x.2 / y.1) else rall w)
 else if O = 5 then (if 0 < y.1 then (0, min x.2 (y.2 - 1)) else (0, x.2))
 else if O = 10 then (0, x.2)
 else if O = 6 then (0, min x.2 y.2)
 else if O = 7 then (max x.1 y.1, rfill (max x.2 y.2))
 else if O = 12 then rtruth (decide (x = y) && decide (x.1 = x.2)) (decide (x.2 < y.1) || decide (y.2 < x.1))
 else if O = 13 then rtruth (decide (x.2 < y.1)) (decide (y.2 ≤ x.1))
 else if O = 14 then rall 1 else rall w
/-- A term's span. -/
def rone (O W wide up : Nat) (x y z : K) (lo V : Nat) : K :=
 if O = 20 then (V, V) else if O = 21 ∨ O = 16 then rall W else if O = 15 then (pw W - 1 - x.2, pw W - 1 - x.1)
 else if O = 22 then (if x.1 = 1 then y else if x.2 = 0 then z else (min y.1 z.1, max y.2 z.2))
 else if O = 23 then (if lo = 0 ∧ x.2 ≤ pw W - 1 then x else rall W)
 else if O = 24 then (x.1 * pw up % 18446744073709551616 ||| y.1, x.2 * pw up % 18446744073709551616 ||| y.2)
 else if O = 26 then (if x.2.testBit (wide - 1) = true then rall W else x) else if O = 25 then x else rbin O wide x y
def ronN (N : List Nd) (l : List K) (n : Nd) : K := rone (nO n).toNat (nW n).toNat (widF N (nA n)).toNat (widF N (nB n)).toNat (kg l (nA n).toNat) (kg l (nB n).toNat) (kg l (nC n).toNat) (nB n).toNat (nV n).toNat
def rl (N : List Nd) : Nat → List K
 | 0 => []
 | i + 1 => rl N i ++ [ronN N (rl N i) (nth N i)]
theorem rl_length (N : List Nd) (i : Nat) : (rl N i).length = i := by
 induction i with
 | zero => rfl
 | succ i ih => show (rl N i ++ [_]).length = _; rw [List.length_append, ih]; rfl
theorem rl_kg {N : List Nd} {i j : Nat} (h : i < j) : kg (rl N j) i = ronN N (rl N i) (nth N i) := by
 induction j with
 | zero => omega
 | succ j ih =>
  show kg (rl N j ++ [ronN N (rl N j) (nth N j)]) i = _
  by_cases e : i = j
  ·
   subst e
   have := kg_app_eq (l := rl N i) (x := ronN N (rl N i) (nth N i))
   rw [rl_length] at this
   exact this
  ·
   rw [kg_app_lt (by rw [rl_length]; omega)]
   exact ih (by omega)
/-! ### A span fits -/
theorem rbin_RI {O w nw : Nat} {x y : K} (hx : RI w x) (hy : RI w y) (h1 : 1 ≤ w) (hnw : nw = if O = 12 ∨ O = 13 ∨ O = 14 then 1 else w) : RI nw (rbin O w x y) := by
 have hp := pw_pos w
 obtain ⟨x1, x2⟩ := hx
 obtain ⟨y1, y2⟩ := hy
 have ra := rall_RI w
 unfold rbin
 by_cases q : O = 1
 ·
  rw [if_pos q, hnw, if_neg (by omega)]
  split
  ·
   exact ⟨by show x.1 + y.1 ≤ x.2 + y.2; omega, by show x.2 + y.2 < _; omega⟩
  ·
   exact ra
 rw [if_neg q]
 by_cases q : O = 2
 ·
  rw [if_pos q, hnw, if_neg (by omega)]
  split
  ·
   exact ⟨by show x.1 - y.2 ≤ x.2 - y.1; omega, by show x.2 - y.1 < _; omega⟩
  ·
   exact ra
 rw [if_neg q]
 by_cases q : O = 3
 ·
  rw [if_pos q, hnw, if_neg (by omega)]
  split
  ·
   exact ⟨Nat.mul_le_mul x1 y1, by show x.2 * y.2 < _; omega⟩
  ·
   exact ra
 rw [if_neg q]
 by_cases q : O = 4
 ·
  rw [if_pos q, hnw, if_neg (by omega)]
  split
  ·
   refine ⟨Nat.div_le_div x1 y1 (by omega), ?_⟩
   have := Nat.div_le_self x.2 y.1
   show x.2 / y.1 < _
   omega
  ·
   exact ra
 rw [if_neg q]
 by_cases q : O = 5
 ·
  rw [if_pos q, hnw, if_neg (by omega)]
  split
  ·
   exact ⟨Nat.zero_le _, by show min x.2 (y.2 - 1) < _; omega⟩
  ·
   exact ⟨Nat.zero_le _, x2⟩
 rw [if_neg q]
 by_cases q : O = 10
 ·
  rw [if_pos q, hnw, if_neg (by omega)]; exact ⟨Nat.zero_le _, x2⟩
 rw [if_neg q]
 by_cases q : O = 6
 ·
  rw [if_pos q, hnw, if_neg (by omega)]; exact ⟨Nat.zero_le _, by show min x.2 y.2 < _; omega⟩
 rw [if_neg q]
 by_cases q : O = 7
 ·
  rw [if_pos q, hnw, if_neg (by omega)]
  refine ⟨?_, rfill_lt (by omega)⟩
  have := rfill_ge (max x.2 y.2)
  show max x.1 y.1 ≤ rfill (max x.2 y.2)
  omega
 rw [if_neg q]
 by_cases q : O = 12
 ·
  rw [if_pos q, hnw, if_pos (by omega)]; exact rtruth_RI _ _
 rw [if_neg q]
 by_cases q : O = 13
 ·
  rw [if_pos q, hnw, if_pos (by omega)]; exact rtruth_RI _ _
 rw [if_neg q]
 by_cases q : O = 14
 ·
  rw [if_pos q, hnw, if_pos (by omega)]; exact rall_RI 1
 rw [if_neg q, hnw, if_neg (by omega)]
 exact ra
theorem or_add {a b up : Nat} (hb : b < pw up) : a * pw up ||| b = a * pw up + b := by
 rw [Nat.mul_comm]; exact (Nat.two_pow_add_eq_or_of_lt hb a).symm
theorem cat_span {wa up : Nat} {x y : K} (hx : RI wa x) (hy : RI up y) (hw : wa + up ≤ 64) : (x.1 * pw up % 18446744073709551616 ||| y.1, x.2 * pw up % 18446744073709551616 ||| y.2) = (x.1 * pw up + y.1, x.2 * pw up + y.2) := by
 rw [(cat_mod (Nat.lt_of_le_of_lt hx.1 hx.2) hw).1, (cat_mod hx.2 hw).1, or_add (Nat.lt_of_le_of_lt hy.1 hy.2), or_add hy.2]
theorem cat_RI {wa up : Nat} {x y : K} (hx : RI wa x) (hy : RI up y) : RI (wa + up) (x.1 * pw up + y.1, x.2 * pw up + y.2) := by
 refine ⟨?_, ?_⟩
 ·
  have := Nat.mul_le_mul_right (pw up) hx.1
  have := hy.1
  show x.1 * pw up + y.1 ≤ x.2 * pw up + y.2
  omega
 ·
  have e : pw (wa + up) = pw wa * pw up := Nat.pow_add 2 wa up
  have h := Nat.mul_le_mul_right (pw up) (show x.2 + 1 ≤ pw wa from hx.2)
  rw [Nat.add_mul, Nat.one_mul] at h
  have := hy.2
  show x.2 * pw up + y.2 < _
  rw [e]; omega
theorem RI.wider {w W : Nat} {x : K} (h : RI w x) (hw : w ≤ W) : RI W x := ⟨h.1, Nat.lt_of_lt_of_le h.2 (Nat.pow_le_pow_right (n := 2) (by decide) hw)⟩
theorem ronN_RI {N : List Nd} {l : List K} {i : Nat} {n : Nd} (h : NdW N i n) (hw : 1 ≤ nW n ∧ nW n ≤ 64) (hi : i ≤ N.length) (hws : ∀ x, pt i x → 1 ≤ widF N x ∧ widF N x ≤ 64) (hl : ∀ j, j < i → RI (nW (nth N j)).toNat (kg l j)) : RI (nW n).toNat (ronN N l n) := by
 have arg : ∀ x, pt i x → RI (widF N x).toNat (kg l x.toNat) := fun x p => by
  rw [wid_nth p hi]; exact hl _ (by have := p.1; have := p.2; omega)
 unfold ronN rone
 rcases h with h | h | ⟨h, a, e⟩ | ⟨h, a, b, e, e2⟩ | ⟨h, a, b, c, e, e2, e3⟩ | ⟨h, a, b, e⟩ | ⟨h, a, b, e⟩ | ⟨h, a, e⟩
 ·
  rw [if_pos (by omega)]
  have h2 := h.2.2
  have e : ((pw (nW n).toNat : Nat) : Int) = 2 ^ (nW n).toNat := by (unfold pw; simp)
  rw [← e] at h2
  exact ⟨Nat.le_refl _, by show (nV n).toNat < _; omega⟩
 ·
  rw [if_neg (by omega), if_pos (by omega)]; exact rall_RI _
 ·
  rcases h with h | h
  ·
   rw [if_neg (by omega), if_neg (by omega), if_pos (by omega), e]
   have hx := arg _ a
   have := hx.1
   have := hx.2
   exact ⟨by show pw _ - 1 - _ ≤ pw _ - 1 - _; omega, by show pw _ - 1 - _ < _; omega⟩
  ·
   rw [if_neg (by omega), if_pos (by omega)]; exact rall_RI _
 ·
  rw [if_neg (by omega), if_neg (by omega), if_neg (by omega), if_neg (by omega), if_neg (by omega), if_neg (by omega), if_neg (by omega), if_neg (by omega)]
  have hy := arg _ b
  rw [← e] at hy
  have w1 := hws _ a
  refine rbin_RI (arg _ a) hy (by omega) ?_
  rw [e2]
  by_cases q : nO n = 12 ∨ nO n = 13 ∨ nO n = 14
  ·
   rw [if_pos q, if_pos (by omega)]; rfl
  ·
   rw [if_neg q, if_neg (by omega)]
 ·
  rw [if_neg (by omega), if_neg (by omega), if_neg (by omega), if_pos (by omega)]
  have hy := arg _ b
  have hz := arg _ c
  rw [← e2, ← e3] at hz
  rw [← e3] at hy
  split
  ·
   exact hy
  ·
   split
   ·
    exact hz
   ·
    have := hy.1
    have := hy.2
    have := hz.1
    have := hz.2
    exact ⟨by show min _ _ ≤ max _ _; omega, by show max _ _ < _; omega⟩
 ·
  rw [if_neg (by omega), if_neg (by omega), if_neg (by omega), if_neg (by omega), if_pos (by omega)]
  split
  ·
   rename_i q
   have := pw_pos (nW n).toNat
   exact ⟨(arg _ a).1, by omega⟩
  ·
   exact rall_RI _
 ·
  rw [if_neg (by omega), if_neg (by omega), if_neg (by omega), if_neg (by omega), if_neg (by omega), if_pos (by omega)]
  have w1 := hws _ a
  have w2 := hws _ b
  rw [cat_span (arg _ a) (arg _ b) (by omega), show (nW n).toNat = (widF N (nA n)).toNat + (widF N (nB n)).toNat by omega]
  exact cat_RI (arg _ a) (arg _ b)
 ·
  have hx := (arg _ a).wider (show (widF N (nA n)).toNat ≤ (nW n).toNat by omega)
  rcases h with h | h
  ·
   rw [if_neg (by omega), if_neg (by omega), if_neg (by omega), if_neg (by omega), if_neg (by omega), if_neg (by omega), if_neg (by omega), if_pos (by omega)]
   exact hx
  ·
   rw [if_neg (by omega), if_neg (by omega), if_neg (by omega), if_neg (by omega), if_neg (by omega), if_neg (by omega), if_pos (by omega)]
   split
   ·
    exact rall_RI _
   ·
    exact hx
theorem rl_RI {N : List Nd} {most : Int} (hJ : TJ N most) (hB : TB N) : ∀ i j, i < j → i < N.length → RI (nW (nth N i)).toNat (kg (rl N j) i) := by
 intro i
 induction i using Nat.strongRecOn with
 | _ i ih =>
  intro j hij hi
  rw [rl_kg hij]
  exact ronN_RI (hB i hi) (hJ.wr _ (nth_mem hi)) (by omega) (fun x p => hJ.wid p.1 (by have := p.2; omega)) (fun q hq => ih q hq i hq (by omega))
/-! ### A product's upper half -/
theorem mul_hi {x y : Nat} (hx : x < 18446744073709551616) (hy : y < 18446744073709551616) :
  (((x / pw 32 * (y / pw 32) % 18446744073709551616 + ((x / pw 32 * (y &&& 4294967295) % 18446744073709551616 + ((x &&& 4294967295) * (y &&& 4294967295) % 18446744073709551616) / pw 32) % 18446744073709551616) / pw 32) % 18446744073709551616 + (((((x / pw 32 * (y &&& 4294967295) % 18446744073709551616 + ((x &&& 4294967295) * (y &&& 4294967295) % 18446744073709551616) / pw 32) % 18446744073709551616) &&& 4294967295) + (x &&& 4294967295) * (y / pw 32) % 18446744073709551616) % 18446744073709551616) / pw 32) % 18446744073709551616) = x * y / 18446744073709551616 := by
 have e32 : pw 32 = 4294967296 := rfl
 have am : ∀ z : Nat, z &&& 4294967295 = z % 4294967296 := fun z => Nat.and_two_pow_sub_one_eq_mod z 32
 rw [am x, am y, am ((x / pw 32 * (y % 4294967296) % 18446744073709551616 + x % 4294967296 * (y % 4294967296) % 18446744073709551616 / pw 32) % 18446744073709551616), e32]
 have hx1 : x / 4294967296 ≤ 4294967295 := by omega
 have hy1 : y / 4294967296 ≤ 4294967295 := by omega
 have hx0 : x % 4294967296 ≤ 4294967295 := by omega
 have hy0 : y % 4294967296 ≤ 4294967295 := by omega
 have ex : x = x / 4294967296 * 4294967296 + x % 4294967296 := by omega
 have ey : y = y / 4294967296 * 4294967296 + y % 4294967296 := by omega
 generalize x / 4294967296 = a at *
 generalize x % 4294967296 = b at *
 generalize y / 4294967296 = c at *
 generalize y % 4294967296 = d at *
 have p1 := Nat.mul_le_mul hx1 hy1
 have p2 := Nat.mul_le_mul hx1 hy0
 have p3 := Nat.mul_le_mul hx0 hy1
 have p4 := Nat.mul_le_mul hx0 hy0
 have e : x * y = a * c * 18446744073709551616 + (a * d + b * c) * 4294967296 + b * d := by
  rw [ex, ey, Nat.add_mul, Nat.mul_add, Nat.mul_add]
  have q1 : a * 4294967296 * (c * 4294967296) = a * c * 18446744073709551616 := by
   rw [Nat.mul_mul_mul_comm]
  have q2 : a * 4294967296 * d = a * d * 4294967296 := Nat.mul_right_comm _ _ _
  have q3 : b * (c * 4294967296) = b * c * 4294967296 := (Nat.mul_assoc _ _ _).symm
  rw [q1, q2, q3, Nat.add_mul]
  omega
 rw [e]
 generalize a * c = A at *
 generalize a * d = B at *
 generalize b * c = C at *
 generalize b * d = D at *
 omega
end Go.Proofs.YtlbadnpgmkobdaaV

set_option linter.unusedVariables false
set_option linter.unusedSimpArgs false
namespace Go.Proofs.YtlbadnpgmkobdaaV
open Go Go.RowKit Go.Proofs

set_option maxRecDepth 100000 in
theorem same_nd (n : Nd) (g : Value) (w : World) : Ret Try.prog 101 [.agg #[.int .i64 (nO n), .int .i64 (nW n), .int .i64 (nA n), .int .i64 (nB n), .int .i64 (nC n), .int .u64 (nV n)], g] w fun v w' => v = .agg #[.int .i64 (nO n), .int .i64 (nW n), .int .i64 (nA n), .int .i64 (nB n), .int .i64 (nC n), .int .u64 (nV n)] ∧ Tch N0 w w' := by
 refine enter Try.func101 rfl rfl ?_
 refine zQ ?_
 refine st (by rfl) (S_new (v := .pointer (some ⟨w.heap.size, 0, none⟩)) (ob := .cells #[.int .i64 (nO n), .int .i64 (nW n), .int .i64 (nA n), .int .i64 (nB n), .int .i64 (nC n), .int .u64 (nV n)] 32) (by kernel_rfl) fun w1 hT2 hs3 hB4 => ?_)
 replace hB4 : Blk w1 (w.heap.size) 32 [.int .i64 (nO n), .int .i64 (nW n), .int .i64 (nA n), .int .i64 (nB n), .int .i64 (nC n), .int .u64 (nV n)] := hB4
 have hT0 := hT2
 have z9 := hT0.size
 have l10 := hB4.lt
 refine st (by rfl) (S_new (v := .pointer (some ⟨w1.heap.size, 0, none⟩)) (ob := .cells #[.int .i64 0, .int .i64 0, .int .i64 0, .int .i64 0, .int .i64 0, .int .u64 0] 32) (by kernel_rfl) fun w5 hT6 hs7 hB8 => ?_)
 replace hB8 : Blk w5 (w1.heap.size) 32 [.int .i64 0, .int .i64 0, .int .i64 0, .int .i64 0, .int .i64 0, .int .u64 0] := hB8
 have hT0 := hT0.t0 hT6
 have hB4 := hB4.tch0 hT6
 refine op_nil ?_
 refine zQ ?_
 refine st (by rfl) (S_val (v := .agg #[.int .i64 (nO n), .int .i64 (nW n), .int .i64 (nA n), .int .i64 (nB n), .int .i64 (nC n), .int .u64 (nV n)]) (R_loadA [.int .i64 (nO n), .int .i64 (nW n), .int .i64 (nA n), .int .i64 (nB n), .int .i64 (nC n), .int .u64 (nV n)] (by kernel_rfl) (by kernel_rfl) (by kernel_rfl) (fun k u hk => by rw [hB4.cell]; exact get_part _ 0 _ k u rfl hk)) ?_)
 refine st (by rfl) (S_storeA (b := w1.heap.size) (j := 0) (cs := [.int .i64 (nO n), .int .i64 (nW n), .int .i64 (nA n), .int .i64 (nB n), .int .i64 (nC n), .int .u64 (nV n)]) (by kernel_rfl) (by kernel_rfl) (by kernel_rfl) (by simp [oneV]) hB8 (by simp) fun w11 hT12 hs13 hB8' => ?_)
 have hT0 := (hT0).then hT12 (fun c e => by have : c = w1.heap.size := e; omega)
 have hB4 := hB4.tch hT12 (fun e => by have : w.heap.size = w1.heap.size := e; omega)
 replace hB8 : Blk w11 w1.heap.size 32 [.int .i64 (nO n), .int .i64 (nW n), .int .i64 (nA n), .int .i64 (nB n), .int .i64 (nC n), .int .u64 (nV n)] := hB8'
 refine op_nil ?_
 refine W_ret ?_
 exact ⟨_, Res_cell (b := w1.heap.size) (cs := [.int .i64 (nO n), .int .i64 (nW n), .int .i64 (nA n), .int .i64 (nB n), .int .i64 (nC n), .int .u64 (nV n)]) (by rfl) (by kernel_rfl) (by kernel_rfl) hB8 (by kernel_rfl) (by kernel_rfl), ⟨rfl, hT0⟩⟩

set_option maxRecDepth 100000 in
theorem kids_ok (N : List Nd) (i : Nat) (n : Nd) (w : World) (h : NdW N i n) : Ret Try.prog 116 [.agg #[.int .i64 (nO n), .int .i64 (nW n), .int .i64 (nA n), .int .i64 (nB n), .int .i64 (nC n), .int .u64 (nV n)]] w fun v w' => KidR n w v w' := by
 refine enter Try.func116 rfl rfl ?_
 refine zQ ?_
 refine st (by rfl) (S_new (v := .pointer (some ⟨w.heap.size, 0, none⟩)) (ob := .cells #[.int .i64 (nO n), .int .i64 (nW n), .int .i64 (nA n), .int .i64 (nB n), .int .i64 (nC n), .int .u64 (nV n)] 32) (by kernel_rfl) fun w1 hT2 hs3 hB4 => ?_)
 replace hB4 : Blk w1 (w.heap.size) 32 [.int .i64 (nO n), .int .i64 (nW n), .int .i64 (nA n), .int .i64 (nB n), .int .i64 (nC n), .int .u64 (nV n)] := hB4
 have hT0 := hT2
 refine zS [(2, .slice none 0 0)] ?_
 refine op_nil ?_
 refine W_seq ?_
 refine W_block ?_
 refine W_seq ?_
 refine zQ ?_
 refine zS [(4, .pointer (some ⟨w.heap.size, 0, none⟩))] ?_
 refine zL (.int .i64 (nO n)) ((hB4.cell 0).trans rfl) ?_
 refine zS [(6, .bool ((nO n) == 20)), (3, .bool ((nO n) == 20))] ?_
 refine zO ((nO n) == 20) (fun hc5 => ?_) (fun hc5 => ?_)
 ·
  replace hc5 : nO n = 20 := (eq_of_beq hc5)
  refine W_skip ?_
  refine zW ((nO n) == 20) (fun hc6 => ?_) (fun hc6 => ?_)
  ·
   replace hc6 : nO n = 20 := (eq_of_beq hc6)
   refine zQ ?_
   refine zS [(2, .slice none 0 0)] ?_
   refine op_nil ?_
   refine W_ret ?_
   refine ⟨_, Res_of (v := .slice none 0 0) (by kernel_rfl), ?_⟩
   have e := kids_cells h
   rw [if_pos (by omega)] at e
   exact KidR.nil e hT0
  ·
   replace hc6 : nO n ≠ 20 := (ne_of_beq_false hc6)
   exfalso; omega
 ·
  replace hc5 : nO n ≠ 20 := (ne_of_beq_false hc5)
  refine zR ?_
  refine zS [(7, .pointer (some ⟨w.heap.size, 0, none⟩))] ?_
  refine zL (.int .i64 (nO n)) ((hB4.cell 0).trans rfl) ?_
  refine zS [(9, .bool ((nO n) == 21)), (3, .bool ((nO n) == 21))] ?_
  refine zO ((nO n) == 21) (fun hc7 => ?_) (fun hc7 => ?_)
  ·
   replace hc7 : nO n = 21 := (eq_of_beq hc7)
   refine W_seq ?_
   refine zF [(0, .agg #[.int .i64 (nO n), .int .i64 (nW n), .int .i64 (nA n), .int .i64 (nB n), .int .i64 (nC n), .int .u64 (nV n)]), (1, .pointer (some ⟨w.heap.size, 0, none⟩)), (2, .slice none 0 0), (3, .bool ((nO n) == 21))] fun ρ => ?_
   refine zR ?_
   refine zS [(2, .slice none 0 0)] ?_
   refine op_nil ?_
   refine W_ret ?_
   refine ⟨_, Res_of (v := .slice none 0 0) (by kernel_rfl), ?_⟩
   have e := kids_cells h
   rw [if_pos (by omega)] at e
   exact KidR.nil e hT0
  ·
   replace hc7 : nO n ≠ 21 := (ne_of_beq_false hc7)
   refine W_seq ?_
   refine zF [(0, .agg #[.int .i64 (nO n), .int .i64 (nW n), .int .i64 (nA n), .int .i64 (nB n), .int .i64 (nC n), .int .u64 (nV n)]), (1, .pointer (some ⟨w.heap.size, 0, none⟩)), (2, .slice none 0 0), (3, .bool ((nO n) == 21))] fun ρ => ?_
   refine zR ?_
   refine zS [(11, .pointer (some ⟨w.heap.size, 0, none⟩))] ?_
   refine zL (.int .i64 (nO n)) ((hB4.cell 0).trans rfl) ?_
   refine zS [(13, .bool ((nO n) == 22)), (10, .bool ((nO n) == 22))] ?_
   refine zO ((nO n) == 22) (fun hc8 => ?_) (fun hc8 => ?_)
   ·
    replace hc8 : nO n = 22 := (eq_of_beq hc8)
    refine zQ ?_
    refine zS [(14, .pointer (some ⟨w.heap.size, 2, none⟩))] ?_
    refine zL (.int .i64 (nA n)) ((hB4.cell 2).trans rfl) ?_
    refine zS [(16, .pointer (some ⟨w.heap.size, 3, none⟩))] ?_
    refine zL (.int .i64 (nB n)) ((hB4.cell 3).trans rfl) ?_
    refine zS [(18, .pointer (some ⟨w.heap.size, 4, none⟩))] ?_
    refine zL (.int .i64 (nC n)) ((hB4.cell 4).trans rfl) ?_
    have hz13 := hT0.size
    have z14 := hT0.size
    have l15 := hB4.lt
    refine st (by rfl) (S_new (v := .slice (some ⟨w1.heap.size, 0, none⟩) 3 3) (ob := .cells #[.int .i64 (nA n), .int .i64 (nB n), .int .i64 (nC n)] 3) (by kernel_rfl) fun w9 hT10 hs11 hB12 => ?_)
    replace hB12 : Blk w9 (w1.heap.size) 3 [.int .i64 (nA n), .int .i64 (nB n), .int .i64 (nC n)] := hB12
    have hT0 := hT0.t0 hT10
    have hB4 := hB4.tch0 hT10
    refine zS [(2, .slice (some ⟨w1.heap.size, 0, none⟩) 3 3)] ?_
    refine op_nil ?_
    refine W_ret ?_
    refine ⟨_, Res_of (v := .slice (some ⟨w1.heap.size, 0, none⟩) 3 3) (by kernel_rfl), ?_⟩
    have e := kids_cells h
    rw [if_neg (by omega), if_pos (by omega)] at e
    exact KidR.blk e rfl hB12 (by have := hT0.size; omega) (by omega) hT0
   ·
    replace hc8 : nO n ≠ 22 := (ne_of_beq_false hc8)
    refine W_seq ?_
    refine zQ ?_
    refine zS [(22, .pointer (some ⟨w.heap.size, 0, none⟩))] ?_
    refine zL (.int .i64 (nO n)) ((hB4.cell 0).trans rfl) ?_
    refine zS [(24, .bool (decide (nO n ≤ 14))), (21, .bool (decide (nO n ≤ 14)))] ?_
    refine zO (decide (nO n ≤ 14)) (fun hc16 => ?_) (fun hc16 => ?_)
    ·
     replace hc16 : nO n ≤ 14 := (of_decide_eq_true hc16)
     refine W_skip ?_
     refine zW (decide (nO n ≤ 14)) (fun hc17 => ?_) (fun hc17 => ?_)
     ·
      replace hc17 : nO n ≤ 14 := (of_decide_eq_true hc17)
      refine W_seq ?_
      refine zF [(0, .agg #[.int .i64 (nO n), .int .i64 (nW n), .int .i64 (nA n), .int .i64 (nB n), .int .i64 (nC n), .int .u64 (nV n)]), (1, .pointer (some ⟨w.heap.size, 0, none⟩)), (2, .slice none 0 0), (3, .bool ((nO n) == 21)), (10, .bool ((nO n) == 22)), (21, .bool (decide (nO n ≤ 14)))] fun ρ => ?_
      refine zR ?_
      refine zS [(28, .pointer (some ⟨w.heap.size, 2, none⟩))] ?_
      refine zL (.int .i64 (nA n)) ((hB4.cell 2).trans rfl) ?_
      refine zS [(30, .pointer (some ⟨w.heap.size, 3, none⟩))] ?_
      refine zL (.int .i64 (nB n)) ((hB4.cell 3).trans rfl) ?_
      have hz22 := hT0.size
      have z23 := hT0.size
      have l24 := hB4.lt
      refine st (by rfl) (S_new (v := .slice (some ⟨w1.heap.size, 0, none⟩) 2 2) (ob := .cells #[.int .i64 (nA n), .int .i64 (nB n)] 3) (by kernel_rfl) fun w18 hT19 hs20 hB21 => ?_)
      replace hB21 : Blk w18 (w1.heap.size) 3 [.int .i64 (nA n), .int .i64 (nB n)] := hB21
      have hT0 := hT0.t0 hT19
      have hB4 := hB4.tch0 hT19
      refine zS [(2, .slice (some ⟨w1.heap.size, 0, none⟩) 2 2)] ?_
      refine op_nil ?_
      refine W_ret ?_
      refine ⟨_, Res_of (v := .slice (some ⟨w1.heap.size, 0, none⟩) 2 2) (by kernel_rfl), ?_⟩
      have e := kids_cells h
      rw [if_neg (by omega), if_neg (by omega), if_pos (by omega)] at e
      exact KidR.blk e rfl hB21 (by have := hT0.size; omega) (by omega) hT0
     ·
      replace hc17 : 14 < nO n := (Int.not_le.1 (of_decide_eq_false hc17))
      exfalso; omega
    ·
     replace hc16 : 14 < nO n := (Int.not_le.1 (of_decide_eq_false hc16))
     refine zF [(0, .agg #[.int .i64 (nO n), .int .i64 (nW n), .int .i64 (nA n), .int .i64 (nB n), .int .i64 (nC n), .int .u64 (nV n)]), (1, .pointer (some ⟨w.heap.size, 0, none⟩)), (2, .slice none 0 0), (3, .bool ((nO n) == 21)), (10, .bool ((nO n) == 22)), (21, .bool (decide (nO n ≤ 14)))] fun ρ => ?_
     refine zR ?_
     refine zS [(25, .pointer (some ⟨w.heap.size, 0, none⟩))] ?_
     refine zL (.int .i64 (nO n)) ((hB4.cell 0).trans rfl) ?_
     refine zS [(27, .bool ((nO n) == 24)), (21, .bool ((nO n) == 24))] ?_
     refine zO ((nO n) == 24) (fun hc25 => ?_) (fun hc25 => ?_)
     ·
      replace hc25 : nO n = 24 := (eq_of_beq hc25)
      refine zQ ?_
      refine zS [(28, .pointer (some ⟨w.heap.size, 2, none⟩))] ?_
      refine zL (.int .i64 (nA n)) ((hB4.cell 2).trans rfl) ?_
      refine zS [(30, .pointer (some ⟨w.heap.size, 3, none⟩))] ?_
      refine zL (.int .i64 (nB n)) ((hB4.cell 3).trans rfl) ?_
      have hz30 := hT0.size
      have z31 := hT0.size
      have l32 := hB4.lt
      refine st (by rfl) (S_new (v := .slice (some ⟨w1.heap.size, 0, none⟩) 2 2) (ob := .cells #[.int .i64 (nA n), .int .i64 (nB n)] 3) (by kernel_rfl) fun w26 hT27 hs28 hB29 => ?_)
      replace hB29 : Blk w26 (w1.heap.size) 3 [.int .i64 (nA n), .int .i64 (nB n)] := hB29
      have hT0 := hT0.t0 hT27
      have hB4 := hB4.tch0 hT27
      refine zS [(2, .slice (some ⟨w1.heap.size, 0, none⟩) 2 2)] ?_
      refine op_nil ?_
      refine W_ret ?_
      refine ⟨_, Res_of (v := .slice (some ⟨w1.heap.size, 0, none⟩) 2 2) (by kernel_rfl), ?_⟩
      have e := kids_cells h
      rw [if_neg (by omega), if_neg (by omega), if_pos (by omega)] at e
      exact KidR.blk e rfl hB29 (by have := hT0.size; omega) (by omega) hT0
     ·
      replace hc25 : nO n ≠ 24 := (ne_of_beq_false hc25)
      refine W_skip ?_
      refine zQ ?_
      refine zS [(33, .pointer (some ⟨w.heap.size, 2, none⟩))] ?_
      refine zL (.int .i64 (nA n)) ((hB4.cell 2).trans rfl) ?_
      have hz37 := hT0.size
      have z38 := hT0.size
      have l39 := hB4.lt
      refine st (by rfl) (S_new (v := .slice (some ⟨w1.heap.size, 0, none⟩) 1 1) (ob := .cells #[.int .i64 (nA n)] 3) (by kernel_rfl) fun w33 hT34 hs35 hB36 => ?_)
      replace hB36 : Blk w33 (w1.heap.size) 3 [.int .i64 (nA n)] := hB36
      have hT0 := hT0.t0 hT34
      have hB4 := hB4.tch0 hT34
      refine zS [(2, .slice (some ⟨w1.heap.size, 0, none⟩) 1 1)] ?_
      refine op_nil ?_
      refine W_ret ?_
      refine ⟨_, Res_of (v := .slice (some ⟨w1.heap.size, 0, none⟩) 1 1) (by kernel_rfl), ?_⟩
      have e := kids_cells h
      rw [if_neg (by omega), if_neg (by omega), if_neg (by omega)] at e
      exact KidR.blk e rfl hB36 (by have := hT0.size; omega) (by omega) hT0

end Go.Proofs.YtlbadnpgmkobdaaV

set_option linter.unusedVariables false
set_option linter.unusedSimpArgs false
namespace Go.Proofs.YtlbadnpgmkobdaaV
open Go Go.RowKit Go.Proofs

set_option maxRecDepth 100000 in
set_option maxHeartbeats 1000000 in
theorem once_ok (F : Nat → Prop) (p : Nat) (most : Int) (N : List Nd) (W : Value → Value → Prop) (mb id : Nat) (w : World) (hL : TLow F w p most N W) (hN : N.length ≤ 65536) (hB : TB N) (hid : id < N.length) (hM0 : MapE Try.prog 3 w mb (fun _ _ => False)) (hmF : ¬ F mb) : Ret Try.prog 100 [.pointer (some ⟨p, 0, none⟩), .int .i64 ((id : Nat) : Int), .map (some mb), .func (.func 101) #[] #[]] w fun v w' => ∃ hd : List Bool, hd.getD id false = true ∧ MapE Try.prog 3 w' mb (hdR N hd) ∧ Tch (one mb) w w' := by
 have hF : Tch (one mb) w w := Tch.refl _ _
 have hL0 := hL
 have hM : MapE Try.prog 3 w mb (hdR N (List.replicate N.length false)) := hM0.congr (fun x y => hdR_nil _ _ x y)
 have hmlt := hM0.lt
 refine enter Try.func100 rfl rfl ?_
 refine zQ ?_
 have hz5 := hF.size
 have hlt_ := hL.lt
 refine st (by rfl) (S_new (v := .pointer (some ⟨w.heap.size, 0, none⟩)) (ob := .cells #[.map (some mb)] 137) (by kernel_rfl) fun w1 hT2 hs3 hB4 => ?_)
 replace hB4 : Blk w1 (w.heap.size) 137 [.map (some mb)] := hB4
 have hL := hL.tch0 hT2
 have hF := hF.then0 hT2
 have hM := hM.tch0 hT2
 have nF_hB4 : ¬ F (w.heap.size) := fun e => by have := hlt_ _ e; omega
 have hz10 := hF.size
 have lt11 := hB4.lt
 have hlt_ := hL.lt
 refine st (by rfl) (S_new (v := .pointer (some ⟨w1.heap.size, 0, none⟩)) (ob := .cells #[.int .i64 0, .int .i64 0, .int .i64 0, .int .i64 0, .int .i64 0, .int .u64 0] 32) (by kernel_rfl) fun w6 hT7 hs8 hB9 => ?_)
 replace hB9 : Blk w6 (w1.heap.size) 32 [.int .i64 0, .int .i64 0, .int .i64 0, .int .i64 0, .int .i64 0, .int .u64 0] := hB9
 have hL := hL.tch0 hT7
 have hF := hF.then0 hT7
 have hM := hM.tch0 hT7
 have hB4 := hB4.tch0 hT7
 have nF_hB9 : ¬ F (w1.heap.size) := fun e => by have := hlt_ _ e; omega
 refine op_nil ?_
 refine zQ ?_
 refine zS [(18, .int .i64 ((id : Nat) : Int))] ?_
 have hz16 := hF.size
 have lt17 := hB4.lt
 have lt18 := hB9.lt
 have hlt_ := hL.lt
 refine st (by rfl) (S_new (v := .slice (some ⟨w6.heap.size, 0, none⟩) 1 1) (ob := .cells #[.int .i64 ((id : Nat) : Int)] 3) (by kernel_rfl) fun w12 hT13 hs14 hB15 => ?_)
 replace hB15 : Blk w12 (w6.heap.size) 3 [.int .i64 ((id : Nat) : Int)] := hB15
 have hL := hL.tch0 hT13
 have hF := hF.then0 hT13
 have hM := hM.tch0 hT13
 have hB4 := hB4.tch0 hT13
 have hB9 := hB9.tch0 hT13
 have nF_hB15 : ¬ F (w6.heap.size) := fun e => by have := hlt_ _ e; omega
 refine zS [(9, .slice (some ⟨w6.heap.size, 0, none⟩) 1 1)] ?_
 refine op_nil ?_
 refine W_seq ?_
 refine W_block ?_
 have hWt0 : Own _ 0 3 1 (.slice (some ⟨w6.heap.size, 0, none⟩) 1 1) 1 (nats [id]) := Blk.own1 (sp := []) (by rw [List.append_nil]; exact hB15) rfl rfl (Nat.le_refl _) (by simp only [maxLen]; omega)
 have nF_hB15 : ¬ F (w6.heap.size) := fun e => by have := hL0.lt _ e; omega
 have nF_hB6 := nF_hB4
 have nF_hB8 := nF_hB9
 have hg6 : w.heap.size ≤ w.heap.size := by omega
 have hg8 : w.heap.size ≤ w1.heap.size := by omega
 refine W_loopL (fun m ρ w' => ∃ (hd : List Bool) (wt : List Nat) (A : Option Addr) (cp k : Nat) (ρ0 : Env), ρ = updL ρ0 [(0, .pointer (some ⟨p, 0, none⟩)), (1, .int .i64 ((id : Nat) : Int)), (3, .func (.func 101) #[] #[]), (6, .pointer (some ⟨w.heap.size, 0, none⟩)), (8, .pointer (some ⟨w1.heap.size, 0, none⟩)), (9, .slice A k cp)] ∧ (Wst N.length id hd wt) ∧ (wt.length = k) ∧ (∀ c, (Value.slice A k cp).ownBlock = some c → w.heap.size ≤ c) ∧ (∀ c, (Value.slice A k cp).ownBlock = some c → ¬ F c) ∧ TLow F w' p most N W ∧ Tch (one mb) w w' ∧ MapE Try.prog 3 w' mb (hdR N hd) ∧ Blk w' (w.heap.size) 137 [.map (some mb)] ∧ Blk w' (w1.heap.size) 32 [.int .i64 0, .int .i64 0, .int .i64 0, .int .i64 0, .int .i64 0, .int .u64 0] ∧ Own w' 0 3 1 (.slice A k cp) k (nats wt) ∧ m = (offs hd, sec N.length hd wt)) (m := (offs (List.replicate N.length false), sec N.length (List.replicate N.length false) [id])) ?_ ?_
 ·
  refine ⟨List.replicate N.length false, [id], some ⟨w6.heap.size, 0, none⟩, 1, 1, _, updL_self (by kernel_rfl), Wst.start hid, rfl, (fun c h => by have e : w6.heap.size = c := (by injection h); omega), (fun c h e => by have e2 : w6.heap.size = c := (by injection h); exact nF_hB15 (e2 ▸ e)), hL, hF, hM, hB4, hB9, hWt0, rfl⟩
 ·
  rintro m ρ w19 ⟨hd, wt, A, cp, k, ρ, rfl, hW, hwl, nB_hWt, nF_hWt, hL, hF, hM, hB6, hB8, hWt, rfl⟩
  have hfl := hW.2.2.2.len
  rw [hwl] at hfl
  refine W_seq ?_
  refine zQ ?_
  refine zS [(20, .slice A k cp), (21, .int .i64 (k : Int)), (22, .bool (decide ((k : Int) > 0)))] ?_
  refine zO (decide ((k : Int) > 0)) (fun hc20 => ?_) (fun hc20 => ?_)
  ·
   replace hc20 : 0 < (k : Int) := (of_decide_eq_true hc20)
   refine W_skip ?_
   refine W_block ?_
   refine W_seq ?_
   have h0 : wt ≠ [] := fun e => by rw [e] at hwl; simp at hwl; omega
   have hlast := hW.last h0
   obtain ⟨tp, htl⟩ : ∃ tp, lastN wt = tp := ⟨_, rfl⟩
   have htp : wt.getD (k - 1) 0 = tp := by rw [← htl, ← hwl]; rfl
   have htn : tp < N.length := htl ▸ hlast
   have hkl := kids_lt (hB tp htn)
   have hrm := hW.room h0
   rw [htl, hwl] at hrm
   refine zR ?_
   refine zS [(23, .slice A k cp), (24, .slice A k cp), (25, .int .i64 (k : Int)), (26, .int .i64 (IntKind.i64.wrap ((k : Int) - 1)))] ?_
   rw [show IntKind.i64.wrap ((k : Int) - 1) = (k : Int) - 1 from wrap_i64 (by omega) (by omega)]
   refine fixR (y := ((k - 1 : Nat) : Int)) (by omega) ?_
   refine stv (v := ptrAt A (k - 1)) (by rfl) (R_indexRd1 (len := k) (cap := cp) (k := .i64) (i := ((k - 1 : Nat) : Int)) (e := 3) (k - 1) hWt.rdS (by kernel_rfl) (by kernel_rfl) (by kernel_rfl) (by kernel_rfl) rfl (by omega)) ?_
   refine stv (v := .int .i64 ((wt.getD (k - 1) 0 : Nat) : Int)) (by rfl) (R_loadRd (v := .int .i64 ((wt.getD (k - 1) 0 : Nat) : Int)) hWt.rdS (by omega) (by kernel_rfl) (by kernel_rfl) (nats_at (l := wt) (by omega))) ?_
   rw [htp]
   refine zS [(10, .int .i64 ((tp : Nat) : Int))] ?_
   refine op_nil ?_
   refine W_seq ?_
   refine zF [(0, .pointer (some ⟨p, 0, none⟩)), (1, .int .i64 ((id : Nat) : Int)), (3, .func (.func 101) #[] #[]), (6, .pointer (some ⟨w.heap.size, 0, none⟩)), (8, .pointer (some ⟨w1.heap.size, 0, none⟩)), (9, .slice A k cp), (10, .int .i64 ((tp : Nat) : Int)), (22, .bool (decide ((k : Int) > 0)))] fun ρ => ?_
   refine zR ?_
   refine zS [(30, .pointer (some ⟨p, 0, none⟩)), (31, .int .i64 ((tp : Nat) : Int))] ?_
   refine zC (node_at F p most N W tp _ hL (by omega) htn) ?_
   rintro _ w21 ⟨rfl, hT22⟩
   have hL := hL.tch0 hT22
   have hF := hF.then0 hT22
   have hM := hM.tch0 hT22
   have hB6 := hB6.tch0 hT22
   have hB8 := hB8.tch0 hT22
   have hWt := hWt.tch0 hT22
   refine zS [(29, .tuple #[.agg #[.int .i64 (nO (nth N tp)), .int .i64 (nW (nth N tp)), .int .i64 (nA (nth N tp)), .int .i64 (nB (nth N tp)), .int .i64 (nC (nth N tp)), .int .u64 (nV (nth N tp))], .bool true]), (33, .agg #[.int .i64 (nO (nth N tp)), .int .i64 (nW (nth N tp)), .int .i64 (nA (nth N tp)), .int .i64 (nB (nth N tp)), .int .i64 (nC (nth N tp)), .int .u64 (nV (nth N tp))]), (34, .bool true)] ?_
   have hz27 := hF.size
   have lt28 := hB6.lt
   have lt29 := hB8.lt
   have lR_hWt := hWt.lt
   have hlt_ := hL.lt
   refine st (by rfl) (S_new (v := .pointer (some ⟨w21.heap.size, 0, none⟩)) (ob := .cells #[.int .i64 0, .int .i64 0, .int .i64 0, .int .i64 0, .int .i64 0, .int .u64 0] 32) (by kernel_rfl) fun w23 hT24 hs25 hB26 => ?_)
   replace hB26 : Blk w23 (w21.heap.size) 32 [.int .i64 0, .int .i64 0, .int .i64 0, .int .i64 0, .int .i64 0, .int .u64 0] := hB26
   have hL := hL.tch0 hT24
   have hF := hF.then0 hT24
   have hM := hM.tch0 hT24
   have hB6 := hB6.tch0 hT24
   have hB8 := hB8.tch0 hT24
   have hWt := hWt.tch0 hT24
   have nF_hB26 : ¬ F (w21.heap.size) := fun e => by have := hlt_ _ e; omega
   refine st (by rfl) (S_storeA (b := w21.heap.size) (j := 0) (cs := [.int .i64 (nO (nth N tp)), .int .i64 (nW (nth N tp)), .int .i64 (nA (nth N tp)), .int .i64 (nB (nth N tp)), .int .i64 (nC (nth N tp)), .int .u64 (nV (nth N tp))]) (by kernel_rfl) (by kernel_rfl) (by kernel_rfl) (by simp [oneV]) hB26 (by simp) fun w30 hT31 hs32 hB26' => ?_)
   have hL := hL.tchS hT31 (fun c e q => by cases e; exact nF_hB26 q)
   have hF := Tch.trans hF hT31 (fun _ _ e => e) (fun c hc e => by have : c = w21.heap.size := e; omega)
   have hM := hM.tch hT31 (fun e => hM.ne hB26 e)
   have hB6 := hB6.tch hT31 (hB6.ne hB26 (by decide))
   have hB8 := hB8.tch hT31 (fun e => by have : w1.heap.size = w21.heap.size := e; omega)
   have hWt := hWt.tch hT31 (fun c hc e => hWt.blk_ne hB26 (by decide) c hc e)
   replace hB26 : Blk w30 w21.heap.size 32 [.int .i64 (nO (nth N tp)), .int .i64 (nW (nth N tp)), .int .i64 (nA (nth N tp)), .int .i64 (nB (nth N tp)), .int .i64 (nC (nth N tp)), .int .u64 (nV (nth N tp))] := hB26'
   refine zS [(12, .bool true)] ?_
   refine op_nil ?_
   refine W_seq ?_
   refine zF [(0, .pointer (some ⟨p, 0, none⟩)), (1, .int .i64 ((id : Nat) : Int)), (3, .func (.func 101) #[] #[]), (6, .pointer (some ⟨w.heap.size, 0, none⟩)), (8, .pointer (some ⟨w1.heap.size, 0, none⟩)), (9, .slice A k cp), (10, .int .i64 ((tp : Nat) : Int)), (11, .pointer (some ⟨w21.heap.size, 0, none⟩)), (22, .bool (decide ((k : Int) > 0)))] fun ρ => ?_
   refine zR ?_
   refine zS [(13, .bool false)] ?_
   refine op_nil ?_
   refine W_seq ?_
   refine zQ ?_
   refine st (by rfl) (S_val (v := .agg #[.int .i64 (nO (nth N tp)), .int .i64 (nW (nth N tp)), .int .i64 (nA (nth N tp)), .int .i64 (nB (nth N tp)), .int .i64 (nC (nth N tp)), .int .u64 (nV (nth N tp))]) (R_loadA [.int .i64 (nO (nth N tp)), .int .i64 (nW (nth N tp)), .int .i64 (nA (nth N tp)), .int .i64 (nB (nth N tp)), .int .i64 (nC (nth N tp)), .int .u64 (nV (nth N tp))] (by kernel_rfl) (by kernel_rfl) (by kernel_rfl) (fun k u hk => by rw [hB26.cell]; exact get_part _ 0 _ k u rfl hk)) ?_)
   have hlK := hF.size
   have lW_ := hWt.lt
   have hltL := hL.lt
   refine zC (kids_ok N tp (nth N tp) _ (hB tp htn)) ?_
   rintro _ w33 ⟨K, mk_, rfl, hmk, hKd, nK_, hT34⟩
   have hL := hL.tch0 hT34
   have hF := hF.then0 hT34
   have hM := hM.tch0 hT34
   have hB6 := hB6.tch0 hT34
   have hB8 := hB8.tch0 hT34
   have hWt := hWt.tch0 hT34
   have hB26 := hB26.tch0 hT34
   have nB_hKd : ∀ c, (Value.slice K mk_ mk_).ownBlock = some c → w.heap.size ≤ c := fun c h => by have := nK_ c h; omega
   have nF_hKd : ∀ c, (Value.slice K mk_ mk_).ownBlock = some c → ¬ F c := fun c h e => by have := nK_ c h; have := hltL c e; omega
   have dj0 : ∀ c, (Value.slice A k cp).ownBlock = some c → (Value.slice K mk_ mk_).ownBlock = some c → False := fun c h1 h2 => by have := nK_ c h2; have := lW_ c h1; omega
   refine zS [(37, .int .i64 (mk_ : Int)), (38, .int .i64 0)] ?_
   refine op_nil ?_
   refine W_block ?_
   have nF_hB11 := nF_hB26
   have hg11 : w.heap.size ≤ w21.heap.size := by omega
   refine W_loop (fun m ρ w' => ∃ (A1 : Option Addr) (cp1 : Nat) (wt1 : List Nat) (k1 : Nat) (mr : Bool) (j : Nat) (ρ0 : Env), ρ = updL ρ0 [(0, .pointer (some ⟨p, 0, none⟩)), (1, .int .i64 ((id : Nat) : Int)), (3, .func (.func 101) #[] #[]), (6, .pointer (some ⟨w.heap.size, 0, none⟩)), (8, .pointer (some ⟨w1.heap.size, 0, none⟩)), (9, .slice A1 k1 cp1), (10, .int .i64 ((tp : Nat) : Int)), (11, .pointer (some ⟨w21.heap.size, 0, none⟩)), (13, .bool mr), (36, .slice K mk_ mk_), (37, .int .i64 (mk_ : Int)), (38, .int .i64 ((j : Nat) : Int))] ∧ (j ≤ mk_) ∧ (wt1.length = k1) ∧ (Kst N.length hd (kidsN (nth N tp)) wt wt1 mr) ∧ (∀ c, (Value.slice A1 k1 cp1).ownBlock = some c → w.heap.size ≤ c) ∧ (∀ c, (Value.slice A1 k1 cp1).ownBlock = some c → ¬ F c) ∧ (∀ c, (Value.slice A1 k1 cp1).ownBlock = some c → (Value.slice K mk_ mk_).ownBlock = some c → False) ∧ (k1 ≤ k + j) ∧ TLow F w' p most N W ∧ Tch (one mb) w w' ∧ MapE Try.prog 3 w' mb (hdR N hd) ∧ Blk w' (w.heap.size) 137 [.map (some mb)] ∧ Blk w' (w1.heap.size) 32 [.int .i64 0, .int .i64 0, .int .i64 0, .int .i64 0, .int .i64 0, .int .u64 0] ∧ Own w' 0 3 1 (.slice A1 k1 cp1) k1 (nats wt1) ∧ Blk w' (w21.heap.size) 32 [.int .i64 (nO (nth N tp)), .int .i64 (nW (nth N tp)), .int .i64 (nA (nth N tp)), .int .i64 (nB (nth N tp)), .int .i64 (nC (nth N tp)), .int .u64 (nV (nth N tp))] ∧ Own w' 0 3 1 (.slice K mk_ mk_) mk_ (nats (kidsN (nth N tp))) ∧ m = mk_ - j) (m := mk_ - 0) ?_ ?_
   ·
    refine ⟨A, cp, wt, k, false, 0, _, updL_self (by kernel_rfl), by omega, hwl, Kst.start hW, nB_hWt, nF_hWt, dj0, by omega, hL, hF, hM, hB6, hB8, hWt, hB26, hKd, rfl⟩
   ·
    rintro m ρ w35 ⟨A1, cp1, wt1, k1, mr, j, ρ, rfl, hj, hwl1, hKs, nB_hWt, nF_hWt, dj_hWt_hKd, hmr, hL, hF, hM, hB6, hB8, hWt, hB11, hKd, rfl⟩
    have hfl1 := hKs.2.2.2.2.len
    rw [hwl1] at hfl1
    have hkj : j < mk_ → (kidsN (nth N tp)).getD j 0 ∈ kidsN (nth N tp) := fun q => mem_getD (by omega)
    refine zQ ?_
    refine zS [(39, .bool (decide (((j : Nat) : Int) < (mk_ : Int))))] ?_
    refine op_nil ?_
    refine W_seq ?_
    refine zW (decide (((j : Nat) : Int) < (mk_ : Int))) (fun hc36 => ?_) (fun hc36 => ?_)
    ·
     replace hc36 : ((j : Nat) : Int) < (mk_ : Int) := (of_decide_eq_true hc36)
     refine W_skip ?_
     refine W_seq ?_
     refine W_block ?_
     refine zQ ?_
     refine stv (v := ptrAt K j) (by rfl) (R_indexRd1 (len := mk_) (cap := mk_) (k := .i64) (i := ((j : Nat) : Int)) (e := 3) j hKd.rdS (by kernel_rfl) (by kernel_rfl) (by kernel_rfl) (by kernel_rfl) rfl (by omega)) ?_
     refine stv (v := .int .i64 (((kidsN (nth N tp)).getD j 0 : Nat) : Int)) (by rfl) (R_loadRd (v := .int .i64 (((kidsN (nth N tp)).getD j 0 : Nat) : Int)) hKd.rdS (by omega) (by kernel_rfl) (by kernel_rfl) (nats_at (l := (kidsN (nth N tp))) (by omega))) ?_
     refine zS [(15, .int .i64 (((kidsN (nth N tp)).getD j 0 : Nat) : Int))] ?_
     refine op_nil ?_
     refine zQ ?_
     refine zL (.map (some mb)) ((hB6.cell 0).trans rfl) ?_
     refine zS [(44, .int .i64 (((kidsN (nth N tp)).getD j 0 : Nat) : Int))] ?_
     have hkm := hkj (by omega)
     have hk3 := kids_len (nth N tp)
     have hkt := hkl _ hkm
     have hkn : ((kidsN (nth N tp)).getD j 0) < N.length := by have := hkl _ hkm; omega
     refine st (by rfl) (S_lookupE true 3 32 (nodeV nd0) key_law3 (by kernel_rfl) (by kernel_rfl) (by kernel_rfl) (by kernel_rfl) (key_int (x := ((((kidsN (nth N tp)).getD j 0) : Nat) : Int)) (by unfold b64; omega)) hM fun vz ok hv => ?_)
     obtain ⟨z, rfl, rfl⟩ := look_hd hkn hv
     refine zS [(42, .tuple #[.agg #[.int .i64 (nO z), .int .i64 (nW z), .int .i64 (nA z), .int .i64 (nB z), .int .i64 (nC z), .int .u64 (nV z)], .bool (hd.getD ((kidsN (nth N tp)).getD j 0) false)]), (46, .agg #[.int .i64 (nO z), .int .i64 (nW z), .int .i64 (nA z), .int .i64 (nB z), .int .i64 (nC z), .int .u64 (nV z)]), (47, .bool (hd.getD ((kidsN (nth N tp)).getD j 0) false))] ?_
     have hz41 := hF.size
     have lt42 := hB6.lt
     have lt43 := hB8.lt
     have lR_hWt := hWt.lt
     have lt44 := hB11.lt
     have lR_hKd := hKd.lt
     have hlt_ := hL.lt
     refine st (by rfl) (S_new (v := .pointer (some ⟨w35.heap.size, 0, none⟩)) (ob := .cells #[.int .i64 0, .int .i64 0, .int .i64 0, .int .i64 0, .int .i64 0, .int .u64 0] 32) (by kernel_rfl) fun w37 hT38 hs39 hB40 => ?_)
     replace hB40 : Blk w37 (w35.heap.size) 32 [.int .i64 0, .int .i64 0, .int .i64 0, .int .i64 0, .int .i64 0, .int .u64 0] := hB40
     have hL := hL.tch0 hT38
     have hF := hF.then0 hT38
     have hM := hM.tch0 hT38
     have hB6 := hB6.tch0 hT38
     have hB8 := hB8.tch0 hT38
     have hWt := hWt.tch0 hT38
     have hB11 := hB11.tch0 hT38
     have hKd := hKd.tch0 hT38
     have nF_hB40 : ¬ F (w35.heap.size) := fun e => by have := hlt_ _ e; omega
     refine st (by rfl) (S_storeA (b := w35.heap.size) (j := 0) (cs := [.int .i64 (nO z), .int .i64 (nW z), .int .i64 (nA z), .int .i64 (nB z), .int .i64 (nC z), .int .u64 (nV z)]) (by kernel_rfl) (by kernel_rfl) (by kernel_rfl) (by simp [oneV]) hB40 (by simp) fun w45 hT46 hs47 hB40' => ?_)
     have hL := hL.tchS hT46 (fun c e q => by cases e; exact nF_hB40 q)
     have hF := Tch.trans hF hT46 (fun _ _ e => e) (fun c hc e => by have : c = w35.heap.size := e; omega)
     have hM := hM.tch hT46 (fun e => hM.ne hB40 e)
     have hB6 := hB6.tch hT46 (hB6.ne hB40 (by decide))
     have hB8 := hB8.tch hT46 (fun e => by have : w1.heap.size = w35.heap.size := e; omega)
     have hWt := hWt.tch hT46 (fun c hc e => hWt.blk_ne hB40 (by decide) c hc e)
     have hB11 := hB11.tch hT46 (fun e => by have : w21.heap.size = w35.heap.size := e; omega)
     have hKd := hKd.tch hT46 (fun c hc e => hKd.blk_ne hB40 (by decide) c hc e)
     replace hB40 : Blk w45 w35.heap.size 32 [.int .i64 (nO z), .int .i64 (nW z), .int .i64 (nA z), .int .i64 (nB z), .int .i64 (nC z), .int .u64 (nV z)] := hB40'
     refine zS [(17, .bool (hd.getD ((kidsN (nth N tp)).getD j 0) false))] ?_
     refine op_nil ?_
     refine W_seq ?_
     refine zF [(0, .pointer (some ⟨p, 0, none⟩)), (1, .int .i64 ((id : Nat) : Int)), (3, .func (.func 101) #[] #[]), (6, .pointer (some ⟨w.heap.size, 0, none⟩)), (8, .pointer (some ⟨w1.heap.size, 0, none⟩)), (9, .slice A1 k1 cp1), (10, .int .i64 ((tp : Nat) : Int)), (11, .pointer (some ⟨w21.heap.size, 0, none⟩)), (13, .bool mr), (15, .int .i64 (((kidsN (nth N tp)).getD j 0 : Nat) : Int)), (17, .bool (hd.getD ((kidsN (nth N tp)).getD j 0) false)), (36, .slice K mk_ mk_), (37, .int .i64 (mk_ : Int)), (38, .int .i64 ((j : Nat) : Int)), (39, .bool (decide (((j : Nat) : Int) < (mk_ : Int))))] fun ρ => ?_
     refine zR ?_
     refine zS [(48, .bool (hd.getD ((kidsN (nth N tp)).getD j 0) false)), (49, .bool (!(hd.getD ((kidsN (nth N tp)).getD j 0) false)))] ?_
     refine zO (!(hd.getD ((kidsN (nth N tp)).getD j 0) false)) (fun hc48 => ?_) (fun hc48 => ?_)
     ·
      replace hc48 : hd.getD ((kidsN (nth N tp)).getD j 0) false = false := ((not_t hc48))
      refine zQ ?_
      refine zS [(50, .slice A1 k1 cp1), (51, .int .i64 (((kidsN (nth N tp)).getD j 0 : Nat) : Int))] ?_
      have hz53 := hF.size
      have lt54 := hB6.lt
      have lt55 := hB8.lt
      have lR_hWt := hWt.lt
      have lt56 := hB11.lt
      have lR_hKd := hKd.lt
      have lt57 := hB40.lt
      have hlt_ := hL.lt
      refine st (by rfl) (S_new (v := .slice (some ⟨w45.heap.size, 0, none⟩) 1 1) (ob := .cells #[.int .i64 (((kidsN (nth N tp)).getD j 0 : Nat) : Int)] 3) (by kernel_rfl) fun w49 hT50 hs51 hB52 => ?_)
      replace hB52 : Blk w49 (w45.heap.size) 3 [.int .i64 (((kidsN (nth N tp)).getD j 0 : Nat) : Int)] := hB52
      have hL := hL.tch0 hT50
      have hF := hF.then0 hT50
      have hM := hM.tch0 hT50
      have hB6 := hB6.tch0 hT50
      have hB8 := hB8.tch0 hT50
      have hWt := hWt.tch0 hT50
      have hB11 := hB11.tch0 hT50
      have hKd := hKd.tch0 hT50
      have hB40 := hB40.tch0 hT50
      have nF_hB52 : ¬ F (w45.heap.size) := fun e => by have := hlt_ _ e; omega
      have hz_ := hF.size
      have hGl_ := hL.lt
      have lR_hWt := hWt.lt
      have lR_hKd := hKd.lt
      refine st (by rfl) (S_appendR 126 3 (.int .i64 0) 1 8 (n := k1) (m := 1) (A := A1) (cp := cp1) (cells := nats wt1) (news := [.int .i64 (((kidsN (nth N tp)).getD j 0 : Nat) : Int)]) (b := w45.heap.size) (off := 0) (c := 1) (by kernel_rfl) (by kernel_rfl) (by decide) (by kernel_rfl) (by kernel_rfl) (by kernel_rfl) hWt (by rfl) (fun k u hk => by rw [Nat.zero_add, hB52.cell]; exact hk) (by simp [oneV]) (by simp only [maxLen]; omega) (by omega) fun A58 cp59 w60 hO61 hw62 hT63 => ?_)
      have hL := hL.tchS hT63 (fun c e => nF_hWt c e)
      have hF := Tch.trans hF hT63 (fun _ _ e => e) (fun c hc e => by have := nB_hWt c e; omega)
      have hM := hM.tch hT63 (fun e => hWt.ne_mapE hM _ e rfl)
      have hB6 := hB6.tch hT63 (fun e => hWt.blk_ne hB6 (by decide) _ e rfl)
      have hB8 := hB8.tch hT63 (fun e => hWt.blk_ne hB8 (by decide) _ e rfl)
      have hB11 := hB11.tch hT63 (fun e => hWt.blk_ne hB11 (by decide) _ e rfl)
      have hKd := hKd.tch hT63 (fun c hc e => dj_hWt_hKd c e hc)
      have hB40 := hB40.tch hT63 (fun e => hWt.blk_ne hB40 (by decide) _ e rfl)
      have hWt : Own w60 0 3 1 (.slice A58 (k1 + 1) cp59) (k1 + 1) (nats (wt1 ++ [(kidsN (nth N tp)).getD j 0])) := by rw [nats_append]; exact hO61
      have nF_hWt : ∀ c, (Value.slice A58 (k1 + 1) cp59).ownBlock = some c → ¬ F c := fun c hc => (hw62 c hc).elim (nF_hWt c) (fun q e => by have := hGl_ _ e; omega)
      have nB_hWt : ∀ c, (Value.slice A58 (k1 + 1) cp59).ownBlock = some c → w.heap.size ≤ c := fun c hc => (hw62 c hc).elim (nB_hWt c) (fun q => by omega)
      have dj_hWt_hKd : ∀ c, (Value.slice A58 (k1 + 1) cp59).ownBlock = some c → (Value.slice K (mk_) mk_).ownBlock = some c → False := fun c h1 h2 => (hw62 c h1).elim (fun q => dj_hWt_hKd c q h2) (fun q => by have := lR_hKd c h2; omega)
      refine zS [(9, .slice A58 (k1 + 1) cp59)] ?_
      refine op_nil ?_
      refine zR ?_
      refine zS [(13, .bool true)] ?_
      refine op_nil ?_
      refine zF [(0, .pointer (some ⟨p, 0, none⟩)), (1, .int .i64 ((id : Nat) : Int)), (3, .func (.func 101) #[] #[]), (6, .pointer (some ⟨w.heap.size, 0, none⟩)), (8, .pointer (some ⟨w1.heap.size, 0, none⟩)), (9, .slice A58 (k1 + 1) cp59), (10, .int .i64 ((tp : Nat) : Int)), (11, .pointer (some ⟨w21.heap.size, 0, none⟩)), (13, .bool true), (15, .int .i64 (((kidsN (nth N tp)).getD j 0 : Nat) : Int)), (17, .bool (hd.getD ((kidsN (nth N tp)).getD j 0) false)), (36, .slice K mk_ mk_), (37, .int .i64 (mk_ : Int)), (38, .int .i64 ((j : Nat) : Int)), (39, .bool (decide (((j : Nat) : Int) < (mk_ : Int)))), (49, .bool (!(hd.getD ((kidsN (nth N tp)).getD j 0) false)))] fun ρ => ?_
      refine zR ?_
      refine zS [(54, .int .i64 (IntKind.i64.wrap (((j : Nat) : Int) + 1)))] ?_
      rw [show IntKind.i64.wrap (((j : Nat) : Int) + 1) = ((j : Nat) : Int) + 1 from wrap_i64 (by omega) (by omega)]
      refine fixR (y := ((j + 1 : Nat) : Int)) (by omega) ?_
      refine zS [(38, .int .i64 ((j + 1 : Nat) : Int))] ?_
      refine op_nil ?_
      refine ⟨_, ?_, A58, cp59, wt1 ++ [(kidsN (nth N tp)).getD j 0], k1 + 1, true, j + 1, _, updL_self (by kernel_rfl), ?_, by rw [List.length_append]; exact congrArg (· + 1) hwl1, hKs.push hkm (by omega) (by omega) (by assumption), nB_hWt, nF_hWt, dj_hWt_hKd, by omega, hL, hF, hM, hB6, hB8, hWt, hB11, hKd, rfl⟩
      ·
       omega
      ·
       omega
     ·
      replace hc48 : hd.getD ((kidsN (nth N tp)).getD j 0) false = true := ((not_f hc48))
      refine W_skip ?_
      refine zR ?_
      refine zS [(54, .int .i64 (IntKind.i64.wrap (((j : Nat) : Int) + 1)))] ?_
      rw [show IntKind.i64.wrap (((j : Nat) : Int) + 1) = ((j : Nat) : Int) + 1 from wrap_i64 (by omega) (by omega)]
      refine fixR (y := ((j + 1 : Nat) : Int)) (by omega) ?_
      refine zS [(38, .int .i64 ((j + 1 : Nat) : Int))] ?_
      refine op_nil ?_
      refine ⟨_, ?_, A1, cp1, wt1, k1, mr, j + 1, _, updL_self (by kernel_rfl), ?_, hwl1, hKs, nB_hWt, nF_hWt, dj_hWt_hKd, by omega, hL, hF, hM, hB6, hB8, hWt, hB11, hKd, rfl⟩
      ·
       omega
      ·
       omega
    ·
     replace hc36 : (mk_ : Int) ≤ ((j : Nat) : Int) := (Int.not_lt.1 (of_decide_eq_false hc36))
     refine W_exit ?_
     refine X_hit ?_
     refine W_seq ?_
     refine zQ ?_
     refine zS [(55, .bool mr)] ?_
     refine zO (mr) (fun hc64 => ?_) (fun hc64 => ?_)
     ·
      replace hc64 : mr = true := (hc64)
      refine W_exit ?_
      refine X_hit ?_
      obtain ⟨ws, x, hws, hxk, hxf⟩ := hKs.2.1 (by assumption)
      refine ⟨_, by rw [hws]; exact lex_more h0 htl (hkl x hxk) htn hxf, hd, wt1, A1, cp1, k1, _, updL_self (by kernel_rfl), hW.more hKs, hwl1, nB_hWt, nF_hWt, hL, hF, hM, hB6, hB8, hWt, rfl⟩
     ·
      replace hc64 : mr = false := (hc64)
      refine W_skip ?_
      refine W_seq ?_
      have hne1 : wt1 ≠ [] := fun e => h0 (by rw [← hKs.1 (by assumption)]; exact e)
      have hk1 : 0 < k1 := by rw [← hwl1]; exact List.length_pos_iff.2 hne1
      have hcg := hWt.capge
      refine zR ?_
      refine zS [(56, .slice A1 k1 cp1), (57, .slice A1 k1 cp1), (58, .int .i64 (k1 : Int)), (59, .int .i64 (IntKind.i64.wrap ((k1 : Int) - 1)))] ?_
      rw [show IntKind.i64.wrap ((k1 : Int) - 1) = (k1 : Int) - 1 from wrap_i64 (by omega) (by omega)]
      refine fixR (y := ((k1 - 1 : Nat) : Int)) (by omega) ?_
      refine stv (v := .slice (slA A1 0 cp1) (k1 - 1) cp1) (by rfl) (R_sliceH (A := A1) (n := k1) (cp := cp1) (k1 - 1) (by kernel_rfl) (by kernel_rfl) (by kernel_rfl) (by kernel_rfl) (by omega)) ?_
      obtain ⟨esl, hCut⟩ := hWt.cutS (m := k1 - 1) (by omega) (by omega)
      rw [esl]
      replace nB_hWt : ∀ c, (Value.slice A1 (k1 - 1) cp1).ownBlock = some c → w.heap.size ≤ c := fun c h => nB_hWt c (by rw [own_len A1 k1 (k1 - 1) cp1]; exact h)
      replace nF_hWt : ∀ c, (Value.slice A1 (k1 - 1) cp1).ownBlock = some c → ¬ F c := fun c h => nF_hWt c (by rw [own_len A1 k1 (k1 - 1) cp1]; exact h)
      have hWt : Own w35 0 3 1 (.slice A1 (k1 - 1) cp1) (k1 - 1) (nats (wt1.take (k1 - 1))) := by unfold nats at hCut ⊢; rw [List.map_take]; exact hCut
      refine zS [(9, .slice A1 (k1 - 1) cp1)] ?_
      refine op_nil ?_
      refine zF [(0, .pointer (some ⟨p, 0, none⟩)), (1, .int .i64 ((id : Nat) : Int)), (3, .func (.func 101) #[] #[]), (6, .pointer (some ⟨w.heap.size, 0, none⟩)), (8, .pointer (some ⟨w1.heap.size, 0, none⟩)), (9, .slice A1 (k1 - 1) cp1), (10, .int .i64 ((tp : Nat) : Int)), (11, .pointer (some ⟨w21.heap.size, 0, none⟩)), (13, .bool mr), (36, .slice K mk_ mk_), (37, .int .i64 (mk_ : Int)), (38, .int .i64 ((j : Nat) : Int)), (39, .bool (decide (((j : Nat) : Int) < (mk_ : Int)))), (55, .bool mr)] fun ρ => ?_
      refine W_draw (fun w' => Blk w' (w.heap.size) 137 [.map (some mb)] ∧ Blk w' (w21.heap.size) 32 [.int .i64 (nO (nth N tp)), .int .i64 (nW (nth N tp)), .int .i64 (nA (nth N tp)), .int .i64 (nB (nth N tp)), .int .i64 (nC (nth N tp)), .int .u64 (nV (nth N tp))]) (by kernel_rfl) (by kernel_rfl) (by kernel_rfl) fun w65 hT66 hh67 => ?_
      have hL := hL.tch0 hT66
      have hF := hF.then0 hT66
      have hM := hM.tch0 hT66
      have hB6 := hB6.tch0 hT66
      have hB8 := hB8.tch0 hT66
      have hB11 := hB11.tch0 hT66
      have hKd := hKd.tch0 hT66
      have hWt := hWt.tch0 hT66
      refine zK [1, 2, 4] #[false, true, true, false, true, false, false] [(62, .int .i64 ((tp : Nat) : Int)), (63, .func (.func 101) #[] #[]), (65, .func (.func 117) #[] #[.pointer (some ⟨w.heap.size, 0, none⟩)])] ⟨hB6, hB11⟩ ?_
      refine zV 0 rfl (.map (some mb)) (fun _ ⟨hB6, hB11⟩ => R_load (v := .map (some mb)) (by kernel_rfl) (by kernel_rfl) ((hB6.cell 0).trans rfl)) ⟨hB6, hB11⟩ ?_
      refine zV 3 rfl (.agg #[.int .i64 (nO (nth N tp)), .int .i64 (nW (nth N tp)), .int .i64 (nA (nth N tp)), .int .i64 (nB (nth N tp)), .int .i64 (nC (nth N tp)), .int .u64 (nV (nth N tp))]) (fun _ ⟨hB6, hB11⟩ => R_loadA [.int .i64 (nO (nth N tp)), .int .i64 (nW (nth N tp)), .int .i64 (nA (nth N tp)), .int .i64 (nB (nth N tp)), .int .i64 (nC (nth N tp)), .int .u64 (nV (nth N tp))] (by kernel_rfl) (by kernel_rfl) (by kernel_rfl) (fun k u hk => by rw [hB11.cell]; exact get_part _ 0 _ k u rfl hk)) ⟨hB6, hB11⟩ ?_
      refine zD 5 rfl (S_call (args := [.agg #[.int .i64 (nO (nth N tp)), .int .i64 (nW (nth N tp)), .int .i64 (nA (nth N tp)), .int .i64 (nB (nth N tp)), .int .i64 (nC (nth N tp)), .int .u64 (nV (nth N tp))], .func (.func 117) #[] #[.pointer (some ⟨w.heap.size, 0, none⟩)]]) (by kernel_rfl) (same_nd (nth N tp) _ _) ?_)
      rintro _ w68 ⟨rfl, hT69⟩
      have hL := hL.tch0 hT69
      have hF := hF.then0 hT69
      have hM := hM.tch0 hT69
      have hB6 := hB6.tch0 hT69
      have hB8 := hB8.tch0 hT69
      have hB11 := hB11.tch0 hT69
      have hKd := hKd.tch0 hT69
      have hWt := hWt.tch0 hT69
      refine ⟨⟨hB6, hB11⟩, ?_⟩
      refine zD 6 rfl (S_updateE 3 32 key_law3 (by kernel_rfl) (key := .int .i64 ((tp : Nat) : Int)) (val := nodeV (nth N tp)) (by kernel_rfl) (by kernel_rfl) (by kernel_rfl) (key_int (by unfold b64; omega)) hM fun w70 hT71 hs72 hM1 => ?_)
      replace hF := Tch.trans hF hT71 (fun _ _ e => e) (fun _ _ e => e)
      have hB6 := hB6.tch hT71 (fun e => hM.ne hB6 (Eq.symm e))
      have hB8 := hB8.tch hT71 (fun e => hM.ne hB8 (Eq.symm e))
      have hB11 := hB11.tch hT71 (fun e => hM.ne hB11 (Eq.symm e))
      have hKd := hKd.tch hT71 (fun c hc e => hKd.ne_mapE hM c hc e)
      have hWt := hWt.tch hT71 (fun c hc e => hWt.ne_mapE hM c hc e)
      have hL := hL.tchS hT71 (fun c e q => by have : c = mb := e; rw [this] at q; exact hmF q)
      have hM : MapE Try.prog 3 w70 mb (hdR N (hd.set tp true)) := hM1.congr (hdR_set htn hW.1)
      refine ⟨⟨hB6, hB11⟩, ?_⟩
      refine d_done (by kernel_rfl) ?_
      have hwe : wt1 = wt := hKs.1 (by assumption)
      have hkk : k1 - 1 = wt.length - 1 := by rw [← hwl1, hwe]
      refine ⟨_, by rw [hkk, hwe]; exact lex_pop h0 htl (by rw [hW.1]; exact htn) hW.2.1, hd.set tp true, wt1.take (k1 - 1), A1, cp1, k1 - 1, _, updL_self (by kernel_rfl), by rw [hkk, hwe]; exact hW.pop h0 htl htn, by rw [List.length_take]; omega, nB_hWt, nF_hWt, hL, hF, hM, hB6, hB8, hWt, rfl⟩
  ·
   replace hc20 : (k : Int) ≤ 0 := (Int.not_lt.1 (of_decide_eq_false hc20))
   refine W_exit ?_
   refine X_hit ?_
   refine zQ ?_
   refine zL (.map (some mb)) ((hB6.cell 0).trans rfl) ?_
   refine zS [(68, .int .i64 ((id : Nat) : Int))] ?_
   refine st (by rfl) (S_lookupE false 3 32 (nodeV nd0) key_law3 (by kernel_rfl) (by kernel_rfl) (by kernel_rfl) (by kernel_rfl) (key_int (x := ((id : Nat) : Int)) (by unfold b64; omega)) hM fun vz ok hv => ?_)
   obtain ⟨z, rfl, _⟩ := look_hd hid hv
   refine st (by rfl) (S_storeA (b := w1.heap.size) (j := 0) (cs := [.int .i64 (nO z), .int .i64 (nW z), .int .i64 (nA z), .int .i64 (nB z), .int .i64 (nC z), .int .u64 (nV z)]) (by kernel_rfl) (by kernel_rfl) (by kernel_rfl) (by simp [oneV]) hB8 (by simp) fun w73 hT74 hs75 hB8' => ?_)
   have hL := hL.tchS hT74 (fun c e q => by cases e; exact nF_hB8 q)
   have hF := Tch.trans hF hT74 (fun _ _ e => e) (fun c hc e => by have : c = w1.heap.size := e; omega)
   have hM := hM.tch hT74 (fun e => hM.ne hB8 e)
   have hB6 := hB6.tch hT74 (hB6.ne hB8 (by decide))
   have hWt := hWt.tch hT74 (fun c hc e => hWt.blk_ne hB8 (by decide) c hc e)
   replace hB8 : Blk w73 w1.heap.size 32 [.int .i64 (nO z), .int .i64 (nW z), .int .i64 (nA z), .int .i64 (nB z), .int .i64 (nC z), .int .u64 (nV z)] := hB8'
   refine op_nil ?_
   refine W_ret ?_
   exact ⟨_, Res_cell (b := w1.heap.size) (cs := [.int .i64 (nO z), .int .i64 (nW z), .int .i64 (nA z), .int .i64 (nB z), .int .i64 (nC z), .int .u64 (nV z)]) (by rfl) (by kernel_rfl) (by kernel_rfl) hB8 (by kernel_rfl) (by kernel_rfl), ⟨hd, hW.2.2.1.resolve_left (fun q => by rw [show wt = [] from List.eq_nil_of_length_eq_zero (by omega)] at q; cases q), hM, hF⟩⟩

end Go.Proofs.YtlbadnpgmkobdaaV

set_option linter.unusedVariables false
set_option linter.unusedSimpArgs false
namespace Go.Proofs.YtlbadnpgmkobdaaV
open Go Go.RowKit Go.Proofs

set_option maxRecDepth 100000 in
theorem below_ok (F : Nat → Prop) (p : Nat) (most : Int) (N : List Nd) (W : Value → Value → Prop) (ix : Int) (w : World) (hL : TLow F w p most N W) (hN : N.length ≤ 65536) (hB : TB N) : Ret Try.prog 75 [.pointer (some ⟨p, 0, none⟩), .int .i64 ix] w fun v w' => ∃ mb R, v = .map (some mb) ∧ MapE Try.prog 3 w' mb R ∧ ((isT N ix = true ∧ ∃ x y, R x y) ∨ (isT N ix = false ∧ ∀ x y, ¬ R x y)) ∧ Tch N0 w w' := by
 have hltF := hL.lt
 refine enter Try.func75 rfl rfl ?_
 refine zQ ?_
 refine zS [(4, .map none)] ?_
 refine op_nil ?_
 refine zQ ?_
 refine st (by rfl) (S_makeMapE 3 fun w1 hT2 hs3 hM0 => ?_)
 have hT0 := hT2
 have hL := hL.tch0 hT2
 have hmlt := hM0.lt
 refine zS [(5, .map (some w.heap.size))] ?_
 refine op_nil ?_
 refine W_seq ?_
 refine zQ ?_
 refine zS [(10, .pointer (some ⟨p, 0, none⟩)), (11, .int .i64 ix)] ?_
 refine zC (node_ok F p most N W ix _ hL hN) ?_
 rintro _ w4 ⟨rfl, hT5⟩
 have hT0 := hT0.t0 hT5
 have hL := hL.tch0 hT5
 have hM0 := hM0.tch0 hT5
 refine zS [(9, .tuple #[.agg #[.int .i64 (nO (ndF N ix)), .int .i64 (nW (ndF N ix)), .int .i64 (nA (ndF N ix)), .int .i64 (nB (ndF N ix)), .int .i64 (nC (ndF N ix)), .int .u64 (nV (ndF N ix))], .bool (isT N ix)]), (13, .agg #[.int .i64 (nO (ndF N ix)), .int .i64 (nW (ndF N ix)), .int .i64 (nA (ndF N ix)), .int .i64 (nB (ndF N ix)), .int .i64 (nC (ndF N ix)), .int .u64 (nV (ndF N ix))]), (14, .bool (isT N ix))] ?_
 have hlt_ := hL.lt
 have hz10 := hT0.size
 have z11 := hT0.size
 refine st (by rfl) (S_new (v := .pointer (some ⟨w4.heap.size, 0, none⟩)) (ob := .cells #[.int .i64 0, .int .i64 0, .int .i64 0, .int .i64 0, .int .i64 0, .int .u64 0] 32) (by kernel_rfl) fun w6 hT7 hs8 hB9 => ?_)
 replace hB9 : Blk w6 (w4.heap.size) 32 [.int .i64 0, .int .i64 0, .int .i64 0, .int .i64 0, .int .i64 0, .int .u64 0] := hB9
 have hT0 := hT0.t0 hT7
 have hL := hL.tch0 hT7
 have hM0 := hM0.tch0 hT7
 have nF_hB9 : ¬ F (w4.heap.size) := fun e => by have := hlt_ _ e; omega
 refine st (by rfl) (S_storeA (b := w4.heap.size) (j := 0) (cs := [.int .i64 (nO (ndF N ix)), .int .i64 (nW (ndF N ix)), .int .i64 (nA (ndF N ix)), .int .i64 (nB (ndF N ix)), .int .i64 (nC (ndF N ix)), .int .u64 (nV (ndF N ix))]) (by kernel_rfl) (by kernel_rfl) (by kernel_rfl) (by simp [oneV]) hB9 (by simp) fun w12 hT13 hs14 hB9' => ?_)
 have hT0 := (hT0).then hT13 (fun c e => by have : c = w4.heap.size := e; omega)
 have hL := hL.tchS hT13 (fun c e q => by cases e; exact nF_hB9 q)
 have hM0 := hM0.tch hT13 (fun e => hM0.ne hB9 e)
 replace hB9 : Blk w12 w4.heap.size 32 [.int .i64 (nO (ndF N ix)), .int .i64 (nW (ndF N ix)), .int .i64 (nA (ndF N ix)), .int .i64 (nB (ndF N ix)), .int .i64 (nC (ndF N ix)), .int .u64 (nV (ndF N ix))] := hB9'
 refine zS [(7, .bool (isT N ix))] ?_
 refine op_nil ?_
 refine W_seq ?_
 refine zF [(0, .pointer (some ⟨p, 0, none⟩)), (1, .int .i64 ix), (4, .map none), (5, .map (some w.heap.size)), (7, .bool (isT N ix))] fun ρ => ?_
 refine zR ?_
 refine zS [(15, .bool (isT N ix))] ?_
 refine zO (isT N ix) (fun hc15 => ?_) (fun hc15 => ?_)
 ·
  replace hc15 : 0 ≤ ix ∧ ix < (N.length : Int) := (of_decide_eq_true hc15)
  refine zR ?_
  refine zS [(16, .pointer (some ⟨p, 0, none⟩)), (17, .int .i64 ix), (18, .map (some w.heap.size))] ?_
  obtain ⟨id, hix⟩ : ∃ id : Nat, ix = (id : Int) := ⟨ix.toNat, by omega⟩
  refine st (by rfl) (S_call (args := [.pointer (some ⟨p, 0, none⟩), .int .i64 ix, .map (some w.heap.size), .func (.func 101) #[] #[]]) (by kernel_rfl) ((by rw [hix]; exact once_ok F p most N W (w.heap.size) id _ hL hN hB (by omega) hM0 (fun e => by have := hltF _ e; omega))) ?_)
  rintro vq w16 ⟨hd, hhd, hM, hTo17⟩
  have hT0 := (hT0).then hTo17 (fun c e => by have : c = w.heap.size := e; omega)
  have hL := hL.tchS hTo17 (fun c e q => by have : c = w.heap.size := e; have := hltF _ q; omega)
  have hB9 := hB9.tch hTo17 (fun e => hM0.ne hB9 (Eq.symm e))
  refine op_nil ?_
  refine zQ ?_
  refine zS [(20, .map (some w.heap.size)), (4, .map (some w.heap.size))] ?_
  refine op_nil ?_
  refine W_ret ?_
  exact ⟨_, Res_of (v := .map (some w.heap.size)) (by kernel_rfl), ⟨w.heap.size, _, rfl, hM, .inl ⟨by unfold isT; exact decide_eq_true (by omega), _, _, id, by omega, hhd, rfl, rfl⟩, hT0⟩⟩
 ·
  replace hc15 : ¬ (0 ≤ ix ∧ ix < (N.length : Int)) := (of_decide_eq_false hc15)
  refine W_skip ?_
  refine zQ ?_
  refine zS [(20, .map (some w.heap.size)), (4, .map (some w.heap.size))] ?_
  refine op_nil ?_
  refine W_ret ?_
  exact ⟨_, Res_of (v := .map (some w.heap.size)) (by kernel_rfl), ⟨w.heap.size, _, rfl, hM0, .inr ⟨by unfold isT; exact decide_eq_false (by omega), fun _ _ e => e⟩, hT0⟩⟩

set_option maxRecDepth 100000 in
theorem size_ok (F : Nat → Prop) (p : Nat) (most : Int) (N : List Nd) (W : Value → Value → Prop) (ix : Int) (w : World) (hL : TLow F w p most N W) (hN : N.length ≤ 65536) (hB : TB N) : Ret Try.prog 49 [.pointer (some ⟨p, 0, none⟩), .int .i64 ix] w fun v w' => ∃ m : Nat, v = .int .i64 ((m : Nat) : Int) ∧ ((m : Int) = 0 ↔ isT N ix = false) ∧ Tch N0 w w' := by
 refine enter Try.func49 rfl rfl ?_
 refine zQ ?_
 refine zS [(4, .int .i64 0)] ?_
 refine op_nil ?_
 refine zQ ?_
 refine zS [(5, .pointer (some ⟨p, 0, none⟩)), (6, .int .i64 ix)] ?_
 refine zC (below_ok F p most N W ix _ hL hN hB) ?_
 rintro _ w1 ⟨mb, R, rfl, hM, hR, hT2⟩
 have hT0 := hT2
 have hL := hL.tch0 hT2
 refine st (by rfl) ?_
 obtain ⟨m, hm, hm1, hm2⟩ := R_lenM (P := Try.prog) 3 32 (by kernel_rfl) (by kernel_rfl) hM
 refine S_val hm ?_
 refine zS [(4, .int .i64 ((m : Nat) : Int))] ?_
 refine op_nil ?_
 refine W_ret ?_
 exact ⟨_, Res_of (v := .int .i64 ((m : Nat) : Int)) (by kernel_rfl), ⟨m, rfl, by rcases hR with ⟨q, r⟩ | ⟨q, r⟩; (have := hm1 r; rw [q]; constructor; (intro h; omega); intro h; cases h); (have := hm2 r; rw [q]; constructor; (intro _; rfl); intro _; omega), hT0⟩⟩

end Go.Proofs.YtlbadnpgmkobdaaV

set_option linter.unusedVariables false
set_option linter.unusedSimpArgs false
namespace Go.Proofs.YtlbadnpgmkobdaaV
open Go Go.RowKit Go.Proofs

theorem mask_okN (x : Nat) (w : World) (h : x ≤ 64) : Ret Try.prog 56 [.int .i64 ((x : Nat) : Int)] w fun v w' => v = .int .u64 ((pw x - 1 : Nat) : Int) ∧ Tch N0 w w' := by
 rw [← mask_nat h]; exact mask_ok _ w

end Go.Proofs.YtlbadnpgmkobdaaV
