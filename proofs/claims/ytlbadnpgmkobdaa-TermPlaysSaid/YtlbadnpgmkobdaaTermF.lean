/- What each of the terms' makers says: plain. -/
import Derived.Test.YtlbadnpgmkobdaaT1
set_option linter.unusedVariables false
set_option linter.unusedSimpArgs false
namespace Go.Proofs.YtlbadnpgmkobdaaV
open Go Go.RowKit Go.Proofs
theorem Own.rdS {w : World} {base e sz n : Nat} {A : Option Addr} {cp : Nat} {cells : List Value} (h : Own w base e sz (.slice A n cp) n cells) : RdW w sz n A cells := by
  obtain ⟨A', c', e, hr⟩ := h.rd
  injection e with e1 e2 e3
  subst e1; exact hr
/-- One of some is no term. -/
def badT (k : Nat) (l : List Int) : Bool := l.any (fun x => decide (x < 0 ∨ (k : Int) ≤ x))
theorem gmemI {l : List Int} {i : Nat} (h : i < l.length) : l.getD i 0 ∈ l := by
  rw [List.getD_eq_getElem?_getD, List.getElem?_eq_getElem h]; exact List.getElem_mem h
theorem badT_t {n : Nat} {l : List Int} {i : Nat} (hi : i < l.length) (h : l.getD i 0 < 0 ∨ (n : Int) ≤ l.getD i 0) : true = badT n l := by
  symm; unfold badT; rw [List.any_eq_true]
  exact ⟨_, gmemI hi, decide_eq_true h⟩
theorem badT_f {n : Nat} {l : List Int} {i : Nat} (hi : l.length ≤ i) (h : ∀ j, j < i → ¬ (l.getD j 0 < 0 ∨ (n : Int) ≤ l.getD j 0)) : false = badT n l := by
  symm; unfold badT; rw [List.any_eq_false]
  intro x hx
  obtain ⟨j, hj, e⟩ := List.getElem_of_mem hx
  have e2 : l.getD j 0 = x := by rw [List.getD_eq_getElem?_getD, List.getElem?_eq_getElem hj]; exact e
  have := h j (by omega)
  rw [e2] at this
  simpa using this
theorem bad1 {n : Nat} {a : Int} : badT n [a] = true ↔ (a < 0 ∨ (n : Int) ≤ a) := by unfold badT; simp
theorem bad2 {n : Nat} {a b : Int} : badT n [a, b] = true ↔ ((a < 0 ∨ (n : Int) ≤ a) ∨ (b < 0 ∨ (n : Int) ≤ b)) := by unfold badT; simp
theorem bad3 {n : Nat} {a b c : Int} : badT n [a, b, c] = true ↔ ((a < 0 ∨ (n : Int) ≤ a) ∨ (b < 0 ∨ (n : Int) ≤ b) ∨ (c < 0 ∨ (n : Int) ≤ c)) := by unfold badT; simp
theorem bad1f {n : Nat} {a : Int} : badT n [a] = false ↔ (0 ≤ a ∧ a < (n : Int)) := by unfold badT; simp
theorem bad2f {n : Nat} {a b : Int} : badT n [a, b] = false ↔ ((0 ≤ a ∧ a < (n : Int)) ∧ (0 ≤ b ∧ b < (n : Int))) := by unfold badT; simp
theorem bad3f {n : Nat} {a b c : Int} : badT n [a, b, c] = false ↔ ((0 ≤ a ∧ a < (n : Int)) ∧ (0 ≤ b ∧ b < (n : Int)) ∧ (0 ≤ c ∧ c < (n : Int))) := by unfold badT; simp
/-- A term's width. -/
def widF (N : List Nd) (x : Int) : Int := if 0 ≤ x ∧ x < (N.length : Int) then nW (nth N x.toNat) else 0
def fitsW (w : Int) : Bool := decide (1 ≤ w ∧ w ≤ 64)
def maskF (w : Int) : Int := if 1 ≤ w ∧ w ≤ 64 then (18446744073709551615 : Int).fdiv (2 ^ (64 - w.toNat)) else 0
theorem mask_z {w : Int} (h : ¬ (1 ≤ w ∧ w ≤ 64)) : maskF w = 0 := by unfold maskF; rw [if_neg h]
theorem mask_pos {w : Int} (h : 1 ≤ w ∧ w ≤ 64) : 1 ≤ maskF w ∧ maskF w ≤ 18446744073709551615 := by
  unfold maskF
  rw [if_pos h, Int.fdiv_eq_ediv_of_nonneg _ (by have : (0 : Int) < 2 ^ (64 - w.toNat) := Int.pow_pos (by decide); omega)]
  have hk : 64 - w.toNat ≤ 63 := by omega
  have h1 : (2 : Int) ^ (64 - w.toNat) ≤ 2 ^ 63 := by
    have : (2 : Nat) ^ (64 - w.toNat) ≤ 2 ^ 63 := Nat.pow_le_pow_right (by decide) hk
    exact_mod_cast this
  have h0 : (0 : Int) < 2 ^ (64 - w.toNat) := Int.pow_pos (by decide)
  constructor
  · exact (Int.le_ediv_iff_mul_le h0).2 (by omega)
  · exact Int.ediv_le_self _ (by omega)
def cutF (w x : Int) : Int := IntKind.u64.wrap ((BitVec.ofInt 64 x &&& BitVec.ofInt 64 (maskF w)).toNat : Int)
theorem cut_u64 (w x : Int) : u64 (cutF w x) := by
  unfold cutF u64
  have h := (BitVec.ofInt 64 x &&& BitVec.ofInt 64 (maskF w)).isLt
  rw [wrap_u64 (by omega) (by omega)]
  omega
abbrev TR := Int × Int × List Nd
def constF (N : List Nd) (most w x : Int) : TR := if ¬ (1 ≤ w ∧ w ≤ 64) then (0, 2, N) else mk N most (20, w, 0, 0, 0, cutF w x)
def varBad (N : List Nd) (w i : Int) : Prop := ∃ n, n ∈ N ∧ nO n = 21 ∧ nA n = i ∧ nW n ≠ w
instance (N : List Nd) (w i : Int) : Decidable (varBad N w i) := by unfold varBad; infer_instance
def varF (N : List Nd) (most w i : Int) : TR := if ¬ (1 ≤ w ∧ w ≤ 64) then (0, 2, N) else if i < 0 ∨ 256 ≤ i then (0, 10, N) else if varBad N w i then (0, 2, N) else mk N most (21, w, i, 0, 0, 0)
theorem nb {b : Bool} (h : b = false) : ¬ (b = true) := by simp [h]
def unaF (N : List Nd) (most op a : Int) : TR := if op ≠ 15 ∧ op ≠ 16 then (0, 3, N) else if badT N.length [a] then (0, 11, N) else mk N most (op, widF N a, a, 0, 0, 0)
def binF (N : List Nd) (most op a b : Int) : TR := if op < 1 ∨ 14 < op then (0, 3, N) else if badT N.length [a, b] then (0, 11, N) else if widF N a ≠ widF N b then (0, 2, N) else mk N most (op, if op = 12 ∨ op = 13 ∨ op = 14 then 1 else widF N a, a, b, 0, 0)
def iteF (N : List Nd) (most c a b : Int) : TR := if badT N.length [c, a, b] then (0, 11, N) else if widF N c ≠ 1 ∨ widF N a ≠ widF N b then (0, 2, N) else mk N most (22, widF N a, c, a, b, 0)
def extF (N : List Nd) (most a lo w : Int) : TR := if badT N.length [a] then (0, 11, N) else if w < 1 ∨ lo < 0 ∨ widF N a < w ∨ widF N a - w < lo then (0, 2, N) else mk N most (23, w, a, lo, 0, 0)
def catF (N : List Nd) (most a b : Int) : TR := if badT N.length [a, b] then (0, 11, N) else if 64 < widF N a + widF N b then (0, 2, N) else mk N most (24, widF N a + widF N b, a, b, 0, 0)
def exdF (N : List Nd) (most a w : Int) (sg : Bool) : TR := if badT N.length [a] then (0, 11, N) else if w < widF N a ∨ 64 < w then (0, 2, N) else if w = widF N a then (a, 0, N) else mk N most (if sg then 26 else 25, w, a, 0, 0, 0)
theorem nth_mem {N : List Nd} {i : Nat} (h : i < N.length) : nth N i ∈ N := by
  unfold nth; rw [List.getD_eq_getElem?_getD, List.getElem?_eq_getElem h]; exact List.getElem_mem h
/-- Terms whose widths are from 1 to 64. -/
structure TJ (N : List Nd) (most : Int) : Prop where
  ti : TI N most
  wr : ∀ n, n ∈ N → 1 ≤ nW n ∧ nW n ≤ 64
theorem TJ.wid {N : List Nd} {most : Int} (h : TJ N most) {x : Int} (h0 : 0 ≤ x) (h1 : x < (N.length : Int)) : 1 ≤ widF N x ∧ widF N x ≤ 64 := by
  unfold widF
  rw [if_pos ⟨h0, h1⟩]
  exact h.wr _ (nth_mem (by omega))
theorem mk_TJ {N : List Nd} {most : Int} (h : TJ N most) {n : Nd} (hw : nwf n) (h1 : 1 ≤ nW n ∧ nW n ≤ 64) (hv : nO n = 21 → ∀ m, m ∈ N → nO m = 21 → nA m = nA n → nW m = nW n) : TJ (mk N most n).2.2 most := by
  unfold mk
  split
  · exact h
  · rename_i hn
    split
    · exact h
    · rename_i hl
      have mem : ∀ m, m ∈ N ++ [n] → m ∈ N ∨ m = n := fun m hm => by simpa using hm
      refine ⟨⟨List.nodup_append.2 ⟨h.ti.nd, by simp, fun a ha b hb => by simp at hb; rw [hb]; exact fun e => hn (e ▸ ha)⟩, by rw [List.length_append]; simp; omega, h.ti.most, fun m hm => ?_, fun a b ha hb oa ob e => ?_⟩, fun m hm => ?_⟩
      · rcases mem m hm with q | q
        · exact h.ti.wf m q
        · rw [q]; exact hw
      · rcases mem a ha with q | q <;> rcases mem b hb with r | r
        · exact h.ti.wid a b q r oa ob e
        · subst r; exact hv ob a q oa e
        · subst q; exact (hv oa b r ob e.symm).symm
        · rw [q, r]
      · rcases mem m hm with q | q
        · exact h.wr m q
        · rw [q]; exact h1
theorem wdR_mk {N : List Nd} {most : Int} {n : Nd} (h : nO n ≠ 21) (x y : Value) : wdR (mk N most n).2.2 x y ↔ wdR N x y := by
  unfold mk
  split
  · exact Iff.rfl
  · split
    · exact Iff.rfl
    · constructor
      · rintro ⟨m, hm, ho, e⟩
        simp only [List.mem_append, List.mem_singleton] at hm
        rcases hm with hm | rfl
        · exact ⟨m, hm, ho, e⟩
        · exact absurd ho h
      · rintro ⟨m, hm, ho, e⟩
        exact ⟨m, List.mem_append.2 (.inl hm), ho, e⟩
/-- Terms in memory. -/
def TObj (F : Nat → Prop) (w : World) (p : Nat) (most : Int) (N : List Nd) : Prop := TLow F w p most N (wdR N) ∧ TJ N most
theorem TObj.tch0 {F : Nat → Prop} {w w' : World} {p : Nat} {most : Int} {N : List Nd} (h : TObj F w p most N) (k : Tch N0 w w') : TObj F w' p most N := ⟨h.1.tch0 k, h.2⟩
theorem TObj.tchS {F S : Nat → Prop} {w w' : World} {p : Nat} {most : Int} {N : List Nd} (h : TObj F w p most N) (k : Tch S w w') (hs : ∀ b, S b → ¬ F b) : TObj F w' p most N := ⟨h.1.tchS k hs, h.2⟩
/-- What comes of a call that makes a term. -/
def TRet (F : Nat → Prop) (p : Nat) (most : Int) (w : World) (r : TR) (v : Value) (w' : World) : Prop := v = .tuple #[.int .i64 r.1, .int .i64 r.2.1] ∧ ∃ F', TObj F' w' p most r.2.2 ∧ Mv F F' w w'
/-- A node's parts, all of them small. -/
theorem nwf_of {o w a b c v : Int} (h0 : b64 o) (h1 : b64 w) (h2 : b64 a) (h3 : b64 b) (h4 : b64 c) (h5 : u64 v) : nwf (o, w, a, b, c, v) := ⟨h0, h1, h2, h3, h4, h5⟩
end Go.Proofs.YtlbadnpgmkobdaaV
