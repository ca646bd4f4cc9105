/- Terms: plain, and in memory. -/
import Derived.Test.YtlbadnpgmkobdaaProg
import Derived.Test.YtlbadnpgmkobdaaVx9
import Derived.Test.YtlbadnpgmkobdaaVx7
import Derived.Test.YtlbadnpgmkobdaaVx6
set_option linter.unusedVariables false
set_option linter.unusedSimpArgs false
namespace Go.Proofs.YtlbadnpgmkobdaaV
open Go Go.RowKit Go.Proofs
/-- A node: operator, width, three places, a word. -/
abbrev Nd := Int × Int × Int × Int × Int × Int
def nO (n : Nd) : Int := n.1
def nW (n : Nd) : Int := n.2.1
def nA (n : Nd) : Int := n.2.2.1
def nB (n : Nd) : Int := n.2.2.2.1
def nC (n : Nd) : Int := n.2.2.2.2.1
def nV (n : Nd) : Int := n.2.2.2.2.2
def ncl (n : Nd) : List Value := [.int .i64 (nO n), .int .i64 (nW n), .int .i64 (nA n), .int .i64 (nB n), .int .i64 (nC n), .int .u64 (nV n)]
def nodeV (n : Nd) : Value := .agg (ncl n).toArray
def ncs (N : List Nd) : List Value := N.flatMap ncl
def b64 (x : Int) : Prop := -9223372036854775808 ≤ x ∧ x ≤ 9223372036854775807
def u64 (x : Int) : Prop := 0 ≤ x ∧ x ≤ 18446744073709551615
def nwf (n : Nd) : Prop := b64 (nO n) ∧ b64 (nW n) ∧ b64 (nA n) ∧ b64 (nB n) ∧ b64 (nC n) ∧ u64 (nV n)
theorem ncs_length (N : List Nd) : (ncs N).length = N.length * 6 := by
  induction N with
  | nil => rfl
  | cons x l ih => unfold ncs at *; simp only [List.flatMap_cons, List.length_append, ih, List.length_cons]; simp [ncl]; omega
theorem ncs_app (N M : List Nd) : ncs (N ++ M) = ncs N ++ ncs M := by simp [ncs]
def nd0 : Nd := (0, 0, 0, 0, 0, 0)
def nth (N : List Nd) (i : Nat) : Nd := N.getD i nd0
theorem ncs_part (N : List Nd) {i : Nat} (hi : i < N.length) : ∀ k u, (ncl (nth N i))[k]? = some u → (ncs N)[i * 6 + k]? = some u := by
  induction N generalizing i with
  | nil => simp at hi
  | cons x l ih =>
    intro k u hk
    have hc : ncs (x :: l) = ncl x ++ ncs l := by simp [ncs]
    cases i with
    | zero =>
      have hk6 : k < 6 := by
        rcases Nat.lt_or_ge k 6 with q | q
        · exact q
        · rw [List.getElem?_eq_none (by simpa [ncl] using q)] at hk; cases hk
      rw [hc, List.getElem?_append_left (by simp [ncl]; omega)]
      simpa [nth] using hk
    | succ j =>
      have e : (j + 1) * 6 + k = (ncl x).length + (j * 6 + k) := by simp [ncl]; omega
      rw [hc, e, List.getElem?_append_right (by omega)]
      rw [Nat.add_sub_cancel_left]
      exact ih (i := j) (by simpa using hi) k u (by simpa [nth] using hk)
theorem nodeV_inj {n m : Nd} (h : nodeV n = nodeV m) : n = m := by
  unfold nodeV ncl at h
  injection h with h
  have h2 := congrArg Array.toList h
  simp only [List.cons.injEq, Value.int.injEq, true_and, and_true] at h2
  obtain ⟨a, b, c, d, e, f⟩ := h2
  obtain ⟨n1, n2, n3, n4, n5, n6⟩ := n
  obtain ⟨m1, m2, m3, m4, m5, m6⟩ := m
  simp only [nO, nW, nA, nB, nC, nV] at a b c d e f
  simp [a, b, c, d, e, f]
/-- A term is made, if it is not there. -/
def mk (N : List Nd) (most : Int) (n : Nd) : Int × Int × List Nd := if n ∈ N then ((N.idxOf n : Nat), 0, N) else if most ≤ (N.length : Int) then (0, 8, N) else (N.length, 0, N ++ [n])
theorem nth_at {N : List Nd} {i : Nat} {n : Nd} (h : N[i]? = some n) : i < N.length ∧ nth N i = n := by
  have hi : i < N.length := by
    rcases Nat.lt_or_ge i N.length with q | q
    · exact q
    · rw [List.getElem?_eq_none q] at h; cases h
  exact ⟨hi, by unfold nth; rw [List.getD_eq_getElem?_getD, h]; rfl⟩
theorem idx_of {N : List Nd} (hN : N.Nodup) {i : Nat} {n : Nd} (h : N[i]? = some n) : N.idxOf n = i := by
  obtain ⟨hi, _⟩ := nth_at h
  rw [List.getElem?_eq_getElem hi] at h
  injection h with h
  rw [← h]
  exact hN.idxOf_getElem i hi
theorem mk_in {N : List Nd} (hN : N.Nodup) {most : Int} {i : Nat} {n : Nd} (h : N[i]? = some n) : mk N most n = (((i : Nat) : Int), 0, N) := by
  unfold mk
  rw [if_pos (List.mem_of_getElem? h), idx_of hN h]
theorem mk_full {N : List Nd} {most : Int} {n : Nd} (h : n ∉ N) (hm : most ≤ (N.length : Int)) : mk N most n = (0, 8, N) := by
  unfold mk
  rw [if_neg h, if_pos hm]
theorem mk_new {N : List Nd} {most : Int} {n : Nd} (h : n ∉ N) (hm : (N.length : Int) < most) : mk N most n = ((N.length : Int), 0, N ++ [n]) := by
  unfold mk
  rw [if_neg h, if_neg (by omega)]
/-- What the map of terms holds. -/
def atR (N : List Nd) : Value → Value → Prop := fun x y => ∃ (i : Nat) (n : Nd), N[i]? = some n ∧ x = nodeV n ∧ y = .int .i64 (i : Int)
theorem atR_push {N : List Nd} {n : Nd} (hn : n ∉ N) (x y : Value) : atR (N ++ [n]) x y ↔ (x ≠ nodeV n ∧ atR N x y) ∨ (x = nodeV n ∧ y = .int .i64 (N.length : Int)) := by
  constructor
  · rintro ⟨i, m, h, rfl, rfl⟩
    rcases Nat.lt_or_ge i N.length with q | q
    · rw [List.getElem?_append_left q] at h
      exact .inl ⟨fun e => hn (by rw [← nodeV_inj e]; exact List.mem_of_getElem? h), i, m, h, rfl, rfl⟩
    · rw [List.getElem?_append_right q] at h
      have : i - N.length = 0 := by
        rcases Nat.eq_zero_or_pos (i - N.length) with z | z
        · exact z
        · rw [List.getElem?_eq_none (by simp only [List.length_cons, List.length_nil]; omega)] at h; cases h
      rw [this] at h
      injection h with h
      subst h
      exact .inr ⟨rfl, by rw [show i = N.length by omega]⟩
  · rintro (⟨_, i, m, h, rfl, rfl⟩ | ⟨rfl, rfl⟩)
    · obtain ⟨hi, _⟩ := nth_at h
      exact ⟨i, m, by rw [List.getElem?_append_left hi]; exact h, rfl, rfl⟩
    · exact ⟨N.length, n, by simp, rfl, rfl⟩
/-- What the map of widths holds. -/
def wdR (N : List Nd) : Value → Value → Prop := fun x y => ∃ n, n ∈ N ∧ nO n = 21 ∧ x = .int .i64 (nA n) ∧ y = .int .i64 (nW n)
/-- Terms in memory, all of whose blocks are of F; the map of widths holds W. -/
def TLow (F : Nat → Prop) (w : World) (p : Nat) (most : Int) (N : List Nd) (W : Value → Value → Prop) : Prop :=
  ∃ A cp ma mw, Blk w p 74 [.slice A N.length cp, .map (some ma), .map (some mw), .int .i64 most] ∧ Own w 0 32 6 (.slice A N.length cp) N.length (ncs N) ∧ MapE Try.prog 32 w ma (atR N) ∧ MapE Try.prog 3 w mw W ∧ ma ≠ mw ∧ F p ∧ F ma ∧ F mw ∧ (∀ c, (Value.slice A N.length cp).ownBlock = some c → F c) ∧ (∀ b, F b → b < w.heap.size)
theorem TLow.tch {F S : Nat → Prop} {w w' : World} {p : Nat} {most : Int} {N : List Nd} {W : Value → Value → Prop} (h : TLow F w p most N W) (k : Tch S w w') (hs : ∀ b, F b → ¬ S b) : TLow F w' p most N W := by
  obtain ⟨A, cp, ma, mw, hP, hO, hM, hW, hne, fp, fa, fw, fA, hl⟩ := h
  exact ⟨A, cp, ma, mw, hP.tch k (hs p fp), hO.tch k (fun b hb => hs b (fA b hb)), hM.tch k (hs ma fa), hW.tch k (hs mw fw), hne, fp, fa, fw, fA, fun b hb => Nat.lt_of_lt_of_le (hl b hb) k.size⟩
theorem TLow.tch0 {F : Nat → Prop} {w w' : World} {p : Nat} {most : Int} {N : List Nd} {W : Value → Value → Prop} (h : TLow F w p most N W) (k : Tch N0 w w') : TLow F w' p most N W := h.tch k (fun _ _ e => e)
theorem TLow.tchS {F S : Nat → Prop} {w w' : World} {p : Nat} {most : Int} {N : List Nd} {W : Value → Value → Prop} (h : TLow F w p most N W) (k : Tch S w w') (hs : ∀ b, S b → ¬ F b) : TLow F w' p most N W := h.tch k (fun b hb e => hs b e hb)
theorem TLow.lt {F : Nat → Prop} {w : World} {p : Nat} {most : Int} {N : List Nd} {W : Value → Value → Prop} (h : TLow F w p most N W) : ∀ b, F b → b < w.heap.size := by
  obtain ⟨A, cp, ma, mw, hP, hO, hM, hW, hne, fp, fa, fw, fA, hl⟩ := h
  exact hl
theorem TLow.congr {F : Nat → Prop} {w : World} {p : Nat} {most : Int} {N : List Nd} {W W' : Value → Value → Prop} (h : TLow F w p most N W) (hW : ∀ x y, W' x y ↔ W x y) : TLow F w p most N W' := by
  obtain ⟨A, cp, ma, mw, hP, hO, hM, hW0, r⟩ := h
  exact ⟨A, cp, ma, mw, hP, hO, hM, hW0.congr hW, r⟩
/-- What holds of terms: each once, not too many, a variable's widths are one. -/
structure TI (N : List Nd) (most : Int) : Prop where
  nd : N.Nodup
  len : (N.length : Int) ≤ most
  most : most ≤ 65536
  wf : ∀ n, n ∈ N → nwf n
  wid : ∀ n m, n ∈ N → m ∈ N → nO n = 21 → nO m = 21 → nA n = nA m → nW n = nW m
def Mv (F F' : Nat → Prop) (w w' : World) : Prop := Tch F w w' ∧ ∀ b, F' b → F b ∨ w.heap.size ≤ b
theorem Mv.refl (F : Nat → Prop) (w : World) : Mv F F w w := ⟨Tch.refl _ _, fun b hb => .inl hb⟩
theorem Mv.trans {F F1 F2 : Nat → Prop} {w w1 w2 : World} (h : Mv F F1 w w1) (k : Mv F1 F2 w1 w2) : Mv F F2 w w2 :=
  ⟨h.1.trans k.1 (fun _ _ e => e) (fun b hb e => (h.2 b e).resolve_right (by omega)), fun b hb => (k.2 b hb).elim (fun e => h.2 b e) (fun e => .inr (Nat.le_trans h.1.size e))⟩
theorem Mv.same {F : Nat → Prop} {w w' : World} (h : Tch F w w') : Mv F F w w' := ⟨h, fun b hb => .inl hb⟩
theorem Mv.n0 {F : Nat → Prop} {w w' : World} (h : Tch N0 w w') : Mv F F w w' := .same (h.weaken (fun _ _ e => e.elim))
theorem Mv.then0 {F F' : Nat → Prop} {w w1 w2 : World} (h : Mv F F' w w1) (k : Tch N0 w1 w2) : Mv F F' w w2 := h.trans (.n0 k)
theorem Mv.newst {F F' : Nat → Prop} {w w1 w2 : World} {b : Nat} (h : Mv F F' w w1) (k : Tch (one b) w1 w2) (hb : w.heap.size ≤ b) : Mv F F' w w2 :=
  ⟨h.1.trans k (fun _ _ e => e) (fun c hc e => by have : c = b := e; omega), h.2⟩
theorem Mv.ge {F F' : Nat → Prop} {w0 w w' : World} (h : Mv F F' w w') (hF : ∀ b, F b → w0.heap.size ≤ b) (hz : w0.heap.size ≤ w.heap.size) : ∀ b, F' b → w0.heap.size ≤ b := fun b hb => (h.2 b hb).elim (hF b) (fun q => Nat.le_trans hz q)
/-! ### Keys -/
theorem keyT32 : Try.prog.keyTypeAt 3 32 = true := by kernel_rfl
theorem tiled32 : Try.prog.tiled 3 32 = true := by kernel_rfl
theorem key_law32 : Go.Maps.Keyed Try.prog 32 := .of_law (Go.deep_law (m := 3) (by omega) keyT32 tiled32 (by rw [Try.underlying32]))
theorem key_law3 : Go.Maps.Keyed Try.prog 3 := Go.Maps.int_keyed Try.underlying3
theorem cells3 : Try.prog.cellsOf 3 = 1 := by kernel_rfl
theorem cells30 : Try.prog.cellsOf 30 = 1 := by kernel_rfl
theorem cells32 : Try.prog.cellsOf 32 = 6 := by kernel_rfl
theorem keyT32' : Try.prog.keyType 32 = true := by kernel_rfl
theorem wf_i64 {x : Int} (h : b64 x) : (Lit.int .i64 x).wf = true := by
  unfold b64 at h
  simp only [Lit.wf, IntKind.min, IntKind.max, Bool.and_eq_true, decide_eq_true_eq]
  simp [IntKind.signed, IntKind.bits]
  omega
theorem wf_u64 {x : Int} (h : u64 x) : (Lit.int .u64 x).wf = true := by
  unfold u64 at h
  simp only [Lit.wf, IntKind.min, IntKind.max, Bool.and_eq_true, decide_eq_true_eq]
  simp [IntKind.signed, IntKind.bits]
  omega
theorem lits3 (m : Nat) (x : Int) (h : (Lit.int .i64 x).wf = true) : Try.prog.keyLits (m + 1) 3 [.int .i64 x] = some [.int .i64 x] := by
  simp [Program.keyLits, Try.underlying3, h]
theorem lits30 (m : Nat) (x : Int) (h : (Lit.int .u64 x).wf = true) : Try.prog.keyLits (m + 1) 30 [.int .u64 x] = some [.int .u64 x] := by
  simp [Program.keyLits, Try.underlying30, h]
theorem key_int {x : Int} (h : b64 x) : ∃ l, keyOf Try.prog 3 (.int .i64 x) = some l := ⟨_, Go.Maps.keyOf_int_mk Try.underlying3 (wf_i64 h)⟩
set_option maxRecDepth 100000 in
theorem key_nd {n : Nd} (h : nwf n) : ∃ l, keyOf Try.prog 32 (nodeV n) = some l := by
  obtain ⟨h0, h1, h2, h3, h4, h5⟩ := h
  have k0 := wf_i64 h0
  have k1 := wf_i64 h1
  have k2 := wf_i64 h2
  have k3 := wf_i64 h3
  have k4 := wf_i64 h4
  have k5 := wf_u64 h5
  obtain ⟨m, hm⟩ : ∃ m, Try.prog.types.size = m + 1 := ⟨_, rfl⟩
  have hf : (nodeV n).formed Try.prog 32 = true := by
    unfold nodeV Value.formed
    rw [Try.underlying32]
    simp [cells32, ncl]
  unfold keyOf
  rw [Try.underlying32]
  simp only [keyT32', hf, Bool.and_self, if_true, hm]
  unfold Program.keyLits
  rw [Try.underlying32]
  simp [nodeV, ncl, cells32, cells3, cells30, Value.cells, lits3, lits30, k0, k1, k2, k3, k4, k5]
end Go.Proofs.YtlbadnpgmkobdaaV
