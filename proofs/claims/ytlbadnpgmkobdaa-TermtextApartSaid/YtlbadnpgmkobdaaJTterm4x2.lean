/- Texts laid together: Terms: plain, and in memory. Terms: steps on their map. Walks of functions of the program and of the document's texts. The conditions stand with each theorem. What each of the terms' makers says: plain. Walks of functions of the program and of the document's texts. The conditions stand with each theorem. -/
import Derived.Test.YtlbadnpgmkobdaaProg
import Derived.Test.YtlbadnpgmkobdaaJTterm4x1
set_option linter.unusedVariables false
set_option linter.unusedSimpArgs false
namespace Go.Proofs.YtlbadnpgmkobdaaV
open Go Go.RowKit Go.Proofs
/-- A node: operator, width, three places, a word. -/
abbrev Nd := Int × Int × Int × Int × Int × Int
def nO (n : Nd) : Int := n.1
def nW (n : Nd) : Int := n.2.1
def nA (n : Nd) : Int := n.2.2.1
def nB (n : Nd) : Int := n.2.2.2.1
def nC (n : Nd) : Int := n.2.2.2.2.1
def nV (n : Nd) : Int := n.2.2.2.2.2
def ncl (n : Nd) : List Value := [.int .i64 (nO n), .int .i64 (nW n), .int .i64 (nA n), .int .i64 (nB n), .int .i64 (nC n), .int .u64 (nV n)]
def nodeV (n : Nd) : Value := .agg (ncl n).toArray
def ncs (N : List Nd) : List Value := N.flatMap ncl
def b64 (x : Int) : Prop := -9223372036854775808 ≤ x ∧ x ≤ 9223372036854775807
def u64 (x : Int) : Prop := 0 ≤ x ∧ x ≤ 18446744073709551615
def nwf (n : Nd) : Prop := b64 (nO n) ∧ b64 (nW n) ∧ b64 (nA n) ∧ b64 (nB n) ∧ b64 (nC n) ∧ u64 (nV n)
theorem ncs_app (N M : List Nd) : ncs (N ++ M) = ncs N ++ ncs M := by simp [ncs]
def nd0 : Nd := (0, 0, 0, 0, 0, 0)
def nth (N : List Nd) (i : Nat) : Nd := N.getD i nd0
theorem ncs_part (N : List Nd) {i : Nat} (hi : i < N.length) : ∀ k u, (ncl (nth N i))[k]? = some u → (ncs N)[i * 6 + k]? = some u := by
 induction N generalizing i with
 | nil => simp at hi
 | cons x l ih =>
  intro k u hk
  have hc : ncs (x :: l) = ncl x ++ ncs l := by simp [ncs]
  cases i with
  | zero =>
   have hk6 : k < 6 := by
    rcases Nat.lt_or_ge k 6 with q | q
    ·
     exact q
    ·
     rw [List.getElem?_eq_none (by simpa [ncl] using q)] at hk; cases hk
   rw [hc, List.getElem?_append_left (by simp [ncl]; omega)]
   simpa [nth] using hk
  | succ j =>
   have e : (j + 1) * 6 + k = (ncl x).length + (j * 6 + k) := by simp [ncl]; omega
   rw [hc, e, List.getElem?_append_right (by omega)]
   rw [Nat.add_sub_cancel_left]
   exact ih (i := j) (by simpa using hi) k u (by simpa [nth] using hk)
theorem nodeV_inj {n m : Nd} (h : nodeV n = nodeV m) : n = m := by
 unfold nodeV ncl at h
 injection h with h
 have h2 := congrArg Array.toList h
 simp only [List.cons.injEq, Value.int.injEq, true_and, and_true] at h2
 obtain ⟨a, b, c, d, e, f⟩ := h2
 obtain ⟨n1, n2, n3, n4, n5, n6⟩ := n
 obtain ⟨m1, m2, m3, m4, m5, m6⟩ := m
 simp only [nO, nW, nA, nB, nC, nV] at a b c d e f
 simp [a, b, c, d, e, f]
/-- A term is made, if it is not there. -/
def mk (N : List Nd) (most : Int) (n : Nd) : Int × Int × List Nd := if n ∈ N then ((N.idxOf n : Nat), 0, N) else if most ≤ (N.length : Int) then (0, 8, N) else (N.length, 0, N ++ [n])
theorem nth_at {N : List Nd} {i : Nat} {n : Nd} (h : N[i]? = some n) : i < N.length ∧ nth N i = n := by
 have hi : i < N.length := by
  rcases Nat.lt_or_ge i N.length with q | q
  ·
   exact q
  ·
   rw [List.getElem?_eq_none q] at h; cases h
 exact ⟨hi, by unfold nth; rw [List.getD_eq_getElem?_getD, h]; rfl⟩
theorem idx_of {N : List Nd} (hN : N.Nodup) {i : Nat} {n : Nd} (h : N[i]? = some n) : N.idxOf n = i := by
 obtain ⟨hi, _⟩ := nth_at h
 rw [List.getElem?_eq_getElem hi] at h
 injection h with h
 rw [← h]
 exact hN.idxOf_getElem i hi
theorem mk_in {N : List Nd} (hN : N.Nodup) {most : Int} {i : Nat} {n : Nd} (h : N[i]? = some n) : mk N most n = (((i : Nat) : Int), 0, N) := by
 unfold mk
 rw [if_pos (List.mem_of_getElem? h), idx_of hN h]
theorem mk_full {N : List Nd} {most : Int} {n : Nd} (h : n ∉ N) (hm : most ≤ (N.length : Int)) : mk N most n = (0, 8, N) := by
 unfold mk
 rw [if_neg h, if_pos hm]
theorem mk_new {N : List Nd} {most : Int} {n : Nd} (h : n ∉ N) (hm : (N.length : Int) < most) : mk N most n = ((N.length : Int), 0, N ++ [n]) := by
 unfold mk
 rw [if_neg h, if_neg (by omega)]
/-- What the map of terms holds. -/
def atR (N : List Nd) : Value → Value → Prop := fun x y => ∃ (i : Nat) (n : Nd), N[i]? = some n ∧ x = nodeV n ∧ y = .int .i64 (i : Int)
theorem atR_push {N : List Nd} {n : Nd} (hn : n ∉ N) (x y : Value) : atR (N ++ [n]) x y ↔ (x ≠ nodeV n ∧ atR N x y) ∨ (x = nodeV n ∧ y = .int .i64 (N.length : Int)) := by
 constructor
 ·
  rintro ⟨i, m, h, rfl, rfl⟩
  rcases Nat.lt_or_ge i N.length with q | q
  ·
   rw [List.getElem?_append_left q] at h
   exact .inl ⟨fun e => hn (by rw [← nodeV_inj e]; exact List.mem_of_getElem? h), i, m, h, rfl, rfl⟩
  ·
   rw [List.getElem?_append_right q] at h
   have : i - N.length = 0 := by
    rcases Nat.eq_zero_or_pos (i - N.length) with z | z
    ·
     exact z
    ·
     rw [List.getElem?_eq_none (by simp only [List.length_cons, List.length_nil]; omega)] at h; cases h
   rw [this] at h
   injection h with h
   subst h
   exact .inr ⟨rfl, by rw [show i = N.length by omega]⟩
 ·
  rintro (⟨_, i, m, h, rfl, rfl⟩ | ⟨rfl, rfl⟩)
  ·
   obtain ⟨hi, _⟩ := nth_at h
   exact ⟨i, m, by rw [List.getElem?_append_left hi]; exact h, rfl, rfl⟩
  ·
   exact ⟨N.length, n, by simp, rfl, rfl⟩
/-- What the map of widths holds. -/
def wdR (N : List Nd) : Value → Value → Prop := fun x y => ∃ n, n ∈ N ∧ nO n = 21 ∧ x = .int .i64 (nA n) ∧ y = .int .i64 (nW n)
/-- Terms in memory, all of whose blocks are of F; the map of widths holds W. -/
def TLow (F : Nat → Prop) (w : World) (p : Nat) (most : Int) (N : List Nd) (W : Value → Value → Prop) : Prop :=
 ∃ A cp ma mw, Blk w p 74 [.slice A N.length cp, .map (some ma), .map (some mw), .int .i64 most] ∧ Own w 0 32 6 (.slice A N.length cp) N.length (ncs N) ∧ MapE Try.prog 32 w ma (atR N) ∧ MapE Try.prog 3 w mw W ∧ ma ≠ mw ∧ F p ∧ F ma ∧ F mw ∧ (∀ c, (Value.slice A N.length cp).ownBlock = some c → F c) ∧ (∀ b, F b → b < w.heap.size)
theorem TLow.tch {F S : Nat → Prop} {w w' : World} {p : Nat} {most : Int} {N : List Nd} {W : Value → Value → Prop} (h : TLow F w p most N W) (k : Tch S w w') (hs : ∀ b, F b → ¬ S b) : TLow F w' p most N W := by
 obtain ⟨A, cp, ma, mw, hP, hO, hM, hW, hne, fp, fa, fw, fA, hl⟩ := h
 exact ⟨A, cp, ma, mw, hP.tch k (hs p fp), hO.tch k (fun b hb => hs b (fA b hb)), hM.tch k (hs ma fa), hW.tch k (hs mw fw), hne, fp, fa, fw, fA, fun b hb => Nat.lt_of_lt_of_le (hl b hb) k.size⟩
theorem TLow.tch0 {F : Nat → Prop} {w w' : World} {p : Nat} {most : Int} {N : List Nd} {W : Value → Value → Prop} (h : TLow F w p most N W) (k : Tch N0 w w') : TLow F w' p most N W := h.tch k (fun _ _ e => e)
theorem TLow.tchS {F S : Nat → Prop} {w w' : World} {p : Nat} {most : Int} {N : List Nd} {W : Value → Value → Prop} (h : TLow F w p most N W) (k : Tch S w w') (hs : ∀ b, S b → ¬ F b) : TLow F w' p most N W := h.tch k (fun b hb e => hs b e hb)
theorem TLow.lt {F : Nat → Prop} {w : World} {p : Nat} {most : Int} {N : List Nd} {W : Value → Value → Prop} (h : TLow F w p most N W) : ∀ b, F b → b < w.heap.size := by
 obtain ⟨A, cp, ma, mw, hP, hO, hM, hW, hne, fp, fa, fw, fA, hl⟩ := h
 exact hl
theorem TLow.congr {F : Nat → Prop} {w : World} {p : Nat} {most : Int} {N : List Nd} {W W' : Value → Value → Prop} (h : TLow F w p most N W) (hW : ∀ x y, W' x y ↔ W x y) : TLow F w p most N W' := by
 obtain ⟨A, cp, ma, mw, hP, hO, hM, hW0, r⟩ := h
 exact ⟨A, cp, ma, mw, hP, hO, hM, hW0.congr hW, r⟩
/-- What holds of terms: each once, not too many, a variable's widths are one. -/
structure TI (N : List Nd) (most : Int) : Prop where
 nd : N.Nodup
 len : (N.length : Int) ≤ most
 most : most ≤ 65536
 wf : ∀ n, n ∈ N → nwf n
 wid : ∀ n m, n ∈ N → m ∈ N → nO n = 21 → nO m = 21 → nA n = nA m → nW n = nW m
def Mv (F F' : Nat → Prop) (w w' : World) : Prop := Tch F w w' ∧ ∀ b, F' b → F b ∨ w.heap.size ≤ b
theorem Mv.refl (F : Nat → Prop) (w : World) : Mv F F w w := ⟨Tch.refl _ _, fun b hb => .inl hb⟩
theorem Mv.trans {F F1 F2 : Nat → Prop} {w w1 w2 : World} (h : Mv F F1 w w1) (k : Mv F1 F2 w1 w2) : Mv F F2 w w2 :=
 ⟨h.1.trans k.1 (fun _ _ e => e) (fun b hb e => (h.2 b e).resolve_right (by omega)), fun b hb => (k.2 b hb).elim (fun e => h.2 b e) (fun e => .inr (Nat.le_trans h.1.size e))⟩
theorem Mv.same {F : Nat → Prop} {w w' : World} (h : Tch F w w') : Mv F F w w' := ⟨h, fun b hb => .inl hb⟩
theorem Mv.n0 {F : Nat → Prop} {w w' : World} (h : Tch N0 w w') : Mv F F w w' := .same (h.weaken (fun _ _ e => e.elim))
theorem Mv.then0 {F F' : Nat → Prop} {w w1 w2 : World} (h : Mv F F' w w1) (k : Tch N0 w1 w2) : Mv F F' w w2 := h.trans (.n0 k)
theorem Mv.newst {F F' : Nat → Prop} {w w1 w2 : World} {b : Nat} (h : Mv F F' w w1) (k : Tch (one b) w1 w2) (hb : w.heap.size ≤ b) : Mv F F' w w2 :=
 ⟨h.1.trans k (fun _ _ e => e) (fun c hc e => by have : c = b := e; omega), h.2⟩
theorem Mv.ge {F F' : Nat → Prop} {w0 w w' : World} (h : Mv F F' w w') (hF : ∀ b, F b → w0.heap.size ≤ b) (hz : w0.heap.size ≤ w.heap.size) : ∀ b, F' b → w0.heap.size ≤ b := fun b hb => (h.2 b hb).elim (hF b) (fun q => Nat.le_trans hz q)
/-! ### Keys -/
theorem keyT32 : Try.prog.keyTypeAt 3 32 = true := by kernel_rfl
theorem tiled32 : Try.prog.tiled 3 32 = true := by kernel_rfl
theorem key_law32 : Go.Maps.Keyed Try.prog 32 := .of_law (Go.deep_law (m := 3) (by omega) keyT32 tiled32 (by rw [Try.underlying32]))
theorem key_law3 : Go.Maps.Keyed Try.prog 3 := Go.Maps.int_keyed Try.underlying3
theorem cells3 : Try.prog.cellsOf 3 = 1 := by kernel_rfl
theorem cells30 : Try.prog.cellsOf 30 = 1 := by kernel_rfl
theorem cells32 : Try.prog.cellsOf 32 = 6 := by kernel_rfl
theorem keyT32' : Try.prog.keyType 32 = true := by kernel_rfl
theorem wf_i64 {x : Int} (h : b64 x) : (Lit.int .i64 x).wf = true := by
 unfold b64 at h
 simp only [Lit.wf, IntKind.min, IntKind.max, Bool.and_eq_true, decide_eq_true_eq]
 simp [IntKind.signed, IntKind.bits]
 omega
theorem wf_u64 {x : Int} (h : u64 x) : (Lit.int .u64 x).wf = true := by
 unfold u64 at h
 simp only [Lit.wf, IntKind.min, IntKind.max, Bool.and_eq_true, decide_eq_true_eq]
 simp [IntKind.signed, IntKind.bits]
 omega
theorem lits3 (m : Nat) (x : Int) (h : (Lit.int .i64 x).wf = true) : Try.prog.keyLits (m + 1) 3 [.int .i64 x] = some [.int .i64 x] := by
 simp [Program.keyLits, Try.underlying3, h]
theorem lits30 (m : Nat) (x : Int) (h : (Lit.int .u64 x).wf = true) : Try.prog.keyLits (m + 1) 30 [.int .u64 x] = some [.int .u64 x] := by
 simp [Program.keyLits, Try.underlying30, h]
theorem key_int {x : Int} (h : b64 x) : ∃ l, keyOf Try.prog 3 (.int .i64 x) = some l := ⟨_, Go.Maps.keyOf_int_mk Try.underlying3 (wf_i64 h)⟩
set_option maxRecDepth 100000 in
theorem key_nd {n : Nd} (h : nwf n) : ∃ l, keyOf Try.prog 32 (nodeV n) = some l := by
 obtain ⟨h0, h1, h2, h3, h4, h5⟩ := h
 have k0 := wf_i64 h0
 have k1 := wf_i64 h1
 have k2 := wf_i64 h2
 have k3 := wf_i64 h3
 have k4 := wf_i64 h4
 have k5 := wf_u64 h5
 obtain ⟨m, hm⟩ : ∃ m, Try.prog.types.size = m + 1 := ⟨_, rfl⟩
 have hf : (nodeV n).formed Try.prog 32 = true := by
  unfold nodeV Value.formed
  rw [Try.underlying32]
  simp [cells32, ncl]
 unfold keyOf
 rw [Try.underlying32]
 simp only [keyT32', hf, Bool.and_self, if_true, hm]
 unfold Program.keyLits
 rw [Try.underlying32]
 simp [nodeV, ncl, cells32, cells3, cells30, Value.cells, lits3, lits30, k0, k1, k2, k3, k4, k5]
end Go.Proofs.YtlbadnpgmkobdaaV

set_option linter.unusedVariables false
set_option linter.unusedSimpArgs false
namespace Go.Proofs.YtlbadnpgmkobdaaV
open Go Go.RowKit Go.Proofs
section
variable {ρ : Env} {w : World} {J : Env → World → Prop}
set_option maxRecDepth 100000 in
theorem S_lookT {d : Option Tmp} {m x : Operand} {ty : TypeId} {pos : String} {af : Array Edge} {g : Option (Nat × Bool)} (cm : Bool) {ma : Nat} {N : List Nd} (n : Nd) (hN : N.Nodup) (hwf : nwf n) (hm : evR ρ m = .map (some ma)) (hx : evR ρ x = nodeV n) (hM : MapE Try.prog 32 w ma (atR N))
  (h : ∀ (i : Nat) ok, (ok = true → N[i]? = some n) → (ok = false → n ∉ N) → J (updO ρ d (if cm then .tuple #[.int .i64 ((i : Nat) : Int), .bool ok] else .int .i64 ((i : Nat) : Int))) w) : Step Try.prog ⟨d, .lookup 71 m x cm, ty, pos, af, g⟩ ρ w J :=
 S_lookupE cm 32 3 (.int .i64 0) key_law32 (by kernel_rfl) (by kernel_rfl) hm hx (key_nd hwf) hM fun v ok hv => by
  rcases hv with ⟨rfl, i, m, h1, h2, rfl⟩ | ⟨rfl, rfl, h2⟩
  ·
   have := nodeV_inj h2
   subst this
   exact h i true (fun _ => h1) (fun e => by cases e)
  ·
   refine h 0 false (fun e => by cases e) (fun _ hn => ?_)
   obtain ⟨i, hi, e⟩ := List.getElem_of_mem hn
   exact h2 _ ⟨i, n, by rw [List.getElem?_eq_getElem hi, e], rfl, rfl⟩
set_option maxRecDepth 100000 in
theorem S_updT {d : Option Tmp} {m x y : Operand} {ty : TypeId} {pos : String} {af : Array Edge} {g : Option (Nat × Bool)} {ma : Nat} {N : List Nd} (n : Nd) (hn : n ∉ N) (hwf : nwf n) (hm : evR ρ m = .map (some ma)) (hx : evR ρ x = nodeV n) (hy : evR ρ y = .int .i64 (N.length : Int)) (hM : MapE Try.prog 32 w ma (atR N))
  (h : ∀ w1, Tch (one ma) w w1 → w1.heap.size = w.heap.size → MapE Try.prog 32 w1 ma (atR (N ++ [n])) → J (updO ρ d undef) w1) : Step Try.prog ⟨d, .mapUpdate 71 m x y, ty, pos, af, g⟩ ρ w J :=
 S_updateE 32 3 key_law32 (by kernel_rfl) hm hx hy (key_nd hwf) hM fun w1 T hs hM1 => h w1 T hs (hM1.congr (atR_push hn))
set_option maxRecDepth 100000 in
theorem S_lookW {d : Option Tmp} {m x : Operand} {ty : TypeId} {pos : String} {af : Array Edge} {g : Option (Nat × Bool)} {mw : Nat} {N : List Nd} (i : Int) (hi : b64 i) (hm : evR ρ m = .map (some mw)) (hx : evR ρ x = .int .i64 i) (hM : MapE Try.prog 3 w mw (wdR N))
  (h : ∀ (q : Int) ok, (ok = true → ∃ n, n ∈ N ∧ nO n = 21 ∧ nA n = i ∧ nW n = q) → (ok = false → ∀ n, n ∈ N → nO n = 21 → nA n ≠ i) → J (updO ρ d (.tuple #[.int .i64 q, .bool ok])) w) : Step Try.prog ⟨d, .lookup 72 m x true, ty, pos, af, g⟩ ρ w J :=
 S_lookupE true 3 3 (.int .i64 0) key_law3 (by kernel_rfl) (by kernel_rfl) hm hx (key_int hi) hM fun v ok hv => by
  rcases hv with ⟨rfl, n, h1, h2, h3, rfl⟩ | ⟨rfl, rfl, h2⟩
  ·
   injection h3 with _ h3
   exact h _ true (fun _ => ⟨n, h1, h2, h3.symm, rfl⟩) (fun e => by cases e)
  ·
   exact h 0 false (fun e => by cases e) (fun _ n hn ho e => h2 _ ⟨n, hn, ho, by rw [e], rfl⟩)
end
end Go.Proofs.YtlbadnpgmkobdaaV

set_option linter.unusedVariables false
set_option linter.unusedSimpArgs false
namespace Go.Proofs.YtlbadnpgmkobdaaV
open Go Go.RowKit Go.Proofs

set_option maxRecDepth 100000 in
theorem make_ok (F : Nat → Prop) (p : Nat) (most : Int) (N : List Nd) (W : Value → Value → Prop) (n : Nd) (w : World) (hL : TLow F w p most N W) (hI : TI N most) (hwf : nwf n) : Ret Try.prog 57 [.pointer (some ⟨p, 0, none⟩), .agg #[.int .i64 (nO n), .int .i64 (nW n), .int .i64 (nA n), .int .i64 (nB n), .int .i64 (nC n), .int .u64 (nV n)]] w fun v w' => v = .tuple #[.int .i64 (mk N most n).1, .int .i64 (mk N most n).2.1] ∧ ∃ F', TLow F' w' p most (mk N most n).2.2 W ∧ Mv F F' w w' := by
 obtain ⟨A, cp, ma, mw, hP, hO, hM, hW, hne, fp, fa, fw, fA, hlt⟩ := id hL
 have hMv := Mv.refl F w
 have hF0 := hlt
 have hlen := hI.len
 have hmost := hI.most
 refine enter Try.func57 rfl rfl ?_
 refine zQ ?_
 have hlt_ := hL.lt
 have hz5 := hMv.1.size
 have lt6 := hP.lt
 refine st (by rfl) (S_new (v := .pointer (some ⟨w.heap.size, 0, none⟩)) (ob := .cells #[.int .i64 (nO n), .int .i64 (nW n), .int .i64 (nA n), .int .i64 (nB n), .int .i64 (nC n), .int .u64 (nV n)] 32) (by kernel_rfl) fun w1 hT2 hs3 hB4 => ?_)
 replace hB4 : Blk w1 (w.heap.size) 32 [.int .i64 (nO n), .int .i64 (nW n), .int .i64 (nA n), .int .i64 (nB n), .int .i64 (nC n), .int .u64 (nV n)] := hB4
 have hL := hL.tch0 hT2
 have hP := hP.tch0 hT2
 have hO := hO.tch0 hT2
 have hM := hM.tch0 hT2
 have hW := hW.tch0 hT2
 have hlt := (fun b hb => Nat.lt_of_lt_of_le (hlt b hb) (hT2).size)
 have hMv := hMv.then0 hT2
 have nF_hB4 : ¬ F (w.heap.size) := fun e => by have := hlt_ _ e; omega
 refine zS [(4, .int .i64 0), (5, .int .i64 0)] ?_
 refine op_nil ?_
 refine W_seq ?_
 refine W_seq ?_
 refine W_draw (fun w' => Blk w' p 74 [.slice A N.length cp, .map (some ma), .map (some mw), .int .i64 most] ∧ Blk w' (w.heap.size) 32 [.int .i64 (nO n), .int .i64 (nW n), .int .i64 (nA n), .int .i64 (nB n), .int .i64 (nC n), .int .u64 (nV n)]) (by kernel_rfl) (by kernel_rfl) (by kernel_rfl) fun w7 hT8 hh9 => ?_
 have hL := hL.tch0 hT8
 have hP := hP.tch0 hT8
 have hO := hO.tch0 hT8
 have hM := hM.tch0 hT8
 have hW := hW.tch0 hT8
 have hlt := (fun b hb => Nat.lt_of_lt_of_le (hlt b hb) (hT8).size)
 have hMv := hMv.then0 hT8
 have hB4 := hB4.tch0 hT8
 refine zK [0, 1, 2] #[true, true, true, false, false, false, false, false, false, false, false] [(9, .pointer (some ⟨p, 0, none⟩)), (10, .pointer (some ⟨p, 0, none⟩)), (11, .pointer (some ⟨p, 1, none⟩))] ⟨hP, hB4⟩ ?_
 refine zV 3 rfl (.map (some ma)) (fun _ ⟨hP, hB4⟩ => R_load (v := .map (some ma)) (by kernel_rfl) (by kernel_rfl) ((hP.cell 1).trans rfl)) ⟨hP, hB4⟩ ?_
 refine zV 4 rfl (.agg #[.int .i64 (nO n), .int .i64 (nW n), .int .i64 (nA n), .int .i64 (nB n), .int .i64 (nC n), .int .u64 (nV n)]) (fun _ ⟨hP, hB4⟩ => R_loadA [.int .i64 (nO n), .int .i64 (nW n), .int .i64 (nA n), .int .i64 (nB n), .int .i64 (nC n), .int .u64 (nV n)] (by kernel_rfl) (by kernel_rfl) (by kernel_rfl) (fun k u hk => by rw [hB4.cell]; exact get_part _ 0 _ k u rfl hk)) ⟨hP, hB4⟩ ?_
 refine zD 5 rfl (S_lookT true n hI.nd hwf (by kernel_rfl) (by kernel_rfl) hM fun i10 ok11 h112 h213 => ?_)
 refine ⟨⟨hP, hB4⟩, ?_⟩
 refine zK [6, 7, 8, 9, 10] #[true, true, true, true, true, true, true, true, true, true, true] [(8, .tuple #[.int .i64 ((i10 : Nat) : Int), .bool ok11]), (15, .int .i64 ((i10 : Nat) : Int)), (16, .bool ok11), (6, .int .i64 ((i10 : Nat) : Int)), (7, .bool ok11)] ⟨hP, hB4⟩ ?_
 refine d_done (by kernel_rfl) ?_
 refine W_seq ?_
 refine zF [(0, .pointer (some ⟨p, 0, none⟩)), (1, .agg #[.int .i64 (nO n), .int .i64 (nW n), .int .i64 (nA n), .int .i64 (nB n), .int .i64 (nC n), .int .u64 (nV n)]), (3, .pointer (some ⟨w.heap.size, 0, none⟩)), (4, .int .i64 0), (5, .int .i64 0), (6, .int .i64 ((i10 : Nat) : Int)), (7, .bool ok11)] fun ρ => ?_
 refine zR ?_
 refine zS [(17, .bool ok11)] ?_
 refine zO (ok11) (fun hc14 => ?_) (fun hc14 => ?_)
 ·
  replace hc14 : ok11 = true := (hc14)
  refine zQ ?_
  refine zS [(18, .int .i64 ((i10 : Nat) : Int)), (4, .int .i64 ((i10 : Nat) : Int)), (5, .int .i64 0)] ?_
  refine op_nil ?_
  refine W_ret ?_
  exact ⟨_, Res_of (v := .tuple #[.int .i64 ((i10 : Nat) : Int), .int .i64 0]) (by kernel_rfl), (by rw [mk_in hI.nd (h112 (by assumption))]; exact ⟨rfl, F, hL, hMv⟩)⟩
 ·
  replace hc14 : ok11 = false := (hc14)
  refine W_skip ?_
  refine W_seq ?_
  refine W_seq ?_
  refine W_draw (fun w' => Blk w' p 74 [.slice A N.length cp, .map (some ma), .map (some mw), .int .i64 most] ∧ Blk w' (w.heap.size) 32 [.int .i64 (nO n), .int .i64 (nW n), .int .i64 (nA n), .int .i64 (nB n), .int .i64 (nC n), .int .u64 (nV n)]) (by kernel_rfl) (by kernel_rfl) (by kernel_rfl) fun w15 hT16 hh17 => ?_
  have hL := hL.tch0 hT16
  have hP := hP.tch0 hT16
  have hO := hO.tch0 hT16
  have hM := hM.tch0 hT16
  have hW := hW.tch0 hT16
  have hlt := (fun b hb => Nat.lt_of_lt_of_le (hlt b hb) (hT16).size)
  have hMv := hMv.then0 hT16
  have hB4 := hB4.tch0 hT16
  refine zK [0, 5, 1, 6, 2, 7] #[true, true, true, false, false, true, true, true, false, false] [(19, .pointer (some ⟨p, 0, none⟩)), (24, .pointer (some ⟨p, 0, none⟩)), (20, .pointer (some ⟨p, 0, none⟩)), (25, .pointer (some ⟨p, 0, none⟩)), (21, .pointer (some ⟨p, 0, none⟩)), (26, .pointer (some ⟨p, 3, none⟩))] ⟨hP, hB4⟩ ?_
  refine zV 3 rfl (.slice A N.length cp) (fun _ ⟨hP, hB4⟩ => R_load (v := .slice A N.length cp) (by kernel_rfl) (by kernel_rfl) ((hP.cell 0).trans rfl)) ⟨hP, hB4⟩ ?_
  refine zK [4] #[true, true, true, true, true, true, true, true, false, false] [(23, .int .i64 (N.length : Int))] ⟨hP, hB4⟩ ?_
  refine zV 8 rfl (.int .i64 most) (fun _ ⟨hP, hB4⟩ => R_load (v := .int .i64 most) (by kernel_rfl) (by kernel_rfl) ((hP.cell 3).trans rfl)) ⟨hP, hB4⟩ ?_
  refine zK [9] #[true, true, true, true, true, true, true, true, true, true] [(28, .bool (decide ((N.length : Int) ≥ most)))] ⟨hP, hB4⟩ ?_
  refine d_done (by kernel_rfl) ?_
  refine zW (decide ((N.length : Int) ≥ most)) (fun hc18 => ?_) (fun hc18 => ?_)
  ·
   replace hc18 : most ≤ (N.length : Int) := (of_decide_eq_true hc18)
   refine W_seq ?_
   refine zF [(0, .pointer (some ⟨p, 0, none⟩)), (1, .agg #[.int .i64 (nO n), .int .i64 (nW n), .int .i64 (nA n), .int .i64 (nB n), .int .i64 (nC n), .int .u64 (nV n)]), (3, .pointer (some ⟨w.heap.size, 0, none⟩)), (4, .int .i64 0), (5, .int .i64 0), (6, .int .i64 ((i10 : Nat) : Int)), (7, .bool ok11), (17, .bool ok11), (28, .bool (decide ((N.length : Int) ≥ most)))] fun ρ => ?_
   refine zR ?_
   refine zS [(4, .int .i64 0), (5, .int .i64 8)] ?_
   refine op_nil ?_
   refine W_ret ?_
   exact ⟨_, Res_of (v := .tuple #[.int .i64 0, .int .i64 8]) (by kernel_rfl), (by rw [mk_full (h213 (by assumption)) (by omega)]; exact ⟨rfl, F, hL, hMv⟩)⟩
  ·
   replace hc18 : (N.length : Int) < most := (Int.not_le.1 (of_decide_eq_false hc18))
   refine W_skip ?_
   refine W_seq ?_
   refine zF [(0, .pointer (some ⟨p, 0, none⟩)), (1, .agg #[.int .i64 (nO n), .int .i64 (nW n), .int .i64 (nA n), .int .i64 (nB n), .int .i64 (nC n), .int .u64 (nV n)]), (3, .pointer (some ⟨w.heap.size, 0, none⟩)), (4, .int .i64 0), (5, .int .i64 0), (6, .int .i64 ((i10 : Nat) : Int)), (7, .bool ok11), (17, .bool ok11), (28, .bool (decide ((N.length : Int) ≥ most)))] fun ρ => ?_
   refine W_drawT (fun w' => Blk w' p 74 [.slice A N.length cp, .map (some ma), .map (some mw), .int .i64 most] ∧ Blk w' (w.heap.size) 32 [.int .i64 (nO n), .int .i64 (nW n), .int .i64 (nA n), .int .i64 (nB n), .int .i64 (nC n), .int .u64 (nV n)]) 10 (by kernel_rfl) (by kernel_rfl) (by kernel_rfl) fun w19 hT20 hh21 => ?_
   have hL := hL.tch0 hT20
   have hP := hP.tch0 hT20
   have hO := hO.tch0 hT20
   have hM := hM.tch0 hT20
   have hW := hW.tch0 hT20
   have hlt := (fun b hb => Nat.lt_of_lt_of_le (hlt b hb) (hT20).size)
   have hMv := hMv.then0 hT20
   have hB4 := hB4.tch0 hT20
   refine ttk [0, 5, 1, 6, 2, 7] #[true, true, true, false, false, true, true, true, false, false, false] [(29, .pointer (some ⟨p, 0, none⟩)), (34, .pointer (some ⟨p, 0, none⟩)), (30, .pointer (some ⟨p, 0, none⟩)), (35, .pointer (some ⟨p, 0, none⟩)), (31, .pointer (some ⟨p, 1, none⟩)), (36, .pointer (some ⟨p, 0, none⟩))] ⟨hP, hB4⟩ (by kernel_rfl) ?_
   refine t_val (v := .map (some ma)) 3 (by kernel_rfl) (by rfl) (by kernel_rfl) (by kernel_rfl) (by kernel_rfl) (fun w' hs => by obtain ⟨hP, hB4⟩ := hs; exact R_load (v := .map (some ma)) (by kernel_rfl) (by kernel_rfl) ((hP.cell 1).trans rfl)) ⟨hP, hB4⟩ ?_
   refine t_val (v := .agg #[.int .i64 (nO n), .int .i64 (nW n), .int .i64 (nA n), .int .i64 (nB n), .int .i64 (nC n), .int .u64 (nV n)]) 4 (by kernel_rfl) (by rfl) (by kernel_rfl) (by kernel_rfl) (by kernel_rfl) (fun w' hs => by obtain ⟨hP, hB4⟩ := hs; exact R_loadA [.int .i64 (nO n), .int .i64 (nW n), .int .i64 (nA n), .int .i64 (nB n), .int .i64 (nC n), .int .u64 (nV n)] (by kernel_rfl) (by kernel_rfl) (by kernel_rfl) (fun k u hk => by rw [hB4.cell]; exact get_part _ 0 _ k u rfl hk)) ⟨hP, hB4⟩ ?_
   refine t_val (v := .slice A N.length cp) 8 (by kernel_rfl) (by rfl) (by kernel_rfl) (by kernel_rfl) (by kernel_rfl) (fun w' hs => by obtain ⟨hP, hB4⟩ := hs; exact R_load (v := .slice A N.length cp) (by kernel_rfl) (by kernel_rfl) ((hP.cell 0).trans rfl)) ⟨hP, hB4⟩ ?_
   refine ttk [9] #[true, true, true, true, true, true, true, true, true, true, false] [(38, .int .i64 (N.length : Int))] ⟨hP, hB4⟩ (by kernel_rfl) ?_
   have hnn := h213 (by assumption)
   refine t_one 10 (by kernel_rfl) (by rfl) (by kernel_rfl) (S_updT n hnn hwf (by kernel_rfl) (by kernel_rfl) (by kernel_rfl) hM fun w22 hT23 hs24 hM1 => ?_)
   have hP := hP.tch hT23 (fun e => hM.ne hP (Eq.symm e))
   have hO := hO.tch hT23 (fun c hc e => hO.ne_mapE hM c hc e)
   have hW := hW.tch hT23 (fun e => hne (Eq.symm e))
   have hB4 := hB4.tch hT23 (fun e => hM.ne hB4 (Eq.symm e))
   have hMv := hMv.trans (.same (hT23.weaken (fun b _ e => by have : b = ma := e; rw [this]; exact fa)))
   have hM := hM1
   have hlt : ∀ b, F b → b < w22.heap.size := fun b hb => by rw [hs24]; exact hlt b hb
   have hN2 : (N ++ [n]).Nodup := List.nodup_append.2 ⟨hI.nd, by simp, fun a ha b hb => by simp at hb; rw [hb]; exact fun e => hnn (e ▸ ha)⟩
   refine ⟨fun h => absurd h (by decide), ?_⟩
   refine t_done (by kernel_rfl) ?_
   refine W_seq ?_
   refine zF [(0, .pointer (some ⟨p, 0, none⟩)), (1, .agg #[.int .i64 (nO n), .int .i64 (nW n), .int .i64 (nA n), .int .i64 (nB n), .int .i64 (nC n), .int .u64 (nV n)]), (3, .pointer (some ⟨w.heap.size, 0, none⟩)), (4, .int .i64 0), (5, .int .i64 0), (6, .int .i64 ((i10 : Nat) : Int)), (7, .bool ok11), (17, .bool ok11), (28, .bool (decide ((N.length : Int) ≥ most)))] fun ρ => ?_
   refine W_drawT (fun w' => Blk w' (w.heap.size) 32 [.int .i64 (nO n), .int .i64 (nW n), .int .i64 (nA n), .int .i64 (nB n), .int .i64 (nC n), .int .u64 (nV n)]) 10 (by kernel_rfl) (by kernel_rfl) (by kernel_rfl) fun w25 hT26 hh27 => ?_
   have hP := hP.tch0 hT26
   have hO := hO.tch0 hT26
   have hM := hM.tch0 hT26
   have hW := hW.tch0 hT26
   have hlt := (fun b hb => Nat.lt_of_lt_of_le (hlt b hb) (hT26).size)
   have hMv := hMv.then0 hT26
   have hB4 := hB4.tch0 hT26
   refine ttk [0, 1, 2, 3] #[true, true, true, true, false, false, false, false, false, false, false] [(39, .pointer (some ⟨p, 0, none⟩)), (40, .pointer (some ⟨p, 0, none⟩)), (41, .pointer (some ⟨p, 0, none⟩)), (42, .pointer (some ⟨p, 0, none⟩))] hB4 (by kernel_rfl) ?_
   refine t_val (v := .agg #[.int .i64 (nO n), .int .i64 (nW n), .int .i64 (nA n), .int .i64 (nB n), .int .i64 (nC n), .int .u64 (nV n)]) 5 (by kernel_rfl) (by rfl) (by kernel_rfl) (by kernel_rfl) (by kernel_rfl) (fun w' hs => by have hB4 := hs; exact R_loadA [.int .i64 (nO n), .int .i64 (nW n), .int .i64 (nA n), .int .i64 (nB n), .int .i64 (nC n), .int .u64 (nV n)] (by kernel_rfl) (by kernel_rfl) (by kernel_rfl) (fun k u hk => by rw [hB4.cell]; exact get_part _ 0 _ k u rfl hk)) hB4 ?_
   refine t_two 4 6 (by kernel_rfl) (by rfl) (by rfl) (by kernel_rfl) (by kernel_rfl) ?_ ?_
   ·
    refine (S_val (v := .slice A N.length cp) (R_load (v := .slice A N.length cp) (by kernel_rfl) (by kernel_rfl) ((hP.cell 0).trans rfl)) ?_)
    refine ⟨fun _ => hB4, ?_⟩
    have hz32 := hMv.1.size
    have lt33 := hP.lt
    have lt34 := hB4.lt
    refine t_one 6 (by kernel_rfl) (by rfl) (by kernel_rfl) (S_new (v := .slice (some ⟨w25.heap.size, 0, none⟩) 1 1) (ob := .cells #[.int .i64 (nO n), .int .i64 (nW n), .int .i64 (nA n), .int .i64 (nB n), .int .i64 (nC n), .int .u64 (nV n)] 32) (by kernel_rfl) fun w28 hT29 hs30 hB31 => ?_)
    replace hB31 : Blk w28 (w25.heap.size) 32 [.int .i64 (nO n), .int .i64 (nW n), .int .i64 (nA n), .int .i64 (nB n), .int .i64 (nC n), .int .u64 (nV n)] := hB31
    have hP := hP.tch0 hT29
    have hO := hO.tch0 hT29
    have hM := hM.tch0 hT29
    have hW := hW.tch0 hT29
    have hlt := (fun b hb => Nat.lt_of_lt_of_le (hlt b hb) (hT29).size)
    have hMv := hMv.then0 hT29
    have hB4 := hB4.tch0 hT29
    refine ⟨fun _ => hB4, ?_⟩
    have lO := hO.lt
    refine t_one 7 (by kernel_rfl) (by rfl) (by kernel_rfl) (S_appendR 25 32 (.agg #[.int .i64 0, .int .i64 0, .int .i64 0, .int .i64 0, .int .i64 0, .int .u64 0]) 6 48 (n := N.length) (m := 1) (A := A) (cp := cp) (cells := ncs N) (news := ncl n) (b := w25.heap.size) (off := 0) (c := 1) (by kernel_rfl) (by kernel_rfl) (by decide) (by kernel_rfl) (by kernel_rfl) (by kernel_rfl) hO (by rfl) (fun k u hk => by rw [Nat.zero_add, hB31.cell]; exact hk) (by simp [oneV, ncl]) (by simp only [maxLen]; omega) (by omega) fun A2 cp2 w35 hO2 hw2 hT36 => ?_)
    have fg : ∀ c, (Value.slice A2 (N.length + 1) cp2).ownBlock = some c → F c ∨ w.heap.size ≤ c := fun c hc => (hw2 c hc).imp (fA c) (fun e => by have := hMv.1.size; omega)
    have hP := hP.tch hT36 (fun e => hO.blk_ne hP (by decide) _ e rfl)
    have hM := hM.tch hT36 (fun e => hO.ne_mapE hM _ e rfl)
    have hW := hW.tch hT36 (fun e => hO.ne_mapE hW _ e rfl)
    have hB4 := hB4.tch hT36 (fun e => nF_hB4 (fA _ e))
    have hMv := hMv.trans (.same (hT36.weaken (fun b _ e => fA b e)))
    have hO : Own w35 0 32 6 (.slice A2 (N.length + 1) cp2) (N.length + 1) (ncs (N ++ [n])) := by rw [ncs_app]; exact hO2
    refine ⟨fun _ => hB4, ?_⟩
    refine t_one 8 (by kernel_rfl) (by rfl) (by kernel_rfl) (S_val (v := .pointer (some ⟨p, 0, none⟩)) (plainV_run (by kernel_rfl) _) ?_)
    refine ⟨fun _ => hB4, ?_⟩
    refine ttk [9] #[true, true, true, true, true, true, true, true, true, true, false] [(48, .pointer (some ⟨p, 0, none⟩))] hB4 (by kernel_rfl) ?_
    refine t_one 10 (by kernel_rfl) (by rfl) (by kernel_rfl) (S_store (b := p) (j := 0) (v := .slice A2 (N.length + 1) cp2) (by kernel_rfl) (by kernel_rfl) (by kernel_rfl) (by rfl) hP (by simp) fun w37 hT38 hs39 hP' => ?_)
    have hO := hO.tch hT38 (fun c hc e => hO.blk_ne hP (by decide) c hc e)
    have hM := hM.tch hT38 (fun e => hM.ne hP e)
    have hW := hW.tch hT38 (fun e => hW.ne hP e)
    have hMv := hMv.trans (.same ((hT38).weaken (fun b _ e => by have : b = p := e; rw [this]; exact fp)))
    have hB4 := hB4.tch hT38 (hB4.ne hP (by decide))
    replace hP : Blk w37 p 74 [.slice A2 (N.length + 1) cp2, .map (some ma), .map (some mw), .int .i64 most] := hP'
    refine ⟨fun h => absurd h (by decide), ?_⟩
    refine t_done (by kernel_rfl) ?_
    refine W_seq ?_
    refine zF [(0, .pointer (some ⟨p, 0, none⟩)), (1, .agg #[.int .i64 (nO n), .int .i64 (nW n), .int .i64 (nA n), .int .i64 (nB n), .int .i64 (nC n), .int .u64 (nV n)]), (3, .pointer (some ⟨w.heap.size, 0, none⟩)), (4, .int .i64 0), (5, .int .i64 0), (6, .int .i64 ((i10 : Nat) : Int)), (7, .bool ok11), (17, .bool ok11), (28, .bool (decide ((N.length : Int) ≥ most)))] fun ρ => ?_
    refine W_draw (fun w' => Blk w' (p) 74 [.slice A2 (N.length + 1) cp2, .map (some ma), .map (some mw), .int .i64 most] ∧ Blk w' (w.heap.size) 32 [.int .i64 (nO n), .int .i64 (nW n), .int .i64 (nA n), .int .i64 (nB n), .int .i64 (nC n), .int .u64 (nV n)]) (by kernel_rfl) (by kernel_rfl) (by kernel_rfl) fun w40 hT41 hh42 => ?_
    have hP := hP.tch0 hT41
    have hO := hO.tch0 hT41
    have hM := hM.tch0 hT41
    have hW := hW.tch0 hT41
    have hMv := hMv.then0 hT41
    have hB4 := hB4.tch0 hT41
    refine zK [0, 1, 2] #[true, true, true, false, false, false, false, false] [(49, .pointer (some ⟨p, 0, none⟩)), (50, .pointer (some ⟨p, 0, none⟩)), (51, .pointer (some ⟨p, 1, none⟩))] ⟨hP, hB4⟩ ?_
    refine zV 3 rfl (.map (some ma)) (fun _ ⟨hP, hB4⟩ => R_load (v := .map (some ma)) (by kernel_rfl) (by kernel_rfl) ((hP.cell 1).trans rfl)) ⟨hP, hB4⟩ ?_
    refine zV 4 rfl (.agg #[.int .i64 (nO n), .int .i64 (nW n), .int .i64 (nA n), .int .i64 (nB n), .int .i64 (nC n), .int .u64 (nV n)]) (fun _ ⟨hP, hB4⟩ => R_loadA [.int .i64 (nO n), .int .i64 (nW n), .int .i64 (nA n), .int .i64 (nB n), .int .i64 (nC n), .int .u64 (nV n)] (by kernel_rfl) (by kernel_rfl) (by kernel_rfl) (fun k u hk => by rw [hB4.cell]; exact get_part _ 0 _ k u rfl hk)) ⟨hP, hB4⟩ ?_
    refine zD 5 rfl (S_lookT false n hN2 hwf (by kernel_rfl) (by kernel_rfl) hM fun i43 ok44 h145 h246 => ?_)
    have hi9 : i43 = N.length := by cases ok44 with
      | true => exact (idx_of hN2 (h145 rfl)).symm.trans (idx_of hN2 (show (N ++ [n])[N.length]? = some n by simp))
      | false => exact absurd (List.mem_append.2 (.inr (List.mem_singleton.2 rfl))) (h246 rfl)
    subst hi9
    refine ⟨⟨hP, hB4⟩, ?_⟩
    refine zK [6, 7] #[true, true, true, true, true, true, true, true] [(4, .int .i64 ((N.length : Nat) : Int)), (5, .int .i64 0)] ⟨hP, hB4⟩ ?_
    refine d_done (by kernel_rfl) ?_
    refine W_ret ?_
    refine ⟨_, Res_of (v := .tuple #[.int .i64 ((N.length : Nat) : Int), .int .i64 0]) (by kernel_rfl), ?_⟩
    rw [mk_new hnn (by omega)]
    refine ⟨rfl, fun b => F b ∨ (Value.slice A2 (N.length + 1) cp2).ownBlock = some b, ⟨A2, cp2, ma, mw, ?_, ?_, hM, hW, hne, .inl fp, .inl fa, .inl fw, ?_, ?_⟩, ⟨hMv.1, ?_⟩⟩
    ·
     rw [List.length_append]; exact hP
    ·
     rw [List.length_append]; exact hO
    ·
     rw [List.length_append]; exact fun c hc => .inr hc
    ·
     rintro b (hb | hb)
     ·
      exact Nat.lt_of_lt_of_le (hF0 b hb) hMv.1.size
     ·
      exact hO.lt b hb
    ·
     rintro b (hb | hb)
     ·
      exact .inl hb
     ·
      exact fg b hb
   ·
    have hz51 := hMv.1.size
    have lt52 := hP.lt
    have lt53 := hB4.lt
    refine (S_new (v := .slice (some ⟨w25.heap.size, 0, none⟩) 1 1) (ob := .cells #[.int .i64 (nO n), .int .i64 (nW n), .int .i64 (nA n), .int .i64 (nB n), .int .i64 (nC n), .int .u64 (nV n)] 32) (by kernel_rfl) fun w47 hT48 hs49 hB50 => ?_)
    replace hB50 : Blk w47 (w25.heap.size) 32 [.int .i64 (nO n), .int .i64 (nW n), .int .i64 (nA n), .int .i64 (nB n), .int .i64 (nC n), .int .u64 (nV n)] := hB50
    have hP := hP.tch0 hT48
    have hO := hO.tch0 hT48
    have hM := hM.tch0 hT48
    have hW := hW.tch0 hT48
    have hlt := (fun b hb => Nat.lt_of_lt_of_le (hlt b hb) (hT48).size)
    have hMv := hMv.then0 hT48
    have hB4 := hB4.tch0 hT48
    refine ⟨fun _ => hB4, ?_⟩
    refine t_one 4 (by kernel_rfl) (by rfl) (by kernel_rfl) (S_val (v := .slice A N.length cp) (R_load (v := .slice A N.length cp) (by kernel_rfl) (by kernel_rfl) ((hP.cell 0).trans rfl)) ?_)
    refine ⟨fun _ => hB4, ?_⟩
    have lO := hO.lt
    refine t_one 7 (by kernel_rfl) (by rfl) (by kernel_rfl) (S_appendR 25 32 (.agg #[.int .i64 0, .int .i64 0, .int .i64 0, .int .i64 0, .int .i64 0, .int .u64 0]) 6 48 (n := N.length) (m := 1) (A := A) (cp := cp) (cells := ncs N) (news := ncl n) (b := w25.heap.size) (off := 0) (c := 1) (by kernel_rfl) (by kernel_rfl) (by decide) (by kernel_rfl) (by kernel_rfl) (by kernel_rfl) hO (by rfl) (fun k u hk => by rw [Nat.zero_add, hB50.cell]; exact hk) (by simp [oneV, ncl]) (by simp only [maxLen]; omega) (by omega) fun A2 cp2 w54 hO2 hw2 hT55 => ?_)
    have fg : ∀ c, (Value.slice A2 (N.length + 1) cp2).ownBlock = some c → F c ∨ w.heap.size ≤ c := fun c hc => (hw2 c hc).imp (fA c) (fun e => by have := hMv.1.size; omega)
    have hP := hP.tch hT55 (fun e => hO.blk_ne hP (by decide) _ e rfl)
    have hM := hM.tch hT55 (fun e => hO.ne_mapE hM _ e rfl)
    have hW := hW.tch hT55 (fun e => hO.ne_mapE hW _ e rfl)
    have hB4 := hB4.tch hT55 (fun e => nF_hB4 (fA _ e))
    have hMv := hMv.trans (.same (hT55.weaken (fun b _ e => fA b e)))
    have hO : Own w54 0 32 6 (.slice A2 (N.length + 1) cp2) (N.length + 1) (ncs (N ++ [n])) := by rw [ncs_app]; exact hO2
    refine ⟨fun _ => hB4, ?_⟩
    refine t_one 8 (by kernel_rfl) (by rfl) (by kernel_rfl) (S_val (v := .pointer (some ⟨p, 0, none⟩)) (plainV_run (by kernel_rfl) _) ?_)
    refine ⟨fun _ => hB4, ?_⟩
    refine ttk [9] #[true, true, true, true, true, true, true, true, true, true, false] [(48, .pointer (some ⟨p, 0, none⟩))] hB4 (by kernel_rfl) ?_
    refine t_one 10 (by kernel_rfl) (by rfl) (by kernel_rfl) (S_store (b := p) (j := 0) (v := .slice A2 (N.length + 1) cp2) (by kernel_rfl) (by kernel_rfl) (by kernel_rfl) (by rfl) hP (by simp) fun w56 hT57 hs58 hP' => ?_)
    have hO := hO.tch hT57 (fun c hc e => hO.blk_ne hP (by decide) c hc e)
    have hM := hM.tch hT57 (fun e => hM.ne hP e)
    have hW := hW.tch hT57 (fun e => hW.ne hP e)
    have hMv := hMv.trans (.same ((hT57).weaken (fun b _ e => by have : b = p := e; rw [this]; exact fp)))
    have hB4 := hB4.tch hT57 (hB4.ne hP (by decide))
    replace hP : Blk w56 p 74 [.slice A2 (N.length + 1) cp2, .map (some ma), .map (some mw), .int .i64 most] := hP'
    refine ⟨fun h => absurd h (by decide), ?_⟩
    refine t_done (by kernel_rfl) ?_
    refine W_seq ?_
    refine zF [(0, .pointer (some ⟨p, 0, none⟩)), (1, .agg #[.int .i64 (nO n), .int .i64 (nW n), .int .i64 (nA n), .int .i64 (nB n), .int .i64 (nC n), .int .u64 (nV n)]), (3, .pointer (some ⟨w.heap.size, 0, none⟩)), (4, .int .i64 0), (5, .int .i64 0), (6, .int .i64 ((i10 : Nat) : Int)), (7, .bool ok11), (17, .bool ok11), (28, .bool (decide ((N.length : Int) ≥ most)))] fun ρ => ?_
    refine W_draw (fun w' => Blk w' (p) 74 [.slice A2 (N.length + 1) cp2, .map (some ma), .map (some mw), .int .i64 most] ∧ Blk w' (w.heap.size) 32 [.int .i64 (nO n), .int .i64 (nW n), .int .i64 (nA n), .int .i64 (nB n), .int .i64 (nC n), .int .u64 (nV n)]) (by kernel_rfl) (by kernel_rfl) (by kernel_rfl) fun w59 hT60 hh61 => ?_
    have hP := hP.tch0 hT60
    have hO := hO.tch0 hT60
    have hM := hM.tch0 hT60
    have hW := hW.tch0 hT60
    have hMv := hMv.then0 hT60
    have hB4 := hB4.tch0 hT60
    refine zK [0, 1, 2] #[true, true, true, false, false, false, false, false] [(49, .pointer (some ⟨p, 0, none⟩)), (50, .pointer (some ⟨p, 0, none⟩)), (51, .pointer (some ⟨p, 1, none⟩))] ⟨hP, hB4⟩ ?_
    refine zV 3 rfl (.map (some ma)) (fun _ ⟨hP, hB4⟩ => R_load (v := .map (some ma)) (by kernel_rfl) (by kernel_rfl) ((hP.cell 1).trans rfl)) ⟨hP, hB4⟩ ?_
    refine zV 4 rfl (.agg #[.int .i64 (nO n), .int .i64 (nW n), .int .i64 (nA n), .int .i64 (nB n), .int .i64 (nC n), .int .u64 (nV n)]) (fun _ ⟨hP, hB4⟩ => R_loadA [.int .i64 (nO n), .int .i64 (nW n), .int .i64 (nA n), .int .i64 (nB n), .int .i64 (nC n), .int .u64 (nV n)] (by kernel_rfl) (by kernel_rfl) (by kernel_rfl) (fun k u hk => by rw [hB4.cell]; exact get_part _ 0 _ k u rfl hk)) ⟨hP, hB4⟩ ?_
    refine zD 5 rfl (S_lookT false n hN2 hwf (by kernel_rfl) (by kernel_rfl) hM fun i62 ok63 h164 h265 => ?_)
    have hi9 : i62 = N.length := by cases ok63 with
      | true => exact (idx_of hN2 (h164 rfl)).symm.trans (idx_of hN2 (show (N ++ [n])[N.length]? = some n by simp))
      | false => exact absurd (List.mem_append.2 (.inr (List.mem_singleton.2 rfl))) (h265 rfl)
    subst hi9
    refine ⟨⟨hP, hB4⟩, ?_⟩
    refine zK [6, 7] #[true, true, true, true, true, true, true, true] [(4, .int .i64 ((N.length : Nat) : Int)), (5, .int .i64 0)] ⟨hP, hB4⟩ ?_
    refine d_done (by kernel_rfl) ?_
    refine W_ret ?_
    refine ⟨_, Res_of (v := .tuple #[.int .i64 ((N.length : Nat) : Int), .int .i64 0]) (by kernel_rfl), ?_⟩
    rw [mk_new hnn (by omega)]
    refine ⟨rfl, fun b => F b ∨ (Value.slice A2 (N.length + 1) cp2).ownBlock = some b, ⟨A2, cp2, ma, mw, ?_, ?_, hM, hW, hne, .inl fp, .inl fa, .inl fw, ?_, ?_⟩, ⟨hMv.1, ?_⟩⟩
    ·
     rw [List.length_append]; exact hP
    ·
     rw [List.length_append]; exact hO
    ·
     rw [List.length_append]; exact fun c hc => .inr hc
    ·
     rintro b (hb | hb)
     ·
      exact Nat.lt_of_lt_of_le (hF0 b hb) hMv.1.size
     ·
      exact hO.lt b hb
    ·
     rintro b (hb | hb)
     ·
      exact .inl hb
     ·
      exact fg b hb

end Go.Proofs.YtlbadnpgmkobdaaV

set_option linter.unusedVariables false
set_option linter.unusedSimpArgs false
namespace Go.Proofs.YtlbadnpgmkobdaaV
open Go Go.RowKit Go.Proofs
theorem Own.rdS {w : World} {base e sz n : Nat} {A : Option Addr} {cp : Nat} {cells : List Value} (h : Own w base e sz (.slice A n cp) n cells) : RdW w sz n A cells := by
 obtain ⟨A', c', e, hr⟩ := h.rd
 injection e with e1 e2 e3
 subst e1; exact hr
/-- One of some is no term. -/
def badT (k : Nat) (l : List Int) : Bool := l.any (fun x => decide (x < 0 ∨ (k : Int) ≤ x))
theorem gmemI {l : List Int} {i : Nat} (h : i < l.length) : l.getD i 0 ∈ l := by
 rw [List.getD_eq_getElem?_getD, List.getElem?_eq_getElem h]; exact List.getElem_mem h
theorem badT_t {n : Nat} {l : List Int} {i : Nat} (hi : i < l.length) (h : l.getD i 0 < 0 ∨ (n : Int) ≤ l.getD i 0) : true = badT n l := by
 symm; unfold badT; rw [List.any_eq_true]
 exact ⟨_, gmemI hi, decide_eq_true h⟩
theorem badT_f {n : Nat} {l : List Int} {i : Nat} (hi : l.length ≤ i) (h : ∀ j, j < i → ¬ (l.getD j 0 < 0 ∨ (n : Int) ≤ l.getD j 0)) : false = badT n l := by
 symm; unfold badT; rw [List.any_eq_false]
 intro x hx
 obtain ⟨j, hj, e⟩ := List.getElem_of_mem hx
 have e2 : l.getD j 0 = x := by rw [List.getD_eq_getElem?_getD, List.getElem?_eq_getElem hj]; exact e
 have := h j (by omega)
 rw [e2] at this
 simpa using this
theorem bad1 {n : Nat} {a : Int} : badT n [a] = true ↔ (a < 0 ∨ (n : Int) ≤ a) := by unfold badT; simp
theorem bad2 {n : Nat} {a b : Int} : badT n [a, b] = true ↔ ((a < 0 ∨ (n : Int) ≤ a) ∨ (b < 0 ∨ (n : Int) ≤ b)) := by unfold badT; simp
theorem bad3 {n : Nat} {a b c : Int} : badT n [a, b, c] = true ↔ ((a < 0 ∨ (n : Int) ≤ a) ∨ (b < 0 ∨ (n : Int) ≤ b) ∨ (c < 0 ∨ (n : Int) ≤ c)) := by unfold badT; simp
theorem bad1f {n : Nat} {a : Int} : badT n [a] = false ↔ (0 ≤ a ∧ a < (n : Int)) := by unfold badT; simp
theorem bad2f {n : Nat} {a b : Int} : badT n [a, b] = false ↔ ((0 ≤ a ∧ a < (n : Int)) ∧ (0 ≤ b ∧ b < (n : Int))) := by unfold badT; simp
theorem bad3f {n : Nat} {a b c : Int} : badT n [a, b, c] = false ↔ ((0 ≤ a ∧ a < (n : Int)) ∧ (0 ≤ b ∧ b < (n : Int)) ∧ (0 ≤ c ∧ c < (n : Int))) := by unfold badT; simp
/-- A term's width. -/
def widF (N : List Nd) (x : Int) : Int := if 0 ≤ x ∧ x < (N.length : Int) then nW (nth N x.toNat) else 0
def fitsW (w : Int) : Bool := decide (1 ≤ w ∧ w ≤ 64)
def maskF (w : Int) : Int := if 1 ≤ w ∧ w ≤ 64 then (18446744073709551615 : Int).fdiv (2 ^ (64 - w.toNat)) else 0
theorem mask_z {w : Int} (h : ¬ (1 ≤ w ∧ w ≤ 64)) : maskF w = 0 := by unfold maskF; rw [if_neg h]
theorem mask_pos {w : Int} (h : 1 ≤ w ∧ w ≤ 64) : 1 ≤ maskF w ∧ maskF w ≤ 18446744073709551615 := by
 unfold maskF
 rw [if_pos h, Int.fdiv_eq_ediv_of_nonneg _ (by have : (0 : Int) < 2 ^ (64 - w.toNat) := Int.pow_pos (by decide); omega)]
 have hk : 64 - w.toNat ≤ 63 := by omega
 have h1 : (2 : Int) ^ (64 - w.toNat) ≤ 2 ^ 63 := by
  have : (2 : Nat) ^ (64 - w.toNat) ≤ 2 ^ 63 := Nat.pow_le_pow_right (by decide) hk
  exact_mod_cast this
 have h0 : (0 : Int) < 2 ^ (64 - w.toNat) := Int.pow_pos (by decide)
 constructor
 ·
  exact (Int.le_ediv_iff_mul_le h0).2 (by omega)
 ·
  exact Int.ediv_le_self _ (by omega)
def cutF (w x : Int) : Int := IntKind.u64.wrap ((BitVec.ofInt 64 x &&& BitVec.ofInt 64 (maskF w)).toNat : Int)
theorem cut_u64 (w x : Int) : u64 (cutF w x) := by
 unfold cutF u64
 have h := (BitVec.ofInt 64 x &&& BitVec.ofInt 64 (maskF w)).isLt
 rw [wrap_u64 (by omega) (by omega)]
 omega
abbrev TR := Int × Int × List Nd
def constF (N : List Nd) (most w x : Int) : TR := if ¬ (1 ≤ w ∧ w ≤ 64) then (0, 2, N) else mk N most (20, w, 0, 0, 0, cutF w x)
def varBad (N : List Nd) (w i : Int) : Prop := ∃ n, n ∈ N ∧ nO n = 21 ∧ nA n = i ∧ nW n ≠ w
instance (N : List Nd) (w i : Int) : Decidable (varBad N w i) := by unfold varBad; infer_instance
def varF (N : List Nd) (most w i : Int) : TR := if ¬ (1 ≤ w ∧ w ≤ 64) then (0, 2, N) else if i < 0 ∨ 256 ≤ i then (0, 10, N) else if varBad N w i then (0, 2, N) else mk N most (21, w, i, 0, 0, 0)
theorem nb {b : Bool} (h : b = false) : ¬ (b = true) := by simp [h]
def unaF (N : List Nd) (most op a : Int) : TR := if op ≠ 15 ∧ op ≠ 16 then (0, 3, N) else if badT N.length [a] then (0, 11, N) else mk N most (op, widF N a, a, 0, 0, 0)
def binF (N : List Nd) (most op a b : Int) : TR := if op < 1 ∨ 14 < op then (0, 3, N) else if badT N.length [a, b] then (0, 11, N) else if widF N a ≠ widF N b then (0, 2, N) else mk N most (op, if op = 12 ∨ op = 13 ∨ op = 14 then 1 else widF N a, a, b, 0, 0)
def iteF (N : List Nd) (most c a b : Int) : TR := if badT N.length [c, a, b] then (0, 11, N) else if widF N c ≠ 1 ∨ widF N a ≠ widF N b then (0, 2, N) else mk N most (22, widF N a, c, a, b, 0)
def extF (N : List Nd) (most a lo w : Int) : TR := if badT N.length [a] then (0, 11, N) else if w < 1 ∨ lo < 0 ∨ widF N a < w ∨ widF N a - w < lo then (0, 2, N) else mk N most (23, w, a, lo, 0, 0)
def catF (N : List Nd) (most a b : Int) : TR := if badT N.length [a, b] then (0, 11, N) else if 64 < widF N a + widF N b then (0, 2, N) else mk N most (24, widF N a + widF N b, a, b, 0, 0)
def exdF (N : List Nd) (most a w : Int) (sg : Bool) : TR := if badT N.length [a] then (0, 11, N) else if w < widF N a ∨ 64 < w then (0, 2, N) else if w = widF N a then (a, 0, N) else mk N most (if sg then 26 else 25, w, a, 0, 0, 0)
theorem nth_mem {N : List Nd} {i : Nat} (h : i < N.length) : nth N i ∈ N := by
 unfold nth; rw [List.getD_eq_getElem?_getD, List.getElem?_eq_getElem h]; exact List.getElem_mem h
/-- Terms whose widths are from 1 to 64. -/
structure TJ (N : List Nd) (most : Int) : Prop where
 ti : TI N most
 wr : ∀ n, n ∈ N → 1 ≤ nW n ∧ nW n ≤ 64
theorem TJ.wid {N : List Nd} {most : Int} (h : TJ N most) {x : Int} (h0 : 0 ≤ x) (h1 : x < (N.length : Int)) : 1 ≤ widF N x ∧ widF N x ≤ 64 := by
 unfold widF
 rw [if_pos ⟨h0, h1⟩]
 exact h.wr _ (nth_mem (by omega))
theorem mk_TJ {N : List Nd} {most : Int} (h : TJ N most) {n : Nd} (hw : nwf n) (h1 : 1 ≤ nW n ∧ nW n ≤ 64) (hv : nO n = 21 → ∀ m, m ∈ N → nO m = 21 → nA m = nA n → nW m = nW n) : TJ (mk N most n).2.2 most := by
 unfold mk
 split
 ·
  exact h
 ·
  rename_i hn
  split
  ·
   exact h
  ·
   rename_i hl
   have mem : ∀ m, m ∈ N ++ [n] → m ∈ N ∨ m = n := fun m hm => by simpa using hm
   refine ⟨⟨List.nodup_append.2 ⟨h.ti.nd, by simp, fun a ha b hb => by simp at hb; rw [hb]; exact fun e => hn (e ▸ ha)⟩, by rw [List.length_append]; simp; omega, h.ti.most, fun m hm => ?_, fun a b ha hb oa ob e => ?_⟩, fun m hm => ?_⟩
   ·
    rcases mem m hm with q | q
    ·
     exact h.ti.wf m q
    ·
     rw [q]; exact hw
   ·
    rcases mem a ha with q | q <;> rcases mem b hb with r | r
    ·
     exact h.ti.wid a b q r oa ob e
    ·
     subst r; exact hv ob a q oa e
    ·
     subst q; exact (hv oa b r ob e.symm).symm
    ·
     rw [q, r]
   ·
    rcases mem m hm with q | q
    ·
     exact h.wr m q
    ·
     rw [q]; exact h1
theorem wdR_mk {N : List Nd} {most : Int} {n : Nd} (h : nO n ≠ 21) (x y : Value) : wdR (mk N most n).2.2 x y ↔ wdR N x y := by
 unfold mk
 split
 ·
  exact Iff.rfl
 ·
  split
  ·
   exact Iff.rfl
  ·
   constructor
   ·
    rintro ⟨m, hm, ho, e⟩
    simp only [List.mem_append, List.mem_singleton] at hm
    rcases hm with hm | rfl
    ·
     exact ⟨m, hm, ho, e⟩
    ·
     exact absurd ho h
   ·
    rintro ⟨m, hm, ho, e⟩
    exact ⟨m, List.mem_append.2 (.inl hm), ho, e⟩
/-- Terms in memory. -/
def TObj (F : Nat → Prop) (w : World) (p : Nat) (most : Int) (N : List Nd) : Prop := TLow F w p most N (wdR N) ∧ TJ N most
theorem TObj.tch0 {F : Nat → Prop} {w w' : World} {p : Nat} {most : Int} {N : List Nd} (h : TObj F w p most N) (k : Tch N0 w w') : TObj F w' p most N := ⟨h.1.tch0 k, h.2⟩
theorem TObj.tchS {F S : Nat → Prop} {w w' : World} {p : Nat} {most : Int} {N : List Nd} (h : TObj F w p most N) (k : Tch S w w') (hs : ∀ b, S b → ¬ F b) : TObj F w' p most N := ⟨h.1.tchS k hs, h.2⟩
/-- What comes of a call that makes a term. -/
def TRet (F : Nat → Prop) (p : Nat) (most : Int) (w : World) (r : TR) (v : Value) (w' : World) : Prop := v = .tuple #[.int .i64 r.1, .int .i64 r.2.1] ∧ ∃ F', TObj F' w' p most r.2.2 ∧ Mv F F' w w'
/-- A node's parts, all of them small. -/
theorem nwf_of {o w a b c v : Int} (h0 : b64 o) (h1 : b64 w) (h2 : b64 a) (h3 : b64 b) (h4 : b64 c) (h5 : u64 v) : nwf (o, w, a, b, c, v) := ⟨h0, h1, h2, h3, h4, h5⟩
end Go.Proofs.YtlbadnpgmkobdaaV

set_option linter.unusedVariables false
set_option linter.unusedSimpArgs false
namespace Go.Proofs.YtlbadnpgmkobdaaV
open Go Go.RowKit Go.Proofs

set_option maxRecDepth 100000 in
theorem none_ok (F : Nat → Prop) (p : Nat) (most : Int) (N : List Nd) (W : Value → Value → Prop) (g mm : Nat) (l : List Int) (w : World) (hL : TLow F w p most N W) (hN : N.length ≤ 65536) (hG : Blk w g 3 (ints .i64 l)) (hm : l.length = mm) (hm2 : mm ≤ 1099511627776) : Ret Try.prog 44 [.pointer (some ⟨p, 0, none⟩), .slice (some ⟨g, 0, none⟩) mm mm] w fun v w' => v = .bool (badT N.length l) ∧ Tch N0 w w' := by
 obtain ⟨A, cp, ma, mw, hP, hO, _⟩ := id hL
 refine enter Try.func44 rfl rfl ?_
 refine zQ ?_
 refine zS [(4, .bool false)] ?_
 refine op_nil ?_
 refine W_seq ?_
 refine zQ ?_
 refine zS [(7, .slice (some ⟨g, 0, none⟩) mm mm), (8, .int .i64 (mm : Int)), (9, .int .i64 0)] ?_
 refine op_nil ?_
 refine W_block ?_
 refine W_loop (fun m ρ w' => ∃ (i : Nat) (ρ0 : Env), ρ = updL ρ0 [(0, .pointer (some ⟨p, 0, none⟩)), (7, .slice (some ⟨g, 0, none⟩) mm mm), (8, .int .i64 (mm : Int)), (9, .int .i64 ((i : Nat) : Int))] ∧ (i ≤ mm) ∧ (∀ j, j < i → ¬ (l.getD j 0 < 0 ∨ (N.length : Int) ≤ l.getD j 0)) ∧ Tch N0 w w' ∧ Blk w' p 74 [.slice A N.length cp, .map (some ma), .map (some mw), .int .i64 most] ∧ Blk w' (g) 3 (ints .i64 l) ∧ m = mm - i) (m := mm - 0) ?_ ?_
 ·
  refine ⟨0, _, updL_self (by kernel_rfl), by omega, by intro j h; omega, Tch.refl _ _, hP, hG, rfl⟩
 ·
  rintro m ρ w1 ⟨i, ρ, rfl, hi, hb, hT0, hP, hG, rfl⟩
  refine zQ ?_
  refine zS [(10, .bool (decide (((i : Nat) : Int) < (mm : Int))))] ?_
  refine op_nil ?_
  refine W_seq ?_
  refine zW (decide (((i : Nat) : Int) < (mm : Int))) (fun hc2 => ?_) (fun hc2 => ?_)
  ·
   replace hc2 : ((i : Nat) : Int) < (mm : Int) := (of_decide_eq_true hc2)
   refine W_skip ?_
   refine W_seq ?_
   refine W_block ?_
   refine zQ ?_
   refine stv (v := .pointer (some ⟨g, i, none⟩)) (by rfl) (R_index0 (b := g) (len := mm) (cap := mm) (k := .i64) (i := ((i : Nat) : Int)) (e := 3) i (by kernel_rfl) (by kernel_rfl) (by kernel_rfl) (by kernel_rfl) rfl (by first | omega | (simp only [List.length_set, List.length_map]; omega))) ?_
   refine zL (.int .i64 (l.getD i 0)) ((hG.cell _).trans (ints_at .i64 _ (by first | omega | (simp only [List.length_set, List.length_map]; omega)))) ?_
   refine zS [(6, .int .i64 (l.getD i 0))] ?_
   refine op_nil ?_
   refine zQ ?_
   refine zS [(13, .int .i64 (l.getD i 0)), (14, .bool (decide (l.getD i 0 < 0))), (15, .bool (decide (l.getD i 0 < 0)))] ?_
   cases hb3 : decide (l.getD i 0 < 0)
   ·
    replace hb3 : 0 ≤ l.getD i 0 := (Int.not_lt.1 (of_decide_eq_false hb3))
    refine zS [(16, .int .i64 (l.getD i 0)), (17, .pointer (some ⟨p, 0, none⟩)), (18, .pointer (some ⟨p, 0, none⟩)), (19, .pointer (some ⟨p, 0, none⟩))] ?_
    refine zL (.slice A N.length cp) ((hP.cell 0).trans rfl) ?_
    refine zS [(21, .int .i64 (N.length : Int)), (22, .bool (decide (l.getD i 0 ≥ (N.length : Int)))), (23, .bool (decide (l.getD i 0 ≥ (N.length : Int))))] ?_
    refine zO (decide (l.getD i 0 ≥ (N.length : Int))) (fun hc4 => ?_) (fun hc4 => ?_)
    ·
     replace hc4 : (N.length : Int) ≤ l.getD i 0 := (of_decide_eq_true hc4)
     refine W_seq ?_
     refine zF [(0, .pointer (some ⟨p, 0, none⟩)), (6, .int .i64 (l.getD i 0)), (7, .slice (some ⟨g, 0, none⟩) mm mm), (8, .int .i64 (mm : Int)), (9, .int .i64 ((i : Nat) : Int)), (10, .bool (decide (((i : Nat) : Int) < (mm : Int)))), (23, .bool (decide (l.getD i 0 ≥ (N.length : Int))))] fun ρ => ?_
     refine zR ?_
     refine zS [(4, .bool true)] ?_
     refine op_nil ?_
     refine W_ret ?_
     exact ⟨_, Res_of (v := .bool true) (by kernel_rfl), ⟨congrArg Value.bool (by first | exact badT_t (i := i) (by omega) (by omega) | exact badT_f (by omega) hb), hT0⟩⟩
    ·
     replace hc4 : l.getD i 0 < (N.length : Int) := (Int.not_le.1 (of_decide_eq_false hc4))
     refine W_skip ?_
     refine zF [(0, .pointer (some ⟨p, 0, none⟩)), (6, .int .i64 (l.getD i 0)), (7, .slice (some ⟨g, 0, none⟩) mm mm), (8, .int .i64 (mm : Int)), (9, .int .i64 ((i : Nat) : Int)), (10, .bool (decide (((i : Nat) : Int) < (mm : Int)))), (23, .bool (decide (l.getD i 0 ≥ (N.length : Int))))] fun ρ => ?_
     refine zR ?_
     refine zS [(24, .int .i64 (IntKind.i64.wrap (((i : Nat) : Int) + 1)))] ?_
     rw [show IntKind.i64.wrap (((i : Nat) : Int) + 1) = ((i : Nat) : Int) + 1 from wrap_i64 (by omega) (by omega)]
     refine zS [(9, .int .i64 (((i : Nat) : Int) + 1))] ?_
     refine op_nil ?_
     refine ⟨_, ?_, i + 1, _, updL_self (by kernel_rfl), ?_, ?_, hT0, hP, hG, rfl⟩
     ·
      omega
     ·
      omega
     ·
      intro j hj; by_cases e : j = i; (subst e; omega); exact hb j (by omega)
   ·
    replace hb3 : l.getD i 0 < 0 := (of_decide_eq_true hb3)
    refine zS [(16, undef), (17, undef), (18, undef), (19, undef), (20, undef), (21, undef), (22, undef), (23, .bool true)] ?_
    refine zO true (fun _ => ?_) (fun h => nomatch h)
    refine W_seq ?_
    refine zF [(0, .pointer (some ⟨p, 0, none⟩)), (6, .int .i64 (l.getD i 0)), (7, .slice (some ⟨g, 0, none⟩) mm mm), (8, .int .i64 (mm : Int)), (9, .int .i64 ((i : Nat) : Int)), (10, .bool (decide (((i : Nat) : Int) < (mm : Int)))), (23, .bool true)] fun ρ => ?_
    refine zR ?_
    refine zS [(4, .bool true)] ?_
    refine op_nil ?_
    refine W_ret ?_
    exact ⟨_, Res_of (v := .bool true) (by kernel_rfl), ⟨congrArg Value.bool (by first | exact badT_t (i := i) (by omega) (by omega) | exact badT_f (by omega) hb), hT0⟩⟩
  ·
   replace hc2 : (mm : Int) ≤ ((i : Nat) : Int) := (Int.not_lt.1 (of_decide_eq_false hc2))
   refine W_exit ?_
   refine X_hit ?_
   refine zQ ?_
   refine zS [(4, .bool false)] ?_
   refine op_nil ?_
   refine W_ret ?_
   exact ⟨_, Res_of (v := .bool false) (by kernel_rfl), ⟨congrArg Value.bool (by first | exact badT_t (i := i) (by omega) (by omega) | exact badT_f (by omega) hb), hT0⟩⟩

set_option maxRecDepth 100000 in
theorem node_in (F : Nat → Prop) (p : Nat) (most : Int) (N : List Nd) (W : Value → Value → Prop) (ix : Int) (w : World) (hL : TLow F w p most N W) (hN : N.length ≤ 65536) (h0 : 0 ≤ ix) (h1 : ix < (N.length : Int)) : Ret Try.prog 14 [.pointer (some ⟨p, 0, none⟩), .int .i64 ix] w fun v w' => v = .tuple #[.agg #[.int .i64 (nO (nth N ix.toNat)), .int .i64 (nW (nth N ix.toNat)), .int .i64 (nA (nth N ix.toNat)), .int .i64 (nB (nth N ix.toNat)), .int .i64 (nC (nth N ix.toNat)), .int .u64 (nV (nth N ix.toNat))], .bool true] ∧ Tch N0 w w' := by
 obtain ⟨A, cp, ma, mw, hP, hO, _⟩ := id hL
 have hR0 := hO.rdS
 have hR := hR0
 have hbad : badT N.length [ix] = false := bad1f.2 ⟨h0, h1⟩
 refine enter Try.func14 rfl rfl ?_
 refine zQ ?_
 have hlt_ := hL.lt
 have lt5 := hP.lt
 have l6 := hP.lt
 refine st (by rfl) (S_new (v := .pointer (some ⟨w.heap.size, 0, none⟩)) (ob := .cells #[.int .i64 0, .int .i64 0, .int .i64 0, .int .i64 0, .int .i64 0, .int .u64 0] 32) (by kernel_rfl) fun w1 hT2 hs3 hB4 => ?_)
 replace hB4 : Blk w1 (w.heap.size) 32 [.int .i64 0, .int .i64 0, .int .i64 0, .int .i64 0, .int .i64 0, .int .u64 0] := hB4
 have hT0 := hT2
 have hL := hL.tch0 hT2
 have hP := hP.tch0 hT2
 have hR := hR0.tch0 hT0
 have nF_hB4 : ¬ F (w.heap.size) := fun e => by have := hlt_ _ e; omega
 refine zS [(5, .bool false)] ?_
 refine op_nil ?_
 refine W_seq ?_
 refine zQ ?_
 refine zS [(6, .pointer (some ⟨p, 0, none⟩)), (7, .bool false), (8, .bool false), (9, .pointer (some ⟨p, 0, none⟩)), (10, .int .i64 ix)] ?_
 have hlt_ := hL.lt
 have lt11 := hP.lt
 have lt12 := hB4.lt
 have z13 := hT0.size
 have l14 := hP.lt
 have l15 := hB4.lt
 refine st (by kernel_rfl) (S_new (v := .slice (some ⟨w1.heap.size, 0, none⟩) 1 1) (ob := .cells #[.int .i64 ix] 3) (by kernel_rfl) fun w7 hT8 hs9 hB10 => ?_)
 replace hB10 : Blk w7 (w1.heap.size) 3 [.int .i64 ix] := hB10
 have hT0 := hT0.t0 hT8
 have hL := hL.tch0 hT8
 have hP := hP.tch0 hT8
 have hR := hR0.tch0 hT0
 have hB4 := hB4.tch0 hT8
 have nF_hB10 : ¬ F (w1.heap.size) := fun e => by have := hlt_ _ e; omega
 refine st (by kernel_rfl) (S_call (args := [.pointer (some ⟨p, 0, none⟩), .slice (some ⟨w1.heap.size, 0, none⟩) 1 1]) (by kernel_rfl) (by have q := none_ok F p most N W (w1.heap.size) 1 [ix] _ hL (by omega) (show Blk _ _ 3 (ints .i64 [ix]) from hB10) rfl (by omega); rw [hbad] at q; exact q) ?_)
 rintro _ w16 ⟨rfl, hT17⟩
 have hT0 := hT0.t0 hT17
 have hL := hL.tch0 hT17
 have hP := hP.tch0 hT17
 have hR := hR0.tch0 hT0
 have hB4 := hB4.tch0 hT17
 have hB10 := hB10.tch0 hT17
 refine zS [(13, .bool false)] ?_
 refine zO false (fun h => nomatch h) (fun _ => ?_)
 refine W_skip ?_
 refine W_seq ?_
 refine zF [(0, .pointer (some ⟨p, 0, none⟩)), (1, .int .i64 ix), (4, .pointer (some ⟨w.heap.size, 0, none⟩)), (5, .bool false), (13, .bool false)] fun ρ => ?_
 refine zR ?_
 refine zS [(15, .pointer (some ⟨p, 0, none⟩)), (16, .pointer (some ⟨p, 0, none⟩)), (17, .pointer (some ⟨p, 0, none⟩))] ?_
 refine zL (.slice A N.length cp) ((hP.cell 0).trans rfl) ?_
 refine zS [(19, .int .i64 ix)] ?_
 refine stv (v := ptrAt A (ix.toNat * 6)) (by rfl) (R_indexRd (sz := 6) (len := N.length) (cap := cp) (k := .i64) (i := ix) (e := 32) ix.toNat hR (by kernel_rfl) (by kernel_rfl) (by kernel_rfl) (by kernel_rfl) (by omega) (by omega)) ?_
 refine stv (v := .agg #[.int .i64 (nO (nth N ix.toNat)), .int .i64 (nW (nth N ix.toNat)), .int .i64 (nA (nth N ix.toNat)), .int .i64 (nB (nth N ix.toNat)), .int .i64 (nC (nth N ix.toNat)), .int .u64 (nV (nth N ix.toNat))]) (by rfl) (R_loadRdA [.int .i64 (nO (nth N ix.toNat)), .int .i64 (nW (nth N ix.toNat)), .int .i64 (nA (nth N ix.toNat)), .int .i64 (nB (nth N ix.toNat)), .int .i64 (nC (nth N ix.toNat)), .int .u64 (nV (nth N ix.toNat))] hR (by omega) (by kernel_rfl) (by kernel_rfl) (by kernel_rfl) (ncs_part N (by omega))) ?_
 refine st (by rfl) (S_storeA (b := w.heap.size) (j := 0) (cs := [.int .i64 (nO (nth N ix.toNat)), .int .i64 (nW (nth N ix.toNat)), .int .i64 (nA (nth N ix.toNat)), .int .i64 (nB (nth N ix.toNat)), .int .i64 (nC (nth N ix.toNat)), .int .u64 (nV (nth N ix.toNat))]) (by kernel_rfl) (by kernel_rfl) (by kernel_rfl) (by simp [oneV]) hB4 (by simp) fun w18 hT19 hs20 hB4' => ?_)
 have hT0 := (hT0).then hT19 (fun c e => by have : c = w.heap.size := e; omega)
 have hL := hL.tchS hT19 (fun c e q => by cases e; exact nF_hB4 q)
 have hP := hP.tch hT19 (hP.ne hB4 (by decide))
 have hR := hR0.tch0 hT0
 have hB10 := hB10.tch hT19 (hB10.ne hB4 (by decide))
 replace hB4 : Blk w18 w.heap.size 32 [.int .i64 (nO (nth N ix.toNat)), .int .i64 (nW (nth N ix.toNat)), .int .i64 (nA (nth N ix.toNat)), .int .i64 (nB (nth N ix.toNat)), .int .i64 (nC (nth N ix.toNat)), .int .u64 (nV (nth N ix.toNat))] := hB4'
 refine zS [(5, .bool true)] ?_
 refine op_nil ?_
 refine W_ret ?_
 exact ⟨_, Res_cell1 (b := w.heap.size) (cs := [.int .i64 (nO (nth N ix.toNat)), .int .i64 (nW (nth N ix.toNat)), .int .i64 (nA (nth N ix.toNat)), .int .i64 (nB (nth N ix.toNat)), .int .i64 (nC (nth N ix.toNat)), .int .u64 (nV (nth N ix.toNat))]) (by rfl) (by kernel_rfl) (by kernel_rfl) (by kernel_rfl) hB4 (by kernel_rfl) (by kernel_rfl), ⟨rfl, hT0⟩⟩

set_option maxRecDepth 100000 in
theorem node_out (F : Nat → Prop) (p : Nat) (most : Int) (N : List Nd) (W : Value → Value → Prop) (ix : Int) (w : World) (hL : TLow F w p most N W) (hN : N.length ≤ 65536) (hid : ¬ (0 ≤ ix ∧ ix < (N.length : Int))) : Ret Try.prog 14 [.pointer (some ⟨p, 0, none⟩), .int .i64 ix] w fun v w' => v = .tuple #[.agg #[.int .i64 0, .int .i64 0, .int .i64 0, .int .i64 0, .int .i64 0, .int .u64 0], .bool false] ∧ Tch N0 w w' := by
 obtain ⟨A, cp, ma, mw, hP, hO, _⟩ := id hL
 have hbad : badT N.length [ix] = true := bad1.2 (by omega)
 refine enter Try.func14 rfl rfl ?_
 refine zQ ?_
 have hlt_ := hL.lt
 have lt5 := hP.lt
 have l6 := hP.lt
 refine st (by rfl) (S_new (v := .pointer (some ⟨w.heap.size, 0, none⟩)) (ob := .cells #[.int .i64 0, .int .i64 0, .int .i64 0, .int .i64 0, .int .i64 0, .int .u64 0] 32) (by kernel_rfl) fun w1 hT2 hs3 hB4 => ?_)
 replace hB4 : Blk w1 (w.heap.size) 32 [.int .i64 0, .int .i64 0, .int .i64 0, .int .i64 0, .int .i64 0, .int .u64 0] := hB4
 have hT0 := hT2
 have hL := hL.tch0 hT2
 have hP := hP.tch0 hT2
 have nF_hB4 : ¬ F (w.heap.size) := fun e => by have := hlt_ _ e; omega
 refine zS [(5, .bool false)] ?_
 refine op_nil ?_
 refine W_seq ?_
 refine zQ ?_
 refine zS [(6, .pointer (some ⟨p, 0, none⟩)), (7, .bool false), (8, .bool false), (9, .pointer (some ⟨p, 0, none⟩)), (10, .int .i64 ix)] ?_
 have hlt_ := hL.lt
 have lt11 := hP.lt
 have lt12 := hB4.lt
 have z13 := hT0.size
 have l14 := hP.lt
 have l15 := hB4.lt
 refine st (by kernel_rfl) (S_new (v := .slice (some ⟨w1.heap.size, 0, none⟩) 1 1) (ob := .cells #[.int .i64 ix] 3) (by kernel_rfl) fun w7 hT8 hs9 hB10 => ?_)
 replace hB10 : Blk w7 (w1.heap.size) 3 [.int .i64 ix] := hB10
 have hT0 := hT0.t0 hT8
 have hL := hL.tch0 hT8
 have hP := hP.tch0 hT8
 have hB4 := hB4.tch0 hT8
 have nF_hB10 : ¬ F (w1.heap.size) := fun e => by have := hlt_ _ e; omega
 refine st (by kernel_rfl) (S_call (args := [.pointer (some ⟨p, 0, none⟩), .slice (some ⟨w1.heap.size, 0, none⟩) 1 1]) (by kernel_rfl) (by have q := none_ok F p most N W (w1.heap.size) 1 [ix] _ hL (by omega) (show Blk _ _ 3 (ints .i64 [ix]) from hB10) rfl (by omega); rw [hbad] at q; exact q) ?_)
 rintro _ w16 ⟨rfl, hT17⟩
 have hT0 := hT0.t0 hT17
 have hL := hL.tch0 hT17
 have hP := hP.tch0 hT17
 have hB4 := hB4.tch0 hT17
 have hB10 := hB10.tch0 hT17
 refine zS [(13, .bool true)] ?_
 refine zO true (fun _ => ?_) (fun h => nomatch h)
 refine W_seq ?_
 refine zF [(0, .pointer (some ⟨p, 0, none⟩)), (1, .int .i64 ix), (4, .pointer (some ⟨w.heap.size, 0, none⟩)), (5, .bool false), (13, .bool true)] fun ρ => ?_
 refine zR ?_
 refine zS [(14, .agg #[.int .i64 0, .int .i64 0, .int .i64 0, .int .i64 0, .int .i64 0, .int .u64 0])] ?_
 refine st (by rfl) (S_storeA (b := w.heap.size) (j := 0) (cs := [.int .i64 0, .int .i64 0, .int .i64 0, .int .i64 0, .int .i64 0, .int .u64 0]) (by kernel_rfl) (by kernel_rfl) (by kernel_rfl) (by simp [oneV]) hB4 (by simp) fun w18 hT19 hs20 hB4' => ?_)
 have hT0 := (hT0).then hT19 (fun c e => by have : c = w.heap.size := e; omega)
 have hL := hL.tchS hT19 (fun c e q => by cases e; exact nF_hB4 q)
 have hP := hP.tch hT19 (hP.ne hB4 (by decide))
 have hB10 := hB10.tch hT19 (hB10.ne hB4 (by decide))
 replace hB4 : Blk w18 w.heap.size 32 [.int .i64 0, .int .i64 0, .int .i64 0, .int .i64 0, .int .i64 0, .int .u64 0] := hB4'
 refine zS [(5, .bool false)] ?_
 refine op_nil ?_
 refine W_ret ?_
 exact ⟨_, Res_cell1 (b := w.heap.size) (cs := [.int .i64 0, .int .i64 0, .int .i64 0, .int .i64 0, .int .i64 0, .int .u64 0]) (by rfl) (by kernel_rfl) (by kernel_rfl) (by kernel_rfl) hB4 (by kernel_rfl) (by kernel_rfl), ⟨rfl, hT0⟩⟩

set_option maxRecDepth 100000 in
theorem width_in (F : Nat → Prop) (p : Nat) (most : Int) (N : List Nd) (W : Value → Value → Prop) (ix : Int) (w : World) (hL : TLow F w p most N W) (hN : N.length ≤ 65536) (h0 : 0 ≤ ix) (h1 : ix < (N.length : Int)) : Ret Try.prog 15 [.pointer (some ⟨p, 0, none⟩), .int .i64 ix] w fun v w' => v = .int .i64 (nW (nth N ix.toNat)) ∧ Tch N0 w w' := by
 refine enter Try.func15 rfl rfl ?_
 refine zQ ?_
 refine zS [(4, .int .i64 0)] ?_
 refine op_nil ?_
 refine zQ ?_
 refine zS [(8, .pointer (some ⟨p, 0, none⟩)), (9, .int .i64 ix)] ?_
 refine zC (node_in F p most N W ix _ hL (by omega) h0 h1) ?_
 rintro _ w1 ⟨rfl, hT2⟩
 have hT0 := hT2
 have hL := hL.tch0 hT2
 refine zS [(7, .tuple #[.agg #[.int .i64 (nO (nth N ix.toNat)), .int .i64 (nW (nth N ix.toNat)), .int .i64 (nA (nth N ix.toNat)), .int .i64 (nB (nth N ix.toNat)), .int .i64 (nC (nth N ix.toNat)), .int .u64 (nV (nth N ix.toNat))], .bool true]), (11, .agg #[.int .i64 (nO (nth N ix.toNat)), .int .i64 (nW (nth N ix.toNat)), .int .i64 (nA (nth N ix.toNat)), .int .i64 (nB (nth N ix.toNat)), .int .i64 (nC (nth N ix.toNat)), .int .u64 (nV (nth N ix.toNat))]), (12, .bool true)] ?_
 have hlt_ := hL.lt
 have z7 := hT0.size
 refine st (by rfl) (S_new (v := .pointer (some ⟨w1.heap.size, 0, none⟩)) (ob := .cells #[.int .i64 0, .int .i64 0, .int .i64 0, .int .i64 0, .int .i64 0, .int .u64 0] 32) (by kernel_rfl) fun w3 hT4 hs5 hB6 => ?_)
 replace hB6 : Blk w3 (w1.heap.size) 32 [.int .i64 0, .int .i64 0, .int .i64 0, .int .i64 0, .int .i64 0, .int .u64 0] := hB6
 have hT0 := hT0.t0 hT4
 have hL := hL.tch0 hT4
 have nF_hB6 : ¬ F (w1.heap.size) := fun e => by have := hlt_ _ e; omega
 refine st (by rfl) (S_storeA (b := w1.heap.size) (j := 0) (cs := [.int .i64 (nO (nth N ix.toNat)), .int .i64 (nW (nth N ix.toNat)), .int .i64 (nA (nth N ix.toNat)), .int .i64 (nB (nth N ix.toNat)), .int .i64 (nC (nth N ix.toNat)), .int .u64 (nV (nth N ix.toNat))]) (by kernel_rfl) (by kernel_rfl) (by kernel_rfl) (by simp [oneV]) hB6 (by simp) fun w8 hT9 hs10 hB6' => ?_)
 have hT0 := (hT0).then hT9 (fun c e => by have : c = w1.heap.size := e; omega)
 have hL := hL.tchS hT9 (fun c e q => by cases e; exact nF_hB6 q)
 replace hB6 : Blk w8 w1.heap.size 32 [.int .i64 (nO (nth N ix.toNat)), .int .i64 (nW (nth N ix.toNat)), .int .i64 (nA (nth N ix.toNat)), .int .i64 (nB (nth N ix.toNat)), .int .i64 (nC (nth N ix.toNat)), .int .u64 (nV (nth N ix.toNat))] := hB6'
 refine zS [(6, .bool true)] ?_
 refine op_nil ?_
 refine W_seq ?_
 refine zF [(0, .pointer (some ⟨p, 0, none⟩)), (1, .int .i64 ix), (4, .int .i64 0), (5, .pointer (some ⟨w1.heap.size, 0, none⟩))] fun ρ => ?_
 refine zR ?_
 refine zS [(13, .pointer (some ⟨w1.heap.size, 1, none⟩))] ?_
 refine zL (.int .i64 (nW (nth N ix.toNat))) ((hB6.cell 1).trans rfl) ?_
 refine zS [(4, .int .i64 (nW (nth N ix.toNat)))] ?_
 refine op_nil ?_
 refine W_ret ?_
 exact ⟨_, Res_of (v := .int .i64 (nW (nth N ix.toNat))) (by kernel_rfl), ⟨rfl, hT0⟩⟩

set_option maxRecDepth 100000 in
theorem width_out (F : Nat → Prop) (p : Nat) (most : Int) (N : List Nd) (W : Value → Value → Prop) (ix : Int) (w : World) (hL : TLow F w p most N W) (hN : N.length ≤ 65536) (hid : ¬ (0 ≤ ix ∧ ix < (N.length : Int))) : Ret Try.prog 15 [.pointer (some ⟨p, 0, none⟩), .int .i64 ix] w fun v w' => v = .int .i64 0 ∧ Tch N0 w w' := by
 refine enter Try.func15 rfl rfl ?_
 refine zQ ?_
 refine zS [(4, .int .i64 0)] ?_
 refine op_nil ?_
 refine zQ ?_
 refine zS [(8, .pointer (some ⟨p, 0, none⟩)), (9, .int .i64 ix)] ?_
 refine zC (node_out F p most N W ix _ hL (by omega) hid) ?_
 rintro _ w1 ⟨rfl, hT2⟩
 have hT0 := hT2
 have hL := hL.tch0 hT2
 refine zS [(7, .tuple #[.agg #[.int .i64 0, .int .i64 0, .int .i64 0, .int .i64 0, .int .i64 0, .int .u64 0], .bool false]), (11, .agg #[.int .i64 0, .int .i64 0, .int .i64 0, .int .i64 0, .int .i64 0, .int .u64 0]), (12, .bool false)] ?_
 have hlt_ := hL.lt
 have z7 := hT0.size
 refine st (by rfl) (S_new (v := .pointer (some ⟨w1.heap.size, 0, none⟩)) (ob := .cells #[.int .i64 0, .int .i64 0, .int .i64 0, .int .i64 0, .int .i64 0, .int .u64 0] 32) (by kernel_rfl) fun w3 hT4 hs5 hB6 => ?_)
 replace hB6 : Blk w3 (w1.heap.size) 32 [.int .i64 0, .int .i64 0, .int .i64 0, .int .i64 0, .int .i64 0, .int .u64 0] := hB6
 have hT0 := hT0.t0 hT4
 have hL := hL.tch0 hT4
 have nF_hB6 : ¬ F (w1.heap.size) := fun e => by have := hlt_ _ e; omega
 refine st (by rfl) (S_storeA (b := w1.heap.size) (j := 0) (cs := [.int .i64 0, .int .i64 0, .int .i64 0, .int .i64 0, .int .i64 0, .int .u64 0]) (by kernel_rfl) (by kernel_rfl) (by kernel_rfl) (by simp [oneV]) hB6 (by simp) fun w8 hT9 hs10 hB6' => ?_)
 have hT0 := (hT0).then hT9 (fun c e => by have : c = w1.heap.size := e; omega)
 have hL := hL.tchS hT9 (fun c e q => by cases e; exact nF_hB6 q)
 replace hB6 : Blk w8 w1.heap.size 32 [.int .i64 0, .int .i64 0, .int .i64 0, .int .i64 0, .int .i64 0, .int .u64 0] := hB6'
 refine zS [(6, .bool false)] ?_
 refine op_nil ?_
 refine W_seq ?_
 refine zF [(0, .pointer (some ⟨p, 0, none⟩)), (1, .int .i64 ix), (4, .int .i64 0), (5, .pointer (some ⟨w1.heap.size, 0, none⟩))] fun ρ => ?_
 refine zR ?_
 refine zS [(13, .pointer (some ⟨w1.heap.size, 1, none⟩))] ?_
 refine zL (.int .i64 0) ((hB6.cell 1).trans rfl) ?_
 refine zS [(4, .int .i64 0)] ?_
 refine op_nil ?_
 refine W_ret ?_
 exact ⟨_, Res_of (v := .int .i64 0) (by kernel_rfl), ⟨rfl, hT0⟩⟩

theorem width_ok (F : Nat → Prop) (p : Nat) (most : Int) (N : List Nd) (W : Value → Value → Prop) (ix : Int) (w : World) (hL : TLow F w p most N W) (hN : N.length ≤ 65536) : Ret Try.prog 15 [.pointer (some ⟨p, 0, none⟩), .int .i64 ix] w fun v w' => v = .int .i64 (widF N ix) ∧ Tch N0 w w' := by
 unfold widF
 by_cases h : 0 ≤ ix ∧ ix < (N.length : Int)
 ·
  rw [if_pos h]; exact width_in F p most N W ix w hL hN h.1 h.2
 ·
  rw [if_neg h]; exact width_out F p most N W ix w hL hN h

set_option maxRecDepth 100000 in
theorem len_ok (F : Nat → Prop) (p : Nat) (most : Int) (N : List Nd) (W : Value → Value → Prop)  (w : World) (hL : TLow F w p most N W) (hN : N.length ≤ 65536) : Ret Try.prog 20 [.pointer (some ⟨p, 0, none⟩)] w fun v w' => v = .int .i64 (N.length : Int) ∧ Tch N0 w w' := by
 obtain ⟨A, cp, ma, mw, hP, hO, _⟩ := id hL
 refine enter Try.func20 rfl rfl ?_
 refine zQ ?_
 refine zS [(2, .int .i64 0)] ?_
 refine op_nil ?_
 refine W_seq ?_
 refine zQ ?_
 refine zS [(3, .pointer (some ⟨p, 0, none⟩)), (4, .bool false)] ?_
 refine zO false (fun h => nomatch h) (fun _ => ?_)
 refine W_skip ?_
 refine zQ ?_
 refine zS [(5, .pointer (some ⟨p, 0, none⟩)), (6, .pointer (some ⟨p, 0, none⟩)), (7, .pointer (some ⟨p, 0, none⟩))] ?_
 refine zL (.slice A N.length cp) ((hP.cell 0).trans rfl) ?_
 refine zS [(9, .int .i64 (N.length : Int)), (2, .int .i64 (N.length : Int))] ?_
 refine op_nil ?_
 refine W_ret ?_
 exact ⟨_, Res_of (v := .int .i64 (N.length : Int)) (by kernel_rfl), ⟨rfl, Tch.refl _ _⟩⟩

set_option maxRecDepth 100000 in
theorem fits_ok (x : Int) (w : World) : Ret Try.prog 96 [.int .i64 x] w fun v w' => v = .bool (fitsW x) ∧ Tch N0 w w' := by
 refine enter Try.func96 rfl rfl ?_
 refine zQ ?_
 refine zS [(2, .bool false)] ?_
 refine op_nil ?_
 refine zQ ?_
 refine zS [(3, .int .i64 x), (4, .bool (decide (x ≥ 1))), (5, .bool (decide (x ≥ 1)))] ?_
 cases hb1 : decide (x ≥ 1)
 ·
  replace hb1 : x < 1 := (Int.not_le.1 (of_decide_eq_false hb1))
  refine zS [(6, undef), (7, undef), (8, .bool false), (2, .bool false)] ?_
  refine op_nil ?_
  refine W_ret ?_
  exact ⟨_, Res_of (v := .bool false) (by kernel_rfl), ⟨congrArg Value.bool (by unfold fitsW; simp; omega), Tch.refl _ _⟩⟩
 ·
  replace hb1 : 1 ≤ x := (of_decide_eq_true hb1)
  refine zS [(6, .int .i64 x), (7, .bool (decide (x ≤ 64))), (8, .bool (decide (x ≤ 64))), (2, .bool (decide (x ≤ 64)))] ?_
  refine op_nil ?_
  refine W_ret ?_
  exact ⟨_, Res_of (v := .bool (decide (x ≤ 64))) (by kernel_rfl), ⟨congrArg Value.bool (by unfold fitsW; simp; omega), Tch.refl _ _⟩⟩

set_option maxRecDepth 100000 in
theorem mask_ok (x : Int) (w : World) : Ret Try.prog 56 [.int .i64 x] w fun v w' => v = .int .u64 (maskF x) ∧ Tch N0 w w' := by
 refine enter Try.func56 rfl rfl ?_
 refine zQ ?_
 refine zS [(2, .int .u64 0)] ?_
 refine op_nil ?_
 refine W_seq ?_
 refine zQ ?_
 refine zS [(3, .int .i64 x)] ?_
 refine zC (fits_ok x _) ?_
 rintro _ w1 ⟨rfl, hT2⟩
 have hT0 := hT2
 refine zS [(5, .bool (!(fitsW x)))] ?_
 refine zO (!(fitsW x)) (fun hc3 => ?_) (fun hc3 => ?_)
 ·
  replace hc3 : ¬ (1 ≤ x ∧ x ≤ 64) := (of_decide_eq_false (not_t hc3))
  refine zQ ?_
  refine zS [(2, .int .u64 0)] ?_
  refine op_nil ?_
  refine W_ret ?_
  exact ⟨_, Res_of (v := .int .u64 0) (by kernel_rfl), ⟨congrArg (Value.int .u64) (by unfold maskF; first | rw [if_pos (by omega)] | rw [if_neg (by omega)]), hT0⟩⟩
 ·
  replace hc3 : 1 ≤ x ∧ x ≤ 64 := (of_decide_eq_true (not_f hc3))
  refine W_skip ?_
  refine zQ ?_
  refine zS [(6, .int .i64 x), (7, .int .i64 (IntKind.i64.wrap (64 - x)))] ?_
  rw [show IntKind.i64.wrap (64 - x) = 64 - x from wrap_i64 (by omega) (by omega)]
  refine stv (v := .int .u64 ((18446744073709551615 : Int).fdiv (2 ^ (64 - x.toNat)))) (by rfl) (R_shr (k := .u64) (k2 := .i64) (a := 18446744073709551615) (b := 64 - x) (64 - x.toNat) (by kernel_rfl) (by kernel_rfl) (by omega) (by show _ ≤ 64; omega)) ?_
  refine zS [(2, .int .u64 ((18446744073709551615 : Int).fdiv (2 ^ (64 - x.toNat))))] ?_
  refine op_nil ?_
  refine W_ret ?_
  exact ⟨_, Res_of (v := .int .u64 ((18446744073709551615 : Int).fdiv (2 ^ (64 - x.toNat)))) (by kernel_rfl), ⟨congrArg (Value.int .u64) (by unfold maskF; first | rw [if_pos (by omega)] | rw [if_neg (by omega)]), hT0⟩⟩

set_option maxRecDepth 100000 in
theorem cut_ok (x y : Int) (w : World) : Ret Try.prog 58 [.int .i64 x, .int .u64 y] w fun v w' => v = .int .u64 (cutF x y) ∧ Tch N0 w w' := by
 refine enter Try.func58 rfl rfl ?_
 refine zQ ?_
 refine zS [(4, .int .u64 0)] ?_
 refine op_nil ?_
 refine zQ ?_
 refine zS [(5, .int .u64 y), (6, .int .i64 x)] ?_
 refine zC (mask_ok x _) ?_
 rintro _ w1 ⟨rfl, hT2⟩
 have hT0 := hT2
 refine zS [(8, .int .u64 (IntKind.u64.wrap (BitVec.ofInt 64 y &&& BitVec.ofInt 64 (maskF x)).toNat)), (4, .int .u64 (IntKind.u64.wrap (BitVec.ofInt 64 y &&& BitVec.ofInt 64 (maskF x)).toNat))] ?_
 refine op_nil ?_
 refine W_ret ?_
 exact ⟨_, Res_of (v := .int .u64 (IntKind.u64.wrap (BitVec.ofInt 64 y &&& BitVec.ofInt 64 (maskF x)).toNat)) (by kernel_rfl), ⟨rfl, hT0⟩⟩

end Go.Proofs.YtlbadnpgmkobdaaV
