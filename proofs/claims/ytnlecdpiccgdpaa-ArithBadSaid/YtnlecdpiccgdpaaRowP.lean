/- Rows of literals: their words, and how they lie in memory. -/
import Derived.Test.YtnlecdpiccgdpaaGateR
import Derived.Test.YtnlecdpiccgdpaaVx8
set_option linter.unusedVariables false
set_option linter.unusedSimpArgs false
namespace Go.Proofs.YtnlecdpiccgdpaaV
open Go Go.RowKit Go.Proofs
/-- The word of some bits. -/
def bval (m : Nat) (f : Nat → Bool) : Nat := match m with
  | 0 => 0
  | m + 1 => bval m f + (if f m then 2 ^ m else 0)
theorem bval_lt (m : Nat) (f : Nat → Bool) : bval m f < 2 ^ m := by
  induction m with
  | zero => simp [bval]
  | succ m ih => unfold bval; rw [Nat.pow_succ]; split <;> omega
theorem bval_congr {m : Nat} {f g : Nat → Bool} (h : ∀ j, j < m → f j = g j) : bval m f = bval m g := by
  induction m with
  | zero => rfl
  | succ m ih => unfold bval; rw [ih (fun j hj => h j (by omega)), h m (by omega)]
theorem bval_bit (m : Nat) (f : Nat → Bool) (j : Nat) : (bval m f).testBit j = (decide (j < m) && f j) := by
  induction m with
  | zero => simp [bval]
  | succ m ih =>
    have hl := bval_lt m f
    unfold bval
    by_cases hf : f m = true
    · rw [if_pos hf, Nat.add_comm]
      rcases Nat.lt_trichotomy j m with h | h | h
      · rw [Nat.testBit_two_pow_add_gt h, ih]; simp [h, Nat.lt_succ_of_lt h]
      · subst h; rw [Nat.testBit_two_pow_add_eq, Nat.testBit_lt_two_pow hl]; simp [hf]
      · have : 2 ^ m + bval m f < 2 ^ j := Nat.lt_of_lt_of_le (by rw [Nat.pow_succ]; omega : 2 ^ m + bval m f < 2 ^ (m + 1)) (Nat.pow_le_pow_right (by decide) h)
        rw [Nat.testBit_lt_two_pow this]
        simp; omega
    · rw [if_neg hf, Nat.add_zero, ih]
      by_cases e : j = m
      · subst e; simp [hf]
      · have : decide (j < m) = decide (j < m + 1) := decide_eq_decide.2 (by omega)
        rw [this]
theorem bval_of (m x : Nat) : bval m (fun j => x.testBit j) = x % 2 ^ m := by
  apply Nat.eq_of_testBit_eq
  intro j
  rw [bval_bit, Nat.testBit_mod_two_pow]
theorem bval_eq {m x : Nat} {f : Nat → Bool} (h : ∀ j, j < m → f j = x.testBit j) : bval m f = x % 2 ^ m := (bval_congr h).trans (bval_of m x)
theorem bval_inj {m : Nat} {f g : Nat → Bool} (h : bval m f = bval m g) : ∀ j, j < m → f j = g j := fun j hj => by
  have := congrArg (fun x => Nat.testBit x j) h
  simp only [bval_bit] at this
  simpa [hj] using this
/-- What some literals say, out of gates. -/
structure Rw (n : Nat) (cs : List (List Nat)) (n' : Nat) (cs' : List (List Nat)) (i : Nat) (o : List Nat) (f : (Nat → Bool) → Nat → Bool) : Prop where
  le : n ≤ n'
  sub : ∀ c, c ∈ cs → c ∈ cs'
  fit : ∀ j, j < i → o.getD j 0 / 2 < n'
  val : ∀ be, Mod cs' be → ∀ j, j < i → lt_ be (o.getD j 0) = f be j
theorem Rw.zero (n : Nat) (cs : List (List Nat)) (o : List Nat) (f : (Nat → Bool) → Nat → Bool) : Rw n cs n cs 0 o f := ⟨Nat.le_refl _, fun _ h => h, fun j h => by omega, fun _ _ j h => by omega⟩
theorem setN (l : List Nat) (i j x : Nat) (hi : i < l.length) : (l.set i x).getD j 0 = if j = i then x else l.getD j 0 := by
  simp only [List.getD_eq_getElem?_getD, List.getElem?_set]
  by_cases h : i = j
  · subst h; simp [hi]
  · simp [h, Ne.symm h, show ¬ j = i from fun e => h e.symm]
theorem Rw.step {n n1 n2 i x : Nat} {cs cs1 cs2 : List (List Nat)} {o : List Nat} {f : (Nat → Bool) → Nat → Bool} {g : (Nat → Bool) → Bool} (h : Rw n cs n1 cs1 i o f) (k : GR n1 cs1 n2 cs2 x g) (hl : i < o.length) (e : ∀ be, Mod cs2 be → g be = f be i) : Rw n cs n2 cs2 (i + 1) (o.set i x) f where
  le := Nat.le_trans h.le k.1
  sub := fun c hc => k.2.1 c (h.sub c hc)
  fit := fun j hj => by
    rw [setN _ _ _ _ hl]
    by_cases q : j = i
    · rw [if_pos q]; exact k.2.2.1
    · rw [if_neg q]; have := h.fit j (by omega); have := k.1; omega
  val := fun be hm j hj => by
    rw [setN _ _ _ _ hl]
    by_cases q : j = i
    · rw [if_pos q, q, k.2.2.2 be hm, e be hm]
    · rw [if_neg q]; exact h.val be (hm.sub k.2.1) j (by omega)
theorem Rw.mono {n n1 n2 i : Nat} {cs cs1 cs2 : List (List Nat)} {o : List Nat} {f : (Nat → Bool) → Nat → Bool} (h : Rw n cs n1 cs1 i o f) (hn : n1 ≤ n2) (hs : ∀ c, c ∈ cs1 → c ∈ cs2) : Rw n cs n2 cs2 i o f := ⟨Nat.le_trans h.le hn, fun c hc => hs c (h.sub c hc), fun j hj => by have := h.fit j hj; omega, fun be hm j hj => h.val be (hm.sub hs) j hj⟩
theorem Rw.trans {n n1 n2 m m' : Nat} {cs cs1 cs2 : List (List Nat)} {o o' : List Nat} {f g : (Nat → Bool) → Nat → Bool} (h : Rw n cs n1 cs1 m o f) (k : Rw n1 cs1 n2 cs2 m' o' g) : Rw n cs n2 cs2 m' o' g := ⟨Nat.le_trans h.le k.le, fun c hc => k.sub c (h.sub c hc), k.fit, k.val⟩
theorem Rw.eq {n n1 m : Nat} {cs cs1 : List (List Nat)} {o : List Nat} {f g : (Nat → Bool) → Nat → Bool} (h : Rw n cs n1 cs1 m o f) (e : ∀ be, Mod cs1 be → ∀ j, j < m → f be j = g be j) : Rw n cs n1 cs1 m o g := ⟨h.le, h.sub, h.fit, fun be hm j hj => (h.val be hm j hj).trans (e be hm j hj)⟩
/-! ### Rows in memory that gates leave alone -/
def blkOf (A : Option Addr) : Option Nat := A.map (·.block)
theorem RdW.tchS {S : Nat → Prop} {w w' : World} {sz n : Nat} {A : Option Addr} {cells : List Value} (h : RdW w sz n A cells) (k : Tch S w w') (hs : ∀ c, blkOf A = some c → ¬ S c) : RdW w' sz n A cells :=
  ⟨h.1, h.2.1, fun hn => by
    obtain ⟨b, off, e, hb, hc⟩ := h.2.2 hn
    exact ⟨b, off, e, Nat.lt_of_lt_of_le hb k.size, fun j u hu => (cell_tch k hb (hs b (by rw [e]; rfl))).trans (hc j u hu)⟩⟩
/-- A row that reads, in a block that is not of F. -/
def RdX (F : Nat → Prop) (w : World) (m : Nat) (A : Option Addr) (cells : List Value) : Prop := RdW w 1 m A cells ∧ ∀ c, blkOf A = some c → c < w.heap.size ∧ ¬ F c
theorem RdX.tch0 {F : Nat → Prop} {w w' : World} {m : Nat} {A : Option Addr} {cells : List Value} (h : RdX F w m A cells) (k : Tch N0 w w') : RdX F w' m A cells := ⟨h.1.tch0 k, fun c hc => ⟨Nat.lt_of_lt_of_le (h.2 c hc).1 k.size, (h.2 c hc).2⟩⟩
theorem RdX.st {F S : Nat → Prop} {w w' : World} {m : Nat} {A : Option Addr} {cells : List Value} (h : RdX F w m A cells) (k : Tch S w w') (hs : ∀ c, blkOf A = some c → ¬ S c) : RdX F w' m A cells := ⟨h.1.tchS k hs, fun c hc => ⟨Nat.lt_of_lt_of_le (h.2 c hc).1 k.size, (h.2 c hc).2⟩⟩
theorem RdX.mv {F F' : Nat → Prop} {w w' : World} {m : Nat} {A : Option Addr} {cells : List Value} (h : RdX F w m A cells) (k : Mv F F' w w') : RdX F' w' m A cells := ⟨h.1.tchS k.1 (fun c hc => (h.2 c hc).2), fun c hc => ⟨Nat.lt_of_lt_of_le (h.2 c hc).1 k.1.size, fun e => (k.2 c e).elim (h.2 c hc).2 (fun q => by have := (h.2 c hc).1; omega)⟩⟩
theorem RdX.lt {F : Nat → Prop} {w : World} {m : Nat} {A : Option Addr} {cells : List Value} (h : RdX F w m A cells) : ∀ c, blkOf A = some c → c < w.heap.size := fun c hc => (h.2 c hc).1
theorem RdX.of {F : Nat → Prop} {w : World} {m g : Nat} {cells : List Value} (h : Blk w g 3 cells) (hl : cells.length = m) (hm : m ≤ 9223372036854775807) (hF : ¬ F g) : RdX F w m (some ⟨g, 0, none⟩) cells := ⟨h.rd 1 m (by omega) hm, fun c hc => by injection hc with hc; subst hc; exact ⟨h.lt, hF⟩⟩
theorem RdX.ofP {F : Nat → Prop} {w : World} {m g : Nat} {cells sp : List Value} (h : Blk w g 3 (cells ++ sp)) (hl : cells.length = m) (hm : m ≤ 9223372036854775807) (hF : ¬ F g) : RdX F w m (some ⟨g, 0, none⟩) cells := ⟨h.rdP 1 m (by omega) hm, fun c hc => by injection hc with hc; subst hc; exact ⟨h.lt, hF⟩⟩
theorem nats_ints (l : List Nat) : nats l = ints .i64 (l.map fun (x : Nat) => (x : Int)) := by simp [nats, ints]
/-- What comes of a call that makes a row. -/
def RowR (F : Nat → Prop) (p n : Nat) (cs : List (List Nat)) (I : Nat → Prop) (w : World) (m d : Nat) (f : (Nat → Bool) → Nat → Bool) (v : Value) (w' : World) : Prop :=
  ∃ F' n' cs' g r, v = .slice (some ⟨g, 0, none⟩) m m ∧ r.length = m ∧ RdX F' w' m (some ⟨g, 0, none⟩) (nats r) ∧ w.heap.size ≤ g ∧ GObj F' w' p n' cs' I ∧ Mv F F' w w' ∧ Rw n cs n' cs' m r f ∧ n' ≤ n + d
theorem mz_nats (k : Nat) : (madeCells #[Value.int .i64 0] (k * 1)).toList = nats (List.replicate k 0) ++ [] := by
  rw [Nat.mul_one, show (#[Value.int .i64 0] : Array Value) = (Value.int .i64 0).cells from rfl, madeOne _ rfl]; simp [nats]
end Go.Proofs.YtnlecdpiccgdpaaV
