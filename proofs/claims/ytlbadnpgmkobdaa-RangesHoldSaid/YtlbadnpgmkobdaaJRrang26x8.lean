/- Texts laid together: Walks of functions of the program and of the document's texts. The conditions stand with each theorem. Walks of functions of the program and of the document's texts. The conditions stand with each theorem. Walks of functions of the program and of the document's texts. The conditions stand with each theorem. -/
import Derived.Test.YtlbadnpgmkobdaaJRrang26x1
import Derived.Test.YtlbadnpgmkobdaaProg
import Derived.Test.YtlbadnpgmkobdaaX1
import Derived.Test.YtlbadnpgmkobdaaJRrang26x6
import Derived.Test.YtlbadnpgmkobdaaJRrang26x3
set_option linter.unusedVariables false
set_option linter.unusedSimpArgs false
namespace Go.Proofs.YtlbadnpgmkobdaaV
open Go Go.RowKit Go.Proofs

theorem node_casesRA {N : List Nd} {most : Int} {i : Nat} (hJ : TJ N most) (hB : TB N) (hi : i < N.length) (A : Nat → Nat → Prop) (hA : ∀ x, pt i x → A (widF N x).toNat x.toNat) (l : List K) (P : Int → Int → Int → Int → Int → Int → K → Prop)
  (h20 : ∀ (nw wd up : Nat) (xa xb xc : Int) (x y z : K) (lo V : Nat), 1 ≤ nw → nw ≤ 64 → V < pw nw → P 20 nw xa xb xc V (rone 20 nw wd up x y z lo V))
  (h21 : ∀ (nw wd up a : Nat) (xb xc xv : Int) (x y z : K) (lo V : Nat), 1 ≤ nw → nw ≤ 64 → a < 256 → P 21 nw a xb xc xv (rone 21 nw wd up x y z lo V))
  (h15 : ∀ (O wd up a : Nat) (xb xc xv : Int) (y z : K) (lo V : Nat), (O = 15 ∨ O = 16) → a < i → widF N ((a : Nat) : Int) = ((wd : Nat) : Int) → A wd a → 1 ≤ wd → wd ≤ 64 → P O wd a xb xc xv (rone O wd wd up (kg l a) y z lo V))
  (h2 : ∀ (nw wd up a b : Nat) (xc xv : Int) (z : K) (lo V : Nat) (by_ O : Nat), a < i → b < i → widF N ((a : Nat) : Int) = ((wd : Nat) : Int) → A wd a → A wd b → 1 ≤ wd → wd ≤ 64 → (1 ≤ O ∧ O ≤ 14) → b < N.length → nV (nth N b) = ((by_ : Nat) : Int) → nw = (if O = 12 ∨ O = 13 ∨ O = 14 then 1 else wd) → P O nw a b xc xv (rone O nw wd up (kg l a) (kg l b) z lo V))
  (h22 : ∀ (nw wd up a b c : Nat) (xv : Int) (lo V : Nat), a < i → b < i → c < i → A 1 a → A nw b → A nw c → nw ≤ 64 → P 22 nw a b c xv (rone 22 nw wd up (kg l a) (kg l b) (kg l c) lo V))
  (h23 : ∀ (nw wd up a lo : Nat) (xc xv : Int) (y z : K) (V : Nat), a < i → A wd a → wd ≤ 64 → 1 ≤ nw → lo + nw ≤ wd → P 23 nw a lo xc xv (rone 23 nw wd up (kg l a) y z lo V))
  (h24 : ∀ (wd up a b : Nat) (xc xv : Int) (z : K) (lo V : Nat), a < i → b < i → widF N ((b : Nat) : Int) = ((up : Nat) : Int) → A wd a → A up b → 1 ≤ wd → 1 ≤ up → wd + up ≤ 64 → P 24 ((wd + up : Nat) : Int) a b xc xv (rone 24 (wd + up) wd up (kg l a) (kg l b) z lo V))
  (h25 : ∀ (O nw wd up a : Nat) (xb xc xv : Int) (y z : K) (lo V : Nat), (O = 25 ∨ O = 26) → a < i → widF N ((a : Nat) : Int) = ((wd : Nat) : Int) → A wd a → 1 ≤ wd → wd < nw → nw ≤ 64 → P O nw a xb xc xv (rone O nw wd up (kg l a) y z lo V)) :
  P (nO (nth N i)) (nW (nth N i)) (nA (nth N i)) (nB (nth N i)) (nC (nth N i)) (nV (nth N i)) (ronN N l (nth N i)) := by
 have hn := hB i hi
 have hwr := hJ.wr _ (nth_mem hi)
 have hwf := hJ.ti.wf _ (nth_mem hi)
 have hu := hwf.2.2.2.2.2
 unfold u64 at hu
 generalize nth N i = n at hn hwr hwf hu ⊢
 have key : ∀ (o w a b c v : Int) (x : K), nO n = o → nW n = w → nA n = a → nB n = b → nC n = c → nV n = v → ronN N l n = x → P o w a b c v x → P (nO n) (nW n) (nA n) (nB n) (nC n) (nV n) (ronN N l n) := by
  rintro o w a b c v x rfl rfl rfl rfl rfl rfl rfl h; exact h
 have tn : ∀ {x : Int}, 0 ≤ x → x = ((x.toNat : Nat) : Int) := fun h => (Int.toNat_of_nonneg h).symm
 have lt : ∀ {x : Int}, pt i x → x.toNat < i := fun p => by have := p.1; have := p.2; omega
 have wd : ∀ {x : Int}, pt i x → 1 ≤ widF N x ∧ widF N x ≤ 64 := fun p => hJ.wid p.1 (by have := p.2; omega)
 have we : ∀ {x : Int}, pt i x → widF N ((x.toNat : Nat) : Int) = (((widF N x).toNat : Nat) : Int) := fun p => by
  rw [Int.toNat_of_nonneg p.1, Int.toNat_of_nonneg (by have := (wd p).1; omega)]
 have hwn : nW n = (((nW n).toNat : Nat) : Int) := tn (by omega)
 rcases hn with h | h | ⟨h, a, e⟩ | ⟨h, a, b, e, e2⟩ | ⟨h, a, b, c, e, e2, e3⟩ | ⟨h, a, b, e⟩ | ⟨h, a, b, e⟩ | ⟨h, a, e⟩
 ·
  refine key _ _ _ _ _ _ _ h.1 hwn rfl rfl rfl (tn hu.1) ?_ (h20 (nW n).toNat (widF N (nA n)).toNat (widF N (nB n)).toNat (nA n) (nB n) (nC n) (kg l (nA n).toNat) (kg l (nB n).toNat) (kg l (nC n).toNat) (nB n).toNat (nV n).toNat (by omega) (by omega) ?_)
  ·
   unfold ronN; rw [show (nO n).toNat = 20 by omega]
  ·
   have h2 := h.2.2
   have e : ((pw (nW n).toNat : Nat) : Int) = 2 ^ (nW n).toNat := by (unfold pw; simp)
   rw [← e] at h2; omega
 ·
  refine key _ _ _ _ _ _ _ h.1 hwn (tn h.2.1) rfl rfl rfl ?_ (h21 (nW n).toNat (widF N (nA n)).toNat (widF N (nB n)).toNat (nA n).toNat (nB n) (nC n) (nV n) (kg l (nA n).toNat) (kg l (nB n).toNat) (kg l (nC n).toNat) (nB n).toNat (nV n).toNat (by omega) (by omega) (by omega))
  unfold ronN; rw [show (nO n).toNat = 21 by omega]
 ·
  have w1 := wd a
  have en : (nW n).toNat = (widF N (nA n)).toNat := by rw [e]
  have hO : (nO n).toNat = 15 ∨ (nO n).toNat = 16 := by omega
  refine key _ _ _ _ _ _ _ (tn (by omega)) (by rw [e]; exact tn (by omega)) (tn a.1) rfl rfl rfl ?_ (h15 (nO n).toNat (widF N (nA n)).toNat (widF N (nB n)).toNat (nA n).toNat (nB n) (nC n) (nV n) (kg l (nB n).toNat) (kg l (nC n).toNat) (nB n).toNat (nV n).toNat hO (lt a) (we a) (hA _ a) (by omega) (by omega))
  unfold ronN; rw [en]
 ·
  have w1 := wd a
  have lb := lt b
  have hy := hA _ b
  rw [← e] at hy
  have hvb := (hJ.ti.wf _ (nth_mem (show (nB n).toNat < N.length by omega))).2.2.2.2.2
  unfold u64 at hvb
  refine key _ _ _ _ _ _ _ (tn (by omega)) hwn (tn a.1) (tn b.1) rfl rfl ?_ (h2 (nW n).toNat (widF N (nA n)).toNat (widF N (nB n)).toNat (nA n).toNat (nB n).toNat (nC n) (nV n) (kg l (nC n).toNat) (nB n).toNat (nV n).toNat (nV (nth N (nB n).toNat)).toNat (nO n).toNat (lt a) lb (we a) (hA _ a) hy (by omega) (by omega) (by omega) (by omega) (tn hvb.1) ?_)
  ·
   rfl
  ·
   rw [e2]
   by_cases q : nO n = 12 ∨ nO n = 13 ∨ nO n = 14
   ·
    rw [if_pos q, if_pos (by omega)]; rfl
   ·
    rw [if_neg q, if_neg (by omega)]
 ·
  have w1 := wd a
  have w2 := wd b
  have hx := hA _ a
  have hy := hA _ b
  have hz := hA _ c
  rw [e] at hx
  rw [← e2] at hz
  rw [← e3] at hy hz
  refine key _ _ _ _ _ _ _ h hwn (tn a.1) (tn b.1) (tn c.1) rfl ?_ (h22 (nW n).toNat (widF N (nA n)).toNat (widF N (nB n)).toNat (nA n).toNat (nB n).toNat (nC n).toNat (nV n) (nB n).toNat (nV n).toNat (lt a) (lt b) (lt c) hx hy hz (by omega))
  unfold ronN; rw [show (nO n).toNat = 22 by omega]
 ·
  have w1 := wd a
  refine key _ _ _ _ _ _ _ h hwn (tn a.1) (tn b) rfl rfl ?_ (h23 (nW n).toNat (widF N (nA n)).toNat (widF N (nB n)).toNat (nA n).toNat (nB n).toNat (nC n) (nV n) (kg l (nB n).toNat) (kg l (nC n).toNat) (nV n).toNat (lt a) (hA _ a) (by omega) (by omega) (by omega))
  unfold ronN; rw [show (nO n).toNat = 23 by omega]
 ·
  have w1 := wd a
  have w2 := wd b
  have en : (nW n).toNat = (widF N (nA n)).toNat + (widF N (nB n)).toNat := by omega
  refine key _ _ _ _ _ _ _ h (by rw [← en]; exact hwn) (tn a.1) (tn b.1) rfl rfl ?_ (h24 (widF N (nA n)).toNat (widF N (nB n)).toNat (nA n).toNat (nB n).toNat (nC n) (nV n) (kg l (nC n).toNat) (nB n).toNat (nV n).toNat (lt a) (lt b) (we b) (hA _ a) (hA _ b) (by omega) (by omega) (by omega))
  unfold ronN; rw [show (nO n).toNat = 24 by omega, en]
 ·
  have w1 := wd a
  have hO : (nO n).toNat = 25 ∨ (nO n).toNat = 26 := by omega
  refine key _ _ _ _ _ _ _ (tn (by omega)) hwn (tn a.1) rfl rfl rfl ?_ (h25 (nO n).toNat (nW n).toNat (widF N (nA n)).toNat (widF N (nB n)).toNat (nA n).toNat (nB n) (nC n) (nV n) (kg l (nB n).toNat) (kg l (nC n).toNat) (nB n).toNat (nV n).toNat hO (lt a) (we a) (hA _ a) (by omega) (by omega) (by omega))
  rfl

/-- Words as a slice's cells. -/
def us (l : List Nat) : List Value := l.map fun (n : Nat) => .int .u64 ((n : Nat) : Int)
theorem us_at {l : List Nat} {i : Nat} (h : i < l.length) : (us l)[i]? = some (.int .u64 ((l.getD i 0 : Nat) : Int)) := by
 unfold us; rw [List.getElem?_map, List.getD_eq_getElem?_getD, List.getElem?_eq_getElem h]; rfl
theorem us_app (l : List Nat) (x : Nat) : us (l ++ [x]) = us l ++ [.int .u64 ((x : Nat) : Int)] := by simp [us]

set_option maxRecDepth 100000 in
theorem vr20_ok (A : Option Addr) (cp : Nat) (most : Int) (N : List Nd) (B : Option Addr) (k cb : Nat) (vs : List Nat) (l : List K) (C : Option Addr) (m cc : Nat) (ins : List Int) (nw wd up : Nat) (xa xb xc : Int) (x y z : K) (lo V : Nat) (w : World) (hD : Own w 0 32 6 (.slice A N.length cp) N.length (ncs N)) (hV : RdW w 1 k B (us vs)) (hC : RdW w 1 m C (ints .u64 ins)) (hll : vs.length = k) (hnw : nw ≤ 64) (hV2 : V < pw nw) : Ret Try.prog 52 [.agg #[.slice A N.length cp, .int .i64 most], .agg #[.int .i64 20, .int .i64 ((nw : Nat) : Int), .int .i64 xa, .int .i64 xb, .int .i64 xc, .int .u64 ((V : Nat) : Int)], .slice B k cb, .slice C m cc] w fun v w' => ∃ r : Nat, v = .int .u64 ((r : Nat) : Int) ∧ GoodR nw (rone 20 nw wd up x y z lo V) r ∧ Tch N0 w w' := by
 refine enter Try.func52 rfl rfl ?_
 refine zQ ?_
 refine st (by rfl) (S_new (v := .pointer (some ⟨w.heap.size, 0, none⟩)) (ob := .cells #[.slice A N.length cp, .int .i64 most] 27) (by kernel_rfl) fun w1 hT2 hs3 hB4 => ?_)
 replace hB4 : Blk w1 (w.heap.size) 27 [.slice A N.length cp, .int .i64 most] := hB4
 have hT0 := hT2
 have hD := hD.tch0 hT2
 have hVr := hV.tch0 hT0
 have hCr := hC.tch0 hT0
 have z9 := hT0.size
 have l10 := hB4.lt
 refine st (by rfl) (S_new (v := .pointer (some ⟨w1.heap.size, 0, none⟩)) (ob := .cells #[.int .i64 20, .int .i64 ((nw : Nat) : Int), .int .i64 xa, .int .i64 xb, .int .i64 xc, .int .u64 ((V : Nat) : Int)] 32) (by kernel_rfl) fun w5 hT6 hs7 hB8 => ?_)
 replace hB8 : Blk w5 (w1.heap.size) 32 [.int .i64 20, .int .i64 ((nw : Nat) : Int), .int .i64 xa, .int .i64 xb, .int .i64 xc, .int .u64 ((V : Nat) : Int)] := hB8
 have hT0 := hT0.t0 hT6
 have hD := hD.tch0 hT6
 have hVr := hV.tch0 hT0
 have hCr := hC.tch0 hT0
 have hB4 := hB4.tch0 hT6
 refine zS [(8, .int .u64 0)] ?_
 refine op_nil ?_
 refine W_seq ?_
 refine zQ ?_
 refine zS [(13, .pointer (some ⟨w1.heap.size, 0, none⟩))] ?_
 refine zL (.int .i64 20) ((hB8.cell 0).trans rfl) ?_
 refine op_nil ?_
 refine W_block ?_
 refine zQ ?_
 refine zS [(16, .bool true), (15, .bool true)] ?_
 refine zO true (fun _ => ?_) (fun h => nomatch h)
 refine zQ ?_
 refine zS [(17, .pointer (some ⟨w1.heap.size, 5, none⟩))] ?_
 refine zL (.int .u64 ((V : Nat) : Int)) ((hB8.cell 5).trans rfl) ?_
 refine zS [(8, .int .u64 ((V : Nat) : Int))] ?_
 refine op_nil ?_
 refine W_ret ?_
 exact ⟨_, Res_of (v := .int .u64 ((V : Nat) : Int)) (by kernel_rfl), ⟨_, rfl, goodR_const hV2, hT0⟩⟩

set_option maxRecDepth 100000 in
theorem vr21_ok (A : Option Addr) (cp : Nat) (most : Int) (N : List Nd) (B : Option Addr) (k cb : Nat) (vs : List Nat) (l : List K) (C : Option Addr) (m cc : Nat) (ins : List Int) (nw wd up a : Nat) (xb xc xv : Int) (x y z : K) (lo V : Nat) (w : World) (hD : Own w 0 32 6 (.slice A N.length cp) N.length (ncs N)) (hV : RdW w 1 k B (us vs)) (hC : RdW w 1 m C (ints .u64 ins)) (hll : vs.length = k) (hn1 : 1 ≤ nw) (hnw : nw ≤ 64) (ha : a < 256) : Ret Try.prog 52 [.agg #[.slice A N.length cp, .int .i64 most], .agg #[.int .i64 21, .int .i64 ((nw : Nat) : Int), .int .i64 ((a : Nat) : Int), .int .i64 xb, .int .i64 xc, .int .u64 xv], .slice B k cb, .slice C m cc] w fun v w' => ∃ r : Nat, v = .int .u64 ((r : Nat) : Int) ∧ GoodR nw (rone 21 nw wd up x y z lo V) r ∧ Tch N0 w w' := by
 have hCl := hC.1
 rw [ints_length] at hCl
 refine enter Try.func52 rfl rfl ?_
 refine zQ ?_
 refine st (by rfl) (S_new (v := .pointer (some ⟨w.heap.size, 0, none⟩)) (ob := .cells #[.slice A N.length cp, .int .i64 most] 27) (by kernel_rfl) fun w1 hT2 hs3 hB4 => ?_)
 replace hB4 : Blk w1 (w.heap.size) 27 [.slice A N.length cp, .int .i64 most] := hB4
 have hT0 := hT2
 have hD := hD.tch0 hT2
 have hVr := hV.tch0 hT0
 have hCr := hC.tch0 hT0
 have z9 := hT0.size
 have l10 := hB4.lt
 refine st (by rfl) (S_new (v := .pointer (some ⟨w1.heap.size, 0, none⟩)) (ob := .cells #[.int .i64 21, .int .i64 ((nw : Nat) : Int), .int .i64 ((a : Nat) : Int), .int .i64 xb, .int .i64 xc, .int .u64 xv] 32) (by kernel_rfl) fun w5 hT6 hs7 hB8 => ?_)
 replace hB8 : Blk w5 (w1.heap.size) 32 [.int .i64 21, .int .i64 ((nw : Nat) : Int), .int .i64 ((a : Nat) : Int), .int .i64 xb, .int .i64 xc, .int .u64 xv] := hB8
 have hT0 := hT0.t0 hT6
 have hD := hD.tch0 hT6
 have hVr := hV.tch0 hT0
 have hCr := hC.tch0 hT0
 have hB4 := hB4.tch0 hT6
 refine zS [(8, .int .u64 0)] ?_
 refine op_nil ?_
 refine W_seq ?_
 refine zQ ?_
 refine zS [(13, .pointer (some ⟨w1.heap.size, 0, none⟩))] ?_
 refine zL (.int .i64 21) ((hB8.cell 0).trans rfl) ?_
 refine op_nil ?_
 refine W_block ?_
 refine zQ ?_
 refine zS [(16, .bool false), (15, .bool false)] ?_
 refine zO false (fun h => nomatch h) (fun _ => ?_)
 refine zQ ?_
 refine zS [(20, .bool true), (19, .bool true)] ?_
 refine zO true (fun _ => ?_) (fun h => nomatch h)
 refine W_seq ?_
 refine zQ ?_
 refine zS [(21, .pointer (some ⟨w1.heap.size, 2, none⟩))] ?_
 refine zL (.int .i64 ((a : Nat) : Int)) ((hB8.cell 2).trans rfl) ?_
 refine zS [(23, .slice C m cc), (24, .int .i64 (m : Int)), (25, .bool (decide (((a : Nat) : Int) < (m : Int))))] ?_
 refine zO (decide (((a : Nat) : Int) < (m : Int))) (fun hc11 => ?_) (fun hc11 => ?_)
 ·
  replace hc11 : ((a : Nat) : Int) < (m : Int) := (of_decide_eq_true hc11)
  refine W_seq ?_
  refine W_draw (fun w' => RdW w' 1 k B (us vs) ∧ RdW w' 1 m C (ints .u64 ins) ∧ Own w' 0 32 6 (.slice A N.length cp) N.length (ncs N) ∧ Blk w' (w.heap.size) 27 [.slice A N.length cp, .int .i64 most] ∧ Blk w' (w1.heap.size) 32 [.int .i64 21, .int .i64 ((nw : Nat) : Int), .int .i64 ((a : Nat) : Int), .int .i64 xb, .int .i64 xc, .int .u64 xv]) (by kernel_rfl) (by kernel_rfl) (by kernel_rfl) fun w12 hT13 hh14 => ?_
  have hT0 := hT0.t0 hT13
  have hD := hD.tch0 hT13
  have hVr := hV.tch0 hT0
  have hCr := hC.tch0 hT0
  have hB4 := hB4.tch0 hT13
  have hB8 := hB8.tch0 hT13
  refine zK [0, 2, 3] #[true, false, true, true, false, false, false, false, false] [(26, .pointer (some ⟨w1.heap.size, 1, none⟩)), (28, .slice C m cc), (29, .pointer (some ⟨w1.heap.size, 2, none⟩))] ⟨hVr, hCr, hD, hB4, hB8⟩ ?_
  refine zV 1 rfl (.int .i64 ((nw : Nat) : Int)) (fun _ ⟨hVr, hCr, hD, hB4, hB8⟩ => R_load (v := .int .i64 ((nw : Nat) : Int)) (by kernel_rfl) (by kernel_rfl) ((hB8.cell 1).trans rfl)) ⟨hVr, hCr, hD, hB4, hB8⟩ ?_
  refine zV 4 rfl (.int .i64 ((a : Nat) : Int)) (fun _ ⟨hVr, hCr, hD, hB4, hB8⟩ => R_load (v := .int .i64 ((a : Nat) : Int)) (by kernel_rfl) (by kernel_rfl) ((hB8.cell 2).trans rfl)) ⟨hVr, hCr, hD, hB4, hB8⟩ ?_
  refine zV 5 rfl (ptrAt C a) (fun _ ⟨hVr, hCr, hD, hB4, hB8⟩ => R_indexRd1 (len := m) (cap := cc) (k := .i64) (i := ((a : Nat) : Int)) (e := 30) a hCr (by kernel_rfl) (by kernel_rfl) (by kernel_rfl) (by kernel_rfl) rfl (by omega)) ⟨hVr, hCr, hD, hB4, hB8⟩ ?_
  refine zV 6 rfl (.int .u64 (ins.getD a 0)) (fun _ ⟨hVr, hCr, hD, hB4, hB8⟩ => R_loadRd (v := .int .u64 (ins.getD a 0)) hCr (by omega) (by kernel_rfl) (by kernel_rfl) (ints_at .u64 ins (by omega))) ⟨hVr, hCr, hD, hB4, hB8⟩ ?_
  refine zD 7 rfl (S_call (args := [.int .i64 ((nw : Nat) : Int), .int .u64 (ins.getD a 0)]) (by kernel_rfl) (rcut_ok ((nw : Nat) : Int) (ins.getD a 0) _) ?_)
  rintro _ w15 ⟨rfl, hT16⟩
  have hT0 := hT0.t0 hT16
  have hD := hD.tch0 hT16
  have hVr := hV.tch0 hT0
  have hCr := hC.tch0 hT0
  have hB4 := hB4.tch0 hT16
  have hB8 := hB8.tch0 hT16
  refine ⟨⟨hVr, hCr, hD, hB4, hB8⟩, ?_⟩
  refine zK [8] #[true, true, true, true, true, true, true, true, true] [(8, .int .u64 (cutF ((nw : Nat) : Int) (ins.getD a 0)))] ⟨hVr, hCr, hD, hB4, hB8⟩ ?_
  refine d_done (by kernel_rfl) ?_
  refine W_ret ?_
  refine ⟨_, Res_of (v := .int .u64 (cutF ((nw : Nat) : Int) (ins.getD a 0))) (by kernel_rfl), ?_⟩
  obtain ⟨r, hr⟩ : ∃ r : Nat, cutF ((nw : Nat) : Int) (ins.getD a 0) = (r : Int) := ⟨(cutF ((nw : Nat) : Int) (ins.getD a 0)).toNat, by have := (cut_lt (w := ((nw : Nat) : Int)) (x := ins.getD a 0) (by omega)).1; omega⟩
  have hlt := (cut_lt (w := ((nw : Nat) : Int)) (x := ins.getD a 0) (by omega)).2
  rw [hr] at hlt
  have e : ((pw nw : Nat) : Int) = 2 ^ (((nw : Nat) : Int)).toNat := by (unfold pw; simp)
  rw [← e] at hlt
  exact ⟨r, by rw [hr], goodR_var (by omega), hT0⟩
 ·
  replace hc11 : (m : Int) ≤ ((a : Nat) : Int) := (Int.not_lt.1 (of_decide_eq_false hc11))
  refine W_skip ?_
  refine zQ ?_
  refine zS [(8, .int .u64 0)] ?_
  refine op_nil ?_
  refine W_ret ?_
  exact ⟨_, Res_of (v := .int .u64 0) (by kernel_rfl), ⟨0, rfl, goodR_var (pw_pos _), hT0⟩⟩

theorem una_all (O wd a : Nat) (w : World) (h1 : 1 ≤ wd) (h2 : wd ≤ 64) (ha : a < pw wd) (hO : O = 15 ∨ O = 16) : Ret Try.prog 89 [.int .i64 ((O : Nat) : Int), .int .i64 ((wd : Nat) : Int), .int .u64 ((a : Nat) : Int)] w fun v w' => ∃ X : Nat, v = .tuple #[.int .u64 ((cutN wd X : Nat) : Int), .int .i64 0] ∧ (O = 15 → X = 18446744073709551615 - a) ∧ Tch N0 w w' := by
 rcases hO with rfl | rfl
 ·
  exact (una15_ok wd a w h1 h2 ha).mono fun v w' q => ⟨_, q.1, fun _ => rfl, q.2⟩
 ·
  exact (una16_ok wd a w h1 h2 ha).mono fun v w' q => ⟨_, q.1, by simp, q.2⟩

set_option maxRecDepth 100000 in
theorem vr15_ok (A : Option Addr) (cp : Nat) (most : Int) (N : List Nd) (B : Option Addr) (k cb : Nat) (vs : List Nat) (l : List K) (C : Option Addr) (m cc : Nat) (ins : List Int) (wd up a : Nat) (xb xc xv : Int) (y z : K) (lo V : Nat) (w : World) (hD : Own w 0 32 6 (.slice A N.length cp) N.length (ncs N)) (hV : RdW w 1 k B (us vs)) (hC : RdW w 1 m C (ints .u64 ins)) (hll : vs.length = k) (h1 : 1 ≤ wd) (h2 : wd ≤ 64) (ha : a < k) (hfa : FitsR l vs wd a) : Ret Try.prog 52 [.agg #[.slice A N.length cp, .int .i64 most], .agg #[.int .i64 15, .int .i64 ((wd : Nat) : Int), .int .i64 ((a : Nat) : Int), .int .i64 xb, .int .i64 xc, .int .u64 xv], .slice B k cb, .slice C m cc] w fun v w' => ∃ r : Nat, v = .int .u64 ((r : Nat) : Int) ∧ GoodR wd (rone 15 wd wd up (kg l a) y z lo V) r ∧ Tch N0 w w' := by
 obtain ⟨hka, hva, hsa⟩ := hfa
 have uaa : vs.getD a 0 < 18446744073709551616 := Nat.lt_of_lt_of_le hva (pw64 (by omega))
 refine enter Try.func52 rfl rfl ?_
 refine zQ ?_
 refine st (by rfl) (S_new (v := .pointer (some ⟨w.heap.size, 0, none⟩)) (ob := .cells #[.slice A N.length cp, .int .i64 most] 27) (by kernel_rfl) fun w1 hT2 hs3 hB4 => ?_)
 replace hB4 : Blk w1 (w.heap.size) 27 [.slice A N.length cp, .int .i64 most] := hB4
 have hT0 := hT2
 have hD := hD.tch0 hT2
 have hVr := hV.tch0 hT0
 have hCr := hC.tch0 hT0
 have z9 := hT0.size
 have l10 := hB4.lt
 refine st (by rfl) (S_new (v := .pointer (some ⟨w1.heap.size, 0, none⟩)) (ob := .cells #[.int .i64 15, .int .i64 ((wd : Nat) : Int), .int .i64 ((a : Nat) : Int), .int .i64 xb, .int .i64 xc, .int .u64 xv] 32) (by kernel_rfl) fun w5 hT6 hs7 hB8 => ?_)
 replace hB8 : Blk w5 (w1.heap.size) 32 [.int .i64 15, .int .i64 ((wd : Nat) : Int), .int .i64 ((a : Nat) : Int), .int .i64 xb, .int .i64 xc, .int .u64 xv] := hB8
 have hT0 := hT0.t0 hT6
 have hD := hD.tch0 hT6
 have hVr := hV.tch0 hT0
 have hCr := hC.tch0 hT0
 have hB4 := hB4.tch0 hT6
 refine zS [(8, .int .u64 0)] ?_
 refine op_nil ?_
 refine W_seq ?_
 refine zQ ?_
 refine zS [(13, .pointer (some ⟨w1.heap.size, 0, none⟩))] ?_
 refine zL (.int .i64 15) ((hB8.cell 0).trans rfl) ?_
 refine op_nil ?_
 refine W_block ?_
 refine zQ ?_
 refine zS [(16, .bool false), (15, .bool false)] ?_
 refine zO false (fun h => nomatch h) (fun _ => ?_)
 refine zQ ?_
 refine zS [(20, .bool false), (19, .bool false)] ?_
 refine zO false (fun h => nomatch h) (fun _ => ?_)
 refine zQ ?_
 refine zS [(35, .bool false), (34, .bool false)] ?_
 refine zO false (fun h => nomatch h) (fun _ => ?_)
 refine zQ ?_
 refine zS [(53, .bool false), (52, .bool false)] ?_
 refine zO false (fun h => nomatch h) (fun _ => ?_)
 refine zQ ?_
 refine zS [(67, .bool false), (66, .bool false)] ?_
 refine zO false (fun h => nomatch h) (fun _ => ?_)
 refine zQ ?_
 refine zS [(86, .bool false), (85, .bool false)] ?_
 refine zO false (fun h => nomatch h) (fun _ => ?_)
 refine zQ ?_
 refine zS [(93, .bool false), (92, .bool false)] ?_
 refine zO false (fun h => nomatch h) (fun _ => ?_)
 refine W_seq ?_
 refine zQ ?_
 refine zS [(109, .bool true), (108, .bool true)] ?_
 refine zO true (fun _ => ?_) (fun h => nomatch h)
 refine W_skip ?_
 refine zW true (fun _ => ?_) (fun h => nomatch h)
 refine W_seq ?_
 refine W_draw (fun w' => RdW w' 1 k B (us vs) ∧ RdW w' 1 m C (ints .u64 ins) ∧ Own w' 0 32 6 (.slice A N.length cp) N.length (ncs N) ∧ Blk w' (w.heap.size) 27 [.slice A N.length cp, .int .i64 most] ∧ Blk w' (w1.heap.size) 32 [.int .i64 15, .int .i64 ((wd : Nat) : Int), .int .i64 ((a : Nat) : Int), .int .i64 xb, .int .i64 xc, .int .u64 xv]) (by kernel_rfl) (by kernel_rfl) (by kernel_rfl) fun w11 hT12 hh13 => ?_
 have hT0 := hT0.t0 hT12
 have hD := hD.tch0 hT12
 have hVr := hV.tch0 hT0
 have hCr := hC.tch0 hT0
 have hB4 := hB4.tch0 hT12
 have hB8 := hB8.tch0 hT12
 refine zK [0, 2, 4, 5] #[true, false, true, false, true, true, false, false, false, false, false, false, false, false, false] [(112, .pointer (some ⟨w1.heap.size, 0, none⟩)), (114, .pointer (some ⟨w1.heap.size, 1, none⟩)), (116, .slice B k cb), (117, .pointer (some ⟨w1.heap.size, 2, none⟩))] ⟨hVr, hCr, hD, hB4, hB8⟩ ?_
 refine zV 1 rfl (.int .i64 15) (fun _ ⟨hVr, hCr, hD, hB4, hB8⟩ => R_load (v := .int .i64 15) (by kernel_rfl) (by kernel_rfl) ((hB8.cell 0).trans rfl)) ⟨hVr, hCr, hD, hB4, hB8⟩ ?_
 refine zV 3 rfl (.int .i64 ((wd : Nat) : Int)) (fun _ ⟨hVr, hCr, hD, hB4, hB8⟩ => R_load (v := .int .i64 ((wd : Nat) : Int)) (by kernel_rfl) (by kernel_rfl) ((hB8.cell 1).trans rfl)) ⟨hVr, hCr, hD, hB4, hB8⟩ ?_
 refine zV 6 rfl (.int .i64 ((a : Nat) : Int)) (fun _ ⟨hVr, hCr, hD, hB4, hB8⟩ => R_load (v := .int .i64 ((a : Nat) : Int)) (by kernel_rfl) (by kernel_rfl) ((hB8.cell 2).trans rfl)) ⟨hVr, hCr, hD, hB4, hB8⟩ ?_
 refine zV 7 rfl (ptrAt B a) (fun _ ⟨hVr, hCr, hD, hB4, hB8⟩ => R_indexRd1 (len := k) (cap := cb) (k := .i64) (i := ((a : Nat) : Int)) (e := 30) a hVr (by kernel_rfl) (by kernel_rfl) (by kernel_rfl) (by kernel_rfl) rfl (by omega)) ⟨hVr, hCr, hD, hB4, hB8⟩ ?_
 refine zV 8 rfl (.int .u64 ((vs.getD a 0 : Nat) : Int)) (fun _ ⟨hVr, hCr, hD, hB4, hB8⟩ => R_loadRd (v := .int .u64 ((vs.getD a 0 : Nat) : Int)) hVr (by omega) (by kernel_rfl) (by kernel_rfl) (us_at (by omega))) ⟨hVr, hCr, hD, hB4, hB8⟩ ?_
 refine zD 9 rfl (S_call (args := [.int .i64 15, .int .i64 ((wd : Nat) : Int), .int .u64 ((vs.getD a 0 : Nat) : Int)]) (by kernel_rfl) (una_all 15 wd (vs.getD a 0) _ h1 h2 hva (by omega)) ?_)
 rintro _ w14 ⟨X16, rfl, hX17, hT15⟩
 have hT0 := hT0.t0 hT15
 have hD := hD.tch0 hT15
 have hVr := hV.tch0 hT0
 have hCr := hC.tch0 hT0
 have hB4 := hB4.tch0 hT15
 have hB8 := hB8.tch0 hT15
 refine ⟨⟨hVr, hCr, hD, hB4, hB8⟩, ?_⟩
 refine zK [10, 11, 12, 13, 14] #[true, true, true, true, true, true, true, true, true, true, true, true, true, true, true] [(111, .tuple #[.int .u64 ((cutN wd X16 : Nat) : Int), .int .i64 0]), (122, .int .u64 ((cutN wd X16 : Nat) : Int)), (123, .int .i64 0), (9, .int .u64 ((cutN wd X16 : Nat) : Int)), (10, .int .i64 0)] ⟨hVr, hCr, hD, hB4, hB8⟩ ?_
 refine d_done (by kernel_rfl) ?_
 refine zQ ?_
 refine zS [(124, .int .u64 ((cutN wd X16 : Nat) : Int)), (8, .int .u64 ((cutN wd X16 : Nat) : Int))] ?_
 refine op_nil ?_
 refine W_ret ?_
 exact ⟨_, Res_of (v := .int .u64 ((cutN wd X16 : Nat) : Int)) (by kernel_rfl), ⟨_, rfl, goodR_una (.inl rfl) h2 hka hsa hva (by assumption), hT0⟩⟩

set_option maxRecDepth 100000 in
theorem vr16_ok (A : Option Addr) (cp : Nat) (most : Int) (N : List Nd) (B : Option Addr) (k cb : Nat) (vs : List Nat) (l : List K) (C : Option Addr) (m cc : Nat) (ins : List Int) (wd up a : Nat) (xb xc xv : Int) (y z : K) (lo V : Nat) (w : World) (hD : Own w 0 32 6 (.slice A N.length cp) N.length (ncs N)) (hV : RdW w 1 k B (us vs)) (hC : RdW w 1 m C (ints .u64 ins)) (hll : vs.length = k) (h1 : 1 ≤ wd) (h2 : wd ≤ 64) (ha : a < k) (hfa : FitsR l vs wd a) : Ret Try.prog 52 [.agg #[.slice A N.length cp, .int .i64 most], .agg #[.int .i64 16, .int .i64 ((wd : Nat) : Int), .int .i64 ((a : Nat) : Int), .int .i64 xb, .int .i64 xc, .int .u64 xv], .slice B k cb, .slice C m cc] w fun v w' => ∃ r : Nat, v = .int .u64 ((r : Nat) : Int) ∧ GoodR wd (rone 16 wd wd up (kg l a) y z lo V) r ∧ Tch N0 w w' := by
 obtain ⟨hka, hva, hsa⟩ := hfa
 have uaa : vs.getD a 0 < 18446744073709551616 := Nat.lt_of_lt_of_le hva (pw64 (by omega))
 refine enter Try.func52 rfl rfl ?_
 refine zQ ?_
 refine st (by rfl) (S_new (v := .pointer (some ⟨w.heap.size, 0, none⟩)) (ob := .cells #[.slice A N.length cp, .int .i64 most] 27) (by kernel_rfl) fun w1 hT2 hs3 hB4 => ?_)
 replace hB4 : Blk w1 (w.heap.size) 27 [.slice A N.length cp, .int .i64 most] := hB4
 have hT0 := hT2
 have hD := hD.tch0 hT2
 have hVr := hV.tch0 hT0
 have hCr := hC.tch0 hT0
 have z9 := hT0.size
 have l10 := hB4.lt
 refine st (by rfl) (S_new (v := .pointer (some ⟨w1.heap.size, 0, none⟩)) (ob := .cells #[.int .i64 16, .int .i64 ((wd : Nat) : Int), .int .i64 ((a : Nat) : Int), .int .i64 xb, .int .i64 xc, .int .u64 xv] 32) (by kernel_rfl) fun w5 hT6 hs7 hB8 => ?_)
 replace hB8 : Blk w5 (w1.heap.size) 32 [.int .i64 16, .int .i64 ((wd : Nat) : Int), .int .i64 ((a : Nat) : Int), .int .i64 xb, .int .i64 xc, .int .u64 xv] := hB8
 have hT0 := hT0.t0 hT6
 have hD := hD.tch0 hT6
 have hVr := hV.tch0 hT0
 have hCr := hC.tch0 hT0
 have hB4 := hB4.tch0 hT6
 refine zS [(8, .int .u64 0)] ?_
 refine op_nil ?_
 refine W_seq ?_
 refine zQ ?_
 refine zS [(13, .pointer (some ⟨w1.heap.size, 0, none⟩))] ?_
 refine zL (.int .i64 16) ((hB8.cell 0).trans rfl) ?_
 refine op_nil ?_
 refine W_block ?_
 refine zQ ?_
 refine zS [(16, .bool false), (15, .bool false)] ?_
 refine zO false (fun h => nomatch h) (fun _ => ?_)
 refine zQ ?_
 refine zS [(20, .bool false), (19, .bool false)] ?_
 refine zO false (fun h => nomatch h) (fun _ => ?_)
 refine zQ ?_
 refine zS [(35, .bool false), (34, .bool false)] ?_
 refine zO false (fun h => nomatch h) (fun _ => ?_)
 refine zQ ?_
 refine zS [(53, .bool false), (52, .bool false)] ?_
 refine zO false (fun h => nomatch h) (fun _ => ?_)
 refine zQ ?_
 refine zS [(67, .bool false), (66, .bool false)] ?_
 refine zO false (fun h => nomatch h) (fun _ => ?_)
 refine zQ ?_
 refine zS [(86, .bool false), (85, .bool false)] ?_
 refine zO false (fun h => nomatch h) (fun _ => ?_)
 refine zQ ?_
 refine zS [(93, .bool false), (92, .bool false)] ?_
 refine zO false (fun h => nomatch h) (fun _ => ?_)
 refine W_seq ?_
 refine zQ ?_
 refine zS [(109, .bool false), (108, .bool false)] ?_
 refine zO false (fun h => nomatch h) (fun _ => ?_)
 refine zR ?_
 refine zS [(110, .bool true), (108, .bool true)] ?_
 refine zO true (fun _ => ?_) (fun h => nomatch h)
 refine W_seq ?_
 refine W_draw (fun w' => RdW w' 1 k B (us vs) ∧ RdW w' 1 m C (ints .u64 ins) ∧ Own w' 0 32 6 (.slice A N.length cp) N.length (ncs N) ∧ Blk w' (w.heap.size) 27 [.slice A N.length cp, .int .i64 most] ∧ Blk w' (w1.heap.size) 32 [.int .i64 16, .int .i64 ((wd : Nat) : Int), .int .i64 ((a : Nat) : Int), .int .i64 xb, .int .i64 xc, .int .u64 xv]) (by kernel_rfl) (by kernel_rfl) (by kernel_rfl) fun w11 hT12 hh13 => ?_
 have hT0 := hT0.t0 hT12
 have hD := hD.tch0 hT12
 have hVr := hV.tch0 hT0
 have hCr := hC.tch0 hT0
 have hB4 := hB4.tch0 hT12
 have hB8 := hB8.tch0 hT12
 refine zK [0, 2, 4, 5] #[true, false, true, false, true, true, false, false, false, false, false, false, false, false, false] [(112, .pointer (some ⟨w1.heap.size, 0, none⟩)), (114, .pointer (some ⟨w1.heap.size, 1, none⟩)), (116, .slice B k cb), (117, .pointer (some ⟨w1.heap.size, 2, none⟩))] ⟨hVr, hCr, hD, hB4, hB8⟩ ?_
 refine zV 1 rfl (.int .i64 16) (fun _ ⟨hVr, hCr, hD, hB4, hB8⟩ => R_load (v := .int .i64 16) (by kernel_rfl) (by kernel_rfl) ((hB8.cell 0).trans rfl)) ⟨hVr, hCr, hD, hB4, hB8⟩ ?_
 refine zV 3 rfl (.int .i64 ((wd : Nat) : Int)) (fun _ ⟨hVr, hCr, hD, hB4, hB8⟩ => R_load (v := .int .i64 ((wd : Nat) : Int)) (by kernel_rfl) (by kernel_rfl) ((hB8.cell 1).trans rfl)) ⟨hVr, hCr, hD, hB4, hB8⟩ ?_
 refine zV 6 rfl (.int .i64 ((a : Nat) : Int)) (fun _ ⟨hVr, hCr, hD, hB4, hB8⟩ => R_load (v := .int .i64 ((a : Nat) : Int)) (by kernel_rfl) (by kernel_rfl) ((hB8.cell 2).trans rfl)) ⟨hVr, hCr, hD, hB4, hB8⟩ ?_
 refine zV 7 rfl (ptrAt B a) (fun _ ⟨hVr, hCr, hD, hB4, hB8⟩ => R_indexRd1 (len := k) (cap := cb) (k := .i64) (i := ((a : Nat) : Int)) (e := 30) a hVr (by kernel_rfl) (by kernel_rfl) (by kernel_rfl) (by kernel_rfl) rfl (by omega)) ⟨hVr, hCr, hD, hB4, hB8⟩ ?_
 refine zV 8 rfl (.int .u64 ((vs.getD a 0 : Nat) : Int)) (fun _ ⟨hVr, hCr, hD, hB4, hB8⟩ => R_loadRd (v := .int .u64 ((vs.getD a 0 : Nat) : Int)) hVr (by omega) (by kernel_rfl) (by kernel_rfl) (us_at (by omega))) ⟨hVr, hCr, hD, hB4, hB8⟩ ?_
 refine zD 9 rfl (S_call (args := [.int .i64 16, .int .i64 ((wd : Nat) : Int), .int .u64 ((vs.getD a 0 : Nat) : Int)]) (by kernel_rfl) (una_all 16 wd (vs.getD a 0) _ h1 h2 hva (by omega)) ?_)
 rintro _ w14 ⟨X16, rfl, hX17, hT15⟩
 have hT0 := hT0.t0 hT15
 have hD := hD.tch0 hT15
 have hVr := hV.tch0 hT0
 have hCr := hC.tch0 hT0
 have hB4 := hB4.tch0 hT15
 have hB8 := hB8.tch0 hT15
 refine ⟨⟨hVr, hCr, hD, hB4, hB8⟩, ?_⟩
 refine zK [10, 11, 12, 13, 14] #[true, true, true, true, true, true, true, true, true, true, true, true, true, true, true] [(111, .tuple #[.int .u64 ((cutN wd X16 : Nat) : Int), .int .i64 0]), (122, .int .u64 ((cutN wd X16 : Nat) : Int)), (123, .int .i64 0), (9, .int .u64 ((cutN wd X16 : Nat) : Int)), (10, .int .i64 0)] ⟨hVr, hCr, hD, hB4, hB8⟩ ?_
 refine d_done (by kernel_rfl) ?_
 refine zQ ?_
 refine zS [(124, .int .u64 ((cutN wd X16 : Nat) : Int)), (8, .int .u64 ((cutN wd X16 : Nat) : Int))] ?_
 refine op_nil ?_
 refine W_ret ?_
 exact ⟨_, Res_of (v := .int .u64 ((cutN wd X16 : Nat) : Int)) (by kernel_rfl), ⟨_, rfl, goodR_una (.inr rfl) h2 hka hsa hva (by assumption), hT0⟩⟩

set_option maxRecDepth 100000 in
theorem vr2_ok (A : Option Addr) (cp : Nat) (most : Int) (N : List Nd) (B : Option Addr) (k cb : Nat) (vs : List Nat) (l : List K) (C : Option Addr) (m cc : Nat) (ins : List Int) (nw wd up a b : Nat) (xc xv : Int) (z : K) (lo V O : Nat) (w : World) (hD : Own w 0 32 6 (.slice A N.length cp) N.length (ncs N)) (hV : RdW w 1 k B (us vs)) (hC : RdW w 1 m C (ints .u64 ins)) (hll : vs.length = k) (hO : 1 ≤ O ∧ O ≤ 14) (h1 : 1 ≤ wd) (h2 : wd ≤ 64) (hwa : widF N ((a : Nat) : Int) = ((wd : Nat) : Int)) (ha : a < k) (hfa : FitsR l vs wd a) (hb : b < k) (hfb : FitsR l vs wd b) (hnw : nw = if O = 12 ∨ O = 13 ∨ O = 14 then 1 else wd) : Ret Try.prog 52 [.agg #[.slice A N.length cp, .int .i64 most], .agg #[.int .i64 ((O : Nat) : Int), .int .i64 ((nw : Nat) : Int), .int .i64 ((a : Nat) : Int), .int .i64 ((b : Nat) : Int), .int .i64 xc, .int .u64 xv], .slice B k cb, .slice C m cc] w fun v w' => ∃ r : Nat, v = .int .u64 ((r : Nat) : Int) ∧ GoodR nw (rone O nw wd up (kg l a) (kg l b) z lo V) r ∧ Tch N0 w w' := by
 obtain ⟨hka, hva, hsa⟩ := hfa
 have uaa : vs.getD a 0 < 18446744073709551616 := Nat.lt_of_lt_of_le hva (pw64 (by omega))
 obtain ⟨hkb, hvb, hsb⟩ := hfb
 have uab : vs.getD b 0 < 18446744073709551616 := Nat.lt_of_lt_of_le hvb (pw64 (by omega))
 refine enter Try.func52 rfl rfl ?_
 refine zQ ?_
 refine st (by rfl) (S_new (v := .pointer (some ⟨w.heap.size, 0, none⟩)) (ob := .cells #[.slice A N.length cp, .int .i64 most] 27) (by kernel_rfl) fun w1 hT2 hs3 hB4 => ?_)
 replace hB4 : Blk w1 (w.heap.size) 27 [.slice A N.length cp, .int .i64 most] := hB4
 have hT0 := hT2
 have hD := hD.tch0 hT2
 have hVr := hV.tch0 hT0
 have hCr := hC.tch0 hT0
 have z9 := hT0.size
 have l10 := hB4.lt
 refine st (by rfl) (S_new (v := .pointer (some ⟨w1.heap.size, 0, none⟩)) (ob := .cells #[.int .i64 ((O : Nat) : Int), .int .i64 ((nw : Nat) : Int), .int .i64 ((a : Nat) : Int), .int .i64 ((b : Nat) : Int), .int .i64 xc, .int .u64 xv] 32) (by kernel_rfl) fun w5 hT6 hs7 hB8 => ?_)
 replace hB8 : Blk w5 (w1.heap.size) 32 [.int .i64 ((O : Nat) : Int), .int .i64 ((nw : Nat) : Int), .int .i64 ((a : Nat) : Int), .int .i64 ((b : Nat) : Int), .int .i64 xc, .int .u64 xv] := hB8
 have hT0 := hT0.t0 hT6
 have hD := hD.tch0 hT6
 have hVr := hV.tch0 hT0
 have hCr := hC.tch0 hT0
 have hB4 := hB4.tch0 hT6
 refine zS [(8, .int .u64 0)] ?_
 refine op_nil ?_
 refine W_seq ?_
 refine zQ ?_
 refine zS [(13, .pointer (some ⟨w1.heap.size, 0, none⟩))] ?_
 refine zL (.int .i64 ((O : Nat) : Int)) ((hB8.cell 0).trans rfl) ?_
 refine op_nil ?_
 refine W_block ?_
 refine zQ ?_
 refine zS [(16, .bool (((O : Nat) : Int) == 20)), (15, .bool (((O : Nat) : Int) == 20))] ?_
 refine zO (((O : Nat) : Int) == 20) (fun hc11 => ?_) (fun hc11 => ?_)
 ·
  replace hc11 : ((O : Nat) : Int) = 20 := (eq_of_beq hc11)
  exfalso; omega
 ·
  replace hc11 : ((O : Nat) : Int) ≠ 20 := (ne_of_beq_false hc11)
  refine zQ ?_
  refine zS [(20, .bool (((O : Nat) : Int) == 21)), (19, .bool (((O : Nat) : Int) == 21))] ?_
  refine zO (((O : Nat) : Int) == 21) (fun hc12 => ?_) (fun hc12 => ?_)
  ·
   replace hc12 : ((O : Nat) : Int) = 21 := (eq_of_beq hc12)
   exfalso; omega
  ·
   replace hc12 : ((O : Nat) : Int) ≠ 21 := (ne_of_beq_false hc12)
   refine zQ ?_
   refine zS [(35, .bool (((O : Nat) : Int) == 22)), (34, .bool (((O : Nat) : Int) == 22))] ?_
   refine zO (((O : Nat) : Int) == 22) (fun hc13 => ?_) (fun hc13 => ?_)
   ·
    replace hc13 : ((O : Nat) : Int) = 22 := (eq_of_beq hc13)
    exfalso; omega
   ·
    replace hc13 : ((O : Nat) : Int) ≠ 22 := (ne_of_beq_false hc13)
    refine zQ ?_
    refine zS [(53, .bool (((O : Nat) : Int) == 23)), (52, .bool (((O : Nat) : Int) == 23))] ?_
    refine zO (((O : Nat) : Int) == 23) (fun hc14 => ?_) (fun hc14 => ?_)
    ·
     replace hc14 : ((O : Nat) : Int) = 23 := (eq_of_beq hc14)
     exfalso; omega
    ·
     replace hc14 : ((O : Nat) : Int) ≠ 23 := (ne_of_beq_false hc14)
     refine zQ ?_
     refine zS [(67, .bool (((O : Nat) : Int) == 24)), (66, .bool (((O : Nat) : Int) == 24))] ?_
     refine zO (((O : Nat) : Int) == 24) (fun hc15 => ?_) (fun hc15 => ?_)
     ·
      replace hc15 : ((O : Nat) : Int) = 24 := (eq_of_beq hc15)
      exfalso; omega
     ·
      replace hc15 : ((O : Nat) : Int) ≠ 24 := (ne_of_beq_false hc15)
      refine zQ ?_
      refine zS [(86, .bool (((O : Nat) : Int) == 25)), (85, .bool (((O : Nat) : Int) == 25))] ?_
      refine zO (((O : Nat) : Int) == 25) (fun hc16 => ?_) (fun hc16 => ?_)
      ·
       replace hc16 : ((O : Nat) : Int) = 25 := (eq_of_beq hc16)
       exfalso; omega
      ·
       replace hc16 : ((O : Nat) : Int) ≠ 25 := (ne_of_beq_false hc16)
       refine zQ ?_
       refine zS [(93, .bool (((O : Nat) : Int) == 26)), (92, .bool (((O : Nat) : Int) == 26))] ?_
       refine zO (((O : Nat) : Int) == 26) (fun hc17 => ?_) (fun hc17 => ?_)
       ·
        replace hc17 : ((O : Nat) : Int) = 26 := (eq_of_beq hc17)
        exfalso; omega
       ·
        replace hc17 : ((O : Nat) : Int) ≠ 26 := (ne_of_beq_false hc17)
        refine W_seq ?_
        refine zQ ?_
        refine zS [(109, .bool (((O : Nat) : Int) == 15)), (108, .bool (((O : Nat) : Int) == 15))] ?_
        refine zO (((O : Nat) : Int) == 15) (fun hc18 => ?_) (fun hc18 => ?_)
        ·
         replace hc18 : ((O : Nat) : Int) = 15 := (eq_of_beq hc18)
         exfalso; omega
        ·
         replace hc18 : ((O : Nat) : Int) ≠ 15 := (ne_of_beq_false hc18)
         refine zR ?_
         refine zS [(110, .bool (((O : Nat) : Int) == 16)), (108, .bool (((O : Nat) : Int) == 16))] ?_
         refine zO (((O : Nat) : Int) == 16) (fun hc19 => ?_) (fun hc19 => ?_)
         ·
          replace hc19 : ((O : Nat) : Int) = 16 := (eq_of_beq hc19)
          exfalso; omega
         ·
          replace hc19 : ((O : Nat) : Int) ≠ 16 := (ne_of_beq_false hc19)
          refine W_skip ?_
          refine W_seq ?_
          refine W_draw (fun w' => RdW w' 1 k B (us vs) ∧ RdW w' 1 m C (ints .u64 ins) ∧ Own w' 0 32 6 (.slice A N.length cp) N.length (ncs N) ∧ Blk w' (w.heap.size) 27 [.slice A N.length cp, .int .i64 most] ∧ Blk w' (w1.heap.size) 32 [.int .i64 ((O : Nat) : Int), .int .i64 ((nw : Nat) : Int), .int .i64 ((a : Nat) : Int), .int .i64 ((b : Nat) : Int), .int .i64 xc, .int .u64 xv]) (by kernel_rfl) (by kernel_rfl) (by kernel_rfl) fun w20 hT21 hh22 => ?_
          have hT0 := hT0.t0 hT21
          have hD := hD.tch0 hT21
          have hVr := hV.tch0 hT0
          have hCr := hC.tch0 hT0
          have hB4 := hB4.tch0 hT21
          have hB8 := hB8.tch0 hT21
          refine zK [0, 3, 6, 7, 11, 12] #[true, false, false, true, false, false, true, true, false, false, false, true, true, false, false, false, false, false, false, false, false, false] [(126, .pointer (some ⟨w1.heap.size, 0, none⟩)), (129, .pointer (some ⟨w1.heap.size, 2, none⟩)), (132, .slice B k cb), (133, .pointer (some ⟨w1.heap.size, 2, none⟩)), (137, .slice B k cb), (138, .pointer (some ⟨w1.heap.size, 3, none⟩))] ⟨hVr, hCr, hD, hB4, hB8⟩ ?_
          refine zV 1 rfl (.int .i64 ((O : Nat) : Int)) (fun _ ⟨hVr, hCr, hD, hB4, hB8⟩ => R_load (v := .int .i64 ((O : Nat) : Int)) (by kernel_rfl) (by kernel_rfl) ((hB8.cell 0).trans rfl)) ⟨hVr, hCr, hD, hB4, hB8⟩ ?_
          refine zV 2 rfl (.agg #[.slice A N.length cp, .int .i64 most]) (fun _ ⟨hVr, hCr, hD, hB4, hB8⟩ => R_loadA [.slice A N.length cp, .int .i64 most] (by kernel_rfl) (by kernel_rfl) (by kernel_rfl) (fun k u hk => by rw [hB4.cell]; exact get_part _ 0 _ k u rfl hk)) ⟨hVr, hCr, hD, hB4, hB8⟩ ?_
          refine zV 4 rfl (.int .i64 ((a : Nat) : Int)) (fun _ ⟨hVr, hCr, hD, hB4, hB8⟩ => R_load (v := .int .i64 ((a : Nat) : Int)) (by kernel_rfl) (by kernel_rfl) ((hB8.cell 2).trans rfl)) ⟨hVr, hCr, hD, hB4, hB8⟩ ?_
          refine zV 8 rfl (.int .i64 ((a : Nat) : Int)) (fun _ ⟨hVr, hCr, hD, hB4, hB8⟩ => R_load (v := .int .i64 ((a : Nat) : Int)) (by kernel_rfl) (by kernel_rfl) ((hB8.cell 2).trans rfl)) ⟨hVr, hCr, hD, hB4, hB8⟩ ?_
          refine zV 9 rfl (ptrAt B a) (fun _ ⟨hVr, hCr, hD, hB4, hB8⟩ => R_indexRd1 (len := k) (cap := cb) (k := .i64) (i := ((a : Nat) : Int)) (e := 30) a hVr (by kernel_rfl) (by kernel_rfl) (by kernel_rfl) (by kernel_rfl) rfl (by omega)) ⟨hVr, hCr, hD, hB4, hB8⟩ ?_
          refine zV 10 rfl (.int .u64 ((vs.getD a 0 : Nat) : Int)) (fun _ ⟨hVr, hCr, hD, hB4, hB8⟩ => R_loadRd (v := .int .u64 ((vs.getD a 0 : Nat) : Int)) hVr (by omega) (by kernel_rfl) (by kernel_rfl) (us_at (by omega))) ⟨hVr, hCr, hD, hB4, hB8⟩ ?_
          refine zV 13 rfl (.int .i64 ((b : Nat) : Int)) (fun _ ⟨hVr, hCr, hD, hB4, hB8⟩ => R_load (v := .int .i64 ((b : Nat) : Int)) (by kernel_rfl) (by kernel_rfl) ((hB8.cell 3).trans rfl)) ⟨hVr, hCr, hD, hB4, hB8⟩ ?_
          refine zV 14 rfl (ptrAt B b) (fun _ ⟨hVr, hCr, hD, hB4, hB8⟩ => R_indexRd1 (len := k) (cap := cb) (k := .i64) (i := ((b : Nat) : Int)) (e := 30) b hVr (by kernel_rfl) (by kernel_rfl) (by kernel_rfl) (by kernel_rfl) rfl (by omega)) ⟨hVr, hCr, hD, hB4, hB8⟩ ?_
          refine zV 15 rfl (.int .u64 ((vs.getD b 0 : Nat) : Int)) (fun _ ⟨hVr, hCr, hD, hB4, hB8⟩ => R_loadRd (v := .int .u64 ((vs.getD b 0 : Nat) : Int)) hVr (by omega) (by kernel_rfl) (by kernel_rfl) (us_at (by omega))) ⟨hVr, hCr, hD, hB4, hB8⟩ ?_
          refine zD 5 rfl (S_call (args := [.agg #[.slice A N.length cp, .int .i64 most], .int .i64 ((a : Nat) : Int)]) (by kernel_rfl) ((by have q := rwid_ok A cp most N ((a : Nat) : Int) _ hD; rw [hwa] at q; exact q)) ?_)
          rintro _ w23 ⟨rfl, hT24⟩
          have hT0 := hT0.t0 hT24
          have hD := hD.tch0 hT24
          have hVr := hV.tch0 hT0
          have hCr := hC.tch0 hT0
          have hB4 := hB4.tch0 hT24
          have hB8 := hB8.tch0 hT24
          refine ⟨⟨hVr, hCr, hD, hB4, hB8⟩, ?_⟩
          refine zD 16 rfl (S_call (args := [.int .i64 ((O : Nat) : Int), .int .i64 ((wd : Nat) : Int), .int .u64 ((vs.getD a 0 : Nat) : Int), .int .u64 ((vs.getD b 0 : Nat) : Int)]) (by kernel_rfl) (binY_ok O wd (vs.getD a 0) (vs.getD b 0) _ h1 h2 hva hvb hO) ?_)
          rintro _ w25 ⟨X27, rfl, hX28, hT26⟩
          have hT0 := hT0.t0 hT26
          have hD := hD.tch0 hT26
          have hVr := hV.tch0 hT0
          have hCr := hC.tch0 hT0
          have hB4 := hB4.tch0 hT26
          have hB8 := hB8.tch0 hT26
          refine ⟨⟨hVr, hCr, hD, hB4, hB8⟩, ?_⟩
          refine zK [17, 18, 19, 20, 21] #[true, true, true, true, true, true, true, true, true, true, true, true, true, true, true, true, true, true, true, true, true, true] [(125, .tuple #[.int .u64 ((cutN wd X27 : Nat) : Int), .int .i64 0]), (143, .int .u64 ((cutN wd X27 : Nat) : Int)), (144, .int .i64 0), (11, .int .u64 ((cutN wd X27 : Nat) : Int)), (12, .int .i64 0)] ⟨hVr, hCr, hD, hB4, hB8⟩ ?_
          refine d_done (by kernel_rfl) ?_
          refine zQ ?_
          refine zS [(145, .int .u64 ((cutN wd X27 : Nat) : Int)), (8, .int .u64 ((cutN wd X27 : Nat) : Int))] ?_
          refine op_nil ?_
          refine W_ret ?_
          exact ⟨_, Res_of (v := .int .u64 ((cutN wd X27 : Nat) : Int)) (by kernel_rfl), ⟨_, rfl, goodR_bin2 h1 h2 hO hX28 hka hkb hsa hsb hva hvb hnw, hT0⟩⟩

set_option maxRecDepth 100000 in
theorem vr22_ok (A : Option Addr) (cp : Nat) (most : Int) (N : List Nd) (B : Option Addr) (k cb : Nat) (vs : List Nat) (l : List K) (C : Option Addr) (m cc : Nat) (ins : List Int) (nw wd up a b c : Nat) (xv : Int) (lo V : Nat) (w : World) (hD : Own w 0 32 6 (.slice A N.length cp) N.length (ncs N)) (hV : RdW w 1 k B (us vs)) (hC : RdW w 1 m C (ints .u64 ins)) (hll : vs.length = k) (hw : nw ≤ 64) (ha : a < k) (hfa : FitsR l vs 1 a) (hb : b < k) (hfb : FitsR l vs nw b) (hc : c < k) (hfc : FitsR l vs nw c) : Ret Try.prog 52 [.agg #[.slice A N.length cp, .int .i64 most], .agg #[.int .i64 22, .int .i64 ((nw : Nat) : Int), .int .i64 ((a : Nat) : Int), .int .i64 ((b : Nat) : Int), .int .i64 ((c : Nat) : Int), .int .u64 xv], .slice B k cb, .slice C m cc] w fun v w' => ∃ r : Nat, v = .int .u64 ((r : Nat) : Int) ∧ GoodR nw (rone 22 nw wd up (kg l a) (kg l b) (kg l c) lo V) r ∧ Tch N0 w w' := by
 obtain ⟨hka, hva, hsa⟩ := hfa
 have uaa : vs.getD a 0 < 18446744073709551616 := Nat.lt_of_lt_of_le hva (pw64 (by omega))
 obtain ⟨hkb, hvb, hsb⟩ := hfb
 have uab : vs.getD b 0 < 18446744073709551616 := Nat.lt_of_lt_of_le hvb (pw64 (by omega))
 obtain ⟨hkc, hvc, hsc⟩ := hfc
 have uac : vs.getD c 0 < 18446744073709551616 := Nat.lt_of_lt_of_le hvc (pw64 (by omega))
 refine enter Try.func52 rfl rfl ?_
 refine zQ ?_
 refine st (by rfl) (S_new (v := .pointer (some ⟨w.heap.size, 0, none⟩)) (ob := .cells #[.slice A N.length cp, .int .i64 most] 27) (by kernel_rfl) fun w1 hT2 hs3 hB4 => ?_)
 replace hB4 : Blk w1 (w.heap.size) 27 [.slice A N.length cp, .int .i64 most] := hB4
 have hT0 := hT2
 have hD := hD.tch0 hT2
 have hVr := hV.tch0 hT0
 have hCr := hC.tch0 hT0
 have z9 := hT0.size
 have l10 := hB4.lt
 refine st (by rfl) (S_new (v := .pointer (some ⟨w1.heap.size, 0, none⟩)) (ob := .cells #[.int .i64 22, .int .i64 ((nw : Nat) : Int), .int .i64 ((a : Nat) : Int), .int .i64 ((b : Nat) : Int), .int .i64 ((c : Nat) : Int), .int .u64 xv] 32) (by kernel_rfl) fun w5 hT6 hs7 hB8 => ?_)
 replace hB8 : Blk w5 (w1.heap.size) 32 [.int .i64 22, .int .i64 ((nw : Nat) : Int), .int .i64 ((a : Nat) : Int), .int .i64 ((b : Nat) : Int), .int .i64 ((c : Nat) : Int), .int .u64 xv] := hB8
 have hT0 := hT0.t0 hT6
 have hD := hD.tch0 hT6
 have hVr := hV.tch0 hT0
 have hCr := hC.tch0 hT0
 have hB4 := hB4.tch0 hT6
 refine zS [(8, .int .u64 0)] ?_
 refine op_nil ?_
 refine W_seq ?_
 refine zQ ?_
 refine zS [(13, .pointer (some ⟨w1.heap.size, 0, none⟩))] ?_
 refine zL (.int .i64 22) ((hB8.cell 0).trans rfl) ?_
 refine op_nil ?_
 refine W_block ?_
 refine zQ ?_
 refine zS [(16, .bool false), (15, .bool false)] ?_
 refine zO false (fun h => nomatch h) (fun _ => ?_)
 refine zQ ?_
 refine zS [(20, .bool false), (19, .bool false)] ?_
 refine zO false (fun h => nomatch h) (fun _ => ?_)
 refine zQ ?_
 refine zS [(35, .bool true), (34, .bool true)] ?_
 refine zO true (fun _ => ?_) (fun h => nomatch h)
 refine W_seq ?_
 refine zQ ?_
 refine zS [(36, .slice B k cb), (37, .pointer (some ⟨w1.heap.size, 2, none⟩))] ?_
 refine zL (.int .i64 ((a : Nat) : Int)) ((hB8.cell 2).trans rfl) ?_
 refine stv (v := ptrAt B a) (by rfl) (R_indexRd1 (len := k) (cap := cb) (k := .i64) (i := ((a : Nat) : Int)) (e := 30) a hVr (by kernel_rfl) (by kernel_rfl) (by kernel_rfl) (by kernel_rfl) rfl (by omega)) ?_
 refine stv (v := .int .u64 ((vs.getD a 0 : Nat) : Int)) (by rfl) (R_loadRd (v := .int .u64 ((vs.getD a 0 : Nat) : Int)) hVr (by omega) (by kernel_rfl) (by kernel_rfl) (us_at (by omega))) ?_
 refine zS [(41, .bool (((vs.getD a 0 : Nat) : Int) == 1))] ?_
 refine zO (((vs.getD a 0 : Nat) : Int) == 1) (fun hc11 => ?_) (fun hc11 => ?_)
 ·
  replace hc11 : ((vs.getD a 0 : Nat) : Int) = 1 := (eq_of_beq hc11)
  refine zQ ?_
  refine zS [(42, .slice B k cb), (43, .pointer (some ⟨w1.heap.size, 3, none⟩))] ?_
  refine zL (.int .i64 ((b : Nat) : Int)) ((hB8.cell 3).trans rfl) ?_
  refine stv (v := ptrAt B b) (by rfl) (R_indexRd1 (len := k) (cap := cb) (k := .i64) (i := ((b : Nat) : Int)) (e := 30) b hVr (by kernel_rfl) (by kernel_rfl) (by kernel_rfl) (by kernel_rfl) rfl (by omega)) ?_
  refine stv (v := .int .u64 ((vs.getD b 0 : Nat) : Int)) (by rfl) (R_loadRd (v := .int .u64 ((vs.getD b 0 : Nat) : Int)) hVr (by omega) (by kernel_rfl) (by kernel_rfl) (us_at (by omega))) ?_
  refine zS [(8, .int .u64 ((vs.getD b 0 : Nat) : Int))] ?_
  refine op_nil ?_
  refine W_ret ?_
  refine ⟨_, Res_of (v := .int .u64 ((vs.getD b 0 : Nat) : Int)) (by kernel_rfl), ?_⟩
  have hg := goodR_ite (wd := wd) (up := up) (lo := lo) (V := V) hsa hva hka hsb hsc hvb hvc
  rw [if_pos (by omega)] at hg
  exact ⟨_, rfl, hg, hT0⟩
 ·
  replace hc11 : ((vs.getD a 0 : Nat) : Int) ≠ 1 := (ne_of_beq_false hc11)
  refine W_skip ?_
  refine zQ ?_
  refine zS [(47, .slice B k cb), (48, .pointer (some ⟨w1.heap.size, 4, none⟩))] ?_
  refine zL (.int .i64 ((c : Nat) : Int)) ((hB8.cell 4).trans rfl) ?_
  refine stv (v := ptrAt B c) (by rfl) (R_indexRd1 (len := k) (cap := cb) (k := .i64) (i := ((c : Nat) : Int)) (e := 30) c hVr (by kernel_rfl) (by kernel_rfl) (by kernel_rfl) (by kernel_rfl) rfl (by omega)) ?_
  refine stv (v := .int .u64 ((vs.getD c 0 : Nat) : Int)) (by rfl) (R_loadRd (v := .int .u64 ((vs.getD c 0 : Nat) : Int)) hVr (by omega) (by kernel_rfl) (by kernel_rfl) (us_at (by omega))) ?_
  refine zS [(8, .int .u64 ((vs.getD c 0 : Nat) : Int))] ?_
  refine op_nil ?_
  refine W_ret ?_
  refine ⟨_, Res_of (v := .int .u64 ((vs.getD c 0 : Nat) : Int)) (by kernel_rfl), ?_⟩
  have hg := goodR_ite (wd := wd) (up := up) (lo := lo) (V := V) hsa hva hka hsb hsc hvb hvc
  rw [if_neg (by omega)] at hg
  exact ⟨_, rfl, hg, hT0⟩

set_option maxRecDepth 100000 in
theorem vr23_ok (A : Option Addr) (cp : Nat) (most : Int) (N : List Nd) (B : Option Addr) (k cb : Nat) (vs : List Nat) (l : List K) (C : Option Addr) (m cc : Nat) (ins : List Int) (nw wd up a lo : Nat) (xc xv : Int) (y z : K) (V : Nat) (w : World) (hD : Own w 0 32 6 (.slice A N.length cp) N.length (ncs N)) (hV : RdW w 1 k B (us vs)) (hC : RdW w 1 m C (ints .u64 ins)) (hll : vs.length = k) (hn1 : 1 ≤ nw) (h2 : wd ≤ 64) (hlo : lo + nw ≤ wd) (ha : a < k) (hfa : FitsR l vs wd a) : Ret Try.prog 52 [.agg #[.slice A N.length cp, .int .i64 most], .agg #[.int .i64 23, .int .i64 ((nw : Nat) : Int), .int .i64 ((a : Nat) : Int), .int .i64 ((lo : Nat) : Int), .int .i64 xc, .int .u64 xv], .slice B k cb, .slice C m cc] w fun v w' => ∃ r : Nat, v = .int .u64 ((r : Nat) : Int) ∧ GoodR nw (rone 23 nw wd up (kg l a) y z lo V) r ∧ Tch N0 w w' := by
 obtain ⟨hka, hva, hsa⟩ := hfa
 have uaa : vs.getD a 0 < 18446744073709551616 := Nat.lt_of_lt_of_le hva (pw64 (by omega))
 refine enter Try.func52 rfl rfl ?_
 refine zQ ?_
 refine st (by rfl) (S_new (v := .pointer (some ⟨w.heap.size, 0, none⟩)) (ob := .cells #[.slice A N.length cp, .int .i64 most] 27) (by kernel_rfl) fun w1 hT2 hs3 hB4 => ?_)
 replace hB4 : Blk w1 (w.heap.size) 27 [.slice A N.length cp, .int .i64 most] := hB4
 have hT0 := hT2
 have hD := hD.tch0 hT2
 have hVr := hV.tch0 hT0
 have hCr := hC.tch0 hT0
 have z9 := hT0.size
 have l10 := hB4.lt
 refine st (by rfl) (S_new (v := .pointer (some ⟨w1.heap.size, 0, none⟩)) (ob := .cells #[.int .i64 23, .int .i64 ((nw : Nat) : Int), .int .i64 ((a : Nat) : Int), .int .i64 ((lo : Nat) : Int), .int .i64 xc, .int .u64 xv] 32) (by kernel_rfl) fun w5 hT6 hs7 hB8 => ?_)
 replace hB8 : Blk w5 (w1.heap.size) 32 [.int .i64 23, .int .i64 ((nw : Nat) : Int), .int .i64 ((a : Nat) : Int), .int .i64 ((lo : Nat) : Int), .int .i64 xc, .int .u64 xv] := hB8
 have hT0 := hT0.t0 hT6
 have hD := hD.tch0 hT6
 have hVr := hV.tch0 hT0
 have hCr := hC.tch0 hT0
 have hB4 := hB4.tch0 hT6
 refine zS [(8, .int .u64 0)] ?_
 refine op_nil ?_
 refine W_seq ?_
 refine zQ ?_
 refine zS [(13, .pointer (some ⟨w1.heap.size, 0, none⟩))] ?_
 refine zL (.int .i64 23) ((hB8.cell 0).trans rfl) ?_
 refine op_nil ?_
 refine W_block ?_
 refine zQ ?_
 refine zS [(16, .bool false), (15, .bool false)] ?_
 refine zO false (fun h => nomatch h) (fun _ => ?_)
 refine zQ ?_
 refine zS [(20, .bool false), (19, .bool false)] ?_
 refine zO false (fun h => nomatch h) (fun _ => ?_)
 refine zQ ?_
 refine zS [(35, .bool false), (34, .bool false)] ?_
 refine zO false (fun h => nomatch h) (fun _ => ?_)
 refine zQ ?_
 refine zS [(53, .bool true), (52, .bool true)] ?_
 refine zO true (fun _ => ?_) (fun h => nomatch h)
 refine W_seq ?_
 refine W_draw (fun w' => RdW w' 1 k B (us vs) ∧ RdW w' 1 m C (ints .u64 ins) ∧ Own w' 0 32 6 (.slice A N.length cp) N.length (ncs N) ∧ Blk w' (w.heap.size) 27 [.slice A N.length cp, .int .i64 most] ∧ Blk w' (w1.heap.size) 32 [.int .i64 23, .int .i64 ((nw : Nat) : Int), .int .i64 ((a : Nat) : Int), .int .i64 ((lo : Nat) : Int), .int .i64 xc, .int .u64 xv]) (by kernel_rfl) (by kernel_rfl) (by kernel_rfl) fun w11 hT12 hh13 => ?_
 have hT0 := hT0.t0 hT12
 have hD := hD.tch0 hT12
 have hVr := hV.tch0 hT0
 have hCr := hC.tch0 hT0
 have hB4 := hB4.tch0 hT12
 have hB8 := hB8.tch0 hT12
 refine zK [0, 2, 3, 7] #[true, false, true, true, false, false, false, true, false, false, false, false, false] [(54, .pointer (some ⟨w1.heap.size, 1, none⟩)), (56, .slice B k cb), (57, .pointer (some ⟨w1.heap.size, 2, none⟩)), (61, .pointer (some ⟨w1.heap.size, 3, none⟩))] ⟨hVr, hCr, hD, hB4, hB8⟩ ?_
 refine zV 1 rfl (.int .i64 ((nw : Nat) : Int)) (fun _ ⟨hVr, hCr, hD, hB4, hB8⟩ => R_load (v := .int .i64 ((nw : Nat) : Int)) (by kernel_rfl) (by kernel_rfl) ((hB8.cell 1).trans rfl)) ⟨hVr, hCr, hD, hB4, hB8⟩ ?_
 refine zV 4 rfl (.int .i64 ((a : Nat) : Int)) (fun _ ⟨hVr, hCr, hD, hB4, hB8⟩ => R_load (v := .int .i64 ((a : Nat) : Int)) (by kernel_rfl) (by kernel_rfl) ((hB8.cell 2).trans rfl)) ⟨hVr, hCr, hD, hB4, hB8⟩ ?_
 refine zV 5 rfl (ptrAt B a) (fun _ ⟨hVr, hCr, hD, hB4, hB8⟩ => R_indexRd1 (len := k) (cap := cb) (k := .i64) (i := ((a : Nat) : Int)) (e := 30) a hVr (by kernel_rfl) (by kernel_rfl) (by kernel_rfl) (by kernel_rfl) rfl (by omega)) ⟨hVr, hCr, hD, hB4, hB8⟩ ?_
 refine zV 6 rfl (.int .u64 ((vs.getD a 0 : Nat) : Int)) (fun _ ⟨hVr, hCr, hD, hB4, hB8⟩ => R_loadRd (v := .int .u64 ((vs.getD a 0 : Nat) : Int)) hVr (by omega) (by kernel_rfl) (by kernel_rfl) (us_at (by omega))) ⟨hVr, hCr, hD, hB4, hB8⟩ ?_
 refine zV 8 rfl (.int .i64 ((lo : Nat) : Int)) (fun _ ⟨hVr, hCr, hD, hB4, hB8⟩ => R_load (v := .int .i64 ((lo : Nat) : Int)) (by kernel_rfl) (by kernel_rfl) ((hB8.cell 3).trans rfl)) ⟨hVr, hCr, hD, hB4, hB8⟩ ?_
 refine zK [9] #[true, true, true, true, true, true, true, true, true, true, false, false, false] [(63, .int .u64 (IntKind.u64.wrap ((lo : Nat) : Int)))] ⟨hVr, hCr, hD, hB4, hB8⟩ ?_
 rw [show IntKind.u64.wrap ((lo : Nat) : Int) = ((lo : Nat) : Int) from wrap_u64 (by omega) (by omega)]
 refine zV 10 rfl (.int .u64 (((vs.getD a 0) / pw lo : Nat) : Int)) (fun _ ⟨hVr, hCr, hD, hB4, hB8⟩ => R_shrP (k2 := .u64) (vs.getD a 0) lo (by kernel_rfl) (by kernel_rfl) (by omega)) ⟨hVr, hCr, hD, hB4, hB8⟩ ?_
 have hu14 : (vs.getD a 0) / pw lo < 18446744073709551616 := div_lt64 uaa
 refine zD 11 rfl (S_call (args := [.int .i64 ((nw : Nat) : Int), .int .u64 (((vs.getD a 0) / pw lo : Nat) : Int)]) (by kernel_rfl) (rcutN_ok nw ((vs.getD a 0) / pw lo) _ (by omega) hu14) ?_)
 rintro _ w15 ⟨rfl, hT17⟩
 have hT0 := hT0.t0 hT17
 have hD := hD.tch0 hT17
 have hVr := hV.tch0 hT0
 have hCr := hC.tch0 hT0
 have hB4 := hB4.tch0 hT17
 have hB8 := hB8.tch0 hT17
 have hu18 : cutN nw ((vs.getD a 0) / pw lo) < 18446744073709551616 := Nat.lt_of_lt_of_le (cutN_lt _ _) (pw64 (by omega))
 refine ⟨⟨hVr, hCr, hD, hB4, hB8⟩, ?_⟩
 refine zK [12] #[true, true, true, true, true, true, true, true, true, true, true, true, true] [(8, .int .u64 ((cutN nw ((vs.getD a 0) / pw lo) : Nat) : Int))] ⟨hVr, hCr, hD, hB4, hB8⟩ ?_
 refine d_done (by kernel_rfl) ?_
 refine W_ret ?_
 exact ⟨_, Res_of (v := .int .u64 ((cutN nw ((vs.getD a 0) / pw lo) : Nat) : Int)) (by kernel_rfl), ⟨_, rfl, goodR_ext hsa, hT0⟩⟩

set_option maxRecDepth 100000 in
theorem vr24_ok (A : Option Addr) (cp : Nat) (most : Int) (N : List Nd) (B : Option Addr) (k cb : Nat) (vs : List Nat) (l : List K) (C : Option Addr) (m cc : Nat) (ins : List Int) (wd up a b : Nat) (xc xv : Int) (z : K) (lo V : Nat) (w : World) (hD : Own w 0 32 6 (.slice A N.length cp) N.length (ncs N)) (hV : RdW w 1 k B (us vs)) (hC : RdW w 1 m C (ints .u64 ins)) (hll : vs.length = k) (h1 : 1 ≤ wd) (h3 : 1 ≤ up) (h2 : wd + up ≤ 64) (hwb : widF N ((b : Nat) : Int) = ((up : Nat) : Int)) (ha : a < k) (hfa : FitsR l vs wd a) (hb : b < k) (hfb : FitsR l vs up b) : Ret Try.prog 52 [.agg #[.slice A N.length cp, .int .i64 most], .agg #[.int .i64 24, .int .i64 ((wd + up : Nat) : Int), .int .i64 ((a : Nat) : Int), .int .i64 ((b : Nat) : Int), .int .i64 xc, .int .u64 xv], .slice B k cb, .slice C m cc] w fun v w' => ∃ r : Nat, v = .int .u64 ((r : Nat) : Int) ∧ GoodR (wd + up) (rone 24 (wd + up) wd up (kg l a) (kg l b) z lo V) r ∧ Tch N0 w w' := by
 obtain ⟨hka, hva, hsa⟩ := hfa
 have uaa : vs.getD a 0 < 18446744073709551616 := Nat.lt_of_lt_of_le hva (pw64 (by omega))
 obtain ⟨hkb, hvb, hsb⟩ := hfb
 have uab : vs.getD b 0 < 18446744073709551616 := Nat.lt_of_lt_of_le hvb (pw64 (by omega))
 refine enter Try.func52 rfl rfl ?_
 refine zQ ?_
 refine st (by rfl) (S_new (v := .pointer (some ⟨w.heap.size, 0, none⟩)) (ob := .cells #[.slice A N.length cp, .int .i64 most] 27) (by kernel_rfl) fun w1 hT2 hs3 hB4 => ?_)
 replace hB4 : Blk w1 (w.heap.size) 27 [.slice A N.length cp, .int .i64 most] := hB4
 have hT0 := hT2
 have hD := hD.tch0 hT2
 have hVr := hV.tch0 hT0
 have hCr := hC.tch0 hT0
 have z9 := hT0.size
 have l10 := hB4.lt
 refine st (by rfl) (S_new (v := .pointer (some ⟨w1.heap.size, 0, none⟩)) (ob := .cells #[.int .i64 24, .int .i64 ((wd + up : Nat) : Int), .int .i64 ((a : Nat) : Int), .int .i64 ((b : Nat) : Int), .int .i64 xc, .int .u64 xv] 32) (by kernel_rfl) fun w5 hT6 hs7 hB8 => ?_)
 replace hB8 : Blk w5 (w1.heap.size) 32 [.int .i64 24, .int .i64 ((wd + up : Nat) : Int), .int .i64 ((a : Nat) : Int), .int .i64 ((b : Nat) : Int), .int .i64 xc, .int .u64 xv] := hB8
 have hT0 := hT0.t0 hT6
 have hD := hD.tch0 hT6
 have hVr := hV.tch0 hT0
 have hCr := hC.tch0 hT0
 have hB4 := hB4.tch0 hT6
 refine zS [(8, .int .u64 0)] ?_
 refine op_nil ?_
 refine W_seq ?_
 refine zQ ?_
 refine zS [(13, .pointer (some ⟨w1.heap.size, 0, none⟩))] ?_
 refine zL (.int .i64 24) ((hB8.cell 0).trans rfl) ?_
 refine op_nil ?_
 refine W_block ?_
 refine zQ ?_
 refine zS [(16, .bool false), (15, .bool false)] ?_
 refine zO false (fun h => nomatch h) (fun _ => ?_)
 refine zQ ?_
 refine zS [(20, .bool false), (19, .bool false)] ?_
 refine zO false (fun h => nomatch h) (fun _ => ?_)
 refine zQ ?_
 refine zS [(35, .bool false), (34, .bool false)] ?_
 refine zO false (fun h => nomatch h) (fun _ => ?_)
 refine zQ ?_
 refine zS [(53, .bool false), (52, .bool false)] ?_
 refine zO false (fun h => nomatch h) (fun _ => ?_)
 refine zQ ?_
 refine zS [(67, .bool true), (66, .bool true)] ?_
 refine zO true (fun _ => ?_) (fun h => nomatch h)
 refine W_seq ?_
 refine W_draw (fun w' => RdW w' 1 k B (us vs) ∧ RdW w' 1 m C (ints .u64 ins) ∧ Own w' 0 32 6 (.slice A N.length cp) N.length (ncs N) ∧ Blk w' (w.heap.size) 27 [.slice A N.length cp, .int .i64 most] ∧ Blk w' (w1.heap.size) 32 [.int .i64 24, .int .i64 ((wd + up : Nat) : Int), .int .i64 ((a : Nat) : Int), .int .i64 ((b : Nat) : Int), .int .i64 xc, .int .u64 xv]) (by kernel_rfl) (by kernel_rfl) (by kernel_rfl) fun w11 hT12 hh13 => ?_
 have hT0 := hT0.t0 hT12
 have hD := hD.tch0 hT12
 have hVr := hV.tch0 hT0
 have hCr := hC.tch0 hT0
 have hB4 := hB4.tch0 hT12
 have hB8 := hB8.tch0 hT12
 refine zK [0, 1, 6, 11, 12] #[true, true, false, false, false, false, true, false, false, false, false, true, true, false, false, false, false, false] [(68, .slice B k cb), (69, .pointer (some ⟨w1.heap.size, 2, none⟩)), (74, .pointer (some ⟨w1.heap.size, 3, none⟩)), (79, .slice B k cb), (80, .pointer (some ⟨w1.heap.size, 3, none⟩))] ⟨hVr, hCr, hD, hB4, hB8⟩ ?_
 refine zV 2 rfl (.int .i64 ((a : Nat) : Int)) (fun _ ⟨hVr, hCr, hD, hB4, hB8⟩ => R_load (v := .int .i64 ((a : Nat) : Int)) (by kernel_rfl) (by kernel_rfl) ((hB8.cell 2).trans rfl)) ⟨hVr, hCr, hD, hB4, hB8⟩ ?_
 refine zV 3 rfl (ptrAt B a) (fun _ ⟨hVr, hCr, hD, hB4, hB8⟩ => R_indexRd1 (len := k) (cap := cb) (k := .i64) (i := ((a : Nat) : Int)) (e := 30) a hVr (by kernel_rfl) (by kernel_rfl) (by kernel_rfl) (by kernel_rfl) rfl (by omega)) ⟨hVr, hCr, hD, hB4, hB8⟩ ?_
 refine zV 4 rfl (.int .u64 ((vs.getD a 0 : Nat) : Int)) (fun _ ⟨hVr, hCr, hD, hB4, hB8⟩ => R_loadRd (v := .int .u64 ((vs.getD a 0 : Nat) : Int)) hVr (by omega) (by kernel_rfl) (by kernel_rfl) (us_at (by omega))) ⟨hVr, hCr, hD, hB4, hB8⟩ ?_
 refine zV 5 rfl (.agg #[.slice A N.length cp, .int .i64 most]) (fun _ ⟨hVr, hCr, hD, hB4, hB8⟩ => R_loadA [.slice A N.length cp, .int .i64 most] (by kernel_rfl) (by kernel_rfl) (by kernel_rfl) (fun k u hk => by rw [hB4.cell]; exact get_part _ 0 _ k u rfl hk)) ⟨hVr, hCr, hD, hB4, hB8⟩ ?_
 refine zV 7 rfl (.int .i64 ((b : Nat) : Int)) (fun _ ⟨hVr, hCr, hD, hB4, hB8⟩ => R_load (v := .int .i64 ((b : Nat) : Int)) (by kernel_rfl) (by kernel_rfl) ((hB8.cell 3).trans rfl)) ⟨hVr, hCr, hD, hB4, hB8⟩ ?_
 refine zV 13 rfl (.int .i64 ((b : Nat) : Int)) (fun _ ⟨hVr, hCr, hD, hB4, hB8⟩ => R_load (v := .int .i64 ((b : Nat) : Int)) (by kernel_rfl) (by kernel_rfl) ((hB8.cell 3).trans rfl)) ⟨hVr, hCr, hD, hB4, hB8⟩ ?_
 refine zV 14 rfl (ptrAt B b) (fun _ ⟨hVr, hCr, hD, hB4, hB8⟩ => R_indexRd1 (len := k) (cap := cb) (k := .i64) (i := ((b : Nat) : Int)) (e := 30) b hVr (by kernel_rfl) (by kernel_rfl) (by kernel_rfl) (by kernel_rfl) rfl (by omega)) ⟨hVr, hCr, hD, hB4, hB8⟩ ?_
 refine zV 15 rfl (.int .u64 ((vs.getD b 0 : Nat) : Int)) (fun _ ⟨hVr, hCr, hD, hB4, hB8⟩ => R_loadRd (v := .int .u64 ((vs.getD b 0 : Nat) : Int)) hVr (by omega) (by kernel_rfl) (by kernel_rfl) (us_at (by omega))) ⟨hVr, hCr, hD, hB4, hB8⟩ ?_
 refine zD 8 rfl (S_call (args := [.agg #[.slice A N.length cp, .int .i64 most], .int .i64 ((b : Nat) : Int)]) (by kernel_rfl) ((by have q := rwid_ok A cp most N ((b : Nat) : Int) _ hD; rw [hwb] at q; exact q)) ?_)
 rintro _ w14 ⟨rfl, hT15⟩
 have hT0 := hT0.t0 hT15
 have hD := hD.tch0 hT15
 have hVr := hV.tch0 hT0
 have hCr := hC.tch0 hT0
 have hB4 := hB4.tch0 hT15
 have hB8 := hB8.tch0 hT15
 refine ⟨⟨hVr, hCr, hD, hB4, hB8⟩, ?_⟩
 refine zK [9] #[true, true, true, true, true, true, true, true, true, true, false, true, true, true, true, true, false, false] [(77, .int .u64 (IntKind.u64.wrap ((up : Nat) : Int)))] ⟨hVr, hCr, hD, hB4, hB8⟩ ?_
 rw [show IntKind.u64.wrap ((up : Nat) : Int) = ((up : Nat) : Int) from wrap_u64 (by omega) (by omega)]
 refine zV 10 rfl (.int .u64 (((vs.getD a 0) * pw up % 18446744073709551616 : Nat) : Int)) (fun _ ⟨hVr, hCr, hD, hB4, hB8⟩ => R_shlP (k2 := .u64) (vs.getD a 0) up (by kernel_rfl) (by kernel_rfl) (by omega)) ⟨hVr, hCr, hD, hB4, hB8⟩ ?_
 have hu16 : (vs.getD a 0) * pw up % 18446744073709551616 < 18446744073709551616 := mod_lt64 _
 refine zK [16] #[true, true, true, true, true, true, true, true, true, true, true, true, true, true, true, true, true, false] [(84, .int .u64 (IntKind.u64.wrap (BitVec.ofInt 64 (((vs.getD a 0) * pw up % 18446744073709551616 : Nat) : Int) ||| BitVec.ofInt 64 ((vs.getD b 0 : Nat) : Int)).toNat))] ⟨hVr, hCr, hD, hB4, hB8⟩ ?_
 rw [show IntKind.u64.wrap (BitVec.ofInt 64 (((vs.getD a 0) * pw up % 18446744073709551616 : Nat) : Int) ||| BitVec.ofInt 64 ((vs.getD b 0 : Nat) : Int)).toNat = ((((vs.getD a 0) * pw up % 18446744073709551616) ||| (vs.getD b 0) : Nat) : Int) from or_u ((vs.getD a 0) * pw up % 18446744073709551616) (vs.getD b 0) hu16 uab]
 have hu17 : ((vs.getD a 0) * pw up % 18446744073709551616) ||| (vs.getD b 0) < 18446744073709551616 := or_lt hu16 uab
 refine zK [17] #[true, true, true, true, true, true, true, true, true, true, true, true, true, true, true, true, true, true] [(8, .int .u64 ((((vs.getD a 0) * pw up % 18446744073709551616) ||| (vs.getD b 0) : Nat) : Int))] ⟨hVr, hCr, hD, hB4, hB8⟩ ?_
 refine d_done (by kernel_rfl) ?_
 refine W_ret ?_
 exact ⟨_, Res_of (v := .int .u64 ((((vs.getD a 0) * pw up % 18446744073709551616) ||| (vs.getD b 0) : Nat) : Int)) (by kernel_rfl), ⟨_, rfl, goodR_cat hka hkb hsa hsb hva hvb h2, hT0⟩⟩

set_option maxRecDepth 100000 in
theorem vr25_ok (A : Option Addr) (cp : Nat) (most : Int) (N : List Nd) (B : Option Addr) (k cb : Nat) (vs : List Nat) (l : List K) (C : Option Addr) (m cc : Nat) (ins : List Int) (nw wd up a : Nat) (xb xc xv : Int) (y z : K) (lo V : Nat) (w : World) (hD : Own w 0 32 6 (.slice A N.length cp) N.length (ncs N)) (hV : RdW w 1 k B (us vs)) (hC : RdW w 1 m C (ints .u64 ins)) (hll : vs.length = k) (h1 : 1 ≤ wd) (hlt : wd < nw) (hnw : nw ≤ 64) (ha : a < k) (hfa : FitsR l vs wd a) : Ret Try.prog 52 [.agg #[.slice A N.length cp, .int .i64 most], .agg #[.int .i64 25, .int .i64 ((nw : Nat) : Int), .int .i64 ((a : Nat) : Int), .int .i64 xb, .int .i64 xc, .int .u64 xv], .slice B k cb, .slice C m cc] w fun v w' => ∃ r : Nat, v = .int .u64 ((r : Nat) : Int) ∧ GoodR nw (rone 25 nw wd up (kg l a) y z lo V) r ∧ Tch N0 w w' := by
 obtain ⟨hka, hva, hsa⟩ := hfa
 have uaa : vs.getD a 0 < 18446744073709551616 := Nat.lt_of_lt_of_le hva (pw64 (by omega))
 refine enter Try.func52 rfl rfl ?_
 refine zQ ?_
 refine st (by rfl) (S_new (v := .pointer (some ⟨w.heap.size, 0, none⟩)) (ob := .cells #[.slice A N.length cp, .int .i64 most] 27) (by kernel_rfl) fun w1 hT2 hs3 hB4 => ?_)
 replace hB4 : Blk w1 (w.heap.size) 27 [.slice A N.length cp, .int .i64 most] := hB4
 have hT0 := hT2
 have hD := hD.tch0 hT2
 have hVr := hV.tch0 hT0
 have hCr := hC.tch0 hT0
 have z9 := hT0.size
 have l10 := hB4.lt
 refine st (by rfl) (S_new (v := .pointer (some ⟨w1.heap.size, 0, none⟩)) (ob := .cells #[.int .i64 25, .int .i64 ((nw : Nat) : Int), .int .i64 ((a : Nat) : Int), .int .i64 xb, .int .i64 xc, .int .u64 xv] 32) (by kernel_rfl) fun w5 hT6 hs7 hB8 => ?_)
 replace hB8 : Blk w5 (w1.heap.size) 32 [.int .i64 25, .int .i64 ((nw : Nat) : Int), .int .i64 ((a : Nat) : Int), .int .i64 xb, .int .i64 xc, .int .u64 xv] := hB8
 have hT0 := hT0.t0 hT6
 have hD := hD.tch0 hT6
 have hVr := hV.tch0 hT0
 have hCr := hC.tch0 hT0
 have hB4 := hB4.tch0 hT6
 refine zS [(8, .int .u64 0)] ?_
 refine op_nil ?_
 refine W_seq ?_
 refine zQ ?_
 refine zS [(13, .pointer (some ⟨w1.heap.size, 0, none⟩))] ?_
 refine zL (.int .i64 25) ((hB8.cell 0).trans rfl) ?_
 refine op_nil ?_
 refine W_block ?_
 refine zQ ?_
 refine zS [(16, .bool false), (15, .bool false)] ?_
 refine zO false (fun h => nomatch h) (fun _ => ?_)
 refine zQ ?_
 refine zS [(20, .bool false), (19, .bool false)] ?_
 refine zO false (fun h => nomatch h) (fun _ => ?_)
 refine zQ ?_
 refine zS [(35, .bool false), (34, .bool false)] ?_
 refine zO false (fun h => nomatch h) (fun _ => ?_)
 refine zQ ?_
 refine zS [(53, .bool false), (52, .bool false)] ?_
 refine zO false (fun h => nomatch h) (fun _ => ?_)
 refine zQ ?_
 refine zS [(67, .bool false), (66, .bool false)] ?_
 refine zO false (fun h => nomatch h) (fun _ => ?_)
 refine zQ ?_
 refine zS [(86, .bool true), (85, .bool true)] ?_
 refine zO true (fun _ => ?_) (fun h => nomatch h)
 refine zQ ?_
 refine zS [(87, .slice B k cb), (88, .pointer (some ⟨w1.heap.size, 2, none⟩))] ?_
 refine zL (.int .i64 ((a : Nat) : Int)) ((hB8.cell 2).trans rfl) ?_
 refine stv (v := ptrAt B a) (by rfl) (R_indexRd1 (len := k) (cap := cb) (k := .i64) (i := ((a : Nat) : Int)) (e := 30) a hVr (by kernel_rfl) (by kernel_rfl) (by kernel_rfl) (by kernel_rfl) rfl (by omega)) ?_
 refine stv (v := .int .u64 ((vs.getD a 0 : Nat) : Int)) (by rfl) (R_loadRd (v := .int .u64 ((vs.getD a 0 : Nat) : Int)) hVr (by omega) (by kernel_rfl) (by kernel_rfl) (us_at (by omega))) ?_
 refine zS [(8, .int .u64 ((vs.getD a 0 : Nat) : Int))] ?_
 refine op_nil ?_
 refine W_ret ?_
 exact ⟨_, Res_of (v := .int .u64 ((vs.getD a 0 : Nat) : Int)) (by kernel_rfl), ⟨_, rfl, goodR_zx hsa hva hlt, hT0⟩⟩

set_option maxRecDepth 100000 in
theorem vr26_ok (A : Option Addr) (cp : Nat) (most : Int) (N : List Nd) (B : Option Addr) (k cb : Nat) (vs : List Nat) (l : List K) (C : Option Addr) (m cc : Nat) (ins : List Int) (nw wd up a : Nat) (xb xc xv : Int) (y z : K) (lo V : Nat) (w : World) (hD : Own w 0 32 6 (.slice A N.length cp) N.length (ncs N)) (hV : RdW w 1 k B (us vs)) (hC : RdW w 1 m C (ints .u64 ins)) (hll : vs.length = k) (h1 : 1 ≤ wd) (hlt : wd < nw) (hnw : nw ≤ 64) (hwa : widF N ((a : Nat) : Int) = ((wd : Nat) : Int)) (ha : a < k) (hfa : FitsR l vs wd a) : Ret Try.prog 52 [.agg #[.slice A N.length cp, .int .i64 most], .agg #[.int .i64 26, .int .i64 ((nw : Nat) : Int), .int .i64 ((a : Nat) : Int), .int .i64 xb, .int .i64 xc, .int .u64 xv], .slice B k cb, .slice C m cc] w fun v w' => ∃ r : Nat, v = .int .u64 ((r : Nat) : Int) ∧ GoodR nw (rone 26 nw wd up (kg l a) y z lo V) r ∧ Tch N0 w w' := by
 obtain ⟨hka, hva, hsa⟩ := hfa
 have uaa : vs.getD a 0 < 18446744073709551616 := Nat.lt_of_lt_of_le hva (pw64 (by omega))
 refine enter Try.func52 rfl rfl ?_
 refine zQ ?_
 refine st (by rfl) (S_new (v := .pointer (some ⟨w.heap.size, 0, none⟩)) (ob := .cells #[.slice A N.length cp, .int .i64 most] 27) (by kernel_rfl) fun w1 hT2 hs3 hB4 => ?_)
 replace hB4 : Blk w1 (w.heap.size) 27 [.slice A N.length cp, .int .i64 most] := hB4
 have hT0 := hT2
 have hD := hD.tch0 hT2
 have hVr := hV.tch0 hT0
 have hCr := hC.tch0 hT0
 have z9 := hT0.size
 have l10 := hB4.lt
 refine st (by rfl) (S_new (v := .pointer (some ⟨w1.heap.size, 0, none⟩)) (ob := .cells #[.int .i64 26, .int .i64 ((nw : Nat) : Int), .int .i64 ((a : Nat) : Int), .int .i64 xb, .int .i64 xc, .int .u64 xv] 32) (by kernel_rfl) fun w5 hT6 hs7 hB8 => ?_)
 replace hB8 : Blk w5 (w1.heap.size) 32 [.int .i64 26, .int .i64 ((nw : Nat) : Int), .int .i64 ((a : Nat) : Int), .int .i64 xb, .int .i64 xc, .int .u64 xv] := hB8
 have hT0 := hT0.t0 hT6
 have hD := hD.tch0 hT6
 have hVr := hV.tch0 hT0
 have hCr := hC.tch0 hT0
 have hB4 := hB4.tch0 hT6
 refine zS [(8, .int .u64 0)] ?_
 refine op_nil ?_
 refine W_seq ?_
 refine zQ ?_
 refine zS [(13, .pointer (some ⟨w1.heap.size, 0, none⟩))] ?_
 refine zL (.int .i64 26) ((hB8.cell 0).trans rfl) ?_
 refine op_nil ?_
 refine W_block ?_
 refine zQ ?_
 refine zS [(16, .bool false), (15, .bool false)] ?_
 refine zO false (fun h => nomatch h) (fun _ => ?_)
 refine zQ ?_
 refine zS [(20, .bool false), (19, .bool false)] ?_
 refine zO false (fun h => nomatch h) (fun _ => ?_)
 refine zQ ?_
 refine zS [(35, .bool false), (34, .bool false)] ?_
 refine zO false (fun h => nomatch h) (fun _ => ?_)
 refine zQ ?_
 refine zS [(53, .bool false), (52, .bool false)] ?_
 refine zO false (fun h => nomatch h) (fun _ => ?_)
 refine zQ ?_
 refine zS [(67, .bool false), (66, .bool false)] ?_
 refine zO false (fun h => nomatch h) (fun _ => ?_)
 refine zQ ?_
 refine zS [(86, .bool false), (85, .bool false)] ?_
 refine zO false (fun h => nomatch h) (fun _ => ?_)
 refine zQ ?_
 refine zS [(93, .bool true), (92, .bool true)] ?_
 refine zO true (fun _ => ?_) (fun h => nomatch h)
 refine W_seq ?_
 refine W_draw (fun w' => RdW w' 1 k B (us vs) ∧ RdW w' 1 m C (ints .u64 ins) ∧ Own w' 0 32 6 (.slice A N.length cp) N.length (ncs N) ∧ Blk w' (w.heap.size) 27 [.slice A N.length cp, .int .i64 most] ∧ Blk w' (w1.heap.size) 32 [.int .i64 26, .int .i64 ((nw : Nat) : Int), .int .i64 ((a : Nat) : Int), .int .i64 xb, .int .i64 xc, .int .u64 xv]) (by kernel_rfl) (by kernel_rfl) (by kernel_rfl) fun w11 hT12 hh13 => ?_
 have hT0 := hT0.t0 hT12
 have hD := hD.tch0 hT12
 have hVr := hV.tch0 hT0
 have hCr := hC.tch0 hT0
 have hB4 := hB4.tch0 hT12
 have hB8 := hB8.tch0 hT12
 refine zK [0, 3, 6, 7] #[true, false, false, true, false, false, true, true, false, false, false, false, false, false, false] [(94, .pointer (some ⟨w1.heap.size, 1, none⟩)), (97, .pointer (some ⟨w1.heap.size, 2, none⟩)), (100, .slice B k cb), (101, .pointer (some ⟨w1.heap.size, 2, none⟩))] ⟨hVr, hCr, hD, hB4, hB8⟩ ?_
 refine zV 1 rfl (.int .i64 ((nw : Nat) : Int)) (fun _ ⟨hVr, hCr, hD, hB4, hB8⟩ => R_load (v := .int .i64 ((nw : Nat) : Int)) (by kernel_rfl) (by kernel_rfl) ((hB8.cell 1).trans rfl)) ⟨hVr, hCr, hD, hB4, hB8⟩ ?_
 refine zV 2 rfl (.agg #[.slice A N.length cp, .int .i64 most]) (fun _ ⟨hVr, hCr, hD, hB4, hB8⟩ => R_loadA [.slice A N.length cp, .int .i64 most] (by kernel_rfl) (by kernel_rfl) (by kernel_rfl) (fun k u hk => by rw [hB4.cell]; exact get_part _ 0 _ k u rfl hk)) ⟨hVr, hCr, hD, hB4, hB8⟩ ?_
 refine zV 4 rfl (.int .i64 ((a : Nat) : Int)) (fun _ ⟨hVr, hCr, hD, hB4, hB8⟩ => R_load (v := .int .i64 ((a : Nat) : Int)) (by kernel_rfl) (by kernel_rfl) ((hB8.cell 2).trans rfl)) ⟨hVr, hCr, hD, hB4, hB8⟩ ?_
 refine zV 8 rfl (.int .i64 ((a : Nat) : Int)) (fun _ ⟨hVr, hCr, hD, hB4, hB8⟩ => R_load (v := .int .i64 ((a : Nat) : Int)) (by kernel_rfl) (by kernel_rfl) ((hB8.cell 2).trans rfl)) ⟨hVr, hCr, hD, hB4, hB8⟩ ?_
 refine zV 9 rfl (ptrAt B a) (fun _ ⟨hVr, hCr, hD, hB4, hB8⟩ => R_indexRd1 (len := k) (cap := cb) (k := .i64) (i := ((a : Nat) : Int)) (e := 30) a hVr (by kernel_rfl) (by kernel_rfl) (by kernel_rfl) (by kernel_rfl) rfl (by omega)) ⟨hVr, hCr, hD, hB4, hB8⟩ ?_
 refine zV 10 rfl (.int .u64 ((vs.getD a 0 : Nat) : Int)) (fun _ ⟨hVr, hCr, hD, hB4, hB8⟩ => R_loadRd (v := .int .u64 ((vs.getD a 0 : Nat) : Int)) hVr (by omega) (by kernel_rfl) (by kernel_rfl) (us_at (by omega))) ⟨hVr, hCr, hD, hB4, hB8⟩ ?_
 refine zD 5 rfl (S_call (args := [.agg #[.slice A N.length cp, .int .i64 most], .int .i64 ((a : Nat) : Int)]) (by kernel_rfl) ((by have q := rwid_ok A cp most N ((a : Nat) : Int) _ hD; rw [hwa] at q; exact q)) ?_)
 rintro _ w14 ⟨rfl, hT15⟩
 have hT0 := hT0.t0 hT15
 have hD := hD.tch0 hT15
 have hVr := hV.tch0 hT0
 have hCr := hC.tch0 hT0
 have hB4 := hB4.tch0 hT15
 have hB8 := hB8.tch0 hT15
 refine ⟨⟨hVr, hCr, hD, hB4, hB8⟩, ?_⟩
 refine zD 11 rfl (S_call (args := [.int .i64 ((wd : Nat) : Int), .int .u64 ((vs.getD a 0 : Nat) : Int)]) (by kernel_rfl) (signed_ok wd (vs.getD a 0) _ (by omega) (by omega) hva) ?_)
 rintro _ w16 ⟨rfl, hT17⟩
 have hT0 := hT0.t0 hT17
 have hD := hD.tch0 hT17
 have hVr := hV.tch0 hT0
 have hCr := hC.tch0 hT0
 have hB4 := hB4.tch0 hT17
 have hB8 := hB8.tch0 hT17
 refine ⟨⟨hVr, hCr, hD, hB4, hB8⟩, ?_⟩
 refine zK [12] #[true, true, true, true, true, true, true, true, true, true, true, true, true, false, false] [(106, .int .u64 (IntKind.u64.wrap (IntKind.i64.wrap ((sxN wd (vs.getD a 0) : Nat) : Int))))] ⟨hVr, hCr, hD, hB4, hB8⟩ ?_
 refine fixD (y := ((sxN wd (vs.getD a 0) : Nat) : Int)) (wrap_back _ (sxN_u uaa)) ?_
 refine zD 13 rfl (S_call (args := [.int .i64 ((nw : Nat) : Int), .int .u64 ((sxN wd (vs.getD a 0) : Nat) : Int)]) (by kernel_rfl) (rcutN_ok nw (sxN wd (vs.getD a 0)) _ (by omega) (sxN_u uaa)) ?_)
 rintro _ w18 ⟨rfl, hT20⟩
 have hT0 := hT0.t0 hT20
 have hD := hD.tch0 hT20
 have hVr := hV.tch0 hT0
 have hCr := hC.tch0 hT0
 have hB4 := hB4.tch0 hT20
 have hB8 := hB8.tch0 hT20
 have hu21 : cutN nw (sxN wd (vs.getD a 0)) < 18446744073709551616 := Nat.lt_of_lt_of_le (cutN_lt _ _) (pw64 (by omega))
 refine ⟨⟨hVr, hCr, hD, hB4, hB8⟩, ?_⟩
 refine zK [14] #[true, true, true, true, true, true, true, true, true, true, true, true, true, true, true] [(8, .int .u64 ((cutN nw (sxN wd (vs.getD a 0)) : Nat) : Int))] ⟨hVr, hCr, hD, hB4, hB8⟩ ?_
 refine d_done (by kernel_rfl) ?_
 refine W_ret ?_
 exact ⟨_, Res_of (v := .int .u64 ((cutN nw (sxN wd (vs.getD a 0)) : Nat) : Int)) (by kernel_rfl), ⟨_, rfl, goodR_sx hka hsa h1 hva hlt hnw, hT0⟩⟩

end Go.Proofs.YtlbadnpgmkobdaaV

set_option linter.unusedVariables false
set_option linter.unusedSimpArgs false
namespace Go.Proofs.YtlbadnpgmkobdaaV
open Go Go.RowKit Go.Proofs

theorem vr_all (A : Option Addr) (cp : Nat) (most m2 : Int) (N : List Nd) (B : Option Addr) (i cb : Nat) (vs : List Nat) (C : Option Addr) (m cc : Nat) (ins : List Int) (w : World) (hD : Own w 0 32 6 (.slice A N.length cp) N.length (ncs N)) (hJ : TJ N m2) (hB : TB N) (hi : i < N.length) (hl : vs.length = i) (hV : RdW w 1 i B (us vs)) (hC : RdW w 1 m C (ints .u64 ins)) (hK : VOR N vs) :
    Ret Try.prog 52 [.agg #[.slice A N.length cp, .int .i64 most], .agg #[.int .i64 (nO (nth N i)), .int .i64 (nW (nth N i)), .int .i64 (nA (nth N i)), .int .i64 (nB (nth N i)), .int .i64 (nC (nth N i)), .int .u64 (nV (nth N i))], .slice B i cb, .slice C m cc] w fun v w' => ∃ r : Nat, v = .int .u64 ((r : Nat) : Int) ∧ GoodR (nW (nth N i)).toNat (ronN N (rl N i) (nth N i)) r ∧ Tch N0 w w' :=
  node_casesRA hJ hB hi (FitsR (rl N i) vs) (fun x hp => by subst hl; exact hK.fits hJ hB (by omega) hp) (rl N i) (fun o wd a b c v x => Ret Try.prog 52 [.agg #[.slice A N.length cp, .int .i64 most], .agg #[.int .i64 o, .int .i64 wd, .int .i64 a, .int .i64 b, .int .i64 c, .int .u64 v], .slice B i cb, .slice C m cc] w fun r w' => ∃ q : Nat, r = .int .u64 ((q : Nat) : Int) ∧ GoodR wd.toNat x q ∧ Tch N0 w w')
    (fun nw wd up xa xb xc x y z lo V h1 h2 h3 => vr20_ok A cp most N B i cb vs (rl N i) C m cc ins nw wd up xa xb xc x y z lo V w hD hV hC hl h2 h3)
    (fun nw wd up a xb xc xv x y z lo V h1 h2 h3 => vr21_ok A cp most N B i cb vs (rl N i) C m cc ins nw wd up a xb xc xv x y z lo V w hD hV hC hl h1 h2 h3)
    (fun O wd up a xb xc xv y z lo V hO ha hwa fa h1 h2 => by
      rcases hO with rfl | rfl
      · exact vr15_ok A cp most N B i cb vs (rl N i) C m cc ins wd up a xb xc xv y z lo V w hD hV hC hl h1 h2 ha fa
      · exact vr16_ok A cp most N B i cb vs (rl N i) C m cc ins wd up a xb xc xv y z lo V w hD hV hC hl h1 h2 ha fa)
    (fun nw wd up a b xc xv z lo V by_ O ha hb hwa fa fb h1 h2 hO hbN hv hnw => vr2_ok A cp most N B i cb vs (rl N i) C m cc ins nw wd up a b xc xv z lo V O w hD hV hC hl hO h1 h2 hwa ha fa hb fb hnw)
    (fun nw wd up a b c xv lo V ha hb hc fa fb fc hw => vr22_ok A cp most N B i cb vs (rl N i) C m cc ins nw wd up a b c xv lo V w hD hV hC hl hw ha fa hb fb hc fc)
    (fun nw wd up a lo xc xv y z V ha fa h2 hn1 hlo => vr23_ok A cp most N B i cb vs (rl N i) C m cc ins nw wd up a lo xc xv y z V w hD hV hC hl hn1 h2 hlo ha fa)
    (fun wd up a b xc xv z lo V ha hb hwb fa fb h1 h3 h2 => vr24_ok A cp most N B i cb vs (rl N i) C m cc ins wd up a b xc xv z lo V w hD hV hC hl h1 h3 h2 hwb ha fa hb fb)
    (fun O nw wd up a xb xc xv y z lo V hO ha hwa fa h1 hlt hnw => by
      rcases hO with rfl | rfl
      · exact vr25_ok A cp most N B i cb vs (rl N i) C m cc ins nw wd up a xb xc xv y z lo V w hD hV hC hl h1 hlt hnw ha fa
      · exact vr26_ok A cp most N B i cb vs (rl N i) C m cc ins nw wd up a xb xc xv y z lo V w hD hV hC hl h1 hlt hnw hwa ha fa)

set_option maxRecDepth 100000 in
set_option maxHeartbeats 1000000 in
theorem AllR_ok (A : Option Addr) (cp : Nat) (most m2 : Int) (N : List Nd) (C : Option Addr) (mm cc : Nat) (ins : List Int) (w : World) (hD : Own w 0 32 6 (.slice A N.length cp) N.length (ncs N)) (hN : N.length ≤ 65536) (hJ : TJ N m2) (hB : TB N) (hC : RdW w 1 mm C (ints .u64 ins)) : Ret Try.prog 29 [.agg #[.slice A N.length cp, .int .i64 most], .slice C mm cc] w fun v w' => ∃ B cb vs, v = .slice B N.length cb ∧ vs.length = N.length ∧ VOR N vs ∧ Own w' 0 30 1 (.slice B N.length cb) N.length (us vs) ∧ (∀ c, (Value.slice B N.length cb).ownBlock = some c → w.heap.size ≤ c) ∧ Tch N0 w w' := by
 refine enter Try.func29 rfl rfl ?_
 refine zQ ?_
 have lR_hD := hD.lt
 refine st (by rfl) (S_new (v := .pointer (some ⟨w.heap.size, 0, none⟩)) (ob := .cells #[.slice A N.length cp, .int .i64 most] 27) (by kernel_rfl) fun w1 hT2 hs3 hB4 => ?_)
 replace hB4 : Blk w1 (w.heap.size) 27 [.slice A N.length cp, .int .i64 most] := hB4
 have hT0 := hT2
 have hD := hD.tch0 hT2
 refine zS [(4, .slice none 0 0)] ?_
 refine op_nil ?_
 refine zQ ?_
 refine zS [(5, .slice none 0 0)] ?_
 refine op_nil ?_
 refine W_seq ?_
 refine zQ ?_
 refine zS [(6, .int .i64 0)] ?_
 refine op_nil ?_
 refine W_block ?_
 have hgQ : w.heap.size ≤ w.heap.size := by omega
 refine W_loop (fun m ρ w' => ∃ (B : Option Addr) (cb : Nat) (vs : List Nat) (i : Nat) (ρ0 : Env), ρ = updL ρ0 [(1, .slice C mm cc), (2, .pointer (some ⟨w.heap.size, 0, none⟩)), (5, .slice B i cb), (6, .int .i64 ((i : Nat) : Int))] ∧ (i ≤ N.length) ∧ (vs.length = i) ∧ (VOR N vs) ∧ (∀ c, (Value.slice B i cb).ownBlock = some c → w.heap.size ≤ c) ∧ Tch N0 w w' ∧ Own w' 0 32 6 (.slice A N.length cp) N.length (ncs N) ∧ Blk w' (w.heap.size) 27 [.slice A N.length cp, .int .i64 most] ∧ RdW w' 1 mm C (ints .u64 ins) ∧ Own w' 0 30 1 (.slice B i cb) i (us vs) ∧ m = N.length - i) (m := N.length - 0) ?_ ?_
 ·
  refine ⟨none, 0, [], 0, _, updL_self (by kernel_rfl), by omega, rfl, VOR_nil N, (fun c h => by cases h), hT0, hD, hB4, (hC.tch0 hT0), (Own.nil_ _ _ _ _), rfl⟩
 ·
  rintro m ρ w5 ⟨B, cb, vs, i, ρ, rfl, hi, hvl, hvk, nB_hH, hT0, hD, hQ, hCr, hH, rfl⟩
  refine W_seq ?_
  refine zQ ?_
  refine zS [(7, .int .i64 ((i : Nat) : Int)), (8, .pointer (some ⟨w.heap.size, 0, none⟩))] ?_
  refine zL (.slice A N.length cp) ((hQ.cell 0).trans rfl) ?_
  refine zS [(10, .int .i64 (N.length : Int)), (11, .bool (decide (((i : Nat) : Int) < (N.length : Int))))] ?_
  refine zO (decide (((i : Nat) : Int) < (N.length : Int))) (fun hc6 => ?_) (fun hc6 => ?_)
  ·
   replace hc6 : ((i : Nat) : Int) < (N.length : Int) := (of_decide_eq_true hc6)
   refine W_skip ?_
   refine W_seq ?_
   refine W_block ?_
   refine W_draw (fun w' => Blk w' (w.heap.size) 27 [.slice A N.length cp, .int .i64 most] ∧ Own w' 0 32 6 (.slice A N.length cp) N.length (ncs N)) (by kernel_rfl) (by kernel_rfl) (by kernel_rfl) fun w7 hT8 hh9 => ?_
   have hT0 := hT0.t0 hT8
   have hD := hD.tch0 hT8
   have hQ := hQ.tch0 hT8
   have hCr := hC.tch0 hT0
   have hH := hH.tch0 hT8
   refine zK [0, 2, 4, 7, 8] #[true, false, true, false, true, false, false, true, true, false, false, false, false] [(14, .slice B i cb), (16, .pointer (some ⟨w.heap.size, 0, none⟩)), (18, .int .i64 ((i : Nat) : Int)), (21, .slice B i cb), (22, .slice C mm cc)] ⟨hQ, hD⟩ ?_
   refine zV 1 rfl (.agg #[.slice A N.length cp, .int .i64 most]) (fun _ ⟨hQ, hD⟩ => R_loadA [.slice A N.length cp, .int .i64 most] (by kernel_rfl) (by kernel_rfl) (by kernel_rfl) (fun k u hk => by rw [hQ.cell]; exact get_part _ 0 _ k u rfl hk)) ⟨hQ, hD⟩ ?_
   refine zV 3 rfl (.slice A N.length cp) (fun _ ⟨hQ, hD⟩ => R_load (v := .slice A N.length cp) (by kernel_rfl) (by kernel_rfl) ((hQ.cell 0).trans rfl)) ⟨hQ, hD⟩ ?_
   refine zV 5 rfl (ptrAt A (i * 6)) (fun _ ⟨hQ, hD⟩ => R_indexRd (sz := 6) (len := N.length) (cap := cp) (k := .i64) (i := ((i : Nat) : Int)) (e := 32) i hD.rdS (by kernel_rfl) (by kernel_rfl) (by kernel_rfl) (by kernel_rfl) rfl (by omega)) ⟨hQ, hD⟩ ?_
   refine zV 6 rfl (.agg #[.int .i64 (nO (nth N i)), .int .i64 (nW (nth N i)), .int .i64 (nA (nth N i)), .int .i64 (nB (nth N i)), .int .i64 (nC (nth N i)), .int .u64 (nV (nth N i))]) (fun _ ⟨hQ, hD⟩ => R_loadRdA [.int .i64 (nO (nth N i)), .int .i64 (nW (nth N i)), .int .i64 (nA (nth N i)), .int .i64 (nB (nth N i)), .int .i64 (nC (nth N i)), .int .u64 (nV (nth N i))] hD.rdS (by omega) (by kernel_rfl) (by kernel_rfl) (by kernel_rfl) (ncs_part N (by omega))) ⟨hQ, hD⟩ ?_
   refine zD 9 rfl (S_call (args := [.agg #[.slice A N.length cp, .int .i64 most], .agg #[.int .i64 (nO (nth N i)), .int .i64 (nW (nth N i)), .int .i64 (nA (nth N i)), .int .i64 (nB (nth N i)), .int .i64 (nC (nth N i)), .int .u64 (nV (nth N i))], .slice B i cb, .slice C mm cc]) (by kernel_rfl) (vr_all A cp most m2 N B i cb vs C mm cc ins _ hD hJ hB (by omega) hvl hH.rdS hCr hvk) ?_)
   rintro _ w10 ⟨r12, rfl, hg13, hT11⟩
   have hT0 := hT0.t0 hT11
   have hD := hD.tch0 hT11
   have hQ := hQ.tch0 hT11
   have hCr := hC.tch0 hT0
   have hH := hH.tch0 hT11
   refine ⟨⟨hQ, hD⟩, ?_⟩
   have hz18 := hT0.size
   have lR_hD := hD.lt
   have lt19 := hQ.lt
   have lR_hH := hH.lt
   have z20 := hT0.size
   have l21 := hQ.lt
   refine zD 10 rfl (S_new (v := .slice (some ⟨w10.heap.size, 0, none⟩) 1 1) (ob := .cells #[.int .u64 ((r12 : Nat) : Int)] 30) (by kernel_rfl) fun w14 hT15 hs16 hB17 => ?_)
   replace hB17 : Blk w14 (w10.heap.size) 30 [.int .u64 ((r12 : Nat) : Int)] := hB17
   have hT0 := hT0.t0 hT15
   have hD := hD.tch0 hT15
   have hQ := hQ.tch0 hT15
   have hCr := hC.tch0 hT0
   have hH := hH.tch0 hT15
   refine ⟨⟨hQ, hD⟩, ?_⟩
   have hz_ := hT0.size
   have lR_hD := hD.lt
   have lR_hH := hH.lt
   refine zD 11 rfl (S_appendR 59 30 (.int .u64 0) 1 8 (n := i) (m := 1) (A := B) (cp := cb) (cells := us vs) (news := [.int .u64 ((r12 : Nat) : Int)]) (b := w10.heap.size) (off := 0) (c := 1) (by kernel_rfl) (by kernel_rfl) (by decide) (by kernel_rfl) (by kernel_rfl) (by kernel_rfl) hH (by rfl) (fun k u hk => by rw [Nat.zero_add, hB17.cell]; exact hk) (by simp [oneV]) (by simp only [maxLen]; omega) (by omega) fun A22 cp23 w24 hO25 hw26 hT27 => ?_)
   have hT0 := (hT0).then hT27 nB_hH
   have hD := hD.tch hT27 (fun c hc e => Own.ne_own hD hH (by decide) c hc e)
   have hQ := hQ.tch hT27 (fun e => hH.blk_ne hQ (by decide) _ e rfl)
   have hCr := hC.tch0 hT0
   have hH : Own w24 0 30 1 (.slice A22 (i + 1) cp23) (i + 1) (us vs ++ [.int .u64 ((r12 : Nat) : Int)]) := hO25
   have nB_hH : ∀ c, (Value.slice A22 (i + 1) cp23).ownBlock = some c → w.heap.size ≤ c := fun c hc => (hw26 c hc).elim (nB_hH c) (fun q => by omega)
   refine ⟨⟨hQ, hD⟩, ?_⟩
   refine zK [12] #[true, true, true, true, true, true, true, true, true, true, true, true, true] [(5, .slice A22 (i + 1) cp23)] ⟨hQ, hD⟩ ?_
   refine d_done (by kernel_rfl) ?_
   refine zF [(1, .slice C mm cc), (2, .pointer (some ⟨w.heap.size, 0, none⟩)), (5, .slice A22 (i + 1) cp23), (6, .int .i64 ((i : Nat) : Int)), (11, .bool (decide (((i : Nat) : Int) < (N.length : Int))))] fun ρ => ?_
   refine zR ?_
   refine zS [(12, .int .i64 ((i : Nat) : Int)), (13, .int .i64 (IntKind.i64.wrap (((i : Nat) : Int) + 1)))] ?_
   rw [show IntKind.i64.wrap (((i : Nat) : Int) + 1) = ((i : Nat) : Int) + 1 from wrap_i64 (by omega) (by omega)]
   refine fixR (y := ((i + 1 : Nat) : Int)) (by omega) ?_
   refine zS [(6, .int .i64 ((i + 1 : Nat) : Int))] ?_
   refine op_nil ?_
   refine ⟨_, ?_, A22, cp23, vs ++ [r12], i + 1, _, updL_self (by kernel_rfl), ?_, (by rw [List.length_append]; simp; omega), (by subst hvl; exact hvk.add hg13), nB_hH, hT0, hD, hQ, hCr, (by rw [us_app]; exact hH), rfl⟩
   ·
    omega
   ·
    omega
  ·
   replace hc6 : (N.length : Int) ≤ ((i : Nat) : Int) := (Int.not_lt.1 (of_decide_eq_false hc6))
   refine W_exit ?_
   refine X_hit ?_
   refine zQ ?_
   refine zS [(26, .slice B i cb), (4, .slice B i cb)] ?_
   refine op_nil ?_
   refine W_ret ?_
   refine ⟨_, Res_of (v := .slice B i cb) (by kernel_rfl), ?_⟩
   have hiN : i = N.length := by omega
   subst hiN
   exact ⟨B, cb, vs, rfl, hvl, hvk, hH, nB_hH, hT0⟩

end Go.Proofs.YtlbadnpgmkobdaaV

set_option linter.unusedVariables false
set_option linter.unusedSimpArgs false
namespace Go.Proofs.YtlbadnpgmkobdaaV
open Go Go.RowKit Go.Proofs

set_option maxRecDepth 100000 in
theorem same_nd (n : Nd) (g : Value) (w : World) : Ret Try.prog 101 [.agg #[.int .i64 (nO n), .int .i64 (nW n), .int .i64 (nA n), .int .i64 (nB n), .int .i64 (nC n), .int .u64 (nV n)], g] w fun v w' => v = .agg #[.int .i64 (nO n), .int .i64 (nW n), .int .i64 (nA n), .int .i64 (nB n), .int .i64 (nC n), .int .u64 (nV n)] ∧ Tch N0 w w' := by
 refine enter Try.func101 rfl rfl ?_
 refine zQ ?_
 refine st (by rfl) (S_new (v := .pointer (some ⟨w.heap.size, 0, none⟩)) (ob := .cells #[.int .i64 (nO n), .int .i64 (nW n), .int .i64 (nA n), .int .i64 (nB n), .int .i64 (nC n), .int .u64 (nV n)] 32) (by kernel_rfl) fun w1 hT2 hs3 hB4 => ?_)
 replace hB4 : Blk w1 (w.heap.size) 32 [.int .i64 (nO n), .int .i64 (nW n), .int .i64 (nA n), .int .i64 (nB n), .int .i64 (nC n), .int .u64 (nV n)] := hB4
 have hT0 := hT2
 have z9 := hT0.size
 have l10 := hB4.lt
 refine st (by rfl) (S_new (v := .pointer (some ⟨w1.heap.size, 0, none⟩)) (ob := .cells #[.int .i64 0, .int .i64 0, .int .i64 0, .int .i64 0, .int .i64 0, .int .u64 0] 32) (by kernel_rfl) fun w5 hT6 hs7 hB8 => ?_)
 replace hB8 : Blk w5 (w1.heap.size) 32 [.int .i64 0, .int .i64 0, .int .i64 0, .int .i64 0, .int .i64 0, .int .u64 0] := hB8
 have hT0 := hT0.t0 hT6
 have hB4 := hB4.tch0 hT6
 refine op_nil ?_
 refine zQ ?_
 refine st (by rfl) (S_val (v := .agg #[.int .i64 (nO n), .int .i64 (nW n), .int .i64 (nA n), .int .i64 (nB n), .int .i64 (nC n), .int .u64 (nV n)]) (R_loadA [.int .i64 (nO n), .int .i64 (nW n), .int .i64 (nA n), .int .i64 (nB n), .int .i64 (nC n), .int .u64 (nV n)] (by kernel_rfl) (by kernel_rfl) (by kernel_rfl) (fun k u hk => by rw [hB4.cell]; exact get_part _ 0 _ k u rfl hk)) ?_)
 refine st (by rfl) (S_storeA (b := w1.heap.size) (j := 0) (cs := [.int .i64 (nO n), .int .i64 (nW n), .int .i64 (nA n), .int .i64 (nB n), .int .i64 (nC n), .int .u64 (nV n)]) (by kernel_rfl) (by kernel_rfl) (by kernel_rfl) (by simp [oneV]) hB8 (by simp) fun w11 hT12 hs13 hB8' => ?_)
 have hT0 := (hT0).then hT12 (fun c e => by have : c = w1.heap.size := e; omega)
 have hB4 := hB4.tch hT12 (fun e => by have : w.heap.size = w1.heap.size := e; omega)
 replace hB8 : Blk w11 w1.heap.size 32 [.int .i64 (nO n), .int .i64 (nW n), .int .i64 (nA n), .int .i64 (nB n), .int .i64 (nC n), .int .u64 (nV n)] := hB8'
 refine op_nil ?_
 refine W_ret ?_
 exact ⟨_, Res_cell (b := w1.heap.size) (cs := [.int .i64 (nO n), .int .i64 (nW n), .int .i64 (nA n), .int .i64 (nB n), .int .i64 (nC n), .int .u64 (nV n)]) (by rfl) (by kernel_rfl) (by kernel_rfl) hB8 (by kernel_rfl) (by kernel_rfl), ⟨rfl, hT0⟩⟩

set_option maxRecDepth 100000 in
theorem kids_ok (N : List Nd) (i : Nat) (n : Nd) (w : World) (h : NdW N i n) : Ret Try.prog 116 [.agg #[.int .i64 (nO n), .int .i64 (nW n), .int .i64 (nA n), .int .i64 (nB n), .int .i64 (nC n), .int .u64 (nV n)]] w fun v w' => KidR n w v w' := by
 refine enter Try.func116 rfl rfl ?_
 refine zQ ?_
 refine st (by rfl) (S_new (v := .pointer (some ⟨w.heap.size, 0, none⟩)) (ob := .cells #[.int .i64 (nO n), .int .i64 (nW n), .int .i64 (nA n), .int .i64 (nB n), .int .i64 (nC n), .int .u64 (nV n)] 32) (by kernel_rfl) fun w1 hT2 hs3 hB4 => ?_)
 replace hB4 : Blk w1 (w.heap.size) 32 [.int .i64 (nO n), .int .i64 (nW n), .int .i64 (nA n), .int .i64 (nB n), .int .i64 (nC n), .int .u64 (nV n)] := hB4
 have hT0 := hT2
 refine zS [(2, .slice none 0 0)] ?_
 refine op_nil ?_
 refine W_seq ?_
 refine W_block ?_
 refine W_seq ?_
 refine zQ ?_
 refine zS [(4, .pointer (some ⟨w.heap.size, 0, none⟩))] ?_
 refine zL (.int .i64 (nO n)) ((hB4.cell 0).trans rfl) ?_
 refine zS [(6, .bool ((nO n) == 20)), (3, .bool ((nO n) == 20))] ?_
 refine zO ((nO n) == 20) (fun hc5 => ?_) (fun hc5 => ?_)
 ·
  replace hc5 : nO n = 20 := (eq_of_beq hc5)
  refine W_skip ?_
  refine zW ((nO n) == 20) (fun hc6 => ?_) (fun hc6 => ?_)
  ·
   replace hc6 : nO n = 20 := (eq_of_beq hc6)
   refine zQ ?_
   refine zS [(2, .slice none 0 0)] ?_
   refine op_nil ?_
   refine W_ret ?_
   refine ⟨_, Res_of (v := .slice none 0 0) (by kernel_rfl), ?_⟩
   have e := kids_cells h
   rw [if_pos (by omega)] at e
   exact KidR.nil e hT0
  ·
   replace hc6 : nO n ≠ 20 := (ne_of_beq_false hc6)
   exfalso; omega
 ·
  replace hc5 : nO n ≠ 20 := (ne_of_beq_false hc5)
  refine zR ?_
  refine zS [(7, .pointer (some ⟨w.heap.size, 0, none⟩))] ?_
  refine zL (.int .i64 (nO n)) ((hB4.cell 0).trans rfl) ?_
  refine zS [(9, .bool ((nO n) == 21)), (3, .bool ((nO n) == 21))] ?_
  refine zO ((nO n) == 21) (fun hc7 => ?_) (fun hc7 => ?_)
  ·
   replace hc7 : nO n = 21 := (eq_of_beq hc7)
   refine W_seq ?_
   refine zF [(0, .agg #[.int .i64 (nO n), .int .i64 (nW n), .int .i64 (nA n), .int .i64 (nB n), .int .i64 (nC n), .int .u64 (nV n)]), (1, .pointer (some ⟨w.heap.size, 0, none⟩)), (2, .slice none 0 0), (3, .bool ((nO n) == 21))] fun ρ => ?_
   refine zR ?_
   refine zS [(2, .slice none 0 0)] ?_
   refine op_nil ?_
   refine W_ret ?_
   refine ⟨_, Res_of (v := .slice none 0 0) (by kernel_rfl), ?_⟩
   have e := kids_cells h
   rw [if_pos (by omega)] at e
   exact KidR.nil e hT0
  ·
   replace hc7 : nO n ≠ 21 := (ne_of_beq_false hc7)
   refine W_seq ?_
   refine zF [(0, .agg #[.int .i64 (nO n), .int .i64 (nW n), .int .i64 (nA n), .int .i64 (nB n), .int .i64 (nC n), .int .u64 (nV n)]), (1, .pointer (some ⟨w.heap.size, 0, none⟩)), (2, .slice none 0 0), (3, .bool ((nO n) == 21))] fun ρ => ?_
   refine zR ?_
   refine zS [(11, .pointer (some ⟨w.heap.size, 0, none⟩))] ?_
   refine zL (.int .i64 (nO n)) ((hB4.cell 0).trans rfl) ?_
   refine zS [(13, .bool ((nO n) == 22)), (10, .bool ((nO n) == 22))] ?_
   refine zO ((nO n) == 22) (fun hc8 => ?_) (fun hc8 => ?_)
   ·
    replace hc8 : nO n = 22 := (eq_of_beq hc8)
    refine zQ ?_
    refine zS [(14, .pointer (some ⟨w.heap.size, 2, none⟩))] ?_
    refine zL (.int .i64 (nA n)) ((hB4.cell 2).trans rfl) ?_
    refine zS [(16, .pointer (some ⟨w.heap.size, 3, none⟩))] ?_
    refine zL (.int .i64 (nB n)) ((hB4.cell 3).trans rfl) ?_
    refine zS [(18, .pointer (some ⟨w.heap.size, 4, none⟩))] ?_
    refine zL (.int .i64 (nC n)) ((hB4.cell 4).trans rfl) ?_
    have hz13 := hT0.size
    have z14 := hT0.size
    have l15 := hB4.lt
    refine st (by rfl) (S_new (v := .slice (some ⟨w1.heap.size, 0, none⟩) 3 3) (ob := .cells #[.int .i64 (nA n), .int .i64 (nB n), .int .i64 (nC n)] 3) (by kernel_rfl) fun w9 hT10 hs11 hB12 => ?_)
    replace hB12 : Blk w9 (w1.heap.size) 3 [.int .i64 (nA n), .int .i64 (nB n), .int .i64 (nC n)] := hB12
    have hT0 := hT0.t0 hT10
    have hB4 := hB4.tch0 hT10
    refine zS [(2, .slice (some ⟨w1.heap.size, 0, none⟩) 3 3)] ?_
    refine op_nil ?_
    refine W_ret ?_
    refine ⟨_, Res_of (v := .slice (some ⟨w1.heap.size, 0, none⟩) 3 3) (by kernel_rfl), ?_⟩
    have e := kids_cells h
    rw [if_neg (by omega), if_pos (by omega)] at e
    exact KidR.blk e rfl hB12 (by have := hT0.size; omega) (by omega) hT0
   ·
    replace hc8 : nO n ≠ 22 := (ne_of_beq_false hc8)
    refine W_seq ?_
    refine zQ ?_
    refine zS [(22, .pointer (some ⟨w.heap.size, 0, none⟩))] ?_
    refine zL (.int .i64 (nO n)) ((hB4.cell 0).trans rfl) ?_
    refine zS [(24, .bool (decide (nO n ≤ 14))), (21, .bool (decide (nO n ≤ 14)))] ?_
    refine zO (decide (nO n ≤ 14)) (fun hc16 => ?_) (fun hc16 => ?_)
    ·
     replace hc16 : nO n ≤ 14 := (of_decide_eq_true hc16)
     refine W_skip ?_
     refine zW (decide (nO n ≤ 14)) (fun hc17 => ?_) (fun hc17 => ?_)
     ·
      replace hc17 : nO n ≤ 14 := (of_decide_eq_true hc17)
      refine W_seq ?_
      refine zF [(0, .agg #[.int .i64 (nO n), .int .i64 (nW n), .int .i64 (nA n), .int .i64 (nB n), .int .i64 (nC n), .int .u64 (nV n)]), (1, .pointer (some ⟨w.heap.size, 0, none⟩)), (2, .slice none 0 0), (3, .bool ((nO n) == 21)), (10, .bool ((nO n) == 22)), (21, .bool (decide (nO n ≤ 14)))] fun ρ => ?_
      refine zR ?_
      refine zS [(28, .pointer (some ⟨w.heap.size, 2, none⟩))] ?_
      refine zL (.int .i64 (nA n)) ((hB4.cell 2).trans rfl) ?_
      refine zS [(30, .pointer (some ⟨w.heap.size, 3, none⟩))] ?_
      refine zL (.int .i64 (nB n)) ((hB4.cell 3).trans rfl) ?_
      have hz22 := hT0.size
      have z23 := hT0.size
      have l24 := hB4.lt
      refine st (by rfl) (S_new (v := .slice (some ⟨w1.heap.size, 0, none⟩) 2 2) (ob := .cells #[.int .i64 (nA n), .int .i64 (nB n)] 3) (by kernel_rfl) fun w18 hT19 hs20 hB21 => ?_)
      replace hB21 : Blk w18 (w1.heap.size) 3 [.int .i64 (nA n), .int .i64 (nB n)] := hB21
      have hT0 := hT0.t0 hT19
      have hB4 := hB4.tch0 hT19
      refine zS [(2, .slice (some ⟨w1.heap.size, 0, none⟩) 2 2)] ?_
      refine op_nil ?_
      refine W_ret ?_
      refine ⟨_, Res_of (v := .slice (some ⟨w1.heap.size, 0, none⟩) 2 2) (by kernel_rfl), ?_⟩
      have e := kids_cells h
      rw [if_neg (by omega), if_neg (by omega), if_pos (by omega)] at e
      exact KidR.blk e rfl hB21 (by have := hT0.size; omega) (by omega) hT0
     ·
      replace hc17 : 14 < nO n := (Int.not_le.1 (of_decide_eq_false hc17))
      exfalso; omega
    ·
     replace hc16 : 14 < nO n := (Int.not_le.1 (of_decide_eq_false hc16))
     refine zF [(0, .agg #[.int .i64 (nO n), .int .i64 (nW n), .int .i64 (nA n), .int .i64 (nB n), .int .i64 (nC n), .int .u64 (nV n)]), (1, .pointer (some ⟨w.heap.size, 0, none⟩)), (2, .slice none 0 0), (3, .bool ((nO n) == 21)), (10, .bool ((nO n) == 22)), (21, .bool (decide (nO n ≤ 14)))] fun ρ => ?_
     refine zR ?_
     refine zS [(25, .pointer (some ⟨w.heap.size, 0, none⟩))] ?_
     refine zL (.int .i64 (nO n)) ((hB4.cell 0).trans rfl) ?_
     refine zS [(27, .bool ((nO n) == 24)), (21, .bool ((nO n) == 24))] ?_
     refine zO ((nO n) == 24) (fun hc25 => ?_) (fun hc25 => ?_)
     ·
      replace hc25 : nO n = 24 := (eq_of_beq hc25)
      refine zQ ?_
      refine zS [(28, .pointer (some ⟨w.heap.size, 2, none⟩))] ?_
      refine zL (.int .i64 (nA n)) ((hB4.cell 2).trans rfl) ?_
      refine zS [(30, .pointer (some ⟨w.heap.size, 3, none⟩))] ?_
      refine zL (.int .i64 (nB n)) ((hB4.cell 3).trans rfl) ?_
      have hz30 := hT0.size
      have z31 := hT0.size
      have l32 := hB4.lt
      refine st (by rfl) (S_new (v := .slice (some ⟨w1.heap.size, 0, none⟩) 2 2) (ob := .cells #[.int .i64 (nA n), .int .i64 (nB n)] 3) (by kernel_rfl) fun w26 hT27 hs28 hB29 => ?_)
      replace hB29 : Blk w26 (w1.heap.size) 3 [.int .i64 (nA n), .int .i64 (nB n)] := hB29
      have hT0 := hT0.t0 hT27
      have hB4 := hB4.tch0 hT27
      refine zS [(2, .slice (some ⟨w1.heap.size, 0, none⟩) 2 2)] ?_
      refine op_nil ?_
      refine W_ret ?_
      refine ⟨_, Res_of (v := .slice (some ⟨w1.heap.size, 0, none⟩) 2 2) (by kernel_rfl), ?_⟩
      have e := kids_cells h
      rw [if_neg (by omega), if_neg (by omega), if_pos (by omega)] at e
      exact KidR.blk e rfl hB29 (by have := hT0.size; omega) (by omega) hT0
     ·
      replace hc25 : nO n ≠ 24 := (ne_of_beq_false hc25)
      refine W_skip ?_
      refine zQ ?_
      refine zS [(33, .pointer (some ⟨w.heap.size, 2, none⟩))] ?_
      refine zL (.int .i64 (nA n)) ((hB4.cell 2).trans rfl) ?_
      have hz37 := hT0.size
      have z38 := hT0.size
      have l39 := hB4.lt
      refine st (by rfl) (S_new (v := .slice (some ⟨w1.heap.size, 0, none⟩) 1 1) (ob := .cells #[.int .i64 (nA n)] 3) (by kernel_rfl) fun w33 hT34 hs35 hB36 => ?_)
      replace hB36 : Blk w33 (w1.heap.size) 3 [.int .i64 (nA n)] := hB36
      have hT0 := hT0.t0 hT34
      have hB4 := hB4.tch0 hT34
      refine zS [(2, .slice (some ⟨w1.heap.size, 0, none⟩) 1 1)] ?_
      refine op_nil ?_
      refine W_ret ?_
      refine ⟨_, Res_of (v := .slice (some ⟨w1.heap.size, 0, none⟩) 1 1) (by kernel_rfl), ?_⟩
      have e := kids_cells h
      rw [if_neg (by omega), if_neg (by omega), if_neg (by omega)] at e
      exact KidR.blk e rfl hB36 (by have := hT0.size; omega) (by omega) hT0

end Go.Proofs.YtlbadnpgmkobdaaV
