/- Texts laid together: Walks of functions of the program and of the document's texts. The conditions stand with each theorem. Walks of functions of the program and of the document's texts. The conditions stand with each theorem. Walks of functions of the program and of the document's texts. The conditions stand with each theorem. One node's span, whatever it is: both sides. Walks of functions of the program and of the document's texts. The conditions stand with each theorem. Walks of functions of the program and of the document's texts. The conditions stand with each theorem. An argument that is a deed, or a row of such, opened. Walks of functions of the program and of the document's texts. The conditions stand with each theorem. -/
import Derived.Test.YtlbadnpgmkobdaaJRrang26x1
import Derived.Test.YtlbadnpgmkobdaaProg
import Derived.Test.YtlbadnpgmkobdaaG2
import Derived.Test.YtlbadnpgmkobdaaJRrang26x6
import Derived.Test.YtlbadnpgmkobdaaG3
import Derived.Test.YtlbadnpgmkobdaaJRrang26x9
import Derived.Test.YtlbadnpgmkobdaaJRrang26x2
import Derived.WideShapes
import Derived.ProofKit
import Derived.OpenShut
import Derived.Deep.Slices
import Derived.Deep.Strs
import Derived.Lib.SmallJoins
import Derived.Test.YtlbadnpgmkobdaaJRrang26x3
set_option linter.unusedVariables false
set_option linter.unusedSimpArgs false
namespace Go.Proofs.YtlbadnpgmkobdaaV
open Go Go.RowKit Go.Proofs

section
variable {ρ : Env} {w : World}
end

end Go.Proofs.YtlbadnpgmkobdaaV

set_option linter.unusedVariables false
set_option linter.unusedSimpArgs false
namespace Go.Proofs.YtlbadnpgmkobdaaV
open Go Go.RowKit Go.Proofs

end Go.Proofs.YtlbadnpgmkobdaaV

set_option linter.unusedVariables false
set_option linter.unusedSimpArgs false
namespace Go.Proofs.YtlbadnpgmkobdaaV
open Go Go.RowKit Go.Proofs

end Go.Proofs.YtlbadnpgmkobdaaV

set_option linter.unusedVariables false
set_option linter.unusedSimpArgs false
namespace Go.Proofs.YtlbadnpgmkobdaaV
open Go Go.RowKit Go.Proofs
theorem node_casesR {N : List Nd} {most : Int} {i : Nat} (hJ : TJ N most) (hB : TB N) (hi : i < N.length) (P : Int → Int → Int → Int → Int → Int → K → Prop)
  (h20 : ∀ (nw wd up : Nat) (xa xb xc : Int) (x y z : K) (lo V : Nat), b64 xa → V < 18446744073709551616 → P 20 nw xa xb xc V (rone 20 nw wd up x y z lo V))
  (h21 : ∀ (nw wd up : Nat) (xa xb xc xv : Int) (x y z : K) (lo V : Nat), b64 xa → nw ≤ 64 → P 21 nw xa xb xc xv (rone 21 nw wd up x y z lo V))
  (h16 : ∀ (nw wd up a : Nat) (xb xc xv : Int) (y z : K) (lo V : Nat), a < i → widF N ((a : Nat) : Int) = ((wd : Nat) : Int) → RI wd (kg (rl N i) a) → wd ≤ 64 → nw ≤ 64 → P 16 nw a xb xc xv (rone 16 nw wd up (kg (rl N i) a) y z lo V))
  (h15 : ∀ (wd up a : Nat) (xb xc xv : Int) (y z : K) (lo V : Nat), a < i → widF N ((a : Nat) : Int) = ((wd : Nat) : Int) → RI wd (kg (rl N i) a) → wd ≤ 64 → P 15 wd a xb xc xv (rone 15 wd wd up (kg (rl N i) a) y z lo V))
  (h2 : ∀ (nw wd up a b : Nat) (xc xv : Int) (z : K) (lo V O : Nat), a < i → b < i → widF N ((a : Nat) : Int) = ((wd : Nat) : Int) → RI wd (kg (rl N i) a) → RI wd (kg (rl N i) b) → 1 ≤ wd → wd ≤ 64 → (1 ≤ O ∧ O ≤ 14) → P O nw a b xc xv (rone O nw wd up (kg (rl N i) a) (kg (rl N i) b) z lo V))
  (h22 : ∀ (nw wd up a b c : Nat) (xv : Int) (lo V : Nat), a < i → b < i → c < i → widF N ((a : Nat) : Int) = ((wd : Nat) : Int) → RI 1 (kg (rl N i) a) → RI nw (kg (rl N i) b) → RI nw (kg (rl N i) c) → nw ≤ 64 → P 22 nw a b c xv (rone 22 nw wd up (kg (rl N i) a) (kg (rl N i) b) (kg (rl N i) c) lo V))
  (h23 : ∀ (nw wd up a lo : Nat) (xc xv : Int) (y z : K) (V : Nat), a < i → widF N ((a : Nat) : Int) = ((wd : Nat) : Int) → RI wd (kg (rl N i) a) → wd ≤ 64 → nw ≤ 64 → P 23 nw a lo xc xv (rone 23 nw wd up (kg (rl N i) a) y z lo V))
  (h24 : ∀ (nw wd up a b : Nat) (xc xv : Int) (z : K) (lo V : Nat), a < i → b < i → widF N ((a : Nat) : Int) = ((wd : Nat) : Int) → widF N ((b : Nat) : Int) = ((up : Nat) : Int) → RI wd (kg (rl N i) a) → RI up (kg (rl N i) b) → wd + up ≤ 64 → P 24 nw a b xc xv (rone 24 nw wd up (kg (rl N i) a) (kg (rl N i) b) z lo V))
  (h25 : ∀ (nw wd up a : Nat) (xb xc xv : Int) (y z : K) (lo V : Nat), a < i → widF N ((a : Nat) : Int) = ((wd : Nat) : Int) → RI wd (kg (rl N i) a) → wd ≤ 64 → P 25 nw a xb xc xv (rone 25 nw wd up (kg (rl N i) a) y z lo V))
  (h26 : ∀ (nw wd up a : Nat) (xb xc xv : Int) (y z : K) (lo V : Nat), a < i → widF N ((a : Nat) : Int) = ((wd : Nat) : Int) → RI wd (kg (rl N i) a) → wd ≤ 64 → 1 ≤ wd → nw ≤ 64 → P 26 nw a xb xc xv (rone 26 nw wd up (kg (rl N i) a) y z lo V)) :
  P (nO (nth N i)) (nW (nth N i)) (nA (nth N i)) (nB (nth N i)) (nC (nth N i)) (nV (nth N i)) (ronN N (rl N i) (nth N i)) := by
 have hn := hB i hi
 have hwr := hJ.wr _ (nth_mem hi)
 have hwf := hJ.ti.wf _ (nth_mem hi)
 have hu := hwf.2.2.2.2.2
 have hba := hwf.2.2.1
 unfold u64 at hu
 generalize nth N i = n at hn hwr hwf hu hba ⊢
 have key : ∀ (o w a b c v : Int) (x : K), nO n = o → nW n = w → nA n = a → nB n = b → nC n = c → nV n = v → ronN N (rl N i) n = x → P o w a b c v x → P (nO n) (nW n) (nA n) (nB n) (nC n) (nV n) (ronN N (rl N i) n) := by
  rintro o w a b c v x rfl rfl rfl rfl rfl rfl rfl h; exact h
 have tn : ∀ {x : Int}, 0 ≤ x → x = ((x.toNat : Nat) : Int) := fun h => (Int.toNat_of_nonneg h).symm
 have lt : ∀ {x : Int}, pt i x → x.toNat < i := fun p => by have := p.1; have := p.2; omega
 have arg : ∀ {x : Int}, pt i x → RI (widF N x).toNat (kg (rl N i) x.toNat) := fun p => by
  rw [wid_nth p (by omega)]; exact rl_RI hJ hB _ _ (lt p) (by have := lt p; omega)
 have wd : ∀ {x : Int}, pt i x → 1 ≤ widF N x ∧ widF N x ≤ 64 := fun p => hJ.wid p.1 (by have := p.2; omega)
 have we : ∀ {x : Int}, pt i x → widF N ((x.toNat : Nat) : Int) = (((widF N x).toNat : Nat) : Int) := fun p => by
  rw [Int.toNat_of_nonneg p.1, Int.toNat_of_nonneg (by have := (wd p).1; omega)]
 have hwn : nW n = (((nW n).toNat : Nat) : Int) := tn (by omega)
 rcases hn with h | h | ⟨h, a, e⟩ | ⟨h, a, b, e, e2⟩ | ⟨h, a, b, c, e, e2, e3⟩ | ⟨h, a, b, e⟩ | ⟨h, a, b, e⟩ | ⟨h, a, e⟩
 ·
  refine key _ _ _ _ _ _ _ h.1 hwn rfl rfl rfl (tn hu.1) ?_ (h20 (nW n).toNat (widF N (nA n)).toNat (widF N (nB n)).toNat (nA n) (nB n) (nC n) (kg (rl N i) (nA n).toNat) (kg (rl N i) (nB n).toNat) (kg (rl N i) (nC n).toNat) (nB n).toNat (nV n).toNat hba (by omega))
  unfold ronN; rw [show (nO n).toNat = 20 by omega]
 ·
  refine key _ _ _ _ _ _ _ h.1 hwn rfl rfl rfl rfl ?_ (h21 (nW n).toNat (widF N (nA n)).toNat (widF N (nB n)).toNat (nA n) (nB n) (nC n) (nV n) (kg (rl N i) (nA n).toNat) (kg (rl N i) (nB n).toNat) (kg (rl N i) (nC n).toNat) (nB n).toNat (nV n).toNat hba (by omega))
  unfold ronN; rw [show (nO n).toNat = 21 by omega]
 ·
  have w1 := wd a
  rcases h with h | h
  ·
   have en : (nW n).toNat = (widF N (nA n)).toNat := by rw [e]
   refine key _ _ _ _ _ _ _ h (by rw [e]; exact tn (by omega)) (tn a.1) rfl rfl rfl ?_ (h15 (widF N (nA n)).toNat (widF N (nB n)).toNat (nA n).toNat (nB n) (nC n) (nV n) (kg (rl N i) (nB n).toNat) (kg (rl N i) (nC n).toNat) (nB n).toNat (nV n).toNat (lt a) (we a) (arg a) (by omega))
   unfold ronN; rw [show (nO n).toNat = 15 by omega, en]
  ·
   refine key _ _ _ _ _ _ _ h hwn (tn a.1) rfl rfl rfl ?_ (h16 (nW n).toNat (widF N (nA n)).toNat (widF N (nB n)).toNat (nA n).toNat (nB n) (nC n) (nV n) (kg (rl N i) (nB n).toNat) (kg (rl N i) (nC n).toNat) (nB n).toNat (nV n).toNat (lt a) (we a) (arg a) (by omega) (by omega))
   unfold ronN; rw [show (nO n).toNat = 16 by omega]
 ·
  have w1 := wd a
  have hy := arg b
  rw [← e] at hy
  exact key _ _ _ _ _ _ _ (tn (by omega)) hwn (tn a.1) (tn b.1) rfl rfl rfl (h2 (nW n).toNat (widF N (nA n)).toNat (widF N (nB n)).toNat (nA n).toNat (nB n).toNat (nC n) (nV n) (kg (rl N i) (nC n).toNat) (nB n).toNat (nV n).toNat (nO n).toNat (lt a) (lt b) (we a) (arg a) hy (by omega) (by omega) (by omega))
 ·
  have w1 := wd a
  have w2 := wd b
  have hx := arg a
  have hy := arg b
  have hz := arg c
  rw [e] at hx
  rw [← e2] at hz
  rw [← e3] at hy hz
  refine key _ _ _ _ _ _ _ h hwn (tn a.1) (tn b.1) (tn c.1) rfl ?_ (h22 (nW n).toNat (widF N (nA n)).toNat (widF N (nB n)).toNat (nA n).toNat (nB n).toNat (nC n).toNat (nV n) (nB n).toNat (nV n).toNat (lt a) (lt b) (lt c) (we a) hx hy hz (by omega))
  unfold ronN; rw [show (nO n).toNat = 22 by omega]
 ·
  have w1 := wd a
  refine key _ _ _ _ _ _ _ h hwn (tn a.1) (tn b) rfl rfl ?_ (h23 (nW n).toNat (widF N (nA n)).toNat (widF N (nB n)).toNat (nA n).toNat (nB n).toNat (nC n) (nV n) (kg (rl N i) (nB n).toNat) (kg (rl N i) (nC n).toNat) (nV n).toNat (lt a) (we a) (arg a) (by omega) (by omega))
  unfold ronN; rw [show (nO n).toNat = 23 by omega]
 ·
  have w1 := wd a
  have w2 := wd b
  refine key _ _ _ _ _ _ _ h hwn (tn a.1) (tn b.1) rfl rfl ?_ (h24 (nW n).toNat (widF N (nA n)).toNat (widF N (nB n)).toNat (nA n).toNat (nB n).toNat (nC n) (nV n) (kg (rl N i) (nC n).toNat) (nB n).toNat (nV n).toNat (lt a) (lt b) (we a) (we b) (arg a) (arg b) (by omega))
  unfold ronN; rw [show (nO n).toNat = 24 by omega]
 ·
  have w1 := wd a
  rcases h with h | h
  ·
   refine key _ _ _ _ _ _ _ h hwn (tn a.1) rfl rfl rfl ?_ (h25 (nW n).toNat (widF N (nA n)).toNat (widF N (nB n)).toNat (nA n).toNat (nB n) (nC n) (nV n) (kg (rl N i) (nB n).toNat) (kg (rl N i) (nC n).toNat) (nB n).toNat (nV n).toNat (lt a) (we a) (arg a) (by omega))
   unfold ronN; rw [show (nO n).toNat = 25 by omega]
  ·
   refine key _ _ _ _ _ _ _ h hwn (tn a.1) rfl rfl rfl ?_ (h26 (nW n).toNat (widF N (nA n)).toNat (widF N (nB n)).toNat (nA n).toNat (nB n) (nC n) (nV n) (kg (rl N i) (nB n).toNat) (kg (rl N i) (nC n).toNat) (nB n).toNat (nV n).toNat (lt a) (we a) (arg a) (by omega) (by omega) (by omega))
   unfold ronN; rw [show (nO n).toNat = 26 by omega]
theorem sp_all (F : Nat → Prop) (p : Nat) (most : Int) (N : List Nd) (W : Value → Value → Prop) (f mb i : Nat) (w : World) (hL : TLow F w p most N W) (hJ : TJ N most) (hB : TB N) (hN : N.length ≤ 65536) (hi : i < N.length) (hP : Blk w f 111 [.pointer (some ⟨p, 0, none⟩), .map (some mb)]) (hM : MapE Try.prog 3 w mb (spR (rl N i))) : Ret Try.prog 54 [.pointer (some ⟨f, 0, none⟩), .agg #[.int .i64 (nO (nth N i)), .int .i64 (nW (nth N i)), .int .i64 (nA (nth N i)), .int .i64 (nB (nth N i)), .int .i64 (nC (nth N i)), .int .u64 (nV (nth N i))]] w fun v w' => v = .agg #[.int .u64 (((ronN N (rl N i) (nth N i)).1 : Nat) : Int), .int .u64 (((ronN N (rl N i) (nth N i)).2 : Nat) : Int)] ∧ Tch N0 w w' :=
  node_casesR hJ hB hi (fun o wd a b c v x => Ret Try.prog 54 [.pointer (some ⟨f, 0, none⟩), .agg #[.int .i64 o, .int .i64 wd, .int .i64 a, .int .i64 b, .int .i64 c, .int .u64 v]] w fun r w' => r = .agg #[.int .u64 ((x.1 : Nat) : Int), .int .u64 ((x.2 : Nat) : Int)] ∧ Tch N0 w w')
    (fun nw wd up xa xb xc x y z lo V h1 h2 => sp20_ok F p most N W f i mb (rl N i) nw wd up xa xb xc x y z lo V w hL hN hP hM (rl_length N i) (by omega) h1 h2)
    (fun nw wd up xa xb xc xv x y z lo V h1 h2 => sp21_ok F p most N W f i mb (rl N i) nw wd up xa xb xc xv x y z lo V w hL hN hP hM (rl_length N i) (by omega) h1 h2)
    (fun nw wd up a xb xc xv y z lo V h1 h2 h3 h4 h5 => sp16_ok F p most N W f i mb (rl N i) nw wd up a xb xc xv y z lo V w hL hN hP hM (rl_length N i) (by omega) h1 h2 h3 h4 h5)
    (fun wd up a xb xc xv y z lo V h1 h2 h3 h4 => sp15_ok F p most N W f i mb (rl N i) wd up a xb xc xv y z lo V w hL hN hP hM (rl_length N i) (by omega) h1 h2 h3 h4)
    (fun nw wd up a b xc xv z lo V O h1 h2 h3 h4 h5 h6 h7 h8 => spO_ok F p most N W f i mb (rl N i) nw wd up a b xc xv z lo V O w hL hN hP hM (rl_length N i) (by omega) h1 h2 h3 h4 h5 h6 h7 h8)
    (fun nw wd up a b c xv lo V h1 h2 h3 h4 h5 h6 h7 h8 => sp22_ok F p most N W f i mb (rl N i) nw wd up a b c xv lo V w hL hN hP hM (rl_length N i) (by omega) h1 h2 h3 h4 h5 h6 h7 h8)
    (fun nw wd up a lo xc xv y z V h1 h2 h3 h4 h5 => sp23_ok F p most N W f i mb (rl N i) nw wd up a lo xc xv y z V w hL hN hP hM (rl_length N i) (by omega) h1 h2 h3 h4 h5)
    (fun nw wd up a b xc xv z lo V h1 h2 h3 h4 h5 h6 h7 => sp24_ok F p most N W f i mb (rl N i) nw wd up a b xc xv z lo V w hL hN hP hM (rl_length N i) (by omega) h1 h2 h3 h4 h5 h6 h7)
    (fun nw wd up a xb xc xv y z lo V h1 h2 h3 h4 => sp25_ok F p most N W f i mb (rl N i) nw wd up a xb xc xv y z lo V w hL hN hP hM (rl_length N i) (by omega) h1 h2 h3 h4)
    (fun nw wd up a xb xc xv y z lo V h1 h2 h3 h4 h5 h6 => sp26_ok F p most N W f i mb (rl N i) nw wd up a xb xc xv y z lo V w hL hN hP hM (rl_length N i) (by omega) h1 h2 h3 h4 h5 h6)
end Go.Proofs.YtlbadnpgmkobdaaV

set_option linter.unusedVariables false
set_option linter.unusedSimpArgs false
namespace Go.Proofs.YtlbadnpgmkobdaaV
open Go Go.RowKit Go.Proofs

def erR (N : List Nd) (x : Int) : Int := if isT N x then 0 else 11
theorem erR_in {N : List Nd} {x : Int} (h : 0 ≤ x ∧ x < (N.length : Int)) : erR N x = 0 := by unfold erR isT; rw [if_pos (decide_eq_true h)]
theorem erR_out {N : List Nd} {x : Int} (h : isT N x = false) : erR N x = 11 := by unfold erR; rw [h]; rfl
def rgF (N : List Nd) (x : Int) : K := if isT N x then ronN N (rl N x.toNat) (nth N x.toNat) else (0, 0)
theorem rgF_in {N : List Nd} {x : Int} {j : Nat} (h : 0 ≤ x ∧ x < (N.length : Int)) (hj : j = x.toNat + 1) : kg (rl N j) x.toNat = rgF N x := by
 subst hj
 unfold rgF isT
 rw [if_pos (decide_eq_true h)]
 exact rl_kg (by omega)
theorem rgF_out {N : List Nd} {x : Int} (h : isT N x = false) : rgF N x = (0, 0) := by unfold rgF; rw [h]; rfl
theorem spR_rl (N : List Nd) (i : Nat) (x y : Value) : spR (rl N (i + 1)) x y ↔ (x ≠ .int .i64 ((i : Nat) : Int) ∧ spR (rl N i) x y) ∨ (x = .int .i64 ((i : Nat) : Int) ∧ y = kV (ronN N (rl N i) (nth N i))) := by
 have h := spR_add (l := rl N i) (z := ronN N (rl N i) (nth N i)) x y
 rw [rl_length] at h
 exact h

set_option maxRecDepth 100000 in
set_option maxHeartbeats 1000000 in
theorem Rg_in (F : Nat → Prop) (p : Nat) (most : Int) (N : List Nd) (W : Value → Value → Prop) (id : Nat) (w : World) (hL : TLow F w p most N W) (hN : N.length ≤ 65536) (hJ : TJ N most) (hB : TB N) (hid : id < N.length) : Ret Try.prog 32 [.pointer (some ⟨p, 0, none⟩), .int .i64 ((id : Nat) : Int)] w fun v w' => v = .tuple #[.int .u64 (((ronN N (rl N id) (nth N id)).1 : Nat) : Int), .int .u64 (((ronN N (rl N id) (nth N id)).2 : Nat) : Int), .int .i64 0] ∧ Tch N0 w w' := by
 have hL0 := hL.lt
 have hisT : isT N ((id : Nat) : Int) = true := by unfold isT; exact decide_eq_true (by omega)
 refine enter Try.func32 rfl rfl ?_
 refine zQ ?_
 refine zS [(4, .int .u64 0), (5, .int .u64 0), (6, .int .i64 0)] ?_
 refine op_nil ?_
 refine W_seq ?_
 refine zQ ?_
 refine zS [(11, .pointer (some ⟨p, 0, none⟩)), (12, .int .i64 ((id : Nat) : Int))] ?_
 refine zC (size_ok F p most N W ((id : Nat) : Int) _ hL hN hB) ?_
 rintro _ w1 ⟨m, rfl, hms, hT2⟩
 have hT0 := hT2
 have hL := hL.tch0 hT2
 refine zS [(14, .bool (((m : Nat) : Int) == 0))] ?_
 refine zO (((m : Nat) : Int) == 0) (fun hc3 => ?_) (fun hc3 => ?_)
 ·
  replace hc3 : ((m : Nat) : Int) = 0 := (eq_of_beq hc3)
  exact absurd (hms.1 hc3) (by rw [hisT]; decide)
 ·
  replace hc3 : ((m : Nat) : Int) ≠ 0 := (ne_of_beq_false hc3)
  refine W_skip ?_
  refine zQ ?_
  refine zS [(15, .pointer (some ⟨p, 0, none⟩))] ?_
  refine st (by rfl) (S_makeMapE 3 fun w4 hT5 hs6 hM0 => ?_)
  have hzm := hT0.size
  have hT0 := hT0.t0 hT5
  have hL := hL.tch0 hT5
  have hM := hM0.congr spR_nil
  have hmlt := hM.lt
  have hmF : ¬ F (w1.heap.size) := fun e => by have := hL0 _ e; omega
  refine zS [(17, .agg #[.pointer (some ⟨p, 0, none⟩), .map (some w1.heap.size)])] ?_
  have hlt_ := hL.lt
  have hz11 := hT0.size
  have z12 := hT0.size
  refine st (by rfl) (S_new (v := .pointer (some ⟨w4.heap.size, 0, none⟩)) (ob := .cells #[.pointer (some ⟨p, 0, none⟩), .map (some w1.heap.size)] 111) (by kernel_rfl) fun w7 hT8 hs9 hB10 => ?_)
  replace hB10 : Blk w7 (w4.heap.size) 111 [.pointer (some ⟨p, 0, none⟩), .map (some w1.heap.size)] := hB10
  have hT0 := hT0.t0 hT8
  have hL := hL.tch0 hT8
  have hM := hM.tch0 hT8
  have nF_hB10 : ¬ F (w4.heap.size) := fun e => by have := hlt_ _ e; omega
  refine zS [(7, .pointer (some ⟨w4.heap.size, 0, none⟩))] ?_
  refine op_nil ?_
  refine W_seq ?_
  refine W_seq ?_
  refine zF [(0, .pointer (some ⟨p, 0, none⟩)), (1, .int .i64 ((id : Nat) : Int)), (4, .int .u64 0), (5, .int .u64 0), (6, .int .i64 0), (7, .pointer (some ⟨w4.heap.size, 0, none⟩)), (14, .bool (((m : Nat) : Int) == 0))] fun ρ => ?_
  refine zR ?_
  refine zS [(8, .int .i64 0)] ?_
  refine op_nil ?_
  refine W_block ?_
  have nF_hQ := nF_hB10
  have hgQ : w.heap.size ≤ w4.heap.size := by omega
  refine W_loop (fun m ρ w' => ∃ (i : Nat) (ρ0 : Env), ρ = updL ρ0 [(0, .pointer (some ⟨p, 0, none⟩)), (1, .int .i64 ((id : Nat) : Int)), (7, .pointer (some ⟨w4.heap.size, 0, none⟩)), (8, .int .i64 ((i : Nat) : Int))] ∧ (i ≤ id + 1) ∧ Tch N0 w w' ∧ TLow F w' p most N W ∧ Blk w' (w4.heap.size) 111 [.pointer (some ⟨p, 0, none⟩), .map (some w1.heap.size)] ∧ MapE Try.prog 3 w' (w1.heap.size) (spR (rl N i)) ∧ m = id + 1 - i) (m := id + 1 - 0) ?_ ?_
  ·
   refine ⟨0, _, updL_self (by kernel_rfl), by omega, hT0, hL, hB10, hM, rfl⟩
  ·
   rintro m ρ w13 ⟨i, ρ, rfl, hi, hT0, hL, hQ, hM, rfl⟩
   refine W_seq ?_
   refine zQ ?_
   refine zS [(19, .int .i64 ((i : Nat) : Int)), (20, .int .i64 ((id : Nat) : Int)), (21, .bool (decide (((i : Nat) : Int) ≤ ((id : Nat) : Int))))] ?_
   refine zO (decide (((i : Nat) : Int) ≤ ((id : Nat) : Int))) (fun hc14 => ?_) (fun hc14 => ?_)
   ·
    replace hc14 : ((i : Nat) : Int) ≤ ((id : Nat) : Int) := (of_decide_eq_true hc14)
    refine W_skip ?_
    refine W_seq ?_
    refine W_block ?_
    refine zQ ?_
    refine zS [(25, .pointer (some ⟨p, 0, none⟩)), (26, .int .i64 ((i : Nat) : Int))] ?_
    refine zC (node_at F p most N W i _ hL hN (by omega)) ?_
    rintro _ w15 ⟨rfl, hT16⟩
    have hT0 := hT0.t0 hT16
    have hL := hL.tch0 hT16
    have hQ := hQ.tch0 hT16
    have hM := hM.tch0 hT16
    refine zS [(24, .tuple #[.agg #[.int .i64 (nO (nth N i)), .int .i64 (nW (nth N i)), .int .i64 (nA (nth N i)), .int .i64 (nB (nth N i)), .int .i64 (nC (nth N i)), .int .u64 (nV (nth N i))], .bool true]), (28, .agg #[.int .i64 (nO (nth N i)), .int .i64 (nW (nth N i)), .int .i64 (nA (nth N i)), .int .i64 (nB (nth N i)), .int .i64 (nC (nth N i)), .int .u64 (nV (nth N i))]), (29, .bool true)] ?_
    have hlt_ := hL.lt
    have lt21 := hQ.lt
    have hz22 := hT0.size
    have z23 := hT0.size
    have l24 := hQ.lt
    refine st (by rfl) (S_new (v := .pointer (some ⟨w15.heap.size, 0, none⟩)) (ob := .cells #[.int .i64 0, .int .i64 0, .int .i64 0, .int .i64 0, .int .i64 0, .int .u64 0] 32) (by kernel_rfl) fun w17 hT18 hs19 hB20 => ?_)
    replace hB20 : Blk w17 (w15.heap.size) 32 [.int .i64 0, .int .i64 0, .int .i64 0, .int .i64 0, .int .i64 0, .int .u64 0] := hB20
    have hT0 := hT0.t0 hT18
    have hL := hL.tch0 hT18
    have hQ := hQ.tch0 hT18
    have hM := hM.tch0 hT18
    have nF_hB20 : ¬ F (w15.heap.size) := fun e => by have := hlt_ _ e; omega
    refine st (by rfl) (S_storeA (b := w15.heap.size) (j := 0) (cs := [.int .i64 (nO (nth N i)), .int .i64 (nW (nth N i)), .int .i64 (nA (nth N i)), .int .i64 (nB (nth N i)), .int .i64 (nC (nth N i)), .int .u64 (nV (nth N i))]) (by kernel_rfl) (by kernel_rfl) (by kernel_rfl) (by simp [oneV]) hB20 (by simp) fun w25 hT26 hs27 hB20' => ?_)
    have hT0 := (hT0).then hT26 (fun c e => by have : c = w15.heap.size := e; omega)
    have hL := hL.tchS hT26 (fun c e q => by cases e; exact nF_hB20 q)
    have hQ := hQ.tch hT26 (hQ.ne hB20 (by decide))
    have hM := hM.tch hT26 (fun e => hM.ne hB20 e)
    replace hB20 : Blk w25 w15.heap.size 32 [.int .i64 (nO (nth N i)), .int .i64 (nW (nth N i)), .int .i64 (nA (nth N i)), .int .i64 (nB (nth N i)), .int .i64 (nC (nth N i)), .int .u64 (nV (nth N i))] := hB20'
    refine zS [(10, .bool true)] ?_
    refine op_nil ?_
    refine zF [(0, .pointer (some ⟨p, 0, none⟩)), (1, .int .i64 ((id : Nat) : Int)), (7, .pointer (some ⟨w4.heap.size, 0, none⟩)), (8, .int .i64 ((i : Nat) : Int)), (9, .pointer (some ⟨w15.heap.size, 0, none⟩)), (21, .bool (decide (((i : Nat) : Int) ≤ ((id : Nat) : Int))))] fun ρ => ?_
    refine W_draw (fun w' => Blk w' (w4.heap.size) 111 [.pointer (some ⟨p, 0, none⟩), .map (some w1.heap.size)] ∧ Blk w' (w15.heap.size) 32 [.int .i64 (nO (nth N i)), .int .i64 (nW (nth N i)), .int .i64 (nA (nth N i)), .int .i64 (nB (nth N i)), .int .i64 (nC (nth N i)), .int .u64 (nV (nth N i))]) (by kernel_rfl) (by kernel_rfl) (by kernel_rfl) fun w28 hT29 hh30 => ?_
    have hT0 := hT0.t0 hT29
    have hL := hL.tch0 hT29
    have hQ := hQ.tch0 hT29
    have hM := hM.tch0 hT29
    have hB20 := hB20.tch0 hT29
    refine zK [0, 4, 5, 1, 2] #[true, true, true, false, true, true, false, false, false] [(30, .pointer (some ⟨w4.heap.size, 0, none⟩)), (34, .int .i64 ((i : Nat) : Int)), (35, .pointer (some ⟨w4.heap.size, 0, none⟩)), (31, .pointer (some ⟨w4.heap.size, 0, none⟩)), (32, .pointer (some ⟨w4.heap.size, 1, none⟩))] ⟨hQ, hB20⟩ ?_
    refine zV 3 rfl (.map (some w1.heap.size)) (fun _ ⟨hQ, hB20⟩ => R_load (v := .map (some w1.heap.size)) (by kernel_rfl) (by kernel_rfl) ((hQ.cell 1).trans rfl)) ⟨hQ, hB20⟩ ?_
    refine zV 6 rfl (.agg #[.int .i64 (nO (nth N i)), .int .i64 (nW (nth N i)), .int .i64 (nA (nth N i)), .int .i64 (nB (nth N i)), .int .i64 (nC (nth N i)), .int .u64 (nV (nth N i))]) (fun _ ⟨hQ, hB20⟩ => R_loadA [.int .i64 (nO (nth N i)), .int .i64 (nW (nth N i)), .int .i64 (nA (nth N i)), .int .i64 (nB (nth N i)), .int .i64 (nC (nth N i)), .int .u64 (nV (nth N i))] (by kernel_rfl) (by kernel_rfl) (by kernel_rfl) (fun k u hk => by rw [hB20.cell]; exact get_part _ 0 _ k u rfl hk)) ⟨hQ, hB20⟩ ?_
    refine zD 7 rfl (S_call (args := [.pointer (some ⟨w4.heap.size, 0, none⟩), .agg #[.int .i64 (nO (nth N i)), .int .i64 (nW (nth N i)), .int .i64 (nA (nth N i)), .int .i64 (nB (nth N i)), .int .i64 (nC (nth N i)), .int .u64 (nV (nth N i))]]) (by kernel_rfl) (sp_all F p most N W (w4.heap.size) (w1.heap.size) i _ hL hJ hB hN (by omega) hQ hM) ?_)
    rintro _ w31 ⟨rfl, hT32⟩
    have hT0 := hT0.t0 hT32
    have hL := hL.tch0 hT32
    have hQ := hQ.tch0 hT32
    have hM := hM.tch0 hT32
    have hB20 := hB20.tch0 hT32
    refine ⟨⟨hQ, hB20⟩, ?_⟩
    refine zD 8 rfl (S_updateE 3 113 key_law3 (key := .int .i64 ((i : Nat) : Int)) (val := kV (ronN N (rl N i) (nth N i))) (by kernel_rfl) (by kernel_rfl) (by kernel_rfl) (by kernel_rfl) (key_int (by unfold b64; omega)) hM fun w33 hT34 hs35 hM1 => ?_)
    have hT0 := (hT0).then hT34 (fun c e => by have : c = w1.heap.size := e; omega)
    have hL := hL.tchS hT34 (fun c e q => by have : c = w1.heap.size := e; exact hmF (this ▸ q))
    have hQ := hQ.tch hT34 (fun e => hM.ne hQ (Eq.symm e))
    have hB20 := hB20.tch hT34 (fun e => hM.ne hB20 (Eq.symm e))
    have hM := hM1.congr (spR_rl N i)
    refine ⟨⟨hQ, hB20⟩, ?_⟩
    refine d_done (by kernel_rfl) ?_
    refine zF [(0, .pointer (some ⟨p, 0, none⟩)), (1, .int .i64 ((id : Nat) : Int)), (7, .pointer (some ⟨w4.heap.size, 0, none⟩)), (8, .int .i64 ((i : Nat) : Int)), (9, .pointer (some ⟨w15.heap.size, 0, none⟩)), (21, .bool (decide (((i : Nat) : Int) ≤ ((id : Nat) : Int))))] fun ρ => ?_
    refine zR ?_
    refine zS [(22, .int .i64 ((i : Nat) : Int)), (23, .int .i64 (IntKind.i64.wrap (((i : Nat) : Int) + 1)))] ?_
    rw [show IntKind.i64.wrap (((i : Nat) : Int) + 1) = ((i : Nat) : Int) + 1 from wrap_i64 (by omega) (by omega)]
    refine fixR (y := ((i + 1 : Nat) : Int)) (by omega) ?_
    refine zS [(8, .int .i64 ((i + 1 : Nat) : Int))] ?_
    refine op_nil ?_
    refine ⟨_, ?_, i + 1, _, updL_self (by kernel_rfl), ?_, hT0, hL, hQ, hM, rfl⟩
    ·
     omega
    ·
     omega
   ·
    replace hc14 : ((id : Nat) : Int) < ((i : Nat) : Int) := (Int.not_le.1 (of_decide_eq_false hc14))
    refine W_exit ?_
    refine X_hit ?_
    refine W_seq ?_
    refine W_draw (fun w' => Blk w' (w4.heap.size) 111 [.pointer (some ⟨p, 0, none⟩), .map (some w1.heap.size)] ∧ MapE Try.prog 3 w' (w1.heap.size) (spR (rl N i))) (by kernel_rfl) (by kernel_rfl) (by kernel_rfl) fun w36 hT37 hh38 => ?_
    have hT0 := hT0.t0 hT37
    have hL := hL.tch0 hT37
    have hQ := hQ.tch0 hT37
    have hM := hM.tch0 hT37
    refine zK [0, 4, 7, 11, 1, 8, 2, 9] #[true, true, true, false, true, false, false, true, true, true, false, true, false, false, false, false, false] [(38, .pointer (some ⟨w4.heap.size, 0, none⟩)), (42, .int .i64 ((id : Nat) : Int)), (45, .pointer (some ⟨w4.heap.size, 0, none⟩)), (49, .int .i64 ((id : Nat) : Int)), (39, .pointer (some ⟨w4.heap.size, 0, none⟩)), (46, .pointer (some ⟨w4.heap.size, 0, none⟩)), (40, .pointer (some ⟨w4.heap.size, 1, none⟩)), (47, .pointer (some ⟨w4.heap.size, 1, none⟩))] ⟨hQ, hM⟩ ?_
    refine zV 3 rfl (.map (some w1.heap.size)) (fun _ ⟨hQ, hM⟩ => R_load (v := .map (some w1.heap.size)) (by kernel_rfl) (by kernel_rfl) ((hQ.cell 1).trans rfl)) ⟨hQ, hM⟩ ?_
    refine zV 5 rfl (kV (kg (rl N i) id)) (fun _ ⟨hQ, hM⟩ => R_lookSp (rl N i) id (by kernel_rfl) (by kernel_rfl) (by kernel_rfl) hM (by rw [rl_length]; omega) (by unfold b64; omega)) ⟨hQ, hM⟩ ?_
    refine zK [6, 14] #[true, true, true, true, true, true, true, true, true, true, false, true, false, false, true, false, false] [(44, .int .u64 (((kg (rl N i) id).1 : Nat) : Int)), (4, .int .u64 (((kg (rl N i) id).1 : Nat) : Int))] ⟨hQ, hM⟩ ?_
    refine zV 10 rfl (.map (some w1.heap.size)) (fun _ ⟨hQ, hM⟩ => R_load (v := .map (some w1.heap.size)) (by kernel_rfl) (by kernel_rfl) ((hQ.cell 1).trans rfl)) ⟨hQ, hM⟩ ?_
    refine zV 12 rfl (kV (kg (rl N i) id)) (fun _ ⟨hQ, hM⟩ => R_lookSp (rl N i) id (by kernel_rfl) (by kernel_rfl) (by kernel_rfl) hM (by rw [rl_length]; omega) (by unfold b64; omega)) ⟨hQ, hM⟩ ?_
    refine zK [13, 15, 16] #[true, true, true, true, true, true, true, true, true, true, true, true, true, true, true, true, true] [(51, .int .u64 (((kg (rl N i) id).2 : Nat) : Int)), (5, .int .u64 (((kg (rl N i) id).2 : Nat) : Int)), (6, .int .i64 0)] ⟨hQ, hM⟩ ?_
    refine d_done (by kernel_rfl) ?_
    refine W_ret ?_
    refine ⟨_, Res_of (v := .tuple #[.int .u64 (((kg (rl N i) id).1 : Nat) : Int), .int .u64 (((kg (rl N i) id).2 : Nat) : Int), .int .i64 0]) (by kernel_rfl), ?_⟩
    rw [← rl_kg (N := N) (i := id) (j := i) (by omega)]
    exact ⟨rfl, hT0⟩

set_option maxRecDepth 100000 in
theorem Rg_out (F : Nat → Prop) (p : Nat) (most : Int) (N : List Nd) (W : Value → Value → Prop) (ix : Int) (w : World) (hL : TLow F w p most N W) (hN : N.length ≤ 65536) (hJ : TJ N most) (hB : TB N) (hid : isT N ix = false) : Ret Try.prog 32 [.pointer (some ⟨p, 0, none⟩), .int .i64 ix] w fun v w' => v = .tuple #[.int .u64 0, .int .u64 0, .int .i64 11] ∧ Tch N0 w w' := by
 refine enter Try.func32 rfl rfl ?_
 refine zQ ?_
 refine zS [(4, .int .u64 0), (5, .int .u64 0), (6, .int .i64 0)] ?_
 refine op_nil ?_
 refine W_seq ?_
 refine zQ ?_
 refine zS [(11, .pointer (some ⟨p, 0, none⟩)), (12, .int .i64 ix)] ?_
 refine zC (size_ok F p most N W ix _ hL hN hB) ?_
 rintro _ w1 ⟨m, rfl, hms, hT2⟩
 have hT0 := hT2
 have hL := hL.tch0 hT2
 refine zS [(14, .bool (((m : Nat) : Int) == 0))] ?_
 refine zO (((m : Nat) : Int) == 0) (fun hc3 => ?_) (fun hc3 => ?_)
 ·
  replace hc3 : ((m : Nat) : Int) = 0 := (eq_of_beq hc3)
  refine zQ ?_
  refine zS [(4, .int .u64 0), (5, .int .u64 0), (6, .int .i64 11)] ?_
  refine op_nil ?_
  refine W_ret ?_
  exact ⟨_, Res_of (v := .tuple #[.int .u64 0, .int .u64 0, .int .i64 11]) (by kernel_rfl), ⟨rfl, hT0⟩⟩
 ·
  replace hc3 : ((m : Nat) : Int) ≠ 0 := (ne_of_beq_false hc3)
  exact absurd (hms.2 hid) hc3

theorem Rg_ok (F : Nat → Prop) (p : Nat) (most : Int) (N : List Nd) (W : Value → Value → Prop) (ix : Int) (w : World) (hL : TLow F w p most N W) (hN : N.length ≤ 65536) (hJ : TJ N most) (hB : TB N) : Ret Try.prog 32 [.pointer (some ⟨p, 0, none⟩), .int .i64 ix] w fun v w' => v = .tuple #[.int .u64 (((rgF N ix).1 : Nat) : Int), .int .u64 (((rgF N ix).2 : Nat) : Int), .int .i64 (erR N ix)] ∧ Tch N0 w w' := by
 cases q : isT N ix with
 | false =>
  rw [rgF_out q, erR_out q]
  exact Rg_out F p most N W ix w hL hN hJ hB q
 | true =>
  have h := of_decide_eq_true q
  obtain ⟨id, rfl⟩ : ∃ id : Nat, ix = (id : Int) := ⟨ix.toNat, by omega⟩
  rw [erR_in h, ← rgF_in (j := id + 1) h (by omega), rl_kg (by omega)]
  exact Rg_in F p most N W id w hL hN hJ hB (by omega)

end Go.Proofs.YtlbadnpgmkobdaaV

set_option linter.unusedVariables false
set_option linter.unusedSimpArgs false
namespace Go.Proofs.YtlbadnpgmkobdaaV
open Go Go.RowKit Go.Proofs

theorem TB_ar : TB [(21, 8, 0, 0, 0, 0), (25, 16, 0, 0, 0, 0), (20, 16, 0, 0, 0, 1), (1, 16, 1, 2, 0, 0), (20, 16, 0, 0, 0, 300), (13, 1, 3, 4, 0, 0)] := fun i hi => by
 have h : i = 0 ∨ i = 1 ∨ i = 2 ∨ i = 3 ∨ i = 4 ∨ i = 5 := by
  have : i < 6 := hi
  omega
 rcases h with rfl | rfl | rfl | rfl | rfl | rfl <;> (unfold NdW pt; decide)

set_option maxRecDepth 100000 in
theorem awake52_ok (w : World) : Ret Try.prog 31 [] w fun v w' => v = .bool true ∧ Tch N0 w w' := by
 refine enter Try.func31 rfl rfl ?_
 refine zQ ?_
 refine zS [(0, .bool false)] ?_
 refine op_nil ?_
 refine zQ ?_
 refine zC (new_ok 20 _) ?_
 rintro _ w1 ⟨p3, F4, rfl, hO, hT2, hFb⟩
 have hT0 := hT2
 rw [show newM 20 = 20 from by decide] at hO
 refine zS [(1, .pointer (some ⟨p3, 0, none⟩))] ?_
 refine op_nil ?_
 refine W_seq ?_
 refine zQ ?_
 refine zS [(24, .pointer (some ⟨p3, 0, none⟩)), (25, .bool false)] ?_
 refine zO false (fun h => nomatch h) (fun _ => ?_)
 refine W_skip ?_
 refine zQ ?_
 refine zS [(27, .pointer (some ⟨p3, 0, none⟩))] ?_
 have hz_ := hT0.size
 refine st (by rfl) (S_call (args := [.pointer (some ⟨p3, 0, none⟩), .int .i64 8, .int .i64 0]) (by kernel_rfl) ((var_ok F4 p3 20 ([]) 8 0 _ hO (by unfold b64; omega) (by unfold b64; omega)).mono fun _ _ h => h.lit (show varF ([]) 20 8 0 = (0, 0, [(21, 8, 0, 0, 0, 0)]) by kernel_rfl)) ?_)
 rintro _ w5 ⟨rfl, F6, hO, hm7⟩
 have hT0 := (hT0).then hm7.1 hFb
 replace hFb := hm7.ge hFb hz_
 refine zS [(26, .tuple #[.int .i64 0, .int .i64 0]), (29, .int .i64 0), (30, .int .i64 0), (2, .int .i64 0), (3, .int .i64 0)] ?_
 refine op_nil ?_
 refine W_seq ?_
 refine zF [(0, .bool false), (1, .pointer (some ⟨p3, 0, none⟩)), (2, .int .i64 0), (25, .bool false)] fun ρ => ?_
 refine zR ?_
 refine zS [(32, .pointer (some ⟨p3, 0, none⟩)), (33, .int .i64 0)] ?_
 have hz_ := hT0.size
 refine st (by rfl) (S_call (args := [.pointer (some ⟨p3, 0, none⟩), .int .i64 0, .int .i64 16, .bool false]) (by kernel_rfl) ((exd_ok F6 p3 20 ([(21, 8, 0, 0, 0, 0)]) 0 16 false _ hO (by unfold b64; omega) (by unfold b64; omega)).mono fun _ _ h => h.lit (show exdF ([(21, 8, 0, 0, 0, 0)]) 20 0 16 false = (1, 0, [(21, 8, 0, 0, 0, 0), (25, 16, 0, 0, 0, 0)]) by kernel_rfl)) ?_)
 rintro _ w8 ⟨rfl, F9, hO, hm10⟩
 have hT0 := (hT0).then hm10.1 hFb
 replace hFb := hm10.ge hFb hz_
 refine zS [(31, .tuple #[.int .i64 1, .int .i64 0]), (35, .int .i64 1), (36, .int .i64 0), (4, .int .i64 1), (5, .int .i64 0)] ?_
 refine op_nil ?_
 refine W_seq ?_
 refine zF [(0, .bool false), (1, .pointer (some ⟨p3, 0, none⟩)), (2, .int .i64 0), (4, .int .i64 1), (25, .bool false)] fun ρ => ?_
 refine zR ?_
 refine zS [(38, .pointer (some ⟨p3, 0, none⟩))] ?_
 have hz_ := hT0.size
 refine st (by rfl) (S_call (args := [.pointer (some ⟨p3, 0, none⟩), .int .i64 16, .int .u64 1]) (by kernel_rfl) ((const_ok F9 p3 20 ([(21, 8, 0, 0, 0, 0), (25, 16, 0, 0, 0, 0)]) 16 1 _ hO (by unfold b64; omega) (by unfold u64; omega)).mono fun _ _ h => h.lit (show constF ([(21, 8, 0, 0, 0, 0), (25, 16, 0, 0, 0, 0)]) 20 16 1 = (2, 0, [(21, 8, 0, 0, 0, 0), (25, 16, 0, 0, 0, 0), (20, 16, 0, 0, 0, 1)]) by kernel_rfl)) ?_)
 rintro _ w11 ⟨rfl, F12, hO, hm13⟩
 have hT0 := (hT0).then hm13.1 hFb
 replace hFb := hm13.ge hFb hz_
 refine zS [(37, .tuple #[.int .i64 2, .int .i64 0]), (40, .int .i64 2), (41, .int .i64 0), (6, .int .i64 2), (7, .int .i64 0)] ?_
 refine op_nil ?_
 refine zQ ?_
 refine zS [(43, .pointer (some ⟨p3, 0, none⟩)), (44, .int .i64 1), (45, .int .i64 2)] ?_
 have hz_ := hT0.size
 refine st (by rfl) (S_call (args := [.pointer (some ⟨p3, 0, none⟩), .int .i64 1, .int .i64 1, .int .i64 2]) (by kernel_rfl) ((bin_ok F12 p3 20 ([(21, 8, 0, 0, 0, 0), (25, 16, 0, 0, 0, 0), (20, 16, 0, 0, 0, 1)]) 1 1 2 _ hO (by unfold b64; omega) (by unfold b64; omega) (by unfold b64; omega)).mono fun _ _ h => h.lit (show binF ([(21, 8, 0, 0, 0, 0), (25, 16, 0, 0, 0, 0), (20, 16, 0, 0, 0, 1)]) 20 1 1 2 = (3, 0, [(21, 8, 0, 0, 0, 0), (25, 16, 0, 0, 0, 0), (20, 16, 0, 0, 0, 1), (1, 16, 1, 2, 0, 0)]) by kernel_rfl)) ?_)
 rintro _ w14 ⟨rfl, F15, hO, hm16⟩
 have hT0 := (hT0).then hm16.1 hFb
 replace hFb := hm16.ge hFb hz_
 refine zS [(42, .tuple #[.int .i64 3, .int .i64 0]), (47, .int .i64 3), (48, .int .i64 0), (8, .int .i64 3), (9, .int .i64 0)] ?_
 refine op_nil ?_
 refine W_seq ?_
 refine zF [(0, .bool false), (1, .pointer (some ⟨p3, 0, none⟩)), (2, .int .i64 0), (4, .int .i64 1), (6, .int .i64 2), (8, .int .i64 3), (25, .bool false)] fun ρ => ?_
 refine zR ?_
 refine zS [(50, .pointer (some ⟨p3, 0, none⟩))] ?_
 have hz_ := hT0.size
 refine st (by rfl) (S_call (args := [.pointer (some ⟨p3, 0, none⟩), .int .i64 16, .int .u64 300]) (by kernel_rfl) ((const_ok F15 p3 20 ([(21, 8, 0, 0, 0, 0), (25, 16, 0, 0, 0, 0), (20, 16, 0, 0, 0, 1), (1, 16, 1, 2, 0, 0)]) 16 300 _ hO (by unfold b64; omega) (by unfold u64; omega)).mono fun _ _ h => h.lit (show constF ([(21, 8, 0, 0, 0, 0), (25, 16, 0, 0, 0, 0), (20, 16, 0, 0, 0, 1), (1, 16, 1, 2, 0, 0)]) 20 16 300 = (4, 0, [(21, 8, 0, 0, 0, 0), (25, 16, 0, 0, 0, 0), (20, 16, 0, 0, 0, 1), (1, 16, 1, 2, 0, 0), (20, 16, 0, 0, 0, 300)]) by kernel_rfl)) ?_)
 rintro _ w17 ⟨rfl, F18, hO, hm19⟩
 have hT0 := (hT0).then hm19.1 hFb
 replace hFb := hm19.ge hFb hz_
 refine zS [(49, .tuple #[.int .i64 4, .int .i64 0]), (52, .int .i64 4), (53, .int .i64 0), (10, .int .i64 4), (11, .int .i64 0)] ?_
 refine op_nil ?_
 refine zQ ?_
 refine zS [(55, .pointer (some ⟨p3, 0, none⟩)), (56, .int .i64 3), (57, .int .i64 4)] ?_
 have hz_ := hT0.size
 refine st (by rfl) (S_call (args := [.pointer (some ⟨p3, 0, none⟩), .int .i64 13, .int .i64 3, .int .i64 4]) (by kernel_rfl) ((bin_ok F18 p3 20 ([(21, 8, 0, 0, 0, 0), (25, 16, 0, 0, 0, 0), (20, 16, 0, 0, 0, 1), (1, 16, 1, 2, 0, 0), (20, 16, 0, 0, 0, 300)]) 13 3 4 _ hO (by unfold b64; omega) (by unfold b64; omega) (by unfold b64; omega)).mono fun _ _ h => h.lit (show binF ([(21, 8, 0, 0, 0, 0), (25, 16, 0, 0, 0, 0), (20, 16, 0, 0, 0, 1), (1, 16, 1, 2, 0, 0), (20, 16, 0, 0, 0, 300)]) 20 13 3 4 = (5, 0, [(21, 8, 0, 0, 0, 0), (25, 16, 0, 0, 0, 0), (20, 16, 0, 0, 0, 1), (1, 16, 1, 2, 0, 0), (20, 16, 0, 0, 0, 300), (13, 1, 3, 4, 0, 0)]) by kernel_rfl)) ?_)
 rintro _ w20 ⟨rfl, F21, hO, hm22⟩
 have hT0 := (hT0).then hm22.1 hFb
 replace hFb := hm22.ge hFb hz_
 refine zS [(54, .tuple #[.int .i64 5, .int .i64 0]), (59, .int .i64 5), (60, .int .i64 0), (12, .int .i64 5), (13, .int .i64 0)] ?_
 refine op_nil ?_
 refine W_seq ?_
 refine zF [(0, .bool false), (1, .pointer (some ⟨p3, 0, none⟩)), (2, .int .i64 0), (4, .int .i64 1), (6, .int .i64 2), (8, .int .i64 3), (10, .int .i64 4), (12, .int .i64 5), (25, .bool false)] fun ρ => ?_
 refine zR ?_
 refine zS [(62, .pointer (some ⟨p3, 0, none⟩)), (63, .int .i64 3)] ?_
 have hz_ := hT0.size
 refine st (by rfl) (S_call (args := [.pointer (some ⟨p3, 0, none⟩), .int .i64 3]) (by kernel_rfl) ((by have q := Rg_ok F21 p3 20 ([(21, 8, 0, 0, 0, 0), (25, 16, 0, 0, 0, 0), (20, 16, 0, 0, 0, 1), (1, 16, 1, 2, 0, 0), (20, 16, 0, 0, 0, 300), (13, 1, 3, 4, 0, 0)]) _ 3 _ hO.1 (by decide) hO.2 TB_ar; rw [show rgF ([(21, 8, 0, 0, 0, 0), (25, 16, 0, 0, 0, 0), (20, 16, 0, 0, 0, 1), (1, 16, 1, 2, 0, 0), (20, 16, 0, 0, 0, 300), (13, 1, 3, 4, 0, 0)]) 3 = (1, 256) from by decide, show erR ([(21, 8, 0, 0, 0, 0), (25, 16, 0, 0, 0, 0), (20, 16, 0, 0, 0, 1), (1, 16, 1, 2, 0, 0), (20, 16, 0, 0, 0, 300), (13, 1, 3, 4, 0, 0)]) 3 = 0 from by decide] at q; exact q)) ?_)
 rintro _ w23 ⟨rfl, hT24⟩
 have hT0 := hT0.t0 hT24
 have hO := hO.tch0 hT24
 refine zS [(61, .tuple #[.int .u64 1, .int .u64 256, .int .i64 0]), (65, .int .u64 1), (66, .int .u64 256), (67, .int .i64 0), (14, .int .u64 1), (15, .int .u64 256), (16, .int .i64 0)] ?_
 refine op_nil ?_
 refine W_seq ?_
 refine zF [(0, .bool false), (1, .pointer (some ⟨p3, 0, none⟩)), (2, .int .i64 0), (4, .int .i64 1), (6, .int .i64 2), (8, .int .i64 3), (10, .int .i64 4), (12, .int .i64 5), (14, .int .u64 1), (15, .int .u64 256), (16, .int .i64 0), (25, .bool false)] fun ρ => ?_
 refine zR ?_
 refine zS [(69, .pointer (some ⟨p3, 0, none⟩)), (70, .int .i64 5)] ?_
 have hz_ := hT0.size
 refine st (by rfl) (S_call (args := [.pointer (some ⟨p3, 0, none⟩), .int .i64 5]) (by kernel_rfl) ((by have q := Rg_ok F21 p3 20 ([(21, 8, 0, 0, 0, 0), (25, 16, 0, 0, 0, 0), (20, 16, 0, 0, 0, 1), (1, 16, 1, 2, 0, 0), (20, 16, 0, 0, 0, 300), (13, 1, 3, 4, 0, 0)]) _ 5 _ hO.1 (by decide) hO.2 TB_ar; rw [show rgF ([(21, 8, 0, 0, 0, 0), (25, 16, 0, 0, 0, 0), (20, 16, 0, 0, 0, 1), (1, 16, 1, 2, 0, 0), (20, 16, 0, 0, 0, 300), (13, 1, 3, 4, 0, 0)]) 5 = (1, 1) from by decide, show erR ([(21, 8, 0, 0, 0, 0), (25, 16, 0, 0, 0, 0), (20, 16, 0, 0, 0, 1), (1, 16, 1, 2, 0, 0), (20, 16, 0, 0, 0, 300), (13, 1, 3, 4, 0, 0)]) 5 = 0 from by decide] at q; exact q)) ?_)
 rintro _ w25 ⟨rfl, hT26⟩
 have hT0 := hT0.t0 hT26
 have hO := hO.tch0 hT26
 refine zS [(68, .tuple #[.int .u64 1, .int .u64 1, .int .i64 0]), (72, .int .u64 1), (73, .int .u64 1), (74, .int .i64 0), (17, .int .u64 1), (18, .int .u64 1), (19, .int .i64 0)] ?_
 refine op_nil ?_
 refine W_seq ?_
 refine zF [(0, .bool false), (1, .pointer (some ⟨p3, 0, none⟩)), (2, .int .i64 0), (4, .int .i64 1), (6, .int .i64 2), (8, .int .i64 3), (10, .int .i64 4), (12, .int .i64 5), (14, .int .u64 1), (15, .int .u64 256), (16, .int .i64 0), (17, .int .u64 1), (18, .int .u64 1), (19, .int .i64 0), (25, .bool false)] fun ρ => ?_
 refine zR ?_
 refine zS [(76, .pointer (some ⟨p3, 0, none⟩))] ?_
 have hz_ := hT0.size
 refine st (by rfl) (S_call (args := [.pointer (some ⟨p3, 0, none⟩), .int .i64 77]) (by kernel_rfl) ((by have q := Rg_ok F21 p3 20 ([(21, 8, 0, 0, 0, 0), (25, 16, 0, 0, 0, 0), (20, 16, 0, 0, 0, 1), (1, 16, 1, 2, 0, 0), (20, 16, 0, 0, 0, 300), (13, 1, 3, 4, 0, 0)]) _ 77 _ hO.1 (by decide) hO.2 TB_ar; rw [show rgF ([(21, 8, 0, 0, 0, 0), (25, 16, 0, 0, 0, 0), (20, 16, 0, 0, 0, 1), (1, 16, 1, 2, 0, 0), (20, 16, 0, 0, 0, 300), (13, 1, 3, 4, 0, 0)]) 77 = (0, 0) from by decide, show erR ([(21, 8, 0, 0, 0, 0), (25, 16, 0, 0, 0, 0), (20, 16, 0, 0, 0, 1), (1, 16, 1, 2, 0, 0), (20, 16, 0, 0, 0, 300), (13, 1, 3, 4, 0, 0)]) 77 = 11 from by decide] at q; exact q)) ?_)
 rintro _ w27 ⟨rfl, hT28⟩
 have hT0 := hT0.t0 hT28
 have hO := hO.tch0 hT28
 refine zS [(75, .tuple #[.int .u64 0, .int .u64 0, .int .i64 11]), (78, .int .u64 0), (79, .int .u64 0), (80, .int .i64 11), (20, .int .u64 0), (21, .int .u64 0), (22, .int .i64 11)] ?_
 refine op_nil ?_
 refine W_seq ?_
 refine zF [(0, .bool false), (1, .pointer (some ⟨p3, 0, none⟩)), (2, .int .i64 0), (4, .int .i64 1), (6, .int .i64 2), (8, .int .i64 3), (10, .int .i64 4), (12, .int .i64 5), (14, .int .u64 1), (15, .int .u64 256), (16, .int .i64 0), (17, .int .u64 1), (18, .int .u64 1), (19, .int .i64 0), (22, .int .i64 11), (25, .bool false)] fun ρ => ?_
 refine zR ?_
 refine zS [(81, .int .u64 1), (82, .bool true), (83, .bool true), (84, .int .u64 256), (85, .bool true), (86, .bool true), (87, .bool true), (88, .int .i64 0), (89, .bool true), (90, .bool true), (91, .bool true), (92, .int .u64 1), (93, .bool true), (94, .bool true), (95, .bool true), (96, .int .u64 1), (97, .bool true), (98, .bool true), (99, .bool true), (100, .int .i64 0), (101, .bool true), (102, .bool true), (103, .bool true), (104, .int .i64 11)] ?_
 refine zS [(105, .bool true), (106, .bool true), (0, .bool true)] ?_
 refine op_nil ?_
 refine W_ret ?_
 exact ⟨_, Res_of (v := .bool true) (by kernel_rfl), ⟨rfl, hT0⟩⟩

end Go.Proofs.YtlbadnpgmkobdaaV

set_option linter.unusedVariables false
set_option linter.unusedSimpArgs false
namespace Go.Proofs.YtlbadnpgmkobdaaV
open Go Go.RowKit Go.Proofs Go.ChangeShapes Go.WideShapes Go.Deep Go.Joins
section
variable {H : Type} {enc : TypeId × Value → H} {P : Program} {w : World} {base : Nat} {spare : Nat → Bool} {held : Bool}
theorem trod_struct6 {t : TypeId} {f0 f1 f2 f3 f4 f5 : Field} {fuel : Nat} {cs : List Value} {x : DataW H × List MemPlace} (ht : P.underlying t = some (.struct #[f0, f1, f2, f3, f4, f5])) (h : DataW.trod enc P w base spare held fuel t cs = some x) :
  ∃ y0 y1 y2 y3 y4 y5 n, x = (.agg [y0.1, y1.1, y2.1, y3.1, y4.1, y5.1], y0.2 ++ (y1.2 ++ (y2.2 ++ (y3.2 ++ (y4.2 ++ y5.2))))) ∧ cs.length = P.cellsOf t ∧ DataW.trod enc P w base spare held n f0.type ((cs.drop f0.offset).take (P.cellsOf f0.type)) = some y0 ∧ DataW.trod enc P w base spare held n f1.type ((cs.drop f1.offset).take (P.cellsOf f1.type)) = some y1 ∧ DataW.trod enc P w base spare held n f2.type ((cs.drop f2.offset).take (P.cellsOf f2.type)) = some y2 ∧ DataW.trod enc P w base spare held n f3.type ((cs.drop f3.offset).take (P.cellsOf f3.type)) = some y3 ∧ DataW.trod enc P w base spare held n f4.type ((cs.drop f4.offset).take (P.cellsOf f4.type)) = some y4 ∧ DataW.trod enc P w base spare held n f5.type ((cs.drop f5.offset).take (P.cellsOf f5.type)) = some y5 := by
 obtain ⟨xs, n, _, rfl, hl, hlen, hf⟩ := DataW.trod_struct ht h
 match xs, hlen with
 | [y0, y1, y2, y3, y4, y5], _ => exact ⟨y0, y1, y2, y3, y4, y5, n, by simp, hl, by simpa using hf 0 f0 rfl, by simpa using hf 1 f1 rfl, by simpa using hf 2 f2 rfl, by simpa using hf 3 f3 rfl, by simpa using hf 4 f4 rfl, by simpa using hf 5 f5 rfl⟩
end
/-- A row of deeds: five whole numbers and a word each. -/
def Deeds6 (m : Nat) (cells : List Value) (ds : Nat → Int × Int × Int × Int × Int × Int) : Prop := ∀ i, i < m → (cells[i * 6]? = some (.int .i64 (ds i).1) ∧ cells[i * 6 + 1]? = some (.int .i64 (ds i).2.1) ∧ cells[i * 6 + 2]? = some (.int .i64 (ds i).2.2.1) ∧ cells[i * 6 + 3]? = some (.int .i64 (ds i).2.2.2.1) ∧ cells[i * 6 + 4]? = some (.int .i64 (ds i).2.2.2.2.1) ∧ cells[i * 6 + 5]? = some (.int .u64 (ds i).2.2.2.2.2)) ∧ b64 (ds i).1 ∧ b64 (ds i).2.1 ∧ b64 (ds i).2.2.1 ∧ b64 (ds i).2.2.2.1 ∧ b64 (ds i).2.2.2.2.1 ∧ u64 (ds i).2.2.2.2.2
theorem Deeds6.part {m : Nat} {cells : List Value} {ds : Nat → Int × Int × Int × Int × Int × Int} (h : Deeds6 m cells ds) {i : Nat} (hi : i < m) : ∀ k u, [Value.int .i64 (ds i).1, Value.int .i64 (ds i).2.1, Value.int .i64 (ds i).2.2.1, Value.int .i64 (ds i).2.2.2.1, Value.int .i64 (ds i).2.2.2.2.1, Value.int .u64 (ds i).2.2.2.2.2][k]? = some u → cells[i * 6 + k]? = some u := by
 obtain ⟨⟨h0, h1, h2, h3, h4, h5⟩, _⟩ := h i hi
 intro k u hk
 match k with
 | 0 => simp at hk; subst hk; exact h0
 | 1 => simp at hk; subst hk; exact h1
 | 2 => simp at hk; subst hk; exact h2
 | 3 => simp at hk; subst hk; exact h3
 | 4 => simp at hk; subst hk; exact h4
 | 5 => simp at hk; subst hk; exact h5
 | k + 6 => simp at hk
set_option maxRecDepth 100000 in
theorem open_deeds6 {H : Type} {enc : TypeId × Value → H} {W : World} {r : Reach} {b0 : Nat} {v : Value} {d : DataW H} {ps : List MemPlace} (hv : Value.okWide Try.prog W r b0 22 v) (h : DataW.Trod enc Try.prog W 0 (fun _ => true) true 22 v d ps) :
    ∃ L m cl cells ds, v = .slice L m cl ∧ RdW W 6 m L cells ∧ Deeds6 m cells ds := by
  obtain ⟨a, len, cap, rfl⟩ := okWide_slice Try.underlying22 hv
  obtain ⟨fuel, hf⟩ := h
  rcases open_slice Try.underlying22 hf with ⟨e, _⟩ | ⟨a', len', cap', m, n, D, Pl, e, hb, hl, hm, hmm, _, hx⟩
  · simp only [Value.cells] at e
    have e2 : Value.slice a len cap = .slice none 0 0 := by simpa using e
    injection e2 with e3 e4 e5
    subst e3 e4 e5
    exact ⟨none, 0, 0, [], fun _ => (0, 0, 0, 0, 0, 0), rfl, RdW.nil_ _ _ _, fun i hi => by omega⟩
  · simp only [Value.cells] at e
    have e2 : Value.slice a len cap = .slice (some a') len' cap' := by simpa using e
    injection e2 with e3 e4 e5
    subst e3 e4 e5
    have hlm : len ≤ m := by rw [hmm]; simp; exact hl
    have key : ∀ i, i < len → ∃ q0 q1 q2 q3 q4 q5, (W.cell? (a'.add (i * 6)) = some (.int .i64 q0) ∧ W.cell? ((a'.add (i * 6)).add 1) = some (.int .i64 q1) ∧ W.cell? ((a'.add (i * 6)).add 2) = some (.int .i64 q2) ∧ W.cell? ((a'.add (i * 6)).add 3) = some (.int .i64 q3) ∧ W.cell? ((a'.add (i * 6)).add 4) = some (.int .i64 q4) ∧ W.cell? ((a'.add (i * 6)).add 5) = some (.int .u64 q5)) ∧ b64 q0 ∧ b64 q1 ∧ b64 q2 ∧ b64 q3 ∧ b64 q4 ∧ u64 q5 := by
      intro i hi
      obtain ⟨cs, h1, h2⟩ := hx i (by omega)
      obtain ⟨_, hcl, hc⟩ := World.cells?_some h1
      obtain ⟨y0, y1, y2, y3, y4, y5, k, _, _, t0, t1, t2, t3, t4, t5⟩ := trod_struct6 Try.underlying44 h2
      have hcl6 : cs.length = 6 := hcl
      obtain ⟨c0, c1, c2, c3, c4, c5, rfl⟩ : ∃ c0 c1 c2 c3 c4 c5, cs = [c0, c1, c2, c3, c4, c5] := by
        match cs, hcl6 with
        | [c0, c1, c2, c3, c4, c5], _ => exact ⟨c0, c1, c2, c3, c4, c5, rfl⟩
      obtain ⟨q0, e0, _, w0⟩ := DataW.trod_int Try.underlying3 t0
      have e0' : [c0] = [Value.int .i64 q0] := e0
      injection e0' with e0'
      subst e0'
      obtain ⟨q1, e1, _, w1⟩ := DataW.trod_int Try.underlying3 t1
      have e1' : [c1] = [Value.int .i64 q1] := e1
      injection e1' with e1'
      subst e1'
      obtain ⟨q2, e2, _, w2⟩ := DataW.trod_int Try.underlying3 t2
      have e2' : [c2] = [Value.int .i64 q2] := e2
      injection e2' with e2'
      subst e2'
      obtain ⟨q3, e3, _, w3⟩ := DataW.trod_int Try.underlying3 t3
      have e3' : [c3] = [Value.int .i64 q3] := e3
      injection e3' with e3'
      subst e3'
      obtain ⟨q4, e4, _, w4⟩ := DataW.trod_int Try.underlying3 t4
      have e4' : [c4] = [Value.int .i64 q4] := e4
      injection e4' with e4'
      subst e4'
      obtain ⟨q5, e5, _, w5⟩ := DataW.trod_int Try.underlying30 t5
      have e5' : [c5] = [Value.int .u64 q5] := e5
      injection e5' with e5'
      subst e5'
      have hc0 := hc 0 (by show 0 < 6; omega)
      have hc1 := hc 1 (by show 1 < 6; omega)
      have hc2 := hc 2 (by show 2 < 6; omega)
      have hc3 := hc 3 (by show 3 < 6; omega)
      have hc4 := hc 4 (by show 4 < 6; omega)
      have hc5 := hc 5 (by show 5 < 6; omega)
      have z0 : (a'.add (i * 6)).add 0 = a'.add (i * 6) := by simp [Addr.add]
      rw [show i * Try.prog.cellsOf 44 = i * 6 from rfl] at hc0 hc1 hc2 hc3 hc4 hc5
      rw [z0] at hc0
      exact ⟨q0, q1, q2, q3, q4, q5, ⟨by simpa using hc0, by simpa using hc1, by simpa using hc2, by simpa using hc3, by simpa using hc4, by simpa using hc5⟩, bounds_i64 w0, bounds_i64 w1, bounds_i64 w2, bounds_i64 w3, bounds_i64 w4, bounds_u64 w5⟩
    by_cases h0 : len = 0
    · subst h0
      exact ⟨some a', 0, cap, [], fun _ => (0, 0, 0, 0, 0, 0), rfl, RdW.nil_ _ _ _, fun i hi => by omega⟩
    · have hsp : a'.spot = none := by
        obtain ⟨_, _, _, _, _, _, ⟨hc, _⟩, _⟩ := key 0 (by omega)
        have : a'.add (0 * 6) = a' := by simp [Addr.add]
        rw [this] at hc
        unfold World.cell? at hc
        split at hc
        · split at hc
          · cases hc
          · rename_i hh; simpa using hh
        · cases hc
      obtain ⟨b, off, spot⟩ := a'
      simp only at hsp
      subst hsp
      have key2 : ∀ i, i < len → ∃ q0 q1 q2 q3 q4 q5, (W.cell? ⟨b, off + i * 6, none⟩ = some (.int .i64 q0) ∧ W.cell? ⟨b, off + (i * 6 + 1), none⟩ = some (.int .i64 q1) ∧ W.cell? ⟨b, off + (i * 6 + 2), none⟩ = some (.int .i64 q2) ∧ W.cell? ⟨b, off + (i * 6 + 3), none⟩ = some (.int .i64 q3) ∧ W.cell? ⟨b, off + (i * 6 + 4), none⟩ = some (.int .i64 q4) ∧ W.cell? ⟨b, off + (i * 6 + 5), none⟩ = some (.int .u64 q5)) ∧ b64 q0 ∧ b64 q1 ∧ b64 q2 ∧ b64 q3 ∧ b64 q4 ∧ u64 q5 := by
        intro i hi
        obtain ⟨q0, q1, q2, q3, q4, q5, ⟨g0, g1, g2, g3, g4, g5⟩, hB⟩ := key i hi
        simp only [add_at] at g0 g1 g2 g3 g4 g5
        exact ⟨q0, q1, q2, q3, q4, q5, ⟨g0, by rw [← Nat.add_assoc]; exact g1, by rw [← Nat.add_assoc]; exact g2, by rw [← Nat.add_assoc]; exact g3, by rw [← Nat.add_assoc]; exact g4, by rw [← Nat.add_assoc]; exact g5⟩, hB⟩
      let V : Nat → Value := fun k => (W.cell? ⟨b, off + k, none⟩).getD undef
      have hV : ∀ k, k < len * 6 → W.cell? ⟨b, off + k, none⟩ = some (V k) := by
        intro k hk
        obtain ⟨q0, q1, q2, q3, q4, q5, ⟨g0, g1, g2, g3, g4, g5⟩, _⟩ := key2 (k / 6) (by omega)
        have h4 : k = k / 6 * 6 ∨ k = k / 6 * 6 + 1 ∨ k = k / 6 * 6 + 2 ∨ k = k / 6 * 6 + 3 ∨ k = k / 6 * 6 + 4 ∨ k = k / 6 * 6 + 5 := by omega
        have : ∃ u, W.cell? ⟨b, off + k, none⟩ = some u := by
          rcases h4 with h4 | h4 | h4 | h4 | h4 | h4
          · rw [h4]; exact ⟨_, g0⟩
          · rw [h4]; exact ⟨_, g1⟩
          · rw [h4]; exact ⟨_, g2⟩
          · rw [h4]; exact ⟨_, g3⟩
          · rw [h4]; exact ⟨_, g4⟩
          · rw [h4]; exact ⟨_, g5⟩
        obtain ⟨u, hu⟩ := this
        show _ = some ((W.cell? ⟨b, off + k, none⟩).getD undef)
        rw [hu]; rfl
      have hlt : b < W.heap.size := cell_lt_ (hV 0 (by omega))
      have hg : ∀ k, k < len * 6 → ((List.range (len * 6)).map V)[k]? = some (V k) := by
        intro k hk
        rw [List.getElem?_map, List.getElem?_range hk]; rfl
      have hds : ∀ i : Nat, ∃ t : Int × Int × Int × Int × Int × Int, i < len → (W.cell? ⟨b, off + i * 6, none⟩ = some (.int .i64 t.1) ∧ W.cell? ⟨b, off + (i * 6 + 1), none⟩ = some (.int .i64 t.2.1) ∧ W.cell? ⟨b, off + (i * 6 + 2), none⟩ = some (.int .i64 t.2.2.1) ∧ W.cell? ⟨b, off + (i * 6 + 3), none⟩ = some (.int .i64 t.2.2.2.1) ∧ W.cell? ⟨b, off + (i * 6 + 4), none⟩ = some (.int .i64 t.2.2.2.2.1) ∧ W.cell? ⟨b, off + (i * 6 + 5), none⟩ = some (.int .u64 t.2.2.2.2.2)) ∧ b64 t.1 ∧ b64 t.2.1 ∧ b64 t.2.2.1 ∧ b64 t.2.2.2.1 ∧ b64 t.2.2.2.2.1 ∧ u64 t.2.2.2.2.2 := by
        intro i
        by_cases hi : i < len
        · obtain ⟨q0, q1, q2, q3, q4, q5, h⟩ := key2 i hi
          exact ⟨(q0, q1, q2, q3, q4, q5), fun _ => h⟩
        · exact ⟨(0, 0, 0, 0, 0, 0), fun h => absurd h hi⟩
      refine ⟨some ⟨b, off, none⟩, len, cap, (List.range (len * 6)).map V, fun i => Classical.choose (hds i), rfl, ⟨by simp, by simp only [maxLen] at hm; omega, fun _ => ⟨b, off, rfl, hlt, fun k u hu => ?_⟩⟩, fun i hi => ?_⟩
      · have hk : k < len * 6 := by
          rcases Nat.lt_or_ge k (len * 6) with h' | h'
          · exact h'
          · rw [List.getElem?_eq_none (by simpa using h')] at hu; cases hu
        rw [hg k hk] at hu
        rw [hV k hk]; exact hu
      · obtain ⟨⟨c0, c1, c2, c3, c4, c5⟩, hB⟩ := Classical.choose_spec (hds i) hi
        refine ⟨⟨?_, ?_, ?_, ?_, ?_, ?_⟩, hB⟩
        · rw [hg _ (by omega), ← hV _ (by omega)]; exact c0
        · rw [hg _ (by omega), ← hV _ (by omega)]; exact c1
        · rw [hg _ (by omega), ← hV _ (by omega)]; exact c2
        · rw [hg _ (by omega), ← hV _ (by omega)]; exact c3
        · rw [hg _ (by omega), ← hV _ (by omega)]; exact c4
        · rw [hg _ (by omega), ← hV _ (by omega)]; exact c5
end Go.Proofs.YtlbadnpgmkobdaaV

set_option linter.unusedVariables false
set_option linter.unusedSimpArgs false
namespace Go.Proofs.YtlbadnpgmkobdaaV
open Go Go.RowKit Go.Proofs

set_option maxRecDepth 100000 in
theorem meant_ok (A : Option Addr) (cp : Nat) (most : Int) (N : List Nd) (k wd a b c x : Int) (w : World) (hD : Own w 0 32 6 (.slice A N.length cp) N.length (ncs N)) (hJ : TJ N most) (hk : b64 k) (hwd : b64 wd) (ha : b64 a) (hb : b64 b) (hc : b64 c) (hx : u64 x) : Ret Try.prog 43 [.agg #[.slice A N.length cp, .int .i64 most], .agg #[.int .i64 k, .int .i64 wd, .int .i64 a, .int .i64 b, .int .i64 c, .int .u64 x]] w fun v w' => DRet A cp most N w (madeF N most k wd a b c x) v w' := by
 refine enter Try.func43 rfl rfl ?_
 refine zQ ?_
 refine st (by rfl) (S_new (v := .pointer (some ⟨w.heap.size, 0, none⟩)) (ob := .cells #[.slice A N.length cp, .int .i64 most] 27) (by kernel_rfl) fun w1 hT2 hs3 hB4 => ?_)
 replace hB4 : Blk w1 (w.heap.size) 27 [.slice A N.length cp, .int .i64 most] := hB4
 have hT0 := hT2
 have hD := hD.tch0 hT2
 have z9 := hT0.size
 have l10 := hB4.lt
 refine st (by rfl) (S_new (v := .pointer (some ⟨w1.heap.size, 0, none⟩)) (ob := .cells #[.int .i64 k, .int .i64 wd, .int .i64 a, .int .i64 b, .int .i64 c, .int .u64 x] 44) (by kernel_rfl) fun w5 hT6 hs7 hB8 => ?_)
 replace hB8 : Blk w5 (w1.heap.size) 44 [.int .i64 k, .int .i64 wd, .int .i64 a, .int .i64 b, .int .i64 c, .int .u64 x] := hB8
 have hT0 := hT0.t0 hT6
 have hD := hD.tch0 hT6
 have hB4 := hB4.tch0 hT6
 have z15 := hT0.size
 have l16 := hB4.lt
 have l17 := hB8.lt
 refine st (by rfl) (S_new (v := .pointer (some ⟨w5.heap.size, 0, none⟩)) (ob := .cells #[.slice none 0 0, .int .i64 0] 27) (by kernel_rfl) fun w11 hT12 hs13 hB14 => ?_)
 replace hB14 : Blk w11 (w5.heap.size) 27 [.slice none 0 0, .int .i64 0] := hB14
 have hT0 := hT0.t0 hT12
 have hD := hD.tch0 hT12
 have hB4 := hB4.tch0 hT12
 have hB8 := hB8.tch0 hT12
 refine zS [(5, .int .i64 0), (6, .int .i64 0)] ?_
 refine op_nil ?_
 refine W_seq ?_
 refine zQ ?_
 refine zS [(7, .pointer (some ⟨w1.heap.size, 0, none⟩))] ?_
 refine zL (.int .i64 k) ((hB8.cell 0).trans rfl) ?_
 refine op_nil ?_
 refine W_block ?_
 refine zQ ?_
 refine zS [(10, .bool (k == 0)), (9, .bool (k == 0))] ?_
 refine zO (k == 0) (fun hc18 => ?_) (fun hc18 => ?_)
 ·
  replace hc18 : k = 0 := (eq_of_beq hc18)
  refine W_seq ?_
  refine zF [(0, .agg #[.slice A N.length cp, .int .i64 most]), (1, .agg #[.int .i64 k, .int .i64 wd, .int .i64 a, .int .i64 b, .int .i64 c, .int .u64 x]), (2, .pointer (some ⟨w.heap.size, 0, none⟩)), (3, .pointer (some ⟨w1.heap.size, 0, none⟩)), (4, .pointer (some ⟨w5.heap.size, 0, none⟩)), (5, .int .i64 0), (6, .int .i64 0), (8, .int .i64 k), (9, .bool (k == 0))] fun ρ => ?_
  refine zR ?_
  refine st (by rfl) (S_val (v := .agg #[.slice A N.length cp, .int .i64 most]) (R_loadA [.slice A N.length cp, .int .i64 most] (by kernel_rfl) (by kernel_rfl) (by kernel_rfl) (fun k u hk => by rw [hB4.cell]; exact get_part _ 0 _ k u rfl hk)) ?_)
  refine zS [(12, .pointer (some ⟨w1.heap.size, 1, none⟩))] ?_
  refine zL (.int .i64 wd) ((hB8.cell 1).trans rfl) ?_
  refine zS [(14, .pointer (some ⟨w1.heap.size, 5, none⟩))] ?_
  refine zL (.int .u64 x) ((hB8.cell 5).trans rfl) ?_
  have hzr := hT0.size
  refine zC (rcst_ok A cp most N wd x _ hD hJ (by assumption) (by assumption)) ?_
  rintro _ w19 ⟨A20, cp21, rfl, hD24, hw22, hT23⟩
  have hT0 := hT0.t0 hT23
  have hD := hD.tch0 hT23
  have hB4 := hB4.tch0 hT23
  have hB8 := hB8.tch0 hT23
  have hB14 := hB14.tch0 hT23
  refine zS [(17, .agg #[.slice A20 (((constF N most wd x).2.2).length) cp21, .int .i64 most]), (18, .int .i64 ((constF N most wd x).1)), (19, .int .i64 ((constF N most wd x).2.1))] ?_
  refine st (by rfl) (S_storeA (b := w5.heap.size) (j := 0) (cs := [.slice A20 (((constF N most wd x).2.2).length) cp21, .int .i64 most]) (by kernel_rfl) (by kernel_rfl) (by kernel_rfl) (by simp [oneV]) hB14 (by simp) fun w25 hT26 hs27 hB14' => ?_)
  have hT0 := (hT0).then hT26 (fun c e => by have : c = w5.heap.size := e; omega)
  have hD := hD.tch hT26 (fun c hc e => hD.blk_ne hB14 (by decide) c hc e)
  have hB4 := hB4.tch hT26 (fun e => by have : w.heap.size = w5.heap.size := e; omega)
  have hB8 := hB8.tch hT26 (hB8.ne hB14 (by decide))
  have hD24 := hD24.tch hT26 (fun c hc e => hD24.blk_ne hB14 (by decide) c hc e)
  replace hB14 : Blk w25 w5.heap.size 27 [.slice A20 (((constF N most wd x).2.2).length) cp21, .int .i64 most] := hB14'
  refine zS [(5, .int .i64 ((constF N most wd x).1)), (6, .int .i64 ((constF N most wd x).2.1))] ?_
  refine op_nil ?_
  refine W_ret ?_
  refine ⟨_, Res_cell2 (b := w5.heap.size) (cs := [.slice A20 (((constF N most wd x).2.2).length) cp21, .int .i64 most]) (by rfl) (by kernel_rfl) (by kernel_rfl) (by kernel_rfl) (by kernel_rfl) hB14 (by kernel_rfl) (by kernel_rfl), ?_⟩
  have e : madeF N most k wd a b c x = constF N most wd x := by unfold madeF; rw [if_pos (by omega)]
  rw [e]
  exact ⟨A20, cp21, rfl, hD24, fun c h => (hw22 c h).imp id (fun q => Nat.le_trans hzr q), hT0⟩
 ·
  replace hc18 : k ≠ 0 := (ne_of_beq_false hc18)
  refine W_seq ?_
  refine zF [(0, .agg #[.slice A N.length cp, .int .i64 most]), (1, .agg #[.int .i64 k, .int .i64 wd, .int .i64 a, .int .i64 b, .int .i64 c, .int .u64 x]), (2, .pointer (some ⟨w.heap.size, 0, none⟩)), (3, .pointer (some ⟨w1.heap.size, 0, none⟩)), (4, .pointer (some ⟨w5.heap.size, 0, none⟩)), (5, .int .i64 0), (6, .int .i64 0), (8, .int .i64 k), (9, .bool (k == 0))] fun ρ => ?_
  refine zR ?_
  refine zS [(21, .bool (k == 1)), (20, .bool (k == 1))] ?_
  refine zO (k == 1) (fun hc28 => ?_) (fun hc28 => ?_)
  ·
   replace hc28 : k = 1 := (eq_of_beq hc28)
   refine zQ ?_
   refine st (by rfl) (S_val (v := .agg #[.slice A N.length cp, .int .i64 most]) (R_loadA [.slice A N.length cp, .int .i64 most] (by kernel_rfl) (by kernel_rfl) (by kernel_rfl) (fun k u hk => by rw [hB4.cell]; exact get_part _ 0 _ k u rfl hk)) ?_)
   refine zS [(23, .pointer (some ⟨w1.heap.size, 1, none⟩))] ?_
   refine zL (.int .i64 wd) ((hB8.cell 1).trans rfl) ?_
   refine zS [(25, .pointer (some ⟨w1.heap.size, 2, none⟩))] ?_
   refine zL (.int .i64 a) ((hB8.cell 2).trans rfl) ?_
   have hzr := hT0.size
   refine zC (rvar_ok A cp most N wd a _ hD hJ (by assumption) (by assumption)) ?_
   rintro _ w29 ⟨A30, cp31, rfl, hD34, hw32, hT33⟩
   have hT0 := hT0.t0 hT33
   have hD := hD.tch0 hT33
   have hB4 := hB4.tch0 hT33
   have hB8 := hB8.tch0 hT33
   have hB14 := hB14.tch0 hT33
   refine zS [(28, .agg #[.slice A30 (((varF N most wd a).2.2).length) cp31, .int .i64 most]), (29, .int .i64 ((varF N most wd a).1)), (30, .int .i64 ((varF N most wd a).2.1))] ?_
   refine st (by rfl) (S_storeA (b := w5.heap.size) (j := 0) (cs := [.slice A30 (((varF N most wd a).2.2).length) cp31, .int .i64 most]) (by kernel_rfl) (by kernel_rfl) (by kernel_rfl) (by simp [oneV]) hB14 (by simp) fun w35 hT36 hs37 hB14' => ?_)
   have hT0 := (hT0).then hT36 (fun c e => by have : c = w5.heap.size := e; omega)
   have hD := hD.tch hT36 (fun c hc e => hD.blk_ne hB14 (by decide) c hc e)
   have hB4 := hB4.tch hT36 (fun e => by have : w.heap.size = w5.heap.size := e; omega)
   have hB8 := hB8.tch hT36 (hB8.ne hB14 (by decide))
   have hD34 := hD34.tch hT36 (fun c hc e => hD34.blk_ne hB14 (by decide) c hc e)
   replace hB14 : Blk w35 w5.heap.size 27 [.slice A30 (((varF N most wd a).2.2).length) cp31, .int .i64 most] := hB14'
   refine zS [(5, .int .i64 ((varF N most wd a).1)), (6, .int .i64 ((varF N most wd a).2.1))] ?_
   refine op_nil ?_
   refine W_ret ?_
   refine ⟨_, Res_cell2 (b := w5.heap.size) (cs := [.slice A30 (((varF N most wd a).2.2).length) cp31, .int .i64 most]) (by rfl) (by kernel_rfl) (by kernel_rfl) (by kernel_rfl) (by kernel_rfl) hB14 (by kernel_rfl) (by kernel_rfl), ?_⟩
   have e : madeF N most k wd a b c x = varF N most wd a := by unfold madeF; rw [if_neg (by omega), if_pos (by omega)]
   rw [e]
   exact ⟨A30, cp31, rfl, hD34, fun c h => (hw32 c h).imp id (fun q => Nat.le_trans hzr q), hT0⟩
  ·
   replace hc28 : k ≠ 1 := (ne_of_beq_false hc28)
   refine zQ ?_
   refine zS [(32, .bool (k == 2)), (31, .bool (k == 2))] ?_
   refine zO (k == 2) (fun hc38 => ?_) (fun hc38 => ?_)
   ·
    replace hc38 : k = 2 := (eq_of_beq hc38)
    refine zQ ?_
    refine st (by rfl) (S_val (v := .agg #[.slice A N.length cp, .int .i64 most]) (R_loadA [.slice A N.length cp, .int .i64 most] (by kernel_rfl) (by kernel_rfl) (by kernel_rfl) (fun k u hk => by rw [hB4.cell]; exact get_part _ 0 _ k u rfl hk)) ?_)
    refine zS [(34, .pointer (some ⟨w1.heap.size, 2, none⟩))] ?_
    refine zL (.int .i64 a) ((hB8.cell 2).trans rfl) ?_
    refine zS [(36, .pointer (some ⟨w1.heap.size, 3, none⟩))] ?_
    refine zL (.int .i64 b) ((hB8.cell 3).trans rfl) ?_
    have hzr := hT0.size
    refine zC (runa_ok A cp most N a b _ hD hJ (by assumption) (by assumption)) ?_
    rintro _ w39 ⟨A40, cp41, rfl, hD44, hw42, hT43⟩
    have hT0 := hT0.t0 hT43
    have hD := hD.tch0 hT43
    have hB4 := hB4.tch0 hT43
    have hB8 := hB8.tch0 hT43
    have hB14 := hB14.tch0 hT43
    refine zS [(39, .agg #[.slice A40 (((unaF N most a b).2.2).length) cp41, .int .i64 most]), (40, .int .i64 ((unaF N most a b).1)), (41, .int .i64 ((unaF N most a b).2.1))] ?_
    refine st (by rfl) (S_storeA (b := w5.heap.size) (j := 0) (cs := [.slice A40 (((unaF N most a b).2.2).length) cp41, .int .i64 most]) (by kernel_rfl) (by kernel_rfl) (by kernel_rfl) (by simp [oneV]) hB14 (by simp) fun w45 hT46 hs47 hB14' => ?_)
    have hT0 := (hT0).then hT46 (fun c e => by have : c = w5.heap.size := e; omega)
    have hD := hD.tch hT46 (fun c hc e => hD.blk_ne hB14 (by decide) c hc e)
    have hB4 := hB4.tch hT46 (fun e => by have : w.heap.size = w5.heap.size := e; omega)
    have hB8 := hB8.tch hT46 (hB8.ne hB14 (by decide))
    have hD44 := hD44.tch hT46 (fun c hc e => hD44.blk_ne hB14 (by decide) c hc e)
    replace hB14 : Blk w45 w5.heap.size 27 [.slice A40 (((unaF N most a b).2.2).length) cp41, .int .i64 most] := hB14'
    refine zS [(5, .int .i64 ((unaF N most a b).1)), (6, .int .i64 ((unaF N most a b).2.1))] ?_
    refine op_nil ?_
    refine W_ret ?_
    refine ⟨_, Res_cell2 (b := w5.heap.size) (cs := [.slice A40 (((unaF N most a b).2.2).length) cp41, .int .i64 most]) (by rfl) (by kernel_rfl) (by kernel_rfl) (by kernel_rfl) (by kernel_rfl) hB14 (by kernel_rfl) (by kernel_rfl), ?_⟩
    have e : madeF N most k wd a b c x = unaF N most a b := by unfold madeF; rw [if_neg (by omega), if_neg (by omega), if_pos (by omega)]
    rw [e]
    exact ⟨A40, cp41, rfl, hD44, fun c h => (hw42 c h).imp id (fun q => Nat.le_trans hzr q), hT0⟩
   ·
    replace hc38 : k ≠ 2 := (ne_of_beq_false hc38)
    refine zQ ?_
    refine zS [(43, .bool (k == 3)), (42, .bool (k == 3))] ?_
    refine zO (k == 3) (fun hc48 => ?_) (fun hc48 => ?_)
    ·
     replace hc48 : k = 3 := (eq_of_beq hc48)
     refine zQ ?_
     refine st (by rfl) (S_val (v := .agg #[.slice A N.length cp, .int .i64 most]) (R_loadA [.slice A N.length cp, .int .i64 most] (by kernel_rfl) (by kernel_rfl) (by kernel_rfl) (fun k u hk => by rw [hB4.cell]; exact get_part _ 0 _ k u rfl hk)) ?_)
     refine zS [(45, .pointer (some ⟨w1.heap.size, 2, none⟩))] ?_
     refine zL (.int .i64 a) ((hB8.cell 2).trans rfl) ?_
     refine zS [(47, .pointer (some ⟨w1.heap.size, 3, none⟩))] ?_
     refine zL (.int .i64 b) ((hB8.cell 3).trans rfl) ?_
     refine zS [(49, .pointer (some ⟨w1.heap.size, 4, none⟩))] ?_
     refine zL (.int .i64 c) ((hB8.cell 4).trans rfl) ?_
     have hzr := hT0.size
     refine zC (rbin_ok A cp most N a b c _ hD hJ (by assumption) (by assumption) (by assumption)) ?_
     rintro _ w49 ⟨A50, cp51, rfl, hD54, hw52, hT53⟩
     have hT0 := hT0.t0 hT53
     have hD := hD.tch0 hT53
     have hB4 := hB4.tch0 hT53
     have hB8 := hB8.tch0 hT53
     have hB14 := hB14.tch0 hT53
     refine zS [(52, .agg #[.slice A50 (((binF N most a b c).2.2).length) cp51, .int .i64 most]), (53, .int .i64 ((binF N most a b c).1)), (54, .int .i64 ((binF N most a b c).2.1))] ?_
     refine st (by rfl) (S_storeA (b := w5.heap.size) (j := 0) (cs := [.slice A50 (((binF N most a b c).2.2).length) cp51, .int .i64 most]) (by kernel_rfl) (by kernel_rfl) (by kernel_rfl) (by simp [oneV]) hB14 (by simp) fun w55 hT56 hs57 hB14' => ?_)
     have hT0 := (hT0).then hT56 (fun c e => by have : c = w5.heap.size := e; omega)
     have hD := hD.tch hT56 (fun c hc e => hD.blk_ne hB14 (by decide) c hc e)
     have hB4 := hB4.tch hT56 (fun e => by have : w.heap.size = w5.heap.size := e; omega)
     have hB8 := hB8.tch hT56 (hB8.ne hB14 (by decide))
     have hD54 := hD54.tch hT56 (fun c hc e => hD54.blk_ne hB14 (by decide) c hc e)
     replace hB14 : Blk w55 w5.heap.size 27 [.slice A50 (((binF N most a b c).2.2).length) cp51, .int .i64 most] := hB14'
     refine zS [(5, .int .i64 ((binF N most a b c).1)), (6, .int .i64 ((binF N most a b c).2.1))] ?_
     refine op_nil ?_
     refine W_ret ?_
     refine ⟨_, Res_cell2 (b := w5.heap.size) (cs := [.slice A50 (((binF N most a b c).2.2).length) cp51, .int .i64 most]) (by rfl) (by kernel_rfl) (by kernel_rfl) (by kernel_rfl) (by kernel_rfl) hB14 (by kernel_rfl) (by kernel_rfl), ?_⟩
     have e : madeF N most k wd a b c x = binF N most a b c := by unfold madeF; rw [if_neg (by omega), if_neg (by omega), if_neg (by omega), if_pos (by omega)]
     rw [e]
     exact ⟨A50, cp51, rfl, hD54, fun c h => (hw52 c h).imp id (fun q => Nat.le_trans hzr q), hT0⟩
    ·
     replace hc48 : k ≠ 3 := (ne_of_beq_false hc48)
     refine zQ ?_
     refine zS [(56, .bool (k == 4)), (55, .bool (k == 4))] ?_
     refine zO (k == 4) (fun hc58 => ?_) (fun hc58 => ?_)
     ·
      replace hc58 : k = 4 := (eq_of_beq hc58)
      refine W_seq ?_
      refine zF [(0, .agg #[.slice A N.length cp, .int .i64 most]), (1, .agg #[.int .i64 k, .int .i64 wd, .int .i64 a, .int .i64 b, .int .i64 c, .int .u64 x]), (2, .pointer (some ⟨w.heap.size, 0, none⟩)), (3, .pointer (some ⟨w1.heap.size, 0, none⟩)), (4, .pointer (some ⟨w5.heap.size, 0, none⟩)), (5, .int .i64 0), (6, .int .i64 0), (8, .int .i64 k), (9, .bool (k == 0)), (20, .bool (k == 1)), (31, .bool (k == 2)), (42, .bool (k == 3)), (55, .bool (k == 4))] fun ρ => ?_
      refine zR ?_
      refine st (by rfl) (S_val (v := .agg #[.slice A N.length cp, .int .i64 most]) (R_loadA [.slice A N.length cp, .int .i64 most] (by kernel_rfl) (by kernel_rfl) (by kernel_rfl) (fun k u hk => by rw [hB4.cell]; exact get_part _ 0 _ k u rfl hk)) ?_)
      refine zS [(58, .pointer (some ⟨w1.heap.size, 2, none⟩))] ?_
      refine zL (.int .i64 a) ((hB8.cell 2).trans rfl) ?_
      refine zS [(60, .pointer (some ⟨w1.heap.size, 3, none⟩))] ?_
      refine zL (.int .i64 b) ((hB8.cell 3).trans rfl) ?_
      refine zS [(62, .pointer (some ⟨w1.heap.size, 4, none⟩))] ?_
      refine zL (.int .i64 c) ((hB8.cell 4).trans rfl) ?_
      have hzr := hT0.size
      refine zC (rite_ok A cp most N a b c _ hD hJ (by assumption) (by assumption) (by assumption)) ?_
      rintro _ w59 ⟨A60, cp61, rfl, hD64, hw62, hT63⟩
      have hT0 := hT0.t0 hT63
      have hD := hD.tch0 hT63
      have hB4 := hB4.tch0 hT63
      have hB8 := hB8.tch0 hT63
      have hB14 := hB14.tch0 hT63
      refine zS [(65, .agg #[.slice A60 (((iteF N most a b c).2.2).length) cp61, .int .i64 most]), (66, .int .i64 ((iteF N most a b c).1)), (67, .int .i64 ((iteF N most a b c).2.1))] ?_
      refine st (by rfl) (S_storeA (b := w5.heap.size) (j := 0) (cs := [.slice A60 (((iteF N most a b c).2.2).length) cp61, .int .i64 most]) (by kernel_rfl) (by kernel_rfl) (by kernel_rfl) (by simp [oneV]) hB14 (by simp) fun w65 hT66 hs67 hB14' => ?_)
      have hT0 := (hT0).then hT66 (fun c e => by have : c = w5.heap.size := e; omega)
      have hD := hD.tch hT66 (fun c hc e => hD.blk_ne hB14 (by decide) c hc e)
      have hB4 := hB4.tch hT66 (fun e => by have : w.heap.size = w5.heap.size := e; omega)
      have hB8 := hB8.tch hT66 (hB8.ne hB14 (by decide))
      have hD64 := hD64.tch hT66 (fun c hc e => hD64.blk_ne hB14 (by decide) c hc e)
      replace hB14 : Blk w65 w5.heap.size 27 [.slice A60 (((iteF N most a b c).2.2).length) cp61, .int .i64 most] := hB14'
      refine zS [(5, .int .i64 ((iteF N most a b c).1)), (6, .int .i64 ((iteF N most a b c).2.1))] ?_
      refine op_nil ?_
      refine W_ret ?_
      refine ⟨_, Res_cell2 (b := w5.heap.size) (cs := [.slice A60 (((iteF N most a b c).2.2).length) cp61, .int .i64 most]) (by rfl) (by kernel_rfl) (by kernel_rfl) (by kernel_rfl) (by kernel_rfl) hB14 (by kernel_rfl) (by kernel_rfl), ?_⟩
      have e : madeF N most k wd a b c x = iteF N most a b c := by unfold madeF; rw [if_neg (by omega), if_neg (by omega), if_neg (by omega), if_neg (by omega), if_pos (by omega)]
      rw [e]
      exact ⟨A60, cp61, rfl, hD64, fun c h => (hw62 c h).imp id (fun q => Nat.le_trans hzr q), hT0⟩
     ·
      replace hc58 : k ≠ 4 := (ne_of_beq_false hc58)
      refine W_seq ?_
      refine zF [(0, .agg #[.slice A N.length cp, .int .i64 most]), (1, .agg #[.int .i64 k, .int .i64 wd, .int .i64 a, .int .i64 b, .int .i64 c, .int .u64 x]), (2, .pointer (some ⟨w.heap.size, 0, none⟩)), (3, .pointer (some ⟨w1.heap.size, 0, none⟩)), (4, .pointer (some ⟨w5.heap.size, 0, none⟩)), (5, .int .i64 0), (6, .int .i64 0), (8, .int .i64 k), (9, .bool (k == 0)), (20, .bool (k == 1)), (31, .bool (k == 2)), (42, .bool (k == 3)), (55, .bool (k == 4))] fun ρ => ?_
      refine zR ?_
      refine zS [(69, .bool (k == 5)), (68, .bool (k == 5))] ?_
      refine zO (k == 5) (fun hc68 => ?_) (fun hc68 => ?_)
      ·
       replace hc68 : k = 5 := (eq_of_beq hc68)
       refine zQ ?_
       refine st (by rfl) (S_val (v := .agg #[.slice A N.length cp, .int .i64 most]) (R_loadA [.slice A N.length cp, .int .i64 most] (by kernel_rfl) (by kernel_rfl) (by kernel_rfl) (fun k u hk => by rw [hB4.cell]; exact get_part _ 0 _ k u rfl hk)) ?_)
       refine zS [(71, .pointer (some ⟨w1.heap.size, 2, none⟩))] ?_
       refine zL (.int .i64 a) ((hB8.cell 2).trans rfl) ?_
       refine zS [(73, .pointer (some ⟨w1.heap.size, 3, none⟩))] ?_
       refine zL (.int .i64 b) ((hB8.cell 3).trans rfl) ?_
       refine zS [(75, .pointer (some ⟨w1.heap.size, 1, none⟩))] ?_
       refine zL (.int .i64 wd) ((hB8.cell 1).trans rfl) ?_
       have hzr := hT0.size
       refine zC (rext_ok A cp most N a b wd _ hD hJ (by assumption) (by assumption) (by assumption)) ?_
       rintro _ w69 ⟨A70, cp71, rfl, hD74, hw72, hT73⟩
       have hT0 := hT0.t0 hT73
       have hD := hD.tch0 hT73
       have hB4 := hB4.tch0 hT73
       have hB8 := hB8.tch0 hT73
       have hB14 := hB14.tch0 hT73
       refine zS [(78, .agg #[.slice A70 (((extF N most a b wd).2.2).length) cp71, .int .i64 most]), (79, .int .i64 ((extF N most a b wd).1)), (80, .int .i64 ((extF N most a b wd).2.1))] ?_
       refine st (by rfl) (S_storeA (b := w5.heap.size) (j := 0) (cs := [.slice A70 (((extF N most a b wd).2.2).length) cp71, .int .i64 most]) (by kernel_rfl) (by kernel_rfl) (by kernel_rfl) (by simp [oneV]) hB14 (by simp) fun w75 hT76 hs77 hB14' => ?_)
       have hT0 := (hT0).then hT76 (fun c e => by have : c = w5.heap.size := e; omega)
       have hD := hD.tch hT76 (fun c hc e => hD.blk_ne hB14 (by decide) c hc e)
       have hB4 := hB4.tch hT76 (fun e => by have : w.heap.size = w5.heap.size := e; omega)
       have hB8 := hB8.tch hT76 (hB8.ne hB14 (by decide))
       have hD74 := hD74.tch hT76 (fun c hc e => hD74.blk_ne hB14 (by decide) c hc e)
       replace hB14 : Blk w75 w5.heap.size 27 [.slice A70 (((extF N most a b wd).2.2).length) cp71, .int .i64 most] := hB14'
       refine zS [(5, .int .i64 ((extF N most a b wd).1)), (6, .int .i64 ((extF N most a b wd).2.1))] ?_
       refine op_nil ?_
       refine W_ret ?_
       refine ⟨_, Res_cell2 (b := w5.heap.size) (cs := [.slice A70 (((extF N most a b wd).2.2).length) cp71, .int .i64 most]) (by rfl) (by kernel_rfl) (by kernel_rfl) (by kernel_rfl) (by kernel_rfl) hB14 (by kernel_rfl) (by kernel_rfl), ?_⟩
       have e : madeF N most k wd a b c x = extF N most a b wd := by unfold madeF; rw [if_neg (by omega), if_neg (by omega), if_neg (by omega), if_neg (by omega), if_neg (by omega), if_pos (by omega)]
       rw [e]
       exact ⟨A70, cp71, rfl, hD74, fun c h => (hw72 c h).imp id (fun q => Nat.le_trans hzr q), hT0⟩
      ·
       replace hc68 : k ≠ 5 := (ne_of_beq_false hc68)
       refine zQ ?_
       refine zS [(82, .bool (k == 6)), (81, .bool (k == 6))] ?_
       refine zO (k == 6) (fun hc78 => ?_) (fun hc78 => ?_)
       ·
        replace hc78 : k = 6 := (eq_of_beq hc78)
        refine zQ ?_
        refine st (by rfl) (S_val (v := .agg #[.slice A N.length cp, .int .i64 most]) (R_loadA [.slice A N.length cp, .int .i64 most] (by kernel_rfl) (by kernel_rfl) (by kernel_rfl) (fun k u hk => by rw [hB4.cell]; exact get_part _ 0 _ k u rfl hk)) ?_)
        refine zS [(84, .pointer (some ⟨w1.heap.size, 2, none⟩))] ?_
        refine zL (.int .i64 a) ((hB8.cell 2).trans rfl) ?_
        refine zS [(86, .pointer (some ⟨w1.heap.size, 3, none⟩))] ?_
        refine zL (.int .i64 b) ((hB8.cell 3).trans rfl) ?_
        have hzr := hT0.size
        refine zC (rcat_ok A cp most N a b _ hD hJ (by assumption) (by assumption)) ?_
        rintro _ w79 ⟨A80, cp81, rfl, hD84, hw82, hT83⟩
        have hT0 := hT0.t0 hT83
        have hD := hD.tch0 hT83
        have hB4 := hB4.tch0 hT83
        have hB8 := hB8.tch0 hT83
        have hB14 := hB14.tch0 hT83
        refine zS [(89, .agg #[.slice A80 (((catF N most a b).2.2).length) cp81, .int .i64 most]), (90, .int .i64 ((catF N most a b).1)), (91, .int .i64 ((catF N most a b).2.1))] ?_
        refine st (by rfl) (S_storeA (b := w5.heap.size) (j := 0) (cs := [.slice A80 (((catF N most a b).2.2).length) cp81, .int .i64 most]) (by kernel_rfl) (by kernel_rfl) (by kernel_rfl) (by simp [oneV]) hB14 (by simp) fun w85 hT86 hs87 hB14' => ?_)
        have hT0 := (hT0).then hT86 (fun c e => by have : c = w5.heap.size := e; omega)
        have hD := hD.tch hT86 (fun c hc e => hD.blk_ne hB14 (by decide) c hc e)
        have hB4 := hB4.tch hT86 (fun e => by have : w.heap.size = w5.heap.size := e; omega)
        have hB8 := hB8.tch hT86 (hB8.ne hB14 (by decide))
        have hD84 := hD84.tch hT86 (fun c hc e => hD84.blk_ne hB14 (by decide) c hc e)
        replace hB14 : Blk w85 w5.heap.size 27 [.slice A80 (((catF N most a b).2.2).length) cp81, .int .i64 most] := hB14'
        refine zS [(5, .int .i64 ((catF N most a b).1)), (6, .int .i64 ((catF N most a b).2.1))] ?_
        refine op_nil ?_
        refine W_ret ?_
        refine ⟨_, Res_cell2 (b := w5.heap.size) (cs := [.slice A80 (((catF N most a b).2.2).length) cp81, .int .i64 most]) (by rfl) (by kernel_rfl) (by kernel_rfl) (by kernel_rfl) (by kernel_rfl) hB14 (by kernel_rfl) (by kernel_rfl), ?_⟩
        have e : madeF N most k wd a b c x = catF N most a b := by unfold madeF; rw [if_neg (by omega), if_neg (by omega), if_neg (by omega), if_neg (by omega), if_neg (by omega), if_neg (by omega), if_pos (by omega)]
        rw [e]
        exact ⟨A80, cp81, rfl, hD84, fun c h => (hw82 c h).imp id (fun q => Nat.le_trans hzr q), hT0⟩
       ·
        replace hc78 : k ≠ 6 := (ne_of_beq_false hc78)
        refine W_skip ?_
        refine zQ ?_
        refine st (by rfl) (S_val (v := .agg #[.slice A N.length cp, .int .i64 most]) (R_loadA [.slice A N.length cp, .int .i64 most] (by kernel_rfl) (by kernel_rfl) (by kernel_rfl) (fun k u hk => by rw [hB4.cell]; exact get_part _ 0 _ k u rfl hk)) ?_)
        refine zS [(93, .pointer (some ⟨w1.heap.size, 2, none⟩))] ?_
        refine zL (.int .i64 a) ((hB8.cell 2).trans rfl) ?_
        refine zS [(95, .pointer (some ⟨w1.heap.size, 1, none⟩))] ?_
        refine zL (.int .i64 wd) ((hB8.cell 1).trans rfl) ?_
        refine zS [(97, .pointer (some ⟨w1.heap.size, 3, none⟩))] ?_
        refine zL (.int .i64 b) ((hB8.cell 3).trans rfl) ?_
        refine zS [(99, .int .i64 (b.tmod 2)), (100, .bool ((b.tmod 2) != 0))] ?_
        have hzr := hT0.size
        refine zC (rexd_ok A cp most N a wd ((b.tmod 2) != 0) _ hD hJ (by assumption) (by assumption)) ?_
        rintro _ w88 ⟨A89, cp90, rfl, hD93, hw91, hT92⟩
        have hT0 := hT0.t0 hT92
        have hD := hD.tch0 hT92
        have hB4 := hB4.tch0 hT92
        have hB8 := hB8.tch0 hT92
        have hB14 := hB14.tch0 hT92
        refine zS [(102, .agg #[.slice A89 (((exdF N most a wd ((b.tmod 2) != 0)).2.2).length) cp90, .int .i64 most]), (103, .int .i64 ((exdF N most a wd ((b.tmod 2) != 0)).1)), (104, .int .i64 ((exdF N most a wd ((b.tmod 2) != 0)).2.1))] ?_
        refine st (by rfl) (S_storeA (b := w5.heap.size) (j := 0) (cs := [.slice A89 (((exdF N most a wd ((b.tmod 2) != 0)).2.2).length) cp90, .int .i64 most]) (by kernel_rfl) (by kernel_rfl) (by kernel_rfl) (by simp [oneV]) hB14 (by simp) fun w94 hT95 hs96 hB14' => ?_)
        have hT0 := (hT0).then hT95 (fun c e => by have : c = w5.heap.size := e; omega)
        have hD := hD.tch hT95 (fun c hc e => hD.blk_ne hB14 (by decide) c hc e)
        have hB4 := hB4.tch hT95 (fun e => by have : w.heap.size = w5.heap.size := e; omega)
        have hB8 := hB8.tch hT95 (hB8.ne hB14 (by decide))
        have hD93 := hD93.tch hT95 (fun c hc e => hD93.blk_ne hB14 (by decide) c hc e)
        replace hB14 : Blk w94 w5.heap.size 27 [.slice A89 (((exdF N most a wd ((b.tmod 2) != 0)).2.2).length) cp90, .int .i64 most] := hB14'
        refine zS [(5, .int .i64 ((exdF N most a wd ((b.tmod 2) != 0)).1)), (6, .int .i64 ((exdF N most a wd ((b.tmod 2) != 0)).2.1))] ?_
        refine op_nil ?_
        refine W_ret ?_
        refine ⟨_, Res_cell2 (b := w5.heap.size) (cs := [.slice A89 (((exdF N most a wd ((b.tmod 2) != 0)).2.2).length) cp90, .int .i64 most]) (by rfl) (by kernel_rfl) (by kernel_rfl) (by kernel_rfl) (by kernel_rfl) hB14 (by kernel_rfl) (by kernel_rfl), ?_⟩
        have e : madeF N most k wd a b c x = exdF N most a wd ((b.tmod 2) != 0) := by unfold madeF; rw [if_neg (by omega), if_neg (by omega), if_neg (by omega), if_neg (by omega), if_neg (by omega), if_neg (by omega), if_neg (by omega)]
        rw [e]
        exact ⟨A89, cp90, rfl, hD93, fun c h => (hw91 c h).imp id (fun q => Nat.le_trans hzr q), hT0⟩

set_option maxRecDepth 100000 in
theorem rnew_ok (mo : Int) (w : World) : Ret Try.prog 42 [.int .i64 mo] w fun v w' => v = .agg #[.slice none 0 0, .int .i64 (newM mo)] ∧ Tch N0 w w' := by
 refine enter Try.func42 rfl rfl ?_
 refine zQ ?_
 refine st (by rfl) (S_new (v := .pointer (some ⟨w.heap.size, 0, none⟩)) (ob := .cells #[.slice none 0 0, .int .i64 0] 27) (by kernel_rfl) fun w1 hT2 hs3 hB4 => ?_)
 replace hB4 : Blk w1 (w.heap.size) 27 [.slice none 0 0, .int .i64 0] := hB4
 have hT0 := hT2
 refine op_nil ?_
 refine W_seq ?_
 refine zQ ?_
 refine zS [(3, .int .i64 mo), (4, .bool (decide (mo < 0))), (5, .bool (decide (mo < 0)))] ?_
 cases hb5 : decide (mo < 0)
 ·
  replace hb5 : 0 ≤ mo := (Int.not_lt.1 (of_decide_eq_false hb5))
  refine zS [(6, .int .i64 mo), (7, .bool (decide (mo > 65536))), (8, .bool (decide (mo > 65536)))] ?_
  refine zO (decide (mo > 65536)) (fun hc6 => ?_) (fun hc6 => ?_)
  ·
   replace hc6 : 65536 < mo := (of_decide_eq_true hc6)
   refine zR ?_
   refine zS [(0, .int .i64 0)] ?_
   refine op_nil ?_
   refine W_seq ?_
   refine zF [(0, .int .i64 0), (2, .pointer (some ⟨w.heap.size, 0, none⟩)), (8, .bool (decide (mo > 65536)))] fun ρ => ?_
   refine zR ?_
   refine zS [(9, .int .i64 0), (10, .agg #[.slice none 0 0, .int .i64 0])] ?_
   refine st (by rfl) (S_storeA (b := w.heap.size) (j := 0) (cs := [.slice none 0 0, .int .i64 0]) (by kernel_rfl) (by kernel_rfl) (by kernel_rfl) (by simp [oneV]) hB4 (by simp) fun w7 hT8 hs9 hB4' => ?_)
   have hT0 := (hT0).then hT8 (fun c e => by have : c = w.heap.size := e; omega)
   replace hB4 : Blk w7 w.heap.size 27 [.slice none 0 0, .int .i64 0] := hB4'
   refine op_nil ?_
   refine W_ret ?_
   refine ⟨_, Res_cell (b := w.heap.size) (cs := [.slice none 0 0, .int .i64 0]) (by rfl) (by kernel_rfl) (by kernel_rfl) hB4 (by kernel_rfl) (by kernel_rfl), ?_⟩
   have e : newM mo = 0 := by unfold newM; first | rw [if_pos (by omega)] | rw [if_neg (by omega)]
   rw [e]
   exact ⟨rfl, hT0⟩
  ·
   replace hc6 : mo ≤ 65536 := (Int.not_lt.1 (of_decide_eq_false hc6))
   refine W_skip ?_
   refine zQ ?_
   refine zS [(9, .int .i64 mo), (10, .agg #[.slice none 0 0, .int .i64 mo])] ?_
   refine st (by rfl) (S_storeA (b := w.heap.size) (j := 0) (cs := [.slice none 0 0, .int .i64 mo]) (by kernel_rfl) (by kernel_rfl) (by kernel_rfl) (by simp [oneV]) hB4 (by simp) fun w10 hT11 hs12 hB4' => ?_)
   have hT0 := (hT0).then hT11 (fun c e => by have : c = w.heap.size := e; omega)
   replace hB4 : Blk w10 w.heap.size 27 [.slice none 0 0, .int .i64 mo] := hB4'
   refine op_nil ?_
   refine W_ret ?_
   refine ⟨_, Res_cell (b := w.heap.size) (cs := [.slice none 0 0, .int .i64 mo]) (by rfl) (by kernel_rfl) (by kernel_rfl) hB4 (by kernel_rfl) (by kernel_rfl), ?_⟩
   have e : newM mo = mo := by unfold newM; first | rw [if_pos (by omega)] | rw [if_neg (by omega)]
   rw [e]
   exact ⟨rfl, hT0⟩
 ·
  replace hb5 : mo < 0 := (of_decide_eq_true hb5)
  refine zS [(6, undef), (7, undef), (8, .bool true)] ?_
  refine zO true (fun _ => ?_) (fun h => nomatch h)
  refine zR ?_
  refine zS [(0, .int .i64 0)] ?_
  refine op_nil ?_
  refine W_seq ?_
  refine zF [(0, .int .i64 0), (2, .pointer (some ⟨w.heap.size, 0, none⟩)), (8, .bool true)] fun ρ => ?_
  refine zR ?_
  refine zS [(9, .int .i64 0), (10, .agg #[.slice none 0 0, .int .i64 0])] ?_
  refine st (by rfl) (S_storeA (b := w.heap.size) (j := 0) (cs := [.slice none 0 0, .int .i64 0]) (by kernel_rfl) (by kernel_rfl) (by kernel_rfl) (by simp [oneV]) hB4 (by simp) fun w13 hT14 hs15 hB4' => ?_)
  have hT0 := (hT0).then hT14 (fun c e => by have : c = w.heap.size := e; omega)
  replace hB4 : Blk w13 w.heap.size 27 [.slice none 0 0, .int .i64 0] := hB4'
  refine op_nil ?_
  refine W_ret ?_
  refine ⟨_, Res_cell (b := w.heap.size) (cs := [.slice none 0 0, .int .i64 0]) (by rfl) (by kernel_rfl) (by kernel_rfl) hB4 (by kernel_rfl) (by kernel_rfl), ?_⟩
  have e : newM mo = 0 := by unfold newM; first | rw [if_pos (by omega)] | rw [if_neg (by omega)]
  rw [e]
  exact ⟨rfl, hT0⟩

end Go.Proofs.YtlbadnpgmkobdaaV
