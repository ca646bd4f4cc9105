/- Texts laid together: The document's terms: plain. Walks of functions of the program and of the document's texts. The conditions stand with each theorem. -/
import Derived.Test.YtlbadnpgmkobdaaJTterm4x3
import Derived.Test.YtlbadnpgmkobdaaJTterm4x1
import Derived.Test.YtlbadnpgmkobdaaProg
set_option linter.unusedVariables false
set_option linter.unusedSimpArgs false
namespace Go.Proofs.YtlbadnpgmkobdaaV
open Go Go.RowKit Go.Proofs
theorem mask_pow {w : Int} (h : 1 ≤ w ∧ w ≤ 64) : maskF w = 2 ^ w.toNat - 1 := by
 unfold maskF
 rw [if_pos h]
 have k : ∀ k : Fin 65, (18446744073709551615 : Int).fdiv (2 ^ (64 - k.val)) = 2 ^ k.val - 1 := by decide +kernel
 exact k ⟨w.toNat, by omega⟩
theorem pow64 {i : Nat} (h : i < 64) : (1 : Int) ≤ 2 ^ i ∧ (2 : Int) ^ i * 2 ≤ 18446744073709551616 := by
 have k : ∀ k : Fin 64, (1 : Int) ≤ 2 ^ k.val ∧ (2 : Int) ^ k.val * 2 ≤ 18446744073709551616 := by decide +kernel
 exact k ⟨i, h⟩
theorem mask_end {x : Int} {i : Nat} (h : i = 0 ∨ (1 ≤ x ∧ x ≤ 64 ∧ (i : Int) ≤ x)) (hx : ¬ ((i : Int) < x ∧ 1 ≤ x ∧ x ≤ 64)) : (2 : Int) ^ i - 1 = maskF x := by
 by_cases q : 1 ≤ x ∧ x ≤ 64
 ·
  have e : i = x.toNat := by omega
  rw [mask_pow q, e]
 ·
  have e : i = 0 := by omega
  subst e
  rw [mask_z q]; rfl
theorem at_nth {N : List Nd} {i : Nat} {n : Nd} (h : i < N.length) (e : nth N i = n) : N[i]? = some n := by
 rw [List.getElem?_eq_getElem h, ← e]; unfold nth; rw [List.getD_eq_getElem?_getD, List.getElem?_eq_getElem h]; rfl
theorem not_in {N : List Nd} {n : Nd} {i : Nat} (hi : N.length ≤ i) (h : ∀ j, j < i → nth N j ≠ n) : n ∉ N := by
 intro hn
 obtain ⟨j, hj, e⟩ := List.getElem_of_mem hn
 refine h j (by omega) ?_
 unfold nth; rw [List.getD_eq_getElem?_getD, List.getElem?_eq_getElem hj]; exact e
theorem ncs_oneV (N : List Nd) : ∀ u ∈ ncs N, oneV u = true := by
 intro u hu
 unfold ncs at hu
 rw [List.mem_flatMap] at hu
 obtain ⟨n, _, h⟩ := hu
 simp only [ncl, List.mem_cons, List.not_mem_nil, or_false] at h
 rcases h with rfl | rfl | rfl | rfl | rfl | rfl <;> rfl
def isT (N : List Nd) (x : Int) : Bool := decide (0 ≤ x ∧ x < (N.length : Int))
/-- What comes of a call of the document's that makes a term. -/
def DRet (A : Option Addr) (cp : Nat) (most : Int) (N : List Nd) (w : World) (r : TR) (v : Value) (w' : World) : Prop := ∃ A' cp', v = .tuple #[.agg #[.slice A' r.2.2.length cp', .int .i64 most], .int .i64 r.1, .int .i64 r.2.1] ∧ Own w' 0 32 6 (.slice A' r.2.2.length cp') r.2.2.length (ncs r.2.2) ∧ (∀ c, (Value.slice A' r.2.2.length cp').ownBlock = some c → (Value.slice A N.length cp).ownBlock = some c ∨ w.heap.size ≤ c) ∧ Tch N0 w w'
theorem var_seen {N : List Nd} {wd ix : Int} {i : Nat} (hi : i < N.length) (h1 : nO (nth N i) = 21) (h2 : nA (nth N i) = ix) (h3 : nW (nth N i) ≠ wd) : varBad N wd ix := ⟨_, nth_mem hi, h1, h2, h3⟩
theorem var_none {N : List Nd} {wd ix : Int} {i : Nat} (hi : N.length ≤ i) (h : ∀ j, j < i → ¬ (nO (nth N j) = 21 ∧ nA (nth N j) = ix ∧ nW (nth N j) ≠ wd)) : ¬ varBad N wd ix := by
 rintro ⟨m, hm, h1, h2, h3⟩
 obtain ⟨j, hj, e⟩ := List.getElem_of_mem hm
 have e2 : nth N j = m := by unfold nth; rw [List.getD_eq_getElem?_getD, List.getElem?_eq_getElem hj]; exact e
 exact h j (by omega) (by rw [e2]; exact ⟨h1, h2, h3⟩)
end Go.Proofs.YtlbadnpgmkobdaaV

set_option linter.unusedVariables false
set_option linter.unusedSimpArgs false
namespace Go.Proofs.YtlbadnpgmkobdaaV
open Go Go.RowKit Go.Proofs

set_option maxRecDepth 100000 in
theorem rfits_ok (x : Int) (w : World) : Ret Try.prog 53 [.int .i64 x] w fun v w' => v = .bool (fitsW x) ∧ Tch N0 w w' := by
 refine enter Try.func53 rfl rfl ?_
 refine zQ ?_
 refine zS [(2, .bool false)] ?_
 refine op_nil ?_
 refine zQ ?_
 refine zS [(3, .int .i64 x), (4, .bool (decide (x ≥ 1))), (5, .bool (decide (x ≥ 1)))] ?_
 cases hb1 : decide (x ≥ 1)
 ·
  replace hb1 : x < 1 := (Int.not_le.1 (of_decide_eq_false hb1))
  refine zS [(6, undef), (7, undef), (8, .bool false), (2, .bool false)] ?_
  refine op_nil ?_
  refine W_ret ?_
  exact ⟨_, Res_of (v := .bool false) (by kernel_rfl), ⟨congrArg Value.bool (by unfold fitsW; simp; omega), Tch.refl _ _⟩⟩
 ·
  replace hb1 : 1 ≤ x := (of_decide_eq_true hb1)
  refine zS [(6, .int .i64 x), (7, .bool (decide (x ≤ 64))), (8, .bool (decide (x ≤ 64))), (2, .bool (decide (x ≤ 64)))] ?_
  refine op_nil ?_
  refine W_ret ?_
  exact ⟨_, Res_of (v := .bool (decide (x ≤ 64))) (by kernel_rfl), ⟨congrArg Value.bool (by unfold fitsW; simp; omega), Tch.refl _ _⟩⟩

set_option maxRecDepth 100000 in
theorem rmask_ok (x : Int) (w : World) : Ret Try.prog 30 [.int .i64 x] w fun v w' => v = .int .u64 (maskF x) ∧ Tch N0 w w' := by
 refine enter Try.func30 rfl rfl ?_
 refine zQ ?_
 refine zS [(2, .int .u64 0)] ?_
 refine op_nil ?_
 refine zQ ?_
 refine zS [(3, .int .u64 0)] ?_
 refine op_nil ?_
 refine W_seq ?_
 refine zQ ?_
 refine zS [(4, .int .i64 0)] ?_
 refine op_nil ?_
 refine W_block ?_
 refine W_loop (fun m ρ w' => ∃ (i : Nat) (P : Int) (ρ0 : Env), ρ = updL ρ0 [(0, .int .i64 x), (3, .int .u64 (P - 1)), (4, .int .i64 ((i : Nat) : Int))] ∧ (P = 2 ^ i) ∧ (i = 0 ∨ (1 ≤ x ∧ x ≤ 64 ∧ (i : Int) ≤ x)) ∧ Tch N0 w w' ∧ m = x.toNat - i) (m := x.toNat - 0) ?_ ?_
 ·
  refine ⟨0, 1, _, updL_self (by kernel_rfl), rfl, .inl rfl, Tch.refl _ _, rfl⟩
 ·
  rintro m ρ w1 ⟨i, P, ρ, rfl, hP, hi, hT0, rfl⟩
  refine W_seq ?_
  refine zQ ?_
  refine zS [(5, .int .i64 ((i : Nat) : Int)), (6, .int .i64 x), (7, .bool (decide (((i : Nat) : Int) < x))), (8, .bool (decide (((i : Nat) : Int) < x)))] ?_
  cases hb2 : decide (((i : Nat) : Int) < x)
  ·
   replace hb2 : x ≤ ((i : Nat) : Int) := (Int.not_lt.1 (of_decide_eq_false hb2))
   refine zS [(9, undef), (10, undef), (11, .bool false)] ?_
   refine zO false (fun h => nomatch h) (fun _ => ?_)
   refine W_exit ?_
   refine X_hit ?_
   refine zQ ?_
   refine zS [(17, .int .u64 (P - 1)), (2, .int .u64 (P - 1))] ?_
   refine op_nil ?_
   refine W_ret ?_
   exact ⟨_, Res_of (v := .int .u64 (P - 1)) (by kernel_rfl), ⟨congrArg (Value.int .u64) (by rw [hP]; exact mask_end hi (by omega)), hT0⟩⟩
  ·
   replace hb2 : ((i : Nat) : Int) < x := (of_decide_eq_true hb2)
   refine zS [(9, .int .i64 x)] ?_
   refine zC (rfits_ok x _) ?_
   rintro _ w3 ⟨rfl, hT4⟩
   have hT0 := hT0.t0 hT4
   refine zS [(11, .bool (fitsW x))] ?_
   refine zO (fitsW x) (fun hc5 => ?_) (fun hc5 => ?_)
   ·
    replace hc5 : 1 ≤ x ∧ x ≤ 64 := (of_decide_eq_true hc5)
    refine W_skip ?_
    refine W_seq ?_
    refine W_block ?_
    have hp := pow64 (i := i) (by omega)
    rw [← hP] at hp
    refine zR ?_
    refine zS [(14, .int .u64 (P - 1)), (15, .int .u64 (IntKind.u64.wrap ((P - 1) * 2)))] ?_
    rw [show IntKind.u64.wrap ((P - 1) * 2) = (P - 1) * 2 from wrap_u64 (by omega) (by omega)]
    refine zS [(16, .int .u64 (IntKind.u64.wrap (((P - 1) * 2) + 1)))] ?_
    rw [show IntKind.u64.wrap (((P - 1) * 2) + 1) = ((P - 1) * 2) + 1 from wrap_u64 (by omega) (by omega)]
    refine fixR (y := (P * 2 - 1)) (by omega) ?_
    refine zS [(3, .int .u64 (P * 2 - 1))] ?_
    refine op_nil ?_
    refine zF [(0, .int .i64 x), (3, .int .u64 (P * 2 - 1)), (4, .int .i64 ((i : Nat) : Int)), (11, .bool (fitsW x))] fun ρ => ?_
    refine zR ?_
    refine zS [(12, .int .i64 ((i : Nat) : Int)), (13, .int .i64 (IntKind.i64.wrap (((i : Nat) : Int) + 1)))] ?_
    rw [show IntKind.i64.wrap (((i : Nat) : Int) + 1) = ((i : Nat) : Int) + 1 from wrap_i64 (by omega) (by omega)]
    refine fixR (y := ((i + 1 : Nat) : Int)) (by omega) ?_
    refine zS [(4, .int .i64 ((i + 1 : Nat) : Int))] ?_
    refine op_nil ?_
    refine ⟨_, ?_, i + 1, P * 2, _, updL_self (by kernel_rfl), ?_, ?_, hT0, rfl⟩
    ·
     omega
    ·
     rw [Int.pow_succ, ← hP]
    ·
     exact .inr ⟨by omega, by omega, by omega⟩
   ·
    replace hc5 : ¬ (1 ≤ x ∧ x ≤ 64) := (of_decide_eq_false hc5)
    refine W_exit ?_
    refine X_hit ?_
    refine zQ ?_
    refine zS [(17, .int .u64 (P - 1)), (2, .int .u64 (P - 1))] ?_
    refine op_nil ?_
    refine W_ret ?_
    exact ⟨_, Res_of (v := .int .u64 (P - 1)) (by kernel_rfl), ⟨congrArg (Value.int .u64) (by rw [hP]; exact mask_end hi (by omega)), hT0⟩⟩

set_option maxRecDepth 100000 in
theorem rcut_ok (x y : Int) (w : World) : Ret Try.prog 87 [.int .i64 x, .int .u64 y] w fun v w' => v = .int .u64 (cutF x y) ∧ Tch N0 w w' := by
 refine enter Try.func87 rfl rfl ?_
 refine zQ ?_
 refine zS [(4, .int .u64 0)] ?_
 refine op_nil ?_
 refine zQ ?_
 refine zS [(5, .int .u64 y), (6, .int .i64 x)] ?_
 refine zC (rmask_ok x _) ?_
 rintro _ w1 ⟨rfl, hT2⟩
 have hT0 := hT2
 refine zS [(8, .int .u64 (IntKind.u64.wrap (BitVec.ofInt 64 y &&& BitVec.ofInt 64 (maskF x)).toNat)), (4, .int .u64 (IntKind.u64.wrap (BitVec.ofInt 64 y &&& BitVec.ofInt 64 (maskF x)).toNat))] ?_
 refine op_nil ?_
 refine W_ret ?_
 exact ⟨_, Res_of (v := .int .u64 (IntKind.u64.wrap (BitVec.ofInt 64 y &&& BitVec.ofInt 64 (maskF x)).toNat)) (by kernel_rfl), ⟨rfl, hT0⟩⟩

set_option maxRecDepth 100000 in
theorem ris_ok (A : Option Addr) (cp : Nat) (most : Int) (N : List Nd) (ix : Int) (w : World) (hD : Own w 0 32 6 (.slice A N.length cp) N.length (ncs N)) : Ret Try.prog 16 [.agg #[.slice A N.length cp, .int .i64 most], .int .i64 ix] w fun v w' => v = .bool (isT N ix) ∧ Tch N0 w w' := by
 refine enter Try.func16 rfl rfl ?_
 refine zQ ?_
 refine st (by rfl) (S_new (v := .pointer (some ⟨w.heap.size, 0, none⟩)) (ob := .cells #[.slice A N.length cp, .int .i64 most] 27) (by kernel_rfl) fun w1 hT2 hs3 hB4 => ?_)
 replace hB4 : Blk w1 (w.heap.size) 27 [.slice A N.length cp, .int .i64 most] := hB4
 have hT0 := hT2
 have hD := hD.tch0 hT2
 refine zS [(4, .bool false)] ?_
 refine op_nil ?_
 refine zQ ?_
 refine zS [(5, .int .i64 ix), (6, .bool (decide (ix ≥ 0))), (7, .bool (decide (ix ≥ 0)))] ?_
 cases hb5 : decide (ix ≥ 0)
 ·
  replace hb5 : ix < 0 := (Int.not_le.1 (of_decide_eq_false hb5))
  refine zS [(8, undef), (9, undef), (10, undef), (11, undef), (12, undef), (13, .bool false), (4, .bool false)] ?_
  refine op_nil ?_
  refine W_ret ?_
  exact ⟨_, Res_of (v := .bool false) (by kernel_rfl), ⟨congrArg Value.bool (by unfold isT; simp; omega), hT0⟩⟩
 ·
  replace hb5 : 0 ≤ ix := (of_decide_eq_true hb5)
  refine zS [(8, .int .i64 ix), (9, .pointer (some ⟨w.heap.size, 0, none⟩))] ?_
  refine zL (.slice A N.length cp) ((hB4.cell 0).trans rfl) ?_
  refine zS [(11, .int .i64 (N.length : Int)), (12, .bool (decide (ix < (N.length : Int)))), (13, .bool (decide (ix < (N.length : Int)))), (4, .bool (decide (ix < (N.length : Int))))] ?_
  refine op_nil ?_
  refine W_ret ?_
  exact ⟨_, Res_of (v := .bool (decide (ix < (N.length : Int)))) (by kernel_rfl), ⟨congrArg Value.bool (by unfold isT; simp; omega), hT0⟩⟩

set_option maxRecDepth 100000 in
theorem rwid_ok (A : Option Addr) (cp : Nat) (most : Int) (N : List Nd) (ix : Int) (w : World) (hD : Own w 0 32 6 (.slice A N.length cp) N.length (ncs N)) : Ret Try.prog 17 [.agg #[.slice A N.length cp, .int .i64 most], .int .i64 ix] w fun v w' => v = .int .i64 (widF N ix) ∧ Tch N0 w w' := by
 refine enter Try.func17 rfl rfl ?_
 refine zQ ?_
 refine st (by rfl) (S_new (v := .pointer (some ⟨w.heap.size, 0, none⟩)) (ob := .cells #[.slice A N.length cp, .int .i64 most] 27) (by kernel_rfl) fun w1 hT2 hs3 hB4 => ?_)
 replace hB4 : Blk w1 (w.heap.size) 27 [.slice A N.length cp, .int .i64 most] := hB4
 have hT0 := hT2
 have hD := hD.tch0 hT2
 refine zS [(4, .int .i64 0)] ?_
 refine op_nil ?_
 refine W_seq ?_
 refine zQ ?_
 refine st (by rfl) (S_val (v := .agg #[.slice A N.length cp, .int .i64 most]) (R_loadA [.slice A N.length cp, .int .i64 most] (by kernel_rfl) (by kernel_rfl) (by kernel_rfl) (fun k u hk => by rw [hB4.cell]; exact get_part _ 0 _ k u rfl hk)) ?_)
 refine zS [(6, .int .i64 ix)] ?_
 refine zC (ris_ok A cp most N ix _ hD) ?_
 rintro _ w5 ⟨rfl, hT6⟩
 have hT0 := hT0.t0 hT6
 have hD := hD.tch0 hT6
 have hB4 := hB4.tch0 hT6
 refine zS [(8, .bool (!(isT N ix)))] ?_
 refine zO (!(isT N ix)) (fun hc7 => ?_) (fun hc7 => ?_)
 ·
  replace hc7 : ¬ (0 ≤ ix ∧ ix < (N.length : Int)) := (of_decide_eq_false (not_t hc7))
  refine zQ ?_
  refine zS [(4, .int .i64 0)] ?_
  refine op_nil ?_
  refine W_ret ?_
  exact ⟨_, Res_of (v := .int .i64 0) (by kernel_rfl), ⟨congrArg (Value.int .i64) (by unfold widF; first | rw [if_pos (by omega)] | rw [if_neg (by omega)]), hT0⟩⟩
 ·
  replace hc7 : 0 ≤ ix ∧ ix < (N.length : Int) := (of_decide_eq_true (not_f hc7))
  refine W_skip ?_
  refine zQ ?_
  refine zS [(9, .pointer (some ⟨w.heap.size, 0, none⟩))] ?_
  refine zL (.slice A N.length cp) ((hB4.cell 0).trans rfl) ?_
  refine zS [(11, .int .i64 ix)] ?_
  refine stv (v := ptrAt A (ix.toNat * 6)) (by rfl) (R_indexRd (sz := 6) (len := N.length) (cap := cp) (k := .i64) (i := ix) (e := 32) ix.toNat hD.rdS (by kernel_rfl) (by kernel_rfl) (by kernel_rfl) (by kernel_rfl) (by omega) (by omega)) ?_
  refine stv (v := ptrAt A (ix.toNat * 6 + 1)) (by rfl) (R_fieldRd (m := 1) hD.rdS (by omega) (by kernel_rfl) (fun _ _ => by rfl)) ?_
  refine stv (v := .int .i64 (nW (nth N ix.toNat))) (by rfl) (R_loadRd (v := .int .i64 (nW (nth N ix.toNat))) hD.rdS (by omega) (by kernel_rfl) (by kernel_rfl) ((ncs_part N (by omega) 1 _ rfl))) ?_
  refine zS [(4, .int .i64 (nW (nth N ix.toNat)))] ?_
  refine op_nil ?_
  refine W_ret ?_
  exact ⟨_, Res_of (v := .int .i64 (nW (nth N ix.toNat))) (by kernel_rfl), ⟨congrArg (Value.int .i64) (by unfold widF; first | rw [if_pos (by omega)] | rw [if_neg (by omega)]), hT0⟩⟩

set_option maxRecDepth 100000 in
theorem rmade_ok (A : Option Addr) (cp : Nat) (most : Int) (N : List Nd) (n : Nd) (w : World) (hD : Own w 0 32 6 (.slice A N.length cp) N.length (ncs N)) (hI : TI N most) (hwf : nwf n) : Ret Try.prog 97 [.agg #[.slice A N.length cp, .int .i64 most], .agg #[.int .i64 (nO n), .int .i64 (nW n), .int .i64 (nA n), .int .i64 (nB n), .int .i64 (nC n), .int .u64 (nV n)]] w fun v w' => DRet A cp most N w (mk N most n) v w' := by
 have hlen := hI.len
 have hmost := hI.most
 refine enter Try.func97 rfl rfl ?_
 refine zQ ?_
 refine st (by rfl) (S_new (v := .pointer (some ⟨w.heap.size, 0, none⟩)) (ob := .cells #[.slice A N.length cp, .int .i64 most] 27) (by kernel_rfl) fun w1 hT2 hs3 hB4 => ?_)
 replace hB4 : Blk w1 (w.heap.size) 27 [.slice A N.length cp, .int .i64 most] := hB4
 have hT0 := hT2
 have hD := hD.tch0 hT2
 have z9 := hT0.size
 have l10 := hB4.lt
 refine st (by rfl) (S_new (v := .pointer (some ⟨w1.heap.size, 0, none⟩)) (ob := .cells #[.int .i64 (nO n), .int .i64 (nW n), .int .i64 (nA n), .int .i64 (nB n), .int .i64 (nC n), .int .u64 (nV n)] 32) (by kernel_rfl) fun w5 hT6 hs7 hB8 => ?_)
 replace hB8 : Blk w5 (w1.heap.size) 32 [.int .i64 (nO n), .int .i64 (nW n), .int .i64 (nA n), .int .i64 (nB n), .int .i64 (nC n), .int .u64 (nV n)] := hB8
 have hT0 := hT0.t0 hT6
 have hD := hD.tch0 hT6
 have hB4 := hB4.tch0 hT6
 have z15 := hT0.size
 have l16 := hB4.lt
 have l17 := hB8.lt
 refine st (by rfl) (S_new (v := .pointer (some ⟨w5.heap.size, 0, none⟩)) (ob := .cells #[.slice none 0 0, .int .i64 0] 27) (by kernel_rfl) fun w11 hT12 hs13 hB14 => ?_)
 replace hB14 : Blk w11 (w5.heap.size) 27 [.slice none 0 0, .int .i64 0] := hB14
 have hT0 := hT0.t0 hT12
 have hD := hD.tch0 hT12
 have hB4 := hB4.tch0 hT12
 have hB8 := hB8.tch0 hT12
 refine zS [(5, .int .i64 0), (6, .int .i64 0)] ?_
 refine op_nil ?_
 refine W_seq ?_
 refine zQ ?_
 refine zS [(7, .int .i64 0)] ?_
 refine op_nil ?_
 refine W_block ?_
 refine W_loop (fun m ρ w' => ∃ (i : Nat) (ρ0 : Env), ρ = updL ρ0 [(2, .pointer (some ⟨w.heap.size, 0, none⟩)), (3, .pointer (some ⟨w1.heap.size, 0, none⟩)), (4, .pointer (some ⟨w5.heap.size, 0, none⟩)), (5, .int .i64 0), (6, .int .i64 0), (7, .int .i64 ((i : Nat) : Int))] ∧ (i ≤ N.length) ∧ (∀ j, j < i → nth N j ≠ n) ∧ Tch N0 w w' ∧ Own w' 0 32 6 (.slice A N.length cp) N.length (ncs N) ∧ Blk w' (w.heap.size) 27 [.slice A N.length cp, .int .i64 most] ∧ Blk w' (w1.heap.size) 32 [.int .i64 (nO n), .int .i64 (nW n), .int .i64 (nA n), .int .i64 (nB n), .int .i64 (nC n), .int .u64 (nV n)] ∧ Blk w' (w5.heap.size) 27 [.slice none 0 0, .int .i64 0] ∧ m = N.length - i) (m := N.length - 0) ?_ ?_
 ·
  refine ⟨0, _, updL_self (by kernel_rfl), by omega, fun j h => by omega, hT0, hD, hB4, hB8, hB14, rfl⟩
 ·
  rintro m ρ w18 ⟨i, ρ, rfl, hi, hne, hT0, hD, hB4, hB8, hB14, rfl⟩
  refine W_seq ?_
  refine zQ ?_
  refine zS [(9, .int .i64 ((i : Nat) : Int)), (10, .pointer (some ⟨w.heap.size, 0, none⟩))] ?_
  refine zL (.slice A N.length cp) ((hB4.cell 0).trans rfl) ?_
  refine zS [(12, .int .i64 (N.length : Int)), (13, .bool (decide (((i : Nat) : Int) < (N.length : Int))))] ?_
  refine zO (decide (((i : Nat) : Int) < (N.length : Int))) (fun hc19 => ?_) (fun hc19 => ?_)
  ·
   replace hc19 : ((i : Nat) : Int) < (N.length : Int) := (of_decide_eq_true hc19)
   refine W_skip ?_
   refine W_seq ?_
   refine W_block ?_
   refine W_seq ?_
   refine W_still (by kernel_rfl) (by kernel_rfl) (by kernel_rfl) fun w20 hT21 hh22 => ?_
   have hT0 := hT0.t0 hT21
   have hD := hD.tch0 hT21
   have hB4 := hB4.tch0 hT21
   have hB8 := hB8.tch0 hT21
   have hB14 := hB14.tch0 hT21
   refine qsg [(16, .pointer (some ⟨w.heap.size, 0, none⟩))] (by kernel_rfl) ?_
   refine q_val (v := .slice A N.length cp) (by rfl) (R_load (v := .slice A N.length cp) (by kernel_rfl) (by kernel_rfl) ((hB4.cell 0).trans rfl)) ?_
   refine qsg [(18, .int .i64 ((i : Nat) : Int))] (by kernel_rfl) ?_
   refine q_val (v := ptrAt A (i * 6)) (by rfl) (R_indexRd (sz := 6) (len := N.length) (cap := cp) (k := .i64) (i := ((i : Nat) : Int)) (e := 32) i hD.rdS (by kernel_rfl) (by kernel_rfl) (by kernel_rfl) (by kernel_rfl) rfl (by omega)) ?_
   refine q_val (v := .agg #[.int .i64 (nO (nth N i)), .int .i64 (nW (nth N i)), .int .i64 (nA (nth N i)), .int .i64 (nB (nth N i)), .int .i64 (nC (nth N i)), .int .u64 (nV (nth N i))]) (by rfl) (R_loadRdA [.int .i64 (nO (nth N i)), .int .i64 (nW (nth N i)), .int .i64 (nA (nth N i)), .int .i64 (nB (nth N i)), .int .i64 (nC (nth N i)), .int .u64 (nV (nth N i))] hD.rdS (by omega) (by kernel_rfl) (by kernel_rfl) (by kernel_rfl) (ncs_part N (by omega))) ?_
   refine q_val (v := .agg #[.int .i64 (nO n), .int .i64 (nW n), .int .i64 (nA n), .int .i64 (nB n), .int .i64 (nC n), .int .u64 (nV n)]) (by rfl) (R_loadA [.int .i64 (nO n), .int .i64 (nW n), .int .i64 (nA n), .int .i64 (nB n), .int .i64 (nC n), .int .u64 (nV n)] (by kernel_rfl) (by kernel_rfl) (by kernel_rfl) (fun k u hk => by rw [hB8.cell]; exact get_part _ 0 _ k u rfl hk)) ?_
   refine q_val (v := .bool (decide (nth N i = n))) (by rfl) (R_eqNd (nth N i) n (by kernel_rfl) (by kernel_rfl) (hI.wf _ (nth_mem (by omega))) hwf) ?_
   refine q_nil ?_
   refine zW (decide (nth N i = n)) (fun hc23 => ?_) (fun hc23 => ?_)
   ·
    replace hc23 : nth N i = n := (of_decide_eq_true hc23)
    refine W_seq ?_
    refine zF [(2, .pointer (some ⟨w.heap.size, 0, none⟩)), (3, .pointer (some ⟨w1.heap.size, 0, none⟩)), (4, .pointer (some ⟨w5.heap.size, 0, none⟩)), (5, .int .i64 0), (6, .int .i64 0), (7, .int .i64 ((i : Nat) : Int)), (13, .bool (decide (((i : Nat) : Int) < (N.length : Int)))), (22, .bool (decide (nth N i = n)))] fun ρ => ?_
    refine zR ?_
    refine st (by rfl) (S_val (v := .agg #[.slice A N.length cp, .int .i64 most]) (R_loadA [.slice A N.length cp, .int .i64 most] (by kernel_rfl) (by kernel_rfl) (by kernel_rfl) (fun k u hk => by rw [hB4.cell]; exact get_part _ 0 _ k u rfl hk)) ?_)
    refine zS [(24, .int .i64 ((i : Nat) : Int))] ?_
    refine st (by rfl) (S_storeA (b := w5.heap.size) (j := 0) (cs := [.slice A N.length cp, .int .i64 most]) (by kernel_rfl) (by kernel_rfl) (by kernel_rfl) (by simp [oneV]) hB14 (by simp) fun w24 hT25 hs26 hB14' => ?_)
    have hT0 := (hT0).then hT25 (fun c e => by have : c = w5.heap.size := e; omega)
    have hD := hD.tch hT25 (fun c hc e => hD.blk_ne hB14 (by decide) c hc e)
    have hB4 := hB4.tch hT25 (fun e => by have : w.heap.size = w5.heap.size := e; omega)
    have hB8 := hB8.tch hT25 (hB8.ne hB14 (by decide))
    replace hB14 : Blk w24 w5.heap.size 27 [.slice A N.length cp, .int .i64 most] := hB14'
    refine zS [(5, .int .i64 ((i : Nat) : Int)), (6, .int .i64 0)] ?_
    refine op_nil ?_
    refine W_ret ?_
    refine ⟨_, Res_cell2 (b := w5.heap.size) (cs := [.slice A N.length cp, .int .i64 most]) (by rfl) (by kernel_rfl) (by kernel_rfl) (by kernel_rfl) (by kernel_rfl) hB14 (by kernel_rfl) (by kernel_rfl), ?_⟩
    rw [mk_in hI.nd (at_nth (i := i) (by omega) (by assumption))]
    exact ⟨A, cp, rfl, hD, fun c h => .inl h, hT0⟩
   ·
    replace hc23 : nth N i ≠ n := (of_decide_eq_false hc23)
    refine W_skip ?_
    refine zF [(2, .pointer (some ⟨w.heap.size, 0, none⟩)), (3, .pointer (some ⟨w1.heap.size, 0, none⟩)), (4, .pointer (some ⟨w5.heap.size, 0, none⟩)), (5, .int .i64 0), (6, .int .i64 0), (7, .int .i64 ((i : Nat) : Int)), (13, .bool (decide (((i : Nat) : Int) < (N.length : Int)))), (22, .bool (decide (nth N i = n)))] fun ρ => ?_
    refine zR ?_
    refine zS [(14, .int .i64 ((i : Nat) : Int)), (15, .int .i64 (IntKind.i64.wrap (((i : Nat) : Int) + 1)))] ?_
    rw [show IntKind.i64.wrap (((i : Nat) : Int) + 1) = ((i : Nat) : Int) + 1 from wrap_i64 (by omega) (by omega)]
    refine fixR (y := ((i + 1 : Nat) : Int)) (by omega) ?_
    refine zS [(7, .int .i64 ((i + 1 : Nat) : Int))] ?_
    refine op_nil ?_
    refine ⟨_, ?_, i + 1, _, updL_self (by kernel_rfl), ?_, ?_, hT0, hD, hB4, hB8, hB14, rfl⟩
    ·
     omega
    ·
     omega
    ·
     intro j hj; by_cases e : j = i; (subst e; assumption); exact hne j (by omega)
  ·
   replace hc19 : (N.length : Int) ≤ ((i : Nat) : Int) := (Int.not_lt.1 (of_decide_eq_false hc19))
   refine W_exit ?_
   refine X_hit ?_
   refine W_seq ?_
   refine zQ ?_
   refine zS [(25, .pointer (some ⟨w.heap.size, 0, none⟩))] ?_
   refine zL (.slice A N.length cp) ((hB4.cell 0).trans rfl) ?_
   refine zS [(27, .int .i64 (N.length : Int)), (28, .pointer (some ⟨w.heap.size, 1, none⟩))] ?_
   refine zL (.int .i64 most) ((hB4.cell 1).trans rfl) ?_
   refine zS [(30, .bool (decide ((N.length : Int) ≥ most)))] ?_
   refine zO (decide ((N.length : Int) ≥ most)) (fun hc27 => ?_) (fun hc27 => ?_)
   ·
    replace hc27 : most ≤ (N.length : Int) := (of_decide_eq_true hc27)
    refine W_seq ?_
    refine zF [(2, .pointer (some ⟨w.heap.size, 0, none⟩)), (3, .pointer (some ⟨w1.heap.size, 0, none⟩)), (4, .pointer (some ⟨w5.heap.size, 0, none⟩)), (5, .int .i64 0), (6, .int .i64 0), (7, .int .i64 ((i : Nat) : Int)), (13, .bool (decide (((i : Nat) : Int) < (N.length : Int)))), (30, .bool (decide ((N.length : Int) ≥ most)))] fun ρ => ?_
    refine zR ?_
    refine st (by rfl) (S_val (v := .agg #[.slice A N.length cp, .int .i64 most]) (R_loadA [.slice A N.length cp, .int .i64 most] (by kernel_rfl) (by kernel_rfl) (by kernel_rfl) (fun k u hk => by rw [hB4.cell]; exact get_part _ 0 _ k u rfl hk)) ?_)
    refine st (by rfl) (S_storeA (b := w5.heap.size) (j := 0) (cs := [.slice A N.length cp, .int .i64 most]) (by kernel_rfl) (by kernel_rfl) (by kernel_rfl) (by simp [oneV]) hB14 (by simp) fun w28 hT29 hs30 hB14' => ?_)
    have hT0 := (hT0).then hT29 (fun c e => by have : c = w5.heap.size := e; omega)
    have hD := hD.tch hT29 (fun c hc e => hD.blk_ne hB14 (by decide) c hc e)
    have hB4 := hB4.tch hT29 (fun e => by have : w.heap.size = w5.heap.size := e; omega)
    have hB8 := hB8.tch hT29 (hB8.ne hB14 (by decide))
    replace hB14 : Blk w28 w5.heap.size 27 [.slice A N.length cp, .int .i64 most] := hB14'
    refine zS [(5, .int .i64 0), (6, .int .i64 8)] ?_
    refine op_nil ?_
    refine W_ret ?_
    refine ⟨_, Res_cell2 (b := w5.heap.size) (cs := [.slice A N.length cp, .int .i64 most]) (by rfl) (by kernel_rfl) (by kernel_rfl) (by kernel_rfl) (by kernel_rfl) hB14 (by kernel_rfl) (by kernel_rfl), ?_⟩
    rw [mk_full (not_in (by omega) hne) (by omega)]
    exact ⟨A, cp, rfl, hD, fun c h => .inl h, hT0⟩
   ·
    replace hc27 : (N.length : Int) < most := (Int.not_le.1 (of_decide_eq_false hc27))
    refine W_skip ?_
    refine W_seq ?_
    refine zF [(2, .pointer (some ⟨w.heap.size, 0, none⟩)), (3, .pointer (some ⟨w1.heap.size, 0, none⟩)), (4, .pointer (some ⟨w5.heap.size, 0, none⟩)), (5, .int .i64 0), (6, .int .i64 0), (7, .int .i64 ((i : Nat) : Int)), (13, .bool (decide (((i : Nat) : Int) < (N.length : Int)))), (30, .bool (decide ((N.length : Int) ≥ most)))] fun ρ => ?_
    refine zR ?_
    refine zS [(8, .slice none 0 0)] ?_
    refine op_nil ?_
    refine zQ ?_
    refine zS [(32, .slice none 0 0), (33, .pointer (some ⟨w.heap.size, 0, none⟩))] ?_
    refine zL (.slice A N.length cp) ((hB4.cell 0).trans rfl) ?_
    have lRd := hD.lt
    have hzc := hT0.size
    refine st (by rfl) (S_copyR 25 32 (.agg #[.int .i64 0, .int .i64 0, .int .i64 0, .int .i64 0, .int .i64 0, .int .u64 0]) 6 48 (m := N.length) (A := A) (cp := cp) (cells := ncs N) (by kernel_rfl) (by kernel_rfl) (by decide) (by kernel_rfl) (by kernel_rfl) (by kernel_rfl) hD (ncs_oneV N) (by simp only [maxLen]; omega) (by omega) fun A2 cp2 w31 hC hCn hT32 => ?_)
    have hT0 := hT0.t0 hT32
    have hD := hD.tch0 hT32
    have hB4 := hB4.tch0 hT32
    have hB8 := hB8.tch0 hT32
    have hB14 := hB14.tch0 hT32
    have nB_hC : ∀ c, (Value.slice A2 N.length cp2).ownBlock = some c → w.heap.size ≤ c := fun c hc => by have := hCn c hc; omega
    have dj_hD_hC : ∀ c, (Value.slice A N.length cp).ownBlock = some c → (Value.slice A2 N.length cp2).ownBlock = some c → False := fun c h1 h2 => by have := lRd c h1; have := hCn c h2; omega
    refine zS [(8, .slice A2 N.length cp2)] ?_
    refine op_nil ?_
    refine zQ ?_
    refine zS [(36, .slice A2 N.length cp2)] ?_
    refine st (by rfl) (S_val (v := .agg #[.int .i64 (nO n), .int .i64 (nW n), .int .i64 (nA n), .int .i64 (nB n), .int .i64 (nC n), .int .u64 (nV n)]) (R_loadA [.int .i64 (nO n), .int .i64 (nW n), .int .i64 (nA n), .int .i64 (nB n), .int .i64 (nC n), .int .u64 (nV n)] (by kernel_rfl) (by kernel_rfl) (by kernel_rfl) (fun k u hk => by rw [hB8.cell]; exact get_part _ 0 _ k u rfl hk)) ?_)
    have z37 := hT0.size
    have l38 := hB4.lt
    have l39 := hB8.lt
    have l40 := hB14.lt
    refine st (by rfl) (S_new (v := .slice (some ⟨w31.heap.size, 0, none⟩) 1 1) (ob := .cells #[.int .i64 (nO n), .int .i64 (nW n), .int .i64 (nA n), .int .i64 (nB n), .int .i64 (nC n), .int .u64 (nV n)] 32) (by kernel_rfl) fun w33 hT34 hs35 hB36 => ?_)
    replace hB36 : Blk w33 (w31.heap.size) 32 [.int .i64 (nO n), .int .i64 (nW n), .int .i64 (nA n), .int .i64 (nB n), .int .i64 (nC n), .int .u64 (nV n)] := hB36
    have hT0 := hT0.t0 hT34
    have hD := hD.tch0 hT34
    have hB4 := hB4.tch0 hT34
    have hB8 := hB8.tch0 hT34
    have hB14 := hB14.tch0 hT34
    have hC := hC.tch0 hT34
    have hz_ := hT0.size
    have lR_hD := hD.lt
    have lR_hC := hC.lt
    refine st (by rfl) (S_appendR 25 32 (.agg #[.int .i64 0, .int .i64 0, .int .i64 0, .int .i64 0, .int .i64 0, .int .u64 0]) 6 48 (n := N.length) (m := 1) (A := A2) (cp := cp2) (cells := ncs N) (news := [.int .i64 (nO n), .int .i64 (nW n), .int .i64 (nA n), .int .i64 (nB n), .int .i64 (nC n), .int .u64 (nV n)]) (b := w31.heap.size) (off := 0) (c := 1) (by kernel_rfl) (by kernel_rfl) (by decide) (by kernel_rfl) (by kernel_rfl) (by kernel_rfl) hC (by rfl) (fun k u hk => by rw [Nat.zero_add, hB36.cell]; exact hk) (by simp [oneV]) (by simp only [maxLen]; omega) (by omega) fun A41 cp42 w43 hO44 hw45 hT46 => ?_)
    have hT0 := (hT0).then hT46 nB_hC
    have hD := hD.tch hT46 (fun c hc e => dj_hD_hC c hc e)
    have hB4 := hB4.tch hT46 (fun e => hC.blk_ne hB4 (by decide) _ e rfl)
    have hB14 := hB14.tch hT46 (fun e => hC.blk_ne hB14 (by decide) _ e rfl)
    have hC : Own w43 0 32 6 (.slice A41 (N.length + 1) cp42) (N.length + 1) (ncs N ++ [.int .i64 (nO n), .int .i64 (nW n), .int .i64 (nA n), .int .i64 (nB n), .int .i64 (nC n), .int .u64 (nV n)]) := hO44
    have nB_hC : ∀ c, (Value.slice A41 (N.length + 1) cp42).ownBlock = some c → w.heap.size ≤ c := fun c hc => (hw45 c hc).elim (nB_hC c) (fun q => by omega)
    have dj_hD_hC : ∀ c, (Value.slice A (N.length) cp).ownBlock = some c → (Value.slice A41 (N.length + 1) cp42).ownBlock = some c → False := fun c h1 h2 => (hw45 c h2).elim (fun q => dj_hD_hC c h1 q) (fun q => by have := lR_hD c h1; omega)
    refine zS [(8, .slice A41 (N.length + 1) cp42)] ?_
    refine op_nil ?_
    refine W_seq ?_
    refine zF [(2, .pointer (some ⟨w.heap.size, 0, none⟩)), (3, .pointer (some ⟨w1.heap.size, 0, none⟩)), (4, .pointer (some ⟨w5.heap.size, 0, none⟩)), (5, .int .i64 0), (6, .int .i64 0), (7, .int .i64 ((i : Nat) : Int)), (8, .slice A41 (N.length + 1) cp42), (13, .bool (decide (((i : Nat) : Int) < (N.length : Int)))), (30, .bool (decide ((N.length : Int) ≥ most)))] fun ρ => ?_
    refine zR ?_
    refine zS [(40, .slice A41 (N.length + 1) cp42), (41, .pointer (some ⟨w.heap.size, 0, none⟩))] ?_
    refine st (by rfl) (S_store (b := w.heap.size) (j := 0) (v := .slice A41 (N.length + 1) cp42) (by kernel_rfl) (by kernel_rfl) (by kernel_rfl) (by rfl) hB4 (by simp) fun w47 hT48 hs49 hB4' => ?_)
    have hT0 := (hT0).then hT48 (fun c e => by have : c = w.heap.size := e; omega)
    have hD := hD.tch hT48 (fun c hc e => hD.blk_ne hB4 (by decide) c hc e)
    have hB14 := hB14.tch hT48 (fun e => by have : w5.heap.size = w.heap.size := e; omega)
    have hC := hC.tch hT48 (fun c hc e => hC.blk_ne hB4 (by decide) c hc e)
    replace hB4 : Blk w47 w.heap.size 27 [.slice A41 (N.length + 1) cp42, .int .i64 most] := hB4'
    refine op_nil ?_
    refine W_seq ?_
    refine W_draw (fun w' => Blk w' (w.heap.size) 27 [.slice A41 (N.length + 1) cp42, .int .i64 most]) (by kernel_rfl) (by kernel_rfl) (by kernel_rfl) fun w50 hT51 hh52 => ?_
    have hT0 := hT0.t0 hT51
    have hD := hD.tch0 hT51
    have hB4 := hB4.tch0 hT51
    have hB14 := hB14.tch0 hT51
    have hC := hC.tch0 hT51
    refine zK [1] #[false, true, false, false, false, false, false, false] [(43, .pointer (some ⟨w.heap.size, 0, none⟩))] hB4 ?_
    refine zV 0 rfl (.agg #[.slice A41 (N.length + 1) cp42, .int .i64 most]) (fun _ hB4 => R_loadA [.slice A41 (N.length + 1) cp42, .int .i64 most] (by kernel_rfl) (by kernel_rfl) (by kernel_rfl) (fun k u hk => by rw [hB4.cell]; exact get_part _ 0 _ k u rfl hk)) hB4 ?_
    refine zV 2 rfl (.slice A41 (N.length + 1) cp42) (fun _ hB4 => R_load (v := .slice A41 (N.length + 1) cp42) (by kernel_rfl) (by kernel_rfl) ((hB4.cell 0).trans rfl)) hB4 ?_
    refine zK [3] #[true, true, true, true, false, false, false, false] [(45, .int .i64 (N.length + 1 : Int))] hB4 ?_
    refine d_two 4 5 (by kernel_rfl) (by rfl) (by rfl) (by kernel_rfl) (by kernel_rfl) ?_ ?_
    ·
     refine (S_val (v := .int .i64 (IntKind.i64.wrap ((N.length + 1 : Int) - 1))) (plainV_run (by kernel_rfl) _) ?_)
     refine ⟨hB4, ?_⟩
     rw [show IntKind.i64.wrap ((N.length + 1 : Int) - 1) = (N.length + 1 : Int) - 1 from wrap_i64 (by omega) (by omega)]
     rw [show ((N.length + 1 : Int) - 1 : Int) = (N.length : Int) from (by omega)]
     refine zD 5 rfl (S_storeA (b := w5.heap.size) (j := 0) (cs := [.slice A41 (N.length + 1) cp42, .int .i64 most]) (by kernel_rfl) (by kernel_rfl) (by kernel_rfl) (by simp [oneV]) hB14 (by simp) fun w53 hT54 hs55 hB14' => ?_)
     have hT0 := (hT0).then hT54 (fun c e => by have : c = w5.heap.size := e; omega)
     have hD := hD.tch hT54 (fun c hc e => hD.blk_ne hB14 (by decide) c hc e)
     have hB4 := hB4.tch hT54 (fun e => by have : w.heap.size = w5.heap.size := e; omega)
     have hC := hC.tch hT54 (fun c hc e => hC.blk_ne hB14 (by decide) c hc e)
     replace hB14 : Blk w53 w5.heap.size 27 [.slice A41 (N.length + 1) cp42, .int .i64 most] := hB14'
     refine ⟨hB4, ?_⟩
     refine zK [6, 7] #[true, true, true, true, true, true, true, true] [(5, .int .i64 (N.length : Int)), (6, .int .i64 0)] hB4 ?_
     refine d_done (by kernel_rfl) ?_
     refine W_ret ?_
     refine ⟨_, Res_cell2 (b := w5.heap.size) (cs := [.slice A41 (N.length + 1) cp42, .int .i64 most]) (by rfl) (by kernel_rfl) (by kernel_rfl) (by kernel_rfl) (by kernel_rfl) hB14 (by kernel_rfl) (by kernel_rfl), ?_⟩
     rw [mk_new (not_in (by omega) hne) (by omega)]
     refine ⟨A41, cp42, ?_, ?_, ?_, hT0⟩
     ·
      rw [List.length_append]; rfl
     ·
      rw [List.length_append, ncs_app]; exact hC
     ·
      rw [List.length_append]; exact fun c h => .inr (nB_hC c h)
    ·
     refine (S_storeA (b := w5.heap.size) (j := 0) (cs := [.slice A41 (N.length + 1) cp42, .int .i64 most]) (by kernel_rfl) (by kernel_rfl) (by kernel_rfl) (by simp [oneV]) hB14 (by simp) fun w56 hT57 hs58 hB14' => ?_)
     have hT0 := (hT0).then hT57 (fun c e => by have : c = w5.heap.size := e; omega)
     have hD := hD.tch hT57 (fun c hc e => hD.blk_ne hB14 (by decide) c hc e)
     have hB4 := hB4.tch hT57 (fun e => by have : w.heap.size = w5.heap.size := e; omega)
     have hC := hC.tch hT57 (fun c hc e => hC.blk_ne hB14 (by decide) c hc e)
     replace hB14 : Blk w56 w5.heap.size 27 [.slice A41 (N.length + 1) cp42, .int .i64 most] := hB14'
     refine ⟨hB4, ?_⟩
     refine zK [4] #[true, true, true, true, true, true, false, false] [(46, .int .i64 (IntKind.i64.wrap ((N.length + 1 : Int) - 1)))] hB4 ?_
     rw [show IntKind.i64.wrap ((N.length + 1 : Int) - 1) = (N.length + 1 : Int) - 1 from wrap_i64 (by omega) (by omega)]
     refine fixD (y := (N.length : Int)) (by omega) ?_
     refine zK [6, 7] #[true, true, true, true, true, true, true, true] [(5, .int .i64 (N.length : Int)), (6, .int .i64 0)] hB4 ?_
     refine d_done (by kernel_rfl) ?_
     refine W_ret ?_
     refine ⟨_, Res_cell2 (b := w5.heap.size) (cs := [.slice A41 (N.length + 1) cp42, .int .i64 most]) (by rfl) (by kernel_rfl) (by kernel_rfl) (by kernel_rfl) (by kernel_rfl) hB14 (by kernel_rfl) (by kernel_rfl), ?_⟩
     rw [mk_new (not_in (by omega) hne) (by omega)]
     refine ⟨A41, cp42, ?_, ?_, ?_, hT0⟩
     ·
      rw [List.length_append]; rfl
     ·
      rw [List.length_append, ncs_app]; exact hC
     ·
      rw [List.length_append]; exact fun c h => .inr (nB_hC c h)

end Go.Proofs.YtlbadnpgmkobdaaV
