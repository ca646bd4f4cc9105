/- Texts laid together: Walks of functions of the program and of the document's texts. The conditions stand with each theorem. Walks of functions of the program and of the document's texts. The conditions stand with each theorem. Whether two nodes are the same. Walks of functions of the program and of the document's texts. The conditions stand with each theorem. Walks of functions of the program and of the document's texts. The conditions stand with each theorem. Terms, asked for twice; and each made of ones ahead of it: plain. A row is copied behind none. -/
import Derived.Test.YtlbadnpgmkobdaaJTterm4x1
import Derived.Test.YtlbadnpgmkobdaaProg
import Derived.Test.YtlbadnpgmkobdaaJTterm4x2
set_option linter.unusedVariables false
set_option linter.unusedSimpArgs false
namespace Go.Proofs.YtlbadnpgmkobdaaV
open Go Go.RowKit Go.Proofs

set_option maxRecDepth 100000 in
theorem una_ok (F : Nat → Prop) (p : Nat) (most : Int) (N : List Nd) (o : Int) (a : Int) (w : World) (hO : TObj F w p most N) (ho : b64 o) (ha : b64 a) : Ret Try.prog 41 [.pointer (some ⟨p, 0, none⟩), .int .i64 o, .int .i64 a] w fun v w' => TRet F p most w (unaF N most o a) v w' := by
 obtain ⟨hL, hJ⟩ := id hO
 have hMv := Mv.refl F w
 have hlen := hJ.ti.len
 have hmost := hJ.ti.most
 have hu_o := ho; unfold b64 at hu_o
 have hu_a := ha; unfold b64 at hu_a
 refine enter Try.func41 rfl rfl ?_
 refine zQ ?_
 refine zS [(6, .int .i64 0), (7, .int .i64 0)] ?_
 refine op_nil ?_
 refine W_seq ?_
 refine W_block ?_
 refine zQ ?_
 refine zS [(9, .pointer (some ⟨p, 0, none⟩)), (10, .bool false), (8, .bool false)] ?_
 refine zO false (fun h => nomatch h) (fun _ => ?_)
 refine zQ ?_
 refine zS [(12, .int .i64 o), (13, .bool (o != 15)), (14, .bool (o != 15))] ?_
 cases hb1 : o != 15
 ·
  replace hb1 : o = 15 := (bne_eq_false_iff_eq.1 hb1)
  refine zS [(15, undef), (16, undef), (17, .bool false), (11, .bool false)] ?_
  refine zO false (fun h => nomatch h) (fun _ => ?_)
  refine W_seq ?_
  refine zF [(0, .pointer (some ⟨p, 0, none⟩)), (1, .int .i64 o), (2, .int .i64 a), (6, .int .i64 0), (7, .int .i64 0), (8, .bool false), (11, .bool false)] fun ρ => ?_
  refine zR ?_
  refine zS [(19, .pointer (some ⟨p, 0, none⟩)), (20, .int .i64 a)] ?_
  have hlt_ := hL.lt
  have hz6 := hMv.1.size
  refine st (by rfl) (S_new (v := .slice (some ⟨w.heap.size, 0, none⟩) 1 1) (ob := .cells #[.int .i64 a] 3) (by kernel_rfl) fun w2 hT3 hs4 hB5 => ?_)
  replace hB5 : Blk w2 (w.heap.size) 3 [.int .i64 a] := hB5
  have hL := hL.tch0 hT3
  have hMv := hMv.then0 hT3
  have nF_hB5 : ¬ F (w.heap.size) := fun e => by have := hlt_ _ e; omega
  refine zC (none_ok F p most N (wdR N) (w.heap.size) 1 [a] _ hL (by omega) (show Blk _ _ 3 (ints .i64 [a]) from hB5) rfl (by omega)) ?_
  rintro _ w7 ⟨rfl, hT8⟩
  have hL := hL.tch0 hT8
  have hMv := hMv.then0 hT8
  have hB5 := hB5.tch0 hT8
  refine zS [(18, .bool (badT N.length [a]))] ?_
  refine zO (badT N.length [a]) (fun hc9 => ?_) (fun hc9 => ?_)
  ·
   replace hc9 : badT N.length [a] = true := (hc9)
   refine zQ ?_
   refine zS [(6, .int .i64 0), (7, .int .i64 11)] ?_
   refine op_nil ?_
   refine W_ret ?_
   refine ⟨_, Res_of (v := .tuple #[.int .i64 0, .int .i64 11]) (by kernel_rfl), ?_⟩
   have e : unaF N most o a = (0, 11, N) := by unfold unaF; rw [if_neg (by first | omega | assumption | exact nb (by assumption)), if_pos (by first | omega | assumption | exact nb (by assumption))]
   rw [e]
   unfold TRet
   exact ⟨rfl, F, ⟨hL, hJ⟩, hMv⟩
  ·
   replace hc9 : badT N.length [a] = false := (hc9)
   obtain ⟨q0, r0⟩ := bad1f.1 hc9
   have wd0 := hJ.wid q0 r0
   refine W_skip ?_
   refine zQ ?_
   refine zS [(23, .pointer (some ⟨p, 0, none⟩)), (24, .int .i64 o), (25, .pointer (some ⟨p, 0, none⟩)), (26, .int .i64 a)] ?_
   refine zC (width_ok F p most N (wdR N) a _ hL (by omega)) ?_
   rintro _ w10 ⟨rfl, hT11⟩
   have hL := hL.tch0 hT11
   have hMv := hMv.then0 hT11
   have hB5 := hB5.tch0 hT11
   refine zS [(28, .int .i64 a), (29, .agg #[.int .i64 o, .int .i64 (widF N a), .int .i64 a, .int .i64 0, .int .i64 0, .int .u64 0])] ?_
   have lt15 := hB5.lt
   have hwf : nwf (o, widF N a, a, 0, 0, 0) := nwf_of (by unfold b64 at *; omega) (by unfold b64 at *; omega) (by unfold b64 at *; omega) (by unfold b64 at *; omega) (by unfold b64 at *; omega) (by unfold u64; omega)
   refine zC (make_ok F p most N (wdR N) (o, widF N a, a, 0, 0, 0) _ hL hJ.ti hwf) ?_
   rintro _ w12 ⟨rfl, F13, hL, hm14⟩
   have hMv := hMv.trans hm14
   have hB5 := hB5.tch hm14.1 nF_hB5
   refine zS [(31, .int .i64 ((mk N most (o, widF N a, a, 0, 0, 0)).1)), (32, .int .i64 ((mk N most (o, widF N a, a, 0, 0, 0)).2.1)), (6, .int .i64 ((mk N most (o, widF N a, a, 0, 0, 0)).1)), (7, .int .i64 ((mk N most (o, widF N a, a, 0, 0, 0)).2.1))] ?_
   refine op_nil ?_
   refine W_ret ?_
   refine ⟨_, Res_of (v := .tuple #[.int .i64 ((mk N most (o, widF N a, a, 0, 0, 0)).1), .int .i64 ((mk N most (o, widF N a, a, 0, 0, 0)).2.1)]) (by kernel_rfl), ?_⟩
   have e : unaF N most o a = mk N most (o, widF N a, a, 0, 0, 0) := by unfold unaF; rw [if_neg (by first | omega | assumption | exact nb (by assumption)), if_neg (by first | omega | assumption | exact nb (by assumption))]
   rw [e]
   unfold TRet
   exact ⟨rfl, _, ⟨hL.congr (wdR_mk (by show (o : Int) ≠ 21; omega)), mk_TJ hJ hwf (by show 1 ≤ (widF N a : Int) ∧ (widF N a : Int) ≤ 64; omega) (fun e => absurd e (by show (o : Int) ≠ 21; omega))⟩, hMv⟩
 ·
  replace hb1 : o ≠ 15 := (bne_iff_ne.1 hb1)
  refine zS [(15, .int .i64 o), (16, .bool (o != 16)), (17, .bool (o != 16)), (11, .bool (o != 16))] ?_
  refine zO (o != 16) (fun hc16 => ?_) (fun hc16 => ?_)
  ·
   replace hc16 : o ≠ 16 := (bne_iff_ne.1 hc16)
   refine W_seq ?_
   refine zF [(0, .pointer (some ⟨p, 0, none⟩)), (1, .int .i64 o), (2, .int .i64 a), (6, .int .i64 0), (7, .int .i64 0), (8, .bool false), (11, .bool (o != 16))] fun ρ => ?_
   refine zR ?_
   refine zS [(6, .int .i64 0), (7, .int .i64 3)] ?_
   refine op_nil ?_
   refine W_ret ?_
   refine ⟨_, Res_of (v := .tuple #[.int .i64 0, .int .i64 3]) (by kernel_rfl), ?_⟩
   have e : unaF N most o a = (0, 3, N) := by unfold unaF; rw [if_pos (by first | omega | assumption | exact nb (by assumption))]
   rw [e]
   unfold TRet
   exact ⟨rfl, F, ⟨hL, hJ⟩, hMv⟩
  ·
   replace hc16 : o = 16 := (bne_eq_false_iff_eq.1 hc16)
   refine W_seq ?_
   refine zF [(0, .pointer (some ⟨p, 0, none⟩)), (1, .int .i64 o), (2, .int .i64 a), (6, .int .i64 0), (7, .int .i64 0), (8, .bool false), (11, .bool (o != 16))] fun ρ => ?_
   refine zR ?_
   refine zS [(19, .pointer (some ⟨p, 0, none⟩)), (20, .int .i64 a)] ?_
   have hlt_ := hL.lt
   have hz21 := hMv.1.size
   refine st (by rfl) (S_new (v := .slice (some ⟨w.heap.size, 0, none⟩) 1 1) (ob := .cells #[.int .i64 a] 3) (by kernel_rfl) fun w17 hT18 hs19 hB20 => ?_)
   replace hB20 : Blk w17 (w.heap.size) 3 [.int .i64 a] := hB20
   have hL := hL.tch0 hT18
   have hMv := hMv.then0 hT18
   have nF_hB20 : ¬ F (w.heap.size) := fun e => by have := hlt_ _ e; omega
   refine zC (none_ok F p most N (wdR N) (w.heap.size) 1 [a] _ hL (by omega) (show Blk _ _ 3 (ints .i64 [a]) from hB20) rfl (by omega)) ?_
   rintro _ w22 ⟨rfl, hT23⟩
   have hL := hL.tch0 hT23
   have hMv := hMv.then0 hT23
   have hB20 := hB20.tch0 hT23
   refine zS [(18, .bool (badT N.length [a]))] ?_
   refine zO (badT N.length [a]) (fun hc24 => ?_) (fun hc24 => ?_)
   ·
    replace hc24 : badT N.length [a] = true := (hc24)
    refine zQ ?_
    refine zS [(6, .int .i64 0), (7, .int .i64 11)] ?_
    refine op_nil ?_
    refine W_ret ?_
    refine ⟨_, Res_of (v := .tuple #[.int .i64 0, .int .i64 11]) (by kernel_rfl), ?_⟩
    have e : unaF N most o a = (0, 11, N) := by unfold unaF; rw [if_neg (by first | omega | assumption | exact nb (by assumption)), if_pos (by first | omega | assumption | exact nb (by assumption))]
    rw [e]
    unfold TRet
    exact ⟨rfl, F, ⟨hL, hJ⟩, hMv⟩
   ·
    replace hc24 : badT N.length [a] = false := (hc24)
    obtain ⟨q0, r0⟩ := bad1f.1 hc24
    have wd0 := hJ.wid q0 r0
    refine W_skip ?_
    refine zQ ?_
    refine zS [(23, .pointer (some ⟨p, 0, none⟩)), (24, .int .i64 o), (25, .pointer (some ⟨p, 0, none⟩)), (26, .int .i64 a)] ?_
    refine zC (width_ok F p most N (wdR N) a _ hL (by omega)) ?_
    rintro _ w25 ⟨rfl, hT26⟩
    have hL := hL.tch0 hT26
    have hMv := hMv.then0 hT26
    have hB20 := hB20.tch0 hT26
    refine zS [(28, .int .i64 a), (29, .agg #[.int .i64 o, .int .i64 (widF N a), .int .i64 a, .int .i64 0, .int .i64 0, .int .u64 0])] ?_
    have lt30 := hB20.lt
    have hwf : nwf (o, widF N a, a, 0, 0, 0) := nwf_of (by unfold b64 at *; omega) (by unfold b64 at *; omega) (by unfold b64 at *; omega) (by unfold b64 at *; omega) (by unfold b64 at *; omega) (by unfold u64; omega)
    refine zC (make_ok F p most N (wdR N) (o, widF N a, a, 0, 0, 0) _ hL hJ.ti hwf) ?_
    rintro _ w27 ⟨rfl, F28, hL, hm29⟩
    have hMv := hMv.trans hm29
    have hB20 := hB20.tch hm29.1 nF_hB20
    refine zS [(31, .int .i64 ((mk N most (o, widF N a, a, 0, 0, 0)).1)), (32, .int .i64 ((mk N most (o, widF N a, a, 0, 0, 0)).2.1)), (6, .int .i64 ((mk N most (o, widF N a, a, 0, 0, 0)).1)), (7, .int .i64 ((mk N most (o, widF N a, a, 0, 0, 0)).2.1))] ?_
    refine op_nil ?_
    refine W_ret ?_
    refine ⟨_, Res_of (v := .tuple #[.int .i64 ((mk N most (o, widF N a, a, 0, 0, 0)).1), .int .i64 ((mk N most (o, widF N a, a, 0, 0, 0)).2.1)]) (by kernel_rfl), ?_⟩
    have e : unaF N most o a = mk N most (o, widF N a, a, 0, 0, 0) := by unfold unaF; rw [if_neg (by first | omega | assumption | exact nb (by assumption)), if_neg (by first | omega | assumption | exact nb (by assumption))]
    rw [e]
    unfold TRet
    exact ⟨rfl, _, ⟨hL.congr (wdR_mk (by show (o : Int) ≠ 21; omega)), mk_TJ hJ hwf (by show 1 ≤ (widF N a : Int) ∧ (widF N a : Int) ≤ 64; omega) (fun e => absurd e (by show (o : Int) ≠ 21; omega))⟩, hMv⟩

set_option maxRecDepth 100000 in
theorem bin_ok (F : Nat → Prop) (p : Nat) (most : Int) (N : List Nd) (o : Int) (a : Int) (b : Int) (w : World) (hO : TObj F w p most N) (ho : b64 o) (ha : b64 a) (hb : b64 b) : Ret Try.prog 36 [.pointer (some ⟨p, 0, none⟩), .int .i64 o, .int .i64 a, .int .i64 b] w fun v w' => TRet F p most w (binF N most o a b) v w' := by
 obtain ⟨hL, hJ⟩ := id hO
 have hMv := Mv.refl F w
 have hlen := hJ.ti.len
 have hmost := hJ.ti.most
 have hu_o := ho; unfold b64 at hu_o
 have hu_a := ha; unfold b64 at hu_a
 have hu_b := hb; unfold b64 at hu_b
 refine enter Try.func36 rfl rfl ?_
 refine zQ ?_
 refine zS [(8, .int .i64 0), (9, .int .i64 0)] ?_
 refine op_nil ?_
 refine W_seq ?_
 refine W_block ?_
 refine zQ ?_
 refine zS [(12, .pointer (some ⟨p, 0, none⟩)), (13, .bool false), (11, .bool false)] ?_
 refine zO false (fun h => nomatch h) (fun _ => ?_)
 refine zQ ?_
 refine zS [(15, .int .i64 o), (16, .bool (decide (o < 1))), (17, .bool (decide (o < 1)))] ?_
 cases hb1 : decide (o < 1)
 ·
  replace hb1 : 1 ≤ o := (Int.not_lt.1 (of_decide_eq_false hb1))
  refine zS [(18, .int .i64 o), (19, .bool (decide (o > 14))), (20, .bool (decide (o > 14))), (14, .bool (decide (o > 14)))] ?_
  refine zO (decide (o > 14)) (fun hc2 => ?_) (fun hc2 => ?_)
  ·
   replace hc2 : 14 < o := (of_decide_eq_true hc2)
   refine W_seq ?_
   refine zF [(0, .pointer (some ⟨p, 0, none⟩)), (1, .int .i64 o), (2, .int .i64 a), (3, .int .i64 b), (8, .int .i64 0), (9, .int .i64 0), (11, .bool false), (14, .bool (decide (o > 14)))] fun ρ => ?_
   refine zR ?_
   refine zS [(8, .int .i64 0), (9, .int .i64 3)] ?_
   refine op_nil ?_
   refine W_ret ?_
   refine ⟨_, Res_of (v := .tuple #[.int .i64 0, .int .i64 3]) (by kernel_rfl), ?_⟩
   have e : binF N most o a b = (0, 3, N) := by unfold binF; rw [if_pos (by first | omega | assumption | exact nb (by assumption))]
   rw [e]
   unfold TRet
   exact ⟨rfl, F, ⟨hL, hJ⟩, hMv⟩
  ·
   replace hc2 : o ≤ 14 := (Int.not_lt.1 (of_decide_eq_false hc2))
   refine W_seq ?_
   refine zF [(0, .pointer (some ⟨p, 0, none⟩)), (1, .int .i64 o), (2, .int .i64 a), (3, .int .i64 b), (8, .int .i64 0), (9, .int .i64 0), (11, .bool false), (14, .bool (decide (o > 14)))] fun ρ => ?_
   refine zR ?_
   refine zS [(22, .pointer (some ⟨p, 0, none⟩)), (23, .int .i64 a), (24, .int .i64 b)] ?_
   have hlt_ := hL.lt
   have hz7 := hMv.1.size
   refine st (by rfl) (S_new (v := .slice (some ⟨w.heap.size, 0, none⟩) 2 2) (ob := .cells #[.int .i64 a, .int .i64 b] 3) (by kernel_rfl) fun w3 hT4 hs5 hB6 => ?_)
   replace hB6 : Blk w3 (w.heap.size) 3 [.int .i64 a, .int .i64 b] := hB6
   have hL := hL.tch0 hT4
   have hMv := hMv.then0 hT4
   have nF_hB6 : ¬ F (w.heap.size) := fun e => by have := hlt_ _ e; omega
   refine zC (none_ok F p most N (wdR N) (w.heap.size) 2 [a, b] _ hL (by omega) (show Blk _ _ 3 (ints .i64 [a, b]) from hB6) rfl (by omega)) ?_
   rintro _ w8 ⟨rfl, hT9⟩
   have hL := hL.tch0 hT9
   have hMv := hMv.then0 hT9
   have hB6 := hB6.tch0 hT9
   refine zS [(21, .bool (badT N.length [a, b]))] ?_
   refine zO (badT N.length [a, b]) (fun hc10 => ?_) (fun hc10 => ?_)
   ·
    replace hc10 : badT N.length [a, b] = true := (hc10)
    refine zQ ?_
    refine zS [(8, .int .i64 0), (9, .int .i64 11)] ?_
    refine op_nil ?_
    refine W_ret ?_
    refine ⟨_, Res_of (v := .tuple #[.int .i64 0, .int .i64 11]) (by kernel_rfl), ?_⟩
    have e : binF N most o a b = (0, 11, N) := by unfold binF; rw [if_neg (by first | omega | assumption | exact nb (by assumption)), if_pos (by first | omega | assumption | exact nb (by assumption))]
    rw [e]
    unfold TRet
    exact ⟨rfl, F, ⟨hL, hJ⟩, hMv⟩
   ·
    replace hc10 : badT N.length [a, b] = false := (hc10)
    obtain ⟨⟨q0, r0⟩, q1, r1⟩ := bad2f.1 hc10
    have wd0 := hJ.wid q0 r0
    have wd1 := hJ.wid q1 r1
    refine zQ ?_
    refine zS [(28, .pointer (some ⟨p, 0, none⟩)), (29, .int .i64 a)] ?_
    refine zC (width_ok F p most N (wdR N) a _ hL (by omega)) ?_
    rintro _ w11 ⟨rfl, hT12⟩
    have hL := hL.tch0 hT12
    have hMv := hMv.then0 hT12
    have hB6 := hB6.tch0 hT12
    refine zS [(31, .pointer (some ⟨p, 0, none⟩)), (32, .int .i64 b)] ?_
    refine zC (width_ok F p most N (wdR N) b _ hL (by omega)) ?_
    rintro _ w13 ⟨rfl, hT14⟩
    have hL := hL.tch0 hT14
    have hMv := hMv.then0 hT14
    have hB6 := hB6.tch0 hT14
    refine zS [(34, .bool ((widF N a) != (widF N b))), (27, .bool ((widF N a) != (widF N b)))] ?_
    refine zO ((widF N a) != (widF N b)) (fun hc15 => ?_) (fun hc15 => ?_)
    ·
     replace hc15 : widF N a ≠ widF N b := (bne_iff_ne.1 hc15)
     refine W_seq ?_
     refine zF [(0, .pointer (some ⟨p, 0, none⟩)), (1, .int .i64 o), (2, .int .i64 a), (3, .int .i64 b), (8, .int .i64 0), (9, .int .i64 0), (11, .bool false), (14, .bool (decide (o > 14))), (21, .bool (badT N.length [a, b])), (27, .bool ((widF N a) != (widF N b)))] fun ρ => ?_
     refine zR ?_
     refine zS [(8, .int .i64 0), (9, .int .i64 2)] ?_
     refine op_nil ?_
     refine W_ret ?_
     refine ⟨_, Res_of (v := .tuple #[.int .i64 0, .int .i64 2]) (by kernel_rfl), ?_⟩
     have e : binF N most o a b = (0, 2, N) := by unfold binF; rw [if_neg (by first | omega | assumption | exact nb (by assumption)), if_neg (by first | omega | assumption | exact nb (by assumption)), if_pos (by first | omega | assumption | exact nb (by assumption))]
     rw [e]
     unfold TRet
     exact ⟨rfl, F, ⟨hL, hJ⟩, hMv⟩
    ·
     replace hc15 : widF N a = widF N b := (bne_eq_false_iff_eq.1 hc15)
     refine W_skip ?_
     refine W_seq ?_
     refine zF [(0, .pointer (some ⟨p, 0, none⟩)), (1, .int .i64 o), (2, .int .i64 a), (3, .int .i64 b), (8, .int .i64 0), (9, .int .i64 0), (11, .bool false), (14, .bool (decide (o > 14))), (21, .bool (badT N.length [a, b])), (27, .bool ((widF N a) != (widF N b)))] fun ρ => ?_
     refine zR ?_
     refine zS [(35, .pointer (some ⟨p, 0, none⟩)), (36, .int .i64 a)] ?_
     refine zC (width_ok F p most N (wdR N) a _ hL (by omega)) ?_
     rintro _ w16 ⟨rfl, hT17⟩
     have hL := hL.tch0 hT17
     have hMv := hMv.then0 hT17
     have hB6 := hB6.tch0 hT17
     refine zS [(10, .int .i64 (widF N a))] ?_
     refine op_nil ?_
     refine W_seq ?_
     refine zQ ?_
     refine zS [(38, .int .i64 o), (39, .bool (o == 12)), (40, .bool (o == 12))] ?_
     cases hb18 : o == 12
     ·
      replace hb18 : o ≠ 12 := (ne_of_beq_false hb18)
      refine zS [(41, .int .i64 o), (42, .bool (o == 13)), (43, .bool (o == 13)), (44, .bool (o == 13))] ?_
      cases hb19 : o == 13
      ·
       replace hb19 : o ≠ 13 := (ne_of_beq_false hb19)
       refine zS [(45, .int .i64 o), (46, .bool (o == 14)), (47, .bool (o == 14))] ?_
       refine zO (o == 14) (fun hc20 => ?_) (fun hc20 => ?_)
       ·
        replace hc20 : o = 14 := (eq_of_beq hc20)
        refine zF [(0, .pointer (some ⟨p, 0, none⟩)), (1, .int .i64 o), (2, .int .i64 a), (3, .int .i64 b), (8, .int .i64 0), (9, .int .i64 0), (10, .int .i64 (widF N a)), (11, .bool false), (14, .bool (decide (o > 14))), (21, .bool (badT N.length [a, b])), (27, .bool ((widF N a) != (widF N b))), (47, .bool (o == 14))] fun ρ => ?_
        refine zR ?_
        refine zS [(10, .int .i64 1)] ?_
        refine op_nil ?_
        refine zQ ?_
        refine zS [(48, .pointer (some ⟨p, 0, none⟩)), (49, .int .i64 o), (50, .int .i64 1), (51, .int .i64 a), (52, .int .i64 b), (53, .agg #[.int .i64 o, .int .i64 1, .int .i64 a, .int .i64 b, .int .i64 0, .int .u64 0])] ?_
        have lt24 := hB6.lt
        have hwf : nwf (o, 1, a, b, 0, 0) := nwf_of (by unfold b64 at *; omega) (by unfold b64 at *; omega) (by unfold b64 at *; omega) (by unfold b64 at *; omega) (by unfold b64 at *; omega) (by unfold u64; omega)
        refine zC (make_ok F p most N (wdR N) (o, 1, a, b, 0, 0) _ hL hJ.ti hwf) ?_
        rintro _ w21 ⟨rfl, F22, hL, hm23⟩
        have hMv := hMv.trans hm23
        have hB6 := hB6.tch hm23.1 nF_hB6
        refine zS [(55, .int .i64 ((mk N most (o, 1, a, b, 0, 0)).1)), (56, .int .i64 ((mk N most (o, 1, a, b, 0, 0)).2.1)), (8, .int .i64 ((mk N most (o, 1, a, b, 0, 0)).1)), (9, .int .i64 ((mk N most (o, 1, a, b, 0, 0)).2.1))] ?_
        refine op_nil ?_
        refine W_ret ?_
        refine ⟨_, Res_of (v := .tuple #[.int .i64 ((mk N most (o, 1, a, b, 0, 0)).1), .int .i64 ((mk N most (o, 1, a, b, 0, 0)).2.1)]) (by kernel_rfl), ?_⟩
        have e : binF N most o a b = mk N most (o, 1, a, b, 0, 0) := by unfold binF; rw [if_neg (by first | omega | assumption | exact nb (by assumption)), if_neg (by first | omega | assumption | exact nb (by assumption)), if_neg (by first | omega | assumption | exact nb (by assumption)), if_pos (by first | omega | assumption | exact nb (by assumption))]
        rw [e]
        unfold TRet
        exact ⟨rfl, _, ⟨hL.congr (wdR_mk (by show (o : Int) ≠ 21; omega)), mk_TJ hJ hwf (by show 1 ≤ (1 : Int) ∧ (1 : Int) ≤ 64; omega) (fun e => absurd e (by show (o : Int) ≠ 21; omega))⟩, hMv⟩
       ·
        replace hc20 : o ≠ 14 := (ne_of_beq_false hc20)
        refine W_skip ?_
        refine W_seq ?_
        refine zF [(0, .pointer (some ⟨p, 0, none⟩)), (1, .int .i64 o), (2, .int .i64 a), (3, .int .i64 b), (8, .int .i64 0), (9, .int .i64 0), (10, .int .i64 (widF N a)), (11, .bool false), (14, .bool (decide (o > 14))), (21, .bool (badT N.length [a, b])), (27, .bool ((widF N a) != (widF N b))), (47, .bool (o == 14))] fun ρ => ?_
        refine zR ?_
        refine zS [(48, .pointer (some ⟨p, 0, none⟩)), (49, .int .i64 o), (50, .int .i64 (widF N a)), (51, .int .i64 a), (52, .int .i64 b), (53, .agg #[.int .i64 o, .int .i64 (widF N a), .int .i64 a, .int .i64 b, .int .i64 0, .int .u64 0])] ?_
        have lt28 := hB6.lt
        have hwf : nwf (o, widF N a, a, b, 0, 0) := nwf_of (by unfold b64 at *; omega) (by unfold b64 at *; omega) (by unfold b64 at *; omega) (by unfold b64 at *; omega) (by unfold b64 at *; omega) (by unfold u64; omega)
        refine zC (make_ok F p most N (wdR N) (o, widF N a, a, b, 0, 0) _ hL hJ.ti hwf) ?_
        rintro _ w25 ⟨rfl, F26, hL, hm27⟩
        have hMv := hMv.trans hm27
        have hB6 := hB6.tch hm27.1 nF_hB6
        refine zS [(55, .int .i64 ((mk N most (o, widF N a, a, b, 0, 0)).1)), (56, .int .i64 ((mk N most (o, widF N a, a, b, 0, 0)).2.1)), (8, .int .i64 ((mk N most (o, widF N a, a, b, 0, 0)).1)), (9, .int .i64 ((mk N most (o, widF N a, a, b, 0, 0)).2.1))] ?_
        refine op_nil ?_
        refine W_ret ?_
        refine ⟨_, Res_of (v := .tuple #[.int .i64 ((mk N most (o, widF N a, a, b, 0, 0)).1), .int .i64 ((mk N most (o, widF N a, a, b, 0, 0)).2.1)]) (by kernel_rfl), ?_⟩
        have e : binF N most o a b = mk N most (o, widF N a, a, b, 0, 0) := by unfold binF; rw [if_neg (by first | omega | assumption | exact nb (by assumption)), if_neg (by first | omega | assumption | exact nb (by assumption)), if_neg (by first | omega | assumption | exact nb (by assumption)), if_neg (by first | omega | assumption | exact nb (by assumption))]
        rw [e]
        unfold TRet
        exact ⟨rfl, _, ⟨hL.congr (wdR_mk (by show (o : Int) ≠ 21; omega)), mk_TJ hJ hwf (by show 1 ≤ (widF N a : Int) ∧ (widF N a : Int) ≤ 64; omega) (fun e => absurd e (by show (o : Int) ≠ 21; omega))⟩, hMv⟩
      ·
       replace hb19 : o = 13 := (eq_of_beq hb19)
       refine zS [(45, undef), (46, undef), (47, .bool true)] ?_
       refine zO true (fun _ => ?_) (fun h => nomatch h)
       refine zF [(0, .pointer (some ⟨p, 0, none⟩)), (1, .int .i64 o), (2, .int .i64 a), (3, .int .i64 b), (8, .int .i64 0), (9, .int .i64 0), (10, .int .i64 (widF N a)), (11, .bool false), (14, .bool (decide (o > 14))), (21, .bool (badT N.length [a, b])), (27, .bool ((widF N a) != (widF N b))), (47, .bool true)] fun ρ => ?_
       refine zR ?_
       refine zS [(10, .int .i64 1)] ?_
       refine op_nil ?_
       refine zQ ?_
       refine zS [(48, .pointer (some ⟨p, 0, none⟩)), (49, .int .i64 o), (50, .int .i64 1), (51, .int .i64 a), (52, .int .i64 b), (53, .agg #[.int .i64 o, .int .i64 1, .int .i64 a, .int .i64 b, .int .i64 0, .int .u64 0])] ?_
       have lt32 := hB6.lt
       have hwf : nwf (o, 1, a, b, 0, 0) := nwf_of (by unfold b64 at *; omega) (by unfold b64 at *; omega) (by unfold b64 at *; omega) (by unfold b64 at *; omega) (by unfold b64 at *; omega) (by unfold u64; omega)
       refine zC (make_ok F p most N (wdR N) (o, 1, a, b, 0, 0) _ hL hJ.ti hwf) ?_
       rintro _ w29 ⟨rfl, F30, hL, hm31⟩
       have hMv := hMv.trans hm31
       have hB6 := hB6.tch hm31.1 nF_hB6
       refine zS [(55, .int .i64 ((mk N most (o, 1, a, b, 0, 0)).1)), (56, .int .i64 ((mk N most (o, 1, a, b, 0, 0)).2.1)), (8, .int .i64 ((mk N most (o, 1, a, b, 0, 0)).1)), (9, .int .i64 ((mk N most (o, 1, a, b, 0, 0)).2.1))] ?_
       refine op_nil ?_
       refine W_ret ?_
       refine ⟨_, Res_of (v := .tuple #[.int .i64 ((mk N most (o, 1, a, b, 0, 0)).1), .int .i64 ((mk N most (o, 1, a, b, 0, 0)).2.1)]) (by kernel_rfl), ?_⟩
       have e : binF N most o a b = mk N most (o, 1, a, b, 0, 0) := by unfold binF; rw [if_neg (by first | omega | assumption | exact nb (by assumption)), if_neg (by first | omega | assumption | exact nb (by assumption)), if_neg (by first | omega | assumption | exact nb (by assumption)), if_pos (by first | omega | assumption | exact nb (by assumption))]
       rw [e]
       unfold TRet
       exact ⟨rfl, _, ⟨hL.congr (wdR_mk (by show (o : Int) ≠ 21; omega)), mk_TJ hJ hwf (by show 1 ≤ (1 : Int) ∧ (1 : Int) ≤ 64; omega) (fun e => absurd e (by show (o : Int) ≠ 21; omega))⟩, hMv⟩
     ·
      replace hb18 : o = 12 := (eq_of_beq hb18)
      refine zS [(41, undef), (42, undef), (43, .bool true), (44, .bool true), (45, undef), (46, undef), (47, .bool true)] ?_
      refine zO true (fun _ => ?_) (fun h => nomatch h)
      refine zF [(0, .pointer (some ⟨p, 0, none⟩)), (1, .int .i64 o), (2, .int .i64 a), (3, .int .i64 b), (8, .int .i64 0), (9, .int .i64 0), (10, .int .i64 (widF N a)), (11, .bool false), (14, .bool (decide (o > 14))), (21, .bool (badT N.length [a, b])), (27, .bool ((widF N a) != (widF N b))), (47, .bool true)] fun ρ => ?_
      refine zR ?_
      refine zS [(10, .int .i64 1)] ?_
      refine op_nil ?_
      refine zQ ?_
      refine zS [(48, .pointer (some ⟨p, 0, none⟩)), (49, .int .i64 o), (50, .int .i64 1), (51, .int .i64 a), (52, .int .i64 b), (53, .agg #[.int .i64 o, .int .i64 1, .int .i64 a, .int .i64 b, .int .i64 0, .int .u64 0])] ?_
      have lt36 := hB6.lt
      have hwf : nwf (o, 1, a, b, 0, 0) := nwf_of (by unfold b64 at *; omega) (by unfold b64 at *; omega) (by unfold b64 at *; omega) (by unfold b64 at *; omega) (by unfold b64 at *; omega) (by unfold u64; omega)
      refine zC (make_ok F p most N (wdR N) (o, 1, a, b, 0, 0) _ hL hJ.ti hwf) ?_
      rintro _ w33 ⟨rfl, F34, hL, hm35⟩
      have hMv := hMv.trans hm35
      have hB6 := hB6.tch hm35.1 nF_hB6
      refine zS [(55, .int .i64 ((mk N most (o, 1, a, b, 0, 0)).1)), (56, .int .i64 ((mk N most (o, 1, a, b, 0, 0)).2.1)), (8, .int .i64 ((mk N most (o, 1, a, b, 0, 0)).1)), (9, .int .i64 ((mk N most (o, 1, a, b, 0, 0)).2.1))] ?_
      refine op_nil ?_
      refine W_ret ?_
      refine ⟨_, Res_of (v := .tuple #[.int .i64 ((mk N most (o, 1, a, b, 0, 0)).1), .int .i64 ((mk N most (o, 1, a, b, 0, 0)).2.1)]) (by kernel_rfl), ?_⟩
      have e : binF N most o a b = mk N most (o, 1, a, b, 0, 0) := by unfold binF; rw [if_neg (by first | omega | assumption | exact nb (by assumption)), if_neg (by first | omega | assumption | exact nb (by assumption)), if_neg (by first | omega | assumption | exact nb (by assumption)), if_pos (by first | omega | assumption | exact nb (by assumption))]
      rw [e]
      unfold TRet
      exact ⟨rfl, _, ⟨hL.congr (wdR_mk (by show (o : Int) ≠ 21; omega)), mk_TJ hJ hwf (by show 1 ≤ (1 : Int) ∧ (1 : Int) ≤ 64; omega) (fun e => absurd e (by show (o : Int) ≠ 21; omega))⟩, hMv⟩
 ·
  replace hb1 : o < 1 := (of_decide_eq_true hb1)
  refine zS [(18, undef), (19, undef), (20, .bool true), (14, .bool true)] ?_
  refine zO true (fun _ => ?_) (fun h => nomatch h)
  refine W_seq ?_
  refine zF [(0, .pointer (some ⟨p, 0, none⟩)), (1, .int .i64 o), (2, .int .i64 a), (3, .int .i64 b), (8, .int .i64 0), (9, .int .i64 0), (11, .bool false), (14, .bool true)] fun ρ => ?_
  refine zR ?_
  refine zS [(8, .int .i64 0), (9, .int .i64 3)] ?_
  refine op_nil ?_
  refine W_ret ?_
  refine ⟨_, Res_of (v := .tuple #[.int .i64 0, .int .i64 3]) (by kernel_rfl), ?_⟩
  have e : binF N most o a b = (0, 3, N) := by unfold binF; rw [if_pos (by first | omega | assumption | exact nb (by assumption))]
  rw [e]
  unfold TRet
  exact ⟨rfl, F, ⟨hL, hJ⟩, hMv⟩

set_option maxRecDepth 100000 in
theorem ite_ok (F : Nat → Prop) (p : Nat) (most : Int) (N : List Nd) (c : Int) (a : Int) (b : Int) (w : World) (hO : TObj F w p most N) (hc : b64 c) (ha : b64 a) (hb : b64 b) : Ret Try.prog 37 [.pointer (some ⟨p, 0, none⟩), .int .i64 c, .int .i64 a, .int .i64 b] w fun v w' => TRet F p most w (iteF N most c a b) v w' := by
 obtain ⟨hL, hJ⟩ := id hO
 have hMv := Mv.refl F w
 have hlen := hJ.ti.len
 have hmost := hJ.ti.most
 have hu_c := hc; unfold b64 at hu_c
 have hu_a := ha; unfold b64 at hu_a
 have hu_b := hb; unfold b64 at hu_b
 refine enter Try.func37 rfl rfl ?_
 refine zQ ?_
 refine zS [(8, .int .i64 0), (9, .int .i64 0)] ?_
 refine op_nil ?_
 refine W_seq ?_
 refine W_block ?_
 refine zQ ?_
 refine zS [(11, .pointer (some ⟨p, 0, none⟩)), (12, .bool false), (10, .bool false)] ?_
 refine zO false (fun h => nomatch h) (fun _ => ?_)
 refine zQ ?_
 refine zS [(14, .pointer (some ⟨p, 0, none⟩)), (15, .int .i64 c), (16, .int .i64 a), (17, .int .i64 b)] ?_
 have hlt_ := hL.lt
 have hz5 := hMv.1.size
 refine st (by rfl) (S_new (v := .slice (some ⟨w.heap.size, 0, none⟩) 3 3) (ob := .cells #[.int .i64 c, .int .i64 a, .int .i64 b] 3) (by kernel_rfl) fun w1 hT2 hs3 hB4 => ?_)
 replace hB4 : Blk w1 (w.heap.size) 3 [.int .i64 c, .int .i64 a, .int .i64 b] := hB4
 have hL := hL.tch0 hT2
 have hMv := hMv.then0 hT2
 have nF_hB4 : ¬ F (w.heap.size) := fun e => by have := hlt_ _ e; omega
 refine zC (none_ok F p most N (wdR N) (w.heap.size) 3 [c, a, b] _ hL (by omega) (show Blk _ _ 3 (ints .i64 [c, a, b]) from hB4) rfl (by omega)) ?_
 rintro _ w6 ⟨rfl, hT7⟩
 have hL := hL.tch0 hT7
 have hMv := hMv.then0 hT7
 have hB4 := hB4.tch0 hT7
 refine zS [(13, .bool (badT N.length [c, a, b]))] ?_
 refine zO (badT N.length [c, a, b]) (fun hc8 => ?_) (fun hc8 => ?_)
 ·
  replace hc8 : badT N.length [c, a, b] = true := (hc8)
  refine W_seq ?_
  refine zF [(0, .pointer (some ⟨p, 0, none⟩)), (1, .int .i64 c), (2, .int .i64 a), (3, .int .i64 b), (8, .int .i64 0), (9, .int .i64 0), (10, .bool false), (13, .bool (badT N.length [c, a, b]))] fun ρ => ?_
  refine zR ?_
  refine zS [(8, .int .i64 0), (9, .int .i64 11)] ?_
  refine op_nil ?_
  refine W_ret ?_
  refine ⟨_, Res_of (v := .tuple #[.int .i64 0, .int .i64 11]) (by kernel_rfl), ?_⟩
  have e : iteF N most c a b = (0, 11, N) := by unfold iteF; rw [if_pos (by first | omega | assumption | exact nb (by assumption))]
  rw [e]
  unfold TRet
  exact ⟨rfl, F, ⟨hL, hJ⟩, hMv⟩
 ·
  replace hc8 : badT N.length [c, a, b] = false := (hc8)
  obtain ⟨⟨q0, r0⟩, ⟨q1, r1⟩, q2, r2⟩ := bad3f.1 hc8
  have wd0 := hJ.wid q0 r0
  have wd1 := hJ.wid q1 r1
  have wd2 := hJ.wid q2 r2
  refine W_seq ?_
  refine zF [(0, .pointer (some ⟨p, 0, none⟩)), (1, .int .i64 c), (2, .int .i64 a), (3, .int .i64 b), (8, .int .i64 0), (9, .int .i64 0), (10, .bool false), (13, .bool (badT N.length [c, a, b]))] fun ρ => ?_
  refine zR ?_
  refine zS [(21, .pointer (some ⟨p, 0, none⟩)), (22, .int .i64 c)] ?_
  refine zC (width_ok F p most N (wdR N) c _ hL (by omega)) ?_
  rintro _ w9 ⟨rfl, hT10⟩
  have hL := hL.tch0 hT10
  have hMv := hMv.then0 hT10
  have hB4 := hB4.tch0 hT10
  refine zS [(24, .bool ((widF N c) != 1)), (25, .bool ((widF N c) != 1))] ?_
  cases hb11 : (widF N c) != 1
  ·
   replace hb11 : widF N c = 1 := (bne_eq_false_iff_eq.1 hb11)
   refine zS [(26, .pointer (some ⟨p, 0, none⟩)), (27, .int .i64 a)] ?_
   refine zC (width_ok F p most N (wdR N) a _ hL (by omega)) ?_
   rintro _ w12 ⟨rfl, hT13⟩
   have hL := hL.tch0 hT13
   have hMv := hMv.then0 hT13
   have hB4 := hB4.tch0 hT13
   refine zS [(29, .pointer (some ⟨p, 0, none⟩)), (30, .int .i64 b)] ?_
   refine zC (width_ok F p most N (wdR N) b _ hL (by omega)) ?_
   rintro _ w14 ⟨rfl, hT15⟩
   have hL := hL.tch0 hT15
   have hMv := hMv.then0 hT15
   have hB4 := hB4.tch0 hT15
   refine zS [(32, .bool ((widF N a) != (widF N b))), (33, .bool ((widF N a) != (widF N b))), (20, .bool ((widF N a) != (widF N b)))] ?_
   refine zO ((widF N a) != (widF N b)) (fun hc16 => ?_) (fun hc16 => ?_)
   ·
    replace hc16 : widF N a ≠ widF N b := (bne_iff_ne.1 hc16)
    refine W_seq ?_
    refine zF [(0, .pointer (some ⟨p, 0, none⟩)), (1, .int .i64 c), (2, .int .i64 a), (3, .int .i64 b), (8, .int .i64 0), (9, .int .i64 0), (10, .bool false), (13, .bool (badT N.length [c, a, b])), (20, .bool ((widF N a) != (widF N b)))] fun ρ => ?_
    refine zR ?_
    refine zS [(8, .int .i64 0), (9, .int .i64 2)] ?_
    refine op_nil ?_
    refine W_ret ?_
    refine ⟨_, Res_of (v := .tuple #[.int .i64 0, .int .i64 2]) (by kernel_rfl), ?_⟩
    have e : iteF N most c a b = (0, 2, N) := by unfold iteF; rw [if_neg (by first | omega | assumption | exact nb (by assumption)), if_pos (by first | omega | assumption | exact nb (by assumption))]
    rw [e]
    unfold TRet
    exact ⟨rfl, F, ⟨hL, hJ⟩, hMv⟩
   ·
    replace hc16 : widF N a = widF N b := (bne_eq_false_iff_eq.1 hc16)
    refine W_skip ?_
    refine W_seq ?_
    refine zF [(0, .pointer (some ⟨p, 0, none⟩)), (1, .int .i64 c), (2, .int .i64 a), (3, .int .i64 b), (8, .int .i64 0), (9, .int .i64 0), (10, .bool false), (13, .bool (badT N.length [c, a, b])), (20, .bool ((widF N a) != (widF N b)))] fun ρ => ?_
    refine zR ?_
    refine zS [(34, .pointer (some ⟨p, 0, none⟩)), (35, .pointer (some ⟨p, 0, none⟩)), (36, .int .i64 a)] ?_
    refine zC (width_ok F p most N (wdR N) a _ hL (by omega)) ?_
    rintro _ w17 ⟨rfl, hT18⟩
    have hL := hL.tch0 hT18
    have hMv := hMv.then0 hT18
    have hB4 := hB4.tch0 hT18
    refine zS [(38, .int .i64 c), (39, .int .i64 a), (40, .int .i64 b), (41, .agg #[.int .i64 22, .int .i64 (widF N a), .int .i64 c, .int .i64 a, .int .i64 b, .int .u64 0])] ?_
    have lt22 := hB4.lt
    have hwf : nwf (22, widF N a, c, a, b, 0) := nwf_of (by unfold b64 at *; omega) (by unfold b64 at *; omega) (by unfold b64 at *; omega) (by unfold b64 at *; omega) (by unfold b64 at *; omega) (by unfold u64; omega)
    refine zC (make_ok F p most N (wdR N) (22, widF N a, c, a, b, 0) _ hL hJ.ti hwf) ?_
    rintro _ w19 ⟨rfl, F20, hL, hm21⟩
    have hMv := hMv.trans hm21
    have hB4 := hB4.tch hm21.1 nF_hB4
    refine zS [(43, .int .i64 ((mk N most (22, widF N a, c, a, b, 0)).1)), (44, .int .i64 ((mk N most (22, widF N a, c, a, b, 0)).2.1)), (8, .int .i64 ((mk N most (22, widF N a, c, a, b, 0)).1)), (9, .int .i64 ((mk N most (22, widF N a, c, a, b, 0)).2.1))] ?_
    refine op_nil ?_
    refine W_ret ?_
    refine ⟨_, Res_of (v := .tuple #[.int .i64 ((mk N most (22, widF N a, c, a, b, 0)).1), .int .i64 ((mk N most (22, widF N a, c, a, b, 0)).2.1)]) (by kernel_rfl), ?_⟩
    have e : iteF N most c a b = mk N most (22, widF N a, c, a, b, 0) := by unfold iteF; rw [if_neg (by first | omega | assumption | exact nb (by assumption)), if_neg (by first | omega | assumption | exact nb (by assumption))]
    rw [e]
    unfold TRet
    exact ⟨rfl, _, ⟨hL.congr (wdR_mk (by show (22 : Int) ≠ 21; omega)), mk_TJ hJ hwf (by show 1 ≤ (widF N a : Int) ∧ (widF N a : Int) ≤ 64; omega) (fun e => absurd e (by show (22 : Int) ≠ 21; omega))⟩, hMv⟩
  ·
   replace hb11 : widF N c ≠ 1 := (bne_iff_ne.1 hb11)
   refine zS [(26, undef), (27, undef), (28, undef), (29, undef), (30, undef), (31, undef), (32, undef), (33, .bool true), (20, .bool true)] ?_
   refine zO true (fun _ => ?_) (fun h => nomatch h)
   refine W_seq ?_
   refine zF [(0, .pointer (some ⟨p, 0, none⟩)), (1, .int .i64 c), (2, .int .i64 a), (3, .int .i64 b), (8, .int .i64 0), (9, .int .i64 0), (10, .bool false), (13, .bool (badT N.length [c, a, b])), (20, .bool true)] fun ρ => ?_
   refine zR ?_
   refine zS [(8, .int .i64 0), (9, .int .i64 2)] ?_
   refine op_nil ?_
   refine W_ret ?_
   refine ⟨_, Res_of (v := .tuple #[.int .i64 0, .int .i64 2]) (by kernel_rfl), ?_⟩
   have e : iteF N most c a b = (0, 2, N) := by unfold iteF; rw [if_neg (by first | omega | assumption | exact nb (by assumption)), if_pos (by first | omega | assumption | exact nb (by assumption))]
   rw [e]
   unfold TRet
   exact ⟨rfl, F, ⟨hL, hJ⟩, hMv⟩

set_option maxRecDepth 100000 in
theorem ext_ok (F : Nat → Prop) (p : Nat) (most : Int) (N : List Nd) (a : Int) (lo : Int) (wd : Int) (w : World) (hO : TObj F w p most N) (ha : b64 a) (hlo : b64 lo) (hwd : b64 wd) : Ret Try.prog 39 [.pointer (some ⟨p, 0, none⟩), .int .i64 a, .int .i64 lo, .int .i64 wd] w fun v w' => TRet F p most w (extF N most a lo wd) v w' := by
 obtain ⟨hL, hJ⟩ := id hO
 have hMv := Mv.refl F w
 have hlen := hJ.ti.len
 have hmost := hJ.ti.most
 have hu_a := ha; unfold b64 at hu_a
 have hu_lo := hlo; unfold b64 at hu_lo
 have hu_wd := hwd; unfold b64 at hu_wd
 refine enter Try.func39 rfl rfl ?_
 refine zQ ?_
 refine zS [(8, .int .i64 0), (9, .int .i64 0)] ?_
 refine op_nil ?_
 refine W_seq ?_
 refine W_block ?_
 refine zQ ?_
 refine zS [(11, .pointer (some ⟨p, 0, none⟩)), (12, .bool false), (10, .bool false)] ?_
 refine zO false (fun h => nomatch h) (fun _ => ?_)
 refine zQ ?_
 refine zS [(14, .pointer (some ⟨p, 0, none⟩)), (15, .int .i64 a)] ?_
 have hlt_ := hL.lt
 have hz5 := hMv.1.size
 refine st (by rfl) (S_new (v := .slice (some ⟨w.heap.size, 0, none⟩) 1 1) (ob := .cells #[.int .i64 a] 3) (by kernel_rfl) fun w1 hT2 hs3 hB4 => ?_)
 replace hB4 : Blk w1 (w.heap.size) 3 [.int .i64 a] := hB4
 have hL := hL.tch0 hT2
 have hMv := hMv.then0 hT2
 have nF_hB4 : ¬ F (w.heap.size) := fun e => by have := hlt_ _ e; omega
 refine zC (none_ok F p most N (wdR N) (w.heap.size) 1 [a] _ hL (by omega) (show Blk _ _ 3 (ints .i64 [a]) from hB4) rfl (by omega)) ?_
 rintro _ w6 ⟨rfl, hT7⟩
 have hL := hL.tch0 hT7
 have hMv := hMv.then0 hT7
 have hB4 := hB4.tch0 hT7
 refine zS [(13, .bool (badT N.length [a]))] ?_
 refine zO (badT N.length [a]) (fun hc8 => ?_) (fun hc8 => ?_)
 ·
  replace hc8 : badT N.length [a] = true := (hc8)
  refine W_seq ?_
  refine zF [(0, .pointer (some ⟨p, 0, none⟩)), (1, .int .i64 a), (2, .int .i64 lo), (3, .int .i64 wd), (8, .int .i64 0), (9, .int .i64 0), (10, .bool false), (13, .bool (badT N.length [a]))] fun ρ => ?_
  refine zR ?_
  refine zS [(8, .int .i64 0), (9, .int .i64 11)] ?_
  refine op_nil ?_
  refine W_ret ?_
  refine ⟨_, Res_of (v := .tuple #[.int .i64 0, .int .i64 11]) (by kernel_rfl), ?_⟩
  have e : extF N most a lo wd = (0, 11, N) := by unfold extF; rw [if_pos (by first | omega | assumption | exact nb (by assumption))]
  rw [e]
  unfold TRet
  exact ⟨rfl, F, ⟨hL, hJ⟩, hMv⟩
 ·
  replace hc8 : badT N.length [a] = false := (hc8)
  obtain ⟨q0, r0⟩ := bad1f.1 hc8
  have wd0 := hJ.wid q0 r0
  refine W_seq ?_
  refine zF [(0, .pointer (some ⟨p, 0, none⟩)), (1, .int .i64 a), (2, .int .i64 lo), (3, .int .i64 wd), (8, .int .i64 0), (9, .int .i64 0), (10, .bool false), (13, .bool (badT N.length [a]))] fun ρ => ?_
  refine zR ?_
  refine zS [(19, .int .i64 wd), (20, .bool (decide (wd < 1))), (21, .bool (decide (wd < 1)))] ?_
  cases hb9 : decide (wd < 1)
  ·
   replace hb9 : 1 ≤ wd := (Int.not_lt.1 (of_decide_eq_false hb9))
   refine zS [(22, .int .i64 lo), (23, .bool (decide (lo < 0))), (24, .bool (decide (lo < 0))), (25, .bool (decide (lo < 0)))] ?_
   cases hb10 : decide (lo < 0)
   ·
    replace hb10 : 0 ≤ lo := (Int.not_lt.1 (of_decide_eq_false hb10))
    refine zS [(26, .int .i64 wd), (27, .pointer (some ⟨p, 0, none⟩)), (28, .int .i64 a)] ?_
    refine zC (width_ok F p most N (wdR N) a _ hL (by omega)) ?_
    rintro _ w11 ⟨rfl, hT12⟩
    have hL := hL.tch0 hT12
    have hMv := hMv.then0 hT12
    have hB4 := hB4.tch0 hT12
    refine zS [(30, .bool (decide (wd > widF N a))), (31, .bool (decide (wd > widF N a))), (32, .bool (decide (wd > widF N a)))] ?_
    cases hb13 : decide (wd > widF N a)
    ·
     replace hb13 : wd ≤ widF N a := (Int.not_lt.1 (of_decide_eq_false hb13))
     refine zS [(33, .int .i64 lo), (34, .pointer (some ⟨p, 0, none⟩)), (35, .int .i64 a)] ?_
     refine zC (width_ok F p most N (wdR N) a _ hL (by omega)) ?_
     rintro _ w14 ⟨rfl, hT15⟩
     have hL := hL.tch0 hT15
     have hMv := hMv.then0 hT15
     have hB4 := hB4.tch0 hT15
     refine zS [(37, .int .i64 wd), (38, .int .i64 (IntKind.i64.wrap ((widF N a) - wd)))] ?_
     rw [show IntKind.i64.wrap ((widF N a) - wd) = (widF N a) - wd from wrap_i64 (by omega) (by omega)]
     refine zS [(39, .bool (decide (lo > (widF N a) - wd))), (40, .bool (decide (lo > (widF N a) - wd))), (18, .bool (decide (lo > (widF N a) - wd)))] ?_
     refine zO (decide (lo > (widF N a) - wd)) (fun hc16 => ?_) (fun hc16 => ?_)
     ·
      replace hc16 : (widF N a) - wd < lo := (of_decide_eq_true hc16)
      refine W_seq ?_
      refine zF [(0, .pointer (some ⟨p, 0, none⟩)), (1, .int .i64 a), (2, .int .i64 lo), (3, .int .i64 wd), (8, .int .i64 0), (9, .int .i64 0), (10, .bool false), (13, .bool (badT N.length [a])), (18, .bool (decide (lo > (widF N a) - wd)))] fun ρ => ?_
      refine zR ?_
      refine zS [(8, .int .i64 0), (9, .int .i64 2)] ?_
      refine op_nil ?_
      refine W_ret ?_
      refine ⟨_, Res_of (v := .tuple #[.int .i64 0, .int .i64 2]) (by kernel_rfl), ?_⟩
      have e : extF N most a lo wd = (0, 2, N) := by unfold extF; rw [if_neg (by first | omega | assumption | exact nb (by assumption)), if_pos (by first | omega | assumption | exact nb (by assumption))]
      rw [e]
      unfold TRet
      exact ⟨rfl, F, ⟨hL, hJ⟩, hMv⟩
     ·
      replace hc16 : lo ≤ (widF N a) - wd := (Int.not_lt.1 (of_decide_eq_false hc16))
      refine W_skip ?_
      refine W_seq ?_
      refine zF [(0, .pointer (some ⟨p, 0, none⟩)), (1, .int .i64 a), (2, .int .i64 lo), (3, .int .i64 wd), (8, .int .i64 0), (9, .int .i64 0), (10, .bool false), (13, .bool (badT N.length [a])), (18, .bool (decide (lo > (widF N a) - wd)))] fun ρ => ?_
      refine zR ?_
      refine zS [(41, .pointer (some ⟨p, 0, none⟩)), (42, .int .i64 wd), (43, .int .i64 a), (44, .int .i64 lo), (45, .agg #[.int .i64 23, .int .i64 wd, .int .i64 a, .int .i64 lo, .int .i64 0, .int .u64 0])] ?_
      have lt20 := hB4.lt
      have hwf : nwf (23, wd, a, lo, 0, 0) := nwf_of (by unfold b64 at *; omega) (by unfold b64 at *; omega) (by unfold b64 at *; omega) (by unfold b64 at *; omega) (by unfold b64 at *; omega) (by unfold u64; omega)
      refine zC (make_ok F p most N (wdR N) (23, wd, a, lo, 0, 0) _ hL hJ.ti hwf) ?_
      rintro _ w17 ⟨rfl, F18, hL, hm19⟩
      have hMv := hMv.trans hm19
      have hB4 := hB4.tch hm19.1 nF_hB4
      refine zS [(47, .int .i64 ((mk N most (23, wd, a, lo, 0, 0)).1)), (48, .int .i64 ((mk N most (23, wd, a, lo, 0, 0)).2.1)), (8, .int .i64 ((mk N most (23, wd, a, lo, 0, 0)).1)), (9, .int .i64 ((mk N most (23, wd, a, lo, 0, 0)).2.1))] ?_
      refine op_nil ?_
      refine W_ret ?_
      refine ⟨_, Res_of (v := .tuple #[.int .i64 ((mk N most (23, wd, a, lo, 0, 0)).1), .int .i64 ((mk N most (23, wd, a, lo, 0, 0)).2.1)]) (by kernel_rfl), ?_⟩
      have e : extF N most a lo wd = mk N most (23, wd, a, lo, 0, 0) := by unfold extF; rw [if_neg (by first | omega | assumption | exact nb (by assumption)), if_neg (by first | omega | assumption | exact nb (by assumption))]
      rw [e]
      unfold TRet
      exact ⟨rfl, _, ⟨hL.congr (wdR_mk (by show (23 : Int) ≠ 21; omega)), mk_TJ hJ hwf (by show 1 ≤ (wd : Int) ∧ (wd : Int) ≤ 64; omega) (fun e => absurd e (by show (23 : Int) ≠ 21; omega))⟩, hMv⟩
    ·
     replace hb13 : widF N a < wd := (of_decide_eq_true hb13)
     refine zS [(33, undef), (34, undef), (35, undef), (36, undef), (37, undef), (38, undef), (39, undef), (40, .bool true), (18, .bool true)] ?_
     refine zO true (fun _ => ?_) (fun h => nomatch h)
     refine W_seq ?_
     refine zF [(0, .pointer (some ⟨p, 0, none⟩)), (1, .int .i64 a), (2, .int .i64 lo), (3, .int .i64 wd), (8, .int .i64 0), (9, .int .i64 0), (10, .bool false), (13, .bool (badT N.length [a])), (18, .bool true)] fun ρ => ?_
     refine zR ?_
     refine zS [(8, .int .i64 0), (9, .int .i64 2)] ?_
     refine op_nil ?_
     refine W_ret ?_
     refine ⟨_, Res_of (v := .tuple #[.int .i64 0, .int .i64 2]) (by kernel_rfl), ?_⟩
     have e : extF N most a lo wd = (0, 2, N) := by unfold extF; rw [if_neg (by first | omega | assumption | exact nb (by assumption)), if_pos (by first | omega | assumption | exact nb (by assumption))]
     rw [e]
     unfold TRet
     exact ⟨rfl, F, ⟨hL, hJ⟩, hMv⟩
   ·
    replace hb10 : lo < 0 := (of_decide_eq_true hb10)
    refine zS [(26, undef), (27, undef), (28, undef), (29, undef), (30, undef), (31, .bool true), (32, .bool true), (33, undef), (34, undef), (35, undef), (36, undef), (37, undef), (38, undef), (39, undef), (40, .bool true), (18, .bool true)] ?_
    refine zO true (fun _ => ?_) (fun h => nomatch h)
    refine W_seq ?_
    refine zF [(0, .pointer (some ⟨p, 0, none⟩)), (1, .int .i64 a), (2, .int .i64 lo), (3, .int .i64 wd), (8, .int .i64 0), (9, .int .i64 0), (10, .bool false), (13, .bool (badT N.length [a])), (18, .bool true)] fun ρ => ?_
    refine zR ?_
    refine zS [(8, .int .i64 0), (9, .int .i64 2)] ?_
    refine op_nil ?_
    refine W_ret ?_
    refine ⟨_, Res_of (v := .tuple #[.int .i64 0, .int .i64 2]) (by kernel_rfl), ?_⟩
    have e : extF N most a lo wd = (0, 2, N) := by unfold extF; rw [if_neg (by first | omega | assumption | exact nb (by assumption)), if_pos (by first | omega | assumption | exact nb (by assumption))]
    rw [e]
    unfold TRet
    exact ⟨rfl, F, ⟨hL, hJ⟩, hMv⟩
  ·
   replace hb9 : wd < 1 := (of_decide_eq_true hb9)
   refine zS [(22, undef), (23, undef), (24, .bool true), (25, .bool true), (26, undef), (27, undef), (28, undef), (29, undef), (30, undef), (31, .bool true), (32, .bool true), (33, undef), (34, undef), (35, undef), (36, undef), (37, undef), (38, undef), (39, undef), (40, .bool true), (18, .bool true)] ?_
   refine zO true (fun _ => ?_) (fun h => nomatch h)
   refine W_seq ?_
   refine zF [(0, .pointer (some ⟨p, 0, none⟩)), (1, .int .i64 a), (2, .int .i64 lo), (3, .int .i64 wd), (8, .int .i64 0), (9, .int .i64 0), (10, .bool false), (13, .bool (badT N.length [a])), (18, .bool true)] fun ρ => ?_
   refine zR ?_
   refine zS [(8, .int .i64 0), (9, .int .i64 2)] ?_
   refine op_nil ?_
   refine W_ret ?_
   refine ⟨_, Res_of (v := .tuple #[.int .i64 0, .int .i64 2]) (by kernel_rfl), ?_⟩
   have e : extF N most a lo wd = (0, 2, N) := by unfold extF; rw [if_neg (by first | omega | assumption | exact nb (by assumption)), if_pos (by first | omega | assumption | exact nb (by assumption))]
   rw [e]
   unfold TRet
   exact ⟨rfl, F, ⟨hL, hJ⟩, hMv⟩

set_option maxRecDepth 100000 in
theorem cat_ok (F : Nat → Prop) (p : Nat) (most : Int) (N : List Nd) (a : Int) (b : Int) (w : World) (hO : TObj F w p most N) (ha : b64 a) (hb : b64 b) : Ret Try.prog 40 [.pointer (some ⟨p, 0, none⟩), .int .i64 a, .int .i64 b] w fun v w' => TRet F p most w (catF N most a b) v w' := by
 obtain ⟨hL, hJ⟩ := id hO
 have hMv := Mv.refl F w
 have hlen := hJ.ti.len
 have hmost := hJ.ti.most
 have hu_a := ha; unfold b64 at hu_a
 have hu_b := hb; unfold b64 at hu_b
 refine enter Try.func40 rfl rfl ?_
 refine zQ ?_
 refine zS [(6, .int .i64 0), (7, .int .i64 0)] ?_
 refine op_nil ?_
 refine W_seq ?_
 refine W_block ?_
 refine zQ ?_
 refine zS [(10, .pointer (some ⟨p, 0, none⟩)), (11, .bool false), (9, .bool false)] ?_
 refine zO false (fun h => nomatch h) (fun _ => ?_)
 refine zQ ?_
 refine zS [(13, .pointer (some ⟨p, 0, none⟩)), (14, .int .i64 a), (15, .int .i64 b)] ?_
 have hlt_ := hL.lt
 have hz5 := hMv.1.size
 refine st (by rfl) (S_new (v := .slice (some ⟨w.heap.size, 0, none⟩) 2 2) (ob := .cells #[.int .i64 a, .int .i64 b] 3) (by kernel_rfl) fun w1 hT2 hs3 hB4 => ?_)
 replace hB4 : Blk w1 (w.heap.size) 3 [.int .i64 a, .int .i64 b] := hB4
 have hL := hL.tch0 hT2
 have hMv := hMv.then0 hT2
 have nF_hB4 : ¬ F (w.heap.size) := fun e => by have := hlt_ _ e; omega
 refine zC (none_ok F p most N (wdR N) (w.heap.size) 2 [a, b] _ hL (by omega) (show Blk _ _ 3 (ints .i64 [a, b]) from hB4) rfl (by omega)) ?_
 rintro _ w6 ⟨rfl, hT7⟩
 have hL := hL.tch0 hT7
 have hMv := hMv.then0 hT7
 have hB4 := hB4.tch0 hT7
 refine zS [(12, .bool (badT N.length [a, b]))] ?_
 refine zO (badT N.length [a, b]) (fun hc8 => ?_) (fun hc8 => ?_)
 ·
  replace hc8 : badT N.length [a, b] = true := (hc8)
  refine W_seq ?_
  refine zF [(0, .pointer (some ⟨p, 0, none⟩)), (1, .int .i64 a), (2, .int .i64 b), (6, .int .i64 0), (7, .int .i64 0), (9, .bool false), (12, .bool (badT N.length [a, b]))] fun ρ => ?_
  refine zR ?_
  refine zS [(6, .int .i64 0), (7, .int .i64 11)] ?_
  refine op_nil ?_
  refine W_ret ?_
  refine ⟨_, Res_of (v := .tuple #[.int .i64 0, .int .i64 11]) (by kernel_rfl), ?_⟩
  have e : catF N most a b = (0, 11, N) := by unfold catF; rw [if_pos (by first | omega | assumption | exact nb (by assumption))]
  rw [e]
  unfold TRet
  exact ⟨rfl, F, ⟨hL, hJ⟩, hMv⟩
 ·
  replace hc8 : badT N.length [a, b] = false := (hc8)
  obtain ⟨⟨q0, r0⟩, q1, r1⟩ := bad2f.1 hc8
  have wd0 := hJ.wid q0 r0
  have wd1 := hJ.wid q1 r1
  refine W_skip ?_
  refine W_seq ?_
  refine zF [(0, .pointer (some ⟨p, 0, none⟩)), (1, .int .i64 a), (2, .int .i64 b), (6, .int .i64 0), (7, .int .i64 0), (9, .bool false), (12, .bool (badT N.length [a, b]))] fun ρ => ?_
  refine zR ?_
  refine zS [(18, .pointer (some ⟨p, 0, none⟩)), (19, .int .i64 a)] ?_
  refine zC (width_ok F p most N (wdR N) a _ hL (by omega)) ?_
  rintro _ w9 ⟨rfl, hT10⟩
  have hL := hL.tch0 hT10
  have hMv := hMv.then0 hT10
  have hB4 := hB4.tch0 hT10
  refine zS [(21, .pointer (some ⟨p, 0, none⟩)), (22, .int .i64 b)] ?_
  refine zC (width_ok F p most N (wdR N) b _ hL (by omega)) ?_
  rintro _ w11 ⟨rfl, hT12⟩
  have hL := hL.tch0 hT12
  have hMv := hMv.then0 hT12
  have hB4 := hB4.tch0 hT12
  refine zS [(24, .int .i64 (IntKind.i64.wrap ((widF N a) + (widF N b))))] ?_
  rw [show IntKind.i64.wrap ((widF N a) + (widF N b)) = (widF N a) + (widF N b) from wrap_i64 (by omega) (by omega)]
  refine zS [(8, .int .i64 ((widF N a) + (widF N b)))] ?_
  refine op_nil ?_
  refine W_seq ?_
  refine W_seq ?_
  refine zF [(0, .pointer (some ⟨p, 0, none⟩)), (1, .int .i64 a), (2, .int .i64 b), (6, .int .i64 0), (7, .int .i64 0), (8, .int .i64 ((widF N a) + (widF N b))), (9, .bool false), (12, .bool (badT N.length [a, b]))] fun ρ => ?_
  refine zR ?_
  refine zS [(25, .int .i64 ((widF N a) + (widF N b))), (26, .bool (decide ((widF N a) + (widF N b) > 64)))] ?_
  refine zO (decide ((widF N a) + (widF N b) > 64)) (fun hc13 => ?_) (fun hc13 => ?_)
  ·
   replace hc13 : 64 < (widF N a) + (widF N b) := (of_decide_eq_true hc13)
   refine zQ ?_
   refine zS [(6, .int .i64 0), (7, .int .i64 2)] ?_
   refine op_nil ?_
   refine W_ret ?_
   refine ⟨_, Res_of (v := .tuple #[.int .i64 0, .int .i64 2]) (by kernel_rfl), ?_⟩
   have e : catF N most a b = (0, 2, N) := by unfold catF; rw [if_neg (by first | omega | assumption | exact nb (by assumption)), if_pos (by first | omega | assumption | exact nb (by assumption))]
   rw [e]
   unfold TRet
   exact ⟨rfl, F, ⟨hL, hJ⟩, hMv⟩
  ·
   replace hc13 : (widF N a) + (widF N b) ≤ 64 := (Int.not_lt.1 (of_decide_eq_false hc13))
   refine W_skip ?_
   refine zQ ?_
   refine zS [(27, .pointer (some ⟨p, 0, none⟩)), (28, .int .i64 ((widF N a) + (widF N b))), (29, .int .i64 a), (30, .int .i64 b), (31, .agg #[.int .i64 24, .int .i64 ((widF N a) + (widF N b)), .int .i64 a, .int .i64 b, .int .i64 0, .int .u64 0])] ?_
   have lt17 := hB4.lt
   have hwf : nwf (24, (widF N a) + (widF N b), a, b, 0, 0) := nwf_of (by unfold b64 at *; omega) (by unfold b64 at *; omega) (by unfold b64 at *; omega) (by unfold b64 at *; omega) (by unfold b64 at *; omega) (by unfold u64; omega)
   refine zC (make_ok F p most N (wdR N) (24, (widF N a) + (widF N b), a, b, 0, 0) _ hL hJ.ti hwf) ?_
   rintro _ w14 ⟨rfl, F15, hL, hm16⟩
   have hMv := hMv.trans hm16
   have hB4 := hB4.tch hm16.1 nF_hB4
   refine zS [(33, .int .i64 ((mk N most (24, (widF N a) + (widF N b), a, b, 0, 0)).1)), (34, .int .i64 ((mk N most (24, (widF N a) + (widF N b), a, b, 0, 0)).2.1)), (6, .int .i64 ((mk N most (24, (widF N a) + (widF N b), a, b, 0, 0)).1)), (7, .int .i64 ((mk N most (24, (widF N a) + (widF N b), a, b, 0, 0)).2.1))] ?_
   refine op_nil ?_
   refine W_ret ?_
   refine ⟨_, Res_of (v := .tuple #[.int .i64 ((mk N most (24, (widF N a) + (widF N b), a, b, 0, 0)).1), .int .i64 ((mk N most (24, (widF N a) + (widF N b), a, b, 0, 0)).2.1)]) (by kernel_rfl), ?_⟩
   have e : catF N most a b = mk N most (24, (widF N a) + (widF N b), a, b, 0, 0) := by unfold catF; rw [if_neg (by first | omega | assumption | exact nb (by assumption)), if_neg (by first | omega | assumption | exact nb (by assumption))]
   rw [e]
   unfold TRet
   exact ⟨rfl, _, ⟨hL.congr (wdR_mk (by show (24 : Int) ≠ 21; omega)), mk_TJ hJ hwf (by show 1 ≤ ((widF N a) + (widF N b) : Int) ∧ ((widF N a) + (widF N b) : Int) ≤ 64; omega) (fun e => absurd e (by show (24 : Int) ≠ 21; omega))⟩, hMv⟩

set_option maxRecDepth 100000 in
theorem exd_ok (F : Nat → Prop) (p : Nat) (most : Int) (N : List Nd) (a : Int) (wd : Int) (sgd : Bool) (w : World) (hO : TObj F w p most N) (ha : b64 a) (hwd : b64 wd) : Ret Try.prog 38 [.pointer (some ⟨p, 0, none⟩), .int .i64 a, .int .i64 wd, .bool sgd] w fun v w' => TRet F p most w (exdF N most a wd sgd) v w' := by
 obtain ⟨hL, hJ⟩ := id hO
 have hMv := Mv.refl F w
 have hlen := hJ.ti.len
 have hmost := hJ.ti.most
 have hu_a := ha; unfold b64 at hu_a
 have hu_wd := hwd; unfold b64 at hu_wd
 refine enter Try.func38 rfl rfl ?_
 refine zQ ?_
 refine zS [(8, .int .i64 0), (9, .int .i64 0)] ?_
 refine op_nil ?_
 refine W_seq ?_
 refine W_block ?_
 refine zQ ?_
 refine zS [(12, .pointer (some ⟨p, 0, none⟩)), (13, .bool false), (11, .bool false)] ?_
 refine zO false (fun h => nomatch h) (fun _ => ?_)
 refine zQ ?_
 refine zS [(15, .pointer (some ⟨p, 0, none⟩)), (16, .int .i64 a)] ?_
 have hlt_ := hL.lt
 have hz5 := hMv.1.size
 refine st (by rfl) (S_new (v := .slice (some ⟨w.heap.size, 0, none⟩) 1 1) (ob := .cells #[.int .i64 a] 3) (by kernel_rfl) fun w1 hT2 hs3 hB4 => ?_)
 replace hB4 : Blk w1 (w.heap.size) 3 [.int .i64 a] := hB4
 have hL := hL.tch0 hT2
 have hMv := hMv.then0 hT2
 have nF_hB4 : ¬ F (w.heap.size) := fun e => by have := hlt_ _ e; omega
 refine zC (none_ok F p most N (wdR N) (w.heap.size) 1 [a] _ hL (by omega) (show Blk _ _ 3 (ints .i64 [a]) from hB4) rfl (by omega)) ?_
 rintro _ w6 ⟨rfl, hT7⟩
 have hL := hL.tch0 hT7
 have hMv := hMv.then0 hT7
 have hB4 := hB4.tch0 hT7
 refine zS [(14, .bool (badT N.length [a]))] ?_
 refine zO (badT N.length [a]) (fun hc8 => ?_) (fun hc8 => ?_)
 ·
  replace hc8 : badT N.length [a] = true := (hc8)
  refine W_seq ?_
  refine zF [(0, .pointer (some ⟨p, 0, none⟩)), (1, .int .i64 a), (2, .int .i64 wd), (3, .bool sgd), (8, .int .i64 0), (9, .int .i64 0), (11, .bool false), (14, .bool (badT N.length [a]))] fun ρ => ?_
  refine zR ?_
  refine zS [(8, .int .i64 0), (9, .int .i64 11)] ?_
  refine op_nil ?_
  refine W_ret ?_
  refine ⟨_, Res_of (v := .tuple #[.int .i64 0, .int .i64 11]) (by kernel_rfl), ?_⟩
  have e : exdF N most a wd sgd = (0, 11, N) := by unfold exdF; rw [if_pos (by first | omega | assumption | exact nb (by assumption))]
  rw [e]
  unfold TRet
  exact ⟨rfl, F, ⟨hL, hJ⟩, hMv⟩
 ·
  replace hc8 : badT N.length [a] = false := (hc8)
  obtain ⟨q0, r0⟩ := bad1f.1 hc8
  have wd0 := hJ.wid q0 r0
  refine W_seq ?_
  refine zF [(0, .pointer (some ⟨p, 0, none⟩)), (1, .int .i64 a), (2, .int .i64 wd), (3, .bool sgd), (8, .int .i64 0), (9, .int .i64 0), (11, .bool false), (14, .bool (badT N.length [a]))] fun ρ => ?_
  refine zR ?_
  refine zS [(20, .int .i64 wd), (21, .pointer (some ⟨p, 0, none⟩)), (22, .int .i64 a)] ?_
  refine zC (width_ok F p most N (wdR N) a _ hL (by omega)) ?_
  rintro _ w9 ⟨rfl, hT10⟩
  have hL := hL.tch0 hT10
  have hMv := hMv.then0 hT10
  have hB4 := hB4.tch0 hT10
  refine zS [(24, .bool (decide (wd < widF N a))), (25, .bool (decide (wd < widF N a)))] ?_
  cases hb11 : decide (wd < widF N a)
  ·
   replace hb11 : widF N a ≤ wd := (Int.not_lt.1 (of_decide_eq_false hb11))
   refine zS [(26, .int .i64 wd), (27, .bool (decide (wd > 64))), (28, .bool (decide (wd > 64))), (19, .bool (decide (wd > 64)))] ?_
   refine zO (decide (wd > 64)) (fun hc12 => ?_) (fun hc12 => ?_)
   ·
    replace hc12 : 64 < wd := (of_decide_eq_true hc12)
    refine W_seq ?_
    refine zF [(0, .pointer (some ⟨p, 0, none⟩)), (1, .int .i64 a), (2, .int .i64 wd), (3, .bool sgd), (8, .int .i64 0), (9, .int .i64 0), (11, .bool false), (14, .bool (badT N.length [a])), (19, .bool (decide (wd > 64)))] fun ρ => ?_
    refine zR ?_
    refine zS [(8, .int .i64 0), (9, .int .i64 2)] ?_
    refine op_nil ?_
    refine W_ret ?_
    refine ⟨_, Res_of (v := .tuple #[.int .i64 0, .int .i64 2]) (by kernel_rfl), ?_⟩
    have e : exdF N most a wd sgd = (0, 2, N) := by unfold exdF; rw [if_neg (by first | omega | assumption | exact nb (by assumption)), if_pos (by first | omega | assumption | exact nb (by assumption))]
    rw [e]
    unfold TRet
    exact ⟨rfl, F, ⟨hL, hJ⟩, hMv⟩
   ·
    replace hc12 : wd ≤ 64 := (Int.not_lt.1 (of_decide_eq_false hc12))
    refine W_seq ?_
    refine zF [(0, .pointer (some ⟨p, 0, none⟩)), (1, .int .i64 a), (2, .int .i64 wd), (3, .bool sgd), (8, .int .i64 0), (9, .int .i64 0), (11, .bool false), (14, .bool (badT N.length [a])), (19, .bool (decide (wd > 64)))] fun ρ => ?_
    refine zR ?_
    refine zS [(30, .int .i64 wd), (31, .pointer (some ⟨p, 0, none⟩)), (32, .int .i64 a)] ?_
    refine zC (width_ok F p most N (wdR N) a _ hL (by omega)) ?_
    rintro _ w13 ⟨rfl, hT14⟩
    have hL := hL.tch0 hT14
    have hMv := hMv.then0 hT14
    have hB4 := hB4.tch0 hT14
    refine zS [(34, .bool (wd == (widF N a))), (29, .bool (wd == (widF N a)))] ?_
    refine zO (wd == (widF N a)) (fun hc15 => ?_) (fun hc15 => ?_)
    ·
     replace hc15 : wd = widF N a := (eq_of_beq hc15)
     refine zQ ?_
     refine zS [(35, .int .i64 a), (8, .int .i64 a), (9, .int .i64 0)] ?_
     refine op_nil ?_
     refine W_ret ?_
     refine ⟨_, Res_of (v := .tuple #[.int .i64 a, .int .i64 0]) (by kernel_rfl), ?_⟩
     have e : exdF N most a wd sgd = (a, 0, N) := by unfold exdF; rw [if_neg (by first | omega | assumption | exact nb (by assumption)), if_neg (by first | omega | assumption | exact nb (by assumption)), if_pos (by first | omega | assumption | exact nb (by assumption))]
     rw [e]
     unfold TRet
     exact ⟨rfl, F, ⟨hL, hJ⟩, hMv⟩
    ·
     replace hc15 : wd ≠ widF N a := (ne_of_beq_false hc15)
     refine W_skip ?_
     refine zQ ?_
     refine zS [(36, .int .i64 wd), (37, .int .i64 a), (38, .agg #[.int .i64 25, .int .i64 wd, .int .i64 a, .int .i64 0, .int .i64 0, .int .u64 0])] ?_
     have hlt_ := hL.lt
     have hz20 := hMv.1.size
     have lt21 := hB4.lt
     refine st (by rfl) (S_new (v := .pointer (some ⟨w13.heap.size, 0, none⟩)) (ob := .cells #[.int .i64 0, .int .i64 0, .int .i64 0, .int .i64 0, .int .i64 0, .int .u64 0] 32) (by kernel_rfl) fun w16 hT17 hs18 hB19 => ?_)
     replace hB19 : Blk w16 (w13.heap.size) 32 [.int .i64 0, .int .i64 0, .int .i64 0, .int .i64 0, .int .i64 0, .int .u64 0] := hB19
     have hL := hL.tch0 hT17
     have hMv := hMv.then0 hT17
     have hB4 := hB4.tch0 hT17
     have nF_hB19 : ¬ F (w13.heap.size) := fun e => by have := hlt_ _ e; omega
     refine st (by rfl) (S_storeA (b := w13.heap.size) (j := 0) (cs := [.int .i64 25, .int .i64 wd, .int .i64 a, .int .i64 0, .int .i64 0, .int .u64 0]) (by kernel_rfl) (by kernel_rfl) (by kernel_rfl) (by simp [oneV]) hB19 (by simp) fun w22 hT23 hs24 hB19' => ?_)
     have hL := hL.tchS hT23 (fun c e q => by cases e; exact nF_hB19 q)
     have hMv := hMv.newst hT23 (by omega)
     have hB4 := hB4.tch hT23 (hB4.ne hB19 (by decide))
     replace hB19 : Blk w22 w13.heap.size 32 [.int .i64 25, .int .i64 wd, .int .i64 a, .int .i64 0, .int .i64 0, .int .u64 0] := hB19'
     refine op_nil ?_
     refine W_seq ?_
     refine W_seq ?_
     refine zF [(0, .pointer (some ⟨p, 0, none⟩)), (1, .int .i64 a), (2, .int .i64 wd), (3, .bool sgd), (8, .int .i64 0), (9, .int .i64 0), (10, .pointer (some ⟨w13.heap.size, 0, none⟩)), (11, .bool false), (14, .bool (badT N.length [a])), (19, .bool (decide (wd > 64))), (29, .bool (wd == (widF N a)))] fun ρ => ?_
     refine zR ?_
     refine zS [(39, .bool sgd)] ?_
     refine zO (sgd) (fun hc25 => ?_) (fun hc25 => ?_)
     ·
      replace hc25 : sgd = true := (hc25)
      refine zR ?_
      refine zS [(40, .pointer (some ⟨w13.heap.size, 0, none⟩))] ?_
      refine st (by rfl) (S_store (b := w13.heap.size) (j := 0) (v := .int .i64 26) (by kernel_rfl) (by kernel_rfl) (by kernel_rfl) (by rfl) hB19 (by simp) fun w26 hT27 hs28 hB19' => ?_)
      have hL := hL.tchS hT27 (fun c e q => by cases e; exact nF_hB19 q)
      have hMv := hMv.newst hT27 (by omega)
      have hB4 := hB4.tch hT27 (hB4.ne hB19 (by decide))
      replace hB19 : Blk w26 w13.heap.size 32 [.int .i64 26, .int .i64 wd, .int .i64 a, .int .i64 0, .int .i64 0, .int .u64 0] := hB19'
      refine op_nil ?_
      refine zQ ?_
      refine zS [(41, .pointer (some ⟨p, 0, none⟩))] ?_
      refine st (by rfl) (S_val (v := .agg #[.int .i64 26, .int .i64 wd, .int .i64 a, .int .i64 0, .int .i64 0, .int .u64 0]) (R_loadA [.int .i64 26, .int .i64 wd, .int .i64 a, .int .i64 0, .int .i64 0, .int .u64 0] (by kernel_rfl) (by kernel_rfl) (by kernel_rfl) (fun k u hk => by rw [hB19.cell]; exact get_part _ 0 _ k u rfl hk)) ?_)
      have lt32 := hB4.lt
      have lt33 := hB19.lt
      have hwf : nwf (26, wd, a, 0, 0, 0) := nwf_of (by unfold b64 at *; omega) (by unfold b64 at *; omega) (by unfold b64 at *; omega) (by unfold b64 at *; omega) (by unfold b64 at *; omega) (by unfold u64; omega)
      refine zC (make_ok F p most N (wdR N) (26, wd, a, 0, 0, 0) _ hL hJ.ti hwf) ?_
      rintro _ w29 ⟨rfl, F30, hL, hm31⟩
      have hMv := hMv.trans hm31
      have hB4 := hB4.tch hm31.1 nF_hB4
      have hB19 := hB19.tch hm31.1 nF_hB19
      refine zS [(44, .int .i64 ((mk N most (26, wd, a, 0, 0, 0)).1)), (45, .int .i64 ((mk N most (26, wd, a, 0, 0, 0)).2.1)), (8, .int .i64 ((mk N most (26, wd, a, 0, 0, 0)).1)), (9, .int .i64 ((mk N most (26, wd, a, 0, 0, 0)).2.1))] ?_
      refine op_nil ?_
      refine W_ret ?_
      refine ⟨_, Res_of (v := .tuple #[.int .i64 ((mk N most (26, wd, a, 0, 0, 0)).1), .int .i64 ((mk N most (26, wd, a, 0, 0, 0)).2.1)]) (by kernel_rfl), ?_⟩
      have e : exdF N most a wd sgd = mk N most (26, wd, a, 0, 0, 0) := by unfold exdF; rw [if_neg (by first | omega | assumption | exact nb (by assumption)), if_neg (by first | omega | assumption | exact nb (by assumption)), if_neg (by first | omega | assumption | exact nb (by assumption)), if_pos (by first | assumption | exact nb (by assumption))]
      rw [e]
      unfold TRet
      exact ⟨rfl, _, ⟨hL.congr (wdR_mk (by show (26 : Int) ≠ 21; omega)), mk_TJ hJ hwf (by show 1 ≤ (wd : Int) ∧ (wd : Int) ≤ 64; omega) (fun e => absurd e (by show (26 : Int) ≠ 21; omega))⟩, hMv⟩
     ·
      replace hc25 : sgd = false := (hc25)
      refine W_skip ?_
      refine zQ ?_
      refine zS [(41, .pointer (some ⟨p, 0, none⟩))] ?_
      refine st (by rfl) (S_val (v := .agg #[.int .i64 25, .int .i64 wd, .int .i64 a, .int .i64 0, .int .i64 0, .int .u64 0]) (R_loadA [.int .i64 25, .int .i64 wd, .int .i64 a, .int .i64 0, .int .i64 0, .int .u64 0] (by kernel_rfl) (by kernel_rfl) (by kernel_rfl) (fun k u hk => by rw [hB19.cell]; exact get_part _ 0 _ k u rfl hk)) ?_)
      have lt37 := hB4.lt
      have lt38 := hB19.lt
      have hwf : nwf (25, wd, a, 0, 0, 0) := nwf_of (by unfold b64 at *; omega) (by unfold b64 at *; omega) (by unfold b64 at *; omega) (by unfold b64 at *; omega) (by unfold b64 at *; omega) (by unfold u64; omega)
      refine zC (make_ok F p most N (wdR N) (25, wd, a, 0, 0, 0) _ hL hJ.ti hwf) ?_
      rintro _ w34 ⟨rfl, F35, hL, hm36⟩
      have hMv := hMv.trans hm36
      have hB4 := hB4.tch hm36.1 nF_hB4
      have hB19 := hB19.tch hm36.1 nF_hB19
      refine zS [(44, .int .i64 ((mk N most (25, wd, a, 0, 0, 0)).1)), (45, .int .i64 ((mk N most (25, wd, a, 0, 0, 0)).2.1)), (8, .int .i64 ((mk N most (25, wd, a, 0, 0, 0)).1)), (9, .int .i64 ((mk N most (25, wd, a, 0, 0, 0)).2.1))] ?_
      refine op_nil ?_
      refine W_ret ?_
      refine ⟨_, Res_of (v := .tuple #[.int .i64 ((mk N most (25, wd, a, 0, 0, 0)).1), .int .i64 ((mk N most (25, wd, a, 0, 0, 0)).2.1)]) (by kernel_rfl), ?_⟩
      have e : exdF N most a wd sgd = mk N most (25, wd, a, 0, 0, 0) := by unfold exdF; rw [if_neg (by first | omega | assumption | exact nb (by assumption)), if_neg (by first | omega | assumption | exact nb (by assumption)), if_neg (by first | omega | assumption | exact nb (by assumption)), if_neg (by first | assumption | exact nb (by assumption))]
      rw [e]
      unfold TRet
      exact ⟨rfl, _, ⟨hL.congr (wdR_mk (by show (25 : Int) ≠ 21; omega)), mk_TJ hJ hwf (by show 1 ≤ (wd : Int) ∧ (wd : Int) ≤ 64; omega) (fun e => absurd e (by show (25 : Int) ≠ 21; omega))⟩, hMv⟩
  ·
   replace hb11 : wd < widF N a := (of_decide_eq_true hb11)
   refine zS [(26, undef), (27, undef), (28, .bool true), (19, .bool true)] ?_
   refine zO true (fun _ => ?_) (fun h => nomatch h)
   refine W_seq ?_
   refine zF [(0, .pointer (some ⟨p, 0, none⟩)), (1, .int .i64 a), (2, .int .i64 wd), (3, .bool sgd), (8, .int .i64 0), (9, .int .i64 0), (11, .bool false), (14, .bool (badT N.length [a])), (19, .bool true)] fun ρ => ?_
   refine zR ?_
   refine zS [(8, .int .i64 0), (9, .int .i64 2)] ?_
   refine op_nil ?_
   refine W_ret ?_
   refine ⟨_, Res_of (v := .tuple #[.int .i64 0, .int .i64 2]) (by kernel_rfl), ?_⟩
   have e : exdF N most a wd sgd = (0, 2, N) := by unfold exdF; rw [if_neg (by first | omega | assumption | exact nb (by assumption)), if_pos (by first | omega | assumption | exact nb (by assumption))]
   rw [e]
   unfold TRet
   exact ⟨rfl, F, ⟨hL, hJ⟩, hMv⟩

set_option maxRecDepth 100000 in
theorem const_ok (F : Nat → Prop) (p : Nat) (most : Int) (N : List Nd) (wd : Int) (x : Int) (w : World) (hO : TObj F w p most N) (hwd : b64 wd) (hx : u64 x) : Ret Try.prog 34 [.pointer (some ⟨p, 0, none⟩), .int .i64 wd, .int .u64 x] w fun v w' => TRet F p most w (constF N most wd x) v w' := by
 obtain ⟨hL, hJ⟩ := id hO
 have hMv := Mv.refl F w
 have hlen := hJ.ti.len
 have hmost := hJ.ti.most
 have hu_wd := hwd; unfold b64 at hu_wd
 refine enter Try.func34 rfl rfl ?_
 refine zQ ?_
 refine zS [(6, .int .i64 0), (7, .int .i64 0)] ?_
 refine op_nil ?_
 refine W_seq ?_
 refine W_block ?_
 refine zQ ?_
 refine zS [(9, .pointer (some ⟨p, 0, none⟩)), (10, .bool false), (8, .bool false)] ?_
 refine zO false (fun h => nomatch h) (fun _ => ?_)
 refine zQ ?_
 refine zS [(12, .int .i64 wd)] ?_
 refine zC (mask_ok wd _) ?_
 rintro _ w1 ⟨rfl, hT2⟩
 have hL := hL.tch0 hT2
 have hMv := hMv.then0 hT2
 refine zS [(14, .bool ((maskF wd) == 0)), (11, .bool ((maskF wd) == 0))] ?_
 refine zO ((maskF wd) == 0) (fun hc3 => ?_) (fun hc3 => ?_)
 ·
  replace hc3 : maskF wd = 0 := (eq_of_beq hc3)
  have hfw : ¬ (1 ≤ wd ∧ wd ≤ 64) := fun q => by have := mask_pos q; omega
  refine W_seq ?_
  refine zF [(0, .pointer (some ⟨p, 0, none⟩)), (1, .int .i64 wd), (2, .int .u64 x), (6, .int .i64 0), (7, .int .i64 0), (8, .bool false), (11, .bool ((maskF wd) == 0))] fun ρ => ?_
  refine zR ?_
  refine zS [(6, .int .i64 0), (7, .int .i64 2)] ?_
  refine op_nil ?_
  refine W_ret ?_
  refine ⟨_, Res_of (v := .tuple #[.int .i64 0, .int .i64 2]) (by kernel_rfl), ?_⟩
  have e : constF N most wd x = (0, 2, N) := by unfold constF; rw [if_pos (by first | omega | assumption | exact nb (by assumption))]
  rw [e]
  unfold TRet
  exact ⟨rfl, F, ⟨hL, hJ⟩, hMv⟩
 ·
  replace hc3 : maskF wd ≠ 0 := (ne_of_beq_false hc3)
  have hfw : 1 ≤ wd ∧ wd ≤ 64 := Decidable.byContradiction (fun q => by have := mask_z q; omega)
  refine W_skip ?_
  refine W_seq ?_
  refine zF [(0, .pointer (some ⟨p, 0, none⟩)), (1, .int .i64 wd), (2, .int .u64 x), (6, .int .i64 0), (7, .int .i64 0), (8, .bool false), (11, .bool ((maskF wd) == 0))] fun ρ => ?_
  refine zR ?_
  refine zS [(15, .pointer (some ⟨p, 0, none⟩)), (16, .int .i64 wd), (17, .int .i64 wd), (18, .int .u64 x)] ?_
  refine zC (cut_ok wd x _) ?_
  rintro _ w4 ⟨rfl, hT5⟩
  have hL := hL.tch0 hT5
  have hMv := hMv.then0 hT5
  refine zS [(20, .agg #[.int .i64 20, .int .i64 wd, .int .i64 0, .int .i64 0, .int .i64 0, .int .u64 (cutF wd x)])] ?_
  have hwf : nwf (20, wd, 0, 0, 0, cutF wd x) := nwf_of (by unfold b64 at *; omega) (by unfold b64 at *; omega) (by unfold b64 at *; omega) (by unfold b64 at *; omega) (by unfold b64 at *; omega) (cut_u64 _ _)
  refine zC (make_ok F p most N (wdR N) (20, wd, 0, 0, 0, cutF wd x) _ hL hJ.ti hwf) ?_
  rintro _ w6 ⟨rfl, F7, hL, hm8⟩
  have hMv := hMv.trans hm8
  refine zS [(22, .int .i64 ((mk N most (20, wd, 0, 0, 0, cutF wd x)).1)), (23, .int .i64 ((mk N most (20, wd, 0, 0, 0, cutF wd x)).2.1)), (6, .int .i64 ((mk N most (20, wd, 0, 0, 0, cutF wd x)).1)), (7, .int .i64 ((mk N most (20, wd, 0, 0, 0, cutF wd x)).2.1))] ?_
  refine op_nil ?_
  refine W_ret ?_
  refine ⟨_, Res_of (v := .tuple #[.int .i64 ((mk N most (20, wd, 0, 0, 0, cutF wd x)).1), .int .i64 ((mk N most (20, wd, 0, 0, 0, cutF wd x)).2.1)]) (by kernel_rfl), ?_⟩
  have e : constF N most wd x = mk N most (20, wd, 0, 0, 0, cutF wd x) := by unfold constF; rw [if_neg (by first | omega | assumption | exact nb (by assumption))]
  rw [e]
  unfold TRet
  exact ⟨rfl, _, ⟨hL.congr (wdR_mk (by show (20 : Int) ≠ 21; omega)), mk_TJ hJ hwf (by show 1 ≤ (wd : Int) ∧ (wd : Int) ≤ 64; omega) (fun e => absurd e (by show (20 : Int) ≠ 21; omega))⟩, hMv⟩

end Go.Proofs.YtlbadnpgmkobdaaV

set_option linter.unusedVariables false
set_option linter.unusedSimpArgs false
namespace Go.Proofs.YtlbadnpgmkobdaaV
open Go Go.RowKit Go.Proofs

theorem mk_err {N : List Nd} {most : Int} {n : Nd} (h : (mk N most n).2.1 ≠ 0) : (mk N most n).2.2 = N := by
 unfold mk at *
 split
 ·
  rfl
 ·
  split
  ·
   rfl
  ·
   rename_i a b; rw [if_neg a, if_neg b] at h; exact absurd rfl h
theorem mk_ok_in {N : List Nd} {most : Int} {n : Nd} (h : (mk N most n).2.1 = 0) : n ∈ (mk N most n).2.2 ∧ ∀ m, m ∈ (mk N most n).2.2 ↔ (m ∈ N ∨ m = n) := by
 unfold mk at *
 split
 ·
  rename_i a
  exact ⟨a, fun m => ⟨.inl, fun q => q.elim id (fun e => e ▸ a)⟩⟩
 ·
  split
  ·
   rename_i a b; rw [if_neg a, if_pos b] at h; exact absurd h (show ¬ ((8 : Int) = 0) by decide)
  ·
   simp
theorem var_wd {N : List Nd} {most w i : Int} (hb : ¬ varBad N w i) (h : (mk N most (21, w, i, 0, 0, 0)).2.1 = 0) (x y : Value) : wdR (mk N most (21, w, i, 0, 0, 0)).2.2 x y ↔ (x ≠ .int .i64 i ∧ wdR N x y) ∨ (x = .int .i64 i ∧ y = .int .i64 w) := by
 obtain ⟨h1, h2⟩ := mk_ok_in h
 constructor
 ·
  rintro ⟨m, hm, ho, rfl, rfl⟩
  rcases (h2 m).1 hm with q | q
  ·
   by_cases e : nA m = i
   ·
    refine .inr ⟨by rw [e], ?_⟩
    have : nW m = w := Decidable.byContradiction fun z => hb ⟨m, q, ho, e, z⟩
    rw [this]
   ·
    exact .inl ⟨fun z => e (by injection z), m, q, ho, rfl, rfl⟩
  ·
   subst q; exact .inr ⟨rfl, rfl⟩
 ·
  rintro (⟨_, m, hm, ho, e1, e2⟩ | ⟨rfl, rfl⟩)
  ·
   exact ⟨m, (h2 m).2 (.inl hm), ho, e1, e2⟩
  ·
   exact ⟨_, h1, rfl, rfl, rfl⟩
theorem var_hv {N : List Nd} {w i : Int} (hb : ¬ varBad N w i) : nO (21, w, i, 0, 0, 0) = 21 → ∀ m, m ∈ N → nO m = 21 → nA m = nA (21, w, i, 0, 0, 0) → nW m = nW (21, w, i, 0, 0, 0) := fun _ m hm ho ha => Decidable.byContradiction fun z => hb ⟨m, hm, ho, ha, z⟩
def newM (m : Int) : Int := if m < 0 ∨ 65536 < m then 0 else m
theorem newM_ok (m : Int) : 0 ≤ newM m ∧ newM m ≤ 65536 := by unfold newM; split <;> omega
theorem TJ_zero (m : Int) : TJ [] (newM m) := ⟨⟨by simp, by have := newM_ok m; simp; omega, (newM_ok m).2, by simp, by simp⟩, by simp⟩

set_option maxRecDepth 100000 in
theorem var_ok (F : Nat → Prop) (p : Nat) (most : Int) (N : List Nd) (wd ix : Int) (w : World) (hO : TObj F w p most N) (hwd : b64 wd) (hix : b64 ix) : Ret Try.prog 35 [.pointer (some ⟨p, 0, none⟩), .int .i64 wd, .int .i64 ix] w fun v w' => TRet F p most w (varF N most wd ix) v w' := by
 obtain ⟨hL, hJ⟩ := id hO
 have hMv := Mv.refl F w
 have hlen := hJ.ti.len
 have hmost := hJ.ti.most
 have hu1 := hwd
 have hu2 := hix
 unfold b64 at hu1 hu2
 refine enter Try.func35 rfl rfl ?_
 refine zQ ?_
 refine zS [(6, .int .i64 0), (7, .int .i64 0)] ?_
 refine op_nil ?_
 refine W_seq ?_
 refine W_block ?_
 refine zQ ?_
 refine zS [(13, .pointer (some ⟨p, 0, none⟩)), (14, .bool false), (12, .bool false)] ?_
 refine zO false (fun h => nomatch h) (fun _ => ?_)
 refine zQ ?_
 refine zS [(16, .int .i64 wd)] ?_
 refine zC (mask_ok wd _) ?_
 rintro _ w1 ⟨rfl, hT2⟩
 have hL := hL.tch0 hT2
 have hMv := hMv.then0 hT2
 refine zS [(18, .bool ((maskF wd) == 0)), (15, .bool ((maskF wd) == 0))] ?_
 refine zO ((maskF wd) == 0) (fun hc3 => ?_) (fun hc3 => ?_)
 ·
  replace hc3 : maskF wd = 0 := (eq_of_beq hc3)
  have hfw : ¬ (1 ≤ wd ∧ wd ≤ 64) := fun q => by have := mask_pos q; omega
  refine W_seq ?_
  refine zF [(0, .pointer (some ⟨p, 0, none⟩)), (1, .int .i64 wd), (2, .int .i64 ix), (6, .int .i64 0), (7, .int .i64 0), (12, .bool false), (15, .bool ((maskF wd) == 0))] fun ρ => ?_
  refine zR ?_
  refine zS [(6, .int .i64 0), (7, .int .i64 2)] ?_
  refine op_nil ?_
  refine W_ret ?_
  refine ⟨_, Res_of (v := .tuple #[.int .i64 0, .int .i64 2]) (by kernel_rfl), ?_⟩
  have e : varF N most wd ix = (0, 2, N) := by unfold varF; rw [if_pos (by omega)]
  rw [e]
  unfold TRet
  exact ⟨rfl, F, ⟨hL, hJ⟩, hMv⟩
 ·
  replace hc3 : maskF wd ≠ 0 := (ne_of_beq_false hc3)
  have hfw : 1 ≤ wd ∧ wd ≤ 64 := Decidable.byContradiction (fun q => by have := mask_z q; omega)
  refine W_seq ?_
  refine zF [(0, .pointer (some ⟨p, 0, none⟩)), (1, .int .i64 wd), (2, .int .i64 ix), (6, .int .i64 0), (7, .int .i64 0), (12, .bool false), (15, .bool ((maskF wd) == 0))] fun ρ => ?_
  refine zR ?_
  refine zS [(20, .int .i64 ix), (21, .bool (decide (ix < 0))), (22, .bool (decide (ix < 0)))] ?_
  cases hb4 : decide (ix < 0)
  ·
   replace hb4 : 0 ≤ ix := (Int.not_lt.1 (of_decide_eq_false hb4))
   refine zS [(23, .int .i64 ix), (24, .bool (decide (ix ≥ 256))), (25, .bool (decide (ix ≥ 256))), (19, .bool (decide (ix ≥ 256)))] ?_
   refine zO (decide (ix ≥ 256)) (fun hc5 => ?_) (fun hc5 => ?_)
   ·
    replace hc5 : 256 ≤ ix := (of_decide_eq_true hc5)
    refine zQ ?_
    refine zS [(6, .int .i64 0), (7, .int .i64 10)] ?_
    refine op_nil ?_
    refine W_ret ?_
    refine ⟨_, Res_of (v := .tuple #[.int .i64 0, .int .i64 10]) (by kernel_rfl), ?_⟩
    have e : varF N most wd ix = (0, 10, N) := by unfold varF; rw [if_neg (by omega), if_pos (by omega)]
    rw [e]
    unfold TRet
    exact ⟨rfl, F, ⟨hL, hJ⟩, hMv⟩
   ·
    replace hc5 : ix < 256 := (Int.not_le.1 (of_decide_eq_false hc5))
    refine W_skip ?_
    refine W_seq ?_
    refine W_seq ?_
    obtain ⟨A, cp, ma, mw, hP, hOw, hM, hW, hne, fp, fa, fw, fA, hlt⟩ := id hL
    refine zR ?_
    refine zS [(27, .pointer (some ⟨p, 0, none⟩)), (28, .pointer (some ⟨p, 0, none⟩)), (29, .pointer (some ⟨p, 2, none⟩))] ?_
    refine zL (.map (some mw)) ((hP.cell 2).trans rfl) ?_
    refine zS [(31, .int .i64 ix)] ?_
    refine st (by rfl) (S_lookW ix hix (by kernel_rfl) (by kernel_rfl) hW fun q6 ok7 h18 h29 => ?_)
    refine zS [(26, .tuple #[.int .i64 q6, .bool ok7]), (33, .int .i64 q6), (34, .bool ok7), (8, .int .i64 q6), (9, .bool ok7)] ?_
    refine op_nil ?_
    refine W_seq ?_
    refine zF [(0, .pointer (some ⟨p, 0, none⟩)), (1, .int .i64 wd), (2, .int .i64 ix), (6, .int .i64 0), (7, .int .i64 0), (8, .int .i64 q6), (9, .bool ok7), (12, .bool false), (15, .bool ((maskF wd) == 0)), (19, .bool (decide (ix ≥ 256)))] fun ρ => ?_
    refine zR ?_
    refine zS [(35, .bool ok7), (36, .bool ok7)] ?_
    cases hb10 : ok7
    ·
     replace hb10 : ok7 = false := (hb10)
     refine zS [(37, undef), (38, undef), (39, undef), (40, .bool false)] ?_
     refine zO false (fun h => nomatch h) (fun _ => ?_)
     refine W_skip ?_
     refine W_seq ?_
     have hvb : ¬ varBad N wd ix := by
       rintro ⟨m, g1, g2, g3, g4⟩
       cases ok7 with
       | true =>
        obtain ⟨m2, k1, k2, k3, k4⟩ := h18 rfl
        have := hJ.ti.wid m m2 g1 k1 g2 k2 (by rw [g3, k3])
        simp_all
       | false => exact h29 rfl m g1 g2 g3
     refine zR ?_
     refine zS [(42, .pointer (some ⟨p, 0, none⟩)), (43, .int .i64 wd), (44, .int .i64 ix), (45, .agg #[.int .i64 21, .int .i64 wd, .int .i64 ix, .int .i64 0, .int .i64 0, .int .u64 0])] ?_
     have hwf : nwf (21, wd, ix, 0, 0, 0) := nwf_of (by unfold b64 at *; omega) (by unfold b64 at *; omega) (by unfold b64 at *; omega) (by unfold b64 at *; omega) (by unfold b64 at *; omega) (by unfold u64; omega)
     refine zC (make_ok F p most N (wdR N) (21, wd, ix, 0, 0, 0) _ hL hJ.ti hwf) ?_
     rintro _ w11 ⟨rfl, F12, hL, hm13⟩
     have hMv := hMv.trans hm13
     refine zS [(41, .tuple #[.int .i64 ((mk N most (21, wd, ix, 0, 0, 0)).1), .int .i64 ((mk N most (21, wd, ix, 0, 0, 0)).2.1)]), (47, .int .i64 ((mk N most (21, wd, ix, 0, 0, 0)).1)), (48, .int .i64 ((mk N most (21, wd, ix, 0, 0, 0)).2.1)), (10, .int .i64 ((mk N most (21, wd, ix, 0, 0, 0)).1)), (11, .int .i64 ((mk N most (21, wd, ix, 0, 0, 0)).2.1))] ?_
     refine op_nil ?_
     refine W_seq ?_
     refine W_seq ?_
     refine zF [(0, .pointer (some ⟨p, 0, none⟩)), (1, .int .i64 wd), (2, .int .i64 ix), (6, .int .i64 0), (7, .int .i64 0), (8, .int .i64 q6), (9, .bool false), (10, .int .i64 ((mk N most (21, wd, ix, 0, 0, 0)).1)), (11, .int .i64 ((mk N most (21, wd, ix, 0, 0, 0)).2.1)), (12, .bool false), (15, .bool ((maskF wd) == 0)), (19, .bool (decide (ix ≥ 256))), (40, .bool false)] fun ρ => ?_
     refine zR ?_
     refine zS [(49, .int .i64 ((mk N most (21, wd, ix, 0, 0, 0)).2.1)), (50, .bool (((mk N most (21, wd, ix, 0, 0, 0)).2.1) == 0))] ?_
     refine zO (((mk N most (21, wd, ix, 0, 0, 0)).2.1) == 0) (fun hc14 => ?_) (fun hc14 => ?_)
     ·
      replace hc14 : (mk N most (21, wd, ix, 0, 0, 0)).2.1 = 0 := (eq_of_beq hc14)
      obtain ⟨A2, cp2, ma2, mw2, hP, hOw, hM, hW, hne, fp, fa, fw, fA, hlt⟩ := id hL
      refine zR ?_
      refine zS [(51, .pointer (some ⟨p, 0, none⟩)), (52, .pointer (some ⟨p, 0, none⟩)), (53, .pointer (some ⟨p, 2, none⟩))] ?_
      refine zL (.map (some mw2)) ((hP.cell 2).trans rfl) ?_
      refine zS [(55, .int .i64 ix), (56, .int .i64 wd)] ?_
      refine st (by rfl) (S_updateE 3 3 key_law3 (key := .int .i64 ix) (val := .int .i64 wd) (by kernel_rfl) (by kernel_rfl) (by kernel_rfl) (by kernel_rfl) (key_int hix) hW fun w15 hT16 hs17 hW1 => ?_)
      have hL : TLow F12 w15 p most ((mk N most (21, wd, ix, 0, 0, 0)).2.2) (fun x y => (x ≠ .int .i64 ix ∧ wdR N x y) ∨ (x = .int .i64 ix ∧ y = .int .i64 wd)) := ⟨A2, cp2, ma2, mw2, hP.tch hT16 (fun e => hW.ne hP (Eq.symm e)), hOw.tch hT16 (fun c hc e => hOw.ne_mapE hW c hc e), hM.tch hT16 (fun e => hne e), hW1, hne, fp, fa, fw, fA, fun b hb => by rw [hs17]; exact hlt b hb⟩
      have hMv := hMv.trans (.same (hT16.weaken (fun b _ e => by have : b = mw2 := e; rw [this]; exact fw)))
      refine op_nil ?_
      refine W_seq ?_
      refine zF [(0, .pointer (some ⟨p, 0, none⟩)), (1, .int .i64 wd), (2, .int .i64 ix), (6, .int .i64 0), (7, .int .i64 0), (8, .int .i64 q6), (9, .bool false), (10, .int .i64 ((mk N most (21, wd, ix, 0, 0, 0)).1)), (11, .int .i64 ((mk N most (21, wd, ix, 0, 0, 0)).2.1)), (12, .bool false), (15, .bool ((maskF wd) == 0)), (19, .bool (decide (ix ≥ 256))), (40, .bool false), (50, .bool (((mk N most (21, wd, ix, 0, 0, 0)).2.1) == 0))] fun ρ => ?_
      refine zR ?_
      refine zS [(57, .int .i64 ((mk N most (21, wd, ix, 0, 0, 0)).1)), (58, .int .i64 ((mk N most (21, wd, ix, 0, 0, 0)).2.1)), (6, .int .i64 ((mk N most (21, wd, ix, 0, 0, 0)).1)), (7, .int .i64 ((mk N most (21, wd, ix, 0, 0, 0)).2.1))] ?_
      refine op_nil ?_
      refine W_ret ?_
      refine ⟨_, Res_of (v := .tuple #[.int .i64 ((mk N most (21, wd, ix, 0, 0, 0)).1), .int .i64 ((mk N most (21, wd, ix, 0, 0, 0)).2.1)]) (by kernel_rfl), ?_⟩
      have e : varF N most wd ix = mk N most (21, wd, ix, 0, 0, 0) := by unfold varF; rw [if_neg (by omega), if_neg (by omega), if_neg hvb]
      rw [e]
      unfold TRet
      exact ⟨rfl, _, ⟨hL.congr (var_wd hvb (by assumption)), mk_TJ hJ hwf (by show 1 ≤ (wd : Int) ∧ (wd : Int) ≤ 64; omega) (var_hv hvb)⟩, hMv⟩
     ·
      replace hc14 : (mk N most (21, wd, ix, 0, 0, 0)).2.1 ≠ 0 := (ne_of_beq_false hc14)
      refine W_skip ?_
      refine zQ ?_
      refine zS [(57, .int .i64 ((mk N most (21, wd, ix, 0, 0, 0)).1)), (58, .int .i64 ((mk N most (21, wd, ix, 0, 0, 0)).2.1)), (6, .int .i64 ((mk N most (21, wd, ix, 0, 0, 0)).1)), (7, .int .i64 ((mk N most (21, wd, ix, 0, 0, 0)).2.1))] ?_
      refine op_nil ?_
      refine W_ret ?_
      refine ⟨_, Res_of (v := .tuple #[.int .i64 ((mk N most (21, wd, ix, 0, 0, 0)).1), .int .i64 ((mk N most (21, wd, ix, 0, 0, 0)).2.1)]) (by kernel_rfl), ?_⟩
      have e : varF N most wd ix = mk N most (21, wd, ix, 0, 0, 0) := by unfold varF; rw [if_neg (by omega), if_neg (by omega), if_neg hvb]
      rw [e]
      unfold TRet
      exact ⟨rfl, _, ⟨hL.congr (by rw [mk_err (by assumption)]; exact fun _ _ => Iff.rfl), mk_TJ hJ hwf (by show 1 ≤ (wd : Int) ∧ (wd : Int) ≤ 64; omega) (var_hv hvb)⟩, hMv⟩
    ·
     replace hb10 : ok7 = true := (hb10)
     refine zS [(37, .int .i64 q6), (38, .int .i64 wd), (39, .bool (q6 != wd)), (40, .bool (q6 != wd))] ?_
     refine zO (q6 != wd) (fun hc18 => ?_) (fun hc18 => ?_)
     ·
      replace hc18 : q6 ≠ wd := (bne_iff_ne.1 hc18)
      refine zQ ?_
      refine zS [(6, .int .i64 0), (7, .int .i64 2)] ?_
      refine op_nil ?_
      refine W_ret ?_
      refine ⟨_, Res_of (v := .tuple #[.int .i64 0, .int .i64 2]) (by kernel_rfl), ?_⟩
      obtain ⟨n1, g1, g2, g3, g4⟩ := h18 (by assumption)
      have hvb : varBad N wd ix := ⟨n1, g1, g2, g3, by omega⟩
      have e : varF N most wd ix = (0, 2, N) := by unfold varF; rw [if_neg (by omega), if_neg (by omega), if_pos hvb]
      rw [e]
      unfold TRet
      exact ⟨rfl, F, ⟨hL, hJ⟩, hMv⟩
     ·
      replace hc18 : q6 = wd := (bne_eq_false_iff_eq.1 hc18)
      refine W_skip ?_
      refine W_seq ?_
      have hvb : ¬ varBad N wd ix := by
        rintro ⟨m, g1, g2, g3, g4⟩
        cases ok7 with
        | true =>
         obtain ⟨m2, k1, k2, k3, k4⟩ := h18 rfl
         have := hJ.ti.wid m m2 g1 k1 g2 k2 (by rw [g3, k3])
         simp_all
        | false => exact h29 rfl m g1 g2 g3
      refine zR ?_
      refine zS [(42, .pointer (some ⟨p, 0, none⟩)), (43, .int .i64 wd), (44, .int .i64 ix), (45, .agg #[.int .i64 21, .int .i64 wd, .int .i64 ix, .int .i64 0, .int .i64 0, .int .u64 0])] ?_
      have hwf : nwf (21, wd, ix, 0, 0, 0) := nwf_of (by unfold b64 at *; omega) (by unfold b64 at *; omega) (by unfold b64 at *; omega) (by unfold b64 at *; omega) (by unfold b64 at *; omega) (by unfold u64; omega)
      refine zC (make_ok F p most N (wdR N) (21, wd, ix, 0, 0, 0) _ hL hJ.ti hwf) ?_
      rintro _ w19 ⟨rfl, F20, hL, hm21⟩
      have hMv := hMv.trans hm21
      refine zS [(41, .tuple #[.int .i64 ((mk N most (21, wd, ix, 0, 0, 0)).1), .int .i64 ((mk N most (21, wd, ix, 0, 0, 0)).2.1)]), (47, .int .i64 ((mk N most (21, wd, ix, 0, 0, 0)).1)), (48, .int .i64 ((mk N most (21, wd, ix, 0, 0, 0)).2.1)), (10, .int .i64 ((mk N most (21, wd, ix, 0, 0, 0)).1)), (11, .int .i64 ((mk N most (21, wd, ix, 0, 0, 0)).2.1))] ?_
      refine op_nil ?_
      refine W_seq ?_
      refine W_seq ?_
      refine zF [(0, .pointer (some ⟨p, 0, none⟩)), (1, .int .i64 wd), (2, .int .i64 ix), (6, .int .i64 0), (7, .int .i64 0), (8, .int .i64 q6), (9, .bool true), (10, .int .i64 ((mk N most (21, wd, ix, 0, 0, 0)).1)), (11, .int .i64 ((mk N most (21, wd, ix, 0, 0, 0)).2.1)), (12, .bool false), (15, .bool ((maskF wd) == 0)), (19, .bool (decide (ix ≥ 256))), (40, .bool (q6 != wd))] fun ρ => ?_
      refine zR ?_
      refine zS [(49, .int .i64 ((mk N most (21, wd, ix, 0, 0, 0)).2.1)), (50, .bool (((mk N most (21, wd, ix, 0, 0, 0)).2.1) == 0))] ?_
      refine zO (((mk N most (21, wd, ix, 0, 0, 0)).2.1) == 0) (fun hc22 => ?_) (fun hc22 => ?_)
      ·
       replace hc22 : (mk N most (21, wd, ix, 0, 0, 0)).2.1 = 0 := (eq_of_beq hc22)
       obtain ⟨A2, cp2, ma2, mw2, hP, hOw, hM, hW, hne, fp, fa, fw, fA, hlt⟩ := id hL
       refine zR ?_
       refine zS [(51, .pointer (some ⟨p, 0, none⟩)), (52, .pointer (some ⟨p, 0, none⟩)), (53, .pointer (some ⟨p, 2, none⟩))] ?_
       refine zL (.map (some mw2)) ((hP.cell 2).trans rfl) ?_
       refine zS [(55, .int .i64 ix), (56, .int .i64 wd)] ?_
       refine st (by rfl) (S_updateE 3 3 key_law3 (key := .int .i64 ix) (val := .int .i64 wd) (by kernel_rfl) (by kernel_rfl) (by kernel_rfl) (by kernel_rfl) (key_int hix) hW fun w23 hT24 hs25 hW1 => ?_)
       have hL : TLow F20 w23 p most ((mk N most (21, wd, ix, 0, 0, 0)).2.2) (fun x y => (x ≠ .int .i64 ix ∧ wdR N x y) ∨ (x = .int .i64 ix ∧ y = .int .i64 wd)) := ⟨A2, cp2, ma2, mw2, hP.tch hT24 (fun e => hW.ne hP (Eq.symm e)), hOw.tch hT24 (fun c hc e => hOw.ne_mapE hW c hc e), hM.tch hT24 (fun e => hne e), hW1, hne, fp, fa, fw, fA, fun b hb => by rw [hs25]; exact hlt b hb⟩
       have hMv := hMv.trans (.same (hT24.weaken (fun b _ e => by have : b = mw2 := e; rw [this]; exact fw)))
       refine op_nil ?_
       refine W_seq ?_
       refine zF [(0, .pointer (some ⟨p, 0, none⟩)), (1, .int .i64 wd), (2, .int .i64 ix), (6, .int .i64 0), (7, .int .i64 0), (8, .int .i64 q6), (9, .bool true), (10, .int .i64 ((mk N most (21, wd, ix, 0, 0, 0)).1)), (11, .int .i64 ((mk N most (21, wd, ix, 0, 0, 0)).2.1)), (12, .bool false), (15, .bool ((maskF wd) == 0)), (19, .bool (decide (ix ≥ 256))), (40, .bool (q6 != wd)), (50, .bool (((mk N most (21, wd, ix, 0, 0, 0)).2.1) == 0))] fun ρ => ?_
       refine zR ?_
       refine zS [(57, .int .i64 ((mk N most (21, wd, ix, 0, 0, 0)).1)), (58, .int .i64 ((mk N most (21, wd, ix, 0, 0, 0)).2.1)), (6, .int .i64 ((mk N most (21, wd, ix, 0, 0, 0)).1)), (7, .int .i64 ((mk N most (21, wd, ix, 0, 0, 0)).2.1))] ?_
       refine op_nil ?_
       refine W_ret ?_
       refine ⟨_, Res_of (v := .tuple #[.int .i64 ((mk N most (21, wd, ix, 0, 0, 0)).1), .int .i64 ((mk N most (21, wd, ix, 0, 0, 0)).2.1)]) (by kernel_rfl), ?_⟩
       have e : varF N most wd ix = mk N most (21, wd, ix, 0, 0, 0) := by unfold varF; rw [if_neg (by omega), if_neg (by omega), if_neg hvb]
       rw [e]
       unfold TRet
       exact ⟨rfl, _, ⟨hL.congr (var_wd hvb (by assumption)), mk_TJ hJ hwf (by show 1 ≤ (wd : Int) ∧ (wd : Int) ≤ 64; omega) (var_hv hvb)⟩, hMv⟩
      ·
       replace hc22 : (mk N most (21, wd, ix, 0, 0, 0)).2.1 ≠ 0 := (ne_of_beq_false hc22)
       refine W_skip ?_
       refine zQ ?_
       refine zS [(57, .int .i64 ((mk N most (21, wd, ix, 0, 0, 0)).1)), (58, .int .i64 ((mk N most (21, wd, ix, 0, 0, 0)).2.1)), (6, .int .i64 ((mk N most (21, wd, ix, 0, 0, 0)).1)), (7, .int .i64 ((mk N most (21, wd, ix, 0, 0, 0)).2.1))] ?_
       refine op_nil ?_
       refine W_ret ?_
       refine ⟨_, Res_of (v := .tuple #[.int .i64 ((mk N most (21, wd, ix, 0, 0, 0)).1), .int .i64 ((mk N most (21, wd, ix, 0, 0, 0)).2.1)]) (by kernel_rfl), ?_⟩
       have e : varF N most wd ix = mk N most (21, wd, ix, 0, 0, 0) := by unfold varF; rw [if_neg (by omega), if_neg (by omega), if_neg hvb]
       rw [e]
       unfold TRet
       exact ⟨rfl, _, ⟨hL.congr (by rw [mk_err (by assumption)]; exact fun _ _ => Iff.rfl), mk_TJ hJ hwf (by show 1 ≤ (wd : Int) ∧ (wd : Int) ≤ 64; omega) (var_hv hvb)⟩, hMv⟩
  ·
   replace hb4 : ix < 0 := (of_decide_eq_true hb4)
   refine zS [(23, undef), (24, undef), (25, .bool true), (19, .bool true)] ?_
   refine zO true (fun _ => ?_) (fun h => nomatch h)
   refine zQ ?_
   refine zS [(6, .int .i64 0), (7, .int .i64 10)] ?_
   refine op_nil ?_
   refine W_ret ?_
   refine ⟨_, Res_of (v := .tuple #[.int .i64 0, .int .i64 10]) (by kernel_rfl), ?_⟩
   have e : varF N most wd ix = (0, 10, N) := by unfold varF; rw [if_neg (by omega), if_pos (by omega)]
   rw [e]
   unfold TRet
   exact ⟨rfl, F, ⟨hL, hJ⟩, hMv⟩

set_option maxRecDepth 100000 in
theorem new_ok (mo : Int) (w : World) : Ret Try.prog 18 [.int .i64 mo] w fun v w' => ∃ p F, v = .pointer (some ⟨p, 0, none⟩) ∧ TObj F w' p (newM mo) [] ∧ Tch N0 w w' ∧ ∀ b, F b → w.heap.size ≤ b := by
 refine enter Try.func18 rfl rfl ?_
 refine zQ ?_
 refine zS [(2, .pointer none)] ?_
 refine op_nil ?_
 refine W_seq ?_
 refine zQ ?_
 refine zS [(3, .int .i64 mo), (4, .bool (decide (mo < 0))), (5, .bool (decide (mo < 0)))] ?_
 cases hb1 : decide (mo < 0)
 ·
  replace hb1 : 0 ≤ mo := (Int.not_lt.1 (of_decide_eq_false hb1))
  refine zS [(6, .int .i64 mo), (7, .bool (decide (mo > 65536))), (8, .bool (decide (mo > 65536)))] ?_
  refine zO (decide (mo > 65536)) (fun hc2 => ?_) (fun hc2 => ?_)
  ·
   replace hc2 : 65536 < mo := (of_decide_eq_true hc2)
   refine zR ?_
   refine zS [(0, .int .i64 0)] ?_
   refine op_nil ?_
   refine W_seq ?_
   refine zF [(0, .int .i64 0), (2, .pointer none), (8, .bool (decide (mo > 65536)))] fun ρ => ?_
   refine zR ?_
   refine st (by rfl) (S_makeMapE 32 fun w3 hT4 hs5 hM1 => ?_)
   have hT0 := hT4
   have hz6 := hT0.size
   refine st (by rfl) (S_makeMapE 3 fun w7 hT8 hs9 hM2 => ?_)
   have hz10 := hT0.size
   have hT0 := hT0.t0 hT8
   have hM1 := hM1.tch0 hT8
   have hz11 := hT0.size
   refine zS [(11, .int .i64 0), (12, .agg #[.slice none 0 0, .map (some w.heap.size), .map (some w3.heap.size), .int .i64 0])] ?_
   have z16 := hT0.size
   refine st (by rfl) (S_new (v := .pointer (some ⟨w7.heap.size, 0, none⟩)) (ob := .cells #[.slice none 0 0, .map (some w.heap.size), .map (some w3.heap.size), .int .i64 0] 74) (by kernel_rfl) fun w12 hT13 hs14 hB15 => ?_)
   replace hB15 : Blk w12 (w7.heap.size) 74 [.slice none 0 0, .map (some w.heap.size), .map (some w3.heap.size), .int .i64 0] := hB15
   have hT0 := hT0.t0 hT13
   have hM1 := hM1.tch0 hT13
   have hM2 := hM2.tch0 hT13
   refine zS [(2, .pointer (some ⟨w7.heap.size, 0, none⟩))] ?_
   refine op_nil ?_
   refine W_ret ?_
   refine ⟨_, Res_of (v := .pointer (some ⟨w7.heap.size, 0, none⟩)) (by kernel_rfl), ?_⟩
   have e : newM mo = 0 := by unfold newM; first | rw [if_pos (by omega)] | rw [if_neg (by omega)]
   have hJ := TJ_zero mo
   rw [e] at hJ ⊢
   refine ⟨_, fun b => b = (w7.heap.size) ∨ b = (w.heap.size) ∨ b = (w3.heap.size), rfl, ⟨⟨none, 0, w.heap.size, w3.heap.size, hB15, Own.nil_ _ _ _ _, hM1.congr (fun x y => ?_), hM2.congr (fun x y => ?_), by omega, .inl rfl, .inr (.inl rfl), .inr (.inr rfl), (fun c hc => by cases hc), ?_⟩, hJ⟩, hT0, ?_⟩
   ·
    constructor
    ·
     rintro ⟨i, n, h, _⟩; simp at h
    ·
     exact fun h => h.elim
   ·
    constructor
    ·
     rintro ⟨n, h, _⟩; simp at h
    ·
     exact fun h => h.elim
   ·
    rintro b (hb | hb | hb)
    ·
     rw [hb]; exact hB15.lt
    ·
     rw [hb]; exact hM1.lt
    ·
     rw [hb]; exact hM2.lt
   ·
    rintro b (hb | hb | hb) <;> rw [hb] <;> omega
  ·
   replace hc2 : mo ≤ 65536 := (Int.not_lt.1 (of_decide_eq_false hc2))
   refine W_skip ?_
   refine zQ ?_
   refine st (by rfl) (S_makeMapE 32 fun w17 hT18 hs19 hM1 => ?_)
   have hT0 := hT18
   have hz20 := hT0.size
   refine st (by rfl) (S_makeMapE 3 fun w21 hT22 hs23 hM2 => ?_)
   have hz24 := hT0.size
   have hT0 := hT0.t0 hT22
   have hM1 := hM1.tch0 hT22
   have hz25 := hT0.size
   refine zS [(11, .int .i64 mo), (12, .agg #[.slice none 0 0, .map (some w.heap.size), .map (some w17.heap.size), .int .i64 mo])] ?_
   have z30 := hT0.size
   refine st (by rfl) (S_new (v := .pointer (some ⟨w21.heap.size, 0, none⟩)) (ob := .cells #[.slice none 0 0, .map (some w.heap.size), .map (some w17.heap.size), .int .i64 mo] 74) (by kernel_rfl) fun w26 hT27 hs28 hB29 => ?_)
   replace hB29 : Blk w26 (w21.heap.size) 74 [.slice none 0 0, .map (some w.heap.size), .map (some w17.heap.size), .int .i64 mo] := hB29
   have hT0 := hT0.t0 hT27
   have hM1 := hM1.tch0 hT27
   have hM2 := hM2.tch0 hT27
   refine zS [(2, .pointer (some ⟨w21.heap.size, 0, none⟩))] ?_
   refine op_nil ?_
   refine W_ret ?_
   refine ⟨_, Res_of (v := .pointer (some ⟨w21.heap.size, 0, none⟩)) (by kernel_rfl), ?_⟩
   have e : newM mo = mo := by unfold newM; first | rw [if_pos (by omega)] | rw [if_neg (by omega)]
   have hJ := TJ_zero mo
   rw [e] at hJ ⊢
   refine ⟨_, fun b => b = (w21.heap.size) ∨ b = (w.heap.size) ∨ b = (w17.heap.size), rfl, ⟨⟨none, 0, w.heap.size, w17.heap.size, hB29, Own.nil_ _ _ _ _, hM1.congr (fun x y => ?_), hM2.congr (fun x y => ?_), by omega, .inl rfl, .inr (.inl rfl), .inr (.inr rfl), (fun c hc => by cases hc), ?_⟩, hJ⟩, hT0, ?_⟩
   ·
    constructor
    ·
     rintro ⟨i, n, h, _⟩; simp at h
    ·
     exact fun h => h.elim
   ·
    constructor
    ·
     rintro ⟨n, h, _⟩; simp at h
    ·
     exact fun h => h.elim
   ·
    rintro b (hb | hb | hb)
    ·
     rw [hb]; exact hB29.lt
    ·
     rw [hb]; exact hM1.lt
    ·
     rw [hb]; exact hM2.lt
   ·
    rintro b (hb | hb | hb) <;> rw [hb] <;> omega
 ·
  replace hb1 : mo < 0 := (of_decide_eq_true hb1)
  refine zS [(6, undef), (7, undef), (8, .bool true)] ?_
  refine zO true (fun _ => ?_) (fun h => nomatch h)
  refine zR ?_
  refine zS [(0, .int .i64 0)] ?_
  refine op_nil ?_
  refine W_seq ?_
  refine zF [(0, .int .i64 0), (2, .pointer none), (8, .bool true)] fun ρ => ?_
  refine zR ?_
  refine st (by rfl) (S_makeMapE 32 fun w31 hT32 hs33 hM1 => ?_)
  have hT0 := hT32
  have hz34 := hT0.size
  refine st (by rfl) (S_makeMapE 3 fun w35 hT36 hs37 hM2 => ?_)
  have hz38 := hT0.size
  have hT0 := hT0.t0 hT36
  have hM1 := hM1.tch0 hT36
  have hz39 := hT0.size
  refine zS [(11, .int .i64 0), (12, .agg #[.slice none 0 0, .map (some w.heap.size), .map (some w31.heap.size), .int .i64 0])] ?_
  have z44 := hT0.size
  refine st (by rfl) (S_new (v := .pointer (some ⟨w35.heap.size, 0, none⟩)) (ob := .cells #[.slice none 0 0, .map (some w.heap.size), .map (some w31.heap.size), .int .i64 0] 74) (by kernel_rfl) fun w40 hT41 hs42 hB43 => ?_)
  replace hB43 : Blk w40 (w35.heap.size) 74 [.slice none 0 0, .map (some w.heap.size), .map (some w31.heap.size), .int .i64 0] := hB43
  have hT0 := hT0.t0 hT41
  have hM1 := hM1.tch0 hT41
  have hM2 := hM2.tch0 hT41
  refine zS [(2, .pointer (some ⟨w35.heap.size, 0, none⟩))] ?_
  refine op_nil ?_
  refine W_ret ?_
  refine ⟨_, Res_of (v := .pointer (some ⟨w35.heap.size, 0, none⟩)) (by kernel_rfl), ?_⟩
  have e : newM mo = 0 := by unfold newM; first | rw [if_pos (by omega)] | rw [if_neg (by omega)]
  have hJ := TJ_zero mo
  rw [e] at hJ ⊢
  refine ⟨_, fun b => b = (w35.heap.size) ∨ b = (w.heap.size) ∨ b = (w31.heap.size), rfl, ⟨⟨none, 0, w.heap.size, w31.heap.size, hB43, Own.nil_ _ _ _ _, hM1.congr (fun x y => ?_), hM2.congr (fun x y => ?_), by omega, .inl rfl, .inr (.inl rfl), .inr (.inr rfl), (fun c hc => by cases hc), ?_⟩, hJ⟩, hT0, ?_⟩
  ·
   constructor
   ·
    rintro ⟨i, n, h, _⟩; simp at h
   ·
    exact fun h => h.elim
  ·
   constructor
   ·
    rintro ⟨n, h, _⟩; simp at h
   ·
    exact fun h => h.elim
  ·
   rintro b (hb | hb | hb)
   ·
    rw [hb]; exact hB43.lt
   ·
    rw [hb]; exact hM1.lt
   ·
    rw [hb]; exact hM2.lt
  ·
   rintro b (hb | hb | hb) <;> rw [hb] <;> omega

end Go.Proofs.YtlbadnpgmkobdaaV

set_option linter.unusedVariables false
set_option linter.unusedSimpArgs false
namespace Go.Proofs.YtlbadnpgmkobdaaV
open Go Go.RowKit Go.Proofs
theorem eqg32 : Try.prog.eqGuardType Try.prog.depth 32 = false := by kernel_rfl
set_option maxRecDepth 100000 in
theorem equal_nd (w : World) {n m : Nd} (hn : nwf n) (hm : nwf m) : (Op.equal 32 (nodeV n) (nodeV m)).run Try.prog w = .ok (decide (n = m)) w := by
 obtain ⟨l1, h1⟩ := key_nd hn
 obtain ⟨l2, h2⟩ := key_nd hm
 obtain ⟨r, hr, hi⟩ := Go.run_equal_deep w (m := 3) (by omega) keyT32 (by rw [Try.underlying32]) h1 h2
 rw [hr]
 congr 1
 have : r = true ↔ n = m := hi.trans ⟨fun e => nodeV_inj (key_law32.inj h1 (e ▸ h2)), fun e => by subst e; rw [h1] at h2; injection h2⟩
 cases r <;> simp_all
section
variable {ρ : Env} {w : World}
set_option maxRecDepth 100000 in
theorem R_eqNd {d : Option Tmp} {u : TypeId} {x y : Operand} {ty : TypeId} {pos : String} {af : Array Edge} {g : Option (Nat × Bool)} (n m : Nd) (hx : evR ρ x = nodeV n) (hy : evR ρ y = nodeV m) (hn : nwf n) (hm : nwf m) :
  (execOp (evR ρ) ⟨d, .binOp .eql 32 x y u, ty, pos, af, g⟩).run Try.prog w = .ok (.value (.bool (decide (n = m)))) w := by
 have e := equal_nd w hn hm
 simp only [execOp, hx, hy]
 obtain ⟨c1, q1⟩ : ∃ c, nodeV n = .agg c := ⟨_, rfl⟩
 obtain ⟨c2, q2⟩ : ∃ c, nodeV m = .agg c := ⟨_, rfl⟩
 rw [q1, q2] at e ⊢
 simp [eqGuard, run_underlying Try.underlying32, eqg32, binOp, e]
end
end Go.Proofs.YtlbadnpgmkobdaaV

set_option linter.unusedVariables false
set_option linter.unusedSimpArgs false
namespace Go.Proofs.YtlbadnpgmkobdaaV
open Go Go.RowKit Go.Proofs

/-- A deed's term. -/
def madeF (N : List Nd) (most k w a b c x : Int) : TR := if k = 0 then constF N most w x else if k = 1 then varF N most w a else if k = 2 then unaF N most a b else if k = 3 then binF N most a b c else if k = 4 then iteF N most a b c else if k = 5 then extF N most a b w else if k = 6 then catF N most a b else exdF N most a w (b.tmod 2 != 0)
theorem TRet.lit {F : Nat → Prop} {p : Nat} {most : Int} {w : World} {r : TR} {v : Value} {w' : World} {i e : Int} {N' : List Nd} (h : TRet F p most w r v w') (q : r = (i, e, N')) : v = .tuple #[.int .i64 i, .int .i64 e] ∧ ∃ F', TObj F' w' p most N' ∧ Mv F F' w w' := by subst q; exact h

set_option maxRecDepth 100000 in
theorem made_ok (F : Nat → Prop) (p : Nat) (most : Int) (N : List Nd) (k wd a b c x : Int) (w : World) (hO : TObj F w p most N) (hk : b64 k) (hwd : b64 wd) (ha : b64 a) (hb : b64 b) (hc : b64 c) (hx : u64 x) : Ret Try.prog 19 [.pointer (some ⟨p, 0, none⟩), .agg #[.int .i64 k, .int .i64 wd, .int .i64 a, .int .i64 b, .int .i64 c, .int .u64 x]] w fun v w' => TRet F p most w (madeF N most k wd a b c x) v w' := by
 have hMv := Mv.refl F w
 refine enter Try.func19 rfl rfl ?_
 refine zQ ?_
 have hlt_ := hO.1.lt
 have hz5 := hMv.1.size
 refine st (by rfl) (S_new (v := .pointer (some ⟨w.heap.size, 0, none⟩)) (ob := .cells #[.int .i64 k, .int .i64 wd, .int .i64 a, .int .i64 b, .int .i64 c, .int .u64 x] 44) (by kernel_rfl) fun w1 hT2 hs3 hB4 => ?_)
 replace hB4 : Blk w1 (w.heap.size) 44 [.int .i64 k, .int .i64 wd, .int .i64 a, .int .i64 b, .int .i64 c, .int .u64 x] := hB4
 have hO := hO.tch0 hT2
 have hMv := hMv.then0 hT2
 have nF_hB4 : ¬ F (w.heap.size) := fun e => by have := hlt_ _ e; omega
 refine zS [(4, .int .i64 0), (5, .int .i64 0)] ?_
 refine op_nil ?_
 refine W_seq ?_
 refine zQ ?_
 refine zS [(6, .pointer (some ⟨w.heap.size, 0, none⟩))] ?_
 refine zL (.int .i64 k) ((hB4.cell 0).trans rfl) ?_
 refine op_nil ?_
 refine W_block ?_
 refine zQ ?_
 refine zS [(9, .bool (k == 0)), (8, .bool (k == 0))] ?_
 refine zO (k == 0) (fun hc6 => ?_) (fun hc6 => ?_)
 ·
  replace hc6 : k = 0 := (eq_of_beq hc6)
  refine zQ ?_
  refine zS [(10, .pointer (some ⟨p, 0, none⟩)), (11, .pointer (some ⟨w.heap.size, 1, none⟩))] ?_
  refine zL (.int .i64 wd) ((hB4.cell 1).trans rfl) ?_
  refine zS [(13, .pointer (some ⟨w.heap.size, 5, none⟩))] ?_
  refine zL (.int .u64 x) ((hB4.cell 5).trans rfl) ?_
  have lt10 := hB4.lt
  refine zC (const_ok F p most N wd x _ hO (by assumption) (by assumption)) ?_
  rintro _ w7 ⟨rfl, F8, hO, hm9⟩
  have hMv := hMv.trans hm9
  have hB4 := hB4.tch hm9.1 nF_hB4
  refine zS [(16, .int .i64 ((constF N most wd x).1)), (17, .int .i64 ((constF N most wd x).2.1)), (4, .int .i64 ((constF N most wd x).1)), (5, .int .i64 ((constF N most wd x).2.1))] ?_
  refine op_nil ?_
  refine W_ret ?_
  refine ⟨_, Res_of (v := .tuple #[.int .i64 ((constF N most wd x).1), .int .i64 ((constF N most wd x).2.1)]) (by kernel_rfl), ?_⟩
  have e : madeF N most k wd a b c x = constF N most wd x := by unfold madeF; rw [if_pos (by omega)]
  rw [e]
  unfold TRet
  exact ⟨rfl, _, hO, hMv⟩
 ·
  replace hc6 : k ≠ 0 := (ne_of_beq_false hc6)
  refine zQ ?_
  refine zS [(19, .bool (k == 1)), (18, .bool (k == 1))] ?_
  refine zO (k == 1) (fun hc11 => ?_) (fun hc11 => ?_)
  ·
   replace hc11 : k = 1 := (eq_of_beq hc11)
   refine W_seq ?_
   refine zF [(0, .pointer (some ⟨p, 0, none⟩)), (1, .agg #[.int .i64 k, .int .i64 wd, .int .i64 a, .int .i64 b, .int .i64 c, .int .u64 x]), (3, .pointer (some ⟨w.heap.size, 0, none⟩)), (4, .int .i64 0), (5, .int .i64 0), (7, .int .i64 k), (8, .bool (k == 0)), (18, .bool (k == 1))] fun ρ => ?_
   refine zR ?_
   refine zS [(20, .pointer (some ⟨p, 0, none⟩)), (21, .pointer (some ⟨w.heap.size, 1, none⟩))] ?_
   refine zL (.int .i64 wd) ((hB4.cell 1).trans rfl) ?_
   refine zS [(23, .pointer (some ⟨w.heap.size, 2, none⟩))] ?_
   refine zL (.int .i64 a) ((hB4.cell 2).trans rfl) ?_
   have lt15 := hB4.lt
   refine zC (var_ok F p most N wd a _ hO (by assumption) (by assumption)) ?_
   rintro _ w12 ⟨rfl, F13, hO, hm14⟩
   have hMv := hMv.trans hm14
   have hB4 := hB4.tch hm14.1 nF_hB4
   refine zS [(26, .int .i64 ((varF N most wd a).1)), (27, .int .i64 ((varF N most wd a).2.1)), (4, .int .i64 ((varF N most wd a).1)), (5, .int .i64 ((varF N most wd a).2.1))] ?_
   refine op_nil ?_
   refine W_ret ?_
   refine ⟨_, Res_of (v := .tuple #[.int .i64 ((varF N most wd a).1), .int .i64 ((varF N most wd a).2.1)]) (by kernel_rfl), ?_⟩
   have e : madeF N most k wd a b c x = varF N most wd a := by unfold madeF; rw [if_neg (by omega), if_pos (by omega)]
   rw [e]
   unfold TRet
   exact ⟨rfl, _, hO, hMv⟩
  ·
   replace hc11 : k ≠ 1 := (ne_of_beq_false hc11)
   refine W_seq ?_
   refine zF [(0, .pointer (some ⟨p, 0, none⟩)), (1, .agg #[.int .i64 k, .int .i64 wd, .int .i64 a, .int .i64 b, .int .i64 c, .int .u64 x]), (3, .pointer (some ⟨w.heap.size, 0, none⟩)), (4, .int .i64 0), (5, .int .i64 0), (7, .int .i64 k), (8, .bool (k == 0)), (18, .bool (k == 1))] fun ρ => ?_
   refine zR ?_
   refine zS [(29, .bool (k == 2)), (28, .bool (k == 2))] ?_
   refine zO (k == 2) (fun hc16 => ?_) (fun hc16 => ?_)
   ·
    replace hc16 : k = 2 := (eq_of_beq hc16)
    refine zQ ?_
    refine zS [(30, .pointer (some ⟨p, 0, none⟩)), (31, .pointer (some ⟨w.heap.size, 2, none⟩))] ?_
    refine zL (.int .i64 a) ((hB4.cell 2).trans rfl) ?_
    refine zS [(33, .pointer (some ⟨w.heap.size, 3, none⟩))] ?_
    refine zL (.int .i64 b) ((hB4.cell 3).trans rfl) ?_
    have lt20 := hB4.lt
    refine zC (una_ok F p most N a b _ hO (by assumption) (by assumption)) ?_
    rintro _ w17 ⟨rfl, F18, hO, hm19⟩
    have hMv := hMv.trans hm19
    have hB4 := hB4.tch hm19.1 nF_hB4
    refine zS [(36, .int .i64 ((unaF N most a b).1)), (37, .int .i64 ((unaF N most a b).2.1)), (4, .int .i64 ((unaF N most a b).1)), (5, .int .i64 ((unaF N most a b).2.1))] ?_
    refine op_nil ?_
    refine W_ret ?_
    refine ⟨_, Res_of (v := .tuple #[.int .i64 ((unaF N most a b).1), .int .i64 ((unaF N most a b).2.1)]) (by kernel_rfl), ?_⟩
    have e : madeF N most k wd a b c x = unaF N most a b := by unfold madeF; rw [if_neg (by omega), if_neg (by omega), if_pos (by omega)]
    rw [e]
    unfold TRet
    exact ⟨rfl, _, hO, hMv⟩
   ·
    replace hc16 : k ≠ 2 := (ne_of_beq_false hc16)
    refine zQ ?_
    refine zS [(39, .bool (k == 3)), (38, .bool (k == 3))] ?_
    refine zO (k == 3) (fun hc21 => ?_) (fun hc21 => ?_)
    ·
     replace hc21 : k = 3 := (eq_of_beq hc21)
     refine zQ ?_
     refine zS [(40, .pointer (some ⟨p, 0, none⟩)), (41, .pointer (some ⟨w.heap.size, 2, none⟩))] ?_
     refine zL (.int .i64 a) ((hB4.cell 2).trans rfl) ?_
     refine zS [(43, .pointer (some ⟨w.heap.size, 3, none⟩))] ?_
     refine zL (.int .i64 b) ((hB4.cell 3).trans rfl) ?_
     refine zS [(45, .pointer (some ⟨w.heap.size, 4, none⟩))] ?_
     refine zL (.int .i64 c) ((hB4.cell 4).trans rfl) ?_
     have lt25 := hB4.lt
     refine zC (bin_ok F p most N a b c _ hO (by assumption) (by assumption) (by assumption)) ?_
     rintro _ w22 ⟨rfl, F23, hO, hm24⟩
     have hMv := hMv.trans hm24
     have hB4 := hB4.tch hm24.1 nF_hB4
     refine zS [(48, .int .i64 ((binF N most a b c).1)), (49, .int .i64 ((binF N most a b c).2.1)), (4, .int .i64 ((binF N most a b c).1)), (5, .int .i64 ((binF N most a b c).2.1))] ?_
     refine op_nil ?_
     refine W_ret ?_
     refine ⟨_, Res_of (v := .tuple #[.int .i64 ((binF N most a b c).1), .int .i64 ((binF N most a b c).2.1)]) (by kernel_rfl), ?_⟩
     have e : madeF N most k wd a b c x = binF N most a b c := by unfold madeF; rw [if_neg (by omega), if_neg (by omega), if_neg (by omega), if_pos (by omega)]
     rw [e]
     unfold TRet
     exact ⟨rfl, _, hO, hMv⟩
    ·
     replace hc21 : k ≠ 3 := (ne_of_beq_false hc21)
     refine zQ ?_
     refine zS [(51, .bool (k == 4)), (50, .bool (k == 4))] ?_
     refine zO (k == 4) (fun hc26 => ?_) (fun hc26 => ?_)
     ·
      replace hc26 : k = 4 := (eq_of_beq hc26)
      refine zQ ?_
      refine zS [(52, .pointer (some ⟨p, 0, none⟩)), (53, .pointer (some ⟨w.heap.size, 2, none⟩))] ?_
      refine zL (.int .i64 a) ((hB4.cell 2).trans rfl) ?_
      refine zS [(55, .pointer (some ⟨w.heap.size, 3, none⟩))] ?_
      refine zL (.int .i64 b) ((hB4.cell 3).trans rfl) ?_
      refine zS [(57, .pointer (some ⟨w.heap.size, 4, none⟩))] ?_
      refine zL (.int .i64 c) ((hB4.cell 4).trans rfl) ?_
      have lt30 := hB4.lt
      refine zC (ite_ok F p most N a b c _ hO (by assumption) (by assumption) (by assumption)) ?_
      rintro _ w27 ⟨rfl, F28, hO, hm29⟩
      have hMv := hMv.trans hm29
      have hB4 := hB4.tch hm29.1 nF_hB4
      refine zS [(60, .int .i64 ((iteF N most a b c).1)), (61, .int .i64 ((iteF N most a b c).2.1)), (4, .int .i64 ((iteF N most a b c).1)), (5, .int .i64 ((iteF N most a b c).2.1))] ?_
      refine op_nil ?_
      refine W_ret ?_
      refine ⟨_, Res_of (v := .tuple #[.int .i64 ((iteF N most a b c).1), .int .i64 ((iteF N most a b c).2.1)]) (by kernel_rfl), ?_⟩
      have e : madeF N most k wd a b c x = iteF N most a b c := by unfold madeF; rw [if_neg (by omega), if_neg (by omega), if_neg (by omega), if_neg (by omega), if_pos (by omega)]
      rw [e]
      unfold TRet
      exact ⟨rfl, _, hO, hMv⟩
     ·
      replace hc26 : k ≠ 4 := (ne_of_beq_false hc26)
      refine zQ ?_
      refine zS [(63, .bool (k == 5)), (62, .bool (k == 5))] ?_
      refine zO (k == 5) (fun hc31 => ?_) (fun hc31 => ?_)
      ·
       replace hc31 : k = 5 := (eq_of_beq hc31)
       refine W_seq ?_
       refine zF [(0, .pointer (some ⟨p, 0, none⟩)), (1, .agg #[.int .i64 k, .int .i64 wd, .int .i64 a, .int .i64 b, .int .i64 c, .int .u64 x]), (3, .pointer (some ⟨w.heap.size, 0, none⟩)), (4, .int .i64 0), (5, .int .i64 0), (7, .int .i64 k), (8, .bool (k == 0)), (18, .bool (k == 1)), (28, .bool (k == 2)), (38, .bool (k == 3)), (50, .bool (k == 4)), (62, .bool (k == 5))] fun ρ => ?_
       refine zR ?_
       refine zS [(64, .pointer (some ⟨p, 0, none⟩)), (65, .pointer (some ⟨w.heap.size, 2, none⟩))] ?_
       refine zL (.int .i64 a) ((hB4.cell 2).trans rfl) ?_
       refine zS [(67, .pointer (some ⟨w.heap.size, 3, none⟩))] ?_
       refine zL (.int .i64 b) ((hB4.cell 3).trans rfl) ?_
       refine zS [(69, .pointer (some ⟨w.heap.size, 1, none⟩))] ?_
       refine zL (.int .i64 wd) ((hB4.cell 1).trans rfl) ?_
       have lt35 := hB4.lt
       refine zC (ext_ok F p most N a b wd _ hO (by assumption) (by assumption) (by assumption)) ?_
       rintro _ w32 ⟨rfl, F33, hO, hm34⟩
       have hMv := hMv.trans hm34
       have hB4 := hB4.tch hm34.1 nF_hB4
       refine zS [(72, .int .i64 ((extF N most a b wd).1)), (73, .int .i64 ((extF N most a b wd).2.1)), (4, .int .i64 ((extF N most a b wd).1)), (5, .int .i64 ((extF N most a b wd).2.1))] ?_
       refine op_nil ?_
       refine W_ret ?_
       refine ⟨_, Res_of (v := .tuple #[.int .i64 ((extF N most a b wd).1), .int .i64 ((extF N most a b wd).2.1)]) (by kernel_rfl), ?_⟩
       have e : madeF N most k wd a b c x = extF N most a b wd := by unfold madeF; rw [if_neg (by omega), if_neg (by omega), if_neg (by omega), if_neg (by omega), if_neg (by omega), if_pos (by omega)]
       rw [e]
       unfold TRet
       exact ⟨rfl, _, hO, hMv⟩
      ·
       replace hc31 : k ≠ 5 := (ne_of_beq_false hc31)
       refine W_seq ?_
       refine zF [(0, .pointer (some ⟨p, 0, none⟩)), (1, .agg #[.int .i64 k, .int .i64 wd, .int .i64 a, .int .i64 b, .int .i64 c, .int .u64 x]), (3, .pointer (some ⟨w.heap.size, 0, none⟩)), (4, .int .i64 0), (5, .int .i64 0), (7, .int .i64 k), (8, .bool (k == 0)), (18, .bool (k == 1)), (28, .bool (k == 2)), (38, .bool (k == 3)), (50, .bool (k == 4)), (62, .bool (k == 5))] fun ρ => ?_
       refine zR ?_
       refine zS [(75, .bool (k == 6)), (74, .bool (k == 6))] ?_
       refine zO (k == 6) (fun hc36 => ?_) (fun hc36 => ?_)
       ·
        replace hc36 : k = 6 := (eq_of_beq hc36)
        refine zQ ?_
        refine zS [(76, .pointer (some ⟨p, 0, none⟩)), (77, .pointer (some ⟨w.heap.size, 2, none⟩))] ?_
        refine zL (.int .i64 a) ((hB4.cell 2).trans rfl) ?_
        refine zS [(79, .pointer (some ⟨w.heap.size, 3, none⟩))] ?_
        refine zL (.int .i64 b) ((hB4.cell 3).trans rfl) ?_
        have lt40 := hB4.lt
        refine zC (cat_ok F p most N a b _ hO (by assumption) (by assumption)) ?_
        rintro _ w37 ⟨rfl, F38, hO, hm39⟩
        have hMv := hMv.trans hm39
        have hB4 := hB4.tch hm39.1 nF_hB4
        refine zS [(82, .int .i64 ((catF N most a b).1)), (83, .int .i64 ((catF N most a b).2.1)), (4, .int .i64 ((catF N most a b).1)), (5, .int .i64 ((catF N most a b).2.1))] ?_
        refine op_nil ?_
        refine W_ret ?_
        refine ⟨_, Res_of (v := .tuple #[.int .i64 ((catF N most a b).1), .int .i64 ((catF N most a b).2.1)]) (by kernel_rfl), ?_⟩
        have e : madeF N most k wd a b c x = catF N most a b := by unfold madeF; rw [if_neg (by omega), if_neg (by omega), if_neg (by omega), if_neg (by omega), if_neg (by omega), if_neg (by omega), if_pos (by omega)]
        rw [e]
        unfold TRet
        exact ⟨rfl, _, hO, hMv⟩
       ·
        replace hc36 : k ≠ 6 := (ne_of_beq_false hc36)
        refine W_skip ?_
        refine zQ ?_
        refine zS [(84, .pointer (some ⟨p, 0, none⟩)), (85, .pointer (some ⟨w.heap.size, 2, none⟩))] ?_
        refine zL (.int .i64 a) ((hB4.cell 2).trans rfl) ?_
        refine zS [(87, .pointer (some ⟨w.heap.size, 1, none⟩))] ?_
        refine zL (.int .i64 wd) ((hB4.cell 1).trans rfl) ?_
        refine zS [(89, .pointer (some ⟨w.heap.size, 3, none⟩))] ?_
        refine zL (.int .i64 b) ((hB4.cell 3).trans rfl) ?_
        refine zS [(91, .int .i64 (b.tmod 2)), (92, .bool ((b.tmod 2) != 0))] ?_
        have lt44 := hB4.lt
        refine zC (exd_ok F p most N a wd ((b.tmod 2) != 0) _ hO (by assumption) (by assumption)) ?_
        rintro _ w41 ⟨rfl, F42, hO, hm43⟩
        have hMv := hMv.trans hm43
        have hB4 := hB4.tch hm43.1 nF_hB4
        refine zS [(94, .int .i64 ((exdF N most a wd ((b.tmod 2) != 0)).1)), (95, .int .i64 ((exdF N most a wd ((b.tmod 2) != 0)).2.1)), (4, .int .i64 ((exdF N most a wd ((b.tmod 2) != 0)).1)), (5, .int .i64 ((exdF N most a wd ((b.tmod 2) != 0)).2.1))] ?_
        refine op_nil ?_
        refine W_ret ?_
        refine ⟨_, Res_of (v := .tuple #[.int .i64 ((exdF N most a wd ((b.tmod 2) != 0)).1), .int .i64 ((exdF N most a wd ((b.tmod 2) != 0)).2.1)]) (by kernel_rfl), ?_⟩
        have e : madeF N most k wd a b c x = exdF N most a wd ((b.tmod 2) != 0) := by unfold madeF; rw [if_neg (by omega), if_neg (by omega), if_neg (by omega), if_neg (by omega), if_neg (by omega), if_neg (by omega), if_neg (by omega)]
        rw [e]
        unfold TRet
        exact ⟨rfl, _, hO, hMv⟩

end Go.Proofs.YtlbadnpgmkobdaaV

set_option linter.unusedVariables false
set_option linter.unusedSimpArgs false
namespace Go.Proofs.YtlbadnpgmkobdaaV
open Go Go.RowKit Go.Proofs

end Go.Proofs.YtlbadnpgmkobdaaV

set_option linter.unusedVariables false
set_option linter.unusedSimpArgs false
namespace Go.Proofs.YtlbadnpgmkobdaaV
open Go Go.RowKit Go.Proofs
theorem nth_app {N : List Nd} {n : Nd} {i : Nat} (h : i < N.length) : nth (N ++ [n]) i = nth N i := by unfold nth; simp [List.getD_eq_getElem?_getD, List.getElem?_append_left h]
theorem nth_last {N : List Nd} {n : Nd} : nth (N ++ [n]) N.length = n := by unfold nth; simp [List.getD_eq_getElem?_getD]
theorem mk_len {N : List Nd} {most : Int} {n : Nd} : N.length ≤ (mk N most n).2.2.length := by
 unfold mk
 split
 ·
  exact Nat.le_refl _
 ·
  split
  ·
   exact Nat.le_refl _
  ·
   simp
theorem widF_mk {N : List Nd} {most : Int} {n : Nd} {a : Int} (h0 : 0 ≤ a) (h1 : a < (N.length : Int)) : widF (mk N most n).2.2 a = widF N a := by
 have hl := mk_len (N := N) (most := most) (n := n)
 have e1 : widF N a = nW (nth N a.toNat) := by unfold widF; rw [if_pos ⟨h0, h1⟩]
 have e2 : widF (mk N most n).2.2 a = nW (nth (mk N most n).2.2 a.toNat) := by unfold widF; rw [if_pos ⟨h0, by omega⟩]
 rw [e1, e2]
 unfold mk
 split
 ·
  rfl
 ·
  split
  ·
   rfl
  ·
   show nW (nth (N ++ [n]) a.toNat) = _
   rw [nth_app (by omega)]
theorem nth_ne {N : List Nd} (h : N.Nodup) {i k : Nat} (hk : k < i) (hi : i < N.length) : nth N k ≠ nth N i := by
 intro e
 unfold nth at e
 rw [List.getD_eq_getElem?_getD, List.getD_eq_getElem?_getD, List.getElem?_eq_getElem hi, List.getElem?_eq_getElem (by omega)] at e
 have e' : N[k]'(by omega) = N[i] := e
 have h1 := h.idxOf_getElem k (by omega)
 have h2 := h.idxOf_getElem i hi
 rw [e'] at h1
 omega
theorem node_at (F : Nat → Prop) (p : Nat) (most : Int) (N : List Nd) (W : Value → Value → Prop) (i : Nat) (w : World) (hL : TLow F w p most N W) (hN : N.length ≤ 65536) (hi : i < N.length) :
  Ret Try.prog 14 [.pointer (some ⟨p, 0, none⟩), .int .i64 ((i : Nat) : Int)] w fun v w' => v = .tuple #[.agg #[.int .i64 (nO (nth N i)), .int .i64 (nW (nth N i)), .int .i64 (nA (nth N i)), .int .i64 (nB (nth N i)), .int .i64 (nC (nth N i)), .int .u64 (nV (nth N i))], .bool true] ∧ Tch N0 w w' := by
 have := node_in F p most N W (i : Int) w hL hN (by omega) (by omega)
 simpa only [Int.toNat_natCast] using this
end Go.Proofs.YtlbadnpgmkobdaaV

set_option linter.unusedVariables false
set_option linter.unusedSimpArgs false
namespace Go.Proofs.YtlbadnpgmkobdaaV
open Go Go.RowKit Go.Proofs
section
variable {P : Program} {ρ : Env} {w : World} {J : Env → World → Prop}
theorem S_copyR {d : Option Tmp} {x y : Operand} {ty : TypeId} {pos : String} {af : Array Edge} {g : Option (Nat × Bool)} (t e : TypeId) (z : Value) (sz by_ : Nat) {m : Nat} {A : Option Addr} {cp : Nat} {cells : List Value}
  (hi : (P.info? e).map (fun i => (i.zero, i.size, i.bytes)) = some (some z, sz, by_)) (hzs : z.cells.size = sz) (hsz : 0 < sz) (ht : pureR P (underlying t) = some (.slice e))
  (hx : evR ρ x = .slice none 0 0) (hy : evR ρ y = .slice A m cp) (hown : Own w 0 e sz (.slice A m cp) m cells) (h1 : ∀ u ∈ cells, oneV u = true)
  (h63 : m ≤ maxLen) (hbytes : m * by_ ≤ 140737488355328)
  (h : ∀ A2 cp2 w1, Own w1 0 e sz (.slice A2 m cp2) m cells → (∀ c, (Value.slice A2 m cp2).ownBlock = some c → c = w.heap.size) → Tch N0 w w1 → J (updO ρ d (.slice A2 m cp2)) w1) :
  Step P ⟨d, .call { callee := .builtin .append, args := #[x, y], argTypes := #[t, t] }, ty, pos, af, g⟩ ρ w J := by
 rcases hown with ⟨hl, ⟨hv, hm⟩ | ⟨b, cap, cur, hv, _, hg, hn, hcap, hsize, hcur⟩⟩
 ·
  subst hm
  injection hv with hA _ hc
  subst hA; subst hc
  have hc0 : cells = [] := List.eq_nil_of_length_eq_zero (by omega)
  subst hc0
  obtain ⟨i, hi1, hi2, hi3, hi4⟩ := info_of hi
  have ht' : P.underlying t = some (.slice e) := by
   have := pureR_run (w := w) ht
   simp only [underlying] at this
   cases hu : P.underlying t with
   | none => simp [hu] at this
   | some u => simp [hu] at this; rw [this]
  refine S_val (v := .slice none 0 0) (w' := w) ?_ (h none 0 w (Own.nil_ _ _ _ _) (fun c hc => by cases hc) (Tch.refl _ _))
  simp only [execOp, resolve, invoke, builtin, Array.map, hx, hy]
  simp [hx, hy, Builtin.append_, run_underlying ht', sizeOf, typeInfo, zeroValue, hi1, hi2, Builtin.lenOf, Builtin.firstCells]
 ·
  injection hv with hA _ hc
  subst hA; subst hc
  refine S_appendR t e z sz by_ (n := 0) (m := m) (A := none) (cp := 0) (cells := []) (news := cells) (b := b) (off := 0) (c := cp) hi hzs hsz ht hx hy (Own.nil_ _ _ _ _) hl (fun k u hk => ?_) h1 (by omega) (by rw [Nat.zero_add]; exact hbytes) fun A2 cp2 w1 hO hw hT => ?_
  ·
   rw [Nat.zero_add]
   rw [← hcur] at hk
   have hk2 : cur.toList[k]? = some u := by
    rw [List.getElem?_take] at hk
    split at hk
    ·
     exact hk
    ·
     cases hk
   simp [World.cell?, hg]
   simpa using hk2
  ·
   rw [Nat.zero_add] at hO hw ⊢
   exact h A2 cp2 w1 (by simpa using hO) (fun c hc => (hw c hc).resolve_left (fun q => by cases q)) (hT.weaken (fun b _ q => by cases q))
end
theorem Res_tc {P : Program} {fn : Func} {ρ : Env} {w : World} {p u : Tmp} {ty : TypeId} {b : Nat} {e : TypeId} {cs : List Value} (h : fn.results = #[.tmp u, .cell p ty]) (hp : Nat.blt p fn.ntmps = true) (hu : Nat.blt u fn.ntmps = true) (hx : ρ p = .pointer (some ⟨b, 0, none⟩)) (hb : Blk w b e cs) (ha : pureR P (isAgg ty) = some true) (hz : pureR P (sizeOf ty) = some cs.length) :
  Res P fn ρ w (.tuple #[ρ u, .agg cs.toArray]) := by
 unfold Res results
 have h3 := run_loadVarA (P := P) (w := w) (b := b) (j := 0) cs ha hz (blk_part hb)
 simp [h, Fr_getD hp, Fr_getD hu, hx, asAddr_run, h3]
end Go.Proofs.YtlbadnpgmkobdaaV
