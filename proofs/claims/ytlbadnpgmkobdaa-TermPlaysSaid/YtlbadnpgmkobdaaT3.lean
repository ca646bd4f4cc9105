/- Walks of functions of the program and of the document's texts. The conditions stand with each theorem. -/
import Derived.Test.YtlbadnpgmkobdaaProg
import Derived.Test.YtlbadnpgmkobdaaT2
set_option linter.unusedVariables false
set_option linter.unusedSimpArgs false
namespace Go.Proofs.YtlbadnpgmkobdaaV
open Go Go.RowKit Go.Proofs

set_option maxRecDepth 100000 in
theorem una_ok (F : Nat → Prop) (p : Nat) (most : Int) (N : List Nd) (o : Int) (a : Int) (w : World) (hO : TObj F w p most N) (ho : b64 o) (ha : b64 a) : Ret Try.prog 41 [.pointer (some ⟨p, 0, none⟩), .int .i64 o, .int .i64 a] w fun v w' => TRet F p most w (unaF N most o a) v w' := by
  obtain ⟨hL, hJ⟩ := id hO
  have hMv := Mv.refl F w
  have hlen := hJ.ti.len
  have hmost := hJ.ti.most
  have hu_o := ho; unfold b64 at hu_o
  have hu_a := ha; unfold b64 at hu_a
  refine enter Try.func41 rfl rfl ?_
  refine W_seq ?_
  refine W_region (by kernel_rfl) ?_
  refine seg2 (ρ' := upd (upd (ini [.pointer (some ⟨p, 0, none⟩), .int .i64 o, .int .i64 a]) 6 (.int .i64 0)) 7 (.int .i64 0)) (by kernel_rfl) ?_
  refine op_nil ?_
  refine W_seq ?_
  refine W_block ?_
  refine W_seq ?_
  refine W_region (by kernel_rfl) ?_
  refine seg3 (ρ' := upd (upd (upd (upd (upd (ini [.pointer (some ⟨p, 0, none⟩), .int .i64 o, .int .i64 a]) 6 (.int .i64 0)) 7 (.int .i64 0)) 9 (.pointer (some ⟨p, 0, none⟩))) 10 (.bool false)) 8 (.bool false)) (by kernel_rfl) ?_
  refine op_nil ?_
  refine W_cond false (by kernel_rfl) (by kernel_rfl) (fun h => nomatch h) (fun _ => ?_)
  refine W_seq ?_
  refine W_region (by kernel_rfl) ?_
  refine seg3 (ρ' := upd (upd (upd (upd (upd (upd (upd (upd (ini [.pointer (some ⟨p, 0, none⟩), .int .i64 o, .int .i64 a]) 6 (.int .i64 0)) 7 (.int .i64 0)) 9 (.pointer (some ⟨p, 0, none⟩))) 10 (.bool false)) 8 (.bool false)) 12 (.int .i64 o)) 13 (.bool (o != 15))) 14 (.bool (o != 15))) (by kernel_rfl) ?_
  cases hb1 : o != 15
  · replace hb1 : o = 15 := (bne_eq_false_iff_eq.1 hb1)
    refine seg4 (ρ' := upd (upd (upd (upd (upd (upd (upd (upd (upd (upd (upd (upd (ini [.pointer (some ⟨p, 0, none⟩), .int .i64 o, .int .i64 a]) 6 (.int .i64 0)) 7 (.int .i64 0)) 9 (.pointer (some ⟨p, 0, none⟩))) 10 (.bool false)) 8 (.bool false)) 12 (.int .i64 o)) 13 (.bool false)) 14 (.bool false)) 15 (undef)) 16 (undef)) 17 (.bool false)) 11 (.bool false)) (by kernel_rfl) ?_
    refine op_nil ?_
    refine W_cond false (by kernel_rfl) (by kernel_rfl) (fun h => nomatch h) (fun _ => ?_)
    refine W_seq ?_
    refine W_fg [(0, .pointer (some ⟨p, 0, none⟩)), (1, .int .i64 o), (2, .int .i64 a), (6, .int .i64 0), (7, .int .i64 0), (8, .bool false), (11, .bool false)] (by kernel_rfl) fun ρ => ?_
    refine W_region (by kernel_rfl) ?_
    refine seg2 (ρ' := upd (upd (updL ρ [(0, .pointer (some ⟨p, 0, none⟩)), (1, .int .i64 o), (2, .int .i64 a), (6, .int .i64 0), (7, .int .i64 0), (8, .bool false), (11, .bool false)]) 19 (.pointer (some ⟨p, 0, none⟩))) 20 (.int .i64 a)) (by kernel_rfl) ?_
    have hlt_ := hL.lt
    have hz6 := hMv.1.size
    refine st (by rfl) (S_new (v := .slice (some ⟨w.heap.size, 0, none⟩) 1 1) (ob := .cells #[.int .i64 a] 3) (by kernel_rfl) fun w2 hT3 hs4 hB5 => ?_)
    replace hB5 : Blk w2 (w.heap.size) 3 [.int .i64 a] := hB5
    have hL := hL.tch0 hT3
    have hMv := hMv.then0 hT3
    have nF_hB5 : ¬ F (w.heap.size) := fun e => by have := hlt_ _ e; omega
    refine st (by rfl) (S_call (args := [.pointer (some ⟨p, 0, none⟩), .slice (some ⟨w.heap.size, 0, none⟩) 1 1]) (by kernel_rfl) (none_ok F p most N (wdR N) (w.heap.size) 1 [a] _ hL (by omega) (show Blk _ _ 3 (ints .i64 [a]) from hB5) rfl (by omega)) ?_)
    rintro _ w7 ⟨rfl, hT8⟩
    have hL := hL.tch0 hT8
    have hMv := hMv.then0 hT8
    have hB5 := hB5.tch0 hT8
    refine seg1 (ρ' := upd (upd (upd (upd (upd (updL ρ [(0, .pointer (some ⟨p, 0, none⟩)), (1, .int .i64 o), (2, .int .i64 a), (6, .int .i64 0), (7, .int .i64 0), (8, .bool false), (11, .bool false)]) 19 (.pointer (some ⟨p, 0, none⟩))) 20 (.int .i64 a)) 21 (.slice (some ⟨w.heap.size, 0, none⟩) 1 1)) 22 (.bool (badT N.length [a]))) 18 (.bool (badT N.length [a]))) (by kernel_rfl) ?_
    refine op_nil ?_
    refine W_cond (badT N.length [a]) (by kernel_rfl) (by kernel_rfl) (fun hc9 => ?_) (fun hc9 => ?_)
    · replace hc9 : badT N.length [a] = true := (hc9)
      refine W_seq ?_
      refine W_region (by kernel_rfl) ?_
      refine seg2 (ρ' := upd (upd (upd (upd (upd (upd (upd (updL ρ [(0, .pointer (some ⟨p, 0, none⟩)), (1, .int .i64 o), (2, .int .i64 a), (6, .int .i64 0), (7, .int .i64 0), (8, .bool false), (11, .bool false)]) 19 (.pointer (some ⟨p, 0, none⟩))) 20 (.int .i64 a)) 21 (.slice (some ⟨w.heap.size, 0, none⟩) 1 1)) 22 (.bool (badT N.length [a]))) 18 (.bool (badT N.length [a]))) 6 (.int .i64 0)) 7 (.int .i64 11)) (by kernel_rfl) ?_
      refine op_nil ?_
      refine W_ret ?_
      refine ⟨_, Res_of (v := .tuple #[.int .i64 0, .int .i64 11]) (by kernel_rfl), ?_⟩
      have e : unaF N most o a = (0, 11, N) := by unfold unaF; rw [if_neg (by first | omega | assumption | exact nb (by assumption)), if_pos (by first | omega | assumption | exact nb (by assumption))]
      rw [e]
      unfold TRet
      exact ⟨rfl, F, ⟨hL, hJ⟩, hMv⟩
    · replace hc9 : badT N.length [a] = false := (hc9)
      obtain ⟨q0, r0⟩ := bad1f.1 hc9
      have wd0 := hJ.wid q0 r0
      refine W_skip ?_
      refine W_seq ?_
      refine W_region (by kernel_rfl) ?_
      refine seg4 (ρ' := upd (upd (upd (upd (upd (upd (upd (upd (upd (updL ρ [(0, .pointer (some ⟨p, 0, none⟩)), (1, .int .i64 o), (2, .int .i64 a), (6, .int .i64 0), (7, .int .i64 0), (8, .bool false), (11, .bool false)]) 19 (.pointer (some ⟨p, 0, none⟩))) 20 (.int .i64 a)) 21 (.slice (some ⟨w.heap.size, 0, none⟩) 1 1)) 22 (.bool (badT N.length [a]))) 18 (.bool (badT N.length [a]))) 23 (.pointer (some ⟨p, 0, none⟩))) 24 (.int .i64 o)) 25 (.pointer (some ⟨p, 0, none⟩))) 26 (.int .i64 a)) (by kernel_rfl) ?_
      refine st (by rfl) (S_call (args := [.pointer (some ⟨p, 0, none⟩), .int .i64 a]) (by kernel_rfl) (width_ok F p most N (wdR N) a _ hL (by omega)) ?_)
      rintro _ w10 ⟨rfl, hT11⟩
      have hL := hL.tch0 hT11
      have hMv := hMv.then0 hT11
      have hB5 := hB5.tch0 hT11
      refine seg2 (ρ' := upd (upd (upd (upd (upd (upd (upd (upd (upd (upd (upd (upd (updL ρ [(0, .pointer (some ⟨p, 0, none⟩)), (1, .int .i64 o), (2, .int .i64 a), (6, .int .i64 0), (7, .int .i64 0), (8, .bool false), (11, .bool false)]) 19 (.pointer (some ⟨p, 0, none⟩))) 20 (.int .i64 a)) 21 (.slice (some ⟨w.heap.size, 0, none⟩) 1 1)) 22 (.bool (badT N.length [a]))) 18 (.bool (badT N.length [a]))) 23 (.pointer (some ⟨p, 0, none⟩))) 24 (.int .i64 o)) 25 (.pointer (some ⟨p, 0, none⟩))) 26 (.int .i64 a)) 27 (.int .i64 (widF N a))) 28 (.int .i64 a)) 29 (.agg #[.int .i64 o, .int .i64 (widF N a), .int .i64 a, .int .i64 0, .int .i64 0, .int .u64 0])) (by kernel_rfl) ?_
      have lt15 := hB5.lt
      have hwf : nwf (o, widF N a, a, 0, 0, 0) := nwf_of (by unfold b64 at *; omega) (by unfold b64 at *; omega) (by unfold b64 at *; omega) (by unfold b64 at *; omega) (by unfold b64 at *; omega) (by unfold u64; omega)
      refine st (by rfl) (S_call (args := [.pointer (some ⟨p, 0, none⟩), .agg #[.int .i64 o, .int .i64 (widF N a), .int .i64 a, .int .i64 0, .int .i64 0, .int .u64 0]]) (by kernel_rfl) (make_ok F p most N (wdR N) (o, widF N a, a, 0, 0, 0) _ hL hJ.ti hwf) ?_)
      rintro _ w12 ⟨rfl, F13, hL, hm14⟩
      have hMv := hMv.trans hm14
      have hB5 := hB5.tch hm14.1 nF_hB5
      refine seg4 (ρ' := upd (upd (upd (upd (upd (upd (upd (upd (upd (upd (upd (upd (upd (upd (upd (upd (upd (updL ρ [(0, .pointer (some ⟨p, 0, none⟩)), (1, .int .i64 o), (2, .int .i64 a), (6, .int .i64 0), (7, .int .i64 0), (8, .bool false), (11, .bool false)]) 19 (.pointer (some ⟨p, 0, none⟩))) 20 (.int .i64 a)) 21 (.slice (some ⟨w.heap.size, 0, none⟩) 1 1)) 22 (.bool (badT N.length [a]))) 18 (.bool (badT N.length [a]))) 23 (.pointer (some ⟨p, 0, none⟩))) 24 (.int .i64 o)) 25 (.pointer (some ⟨p, 0, none⟩))) 26 (.int .i64 a)) 27 (.int .i64 (widF N a))) 28 (.int .i64 a)) 29 (.agg #[.int .i64 o, .int .i64 (widF N a), .int .i64 a, .int .i64 0, .int .i64 0, .int .u64 0])) 30 (.tuple #[.int .i64 ((mk N most (o, widF N a, a, 0, 0, 0)).1), .int .i64 ((mk N most (o, widF N a, a, 0, 0, 0)).2.1)])) 31 (.int .i64 ((mk N most (o, widF N a, a, 0, 0, 0)).1))) 32 (.int .i64 ((mk N most (o, widF N a, a, 0, 0, 0)).2.1))) 6 (.int .i64 ((mk N most (o, widF N a, a, 0, 0, 0)).1))) 7 (.int .i64 ((mk N most (o, widF N a, a, 0, 0, 0)).2.1))) (by kernel_rfl) ?_
      refine op_nil ?_
      refine W_ret ?_
      refine ⟨_, Res_of (v := .tuple #[.int .i64 ((mk N most (o, widF N a, a, 0, 0, 0)).1), .int .i64 ((mk N most (o, widF N a, a, 0, 0, 0)).2.1)]) (by kernel_rfl), ?_⟩
      have e : unaF N most o a = mk N most (o, widF N a, a, 0, 0, 0) := by unfold unaF; rw [if_neg (by first | omega | assumption | exact nb (by assumption)), if_neg (by first | omega | assumption | exact nb (by assumption))]
      rw [e]
      unfold TRet
      exact ⟨rfl, _, ⟨hL.congr (wdR_mk (by show (o : Int) ≠ 21; omega)), mk_TJ hJ hwf (by show 1 ≤ (widF N a : Int) ∧ (widF N a : Int) ≤ 64; omega) (fun e => absurd e (by show (o : Int) ≠ 21; omega))⟩, hMv⟩
  · replace hb1 : o ≠ 15 := (bne_iff_ne.1 hb1)
    refine seg4 (ρ' := upd (upd (upd (upd (upd (upd (upd (upd (upd (upd (upd (upd (ini [.pointer (some ⟨p, 0, none⟩), .int .i64 o, .int .i64 a]) 6 (.int .i64 0)) 7 (.int .i64 0)) 9 (.pointer (some ⟨p, 0, none⟩))) 10 (.bool false)) 8 (.bool false)) 12 (.int .i64 o)) 13 (.bool true)) 14 (.bool true)) 15 (.int .i64 o)) 16 (.bool (o != 16))) 17 (.bool (o != 16))) 11 (.bool (o != 16))) (by kernel_rfl) ?_
    refine op_nil ?_
    refine W_cond (o != 16) (by kernel_rfl) (by kernel_rfl) (fun hc16 => ?_) (fun hc16 => ?_)
    · replace hc16 : o ≠ 16 := (bne_iff_ne.1 hc16)
      refine W_seq ?_
      refine W_fg [(0, .pointer (some ⟨p, 0, none⟩)), (1, .int .i64 o), (2, .int .i64 a), (6, .int .i64 0), (7, .int .i64 0), (8, .bool false), (11, .bool (o != 16))] (by kernel_rfl) fun ρ => ?_
      refine W_region (by kernel_rfl) ?_
      refine seg2 (ρ' := upd (upd (updL ρ [(0, .pointer (some ⟨p, 0, none⟩)), (1, .int .i64 o), (2, .int .i64 a), (6, .int .i64 0), (7, .int .i64 0), (8, .bool false), (11, .bool (o != 16))]) 6 (.int .i64 0)) 7 (.int .i64 3)) (by kernel_rfl) ?_
      refine op_nil ?_
      refine W_ret ?_
      refine ⟨_, Res_of (v := .tuple #[.int .i64 0, .int .i64 3]) (by kernel_rfl), ?_⟩
      have e : unaF N most o a = (0, 3, N) := by unfold unaF; rw [if_pos (by first | omega | assumption | exact nb (by assumption))]
      rw [e]
      unfold TRet
      exact ⟨rfl, F, ⟨hL, hJ⟩, hMv⟩
    · replace hc16 : o = 16 := (bne_eq_false_iff_eq.1 hc16)
      refine W_seq ?_
      refine W_fg [(0, .pointer (some ⟨p, 0, none⟩)), (1, .int .i64 o), (2, .int .i64 a), (6, .int .i64 0), (7, .int .i64 0), (8, .bool false), (11, .bool (o != 16))] (by kernel_rfl) fun ρ => ?_
      refine W_region (by kernel_rfl) ?_
      refine seg2 (ρ' := upd (upd (updL ρ [(0, .pointer (some ⟨p, 0, none⟩)), (1, .int .i64 o), (2, .int .i64 a), (6, .int .i64 0), (7, .int .i64 0), (8, .bool false), (11, .bool (o != 16))]) 19 (.pointer (some ⟨p, 0, none⟩))) 20 (.int .i64 a)) (by kernel_rfl) ?_
      have hlt_ := hL.lt
      have hz21 := hMv.1.size
      refine st (by rfl) (S_new (v := .slice (some ⟨w.heap.size, 0, none⟩) 1 1) (ob := .cells #[.int .i64 a] 3) (by kernel_rfl) fun w17 hT18 hs19 hB20 => ?_)
      replace hB20 : Blk w17 (w.heap.size) 3 [.int .i64 a] := hB20
      have hL := hL.tch0 hT18
      have hMv := hMv.then0 hT18
      have nF_hB20 : ¬ F (w.heap.size) := fun e => by have := hlt_ _ e; omega
      refine st (by rfl) (S_call (args := [.pointer (some ⟨p, 0, none⟩), .slice (some ⟨w.heap.size, 0, none⟩) 1 1]) (by kernel_rfl) (none_ok F p most N (wdR N) (w.heap.size) 1 [a] _ hL (by omega) (show Blk _ _ 3 (ints .i64 [a]) from hB20) rfl (by omega)) ?_)
      rintro _ w22 ⟨rfl, hT23⟩
      have hL := hL.tch0 hT23
      have hMv := hMv.then0 hT23
      have hB20 := hB20.tch0 hT23
      refine seg1 (ρ' := upd (upd (upd (upd (upd (updL ρ [(0, .pointer (some ⟨p, 0, none⟩)), (1, .int .i64 o), (2, .int .i64 a), (6, .int .i64 0), (7, .int .i64 0), (8, .bool false), (11, .bool (o != 16))]) 19 (.pointer (some ⟨p, 0, none⟩))) 20 (.int .i64 a)) 21 (.slice (some ⟨w.heap.size, 0, none⟩) 1 1)) 22 (.bool (badT N.length [a]))) 18 (.bool (badT N.length [a]))) (by kernel_rfl) ?_
      refine op_nil ?_
      refine W_cond (badT N.length [a]) (by kernel_rfl) (by kernel_rfl) (fun hc24 => ?_) (fun hc24 => ?_)
      · replace hc24 : badT N.length [a] = true := (hc24)
        refine W_seq ?_
        refine W_region (by kernel_rfl) ?_
        refine seg2 (ρ' := upd (upd (upd (upd (upd (upd (upd (updL ρ [(0, .pointer (some ⟨p, 0, none⟩)), (1, .int .i64 o), (2, .int .i64 a), (6, .int .i64 0), (7, .int .i64 0), (8, .bool false), (11, .bool (o != 16))]) 19 (.pointer (some ⟨p, 0, none⟩))) 20 (.int .i64 a)) 21 (.slice (some ⟨w.heap.size, 0, none⟩) 1 1)) 22 (.bool (badT N.length [a]))) 18 (.bool (badT N.length [a]))) 6 (.int .i64 0)) 7 (.int .i64 11)) (by kernel_rfl) ?_
        refine op_nil ?_
        refine W_ret ?_
        refine ⟨_, Res_of (v := .tuple #[.int .i64 0, .int .i64 11]) (by kernel_rfl), ?_⟩
        have e : unaF N most o a = (0, 11, N) := by unfold unaF; rw [if_neg (by first | omega | assumption | exact nb (by assumption)), if_pos (by first | omega | assumption | exact nb (by assumption))]
        rw [e]
        unfold TRet
        exact ⟨rfl, F, ⟨hL, hJ⟩, hMv⟩
      · replace hc24 : badT N.length [a] = false := (hc24)
        obtain ⟨q0, r0⟩ := bad1f.1 hc24
        have wd0 := hJ.wid q0 r0
        refine W_skip ?_
        refine W_seq ?_
        refine W_region (by kernel_rfl) ?_
        refine seg4 (ρ' := upd (upd (upd (upd (upd (upd (upd (upd (upd (updL ρ [(0, .pointer (some ⟨p, 0, none⟩)), (1, .int .i64 o), (2, .int .i64 a), (6, .int .i64 0), (7, .int .i64 0), (8, .bool false), (11, .bool (o != 16))]) 19 (.pointer (some ⟨p, 0, none⟩))) 20 (.int .i64 a)) 21 (.slice (some ⟨w.heap.size, 0, none⟩) 1 1)) 22 (.bool (badT N.length [a]))) 18 (.bool (badT N.length [a]))) 23 (.pointer (some ⟨p, 0, none⟩))) 24 (.int .i64 o)) 25 (.pointer (some ⟨p, 0, none⟩))) 26 (.int .i64 a)) (by kernel_rfl) ?_
        refine st (by rfl) (S_call (args := [.pointer (some ⟨p, 0, none⟩), .int .i64 a]) (by kernel_rfl) (width_ok F p most N (wdR N) a _ hL (by omega)) ?_)
        rintro _ w25 ⟨rfl, hT26⟩
        have hL := hL.tch0 hT26
        have hMv := hMv.then0 hT26
        have hB20 := hB20.tch0 hT26
        refine seg2 (ρ' := upd (upd (upd (upd (upd (upd (upd (upd (upd (upd (upd (upd (updL ρ [(0, .pointer (some ⟨p, 0, none⟩)), (1, .int .i64 o), (2, .int .i64 a), (6, .int .i64 0), (7, .int .i64 0), (8, .bool false), (11, .bool (o != 16))]) 19 (.pointer (some ⟨p, 0, none⟩))) 20 (.int .i64 a)) 21 (.slice (some ⟨w.heap.size, 0, none⟩) 1 1)) 22 (.bool (badT N.length [a]))) 18 (.bool (badT N.length [a]))) 23 (.pointer (some ⟨p, 0, none⟩))) 24 (.int .i64 o)) 25 (.pointer (some ⟨p, 0, none⟩))) 26 (.int .i64 a)) 27 (.int .i64 (widF N a))) 28 (.int .i64 a)) 29 (.agg #[.int .i64 o, .int .i64 (widF N a), .int .i64 a, .int .i64 0, .int .i64 0, .int .u64 0])) (by kernel_rfl) ?_
        have lt30 := hB20.lt
        have hwf : nwf (o, widF N a, a, 0, 0, 0) := nwf_of (by unfold b64 at *; omega) (by unfold b64 at *; omega) (by unfold b64 at *; omega) (by unfold b64 at *; omega) (by unfold b64 at *; omega) (by unfold u64; omega)
        refine st (by rfl) (S_call (args := [.pointer (some ⟨p, 0, none⟩), .agg #[.int .i64 o, .int .i64 (widF N a), .int .i64 a, .int .i64 0, .int .i64 0, .int .u64 0]]) (by kernel_rfl) (make_ok F p most N (wdR N) (o, widF N a, a, 0, 0, 0) _ hL hJ.ti hwf) ?_)
        rintro _ w27 ⟨rfl, F28, hL, hm29⟩
        have hMv := hMv.trans hm29
        have hB20 := hB20.tch hm29.1 nF_hB20
        refine seg4 (ρ' := upd (upd (upd (upd (upd (upd (upd (upd (upd (upd (upd (upd (upd (upd (upd (upd (upd (updL ρ [(0, .pointer (some ⟨p, 0, none⟩)), (1, .int .i64 o), (2, .int .i64 a), (6, .int .i64 0), (7, .int .i64 0), (8, .bool false), (11, .bool (o != 16))]) 19 (.pointer (some ⟨p, 0, none⟩))) 20 (.int .i64 a)) 21 (.slice (some ⟨w.heap.size, 0, none⟩) 1 1)) 22 (.bool (badT N.length [a]))) 18 (.bool (badT N.length [a]))) 23 (.pointer (some ⟨p, 0, none⟩))) 24 (.int .i64 o)) 25 (.pointer (some ⟨p, 0, none⟩))) 26 (.int .i64 a)) 27 (.int .i64 (widF N a))) 28 (.int .i64 a)) 29 (.agg #[.int .i64 o, .int .i64 (widF N a), .int .i64 a, .int .i64 0, .int .i64 0, .int .u64 0])) 30 (.tuple #[.int .i64 ((mk N most (o, widF N a, a, 0, 0, 0)).1), .int .i64 ((mk N most (o, widF N a, a, 0, 0, 0)).2.1)])) 31 (.int .i64 ((mk N most (o, widF N a, a, 0, 0, 0)).1))) 32 (.int .i64 ((mk N most (o, widF N a, a, 0, 0, 0)).2.1))) 6 (.int .i64 ((mk N most (o, widF N a, a, 0, 0, 0)).1))) 7 (.int .i64 ((mk N most (o, widF N a, a, 0, 0, 0)).2.1))) (by kernel_rfl) ?_
        refine op_nil ?_
        refine W_ret ?_
        refine ⟨_, Res_of (v := .tuple #[.int .i64 ((mk N most (o, widF N a, a, 0, 0, 0)).1), .int .i64 ((mk N most (o, widF N a, a, 0, 0, 0)).2.1)]) (by kernel_rfl), ?_⟩
        have e : unaF N most o a = mk N most (o, widF N a, a, 0, 0, 0) := by unfold unaF; rw [if_neg (by first | omega | assumption | exact nb (by assumption)), if_neg (by first | omega | assumption | exact nb (by assumption))]
        rw [e]
        unfold TRet
        exact ⟨rfl, _, ⟨hL.congr (wdR_mk (by show (o : Int) ≠ 21; omega)), mk_TJ hJ hwf (by show 1 ≤ (widF N a : Int) ∧ (widF N a : Int) ≤ 64; omega) (fun e => absurd e (by show (o : Int) ≠ 21; omega))⟩, hMv⟩

set_option maxRecDepth 100000 in
theorem bin_ok (F : Nat → Prop) (p : Nat) (most : Int) (N : List Nd) (o : Int) (a : Int) (b : Int) (w : World) (hO : TObj F w p most N) (ho : b64 o) (ha : b64 a) (hb : b64 b) : Ret Try.prog 36 [.pointer (some ⟨p, 0, none⟩), .int .i64 o, .int .i64 a, .int .i64 b] w fun v w' => TRet F p most w (binF N most o a b) v w' := by
  obtain ⟨hL, hJ⟩ := id hO
  have hMv := Mv.refl F w
  have hlen := hJ.ti.len
  have hmost := hJ.ti.most
  have hu_o := ho; unfold b64 at hu_o
  have hu_a := ha; unfold b64 at hu_a
  have hu_b := hb; unfold b64 at hu_b
  refine enter Try.func36 rfl rfl ?_
  refine W_seq ?_
  refine W_region (by kernel_rfl) ?_
  refine seg2 (ρ' := upd (upd (ini [.pointer (some ⟨p, 0, none⟩), .int .i64 o, .int .i64 a, .int .i64 b]) 8 (.int .i64 0)) 9 (.int .i64 0)) (by kernel_rfl) ?_
  refine op_nil ?_
  refine W_seq ?_
  refine W_block ?_
  refine W_seq ?_
  refine W_region (by kernel_rfl) ?_
  refine seg3 (ρ' := upd (upd (upd (upd (upd (ini [.pointer (some ⟨p, 0, none⟩), .int .i64 o, .int .i64 a, .int .i64 b]) 8 (.int .i64 0)) 9 (.int .i64 0)) 12 (.pointer (some ⟨p, 0, none⟩))) 13 (.bool false)) 11 (.bool false)) (by kernel_rfl) ?_
  refine op_nil ?_
  refine W_cond false (by kernel_rfl) (by kernel_rfl) (fun h => nomatch h) (fun _ => ?_)
  refine W_seq ?_
  refine W_region (by kernel_rfl) ?_
  refine seg3 (ρ' := upd (upd (upd (upd (upd (upd (upd (upd (ini [.pointer (some ⟨p, 0, none⟩), .int .i64 o, .int .i64 a, .int .i64 b]) 8 (.int .i64 0)) 9 (.int .i64 0)) 12 (.pointer (some ⟨p, 0, none⟩))) 13 (.bool false)) 11 (.bool false)) 15 (.int .i64 o)) 16 (.bool (decide (o < 1)))) 17 (.bool (decide (o < 1)))) (by kernel_rfl) ?_
  cases hb1 : decide (o < 1)
  · replace hb1 : 1 ≤ o := (Int.not_lt.1 (of_decide_eq_false hb1))
    refine seg4 (ρ' := upd (upd (upd (upd (upd (upd (upd (upd (upd (upd (upd (upd (ini [.pointer (some ⟨p, 0, none⟩), .int .i64 o, .int .i64 a, .int .i64 b]) 8 (.int .i64 0)) 9 (.int .i64 0)) 12 (.pointer (some ⟨p, 0, none⟩))) 13 (.bool false)) 11 (.bool false)) 15 (.int .i64 o)) 16 (.bool false)) 17 (.bool false)) 18 (.int .i64 o)) 19 (.bool (decide (o > 14)))) 20 (.bool (decide (o > 14)))) 14 (.bool (decide (o > 14)))) (by kernel_rfl) ?_
    refine op_nil ?_
    refine W_cond (decide (o > 14)) (by kernel_rfl) (by kernel_rfl) (fun hc2 => ?_) (fun hc2 => ?_)
    · replace hc2 : 14 < o := (of_decide_eq_true hc2)
      refine W_seq ?_
      refine W_fg [(0, .pointer (some ⟨p, 0, none⟩)), (1, .int .i64 o), (2, .int .i64 a), (3, .int .i64 b), (8, .int .i64 0), (9, .int .i64 0), (11, .bool false), (14, .bool (decide (o > 14)))] (by kernel_rfl) fun ρ => ?_
      refine W_region (by kernel_rfl) ?_
      refine seg2 (ρ' := upd (upd (updL ρ [(0, .pointer (some ⟨p, 0, none⟩)), (1, .int .i64 o), (2, .int .i64 a), (3, .int .i64 b), (8, .int .i64 0), (9, .int .i64 0), (11, .bool false), (14, .bool (decide (o > 14)))]) 8 (.int .i64 0)) 9 (.int .i64 3)) (by kernel_rfl) ?_
      refine op_nil ?_
      refine W_ret ?_
      refine ⟨_, Res_of (v := .tuple #[.int .i64 0, .int .i64 3]) (by kernel_rfl), ?_⟩
      have e : binF N most o a b = (0, 3, N) := by unfold binF; rw [if_pos (by first | omega | assumption | exact nb (by assumption))]
      rw [e]
      unfold TRet
      exact ⟨rfl, F, ⟨hL, hJ⟩, hMv⟩
    · replace hc2 : o ≤ 14 := (Int.not_lt.1 (of_decide_eq_false hc2))
      refine W_seq ?_
      refine W_fg [(0, .pointer (some ⟨p, 0, none⟩)), (1, .int .i64 o), (2, .int .i64 a), (3, .int .i64 b), (8, .int .i64 0), (9, .int .i64 0), (11, .bool false), (14, .bool (decide (o > 14)))] (by kernel_rfl) fun ρ => ?_
      refine W_region (by kernel_rfl) ?_
      refine seg3 (ρ' := upd (upd (upd (updL ρ [(0, .pointer (some ⟨p, 0, none⟩)), (1, .int .i64 o), (2, .int .i64 a), (3, .int .i64 b), (8, .int .i64 0), (9, .int .i64 0), (11, .bool false), (14, .bool (decide (o > 14)))]) 22 (.pointer (some ⟨p, 0, none⟩))) 23 (.int .i64 a)) 24 (.int .i64 b)) (by kernel_rfl) ?_
      have hlt_ := hL.lt
      have hz7 := hMv.1.size
      refine st (by rfl) (S_new (v := .slice (some ⟨w.heap.size, 0, none⟩) 2 2) (ob := .cells #[.int .i64 a, .int .i64 b] 3) (by kernel_rfl) fun w3 hT4 hs5 hB6 => ?_)
      replace hB6 : Blk w3 (w.heap.size) 3 [.int .i64 a, .int .i64 b] := hB6
      have hL := hL.tch0 hT4
      have hMv := hMv.then0 hT4
      have nF_hB6 : ¬ F (w.heap.size) := fun e => by have := hlt_ _ e; omega
      refine st (by rfl) (S_call (args := [.pointer (some ⟨p, 0, none⟩), .slice (some ⟨w.heap.size, 0, none⟩) 2 2]) (by kernel_rfl) (none_ok F p most N (wdR N) (w.heap.size) 2 [a, b] _ hL (by omega) (show Blk _ _ 3 (ints .i64 [a, b]) from hB6) rfl (by omega)) ?_)
      rintro _ w8 ⟨rfl, hT9⟩
      have hL := hL.tch0 hT9
      have hMv := hMv.then0 hT9
      have hB6 := hB6.tch0 hT9
      refine seg1 (ρ' := upd (upd (upd (upd (upd (upd (updL ρ [(0, .pointer (some ⟨p, 0, none⟩)), (1, .int .i64 o), (2, .int .i64 a), (3, .int .i64 b), (8, .int .i64 0), (9, .int .i64 0), (11, .bool false), (14, .bool (decide (o > 14)))]) 22 (.pointer (some ⟨p, 0, none⟩))) 23 (.int .i64 a)) 24 (.int .i64 b)) 25 (.slice (some ⟨w.heap.size, 0, none⟩) 2 2)) 26 (.bool (badT N.length [a, b]))) 21 (.bool (badT N.length [a, b]))) (by kernel_rfl) ?_
      refine op_nil ?_
      refine W_cond (badT N.length [a, b]) (by kernel_rfl) (by kernel_rfl) (fun hc10 => ?_) (fun hc10 => ?_)
      · replace hc10 : badT N.length [a, b] = true := (hc10)
        refine W_seq ?_
        refine W_region (by kernel_rfl) ?_
        refine seg2 (ρ' := upd (upd (upd (upd (upd (upd (upd (upd (updL ρ [(0, .pointer (some ⟨p, 0, none⟩)), (1, .int .i64 o), (2, .int .i64 a), (3, .int .i64 b), (8, .int .i64 0), (9, .int .i64 0), (11, .bool false), (14, .bool (decide (o > 14)))]) 22 (.pointer (some ⟨p, 0, none⟩))) 23 (.int .i64 a)) 24 (.int .i64 b)) 25 (.slice (some ⟨w.heap.size, 0, none⟩) 2 2)) 26 (.bool (badT N.length [a, b]))) 21 (.bool (badT N.length [a, b]))) 8 (.int .i64 0)) 9 (.int .i64 11)) (by kernel_rfl) ?_
        refine op_nil ?_
        refine W_ret ?_
        refine ⟨_, Res_of (v := .tuple #[.int .i64 0, .int .i64 11]) (by kernel_rfl), ?_⟩
        have e : binF N most o a b = (0, 11, N) := by unfold binF; rw [if_neg (by first | omega | assumption | exact nb (by assumption)), if_pos (by first | omega | assumption | exact nb (by assumption))]
        rw [e]
        unfold TRet
        exact ⟨rfl, F, ⟨hL, hJ⟩, hMv⟩
      · replace hc10 : badT N.length [a, b] = false := (hc10)
        obtain ⟨⟨q0, r0⟩, q1, r1⟩ := bad2f.1 hc10
        have wd0 := hJ.wid q0 r0
        have wd1 := hJ.wid q1 r1
        refine W_seq ?_
        refine W_region (by kernel_rfl) ?_
        refine seg2 (ρ' := upd (upd (upd (upd (upd (upd (upd (upd (updL ρ [(0, .pointer (some ⟨p, 0, none⟩)), (1, .int .i64 o), (2, .int .i64 a), (3, .int .i64 b), (8, .int .i64 0), (9, .int .i64 0), (11, .bool false), (14, .bool (decide (o > 14)))]) 22 (.pointer (some ⟨p, 0, none⟩))) 23 (.int .i64 a)) 24 (.int .i64 b)) 25 (.slice (some ⟨w.heap.size, 0, none⟩) 2 2)) 26 (.bool (badT N.length [a, b]))) 21 (.bool (badT N.length [a, b]))) 28 (.pointer (some ⟨p, 0, none⟩))) 29 (.int .i64 a)) (by kernel_rfl) ?_
        refine st (by rfl) (S_call (args := [.pointer (some ⟨p, 0, none⟩), .int .i64 a]) (by kernel_rfl) (width_ok F p most N (wdR N) a _ hL (by omega)) ?_)
        rintro _ w11 ⟨rfl, hT12⟩
        have hL := hL.tch0 hT12
        have hMv := hMv.then0 hT12
        have hB6 := hB6.tch0 hT12
        refine seg2 (ρ' := upd (upd (upd (upd (upd (upd (upd (upd (upd (upd (upd (updL ρ [(0, .pointer (some ⟨p, 0, none⟩)), (1, .int .i64 o), (2, .int .i64 a), (3, .int .i64 b), (8, .int .i64 0), (9, .int .i64 0), (11, .bool false), (14, .bool (decide (o > 14)))]) 22 (.pointer (some ⟨p, 0, none⟩))) 23 (.int .i64 a)) 24 (.int .i64 b)) 25 (.slice (some ⟨w.heap.size, 0, none⟩) 2 2)) 26 (.bool (badT N.length [a, b]))) 21 (.bool (badT N.length [a, b]))) 28 (.pointer (some ⟨p, 0, none⟩))) 29 (.int .i64 a)) 30 (.int .i64 (widF N a))) 31 (.pointer (some ⟨p, 0, none⟩))) 32 (.int .i64 b)) (by kernel_rfl) ?_
        refine st (by rfl) (S_call (args := [.pointer (some ⟨p, 0, none⟩), .int .i64 b]) (by kernel_rfl) (width_ok F p most N (wdR N) b _ hL (by omega)) ?_)
        rintro _ w13 ⟨rfl, hT14⟩
        have hL := hL.tch0 hT14
        have hMv := hMv.then0 hT14
        have hB6 := hB6.tch0 hT14
        refine seg2 (ρ' := upd (upd (upd (upd (upd (upd (upd (upd (upd (upd (upd (upd (upd (upd (updL ρ [(0, .pointer (some ⟨p, 0, none⟩)), (1, .int .i64 o), (2, .int .i64 a), (3, .int .i64 b), (8, .int .i64 0), (9, .int .i64 0), (11, .bool false), (14, .bool (decide (o > 14)))]) 22 (.pointer (some ⟨p, 0, none⟩))) 23 (.int .i64 a)) 24 (.int .i64 b)) 25 (.slice (some ⟨w.heap.size, 0, none⟩) 2 2)) 26 (.bool (badT N.length [a, b]))) 21 (.bool (badT N.length [a, b]))) 28 (.pointer (some ⟨p, 0, none⟩))) 29 (.int .i64 a)) 30 (.int .i64 (widF N a))) 31 (.pointer (some ⟨p, 0, none⟩))) 32 (.int .i64 b)) 33 (.int .i64 (widF N b))) 34 (.bool ((widF N a) != (widF N b)))) 27 (.bool ((widF N a) != (widF N b)))) (by kernel_rfl) ?_
        refine op_nil ?_
        refine W_cond ((widF N a) != (widF N b)) (by kernel_rfl) (by kernel_rfl) (fun hc15 => ?_) (fun hc15 => ?_)
        · replace hc15 : widF N a ≠ widF N b := (bne_iff_ne.1 hc15)
          refine W_seq ?_
          refine W_fg [(0, .pointer (some ⟨p, 0, none⟩)), (1, .int .i64 o), (2, .int .i64 a), (3, .int .i64 b), (8, .int .i64 0), (9, .int .i64 0), (11, .bool false), (14, .bool (decide (o > 14))), (21, .bool (badT N.length [a, b])), (27, .bool ((widF N a) != (widF N b)))] (by kernel_rfl) fun ρ => ?_
          refine W_region (by kernel_rfl) ?_
          refine seg2 (ρ' := upd (upd (updL ρ [(0, .pointer (some ⟨p, 0, none⟩)), (1, .int .i64 o), (2, .int .i64 a), (3, .int .i64 b), (8, .int .i64 0), (9, .int .i64 0), (11, .bool false), (14, .bool (decide (o > 14))), (21, .bool (badT N.length [a, b])), (27, .bool ((widF N a) != (widF N b)))]) 8 (.int .i64 0)) 9 (.int .i64 2)) (by kernel_rfl) ?_
          refine op_nil ?_
          refine W_ret ?_
          refine ⟨_, Res_of (v := .tuple #[.int .i64 0, .int .i64 2]) (by kernel_rfl), ?_⟩
          have e : binF N most o a b = (0, 2, N) := by unfold binF; rw [if_neg (by first | omega | assumption | exact nb (by assumption)), if_neg (by first | omega | assumption | exact nb (by assumption)), if_pos (by first | omega | assumption | exact nb (by assumption))]
          rw [e]
          unfold TRet
          exact ⟨rfl, F, ⟨hL, hJ⟩, hMv⟩
        · replace hc15 : widF N a = widF N b := (bne_eq_false_iff_eq.1 hc15)
          refine W_skip ?_
          refine W_seq ?_
          refine W_fg [(0, .pointer (some ⟨p, 0, none⟩)), (1, .int .i64 o), (2, .int .i64 a), (3, .int .i64 b), (8, .int .i64 0), (9, .int .i64 0), (11, .bool false), (14, .bool (decide (o > 14))), (21, .bool (badT N.length [a, b])), (27, .bool ((widF N a) != (widF N b)))] (by kernel_rfl) fun ρ => ?_
          refine W_region (by kernel_rfl) ?_
          refine seg2 (ρ' := upd (upd (updL ρ [(0, .pointer (some ⟨p, 0, none⟩)), (1, .int .i64 o), (2, .int .i64 a), (3, .int .i64 b), (8, .int .i64 0), (9, .int .i64 0), (11, .bool false), (14, .bool (decide (o > 14))), (21, .bool (badT N.length [a, b])), (27, .bool ((widF N a) != (widF N b)))]) 35 (.pointer (some ⟨p, 0, none⟩))) 36 (.int .i64 a)) (by kernel_rfl) ?_
          refine st (by rfl) (S_call (args := [.pointer (some ⟨p, 0, none⟩), .int .i64 a]) (by kernel_rfl) (width_ok F p most N (wdR N) a _ hL (by omega)) ?_)
          rintro _ w16 ⟨rfl, hT17⟩
          have hL := hL.tch0 hT17
          have hMv := hMv.then0 hT17
          have hB6 := hB6.tch0 hT17
          refine seg1 (ρ' := upd (upd (upd (upd (updL ρ [(0, .pointer (some ⟨p, 0, none⟩)), (1, .int .i64 o), (2, .int .i64 a), (3, .int .i64 b), (8, .int .i64 0), (9, .int .i64 0), (11, .bool false), (14, .bool (decide (o > 14))), (21, .bool (badT N.length [a, b])), (27, .bool ((widF N a) != (widF N b)))]) 35 (.pointer (some ⟨p, 0, none⟩))) 36 (.int .i64 a)) 37 (.int .i64 (widF N a))) 10 (.int .i64 (widF N a))) (by kernel_rfl) ?_
          refine op_nil ?_
          refine W_seq ?_
          refine W_seq ?_
          refine W_region (by kernel_rfl) ?_
          refine seg3 (ρ' := upd (upd (upd (upd (upd (upd (upd (updL ρ [(0, .pointer (some ⟨p, 0, none⟩)), (1, .int .i64 o), (2, .int .i64 a), (3, .int .i64 b), (8, .int .i64 0), (9, .int .i64 0), (11, .bool false), (14, .bool (decide (o > 14))), (21, .bool (badT N.length [a, b])), (27, .bool ((widF N a) != (widF N b)))]) 35 (.pointer (some ⟨p, 0, none⟩))) 36 (.int .i64 a)) 37 (.int .i64 (widF N a))) 10 (.int .i64 (widF N a))) 38 (.int .i64 o)) 39 (.bool (o == 12))) 40 (.bool (o == 12))) (by kernel_rfl) ?_
          cases hb18 : o == 12
          · replace hb18 : o ≠ 12 := (ne_of_beq_false hb18)
            refine seg4 (ρ' := upd (upd (upd (upd (upd (upd (upd (upd (upd (upd (upd (updL ρ [(0, .pointer (some ⟨p, 0, none⟩)), (1, .int .i64 o), (2, .int .i64 a), (3, .int .i64 b), (8, .int .i64 0), (9, .int .i64 0), (11, .bool false), (14, .bool (decide (o > 14))), (21, .bool (badT N.length [a, b])), (27, .bool ((widF N a) != (widF N b)))]) 35 (.pointer (some ⟨p, 0, none⟩))) 36 (.int .i64 a)) 37 (.int .i64 (widF N a))) 10 (.int .i64 (widF N a))) 38 (.int .i64 o)) 39 (.bool false)) 40 (.bool false)) 41 (.int .i64 o)) 42 (.bool (o == 13))) 43 (.bool (o == 13))) 44 (.bool (o == 13))) (by kernel_rfl) ?_
            cases hb19 : o == 13
            · replace hb19 : o ≠ 13 := (ne_of_beq_false hb19)
              refine seg3 (ρ' := upd (upd (upd (upd (upd (upd (upd (upd (upd (upd (upd (upd (upd (upd (updL ρ [(0, .pointer (some ⟨p, 0, none⟩)), (1, .int .i64 o), (2, .int .i64 a), (3, .int .i64 b), (8, .int .i64 0), (9, .int .i64 0), (11, .bool false), (14, .bool (decide (o > 14))), (21, .bool (badT N.length [a, b])), (27, .bool ((widF N a) != (widF N b)))]) 35 (.pointer (some ⟨p, 0, none⟩))) 36 (.int .i64 a)) 37 (.int .i64 (widF N a))) 10 (.int .i64 (widF N a))) 38 (.int .i64 o)) 39 (.bool false)) 40 (.bool false)) 41 (.int .i64 o)) 42 (.bool false)) 43 (.bool false)) 44 (.bool false)) 45 (.int .i64 o)) 46 (.bool (o == 14))) 47 (.bool (o == 14))) (by kernel_rfl) ?_
              refine op_nil ?_
              refine W_cond (o == 14) (by kernel_rfl) (by kernel_rfl) (fun hc20 => ?_) (fun hc20 => ?_)
              · replace hc20 : o = 14 := (eq_of_beq hc20)
                refine W_fg [(0, .pointer (some ⟨p, 0, none⟩)), (1, .int .i64 o), (2, .int .i64 a), (3, .int .i64 b), (8, .int .i64 0), (9, .int .i64 0), (10, .int .i64 (widF N a)), (11, .bool false), (14, .bool (decide (o > 14))), (21, .bool (badT N.length [a, b])), (27, .bool ((widF N a) != (widF N b))), (47, .bool (o == 14))] (by kernel_rfl) fun ρ => ?_
                refine W_region (by kernel_rfl) ?_
                refine seg1 (ρ' := upd (updL ρ [(0, .pointer (some ⟨p, 0, none⟩)), (1, .int .i64 o), (2, .int .i64 a), (3, .int .i64 b), (8, .int .i64 0), (9, .int .i64 0), (10, .int .i64 (widF N a)), (11, .bool false), (14, .bool (decide (o > 14))), (21, .bool (badT N.length [a, b])), (27, .bool ((widF N a) != (widF N b))), (47, .bool (o == 14))]) 10 (.int .i64 1)) (by kernel_rfl) ?_
                refine op_nil ?_
                refine W_seq ?_
                refine W_region (by kernel_rfl) ?_
                refine seg6 (ρ' := upd (upd (upd (upd (upd (upd (upd (updL ρ [(0, .pointer (some ⟨p, 0, none⟩)), (1, .int .i64 o), (2, .int .i64 a), (3, .int .i64 b), (8, .int .i64 0), (9, .int .i64 0), (10, .int .i64 (widF N a)), (11, .bool false), (14, .bool (decide (o > 14))), (21, .bool (badT N.length [a, b])), (27, .bool ((widF N a) != (widF N b))), (47, .bool (o == 14))]) 10 (.int .i64 1)) 48 (.pointer (some ⟨p, 0, none⟩))) 49 (.int .i64 o)) 50 (.int .i64 1)) 51 (.int .i64 a)) 52 (.int .i64 b)) 53 (.agg #[.int .i64 o, .int .i64 1, .int .i64 a, .int .i64 b, .int .i64 0, .int .u64 0])) (by kernel_rfl) ?_
                have lt24 := hB6.lt
                have hwf : nwf (o, 1, a, b, 0, 0) := nwf_of (by unfold b64 at *; omega) (by unfold b64 at *; omega) (by unfold b64 at *; omega) (by unfold b64 at *; omega) (by unfold b64 at *; omega) (by unfold u64; omega)
                refine st (by rfl) (S_call (args := [.pointer (some ⟨p, 0, none⟩), .agg #[.int .i64 o, .int .i64 1, .int .i64 a, .int .i64 b, .int .i64 0, .int .u64 0]]) (by kernel_rfl) (make_ok F p most N (wdR N) (o, 1, a, b, 0, 0) _ hL hJ.ti hwf) ?_)
                rintro _ w21 ⟨rfl, F22, hL, hm23⟩
                have hMv := hMv.trans hm23
                have hB6 := hB6.tch hm23.1 nF_hB6
                refine seg4 (ρ' := upd (upd (upd (upd (upd (upd (upd (upd (upd (upd (upd (upd (updL ρ [(0, .pointer (some ⟨p, 0, none⟩)), (1, .int .i64 o), (2, .int .i64 a), (3, .int .i64 b), (8, .int .i64 0), (9, .int .i64 0), (10, .int .i64 (widF N a)), (11, .bool false), (14, .bool (decide (o > 14))), (21, .bool (badT N.length [a, b])), (27, .bool ((widF N a) != (widF N b))), (47, .bool (o == 14))]) 10 (.int .i64 1)) 48 (.pointer (some ⟨p, 0, none⟩))) 49 (.int .i64 o)) 50 (.int .i64 1)) 51 (.int .i64 a)) 52 (.int .i64 b)) 53 (.agg #[.int .i64 o, .int .i64 1, .int .i64 a, .int .i64 b, .int .i64 0, .int .u64 0])) 54 (.tuple #[.int .i64 ((mk N most (o, 1, a, b, 0, 0)).1), .int .i64 ((mk N most (o, 1, a, b, 0, 0)).2.1)])) 55 (.int .i64 ((mk N most (o, 1, a, b, 0, 0)).1))) 56 (.int .i64 ((mk N most (o, 1, a, b, 0, 0)).2.1))) 8 (.int .i64 ((mk N most (o, 1, a, b, 0, 0)).1))) 9 (.int .i64 ((mk N most (o, 1, a, b, 0, 0)).2.1))) (by kernel_rfl) ?_
                refine op_nil ?_
                refine W_ret ?_
                refine ⟨_, Res_of (v := .tuple #[.int .i64 ((mk N most (o, 1, a, b, 0, 0)).1), .int .i64 ((mk N most (o, 1, a, b, 0, 0)).2.1)]) (by kernel_rfl), ?_⟩
                have e : binF N most o a b = mk N most (o, 1, a, b, 0, 0) := by unfold binF; rw [if_neg (by first | omega | assumption | exact nb (by assumption)), if_neg (by first | omega | assumption | exact nb (by assumption)), if_neg (by first | omega | assumption | exact nb (by assumption)), if_pos (by first | omega | assumption | exact nb (by assumption))]
                rw [e]
                unfold TRet
                exact ⟨rfl, _, ⟨hL.congr (wdR_mk (by show (o : Int) ≠ 21; omega)), mk_TJ hJ hwf (by show 1 ≤ (1 : Int) ∧ (1 : Int) ≤ 64; omega) (fun e => absurd e (by show (o : Int) ≠ 21; omega))⟩, hMv⟩
              · replace hc20 : o ≠ 14 := (ne_of_beq_false hc20)
                refine W_skip ?_
                refine W_seq ?_
                refine W_fg [(0, .pointer (some ⟨p, 0, none⟩)), (1, .int .i64 o), (2, .int .i64 a), (3, .int .i64 b), (8, .int .i64 0), (9, .int .i64 0), (10, .int .i64 (widF N a)), (11, .bool false), (14, .bool (decide (o > 14))), (21, .bool (badT N.length [a, b])), (27, .bool ((widF N a) != (widF N b))), (47, .bool (o == 14))] (by kernel_rfl) fun ρ => ?_
                refine W_region (by kernel_rfl) ?_
                refine seg6 (ρ' := upd (upd (upd (upd (upd (upd (updL ρ [(0, .pointer (some ⟨p, 0, none⟩)), (1, .int .i64 o), (2, .int .i64 a), (3, .int .i64 b), (8, .int .i64 0), (9, .int .i64 0), (10, .int .i64 (widF N a)), (11, .bool false), (14, .bool (decide (o > 14))), (21, .bool (badT N.length [a, b])), (27, .bool ((widF N a) != (widF N b))), (47, .bool (o == 14))]) 48 (.pointer (some ⟨p, 0, none⟩))) 49 (.int .i64 o)) 50 (.int .i64 (widF N a))) 51 (.int .i64 a)) 52 (.int .i64 b)) 53 (.agg #[.int .i64 o, .int .i64 (widF N a), .int .i64 a, .int .i64 b, .int .i64 0, .int .u64 0])) (by kernel_rfl) ?_
                have lt28 := hB6.lt
                have hwf : nwf (o, widF N a, a, b, 0, 0) := nwf_of (by unfold b64 at *; omega) (by unfold b64 at *; omega) (by unfold b64 at *; omega) (by unfold b64 at *; omega) (by unfold b64 at *; omega) (by unfold u64; omega)
                refine st (by rfl) (S_call (args := [.pointer (some ⟨p, 0, none⟩), .agg #[.int .i64 o, .int .i64 (widF N a), .int .i64 a, .int .i64 b, .int .i64 0, .int .u64 0]]) (by kernel_rfl) (make_ok F p most N (wdR N) (o, widF N a, a, b, 0, 0) _ hL hJ.ti hwf) ?_)
                rintro _ w25 ⟨rfl, F26, hL, hm27⟩
                have hMv := hMv.trans hm27
                have hB6 := hB6.tch hm27.1 nF_hB6
                refine seg4 (ρ' := upd (upd (upd (upd (upd (upd (upd (upd (upd (upd (upd (updL ρ [(0, .pointer (some ⟨p, 0, none⟩)), (1, .int .i64 o), (2, .int .i64 a), (3, .int .i64 b), (8, .int .i64 0), (9, .int .i64 0), (10, .int .i64 (widF N a)), (11, .bool false), (14, .bool (decide (o > 14))), (21, .bool (badT N.length [a, b])), (27, .bool ((widF N a) != (widF N b))), (47, .bool (o == 14))]) 48 (.pointer (some ⟨p, 0, none⟩))) 49 (.int .i64 o)) 50 (.int .i64 (widF N a))) 51 (.int .i64 a)) 52 (.int .i64 b)) 53 (.agg #[.int .i64 o, .int .i64 (widF N a), .int .i64 a, .int .i64 b, .int .i64 0, .int .u64 0])) 54 (.tuple #[.int .i64 ((mk N most (o, widF N a, a, b, 0, 0)).1), .int .i64 ((mk N most (o, widF N a, a, b, 0, 0)).2.1)])) 55 (.int .i64 ((mk N most (o, widF N a, a, b, 0, 0)).1))) 56 (.int .i64 ((mk N most (o, widF N a, a, b, 0, 0)).2.1))) 8 (.int .i64 ((mk N most (o, widF N a, a, b, 0, 0)).1))) 9 (.int .i64 ((mk N most (o, widF N a, a, b, 0, 0)).2.1))) (by kernel_rfl) ?_
                refine op_nil ?_
                refine W_ret ?_
                refine ⟨_, Res_of (v := .tuple #[.int .i64 ((mk N most (o, widF N a, a, b, 0, 0)).1), .int .i64 ((mk N most (o, widF N a, a, b, 0, 0)).2.1)]) (by kernel_rfl), ?_⟩
                have e : binF N most o a b = mk N most (o, widF N a, a, b, 0, 0) := by unfold binF; rw [if_neg (by first | omega | assumption | exact nb (by assumption)), if_neg (by first | omega | assumption | exact nb (by assumption)), if_neg (by first | omega | assumption | exact nb (by assumption)), if_neg (by first | omega | assumption | exact nb (by assumption))]
                rw [e]
                unfold TRet
                exact ⟨rfl, _, ⟨hL.congr (wdR_mk (by show (o : Int) ≠ 21; omega)), mk_TJ hJ hwf (by show 1 ≤ (widF N a : Int) ∧ (widF N a : Int) ≤ 64; omega) (fun e => absurd e (by show (o : Int) ≠ 21; omega))⟩, hMv⟩
            · replace hb19 : o = 13 := (eq_of_beq hb19)
              refine seg3 (ρ' := upd (upd (upd (upd (upd (upd (upd (upd (upd (upd (upd (upd (upd (upd (updL ρ [(0, .pointer (some ⟨p, 0, none⟩)), (1, .int .i64 o), (2, .int .i64 a), (3, .int .i64 b), (8, .int .i64 0), (9, .int .i64 0), (11, .bool false), (14, .bool (decide (o > 14))), (21, .bool (badT N.length [a, b])), (27, .bool ((widF N a) != (widF N b)))]) 35 (.pointer (some ⟨p, 0, none⟩))) 36 (.int .i64 a)) 37 (.int .i64 (widF N a))) 10 (.int .i64 (widF N a))) 38 (.int .i64 o)) 39 (.bool false)) 40 (.bool false)) 41 (.int .i64 o)) 42 (.bool true)) 43 (.bool true)) 44 (.bool true)) 45 (undef)) 46 (undef)) 47 (.bool true)) (by kernel_rfl) ?_
              refine op_nil ?_
              refine W_cond true (by kernel_rfl) (by kernel_rfl) (fun _ => ?_) (fun h => nomatch h)
              refine W_fg [(0, .pointer (some ⟨p, 0, none⟩)), (1, .int .i64 o), (2, .int .i64 a), (3, .int .i64 b), (8, .int .i64 0), (9, .int .i64 0), (10, .int .i64 (widF N a)), (11, .bool false), (14, .bool (decide (o > 14))), (21, .bool (badT N.length [a, b])), (27, .bool ((widF N a) != (widF N b))), (47, .bool true)] (by kernel_rfl) fun ρ => ?_
              refine W_region (by kernel_rfl) ?_
              refine seg1 (ρ' := upd (updL ρ [(0, .pointer (some ⟨p, 0, none⟩)), (1, .int .i64 o), (2, .int .i64 a), (3, .int .i64 b), (8, .int .i64 0), (9, .int .i64 0), (10, .int .i64 (widF N a)), (11, .bool false), (14, .bool (decide (o > 14))), (21, .bool (badT N.length [a, b])), (27, .bool ((widF N a) != (widF N b))), (47, .bool true)]) 10 (.int .i64 1)) (by kernel_rfl) ?_
              refine op_nil ?_
              refine W_seq ?_
              refine W_region (by kernel_rfl) ?_
              refine seg6 (ρ' := upd (upd (upd (upd (upd (upd (upd (updL ρ [(0, .pointer (some ⟨p, 0, none⟩)), (1, .int .i64 o), (2, .int .i64 a), (3, .int .i64 b), (8, .int .i64 0), (9, .int .i64 0), (10, .int .i64 (widF N a)), (11, .bool false), (14, .bool (decide (o > 14))), (21, .bool (badT N.length [a, b])), (27, .bool ((widF N a) != (widF N b))), (47, .bool true)]) 10 (.int .i64 1)) 48 (.pointer (some ⟨p, 0, none⟩))) 49 (.int .i64 o)) 50 (.int .i64 1)) 51 (.int .i64 a)) 52 (.int .i64 b)) 53 (.agg #[.int .i64 o, .int .i64 1, .int .i64 a, .int .i64 b, .int .i64 0, .int .u64 0])) (by kernel_rfl) ?_
              have lt32 := hB6.lt
              have hwf : nwf (o, 1, a, b, 0, 0) := nwf_of (by unfold b64 at *; omega) (by unfold b64 at *; omega) (by unfold b64 at *; omega) (by unfold b64 at *; omega) (by unfold b64 at *; omega) (by unfold u64; omega)
              refine st (by rfl) (S_call (args := [.pointer (some ⟨p, 0, none⟩), .agg #[.int .i64 o, .int .i64 1, .int .i64 a, .int .i64 b, .int .i64 0, .int .u64 0]]) (by kernel_rfl) (make_ok F p most N (wdR N) (o, 1, a, b, 0, 0) _ hL hJ.ti hwf) ?_)
              rintro _ w29 ⟨rfl, F30, hL, hm31⟩
              have hMv := hMv.trans hm31
              have hB6 := hB6.tch hm31.1 nF_hB6
              refine seg4 (ρ' := upd (upd (upd (upd (upd (upd (upd (upd (upd (upd (upd (upd (updL ρ [(0, .pointer (some ⟨p, 0, none⟩)), (1, .int .i64 o), (2, .int .i64 a), (3, .int .i64 b), (8, .int .i64 0), (9, .int .i64 0), (10, .int .i64 (widF N a)), (11, .bool false), (14, .bool (decide (o > 14))), (21, .bool (badT N.length [a, b])), (27, .bool ((widF N a) != (widF N b))), (47, .bool true)]) 10 (.int .i64 1)) 48 (.pointer (some ⟨p, 0, none⟩))) 49 (.int .i64 o)) 50 (.int .i64 1)) 51 (.int .i64 a)) 52 (.int .i64 b)) 53 (.agg #[.int .i64 o, .int .i64 1, .int .i64 a, .int .i64 b, .int .i64 0, .int .u64 0])) 54 (.tuple #[.int .i64 ((mk N most (o, 1, a, b, 0, 0)).1), .int .i64 ((mk N most (o, 1, a, b, 0, 0)).2.1)])) 55 (.int .i64 ((mk N most (o, 1, a, b, 0, 0)).1))) 56 (.int .i64 ((mk N most (o, 1, a, b, 0, 0)).2.1))) 8 (.int .i64 ((mk N most (o, 1, a, b, 0, 0)).1))) 9 (.int .i64 ((mk N most (o, 1, a, b, 0, 0)).2.1))) (by kernel_rfl) ?_
              refine op_nil ?_
              refine W_ret ?_
              refine ⟨_, Res_of (v := .tuple #[.int .i64 ((mk N most (o, 1, a, b, 0, 0)).1), .int .i64 ((mk N most (o, 1, a, b, 0, 0)).2.1)]) (by kernel_rfl), ?_⟩
              have e : binF N most o a b = mk N most (o, 1, a, b, 0, 0) := by unfold binF; rw [if_neg (by first | omega | assumption | exact nb (by assumption)), if_neg (by first | omega | assumption | exact nb (by assumption)), if_neg (by first | omega | assumption | exact nb (by assumption)), if_pos (by first | omega | assumption | exact nb (by assumption))]
              rw [e]
              unfold TRet
              exact ⟨rfl, _, ⟨hL.congr (wdR_mk (by show (o : Int) ≠ 21; omega)), mk_TJ hJ hwf (by show 1 ≤ (1 : Int) ∧ (1 : Int) ≤ 64; omega) (fun e => absurd e (by show (o : Int) ≠ 21; omega))⟩, hMv⟩
          · replace hb18 : o = 12 := (eq_of_beq hb18)
            refine seg7 (ρ' := upd (upd (upd (upd (upd (upd (upd (upd (upd (upd (upd (upd (upd (upd (updL ρ [(0, .pointer (some ⟨p, 0, none⟩)), (1, .int .i64 o), (2, .int .i64 a), (3, .int .i64 b), (8, .int .i64 0), (9, .int .i64 0), (11, .bool false), (14, .bool (decide (o > 14))), (21, .bool (badT N.length [a, b])), (27, .bool ((widF N a) != (widF N b)))]) 35 (.pointer (some ⟨p, 0, none⟩))) 36 (.int .i64 a)) 37 (.int .i64 (widF N a))) 10 (.int .i64 (widF N a))) 38 (.int .i64 o)) 39 (.bool true)) 40 (.bool true)) 41 (undef)) 42 (undef)) 43 (.bool true)) 44 (.bool true)) 45 (undef)) 46 (undef)) 47 (.bool true)) (by kernel_rfl) ?_
            refine op_nil ?_
            refine W_cond true (by kernel_rfl) (by kernel_rfl) (fun _ => ?_) (fun h => nomatch h)
            refine W_fg [(0, .pointer (some ⟨p, 0, none⟩)), (1, .int .i64 o), (2, .int .i64 a), (3, .int .i64 b), (8, .int .i64 0), (9, .int .i64 0), (10, .int .i64 (widF N a)), (11, .bool false), (14, .bool (decide (o > 14))), (21, .bool (badT N.length [a, b])), (27, .bool ((widF N a) != (widF N b))), (47, .bool true)] (by kernel_rfl) fun ρ => ?_
            refine W_region (by kernel_rfl) ?_
            refine seg1 (ρ' := upd (updL ρ [(0, .pointer (some ⟨p, 0, none⟩)), (1, .int .i64 o), (2, .int .i64 a), (3, .int .i64 b), (8, .int .i64 0), (9, .int .i64 0), (10, .int .i64 (widF N a)), (11, .bool false), (14, .bool (decide (o > 14))), (21, .bool (badT N.length [a, b])), (27, .bool ((widF N a) != (widF N b))), (47, .bool true)]) 10 (.int .i64 1)) (by kernel_rfl) ?_
            refine op_nil ?_
            refine W_seq ?_
            refine W_region (by kernel_rfl) ?_
            refine seg6 (ρ' := upd (upd (upd (upd (upd (upd (upd (updL ρ [(0, .pointer (some ⟨p, 0, none⟩)), (1, .int .i64 o), (2, .int .i64 a), (3, .int .i64 b), (8, .int .i64 0), (9, .int .i64 0), (10, .int .i64 (widF N a)), (11, .bool false), (14, .bool (decide (o > 14))), (21, .bool (badT N.length [a, b])), (27, .bool ((widF N a) != (widF N b))), (47, .bool true)]) 10 (.int .i64 1)) 48 (.pointer (some ⟨p, 0, none⟩))) 49 (.int .i64 o)) 50 (.int .i64 1)) 51 (.int .i64 a)) 52 (.int .i64 b)) 53 (.agg #[.int .i64 o, .int .i64 1, .int .i64 a, .int .i64 b, .int .i64 0, .int .u64 0])) (by kernel_rfl) ?_
            have lt36 := hB6.lt
            have hwf : nwf (o, 1, a, b, 0, 0) := nwf_of (by unfold b64 at *; omega) (by unfold b64 at *; omega) (by unfold b64 at *; omega) (by unfold b64 at *; omega) (by unfold b64 at *; omega) (by unfold u64; omega)
            refine st (by rfl) (S_call (args := [.pointer (some ⟨p, 0, none⟩), .agg #[.int .i64 o, .int .i64 1, .int .i64 a, .int .i64 b, .int .i64 0, .int .u64 0]]) (by kernel_rfl) (make_ok F p most N (wdR N) (o, 1, a, b, 0, 0) _ hL hJ.ti hwf) ?_)
            rintro _ w33 ⟨rfl, F34, hL, hm35⟩
            have hMv := hMv.trans hm35
            have hB6 := hB6.tch hm35.1 nF_hB6
            refine seg4 (ρ' := upd (upd (upd (upd (upd (upd (upd (upd (upd (upd (upd (upd (updL ρ [(0, .pointer (some ⟨p, 0, none⟩)), (1, .int .i64 o), (2, .int .i64 a), (3, .int .i64 b), (8, .int .i64 0), (9, .int .i64 0), (10, .int .i64 (widF N a)), (11, .bool false), (14, .bool (decide (o > 14))), (21, .bool (badT N.length [a, b])), (27, .bool ((widF N a) != (widF N b))), (47, .bool true)]) 10 (.int .i64 1)) 48 (.pointer (some ⟨p, 0, none⟩))) 49 (.int .i64 o)) 50 (.int .i64 1)) 51 (.int .i64 a)) 52 (.int .i64 b)) 53 (.agg #[.int .i64 o, .int .i64 1, .int .i64 a, .int .i64 b, .int .i64 0, .int .u64 0])) 54 (.tuple #[.int .i64 ((mk N most (o, 1, a, b, 0, 0)).1), .int .i64 ((mk N most (o, 1, a, b, 0, 0)).2.1)])) 55 (.int .i64 ((mk N most (o, 1, a, b, 0, 0)).1))) 56 (.int .i64 ((mk N most (o, 1, a, b, 0, 0)).2.1))) 8 (.int .i64 ((mk N most (o, 1, a, b, 0, 0)).1))) 9 (.int .i64 ((mk N most (o, 1, a, b, 0, 0)).2.1))) (by kernel_rfl) ?_
            refine op_nil ?_
            refine W_ret ?_
            refine ⟨_, Res_of (v := .tuple #[.int .i64 ((mk N most (o, 1, a, b, 0, 0)).1), .int .i64 ((mk N most (o, 1, a, b, 0, 0)).2.1)]) (by kernel_rfl), ?_⟩
            have e : binF N most o a b = mk N most (o, 1, a, b, 0, 0) := by unfold binF; rw [if_neg (by first | omega | assumption | exact nb (by assumption)), if_neg (by first | omega | assumption | exact nb (by assumption)), if_neg (by first | omega | assumption | exact nb (by assumption)), if_pos (by first | omega | assumption | exact nb (by assumption))]
            rw [e]
            unfold TRet
            exact ⟨rfl, _, ⟨hL.congr (wdR_mk (by show (o : Int) ≠ 21; omega)), mk_TJ hJ hwf (by show 1 ≤ (1 : Int) ∧ (1 : Int) ≤ 64; omega) (fun e => absurd e (by show (o : Int) ≠ 21; omega))⟩, hMv⟩
  · replace hb1 : o < 1 := (of_decide_eq_true hb1)
    refine seg4 (ρ' := upd (upd (upd (upd (upd (upd (upd (upd (upd (upd (upd (upd (ini [.pointer (some ⟨p, 0, none⟩), .int .i64 o, .int .i64 a, .int .i64 b]) 8 (.int .i64 0)) 9 (.int .i64 0)) 12 (.pointer (some ⟨p, 0, none⟩))) 13 (.bool false)) 11 (.bool false)) 15 (.int .i64 o)) 16 (.bool true)) 17 (.bool true)) 18 (undef)) 19 (undef)) 20 (.bool true)) 14 (.bool true)) (by kernel_rfl) ?_
    refine op_nil ?_
    refine W_cond true (by kernel_rfl) (by kernel_rfl) (fun _ => ?_) (fun h => nomatch h)
    refine W_seq ?_
    refine W_fg [(0, .pointer (some ⟨p, 0, none⟩)), (1, .int .i64 o), (2, .int .i64 a), (3, .int .i64 b), (8, .int .i64 0), (9, .int .i64 0), (11, .bool false), (14, .bool true)] (by kernel_rfl) fun ρ => ?_
    refine W_region (by kernel_rfl) ?_
    refine seg2 (ρ' := upd (upd (updL ρ [(0, .pointer (some ⟨p, 0, none⟩)), (1, .int .i64 o), (2, .int .i64 a), (3, .int .i64 b), (8, .int .i64 0), (9, .int .i64 0), (11, .bool false), (14, .bool true)]) 8 (.int .i64 0)) 9 (.int .i64 3)) (by kernel_rfl) ?_
    refine op_nil ?_
    refine W_ret ?_
    refine ⟨_, Res_of (v := .tuple #[.int .i64 0, .int .i64 3]) (by kernel_rfl), ?_⟩
    have e : binF N most o a b = (0, 3, N) := by unfold binF; rw [if_pos (by first | omega | assumption | exact nb (by assumption))]
    rw [e]
    unfold TRet
    exact ⟨rfl, F, ⟨hL, hJ⟩, hMv⟩

set_option maxRecDepth 100000 in
theorem ite_ok (F : Nat → Prop) (p : Nat) (most : Int) (N : List Nd) (c : Int) (a : Int) (b : Int) (w : World) (hO : TObj F w p most N) (hc : b64 c) (ha : b64 a) (hb : b64 b) : Ret Try.prog 37 [.pointer (some ⟨p, 0, none⟩), .int .i64 c, .int .i64 a, .int .i64 b] w fun v w' => TRet F p most w (iteF N most c a b) v w' := by
  obtain ⟨hL, hJ⟩ := id hO
  have hMv := Mv.refl F w
  have hlen := hJ.ti.len
  have hmost := hJ.ti.most
  have hu_c := hc; unfold b64 at hu_c
  have hu_a := ha; unfold b64 at hu_a
  have hu_b := hb; unfold b64 at hu_b
  refine enter Try.func37 rfl rfl ?_
  refine W_seq ?_
  refine W_region (by kernel_rfl) ?_
  refine seg2 (ρ' := upd (upd (ini [.pointer (some ⟨p, 0, none⟩), .int .i64 c, .int .i64 a, .int .i64 b]) 8 (.int .i64 0)) 9 (.int .i64 0)) (by kernel_rfl) ?_
  refine op_nil ?_
  refine W_seq ?_
  refine W_block ?_
  refine W_seq ?_
  refine W_region (by kernel_rfl) ?_
  refine seg3 (ρ' := upd (upd (upd (upd (upd (ini [.pointer (some ⟨p, 0, none⟩), .int .i64 c, .int .i64 a, .int .i64 b]) 8 (.int .i64 0)) 9 (.int .i64 0)) 11 (.pointer (some ⟨p, 0, none⟩))) 12 (.bool false)) 10 (.bool false)) (by kernel_rfl) ?_
  refine op_nil ?_
  refine W_cond false (by kernel_rfl) (by kernel_rfl) (fun h => nomatch h) (fun _ => ?_)
  refine W_seq ?_
  refine W_region (by kernel_rfl) ?_
  refine seg4 (ρ' := upd (upd (upd (upd (upd (upd (upd (upd (upd (ini [.pointer (some ⟨p, 0, none⟩), .int .i64 c, .int .i64 a, .int .i64 b]) 8 (.int .i64 0)) 9 (.int .i64 0)) 11 (.pointer (some ⟨p, 0, none⟩))) 12 (.bool false)) 10 (.bool false)) 14 (.pointer (some ⟨p, 0, none⟩))) 15 (.int .i64 c)) 16 (.int .i64 a)) 17 (.int .i64 b)) (by kernel_rfl) ?_
  have hlt_ := hL.lt
  have hz5 := hMv.1.size
  refine st (by rfl) (S_new (v := .slice (some ⟨w.heap.size, 0, none⟩) 3 3) (ob := .cells #[.int .i64 c, .int .i64 a, .int .i64 b] 3) (by kernel_rfl) fun w1 hT2 hs3 hB4 => ?_)
  replace hB4 : Blk w1 (w.heap.size) 3 [.int .i64 c, .int .i64 a, .int .i64 b] := hB4
  have hL := hL.tch0 hT2
  have hMv := hMv.then0 hT2
  have nF_hB4 : ¬ F (w.heap.size) := fun e => by have := hlt_ _ e; omega
  refine st (by rfl) (S_call (args := [.pointer (some ⟨p, 0, none⟩), .slice (some ⟨w.heap.size, 0, none⟩) 3 3]) (by kernel_rfl) (none_ok F p most N (wdR N) (w.heap.size) 3 [c, a, b] _ hL (by omega) (show Blk _ _ 3 (ints .i64 [c, a, b]) from hB4) rfl (by omega)) ?_)
  rintro _ w6 ⟨rfl, hT7⟩
  have hL := hL.tch0 hT7
  have hMv := hMv.then0 hT7
  have hB4 := hB4.tch0 hT7
  refine seg1 (ρ' := upd (upd (upd (upd (upd (upd (upd (upd (upd (upd (upd (upd (ini [.pointer (some ⟨p, 0, none⟩), .int .i64 c, .int .i64 a, .int .i64 b]) 8 (.int .i64 0)) 9 (.int .i64 0)) 11 (.pointer (some ⟨p, 0, none⟩))) 12 (.bool false)) 10 (.bool false)) 14 (.pointer (some ⟨p, 0, none⟩))) 15 (.int .i64 c)) 16 (.int .i64 a)) 17 (.int .i64 b)) 18 (.slice (some ⟨w.heap.size, 0, none⟩) 3 3)) 19 (.bool (badT N.length [c, a, b]))) 13 (.bool (badT N.length [c, a, b]))) (by kernel_rfl) ?_
  refine op_nil ?_
  refine W_cond (badT N.length [c, a, b]) (by kernel_rfl) (by kernel_rfl) (fun hc8 => ?_) (fun hc8 => ?_)
  · replace hc8 : badT N.length [c, a, b] = true := (hc8)
    refine W_seq ?_
    refine W_fg [(0, .pointer (some ⟨p, 0, none⟩)), (1, .int .i64 c), (2, .int .i64 a), (3, .int .i64 b), (8, .int .i64 0), (9, .int .i64 0), (10, .bool false), (13, .bool (badT N.length [c, a, b]))] (by kernel_rfl) fun ρ => ?_
    refine W_region (by kernel_rfl) ?_
    refine seg2 (ρ' := upd (upd (updL ρ [(0, .pointer (some ⟨p, 0, none⟩)), (1, .int .i64 c), (2, .int .i64 a), (3, .int .i64 b), (8, .int .i64 0), (9, .int .i64 0), (10, .bool false), (13, .bool (badT N.length [c, a, b]))]) 8 (.int .i64 0)) 9 (.int .i64 11)) (by kernel_rfl) ?_
    refine op_nil ?_
    refine W_ret ?_
    refine ⟨_, Res_of (v := .tuple #[.int .i64 0, .int .i64 11]) (by kernel_rfl), ?_⟩
    have e : iteF N most c a b = (0, 11, N) := by unfold iteF; rw [if_pos (by first | omega | assumption | exact nb (by assumption))]
    rw [e]
    unfold TRet
    exact ⟨rfl, F, ⟨hL, hJ⟩, hMv⟩
  · replace hc8 : badT N.length [c, a, b] = false := (hc8)
    obtain ⟨⟨q0, r0⟩, ⟨q1, r1⟩, q2, r2⟩ := bad3f.1 hc8
    have wd0 := hJ.wid q0 r0
    have wd1 := hJ.wid q1 r1
    have wd2 := hJ.wid q2 r2
    refine W_seq ?_
    refine W_fg [(0, .pointer (some ⟨p, 0, none⟩)), (1, .int .i64 c), (2, .int .i64 a), (3, .int .i64 b), (8, .int .i64 0), (9, .int .i64 0), (10, .bool false), (13, .bool (badT N.length [c, a, b]))] (by kernel_rfl) fun ρ => ?_
    refine W_region (by kernel_rfl) ?_
    refine seg2 (ρ' := upd (upd (updL ρ [(0, .pointer (some ⟨p, 0, none⟩)), (1, .int .i64 c), (2, .int .i64 a), (3, .int .i64 b), (8, .int .i64 0), (9, .int .i64 0), (10, .bool false), (13, .bool (badT N.length [c, a, b]))]) 21 (.pointer (some ⟨p, 0, none⟩))) 22 (.int .i64 c)) (by kernel_rfl) ?_
    refine st (by rfl) (S_call (args := [.pointer (some ⟨p, 0, none⟩), .int .i64 c]) (by kernel_rfl) (width_ok F p most N (wdR N) c _ hL (by omega)) ?_)
    rintro _ w9 ⟨rfl, hT10⟩
    have hL := hL.tch0 hT10
    have hMv := hMv.then0 hT10
    have hB4 := hB4.tch0 hT10
    refine seg2 (ρ' := upd (upd (upd (upd (upd (updL ρ [(0, .pointer (some ⟨p, 0, none⟩)), (1, .int .i64 c), (2, .int .i64 a), (3, .int .i64 b), (8, .int .i64 0), (9, .int .i64 0), (10, .bool false), (13, .bool (badT N.length [c, a, b]))]) 21 (.pointer (some ⟨p, 0, none⟩))) 22 (.int .i64 c)) 23 (.int .i64 (widF N c))) 24 (.bool ((widF N c) != 1))) 25 (.bool ((widF N c) != 1))) (by kernel_rfl) ?_
    cases hb11 : (widF N c) != 1
    · replace hb11 : widF N c = 1 := (bne_eq_false_iff_eq.1 hb11)
      refine seg2 (ρ' := upd (upd (upd (upd (upd (upd (upd (updL ρ [(0, .pointer (some ⟨p, 0, none⟩)), (1, .int .i64 c), (2, .int .i64 a), (3, .int .i64 b), (8, .int .i64 0), (9, .int .i64 0), (10, .bool false), (13, .bool (badT N.length [c, a, b]))]) 21 (.pointer (some ⟨p, 0, none⟩))) 22 (.int .i64 c)) 23 (.int .i64 (widF N c))) 24 (.bool false)) 25 (.bool false)) 26 (.pointer (some ⟨p, 0, none⟩))) 27 (.int .i64 a)) (by kernel_rfl) ?_
      refine st (by kernel_rfl) (S_call (args := [.pointer (some ⟨p, 0, none⟩), .int .i64 a]) (by kernel_rfl) (width_ok F p most N (wdR N) a _ hL (by omega)) ?_)
      rintro _ w12 ⟨rfl, hT13⟩
      have hL := hL.tch0 hT13
      have hMv := hMv.then0 hT13
      have hB4 := hB4.tch0 hT13
      refine seg2 (ρ' := upd (upd (upd (upd (upd (upd (upd (upd (upd (upd (updL ρ [(0, .pointer (some ⟨p, 0, none⟩)), (1, .int .i64 c), (2, .int .i64 a), (3, .int .i64 b), (8, .int .i64 0), (9, .int .i64 0), (10, .bool false), (13, .bool (badT N.length [c, a, b]))]) 21 (.pointer (some ⟨p, 0, none⟩))) 22 (.int .i64 c)) 23 (.int .i64 (widF N c))) 24 (.bool false)) 25 (.bool false)) 26 (.pointer (some ⟨p, 0, none⟩))) 27 (.int .i64 a)) 28 (.int .i64 (widF N a))) 29 (.pointer (some ⟨p, 0, none⟩))) 30 (.int .i64 b)) (by kernel_rfl) ?_
      refine st (by kernel_rfl) (S_call (args := [.pointer (some ⟨p, 0, none⟩), .int .i64 b]) (by kernel_rfl) (width_ok F p most N (wdR N) b _ hL (by omega)) ?_)
      rintro _ w14 ⟨rfl, hT15⟩
      have hL := hL.tch0 hT15
      have hMv := hMv.then0 hT15
      have hB4 := hB4.tch0 hT15
      refine seg3 (ρ' := upd (upd (upd (upd (upd (upd (upd (upd (upd (upd (upd (upd (upd (upd (updL ρ [(0, .pointer (some ⟨p, 0, none⟩)), (1, .int .i64 c), (2, .int .i64 a), (3, .int .i64 b), (8, .int .i64 0), (9, .int .i64 0), (10, .bool false), (13, .bool (badT N.length [c, a, b]))]) 21 (.pointer (some ⟨p, 0, none⟩))) 22 (.int .i64 c)) 23 (.int .i64 (widF N c))) 24 (.bool false)) 25 (.bool false)) 26 (.pointer (some ⟨p, 0, none⟩))) 27 (.int .i64 a)) 28 (.int .i64 (widF N a))) 29 (.pointer (some ⟨p, 0, none⟩))) 30 (.int .i64 b)) 31 (.int .i64 (widF N b))) 32 (.bool ((widF N a) != (widF N b)))) 33 (.bool ((widF N a) != (widF N b)))) 20 (.bool ((widF N a) != (widF N b)))) (by kernel_rfl) ?_
      refine op_nil ?_
      refine W_cond ((widF N a) != (widF N b)) (by kernel_rfl) (by kernel_rfl) (fun hc16 => ?_) (fun hc16 => ?_)
      · replace hc16 : widF N a ≠ widF N b := (bne_iff_ne.1 hc16)
        refine W_seq ?_
        refine W_fg [(0, .pointer (some ⟨p, 0, none⟩)), (1, .int .i64 c), (2, .int .i64 a), (3, .int .i64 b), (8, .int .i64 0), (9, .int .i64 0), (10, .bool false), (13, .bool (badT N.length [c, a, b])), (20, .bool ((widF N a) != (widF N b)))] (by kernel_rfl) fun ρ => ?_
        refine W_region (by kernel_rfl) ?_
        refine seg2 (ρ' := upd (upd (updL ρ [(0, .pointer (some ⟨p, 0, none⟩)), (1, .int .i64 c), (2, .int .i64 a), (3, .int .i64 b), (8, .int .i64 0), (9, .int .i64 0), (10, .bool false), (13, .bool (badT N.length [c, a, b])), (20, .bool ((widF N a) != (widF N b)))]) 8 (.int .i64 0)) 9 (.int .i64 2)) (by kernel_rfl) ?_
        refine op_nil ?_
        refine W_ret ?_
        refine ⟨_, Res_of (v := .tuple #[.int .i64 0, .int .i64 2]) (by kernel_rfl), ?_⟩
        have e : iteF N most c a b = (0, 2, N) := by unfold iteF; rw [if_neg (by first | omega | assumption | exact nb (by assumption)), if_pos (by first | omega | assumption | exact nb (by assumption))]
        rw [e]
        unfold TRet
        exact ⟨rfl, F, ⟨hL, hJ⟩, hMv⟩
      · replace hc16 : widF N a = widF N b := (bne_eq_false_iff_eq.1 hc16)
        refine W_skip ?_
        refine W_seq ?_
        refine W_fg [(0, .pointer (some ⟨p, 0, none⟩)), (1, .int .i64 c), (2, .int .i64 a), (3, .int .i64 b), (8, .int .i64 0), (9, .int .i64 0), (10, .bool false), (13, .bool (badT N.length [c, a, b])), (20, .bool ((widF N a) != (widF N b)))] (by kernel_rfl) fun ρ => ?_
        refine W_region (by kernel_rfl) ?_
        refine seg3 (ρ' := upd (upd (upd (updL ρ [(0, .pointer (some ⟨p, 0, none⟩)), (1, .int .i64 c), (2, .int .i64 a), (3, .int .i64 b), (8, .int .i64 0), (9, .int .i64 0), (10, .bool false), (13, .bool (badT N.length [c, a, b])), (20, .bool ((widF N a) != (widF N b)))]) 34 (.pointer (some ⟨p, 0, none⟩))) 35 (.pointer (some ⟨p, 0, none⟩))) 36 (.int .i64 a)) (by kernel_rfl) ?_
        refine st (by rfl) (S_call (args := [.pointer (some ⟨p, 0, none⟩), .int .i64 a]) (by kernel_rfl) (width_ok F p most N (wdR N) a _ hL (by omega)) ?_)
        rintro _ w17 ⟨rfl, hT18⟩
        have hL := hL.tch0 hT18
        have hMv := hMv.then0 hT18
        have hB4 := hB4.tch0 hT18
        refine seg4 (ρ' := upd (upd (upd (upd (upd (upd (upd (upd (updL ρ [(0, .pointer (some ⟨p, 0, none⟩)), (1, .int .i64 c), (2, .int .i64 a), (3, .int .i64 b), (8, .int .i64 0), (9, .int .i64 0), (10, .bool false), (13, .bool (badT N.length [c, a, b])), (20, .bool ((widF N a) != (widF N b)))]) 34 (.pointer (some ⟨p, 0, none⟩))) 35 (.pointer (some ⟨p, 0, none⟩))) 36 (.int .i64 a)) 37 (.int .i64 (widF N a))) 38 (.int .i64 c)) 39 (.int .i64 a)) 40 (.int .i64 b)) 41 (.agg #[.int .i64 22, .int .i64 (widF N a), .int .i64 c, .int .i64 a, .int .i64 b, .int .u64 0])) (by kernel_rfl) ?_
        have lt22 := hB4.lt
        have hwf : nwf (22, widF N a, c, a, b, 0) := nwf_of (by unfold b64 at *; omega) (by unfold b64 at *; omega) (by unfold b64 at *; omega) (by unfold b64 at *; omega) (by unfold b64 at *; omega) (by unfold u64; omega)
        refine st (by rfl) (S_call (args := [.pointer (some ⟨p, 0, none⟩), .agg #[.int .i64 22, .int .i64 (widF N a), .int .i64 c, .int .i64 a, .int .i64 b, .int .u64 0]]) (by kernel_rfl) (make_ok F p most N (wdR N) (22, widF N a, c, a, b, 0) _ hL hJ.ti hwf) ?_)
        rintro _ w19 ⟨rfl, F20, hL, hm21⟩
        have hMv := hMv.trans hm21
        have hB4 := hB4.tch hm21.1 nF_hB4
        refine seg4 (ρ' := upd (upd (upd (upd (upd (upd (upd (upd (upd (upd (upd (upd (upd (updL ρ [(0, .pointer (some ⟨p, 0, none⟩)), (1, .int .i64 c), (2, .int .i64 a), (3, .int .i64 b), (8, .int .i64 0), (9, .int .i64 0), (10, .bool false), (13, .bool (badT N.length [c, a, b])), (20, .bool ((widF N a) != (widF N b)))]) 34 (.pointer (some ⟨p, 0, none⟩))) 35 (.pointer (some ⟨p, 0, none⟩))) 36 (.int .i64 a)) 37 (.int .i64 (widF N a))) 38 (.int .i64 c)) 39 (.int .i64 a)) 40 (.int .i64 b)) 41 (.agg #[.int .i64 22, .int .i64 (widF N a), .int .i64 c, .int .i64 a, .int .i64 b, .int .u64 0])) 42 (.tuple #[.int .i64 ((mk N most (22, widF N a, c, a, b, 0)).1), .int .i64 ((mk N most (22, widF N a, c, a, b, 0)).2.1)])) 43 (.int .i64 ((mk N most (22, widF N a, c, a, b, 0)).1))) 44 (.int .i64 ((mk N most (22, widF N a, c, a, b, 0)).2.1))) 8 (.int .i64 ((mk N most (22, widF N a, c, a, b, 0)).1))) 9 (.int .i64 ((mk N most (22, widF N a, c, a, b, 0)).2.1))) (by kernel_rfl) ?_
        refine op_nil ?_
        refine W_ret ?_
        refine ⟨_, Res_of (v := .tuple #[.int .i64 ((mk N most (22, widF N a, c, a, b, 0)).1), .int .i64 ((mk N most (22, widF N a, c, a, b, 0)).2.1)]) (by kernel_rfl), ?_⟩
        have e : iteF N most c a b = mk N most (22, widF N a, c, a, b, 0) := by unfold iteF; rw [if_neg (by first | omega | assumption | exact nb (by assumption)), if_neg (by first | omega | assumption | exact nb (by assumption))]
        rw [e]
        unfold TRet
        exact ⟨rfl, _, ⟨hL.congr (wdR_mk (by show (22 : Int) ≠ 21; omega)), mk_TJ hJ hwf (by show 1 ≤ (widF N a : Int) ∧ (widF N a : Int) ≤ 64; omega) (fun e => absurd e (by show (22 : Int) ≠ 21; omega))⟩, hMv⟩
    · replace hb11 : widF N c ≠ 1 := (bne_iff_ne.1 hb11)
      refine seg9 (ρ' := upd (upd (upd (upd (upd (upd (upd (upd (upd (upd (upd (upd (upd (upd (updL ρ [(0, .pointer (some ⟨p, 0, none⟩)), (1, .int .i64 c), (2, .int .i64 a), (3, .int .i64 b), (8, .int .i64 0), (9, .int .i64 0), (10, .bool false), (13, .bool (badT N.length [c, a, b]))]) 21 (.pointer (some ⟨p, 0, none⟩))) 22 (.int .i64 c)) 23 (.int .i64 (widF N c))) 24 (.bool true)) 25 (.bool true)) 26 (undef)) 27 (undef)) 28 (undef)) 29 (undef)) 30 (undef)) 31 (undef)) 32 (undef)) 33 (.bool true)) 20 (.bool true)) (by kernel_rfl) ?_
      refine op_nil ?_
      refine W_cond true (by kernel_rfl) (by kernel_rfl) (fun _ => ?_) (fun h => nomatch h)
      refine W_seq ?_
      refine W_fg [(0, .pointer (some ⟨p, 0, none⟩)), (1, .int .i64 c), (2, .int .i64 a), (3, .int .i64 b), (8, .int .i64 0), (9, .int .i64 0), (10, .bool false), (13, .bool (badT N.length [c, a, b])), (20, .bool true)] (by kernel_rfl) fun ρ => ?_
      refine W_region (by kernel_rfl) ?_
      refine seg2 (ρ' := upd (upd (updL ρ [(0, .pointer (some ⟨p, 0, none⟩)), (1, .int .i64 c), (2, .int .i64 a), (3, .int .i64 b), (8, .int .i64 0), (9, .int .i64 0), (10, .bool false), (13, .bool (badT N.length [c, a, b])), (20, .bool true)]) 8 (.int .i64 0)) 9 (.int .i64 2)) (by kernel_rfl) ?_
      refine op_nil ?_
      refine W_ret ?_
      refine ⟨_, Res_of (v := .tuple #[.int .i64 0, .int .i64 2]) (by kernel_rfl), ?_⟩
      have e : iteF N most c a b = (0, 2, N) := by unfold iteF; rw [if_neg (by first | omega | assumption | exact nb (by assumption)), if_pos (by first | omega | assumption | exact nb (by assumption))]
      rw [e]
      unfold TRet
      exact ⟨rfl, F, ⟨hL, hJ⟩, hMv⟩

set_option maxRecDepth 100000 in
theorem ext_ok (F : Nat → Prop) (p : Nat) (most : Int) (N : List Nd) (a : Int) (lo : Int) (wd : Int) (w : World) (hO : TObj F w p most N) (ha : b64 a) (hlo : b64 lo) (hwd : b64 wd) : Ret Try.prog 39 [.pointer (some ⟨p, 0, none⟩), .int .i64 a, .int .i64 lo, .int .i64 wd] w fun v w' => TRet F p most w (extF N most a lo wd) v w' := by
  obtain ⟨hL, hJ⟩ := id hO
  have hMv := Mv.refl F w
  have hlen := hJ.ti.len
  have hmost := hJ.ti.most
  have hu_a := ha; unfold b64 at hu_a
  have hu_lo := hlo; unfold b64 at hu_lo
  have hu_wd := hwd; unfold b64 at hu_wd
  refine enter Try.func39 rfl rfl ?_
  refine W_seq ?_
  refine W_region (by kernel_rfl) ?_
  refine seg2 (ρ' := upd (upd (ini [.pointer (some ⟨p, 0, none⟩), .int .i64 a, .int .i64 lo, .int .i64 wd]) 8 (.int .i64 0)) 9 (.int .i64 0)) (by kernel_rfl) ?_
  refine op_nil ?_
  refine W_seq ?_
  refine W_block ?_
  refine W_seq ?_
  refine W_region (by kernel_rfl) ?_
  refine seg3 (ρ' := upd (upd (upd (upd (upd (ini [.pointer (some ⟨p, 0, none⟩), .int .i64 a, .int .i64 lo, .int .i64 wd]) 8 (.int .i64 0)) 9 (.int .i64 0)) 11 (.pointer (some ⟨p, 0, none⟩))) 12 (.bool false)) 10 (.bool false)) (by kernel_rfl) ?_
  refine op_nil ?_
  refine W_cond false (by kernel_rfl) (by kernel_rfl) (fun h => nomatch h) (fun _ => ?_)
  refine W_seq ?_
  refine W_region (by kernel_rfl) ?_
  refine seg2 (ρ' := upd (upd (upd (upd (upd (upd (upd (ini [.pointer (some ⟨p, 0, none⟩), .int .i64 a, .int .i64 lo, .int .i64 wd]) 8 (.int .i64 0)) 9 (.int .i64 0)) 11 (.pointer (some ⟨p, 0, none⟩))) 12 (.bool false)) 10 (.bool false)) 14 (.pointer (some ⟨p, 0, none⟩))) 15 (.int .i64 a)) (by kernel_rfl) ?_
  have hlt_ := hL.lt
  have hz5 := hMv.1.size
  refine st (by rfl) (S_new (v := .slice (some ⟨w.heap.size, 0, none⟩) 1 1) (ob := .cells #[.int .i64 a] 3) (by kernel_rfl) fun w1 hT2 hs3 hB4 => ?_)
  replace hB4 : Blk w1 (w.heap.size) 3 [.int .i64 a] := hB4
  have hL := hL.tch0 hT2
  have hMv := hMv.then0 hT2
  have nF_hB4 : ¬ F (w.heap.size) := fun e => by have := hlt_ _ e; omega
  refine st (by rfl) (S_call (args := [.pointer (some ⟨p, 0, none⟩), .slice (some ⟨w.heap.size, 0, none⟩) 1 1]) (by kernel_rfl) (none_ok F p most N (wdR N) (w.heap.size) 1 [a] _ hL (by omega) (show Blk _ _ 3 (ints .i64 [a]) from hB4) rfl (by omega)) ?_)
  rintro _ w6 ⟨rfl, hT7⟩
  have hL := hL.tch0 hT7
  have hMv := hMv.then0 hT7
  have hB4 := hB4.tch0 hT7
  refine seg1 (ρ' := upd (upd (upd (upd (upd (upd (upd (upd (upd (upd (ini [.pointer (some ⟨p, 0, none⟩), .int .i64 a, .int .i64 lo, .int .i64 wd]) 8 (.int .i64 0)) 9 (.int .i64 0)) 11 (.pointer (some ⟨p, 0, none⟩))) 12 (.bool false)) 10 (.bool false)) 14 (.pointer (some ⟨p, 0, none⟩))) 15 (.int .i64 a)) 16 (.slice (some ⟨w.heap.size, 0, none⟩) 1 1)) 17 (.bool (badT N.length [a]))) 13 (.bool (badT N.length [a]))) (by kernel_rfl) ?_
  refine op_nil ?_
  refine W_cond (badT N.length [a]) (by kernel_rfl) (by kernel_rfl) (fun hc8 => ?_) (fun hc8 => ?_)
  · replace hc8 : badT N.length [a] = true := (hc8)
    refine W_seq ?_
    refine W_fg [(0, .pointer (some ⟨p, 0, none⟩)), (1, .int .i64 a), (2, .int .i64 lo), (3, .int .i64 wd), (8, .int .i64 0), (9, .int .i64 0), (10, .bool false), (13, .bool (badT N.length [a]))] (by kernel_rfl) fun ρ => ?_
    refine W_region (by kernel_rfl) ?_
    refine seg2 (ρ' := upd (upd (updL ρ [(0, .pointer (some ⟨p, 0, none⟩)), (1, .int .i64 a), (2, .int .i64 lo), (3, .int .i64 wd), (8, .int .i64 0), (9, .int .i64 0), (10, .bool false), (13, .bool (badT N.length [a]))]) 8 (.int .i64 0)) 9 (.int .i64 11)) (by kernel_rfl) ?_
    refine op_nil ?_
    refine W_ret ?_
    refine ⟨_, Res_of (v := .tuple #[.int .i64 0, .int .i64 11]) (by kernel_rfl), ?_⟩
    have e : extF N most a lo wd = (0, 11, N) := by unfold extF; rw [if_pos (by first | omega | assumption | exact nb (by assumption))]
    rw [e]
    unfold TRet
    exact ⟨rfl, F, ⟨hL, hJ⟩, hMv⟩
  · replace hc8 : badT N.length [a] = false := (hc8)
    obtain ⟨q0, r0⟩ := bad1f.1 hc8
    have wd0 := hJ.wid q0 r0
    refine W_seq ?_
    refine W_fg [(0, .pointer (some ⟨p, 0, none⟩)), (1, .int .i64 a), (2, .int .i64 lo), (3, .int .i64 wd), (8, .int .i64 0), (9, .int .i64 0), (10, .bool false), (13, .bool (badT N.length [a]))] (by kernel_rfl) fun ρ => ?_
    refine W_region (by kernel_rfl) ?_
    refine seg3 (ρ' := upd (upd (upd (updL ρ [(0, .pointer (some ⟨p, 0, none⟩)), (1, .int .i64 a), (2, .int .i64 lo), (3, .int .i64 wd), (8, .int .i64 0), (9, .int .i64 0), (10, .bool false), (13, .bool (badT N.length [a]))]) 19 (.int .i64 wd)) 20 (.bool (decide (wd < 1)))) 21 (.bool (decide (wd < 1)))) (by kernel_rfl) ?_
    cases hb9 : decide (wd < 1)
    · replace hb9 : 1 ≤ wd := (Int.not_lt.1 (of_decide_eq_false hb9))
      refine seg4 (ρ' := upd (upd (upd (upd (upd (upd (upd (updL ρ [(0, .pointer (some ⟨p, 0, none⟩)), (1, .int .i64 a), (2, .int .i64 lo), (3, .int .i64 wd), (8, .int .i64 0), (9, .int .i64 0), (10, .bool false), (13, .bool (badT N.length [a]))]) 19 (.int .i64 wd)) 20 (.bool false)) 21 (.bool false)) 22 (.int .i64 lo)) 23 (.bool (decide (lo < 0)))) 24 (.bool (decide (lo < 0)))) 25 (.bool (decide (lo < 0)))) (by kernel_rfl) ?_
      cases hb10 : decide (lo < 0)
      · replace hb10 : 0 ≤ lo := (Int.not_lt.1 (of_decide_eq_false hb10))
        refine seg3 (ρ' := upd (upd (upd (upd (upd (upd (upd (upd (upd (upd (updL ρ [(0, .pointer (some ⟨p, 0, none⟩)), (1, .int .i64 a), (2, .int .i64 lo), (3, .int .i64 wd), (8, .int .i64 0), (9, .int .i64 0), (10, .bool false), (13, .bool (badT N.length [a]))]) 19 (.int .i64 wd)) 20 (.bool false)) 21 (.bool false)) 22 (.int .i64 lo)) 23 (.bool false)) 24 (.bool false)) 25 (.bool false)) 26 (.int .i64 wd)) 27 (.pointer (some ⟨p, 0, none⟩))) 28 (.int .i64 a)) (by kernel_rfl) ?_
        refine st (by kernel_rfl) (S_call (args := [.pointer (some ⟨p, 0, none⟩), .int .i64 a]) (by kernel_rfl) (width_ok F p most N (wdR N) a _ hL (by omega)) ?_)
        rintro _ w11 ⟨rfl, hT12⟩
        have hL := hL.tch0 hT12
        have hMv := hMv.then0 hT12
        have hB4 := hB4.tch0 hT12
        refine seg3 (ρ' := upd (upd (upd (upd (upd (upd (upd (upd (upd (upd (upd (upd (upd (upd (updL ρ [(0, .pointer (some ⟨p, 0, none⟩)), (1, .int .i64 a), (2, .int .i64 lo), (3, .int .i64 wd), (8, .int .i64 0), (9, .int .i64 0), (10, .bool false), (13, .bool (badT N.length [a]))]) 19 (.int .i64 wd)) 20 (.bool false)) 21 (.bool false)) 22 (.int .i64 lo)) 23 (.bool false)) 24 (.bool false)) 25 (.bool false)) 26 (.int .i64 wd)) 27 (.pointer (some ⟨p, 0, none⟩))) 28 (.int .i64 a)) 29 (.int .i64 (widF N a))) 30 (.bool (decide (wd > widF N a)))) 31 (.bool (decide (wd > widF N a)))) 32 (.bool (decide (wd > widF N a)))) (by kernel_rfl) ?_
        cases hb13 : decide (wd > widF N a)
        · replace hb13 : wd ≤ widF N a := (Int.not_lt.1 (of_decide_eq_false hb13))
          refine seg3 (ρ' := upd (upd (upd (upd (upd (upd (upd (upd (upd (upd (upd (upd (upd (upd (upd (upd (upd (updL ρ [(0, .pointer (some ⟨p, 0, none⟩)), (1, .int .i64 a), (2, .int .i64 lo), (3, .int .i64 wd), (8, .int .i64 0), (9, .int .i64 0), (10, .bool false), (13, .bool (badT N.length [a]))]) 19 (.int .i64 wd)) 20 (.bool false)) 21 (.bool false)) 22 (.int .i64 lo)) 23 (.bool false)) 24 (.bool false)) 25 (.bool false)) 26 (.int .i64 wd)) 27 (.pointer (some ⟨p, 0, none⟩))) 28 (.int .i64 a)) 29 (.int .i64 (widF N a))) 30 (.bool false)) 31 (.bool false)) 32 (.bool false)) 33 (.int .i64 lo)) 34 (.pointer (some ⟨p, 0, none⟩))) 35 (.int .i64 a)) (by kernel_rfl) ?_
          refine st (by kernel_rfl) (S_call (args := [.pointer (some ⟨p, 0, none⟩), .int .i64 a]) (by kernel_rfl) (width_ok F p most N (wdR N) a _ hL (by omega)) ?_)
          rintro _ w14 ⟨rfl, hT15⟩
          have hL := hL.tch0 hT15
          have hMv := hMv.then0 hT15
          have hB4 := hB4.tch0 hT15
          refine seg2 (ρ' := upd (upd (upd (upd (upd (upd (upd (upd (upd (upd (upd (upd (upd (upd (upd (upd (upd (upd (upd (upd (updL ρ [(0, .pointer (some ⟨p, 0, none⟩)), (1, .int .i64 a), (2, .int .i64 lo), (3, .int .i64 wd), (8, .int .i64 0), (9, .int .i64 0), (10, .bool false), (13, .bool (badT N.length [a]))]) 19 (.int .i64 wd)) 20 (.bool false)) 21 (.bool false)) 22 (.int .i64 lo)) 23 (.bool false)) 24 (.bool false)) 25 (.bool false)) 26 (.int .i64 wd)) 27 (.pointer (some ⟨p, 0, none⟩))) 28 (.int .i64 a)) 29 (.int .i64 (widF N a))) 30 (.bool false)) 31 (.bool false)) 32 (.bool false)) 33 (.int .i64 lo)) 34 (.pointer (some ⟨p, 0, none⟩))) 35 (.int .i64 a)) 36 (.int .i64 (widF N a))) 37 (.int .i64 wd)) 38 (.int .i64 (IntKind.i64.wrap ((widF N a) - wd)))) (by kernel_rfl) ?_
          rw [show IntKind.i64.wrap ((widF N a) - wd) = (widF N a) - wd from wrap_i64 (by omega) (by omega)]
          refine seg3 (ρ' := upd (upd (upd (upd (upd (upd (upd (upd (upd (upd (upd (upd (upd (upd (upd (upd (upd (upd (upd (upd (upd (upd (upd (updL ρ [(0, .pointer (some ⟨p, 0, none⟩)), (1, .int .i64 a), (2, .int .i64 lo), (3, .int .i64 wd), (8, .int .i64 0), (9, .int .i64 0), (10, .bool false), (13, .bool (badT N.length [a]))]) 19 (.int .i64 wd)) 20 (.bool false)) 21 (.bool false)) 22 (.int .i64 lo)) 23 (.bool false)) 24 (.bool false)) 25 (.bool false)) 26 (.int .i64 wd)) 27 (.pointer (some ⟨p, 0, none⟩))) 28 (.int .i64 a)) 29 (.int .i64 (widF N a))) 30 (.bool false)) 31 (.bool false)) 32 (.bool false)) 33 (.int .i64 lo)) 34 (.pointer (some ⟨p, 0, none⟩))) 35 (.int .i64 a)) 36 (.int .i64 (widF N a))) 37 (.int .i64 wd)) 38 (.int .i64 ((widF N a) - wd))) 39 (.bool (decide (lo > (widF N a) - wd)))) 40 (.bool (decide (lo > (widF N a) - wd)))) 18 (.bool (decide (lo > (widF N a) - wd)))) (by kernel_rfl) ?_
          refine op_nil ?_
          refine W_cond (decide (lo > (widF N a) - wd)) (by kernel_rfl) (by kernel_rfl) (fun hc16 => ?_) (fun hc16 => ?_)
          · replace hc16 : (widF N a) - wd < lo := (of_decide_eq_true hc16)
            refine W_seq ?_
            refine W_fg [(0, .pointer (some ⟨p, 0, none⟩)), (1, .int .i64 a), (2, .int .i64 lo), (3, .int .i64 wd), (8, .int .i64 0), (9, .int .i64 0), (10, .bool false), (13, .bool (badT N.length [a])), (18, .bool (decide (lo > (widF N a) - wd)))] (by kernel_rfl) fun ρ => ?_
            refine W_region (by kernel_rfl) ?_
            refine seg2 (ρ' := upd (upd (updL ρ [(0, .pointer (some ⟨p, 0, none⟩)), (1, .int .i64 a), (2, .int .i64 lo), (3, .int .i64 wd), (8, .int .i64 0), (9, .int .i64 0), (10, .bool false), (13, .bool (badT N.length [a])), (18, .bool (decide (lo > (widF N a) - wd)))]) 8 (.int .i64 0)) 9 (.int .i64 2)) (by kernel_rfl) ?_
            refine op_nil ?_
            refine W_ret ?_
            refine ⟨_, Res_of (v := .tuple #[.int .i64 0, .int .i64 2]) (by kernel_rfl), ?_⟩
            have e : extF N most a lo wd = (0, 2, N) := by unfold extF; rw [if_neg (by first | omega | assumption | exact nb (by assumption)), if_pos (by first | omega | assumption | exact nb (by assumption))]
            rw [e]
            unfold TRet
            exact ⟨rfl, F, ⟨hL, hJ⟩, hMv⟩
          · replace hc16 : lo ≤ (widF N a) - wd := (Int.not_lt.1 (of_decide_eq_false hc16))
            refine W_skip ?_
            refine W_seq ?_
            refine W_fg [(0, .pointer (some ⟨p, 0, none⟩)), (1, .int .i64 a), (2, .int .i64 lo), (3, .int .i64 wd), (8, .int .i64 0), (9, .int .i64 0), (10, .bool false), (13, .bool (badT N.length [a])), (18, .bool (decide (lo > (widF N a) - wd)))] (by kernel_rfl) fun ρ => ?_
            refine W_region (by kernel_rfl) ?_
            refine seg5 (ρ' := upd (upd (upd (upd (upd (updL ρ [(0, .pointer (some ⟨p, 0, none⟩)), (1, .int .i64 a), (2, .int .i64 lo), (3, .int .i64 wd), (8, .int .i64 0), (9, .int .i64 0), (10, .bool false), (13, .bool (badT N.length [a])), (18, .bool (decide (lo > (widF N a) - wd)))]) 41 (.pointer (some ⟨p, 0, none⟩))) 42 (.int .i64 wd)) 43 (.int .i64 a)) 44 (.int .i64 lo)) 45 (.agg #[.int .i64 23, .int .i64 wd, .int .i64 a, .int .i64 lo, .int .i64 0, .int .u64 0])) (by kernel_rfl) ?_
            have lt20 := hB4.lt
            have hwf : nwf (23, wd, a, lo, 0, 0) := nwf_of (by unfold b64 at *; omega) (by unfold b64 at *; omega) (by unfold b64 at *; omega) (by unfold b64 at *; omega) (by unfold b64 at *; omega) (by unfold u64; omega)
            refine st (by rfl) (S_call (args := [.pointer (some ⟨p, 0, none⟩), .agg #[.int .i64 23, .int .i64 wd, .int .i64 a, .int .i64 lo, .int .i64 0, .int .u64 0]]) (by kernel_rfl) (make_ok F p most N (wdR N) (23, wd, a, lo, 0, 0) _ hL hJ.ti hwf) ?_)
            rintro _ w17 ⟨rfl, F18, hL, hm19⟩
            have hMv := hMv.trans hm19
            have hB4 := hB4.tch hm19.1 nF_hB4
            refine seg4 (ρ' := upd (upd (upd (upd (upd (upd (upd (upd (upd (upd (updL ρ [(0, .pointer (some ⟨p, 0, none⟩)), (1, .int .i64 a), (2, .int .i64 lo), (3, .int .i64 wd), (8, .int .i64 0), (9, .int .i64 0), (10, .bool false), (13, .bool (badT N.length [a])), (18, .bool (decide (lo > (widF N a) - wd)))]) 41 (.pointer (some ⟨p, 0, none⟩))) 42 (.int .i64 wd)) 43 (.int .i64 a)) 44 (.int .i64 lo)) 45 (.agg #[.int .i64 23, .int .i64 wd, .int .i64 a, .int .i64 lo, .int .i64 0, .int .u64 0])) 46 (.tuple #[.int .i64 ((mk N most (23, wd, a, lo, 0, 0)).1), .int .i64 ((mk N most (23, wd, a, lo, 0, 0)).2.1)])) 47 (.int .i64 ((mk N most (23, wd, a, lo, 0, 0)).1))) 48 (.int .i64 ((mk N most (23, wd, a, lo, 0, 0)).2.1))) 8 (.int .i64 ((mk N most (23, wd, a, lo, 0, 0)).1))) 9 (.int .i64 ((mk N most (23, wd, a, lo, 0, 0)).2.1))) (by kernel_rfl) ?_
            refine op_nil ?_
            refine W_ret ?_
            refine ⟨_, Res_of (v := .tuple #[.int .i64 ((mk N most (23, wd, a, lo, 0, 0)).1), .int .i64 ((mk N most (23, wd, a, lo, 0, 0)).2.1)]) (by kernel_rfl), ?_⟩
            have e : extF N most a lo wd = mk N most (23, wd, a, lo, 0, 0) := by unfold extF; rw [if_neg (by first | omega | assumption | exact nb (by assumption)), if_neg (by first | omega | assumption | exact nb (by assumption))]
            rw [e]
            unfold TRet
            exact ⟨rfl, _, ⟨hL.congr (wdR_mk (by show (23 : Int) ≠ 21; omega)), mk_TJ hJ hwf (by show 1 ≤ (wd : Int) ∧ (wd : Int) ≤ 64; omega) (fun e => absurd e (by show (23 : Int) ≠ 21; omega))⟩, hMv⟩
        · replace hb13 : widF N a < wd := (of_decide_eq_true hb13)
          refine seg9 (ρ' := upd (upd (upd (upd (upd (upd (upd (upd (upd (upd (upd (upd (upd (upd (upd (upd (upd (upd (upd (upd (upd (upd (upd (updL ρ [(0, .pointer (some ⟨p, 0, none⟩)), (1, .int .i64 a), (2, .int .i64 lo), (3, .int .i64 wd), (8, .int .i64 0), (9, .int .i64 0), (10, .bool false), (13, .bool (badT N.length [a]))]) 19 (.int .i64 wd)) 20 (.bool false)) 21 (.bool false)) 22 (.int .i64 lo)) 23 (.bool false)) 24 (.bool false)) 25 (.bool false)) 26 (.int .i64 wd)) 27 (.pointer (some ⟨p, 0, none⟩))) 28 (.int .i64 a)) 29 (.int .i64 (widF N a))) 30 (.bool true)) 31 (.bool true)) 32 (.bool true)) 33 (undef)) 34 (undef)) 35 (undef)) 36 (undef)) 37 (undef)) 38 (undef)) 39 (undef)) 40 (.bool true)) 18 (.bool true)) (by kernel_rfl) ?_
          refine op_nil ?_
          refine W_cond true (by kernel_rfl) (by kernel_rfl) (fun _ => ?_) (fun h => nomatch h)
          refine W_seq ?_
          refine W_fg [(0, .pointer (some ⟨p, 0, none⟩)), (1, .int .i64 a), (2, .int .i64 lo), (3, .int .i64 wd), (8, .int .i64 0), (9, .int .i64 0), (10, .bool false), (13, .bool (badT N.length [a])), (18, .bool true)] (by kernel_rfl) fun ρ => ?_
          refine W_region (by kernel_rfl) ?_
          refine seg2 (ρ' := upd (upd (updL ρ [(0, .pointer (some ⟨p, 0, none⟩)), (1, .int .i64 a), (2, .int .i64 lo), (3, .int .i64 wd), (8, .int .i64 0), (9, .int .i64 0), (10, .bool false), (13, .bool (badT N.length [a])), (18, .bool true)]) 8 (.int .i64 0)) 9 (.int .i64 2)) (by kernel_rfl) ?_
          refine op_nil ?_
          refine W_ret ?_
          refine ⟨_, Res_of (v := .tuple #[.int .i64 0, .int .i64 2]) (by kernel_rfl), ?_⟩
          have e : extF N most a lo wd = (0, 2, N) := by unfold extF; rw [if_neg (by first | omega | assumption | exact nb (by assumption)), if_pos (by first | omega | assumption | exact nb (by assumption))]
          rw [e]
          unfold TRet
          exact ⟨rfl, F, ⟨hL, hJ⟩, hMv⟩
      · replace hb10 : lo < 0 := (of_decide_eq_true hb10)
        refine seg16 (ρ' := upd (upd (upd (upd (upd (upd (upd (upd (upd (upd (upd (upd (upd (upd (upd (upd (upd (upd (upd (upd (upd (upd (upd (updL ρ [(0, .pointer (some ⟨p, 0, none⟩)), (1, .int .i64 a), (2, .int .i64 lo), (3, .int .i64 wd), (8, .int .i64 0), (9, .int .i64 0), (10, .bool false), (13, .bool (badT N.length [a]))]) 19 (.int .i64 wd)) 20 (.bool false)) 21 (.bool false)) 22 (.int .i64 lo)) 23 (.bool true)) 24 (.bool true)) 25 (.bool true)) 26 (undef)) 27 (undef)) 28 (undef)) 29 (undef)) 30 (undef)) 31 (.bool true)) 32 (.bool true)) 33 (undef)) 34 (undef)) 35 (undef)) 36 (undef)) 37 (undef)) 38 (undef)) 39 (undef)) 40 (.bool true)) 18 (.bool true)) (by kernel_rfl) ?_
        refine op_nil ?_
        refine W_cond true (by kernel_rfl) (by kernel_rfl) (fun _ => ?_) (fun h => nomatch h)
        refine W_seq ?_
        refine W_fg [(0, .pointer (some ⟨p, 0, none⟩)), (1, .int .i64 a), (2, .int .i64 lo), (3, .int .i64 wd), (8, .int .i64 0), (9, .int .i64 0), (10, .bool false), (13, .bool (badT N.length [a])), (18, .bool true)] (by kernel_rfl) fun ρ => ?_
        refine W_region (by kernel_rfl) ?_
        refine seg2 (ρ' := upd (upd (updL ρ [(0, .pointer (some ⟨p, 0, none⟩)), (1, .int .i64 a), (2, .int .i64 lo), (3, .int .i64 wd), (8, .int .i64 0), (9, .int .i64 0), (10, .bool false), (13, .bool (badT N.length [a])), (18, .bool true)]) 8 (.int .i64 0)) 9 (.int .i64 2)) (by kernel_rfl) ?_
        refine op_nil ?_
        refine W_ret ?_
        refine ⟨_, Res_of (v := .tuple #[.int .i64 0, .int .i64 2]) (by kernel_rfl), ?_⟩
        have e : extF N most a lo wd = (0, 2, N) := by unfold extF; rw [if_neg (by first | omega | assumption | exact nb (by assumption)), if_pos (by first | omega | assumption | exact nb (by assumption))]
        rw [e]
        unfold TRet
        exact ⟨rfl, F, ⟨hL, hJ⟩, hMv⟩
    · replace hb9 : wd < 1 := (of_decide_eq_true hb9)
      refine seg20 (ρ' := upd (upd (upd (upd (upd (upd (upd (upd (upd (upd (upd (upd (upd (upd (upd (upd (upd (upd (upd (upd (upd (upd (upd (updL ρ [(0, .pointer (some ⟨p, 0, none⟩)), (1, .int .i64 a), (2, .int .i64 lo), (3, .int .i64 wd), (8, .int .i64 0), (9, .int .i64 0), (10, .bool false), (13, .bool (badT N.length [a]))]) 19 (.int .i64 wd)) 20 (.bool true)) 21 (.bool true)) 22 (undef)) 23 (undef)) 24 (.bool true)) 25 (.bool true)) 26 (undef)) 27 (undef)) 28 (undef)) 29 (undef)) 30 (undef)) 31 (.bool true)) 32 (.bool true)) 33 (undef)) 34 (undef)) 35 (undef)) 36 (undef)) 37 (undef)) 38 (undef)) 39 (undef)) 40 (.bool true)) 18 (.bool true)) (by kernel_rfl) ?_
      refine op_nil ?_
      refine W_cond true (by kernel_rfl) (by kernel_rfl) (fun _ => ?_) (fun h => nomatch h)
      refine W_seq ?_
      refine W_fg [(0, .pointer (some ⟨p, 0, none⟩)), (1, .int .i64 a), (2, .int .i64 lo), (3, .int .i64 wd), (8, .int .i64 0), (9, .int .i64 0), (10, .bool false), (13, .bool (badT N.length [a])), (18, .bool true)] (by kernel_rfl) fun ρ => ?_
      refine W_region (by kernel_rfl) ?_
      refine seg2 (ρ' := upd (upd (updL ρ [(0, .pointer (some ⟨p, 0, none⟩)), (1, .int .i64 a), (2, .int .i64 lo), (3, .int .i64 wd), (8, .int .i64 0), (9, .int .i64 0), (10, .bool false), (13, .bool (badT N.length [a])), (18, .bool true)]) 8 (.int .i64 0)) 9 (.int .i64 2)) (by kernel_rfl) ?_
      refine op_nil ?_
      refine W_ret ?_
      refine ⟨_, Res_of (v := .tuple #[.int .i64 0, .int .i64 2]) (by kernel_rfl), ?_⟩
      have e : extF N most a lo wd = (0, 2, N) := by unfold extF; rw [if_neg (by first | omega | assumption | exact nb (by assumption)), if_pos (by first | omega | assumption | exact nb (by assumption))]
      rw [e]
      unfold TRet
      exact ⟨rfl, F, ⟨hL, hJ⟩, hMv⟩

set_option maxRecDepth 100000 in
theorem cat_ok (F : Nat → Prop) (p : Nat) (most : Int) (N : List Nd) (a : Int) (b : Int) (w : World) (hO : TObj F w p most N) (ha : b64 a) (hb : b64 b) : Ret Try.prog 40 [.pointer (some ⟨p, 0, none⟩), .int .i64 a, .int .i64 b] w fun v w' => TRet F p most w (catF N most a b) v w' := by
  obtain ⟨hL, hJ⟩ := id hO
  have hMv := Mv.refl F w
  have hlen := hJ.ti.len
  have hmost := hJ.ti.most
  have hu_a := ha; unfold b64 at hu_a
  have hu_b := hb; unfold b64 at hu_b
  refine enter Try.func40 rfl rfl ?_
  refine W_seq ?_
  refine W_region (by kernel_rfl) ?_
  refine seg2 (ρ' := upd (upd (ini [.pointer (some ⟨p, 0, none⟩), .int .i64 a, .int .i64 b]) 6 (.int .i64 0)) 7 (.int .i64 0)) (by kernel_rfl) ?_
  refine op_nil ?_
  refine W_seq ?_
  refine W_block ?_
  refine W_seq ?_
  refine W_region (by kernel_rfl) ?_
  refine seg3 (ρ' := upd (upd (upd (upd (upd (ini [.pointer (some ⟨p, 0, none⟩), .int .i64 a, .int .i64 b]) 6 (.int .i64 0)) 7 (.int .i64 0)) 10 (.pointer (some ⟨p, 0, none⟩))) 11 (.bool false)) 9 (.bool false)) (by kernel_rfl) ?_
  refine op_nil ?_
  refine W_cond false (by kernel_rfl) (by kernel_rfl) (fun h => nomatch h) (fun _ => ?_)
  refine W_seq ?_
  refine W_region (by kernel_rfl) ?_
  refine seg3 (ρ' := upd (upd (upd (upd (upd (upd (upd (upd (ini [.pointer (some ⟨p, 0, none⟩), .int .i64 a, .int .i64 b]) 6 (.int .i64 0)) 7 (.int .i64 0)) 10 (.pointer (some ⟨p, 0, none⟩))) 11 (.bool false)) 9 (.bool false)) 13 (.pointer (some ⟨p, 0, none⟩))) 14 (.int .i64 a)) 15 (.int .i64 b)) (by kernel_rfl) ?_
  have hlt_ := hL.lt
  have hz5 := hMv.1.size
  refine st (by rfl) (S_new (v := .slice (some ⟨w.heap.size, 0, none⟩) 2 2) (ob := .cells #[.int .i64 a, .int .i64 b] 3) (by kernel_rfl) fun w1 hT2 hs3 hB4 => ?_)
  replace hB4 : Blk w1 (w.heap.size) 3 [.int .i64 a, .int .i64 b] := hB4
  have hL := hL.tch0 hT2
  have hMv := hMv.then0 hT2
  have nF_hB4 : ¬ F (w.heap.size) := fun e => by have := hlt_ _ e; omega
  refine st (by rfl) (S_call (args := [.pointer (some ⟨p, 0, none⟩), .slice (some ⟨w.heap.size, 0, none⟩) 2 2]) (by kernel_rfl) (none_ok F p most N (wdR N) (w.heap.size) 2 [a, b] _ hL (by omega) (show Blk _ _ 3 (ints .i64 [a, b]) from hB4) rfl (by omega)) ?_)
  rintro _ w6 ⟨rfl, hT7⟩
  have hL := hL.tch0 hT7
  have hMv := hMv.then0 hT7
  have hB4 := hB4.tch0 hT7
  refine seg1 (ρ' := upd (upd (upd (upd (upd (upd (upd (upd (upd (upd (upd (ini [.pointer (some ⟨p, 0, none⟩), .int .i64 a, .int .i64 b]) 6 (.int .i64 0)) 7 (.int .i64 0)) 10 (.pointer (some ⟨p, 0, none⟩))) 11 (.bool false)) 9 (.bool false)) 13 (.pointer (some ⟨p, 0, none⟩))) 14 (.int .i64 a)) 15 (.int .i64 b)) 16 (.slice (some ⟨w.heap.size, 0, none⟩) 2 2)) 17 (.bool (badT N.length [a, b]))) 12 (.bool (badT N.length [a, b]))) (by kernel_rfl) ?_
  refine op_nil ?_
  refine W_cond (badT N.length [a, b]) (by kernel_rfl) (by kernel_rfl) (fun hc8 => ?_) (fun hc8 => ?_)
  · replace hc8 : badT N.length [a, b] = true := (hc8)
    refine W_seq ?_
    refine W_fg [(0, .pointer (some ⟨p, 0, none⟩)), (1, .int .i64 a), (2, .int .i64 b), (6, .int .i64 0), (7, .int .i64 0), (9, .bool false), (12, .bool (badT N.length [a, b]))] (by kernel_rfl) fun ρ => ?_
    refine W_region (by kernel_rfl) ?_
    refine seg2 (ρ' := upd (upd (updL ρ [(0, .pointer (some ⟨p, 0, none⟩)), (1, .int .i64 a), (2, .int .i64 b), (6, .int .i64 0), (7, .int .i64 0), (9, .bool false), (12, .bool (badT N.length [a, b]))]) 6 (.int .i64 0)) 7 (.int .i64 11)) (by kernel_rfl) ?_
    refine op_nil ?_
    refine W_ret ?_
    refine ⟨_, Res_of (v := .tuple #[.int .i64 0, .int .i64 11]) (by kernel_rfl), ?_⟩
    have e : catF N most a b = (0, 11, N) := by unfold catF; rw [if_pos (by first | omega | assumption | exact nb (by assumption))]
    rw [e]
    unfold TRet
    exact ⟨rfl, F, ⟨hL, hJ⟩, hMv⟩
  · replace hc8 : badT N.length [a, b] = false := (hc8)
    obtain ⟨⟨q0, r0⟩, q1, r1⟩ := bad2f.1 hc8
    have wd0 := hJ.wid q0 r0
    have wd1 := hJ.wid q1 r1
    refine W_skip ?_
    refine W_seq ?_
    refine W_fg [(0, .pointer (some ⟨p, 0, none⟩)), (1, .int .i64 a), (2, .int .i64 b), (6, .int .i64 0), (7, .int .i64 0), (9, .bool false), (12, .bool (badT N.length [a, b]))] (by kernel_rfl) fun ρ => ?_
    refine W_region (by kernel_rfl) ?_
    refine seg2 (ρ' := upd (upd (updL ρ [(0, .pointer (some ⟨p, 0, none⟩)), (1, .int .i64 a), (2, .int .i64 b), (6, .int .i64 0), (7, .int .i64 0), (9, .bool false), (12, .bool (badT N.length [a, b]))]) 18 (.pointer (some ⟨p, 0, none⟩))) 19 (.int .i64 a)) (by kernel_rfl) ?_
    refine st (by rfl) (S_call (args := [.pointer (some ⟨p, 0, none⟩), .int .i64 a]) (by kernel_rfl) (width_ok F p most N (wdR N) a _ hL (by omega)) ?_)
    rintro _ w9 ⟨rfl, hT10⟩
    have hL := hL.tch0 hT10
    have hMv := hMv.then0 hT10
    have hB4 := hB4.tch0 hT10
    refine seg2 (ρ' := upd (upd (upd (upd (upd (updL ρ [(0, .pointer (some ⟨p, 0, none⟩)), (1, .int .i64 a), (2, .int .i64 b), (6, .int .i64 0), (7, .int .i64 0), (9, .bool false), (12, .bool (badT N.length [a, b]))]) 18 (.pointer (some ⟨p, 0, none⟩))) 19 (.int .i64 a)) 20 (.int .i64 (widF N a))) 21 (.pointer (some ⟨p, 0, none⟩))) 22 (.int .i64 b)) (by kernel_rfl) ?_
    refine st (by rfl) (S_call (args := [.pointer (some ⟨p, 0, none⟩), .int .i64 b]) (by kernel_rfl) (width_ok F p most N (wdR N) b _ hL (by omega)) ?_)
    rintro _ w11 ⟨rfl, hT12⟩
    have hL := hL.tch0 hT12
    have hMv := hMv.then0 hT12
    have hB4 := hB4.tch0 hT12
    refine seg1 (ρ' := upd (upd (upd (upd (upd (upd (upd (updL ρ [(0, .pointer (some ⟨p, 0, none⟩)), (1, .int .i64 a), (2, .int .i64 b), (6, .int .i64 0), (7, .int .i64 0), (9, .bool false), (12, .bool (badT N.length [a, b]))]) 18 (.pointer (some ⟨p, 0, none⟩))) 19 (.int .i64 a)) 20 (.int .i64 (widF N a))) 21 (.pointer (some ⟨p, 0, none⟩))) 22 (.int .i64 b)) 23 (.int .i64 (widF N b))) 24 (.int .i64 (IntKind.i64.wrap ((widF N a) + (widF N b))))) (by kernel_rfl) ?_
    rw [show IntKind.i64.wrap ((widF N a) + (widF N b)) = (widF N a) + (widF N b) from wrap_i64 (by omega) (by omega)]
    refine seg1 (ρ' := upd (upd (upd (upd (upd (upd (upd (upd (updL ρ [(0, .pointer (some ⟨p, 0, none⟩)), (1, .int .i64 a), (2, .int .i64 b), (6, .int .i64 0), (7, .int .i64 0), (9, .bool false), (12, .bool (badT N.length [a, b]))]) 18 (.pointer (some ⟨p, 0, none⟩))) 19 (.int .i64 a)) 20 (.int .i64 (widF N a))) 21 (.pointer (some ⟨p, 0, none⟩))) 22 (.int .i64 b)) 23 (.int .i64 (widF N b))) 24 (.int .i64 ((widF N a) + (widF N b)))) 8 (.int .i64 ((widF N a) + (widF N b)))) (by kernel_rfl) ?_
    refine op_nil ?_
    refine W_seq ?_
    refine W_seq ?_
    refine W_fg [(0, .pointer (some ⟨p, 0, none⟩)), (1, .int .i64 a), (2, .int .i64 b), (6, .int .i64 0), (7, .int .i64 0), (8, .int .i64 ((widF N a) + (widF N b))), (9, .bool false), (12, .bool (badT N.length [a, b]))] (by kernel_rfl) fun ρ => ?_
    refine W_region (by kernel_rfl) ?_
    refine seg2 (ρ' := upd (upd (updL ρ [(0, .pointer (some ⟨p, 0, none⟩)), (1, .int .i64 a), (2, .int .i64 b), (6, .int .i64 0), (7, .int .i64 0), (8, .int .i64 ((widF N a) + (widF N b))), (9, .bool false), (12, .bool (badT N.length [a, b]))]) 25 (.int .i64 ((widF N a) + (widF N b)))) 26 (.bool (decide ((widF N a) + (widF N b) > 64)))) (by kernel_rfl) ?_
    refine op_nil ?_
    refine W_cond (decide ((widF N a) + (widF N b) > 64)) (by kernel_rfl) (by kernel_rfl) (fun hc13 => ?_) (fun hc13 => ?_)
    · replace hc13 : 64 < (widF N a) + (widF N b) := (of_decide_eq_true hc13)
      refine W_seq ?_
      refine W_region (by kernel_rfl) ?_
      refine seg2 (ρ' := upd (upd (upd (upd (updL ρ [(0, .pointer (some ⟨p, 0, none⟩)), (1, .int .i64 a), (2, .int .i64 b), (6, .int .i64 0), (7, .int .i64 0), (8, .int .i64 ((widF N a) + (widF N b))), (9, .bool false), (12, .bool (badT N.length [a, b]))]) 25 (.int .i64 ((widF N a) + (widF N b)))) 26 (.bool (decide ((widF N a) + (widF N b) > 64)))) 6 (.int .i64 0)) 7 (.int .i64 2)) (by kernel_rfl) ?_
      refine op_nil ?_
      refine W_ret ?_
      refine ⟨_, Res_of (v := .tuple #[.int .i64 0, .int .i64 2]) (by kernel_rfl), ?_⟩
      have e : catF N most a b = (0, 2, N) := by unfold catF; rw [if_neg (by first | omega | assumption | exact nb (by assumption)), if_pos (by first | omega | assumption | exact nb (by assumption))]
      rw [e]
      unfold TRet
      exact ⟨rfl, F, ⟨hL, hJ⟩, hMv⟩
    · replace hc13 : (widF N a) + (widF N b) ≤ 64 := (Int.not_lt.1 (of_decide_eq_false hc13))
      refine W_skip ?_
      refine W_seq ?_
      refine W_region (by kernel_rfl) ?_
      refine seg5 (ρ' := upd (upd (upd (upd (upd (upd (upd (updL ρ [(0, .pointer (some ⟨p, 0, none⟩)), (1, .int .i64 a), (2, .int .i64 b), (6, .int .i64 0), (7, .int .i64 0), (8, .int .i64 ((widF N a) + (widF N b))), (9, .bool false), (12, .bool (badT N.length [a, b]))]) 25 (.int .i64 ((widF N a) + (widF N b)))) 26 (.bool (decide ((widF N a) + (widF N b) > 64)))) 27 (.pointer (some ⟨p, 0, none⟩))) 28 (.int .i64 ((widF N a) + (widF N b)))) 29 (.int .i64 a)) 30 (.int .i64 b)) 31 (.agg #[.int .i64 24, .int .i64 ((widF N a) + (widF N b)), .int .i64 a, .int .i64 b, .int .i64 0, .int .u64 0])) (by kernel_rfl) ?_
      have lt17 := hB4.lt
      have hwf : nwf (24, (widF N a) + (widF N b), a, b, 0, 0) := nwf_of (by unfold b64 at *; omega) (by unfold b64 at *; omega) (by unfold b64 at *; omega) (by unfold b64 at *; omega) (by unfold b64 at *; omega) (by unfold u64; omega)
      refine st (by rfl) (S_call (args := [.pointer (some ⟨p, 0, none⟩), .agg #[.int .i64 24, .int .i64 ((widF N a) + (widF N b)), .int .i64 a, .int .i64 b, .int .i64 0, .int .u64 0]]) (by kernel_rfl) (make_ok F p most N (wdR N) (24, (widF N a) + (widF N b), a, b, 0, 0) _ hL hJ.ti hwf) ?_)
      rintro _ w14 ⟨rfl, F15, hL, hm16⟩
      have hMv := hMv.trans hm16
      have hB4 := hB4.tch hm16.1 nF_hB4
      refine seg4 (ρ' := upd (upd (upd (upd (upd (upd (upd (upd (upd (upd (upd (upd (updL ρ [(0, .pointer (some ⟨p, 0, none⟩)), (1, .int .i64 a), (2, .int .i64 b), (6, .int .i64 0), (7, .int .i64 0), (8, .int .i64 ((widF N a) + (widF N b))), (9, .bool false), (12, .bool (badT N.length [a, b]))]) 25 (.int .i64 ((widF N a) + (widF N b)))) 26 (.bool (decide ((widF N a) + (widF N b) > 64)))) 27 (.pointer (some ⟨p, 0, none⟩))) 28 (.int .i64 ((widF N a) + (widF N b)))) 29 (.int .i64 a)) 30 (.int .i64 b)) 31 (.agg #[.int .i64 24, .int .i64 ((widF N a) + (widF N b)), .int .i64 a, .int .i64 b, .int .i64 0, .int .u64 0])) 32 (.tuple #[.int .i64 ((mk N most (24, (widF N a) + (widF N b), a, b, 0, 0)).1), .int .i64 ((mk N most (24, (widF N a) + (widF N b), a, b, 0, 0)).2.1)])) 33 (.int .i64 ((mk N most (24, (widF N a) + (widF N b), a, b, 0, 0)).1))) 34 (.int .i64 ((mk N most (24, (widF N a) + (widF N b), a, b, 0, 0)).2.1))) 6 (.int .i64 ((mk N most (24, (widF N a) + (widF N b), a, b, 0, 0)).1))) 7 (.int .i64 ((mk N most (24, (widF N a) + (widF N b), a, b, 0, 0)).2.1))) (by kernel_rfl) ?_
      refine op_nil ?_
      refine W_ret ?_
      refine ⟨_, Res_of (v := .tuple #[.int .i64 ((mk N most (24, (widF N a) + (widF N b), a, b, 0, 0)).1), .int .i64 ((mk N most (24, (widF N a) + (widF N b), a, b, 0, 0)).2.1)]) (by kernel_rfl), ?_⟩
      have e : catF N most a b = mk N most (24, (widF N a) + (widF N b), a, b, 0, 0) := by unfold catF; rw [if_neg (by first | omega | assumption | exact nb (by assumption)), if_neg (by first | omega | assumption | exact nb (by assumption))]
      rw [e]
      unfold TRet
      exact ⟨rfl, _, ⟨hL.congr (wdR_mk (by show (24 : Int) ≠ 21; omega)), mk_TJ hJ hwf (by show 1 ≤ ((widF N a) + (widF N b) : Int) ∧ ((widF N a) + (widF N b) : Int) ≤ 64; omega) (fun e => absurd e (by show (24 : Int) ≠ 21; omega))⟩, hMv⟩

set_option maxRecDepth 100000 in
theorem exd_ok (F : Nat → Prop) (p : Nat) (most : Int) (N : List Nd) (a : Int) (wd : Int) (sg : Bool) (w : World) (hO : TObj F w p most N) (ha : b64 a) (hwd : b64 wd) : Ret Try.prog 38 [.pointer (some ⟨p, 0, none⟩), .int .i64 a, .int .i64 wd, .bool sg] w fun v w' => TRet F p most w (exdF N most a wd sg) v w' := by
  obtain ⟨hL, hJ⟩ := id hO
  have hMv := Mv.refl F w
  have hlen := hJ.ti.len
  have hmost := hJ.ti.most
  have hu_a := ha; unfold b64 at hu_a
  have hu_wd := hwd; unfold b64 at hu_wd
  refine enter Try.func38 rfl rfl ?_
  refine W_seq ?_
  refine W_region (by kernel_rfl) ?_
  refine seg2 (ρ' := upd (upd (ini [.pointer (some ⟨p, 0, none⟩), .int .i64 a, .int .i64 wd, .bool sg]) 8 (.int .i64 0)) 9 (.int .i64 0)) (by kernel_rfl) ?_
  refine op_nil ?_
  refine W_seq ?_
  refine W_block ?_
  refine W_seq ?_
  refine W_region (by kernel_rfl) ?_
  refine seg3 (ρ' := upd (upd (upd (upd (upd (ini [.pointer (some ⟨p, 0, none⟩), .int .i64 a, .int .i64 wd, .bool sg]) 8 (.int .i64 0)) 9 (.int .i64 0)) 12 (.pointer (some ⟨p, 0, none⟩))) 13 (.bool false)) 11 (.bool false)) (by kernel_rfl) ?_
  refine op_nil ?_
  refine W_cond false (by kernel_rfl) (by kernel_rfl) (fun h => nomatch h) (fun _ => ?_)
  refine W_seq ?_
  refine W_region (by kernel_rfl) ?_
  refine seg2 (ρ' := upd (upd (upd (upd (upd (upd (upd (ini [.pointer (some ⟨p, 0, none⟩), .int .i64 a, .int .i64 wd, .bool sg]) 8 (.int .i64 0)) 9 (.int .i64 0)) 12 (.pointer (some ⟨p, 0, none⟩))) 13 (.bool false)) 11 (.bool false)) 15 (.pointer (some ⟨p, 0, none⟩))) 16 (.int .i64 a)) (by kernel_rfl) ?_
  have hlt_ := hL.lt
  have hz5 := hMv.1.size
  refine st (by rfl) (S_new (v := .slice (some ⟨w.heap.size, 0, none⟩) 1 1) (ob := .cells #[.int .i64 a] 3) (by kernel_rfl) fun w1 hT2 hs3 hB4 => ?_)
  replace hB4 : Blk w1 (w.heap.size) 3 [.int .i64 a] := hB4
  have hL := hL.tch0 hT2
  have hMv := hMv.then0 hT2
  have nF_hB4 : ¬ F (w.heap.size) := fun e => by have := hlt_ _ e; omega
  refine st (by rfl) (S_call (args := [.pointer (some ⟨p, 0, none⟩), .slice (some ⟨w.heap.size, 0, none⟩) 1 1]) (by kernel_rfl) (none_ok F p most N (wdR N) (w.heap.size) 1 [a] _ hL (by omega) (show Blk _ _ 3 (ints .i64 [a]) from hB4) rfl (by omega)) ?_)
  rintro _ w6 ⟨rfl, hT7⟩
  have hL := hL.tch0 hT7
  have hMv := hMv.then0 hT7
  have hB4 := hB4.tch0 hT7
  refine seg1 (ρ' := upd (upd (upd (upd (upd (upd (upd (upd (upd (upd (ini [.pointer (some ⟨p, 0, none⟩), .int .i64 a, .int .i64 wd, .bool sg]) 8 (.int .i64 0)) 9 (.int .i64 0)) 12 (.pointer (some ⟨p, 0, none⟩))) 13 (.bool false)) 11 (.bool false)) 15 (.pointer (some ⟨p, 0, none⟩))) 16 (.int .i64 a)) 17 (.slice (some ⟨w.heap.size, 0, none⟩) 1 1)) 18 (.bool (badT N.length [a]))) 14 (.bool (badT N.length [a]))) (by kernel_rfl) ?_
  refine op_nil ?_
  refine W_cond (badT N.length [a]) (by kernel_rfl) (by kernel_rfl) (fun hc8 => ?_) (fun hc8 => ?_)
  · replace hc8 : badT N.length [a] = true := (hc8)
    refine W_seq ?_
    refine W_fg [(0, .pointer (some ⟨p, 0, none⟩)), (1, .int .i64 a), (2, .int .i64 wd), (3, .bool sg), (8, .int .i64 0), (9, .int .i64 0), (11, .bool false), (14, .bool (badT N.length [a]))] (by kernel_rfl) fun ρ => ?_
    refine W_region (by kernel_rfl) ?_
    refine seg2 (ρ' := upd (upd (updL ρ [(0, .pointer (some ⟨p, 0, none⟩)), (1, .int .i64 a), (2, .int .i64 wd), (3, .bool sg), (8, .int .i64 0), (9, .int .i64 0), (11, .bool false), (14, .bool (badT N.length [a]))]) 8 (.int .i64 0)) 9 (.int .i64 11)) (by kernel_rfl) ?_
    refine op_nil ?_
    refine W_ret ?_
    refine ⟨_, Res_of (v := .tuple #[.int .i64 0, .int .i64 11]) (by kernel_rfl), ?_⟩
    have e : exdF N most a wd sg = (0, 11, N) := by unfold exdF; rw [if_pos (by first | omega | assumption | exact nb (by assumption))]
    rw [e]
    unfold TRet
    exact ⟨rfl, F, ⟨hL, hJ⟩, hMv⟩
  · replace hc8 : badT N.length [a] = false := (hc8)
    obtain ⟨q0, r0⟩ := bad1f.1 hc8
    have wd0 := hJ.wid q0 r0
    refine W_seq ?_
    refine W_fg [(0, .pointer (some ⟨p, 0, none⟩)), (1, .int .i64 a), (2, .int .i64 wd), (3, .bool sg), (8, .int .i64 0), (9, .int .i64 0), (11, .bool false), (14, .bool (badT N.length [a]))] (by kernel_rfl) fun ρ => ?_
    refine W_region (by kernel_rfl) ?_
    refine seg3 (ρ' := upd (upd (upd (updL ρ [(0, .pointer (some ⟨p, 0, none⟩)), (1, .int .i64 a), (2, .int .i64 wd), (3, .bool sg), (8, .int .i64 0), (9, .int .i64 0), (11, .bool false), (14, .bool (badT N.length [a]))]) 20 (.int .i64 wd)) 21 (.pointer (some ⟨p, 0, none⟩))) 22 (.int .i64 a)) (by kernel_rfl) ?_
    refine st (by rfl) (S_call (args := [.pointer (some ⟨p, 0, none⟩), .int .i64 a]) (by kernel_rfl) (width_ok F p most N (wdR N) a _ hL (by omega)) ?_)
    rintro _ w9 ⟨rfl, hT10⟩
    have hL := hL.tch0 hT10
    have hMv := hMv.then0 hT10
    have hB4 := hB4.tch0 hT10
    refine seg2 (ρ' := upd (upd (upd (upd (upd (upd (updL ρ [(0, .pointer (some ⟨p, 0, none⟩)), (1, .int .i64 a), (2, .int .i64 wd), (3, .bool sg), (8, .int .i64 0), (9, .int .i64 0), (11, .bool false), (14, .bool (badT N.length [a]))]) 20 (.int .i64 wd)) 21 (.pointer (some ⟨p, 0, none⟩))) 22 (.int .i64 a)) 23 (.int .i64 (widF N a))) 24 (.bool (decide (wd < widF N a)))) 25 (.bool (decide (wd < widF N a)))) (by kernel_rfl) ?_
    cases hb11 : decide (wd < widF N a)
    · replace hb11 : widF N a ≤ wd := (Int.not_lt.1 (of_decide_eq_false hb11))
      refine seg4 (ρ' := upd (upd (upd (upd (upd (upd (upd (upd (upd (upd (updL ρ [(0, .pointer (some ⟨p, 0, none⟩)), (1, .int .i64 a), (2, .int .i64 wd), (3, .bool sg), (8, .int .i64 0), (9, .int .i64 0), (11, .bool false), (14, .bool (badT N.length [a]))]) 20 (.int .i64 wd)) 21 (.pointer (some ⟨p, 0, none⟩))) 22 (.int .i64 a)) 23 (.int .i64 (widF N a))) 24 (.bool false)) 25 (.bool false)) 26 (.int .i64 wd)) 27 (.bool (decide (wd > 64)))) 28 (.bool (decide (wd > 64)))) 19 (.bool (decide (wd > 64)))) (by kernel_rfl) ?_
      refine op_nil ?_
      refine W_cond (decide (wd > 64)) (by kernel_rfl) (by kernel_rfl) (fun hc12 => ?_) (fun hc12 => ?_)
      · replace hc12 : 64 < wd := (of_decide_eq_true hc12)
        refine W_seq ?_
        refine W_fg [(0, .pointer (some ⟨p, 0, none⟩)), (1, .int .i64 a), (2, .int .i64 wd), (3, .bool sg), (8, .int .i64 0), (9, .int .i64 0), (11, .bool false), (14, .bool (badT N.length [a])), (19, .bool (decide (wd > 64)))] (by kernel_rfl) fun ρ => ?_
        refine W_region (by kernel_rfl) ?_
        refine seg2 (ρ' := upd (upd (updL ρ [(0, .pointer (some ⟨p, 0, none⟩)), (1, .int .i64 a), (2, .int .i64 wd), (3, .bool sg), (8, .int .i64 0), (9, .int .i64 0), (11, .bool false), (14, .bool (badT N.length [a])), (19, .bool (decide (wd > 64)))]) 8 (.int .i64 0)) 9 (.int .i64 2)) (by kernel_rfl) ?_
        refine op_nil ?_
        refine W_ret ?_
        refine ⟨_, Res_of (v := .tuple #[.int .i64 0, .int .i64 2]) (by kernel_rfl), ?_⟩
        have e : exdF N most a wd sg = (0, 2, N) := by unfold exdF; rw [if_neg (by first | omega | assumption | exact nb (by assumption)), if_pos (by first | omega | assumption | exact nb (by assumption))]
        rw [e]
        unfold TRet
        exact ⟨rfl, F, ⟨hL, hJ⟩, hMv⟩
      · replace hc12 : wd ≤ 64 := (Int.not_lt.1 (of_decide_eq_false hc12))
        refine W_seq ?_
        refine W_fg [(0, .pointer (some ⟨p, 0, none⟩)), (1, .int .i64 a), (2, .int .i64 wd), (3, .bool sg), (8, .int .i64 0), (9, .int .i64 0), (11, .bool false), (14, .bool (badT N.length [a])), (19, .bool (decide (wd > 64)))] (by kernel_rfl) fun ρ => ?_
        refine W_region (by kernel_rfl) ?_
        refine seg3 (ρ' := upd (upd (upd (updL ρ [(0, .pointer (some ⟨p, 0, none⟩)), (1, .int .i64 a), (2, .int .i64 wd), (3, .bool sg), (8, .int .i64 0), (9, .int .i64 0), (11, .bool false), (14, .bool (badT N.length [a])), (19, .bool (decide (wd > 64)))]) 30 (.int .i64 wd)) 31 (.pointer (some ⟨p, 0, none⟩))) 32 (.int .i64 a)) (by kernel_rfl) ?_
        refine st (by rfl) (S_call (args := [.pointer (some ⟨p, 0, none⟩), .int .i64 a]) (by kernel_rfl) (width_ok F p most N (wdR N) a _ hL (by omega)) ?_)
        rintro _ w13 ⟨rfl, hT14⟩
        have hL := hL.tch0 hT14
        have hMv := hMv.then0 hT14
        have hB4 := hB4.tch0 hT14
        refine seg2 (ρ' := upd (upd (upd (upd (upd (upd (updL ρ [(0, .pointer (some ⟨p, 0, none⟩)), (1, .int .i64 a), (2, .int .i64 wd), (3, .bool sg), (8, .int .i64 0), (9, .int .i64 0), (11, .bool false), (14, .bool (badT N.length [a])), (19, .bool (decide (wd > 64)))]) 30 (.int .i64 wd)) 31 (.pointer (some ⟨p, 0, none⟩))) 32 (.int .i64 a)) 33 (.int .i64 (widF N a))) 34 (.bool (wd == (widF N a)))) 29 (.bool (wd == (widF N a)))) (by kernel_rfl) ?_
        refine op_nil ?_
        refine W_cond (wd == (widF N a)) (by kernel_rfl) (by kernel_rfl) (fun hc15 => ?_) (fun hc15 => ?_)
        · replace hc15 : wd = widF N a := (eq_of_beq hc15)
          refine W_seq ?_
          refine W_region (by kernel_rfl) ?_
          refine seg3 (ρ' := upd (upd (upd (upd (upd (upd (upd (upd (upd (updL ρ [(0, .pointer (some ⟨p, 0, none⟩)), (1, .int .i64 a), (2, .int .i64 wd), (3, .bool sg), (8, .int .i64 0), (9, .int .i64 0), (11, .bool false), (14, .bool (badT N.length [a])), (19, .bool (decide (wd > 64)))]) 30 (.int .i64 wd)) 31 (.pointer (some ⟨p, 0, none⟩))) 32 (.int .i64 a)) 33 (.int .i64 (widF N a))) 34 (.bool (wd == (widF N a)))) 29 (.bool (wd == (widF N a)))) 35 (.int .i64 a)) 8 (.int .i64 a)) 9 (.int .i64 0)) (by kernel_rfl) ?_
          refine op_nil ?_
          refine W_ret ?_
          refine ⟨_, Res_of (v := .tuple #[.int .i64 a, .int .i64 0]) (by kernel_rfl), ?_⟩
          have e : exdF N most a wd sg = (a, 0, N) := by unfold exdF; rw [if_neg (by first | omega | assumption | exact nb (by assumption)), if_neg (by first | omega | assumption | exact nb (by assumption)), if_pos (by first | omega | assumption | exact nb (by assumption))]
          rw [e]
          unfold TRet
          exact ⟨rfl, F, ⟨hL, hJ⟩, hMv⟩
        · replace hc15 : wd ≠ widF N a := (ne_of_beq_false hc15)
          refine W_skip ?_
          refine W_seq ?_
          refine W_region (by kernel_rfl) ?_
          refine seg3 (ρ' := upd (upd (upd (upd (upd (upd (upd (upd (upd (updL ρ [(0, .pointer (some ⟨p, 0, none⟩)), (1, .int .i64 a), (2, .int .i64 wd), (3, .bool sg), (8, .int .i64 0), (9, .int .i64 0), (11, .bool false), (14, .bool (badT N.length [a])), (19, .bool (decide (wd > 64)))]) 30 (.int .i64 wd)) 31 (.pointer (some ⟨p, 0, none⟩))) 32 (.int .i64 a)) 33 (.int .i64 (widF N a))) 34 (.bool (wd == (widF N a)))) 29 (.bool (wd == (widF N a)))) 36 (.int .i64 wd)) 37 (.int .i64 a)) 38 (.agg #[.int .i64 25, .int .i64 wd, .int .i64 a, .int .i64 0, .int .i64 0, .int .u64 0])) (by kernel_rfl) ?_
          have hlt_ := hL.lt
          have hz20 := hMv.1.size
          have lt21 := hB4.lt
          refine st (by rfl) (S_new (v := .pointer (some ⟨w13.heap.size, 0, none⟩)) (ob := .cells #[.int .i64 0, .int .i64 0, .int .i64 0, .int .i64 0, .int .i64 0, .int .u64 0] 32) (by kernel_rfl) fun w16 hT17 hs18 hB19 => ?_)
          replace hB19 : Blk w16 (w13.heap.size) 32 [.int .i64 0, .int .i64 0, .int .i64 0, .int .i64 0, .int .i64 0, .int .u64 0] := hB19
          have hL := hL.tch0 hT17
          have hMv := hMv.then0 hT17
          have hB4 := hB4.tch0 hT17
          have nF_hB19 : ¬ F (w13.heap.size) := fun e => by have := hlt_ _ e; omega
          refine st (by rfl) (S_storeA (b := w13.heap.size) (j := 0) (cs := [.int .i64 25, .int .i64 wd, .int .i64 a, .int .i64 0, .int .i64 0, .int .u64 0]) (by kernel_rfl) (by kernel_rfl) (by kernel_rfl) (by simp [oneV]) hB19 (by simp) fun w22 hT23 hs24 hB19' => ?_)
          have hL := hL.tchS hT23 (fun c e q => by cases e; exact nF_hB19 q)
          have hMv := hMv.newst hT23 (by omega)
          have hB4 := hB4.tch hT23 (hB4.ne hB19 (by decide))
          replace hB19 : Blk w22 w13.heap.size 32 [.int .i64 25, .int .i64 wd, .int .i64 a, .int .i64 0, .int .i64 0, .int .u64 0] := hB19'
          refine op_nil ?_
          refine W_seq ?_
          refine W_seq ?_
          refine W_fg [(0, .pointer (some ⟨p, 0, none⟩)), (1, .int .i64 a), (2, .int .i64 wd), (3, .bool sg), (8, .int .i64 0), (9, .int .i64 0), (10, .pointer (some ⟨w13.heap.size, 0, none⟩)), (11, .bool false), (14, .bool (badT N.length [a])), (19, .bool (decide (wd > 64))), (29, .bool (wd == (widF N a)))] (by kernel_rfl) fun ρ => ?_
          refine W_region (by kernel_rfl) ?_
          refine seg1 (ρ' := upd (updL ρ [(0, .pointer (some ⟨p, 0, none⟩)), (1, .int .i64 a), (2, .int .i64 wd), (3, .bool sg), (8, .int .i64 0), (9, .int .i64 0), (10, .pointer (some ⟨w13.heap.size, 0, none⟩)), (11, .bool false), (14, .bool (badT N.length [a])), (19, .bool (decide (wd > 64))), (29, .bool (wd == (widF N a)))]) 39 (.bool sg)) (by kernel_rfl) ?_
          refine op_nil ?_
          refine W_cond (sg) (by kernel_rfl) (by kernel_rfl) (fun hc25 => ?_) (fun hc25 => ?_)
          · replace hc25 : sg = true := (hc25)
            refine W_region (by kernel_rfl) ?_
            refine seg1 (ρ' := upd (upd (updL ρ [(0, .pointer (some ⟨p, 0, none⟩)), (1, .int .i64 a), (2, .int .i64 wd), (3, .bool sg), (8, .int .i64 0), (9, .int .i64 0), (10, .pointer (some ⟨w13.heap.size, 0, none⟩)), (11, .bool false), (14, .bool (badT N.length [a])), (19, .bool (decide (wd > 64))), (29, .bool (wd == (widF N a)))]) 39 (.bool sg)) 40 (.pointer (some ⟨w13.heap.size, 0, none⟩))) (by kernel_rfl) ?_
            refine st (by rfl) (S_store (b := w13.heap.size) (j := 0) (v := .int .i64 26) (by kernel_rfl) (by kernel_rfl) (by kernel_rfl) (by rfl) hB19 (by simp) fun w26 hT27 hs28 hB19' => ?_)
            have hL := hL.tchS hT27 (fun c e q => by cases e; exact nF_hB19 q)
            have hMv := hMv.newst hT27 (by omega)
            have hB4 := hB4.tch hT27 (hB4.ne hB19 (by decide))
            replace hB19 : Blk w26 w13.heap.size 32 [.int .i64 26, .int .i64 wd, .int .i64 a, .int .i64 0, .int .i64 0, .int .u64 0] := hB19'
            refine op_nil ?_
            refine W_seq ?_
            refine W_region (by kernel_rfl) ?_
            refine seg1 (ρ' := upd (upd (upd (updL ρ [(0, .pointer (some ⟨p, 0, none⟩)), (1, .int .i64 a), (2, .int .i64 wd), (3, .bool sg), (8, .int .i64 0), (9, .int .i64 0), (10, .pointer (some ⟨w13.heap.size, 0, none⟩)), (11, .bool false), (14, .bool (badT N.length [a])), (19, .bool (decide (wd > 64))), (29, .bool (wd == (widF N a)))]) 39 (.bool sg)) 40 (.pointer (some ⟨w13.heap.size, 0, none⟩))) 41 (.pointer (some ⟨p, 0, none⟩))) (by kernel_rfl) ?_
            refine st (by rfl) (S_val (v := .agg #[.int .i64 26, .int .i64 wd, .int .i64 a, .int .i64 0, .int .i64 0, .int .u64 0]) (R_loadA [.int .i64 26, .int .i64 wd, .int .i64 a, .int .i64 0, .int .i64 0, .int .u64 0] (by kernel_rfl) (by kernel_rfl) (by kernel_rfl) (fun k u hk => by rw [hB19.cell]; exact get_part _ 0 _ k u rfl hk)) ?_)
            have lt32 := hB4.lt
            have lt33 := hB19.lt
            have hwf : nwf (26, wd, a, 0, 0, 0) := nwf_of (by unfold b64 at *; omega) (by unfold b64 at *; omega) (by unfold b64 at *; omega) (by unfold b64 at *; omega) (by unfold b64 at *; omega) (by unfold u64; omega)
            refine st (by rfl) (S_call (args := [.pointer (some ⟨p, 0, none⟩), .agg #[.int .i64 26, .int .i64 wd, .int .i64 a, .int .i64 0, .int .i64 0, .int .u64 0]]) (by kernel_rfl) (make_ok F p most N (wdR N) (26, wd, a, 0, 0, 0) _ hL hJ.ti hwf) ?_)
            rintro _ w29 ⟨rfl, F30, hL, hm31⟩
            have hMv := hMv.trans hm31
            have hB4 := hB4.tch hm31.1 nF_hB4
            have hB19 := hB19.tch hm31.1 nF_hB19
            refine seg4 (ρ' := upd (upd (upd (upd (upd (upd (upd (upd (upd (updL ρ [(0, .pointer (some ⟨p, 0, none⟩)), (1, .int .i64 a), (2, .int .i64 wd), (3, .bool sg), (8, .int .i64 0), (9, .int .i64 0), (10, .pointer (some ⟨w13.heap.size, 0, none⟩)), (11, .bool false), (14, .bool (badT N.length [a])), (19, .bool (decide (wd > 64))), (29, .bool (wd == (widF N a)))]) 39 (.bool sg)) 40 (.pointer (some ⟨w13.heap.size, 0, none⟩))) 41 (.pointer (some ⟨p, 0, none⟩))) 42 (.agg #[.int .i64 26, .int .i64 wd, .int .i64 a, .int .i64 0, .int .i64 0, .int .u64 0])) 43 (.tuple #[.int .i64 ((mk N most (26, wd, a, 0, 0, 0)).1), .int .i64 ((mk N most (26, wd, a, 0, 0, 0)).2.1)])) 44 (.int .i64 ((mk N most (26, wd, a, 0, 0, 0)).1))) 45 (.int .i64 ((mk N most (26, wd, a, 0, 0, 0)).2.1))) 8 (.int .i64 ((mk N most (26, wd, a, 0, 0, 0)).1))) 9 (.int .i64 ((mk N most (26, wd, a, 0, 0, 0)).2.1))) (by kernel_rfl) ?_
            refine op_nil ?_
            refine W_ret ?_
            refine ⟨_, Res_of (v := .tuple #[.int .i64 ((mk N most (26, wd, a, 0, 0, 0)).1), .int .i64 ((mk N most (26, wd, a, 0, 0, 0)).2.1)]) (by kernel_rfl), ?_⟩
            have e : exdF N most a wd sg = mk N most (26, wd, a, 0, 0, 0) := by unfold exdF; rw [if_neg (by first | omega | assumption | exact nb (by assumption)), if_neg (by first | omega | assumption | exact nb (by assumption)), if_neg (by first | omega | assumption | exact nb (by assumption)), if_pos (by first | assumption | exact nb (by assumption))]
            rw [e]
            unfold TRet
            exact ⟨rfl, _, ⟨hL.congr (wdR_mk (by show (26 : Int) ≠ 21; omega)), mk_TJ hJ hwf (by show 1 ≤ (wd : Int) ∧ (wd : Int) ≤ 64; omega) (fun e => absurd e (by show (26 : Int) ≠ 21; omega))⟩, hMv⟩
          · replace hc25 : sg = false := (hc25)
            refine W_skip ?_
            refine W_seq ?_
            refine W_region (by kernel_rfl) ?_
            refine seg1 (ρ' := upd (upd (updL ρ [(0, .pointer (some ⟨p, 0, none⟩)), (1, .int .i64 a), (2, .int .i64 wd), (3, .bool sg), (8, .int .i64 0), (9, .int .i64 0), (10, .pointer (some ⟨w13.heap.size, 0, none⟩)), (11, .bool false), (14, .bool (badT N.length [a])), (19, .bool (decide (wd > 64))), (29, .bool (wd == (widF N a)))]) 39 (.bool sg)) 41 (.pointer (some ⟨p, 0, none⟩))) (by kernel_rfl) ?_
            refine st (by rfl) (S_val (v := .agg #[.int .i64 25, .int .i64 wd, .int .i64 a, .int .i64 0, .int .i64 0, .int .u64 0]) (R_loadA [.int .i64 25, .int .i64 wd, .int .i64 a, .int .i64 0, .int .i64 0, .int .u64 0] (by kernel_rfl) (by kernel_rfl) (by kernel_rfl) (fun k u hk => by rw [hB19.cell]; exact get_part _ 0 _ k u rfl hk)) ?_)
            have lt37 := hB4.lt
            have lt38 := hB19.lt
            have hwf : nwf (25, wd, a, 0, 0, 0) := nwf_of (by unfold b64 at *; omega) (by unfold b64 at *; omega) (by unfold b64 at *; omega) (by unfold b64 at *; omega) (by unfold b64 at *; omega) (by unfold u64; omega)
            refine st (by rfl) (S_call (args := [.pointer (some ⟨p, 0, none⟩), .agg #[.int .i64 25, .int .i64 wd, .int .i64 a, .int .i64 0, .int .i64 0, .int .u64 0]]) (by kernel_rfl) (make_ok F p most N (wdR N) (25, wd, a, 0, 0, 0) _ hL hJ.ti hwf) ?_)
            rintro _ w34 ⟨rfl, F35, hL, hm36⟩
            have hMv := hMv.trans hm36
            have hB4 := hB4.tch hm36.1 nF_hB4
            have hB19 := hB19.tch hm36.1 nF_hB19
            refine seg4 (ρ' := upd (upd (upd (upd (upd (upd (upd (upd (updL ρ [(0, .pointer (some ⟨p, 0, none⟩)), (1, .int .i64 a), (2, .int .i64 wd), (3, .bool sg), (8, .int .i64 0), (9, .int .i64 0), (10, .pointer (some ⟨w13.heap.size, 0, none⟩)), (11, .bool false), (14, .bool (badT N.length [a])), (19, .bool (decide (wd > 64))), (29, .bool (wd == (widF N a)))]) 39 (.bool sg)) 41 (.pointer (some ⟨p, 0, none⟩))) 42 (.agg #[.int .i64 25, .int .i64 wd, .int .i64 a, .int .i64 0, .int .i64 0, .int .u64 0])) 43 (.tuple #[.int .i64 ((mk N most (25, wd, a, 0, 0, 0)).1), .int .i64 ((mk N most (25, wd, a, 0, 0, 0)).2.1)])) 44 (.int .i64 ((mk N most (25, wd, a, 0, 0, 0)).1))) 45 (.int .i64 ((mk N most (25, wd, a, 0, 0, 0)).2.1))) 8 (.int .i64 ((mk N most (25, wd, a, 0, 0, 0)).1))) 9 (.int .i64 ((mk N most (25, wd, a, 0, 0, 0)).2.1))) (by kernel_rfl) ?_
            refine op_nil ?_
            refine W_ret ?_
            refine ⟨_, Res_of (v := .tuple #[.int .i64 ((mk N most (25, wd, a, 0, 0, 0)).1), .int .i64 ((mk N most (25, wd, a, 0, 0, 0)).2.1)]) (by kernel_rfl), ?_⟩
            have e : exdF N most a wd sg = mk N most (25, wd, a, 0, 0, 0) := by unfold exdF; rw [if_neg (by first | omega | assumption | exact nb (by assumption)), if_neg (by first | omega | assumption | exact nb (by assumption)), if_neg (by first | omega | assumption | exact nb (by assumption)), if_neg (by first | assumption | exact nb (by assumption))]
            rw [e]
            unfold TRet
            exact ⟨rfl, _, ⟨hL.congr (wdR_mk (by show (25 : Int) ≠ 21; omega)), mk_TJ hJ hwf (by show 1 ≤ (wd : Int) ∧ (wd : Int) ≤ 64; omega) (fun e => absurd e (by show (25 : Int) ≠ 21; omega))⟩, hMv⟩
    · replace hb11 : wd < widF N a := (of_decide_eq_true hb11)
      refine seg4 (ρ' := upd (upd (upd (upd (upd (upd (upd (upd (upd (upd (updL ρ [(0, .pointer (some ⟨p, 0, none⟩)), (1, .int .i64 a), (2, .int .i64 wd), (3, .bool sg), (8, .int .i64 0), (9, .int .i64 0), (11, .bool false), (14, .bool (badT N.length [a]))]) 20 (.int .i64 wd)) 21 (.pointer (some ⟨p, 0, none⟩))) 22 (.int .i64 a)) 23 (.int .i64 (widF N a))) 24 (.bool true)) 25 (.bool true)) 26 (undef)) 27 (undef)) 28 (.bool true)) 19 (.bool true)) (by kernel_rfl) ?_
      refine op_nil ?_
      refine W_cond true (by kernel_rfl) (by kernel_rfl) (fun _ => ?_) (fun h => nomatch h)
      refine W_seq ?_
      refine W_fg [(0, .pointer (some ⟨p, 0, none⟩)), (1, .int .i64 a), (2, .int .i64 wd), (3, .bool sg), (8, .int .i64 0), (9, .int .i64 0), (11, .bool false), (14, .bool (badT N.length [a])), (19, .bool true)] (by kernel_rfl) fun ρ => ?_
      refine W_region (by kernel_rfl) ?_
      refine seg2 (ρ' := upd (upd (updL ρ [(0, .pointer (some ⟨p, 0, none⟩)), (1, .int .i64 a), (2, .int .i64 wd), (3, .bool sg), (8, .int .i64 0), (9, .int .i64 0), (11, .bool false), (14, .bool (badT N.length [a])), (19, .bool true)]) 8 (.int .i64 0)) 9 (.int .i64 2)) (by kernel_rfl) ?_
      refine op_nil ?_
      refine W_ret ?_
      refine ⟨_, Res_of (v := .tuple #[.int .i64 0, .int .i64 2]) (by kernel_rfl), ?_⟩
      have e : exdF N most a wd sg = (0, 2, N) := by unfold exdF; rw [if_neg (by first | omega | assumption | exact nb (by assumption)), if_pos (by first | omega | assumption | exact nb (by assumption))]
      rw [e]
      unfold TRet
      exact ⟨rfl, F, ⟨hL, hJ⟩, hMv⟩

set_option maxRecDepth 100000 in
theorem const_ok (F : Nat → Prop) (p : Nat) (most : Int) (N : List Nd) (wd : Int) (x : Int) (w : World) (hO : TObj F w p most N) (hwd : b64 wd) (hx : u64 x) : Ret Try.prog 34 [.pointer (some ⟨p, 0, none⟩), .int .i64 wd, .int .u64 x] w fun v w' => TRet F p most w (constF N most wd x) v w' := by
  obtain ⟨hL, hJ⟩ := id hO
  have hMv := Mv.refl F w
  have hlen := hJ.ti.len
  have hmost := hJ.ti.most
  have hu_wd := hwd; unfold b64 at hu_wd
  refine enter Try.func34 rfl rfl ?_
  refine W_seq ?_
  refine W_region (by kernel_rfl) ?_
  refine seg2 (ρ' := upd (upd (ini [.pointer (some ⟨p, 0, none⟩), .int .i64 wd, .int .u64 x]) 6 (.int .i64 0)) 7 (.int .i64 0)) (by kernel_rfl) ?_
  refine op_nil ?_
  refine W_seq ?_
  refine W_block ?_
  refine W_seq ?_
  refine W_region (by kernel_rfl) ?_
  refine seg3 (ρ' := upd (upd (upd (upd (upd (ini [.pointer (some ⟨p, 0, none⟩), .int .i64 wd, .int .u64 x]) 6 (.int .i64 0)) 7 (.int .i64 0)) 9 (.pointer (some ⟨p, 0, none⟩))) 10 (.bool false)) 8 (.bool false)) (by kernel_rfl) ?_
  refine op_nil ?_
  refine W_cond false (by kernel_rfl) (by kernel_rfl) (fun h => nomatch h) (fun _ => ?_)
  refine W_seq ?_
  refine W_region (by kernel_rfl) ?_
  refine seg1 (ρ' := upd (upd (upd (upd (upd (upd (ini [.pointer (some ⟨p, 0, none⟩), .int .i64 wd, .int .u64 x]) 6 (.int .i64 0)) 7 (.int .i64 0)) 9 (.pointer (some ⟨p, 0, none⟩))) 10 (.bool false)) 8 (.bool false)) 12 (.int .i64 wd)) (by kernel_rfl) ?_
  refine st (by rfl) (S_call (args := [.int .i64 wd]) (by kernel_rfl) (mask_ok wd _) ?_)
  rintro _ w1 ⟨rfl, hT2⟩
  have hL := hL.tch0 hT2
  have hMv := hMv.then0 hT2
  refine seg2 (ρ' := upd (upd (upd (upd (upd (upd (upd (upd (upd (ini [.pointer (some ⟨p, 0, none⟩), .int .i64 wd, .int .u64 x]) 6 (.int .i64 0)) 7 (.int .i64 0)) 9 (.pointer (some ⟨p, 0, none⟩))) 10 (.bool false)) 8 (.bool false)) 12 (.int .i64 wd)) 13 (.int .u64 (maskF wd))) 14 (.bool ((maskF wd) == 0))) 11 (.bool ((maskF wd) == 0))) (by kernel_rfl) ?_
  refine op_nil ?_
  refine W_cond ((maskF wd) == 0) (by kernel_rfl) (by kernel_rfl) (fun hc3 => ?_) (fun hc3 => ?_)
  · replace hc3 : maskF wd = 0 := (eq_of_beq hc3)
    have hfw : ¬ (1 ≤ wd ∧ wd ≤ 64) := fun q => by have := mask_pos q; omega
    refine W_seq ?_
    refine W_fg [(0, .pointer (some ⟨p, 0, none⟩)), (1, .int .i64 wd), (2, .int .u64 x), (6, .int .i64 0), (7, .int .i64 0), (8, .bool false), (11, .bool ((maskF wd) == 0))] (by kernel_rfl) fun ρ => ?_
    refine W_region (by kernel_rfl) ?_
    refine seg2 (ρ' := upd (upd (updL ρ [(0, .pointer (some ⟨p, 0, none⟩)), (1, .int .i64 wd), (2, .int .u64 x), (6, .int .i64 0), (7, .int .i64 0), (8, .bool false), (11, .bool ((maskF wd) == 0))]) 6 (.int .i64 0)) 7 (.int .i64 2)) (by kernel_rfl) ?_
    refine op_nil ?_
    refine W_ret ?_
    refine ⟨_, Res_of (v := .tuple #[.int .i64 0, .int .i64 2]) (by kernel_rfl), ?_⟩
    have e : constF N most wd x = (0, 2, N) := by unfold constF; rw [if_pos (by first | omega | assumption | exact nb (by assumption))]
    rw [e]
    unfold TRet
    exact ⟨rfl, F, ⟨hL, hJ⟩, hMv⟩
  · replace hc3 : maskF wd ≠ 0 := (ne_of_beq_false hc3)
    have hfw : 1 ≤ wd ∧ wd ≤ 64 := Decidable.byContradiction (fun q => by have := mask_z q; omega)
    refine W_skip ?_
    refine W_seq ?_
    refine W_fg [(0, .pointer (some ⟨p, 0, none⟩)), (1, .int .i64 wd), (2, .int .u64 x), (6, .int .i64 0), (7, .int .i64 0), (8, .bool false), (11, .bool ((maskF wd) == 0))] (by kernel_rfl) fun ρ => ?_
    refine W_region (by kernel_rfl) ?_
    refine seg4 (ρ' := upd (upd (upd (upd (updL ρ [(0, .pointer (some ⟨p, 0, none⟩)), (1, .int .i64 wd), (2, .int .u64 x), (6, .int .i64 0), (7, .int .i64 0), (8, .bool false), (11, .bool ((maskF wd) == 0))]) 15 (.pointer (some ⟨p, 0, none⟩))) 16 (.int .i64 wd)) 17 (.int .i64 wd)) 18 (.int .u64 x)) (by kernel_rfl) ?_
    refine st (by rfl) (S_call (args := [.int .i64 wd, .int .u64 x]) (by kernel_rfl) (cut_ok wd x _) ?_)
    rintro _ w4 ⟨rfl, hT5⟩
    have hL := hL.tch0 hT5
    have hMv := hMv.then0 hT5
    refine seg1 (ρ' := upd (upd (upd (upd (upd (upd (updL ρ [(0, .pointer (some ⟨p, 0, none⟩)), (1, .int .i64 wd), (2, .int .u64 x), (6, .int .i64 0), (7, .int .i64 0), (8, .bool false), (11, .bool ((maskF wd) == 0))]) 15 (.pointer (some ⟨p, 0, none⟩))) 16 (.int .i64 wd)) 17 (.int .i64 wd)) 18 (.int .u64 x)) 19 (.int .u64 (cutF wd x))) 20 (.agg #[.int .i64 20, .int .i64 wd, .int .i64 0, .int .i64 0, .int .i64 0, .int .u64 (cutF wd x)])) (by kernel_rfl) ?_
    have hwf : nwf (20, wd, 0, 0, 0, cutF wd x) := nwf_of (by unfold b64 at *; omega) (by unfold b64 at *; omega) (by unfold b64 at *; omega) (by unfold b64 at *; omega) (by unfold b64 at *; omega) (cut_u64 _ _)
    refine st (by rfl) (S_call (args := [.pointer (some ⟨p, 0, none⟩), .agg #[.int .i64 20, .int .i64 wd, .int .i64 0, .int .i64 0, .int .i64 0, .int .u64 (cutF wd x)]]) (by kernel_rfl) (make_ok F p most N (wdR N) (20, wd, 0, 0, 0, cutF wd x) _ hL hJ.ti hwf) ?_)
    rintro _ w6 ⟨rfl, F7, hL, hm8⟩
    have hMv := hMv.trans hm8
    refine seg4 (ρ' := upd (upd (upd (upd (upd (upd (upd (upd (upd (upd (upd (updL ρ [(0, .pointer (some ⟨p, 0, none⟩)), (1, .int .i64 wd), (2, .int .u64 x), (6, .int .i64 0), (7, .int .i64 0), (8, .bool false), (11, .bool ((maskF wd) == 0))]) 15 (.pointer (some ⟨p, 0, none⟩))) 16 (.int .i64 wd)) 17 (.int .i64 wd)) 18 (.int .u64 x)) 19 (.int .u64 (cutF wd x))) 20 (.agg #[.int .i64 20, .int .i64 wd, .int .i64 0, .int .i64 0, .int .i64 0, .int .u64 (cutF wd x)])) 21 (.tuple #[.int .i64 ((mk N most (20, wd, 0, 0, 0, cutF wd x)).1), .int .i64 ((mk N most (20, wd, 0, 0, 0, cutF wd x)).2.1)])) 22 (.int .i64 ((mk N most (20, wd, 0, 0, 0, cutF wd x)).1))) 23 (.int .i64 ((mk N most (20, wd, 0, 0, 0, cutF wd x)).2.1))) 6 (.int .i64 ((mk N most (20, wd, 0, 0, 0, cutF wd x)).1))) 7 (.int .i64 ((mk N most (20, wd, 0, 0, 0, cutF wd x)).2.1))) (by kernel_rfl) ?_
    refine op_nil ?_
    refine W_ret ?_
    refine ⟨_, Res_of (v := .tuple #[.int .i64 ((mk N most (20, wd, 0, 0, 0, cutF wd x)).1), .int .i64 ((mk N most (20, wd, 0, 0, 0, cutF wd x)).2.1)]) (by kernel_rfl), ?_⟩
    have e : constF N most wd x = mk N most (20, wd, 0, 0, 0, cutF wd x) := by unfold constF; rw [if_neg (by first | omega | assumption | exact nb (by assumption))]
    rw [e]
    unfold TRet
    exact ⟨rfl, _, ⟨hL.congr (wdR_mk (by show (20 : Int) ≠ 21; omega)), mk_TJ hJ hwf (by show 1 ≤ (wd : Int) ∧ (wd : Int) ≤ 64; omega) (fun e => absurd e (by show (20 : Int) ≠ 21; omega))⟩, hMv⟩

end Go.Proofs.YtlbadnpgmkobdaaV
