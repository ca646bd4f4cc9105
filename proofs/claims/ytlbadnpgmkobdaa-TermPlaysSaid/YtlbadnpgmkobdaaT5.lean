/- Walks of functions of the program and of the document's texts. The conditions stand with each theorem. -/
import Derived.Test.YtlbadnpgmkobdaaProg
import Derived.Test.YtlbadnpgmkobdaaTermE
set_option linter.unusedVariables false
set_option linter.unusedSimpArgs false
namespace Go.Proofs.YtlbadnpgmkobdaaV
open Go Go.RowKit Go.Proofs

/-- A deed's term. -/
def madeF (N : List Nd) (most k w a b c x : Int) : TR := if k = 0 then constF N most w x else if k = 1 then varF N most w a else if k = 2 then unaF N most a b else if k = 3 then binF N most a b c else if k = 4 then iteF N most a b c else if k = 5 then extF N most a b w else if k = 6 then catF N most a b else exdF N most a w (b.tmod 2 != 0)
theorem TRet.lit {F : Nat → Prop} {p : Nat} {most : Int} {w : World} {r : TR} {v : Value} {w' : World} {i e : Int} {N' : List Nd} (h : TRet F p most w r v w') (q : r = (i, e, N')) : v = .tuple #[.int .i64 i, .int .i64 e] ∧ ∃ F', TObj F' w' p most N' ∧ Mv F F' w w' := by subst q; exact h

set_option maxRecDepth 100000 in
theorem made_ok (F : Nat → Prop) (p : Nat) (most : Int) (N : List Nd) (k wd a b c x : Int) (w : World) (hO : TObj F w p most N) (hk : b64 k) (hwd : b64 wd) (ha : b64 a) (hb : b64 b) (hc : b64 c) (hx : u64 x) : Ret Try.prog 19 [.pointer (some ⟨p, 0, none⟩), .agg #[.int .i64 k, .int .i64 wd, .int .i64 a, .int .i64 b, .int .i64 c, .int .u64 x]] w fun v w' => TRet F p most w (madeF N most k wd a b c x) v w' := by
  have hMv := Mv.refl F w
  refine enter Try.func19 rfl rfl ?_
  refine W_seq ?_
  refine W_region (by kernel_rfl) ?_
  have hlt_ := hO.1.lt
  have hz5 := hMv.1.size
  refine st (by rfl) (S_new (v := .pointer (some ⟨w.heap.size, 0, none⟩)) (ob := .cells #[.int .i64 k, .int .i64 wd, .int .i64 a, .int .i64 b, .int .i64 c, .int .u64 x] 44) (by kernel_rfl) fun w1 hT2 hs3 hB4 => ?_)
  replace hB4 : Blk w1 (w.heap.size) 44 [.int .i64 k, .int .i64 wd, .int .i64 a, .int .i64 b, .int .i64 c, .int .u64 x] := hB4
  have hO := hO.tch0 hT2
  have hMv := hMv.then0 hT2
  have nF_hB4 : ¬ F (w.heap.size) := fun e => by have := hlt_ _ e; omega
  refine seg2 (ρ' := upd (upd (upd (ini [.pointer (some ⟨p, 0, none⟩), .agg #[.int .i64 k, .int .i64 wd, .int .i64 a, .int .i64 b, .int .i64 c, .int .u64 x]]) 3 (.pointer (some ⟨w.heap.size, 0, none⟩))) 4 (.int .i64 0)) 5 (.int .i64 0)) (by kernel_rfl) ?_
  refine op_nil ?_
  refine W_seq ?_
  refine W_seq ?_
  refine W_region (by kernel_rfl) ?_
  refine seg1 (ρ' := upd (upd (upd (upd (ini [.pointer (some ⟨p, 0, none⟩), .agg #[.int .i64 k, .int .i64 wd, .int .i64 a, .int .i64 b, .int .i64 c, .int .u64 x]]) 3 (.pointer (some ⟨w.heap.size, 0, none⟩))) 4 (.int .i64 0)) 5 (.int .i64 0)) 6 (.pointer (some ⟨w.heap.size, 0, none⟩))) (by kernel_rfl) ?_
  refine st (by rfl) (S_val (v := .int .i64 k) (R_load (v := .int .i64 k) (by kernel_rfl) (by kernel_rfl) ((hB4.cell 0).trans rfl)) ?_)
  refine op_nil ?_
  refine W_block ?_
  refine W_seq ?_
  refine W_region (by kernel_rfl) ?_
  refine seg2 (ρ' := upd (upd (upd (upd (upd (upd (upd (ini [.pointer (some ⟨p, 0, none⟩), .agg #[.int .i64 k, .int .i64 wd, .int .i64 a, .int .i64 b, .int .i64 c, .int .u64 x]]) 3 (.pointer (some ⟨w.heap.size, 0, none⟩))) 4 (.int .i64 0)) 5 (.int .i64 0)) 6 (.pointer (some ⟨w.heap.size, 0, none⟩))) 7 (.int .i64 k)) 9 (.bool (k == 0))) 8 (.bool (k == 0))) (by kernel_rfl) ?_
  refine op_nil ?_
  refine W_cond (k == 0) (by kernel_rfl) (by kernel_rfl) (fun hc6 => ?_) (fun hc6 => ?_)
  · replace hc6 : k = 0 := (eq_of_beq hc6)
    refine W_seq ?_
    refine W_region (by kernel_rfl) ?_
    refine seg2 (ρ' := upd (upd (upd (upd (upd (upd (upd (upd (upd (ini [.pointer (some ⟨p, 0, none⟩), .agg #[.int .i64 k, .int .i64 wd, .int .i64 a, .int .i64 b, .int .i64 c, .int .u64 x]]) 3 (.pointer (some ⟨w.heap.size, 0, none⟩))) 4 (.int .i64 0)) 5 (.int .i64 0)) 6 (.pointer (some ⟨w.heap.size, 0, none⟩))) 7 (.int .i64 k)) 9 (.bool (k == 0))) 8 (.bool (k == 0))) 10 (.pointer (some ⟨p, 0, none⟩))) 11 (.pointer (some ⟨w.heap.size, 1, none⟩))) (by kernel_rfl) ?_
    refine st (by rfl) (S_val (v := .int .i64 wd) (R_load (v := .int .i64 wd) (by kernel_rfl) (by kernel_rfl) ((hB4.cell 1).trans rfl)) ?_)
    refine seg1 (ρ' := upd (upd (upd (upd (upd (upd (upd (upd (upd (upd (upd (ini [.pointer (some ⟨p, 0, none⟩), .agg #[.int .i64 k, .int .i64 wd, .int .i64 a, .int .i64 b, .int .i64 c, .int .u64 x]]) 3 (.pointer (some ⟨w.heap.size, 0, none⟩))) 4 (.int .i64 0)) 5 (.int .i64 0)) 6 (.pointer (some ⟨w.heap.size, 0, none⟩))) 7 (.int .i64 k)) 9 (.bool (k == 0))) 8 (.bool (k == 0))) 10 (.pointer (some ⟨p, 0, none⟩))) 11 (.pointer (some ⟨w.heap.size, 1, none⟩))) 12 (.int .i64 wd)) 13 (.pointer (some ⟨w.heap.size, 5, none⟩))) (by kernel_rfl) ?_
    refine st (by rfl) (S_val (v := .int .u64 x) (R_load (v := .int .u64 x) (by kernel_rfl) (by kernel_rfl) ((hB4.cell 5).trans rfl)) ?_)
    have lt10 := hB4.lt
    refine st (by rfl) (S_call (args := [.pointer (some ⟨p, 0, none⟩), .int .i64 wd, .int .u64 x]) (by kernel_rfl) (const_ok F p most N wd x _ hO (by assumption) (by assumption)) ?_)
    rintro _ w7 ⟨rfl, F8, hO, hm9⟩
    have hMv := hMv.trans hm9
    have hB4 := hB4.tch hm9.1 nF_hB4
    refine seg4 (ρ' := upd (upd (upd (upd (upd (upd (upd (upd (upd (upd (upd (upd (upd (upd (upd (upd (upd (ini [.pointer (some ⟨p, 0, none⟩), .agg #[.int .i64 k, .int .i64 wd, .int .i64 a, .int .i64 b, .int .i64 c, .int .u64 x]]) 3 (.pointer (some ⟨w.heap.size, 0, none⟩))) 4 (.int .i64 0)) 5 (.int .i64 0)) 6 (.pointer (some ⟨w.heap.size, 0, none⟩))) 7 (.int .i64 k)) 9 (.bool (k == 0))) 8 (.bool (k == 0))) 10 (.pointer (some ⟨p, 0, none⟩))) 11 (.pointer (some ⟨w.heap.size, 1, none⟩))) 12 (.int .i64 wd)) 13 (.pointer (some ⟨w.heap.size, 5, none⟩))) 14 (.int .u64 x)) 15 (.tuple #[.int .i64 ((constF N most wd x).1), .int .i64 ((constF N most wd x).2.1)])) 16 (.int .i64 ((constF N most wd x).1))) 17 (.int .i64 ((constF N most wd x).2.1))) 4 (.int .i64 ((constF N most wd x).1))) 5 (.int .i64 ((constF N most wd x).2.1))) (by kernel_rfl) ?_
    refine op_nil ?_
    refine W_ret ?_
    refine ⟨_, Res_of (v := .tuple #[.int .i64 ((constF N most wd x).1), .int .i64 ((constF N most wd x).2.1)]) (by kernel_rfl), ?_⟩
    have e : madeF N most k wd a b c x = constF N most wd x := by unfold madeF; rw [if_pos (by omega)]
    rw [e]
    unfold TRet
    exact ⟨rfl, _, hO, hMv⟩
  · replace hc6 : k ≠ 0 := (ne_of_beq_false hc6)
    refine W_seq ?_
    refine W_region (by kernel_rfl) ?_
    refine seg2 (ρ' := upd (upd (upd (upd (upd (upd (upd (upd (upd (ini [.pointer (some ⟨p, 0, none⟩), .agg #[.int .i64 k, .int .i64 wd, .int .i64 a, .int .i64 b, .int .i64 c, .int .u64 x]]) 3 (.pointer (some ⟨w.heap.size, 0, none⟩))) 4 (.int .i64 0)) 5 (.int .i64 0)) 6 (.pointer (some ⟨w.heap.size, 0, none⟩))) 7 (.int .i64 k)) 9 (.bool (k == 0))) 8 (.bool (k == 0))) 19 (.bool (k == 1))) 18 (.bool (k == 1))) (by kernel_rfl) ?_
    refine op_nil ?_
    refine W_cond (k == 1) (by kernel_rfl) (by kernel_rfl) (fun hc11 => ?_) (fun hc11 => ?_)
    · replace hc11 : k = 1 := (eq_of_beq hc11)
      refine W_seq ?_
      refine W_fg [(0, .pointer (some ⟨p, 0, none⟩)), (1, .agg #[.int .i64 k, .int .i64 wd, .int .i64 a, .int .i64 b, .int .i64 c, .int .u64 x]), (3, .pointer (some ⟨w.heap.size, 0, none⟩)), (4, .int .i64 0), (5, .int .i64 0), (7, .int .i64 k), (8, .bool (k == 0)), (18, .bool (k == 1))] (by kernel_rfl) fun ρ => ?_
      refine W_region (by kernel_rfl) ?_
      refine seg2 (ρ' := upd (upd (updL ρ [(0, .pointer (some ⟨p, 0, none⟩)), (1, .agg #[.int .i64 k, .int .i64 wd, .int .i64 a, .int .i64 b, .int .i64 c, .int .u64 x]), (3, .pointer (some ⟨w.heap.size, 0, none⟩)), (4, .int .i64 0), (5, .int .i64 0), (7, .int .i64 k), (8, .bool (k == 0)), (18, .bool (k == 1))]) 20 (.pointer (some ⟨p, 0, none⟩))) 21 (.pointer (some ⟨w.heap.size, 1, none⟩))) (by kernel_rfl) ?_
      refine st (by rfl) (S_val (v := .int .i64 wd) (R_load (v := .int .i64 wd) (by kernel_rfl) (by kernel_rfl) ((hB4.cell 1).trans rfl)) ?_)
      refine seg1 (ρ' := upd (upd (upd (upd (updL ρ [(0, .pointer (some ⟨p, 0, none⟩)), (1, .agg #[.int .i64 k, .int .i64 wd, .int .i64 a, .int .i64 b, .int .i64 c, .int .u64 x]), (3, .pointer (some ⟨w.heap.size, 0, none⟩)), (4, .int .i64 0), (5, .int .i64 0), (7, .int .i64 k), (8, .bool (k == 0)), (18, .bool (k == 1))]) 20 (.pointer (some ⟨p, 0, none⟩))) 21 (.pointer (some ⟨w.heap.size, 1, none⟩))) 22 (.int .i64 wd)) 23 (.pointer (some ⟨w.heap.size, 2, none⟩))) (by kernel_rfl) ?_
      refine st (by rfl) (S_val (v := .int .i64 a) (R_load (v := .int .i64 a) (by kernel_rfl) (by kernel_rfl) ((hB4.cell 2).trans rfl)) ?_)
      have lt15 := hB4.lt
      refine st (by rfl) (S_call (args := [.pointer (some ⟨p, 0, none⟩), .int .i64 wd, .int .i64 a]) (by kernel_rfl) (var_ok F p most N wd a _ hO (by assumption) (by assumption)) ?_)
      rintro _ w12 ⟨rfl, F13, hO, hm14⟩
      have hMv := hMv.trans hm14
      have hB4 := hB4.tch hm14.1 nF_hB4
      refine seg4 (ρ' := upd (upd (upd (upd (upd (upd (upd (upd (upd (upd (updL ρ [(0, .pointer (some ⟨p, 0, none⟩)), (1, .agg #[.int .i64 k, .int .i64 wd, .int .i64 a, .int .i64 b, .int .i64 c, .int .u64 x]), (3, .pointer (some ⟨w.heap.size, 0, none⟩)), (4, .int .i64 0), (5, .int .i64 0), (7, .int .i64 k), (8, .bool (k == 0)), (18, .bool (k == 1))]) 20 (.pointer (some ⟨p, 0, none⟩))) 21 (.pointer (some ⟨w.heap.size, 1, none⟩))) 22 (.int .i64 wd)) 23 (.pointer (some ⟨w.heap.size, 2, none⟩))) 24 (.int .i64 a)) 25 (.tuple #[.int .i64 ((varF N most wd a).1), .int .i64 ((varF N most wd a).2.1)])) 26 (.int .i64 ((varF N most wd a).1))) 27 (.int .i64 ((varF N most wd a).2.1))) 4 (.int .i64 ((varF N most wd a).1))) 5 (.int .i64 ((varF N most wd a).2.1))) (by kernel_rfl) ?_
      refine op_nil ?_
      refine W_ret ?_
      refine ⟨_, Res_of (v := .tuple #[.int .i64 ((varF N most wd a).1), .int .i64 ((varF N most wd a).2.1)]) (by kernel_rfl), ?_⟩
      have e : madeF N most k wd a b c x = varF N most wd a := by unfold madeF; rw [if_neg (by omega), if_pos (by omega)]
      rw [e]
      unfold TRet
      exact ⟨rfl, _, hO, hMv⟩
    · replace hc11 : k ≠ 1 := (ne_of_beq_false hc11)
      refine W_seq ?_
      refine W_fg [(0, .pointer (some ⟨p, 0, none⟩)), (1, .agg #[.int .i64 k, .int .i64 wd, .int .i64 a, .int .i64 b, .int .i64 c, .int .u64 x]), (3, .pointer (some ⟨w.heap.size, 0, none⟩)), (4, .int .i64 0), (5, .int .i64 0), (7, .int .i64 k), (8, .bool (k == 0)), (18, .bool (k == 1))] (by kernel_rfl) fun ρ => ?_
      refine W_region (by kernel_rfl) ?_
      refine seg2 (ρ' := upd (upd (updL ρ [(0, .pointer (some ⟨p, 0, none⟩)), (1, .agg #[.int .i64 k, .int .i64 wd, .int .i64 a, .int .i64 b, .int .i64 c, .int .u64 x]), (3, .pointer (some ⟨w.heap.size, 0, none⟩)), (4, .int .i64 0), (5, .int .i64 0), (7, .int .i64 k), (8, .bool (k == 0)), (18, .bool (k == 1))]) 29 (.bool (k == 2))) 28 (.bool (k == 2))) (by kernel_rfl) ?_
      refine op_nil ?_
      refine W_cond (k == 2) (by kernel_rfl) (by kernel_rfl) (fun hc16 => ?_) (fun hc16 => ?_)
      · replace hc16 : k = 2 := (eq_of_beq hc16)
        refine W_seq ?_
        refine W_region (by kernel_rfl) ?_
        refine seg2 (ρ' := upd (upd (upd (upd (updL ρ [(0, .pointer (some ⟨p, 0, none⟩)), (1, .agg #[.int .i64 k, .int .i64 wd, .int .i64 a, .int .i64 b, .int .i64 c, .int .u64 x]), (3, .pointer (some ⟨w.heap.size, 0, none⟩)), (4, .int .i64 0), (5, .int .i64 0), (7, .int .i64 k), (8, .bool (k == 0)), (18, .bool (k == 1))]) 29 (.bool (k == 2))) 28 (.bool (k == 2))) 30 (.pointer (some ⟨p, 0, none⟩))) 31 (.pointer (some ⟨w.heap.size, 2, none⟩))) (by kernel_rfl) ?_
        refine st (by rfl) (S_val (v := .int .i64 a) (R_load (v := .int .i64 a) (by kernel_rfl) (by kernel_rfl) ((hB4.cell 2).trans rfl)) ?_)
        refine seg1 (ρ' := upd (upd (upd (upd (upd (upd (updL ρ [(0, .pointer (some ⟨p, 0, none⟩)), (1, .agg #[.int .i64 k, .int .i64 wd, .int .i64 a, .int .i64 b, .int .i64 c, .int .u64 x]), (3, .pointer (some ⟨w.heap.size, 0, none⟩)), (4, .int .i64 0), (5, .int .i64 0), (7, .int .i64 k), (8, .bool (k == 0)), (18, .bool (k == 1))]) 29 (.bool (k == 2))) 28 (.bool (k == 2))) 30 (.pointer (some ⟨p, 0, none⟩))) 31 (.pointer (some ⟨w.heap.size, 2, none⟩))) 32 (.int .i64 a)) 33 (.pointer (some ⟨w.heap.size, 3, none⟩))) (by kernel_rfl) ?_
        refine st (by rfl) (S_val (v := .int .i64 b) (R_load (v := .int .i64 b) (by kernel_rfl) (by kernel_rfl) ((hB4.cell 3).trans rfl)) ?_)
        have lt20 := hB4.lt
        refine st (by rfl) (S_call (args := [.pointer (some ⟨p, 0, none⟩), .int .i64 a, .int .i64 b]) (by kernel_rfl) (una_ok F p most N a b _ hO (by assumption) (by assumption)) ?_)
        rintro _ w17 ⟨rfl, F18, hO, hm19⟩
        have hMv := hMv.trans hm19
        have hB4 := hB4.tch hm19.1 nF_hB4
        refine seg4 (ρ' := upd (upd (upd (upd (upd (upd (upd (upd (upd (upd (upd (upd (updL ρ [(0, .pointer (some ⟨p, 0, none⟩)), (1, .agg #[.int .i64 k, .int .i64 wd, .int .i64 a, .int .i64 b, .int .i64 c, .int .u64 x]), (3, .pointer (some ⟨w.heap.size, 0, none⟩)), (4, .int .i64 0), (5, .int .i64 0), (7, .int .i64 k), (8, .bool (k == 0)), (18, .bool (k == 1))]) 29 (.bool (k == 2))) 28 (.bool (k == 2))) 30 (.pointer (some ⟨p, 0, none⟩))) 31 (.pointer (some ⟨w.heap.size, 2, none⟩))) 32 (.int .i64 a)) 33 (.pointer (some ⟨w.heap.size, 3, none⟩))) 34 (.int .i64 b)) 35 (.tuple #[.int .i64 ((unaF N most a b).1), .int .i64 ((unaF N most a b).2.1)])) 36 (.int .i64 ((unaF N most a b).1))) 37 (.int .i64 ((unaF N most a b).2.1))) 4 (.int .i64 ((unaF N most a b).1))) 5 (.int .i64 ((unaF N most a b).2.1))) (by kernel_rfl) ?_
        refine op_nil ?_
        refine W_ret ?_
        refine ⟨_, Res_of (v := .tuple #[.int .i64 ((unaF N most a b).1), .int .i64 ((unaF N most a b).2.1)]) (by kernel_rfl), ?_⟩
        have e : madeF N most k wd a b c x = unaF N most a b := by unfold madeF; rw [if_neg (by omega), if_neg (by omega), if_pos (by omega)]
        rw [e]
        unfold TRet
        exact ⟨rfl, _, hO, hMv⟩
      · replace hc16 : k ≠ 2 := (ne_of_beq_false hc16)
        refine W_seq ?_
        refine W_region (by kernel_rfl) ?_
        refine seg2 (ρ' := upd (upd (upd (upd (updL ρ [(0, .pointer (some ⟨p, 0, none⟩)), (1, .agg #[.int .i64 k, .int .i64 wd, .int .i64 a, .int .i64 b, .int .i64 c, .int .u64 x]), (3, .pointer (some ⟨w.heap.size, 0, none⟩)), (4, .int .i64 0), (5, .int .i64 0), (7, .int .i64 k), (8, .bool (k == 0)), (18, .bool (k == 1))]) 29 (.bool (k == 2))) 28 (.bool (k == 2))) 39 (.bool (k == 3))) 38 (.bool (k == 3))) (by kernel_rfl) ?_
        refine op_nil ?_
        refine W_cond (k == 3) (by kernel_rfl) (by kernel_rfl) (fun hc21 => ?_) (fun hc21 => ?_)
        · replace hc21 : k = 3 := (eq_of_beq hc21)
          refine W_seq ?_
          refine W_region (by kernel_rfl) ?_
          refine seg2 (ρ' := upd (upd (upd (upd (upd (upd (updL ρ [(0, .pointer (some ⟨p, 0, none⟩)), (1, .agg #[.int .i64 k, .int .i64 wd, .int .i64 a, .int .i64 b, .int .i64 c, .int .u64 x]), (3, .pointer (some ⟨w.heap.size, 0, none⟩)), (4, .int .i64 0), (5, .int .i64 0), (7, .int .i64 k), (8, .bool (k == 0)), (18, .bool (k == 1))]) 29 (.bool (k == 2))) 28 (.bool (k == 2))) 39 (.bool (k == 3))) 38 (.bool (k == 3))) 40 (.pointer (some ⟨p, 0, none⟩))) 41 (.pointer (some ⟨w.heap.size, 2, none⟩))) (by kernel_rfl) ?_
          refine st (by rfl) (S_val (v := .int .i64 a) (R_load (v := .int .i64 a) (by kernel_rfl) (by kernel_rfl) ((hB4.cell 2).trans rfl)) ?_)
          refine seg1 (ρ' := upd (upd (upd (upd (upd (upd (upd (upd (updL ρ [(0, .pointer (some ⟨p, 0, none⟩)), (1, .agg #[.int .i64 k, .int .i64 wd, .int .i64 a, .int .i64 b, .int .i64 c, .int .u64 x]), (3, .pointer (some ⟨w.heap.size, 0, none⟩)), (4, .int .i64 0), (5, .int .i64 0), (7, .int .i64 k), (8, .bool (k == 0)), (18, .bool (k == 1))]) 29 (.bool (k == 2))) 28 (.bool (k == 2))) 39 (.bool (k == 3))) 38 (.bool (k == 3))) 40 (.pointer (some ⟨p, 0, none⟩))) 41 (.pointer (some ⟨w.heap.size, 2, none⟩))) 42 (.int .i64 a)) 43 (.pointer (some ⟨w.heap.size, 3, none⟩))) (by kernel_rfl) ?_
          refine st (by rfl) (S_val (v := .int .i64 b) (R_load (v := .int .i64 b) (by kernel_rfl) (by kernel_rfl) ((hB4.cell 3).trans rfl)) ?_)
          refine seg1 (ρ' := upd (upd (upd (upd (upd (upd (upd (upd (upd (upd (updL ρ [(0, .pointer (some ⟨p, 0, none⟩)), (1, .agg #[.int .i64 k, .int .i64 wd, .int .i64 a, .int .i64 b, .int .i64 c, .int .u64 x]), (3, .pointer (some ⟨w.heap.size, 0, none⟩)), (4, .int .i64 0), (5, .int .i64 0), (7, .int .i64 k), (8, .bool (k == 0)), (18, .bool (k == 1))]) 29 (.bool (k == 2))) 28 (.bool (k == 2))) 39 (.bool (k == 3))) 38 (.bool (k == 3))) 40 (.pointer (some ⟨p, 0, none⟩))) 41 (.pointer (some ⟨w.heap.size, 2, none⟩))) 42 (.int .i64 a)) 43 (.pointer (some ⟨w.heap.size, 3, none⟩))) 44 (.int .i64 b)) 45 (.pointer (some ⟨w.heap.size, 4, none⟩))) (by kernel_rfl) ?_
          refine st (by rfl) (S_val (v := .int .i64 c) (R_load (v := .int .i64 c) (by kernel_rfl) (by kernel_rfl) ((hB4.cell 4).trans rfl)) ?_)
          have lt25 := hB4.lt
          refine st (by rfl) (S_call (args := [.pointer (some ⟨p, 0, none⟩), .int .i64 a, .int .i64 b, .int .i64 c]) (by kernel_rfl) (bin_ok F p most N a b c _ hO (by assumption) (by assumption) (by assumption)) ?_)
          rintro _ w22 ⟨rfl, F23, hO, hm24⟩
          have hMv := hMv.trans hm24
          have hB4 := hB4.tch hm24.1 nF_hB4
          refine seg4 (ρ' := upd (upd (upd (upd (upd (upd (upd (upd (upd (upd (upd (upd (upd (upd (upd (upd (updL ρ [(0, .pointer (some ⟨p, 0, none⟩)), (1, .agg #[.int .i64 k, .int .i64 wd, .int .i64 a, .int .i64 b, .int .i64 c, .int .u64 x]), (3, .pointer (some ⟨w.heap.size, 0, none⟩)), (4, .int .i64 0), (5, .int .i64 0), (7, .int .i64 k), (8, .bool (k == 0)), (18, .bool (k == 1))]) 29 (.bool (k == 2))) 28 (.bool (k == 2))) 39 (.bool (k == 3))) 38 (.bool (k == 3))) 40 (.pointer (some ⟨p, 0, none⟩))) 41 (.pointer (some ⟨w.heap.size, 2, none⟩))) 42 (.int .i64 a)) 43 (.pointer (some ⟨w.heap.size, 3, none⟩))) 44 (.int .i64 b)) 45 (.pointer (some ⟨w.heap.size, 4, none⟩))) 46 (.int .i64 c)) 47 (.tuple #[.int .i64 ((binF N most a b c).1), .int .i64 ((binF N most a b c).2.1)])) 48 (.int .i64 ((binF N most a b c).1))) 49 (.int .i64 ((binF N most a b c).2.1))) 4 (.int .i64 ((binF N most a b c).1))) 5 (.int .i64 ((binF N most a b c).2.1))) (by kernel_rfl) ?_
          refine op_nil ?_
          refine W_ret ?_
          refine ⟨_, Res_of (v := .tuple #[.int .i64 ((binF N most a b c).1), .int .i64 ((binF N most a b c).2.1)]) (by kernel_rfl), ?_⟩
          have e : madeF N most k wd a b c x = binF N most a b c := by unfold madeF; rw [if_neg (by omega), if_neg (by omega), if_neg (by omega), if_pos (by omega)]
          rw [e]
          unfold TRet
          exact ⟨rfl, _, hO, hMv⟩
        · replace hc21 : k ≠ 3 := (ne_of_beq_false hc21)
          refine W_seq ?_
          refine W_region (by kernel_rfl) ?_
          refine seg2 (ρ' := upd (upd (upd (upd (upd (upd (updL ρ [(0, .pointer (some ⟨p, 0, none⟩)), (1, .agg #[.int .i64 k, .int .i64 wd, .int .i64 a, .int .i64 b, .int .i64 c, .int .u64 x]), (3, .pointer (some ⟨w.heap.size, 0, none⟩)), (4, .int .i64 0), (5, .int .i64 0), (7, .int .i64 k), (8, .bool (k == 0)), (18, .bool (k == 1))]) 29 (.bool (k == 2))) 28 (.bool (k == 2))) 39 (.bool (k == 3))) 38 (.bool (k == 3))) 51 (.bool (k == 4))) 50 (.bool (k == 4))) (by kernel_rfl) ?_
          refine op_nil ?_
          refine W_cond (k == 4) (by kernel_rfl) (by kernel_rfl) (fun hc26 => ?_) (fun hc26 => ?_)
          · replace hc26 : k = 4 := (eq_of_beq hc26)
            refine W_seq ?_
            refine W_region (by kernel_rfl) ?_
            refine seg2 (ρ' := upd (upd (upd (upd (upd (upd (upd (upd (updL ρ [(0, .pointer (some ⟨p, 0, none⟩)), (1, .agg #[.int .i64 k, .int .i64 wd, .int .i64 a, .int .i64 b, .int .i64 c, .int .u64 x]), (3, .pointer (some ⟨w.heap.size, 0, none⟩)), (4, .int .i64 0), (5, .int .i64 0), (7, .int .i64 k), (8, .bool (k == 0)), (18, .bool (k == 1))]) 29 (.bool (k == 2))) 28 (.bool (k == 2))) 39 (.bool (k == 3))) 38 (.bool (k == 3))) 51 (.bool (k == 4))) 50 (.bool (k == 4))) 52 (.pointer (some ⟨p, 0, none⟩))) 53 (.pointer (some ⟨w.heap.size, 2, none⟩))) (by kernel_rfl) ?_
            refine st (by rfl) (S_val (v := .int .i64 a) (R_load (v := .int .i64 a) (by kernel_rfl) (by kernel_rfl) ((hB4.cell 2).trans rfl)) ?_)
            refine seg1 (ρ' := upd (upd (upd (upd (upd (upd (upd (upd (upd (upd (updL ρ [(0, .pointer (some ⟨p, 0, none⟩)), (1, .agg #[.int .i64 k, .int .i64 wd, .int .i64 a, .int .i64 b, .int .i64 c, .int .u64 x]), (3, .pointer (some ⟨w.heap.size, 0, none⟩)), (4, .int .i64 0), (5, .int .i64 0), (7, .int .i64 k), (8, .bool (k == 0)), (18, .bool (k == 1))]) 29 (.bool (k == 2))) 28 (.bool (k == 2))) 39 (.bool (k == 3))) 38 (.bool (k == 3))) 51 (.bool (k == 4))) 50 (.bool (k == 4))) 52 (.pointer (some ⟨p, 0, none⟩))) 53 (.pointer (some ⟨w.heap.size, 2, none⟩))) 54 (.int .i64 a)) 55 (.pointer (some ⟨w.heap.size, 3, none⟩))) (by kernel_rfl) ?_
            refine st (by rfl) (S_val (v := .int .i64 b) (R_load (v := .int .i64 b) (by kernel_rfl) (by kernel_rfl) ((hB4.cell 3).trans rfl)) ?_)
            refine seg1 (ρ' := upd (upd (upd (upd (upd (upd (upd (upd (upd (upd (upd (upd (updL ρ [(0, .pointer (some ⟨p, 0, none⟩)), (1, .agg #[.int .i64 k, .int .i64 wd, .int .i64 a, .int .i64 b, .int .i64 c, .int .u64 x]), (3, .pointer (some ⟨w.heap.size, 0, none⟩)), (4, .int .i64 0), (5, .int .i64 0), (7, .int .i64 k), (8, .bool (k == 0)), (18, .bool (k == 1))]) 29 (.bool (k == 2))) 28 (.bool (k == 2))) 39 (.bool (k == 3))) 38 (.bool (k == 3))) 51 (.bool (k == 4))) 50 (.bool (k == 4))) 52 (.pointer (some ⟨p, 0, none⟩))) 53 (.pointer (some ⟨w.heap.size, 2, none⟩))) 54 (.int .i64 a)) 55 (.pointer (some ⟨w.heap.size, 3, none⟩))) 56 (.int .i64 b)) 57 (.pointer (some ⟨w.heap.size, 4, none⟩))) (by kernel_rfl) ?_
            refine st (by rfl) (S_val (v := .int .i64 c) (R_load (v := .int .i64 c) (by kernel_rfl) (by kernel_rfl) ((hB4.cell 4).trans rfl)) ?_)
            have lt30 := hB4.lt
            refine st (by rfl) (S_call (args := [.pointer (some ⟨p, 0, none⟩), .int .i64 a, .int .i64 b, .int .i64 c]) (by kernel_rfl) (ite_ok F p most N a b c _ hO (by assumption) (by assumption) (by assumption)) ?_)
            rintro _ w27 ⟨rfl, F28, hO, hm29⟩
            have hMv := hMv.trans hm29
            have hB4 := hB4.tch hm29.1 nF_hB4
            refine seg4 (ρ' := upd (upd (upd (upd (upd (upd (upd (upd (upd (upd (upd (upd (upd (upd (upd (upd (upd (upd (updL ρ [(0, .pointer (some ⟨p, 0, none⟩)), (1, .agg #[.int .i64 k, .int .i64 wd, .int .i64 a, .int .i64 b, .int .i64 c, .int .u64 x]), (3, .pointer (some ⟨w.heap.size, 0, none⟩)), (4, .int .i64 0), (5, .int .i64 0), (7, .int .i64 k), (8, .bool (k == 0)), (18, .bool (k == 1))]) 29 (.bool (k == 2))) 28 (.bool (k == 2))) 39 (.bool (k == 3))) 38 (.bool (k == 3))) 51 (.bool (k == 4))) 50 (.bool (k == 4))) 52 (.pointer (some ⟨p, 0, none⟩))) 53 (.pointer (some ⟨w.heap.size, 2, none⟩))) 54 (.int .i64 a)) 55 (.pointer (some ⟨w.heap.size, 3, none⟩))) 56 (.int .i64 b)) 57 (.pointer (some ⟨w.heap.size, 4, none⟩))) 58 (.int .i64 c)) 59 (.tuple #[.int .i64 ((iteF N most a b c).1), .int .i64 ((iteF N most a b c).2.1)])) 60 (.int .i64 ((iteF N most a b c).1))) 61 (.int .i64 ((iteF N most a b c).2.1))) 4 (.int .i64 ((iteF N most a b c).1))) 5 (.int .i64 ((iteF N most a b c).2.1))) (by kernel_rfl) ?_
            refine op_nil ?_
            refine W_ret ?_
            refine ⟨_, Res_of (v := .tuple #[.int .i64 ((iteF N most a b c).1), .int .i64 ((iteF N most a b c).2.1)]) (by kernel_rfl), ?_⟩
            have e : madeF N most k wd a b c x = iteF N most a b c := by unfold madeF; rw [if_neg (by omega), if_neg (by omega), if_neg (by omega), if_neg (by omega), if_pos (by omega)]
            rw [e]
            unfold TRet
            exact ⟨rfl, _, hO, hMv⟩
          · replace hc26 : k ≠ 4 := (ne_of_beq_false hc26)
            refine W_seq ?_
            refine W_region (by kernel_rfl) ?_
            refine seg2 (ρ' := upd (upd (upd (upd (upd (upd (upd (upd (updL ρ [(0, .pointer (some ⟨p, 0, none⟩)), (1, .agg #[.int .i64 k, .int .i64 wd, .int .i64 a, .int .i64 b, .int .i64 c, .int .u64 x]), (3, .pointer (some ⟨w.heap.size, 0, none⟩)), (4, .int .i64 0), (5, .int .i64 0), (7, .int .i64 k), (8, .bool (k == 0)), (18, .bool (k == 1))]) 29 (.bool (k == 2))) 28 (.bool (k == 2))) 39 (.bool (k == 3))) 38 (.bool (k == 3))) 51 (.bool (k == 4))) 50 (.bool (k == 4))) 63 (.bool (k == 5))) 62 (.bool (k == 5))) (by kernel_rfl) ?_
            refine op_nil ?_
            refine W_cond (k == 5) (by kernel_rfl) (by kernel_rfl) (fun hc31 => ?_) (fun hc31 => ?_)
            · replace hc31 : k = 5 := (eq_of_beq hc31)
              refine W_seq ?_
              refine W_fg [(0, .pointer (some ⟨p, 0, none⟩)), (1, .agg #[.int .i64 k, .int .i64 wd, .int .i64 a, .int .i64 b, .int .i64 c, .int .u64 x]), (3, .pointer (some ⟨w.heap.size, 0, none⟩)), (4, .int .i64 0), (5, .int .i64 0), (7, .int .i64 k), (8, .bool (k == 0)), (18, .bool (k == 1)), (28, .bool (k == 2)), (38, .bool (k == 3)), (50, .bool (k == 4)), (62, .bool (k == 5))] (by kernel_rfl) fun ρ => ?_
              refine W_region (by kernel_rfl) ?_
              refine seg2 (ρ' := upd (upd (updL ρ [(0, .pointer (some ⟨p, 0, none⟩)), (1, .agg #[.int .i64 k, .int .i64 wd, .int .i64 a, .int .i64 b, .int .i64 c, .int .u64 x]), (3, .pointer (some ⟨w.heap.size, 0, none⟩)), (4, .int .i64 0), (5, .int .i64 0), (7, .int .i64 k), (8, .bool (k == 0)), (18, .bool (k == 1)), (28, .bool (k == 2)), (38, .bool (k == 3)), (50, .bool (k == 4)), (62, .bool (k == 5))]) 64 (.pointer (some ⟨p, 0, none⟩))) 65 (.pointer (some ⟨w.heap.size, 2, none⟩))) (by kernel_rfl) ?_
              refine st (by rfl) (S_val (v := .int .i64 a) (R_load (v := .int .i64 a) (by kernel_rfl) (by kernel_rfl) ((hB4.cell 2).trans rfl)) ?_)
              refine seg1 (ρ' := upd (upd (upd (upd (updL ρ [(0, .pointer (some ⟨p, 0, none⟩)), (1, .agg #[.int .i64 k, .int .i64 wd, .int .i64 a, .int .i64 b, .int .i64 c, .int .u64 x]), (3, .pointer (some ⟨w.heap.size, 0, none⟩)), (4, .int .i64 0), (5, .int .i64 0), (7, .int .i64 k), (8, .bool (k == 0)), (18, .bool (k == 1)), (28, .bool (k == 2)), (38, .bool (k == 3)), (50, .bool (k == 4)), (62, .bool (k == 5))]) 64 (.pointer (some ⟨p, 0, none⟩))) 65 (.pointer (some ⟨w.heap.size, 2, none⟩))) 66 (.int .i64 a)) 67 (.pointer (some ⟨w.heap.size, 3, none⟩))) (by kernel_rfl) ?_
              refine st (by rfl) (S_val (v := .int .i64 b) (R_load (v := .int .i64 b) (by kernel_rfl) (by kernel_rfl) ((hB4.cell 3).trans rfl)) ?_)
              refine seg1 (ρ' := upd (upd (upd (upd (upd (upd (updL ρ [(0, .pointer (some ⟨p, 0, none⟩)), (1, .agg #[.int .i64 k, .int .i64 wd, .int .i64 a, .int .i64 b, .int .i64 c, .int .u64 x]), (3, .pointer (some ⟨w.heap.size, 0, none⟩)), (4, .int .i64 0), (5, .int .i64 0), (7, .int .i64 k), (8, .bool (k == 0)), (18, .bool (k == 1)), (28, .bool (k == 2)), (38, .bool (k == 3)), (50, .bool (k == 4)), (62, .bool (k == 5))]) 64 (.pointer (some ⟨p, 0, none⟩))) 65 (.pointer (some ⟨w.heap.size, 2, none⟩))) 66 (.int .i64 a)) 67 (.pointer (some ⟨w.heap.size, 3, none⟩))) 68 (.int .i64 b)) 69 (.pointer (some ⟨w.heap.size, 1, none⟩))) (by kernel_rfl) ?_
              refine st (by rfl) (S_val (v := .int .i64 wd) (R_load (v := .int .i64 wd) (by kernel_rfl) (by kernel_rfl) ((hB4.cell 1).trans rfl)) ?_)
              have lt35 := hB4.lt
              refine st (by rfl) (S_call (args := [.pointer (some ⟨p, 0, none⟩), .int .i64 a, .int .i64 b, .int .i64 wd]) (by kernel_rfl) (ext_ok F p most N a b wd _ hO (by assumption) (by assumption) (by assumption)) ?_)
              rintro _ w32 ⟨rfl, F33, hO, hm34⟩
              have hMv := hMv.trans hm34
              have hB4 := hB4.tch hm34.1 nF_hB4
              refine seg4 (ρ' := upd (upd (upd (upd (upd (upd (upd (upd (upd (upd (upd (upd (updL ρ [(0, .pointer (some ⟨p, 0, none⟩)), (1, .agg #[.int .i64 k, .int .i64 wd, .int .i64 a, .int .i64 b, .int .i64 c, .int .u64 x]), (3, .pointer (some ⟨w.heap.size, 0, none⟩)), (4, .int .i64 0), (5, .int .i64 0), (7, .int .i64 k), (8, .bool (k == 0)), (18, .bool (k == 1)), (28, .bool (k == 2)), (38, .bool (k == 3)), (50, .bool (k == 4)), (62, .bool (k == 5))]) 64 (.pointer (some ⟨p, 0, none⟩))) 65 (.pointer (some ⟨w.heap.size, 2, none⟩))) 66 (.int .i64 a)) 67 (.pointer (some ⟨w.heap.size, 3, none⟩))) 68 (.int .i64 b)) 69 (.pointer (some ⟨w.heap.size, 1, none⟩))) 70 (.int .i64 wd)) 71 (.tuple #[.int .i64 ((extF N most a b wd).1), .int .i64 ((extF N most a b wd).2.1)])) 72 (.int .i64 ((extF N most a b wd).1))) 73 (.int .i64 ((extF N most a b wd).2.1))) 4 (.int .i64 ((extF N most a b wd).1))) 5 (.int .i64 ((extF N most a b wd).2.1))) (by kernel_rfl) ?_
              refine op_nil ?_
              refine W_ret ?_
              refine ⟨_, Res_of (v := .tuple #[.int .i64 ((extF N most a b wd).1), .int .i64 ((extF N most a b wd).2.1)]) (by kernel_rfl), ?_⟩
              have e : madeF N most k wd a b c x = extF N most a b wd := by unfold madeF; rw [if_neg (by omega), if_neg (by omega), if_neg (by omega), if_neg (by omega), if_neg (by omega), if_pos (by omega)]
              rw [e]
              unfold TRet
              exact ⟨rfl, _, hO, hMv⟩
            · replace hc31 : k ≠ 5 := (ne_of_beq_false hc31)
              refine W_seq ?_
              refine W_fg [(0, .pointer (some ⟨p, 0, none⟩)), (1, .agg #[.int .i64 k, .int .i64 wd, .int .i64 a, .int .i64 b, .int .i64 c, .int .u64 x]), (3, .pointer (some ⟨w.heap.size, 0, none⟩)), (4, .int .i64 0), (5, .int .i64 0), (7, .int .i64 k), (8, .bool (k == 0)), (18, .bool (k == 1)), (28, .bool (k == 2)), (38, .bool (k == 3)), (50, .bool (k == 4)), (62, .bool (k == 5))] (by kernel_rfl) fun ρ => ?_
              refine W_region (by kernel_rfl) ?_
              refine seg2 (ρ' := upd (upd (updL ρ [(0, .pointer (some ⟨p, 0, none⟩)), (1, .agg #[.int .i64 k, .int .i64 wd, .int .i64 a, .int .i64 b, .int .i64 c, .int .u64 x]), (3, .pointer (some ⟨w.heap.size, 0, none⟩)), (4, .int .i64 0), (5, .int .i64 0), (7, .int .i64 k), (8, .bool (k == 0)), (18, .bool (k == 1)), (28, .bool (k == 2)), (38, .bool (k == 3)), (50, .bool (k == 4)), (62, .bool (k == 5))]) 75 (.bool (k == 6))) 74 (.bool (k == 6))) (by kernel_rfl) ?_
              refine op_nil ?_
              refine W_cond (k == 6) (by kernel_rfl) (by kernel_rfl) (fun hc36 => ?_) (fun hc36 => ?_)
              · replace hc36 : k = 6 := (eq_of_beq hc36)
                refine W_seq ?_
                refine W_region (by kernel_rfl) ?_
                refine seg2 (ρ' := upd (upd (upd (upd (updL ρ [(0, .pointer (some ⟨p, 0, none⟩)), (1, .agg #[.int .i64 k, .int .i64 wd, .int .i64 a, .int .i64 b, .int .i64 c, .int .u64 x]), (3, .pointer (some ⟨w.heap.size, 0, none⟩)), (4, .int .i64 0), (5, .int .i64 0), (7, .int .i64 k), (8, .bool (k == 0)), (18, .bool (k == 1)), (28, .bool (k == 2)), (38, .bool (k == 3)), (50, .bool (k == 4)), (62, .bool (k == 5))]) 75 (.bool (k == 6))) 74 (.bool (k == 6))) 76 (.pointer (some ⟨p, 0, none⟩))) 77 (.pointer (some ⟨w.heap.size, 2, none⟩))) (by kernel_rfl) ?_
                refine st (by rfl) (S_val (v := .int .i64 a) (R_load (v := .int .i64 a) (by kernel_rfl) (by kernel_rfl) ((hB4.cell 2).trans rfl)) ?_)
                refine seg1 (ρ' := upd (upd (upd (upd (upd (upd (updL ρ [(0, .pointer (some ⟨p, 0, none⟩)), (1, .agg #[.int .i64 k, .int .i64 wd, .int .i64 a, .int .i64 b, .int .i64 c, .int .u64 x]), (3, .pointer (some ⟨w.heap.size, 0, none⟩)), (4, .int .i64 0), (5, .int .i64 0), (7, .int .i64 k), (8, .bool (k == 0)), (18, .bool (k == 1)), (28, .bool (k == 2)), (38, .bool (k == 3)), (50, .bool (k == 4)), (62, .bool (k == 5))]) 75 (.bool (k == 6))) 74 (.bool (k == 6))) 76 (.pointer (some ⟨p, 0, none⟩))) 77 (.pointer (some ⟨w.heap.size, 2, none⟩))) 78 (.int .i64 a)) 79 (.pointer (some ⟨w.heap.size, 3, none⟩))) (by kernel_rfl) ?_
                refine st (by rfl) (S_val (v := .int .i64 b) (R_load (v := .int .i64 b) (by kernel_rfl) (by kernel_rfl) ((hB4.cell 3).trans rfl)) ?_)
                have lt40 := hB4.lt
                refine st (by rfl) (S_call (args := [.pointer (some ⟨p, 0, none⟩), .int .i64 a, .int .i64 b]) (by kernel_rfl) (cat_ok F p most N a b _ hO (by assumption) (by assumption)) ?_)
                rintro _ w37 ⟨rfl, F38, hO, hm39⟩
                have hMv := hMv.trans hm39
                have hB4 := hB4.tch hm39.1 nF_hB4
                refine seg4 (ρ' := upd (upd (upd (upd (upd (upd (upd (upd (upd (upd (upd (upd (updL ρ [(0, .pointer (some ⟨p, 0, none⟩)), (1, .agg #[.int .i64 k, .int .i64 wd, .int .i64 a, .int .i64 b, .int .i64 c, .int .u64 x]), (3, .pointer (some ⟨w.heap.size, 0, none⟩)), (4, .int .i64 0), (5, .int .i64 0), (7, .int .i64 k), (8, .bool (k == 0)), (18, .bool (k == 1)), (28, .bool (k == 2)), (38, .bool (k == 3)), (50, .bool (k == 4)), (62, .bool (k == 5))]) 75 (.bool (k == 6))) 74 (.bool (k == 6))) 76 (.pointer (some ⟨p, 0, none⟩))) 77 (.pointer (some ⟨w.heap.size, 2, none⟩))) 78 (.int .i64 a)) 79 (.pointer (some ⟨w.heap.size, 3, none⟩))) 80 (.int .i64 b)) 81 (.tuple #[.int .i64 ((catF N most a b).1), .int .i64 ((catF N most a b).2.1)])) 82 (.int .i64 ((catF N most a b).1))) 83 (.int .i64 ((catF N most a b).2.1))) 4 (.int .i64 ((catF N most a b).1))) 5 (.int .i64 ((catF N most a b).2.1))) (by kernel_rfl) ?_
                refine op_nil ?_
                refine W_ret ?_
                refine ⟨_, Res_of (v := .tuple #[.int .i64 ((catF N most a b).1), .int .i64 ((catF N most a b).2.1)]) (by kernel_rfl), ?_⟩
                have e : madeF N most k wd a b c x = catF N most a b := by unfold madeF; rw [if_neg (by omega), if_neg (by omega), if_neg (by omega), if_neg (by omega), if_neg (by omega), if_neg (by omega), if_pos (by omega)]
                rw [e]
                unfold TRet
                exact ⟨rfl, _, hO, hMv⟩
              · replace hc36 : k ≠ 6 := (ne_of_beq_false hc36)
                refine W_skip ?_
                refine W_seq ?_
                refine W_region (by kernel_rfl) ?_
                refine seg2 (ρ' := upd (upd (upd (upd (updL ρ [(0, .pointer (some ⟨p, 0, none⟩)), (1, .agg #[.int .i64 k, .int .i64 wd, .int .i64 a, .int .i64 b, .int .i64 c, .int .u64 x]), (3, .pointer (some ⟨w.heap.size, 0, none⟩)), (4, .int .i64 0), (5, .int .i64 0), (7, .int .i64 k), (8, .bool (k == 0)), (18, .bool (k == 1)), (28, .bool (k == 2)), (38, .bool (k == 3)), (50, .bool (k == 4)), (62, .bool (k == 5))]) 75 (.bool (k == 6))) 74 (.bool (k == 6))) 84 (.pointer (some ⟨p, 0, none⟩))) 85 (.pointer (some ⟨w.heap.size, 2, none⟩))) (by kernel_rfl) ?_
                refine st (by rfl) (S_val (v := .int .i64 a) (R_load (v := .int .i64 a) (by kernel_rfl) (by kernel_rfl) ((hB4.cell 2).trans rfl)) ?_)
                refine seg1 (ρ' := upd (upd (upd (upd (upd (upd (updL ρ [(0, .pointer (some ⟨p, 0, none⟩)), (1, .agg #[.int .i64 k, .int .i64 wd, .int .i64 a, .int .i64 b, .int .i64 c, .int .u64 x]), (3, .pointer (some ⟨w.heap.size, 0, none⟩)), (4, .int .i64 0), (5, .int .i64 0), (7, .int .i64 k), (8, .bool (k == 0)), (18, .bool (k == 1)), (28, .bool (k == 2)), (38, .bool (k == 3)), (50, .bool (k == 4)), (62, .bool (k == 5))]) 75 (.bool (k == 6))) 74 (.bool (k == 6))) 84 (.pointer (some ⟨p, 0, none⟩))) 85 (.pointer (some ⟨w.heap.size, 2, none⟩))) 86 (.int .i64 a)) 87 (.pointer (some ⟨w.heap.size, 1, none⟩))) (by kernel_rfl) ?_
                refine st (by rfl) (S_val (v := .int .i64 wd) (R_load (v := .int .i64 wd) (by kernel_rfl) (by kernel_rfl) ((hB4.cell 1).trans rfl)) ?_)
                refine seg1 (ρ' := upd (upd (upd (upd (upd (upd (upd (upd (updL ρ [(0, .pointer (some ⟨p, 0, none⟩)), (1, .agg #[.int .i64 k, .int .i64 wd, .int .i64 a, .int .i64 b, .int .i64 c, .int .u64 x]), (3, .pointer (some ⟨w.heap.size, 0, none⟩)), (4, .int .i64 0), (5, .int .i64 0), (7, .int .i64 k), (8, .bool (k == 0)), (18, .bool (k == 1)), (28, .bool (k == 2)), (38, .bool (k == 3)), (50, .bool (k == 4)), (62, .bool (k == 5))]) 75 (.bool (k == 6))) 74 (.bool (k == 6))) 84 (.pointer (some ⟨p, 0, none⟩))) 85 (.pointer (some ⟨w.heap.size, 2, none⟩))) 86 (.int .i64 a)) 87 (.pointer (some ⟨w.heap.size, 1, none⟩))) 88 (.int .i64 wd)) 89 (.pointer (some ⟨w.heap.size, 3, none⟩))) (by kernel_rfl) ?_
                refine st (by rfl) (S_val (v := .int .i64 b) (R_load (v := .int .i64 b) (by kernel_rfl) (by kernel_rfl) ((hB4.cell 3).trans rfl)) ?_)
                refine seg2 (ρ' := upd (upd (upd (upd (upd (upd (upd (upd (upd (upd (upd (updL ρ [(0, .pointer (some ⟨p, 0, none⟩)), (1, .agg #[.int .i64 k, .int .i64 wd, .int .i64 a, .int .i64 b, .int .i64 c, .int .u64 x]), (3, .pointer (some ⟨w.heap.size, 0, none⟩)), (4, .int .i64 0), (5, .int .i64 0), (7, .int .i64 k), (8, .bool (k == 0)), (18, .bool (k == 1)), (28, .bool (k == 2)), (38, .bool (k == 3)), (50, .bool (k == 4)), (62, .bool (k == 5))]) 75 (.bool (k == 6))) 74 (.bool (k == 6))) 84 (.pointer (some ⟨p, 0, none⟩))) 85 (.pointer (some ⟨w.heap.size, 2, none⟩))) 86 (.int .i64 a)) 87 (.pointer (some ⟨w.heap.size, 1, none⟩))) 88 (.int .i64 wd)) 89 (.pointer (some ⟨w.heap.size, 3, none⟩))) 90 (.int .i64 b)) 91 (.int .i64 (b.tmod 2))) 92 (.bool ((b.tmod 2) != 0))) (by kernel_rfl) ?_
                have lt44 := hB4.lt
                refine st (by rfl) (S_call (args := [.pointer (some ⟨p, 0, none⟩), .int .i64 a, .int .i64 wd, .bool ((b.tmod 2) != 0)]) (by kernel_rfl) (exd_ok F p most N a wd ((b.tmod 2) != 0) _ hO (by assumption) (by assumption)) ?_)
                rintro _ w41 ⟨rfl, F42, hO, hm43⟩
                have hMv := hMv.trans hm43
                have hB4 := hB4.tch hm43.1 nF_hB4
                refine seg4 (ρ' := upd (upd (upd (upd (upd (upd (upd (upd (upd (upd (upd (upd (upd (upd (upd (upd (updL ρ [(0, .pointer (some ⟨p, 0, none⟩)), (1, .agg #[.int .i64 k, .int .i64 wd, .int .i64 a, .int .i64 b, .int .i64 c, .int .u64 x]), (3, .pointer (some ⟨w.heap.size, 0, none⟩)), (4, .int .i64 0), (5, .int .i64 0), (7, .int .i64 k), (8, .bool (k == 0)), (18, .bool (k == 1)), (28, .bool (k == 2)), (38, .bool (k == 3)), (50, .bool (k == 4)), (62, .bool (k == 5))]) 75 (.bool (k == 6))) 74 (.bool (k == 6))) 84 (.pointer (some ⟨p, 0, none⟩))) 85 (.pointer (some ⟨w.heap.size, 2, none⟩))) 86 (.int .i64 a)) 87 (.pointer (some ⟨w.heap.size, 1, none⟩))) 88 (.int .i64 wd)) 89 (.pointer (some ⟨w.heap.size, 3, none⟩))) 90 (.int .i64 b)) 91 (.int .i64 (b.tmod 2))) 92 (.bool ((b.tmod 2) != 0))) 93 (.tuple #[.int .i64 ((exdF N most a wd ((b.tmod 2) != 0)).1), .int .i64 ((exdF N most a wd ((b.tmod 2) != 0)).2.1)])) 94 (.int .i64 ((exdF N most a wd ((b.tmod 2) != 0)).1))) 95 (.int .i64 ((exdF N most a wd ((b.tmod 2) != 0)).2.1))) 4 (.int .i64 ((exdF N most a wd ((b.tmod 2) != 0)).1))) 5 (.int .i64 ((exdF N most a wd ((b.tmod 2) != 0)).2.1))) (by kernel_rfl) ?_
                refine op_nil ?_
                refine W_ret ?_
                refine ⟨_, Res_of (v := .tuple #[.int .i64 ((exdF N most a wd ((b.tmod 2) != 0)).1), .int .i64 ((exdF N most a wd ((b.tmod 2) != 0)).2.1)]) (by kernel_rfl), ?_⟩
                have e : madeF N most k wd a b c x = exdF N most a wd ((b.tmod 2) != 0) := by unfold madeF; rw [if_neg (by omega), if_neg (by omega), if_neg (by omega), if_neg (by omega), if_neg (by omega), if_neg (by omega), if_neg (by omega)]
                rw [e]
                unfold TRet
                exact ⟨rfl, _, hO, hMv⟩

set_option maxRecDepth 100000 in
theorem made_nil (k wd a b c x : Int) (w : World) : Ret Try.prog 19 [.pointer none, .agg #[.int .i64 k, .int .i64 wd, .int .i64 a, .int .i64 b, .int .i64 c, .int .u64 x]] w fun v w' => v = .tuple #[.int .i64 0, .int .i64 8] ∧ Tch N0 w w' := by
  refine enter Try.func19 rfl rfl ?_
  refine W_seq ?_
  refine W_region (by kernel_rfl) ?_
  refine st (by rfl) (S_new (v := .pointer (some ⟨w.heap.size, 0, none⟩)) (ob := .cells #[.int .i64 k, .int .i64 wd, .int .i64 a, .int .i64 b, .int .i64 c, .int .u64 x] 44) (by kernel_rfl) fun w1 hT2 hs3 hB4 => ?_)
  replace hB4 : Blk w1 (w.heap.size) 44 [.int .i64 k, .int .i64 wd, .int .i64 a, .int .i64 b, .int .i64 c, .int .u64 x] := hB4
  have hT0 := hT2
  refine seg2 (ρ' := upd (upd (upd (ini [.pointer none, .agg #[.int .i64 k, .int .i64 wd, .int .i64 a, .int .i64 b, .int .i64 c, .int .u64 x]]) 3 (.pointer (some ⟨w.heap.size, 0, none⟩))) 4 (.int .i64 0)) 5 (.int .i64 0)) (by kernel_rfl) ?_
  refine op_nil ?_
  refine W_seq ?_
  refine W_seq ?_
  refine W_region (by kernel_rfl) ?_
  refine seg1 (ρ' := upd (upd (upd (upd (ini [.pointer none, .agg #[.int .i64 k, .int .i64 wd, .int .i64 a, .int .i64 b, .int .i64 c, .int .u64 x]]) 3 (.pointer (some ⟨w.heap.size, 0, none⟩))) 4 (.int .i64 0)) 5 (.int .i64 0)) 6 (.pointer (some ⟨w.heap.size, 0, none⟩))) (by kernel_rfl) ?_
  refine st (by rfl) (S_val (v := .int .i64 k) (R_load (v := .int .i64 k) (by kernel_rfl) (by kernel_rfl) ((hB4.cell 0).trans rfl)) ?_)
  refine op_nil ?_
  refine W_block ?_
  refine W_seq ?_
  refine W_region (by kernel_rfl) ?_
  refine seg2 (ρ' := upd (upd (upd (upd (upd (upd (upd (ini [.pointer none, .agg #[.int .i64 k, .int .i64 wd, .int .i64 a, .int .i64 b, .int .i64 c, .int .u64 x]]) 3 (.pointer (some ⟨w.heap.size, 0, none⟩))) 4 (.int .i64 0)) 5 (.int .i64 0)) 6 (.pointer (some ⟨w.heap.size, 0, none⟩))) 7 (.int .i64 k)) 9 (.bool (k == 0))) 8 (.bool (k == 0))) (by kernel_rfl) ?_
  refine op_nil ?_
  refine W_cond (k == 0) (by kernel_rfl) (by kernel_rfl) (fun hc5 => ?_) (fun hc5 => ?_)
  · replace hc5 : k = 0 := (eq_of_beq hc5)
    refine W_seq ?_
    refine W_region (by kernel_rfl) ?_
    refine seg2 (ρ' := upd (upd (upd (upd (upd (upd (upd (upd (upd (ini [.pointer none, .agg #[.int .i64 k, .int .i64 wd, .int .i64 a, .int .i64 b, .int .i64 c, .int .u64 x]]) 3 (.pointer (some ⟨w.heap.size, 0, none⟩))) 4 (.int .i64 0)) 5 (.int .i64 0)) 6 (.pointer (some ⟨w.heap.size, 0, none⟩))) 7 (.int .i64 k)) 9 (.bool (k == 0))) 8 (.bool (k == 0))) 10 (.pointer none)) 11 (.pointer (some ⟨w.heap.size, 1, none⟩))) (by kernel_rfl) ?_
    refine st (by rfl) (S_val (v := .int .i64 wd) (R_load (v := .int .i64 wd) (by kernel_rfl) (by kernel_rfl) ((hB4.cell 1).trans rfl)) ?_)
    refine seg1 (ρ' := upd (upd (upd (upd (upd (upd (upd (upd (upd (upd (upd (ini [.pointer none, .agg #[.int .i64 k, .int .i64 wd, .int .i64 a, .int .i64 b, .int .i64 c, .int .u64 x]]) 3 (.pointer (some ⟨w.heap.size, 0, none⟩))) 4 (.int .i64 0)) 5 (.int .i64 0)) 6 (.pointer (some ⟨w.heap.size, 0, none⟩))) 7 (.int .i64 k)) 9 (.bool (k == 0))) 8 (.bool (k == 0))) 10 (.pointer none)) 11 (.pointer (some ⟨w.heap.size, 1, none⟩))) 12 (.int .i64 wd)) 13 (.pointer (some ⟨w.heap.size, 5, none⟩))) (by kernel_rfl) ?_
    refine st (by rfl) (S_val (v := .int .u64 x) (R_load (v := .int .u64 x) (by kernel_rfl) (by kernel_rfl) ((hB4.cell 5).trans rfl)) ?_)
    refine st (by rfl) (S_call (args := [.pointer none, .int .i64 wd, .int .u64 x]) (by kernel_rfl) (const_nil wd x _) ?_)
    rintro _ w6 ⟨rfl, hT7⟩
    have hT0 := hT0.t0 hT7
    have hB4 := hB4.tch0 hT7
    refine seg4 (ρ' := upd (upd (upd (upd (upd (upd (upd (upd (upd (upd (upd (upd (upd (upd (upd (upd (upd (ini [.pointer none, .agg #[.int .i64 k, .int .i64 wd, .int .i64 a, .int .i64 b, .int .i64 c, .int .u64 x]]) 3 (.pointer (some ⟨w.heap.size, 0, none⟩))) 4 (.int .i64 0)) 5 (.int .i64 0)) 6 (.pointer (some ⟨w.heap.size, 0, none⟩))) 7 (.int .i64 k)) 9 (.bool (k == 0))) 8 (.bool (k == 0))) 10 (.pointer none)) 11 (.pointer (some ⟨w.heap.size, 1, none⟩))) 12 (.int .i64 wd)) 13 (.pointer (some ⟨w.heap.size, 5, none⟩))) 14 (.int .u64 x)) 15 (.tuple #[.int .i64 0, .int .i64 8])) 16 (.int .i64 0)) 17 (.int .i64 8)) 4 (.int .i64 0)) 5 (.int .i64 8)) (by kernel_rfl) ?_
    refine op_nil ?_
    refine W_ret ?_
    exact ⟨_, Res_of (v := .tuple #[.int .i64 0, .int .i64 8]) (by kernel_rfl), ⟨rfl, hT0⟩⟩
  · replace hc5 : k ≠ 0 := (ne_of_beq_false hc5)
    refine W_seq ?_
    refine W_region (by kernel_rfl) ?_
    refine seg2 (ρ' := upd (upd (upd (upd (upd (upd (upd (upd (upd (ini [.pointer none, .agg #[.int .i64 k, .int .i64 wd, .int .i64 a, .int .i64 b, .int .i64 c, .int .u64 x]]) 3 (.pointer (some ⟨w.heap.size, 0, none⟩))) 4 (.int .i64 0)) 5 (.int .i64 0)) 6 (.pointer (some ⟨w.heap.size, 0, none⟩))) 7 (.int .i64 k)) 9 (.bool (k == 0))) 8 (.bool (k == 0))) 19 (.bool (k == 1))) 18 (.bool (k == 1))) (by kernel_rfl) ?_
    refine op_nil ?_
    refine W_cond (k == 1) (by kernel_rfl) (by kernel_rfl) (fun hc8 => ?_) (fun hc8 => ?_)
    · replace hc8 : k = 1 := (eq_of_beq hc8)
      refine W_seq ?_
      refine W_fg [(0, .pointer none), (1, .agg #[.int .i64 k, .int .i64 wd, .int .i64 a, .int .i64 b, .int .i64 c, .int .u64 x]), (3, .pointer (some ⟨w.heap.size, 0, none⟩)), (4, .int .i64 0), (5, .int .i64 0), (7, .int .i64 k), (8, .bool (k == 0)), (18, .bool (k == 1))] (by kernel_rfl) fun ρ => ?_
      refine W_region (by kernel_rfl) ?_
      refine seg2 (ρ' := upd (upd (updL ρ [(0, .pointer none), (1, .agg #[.int .i64 k, .int .i64 wd, .int .i64 a, .int .i64 b, .int .i64 c, .int .u64 x]), (3, .pointer (some ⟨w.heap.size, 0, none⟩)), (4, .int .i64 0), (5, .int .i64 0), (7, .int .i64 k), (8, .bool (k == 0)), (18, .bool (k == 1))]) 20 (.pointer none)) 21 (.pointer (some ⟨w.heap.size, 1, none⟩))) (by kernel_rfl) ?_
      refine st (by rfl) (S_val (v := .int .i64 wd) (R_load (v := .int .i64 wd) (by kernel_rfl) (by kernel_rfl) ((hB4.cell 1).trans rfl)) ?_)
      refine seg1 (ρ' := upd (upd (upd (upd (updL ρ [(0, .pointer none), (1, .agg #[.int .i64 k, .int .i64 wd, .int .i64 a, .int .i64 b, .int .i64 c, .int .u64 x]), (3, .pointer (some ⟨w.heap.size, 0, none⟩)), (4, .int .i64 0), (5, .int .i64 0), (7, .int .i64 k), (8, .bool (k == 0)), (18, .bool (k == 1))]) 20 (.pointer none)) 21 (.pointer (some ⟨w.heap.size, 1, none⟩))) 22 (.int .i64 wd)) 23 (.pointer (some ⟨w.heap.size, 2, none⟩))) (by kernel_rfl) ?_
      refine st (by rfl) (S_val (v := .int .i64 a) (R_load (v := .int .i64 a) (by kernel_rfl) (by kernel_rfl) ((hB4.cell 2).trans rfl)) ?_)
      refine st (by rfl) (S_call (args := [.pointer none, .int .i64 wd, .int .i64 a]) (by kernel_rfl) (var_nil wd a _) ?_)
      rintro _ w9 ⟨rfl, hT10⟩
      have hT0 := hT0.t0 hT10
      have hB4 := hB4.tch0 hT10
      refine seg4 (ρ' := upd (upd (upd (upd (upd (upd (upd (upd (upd (upd (updL ρ [(0, .pointer none), (1, .agg #[.int .i64 k, .int .i64 wd, .int .i64 a, .int .i64 b, .int .i64 c, .int .u64 x]), (3, .pointer (some ⟨w.heap.size, 0, none⟩)), (4, .int .i64 0), (5, .int .i64 0), (7, .int .i64 k), (8, .bool (k == 0)), (18, .bool (k == 1))]) 20 (.pointer none)) 21 (.pointer (some ⟨w.heap.size, 1, none⟩))) 22 (.int .i64 wd)) 23 (.pointer (some ⟨w.heap.size, 2, none⟩))) 24 (.int .i64 a)) 25 (.tuple #[.int .i64 0, .int .i64 8])) 26 (.int .i64 0)) 27 (.int .i64 8)) 4 (.int .i64 0)) 5 (.int .i64 8)) (by kernel_rfl) ?_
      refine op_nil ?_
      refine W_ret ?_
      exact ⟨_, Res_of (v := .tuple #[.int .i64 0, .int .i64 8]) (by kernel_rfl), ⟨rfl, hT0⟩⟩
    · replace hc8 : k ≠ 1 := (ne_of_beq_false hc8)
      refine W_seq ?_
      refine W_fg [(0, .pointer none), (1, .agg #[.int .i64 k, .int .i64 wd, .int .i64 a, .int .i64 b, .int .i64 c, .int .u64 x]), (3, .pointer (some ⟨w.heap.size, 0, none⟩)), (4, .int .i64 0), (5, .int .i64 0), (7, .int .i64 k), (8, .bool (k == 0)), (18, .bool (k == 1))] (by kernel_rfl) fun ρ => ?_
      refine W_region (by kernel_rfl) ?_
      refine seg2 (ρ' := upd (upd (updL ρ [(0, .pointer none), (1, .agg #[.int .i64 k, .int .i64 wd, .int .i64 a, .int .i64 b, .int .i64 c, .int .u64 x]), (3, .pointer (some ⟨w.heap.size, 0, none⟩)), (4, .int .i64 0), (5, .int .i64 0), (7, .int .i64 k), (8, .bool (k == 0)), (18, .bool (k == 1))]) 29 (.bool (k == 2))) 28 (.bool (k == 2))) (by kernel_rfl) ?_
      refine op_nil ?_
      refine W_cond (k == 2) (by kernel_rfl) (by kernel_rfl) (fun hc11 => ?_) (fun hc11 => ?_)
      · replace hc11 : k = 2 := (eq_of_beq hc11)
        refine W_seq ?_
        refine W_region (by kernel_rfl) ?_
        refine seg2 (ρ' := upd (upd (upd (upd (updL ρ [(0, .pointer none), (1, .agg #[.int .i64 k, .int .i64 wd, .int .i64 a, .int .i64 b, .int .i64 c, .int .u64 x]), (3, .pointer (some ⟨w.heap.size, 0, none⟩)), (4, .int .i64 0), (5, .int .i64 0), (7, .int .i64 k), (8, .bool (k == 0)), (18, .bool (k == 1))]) 29 (.bool (k == 2))) 28 (.bool (k == 2))) 30 (.pointer none)) 31 (.pointer (some ⟨w.heap.size, 2, none⟩))) (by kernel_rfl) ?_
        refine st (by rfl) (S_val (v := .int .i64 a) (R_load (v := .int .i64 a) (by kernel_rfl) (by kernel_rfl) ((hB4.cell 2).trans rfl)) ?_)
        refine seg1 (ρ' := upd (upd (upd (upd (upd (upd (updL ρ [(0, .pointer none), (1, .agg #[.int .i64 k, .int .i64 wd, .int .i64 a, .int .i64 b, .int .i64 c, .int .u64 x]), (3, .pointer (some ⟨w.heap.size, 0, none⟩)), (4, .int .i64 0), (5, .int .i64 0), (7, .int .i64 k), (8, .bool (k == 0)), (18, .bool (k == 1))]) 29 (.bool (k == 2))) 28 (.bool (k == 2))) 30 (.pointer none)) 31 (.pointer (some ⟨w.heap.size, 2, none⟩))) 32 (.int .i64 a)) 33 (.pointer (some ⟨w.heap.size, 3, none⟩))) (by kernel_rfl) ?_
        refine st (by rfl) (S_val (v := .int .i64 b) (R_load (v := .int .i64 b) (by kernel_rfl) (by kernel_rfl) ((hB4.cell 3).trans rfl)) ?_)
        refine st (by rfl) (S_call (args := [.pointer none, .int .i64 a, .int .i64 b]) (by kernel_rfl) (una_nil a b _) ?_)
        rintro _ w12 ⟨rfl, hT13⟩
        have hT0 := hT0.t0 hT13
        have hB4 := hB4.tch0 hT13
        refine seg4 (ρ' := upd (upd (upd (upd (upd (upd (upd (upd (upd (upd (upd (upd (updL ρ [(0, .pointer none), (1, .agg #[.int .i64 k, .int .i64 wd, .int .i64 a, .int .i64 b, .int .i64 c, .int .u64 x]), (3, .pointer (some ⟨w.heap.size, 0, none⟩)), (4, .int .i64 0), (5, .int .i64 0), (7, .int .i64 k), (8, .bool (k == 0)), (18, .bool (k == 1))]) 29 (.bool (k == 2))) 28 (.bool (k == 2))) 30 (.pointer none)) 31 (.pointer (some ⟨w.heap.size, 2, none⟩))) 32 (.int .i64 a)) 33 (.pointer (some ⟨w.heap.size, 3, none⟩))) 34 (.int .i64 b)) 35 (.tuple #[.int .i64 0, .int .i64 8])) 36 (.int .i64 0)) 37 (.int .i64 8)) 4 (.int .i64 0)) 5 (.int .i64 8)) (by kernel_rfl) ?_
        refine op_nil ?_
        refine W_ret ?_
        exact ⟨_, Res_of (v := .tuple #[.int .i64 0, .int .i64 8]) (by kernel_rfl), ⟨rfl, hT0⟩⟩
      · replace hc11 : k ≠ 2 := (ne_of_beq_false hc11)
        refine W_seq ?_
        refine W_region (by kernel_rfl) ?_
        refine seg2 (ρ' := upd (upd (upd (upd (updL ρ [(0, .pointer none), (1, .agg #[.int .i64 k, .int .i64 wd, .int .i64 a, .int .i64 b, .int .i64 c, .int .u64 x]), (3, .pointer (some ⟨w.heap.size, 0, none⟩)), (4, .int .i64 0), (5, .int .i64 0), (7, .int .i64 k), (8, .bool (k == 0)), (18, .bool (k == 1))]) 29 (.bool (k == 2))) 28 (.bool (k == 2))) 39 (.bool (k == 3))) 38 (.bool (k == 3))) (by kernel_rfl) ?_
        refine op_nil ?_
        refine W_cond (k == 3) (by kernel_rfl) (by kernel_rfl) (fun hc14 => ?_) (fun hc14 => ?_)
        · replace hc14 : k = 3 := (eq_of_beq hc14)
          refine W_seq ?_
          refine W_region (by kernel_rfl) ?_
          refine seg2 (ρ' := upd (upd (upd (upd (upd (upd (updL ρ [(0, .pointer none), (1, .agg #[.int .i64 k, .int .i64 wd, .int .i64 a, .int .i64 b, .int .i64 c, .int .u64 x]), (3, .pointer (some ⟨w.heap.size, 0, none⟩)), (4, .int .i64 0), (5, .int .i64 0), (7, .int .i64 k), (8, .bool (k == 0)), (18, .bool (k == 1))]) 29 (.bool (k == 2))) 28 (.bool (k == 2))) 39 (.bool (k == 3))) 38 (.bool (k == 3))) 40 (.pointer none)) 41 (.pointer (some ⟨w.heap.size, 2, none⟩))) (by kernel_rfl) ?_
          refine st (by rfl) (S_val (v := .int .i64 a) (R_load (v := .int .i64 a) (by kernel_rfl) (by kernel_rfl) ((hB4.cell 2).trans rfl)) ?_)
          refine seg1 (ρ' := upd (upd (upd (upd (upd (upd (upd (upd (updL ρ [(0, .pointer none), (1, .agg #[.int .i64 k, .int .i64 wd, .int .i64 a, .int .i64 b, .int .i64 c, .int .u64 x]), (3, .pointer (some ⟨w.heap.size, 0, none⟩)), (4, .int .i64 0), (5, .int .i64 0), (7, .int .i64 k), (8, .bool (k == 0)), (18, .bool (k == 1))]) 29 (.bool (k == 2))) 28 (.bool (k == 2))) 39 (.bool (k == 3))) 38 (.bool (k == 3))) 40 (.pointer none)) 41 (.pointer (some ⟨w.heap.size, 2, none⟩))) 42 (.int .i64 a)) 43 (.pointer (some ⟨w.heap.size, 3, none⟩))) (by kernel_rfl) ?_
          refine st (by rfl) (S_val (v := .int .i64 b) (R_load (v := .int .i64 b) (by kernel_rfl) (by kernel_rfl) ((hB4.cell 3).trans rfl)) ?_)
          refine seg1 (ρ' := upd (upd (upd (upd (upd (upd (upd (upd (upd (upd (updL ρ [(0, .pointer none), (1, .agg #[.int .i64 k, .int .i64 wd, .int .i64 a, .int .i64 b, .int .i64 c, .int .u64 x]), (3, .pointer (some ⟨w.heap.size, 0, none⟩)), (4, .int .i64 0), (5, .int .i64 0), (7, .int .i64 k), (8, .bool (k == 0)), (18, .bool (k == 1))]) 29 (.bool (k == 2))) 28 (.bool (k == 2))) 39 (.bool (k == 3))) 38 (.bool (k == 3))) 40 (.pointer none)) 41 (.pointer (some ⟨w.heap.size, 2, none⟩))) 42 (.int .i64 a)) 43 (.pointer (some ⟨w.heap.size, 3, none⟩))) 44 (.int .i64 b)) 45 (.pointer (some ⟨w.heap.size, 4, none⟩))) (by kernel_rfl) ?_
          refine st (by rfl) (S_val (v := .int .i64 c) (R_load (v := .int .i64 c) (by kernel_rfl) (by kernel_rfl) ((hB4.cell 4).trans rfl)) ?_)
          refine st (by rfl) (S_call (args := [.pointer none, .int .i64 a, .int .i64 b, .int .i64 c]) (by kernel_rfl) (bin_nil a b c _) ?_)
          rintro _ w15 ⟨rfl, hT16⟩
          have hT0 := hT0.t0 hT16
          have hB4 := hB4.tch0 hT16
          refine seg4 (ρ' := upd (upd (upd (upd (upd (upd (upd (upd (upd (upd (upd (upd (upd (upd (upd (upd (updL ρ [(0, .pointer none), (1, .agg #[.int .i64 k, .int .i64 wd, .int .i64 a, .int .i64 b, .int .i64 c, .int .u64 x]), (3, .pointer (some ⟨w.heap.size, 0, none⟩)), (4, .int .i64 0), (5, .int .i64 0), (7, .int .i64 k), (8, .bool (k == 0)), (18, .bool (k == 1))]) 29 (.bool (k == 2))) 28 (.bool (k == 2))) 39 (.bool (k == 3))) 38 (.bool (k == 3))) 40 (.pointer none)) 41 (.pointer (some ⟨w.heap.size, 2, none⟩))) 42 (.int .i64 a)) 43 (.pointer (some ⟨w.heap.size, 3, none⟩))) 44 (.int .i64 b)) 45 (.pointer (some ⟨w.heap.size, 4, none⟩))) 46 (.int .i64 c)) 47 (.tuple #[.int .i64 0, .int .i64 8])) 48 (.int .i64 0)) 49 (.int .i64 8)) 4 (.int .i64 0)) 5 (.int .i64 8)) (by kernel_rfl) ?_
          refine op_nil ?_
          refine W_ret ?_
          exact ⟨_, Res_of (v := .tuple #[.int .i64 0, .int .i64 8]) (by kernel_rfl), ⟨rfl, hT0⟩⟩
        · replace hc14 : k ≠ 3 := (ne_of_beq_false hc14)
          refine W_seq ?_
          refine W_region (by kernel_rfl) ?_
          refine seg2 (ρ' := upd (upd (upd (upd (upd (upd (updL ρ [(0, .pointer none), (1, .agg #[.int .i64 k, .int .i64 wd, .int .i64 a, .int .i64 b, .int .i64 c, .int .u64 x]), (3, .pointer (some ⟨w.heap.size, 0, none⟩)), (4, .int .i64 0), (5, .int .i64 0), (7, .int .i64 k), (8, .bool (k == 0)), (18, .bool (k == 1))]) 29 (.bool (k == 2))) 28 (.bool (k == 2))) 39 (.bool (k == 3))) 38 (.bool (k == 3))) 51 (.bool (k == 4))) 50 (.bool (k == 4))) (by kernel_rfl) ?_
          refine op_nil ?_
          refine W_cond (k == 4) (by kernel_rfl) (by kernel_rfl) (fun hc17 => ?_) (fun hc17 => ?_)
          · replace hc17 : k = 4 := (eq_of_beq hc17)
            refine W_seq ?_
            refine W_region (by kernel_rfl) ?_
            refine seg2 (ρ' := upd (upd (upd (upd (upd (upd (upd (upd (updL ρ [(0, .pointer none), (1, .agg #[.int .i64 k, .int .i64 wd, .int .i64 a, .int .i64 b, .int .i64 c, .int .u64 x]), (3, .pointer (some ⟨w.heap.size, 0, none⟩)), (4, .int .i64 0), (5, .int .i64 0), (7, .int .i64 k), (8, .bool (k == 0)), (18, .bool (k == 1))]) 29 (.bool (k == 2))) 28 (.bool (k == 2))) 39 (.bool (k == 3))) 38 (.bool (k == 3))) 51 (.bool (k == 4))) 50 (.bool (k == 4))) 52 (.pointer none)) 53 (.pointer (some ⟨w.heap.size, 2, none⟩))) (by kernel_rfl) ?_
            refine st (by rfl) (S_val (v := .int .i64 a) (R_load (v := .int .i64 a) (by kernel_rfl) (by kernel_rfl) ((hB4.cell 2).trans rfl)) ?_)
            refine seg1 (ρ' := upd (upd (upd (upd (upd (upd (upd (upd (upd (upd (updL ρ [(0, .pointer none), (1, .agg #[.int .i64 k, .int .i64 wd, .int .i64 a, .int .i64 b, .int .i64 c, .int .u64 x]), (3, .pointer (some ⟨w.heap.size, 0, none⟩)), (4, .int .i64 0), (5, .int .i64 0), (7, .int .i64 k), (8, .bool (k == 0)), (18, .bool (k == 1))]) 29 (.bool (k == 2))) 28 (.bool (k == 2))) 39 (.bool (k == 3))) 38 (.bool (k == 3))) 51 (.bool (k == 4))) 50 (.bool (k == 4))) 52 (.pointer none)) 53 (.pointer (some ⟨w.heap.size, 2, none⟩))) 54 (.int .i64 a)) 55 (.pointer (some ⟨w.heap.size, 3, none⟩))) (by kernel_rfl) ?_
            refine st (by rfl) (S_val (v := .int .i64 b) (R_load (v := .int .i64 b) (by kernel_rfl) (by kernel_rfl) ((hB4.cell 3).trans rfl)) ?_)
            refine seg1 (ρ' := upd (upd (upd (upd (upd (upd (upd (upd (upd (upd (upd (upd (updL ρ [(0, .pointer none), (1, .agg #[.int .i64 k, .int .i64 wd, .int .i64 a, .int .i64 b, .int .i64 c, .int .u64 x]), (3, .pointer (some ⟨w.heap.size, 0, none⟩)), (4, .int .i64 0), (5, .int .i64 0), (7, .int .i64 k), (8, .bool (k == 0)), (18, .bool (k == 1))]) 29 (.bool (k == 2))) 28 (.bool (k == 2))) 39 (.bool (k == 3))) 38 (.bool (k == 3))) 51 (.bool (k == 4))) 50 (.bool (k == 4))) 52 (.pointer none)) 53 (.pointer (some ⟨w.heap.size, 2, none⟩))) 54 (.int .i64 a)) 55 (.pointer (some ⟨w.heap.size, 3, none⟩))) 56 (.int .i64 b)) 57 (.pointer (some ⟨w.heap.size, 4, none⟩))) (by kernel_rfl) ?_
            refine st (by rfl) (S_val (v := .int .i64 c) (R_load (v := .int .i64 c) (by kernel_rfl) (by kernel_rfl) ((hB4.cell 4).trans rfl)) ?_)
            refine st (by rfl) (S_call (args := [.pointer none, .int .i64 a, .int .i64 b, .int .i64 c]) (by kernel_rfl) (ite_nil a b c _) ?_)
            rintro _ w18 ⟨rfl, hT19⟩
            have hT0 := hT0.t0 hT19
            have hB4 := hB4.tch0 hT19
            refine seg4 (ρ' := upd (upd (upd (upd (upd (upd (upd (upd (upd (upd (upd (upd (upd (upd (upd (upd (upd (upd (updL ρ [(0, .pointer none), (1, .agg #[.int .i64 k, .int .i64 wd, .int .i64 a, .int .i64 b, .int .i64 c, .int .u64 x]), (3, .pointer (some ⟨w.heap.size, 0, none⟩)), (4, .int .i64 0), (5, .int .i64 0), (7, .int .i64 k), (8, .bool (k == 0)), (18, .bool (k == 1))]) 29 (.bool (k == 2))) 28 (.bool (k == 2))) 39 (.bool (k == 3))) 38 (.bool (k == 3))) 51 (.bool (k == 4))) 50 (.bool (k == 4))) 52 (.pointer none)) 53 (.pointer (some ⟨w.heap.size, 2, none⟩))) 54 (.int .i64 a)) 55 (.pointer (some ⟨w.heap.size, 3, none⟩))) 56 (.int .i64 b)) 57 (.pointer (some ⟨w.heap.size, 4, none⟩))) 58 (.int .i64 c)) 59 (.tuple #[.int .i64 0, .int .i64 8])) 60 (.int .i64 0)) 61 (.int .i64 8)) 4 (.int .i64 0)) 5 (.int .i64 8)) (by kernel_rfl) ?_
            refine op_nil ?_
            refine W_ret ?_
            exact ⟨_, Res_of (v := .tuple #[.int .i64 0, .int .i64 8]) (by kernel_rfl), ⟨rfl, hT0⟩⟩
          · replace hc17 : k ≠ 4 := (ne_of_beq_false hc17)
            refine W_seq ?_
            refine W_region (by kernel_rfl) ?_
            refine seg2 (ρ' := upd (upd (upd (upd (upd (upd (upd (upd (updL ρ [(0, .pointer none), (1, .agg #[.int .i64 k, .int .i64 wd, .int .i64 a, .int .i64 b, .int .i64 c, .int .u64 x]), (3, .pointer (some ⟨w.heap.size, 0, none⟩)), (4, .int .i64 0), (5, .int .i64 0), (7, .int .i64 k), (8, .bool (k == 0)), (18, .bool (k == 1))]) 29 (.bool (k == 2))) 28 (.bool (k == 2))) 39 (.bool (k == 3))) 38 (.bool (k == 3))) 51 (.bool (k == 4))) 50 (.bool (k == 4))) 63 (.bool (k == 5))) 62 (.bool (k == 5))) (by kernel_rfl) ?_
            refine op_nil ?_
            refine W_cond (k == 5) (by kernel_rfl) (by kernel_rfl) (fun hc20 => ?_) (fun hc20 => ?_)
            · replace hc20 : k = 5 := (eq_of_beq hc20)
              refine W_seq ?_
              refine W_fg [(0, .pointer none), (1, .agg #[.int .i64 k, .int .i64 wd, .int .i64 a, .int .i64 b, .int .i64 c, .int .u64 x]), (3, .pointer (some ⟨w.heap.size, 0, none⟩)), (4, .int .i64 0), (5, .int .i64 0), (7, .int .i64 k), (8, .bool (k == 0)), (18, .bool (k == 1)), (28, .bool (k == 2)), (38, .bool (k == 3)), (50, .bool (k == 4)), (62, .bool (k == 5))] (by kernel_rfl) fun ρ => ?_
              refine W_region (by kernel_rfl) ?_
              refine seg2 (ρ' := upd (upd (updL ρ [(0, .pointer none), (1, .agg #[.int .i64 k, .int .i64 wd, .int .i64 a, .int .i64 b, .int .i64 c, .int .u64 x]), (3, .pointer (some ⟨w.heap.size, 0, none⟩)), (4, .int .i64 0), (5, .int .i64 0), (7, .int .i64 k), (8, .bool (k == 0)), (18, .bool (k == 1)), (28, .bool (k == 2)), (38, .bool (k == 3)), (50, .bool (k == 4)), (62, .bool (k == 5))]) 64 (.pointer none)) 65 (.pointer (some ⟨w.heap.size, 2, none⟩))) (by kernel_rfl) ?_
              refine st (by rfl) (S_val (v := .int .i64 a) (R_load (v := .int .i64 a) (by kernel_rfl) (by kernel_rfl) ((hB4.cell 2).trans rfl)) ?_)
              refine seg1 (ρ' := upd (upd (upd (upd (updL ρ [(0, .pointer none), (1, .agg #[.int .i64 k, .int .i64 wd, .int .i64 a, .int .i64 b, .int .i64 c, .int .u64 x]), (3, .pointer (some ⟨w.heap.size, 0, none⟩)), (4, .int .i64 0), (5, .int .i64 0), (7, .int .i64 k), (8, .bool (k == 0)), (18, .bool (k == 1)), (28, .bool (k == 2)), (38, .bool (k == 3)), (50, .bool (k == 4)), (62, .bool (k == 5))]) 64 (.pointer none)) 65 (.pointer (some ⟨w.heap.size, 2, none⟩))) 66 (.int .i64 a)) 67 (.pointer (some ⟨w.heap.size, 3, none⟩))) (by kernel_rfl) ?_
              refine st (by rfl) (S_val (v := .int .i64 b) (R_load (v := .int .i64 b) (by kernel_rfl) (by kernel_rfl) ((hB4.cell 3).trans rfl)) ?_)
              refine seg1 (ρ' := upd (upd (upd (upd (upd (upd (updL ρ [(0, .pointer none), (1, .agg #[.int .i64 k, .int .i64 wd, .int .i64 a, .int .i64 b, .int .i64 c, .int .u64 x]), (3, .pointer (some ⟨w.heap.size, 0, none⟩)), (4, .int .i64 0), (5, .int .i64 0), (7, .int .i64 k), (8, .bool (k == 0)), (18, .bool (k == 1)), (28, .bool (k == 2)), (38, .bool (k == 3)), (50, .bool (k == 4)), (62, .bool (k == 5))]) 64 (.pointer none)) 65 (.pointer (some ⟨w.heap.size, 2, none⟩))) 66 (.int .i64 a)) 67 (.pointer (some ⟨w.heap.size, 3, none⟩))) 68 (.int .i64 b)) 69 (.pointer (some ⟨w.heap.size, 1, none⟩))) (by kernel_rfl) ?_
              refine st (by rfl) (S_val (v := .int .i64 wd) (R_load (v := .int .i64 wd) (by kernel_rfl) (by kernel_rfl) ((hB4.cell 1).trans rfl)) ?_)
              refine st (by rfl) (S_call (args := [.pointer none, .int .i64 a, .int .i64 b, .int .i64 wd]) (by kernel_rfl) (ext_nil a b wd _) ?_)
              rintro _ w21 ⟨rfl, hT22⟩
              have hT0 := hT0.t0 hT22
              have hB4 := hB4.tch0 hT22
              refine seg4 (ρ' := upd (upd (upd (upd (upd (upd (upd (upd (upd (upd (upd (upd (updL ρ [(0, .pointer none), (1, .agg #[.int .i64 k, .int .i64 wd, .int .i64 a, .int .i64 b, .int .i64 c, .int .u64 x]), (3, .pointer (some ⟨w.heap.size, 0, none⟩)), (4, .int .i64 0), (5, .int .i64 0), (7, .int .i64 k), (8, .bool (k == 0)), (18, .bool (k == 1)), (28, .bool (k == 2)), (38, .bool (k == 3)), (50, .bool (k == 4)), (62, .bool (k == 5))]) 64 (.pointer none)) 65 (.pointer (some ⟨w.heap.size, 2, none⟩))) 66 (.int .i64 a)) 67 (.pointer (some ⟨w.heap.size, 3, none⟩))) 68 (.int .i64 b)) 69 (.pointer (some ⟨w.heap.size, 1, none⟩))) 70 (.int .i64 wd)) 71 (.tuple #[.int .i64 0, .int .i64 8])) 72 (.int .i64 0)) 73 (.int .i64 8)) 4 (.int .i64 0)) 5 (.int .i64 8)) (by kernel_rfl) ?_
              refine op_nil ?_
              refine W_ret ?_
              exact ⟨_, Res_of (v := .tuple #[.int .i64 0, .int .i64 8]) (by kernel_rfl), ⟨rfl, hT0⟩⟩
            · replace hc20 : k ≠ 5 := (ne_of_beq_false hc20)
              refine W_seq ?_
              refine W_fg [(0, .pointer none), (1, .agg #[.int .i64 k, .int .i64 wd, .int .i64 a, .int .i64 b, .int .i64 c, .int .u64 x]), (3, .pointer (some ⟨w.heap.size, 0, none⟩)), (4, .int .i64 0), (5, .int .i64 0), (7, .int .i64 k), (8, .bool (k == 0)), (18, .bool (k == 1)), (28, .bool (k == 2)), (38, .bool (k == 3)), (50, .bool (k == 4)), (62, .bool (k == 5))] (by kernel_rfl) fun ρ => ?_
              refine W_region (by kernel_rfl) ?_
              refine seg2 (ρ' := upd (upd (updL ρ [(0, .pointer none), (1, .agg #[.int .i64 k, .int .i64 wd, .int .i64 a, .int .i64 b, .int .i64 c, .int .u64 x]), (3, .pointer (some ⟨w.heap.size, 0, none⟩)), (4, .int .i64 0), (5, .int .i64 0), (7, .int .i64 k), (8, .bool (k == 0)), (18, .bool (k == 1)), (28, .bool (k == 2)), (38, .bool (k == 3)), (50, .bool (k == 4)), (62, .bool (k == 5))]) 75 (.bool (k == 6))) 74 (.bool (k == 6))) (by kernel_rfl) ?_
              refine op_nil ?_
              refine W_cond (k == 6) (by kernel_rfl) (by kernel_rfl) (fun hc23 => ?_) (fun hc23 => ?_)
              · replace hc23 : k = 6 := (eq_of_beq hc23)
                refine W_seq ?_
                refine W_region (by kernel_rfl) ?_
                refine seg2 (ρ' := upd (upd (upd (upd (updL ρ [(0, .pointer none), (1, .agg #[.int .i64 k, .int .i64 wd, .int .i64 a, .int .i64 b, .int .i64 c, .int .u64 x]), (3, .pointer (some ⟨w.heap.size, 0, none⟩)), (4, .int .i64 0), (5, .int .i64 0), (7, .int .i64 k), (8, .bool (k == 0)), (18, .bool (k == 1)), (28, .bool (k == 2)), (38, .bool (k == 3)), (50, .bool (k == 4)), (62, .bool (k == 5))]) 75 (.bool (k == 6))) 74 (.bool (k == 6))) 76 (.pointer none)) 77 (.pointer (some ⟨w.heap.size, 2, none⟩))) (by kernel_rfl) ?_
                refine st (by rfl) (S_val (v := .int .i64 a) (R_load (v := .int .i64 a) (by kernel_rfl) (by kernel_rfl) ((hB4.cell 2).trans rfl)) ?_)
                refine seg1 (ρ' := upd (upd (upd (upd (upd (upd (updL ρ [(0, .pointer none), (1, .agg #[.int .i64 k, .int .i64 wd, .int .i64 a, .int .i64 b, .int .i64 c, .int .u64 x]), (3, .pointer (some ⟨w.heap.size, 0, none⟩)), (4, .int .i64 0), (5, .int .i64 0), (7, .int .i64 k), (8, .bool (k == 0)), (18, .bool (k == 1)), (28, .bool (k == 2)), (38, .bool (k == 3)), (50, .bool (k == 4)), (62, .bool (k == 5))]) 75 (.bool (k == 6))) 74 (.bool (k == 6))) 76 (.pointer none)) 77 (.pointer (some ⟨w.heap.size, 2, none⟩))) 78 (.int .i64 a)) 79 (.pointer (some ⟨w.heap.size, 3, none⟩))) (by kernel_rfl) ?_
                refine st (by rfl) (S_val (v := .int .i64 b) (R_load (v := .int .i64 b) (by kernel_rfl) (by kernel_rfl) ((hB4.cell 3).trans rfl)) ?_)
                refine st (by rfl) (S_call (args := [.pointer none, .int .i64 a, .int .i64 b]) (by kernel_rfl) (cat_nil a b _) ?_)
                rintro _ w24 ⟨rfl, hT25⟩
                have hT0 := hT0.t0 hT25
                have hB4 := hB4.tch0 hT25
                refine seg4 (ρ' := upd (upd (upd (upd (upd (upd (upd (upd (upd (upd (upd (upd (updL ρ [(0, .pointer none), (1, .agg #[.int .i64 k, .int .i64 wd, .int .i64 a, .int .i64 b, .int .i64 c, .int .u64 x]), (3, .pointer (some ⟨w.heap.size, 0, none⟩)), (4, .int .i64 0), (5, .int .i64 0), (7, .int .i64 k), (8, .bool (k == 0)), (18, .bool (k == 1)), (28, .bool (k == 2)), (38, .bool (k == 3)), (50, .bool (k == 4)), (62, .bool (k == 5))]) 75 (.bool (k == 6))) 74 (.bool (k == 6))) 76 (.pointer none)) 77 (.pointer (some ⟨w.heap.size, 2, none⟩))) 78 (.int .i64 a)) 79 (.pointer (some ⟨w.heap.size, 3, none⟩))) 80 (.int .i64 b)) 81 (.tuple #[.int .i64 0, .int .i64 8])) 82 (.int .i64 0)) 83 (.int .i64 8)) 4 (.int .i64 0)) 5 (.int .i64 8)) (by kernel_rfl) ?_
                refine op_nil ?_
                refine W_ret ?_
                exact ⟨_, Res_of (v := .tuple #[.int .i64 0, .int .i64 8]) (by kernel_rfl), ⟨rfl, hT0⟩⟩
              · replace hc23 : k ≠ 6 := (ne_of_beq_false hc23)
                refine W_skip ?_
                refine W_seq ?_
                refine W_region (by kernel_rfl) ?_
                refine seg2 (ρ' := upd (upd (upd (upd (updL ρ [(0, .pointer none), (1, .agg #[.int .i64 k, .int .i64 wd, .int .i64 a, .int .i64 b, .int .i64 c, .int .u64 x]), (3, .pointer (some ⟨w.heap.size, 0, none⟩)), (4, .int .i64 0), (5, .int .i64 0), (7, .int .i64 k), (8, .bool (k == 0)), (18, .bool (k == 1)), (28, .bool (k == 2)), (38, .bool (k == 3)), (50, .bool (k == 4)), (62, .bool (k == 5))]) 75 (.bool (k == 6))) 74 (.bool (k == 6))) 84 (.pointer none)) 85 (.pointer (some ⟨w.heap.size, 2, none⟩))) (by kernel_rfl) ?_
                refine st (by rfl) (S_val (v := .int .i64 a) (R_load (v := .int .i64 a) (by kernel_rfl) (by kernel_rfl) ((hB4.cell 2).trans rfl)) ?_)
                refine seg1 (ρ' := upd (upd (upd (upd (upd (upd (updL ρ [(0, .pointer none), (1, .agg #[.int .i64 k, .int .i64 wd, .int .i64 a, .int .i64 b, .int .i64 c, .int .u64 x]), (3, .pointer (some ⟨w.heap.size, 0, none⟩)), (4, .int .i64 0), (5, .int .i64 0), (7, .int .i64 k), (8, .bool (k == 0)), (18, .bool (k == 1)), (28, .bool (k == 2)), (38, .bool (k == 3)), (50, .bool (k == 4)), (62, .bool (k == 5))]) 75 (.bool (k == 6))) 74 (.bool (k == 6))) 84 (.pointer none)) 85 (.pointer (some ⟨w.heap.size, 2, none⟩))) 86 (.int .i64 a)) 87 (.pointer (some ⟨w.heap.size, 1, none⟩))) (by kernel_rfl) ?_
                refine st (by rfl) (S_val (v := .int .i64 wd) (R_load (v := .int .i64 wd) (by kernel_rfl) (by kernel_rfl) ((hB4.cell 1).trans rfl)) ?_)
                refine seg1 (ρ' := upd (upd (upd (upd (upd (upd (upd (upd (updL ρ [(0, .pointer none), (1, .agg #[.int .i64 k, .int .i64 wd, .int .i64 a, .int .i64 b, .int .i64 c, .int .u64 x]), (3, .pointer (some ⟨w.heap.size, 0, none⟩)), (4, .int .i64 0), (5, .int .i64 0), (7, .int .i64 k), (8, .bool (k == 0)), (18, .bool (k == 1)), (28, .bool (k == 2)), (38, .bool (k == 3)), (50, .bool (k == 4)), (62, .bool (k == 5))]) 75 (.bool (k == 6))) 74 (.bool (k == 6))) 84 (.pointer none)) 85 (.pointer (some ⟨w.heap.size, 2, none⟩))) 86 (.int .i64 a)) 87 (.pointer (some ⟨w.heap.size, 1, none⟩))) 88 (.int .i64 wd)) 89 (.pointer (some ⟨w.heap.size, 3, none⟩))) (by kernel_rfl) ?_
                refine st (by rfl) (S_val (v := .int .i64 b) (R_load (v := .int .i64 b) (by kernel_rfl) (by kernel_rfl) ((hB4.cell 3).trans rfl)) ?_)
                refine seg2 (ρ' := upd (upd (upd (upd (upd (upd (upd (upd (upd (upd (upd (updL ρ [(0, .pointer none), (1, .agg #[.int .i64 k, .int .i64 wd, .int .i64 a, .int .i64 b, .int .i64 c, .int .u64 x]), (3, .pointer (some ⟨w.heap.size, 0, none⟩)), (4, .int .i64 0), (5, .int .i64 0), (7, .int .i64 k), (8, .bool (k == 0)), (18, .bool (k == 1)), (28, .bool (k == 2)), (38, .bool (k == 3)), (50, .bool (k == 4)), (62, .bool (k == 5))]) 75 (.bool (k == 6))) 74 (.bool (k == 6))) 84 (.pointer none)) 85 (.pointer (some ⟨w.heap.size, 2, none⟩))) 86 (.int .i64 a)) 87 (.pointer (some ⟨w.heap.size, 1, none⟩))) 88 (.int .i64 wd)) 89 (.pointer (some ⟨w.heap.size, 3, none⟩))) 90 (.int .i64 b)) 91 (.int .i64 (b.tmod 2))) 92 (.bool ((b.tmod 2) != 0))) (by kernel_rfl) ?_
                refine st (by rfl) (S_call (args := [.pointer none, .int .i64 a, .int .i64 wd, .bool ((b.tmod 2) != 0)]) (by kernel_rfl) (exd_nil a wd ((b.tmod 2) != 0) _) ?_)
                rintro _ w26 ⟨rfl, hT27⟩
                have hT0 := hT0.t0 hT27
                have hB4 := hB4.tch0 hT27
                refine seg4 (ρ' := upd (upd (upd (upd (upd (upd (upd (upd (upd (upd (upd (upd (upd (upd (upd (upd (updL ρ [(0, .pointer none), (1, .agg #[.int .i64 k, .int .i64 wd, .int .i64 a, .int .i64 b, .int .i64 c, .int .u64 x]), (3, .pointer (some ⟨w.heap.size, 0, none⟩)), (4, .int .i64 0), (5, .int .i64 0), (7, .int .i64 k), (8, .bool (k == 0)), (18, .bool (k == 1)), (28, .bool (k == 2)), (38, .bool (k == 3)), (50, .bool (k == 4)), (62, .bool (k == 5))]) 75 (.bool (k == 6))) 74 (.bool (k == 6))) 84 (.pointer none)) 85 (.pointer (some ⟨w.heap.size, 2, none⟩))) 86 (.int .i64 a)) 87 (.pointer (some ⟨w.heap.size, 1, none⟩))) 88 (.int .i64 wd)) 89 (.pointer (some ⟨w.heap.size, 3, none⟩))) 90 (.int .i64 b)) 91 (.int .i64 (b.tmod 2))) 92 (.bool ((b.tmod 2) != 0))) 93 (.tuple #[.int .i64 0, .int .i64 8])) 94 (.int .i64 0)) 95 (.int .i64 8)) 4 (.int .i64 0)) 5 (.int .i64 8)) (by kernel_rfl) ?_
                refine op_nil ?_
                refine W_ret ?_
                exact ⟨_, Res_of (v := .tuple #[.int .i64 0, .int .i64 8]) (by kernel_rfl), ⟨rfl, hT0⟩⟩

end Go.Proofs.YtlbadnpgmkobdaaV
