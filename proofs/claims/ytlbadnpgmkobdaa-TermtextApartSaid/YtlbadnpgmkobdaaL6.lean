/- Walks of functions of the program and of the document's texts. The conditions stand with each theorem. -/
import Derived.Test.YtlbadnpgmkobdaaJTterm4x1
import Derived.Test.YtlbadnpgmkobdaaJTterm4x1
import Derived.Test.YtlbadnpgmkobdaaProg
import Derived.Test.YtlbadnpgmkobdaaJTterm4x7
set_option linter.unusedVariables false
set_option linter.unusedSimpArgs false
namespace Go.Proofs.YtlbadnpgmkobdaaV
open Go Go.RowKit Go.Proofs

theorem BW.cell0 {G : Nat → Prop} {w : World} {q p : Nat} {t : Tx} (h : BW G w q p t) : w.cell? ⟨q, 0, none⟩ = some (.pointer (some ⟨p, 0, none⟩)) := by
 obtain ⟨_, _, _, _, h, _⟩ := h
 exact (h.cell 0).trans rfl
def TermOK (F : Nat → Prop) (p : Nat) (most : Int) (N : List Nd) (W : Value → Value → Prop) (q i : Nat) : Prop := ∀ (G : Nat → Prop) (t : Tx) (w : World), TLow F w p most N W → BW G w q p t → (∀ b, G b → ¬ F b) → t.length ≤ 4096 →
  Ret Try.prog 45 [.pointer (some ⟨q, 0, none⟩), .int .i64 ((i : Nat) : Int)] w fun v w' => v = errV (decide (t.length + (txt N i).length ≤ 4096)) ∧ ∃ G' t', BW G' w' q p t' ∧ Mv G G' w w' ∧ t'.length ≤ 4096 ∧ (t.length + (txt N i).length ≤ 4096 → t' = t ++ txt N i)
section
variable {N : List Nd} {i : Nat} {n : Nd} (hni : nth N i = n) (hn : NdW N i n) (h1 : ¬ nO n = 20) (h2 : ¬ nO n = 21)
include hni hn h1 h2
theorem txt_k1 {a : Nat} (hk : kidsN n = [a]) : txt N i = hdT n ++ [32] ++ txt N a ++ [41] := by
 rw [preT_all hni hn h1 h2]; unfold preT; rw [List.take_length, hk]; simp
theorem txt_k2 {a b : Nat} (hk : kidsN n = [a, b]) : txt N i = hdT n ++ [32] ++ txt N a ++ [32] ++ txt N b ++ [41] := by
 rw [preT_all hni hn h1 h2]; unfold preT; rw [List.take_length, hk]; simp
theorem txt_k3 {a b c : Nat} (hk : kidsN n = [a, b, c]) : txt N i = hdT n ++ [32] ++ txt N a ++ [32] ++ txt N b ++ [32] ++ txt N c ++ [41] := by
 rw [preT_all hni hn h1 h2]; unfold preT; rw [List.take_length, hk]; simp
end
theorem err_eq {A B : Prop} [Decidable A] [Decidable B] (h : A ↔ B) : errV (decide A) = errV (decide B) := congrArg errV (decide_eq_decide.2 h)

set_option maxRecDepth 100000 in
set_option maxHeartbeats 4000000 in
theorem term_step (F : Nat → Prop) (p : Nat) (most : Int) (N : List Nd) (W : Value → Value → Prop) (q i : Nat) (n : Nd) (hN : N.length ≤ 65536) (hi : i < N.length) (hni : nth N i = n) (hn : NdW N i n) (hw : 1 ≤ nW n ∧ nW n ≤ 64) (hf : nwf n) (IH : ∀ k, k < i → TermOK F p most N W q k) (G : Nat → Prop) (t : Tx) (w : World) (hL : TLow F w p most N W) (hB : BW G w q p t) (hGF : ∀ b, G b → ¬ F b) (hle : t.length ≤ 4096) : Ret Try.prog 45 [.pointer (some ⟨q, 0, none⟩), .int .i64 ((i : Nat) : Int)] w fun v w' => v = errV (decide (t.length + (txt N i).length ≤ 4096)) ∧ ∃ G' t', BW G' w' q p t' ∧ Mv G G' w w' ∧ t'.length ≤ 4096 ∧ (t.length + (txt N i).length ≤ 4096 → t' = t ++ txt N i) := by
 have hk3 := kids_len n
 obtain ⟨_, _, fA, fB, _, hV⟩ := hf
 unfold b64 at fA fB
 have hMv := Mv.refl G w
 refine enter Try.func45 rfl rfl ?_
 refine zQ ?_
 refine zS [(4, .nilIface)] ?_
 refine op_nil ?_
 refine zQ ?_
 refine zS [(15, .pointer (some ⟨q, 0, none⟩)), (16, .pointer (some ⟨q, 0, none⟩)), (17, .pointer (some ⟨q, 0, none⟩))] ?_
 refine zL (.pointer (some ⟨p, 0, none⟩)) (hB.cell0) ?_
 refine zS [(19, .int .i64 ((i : Nat) : Int))] ?_
 refine st (by rfl) (S_call (args := [.pointer (some ⟨p, 0, none⟩), .int .i64 ((i : Nat) : Int)]) (by kernel_rfl) ((by have q := node_at F p most N W i w hL hN hi; rw [hni] at q; exact q)) ?_)
 rintro _ w1 ⟨rfl, hT2⟩
 have hL := hL.tch0 hT2
 have hB := hB.tch0 hT2
 have hMv := hMv.then0 hT2
 refine zS [(14, .tuple #[.agg #[.int .i64 (nO n), .int .i64 (nW n), .int .i64 (nA n), .int .i64 (nB n), .int .i64 (nC n), .int .u64 (nV n)], .bool true]), (21, .agg #[.int .i64 (nO n), .int .i64 (nW n), .int .i64 (nA n), .int .i64 (nB n), .int .i64 (nC n), .int .u64 (nV n)]), (22, .bool true)] ?_
 have hltF := hL.lt
 have hltG := hB.lt
 have hz7 := hMv.1.size
 refine st (by rfl) (S_new (v := .pointer (some ⟨w1.heap.size, 0, none⟩)) (ob := .cells #[.int .i64 0, .int .i64 0, .int .i64 0, .int .i64 0, .int .i64 0, .int .u64 0] 32) (by kernel_rfl) fun w3 hT4 hs5 hB6 => ?_)
 replace hB6 : Blk w3 (w1.heap.size) 32 [.int .i64 0, .int .i64 0, .int .i64 0, .int .i64 0, .int .i64 0, .int .u64 0] := hB6
 have hL := hL.tch0 hT4
 have hB := hB.tch0 hT4
 have hMv := hMv.then0 hT4
 have nhL_hB6 : ¬ F (w1.heap.size) := fun e => by have := hltF _ e; omega
 have nhB_hB6 : ¬ G (w1.heap.size) := fun e => by have := hltG _ e; omega
 refine st (by rfl) (S_storeA (b := w1.heap.size) (j := 0) (cs := [.int .i64 (nO n), .int .i64 (nW n), .int .i64 (nA n), .int .i64 (nB n), .int .i64 (nC n), .int .u64 (nV n)]) (by kernel_rfl) (by kernel_rfl) (by kernel_rfl) (by simp [oneV]) hB6 (by simp) fun w8 hT9 hs10 hB6' => ?_)
 have hL := hL.tchS hT9 (fun c e q => by cases e; exact nhL_hB6 q)
 have hB := hB.tchS hT9 (fun c e q => by cases e; exact nhB_hB6 q)
 have hMv := hMv.newst hT9 (by omega)
 replace hB6 : Blk w8 w1.heap.size 32 [.int .i64 (nO n), .int .i64 (nW n), .int .i64 (nA n), .int .i64 (nB n), .int .i64 (nC n), .int .u64 (nV n)] := hB6'
 refine zS [(6, .bool true)] ?_
 refine op_nil ?_
 refine W_seq ?_
 refine W_seq ?_
 refine zF [(0, .pointer (some ⟨q, 0, none⟩)), (1, .int .i64 ((i : Nat) : Int)), (4, .nilIface), (5, .pointer (some ⟨w1.heap.size, 0, none⟩))] fun ρ => ?_
 refine zR ?_
 refine zS [(23, .pointer (some ⟨w1.heap.size, 0, none⟩))] ?_
 refine zL (.int .i64 (nO n)) ((hB6.cell 0).trans rfl) ?_
 refine op_nil ?_
 refine W_block ?_
 refine zQ ?_
 refine zS [(26, .bool ((nO n) == 20)), (25, .bool ((nO n) == 20))] ?_
 refine zO ((nO n) == 20) (fun hc11 => ?_) (fun hc11 => ?_)
 ·
  replace hc11 : nO n = 20 := (eq_of_beq hc11)
  refine W_seq ?_
  refine W_draw (fun w' => Blk w' (w1.heap.size) 32 [.int .i64 (nO n), .int .i64 (nW n), .int .i64 (nA n), .int .i64 (nB n), .int .i64 (nC n), .int .u64 (nV n)]) (by kernel_rfl) (by kernel_rfl) (by kernel_rfl) fun w12 hT13 hh14 => ?_
  have hL := hL.tch0 hT13
  have hB := hB.tch0 hT13
  have hMv := hMv.then0 hT13
  have hB6 := hB6.tch0 hT13
  refine zK [0, 1, 5] #[true, true, false, false, false, true, false, false, false, false, false] [(27, .pointer (some ⟨q, 0, none⟩)), (28, .pointer (some ⟨w1.heap.size, 5, none⟩)), (32, .pointer (some ⟨w1.heap.size, 1, none⟩))] hB6 ?_
  refine zV 2 rfl (.int .u64 (nV n)) (fun _ hB6 => R_load (v := .int .u64 (nV n)) (by kernel_rfl) (by kernel_rfl) ((hB6.cell 5).trans rfl)) hB6 ?_
  refine zV 6 rfl (.int .i64 (nW n)) (fun _ hB6 => R_load (v := .int .i64 (nW n)) (by kernel_rfl) (by kernel_rfl) ((hB6.cell 1).trans rfl)) hB6 ?_
  refine zD 3 rfl (S_call (args := [.int .u64 (nV n)]) (by kernel_rfl) (digitsI_ok (nV n) _ hV) ?_)
  rintro _ w15 ⟨rfl, hT16⟩
  have hL := hL.tch0 hT16
  have hB := hB.tch0 hT16
  have hMv := hMv.then0 hT16
  have hB6 := hB6.tch0 hT16
  refine ⟨hB6, ?_⟩
  refine zV 4 rfl (.string (bsT ((dgs (nV n).toNat) ++ ([58])))) (fun _ hB6 => R_sadd (a := dgs (nV n).toNat) (b := [58]) (by kernel_rfl) (by kernel_rfl) (by first | omega | (simp only [List.length_append, List.length_cons, List.length_nil]; have := wordT_len (nO n).toNat; have := @dgs_20 (nB n).toNat; have := @dgs_20 (nW n).toNat; have := @dgs_20 (nA n).toNat; have := @dgs_20 (nV n).toNat; unfold u64 at hV; omega))) hB6 ?_
  refine zD 7 rfl (S_call (args := [.int .i64 (nW n)]) (by kernel_rfl) (numberI_ok (nW n) _ (by omega) (by omega)) ?_)
  rintro _ w17 ⟨rfl, hT18⟩
  have hL := hL.tch0 hT18
  have hB := hB.tch0 hT18
  have hMv := hMv.then0 hT18
  have hB6 := hB6.tch0 hT18
  refine ⟨hB6, ?_⟩
  refine zV 8 rfl (.string (bsT (((dgs (nV n).toNat) ++ ([58])) ++ (dgs (nW n).toNat)))) (fun _ hB6 => R_sadd (a := (dgs (nV n).toNat) ++ ([58])) (b := dgs (nW n).toNat) (by kernel_rfl) (by kernel_rfl) (by first | omega | (simp only [List.length_append, List.length_cons, List.length_nil]; have := wordT_len (nO n).toNat; have := @dgs_20 (nB n).toNat; have := @dgs_20 (nW n).toNat; have := @dgs_20 (nA n).toNat; have := @dgs_20 (nV n).toNat; unfold u64 at hV; omega))) hB6 ?_
  have hzl : (((dgs (nV n).toNat) ++ ([58])) ++ (dgs (nW n).toNat)).length ≤ 1000000 := by first | omega | (simp only [List.length_append, List.length_cons, List.length_nil]; have := wordT_len (nO n).toNat; have := @dgs_20 (nB n).toNat; have := @dgs_20 (nW n).toNat; have := @dgs_20 (nA n).toNat; have := @dgs_20 (nV n).toNat; unfold u64 at hV; omega)
  have hltL := hL.lt
  have lt_hB6 := hB6.lt
  refine zD 9 rfl (S_call (args := [.pointer (some ⟨q, 0, none⟩), .string (bsT (((dgs (nV n).toNat) ++ ([58])) ++ (dgs (nW n).toNat)))]) (by kernel_rfl) (add_ok G q p t (((dgs (nV n).toNat) ++ ([58])) ++ (dgs (nW n).toNat)) _ hB hle (by omega)) ?_)
  rintro _ w19 ⟨rfl, G20, t20, hB, hM20, hle, he20⟩
  have hL := hL.tchS hM20.1 hGF
  have hB6 := hB6.tch hM20.1 (fun e => nhB_hB6 e)
  have hMv := hMv.trans hM20
  have hGF : ∀ b, G20 b → ¬ F b := fun b hb => (hM20.2 b hb).elim (hGF b) (fun q hf => by have := hltL b hf; omega)
  have nhB_hB6 : ¬ G20 (w1.heap.size) := fun e => (hM20.2 _ e).elim nhB_hB6 (fun q => by omega)
  refine ⟨hB6, ?_⟩
  refine zK [10] #[true, true, true, true, true, true, true, true, true, true, true] [(4, errV (decide (t.length + (((dgs (nV n).toNat) ++ ([58])) ++ (dgs (nW n).toNat)).length ≤ 4096)))] hB6 ?_
  refine d_done (by kernel_rfl) ?_
  refine W_ret ?_
  refine ⟨_, Res_of (v := errV (decide (t.length + (((dgs (nV n).toNat) ++ ([58])) ++ (dgs (nW n).toNat)).length ≤ 4096))) (by kernel_rfl), ?_⟩
  first | rw [txt20 hni (by omega)] | rw [txt21 hni (by omega)]
  exact ⟨rfl, _, _, hB, hMv, hle, he20⟩
 ·
  replace hc11 : nO n ≠ 20 := (ne_of_beq_false hc11)
  refine zQ ?_
  refine zS [(38, .bool ((nO n) == 21)), (37, .bool ((nO n) == 21))] ?_
  refine zO ((nO n) == 21) (fun hc21 => ?_) (fun hc21 => ?_)
  ·
   replace hc21 : nO n = 21 := (eq_of_beq hc21)
   refine W_seq ?_
   have hA0 := hn.varA (by omega)
   refine W_draw (fun w' => Blk w' (w1.heap.size) 32 [.int .i64 (nO n), .int .i64 (nW n), .int .i64 (nA n), .int .i64 (nB n), .int .i64 (nC n), .int .u64 (nV n)]) (by kernel_rfl) (by kernel_rfl) (by kernel_rfl) fun w22 hT23 hh24 => ?_
   have hL := hL.tch0 hT23
   have hB := hB.tch0 hT23
   have hMv := hMv.then0 hT23
   have hB6 := hB6.tch0 hT23
   refine zK [0, 1, 6] #[true, true, false, false, false, false, true, false, false, false, false, false] [(39, .pointer (some ⟨q, 0, none⟩)), (40, .pointer (some ⟨w1.heap.size, 2, none⟩)), (45, .pointer (some ⟨w1.heap.size, 1, none⟩))] hB6 ?_
   refine zV 2 rfl (.int .i64 (nA n)) (fun _ hB6 => R_load (v := .int .i64 (nA n)) (by kernel_rfl) (by kernel_rfl) ((hB6.cell 2).trans rfl)) hB6 ?_
   refine zV 7 rfl (.int .i64 (nW n)) (fun _ hB6 => R_load (v := .int .i64 (nW n)) (by kernel_rfl) (by kernel_rfl) ((hB6.cell 1).trans rfl)) hB6 ?_
   refine zD 3 rfl (S_call (args := [.int .i64 (nA n)]) (by kernel_rfl) (numberI_ok (nA n) _ (by omega) (by omega)) ?_)
   rintro _ w25 ⟨rfl, hT26⟩
   have hL := hL.tch0 hT26
   have hB := hB.tch0 hT26
   have hMv := hMv.then0 hT26
   have hB6 := hB6.tch0 hT26
   refine ⟨hB6, ?_⟩
   refine zV 4 rfl (.string (bsT (([120]) ++ (dgs (nA n).toNat)))) (fun _ hB6 => R_sadd (a := [120]) (b := dgs (nA n).toNat) (by kernel_rfl) (by kernel_rfl) (by first | omega | (simp only [List.length_append, List.length_cons, List.length_nil]; have := wordT_len (nO n).toNat; have := @dgs_20 (nB n).toNat; have := @dgs_20 (nW n).toNat; have := @dgs_20 (nA n).toNat; have := @dgs_20 (nV n).toNat; unfold u64 at hV; omega))) hB6 ?_
   refine zV 5 rfl (.string (bsT ((([120]) ++ (dgs (nA n).toNat)) ++ ([58])))) (fun _ hB6 => R_sadd (a := ([120]) ++ (dgs (nA n).toNat)) (b := [58]) (by kernel_rfl) (by kernel_rfl) (by first | omega | (simp only [List.length_append, List.length_cons, List.length_nil]; have := wordT_len (nO n).toNat; have := @dgs_20 (nB n).toNat; have := @dgs_20 (nW n).toNat; have := @dgs_20 (nA n).toNat; have := @dgs_20 (nV n).toNat; unfold u64 at hV; omega))) hB6 ?_
   refine zD 8 rfl (S_call (args := [.int .i64 (nW n)]) (by kernel_rfl) (numberI_ok (nW n) _ (by omega) (by omega)) ?_)
   rintro _ w27 ⟨rfl, hT28⟩
   have hL := hL.tch0 hT28
   have hB := hB.tch0 hT28
   have hMv := hMv.then0 hT28
   have hB6 := hB6.tch0 hT28
   refine ⟨hB6, ?_⟩
   refine zV 9 rfl (.string (bsT (((([120]) ++ (dgs (nA n).toNat)) ++ ([58])) ++ (dgs (nW n).toNat)))) (fun _ hB6 => R_sadd (a := (([120]) ++ (dgs (nA n).toNat)) ++ ([58])) (b := dgs (nW n).toNat) (by kernel_rfl) (by kernel_rfl) (by first | omega | (simp only [List.length_append, List.length_cons, List.length_nil]; have := wordT_len (nO n).toNat; have := @dgs_20 (nB n).toNat; have := @dgs_20 (nW n).toNat; have := @dgs_20 (nA n).toNat; have := @dgs_20 (nV n).toNat; unfold u64 at hV; omega))) hB6 ?_
   have hzl : (((([120]) ++ (dgs (nA n).toNat)) ++ ([58])) ++ (dgs (nW n).toNat)).length ≤ 1000000 := by first | omega | (simp only [List.length_append, List.length_cons, List.length_nil]; have := wordT_len (nO n).toNat; have := @dgs_20 (nB n).toNat; have := @dgs_20 (nW n).toNat; have := @dgs_20 (nA n).toNat; have := @dgs_20 (nV n).toNat; unfold u64 at hV; omega)
   have hltL := hL.lt
   have lt_hB6 := hB6.lt
   refine zD 10 rfl (S_call (args := [.pointer (some ⟨q, 0, none⟩), .string (bsT (((([120]) ++ (dgs (nA n).toNat)) ++ ([58])) ++ (dgs (nW n).toNat)))]) (by kernel_rfl) (add_ok G q p t (((([120]) ++ (dgs (nA n).toNat)) ++ ([58])) ++ (dgs (nW n).toNat)) _ hB hle (by omega)) ?_)
   rintro _ w29 ⟨rfl, G30, t30, hB, hM30, hle, he30⟩
   have hL := hL.tchS hM30.1 hGF
   have hB6 := hB6.tch hM30.1 (fun e => nhB_hB6 e)
   have hMv := hMv.trans hM30
   have hGF : ∀ b, G30 b → ¬ F b := fun b hb => (hM30.2 b hb).elim (hGF b) (fun q hf => by have := hltL b hf; omega)
   have nhB_hB6 : ¬ G30 (w1.heap.size) := fun e => (hM30.2 _ e).elim nhB_hB6 (fun q => by omega)
   refine ⟨hB6, ?_⟩
   refine zK [11] #[true, true, true, true, true, true, true, true, true, true, true, true] [(4, errV (decide (t.length + (((([120]) ++ (dgs (nA n).toNat)) ++ ([58])) ++ (dgs (nW n).toNat)).length ≤ 4096)))] hB6 ?_
   refine d_done (by kernel_rfl) ?_
   refine W_ret ?_
   refine ⟨_, Res_of (v := errV (decide (t.length + (((([120]) ++ (dgs (nA n).toNat)) ++ ([58])) ++ (dgs (nW n).toNat)).length ≤ 4096))) (by kernel_rfl), ?_⟩
   first | rw [txt20 hni (by omega)] | rw [txt21 hni (by omega)]
   exact ⟨rfl, _, _, hB, hMv, hle, he30⟩
  ·
   replace hc21 : nO n ≠ 21 := (ne_of_beq_false hc21)
   refine W_skip ?_
   refine zQ ?_
   refine zS [(50, .pointer (some ⟨w1.heap.size, 0, none⟩))] ?_
   refine zL (.int .i64 (nO n)) ((hB6.cell 0).trans rfl) ?_
   have hO1 := (hn.pos (by omega) (by omega)).2.2.2.1
   refine st (by rfl) (S_call (args := [.int .i64 (nO n)]) (by kernel_rfl) ((by have q := word_ok (nO n) w8; rw [wdF_at (n := (nO n).toNat) (by omega)] at q; exact q)) ?_)
   rintro _ w31 ⟨rfl, hT32⟩
   have hL := hL.tch0 hT32
   have hB := hB.tch0 hT32
   have hMv := hMv.then0 hT32
   have hB6 := hB6.tch0 hT32
   refine stv (v := .string (bsT (([40]) ++ (wordT (nO n).toNat)))) (by rfl) (R_sadd (a := [40]) (b := wordT (nO n).toNat) (by kernel_rfl) (by kernel_rfl) (by first | omega | (simp only [List.length_append, List.length_cons, List.length_nil]; have := wordT_len (nO n).toNat; have := @dgs_20 (nB n).toNat; have := @dgs_20 (nW n).toNat; have := @dgs_20 (nA n).toNat; have := @dgs_20 (nV n).toNat; unfold u64 at hV; omega))) ?_
   refine zS [(7, .string (bsT (([40]) ++ (wordT (nO n).toNat))))] ?_
   refine op_nil ?_
   refine W_seq ?_
   refine zF [(0, .pointer (some ⟨q, 0, none⟩)), (1, .int .i64 ((i : Nat) : Int)), (4, .nilIface), (5, .pointer (some ⟨w1.heap.size, 0, none⟩)), (7, .string (bsT (([40]) ++ (wordT (nO n).toNat)))), (24, .int .i64 (nO n)), (25, .bool ((nO n) == 20)), (37, .bool ((nO n) == 21))] fun ρ => ?_
   refine zR ?_
   refine zS [(54, .pointer (some ⟨w1.heap.size, 2, none⟩))] ?_
   refine zL (.int .i64 (nA n)) ((hB6.cell 2).trans rfl) ?_
   have hltF := hL.lt
   have hltG := hB.lt
   have hz37 := hMv.1.size
   have lt38 := hB6.lt
   have l39 := hB6.lt
   refine st (by rfl) (S_new (v := .slice (some ⟨w31.heap.size, 0, none⟩) 1 1) (ob := .cells #[.int .i64 (nA n)] 3) (by kernel_rfl) fun w33 hT34 hs35 hB36 => ?_)
   replace hB36 : Blk w33 (w31.heap.size) 3 [.int .i64 (nA n)] := hB36
   have hL := hL.tch0 hT34
   have hB := hB.tch0 hT34
   have hMv := hMv.then0 hT34
   have hB6 := hB6.tch0 hT34
   have nhL_hB36 : ¬ F (w31.heap.size) := fun e => by have := hltF _ e; omega
   have nhB_hB36 : ¬ G (w31.heap.size) := fun e => by have := hltG _ e; omega
   refine zS [(8, .slice (some ⟨w31.heap.size, 0, none⟩) 1 1)] ?_
   refine op_nil ?_
   refine W_seq ?_
   refine W_block ?_
   refine zQ ?_
   refine zS [(58, .pointer (some ⟨w1.heap.size, 0, none⟩))] ?_
   refine zL (.int .i64 (nO n)) ((hB6.cell 0).trans rfl) ?_
   refine zS [(60, .bool ((nO n) == 23)), (57, .bool ((nO n) == 23))] ?_
   refine zO ((nO n) == 23) (fun hc40 => ?_) (fun hc40 => ?_)
   ·
    replace hc40 : nO n = 23 := (eq_of_beq hc40)
    refine zF [(0, .pointer (some ⟨q, 0, none⟩)), (1, .int .i64 ((i : Nat) : Int)), (4, .nilIface), (5, .pointer (some ⟨w1.heap.size, 0, none⟩)), (7, .string (bsT (([40]) ++ (wordT (nO n).toNat)))), (8, .slice (some ⟨w31.heap.size, 0, none⟩) 1 1), (24, .int .i64 (nO n)), (25, .bool ((nO n) == 20)), (37, .bool ((nO n) == 21)), (57, .bool ((nO n) == 23))] fun ρ => ?_
    have hB0 := (hn.pos (by omega) (by omega)).2.1 (by omega)
    refine W_draw (fun w' => Blk w' (w1.heap.size) 32 [.int .i64 (nO n), .int .i64 (nW n), .int .i64 (nA n), .int .i64 (nB n), .int .i64 (nC n), .int .u64 (nV n)] ∧ Blk w' (w31.heap.size) 3 [.int .i64 (nA n)]) (by kernel_rfl) (by kernel_rfl) (by kernel_rfl) fun w41 hT42 hh43 => ?_
    have hL := hL.tch0 hT42
    have hB := hB.tch0 hT42
    have hMv := hMv.then0 hT42
    have hB6 := hB6.tch0 hT42
    have hB36 := hB36.tch0 hT42
    refine zK [0, 1, 6] #[true, true, false, false, false, false, true, false, false, false, false, false] [(61, .string (bsT (([40]) ++ (wordT (nO n).toNat)))), (62, .pointer (some ⟨w1.heap.size, 3, none⟩)), (67, .pointer (some ⟨w1.heap.size, 1, none⟩))] ⟨hB6, hB36⟩ ?_
    refine zV 2 rfl (.int .i64 (nB n)) (fun _ ⟨hB6, hB36⟩ => R_load (v := .int .i64 (nB n)) (by kernel_rfl) (by kernel_rfl) ((hB6.cell 3).trans rfl)) ⟨hB6, hB36⟩ ?_
    refine zV 7 rfl (.int .i64 (nW n)) (fun _ ⟨hB6, hB36⟩ => R_load (v := .int .i64 (nW n)) (by kernel_rfl) (by kernel_rfl) ((hB6.cell 1).trans rfl)) ⟨hB6, hB36⟩ ?_
    refine zD 3 rfl (S_call (args := [.int .i64 (nB n)]) (by kernel_rfl) (numberI_ok (nB n) _ (by omega) (by omega)) ?_)
    rintro _ w44 ⟨rfl, hT45⟩
    have hL := hL.tch0 hT45
    have hB := hB.tch0 hT45
    have hMv := hMv.then0 hT45
    have hB6 := hB6.tch0 hT45
    have hB36 := hB36.tch0 hT45
    refine ⟨⟨hB6, hB36⟩, ?_⟩
    refine zV 4 rfl (.string (bsT (([32]) ++ (dgs (nB n).toNat)))) (fun _ ⟨hB6, hB36⟩ => R_sadd (a := [32]) (b := dgs (nB n).toNat) (by kernel_rfl) (by kernel_rfl) (by first | omega | (simp only [List.length_append, List.length_cons, List.length_nil]; have := wordT_len (nO n).toNat; have := @dgs_20 (nB n).toNat; have := @dgs_20 (nW n).toNat; have := @dgs_20 (nA n).toNat; have := @dgs_20 (nV n).toNat; unfold u64 at hV; omega))) ⟨hB6, hB36⟩ ?_
    refine zV 5 rfl (.string (bsT ((([32]) ++ (dgs (nB n).toNat)) ++ ([32])))) (fun _ ⟨hB6, hB36⟩ => R_sadd (a := ([32]) ++ (dgs (nB n).toNat)) (b := [32]) (by kernel_rfl) (by kernel_rfl) (by first | omega | (simp only [List.length_append, List.length_cons, List.length_nil]; have := wordT_len (nO n).toNat; have := @dgs_20 (nB n).toNat; have := @dgs_20 (nW n).toNat; have := @dgs_20 (nA n).toNat; have := @dgs_20 (nV n).toNat; unfold u64 at hV; omega))) ⟨hB6, hB36⟩ ?_
    refine zD 8 rfl (S_call (args := [.int .i64 (nW n)]) (by kernel_rfl) (numberI_ok (nW n) _ (by omega) (by omega)) ?_)
    rintro _ w46 ⟨rfl, hT47⟩
    have hL := hL.tch0 hT47
    have hB := hB.tch0 hT47
    have hMv := hMv.then0 hT47
    have hB6 := hB6.tch0 hT47
    have hB36 := hB36.tch0 hT47
    refine ⟨⟨hB6, hB36⟩, ?_⟩
    refine zV 9 rfl (.string (bsT (((([32]) ++ (dgs (nB n).toNat)) ++ ([32])) ++ (dgs (nW n).toNat)))) (fun _ ⟨hB6, hB36⟩ => R_sadd (a := (([32]) ++ (dgs (nB n).toNat)) ++ ([32])) (b := dgs (nW n).toNat) (by kernel_rfl) (by kernel_rfl) (by first | omega | (simp only [List.length_append, List.length_cons, List.length_nil]; have := wordT_len (nO n).toNat; have := @dgs_20 (nB n).toNat; have := @dgs_20 (nW n).toNat; have := @dgs_20 (nA n).toNat; have := @dgs_20 (nV n).toNat; unfold u64 at hV; omega))) ⟨hB6, hB36⟩ ?_
    refine zV 10 rfl (.string (bsT ((([40]) ++ (wordT (nO n).toNat)) ++ (((([32]) ++ (dgs (nB n).toNat)) ++ ([32])) ++ (dgs (nW n).toNat))))) (fun _ ⟨hB6, hB36⟩ => R_sadd (a := ([40]) ++ (wordT (nO n).toNat)) (b := ((([32]) ++ (dgs (nB n).toNat)) ++ ([32])) ++ (dgs (nW n).toNat)) (by kernel_rfl) (by kernel_rfl) (by first | omega | (simp only [List.length_append, List.length_cons, List.length_nil]; have := wordT_len (nO n).toNat; have := @dgs_20 (nB n).toNat; have := @dgs_20 (nW n).toNat; have := @dgs_20 (nA n).toNat; have := @dgs_20 (nV n).toNat; unfold u64 at hV; omega))) ⟨hB6, hB36⟩ ?_
    refine zK [11] #[true, true, true, true, true, true, true, true, true, true, true, true] [(7, .string (bsT ((([40]) ++ (wordT (nO n).toNat)) ++ (((([32]) ++ (dgs (nB n).toNat)) ++ ([32])) ++ (dgs (nW n).toNat)))))] ⟨hB6, hB36⟩ ?_
    refine d_done (by kernel_rfl) ?_
    refine W_seq ?_
    refine W_seq ?_
    refine zF [(0, .pointer (some ⟨q, 0, none⟩)), (1, .int .i64 ((i : Nat) : Int)), (4, .nilIface), (5, .pointer (some ⟨w1.heap.size, 0, none⟩)), (7, .string (bsT ((([40]) ++ (wordT (nO n).toNat)) ++ (((([32]) ++ (dgs (nB n).toNat)) ++ ([32])) ++ (dgs (nW n).toNat))))), (8, .slice (some ⟨w31.heap.size, 0, none⟩) 1 1), (24, .int .i64 (nO n)), (25, .bool ((nO n) == 20)), (37, .bool ((nO n) == 21)), (57, .bool ((nO n) == 23))] fun ρ => ?_
    have hhd : (([40]) ++ (wordT (nO n).toNat)) ++ (((([32]) ++ (dgs (nB n).toNat)) ++ ([32])) ++ (dgs (nW n).toNat)) = hdT n := by unfold hdT; first | (rw [mid23 (by omega)] <;> simp only [List.append_assoc]) | (rw [mid25 (by omega)] <;> simp only [List.append_assoc]) | (rw [mid0 (by omega) (by omega)] <;> simp only [List.append_assoc, List.append_nil])
    have hhl := hd_len (fun e => (hn.pos (by omega) (by omega)).2.1 (by omega)) (by omega) hw
    have hHl : ((([40]) ++ (wordT (nO n).toNat)) ++ (((([32]) ++ (dgs (nB n).toNat)) ++ ([32])) ++ (dgs (nW n).toNat))).length = (hdT n).length := congrArg List.length hhd
    have hkids : kidsN n = [(nA n).toNat] := by unfold kidsN; first | (rw [if_neg (by omega), if_pos (by omega)]) | (rw [if_neg (by omega), if_neg (by omega), if_pos (by omega)]) | (rw [if_neg (by omega), if_neg (by omega), if_neg (by omega)])
    obtain ⟨hp1, hp2, hp3, _⟩ := hn.pos (by omega) (by omega)
    have hk48 := kids_lt hn (nA n).toNat (by rw [hkids]; simp)
    have htx := txt_k1 hni hn (by omega) (by omega) hkids
    have hlen := congrArg List.length htx
    simp only [List.length_append, List.length_cons, List.length_nil] at hlen
    refine zR ?_
    refine zS [(112, .pointer (some ⟨q, 0, none⟩)), (113, .string (bsT ((([40]) ++ (wordT (nO n).toNat)) ++ (((([32]) ++ (dgs (nB n).toNat)) ++ ([32])) ++ (dgs (nW n).toNat)))))] ?_
    have hltL := hL.lt
    have lt_hB6 := hB6.lt
    have lt_hB36 := hB36.lt
    refine zC (add_ok G q p t ((([40]) ++ (wordT (nO n).toNat)) ++ (((([32]) ++ (dgs (nB n).toNat)) ++ ([32])) ++ (dgs (nW n).toNat))) _ hB hle (by omega)) ?_
    rintro _ w49 ⟨rfl, G50, t50, hB, hM50, hle, he50⟩
    have hL := hL.tchS hM50.1 hGF
    have hB6 := hB6.tch hM50.1 (fun e => nhB_hB6 e)
    have hB36 := hB36.tch hM50.1 (fun e => nhB_hB36 e)
    have hMv := hMv.trans hM50
    have hGF : ∀ b, G50 b → ¬ F b := fun b hb => (hM50.2 b hb).elim (hGF b) (fun q hf => by have := hltL b hf; omega)
    have nhB_hB6 : ¬ G50 (w1.heap.size) := fun e => (hM50.2 _ e).elim nhB_hB6 (fun q => by omega)
    have nhB_hB36 : ¬ G50 (w31.heap.size) := fun e => (hM50.2 _ e).elim nhB_hB36 (fun q => by omega)
    refine zS [(9, errV (decide (t.length + ((([40]) ++ (wordT (nO n).toNat)) ++ (((([32]) ++ (dgs (nB n).toNat)) ++ ([32])) ++ (dgs (nW n).toNat))).length ≤ 4096)))] ?_
    refine op_nil ?_
    refine zQ ?_
    refine zS [(115, errV (decide (t.length + ((([40]) ++ (wordT (nO n).toNat)) ++ (((([32]) ++ (dgs (nB n).toNat)) ++ ([32])) ++ (dgs (nW n).toNat))).length ≤ 4096)))] ?_
    refine stv (v := .bool (!(decide (t.length + ((([40]) ++ (wordT (nO n).toNat)) ++ (((([32]) ++ (dgs (nB n).toNat)) ++ ([32])) ++ (dgs (nW n).toNat))).length ≤ 4096)))) (by rfl) (R_errNeq (by kernel_rfl)) ?_
    refine zO (!(decide (t.length + ((([40]) ++ (wordT (nO n).toNat)) ++ (((([32]) ++ (dgs (nB n).toNat)) ++ ([32])) ++ (dgs (nW n).toNat))).length ≤ 4096))) (fun hc51 => ?_) (fun hc51 => ?_)
    ·
     replace hc51 : 4096 < t.length + ((([40]) ++ (wordT (nO n).toNat)) ++ (((([32]) ++ (dgs (nB n).toNat)) ++ ([32])) ++ (dgs (nW n).toNat))).length := (Nat.not_le.1 (of_decide_eq_false (not_t hc51)))
     refine zQ ?_
     refine zS [(117, errV (decide (t.length + ((([40]) ++ (wordT (nO n).toNat)) ++ (((([32]) ++ (dgs (nB n).toNat)) ++ ([32])) ++ (dgs (nW n).toNat))).length ≤ 4096))), (4, errV (decide (t.length + ((([40]) ++ (wordT (nO n).toNat)) ++ (((([32]) ++ (dgs (nB n).toNat)) ++ ([32])) ++ (dgs (nW n).toNat))).length ≤ 4096)))] ?_
     refine op_nil ?_
     refine W_ret ?_
     exact ⟨_, Res_of (v := errV (decide (t.length + ((([40]) ++ (wordT (nO n).toNat)) ++ (((([32]) ++ (dgs (nB n).toNat)) ++ ([32])) ++ (dgs (nW n).toNat))).length ≤ 4096))) (by kernel_rfl), ⟨err_eq (by omega), _, _, hB, hMv, hle, fun h => by exfalso; omega⟩⟩
    ·
     replace hc51 : t.length + ((([40]) ++ (wordT (nO n).toNat)) ++ (((([32]) ++ (dgs (nB n).toNat)) ++ ([32])) ++ (dgs (nW n).toNat))).length ≤ 4096 := (of_decide_eq_true (not_f hc51))
     have e52 := he50 hc51
     have e52l : t50.length = _ := (congrArg List.length e52).trans (List.length_append)
     try simp only [List.length_cons, List.length_nil] at e52l
     refine W_skip ?_
     refine W_seq ?_
     refine zQ ?_
     refine zS [(118, .slice (some ⟨w31.heap.size, 0, none⟩) 1 1), (119, .int .i64 1), (120, .int .i64 0)] ?_
     refine op_nil ?_
     refine W_block ?_
     refine W_un 4 ?_
     refine Un_s ?_
     refine W_seq ?_
     refine zF [(0, .pointer (some ⟨q, 0, none⟩)), (1, .int .i64 ((i : Nat) : Int)), (4, .nilIface), (5, .pointer (some ⟨w1.heap.size, 0, none⟩)), (7, .string (bsT ((([40]) ++ (wordT (nO n).toNat)) ++ (((([32]) ++ (dgs (nB n).toNat)) ++ ([32])) ++ (dgs (nW n).toNat))))), (8, .slice (some ⟨w31.heap.size, 0, none⟩) 1 1), (9, errV (decide (t.length + ((([40]) ++ (wordT (nO n).toNat)) ++ (((([32]) ++ (dgs (nB n).toNat)) ++ ([32])) ++ (dgs (nW n).toNat))).length ≤ 4096))), (24, .int .i64 (nO n)), (25, .bool ((nO n) == 20)), (37, .bool ((nO n) == 21)), (57, .bool ((nO n) == 23)), (116, .bool (!(decide (t.length + ((([40]) ++ (wordT (nO n).toNat)) ++ (((([32]) ++ (dgs (nB n).toNat)) ++ ([32])) ++ (dgs (nW n).toNat))).length ≤ 4096)))), (118, .slice (some ⟨w31.heap.size, 0, none⟩) 1 1), (119, .int .i64 1), (120, .int .i64 0)] fun ρ => ?_
     refine zR ?_
     refine zS [(121, .bool true)] ?_
     refine op_nil ?_
     refine W_seq ?_
     refine zW true (fun _ => ?_) (fun h => nomatch h)
     refine W_skip ?_
     refine W_seq ?_
     refine W_block ?_
     refine zQ ?_
     refine stv (v := .pointer (some ⟨w31.heap.size, 0, none⟩)) (by rfl) (R_index1 (b := w31.heap.size) (off := 0) (len := 1) (cap := 1) (k := .i64) (i := 0) (e := 3) (by kernel_rfl) (by kernel_rfl) (by kernel_rfl) (by kernel_rfl) (by omega) (by omega)) ?_
     refine zL (.int .i64 (nA n)) ((hB36.cell 0).trans rfl) ?_
     refine zS [(11, .int .i64 (nA n))] ?_
     refine op_nil ?_
     refine W_seq ?_
     refine zQ ?_
     refine zS [(124, .pointer (some ⟨q, 0, none⟩))] ?_
     have hltL := hL.lt
     have lt_hB6 := hB6.lt
     have lt_hB36 := hB36.lt
     refine zC (add_ok G50 q p t50 ([32]) _ hB hle (by decide)) ?_
     rintro _ w53 ⟨rfl, G54, t54, hB, hM54, hle, he54⟩
     have hL := hL.tchS hM54.1 hGF
     have hB6 := hB6.tch hM54.1 (fun e => nhB_hB6 e)
     have hB36 := hB36.tch hM54.1 (fun e => nhB_hB36 e)
     have hMv := hMv.trans hM54
     have hGF : ∀ b, G54 b → ¬ F b := fun b hb => (hM54.2 b hb).elim (hGF b) (fun q hf => by have := hltL b hf; omega)
     have nhB_hB6 : ¬ G54 (w1.heap.size) := fun e => (hM54.2 _ e).elim nhB_hB6 (fun q => by omega)
     have nhB_hB36 : ¬ G54 (w31.heap.size) := fun e => (hM54.2 _ e).elim nhB_hB36 (fun q => by omega)
     refine zS [(12, errV (decide (t50.length + 1 ≤ 4096)))] ?_
     refine op_nil ?_
     refine zQ ?_
     refine zS [(126, errV (decide (t50.length + 1 ≤ 4096)))] ?_
     refine stv (v := .bool (!(decide (t50.length + 1 ≤ 4096)))) (by rfl) (R_errNeq (by kernel_rfl)) ?_
     refine zO (!(decide (t50.length + 1 ≤ 4096))) (fun hc55 => ?_) (fun hc55 => ?_)
     ·
      replace hc55 : 4096 < t50.length + 1 := (Nat.not_le.1 (of_decide_eq_false (not_t hc55)))
      refine W_seq ?_
      refine zF [(0, .pointer (some ⟨q, 0, none⟩)), (1, .int .i64 ((i : Nat) : Int)), (4, .nilIface), (5, .pointer (some ⟨w1.heap.size, 0, none⟩)), (7, .string (bsT ((([40]) ++ (wordT (nO n).toNat)) ++ (((([32]) ++ (dgs (nB n).toNat)) ++ ([32])) ++ (dgs (nW n).toNat))))), (8, .slice (some ⟨w31.heap.size, 0, none⟩) 1 1), (9, errV (decide (t.length + ((([40]) ++ (wordT (nO n).toNat)) ++ (((([32]) ++ (dgs (nB n).toNat)) ++ ([32])) ++ (dgs (nW n).toNat))).length ≤ 4096))), (11, .int .i64 (nA n)), (12, errV (decide (t50.length + 1 ≤ 4096))), (24, .int .i64 (nO n)), (25, .bool ((nO n) == 20)), (37, .bool ((nO n) == 21)), (57, .bool ((nO n) == 23)), (116, .bool (!(decide (t.length + ((([40]) ++ (wordT (nO n).toNat)) ++ (((([32]) ++ (dgs (nB n).toNat)) ++ ([32])) ++ (dgs (nW n).toNat))).length ≤ 4096)))), (118, .slice (some ⟨w31.heap.size, 0, none⟩) 1 1), (119, .int .i64 1), (120, .int .i64 0), (121, .bool true), (127, .bool (!(decide (t50.length + 1 ≤ 4096))))] fun ρ => ?_
      refine zR ?_
      refine zS [(128, errV (decide (t50.length + 1 ≤ 4096))), (4, errV (decide (t50.length + 1 ≤ 4096)))] ?_
      refine op_nil ?_
      refine W_ret ?_
      exact ⟨_, Res_of (v := errV (decide (t50.length + 1 ≤ 4096))) (by kernel_rfl), ⟨err_eq (by omega), _, _, hB, hMv, hle, fun h => by exfalso; omega⟩⟩
     ·
      replace hc55 : t50.length + 1 ≤ 4096 := (of_decide_eq_true (not_f hc55))
      have e56 := he54 hc55
      have e56l : t54.length = _ := (congrArg List.length e56).trans (List.length_append)
      try simp only [List.length_cons, List.length_nil] at e56l
      refine W_skip ?_
      refine W_seq ?_
      refine zF [(0, .pointer (some ⟨q, 0, none⟩)), (1, .int .i64 ((i : Nat) : Int)), (4, .nilIface), (5, .pointer (some ⟨w1.heap.size, 0, none⟩)), (7, .string (bsT ((([40]) ++ (wordT (nO n).toNat)) ++ (((([32]) ++ (dgs (nB n).toNat)) ++ ([32])) ++ (dgs (nW n).toNat))))), (8, .slice (some ⟨w31.heap.size, 0, none⟩) 1 1), (9, errV (decide (t.length + ((([40]) ++ (wordT (nO n).toNat)) ++ (((([32]) ++ (dgs (nB n).toNat)) ++ ([32])) ++ (dgs (nW n).toNat))).length ≤ 4096))), (11, .int .i64 (nA n)), (12, errV (decide (t50.length + 1 ≤ 4096))), (24, .int .i64 (nO n)), (25, .bool ((nO n) == 20)), (37, .bool ((nO n) == 21)), (57, .bool ((nO n) == 23)), (116, .bool (!(decide (t.length + ((([40]) ++ (wordT (nO n).toNat)) ++ (((([32]) ++ (dgs (nB n).toNat)) ++ ([32])) ++ (dgs (nW n).toNat))).length ≤ 4096)))), (118, .slice (some ⟨w31.heap.size, 0, none⟩) 1 1), (119, .int .i64 1), (120, .int .i64 0), (121, .bool true), (127, .bool (!(decide (t50.length + 1 ≤ 4096))))] fun ρ => ?_
      refine zR ?_
      refine zS [(129, .pointer (some ⟨q, 0, none⟩)), (130, .int .i64 (nA n))] ?_
      have hltL := hL.lt
      have lt_hB6 := hB6.lt
      have lt_hB36 := hB36.lt
      refine st (by rfl) (S_call (args := [.pointer (some ⟨q, 0, none⟩), .int .i64 (nA n)]) (by kernel_rfl) ((by have q := IH (nA n).toNat (by omega) G54 t54 _ hL hB hGF hle; rw [show (((nA n).toNat : Nat) : Int) = nA n by omega] at q; exact q)) ?_)
      rintro _ w57 ⟨rfl, G58, t58, hB, hM58, hle, he58⟩
      have hL := hL.tchS hM58.1 hGF
      have hB6 := hB6.tch hM58.1 (fun e => nhB_hB6 e)
      have hB36 := hB36.tch hM58.1 (fun e => nhB_hB36 e)
      have hMv := hMv.trans hM58
      have hGF : ∀ b, G58 b → ¬ F b := fun b hb => (hM58.2 b hb).elim (hGF b) (fun q hf => by have := hltL b hf; omega)
      have nhB_hB6 : ¬ G58 (w1.heap.size) := fun e => (hM58.2 _ e).elim nhB_hB6 (fun q => by omega)
      have nhB_hB36 : ¬ G58 (w31.heap.size) := fun e => (hM58.2 _ e).elim nhB_hB36 (fun q => by omega)
      refine zS [(13, errV (decide (t54.length + (txt N (nA n).toNat).length ≤ 4096)))] ?_
      refine op_nil ?_
      refine zQ ?_
      refine zS [(132, errV (decide (t54.length + (txt N (nA n).toNat).length ≤ 4096)))] ?_
      refine stv (v := .bool (!(decide (t54.length + (txt N (nA n).toNat).length ≤ 4096)))) (by rfl) (R_errNeq (by kernel_rfl)) ?_
      refine zO (!(decide (t54.length + (txt N (nA n).toNat).length ≤ 4096))) (fun hc59 => ?_) (fun hc59 => ?_)
      ·
       replace hc59 : 4096 < t54.length + (txt N (nA n).toNat).length := (Nat.not_le.1 (of_decide_eq_false (not_t hc59)))
       refine zQ ?_
       refine zS [(134, errV (decide (t54.length + (txt N (nA n).toNat).length ≤ 4096))), (4, errV (decide (t54.length + (txt N (nA n).toNat).length ≤ 4096)))] ?_
       refine op_nil ?_
       refine W_ret ?_
       exact ⟨_, Res_of (v := errV (decide (t54.length + (txt N (nA n).toNat).length ≤ 4096))) (by kernel_rfl), ⟨err_eq (by omega), _, _, hB, hMv, hle, fun h => by exfalso; omega⟩⟩
      ·
       replace hc59 : t54.length + (txt N (nA n).toNat).length ≤ 4096 := (of_decide_eq_true (not_f hc59))
       have e60 := he58 hc59
       have e60l : t58.length = _ := (congrArg List.length e60).trans (List.length_append)
       try simp only [List.length_cons, List.length_nil] at e60l
       refine W_skip ?_
       refine zR ?_
       refine zS [(135, .int .i64 1), (120, .int .i64 1)] ?_
       refine op_nil ?_
       refine Un_s ?_
       refine W_seq ?_
       refine zF [(0, .pointer (some ⟨q, 0, none⟩)), (1, .int .i64 ((i : Nat) : Int)), (4, .nilIface), (5, .pointer (some ⟨w1.heap.size, 0, none⟩)), (7, .string (bsT ((([40]) ++ (wordT (nO n).toNat)) ++ (((([32]) ++ (dgs (nB n).toNat)) ++ ([32])) ++ (dgs (nW n).toNat))))), (8, .slice (some ⟨w31.heap.size, 0, none⟩) 1 1), (9, errV (decide (t.length + ((([40]) ++ (wordT (nO n).toNat)) ++ (((([32]) ++ (dgs (nB n).toNat)) ++ ([32])) ++ (dgs (nW n).toNat))).length ≤ 4096))), (11, .int .i64 (nA n)), (12, errV (decide (t50.length + 1 ≤ 4096))), (13, errV (decide (t54.length + (txt N (nA n).toNat).length ≤ 4096))), (24, .int .i64 (nO n)), (25, .bool ((nO n) == 20)), (37, .bool ((nO n) == 21)), (57, .bool ((nO n) == 23)), (116, .bool (!(decide (t.length + ((([40]) ++ (wordT (nO n).toNat)) ++ (((([32]) ++ (dgs (nB n).toNat)) ++ ([32])) ++ (dgs (nW n).toNat))).length ≤ 4096)))), (118, .slice (some ⟨w31.heap.size, 0, none⟩) 1 1), (119, .int .i64 1), (120, .int .i64 1), (121, .bool true), (127, .bool (!(decide (t50.length + 1 ≤ 4096)))), (133, .bool (!(decide (t54.length + (txt N (nA n).toNat).length ≤ 4096))))] fun ρ => ?_
       refine zR ?_
       refine zS [(121, .bool false)] ?_
       refine op_nil ?_
       refine W_seq ?_
       refine zW false (fun h => nomatch h) (fun _ => ?_)
       refine W_exit ?_
       refine X_hit ?_
       refine zQ ?_
       refine zS [(136, .pointer (some ⟨q, 0, none⟩))] ?_
       have hltL := hL.lt
       have lt_hB6 := hB6.lt
       have lt_hB36 := hB36.lt
       refine zC (add_ok G58 q p t58 ([41]) _ hB hle (by decide)) ?_
       rintro _ w61 ⟨rfl, G62, t62, hB, hM62, hle, he62⟩
       have hL := hL.tchS hM62.1 hGF
       have hB6 := hB6.tch hM62.1 (fun e => nhB_hB6 e)
       have hB36 := hB36.tch hM62.1 (fun e => nhB_hB36 e)
       have hMv := hMv.trans hM62
       have hGF : ∀ b, G62 b → ¬ F b := fun b hb => (hM62.2 b hb).elim (hGF b) (fun q hf => by have := hltL b hf; omega)
       have nhB_hB6 : ¬ G62 (w1.heap.size) := fun e => (hM62.2 _ e).elim nhB_hB6 (fun q => by omega)
       have nhB_hB36 : ¬ G62 (w31.heap.size) := fun e => (hM62.2 _ e).elim nhB_hB36 (fun q => by omega)
       refine zS [(4, errV (decide (t58.length + 1 ≤ 4096)))] ?_
       refine op_nil ?_
       refine W_ret ?_
       refine ⟨_, Res_of (v := errV (decide (t58.length + 1 ≤ 4096))) (by kernel_rfl), ?_⟩
       refine ⟨err_eq (by omega), _, _, hB, hMv, hle, fun h => ?_⟩
       rw [he62 (show _ + 1 ≤ 4096 by omega), e60, e56, e52, hhd, htx]
       simp only [List.append_assoc]
   ·
    replace hc40 : nO n ≠ 23 := (ne_of_beq_false hc40)
    refine W_seq ?_
    refine zF [(0, .pointer (some ⟨q, 0, none⟩)), (1, .int .i64 ((i : Nat) : Int)), (4, .nilIface), (5, .pointer (some ⟨w1.heap.size, 0, none⟩)), (7, .string (bsT (([40]) ++ (wordT (nO n).toNat)))), (8, .slice (some ⟨w31.heap.size, 0, none⟩) 1 1), (24, .int .i64 (nO n)), (25, .bool ((nO n) == 20)), (37, .bool ((nO n) == 21)), (57, .bool ((nO n) == 23))] fun ρ => ?_
    refine zR ?_
    refine zS [(73, .pointer (some ⟨w1.heap.size, 0, none⟩))] ?_
    refine zL (.int .i64 (nO n)) ((hB6.cell 0).trans rfl) ?_
    refine zS [(75, .bool ((nO n) == 25)), (76, .bool ((nO n) == 25))] ?_
    cases hb63 : (nO n) == 25
    ·
     replace hb63 : nO n ≠ 25 := (ne_of_beq_false hb63)
     refine zS [(77, .pointer (some ⟨w1.heap.size, 0, none⟩))] ?_
     refine zL (.int .i64 (nO n)) ((hB6.cell 0).trans rfl) ?_
     refine zS [(79, .bool ((nO n) == 26)), (80, .bool ((nO n) == 26)), (72, .bool ((nO n) == 26))] ?_
     refine zO ((nO n) == 26) (fun hc64 => ?_) (fun hc64 => ?_)
     ·
      replace hc64 : nO n = 26 := (eq_of_beq hc64)
      refine zF [(0, .pointer (some ⟨q, 0, none⟩)), (1, .int .i64 ((i : Nat) : Int)), (4, .nilIface), (5, .pointer (some ⟨w1.heap.size, 0, none⟩)), (7, .string (bsT (([40]) ++ (wordT (nO n).toNat)))), (8, .slice (some ⟨w31.heap.size, 0, none⟩) 1 1), (24, .int .i64 (nO n)), (25, .bool ((nO n) == 20)), (37, .bool ((nO n) == 21)), (57, .bool ((nO n) == 23)), (72, .bool ((nO n) == 26))] fun ρ => ?_
      refine zR ?_
      refine zS [(81, .string (bsT (([40]) ++ (wordT (nO n).toNat)))), (82, .pointer (some ⟨w1.heap.size, 1, none⟩))] ?_
      refine zL (.int .i64 (nW n)) ((hB6.cell 1).trans rfl) ?_
      refine zC (numberI_ok (nW n) _ (by omega) (by omega)) ?_
      rintro _ w65 ⟨rfl, hT66⟩
      have hL := hL.tch0 hT66
      have hB := hB.tch0 hT66
      have hMv := hMv.then0 hT66
      have hB6 := hB6.tch0 hT66
      have hB36 := hB36.tch0 hT66
      refine stv (v := .string (bsT (([32]) ++ (dgs (nW n).toNat)))) (by rfl) (R_sadd (a := [32]) (b := dgs (nW n).toNat) (by kernel_rfl) (by kernel_rfl) (by first | omega | (simp only [List.length_append, List.length_cons, List.length_nil]; have := wordT_len (nO n).toNat; have := @dgs_20 (nB n).toNat; have := @dgs_20 (nW n).toNat; have := @dgs_20 (nA n).toNat; have := @dgs_20 (nV n).toNat; unfold u64 at hV; omega))) ?_
      refine stv (v := .string (bsT ((([40]) ++ (wordT (nO n).toNat)) ++ (([32]) ++ (dgs (nW n).toNat))))) (by rfl) (R_sadd (a := ([40]) ++ (wordT (nO n).toNat)) (b := ([32]) ++ (dgs (nW n).toNat)) (by kernel_rfl) (by kernel_rfl) (by first | omega | (simp only [List.length_append, List.length_cons, List.length_nil]; have := wordT_len (nO n).toNat; have := @dgs_20 (nB n).toNat; have := @dgs_20 (nW n).toNat; have := @dgs_20 (nA n).toNat; have := @dgs_20 (nV n).toNat; unfold u64 at hV; omega))) ?_
      refine zS [(7, .string (bsT ((([40]) ++ (wordT (nO n).toNat)) ++ (([32]) ++ (dgs (nW n).toNat)))))] ?_
      refine op_nil ?_
      refine W_seq ?_
      refine W_seq ?_
      have hhd : (([40]) ++ (wordT (nO n).toNat)) ++ (([32]) ++ (dgs (nW n).toNat)) = hdT n := by unfold hdT; first | (rw [mid23 (by omega)] <;> simp only [List.append_assoc]) | (rw [mid25 (by omega)] <;> simp only [List.append_assoc]) | (rw [mid0 (by omega) (by omega)] <;> simp only [List.append_assoc, List.append_nil])
      have hhl := hd_len (fun e => (hn.pos (by omega) (by omega)).2.1 (by omega)) (by omega) hw
      have hHl : ((([40]) ++ (wordT (nO n).toNat)) ++ (([32]) ++ (dgs (nW n).toNat))).length = (hdT n).length := congrArg List.length hhd
      have hkids : kidsN n = [(nA n).toNat] := by unfold kidsN; first | (rw [if_neg (by omega), if_pos (by omega)]) | (rw [if_neg (by omega), if_neg (by omega), if_pos (by omega)]) | (rw [if_neg (by omega), if_neg (by omega), if_neg (by omega)])
      obtain ⟨hp1, hp2, hp3, _⟩ := hn.pos (by omega) (by omega)
      have hk67 := kids_lt hn (nA n).toNat (by rw [hkids]; simp)
      have htx := txt_k1 hni hn (by omega) (by omega) hkids
      have hlen := congrArg List.length htx
      simp only [List.length_append, List.length_cons, List.length_nil] at hlen
      refine zR ?_
      refine zS [(112, .pointer (some ⟨q, 0, none⟩)), (113, .string (bsT ((([40]) ++ (wordT (nO n).toNat)) ++ (([32]) ++ (dgs (nW n).toNat)))))] ?_
      have hltL := hL.lt
      have lt_hB6 := hB6.lt
      have lt_hB36 := hB36.lt
      refine zC (add_ok G q p t ((([40]) ++ (wordT (nO n).toNat)) ++ (([32]) ++ (dgs (nW n).toNat))) _ hB hle (by omega)) ?_
      rintro _ w68 ⟨rfl, G69, t69, hB, hM69, hle, he69⟩
      have hL := hL.tchS hM69.1 hGF
      have hB6 := hB6.tch hM69.1 (fun e => nhB_hB6 e)
      have hB36 := hB36.tch hM69.1 (fun e => nhB_hB36 e)
      have hMv := hMv.trans hM69
      have hGF : ∀ b, G69 b → ¬ F b := fun b hb => (hM69.2 b hb).elim (hGF b) (fun q hf => by have := hltL b hf; omega)
      have nhB_hB6 : ¬ G69 (w1.heap.size) := fun e => (hM69.2 _ e).elim nhB_hB6 (fun q => by omega)
      have nhB_hB36 : ¬ G69 (w31.heap.size) := fun e => (hM69.2 _ e).elim nhB_hB36 (fun q => by omega)
      refine zS [(9, errV (decide (t.length + ((([40]) ++ (wordT (nO n).toNat)) ++ (([32]) ++ (dgs (nW n).toNat))).length ≤ 4096)))] ?_
      refine op_nil ?_
      refine W_seq ?_
      refine zF [(0, .pointer (some ⟨q, 0, none⟩)), (1, .int .i64 ((i : Nat) : Int)), (4, .nilIface), (5, .pointer (some ⟨w1.heap.size, 0, none⟩)), (7, .string (bsT ((([40]) ++ (wordT (nO n).toNat)) ++ (([32]) ++ (dgs (nW n).toNat))))), (8, .slice (some ⟨w31.heap.size, 0, none⟩) 1 1), (9, errV (decide (t.length + ((([40]) ++ (wordT (nO n).toNat)) ++ (([32]) ++ (dgs (nW n).toNat))).length ≤ 4096))), (24, .int .i64 (nO n)), (25, .bool ((nO n) == 20)), (37, .bool ((nO n) == 21)), (57, .bool ((nO n) == 23)), (72, .bool ((nO n) == 26))] fun ρ => ?_
      refine zR ?_
      refine zS [(115, errV (decide (t.length + ((([40]) ++ (wordT (nO n).toNat)) ++ (([32]) ++ (dgs (nW n).toNat))).length ≤ 4096)))] ?_
      refine stv (v := .bool (!(decide (t.length + ((([40]) ++ (wordT (nO n).toNat)) ++ (([32]) ++ (dgs (nW n).toNat))).length ≤ 4096)))) (by rfl) (R_errNeq (by kernel_rfl)) ?_
      refine zO (!(decide (t.length + ((([40]) ++ (wordT (nO n).toNat)) ++ (([32]) ++ (dgs (nW n).toNat))).length ≤ 4096))) (fun hc70 => ?_) (fun hc70 => ?_)
      ·
       replace hc70 : 4096 < t.length + ((([40]) ++ (wordT (nO n).toNat)) ++ (([32]) ++ (dgs (nW n).toNat))).length := (Nat.not_le.1 (of_decide_eq_false (not_t hc70)))
       refine zQ ?_
       refine zS [(117, errV (decide (t.length + ((([40]) ++ (wordT (nO n).toNat)) ++ (([32]) ++ (dgs (nW n).toNat))).length ≤ 4096))), (4, errV (decide (t.length + ((([40]) ++ (wordT (nO n).toNat)) ++ (([32]) ++ (dgs (nW n).toNat))).length ≤ 4096)))] ?_
       refine op_nil ?_
       refine W_ret ?_
       exact ⟨_, Res_of (v := errV (decide (t.length + ((([40]) ++ (wordT (nO n).toNat)) ++ (([32]) ++ (dgs (nW n).toNat))).length ≤ 4096))) (by kernel_rfl), ⟨err_eq (by omega), _, _, hB, hMv, hle, fun h => by exfalso; omega⟩⟩
      ·
       replace hc70 : t.length + ((([40]) ++ (wordT (nO n).toNat)) ++ (([32]) ++ (dgs (nW n).toNat))).length ≤ 4096 := (of_decide_eq_true (not_f hc70))
       have e71 := he69 hc70
       have e71l : t69.length = _ := (congrArg List.length e71).trans (List.length_append)
       try simp only [List.length_cons, List.length_nil] at e71l
       refine W_skip ?_
       refine W_seq ?_
       refine zQ ?_
       refine zS [(118, .slice (some ⟨w31.heap.size, 0, none⟩) 1 1), (119, .int .i64 1), (120, .int .i64 0)] ?_
       refine op_nil ?_
       refine W_block ?_
       refine W_un 4 ?_
       refine Un_s ?_
       refine zQ ?_
       refine zS [(121, .bool true)] ?_
       refine op_nil ?_
       refine W_seq ?_
       refine zW true (fun _ => ?_) (fun h => nomatch h)
       refine W_skip ?_
       refine W_seq ?_
       refine W_block ?_
       refine zQ ?_
       refine stv (v := .pointer (some ⟨w31.heap.size, 0, none⟩)) (by rfl) (R_index1 (b := w31.heap.size) (off := 0) (len := 1) (cap := 1) (k := .i64) (i := 0) (e := 3) (by kernel_rfl) (by kernel_rfl) (by kernel_rfl) (by kernel_rfl) (by omega) (by omega)) ?_
       refine zL (.int .i64 (nA n)) ((hB36.cell 0).trans rfl) ?_
       refine zS [(11, .int .i64 (nA n))] ?_
       refine op_nil ?_
       refine W_seq ?_
       refine W_seq ?_
       refine zF [(0, .pointer (some ⟨q, 0, none⟩)), (1, .int .i64 ((i : Nat) : Int)), (4, .nilIface), (5, .pointer (some ⟨w1.heap.size, 0, none⟩)), (7, .string (bsT ((([40]) ++ (wordT (nO n).toNat)) ++ (([32]) ++ (dgs (nW n).toNat))))), (8, .slice (some ⟨w31.heap.size, 0, none⟩) 1 1), (9, errV (decide (t.length + ((([40]) ++ (wordT (nO n).toNat)) ++ (([32]) ++ (dgs (nW n).toNat))).length ≤ 4096))), (11, .int .i64 (nA n)), (24, .int .i64 (nO n)), (25, .bool ((nO n) == 20)), (37, .bool ((nO n) == 21)), (57, .bool ((nO n) == 23)), (72, .bool ((nO n) == 26)), (116, .bool (!(decide (t.length + ((([40]) ++ (wordT (nO n).toNat)) ++ (([32]) ++ (dgs (nW n).toNat))).length ≤ 4096)))), (118, .slice (some ⟨w31.heap.size, 0, none⟩) 1 1), (119, .int .i64 1), (120, .int .i64 0), (121, .bool true)] fun ρ => ?_
       refine zR ?_
       refine zS [(124, .pointer (some ⟨q, 0, none⟩))] ?_
       have hltL := hL.lt
       have lt_hB6 := hB6.lt
       have lt_hB36 := hB36.lt
       refine zC (add_ok G69 q p t69 ([32]) _ hB hle (by decide)) ?_
       rintro _ w72 ⟨rfl, G73, t73, hB, hM73, hle, he73⟩
       have hL := hL.tchS hM73.1 hGF
       have hB6 := hB6.tch hM73.1 (fun e => nhB_hB6 e)
       have hB36 := hB36.tch hM73.1 (fun e => nhB_hB36 e)
       have hMv := hMv.trans hM73
       have hGF : ∀ b, G73 b → ¬ F b := fun b hb => (hM73.2 b hb).elim (hGF b) (fun q hf => by have := hltL b hf; omega)
       have nhB_hB6 : ¬ G73 (w1.heap.size) := fun e => (hM73.2 _ e).elim nhB_hB6 (fun q => by omega)
       have nhB_hB36 : ¬ G73 (w31.heap.size) := fun e => (hM73.2 _ e).elim nhB_hB36 (fun q => by omega)
       refine zS [(12, errV (decide (t69.length + 1 ≤ 4096)))] ?_
       refine op_nil ?_
       refine zQ ?_
       refine zS [(126, errV (decide (t69.length + 1 ≤ 4096)))] ?_
       refine stv (v := .bool (!(decide (t69.length + 1 ≤ 4096)))) (by rfl) (R_errNeq (by kernel_rfl)) ?_
       refine zO (!(decide (t69.length + 1 ≤ 4096))) (fun hc74 => ?_) (fun hc74 => ?_)
       ·
        replace hc74 : 4096 < t69.length + 1 := (Nat.not_le.1 (of_decide_eq_false (not_t hc74)))
        refine zQ ?_
        refine zS [(128, errV (decide (t69.length + 1 ≤ 4096))), (4, errV (decide (t69.length + 1 ≤ 4096)))] ?_
        refine op_nil ?_
        refine W_ret ?_
        exact ⟨_, Res_of (v := errV (decide (t69.length + 1 ≤ 4096))) (by kernel_rfl), ⟨err_eq (by omega), _, _, hB, hMv, hle, fun h => by exfalso; omega⟩⟩
       ·
        replace hc74 : t69.length + 1 ≤ 4096 := (of_decide_eq_true (not_f hc74))
        have e75 := he73 hc74
        have e75l : t73.length = _ := (congrArg List.length e75).trans (List.length_append)
        try simp only [List.length_cons, List.length_nil] at e75l
        refine W_skip ?_
        refine zQ ?_
        refine zS [(129, .pointer (some ⟨q, 0, none⟩)), (130, .int .i64 (nA n))] ?_
        have hltL := hL.lt
        have lt_hB6 := hB6.lt
        have lt_hB36 := hB36.lt
        refine st (by rfl) (S_call (args := [.pointer (some ⟨q, 0, none⟩), .int .i64 (nA n)]) (by kernel_rfl) ((by have q := IH (nA n).toNat (by omega) G73 t73 _ hL hB hGF hle; rw [show (((nA n).toNat : Nat) : Int) = nA n by omega] at q; exact q)) ?_)
        rintro _ w76 ⟨rfl, G77, t77, hB, hM77, hle, he77⟩
        have hL := hL.tchS hM77.1 hGF
        have hB6 := hB6.tch hM77.1 (fun e => nhB_hB6 e)
        have hB36 := hB36.tch hM77.1 (fun e => nhB_hB36 e)
        have hMv := hMv.trans hM77
        have hGF : ∀ b, G77 b → ¬ F b := fun b hb => (hM77.2 b hb).elim (hGF b) (fun q hf => by have := hltL b hf; omega)
        have nhB_hB6 : ¬ G77 (w1.heap.size) := fun e => (hM77.2 _ e).elim nhB_hB6 (fun q => by omega)
        have nhB_hB36 : ¬ G77 (w31.heap.size) := fun e => (hM77.2 _ e).elim nhB_hB36 (fun q => by omega)
        refine zS [(13, errV (decide (t73.length + (txt N (nA n).toNat).length ≤ 4096)))] ?_
        refine op_nil ?_
        refine W_seq ?_
        refine zF [(0, .pointer (some ⟨q, 0, none⟩)), (1, .int .i64 ((i : Nat) : Int)), (4, .nilIface), (5, .pointer (some ⟨w1.heap.size, 0, none⟩)), (7, .string (bsT ((([40]) ++ (wordT (nO n).toNat)) ++ (([32]) ++ (dgs (nW n).toNat))))), (8, .slice (some ⟨w31.heap.size, 0, none⟩) 1 1), (9, errV (decide (t.length + ((([40]) ++ (wordT (nO n).toNat)) ++ (([32]) ++ (dgs (nW n).toNat))).length ≤ 4096))), (11, .int .i64 (nA n)), (12, errV (decide (t69.length + 1 ≤ 4096))), (13, errV (decide (t73.length + (txt N (nA n).toNat).length ≤ 4096))), (24, .int .i64 (nO n)), (25, .bool ((nO n) == 20)), (37, .bool ((nO n) == 21)), (57, .bool ((nO n) == 23)), (72, .bool ((nO n) == 26)), (116, .bool (!(decide (t.length + ((([40]) ++ (wordT (nO n).toNat)) ++ (([32]) ++ (dgs (nW n).toNat))).length ≤ 4096)))), (118, .slice (some ⟨w31.heap.size, 0, none⟩) 1 1), (119, .int .i64 1), (120, .int .i64 0), (121, .bool true), (127, .bool (!(decide (t69.length + 1 ≤ 4096))))] fun ρ => ?_
        refine zR ?_
        refine zS [(132, errV (decide (t73.length + (txt N (nA n).toNat).length ≤ 4096)))] ?_
        refine stv (v := .bool (!(decide (t73.length + (txt N (nA n).toNat).length ≤ 4096)))) (by rfl) (R_errNeq (by kernel_rfl)) ?_
        refine zO (!(decide (t73.length + (txt N (nA n).toNat).length ≤ 4096))) (fun hc78 => ?_) (fun hc78 => ?_)
        ·
         replace hc78 : 4096 < t73.length + (txt N (nA n).toNat).length := (Nat.not_le.1 (of_decide_eq_false (not_t hc78)))
         refine zQ ?_
         refine zS [(134, errV (decide (t73.length + (txt N (nA n).toNat).length ≤ 4096))), (4, errV (decide (t73.length + (txt N (nA n).toNat).length ≤ 4096)))] ?_
         refine op_nil ?_
         refine W_ret ?_
         exact ⟨_, Res_of (v := errV (decide (t73.length + (txt N (nA n).toNat).length ≤ 4096))) (by kernel_rfl), ⟨err_eq (by omega), _, _, hB, hMv, hle, fun h => by exfalso; omega⟩⟩
        ·
         replace hc78 : t73.length + (txt N (nA n).toNat).length ≤ 4096 := (of_decide_eq_true (not_f hc78))
         have e79 := he77 hc78
         have e79l : t77.length = _ := (congrArg List.length e79).trans (List.length_append)
         try simp only [List.length_cons, List.length_nil] at e79l
         refine W_skip ?_
         refine zR ?_
         refine zS [(135, .int .i64 1), (120, .int .i64 1)] ?_
         refine op_nil ?_
         refine Un_s ?_
         refine zQ ?_
         refine zS [(121, .bool false)] ?_
         refine op_nil ?_
         refine W_seq ?_
         refine zW false (fun h => nomatch h) (fun _ => ?_)
         refine W_exit ?_
         refine X_hit ?_
         refine zQ ?_
         refine zS [(136, .pointer (some ⟨q, 0, none⟩))] ?_
         have hltL := hL.lt
         have lt_hB6 := hB6.lt
         have lt_hB36 := hB36.lt
         refine zC (add_ok G77 q p t77 ([41]) _ hB hle (by decide)) ?_
         rintro _ w80 ⟨rfl, G81, t81, hB, hM81, hle, he81⟩
         have hL := hL.tchS hM81.1 hGF
         have hB6 := hB6.tch hM81.1 (fun e => nhB_hB6 e)
         have hB36 := hB36.tch hM81.1 (fun e => nhB_hB36 e)
         have hMv := hMv.trans hM81
         have hGF : ∀ b, G81 b → ¬ F b := fun b hb => (hM81.2 b hb).elim (hGF b) (fun q hf => by have := hltL b hf; omega)
         have nhB_hB6 : ¬ G81 (w1.heap.size) := fun e => (hM81.2 _ e).elim nhB_hB6 (fun q => by omega)
         have nhB_hB36 : ¬ G81 (w31.heap.size) := fun e => (hM81.2 _ e).elim nhB_hB36 (fun q => by omega)
         refine zS [(4, errV (decide (t77.length + 1 ≤ 4096)))] ?_
         refine op_nil ?_
         refine W_ret ?_
         refine ⟨_, Res_of (v := errV (decide (t77.length + 1 ≤ 4096))) (by kernel_rfl), ?_⟩
         refine ⟨err_eq (by omega), _, _, hB, hMv, hle, fun h => ?_⟩
         rw [he81 (show _ + 1 ≤ 4096 by omega), e79, e75, e71, hhd, htx]
         simp only [List.append_assoc]
     ·
      replace hc64 : nO n ≠ 26 := (ne_of_beq_false hc64)
      refine W_seq ?_
      refine zF [(0, .pointer (some ⟨q, 0, none⟩)), (1, .int .i64 ((i : Nat) : Int)), (4, .nilIface), (5, .pointer (some ⟨w1.heap.size, 0, none⟩)), (7, .string (bsT (([40]) ++ (wordT (nO n).toNat)))), (8, .slice (some ⟨w31.heap.size, 0, none⟩) 1 1), (24, .int .i64 (nO n)), (25, .bool ((nO n) == 20)), (37, .bool ((nO n) == 21)), (57, .bool ((nO n) == 23)), (72, .bool ((nO n) == 26))] fun ρ => ?_
      refine zR ?_
      refine zS [(88, .pointer (some ⟨w1.heap.size, 0, none⟩))] ?_
      refine zL (.int .i64 (nO n)) ((hB6.cell 0).trans rfl) ?_
      refine zS [(90, .bool ((nO n) == 22)), (87, .bool ((nO n) == 22))] ?_
      refine zO ((nO n) == 22) (fun hc82 => ?_) (fun hc82 => ?_)
      ·
       replace hc82 : nO n = 22 := (eq_of_beq hc82)
       refine zR ?_
       refine zS [(91, .pointer (some ⟨w1.heap.size, 2, none⟩))] ?_
       refine zL (.int .i64 (nA n)) ((hB6.cell 2).trans rfl) ?_
       refine zS [(93, .pointer (some ⟨w1.heap.size, 3, none⟩))] ?_
       refine zL (.int .i64 (nB n)) ((hB6.cell 3).trans rfl) ?_
       refine zS [(95, .pointer (some ⟨w1.heap.size, 4, none⟩))] ?_
       refine zL (.int .i64 (nC n)) ((hB6.cell 4).trans rfl) ?_
       have hltF := hL.lt
       have hltG := hB.lt
       have hz87 := hMv.1.size
       have lt88 := hB6.lt
       have lt89 := hB36.lt
       have l90 := hB6.lt
       have l91 := hB36.lt
       refine st (by rfl) (S_new (v := .slice (some ⟨w33.heap.size, 0, none⟩) 3 3) (ob := .cells #[.int .i64 (nA n), .int .i64 (nB n), .int .i64 (nC n)] 3) (by kernel_rfl) fun w83 hT84 hs85 hB86 => ?_)
       replace hB86 : Blk w83 (w33.heap.size) 3 [.int .i64 (nA n), .int .i64 (nB n), .int .i64 (nC n)] := hB86
       have hL := hL.tch0 hT84
       have hB := hB.tch0 hT84
       have hMv := hMv.then0 hT84
       have hB6 := hB6.tch0 hT84
       have hB36 := hB36.tch0 hT84
       have nhL_hB86 : ¬ F (w33.heap.size) := fun e => by have := hltF _ e; omega
       have nhB_hB86 : ¬ G (w33.heap.size) := fun e => by have := hltG _ e; omega
       refine zS [(8, .slice (some ⟨w33.heap.size, 0, none⟩) 3 3)] ?_
       refine op_nil ?_
       refine W_seq ?_
       refine W_seq ?_
       refine zF [(0, .pointer (some ⟨q, 0, none⟩)), (1, .int .i64 ((i : Nat) : Int)), (4, .nilIface), (5, .pointer (some ⟨w1.heap.size, 0, none⟩)), (7, .string (bsT (([40]) ++ (wordT (nO n).toNat)))), (8, .slice (some ⟨w33.heap.size, 0, none⟩) 3 3), (24, .int .i64 (nO n)), (25, .bool ((nO n) == 20)), (37, .bool ((nO n) == 21)), (57, .bool ((nO n) == 23)), (72, .bool ((nO n) == 26)), (87, .bool ((nO n) == 22))] fun ρ => ?_
       have hhd : ([40]) ++ (wordT (nO n).toNat) = hdT n := by unfold hdT; first | (rw [mid23 (by omega)] <;> simp only [List.append_assoc]) | (rw [mid25 (by omega)] <;> simp only [List.append_assoc]) | (rw [mid0 (by omega) (by omega)] <;> simp only [List.append_assoc, List.append_nil])
       have hhl := hd_len (fun e => (hn.pos (by omega) (by omega)).2.1 (by omega)) (by omega) hw
       have hHl : (([40]) ++ (wordT (nO n).toNat)).length = (hdT n).length := congrArg List.length hhd
       have hkids : kidsN n = [(nA n).toNat, (nB n).toNat, (nC n).toNat] := by unfold kidsN; first | (rw [if_neg (by omega), if_pos (by omega)]) | (rw [if_neg (by omega), if_neg (by omega), if_pos (by omega)]) | (rw [if_neg (by omega), if_neg (by omega), if_neg (by omega)])
       obtain ⟨hp1, hp2, hp3, _⟩ := hn.pos (by omega) (by omega)
       have hp2 := hp2 (by omega)
       have hp3 := hp3 (by omega)
       have hk92 := kids_lt hn (nA n).toNat (by rw [hkids]; simp)
       have hk93 := kids_lt hn (nB n).toNat (by rw [hkids]; simp)
       have hk94 := kids_lt hn (nC n).toNat (by rw [hkids]; simp)
       have htx := txt_k3 hni hn (by omega) (by omega) hkids
       have hlen := congrArg List.length htx
       simp only [List.length_append, List.length_cons, List.length_nil] at hlen
       refine zR ?_
       refine zS [(112, .pointer (some ⟨q, 0, none⟩)), (113, .string (bsT (([40]) ++ (wordT (nO n).toNat))))] ?_
       have hltL := hL.lt
       have lt_hB6 := hB6.lt
       have lt_hB36 := hB36.lt
       have lt_hB86 := hB86.lt
       refine zC (add_ok G q p t (([40]) ++ (wordT (nO n).toNat)) _ hB hle (by omega)) ?_
       rintro _ w95 ⟨rfl, G96, t96, hB, hM96, hle, he96⟩
       have hL := hL.tchS hM96.1 hGF
       have hB6 := hB6.tch hM96.1 (fun e => nhB_hB6 e)
       have hB36 := hB36.tch hM96.1 (fun e => nhB_hB36 e)
       have hB86 := hB86.tch hM96.1 (fun e => nhB_hB86 e)
       have hMv := hMv.trans hM96
       have hGF : ∀ b, G96 b → ¬ F b := fun b hb => (hM96.2 b hb).elim (hGF b) (fun q hf => by have := hltL b hf; omega)
       have nhB_hB6 : ¬ G96 (w1.heap.size) := fun e => (hM96.2 _ e).elim nhB_hB6 (fun q => by omega)
       have nhB_hB36 : ¬ G96 (w31.heap.size) := fun e => (hM96.2 _ e).elim nhB_hB36 (fun q => by omega)
       have nhB_hB86 : ¬ G96 (w33.heap.size) := fun e => (hM96.2 _ e).elim nhB_hB86 (fun q => by omega)
       refine zS [(9, errV (decide (t.length + (([40]) ++ (wordT (nO n).toNat)).length ≤ 4096)))] ?_
       refine op_nil ?_
       refine zQ ?_
       refine zS [(115, errV (decide (t.length + (([40]) ++ (wordT (nO n).toNat)).length ≤ 4096)))] ?_
       refine stv (v := .bool (!(decide (t.length + (([40]) ++ (wordT (nO n).toNat)).length ≤ 4096)))) (by rfl) (R_errNeq (by kernel_rfl)) ?_
       refine zO (!(decide (t.length + (([40]) ++ (wordT (nO n).toNat)).length ≤ 4096))) (fun hc97 => ?_) (fun hc97 => ?_)
       ·
        replace hc97 : 4096 < t.length + (([40]) ++ (wordT (nO n).toNat)).length := (Nat.not_le.1 (of_decide_eq_false (not_t hc97)))
        refine zQ ?_
        refine zS [(117, errV (decide (t.length + (([40]) ++ (wordT (nO n).toNat)).length ≤ 4096))), (4, errV (decide (t.length + (([40]) ++ (wordT (nO n).toNat)).length ≤ 4096)))] ?_
        refine op_nil ?_
        refine W_ret ?_
        exact ⟨_, Res_of (v := errV (decide (t.length + (([40]) ++ (wordT (nO n).toNat)).length ≤ 4096))) (by kernel_rfl), ⟨err_eq (by omega), _, _, hB, hMv, hle, fun h => by exfalso; omega⟩⟩
       ·
        replace hc97 : t.length + (([40]) ++ (wordT (nO n).toNat)).length ≤ 4096 := (of_decide_eq_true (not_f hc97))
        have e98 := he96 hc97
        have e98l : t96.length = _ := (congrArg List.length e98).trans (List.length_append)
        try simp only [List.length_cons, List.length_nil] at e98l
        refine W_skip ?_
        refine W_seq ?_
        refine zQ ?_
        refine zS [(118, .slice (some ⟨w33.heap.size, 0, none⟩) 3 3), (119, .int .i64 3), (120, .int .i64 0)] ?_
        refine op_nil ?_
        refine W_block ?_
        refine W_un 4 ?_
        refine Un_s ?_
        refine W_seq ?_
        refine zF [(0, .pointer (some ⟨q, 0, none⟩)), (1, .int .i64 ((i : Nat) : Int)), (4, .nilIface), (5, .pointer (some ⟨w1.heap.size, 0, none⟩)), (7, .string (bsT (([40]) ++ (wordT (nO n).toNat)))), (8, .slice (some ⟨w33.heap.size, 0, none⟩) 3 3), (9, errV (decide (t.length + (([40]) ++ (wordT (nO n).toNat)).length ≤ 4096))), (24, .int .i64 (nO n)), (25, .bool ((nO n) == 20)), (37, .bool ((nO n) == 21)), (57, .bool ((nO n) == 23)), (72, .bool ((nO n) == 26)), (87, .bool ((nO n) == 22)), (116, .bool (!(decide (t.length + (([40]) ++ (wordT (nO n).toNat)).length ≤ 4096)))), (118, .slice (some ⟨w33.heap.size, 0, none⟩) 3 3), (119, .int .i64 3), (120, .int .i64 0)] fun ρ => ?_
        refine zR ?_
        refine zS [(121, .bool true)] ?_
        refine op_nil ?_
        refine W_seq ?_
        refine zW true (fun _ => ?_) (fun h => nomatch h)
        refine W_skip ?_
        refine W_seq ?_
        refine W_block ?_
        refine zQ ?_
        refine stv (v := .pointer (some ⟨w33.heap.size, 0, none⟩)) (by rfl) (R_index1 (b := w33.heap.size) (off := 0) (len := 3) (cap := 3) (k := .i64) (i := 0) (e := 3) (by kernel_rfl) (by kernel_rfl) (by kernel_rfl) (by kernel_rfl) (by omega) (by omega)) ?_
        refine zL (.int .i64 (nA n)) ((hB86.cell 0).trans rfl) ?_
        refine zS [(11, .int .i64 (nA n))] ?_
        refine op_nil ?_
        refine W_seq ?_
        refine zQ ?_
        refine zS [(124, .pointer (some ⟨q, 0, none⟩))] ?_
        have hltL := hL.lt
        have lt_hB6 := hB6.lt
        have lt_hB36 := hB36.lt
        have lt_hB86 := hB86.lt
        refine zC (add_ok G96 q p t96 ([32]) _ hB hle (by decide)) ?_
        rintro _ w99 ⟨rfl, G100, t100, hB, hM100, hle, he100⟩
        have hL := hL.tchS hM100.1 hGF
        have hB6 := hB6.tch hM100.1 (fun e => nhB_hB6 e)
        have hB36 := hB36.tch hM100.1 (fun e => nhB_hB36 e)
        have hB86 := hB86.tch hM100.1 (fun e => nhB_hB86 e)
        have hMv := hMv.trans hM100
        have hGF : ∀ b, G100 b → ¬ F b := fun b hb => (hM100.2 b hb).elim (hGF b) (fun q hf => by have := hltL b hf; omega)
        have nhB_hB6 : ¬ G100 (w1.heap.size) := fun e => (hM100.2 _ e).elim nhB_hB6 (fun q => by omega)
        have nhB_hB36 : ¬ G100 (w31.heap.size) := fun e => (hM100.2 _ e).elim nhB_hB36 (fun q => by omega)
        have nhB_hB86 : ¬ G100 (w33.heap.size) := fun e => (hM100.2 _ e).elim nhB_hB86 (fun q => by omega)
        refine zS [(12, errV (decide (t96.length + 1 ≤ 4096)))] ?_
        refine op_nil ?_
        refine zQ ?_
        refine zS [(126, errV (decide (t96.length + 1 ≤ 4096)))] ?_
        refine stv (v := .bool (!(decide (t96.length + 1 ≤ 4096)))) (by rfl) (R_errNeq (by kernel_rfl)) ?_
        refine zO (!(decide (t96.length + 1 ≤ 4096))) (fun hc101 => ?_) (fun hc101 => ?_)
        ·
         replace hc101 : 4096 < t96.length + 1 := (Nat.not_le.1 (of_decide_eq_false (not_t hc101)))
         refine W_seq ?_
         refine zF [(0, .pointer (some ⟨q, 0, none⟩)), (1, .int .i64 ((i : Nat) : Int)), (4, .nilIface), (5, .pointer (some ⟨w1.heap.size, 0, none⟩)), (7, .string (bsT (([40]) ++ (wordT (nO n).toNat)))), (8, .slice (some ⟨w33.heap.size, 0, none⟩) 3 3), (9, errV (decide (t.length + (([40]) ++ (wordT (nO n).toNat)).length ≤ 4096))), (11, .int .i64 (nA n)), (12, errV (decide (t96.length + 1 ≤ 4096))), (24, .int .i64 (nO n)), (25, .bool ((nO n) == 20)), (37, .bool ((nO n) == 21)), (57, .bool ((nO n) == 23)), (72, .bool ((nO n) == 26)), (87, .bool ((nO n) == 22)), (116, .bool (!(decide (t.length + (([40]) ++ (wordT (nO n).toNat)).length ≤ 4096)))), (118, .slice (some ⟨w33.heap.size, 0, none⟩) 3 3), (119, .int .i64 3), (120, .int .i64 0), (121, .bool true), (127, .bool (!(decide (t96.length + 1 ≤ 4096))))] fun ρ => ?_
         refine zR ?_
         refine zS [(128, errV (decide (t96.length + 1 ≤ 4096))), (4, errV (decide (t96.length + 1 ≤ 4096)))] ?_
         refine op_nil ?_
         refine W_ret ?_
         exact ⟨_, Res_of (v := errV (decide (t96.length + 1 ≤ 4096))) (by kernel_rfl), ⟨err_eq (by omega), _, _, hB, hMv, hle, fun h => by exfalso; omega⟩⟩
        ·
         replace hc101 : t96.length + 1 ≤ 4096 := (of_decide_eq_true (not_f hc101))
         have e102 := he100 hc101
         have e102l : t100.length = _ := (congrArg List.length e102).trans (List.length_append)
         try simp only [List.length_cons, List.length_nil] at e102l
         refine W_skip ?_
         refine W_seq ?_
         refine zF [(0, .pointer (some ⟨q, 0, none⟩)), (1, .int .i64 ((i : Nat) : Int)), (4, .nilIface), (5, .pointer (some ⟨w1.heap.size, 0, none⟩)), (7, .string (bsT (([40]) ++ (wordT (nO n).toNat)))), (8, .slice (some ⟨w33.heap.size, 0, none⟩) 3 3), (9, errV (decide (t.length + (([40]) ++ (wordT (nO n).toNat)).length ≤ 4096))), (11, .int .i64 (nA n)), (12, errV (decide (t96.length + 1 ≤ 4096))), (24, .int .i64 (nO n)), (25, .bool ((nO n) == 20)), (37, .bool ((nO n) == 21)), (57, .bool ((nO n) == 23)), (72, .bool ((nO n) == 26)), (87, .bool ((nO n) == 22)), (116, .bool (!(decide (t.length + (([40]) ++ (wordT (nO n).toNat)).length ≤ 4096)))), (118, .slice (some ⟨w33.heap.size, 0, none⟩) 3 3), (119, .int .i64 3), (120, .int .i64 0), (121, .bool true), (127, .bool (!(decide (t96.length + 1 ≤ 4096))))] fun ρ => ?_
         refine zR ?_
         refine zS [(129, .pointer (some ⟨q, 0, none⟩)), (130, .int .i64 (nA n))] ?_
         have hltL := hL.lt
         have lt_hB6 := hB6.lt
         have lt_hB36 := hB36.lt
         have lt_hB86 := hB86.lt
         refine st (by rfl) (S_call (args := [.pointer (some ⟨q, 0, none⟩), .int .i64 (nA n)]) (by kernel_rfl) ((by have q := IH (nA n).toNat (by omega) G100 t100 _ hL hB hGF hle; rw [show (((nA n).toNat : Nat) : Int) = nA n by omega] at q; exact q)) ?_)
         rintro _ w103 ⟨rfl, G104, t104, hB, hM104, hle, he104⟩
         have hL := hL.tchS hM104.1 hGF
         have hB6 := hB6.tch hM104.1 (fun e => nhB_hB6 e)
         have hB36 := hB36.tch hM104.1 (fun e => nhB_hB36 e)
         have hB86 := hB86.tch hM104.1 (fun e => nhB_hB86 e)
         have hMv := hMv.trans hM104
         have hGF : ∀ b, G104 b → ¬ F b := fun b hb => (hM104.2 b hb).elim (hGF b) (fun q hf => by have := hltL b hf; omega)
         have nhB_hB6 : ¬ G104 (w1.heap.size) := fun e => (hM104.2 _ e).elim nhB_hB6 (fun q => by omega)
         have nhB_hB36 : ¬ G104 (w31.heap.size) := fun e => (hM104.2 _ e).elim nhB_hB36 (fun q => by omega)
         have nhB_hB86 : ¬ G104 (w33.heap.size) := fun e => (hM104.2 _ e).elim nhB_hB86 (fun q => by omega)
         refine zS [(13, errV (decide (t100.length + (txt N (nA n).toNat).length ≤ 4096)))] ?_
         refine op_nil ?_
         refine zQ ?_
         refine zS [(132, errV (decide (t100.length + (txt N (nA n).toNat).length ≤ 4096)))] ?_
         refine stv (v := .bool (!(decide (t100.length + (txt N (nA n).toNat).length ≤ 4096)))) (by rfl) (R_errNeq (by kernel_rfl)) ?_
         refine zO (!(decide (t100.length + (txt N (nA n).toNat).length ≤ 4096))) (fun hc105 => ?_) (fun hc105 => ?_)
         ·
          replace hc105 : 4096 < t100.length + (txt N (nA n).toNat).length := (Nat.not_le.1 (of_decide_eq_false (not_t hc105)))
          refine zQ ?_
          refine zS [(134, errV (decide (t100.length + (txt N (nA n).toNat).length ≤ 4096))), (4, errV (decide (t100.length + (txt N (nA n).toNat).length ≤ 4096)))] ?_
          refine op_nil ?_
          refine W_ret ?_
          exact ⟨_, Res_of (v := errV (decide (t100.length + (txt N (nA n).toNat).length ≤ 4096))) (by kernel_rfl), ⟨err_eq (by omega), _, _, hB, hMv, hle, fun h => by exfalso; omega⟩⟩
         ·
          replace hc105 : t100.length + (txt N (nA n).toNat).length ≤ 4096 := (of_decide_eq_true (not_f hc105))
          have e106 := he104 hc105
          have e106l : t104.length = _ := (congrArg List.length e106).trans (List.length_append)
          try simp only [List.length_cons, List.length_nil] at e106l
          refine W_skip ?_
          refine zR ?_
          refine zS [(135, .int .i64 1), (120, .int .i64 1)] ?_
          refine op_nil ?_
          refine Un_s ?_
          refine W_seq ?_
          refine zF [(0, .pointer (some ⟨q, 0, none⟩)), (1, .int .i64 ((i : Nat) : Int)), (4, .nilIface), (5, .pointer (some ⟨w1.heap.size, 0, none⟩)), (7, .string (bsT (([40]) ++ (wordT (nO n).toNat)))), (8, .slice (some ⟨w33.heap.size, 0, none⟩) 3 3), (9, errV (decide (t.length + (([40]) ++ (wordT (nO n).toNat)).length ≤ 4096))), (11, .int .i64 (nA n)), (12, errV (decide (t96.length + 1 ≤ 4096))), (13, errV (decide (t100.length + (txt N (nA n).toNat).length ≤ 4096))), (24, .int .i64 (nO n)), (25, .bool ((nO n) == 20)), (37, .bool ((nO n) == 21)), (57, .bool ((nO n) == 23)), (72, .bool ((nO n) == 26)), (87, .bool ((nO n) == 22)), (116, .bool (!(decide (t.length + (([40]) ++ (wordT (nO n).toNat)).length ≤ 4096)))), (118, .slice (some ⟨w33.heap.size, 0, none⟩) 3 3), (119, .int .i64 3), (120, .int .i64 1), (121, .bool true), (127, .bool (!(decide (t96.length + 1 ≤ 4096)))), (133, .bool (!(decide (t100.length + (txt N (nA n).toNat).length ≤ 4096))))] fun ρ => ?_
          refine zR ?_
          refine zS [(121, .bool true)] ?_
          refine op_nil ?_
          refine W_seq ?_
          refine zW true (fun _ => ?_) (fun h => nomatch h)
          refine W_skip ?_
          refine W_seq ?_
          refine W_block ?_
          refine zQ ?_
          refine stv (v := .pointer (some ⟨w33.heap.size, 1, none⟩)) (by rfl) (R_index1 (b := w33.heap.size) (off := 0) (len := 3) (cap := 3) (k := .i64) (i := 1) (e := 3) (by kernel_rfl) (by kernel_rfl) (by kernel_rfl) (by kernel_rfl) (by omega) (by omega)) ?_
          refine zL (.int .i64 (nB n)) ((hB86.cell 1).trans rfl) ?_
          refine zS [(11, .int .i64 (nB n))] ?_
          refine op_nil ?_
          refine W_seq ?_
          refine zQ ?_
          refine zS [(124, .pointer (some ⟨q, 0, none⟩))] ?_
          have hltL := hL.lt
          have lt_hB6 := hB6.lt
          have lt_hB36 := hB36.lt
          have lt_hB86 := hB86.lt
          refine zC (add_ok G104 q p t104 ([32]) _ hB hle (by decide)) ?_
          rintro _ w107 ⟨rfl, G108, t108, hB, hM108, hle, he108⟩
          have hL := hL.tchS hM108.1 hGF
          have hB6 := hB6.tch hM108.1 (fun e => nhB_hB6 e)
          have hB36 := hB36.tch hM108.1 (fun e => nhB_hB36 e)
          have hB86 := hB86.tch hM108.1 (fun e => nhB_hB86 e)
          have hMv := hMv.trans hM108
          have hGF : ∀ b, G108 b → ¬ F b := fun b hb => (hM108.2 b hb).elim (hGF b) (fun q hf => by have := hltL b hf; omega)
          have nhB_hB6 : ¬ G108 (w1.heap.size) := fun e => (hM108.2 _ e).elim nhB_hB6 (fun q => by omega)
          have nhB_hB36 : ¬ G108 (w31.heap.size) := fun e => (hM108.2 _ e).elim nhB_hB36 (fun q => by omega)
          have nhB_hB86 : ¬ G108 (w33.heap.size) := fun e => (hM108.2 _ e).elim nhB_hB86 (fun q => by omega)
          refine zS [(12, errV (decide (t104.length + 1 ≤ 4096)))] ?_
          refine op_nil ?_
          refine zQ ?_
          refine zS [(126, errV (decide (t104.length + 1 ≤ 4096)))] ?_
          refine stv (v := .bool (!(decide (t104.length + 1 ≤ 4096)))) (by rfl) (R_errNeq (by kernel_rfl)) ?_
          refine zO (!(decide (t104.length + 1 ≤ 4096))) (fun hc109 => ?_) (fun hc109 => ?_)
          ·
           replace hc109 : 4096 < t104.length + 1 := (Nat.not_le.1 (of_decide_eq_false (not_t hc109)))
           refine W_seq ?_
           refine zF [(0, .pointer (some ⟨q, 0, none⟩)), (1, .int .i64 ((i : Nat) : Int)), (4, .nilIface), (5, .pointer (some ⟨w1.heap.size, 0, none⟩)), (7, .string (bsT (([40]) ++ (wordT (nO n).toNat)))), (8, .slice (some ⟨w33.heap.size, 0, none⟩) 3 3), (9, errV (decide (t.length + (([40]) ++ (wordT (nO n).toNat)).length ≤ 4096))), (11, .int .i64 (nB n)), (12, errV (decide (t104.length + 1 ≤ 4096))), (13, errV (decide (t100.length + (txt N (nA n).toNat).length ≤ 4096))), (24, .int .i64 (nO n)), (25, .bool ((nO n) == 20)), (37, .bool ((nO n) == 21)), (57, .bool ((nO n) == 23)), (72, .bool ((nO n) == 26)), (87, .bool ((nO n) == 22)), (116, .bool (!(decide (t.length + (([40]) ++ (wordT (nO n).toNat)).length ≤ 4096)))), (118, .slice (some ⟨w33.heap.size, 0, none⟩) 3 3), (119, .int .i64 3), (120, .int .i64 1), (121, .bool true), (127, .bool (!(decide (t104.length + 1 ≤ 4096)))), (133, .bool (!(decide (t100.length + (txt N (nA n).toNat).length ≤ 4096))))] fun ρ => ?_
           refine zR ?_
           refine zS [(128, errV (decide (t104.length + 1 ≤ 4096))), (4, errV (decide (t104.length + 1 ≤ 4096)))] ?_
           refine op_nil ?_
           refine W_ret ?_
           exact ⟨_, Res_of (v := errV (decide (t104.length + 1 ≤ 4096))) (by kernel_rfl), ⟨err_eq (by omega), _, _, hB, hMv, hle, fun h => by exfalso; omega⟩⟩
          ·
           replace hc109 : t104.length + 1 ≤ 4096 := (of_decide_eq_true (not_f hc109))
           have e110 := he108 hc109
           have e110l : t108.length = _ := (congrArg List.length e110).trans (List.length_append)
           try simp only [List.length_cons, List.length_nil] at e110l
           refine W_skip ?_
           refine W_seq ?_
           refine zF [(0, .pointer (some ⟨q, 0, none⟩)), (1, .int .i64 ((i : Nat) : Int)), (4, .nilIface), (5, .pointer (some ⟨w1.heap.size, 0, none⟩)), (7, .string (bsT (([40]) ++ (wordT (nO n).toNat)))), (8, .slice (some ⟨w33.heap.size, 0, none⟩) 3 3), (9, errV (decide (t.length + (([40]) ++ (wordT (nO n).toNat)).length ≤ 4096))), (11, .int .i64 (nB n)), (12, errV (decide (t104.length + 1 ≤ 4096))), (13, errV (decide (t100.length + (txt N (nA n).toNat).length ≤ 4096))), (24, .int .i64 (nO n)), (25, .bool ((nO n) == 20)), (37, .bool ((nO n) == 21)), (57, .bool ((nO n) == 23)), (72, .bool ((nO n) == 26)), (87, .bool ((nO n) == 22)), (116, .bool (!(decide (t.length + (([40]) ++ (wordT (nO n).toNat)).length ≤ 4096)))), (118, .slice (some ⟨w33.heap.size, 0, none⟩) 3 3), (119, .int .i64 3), (120, .int .i64 1), (121, .bool true), (127, .bool (!(decide (t104.length + 1 ≤ 4096)))), (133, .bool (!(decide (t100.length + (txt N (nA n).toNat).length ≤ 4096))))] fun ρ => ?_
           refine zR ?_
           refine zS [(129, .pointer (some ⟨q, 0, none⟩)), (130, .int .i64 (nB n))] ?_
           have hltL := hL.lt
           have lt_hB6 := hB6.lt
           have lt_hB36 := hB36.lt
           have lt_hB86 := hB86.lt
           refine st (by rfl) (S_call (args := [.pointer (some ⟨q, 0, none⟩), .int .i64 (nB n)]) (by kernel_rfl) ((by have q := IH (nB n).toNat (by omega) G108 t108 _ hL hB hGF hle; rw [show (((nB n).toNat : Nat) : Int) = nB n by omega] at q; exact q)) ?_)
           rintro _ w111 ⟨rfl, G112, t112, hB, hM112, hle, he112⟩
           have hL := hL.tchS hM112.1 hGF
           have hB6 := hB6.tch hM112.1 (fun e => nhB_hB6 e)
           have hB36 := hB36.tch hM112.1 (fun e => nhB_hB36 e)
           have hB86 := hB86.tch hM112.1 (fun e => nhB_hB86 e)
           have hMv := hMv.trans hM112
           have hGF : ∀ b, G112 b → ¬ F b := fun b hb => (hM112.2 b hb).elim (hGF b) (fun q hf => by have := hltL b hf; omega)
           have nhB_hB6 : ¬ G112 (w1.heap.size) := fun e => (hM112.2 _ e).elim nhB_hB6 (fun q => by omega)
           have nhB_hB36 : ¬ G112 (w31.heap.size) := fun e => (hM112.2 _ e).elim nhB_hB36 (fun q => by omega)
           have nhB_hB86 : ¬ G112 (w33.heap.size) := fun e => (hM112.2 _ e).elim nhB_hB86 (fun q => by omega)
           refine zS [(13, errV (decide (t108.length + (txt N (nB n).toNat).length ≤ 4096)))] ?_
           refine op_nil ?_
           refine zQ ?_
           refine zS [(132, errV (decide (t108.length + (txt N (nB n).toNat).length ≤ 4096)))] ?_
           refine stv (v := .bool (!(decide (t108.length + (txt N (nB n).toNat).length ≤ 4096)))) (by rfl) (R_errNeq (by kernel_rfl)) ?_
           refine zO (!(decide (t108.length + (txt N (nB n).toNat).length ≤ 4096))) (fun hc113 => ?_) (fun hc113 => ?_)
           ·
            replace hc113 : 4096 < t108.length + (txt N (nB n).toNat).length := (Nat.not_le.1 (of_decide_eq_false (not_t hc113)))
            refine zQ ?_
            refine zS [(134, errV (decide (t108.length + (txt N (nB n).toNat).length ≤ 4096))), (4, errV (decide (t108.length + (txt N (nB n).toNat).length ≤ 4096)))] ?_
            refine op_nil ?_
            refine W_ret ?_
            exact ⟨_, Res_of (v := errV (decide (t108.length + (txt N (nB n).toNat).length ≤ 4096))) (by kernel_rfl), ⟨err_eq (by omega), _, _, hB, hMv, hle, fun h => by exfalso; omega⟩⟩
           ·
            replace hc113 : t108.length + (txt N (nB n).toNat).length ≤ 4096 := (of_decide_eq_true (not_f hc113))
            have e114 := he112 hc113
            have e114l : t112.length = _ := (congrArg List.length e114).trans (List.length_append)
            try simp only [List.length_cons, List.length_nil] at e114l
            refine W_skip ?_
            refine zR ?_
            refine zS [(135, .int .i64 2), (120, .int .i64 2)] ?_
            refine op_nil ?_
            refine Un_s ?_
            refine W_seq ?_
            refine zF [(0, .pointer (some ⟨q, 0, none⟩)), (1, .int .i64 ((i : Nat) : Int)), (4, .nilIface), (5, .pointer (some ⟨w1.heap.size, 0, none⟩)), (7, .string (bsT (([40]) ++ (wordT (nO n).toNat)))), (8, .slice (some ⟨w33.heap.size, 0, none⟩) 3 3), (9, errV (decide (t.length + (([40]) ++ (wordT (nO n).toNat)).length ≤ 4096))), (11, .int .i64 (nB n)), (12, errV (decide (t104.length + 1 ≤ 4096))), (13, errV (decide (t108.length + (txt N (nB n).toNat).length ≤ 4096))), (24, .int .i64 (nO n)), (25, .bool ((nO n) == 20)), (37, .bool ((nO n) == 21)), (57, .bool ((nO n) == 23)), (72, .bool ((nO n) == 26)), (87, .bool ((nO n) == 22)), (116, .bool (!(decide (t.length + (([40]) ++ (wordT (nO n).toNat)).length ≤ 4096)))), (118, .slice (some ⟨w33.heap.size, 0, none⟩) 3 3), (119, .int .i64 3), (120, .int .i64 2), (121, .bool true), (127, .bool (!(decide (t104.length + 1 ≤ 4096)))), (133, .bool (!(decide (t108.length + (txt N (nB n).toNat).length ≤ 4096))))] fun ρ => ?_
            refine zR ?_
            refine zS [(121, .bool true)] ?_
            refine op_nil ?_
            refine W_seq ?_
            refine zW true (fun _ => ?_) (fun h => nomatch h)
            refine W_skip ?_
            refine W_seq ?_
            refine W_block ?_
            refine zQ ?_
            refine stv (v := .pointer (some ⟨w33.heap.size, 2, none⟩)) (by rfl) (R_index1 (b := w33.heap.size) (off := 0) (len := 3) (cap := 3) (k := .i64) (i := 2) (e := 3) (by kernel_rfl) (by kernel_rfl) (by kernel_rfl) (by kernel_rfl) (by omega) (by omega)) ?_
            refine zL (.int .i64 (nC n)) ((hB86.cell 2).trans rfl) ?_
            refine zS [(11, .int .i64 (nC n))] ?_
            refine op_nil ?_
            refine W_seq ?_
            refine zQ ?_
            refine zS [(124, .pointer (some ⟨q, 0, none⟩))] ?_
            have hltL := hL.lt
            have lt_hB6 := hB6.lt
            have lt_hB36 := hB36.lt
            have lt_hB86 := hB86.lt
            refine zC (add_ok G112 q p t112 ([32]) _ hB hle (by decide)) ?_
            rintro _ w115 ⟨rfl, G116, t116, hB, hM116, hle, he116⟩
            have hL := hL.tchS hM116.1 hGF
            have hB6 := hB6.tch hM116.1 (fun e => nhB_hB6 e)
            have hB36 := hB36.tch hM116.1 (fun e => nhB_hB36 e)
            have hB86 := hB86.tch hM116.1 (fun e => nhB_hB86 e)
            have hMv := hMv.trans hM116
            have hGF : ∀ b, G116 b → ¬ F b := fun b hb => (hM116.2 b hb).elim (hGF b) (fun q hf => by have := hltL b hf; omega)
            have nhB_hB6 : ¬ G116 (w1.heap.size) := fun e => (hM116.2 _ e).elim nhB_hB6 (fun q => by omega)
            have nhB_hB36 : ¬ G116 (w31.heap.size) := fun e => (hM116.2 _ e).elim nhB_hB36 (fun q => by omega)
            have nhB_hB86 : ¬ G116 (w33.heap.size) := fun e => (hM116.2 _ e).elim nhB_hB86 (fun q => by omega)
            refine zS [(12, errV (decide (t112.length + 1 ≤ 4096)))] ?_
            refine op_nil ?_
            refine zQ ?_
            refine zS [(126, errV (decide (t112.length + 1 ≤ 4096)))] ?_
            refine stv (v := .bool (!(decide (t112.length + 1 ≤ 4096)))) (by rfl) (R_errNeq (by kernel_rfl)) ?_
            refine zO (!(decide (t112.length + 1 ≤ 4096))) (fun hc117 => ?_) (fun hc117 => ?_)
            ·
             replace hc117 : 4096 < t112.length + 1 := (Nat.not_le.1 (of_decide_eq_false (not_t hc117)))
             refine W_seq ?_
             refine zF [(0, .pointer (some ⟨q, 0, none⟩)), (1, .int .i64 ((i : Nat) : Int)), (4, .nilIface), (5, .pointer (some ⟨w1.heap.size, 0, none⟩)), (7, .string (bsT (([40]) ++ (wordT (nO n).toNat)))), (8, .slice (some ⟨w33.heap.size, 0, none⟩) 3 3), (9, errV (decide (t.length + (([40]) ++ (wordT (nO n).toNat)).length ≤ 4096))), (11, .int .i64 (nC n)), (12, errV (decide (t112.length + 1 ≤ 4096))), (13, errV (decide (t108.length + (txt N (nB n).toNat).length ≤ 4096))), (24, .int .i64 (nO n)), (25, .bool ((nO n) == 20)), (37, .bool ((nO n) == 21)), (57, .bool ((nO n) == 23)), (72, .bool ((nO n) == 26)), (87, .bool ((nO n) == 22)), (116, .bool (!(decide (t.length + (([40]) ++ (wordT (nO n).toNat)).length ≤ 4096)))), (118, .slice (some ⟨w33.heap.size, 0, none⟩) 3 3), (119, .int .i64 3), (120, .int .i64 2), (121, .bool true), (127, .bool (!(decide (t112.length + 1 ≤ 4096)))), (133, .bool (!(decide (t108.length + (txt N (nB n).toNat).length ≤ 4096))))] fun ρ => ?_
             refine zR ?_
             refine zS [(128, errV (decide (t112.length + 1 ≤ 4096))), (4, errV (decide (t112.length + 1 ≤ 4096)))] ?_
             refine op_nil ?_
             refine W_ret ?_
             exact ⟨_, Res_of (v := errV (decide (t112.length + 1 ≤ 4096))) (by kernel_rfl), ⟨err_eq (by omega), _, _, hB, hMv, hle, fun h => by exfalso; omega⟩⟩
            ·
             replace hc117 : t112.length + 1 ≤ 4096 := (of_decide_eq_true (not_f hc117))
             have e118 := he116 hc117
             have e118l : t116.length = _ := (congrArg List.length e118).trans (List.length_append)
             try simp only [List.length_cons, List.length_nil] at e118l
             refine W_skip ?_
             refine W_seq ?_
             refine zF [(0, .pointer (some ⟨q, 0, none⟩)), (1, .int .i64 ((i : Nat) : Int)), (4, .nilIface), (5, .pointer (some ⟨w1.heap.size, 0, none⟩)), (7, .string (bsT (([40]) ++ (wordT (nO n).toNat)))), (8, .slice (some ⟨w33.heap.size, 0, none⟩) 3 3), (9, errV (decide (t.length + (([40]) ++ (wordT (nO n).toNat)).length ≤ 4096))), (11, .int .i64 (nC n)), (12, errV (decide (t112.length + 1 ≤ 4096))), (13, errV (decide (t108.length + (txt N (nB n).toNat).length ≤ 4096))), (24, .int .i64 (nO n)), (25, .bool ((nO n) == 20)), (37, .bool ((nO n) == 21)), (57, .bool ((nO n) == 23)), (72, .bool ((nO n) == 26)), (87, .bool ((nO n) == 22)), (116, .bool (!(decide (t.length + (([40]) ++ (wordT (nO n).toNat)).length ≤ 4096)))), (118, .slice (some ⟨w33.heap.size, 0, none⟩) 3 3), (119, .int .i64 3), (120, .int .i64 2), (121, .bool true), (127, .bool (!(decide (t112.length + 1 ≤ 4096)))), (133, .bool (!(decide (t108.length + (txt N (nB n).toNat).length ≤ 4096))))] fun ρ => ?_
             refine zR ?_
             refine zS [(129, .pointer (some ⟨q, 0, none⟩)), (130, .int .i64 (nC n))] ?_
             have hltL := hL.lt
             have lt_hB6 := hB6.lt
             have lt_hB36 := hB36.lt
             have lt_hB86 := hB86.lt
             refine st (by rfl) (S_call (args := [.pointer (some ⟨q, 0, none⟩), .int .i64 (nC n)]) (by kernel_rfl) ((by have q := IH (nC n).toNat (by omega) G116 t116 _ hL hB hGF hle; rw [show (((nC n).toNat : Nat) : Int) = nC n by omega] at q; exact q)) ?_)
             rintro _ w119 ⟨rfl, G120, t120, hB, hM120, hle, he120⟩
             have hL := hL.tchS hM120.1 hGF
             have hB6 := hB6.tch hM120.1 (fun e => nhB_hB6 e)
             have hB36 := hB36.tch hM120.1 (fun e => nhB_hB36 e)
             have hB86 := hB86.tch hM120.1 (fun e => nhB_hB86 e)
             have hMv := hMv.trans hM120
             have hGF : ∀ b, G120 b → ¬ F b := fun b hb => (hM120.2 b hb).elim (hGF b) (fun q hf => by have := hltL b hf; omega)
             have nhB_hB6 : ¬ G120 (w1.heap.size) := fun e => (hM120.2 _ e).elim nhB_hB6 (fun q => by omega)
             have nhB_hB36 : ¬ G120 (w31.heap.size) := fun e => (hM120.2 _ e).elim nhB_hB36 (fun q => by omega)
             have nhB_hB86 : ¬ G120 (w33.heap.size) := fun e => (hM120.2 _ e).elim nhB_hB86 (fun q => by omega)
             refine zS [(13, errV (decide (t116.length + (txt N (nC n).toNat).length ≤ 4096)))] ?_
             refine op_nil ?_
             refine zQ ?_
             refine zS [(132, errV (decide (t116.length + (txt N (nC n).toNat).length ≤ 4096)))] ?_
             refine stv (v := .bool (!(decide (t116.length + (txt N (nC n).toNat).length ≤ 4096)))) (by rfl) (R_errNeq (by kernel_rfl)) ?_
             refine zO (!(decide (t116.length + (txt N (nC n).toNat).length ≤ 4096))) (fun hc121 => ?_) (fun hc121 => ?_)
             ·
              replace hc121 : 4096 < t116.length + (txt N (nC n).toNat).length := (Nat.not_le.1 (of_decide_eq_false (not_t hc121)))
              refine zQ ?_
              refine zS [(134, errV (decide (t116.length + (txt N (nC n).toNat).length ≤ 4096))), (4, errV (decide (t116.length + (txt N (nC n).toNat).length ≤ 4096)))] ?_
              refine op_nil ?_
              refine W_ret ?_
              exact ⟨_, Res_of (v := errV (decide (t116.length + (txt N (nC n).toNat).length ≤ 4096))) (by kernel_rfl), ⟨err_eq (by omega), _, _, hB, hMv, hle, fun h => by exfalso; omega⟩⟩
             ·
              replace hc121 : t116.length + (txt N (nC n).toNat).length ≤ 4096 := (of_decide_eq_true (not_f hc121))
              have e122 := he120 hc121
              have e122l : t120.length = _ := (congrArg List.length e122).trans (List.length_append)
              try simp only [List.length_cons, List.length_nil] at e122l
              refine W_skip ?_
              refine zR ?_
              refine zS [(135, .int .i64 3), (120, .int .i64 3)] ?_
              refine op_nil ?_
              refine Un_s ?_
              refine W_seq ?_
              refine zF [(0, .pointer (some ⟨q, 0, none⟩)), (1, .int .i64 ((i : Nat) : Int)), (4, .nilIface), (5, .pointer (some ⟨w1.heap.size, 0, none⟩)), (7, .string (bsT (([40]) ++ (wordT (nO n).toNat)))), (8, .slice (some ⟨w33.heap.size, 0, none⟩) 3 3), (9, errV (decide (t.length + (([40]) ++ (wordT (nO n).toNat)).length ≤ 4096))), (11, .int .i64 (nC n)), (12, errV (decide (t112.length + 1 ≤ 4096))), (13, errV (decide (t116.length + (txt N (nC n).toNat).length ≤ 4096))), (24, .int .i64 (nO n)), (25, .bool ((nO n) == 20)), (37, .bool ((nO n) == 21)), (57, .bool ((nO n) == 23)), (72, .bool ((nO n) == 26)), (87, .bool ((nO n) == 22)), (116, .bool (!(decide (t.length + (([40]) ++ (wordT (nO n).toNat)).length ≤ 4096)))), (118, .slice (some ⟨w33.heap.size, 0, none⟩) 3 3), (119, .int .i64 3), (120, .int .i64 3), (121, .bool true), (127, .bool (!(decide (t112.length + 1 ≤ 4096)))), (133, .bool (!(decide (t116.length + (txt N (nC n).toNat).length ≤ 4096))))] fun ρ => ?_
              refine zR ?_
              refine zS [(121, .bool false)] ?_
              refine op_nil ?_
              refine W_seq ?_
              refine zW false (fun h => nomatch h) (fun _ => ?_)
              refine W_exit ?_
              refine X_hit ?_
              refine zQ ?_
              refine zS [(136, .pointer (some ⟨q, 0, none⟩))] ?_
              have hltL := hL.lt
              have lt_hB6 := hB6.lt
              have lt_hB36 := hB36.lt
              have lt_hB86 := hB86.lt
              refine zC (add_ok G120 q p t120 ([41]) _ hB hle (by decide)) ?_
              rintro _ w123 ⟨rfl, G124, t124, hB, hM124, hle, he124⟩
              have hL := hL.tchS hM124.1 hGF
              have hB6 := hB6.tch hM124.1 (fun e => nhB_hB6 e)
              have hB36 := hB36.tch hM124.1 (fun e => nhB_hB36 e)
              have hB86 := hB86.tch hM124.1 (fun e => nhB_hB86 e)
              have hMv := hMv.trans hM124
              have hGF : ∀ b, G124 b → ¬ F b := fun b hb => (hM124.2 b hb).elim (hGF b) (fun q hf => by have := hltL b hf; omega)
              have nhB_hB6 : ¬ G124 (w1.heap.size) := fun e => (hM124.2 _ e).elim nhB_hB6 (fun q => by omega)
              have nhB_hB36 : ¬ G124 (w31.heap.size) := fun e => (hM124.2 _ e).elim nhB_hB36 (fun q => by omega)
              have nhB_hB86 : ¬ G124 (w33.heap.size) := fun e => (hM124.2 _ e).elim nhB_hB86 (fun q => by omega)
              refine zS [(4, errV (decide (t120.length + 1 ≤ 4096)))] ?_
              refine op_nil ?_
              refine W_ret ?_
              refine ⟨_, Res_of (v := errV (decide (t120.length + 1 ≤ 4096))) (by kernel_rfl), ?_⟩
              refine ⟨err_eq (by omega), _, _, hB, hMv, hle, fun h => ?_⟩
              rw [he124 (show _ + 1 ≤ 4096 by omega), e122, e118, e114, e110, e106, e102, e98, hhd, htx]
              simp only [List.append_assoc]
      ·
       replace hc82 : nO n ≠ 22 := (ne_of_beq_false hc82)
       refine zQ ?_
       refine zS [(99, .pointer (some ⟨w1.heap.size, 0, none⟩))] ?_
       refine zL (.int .i64 (nO n)) ((hB6.cell 0).trans rfl) ?_
       refine zS [(101, .bool (decide (nO n ≤ 14))), (102, .bool (decide (nO n ≤ 14)))] ?_
       cases hb125 : decide (nO n ≤ 14)
       ·
        replace hb125 : 14 < nO n := (Int.not_le.1 (of_decide_eq_false hb125))
        refine zS [(103, .pointer (some ⟨w1.heap.size, 0, none⟩))] ?_
        refine zL (.int .i64 (nO n)) ((hB6.cell 0).trans rfl) ?_
        refine zS [(105, .bool ((nO n) == 24)), (106, .bool ((nO n) == 24)), (98, .bool ((nO n) == 24))] ?_
        refine zO ((nO n) == 24) (fun hc126 => ?_) (fun hc126 => ?_)
        ·
         replace hc126 : nO n = 24 := (eq_of_beq hc126)
         refine zF [(0, .pointer (some ⟨q, 0, none⟩)), (1, .int .i64 ((i : Nat) : Int)), (4, .nilIface), (5, .pointer (some ⟨w1.heap.size, 0, none⟩)), (7, .string (bsT (([40]) ++ (wordT (nO n).toNat)))), (8, .slice (some ⟨w31.heap.size, 0, none⟩) 1 1), (24, .int .i64 (nO n)), (25, .bool ((nO n) == 20)), (37, .bool ((nO n) == 21)), (57, .bool ((nO n) == 23)), (72, .bool ((nO n) == 26)), (87, .bool ((nO n) == 22)), (98, .bool ((nO n) == 24))] fun ρ => ?_
         refine zR ?_
         refine zS [(107, .pointer (some ⟨w1.heap.size, 2, none⟩))] ?_
         refine zL (.int .i64 (nA n)) ((hB6.cell 2).trans rfl) ?_
         refine zS [(109, .pointer (some ⟨w1.heap.size, 3, none⟩))] ?_
         refine zL (.int .i64 (nB n)) ((hB6.cell 3).trans rfl) ?_
         have hltF := hL.lt
         have hltG := hB.lt
         have hz131 := hMv.1.size
         have lt132 := hB6.lt
         have lt133 := hB36.lt
         have l134 := hB6.lt
         have l135 := hB36.lt
         refine st (by rfl) (S_new (v := .slice (some ⟨w33.heap.size, 0, none⟩) 2 2) (ob := .cells #[.int .i64 (nA n), .int .i64 (nB n)] 3) (by kernel_rfl) fun w127 hT128 hs129 hB130 => ?_)
         replace hB130 : Blk w127 (w33.heap.size) 3 [.int .i64 (nA n), .int .i64 (nB n)] := hB130
         have hL := hL.tch0 hT128
         have hB := hB.tch0 hT128
         have hMv := hMv.then0 hT128
         have hB6 := hB6.tch0 hT128
         have hB36 := hB36.tch0 hT128
         have nhL_hB130 : ¬ F (w33.heap.size) := fun e => by have := hltF _ e; omega
         have nhB_hB130 : ¬ G (w33.heap.size) := fun e => by have := hltG _ e; omega
         refine zS [(8, .slice (some ⟨w33.heap.size, 0, none⟩) 2 2)] ?_
         refine op_nil ?_
         refine W_seq ?_
         refine W_seq ?_
         have hhd : ([40]) ++ (wordT (nO n).toNat) = hdT n := by unfold hdT; first | (rw [mid23 (by omega)] <;> simp only [List.append_assoc]) | (rw [mid25 (by omega)] <;> simp only [List.append_assoc]) | (rw [mid0 (by omega) (by omega)] <;> simp only [List.append_assoc, List.append_nil])
         have hhl := hd_len (fun e => (hn.pos (by omega) (by omega)).2.1 (by omega)) (by omega) hw
         have hHl : (([40]) ++ (wordT (nO n).toNat)).length = (hdT n).length := congrArg List.length hhd
         have hkids : kidsN n = [(nA n).toNat, (nB n).toNat] := by unfold kidsN; first | (rw [if_neg (by omega), if_pos (by omega)]) | (rw [if_neg (by omega), if_neg (by omega), if_pos (by omega)]) | (rw [if_neg (by omega), if_neg (by omega), if_neg (by omega)])
         obtain ⟨hp1, hp2, hp3, _⟩ := hn.pos (by omega) (by omega)
         have hp2 := hp2 (by omega)
         have hk136 := kids_lt hn (nA n).toNat (by rw [hkids]; simp)
         have hk137 := kids_lt hn (nB n).toNat (by rw [hkids]; simp)
         have htx := txt_k2 hni hn (by omega) (by omega) hkids
         have hlen := congrArg List.length htx
         simp only [List.length_append, List.length_cons, List.length_nil] at hlen
         refine zR ?_
         refine zS [(112, .pointer (some ⟨q, 0, none⟩)), (113, .string (bsT (([40]) ++ (wordT (nO n).toNat))))] ?_
         have hltL := hL.lt
         have lt_hB6 := hB6.lt
         have lt_hB36 := hB36.lt
         have lt_hB130 := hB130.lt
         refine zC (add_ok G q p t (([40]) ++ (wordT (nO n).toNat)) _ hB hle (by omega)) ?_
         rintro _ w138 ⟨rfl, G139, t139, hB, hM139, hle, he139⟩
         have hL := hL.tchS hM139.1 hGF
         have hB6 := hB6.tch hM139.1 (fun e => nhB_hB6 e)
         have hB36 := hB36.tch hM139.1 (fun e => nhB_hB36 e)
         have hB130 := hB130.tch hM139.1 (fun e => nhB_hB130 e)
         have hMv := hMv.trans hM139
         have hGF : ∀ b, G139 b → ¬ F b := fun b hb => (hM139.2 b hb).elim (hGF b) (fun q hf => by have := hltL b hf; omega)
         have nhB_hB6 : ¬ G139 (w1.heap.size) := fun e => (hM139.2 _ e).elim nhB_hB6 (fun q => by omega)
         have nhB_hB36 : ¬ G139 (w31.heap.size) := fun e => (hM139.2 _ e).elim nhB_hB36 (fun q => by omega)
         have nhB_hB130 : ¬ G139 (w33.heap.size) := fun e => (hM139.2 _ e).elim nhB_hB130 (fun q => by omega)
         refine zS [(9, errV (decide (t.length + (([40]) ++ (wordT (nO n).toNat)).length ≤ 4096)))] ?_
         refine op_nil ?_
         refine W_seq ?_
         refine zF [(0, .pointer (some ⟨q, 0, none⟩)), (1, .int .i64 ((i : Nat) : Int)), (4, .nilIface), (5, .pointer (some ⟨w1.heap.size, 0, none⟩)), (7, .string (bsT (([40]) ++ (wordT (nO n).toNat)))), (8, .slice (some ⟨w33.heap.size, 0, none⟩) 2 2), (9, errV (decide (t.length + (([40]) ++ (wordT (nO n).toNat)).length ≤ 4096))), (24, .int .i64 (nO n)), (25, .bool ((nO n) == 20)), (37, .bool ((nO n) == 21)), (57, .bool ((nO n) == 23)), (72, .bool ((nO n) == 26)), (87, .bool ((nO n) == 22)), (98, .bool ((nO n) == 24))] fun ρ => ?_
         refine zR ?_
         refine zS [(115, errV (decide (t.length + (([40]) ++ (wordT (nO n).toNat)).length ≤ 4096)))] ?_
         refine stv (v := .bool (!(decide (t.length + (([40]) ++ (wordT (nO n).toNat)).length ≤ 4096)))) (by rfl) (R_errNeq (by kernel_rfl)) ?_
         refine zO (!(decide (t.length + (([40]) ++ (wordT (nO n).toNat)).length ≤ 4096))) (fun hc140 => ?_) (fun hc140 => ?_)
         ·
          replace hc140 : 4096 < t.length + (([40]) ++ (wordT (nO n).toNat)).length := (Nat.not_le.1 (of_decide_eq_false (not_t hc140)))
          refine zQ ?_
          refine zS [(117, errV (decide (t.length + (([40]) ++ (wordT (nO n).toNat)).length ≤ 4096))), (4, errV (decide (t.length + (([40]) ++ (wordT (nO n).toNat)).length ≤ 4096)))] ?_
          refine op_nil ?_
          refine W_ret ?_
          exact ⟨_, Res_of (v := errV (decide (t.length + (([40]) ++ (wordT (nO n).toNat)).length ≤ 4096))) (by kernel_rfl), ⟨err_eq (by omega), _, _, hB, hMv, hle, fun h => by exfalso; omega⟩⟩
         ·
          replace hc140 : t.length + (([40]) ++ (wordT (nO n).toNat)).length ≤ 4096 := (of_decide_eq_true (not_f hc140))
          have e141 := he139 hc140
          have e141l : t139.length = _ := (congrArg List.length e141).trans (List.length_append)
          try simp only [List.length_cons, List.length_nil] at e141l
          refine W_skip ?_
          refine W_seq ?_
          refine zQ ?_
          refine zS [(118, .slice (some ⟨w33.heap.size, 0, none⟩) 2 2), (119, .int .i64 2), (120, .int .i64 0)] ?_
          refine op_nil ?_
          refine W_block ?_
          refine W_un 4 ?_
          refine Un_s ?_
          refine zQ ?_
          refine zS [(121, .bool true)] ?_
          refine op_nil ?_
          refine W_seq ?_
          refine zW true (fun _ => ?_) (fun h => nomatch h)
          refine W_skip ?_
          refine W_seq ?_
          refine W_block ?_
          refine zQ ?_
          refine stv (v := .pointer (some ⟨w33.heap.size, 0, none⟩)) (by rfl) (R_index1 (b := w33.heap.size) (off := 0) (len := 2) (cap := 2) (k := .i64) (i := 0) (e := 3) (by kernel_rfl) (by kernel_rfl) (by kernel_rfl) (by kernel_rfl) (by omega) (by omega)) ?_
          refine zL (.int .i64 (nA n)) ((hB130.cell 0).trans rfl) ?_
          refine zS [(11, .int .i64 (nA n))] ?_
          refine op_nil ?_
          refine W_seq ?_
          refine W_seq ?_
          refine zF [(0, .pointer (some ⟨q, 0, none⟩)), (1, .int .i64 ((i : Nat) : Int)), (4, .nilIface), (5, .pointer (some ⟨w1.heap.size, 0, none⟩)), (7, .string (bsT (([40]) ++ (wordT (nO n).toNat)))), (8, .slice (some ⟨w33.heap.size, 0, none⟩) 2 2), (9, errV (decide (t.length + (([40]) ++ (wordT (nO n).toNat)).length ≤ 4096))), (11, .int .i64 (nA n)), (24, .int .i64 (nO n)), (25, .bool ((nO n) == 20)), (37, .bool ((nO n) == 21)), (57, .bool ((nO n) == 23)), (72, .bool ((nO n) == 26)), (87, .bool ((nO n) == 22)), (98, .bool ((nO n) == 24)), (116, .bool (!(decide (t.length + (([40]) ++ (wordT (nO n).toNat)).length ≤ 4096)))), (118, .slice (some ⟨w33.heap.size, 0, none⟩) 2 2), (119, .int .i64 2), (120, .int .i64 0), (121, .bool true)] fun ρ => ?_
          refine zR ?_
          refine zS [(124, .pointer (some ⟨q, 0, none⟩))] ?_
          have hltL := hL.lt
          have lt_hB6 := hB6.lt
          have lt_hB36 := hB36.lt
          have lt_hB130 := hB130.lt
          refine zC (add_ok G139 q p t139 ([32]) _ hB hle (by decide)) ?_
          rintro _ w142 ⟨rfl, G143, t143, hB, hM143, hle, he143⟩
          have hL := hL.tchS hM143.1 hGF
          have hB6 := hB6.tch hM143.1 (fun e => nhB_hB6 e)
          have hB36 := hB36.tch hM143.1 (fun e => nhB_hB36 e)
          have hB130 := hB130.tch hM143.1 (fun e => nhB_hB130 e)
          have hMv := hMv.trans hM143
          have hGF : ∀ b, G143 b → ¬ F b := fun b hb => (hM143.2 b hb).elim (hGF b) (fun q hf => by have := hltL b hf; omega)
          have nhB_hB6 : ¬ G143 (w1.heap.size) := fun e => (hM143.2 _ e).elim nhB_hB6 (fun q => by omega)
          have nhB_hB36 : ¬ G143 (w31.heap.size) := fun e => (hM143.2 _ e).elim nhB_hB36 (fun q => by omega)
          have nhB_hB130 : ¬ G143 (w33.heap.size) := fun e => (hM143.2 _ e).elim nhB_hB130 (fun q => by omega)
          refine zS [(12, errV (decide (t139.length + 1 ≤ 4096)))] ?_
          refine op_nil ?_
          refine zQ ?_
          refine zS [(126, errV (decide (t139.length + 1 ≤ 4096)))] ?_
          refine stv (v := .bool (!(decide (t139.length + 1 ≤ 4096)))) (by rfl) (R_errNeq (by kernel_rfl)) ?_
          refine zO (!(decide (t139.length + 1 ≤ 4096))) (fun hc144 => ?_) (fun hc144 => ?_)
          ·
           replace hc144 : 4096 < t139.length + 1 := (Nat.not_le.1 (of_decide_eq_false (not_t hc144)))
           refine zQ ?_
           refine zS [(128, errV (decide (t139.length + 1 ≤ 4096))), (4, errV (decide (t139.length + 1 ≤ 4096)))] ?_
           refine op_nil ?_
           refine W_ret ?_
           exact ⟨_, Res_of (v := errV (decide (t139.length + 1 ≤ 4096))) (by kernel_rfl), ⟨err_eq (by omega), _, _, hB, hMv, hle, fun h => by exfalso; omega⟩⟩
          ·
           replace hc144 : t139.length + 1 ≤ 4096 := (of_decide_eq_true (not_f hc144))
           have e145 := he143 hc144
           have e145l : t143.length = _ := (congrArg List.length e145).trans (List.length_append)
           try simp only [List.length_cons, List.length_nil] at e145l
           refine W_skip ?_
           refine zQ ?_
           refine zS [(129, .pointer (some ⟨q, 0, none⟩)), (130, .int .i64 (nA n))] ?_
           have hltL := hL.lt
           have lt_hB6 := hB6.lt
           have lt_hB36 := hB36.lt
           have lt_hB130 := hB130.lt
           refine st (by rfl) (S_call (args := [.pointer (some ⟨q, 0, none⟩), .int .i64 (nA n)]) (by kernel_rfl) ((by have q := IH (nA n).toNat (by omega) G143 t143 _ hL hB hGF hle; rw [show (((nA n).toNat : Nat) : Int) = nA n by omega] at q; exact q)) ?_)
           rintro _ w146 ⟨rfl, G147, t147, hB, hM147, hle, he147⟩
           have hL := hL.tchS hM147.1 hGF
           have hB6 := hB6.tch hM147.1 (fun e => nhB_hB6 e)
           have hB36 := hB36.tch hM147.1 (fun e => nhB_hB36 e)
           have hB130 := hB130.tch hM147.1 (fun e => nhB_hB130 e)
           have hMv := hMv.trans hM147
           have hGF : ∀ b, G147 b → ¬ F b := fun b hb => (hM147.2 b hb).elim (hGF b) (fun q hf => by have := hltL b hf; omega)
           have nhB_hB6 : ¬ G147 (w1.heap.size) := fun e => (hM147.2 _ e).elim nhB_hB6 (fun q => by omega)
           have nhB_hB36 : ¬ G147 (w31.heap.size) := fun e => (hM147.2 _ e).elim nhB_hB36 (fun q => by omega)
           have nhB_hB130 : ¬ G147 (w33.heap.size) := fun e => (hM147.2 _ e).elim nhB_hB130 (fun q => by omega)
           refine zS [(13, errV (decide (t143.length + (txt N (nA n).toNat).length ≤ 4096)))] ?_
           refine op_nil ?_
           refine W_seq ?_
           refine zF [(0, .pointer (some ⟨q, 0, none⟩)), (1, .int .i64 ((i : Nat) : Int)), (4, .nilIface), (5, .pointer (some ⟨w1.heap.size, 0, none⟩)), (7, .string (bsT (([40]) ++ (wordT (nO n).toNat)))), (8, .slice (some ⟨w33.heap.size, 0, none⟩) 2 2), (9, errV (decide (t.length + (([40]) ++ (wordT (nO n).toNat)).length ≤ 4096))), (11, .int .i64 (nA n)), (12, errV (decide (t139.length + 1 ≤ 4096))), (13, errV (decide (t143.length + (txt N (nA n).toNat).length ≤ 4096))), (24, .int .i64 (nO n)), (25, .bool ((nO n) == 20)), (37, .bool ((nO n) == 21)), (57, .bool ((nO n) == 23)), (72, .bool ((nO n) == 26)), (87, .bool ((nO n) == 22)), (98, .bool ((nO n) == 24)), (116, .bool (!(decide (t.length + (([40]) ++ (wordT (nO n).toNat)).length ≤ 4096)))), (118, .slice (some ⟨w33.heap.size, 0, none⟩) 2 2), (119, .int .i64 2), (120, .int .i64 0), (121, .bool true), (127, .bool (!(decide (t139.length + 1 ≤ 4096))))] fun ρ => ?_
           refine zR ?_
           refine zS [(132, errV (decide (t143.length + (txt N (nA n).toNat).length ≤ 4096)))] ?_
           refine stv (v := .bool (!(decide (t143.length + (txt N (nA n).toNat).length ≤ 4096)))) (by rfl) (R_errNeq (by kernel_rfl)) ?_
           refine zO (!(decide (t143.length + (txt N (nA n).toNat).length ≤ 4096))) (fun hc148 => ?_) (fun hc148 => ?_)
           ·
            replace hc148 : 4096 < t143.length + (txt N (nA n).toNat).length := (Nat.not_le.1 (of_decide_eq_false (not_t hc148)))
            refine zQ ?_
            refine zS [(134, errV (decide (t143.length + (txt N (nA n).toNat).length ≤ 4096))), (4, errV (decide (t143.length + (txt N (nA n).toNat).length ≤ 4096)))] ?_
            refine op_nil ?_
            refine W_ret ?_
            exact ⟨_, Res_of (v := errV (decide (t143.length + (txt N (nA n).toNat).length ≤ 4096))) (by kernel_rfl), ⟨err_eq (by omega), _, _, hB, hMv, hle, fun h => by exfalso; omega⟩⟩
           ·
            replace hc148 : t143.length + (txt N (nA n).toNat).length ≤ 4096 := (of_decide_eq_true (not_f hc148))
            have e149 := he147 hc148
            have e149l : t147.length = _ := (congrArg List.length e149).trans (List.length_append)
            try simp only [List.length_cons, List.length_nil] at e149l
            refine W_skip ?_
            refine zR ?_
            refine zS [(135, .int .i64 1), (120, .int .i64 1)] ?_
            refine op_nil ?_
            refine Un_s ?_
            refine zQ ?_
            refine zS [(121, .bool true)] ?_
            refine op_nil ?_
            refine W_seq ?_
            refine zW true (fun _ => ?_) (fun h => nomatch h)
            refine W_skip ?_
            refine W_seq ?_
            refine W_block ?_
            refine zQ ?_
            refine stv (v := .pointer (some ⟨w33.heap.size, 1, none⟩)) (by rfl) (R_index1 (b := w33.heap.size) (off := 0) (len := 2) (cap := 2) (k := .i64) (i := 1) (e := 3) (by kernel_rfl) (by kernel_rfl) (by kernel_rfl) (by kernel_rfl) (by omega) (by omega)) ?_
            refine zL (.int .i64 (nB n)) ((hB130.cell 1).trans rfl) ?_
            refine zS [(11, .int .i64 (nB n))] ?_
            refine op_nil ?_
            refine W_seq ?_
            refine W_seq ?_
            refine zF [(0, .pointer (some ⟨q, 0, none⟩)), (1, .int .i64 ((i : Nat) : Int)), (4, .nilIface), (5, .pointer (some ⟨w1.heap.size, 0, none⟩)), (7, .string (bsT (([40]) ++ (wordT (nO n).toNat)))), (8, .slice (some ⟨w33.heap.size, 0, none⟩) 2 2), (9, errV (decide (t.length + (([40]) ++ (wordT (nO n).toNat)).length ≤ 4096))), (11, .int .i64 (nB n)), (12, errV (decide (t139.length + 1 ≤ 4096))), (13, errV (decide (t143.length + (txt N (nA n).toNat).length ≤ 4096))), (24, .int .i64 (nO n)), (25, .bool ((nO n) == 20)), (37, .bool ((nO n) == 21)), (57, .bool ((nO n) == 23)), (72, .bool ((nO n) == 26)), (87, .bool ((nO n) == 22)), (98, .bool ((nO n) == 24)), (116, .bool (!(decide (t.length + (([40]) ++ (wordT (nO n).toNat)).length ≤ 4096)))), (118, .slice (some ⟨w33.heap.size, 0, none⟩) 2 2), (119, .int .i64 2), (120, .int .i64 1), (121, .bool true), (127, .bool (!(decide (t139.length + 1 ≤ 4096)))), (133, .bool (!(decide (t143.length + (txt N (nA n).toNat).length ≤ 4096))))] fun ρ => ?_
            refine zR ?_
            refine zS [(124, .pointer (some ⟨q, 0, none⟩))] ?_
            have hltL := hL.lt
            have lt_hB6 := hB6.lt
            have lt_hB36 := hB36.lt
            have lt_hB130 := hB130.lt
            refine zC (add_ok G147 q p t147 ([32]) _ hB hle (by decide)) ?_
            rintro _ w150 ⟨rfl, G151, t151, hB, hM151, hle, he151⟩
            have hL := hL.tchS hM151.1 hGF
            have hB6 := hB6.tch hM151.1 (fun e => nhB_hB6 e)
            have hB36 := hB36.tch hM151.1 (fun e => nhB_hB36 e)
            have hB130 := hB130.tch hM151.1 (fun e => nhB_hB130 e)
            have hMv := hMv.trans hM151
            have hGF : ∀ b, G151 b → ¬ F b := fun b hb => (hM151.2 b hb).elim (hGF b) (fun q hf => by have := hltL b hf; omega)
            have nhB_hB6 : ¬ G151 (w1.heap.size) := fun e => (hM151.2 _ e).elim nhB_hB6 (fun q => by omega)
            have nhB_hB36 : ¬ G151 (w31.heap.size) := fun e => (hM151.2 _ e).elim nhB_hB36 (fun q => by omega)
            have nhB_hB130 : ¬ G151 (w33.heap.size) := fun e => (hM151.2 _ e).elim nhB_hB130 (fun q => by omega)
            refine zS [(12, errV (decide (t147.length + 1 ≤ 4096)))] ?_
            refine op_nil ?_
            refine zQ ?_
            refine zS [(126, errV (decide (t147.length + 1 ≤ 4096)))] ?_
            refine stv (v := .bool (!(decide (t147.length + 1 ≤ 4096)))) (by rfl) (R_errNeq (by kernel_rfl)) ?_
            refine zO (!(decide (t147.length + 1 ≤ 4096))) (fun hc152 => ?_) (fun hc152 => ?_)
            ·
             replace hc152 : 4096 < t147.length + 1 := (Nat.not_le.1 (of_decide_eq_false (not_t hc152)))
             refine zQ ?_
             refine zS [(128, errV (decide (t147.length + 1 ≤ 4096))), (4, errV (decide (t147.length + 1 ≤ 4096)))] ?_
             refine op_nil ?_
             refine W_ret ?_
             exact ⟨_, Res_of (v := errV (decide (t147.length + 1 ≤ 4096))) (by kernel_rfl), ⟨err_eq (by omega), _, _, hB, hMv, hle, fun h => by exfalso; omega⟩⟩
            ·
             replace hc152 : t147.length + 1 ≤ 4096 := (of_decide_eq_true (not_f hc152))
             have e153 := he151 hc152
             have e153l : t151.length = _ := (congrArg List.length e153).trans (List.length_append)
             try simp only [List.length_cons, List.length_nil] at e153l
             refine W_skip ?_
             refine zQ ?_
             refine zS [(129, .pointer (some ⟨q, 0, none⟩)), (130, .int .i64 (nB n))] ?_
             have hltL := hL.lt
             have lt_hB6 := hB6.lt
             have lt_hB36 := hB36.lt
             have lt_hB130 := hB130.lt
             refine st (by rfl) (S_call (args := [.pointer (some ⟨q, 0, none⟩), .int .i64 (nB n)]) (by kernel_rfl) ((by have q := IH (nB n).toNat (by omega) G151 t151 _ hL hB hGF hle; rw [show (((nB n).toNat : Nat) : Int) = nB n by omega] at q; exact q)) ?_)
             rintro _ w154 ⟨rfl, G155, t155, hB, hM155, hle, he155⟩
             have hL := hL.tchS hM155.1 hGF
             have hB6 := hB6.tch hM155.1 (fun e => nhB_hB6 e)
             have hB36 := hB36.tch hM155.1 (fun e => nhB_hB36 e)
             have hB130 := hB130.tch hM155.1 (fun e => nhB_hB130 e)
             have hMv := hMv.trans hM155
             have hGF : ∀ b, G155 b → ¬ F b := fun b hb => (hM155.2 b hb).elim (hGF b) (fun q hf => by have := hltL b hf; omega)
             have nhB_hB6 : ¬ G155 (w1.heap.size) := fun e => (hM155.2 _ e).elim nhB_hB6 (fun q => by omega)
             have nhB_hB36 : ¬ G155 (w31.heap.size) := fun e => (hM155.2 _ e).elim nhB_hB36 (fun q => by omega)
             have nhB_hB130 : ¬ G155 (w33.heap.size) := fun e => (hM155.2 _ e).elim nhB_hB130 (fun q => by omega)
             refine zS [(13, errV (decide (t151.length + (txt N (nB n).toNat).length ≤ 4096)))] ?_
             refine op_nil ?_
             refine W_seq ?_
             refine zF [(0, .pointer (some ⟨q, 0, none⟩)), (1, .int .i64 ((i : Nat) : Int)), (4, .nilIface), (5, .pointer (some ⟨w1.heap.size, 0, none⟩)), (7, .string (bsT (([40]) ++ (wordT (nO n).toNat)))), (8, .slice (some ⟨w33.heap.size, 0, none⟩) 2 2), (9, errV (decide (t.length + (([40]) ++ (wordT (nO n).toNat)).length ≤ 4096))), (11, .int .i64 (nB n)), (12, errV (decide (t147.length + 1 ≤ 4096))), (13, errV (decide (t151.length + (txt N (nB n).toNat).length ≤ 4096))), (24, .int .i64 (nO n)), (25, .bool ((nO n) == 20)), (37, .bool ((nO n) == 21)), (57, .bool ((nO n) == 23)), (72, .bool ((nO n) == 26)), (87, .bool ((nO n) == 22)), (98, .bool ((nO n) == 24)), (116, .bool (!(decide (t.length + (([40]) ++ (wordT (nO n).toNat)).length ≤ 4096)))), (118, .slice (some ⟨w33.heap.size, 0, none⟩) 2 2), (119, .int .i64 2), (120, .int .i64 1), (121, .bool true), (127, .bool (!(decide (t147.length + 1 ≤ 4096)))), (133, .bool (!(decide (t143.length + (txt N (nA n).toNat).length ≤ 4096))))] fun ρ => ?_
             refine zR ?_
             refine zS [(132, errV (decide (t151.length + (txt N (nB n).toNat).length ≤ 4096)))] ?_
             refine stv (v := .bool (!(decide (t151.length + (txt N (nB n).toNat).length ≤ 4096)))) (by rfl) (R_errNeq (by kernel_rfl)) ?_
             refine zO (!(decide (t151.length + (txt N (nB n).toNat).length ≤ 4096))) (fun hc156 => ?_) (fun hc156 => ?_)
             ·
              replace hc156 : 4096 < t151.length + (txt N (nB n).toNat).length := (Nat.not_le.1 (of_decide_eq_false (not_t hc156)))
              refine zQ ?_
              refine zS [(134, errV (decide (t151.length + (txt N (nB n).toNat).length ≤ 4096))), (4, errV (decide (t151.length + (txt N (nB n).toNat).length ≤ 4096)))] ?_
              refine op_nil ?_
              refine W_ret ?_
              exact ⟨_, Res_of (v := errV (decide (t151.length + (txt N (nB n).toNat).length ≤ 4096))) (by kernel_rfl), ⟨err_eq (by omega), _, _, hB, hMv, hle, fun h => by exfalso; omega⟩⟩
             ·
              replace hc156 : t151.length + (txt N (nB n).toNat).length ≤ 4096 := (of_decide_eq_true (not_f hc156))
              have e157 := he155 hc156
              have e157l : t155.length = _ := (congrArg List.length e157).trans (List.length_append)
              try simp only [List.length_cons, List.length_nil] at e157l
              refine W_skip ?_
              refine zR ?_
              refine zS [(135, .int .i64 2), (120, .int .i64 2)] ?_
              refine op_nil ?_
              refine Un_s ?_
              refine zQ ?_
              refine zS [(121, .bool false)] ?_
              refine op_nil ?_
              refine W_seq ?_
              refine zW false (fun h => nomatch h) (fun _ => ?_)
              refine W_exit ?_
              refine X_hit ?_
              refine zQ ?_
              refine zS [(136, .pointer (some ⟨q, 0, none⟩))] ?_
              have hltL := hL.lt
              have lt_hB6 := hB6.lt
              have lt_hB36 := hB36.lt
              have lt_hB130 := hB130.lt
              refine zC (add_ok G155 q p t155 ([41]) _ hB hle (by decide)) ?_
              rintro _ w158 ⟨rfl, G159, t159, hB, hM159, hle, he159⟩
              have hL := hL.tchS hM159.1 hGF
              have hB6 := hB6.tch hM159.1 (fun e => nhB_hB6 e)
              have hB36 := hB36.tch hM159.1 (fun e => nhB_hB36 e)
              have hB130 := hB130.tch hM159.1 (fun e => nhB_hB130 e)
              have hMv := hMv.trans hM159
              have hGF : ∀ b, G159 b → ¬ F b := fun b hb => (hM159.2 b hb).elim (hGF b) (fun q hf => by have := hltL b hf; omega)
              have nhB_hB6 : ¬ G159 (w1.heap.size) := fun e => (hM159.2 _ e).elim nhB_hB6 (fun q => by omega)
              have nhB_hB36 : ¬ G159 (w31.heap.size) := fun e => (hM159.2 _ e).elim nhB_hB36 (fun q => by omega)
              have nhB_hB130 : ¬ G159 (w33.heap.size) := fun e => (hM159.2 _ e).elim nhB_hB130 (fun q => by omega)
              refine zS [(4, errV (decide (t155.length + 1 ≤ 4096)))] ?_
              refine op_nil ?_
              refine W_ret ?_
              refine ⟨_, Res_of (v := errV (decide (t155.length + 1 ≤ 4096))) (by kernel_rfl), ?_⟩
              refine ⟨err_eq (by omega), _, _, hB, hMv, hle, fun h => ?_⟩
              rw [he159 (show _ + 1 ≤ 4096 by omega), e157, e153, e149, e145, e141, hhd, htx]
              simp only [List.append_assoc]
        ·
         replace hc126 : nO n ≠ 24 := (ne_of_beq_false hc126)
         refine W_skip ?_
         refine W_seq ?_
         refine W_seq ?_
         refine zF [(0, .pointer (some ⟨q, 0, none⟩)), (1, .int .i64 ((i : Nat) : Int)), (4, .nilIface), (5, .pointer (some ⟨w1.heap.size, 0, none⟩)), (7, .string (bsT (([40]) ++ (wordT (nO n).toNat)))), (8, .slice (some ⟨w31.heap.size, 0, none⟩) 1 1), (24, .int .i64 (nO n)), (25, .bool ((nO n) == 20)), (37, .bool ((nO n) == 21)), (57, .bool ((nO n) == 23)), (72, .bool ((nO n) == 26)), (87, .bool ((nO n) == 22)), (98, .bool ((nO n) == 24))] fun ρ => ?_
         have hhd : ([40]) ++ (wordT (nO n).toNat) = hdT n := by unfold hdT; first | (rw [mid23 (by omega)] <;> simp only [List.append_assoc]) | (rw [mid25 (by omega)] <;> simp only [List.append_assoc]) | (rw [mid0 (by omega) (by omega)] <;> simp only [List.append_assoc, List.append_nil])
         have hhl := hd_len (fun e => (hn.pos (by omega) (by omega)).2.1 (by omega)) (by omega) hw
         have hHl : (([40]) ++ (wordT (nO n).toNat)).length = (hdT n).length := congrArg List.length hhd
         have hkids : kidsN n = [(nA n).toNat] := by unfold kidsN; first | (rw [if_neg (by omega), if_pos (by omega)]) | (rw [if_neg (by omega), if_neg (by omega), if_pos (by omega)]) | (rw [if_neg (by omega), if_neg (by omega), if_neg (by omega)])
         obtain ⟨hp1, hp2, hp3, _⟩ := hn.pos (by omega) (by omega)
         have hk160 := kids_lt hn (nA n).toNat (by rw [hkids]; simp)
         have htx := txt_k1 hni hn (by omega) (by omega) hkids
         have hlen := congrArg List.length htx
         simp only [List.length_append, List.length_cons, List.length_nil] at hlen
         refine zR ?_
         refine zS [(112, .pointer (some ⟨q, 0, none⟩)), (113, .string (bsT (([40]) ++ (wordT (nO n).toNat))))] ?_
         have hltL := hL.lt
         have lt_hB6 := hB6.lt
         have lt_hB36 := hB36.lt
         refine zC (add_ok G q p t (([40]) ++ (wordT (nO n).toNat)) _ hB hle (by omega)) ?_
         rintro _ w161 ⟨rfl, G162, t162, hB, hM162, hle, he162⟩
         have hL := hL.tchS hM162.1 hGF
         have hB6 := hB6.tch hM162.1 (fun e => nhB_hB6 e)
         have hB36 := hB36.tch hM162.1 (fun e => nhB_hB36 e)
         have hMv := hMv.trans hM162
         have hGF : ∀ b, G162 b → ¬ F b := fun b hb => (hM162.2 b hb).elim (hGF b) (fun q hf => by have := hltL b hf; omega)
         have nhB_hB6 : ¬ G162 (w1.heap.size) := fun e => (hM162.2 _ e).elim nhB_hB6 (fun q => by omega)
         have nhB_hB36 : ¬ G162 (w31.heap.size) := fun e => (hM162.2 _ e).elim nhB_hB36 (fun q => by omega)
         refine zS [(9, errV (decide (t.length + (([40]) ++ (wordT (nO n).toNat)).length ≤ 4096)))] ?_
         refine op_nil ?_
         refine zQ ?_
         refine zS [(115, errV (decide (t.length + (([40]) ++ (wordT (nO n).toNat)).length ≤ 4096)))] ?_
         refine stv (v := .bool (!(decide (t.length + (([40]) ++ (wordT (nO n).toNat)).length ≤ 4096)))) (by rfl) (R_errNeq (by kernel_rfl)) ?_
         refine zO (!(decide (t.length + (([40]) ++ (wordT (nO n).toNat)).length ≤ 4096))) (fun hc163 => ?_) (fun hc163 => ?_)
         ·
          replace hc163 : 4096 < t.length + (([40]) ++ (wordT (nO n).toNat)).length := (Nat.not_le.1 (of_decide_eq_false (not_t hc163)))
          refine zQ ?_
          refine zS [(117, errV (decide (t.length + (([40]) ++ (wordT (nO n).toNat)).length ≤ 4096))), (4, errV (decide (t.length + (([40]) ++ (wordT (nO n).toNat)).length ≤ 4096)))] ?_
          refine op_nil ?_
          refine W_ret ?_
          exact ⟨_, Res_of (v := errV (decide (t.length + (([40]) ++ (wordT (nO n).toNat)).length ≤ 4096))) (by kernel_rfl), ⟨err_eq (by omega), _, _, hB, hMv, hle, fun h => by exfalso; omega⟩⟩
         ·
          replace hc163 : t.length + (([40]) ++ (wordT (nO n).toNat)).length ≤ 4096 := (of_decide_eq_true (not_f hc163))
          have e164 := he162 hc163
          have e164l : t162.length = _ := (congrArg List.length e164).trans (List.length_append)
          try simp only [List.length_cons, List.length_nil] at e164l
          refine W_skip ?_
          refine W_seq ?_
          refine zQ ?_
          refine zS [(118, .slice (some ⟨w31.heap.size, 0, none⟩) 1 1), (119, .int .i64 1), (120, .int .i64 0)] ?_
          refine op_nil ?_
          refine W_block ?_
          refine W_un 4 ?_
          refine Un_s ?_
          refine W_seq ?_
          refine zF [(0, .pointer (some ⟨q, 0, none⟩)), (1, .int .i64 ((i : Nat) : Int)), (4, .nilIface), (5, .pointer (some ⟨w1.heap.size, 0, none⟩)), (7, .string (bsT (([40]) ++ (wordT (nO n).toNat)))), (8, .slice (some ⟨w31.heap.size, 0, none⟩) 1 1), (9, errV (decide (t.length + (([40]) ++ (wordT (nO n).toNat)).length ≤ 4096))), (24, .int .i64 (nO n)), (25, .bool ((nO n) == 20)), (37, .bool ((nO n) == 21)), (57, .bool ((nO n) == 23)), (72, .bool ((nO n) == 26)), (87, .bool ((nO n) == 22)), (98, .bool ((nO n) == 24)), (116, .bool (!(decide (t.length + (([40]) ++ (wordT (nO n).toNat)).length ≤ 4096)))), (118, .slice (some ⟨w31.heap.size, 0, none⟩) 1 1), (119, .int .i64 1), (120, .int .i64 0)] fun ρ => ?_
          refine zR ?_
          refine zS [(121, .bool true)] ?_
          refine op_nil ?_
          refine W_seq ?_
          refine zW true (fun _ => ?_) (fun h => nomatch h)
          refine W_skip ?_
          refine W_seq ?_
          refine W_block ?_
          refine zQ ?_
          refine stv (v := .pointer (some ⟨w31.heap.size, 0, none⟩)) (by rfl) (R_index1 (b := w31.heap.size) (off := 0) (len := 1) (cap := 1) (k := .i64) (i := 0) (e := 3) (by kernel_rfl) (by kernel_rfl) (by kernel_rfl) (by kernel_rfl) (by omega) (by omega)) ?_
          refine zL (.int .i64 (nA n)) ((hB36.cell 0).trans rfl) ?_
          refine zS [(11, .int .i64 (nA n))] ?_
          refine op_nil ?_
          refine W_seq ?_
          refine zQ ?_
          refine zS [(124, .pointer (some ⟨q, 0, none⟩))] ?_
          have hltL := hL.lt
          have lt_hB6 := hB6.lt
          have lt_hB36 := hB36.lt
          refine zC (add_ok G162 q p t162 ([32]) _ hB hle (by decide)) ?_
          rintro _ w165 ⟨rfl, G166, t166, hB, hM166, hle, he166⟩
          have hL := hL.tchS hM166.1 hGF
          have hB6 := hB6.tch hM166.1 (fun e => nhB_hB6 e)
          have hB36 := hB36.tch hM166.1 (fun e => nhB_hB36 e)
          have hMv := hMv.trans hM166
          have hGF : ∀ b, G166 b → ¬ F b := fun b hb => (hM166.2 b hb).elim (hGF b) (fun q hf => by have := hltL b hf; omega)
          have nhB_hB6 : ¬ G166 (w1.heap.size) := fun e => (hM166.2 _ e).elim nhB_hB6 (fun q => by omega)
          have nhB_hB36 : ¬ G166 (w31.heap.size) := fun e => (hM166.2 _ e).elim nhB_hB36 (fun q => by omega)
          refine zS [(12, errV (decide (t162.length + 1 ≤ 4096)))] ?_
          refine op_nil ?_
          refine zQ ?_
          refine zS [(126, errV (decide (t162.length + 1 ≤ 4096)))] ?_
          refine stv (v := .bool (!(decide (t162.length + 1 ≤ 4096)))) (by rfl) (R_errNeq (by kernel_rfl)) ?_
          refine zO (!(decide (t162.length + 1 ≤ 4096))) (fun hc167 => ?_) (fun hc167 => ?_)
          ·
           replace hc167 : 4096 < t162.length + 1 := (Nat.not_le.1 (of_decide_eq_false (not_t hc167)))
           refine W_seq ?_
           refine zF [(0, .pointer (some ⟨q, 0, none⟩)), (1, .int .i64 ((i : Nat) : Int)), (4, .nilIface), (5, .pointer (some ⟨w1.heap.size, 0, none⟩)), (7, .string (bsT (([40]) ++ (wordT (nO n).toNat)))), (8, .slice (some ⟨w31.heap.size, 0, none⟩) 1 1), (9, errV (decide (t.length + (([40]) ++ (wordT (nO n).toNat)).length ≤ 4096))), (11, .int .i64 (nA n)), (12, errV (decide (t162.length + 1 ≤ 4096))), (24, .int .i64 (nO n)), (25, .bool ((nO n) == 20)), (37, .bool ((nO n) == 21)), (57, .bool ((nO n) == 23)), (72, .bool ((nO n) == 26)), (87, .bool ((nO n) == 22)), (98, .bool ((nO n) == 24)), (116, .bool (!(decide (t.length + (([40]) ++ (wordT (nO n).toNat)).length ≤ 4096)))), (118, .slice (some ⟨w31.heap.size, 0, none⟩) 1 1), (119, .int .i64 1), (120, .int .i64 0), (121, .bool true), (127, .bool (!(decide (t162.length + 1 ≤ 4096))))] fun ρ => ?_
           refine zR ?_
           refine zS [(128, errV (decide (t162.length + 1 ≤ 4096))), (4, errV (decide (t162.length + 1 ≤ 4096)))] ?_
           refine op_nil ?_
           refine W_ret ?_
           exact ⟨_, Res_of (v := errV (decide (t162.length + 1 ≤ 4096))) (by kernel_rfl), ⟨err_eq (by omega), _, _, hB, hMv, hle, fun h => by exfalso; omega⟩⟩
          ·
           replace hc167 : t162.length + 1 ≤ 4096 := (of_decide_eq_true (not_f hc167))
           have e168 := he166 hc167
           have e168l : t166.length = _ := (congrArg List.length e168).trans (List.length_append)
           try simp only [List.length_cons, List.length_nil] at e168l
           refine W_skip ?_
           refine W_seq ?_
           refine zF [(0, .pointer (some ⟨q, 0, none⟩)), (1, .int .i64 ((i : Nat) : Int)), (4, .nilIface), (5, .pointer (some ⟨w1.heap.size, 0, none⟩)), (7, .string (bsT (([40]) ++ (wordT (nO n).toNat)))), (8, .slice (some ⟨w31.heap.size, 0, none⟩) 1 1), (9, errV (decide (t.length + (([40]) ++ (wordT (nO n).toNat)).length ≤ 4096))), (11, .int .i64 (nA n)), (12, errV (decide (t162.length + 1 ≤ 4096))), (24, .int .i64 (nO n)), (25, .bool ((nO n) == 20)), (37, .bool ((nO n) == 21)), (57, .bool ((nO n) == 23)), (72, .bool ((nO n) == 26)), (87, .bool ((nO n) == 22)), (98, .bool ((nO n) == 24)), (116, .bool (!(decide (t.length + (([40]) ++ (wordT (nO n).toNat)).length ≤ 4096)))), (118, .slice (some ⟨w31.heap.size, 0, none⟩) 1 1), (119, .int .i64 1), (120, .int .i64 0), (121, .bool true), (127, .bool (!(decide (t162.length + 1 ≤ 4096))))] fun ρ => ?_
           refine zR ?_
           refine zS [(129, .pointer (some ⟨q, 0, none⟩)), (130, .int .i64 (nA n))] ?_
           have hltL := hL.lt
           have lt_hB6 := hB6.lt
           have lt_hB36 := hB36.lt
           refine st (by rfl) (S_call (args := [.pointer (some ⟨q, 0, none⟩), .int .i64 (nA n)]) (by kernel_rfl) ((by have q := IH (nA n).toNat (by omega) G166 t166 _ hL hB hGF hle; rw [show (((nA n).toNat : Nat) : Int) = nA n by omega] at q; exact q)) ?_)
           rintro _ w169 ⟨rfl, G170, t170, hB, hM170, hle, he170⟩
           have hL := hL.tchS hM170.1 hGF
           have hB6 := hB6.tch hM170.1 (fun e => nhB_hB6 e)
           have hB36 := hB36.tch hM170.1 (fun e => nhB_hB36 e)
           have hMv := hMv.trans hM170
           have hGF : ∀ b, G170 b → ¬ F b := fun b hb => (hM170.2 b hb).elim (hGF b) (fun q hf => by have := hltL b hf; omega)
           have nhB_hB6 : ¬ G170 (w1.heap.size) := fun e => (hM170.2 _ e).elim nhB_hB6 (fun q => by omega)
           have nhB_hB36 : ¬ G170 (w31.heap.size) := fun e => (hM170.2 _ e).elim nhB_hB36 (fun q => by omega)
           refine zS [(13, errV (decide (t166.length + (txt N (nA n).toNat).length ≤ 4096)))] ?_
           refine op_nil ?_
           refine zQ ?_
           refine zS [(132, errV (decide (t166.length + (txt N (nA n).toNat).length ≤ 4096)))] ?_
           refine stv (v := .bool (!(decide (t166.length + (txt N (nA n).toNat).length ≤ 4096)))) (by rfl) (R_errNeq (by kernel_rfl)) ?_
           refine zO (!(decide (t166.length + (txt N (nA n).toNat).length ≤ 4096))) (fun hc171 => ?_) (fun hc171 => ?_)
           ·
            replace hc171 : 4096 < t166.length + (txt N (nA n).toNat).length := (Nat.not_le.1 (of_decide_eq_false (not_t hc171)))
            refine zQ ?_
            refine zS [(134, errV (decide (t166.length + (txt N (nA n).toNat).length ≤ 4096))), (4, errV (decide (t166.length + (txt N (nA n).toNat).length ≤ 4096)))] ?_
            refine op_nil ?_
            refine W_ret ?_
            exact ⟨_, Res_of (v := errV (decide (t166.length + (txt N (nA n).toNat).length ≤ 4096))) (by kernel_rfl), ⟨err_eq (by omega), _, _, hB, hMv, hle, fun h => by exfalso; omega⟩⟩
           ·
            replace hc171 : t166.length + (txt N (nA n).toNat).length ≤ 4096 := (of_decide_eq_true (not_f hc171))
            have e172 := he170 hc171
            have e172l : t170.length = _ := (congrArg List.length e172).trans (List.length_append)
            try simp only [List.length_cons, List.length_nil] at e172l
            refine W_skip ?_
            refine zR ?_
            refine zS [(135, .int .i64 1), (120, .int .i64 1)] ?_
            refine op_nil ?_
            refine Un_s ?_
            refine W_seq ?_
            refine zF [(0, .pointer (some ⟨q, 0, none⟩)), (1, .int .i64 ((i : Nat) : Int)), (4, .nilIface), (5, .pointer (some ⟨w1.heap.size, 0, none⟩)), (7, .string (bsT (([40]) ++ (wordT (nO n).toNat)))), (8, .slice (some ⟨w31.heap.size, 0, none⟩) 1 1), (9, errV (decide (t.length + (([40]) ++ (wordT (nO n).toNat)).length ≤ 4096))), (11, .int .i64 (nA n)), (12, errV (decide (t162.length + 1 ≤ 4096))), (13, errV (decide (t166.length + (txt N (nA n).toNat).length ≤ 4096))), (24, .int .i64 (nO n)), (25, .bool ((nO n) == 20)), (37, .bool ((nO n) == 21)), (57, .bool ((nO n) == 23)), (72, .bool ((nO n) == 26)), (87, .bool ((nO n) == 22)), (98, .bool ((nO n) == 24)), (116, .bool (!(decide (t.length + (([40]) ++ (wordT (nO n).toNat)).length ≤ 4096)))), (118, .slice (some ⟨w31.heap.size, 0, none⟩) 1 1), (119, .int .i64 1), (120, .int .i64 1), (121, .bool true), (127, .bool (!(decide (t162.length + 1 ≤ 4096)))), (133, .bool (!(decide (t166.length + (txt N (nA n).toNat).length ≤ 4096))))] fun ρ => ?_
            refine zR ?_
            refine zS [(121, .bool false)] ?_
            refine op_nil ?_
            refine W_seq ?_
            refine zW false (fun h => nomatch h) (fun _ => ?_)
            refine W_exit ?_
            refine X_hit ?_
            refine zQ ?_
            refine zS [(136, .pointer (some ⟨q, 0, none⟩))] ?_
            have hltL := hL.lt
            have lt_hB6 := hB6.lt
            have lt_hB36 := hB36.lt
            refine zC (add_ok G170 q p t170 ([41]) _ hB hle (by decide)) ?_
            rintro _ w173 ⟨rfl, G174, t174, hB, hM174, hle, he174⟩
            have hL := hL.tchS hM174.1 hGF
            have hB6 := hB6.tch hM174.1 (fun e => nhB_hB6 e)
            have hB36 := hB36.tch hM174.1 (fun e => nhB_hB36 e)
            have hMv := hMv.trans hM174
            have hGF : ∀ b, G174 b → ¬ F b := fun b hb => (hM174.2 b hb).elim (hGF b) (fun q hf => by have := hltL b hf; omega)
            have nhB_hB6 : ¬ G174 (w1.heap.size) := fun e => (hM174.2 _ e).elim nhB_hB6 (fun q => by omega)
            have nhB_hB36 : ¬ G174 (w31.heap.size) := fun e => (hM174.2 _ e).elim nhB_hB36 (fun q => by omega)
            refine zS [(4, errV (decide (t170.length + 1 ≤ 4096)))] ?_
            refine op_nil ?_
            refine W_ret ?_
            refine ⟨_, Res_of (v := errV (decide (t170.length + 1 ≤ 4096))) (by kernel_rfl), ?_⟩
            refine ⟨err_eq (by omega), _, _, hB, hMv, hle, fun h => ?_⟩
            rw [he174 (show _ + 1 ≤ 4096 by omega), e172, e168, e164, hhd, htx]
            simp only [List.append_assoc]
       ·
        replace hb125 : nO n ≤ 14 := (of_decide_eq_true hb125)
        refine zS [(103, undef), (104, undef), (105, undef), (106, .bool true), (98, .bool true)] ?_
        refine zO true (fun _ => ?_) (fun h => nomatch h)
        refine zF [(0, .pointer (some ⟨q, 0, none⟩)), (1, .int .i64 ((i : Nat) : Int)), (4, .nilIface), (5, .pointer (some ⟨w1.heap.size, 0, none⟩)), (7, .string (bsT (([40]) ++ (wordT (nO n).toNat)))), (8, .slice (some ⟨w31.heap.size, 0, none⟩) 1 1), (24, .int .i64 (nO n)), (25, .bool ((nO n) == 20)), (37, .bool ((nO n) == 21)), (57, .bool ((nO n) == 23)), (72, .bool ((nO n) == 26)), (87, .bool ((nO n) == 22)), (98, .bool true)] fun ρ => ?_
        refine zR ?_
        refine zS [(107, .pointer (some ⟨w1.heap.size, 2, none⟩))] ?_
        refine zL (.int .i64 (nA n)) ((hB6.cell 2).trans rfl) ?_
        refine zS [(109, .pointer (some ⟨w1.heap.size, 3, none⟩))] ?_
        refine zL (.int .i64 (nB n)) ((hB6.cell 3).trans rfl) ?_
        have hltF := hL.lt
        have hltG := hB.lt
        have hz179 := hMv.1.size
        have lt180 := hB6.lt
        have lt181 := hB36.lt
        have l182 := hB6.lt
        have l183 := hB36.lt
        refine st (by rfl) (S_new (v := .slice (some ⟨w33.heap.size, 0, none⟩) 2 2) (ob := .cells #[.int .i64 (nA n), .int .i64 (nB n)] 3) (by kernel_rfl) fun w175 hT176 hs177 hB178 => ?_)
        replace hB178 : Blk w175 (w33.heap.size) 3 [.int .i64 (nA n), .int .i64 (nB n)] := hB178
        have hL := hL.tch0 hT176
        have hB := hB.tch0 hT176
        have hMv := hMv.then0 hT176
        have hB6 := hB6.tch0 hT176
        have hB36 := hB36.tch0 hT176
        have nhL_hB178 : ¬ F (w33.heap.size) := fun e => by have := hltF _ e; omega
        have nhB_hB178 : ¬ G (w33.heap.size) := fun e => by have := hltG _ e; omega
        refine zS [(8, .slice (some ⟨w33.heap.size, 0, none⟩) 2 2)] ?_
        refine op_nil ?_
        refine W_seq ?_
        refine W_seq ?_
        have hhd : ([40]) ++ (wordT (nO n).toNat) = hdT n := by unfold hdT; first | (rw [mid23 (by omega)] <;> simp only [List.append_assoc]) | (rw [mid25 (by omega)] <;> simp only [List.append_assoc]) | (rw [mid0 (by omega) (by omega)] <;> simp only [List.append_assoc, List.append_nil])
        have hhl := hd_len (fun e => (hn.pos (by omega) (by omega)).2.1 (by omega)) (by omega) hw
        have hHl : (([40]) ++ (wordT (nO n).toNat)).length = (hdT n).length := congrArg List.length hhd
        have hkids : kidsN n = [(nA n).toNat, (nB n).toNat] := by unfold kidsN; first | (rw [if_neg (by omega), if_pos (by omega)]) | (rw [if_neg (by omega), if_neg (by omega), if_pos (by omega)]) | (rw [if_neg (by omega), if_neg (by omega), if_neg (by omega)])
        obtain ⟨hp1, hp2, hp3, _⟩ := hn.pos (by omega) (by omega)
        have hp2 := hp2 (by omega)
        have hk184 := kids_lt hn (nA n).toNat (by rw [hkids]; simp)
        have hk185 := kids_lt hn (nB n).toNat (by rw [hkids]; simp)
        have htx := txt_k2 hni hn (by omega) (by omega) hkids
        have hlen := congrArg List.length htx
        simp only [List.length_append, List.length_cons, List.length_nil] at hlen
        refine zR ?_
        refine zS [(112, .pointer (some ⟨q, 0, none⟩)), (113, .string (bsT (([40]) ++ (wordT (nO n).toNat))))] ?_
        have hltL := hL.lt
        have lt_hB6 := hB6.lt
        have lt_hB36 := hB36.lt
        have lt_hB178 := hB178.lt
        refine zC (add_ok G q p t (([40]) ++ (wordT (nO n).toNat)) _ hB hle (by omega)) ?_
        rintro _ w186 ⟨rfl, G187, t187, hB, hM187, hle, he187⟩
        have hL := hL.tchS hM187.1 hGF
        have hB6 := hB6.tch hM187.1 (fun e => nhB_hB6 e)
        have hB36 := hB36.tch hM187.1 (fun e => nhB_hB36 e)
        have hB178 := hB178.tch hM187.1 (fun e => nhB_hB178 e)
        have hMv := hMv.trans hM187
        have hGF : ∀ b, G187 b → ¬ F b := fun b hb => (hM187.2 b hb).elim (hGF b) (fun q hf => by have := hltL b hf; omega)
        have nhB_hB6 : ¬ G187 (w1.heap.size) := fun e => (hM187.2 _ e).elim nhB_hB6 (fun q => by omega)
        have nhB_hB36 : ¬ G187 (w31.heap.size) := fun e => (hM187.2 _ e).elim nhB_hB36 (fun q => by omega)
        have nhB_hB178 : ¬ G187 (w33.heap.size) := fun e => (hM187.2 _ e).elim nhB_hB178 (fun q => by omega)
        refine zS [(9, errV (decide (t.length + (([40]) ++ (wordT (nO n).toNat)).length ≤ 4096)))] ?_
        refine op_nil ?_
        refine W_seq ?_
        refine zF [(0, .pointer (some ⟨q, 0, none⟩)), (1, .int .i64 ((i : Nat) : Int)), (4, .nilIface), (5, .pointer (some ⟨w1.heap.size, 0, none⟩)), (7, .string (bsT (([40]) ++ (wordT (nO n).toNat)))), (8, .slice (some ⟨w33.heap.size, 0, none⟩) 2 2), (9, errV (decide (t.length + (([40]) ++ (wordT (nO n).toNat)).length ≤ 4096))), (24, .int .i64 (nO n)), (25, .bool ((nO n) == 20)), (37, .bool ((nO n) == 21)), (57, .bool ((nO n) == 23)), (72, .bool ((nO n) == 26)), (87, .bool ((nO n) == 22)), (98, .bool true)] fun ρ => ?_
        refine zR ?_
        refine zS [(115, errV (decide (t.length + (([40]) ++ (wordT (nO n).toNat)).length ≤ 4096)))] ?_
        refine stv (v := .bool (!(decide (t.length + (([40]) ++ (wordT (nO n).toNat)).length ≤ 4096)))) (by rfl) (R_errNeq (by kernel_rfl)) ?_
        refine zO (!(decide (t.length + (([40]) ++ (wordT (nO n).toNat)).length ≤ 4096))) (fun hc188 => ?_) (fun hc188 => ?_)
        ·
         replace hc188 : 4096 < t.length + (([40]) ++ (wordT (nO n).toNat)).length := (Nat.not_le.1 (of_decide_eq_false (not_t hc188)))
         refine zQ ?_
         refine zS [(117, errV (decide (t.length + (([40]) ++ (wordT (nO n).toNat)).length ≤ 4096))), (4, errV (decide (t.length + (([40]) ++ (wordT (nO n).toNat)).length ≤ 4096)))] ?_
         refine op_nil ?_
         refine W_ret ?_
         exact ⟨_, Res_of (v := errV (decide (t.length + (([40]) ++ (wordT (nO n).toNat)).length ≤ 4096))) (by kernel_rfl), ⟨err_eq (by omega), _, _, hB, hMv, hle, fun h => by exfalso; omega⟩⟩
        ·
         replace hc188 : t.length + (([40]) ++ (wordT (nO n).toNat)).length ≤ 4096 := (of_decide_eq_true (not_f hc188))
         have e189 := he187 hc188
         have e189l : t187.length = _ := (congrArg List.length e189).trans (List.length_append)
         try simp only [List.length_cons, List.length_nil] at e189l
         refine W_skip ?_
         refine W_seq ?_
         refine zQ ?_
         refine zS [(118, .slice (some ⟨w33.heap.size, 0, none⟩) 2 2), (119, .int .i64 2), (120, .int .i64 0)] ?_
         refine op_nil ?_
         refine W_block ?_
         refine W_un 4 ?_
         refine Un_s ?_
         refine zQ ?_
         refine zS [(121, .bool true)] ?_
         refine op_nil ?_
         refine W_seq ?_
         refine zW true (fun _ => ?_) (fun h => nomatch h)
         refine W_skip ?_
         refine W_seq ?_
         refine W_block ?_
         refine zQ ?_
         refine stv (v := .pointer (some ⟨w33.heap.size, 0, none⟩)) (by rfl) (R_index1 (b := w33.heap.size) (off := 0) (len := 2) (cap := 2) (k := .i64) (i := 0) (e := 3) (by kernel_rfl) (by kernel_rfl) (by kernel_rfl) (by kernel_rfl) (by omega) (by omega)) ?_
         refine zL (.int .i64 (nA n)) ((hB178.cell 0).trans rfl) ?_
         refine zS [(11, .int .i64 (nA n))] ?_
         refine op_nil ?_
         refine W_seq ?_
         refine W_seq ?_
         refine zF [(0, .pointer (some ⟨q, 0, none⟩)), (1, .int .i64 ((i : Nat) : Int)), (4, .nilIface), (5, .pointer (some ⟨w1.heap.size, 0, none⟩)), (7, .string (bsT (([40]) ++ (wordT (nO n).toNat)))), (8, .slice (some ⟨w33.heap.size, 0, none⟩) 2 2), (9, errV (decide (t.length + (([40]) ++ (wordT (nO n).toNat)).length ≤ 4096))), (11, .int .i64 (nA n)), (24, .int .i64 (nO n)), (25, .bool ((nO n) == 20)), (37, .bool ((nO n) == 21)), (57, .bool ((nO n) == 23)), (72, .bool ((nO n) == 26)), (87, .bool ((nO n) == 22)), (98, .bool true), (116, .bool (!(decide (t.length + (([40]) ++ (wordT (nO n).toNat)).length ≤ 4096)))), (118, .slice (some ⟨w33.heap.size, 0, none⟩) 2 2), (119, .int .i64 2), (120, .int .i64 0), (121, .bool true)] fun ρ => ?_
         refine zR ?_
         refine zS [(124, .pointer (some ⟨q, 0, none⟩))] ?_
         have hltL := hL.lt
         have lt_hB6 := hB6.lt
         have lt_hB36 := hB36.lt
         have lt_hB178 := hB178.lt
         refine zC (add_ok G187 q p t187 ([32]) _ hB hle (by decide)) ?_
         rintro _ w190 ⟨rfl, G191, t191, hB, hM191, hle, he191⟩
         have hL := hL.tchS hM191.1 hGF
         have hB6 := hB6.tch hM191.1 (fun e => nhB_hB6 e)
         have hB36 := hB36.tch hM191.1 (fun e => nhB_hB36 e)
         have hB178 := hB178.tch hM191.1 (fun e => nhB_hB178 e)
         have hMv := hMv.trans hM191
         have hGF : ∀ b, G191 b → ¬ F b := fun b hb => (hM191.2 b hb).elim (hGF b) (fun q hf => by have := hltL b hf; omega)
         have nhB_hB6 : ¬ G191 (w1.heap.size) := fun e => (hM191.2 _ e).elim nhB_hB6 (fun q => by omega)
         have nhB_hB36 : ¬ G191 (w31.heap.size) := fun e => (hM191.2 _ e).elim nhB_hB36 (fun q => by omega)
         have nhB_hB178 : ¬ G191 (w33.heap.size) := fun e => (hM191.2 _ e).elim nhB_hB178 (fun q => by omega)
         refine zS [(12, errV (decide (t187.length + 1 ≤ 4096)))] ?_
         refine op_nil ?_
         refine zQ ?_
         refine zS [(126, errV (decide (t187.length + 1 ≤ 4096)))] ?_
         refine stv (v := .bool (!(decide (t187.length + 1 ≤ 4096)))) (by rfl) (R_errNeq (by kernel_rfl)) ?_
         refine zO (!(decide (t187.length + 1 ≤ 4096))) (fun hc192 => ?_) (fun hc192 => ?_)
         ·
          replace hc192 : 4096 < t187.length + 1 := (Nat.not_le.1 (of_decide_eq_false (not_t hc192)))
          refine zQ ?_
          refine zS [(128, errV (decide (t187.length + 1 ≤ 4096))), (4, errV (decide (t187.length + 1 ≤ 4096)))] ?_
          refine op_nil ?_
          refine W_ret ?_
          exact ⟨_, Res_of (v := errV (decide (t187.length + 1 ≤ 4096))) (by kernel_rfl), ⟨err_eq (by omega), _, _, hB, hMv, hle, fun h => by exfalso; omega⟩⟩
         ·
          replace hc192 : t187.length + 1 ≤ 4096 := (of_decide_eq_true (not_f hc192))
          have e193 := he191 hc192
          have e193l : t191.length = _ := (congrArg List.length e193).trans (List.length_append)
          try simp only [List.length_cons, List.length_nil] at e193l
          refine W_skip ?_
          refine zQ ?_
          refine zS [(129, .pointer (some ⟨q, 0, none⟩)), (130, .int .i64 (nA n))] ?_
          have hltL := hL.lt
          have lt_hB6 := hB6.lt
          have lt_hB36 := hB36.lt
          have lt_hB178 := hB178.lt
          refine st (by rfl) (S_call (args := [.pointer (some ⟨q, 0, none⟩), .int .i64 (nA n)]) (by kernel_rfl) ((by have q := IH (nA n).toNat (by omega) G191 t191 _ hL hB hGF hle; rw [show (((nA n).toNat : Nat) : Int) = nA n by omega] at q; exact q)) ?_)
          rintro _ w194 ⟨rfl, G195, t195, hB, hM195, hle, he195⟩
          have hL := hL.tchS hM195.1 hGF
          have hB6 := hB6.tch hM195.1 (fun e => nhB_hB6 e)
          have hB36 := hB36.tch hM195.1 (fun e => nhB_hB36 e)
          have hB178 := hB178.tch hM195.1 (fun e => nhB_hB178 e)
          have hMv := hMv.trans hM195
          have hGF : ∀ b, G195 b → ¬ F b := fun b hb => (hM195.2 b hb).elim (hGF b) (fun q hf => by have := hltL b hf; omega)
          have nhB_hB6 : ¬ G195 (w1.heap.size) := fun e => (hM195.2 _ e).elim nhB_hB6 (fun q => by omega)
          have nhB_hB36 : ¬ G195 (w31.heap.size) := fun e => (hM195.2 _ e).elim nhB_hB36 (fun q => by omega)
          have nhB_hB178 : ¬ G195 (w33.heap.size) := fun e => (hM195.2 _ e).elim nhB_hB178 (fun q => by omega)
          refine zS [(13, errV (decide (t191.length + (txt N (nA n).toNat).length ≤ 4096)))] ?_
          refine op_nil ?_
          refine W_seq ?_
          refine zF [(0, .pointer (some ⟨q, 0, none⟩)), (1, .int .i64 ((i : Nat) : Int)), (4, .nilIface), (5, .pointer (some ⟨w1.heap.size, 0, none⟩)), (7, .string (bsT (([40]) ++ (wordT (nO n).toNat)))), (8, .slice (some ⟨w33.heap.size, 0, none⟩) 2 2), (9, errV (decide (t.length + (([40]) ++ (wordT (nO n).toNat)).length ≤ 4096))), (11, .int .i64 (nA n)), (12, errV (decide (t187.length + 1 ≤ 4096))), (13, errV (decide (t191.length + (txt N (nA n).toNat).length ≤ 4096))), (24, .int .i64 (nO n)), (25, .bool ((nO n) == 20)), (37, .bool ((nO n) == 21)), (57, .bool ((nO n) == 23)), (72, .bool ((nO n) == 26)), (87, .bool ((nO n) == 22)), (98, .bool true), (116, .bool (!(decide (t.length + (([40]) ++ (wordT (nO n).toNat)).length ≤ 4096)))), (118, .slice (some ⟨w33.heap.size, 0, none⟩) 2 2), (119, .int .i64 2), (120, .int .i64 0), (121, .bool true), (127, .bool (!(decide (t187.length + 1 ≤ 4096))))] fun ρ => ?_
          refine zR ?_
          refine zS [(132, errV (decide (t191.length + (txt N (nA n).toNat).length ≤ 4096)))] ?_
          refine stv (v := .bool (!(decide (t191.length + (txt N (nA n).toNat).length ≤ 4096)))) (by rfl) (R_errNeq (by kernel_rfl)) ?_
          refine zO (!(decide (t191.length + (txt N (nA n).toNat).length ≤ 4096))) (fun hc196 => ?_) (fun hc196 => ?_)
          ·
           replace hc196 : 4096 < t191.length + (txt N (nA n).toNat).length := (Nat.not_le.1 (of_decide_eq_false (not_t hc196)))
           refine zQ ?_
           refine zS [(134, errV (decide (t191.length + (txt N (nA n).toNat).length ≤ 4096))), (4, errV (decide (t191.length + (txt N (nA n).toNat).length ≤ 4096)))] ?_
           refine op_nil ?_
           refine W_ret ?_
           exact ⟨_, Res_of (v := errV (decide (t191.length + (txt N (nA n).toNat).length ≤ 4096))) (by kernel_rfl), ⟨err_eq (by omega), _, _, hB, hMv, hle, fun h => by exfalso; omega⟩⟩
          ·
           replace hc196 : t191.length + (txt N (nA n).toNat).length ≤ 4096 := (of_decide_eq_true (not_f hc196))
           have e197 := he195 hc196
           have e197l : t195.length = _ := (congrArg List.length e197).trans (List.length_append)
           try simp only [List.length_cons, List.length_nil] at e197l
           refine W_skip ?_
           refine zR ?_
           refine zS [(135, .int .i64 1), (120, .int .i64 1)] ?_
           refine op_nil ?_
           refine Un_s ?_
           refine zQ ?_
           refine zS [(121, .bool true)] ?_
           refine op_nil ?_
           refine W_seq ?_
           refine zW true (fun _ => ?_) (fun h => nomatch h)
           refine W_skip ?_
           refine W_seq ?_
           refine W_block ?_
           refine zQ ?_
           refine stv (v := .pointer (some ⟨w33.heap.size, 1, none⟩)) (by rfl) (R_index1 (b := w33.heap.size) (off := 0) (len := 2) (cap := 2) (k := .i64) (i := 1) (e := 3) (by kernel_rfl) (by kernel_rfl) (by kernel_rfl) (by kernel_rfl) (by omega) (by omega)) ?_
           refine zL (.int .i64 (nB n)) ((hB178.cell 1).trans rfl) ?_
           refine zS [(11, .int .i64 (nB n))] ?_
           refine op_nil ?_
           refine W_seq ?_
           refine W_seq ?_
           refine zF [(0, .pointer (some ⟨q, 0, none⟩)), (1, .int .i64 ((i : Nat) : Int)), (4, .nilIface), (5, .pointer (some ⟨w1.heap.size, 0, none⟩)), (7, .string (bsT (([40]) ++ (wordT (nO n).toNat)))), (8, .slice (some ⟨w33.heap.size, 0, none⟩) 2 2), (9, errV (decide (t.length + (([40]) ++ (wordT (nO n).toNat)).length ≤ 4096))), (11, .int .i64 (nB n)), (12, errV (decide (t187.length + 1 ≤ 4096))), (13, errV (decide (t191.length + (txt N (nA n).toNat).length ≤ 4096))), (24, .int .i64 (nO n)), (25, .bool ((nO n) == 20)), (37, .bool ((nO n) == 21)), (57, .bool ((nO n) == 23)), (72, .bool ((nO n) == 26)), (87, .bool ((nO n) == 22)), (98, .bool true), (116, .bool (!(decide (t.length + (([40]) ++ (wordT (nO n).toNat)).length ≤ 4096)))), (118, .slice (some ⟨w33.heap.size, 0, none⟩) 2 2), (119, .int .i64 2), (120, .int .i64 1), (121, .bool true), (127, .bool (!(decide (t187.length + 1 ≤ 4096)))), (133, .bool (!(decide (t191.length + (txt N (nA n).toNat).length ≤ 4096))))] fun ρ => ?_
           refine zR ?_
           refine zS [(124, .pointer (some ⟨q, 0, none⟩))] ?_
           have hltL := hL.lt
           have lt_hB6 := hB6.lt
           have lt_hB36 := hB36.lt
           have lt_hB178 := hB178.lt
           refine zC (add_ok G195 q p t195 ([32]) _ hB hle (by decide)) ?_
           rintro _ w198 ⟨rfl, G199, t199, hB, hM199, hle, he199⟩
           have hL := hL.tchS hM199.1 hGF
           have hB6 := hB6.tch hM199.1 (fun e => nhB_hB6 e)
           have hB36 := hB36.tch hM199.1 (fun e => nhB_hB36 e)
           have hB178 := hB178.tch hM199.1 (fun e => nhB_hB178 e)
           have hMv := hMv.trans hM199
           have hGF : ∀ b, G199 b → ¬ F b := fun b hb => (hM199.2 b hb).elim (hGF b) (fun q hf => by have := hltL b hf; omega)
           have nhB_hB6 : ¬ G199 (w1.heap.size) := fun e => (hM199.2 _ e).elim nhB_hB6 (fun q => by omega)
           have nhB_hB36 : ¬ G199 (w31.heap.size) := fun e => (hM199.2 _ e).elim nhB_hB36 (fun q => by omega)
           have nhB_hB178 : ¬ G199 (w33.heap.size) := fun e => (hM199.2 _ e).elim nhB_hB178 (fun q => by omega)
           refine zS [(12, errV (decide (t195.length + 1 ≤ 4096)))] ?_
           refine op_nil ?_
           refine zQ ?_
           refine zS [(126, errV (decide (t195.length + 1 ≤ 4096)))] ?_
           refine stv (v := .bool (!(decide (t195.length + 1 ≤ 4096)))) (by rfl) (R_errNeq (by kernel_rfl)) ?_
           refine zO (!(decide (t195.length + 1 ≤ 4096))) (fun hc200 => ?_) (fun hc200 => ?_)
           ·
            replace hc200 : 4096 < t195.length + 1 := (Nat.not_le.1 (of_decide_eq_false (not_t hc200)))
            refine zQ ?_
            refine zS [(128, errV (decide (t195.length + 1 ≤ 4096))), (4, errV (decide (t195.length + 1 ≤ 4096)))] ?_
            refine op_nil ?_
            refine W_ret ?_
            exact ⟨_, Res_of (v := errV (decide (t195.length + 1 ≤ 4096))) (by kernel_rfl), ⟨err_eq (by omega), _, _, hB, hMv, hle, fun h => by exfalso; omega⟩⟩
           ·
            replace hc200 : t195.length + 1 ≤ 4096 := (of_decide_eq_true (not_f hc200))
            have e201 := he199 hc200
            have e201l : t199.length = _ := (congrArg List.length e201).trans (List.length_append)
            try simp only [List.length_cons, List.length_nil] at e201l
            refine W_skip ?_
            refine zQ ?_
            refine zS [(129, .pointer (some ⟨q, 0, none⟩)), (130, .int .i64 (nB n))] ?_
            have hltL := hL.lt
            have lt_hB6 := hB6.lt
            have lt_hB36 := hB36.lt
            have lt_hB178 := hB178.lt
            refine st (by rfl) (S_call (args := [.pointer (some ⟨q, 0, none⟩), .int .i64 (nB n)]) (by kernel_rfl) ((by have q := IH (nB n).toNat (by omega) G199 t199 _ hL hB hGF hle; rw [show (((nB n).toNat : Nat) : Int) = nB n by omega] at q; exact q)) ?_)
            rintro _ w202 ⟨rfl, G203, t203, hB, hM203, hle, he203⟩
            have hL := hL.tchS hM203.1 hGF
            have hB6 := hB6.tch hM203.1 (fun e => nhB_hB6 e)
            have hB36 := hB36.tch hM203.1 (fun e => nhB_hB36 e)
            have hB178 := hB178.tch hM203.1 (fun e => nhB_hB178 e)
            have hMv := hMv.trans hM203
            have hGF : ∀ b, G203 b → ¬ F b := fun b hb => (hM203.2 b hb).elim (hGF b) (fun q hf => by have := hltL b hf; omega)
            have nhB_hB6 : ¬ G203 (w1.heap.size) := fun e => (hM203.2 _ e).elim nhB_hB6 (fun q => by omega)
            have nhB_hB36 : ¬ G203 (w31.heap.size) := fun e => (hM203.2 _ e).elim nhB_hB36 (fun q => by omega)
            have nhB_hB178 : ¬ G203 (w33.heap.size) := fun e => (hM203.2 _ e).elim nhB_hB178 (fun q => by omega)
            refine zS [(13, errV (decide (t199.length + (txt N (nB n).toNat).length ≤ 4096)))] ?_
            refine op_nil ?_
            refine W_seq ?_
            refine zF [(0, .pointer (some ⟨q, 0, none⟩)), (1, .int .i64 ((i : Nat) : Int)), (4, .nilIface), (5, .pointer (some ⟨w1.heap.size, 0, none⟩)), (7, .string (bsT (([40]) ++ (wordT (nO n).toNat)))), (8, .slice (some ⟨w33.heap.size, 0, none⟩) 2 2), (9, errV (decide (t.length + (([40]) ++ (wordT (nO n).toNat)).length ≤ 4096))), (11, .int .i64 (nB n)), (12, errV (decide (t195.length + 1 ≤ 4096))), (13, errV (decide (t199.length + (txt N (nB n).toNat).length ≤ 4096))), (24, .int .i64 (nO n)), (25, .bool ((nO n) == 20)), (37, .bool ((nO n) == 21)), (57, .bool ((nO n) == 23)), (72, .bool ((nO n) == 26)), (87, .bool ((nO n) == 22)), (98, .bool true), (116, .bool (!(decide (t.length + (([40]) ++ (wordT (nO n).toNat)).length ≤ 4096)))), (118, .slice (some ⟨w33.heap.size, 0, none⟩) 2 2), (119, .int .i64 2), (120, .int .i64 1), (121, .bool true), (127, .bool (!(decide (t195.length + 1 ≤ 4096)))), (133, .bool (!(decide (t191.length + (txt N (nA n).toNat).length ≤ 4096))))] fun ρ => ?_
            refine zR ?_
            refine zS [(132, errV (decide (t199.length + (txt N (nB n).toNat).length ≤ 4096)))] ?_
            refine stv (v := .bool (!(decide (t199.length + (txt N (nB n).toNat).length ≤ 4096)))) (by rfl) (R_errNeq (by kernel_rfl)) ?_
            refine zO (!(decide (t199.length + (txt N (nB n).toNat).length ≤ 4096))) (fun hc204 => ?_) (fun hc204 => ?_)
            ·
             replace hc204 : 4096 < t199.length + (txt N (nB n).toNat).length := (Nat.not_le.1 (of_decide_eq_false (not_t hc204)))
             refine zQ ?_
             refine zS [(134, errV (decide (t199.length + (txt N (nB n).toNat).length ≤ 4096))), (4, errV (decide (t199.length + (txt N (nB n).toNat).length ≤ 4096)))] ?_
             refine op_nil ?_
             refine W_ret ?_
             exact ⟨_, Res_of (v := errV (decide (t199.length + (txt N (nB n).toNat).length ≤ 4096))) (by kernel_rfl), ⟨err_eq (by omega), _, _, hB, hMv, hle, fun h => by exfalso; omega⟩⟩
            ·
             replace hc204 : t199.length + (txt N (nB n).toNat).length ≤ 4096 := (of_decide_eq_true (not_f hc204))
             have e205 := he203 hc204
             have e205l : t203.length = _ := (congrArg List.length e205).trans (List.length_append)
             try simp only [List.length_cons, List.length_nil] at e205l
             refine W_skip ?_
             refine zR ?_
             refine zS [(135, .int .i64 2), (120, .int .i64 2)] ?_
             refine op_nil ?_
             refine Un_s ?_
             refine zQ ?_
             refine zS [(121, .bool false)] ?_
             refine op_nil ?_
             refine W_seq ?_
             refine zW false (fun h => nomatch h) (fun _ => ?_)
             refine W_exit ?_
             refine X_hit ?_
             refine zQ ?_
             refine zS [(136, .pointer (some ⟨q, 0, none⟩))] ?_
             have hltL := hL.lt
             have lt_hB6 := hB6.lt
             have lt_hB36 := hB36.lt
             have lt_hB178 := hB178.lt
             refine zC (add_ok G203 q p t203 ([41]) _ hB hle (by decide)) ?_
             rintro _ w206 ⟨rfl, G207, t207, hB, hM207, hle, he207⟩
             have hL := hL.tchS hM207.1 hGF
             have hB6 := hB6.tch hM207.1 (fun e => nhB_hB6 e)
             have hB36 := hB36.tch hM207.1 (fun e => nhB_hB36 e)
             have hB178 := hB178.tch hM207.1 (fun e => nhB_hB178 e)
             have hMv := hMv.trans hM207
             have hGF : ∀ b, G207 b → ¬ F b := fun b hb => (hM207.2 b hb).elim (hGF b) (fun q hf => by have := hltL b hf; omega)
             have nhB_hB6 : ¬ G207 (w1.heap.size) := fun e => (hM207.2 _ e).elim nhB_hB6 (fun q => by omega)
             have nhB_hB36 : ¬ G207 (w31.heap.size) := fun e => (hM207.2 _ e).elim nhB_hB36 (fun q => by omega)
             have nhB_hB178 : ¬ G207 (w33.heap.size) := fun e => (hM207.2 _ e).elim nhB_hB178 (fun q => by omega)
             refine zS [(4, errV (decide (t203.length + 1 ≤ 4096)))] ?_
             refine op_nil ?_
             refine W_ret ?_
             refine ⟨_, Res_of (v := errV (decide (t203.length + 1 ≤ 4096))) (by kernel_rfl), ?_⟩
             refine ⟨err_eq (by omega), _, _, hB, hMv, hle, fun h => ?_⟩
             rw [he207 (show _ + 1 ≤ 4096 by omega), e205, e201, e197, e193, e189, hhd, htx]
             simp only [List.append_assoc]
    ·
     replace hb63 : nO n = 25 := (eq_of_beq hb63)
     refine zS [(77, undef), (78, undef), (79, undef), (80, .bool true), (72, .bool true)] ?_
     refine zO true (fun _ => ?_) (fun h => nomatch h)
     refine zF [(0, .pointer (some ⟨q, 0, none⟩)), (1, .int .i64 ((i : Nat) : Int)), (4, .nilIface), (5, .pointer (some ⟨w1.heap.size, 0, none⟩)), (7, .string (bsT (([40]) ++ (wordT (nO n).toNat)))), (8, .slice (some ⟨w31.heap.size, 0, none⟩) 1 1), (24, .int .i64 (nO n)), (25, .bool ((nO n) == 20)), (37, .bool ((nO n) == 21)), (57, .bool ((nO n) == 23)), (72, .bool true)] fun ρ => ?_
     refine zR ?_
     refine zS [(81, .string (bsT (([40]) ++ (wordT (nO n).toNat)))), (82, .pointer (some ⟨w1.heap.size, 1, none⟩))] ?_
     refine zL (.int .i64 (nW n)) ((hB6.cell 1).trans rfl) ?_
     refine zC (numberI_ok (nW n) _ (by omega) (by omega)) ?_
     rintro _ w208 ⟨rfl, hT209⟩
     have hL := hL.tch0 hT209
     have hB := hB.tch0 hT209
     have hMv := hMv.then0 hT209
     have hB6 := hB6.tch0 hT209
     have hB36 := hB36.tch0 hT209
     refine stv (v := .string (bsT (([32]) ++ (dgs (nW n).toNat)))) (by rfl) (R_sadd (a := [32]) (b := dgs (nW n).toNat) (by kernel_rfl) (by kernel_rfl) (by first | omega | (simp only [List.length_append, List.length_cons, List.length_nil]; have := wordT_len (nO n).toNat; have := @dgs_20 (nB n).toNat; have := @dgs_20 (nW n).toNat; have := @dgs_20 (nA n).toNat; have := @dgs_20 (nV n).toNat; unfold u64 at hV; omega))) ?_
     refine stv (v := .string (bsT ((([40]) ++ (wordT (nO n).toNat)) ++ (([32]) ++ (dgs (nW n).toNat))))) (by rfl) (R_sadd (a := ([40]) ++ (wordT (nO n).toNat)) (b := ([32]) ++ (dgs (nW n).toNat)) (by kernel_rfl) (by kernel_rfl) (by first | omega | (simp only [List.length_append, List.length_cons, List.length_nil]; have := wordT_len (nO n).toNat; have := @dgs_20 (nB n).toNat; have := @dgs_20 (nW n).toNat; have := @dgs_20 (nA n).toNat; have := @dgs_20 (nV n).toNat; unfold u64 at hV; omega))) ?_
     refine zS [(7, .string (bsT ((([40]) ++ (wordT (nO n).toNat)) ++ (([32]) ++ (dgs (nW n).toNat)))))] ?_
     refine op_nil ?_
     refine W_seq ?_
     refine W_seq ?_
     have hhd : (([40]) ++ (wordT (nO n).toNat)) ++ (([32]) ++ (dgs (nW n).toNat)) = hdT n := by unfold hdT; first | (rw [mid23 (by omega)] <;> simp only [List.append_assoc]) | (rw [mid25 (by omega)] <;> simp only [List.append_assoc]) | (rw [mid0 (by omega) (by omega)] <;> simp only [List.append_assoc, List.append_nil])
     have hhl := hd_len (fun e => (hn.pos (by omega) (by omega)).2.1 (by omega)) (by omega) hw
     have hHl : ((([40]) ++ (wordT (nO n).toNat)) ++ (([32]) ++ (dgs (nW n).toNat))).length = (hdT n).length := congrArg List.length hhd
     have hkids : kidsN n = [(nA n).toNat] := by unfold kidsN; first | (rw [if_neg (by omega), if_pos (by omega)]) | (rw [if_neg (by omega), if_neg (by omega), if_pos (by omega)]) | (rw [if_neg (by omega), if_neg (by omega), if_neg (by omega)])
     obtain ⟨hp1, hp2, hp3, _⟩ := hn.pos (by omega) (by omega)
     have hk210 := kids_lt hn (nA n).toNat (by rw [hkids]; simp)
     have htx := txt_k1 hni hn (by omega) (by omega) hkids
     have hlen := congrArg List.length htx
     simp only [List.length_append, List.length_cons, List.length_nil] at hlen
     refine zR ?_
     refine zS [(112, .pointer (some ⟨q, 0, none⟩)), (113, .string (bsT ((([40]) ++ (wordT (nO n).toNat)) ++ (([32]) ++ (dgs (nW n).toNat)))))] ?_
     have hltL := hL.lt
     have lt_hB6 := hB6.lt
     have lt_hB36 := hB36.lt
     refine zC (add_ok G q p t ((([40]) ++ (wordT (nO n).toNat)) ++ (([32]) ++ (dgs (nW n).toNat))) _ hB hle (by omega)) ?_
     rintro _ w211 ⟨rfl, G212, t212, hB, hM212, hle, he212⟩
     have hL := hL.tchS hM212.1 hGF
     have hB6 := hB6.tch hM212.1 (fun e => nhB_hB6 e)
     have hB36 := hB36.tch hM212.1 (fun e => nhB_hB36 e)
     have hMv := hMv.trans hM212
     have hGF : ∀ b, G212 b → ¬ F b := fun b hb => (hM212.2 b hb).elim (hGF b) (fun q hf => by have := hltL b hf; omega)
     have nhB_hB6 : ¬ G212 (w1.heap.size) := fun e => (hM212.2 _ e).elim nhB_hB6 (fun q => by omega)
     have nhB_hB36 : ¬ G212 (w31.heap.size) := fun e => (hM212.2 _ e).elim nhB_hB36 (fun q => by omega)
     refine zS [(9, errV (decide (t.length + ((([40]) ++ (wordT (nO n).toNat)) ++ (([32]) ++ (dgs (nW n).toNat))).length ≤ 4096)))] ?_
     refine op_nil ?_
     refine W_seq ?_
     refine zF [(0, .pointer (some ⟨q, 0, none⟩)), (1, .int .i64 ((i : Nat) : Int)), (4, .nilIface), (5, .pointer (some ⟨w1.heap.size, 0, none⟩)), (7, .string (bsT ((([40]) ++ (wordT (nO n).toNat)) ++ (([32]) ++ (dgs (nW n).toNat))))), (8, .slice (some ⟨w31.heap.size, 0, none⟩) 1 1), (9, errV (decide (t.length + ((([40]) ++ (wordT (nO n).toNat)) ++ (([32]) ++ (dgs (nW n).toNat))).length ≤ 4096))), (24, .int .i64 (nO n)), (25, .bool ((nO n) == 20)), (37, .bool ((nO n) == 21)), (57, .bool ((nO n) == 23)), (72, .bool true)] fun ρ => ?_
     refine zR ?_
     refine zS [(115, errV (decide (t.length + ((([40]) ++ (wordT (nO n).toNat)) ++ (([32]) ++ (dgs (nW n).toNat))).length ≤ 4096)))] ?_
     refine stv (v := .bool (!(decide (t.length + ((([40]) ++ (wordT (nO n).toNat)) ++ (([32]) ++ (dgs (nW n).toNat))).length ≤ 4096)))) (by rfl) (R_errNeq (by kernel_rfl)) ?_
     refine zO (!(decide (t.length + ((([40]) ++ (wordT (nO n).toNat)) ++ (([32]) ++ (dgs (nW n).toNat))).length ≤ 4096))) (fun hc213 => ?_) (fun hc213 => ?_)
     ·
      replace hc213 : 4096 < t.length + ((([40]) ++ (wordT (nO n).toNat)) ++ (([32]) ++ (dgs (nW n).toNat))).length := (Nat.not_le.1 (of_decide_eq_false (not_t hc213)))
      refine zQ ?_
      refine zS [(117, errV (decide (t.length + ((([40]) ++ (wordT (nO n).toNat)) ++ (([32]) ++ (dgs (nW n).toNat))).length ≤ 4096))), (4, errV (decide (t.length + ((([40]) ++ (wordT (nO n).toNat)) ++ (([32]) ++ (dgs (nW n).toNat))).length ≤ 4096)))] ?_
      refine op_nil ?_
      refine W_ret ?_
      exact ⟨_, Res_of (v := errV (decide (t.length + ((([40]) ++ (wordT (nO n).toNat)) ++ (([32]) ++ (dgs (nW n).toNat))).length ≤ 4096))) (by kernel_rfl), ⟨err_eq (by omega), _, _, hB, hMv, hle, fun h => by exfalso; omega⟩⟩
     ·
      replace hc213 : t.length + ((([40]) ++ (wordT (nO n).toNat)) ++ (([32]) ++ (dgs (nW n).toNat))).length ≤ 4096 := (of_decide_eq_true (not_f hc213))
      have e214 := he212 hc213
      have e214l : t212.length = _ := (congrArg List.length e214).trans (List.length_append)
      try simp only [List.length_cons, List.length_nil] at e214l
      refine W_skip ?_
      refine W_seq ?_
      refine zQ ?_
      refine zS [(118, .slice (some ⟨w31.heap.size, 0, none⟩) 1 1), (119, .int .i64 1), (120, .int .i64 0)] ?_
      refine op_nil ?_
      refine W_block ?_
      refine W_un 4 ?_
      refine Un_s ?_
      refine zQ ?_
      refine zS [(121, .bool true)] ?_
      refine op_nil ?_
      refine W_seq ?_
      refine zW true (fun _ => ?_) (fun h => nomatch h)
      refine W_skip ?_
      refine W_seq ?_
      refine W_block ?_
      refine zQ ?_
      refine stv (v := .pointer (some ⟨w31.heap.size, 0, none⟩)) (by rfl) (R_index1 (b := w31.heap.size) (off := 0) (len := 1) (cap := 1) (k := .i64) (i := 0) (e := 3) (by kernel_rfl) (by kernel_rfl) (by kernel_rfl) (by kernel_rfl) (by omega) (by omega)) ?_
      refine zL (.int .i64 (nA n)) ((hB36.cell 0).trans rfl) ?_
      refine zS [(11, .int .i64 (nA n))] ?_
      refine op_nil ?_
      refine W_seq ?_
      refine W_seq ?_
      refine zF [(0, .pointer (some ⟨q, 0, none⟩)), (1, .int .i64 ((i : Nat) : Int)), (4, .nilIface), (5, .pointer (some ⟨w1.heap.size, 0, none⟩)), (7, .string (bsT ((([40]) ++ (wordT (nO n).toNat)) ++ (([32]) ++ (dgs (nW n).toNat))))), (8, .slice (some ⟨w31.heap.size, 0, none⟩) 1 1), (9, errV (decide (t.length + ((([40]) ++ (wordT (nO n).toNat)) ++ (([32]) ++ (dgs (nW n).toNat))).length ≤ 4096))), (11, .int .i64 (nA n)), (24, .int .i64 (nO n)), (25, .bool ((nO n) == 20)), (37, .bool ((nO n) == 21)), (57, .bool ((nO n) == 23)), (72, .bool true), (116, .bool (!(decide (t.length + ((([40]) ++ (wordT (nO n).toNat)) ++ (([32]) ++ (dgs (nW n).toNat))).length ≤ 4096)))), (118, .slice (some ⟨w31.heap.size, 0, none⟩) 1 1), (119, .int .i64 1), (120, .int .i64 0), (121, .bool true)] fun ρ => ?_
      refine zR ?_
      refine zS [(124, .pointer (some ⟨q, 0, none⟩))] ?_
      have hltL := hL.lt
      have lt_hB6 := hB6.lt
      have lt_hB36 := hB36.lt
      refine zC (add_ok G212 q p t212 ([32]) _ hB hle (by decide)) ?_
      rintro _ w215 ⟨rfl, G216, t216, hB, hM216, hle, he216⟩
      have hL := hL.tchS hM216.1 hGF
      have hB6 := hB6.tch hM216.1 (fun e => nhB_hB6 e)
      have hB36 := hB36.tch hM216.1 (fun e => nhB_hB36 e)
      have hMv := hMv.trans hM216
      have hGF : ∀ b, G216 b → ¬ F b := fun b hb => (hM216.2 b hb).elim (hGF b) (fun q hf => by have := hltL b hf; omega)
      have nhB_hB6 : ¬ G216 (w1.heap.size) := fun e => (hM216.2 _ e).elim nhB_hB6 (fun q => by omega)
      have nhB_hB36 : ¬ G216 (w31.heap.size) := fun e => (hM216.2 _ e).elim nhB_hB36 (fun q => by omega)
      refine zS [(12, errV (decide (t212.length + 1 ≤ 4096)))] ?_
      refine op_nil ?_
      refine zQ ?_
      refine zS [(126, errV (decide (t212.length + 1 ≤ 4096)))] ?_
      refine stv (v := .bool (!(decide (t212.length + 1 ≤ 4096)))) (by rfl) (R_errNeq (by kernel_rfl)) ?_
      refine zO (!(decide (t212.length + 1 ≤ 4096))) (fun hc217 => ?_) (fun hc217 => ?_)
      ·
       replace hc217 : 4096 < t212.length + 1 := (Nat.not_le.1 (of_decide_eq_false (not_t hc217)))
       refine zQ ?_
       refine zS [(128, errV (decide (t212.length + 1 ≤ 4096))), (4, errV (decide (t212.length + 1 ≤ 4096)))] ?_
       refine op_nil ?_
       refine W_ret ?_
       exact ⟨_, Res_of (v := errV (decide (t212.length + 1 ≤ 4096))) (by kernel_rfl), ⟨err_eq (by omega), _, _, hB, hMv, hle, fun h => by exfalso; omega⟩⟩
      ·
       replace hc217 : t212.length + 1 ≤ 4096 := (of_decide_eq_true (not_f hc217))
       have e218 := he216 hc217
       have e218l : t216.length = _ := (congrArg List.length e218).trans (List.length_append)
       try simp only [List.length_cons, List.length_nil] at e218l
       refine W_skip ?_
       refine zQ ?_
       refine zS [(129, .pointer (some ⟨q, 0, none⟩)), (130, .int .i64 (nA n))] ?_
       have hltL := hL.lt
       have lt_hB6 := hB6.lt
       have lt_hB36 := hB36.lt
       refine st (by rfl) (S_call (args := [.pointer (some ⟨q, 0, none⟩), .int .i64 (nA n)]) (by kernel_rfl) ((by have q := IH (nA n).toNat (by omega) G216 t216 _ hL hB hGF hle; rw [show (((nA n).toNat : Nat) : Int) = nA n by omega] at q; exact q)) ?_)
       rintro _ w219 ⟨rfl, G220, t220, hB, hM220, hle, he220⟩
       have hL := hL.tchS hM220.1 hGF
       have hB6 := hB6.tch hM220.1 (fun e => nhB_hB6 e)
       have hB36 := hB36.tch hM220.1 (fun e => nhB_hB36 e)
       have hMv := hMv.trans hM220
       have hGF : ∀ b, G220 b → ¬ F b := fun b hb => (hM220.2 b hb).elim (hGF b) (fun q hf => by have := hltL b hf; omega)
       have nhB_hB6 : ¬ G220 (w1.heap.size) := fun e => (hM220.2 _ e).elim nhB_hB6 (fun q => by omega)
       have nhB_hB36 : ¬ G220 (w31.heap.size) := fun e => (hM220.2 _ e).elim nhB_hB36 (fun q => by omega)
       refine zS [(13, errV (decide (t216.length + (txt N (nA n).toNat).length ≤ 4096)))] ?_
       refine op_nil ?_
       refine W_seq ?_
       refine zF [(0, .pointer (some ⟨q, 0, none⟩)), (1, .int .i64 ((i : Nat) : Int)), (4, .nilIface), (5, .pointer (some ⟨w1.heap.size, 0, none⟩)), (7, .string (bsT ((([40]) ++ (wordT (nO n).toNat)) ++ (([32]) ++ (dgs (nW n).toNat))))), (8, .slice (some ⟨w31.heap.size, 0, none⟩) 1 1), (9, errV (decide (t.length + ((([40]) ++ (wordT (nO n).toNat)) ++ (([32]) ++ (dgs (nW n).toNat))).length ≤ 4096))), (11, .int .i64 (nA n)), (12, errV (decide (t212.length + 1 ≤ 4096))), (13, errV (decide (t216.length + (txt N (nA n).toNat).length ≤ 4096))), (24, .int .i64 (nO n)), (25, .bool ((nO n) == 20)), (37, .bool ((nO n) == 21)), (57, .bool ((nO n) == 23)), (72, .bool true), (116, .bool (!(decide (t.length + ((([40]) ++ (wordT (nO n).toNat)) ++ (([32]) ++ (dgs (nW n).toNat))).length ≤ 4096)))), (118, .slice (some ⟨w31.heap.size, 0, none⟩) 1 1), (119, .int .i64 1), (120, .int .i64 0), (121, .bool true), (127, .bool (!(decide (t212.length + 1 ≤ 4096))))] fun ρ => ?_
       refine zR ?_
       refine zS [(132, errV (decide (t216.length + (txt N (nA n).toNat).length ≤ 4096)))] ?_
       refine stv (v := .bool (!(decide (t216.length + (txt N (nA n).toNat).length ≤ 4096)))) (by rfl) (R_errNeq (by kernel_rfl)) ?_
       refine zO (!(decide (t216.length + (txt N (nA n).toNat).length ≤ 4096))) (fun hc221 => ?_) (fun hc221 => ?_)
       ·
        replace hc221 : 4096 < t216.length + (txt N (nA n).toNat).length := (Nat.not_le.1 (of_decide_eq_false (not_t hc221)))
        refine zQ ?_
        refine zS [(134, errV (decide (t216.length + (txt N (nA n).toNat).length ≤ 4096))), (4, errV (decide (t216.length + (txt N (nA n).toNat).length ≤ 4096)))] ?_
        refine op_nil ?_
        refine W_ret ?_
        exact ⟨_, Res_of (v := errV (decide (t216.length + (txt N (nA n).toNat).length ≤ 4096))) (by kernel_rfl), ⟨err_eq (by omega), _, _, hB, hMv, hle, fun h => by exfalso; omega⟩⟩
       ·
        replace hc221 : t216.length + (txt N (nA n).toNat).length ≤ 4096 := (of_decide_eq_true (not_f hc221))
        have e222 := he220 hc221
        have e222l : t220.length = _ := (congrArg List.length e222).trans (List.length_append)
        try simp only [List.length_cons, List.length_nil] at e222l
        refine W_skip ?_
        refine zR ?_
        refine zS [(135, .int .i64 1), (120, .int .i64 1)] ?_
        refine op_nil ?_
        refine Un_s ?_
        refine zQ ?_
        refine zS [(121, .bool false)] ?_
        refine op_nil ?_
        refine W_seq ?_
        refine zW false (fun h => nomatch h) (fun _ => ?_)
        refine W_exit ?_
        refine X_hit ?_
        refine zQ ?_
        refine zS [(136, .pointer (some ⟨q, 0, none⟩))] ?_
        have hltL := hL.lt
        have lt_hB6 := hB6.lt
        have lt_hB36 := hB36.lt
        refine zC (add_ok G220 q p t220 ([41]) _ hB hle (by decide)) ?_
        rintro _ w223 ⟨rfl, G224, t224, hB, hM224, hle, he224⟩
        have hL := hL.tchS hM224.1 hGF
        have hB6 := hB6.tch hM224.1 (fun e => nhB_hB6 e)
        have hB36 := hB36.tch hM224.1 (fun e => nhB_hB36 e)
        have hMv := hMv.trans hM224
        have hGF : ∀ b, G224 b → ¬ F b := fun b hb => (hM224.2 b hb).elim (hGF b) (fun q hf => by have := hltL b hf; omega)
        have nhB_hB6 : ¬ G224 (w1.heap.size) := fun e => (hM224.2 _ e).elim nhB_hB6 (fun q => by omega)
        have nhB_hB36 : ¬ G224 (w31.heap.size) := fun e => (hM224.2 _ e).elim nhB_hB36 (fun q => by omega)
        refine zS [(4, errV (decide (t220.length + 1 ≤ 4096)))] ?_
        refine op_nil ?_
        refine W_ret ?_
        refine ⟨_, Res_of (v := errV (decide (t220.length + 1 ≤ 4096))) (by kernel_rfl), ?_⟩
        refine ⟨err_eq (by omega), _, _, hB, hMv, hle, fun h => ?_⟩
        rw [he224 (show _ + 1 ≤ 4096 by omega), e222, e218, e214, hhd, htx]
        simp only [List.append_assoc]

end Go.Proofs.YtlbadnpgmkobdaaV
