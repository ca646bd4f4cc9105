/- Walks of functions of the program and of the document's texts: each call returns what the plain function says, and turns nothing that lay. The conditions stand with each theorem. -/
import Derived.Test.YthfjceemphhgcaaProg
import Derived.Test.YthfjceemphhgcaaVx2
import Derived.Test.YthfjceemphhgcaaO2
set_option linter.unusedVariables false
set_option linter.unusedSimpArgs false
namespace Go.Proofs.YthfjceemphhgcaaV
open Go Go.RowKit Go.Proofs

def top : Int := 1099511627776
def okA (ac : List Int) : Prop := ∀ x, 0 ≤ ac.getD x 0 ∧ ac.getD x 0 ≤ 1099511627776
theorem okA.set {ac : List Int} (h : okA ac) {x : Nat} {y : Int} (hx : x < ac.length) (h0 : 0 ≤ y) (h1 : y ≤ 1099511627776) : okA (ac.set x y) := by
  intro j
  rw [HeapP.setD _ _ _ _ hx]
  split
  · exact ⟨h0, h1⟩
  · exact h j
theorem okA.half {ac : List Int} (h : okA ac) : okA (HeapP.halveL ac) := by
  intro j
  rw [HeapP.halveL_getD]
  have := h j
  omega
/-- An order in memory, all of whose blocks are of F. -/
def Ord (F : Nat → Prop) (w : World) (p n : Nat) (hp : List Nat) (ac : List Int) : Prop :=
  ∃ A cp bat bac at_, Blk w p 53 [.slice A hp.length cp, .slice (some ⟨bat, 0, none⟩) n n, .slice (some ⟨bac, 0, none⟩) n n] ∧ Own w 0 3 1 (.slice A hp.length cp) hp.length (nats hp) ∧ Blk w bat 3 (ints .i64 at_) ∧ Blk w bac 3 (ints .i64 ac) ∧
    (∀ c, (Value.slice A hp.length cp).ownBlock = some c → c ≠ bat ∧ c ≠ bac ∧ F c) ∧ bat ≠ bac ∧ F p ∧ F bat ∧ F bac ∧ (∀ b, F b → b < w.heap.size) ∧ at_.length = n ∧ ac.length = n ∧ n ≤ 1048576 ∧ (∀ x, x ∈ hp → x < n) ∧ HeapP.AtOk n hp at_ ∧ okA ac ∧ HeapP.Fine (HeapP.lt ac) hp
def Mv (F F' : Nat → Prop) (w w' : World) : Prop := Tch F w w' ∧ ∀ b, F' b → F b ∨ w.heap.size ≤ b
theorem Ord.tch0 {F : Nat → Prop} {w w' : World} {p n : Nat} {hp : List Nat} {ac : List Int} (h : Ord F w p n hp ac) (k : Tch N0 w w') : Ord F w' p n hp ac := by
  obtain ⟨A, cp, bat, bac, at_, hP, hO, hT, hC, h1, h2, h3, h4, h5, h6, h7⟩ := h
  exact ⟨A, cp, bat, bac, at_, hP.tch0 k, hO.tch0 k, hT.tch0 k, hC.tch0 k, h1, h2, h3, h4, h5, fun b hb => Nat.lt_of_lt_of_le (h6 b hb) k.size, h7⟩
theorem Ord.of_obj {F : Nat → Prop} {w : World} {p g cp bat bac n : Nat} {hp : List Nat} {sp : List Value} {at_ ac : List Int} (h : Obj w p g cp bat bac n hp sp at_ ac) (hq : HeapP.Pur p g bat bac n hp at_ ac) (hc : (nats hp ++ sp).length = cp) (hcp : cp ≤ maxLen)
    (fp : F p) (fg : F g) (ft : F bat) (fc : F bac) (hF : ∀ b, F b → b < w.heap.size) (ha : okA ac) (hf : HeapP.Fine (HeapP.lt ac) hp) : Ord F w p n hp ac := by
  obtain ⟨hP, hH, hT, hC⟩ := h
  obtain ⟨⟨n1, n2, n3, n4, n5, n6⟩, la, lc, hn, hm, hlt, hat⟩ := hq
  exact ⟨_, cp, bat, bac, at_, hP, hH.own1 (nats_length _) hc (by rw [← hc, List.length_append, nats_length]; omega) hcp, hT, hC, fun c e => by
    simp only [Value.ownBlock, Option.some.injEq] at e; subst e; exact ⟨n4, n5, fg⟩, n6, fp, ft, fc, hF, la, lc, hn, hlt, hat, ha, hf⟩
theorem Ord.to_obj {F : Nat → Prop} {w : World} {p n : Nat} {hp : List Nat} {ac : List Int} (h : Ord F w p n hp ac) (h0 : 0 < hp.length) : ∃ g cp bat bac sp at_, Obj w p g cp bat bac n hp sp at_ ac ∧ HeapP.Pur p g bat bac n hp at_ ac ∧ (nats hp ++ sp).length = cp ∧ cp ≤ maxLen ∧
    F p ∧ F g ∧ F bat ∧ F bac ∧ (∀ b, F b → b < w.heap.size) ∧ okA ac ∧ HeapP.Fine (HeapP.lt ac) hp := by
  obtain ⟨A, cp, bat, bac, at_, hP, hO, hT, hC, h1, h2, h3, h4, h5, h6, h7, h8, h9, h10, h11, h12, h13⟩ := h
  obtain ⟨g, sp, rfl, hH, hl, hcn, hcm⟩ := hO.blk1 h0
  obtain ⟨n4, n5, fg⟩ := h1 g rfl
  exact ⟨g, cp, bat, bac, sp, at_, ⟨hP, hH, hT, hC⟩, ⟨⟨hP.ne hH (by decide), hP.ne hT (by decide), hP.ne hC (by decide), n4, n5, h2⟩, h7, h8, h9, HeapP.nodup_le n hp h11.nodup h10, h10, h11⟩, hl, hcm, h3, fg, h4, h5, h6, h12, h13⟩
theorem Ord.len {F : Nat → Prop} {w : World} {p n : Nat} {hp : List Nat} {ac : List Int} (h : Ord F w p n hp ac) : hp.length ≤ n := by
  obtain ⟨A, cp, bat, bac, at_, hP, hO, hT, hC, h1, h2, h3, h4, h5, h6, h7, h8, h9, h10, h11, h12, h13⟩ := h
  exact HeapP.nodup_le n hp h11.nodup h10
theorem foot_F {F : Nat → Prop} {p g bat bac : Nat} {w : World} (fp : F p) (fg : F g ∨ w.heap.size ≤ g) (ft : F bat) (fc : F bac) : ∀ b, b < w.heap.size → foot p g bat bac b → F b := by
  rintro b hb (rfl | rfl | rfl | rfl)
  · exact fp
  · rcases fg with h | h
    · exact h
    · omega
  · exact ft
  · exact fc

set_option maxRecDepth 100000 in
theorem has_ok (F : Nat → Prop) (p n : Nat) (hp : List Nat) (ac : List Int) (v : Int) (w : World) (h : Ord F w p n hp ac) : Ret Try.prog 22 [.pointer (some ⟨p, 0, none⟩), .int .i64 v] w fun x w' => x = .bool (HeapP.hasB hp v) ∧ Tch N0 w w' := by
  obtain ⟨A, cp, bat, bac, at_, hP, hO, hT, hC, hAF, n6, fp, ft, fc, hF, la, lc, hn, hlt, hat, hac, hfn⟩ := h
  have n2 : p ≠ bat := hP.ne hT (by decide)
  have n3 : p ≠ bac := hP.ne hC (by decide)
  have hm := HeapP.nodup_le n hp hat.nodup hlt
  refine enter Try.func22 rfl rfl ?_
  refine W_seq ?_
  refine W_region (by kernel_rfl) ?_
  refine seg1 (ρ' := upd (ini [.pointer (some ⟨p, 0, none⟩), .int .i64 v]) 4 (.bool false)) (by kernel_rfl) ?_
  refine op_nil ?_
  refine W_seq ?_
  refine W_region (by kernel_rfl) ?_
  refine seg2 (ρ' := upd (upd (upd (ini [.pointer (some ⟨p, 0, none⟩), .int .i64 v]) 4 (.bool false)) 5 (.pointer (some ⟨p, 0, none⟩))) 6 (.int .i64 v)) (by kernel_rfl) ?_
  refine st (by rfl) (S_call (args := [.pointer (some ⟨p, 0, none⟩), .int .i64 v]) (by kernel_rfl) (none_ok p bat n (.slice A hp.length cp) (.slice (some ⟨bac, 0, none⟩) n n) v _ hP) ?_)
  rintro _ w1 ⟨rfl, hT2⟩
  have hT0 := hT2
  have hP := hP.tch0 hT2
  have hT := hT.tch0 hT2
  have hC := hC.tch0 hT2
  refine seg2 (ρ' := upd (upd (upd (upd (upd (upd (ini [.pointer (some ⟨p, 0, none⟩), .int .i64 v]) 4 (.bool false)) 5 (.pointer (some ⟨p, 0, none⟩))) 6 (.int .i64 v)) 7 (.bool (noneB n v))) 8 (.bool (!(noneB n v)))) 9 (.bool (!(noneB n v)))) (by kernel_rfl) ?_
  cases hb3 : !(noneB n v)
  · replace hb3 : v < 0 ∨ (n : Int) ≤ v := (noneB_t (not_f hb3))
    refine seg10 (ρ' := upd (upd (upd (upd (upd (upd (upd (upd (upd (upd (upd (upd (upd (upd (upd (upd (ini [.pointer (some ⟨p, 0, none⟩), .int .i64 v]) 4 (.bool false)) 5 (.pointer (some ⟨p, 0, none⟩))) 6 (.int .i64 v)) 7 (.bool (noneB n v))) 8 (.bool false)) 9 (.bool false)) 10 (undef)) 11 (undef)) 12 (undef)) 13 (undef)) 14 (undef)) 15 (undef)) 16 (undef)) 17 (undef)) 18 (.bool false)) 4 (.bool false)) (by kernel_rfl) ?_
    refine op_nil ?_
    refine W_ret ?_
    exact ⟨_, Res_of (v := .bool false) (by kernel_rfl), ⟨congrArg Value.bool (by first | exact HeapP.has_none hlt (by assumption) | exact HeapP.has_at hat (by omega) (by omega)), hT0⟩⟩
  · replace hb3 : 0 ≤ v ∧ v < (n : Int) := (noneB_f (not_t hb3))
    refine seg3 (ρ' := upd (upd (upd (upd (upd (upd (upd (upd (upd (ini [.pointer (some ⟨p, 0, none⟩), .int .i64 v]) 4 (.bool false)) 5 (.pointer (some ⟨p, 0, none⟩))) 6 (.int .i64 v)) 7 (.bool (noneB n v))) 8 (.bool true)) 9 (.bool true)) 10 (.pointer (some ⟨p, 0, none⟩))) 11 (.pointer (some ⟨p, 0, none⟩))) 12 (.pointer (some ⟨p, 1, none⟩))) (by kernel_rfl) ?_
    refine st (by kernel_rfl) (S_val (v := .slice (some ⟨bat, 0, none⟩) n n) (R_load (v := .slice (some ⟨bat, 0, none⟩) n n) (by kernel_rfl) (by kernel_rfl) ((hP.cell 1).trans rfl)) ?_)
    refine seg1 (ρ' := upd (upd (upd (upd (upd (upd (upd (upd (upd (upd (upd (ini [.pointer (some ⟨p, 0, none⟩), .int .i64 v]) 4 (.bool false)) 5 (.pointer (some ⟨p, 0, none⟩))) 6 (.int .i64 v)) 7 (.bool (noneB n v))) 8 (.bool true)) 9 (.bool true)) 10 (.pointer (some ⟨p, 0, none⟩))) 11 (.pointer (some ⟨p, 0, none⟩))) 12 (.pointer (some ⟨p, 1, none⟩))) 13 (.slice (some ⟨bat, 0, none⟩) n n)) 14 (.int .i64 v)) (by kernel_rfl) ?_
    refine stv (v := .pointer (some ⟨bat, v.toNat, none⟩)) (by kernel_rfl) (R_index0 (b := bat) (len := n) (cap := n) (k := .i64) (i := v) (e := 3) v.toNat (by kernel_rfl) (by kernel_rfl) (by kernel_rfl) (by kernel_rfl) (by omega) (by first | omega | (simp only [List.length_set, List.length_map]; omega))) ?_
    refine st (by kernel_rfl) (S_val (v := .int .i64 (at_.getD v.toNat 0)) (R_load (v := .int .i64 (at_.getD v.toNat 0)) (by kernel_rfl) (by kernel_rfl) ((hT.cell _).trans (ints_at .i64 _ (by first | omega | (simp only [List.length_set, List.length_map]; omega))))) ?_)
    refine seg3 (ρ' := upd (upd (upd (upd (upd (upd (upd (upd (upd (upd (upd (upd (upd (upd (upd (upd (ini [.pointer (some ⟨p, 0, none⟩), .int .i64 v]) 4 (.bool false)) 5 (.pointer (some ⟨p, 0, none⟩))) 6 (.int .i64 v)) 7 (.bool (noneB n v))) 8 (.bool true)) 9 (.bool true)) 10 (.pointer (some ⟨p, 0, none⟩))) 11 (.pointer (some ⟨p, 0, none⟩))) 12 (.pointer (some ⟨p, 1, none⟩))) 13 (.slice (some ⟨bat, 0, none⟩) n n)) 14 (.int .i64 v)) 15 (.pointer (some ⟨bat, v.toNat, none⟩))) 16 (.int .i64 (at_.getD v.toNat 0))) 17 (.bool (decide (at_.getD v.toNat 0 ≥ 0)))) 18 (.bool (decide (at_.getD v.toNat 0 ≥ 0)))) 4 (.bool (decide (at_.getD v.toNat 0 ≥ 0)))) (by kernel_rfl) ?_
    refine op_nil ?_
    refine W_ret ?_
    exact ⟨_, Res_of (v := .bool (decide (at_.getD v.toNat 0 ≥ 0))) (by kernel_rfl), ⟨congrArg Value.bool (by first | exact HeapP.has_none hlt (by assumption) | exact HeapP.has_at hat (by omega) (by omega)), hT0⟩⟩

set_option maxRecDepth 100000 in
theorem has_nil (v : Int) (w : World) : Ret Try.prog 22 [.pointer none, .int .i64 v] w fun x w' => x = .bool false ∧ Tch N0 w w' := by
  refine enter Try.func22 rfl rfl ?_
  refine W_seq ?_
  refine W_region (by kernel_rfl) ?_
  refine seg1 (ρ' := upd (ini [.pointer none, .int .i64 v]) 4 (.bool false)) (by kernel_rfl) ?_
  refine op_nil ?_
  refine W_seq ?_
  refine W_region (by kernel_rfl) ?_
  refine seg2 (ρ' := upd (upd (upd (ini [.pointer none, .int .i64 v]) 4 (.bool false)) 5 (.pointer none)) 6 (.int .i64 v)) (by kernel_rfl) ?_
  refine st (by rfl) (S_call (args := [.pointer none, .int .i64 v]) (by kernel_rfl) (none_nil v _) ?_)
  rintro _ w1 ⟨rfl, hT2⟩
  have hT0 := hT2
  refine seg12 (ρ' := upd (upd (upd (upd (upd (upd (upd (upd (upd (upd (upd (upd (upd (upd (upd (upd (ini [.pointer none, .int .i64 v]) 4 (.bool false)) 5 (.pointer none)) 6 (.int .i64 v)) 7 (.bool true)) 8 (.bool false)) 9 (.bool false)) 10 (undef)) 11 (undef)) 12 (undef)) 13 (undef)) 14 (undef)) 15 (undef)) 16 (undef)) 17 (undef)) 18 (.bool false)) 4 (.bool false)) (by kernel_rfl) ?_
  refine op_nil ?_
  refine W_ret ?_
  exact ⟨_, Res_of (v := .bool false) (by kernel_rfl), ⟨rfl, hT0⟩⟩

set_option maxRecDepth 100000 in
theorem act_ok (F : Nat → Prop) (p n : Nat) (hp : List Nat) (ac : List Int) (v : Int) (w : World) (h : Ord F w p n hp ac) : Ret Try.prog 23 [.pointer (some ⟨p, 0, none⟩), .int .i64 v] w fun x w' => x = .int .i64 (HeapP.actB ac v) ∧ Tch N0 w w' := by
  obtain ⟨A, cp, bat, bac, at_, hP, hO, hT, hC, hAF, n6, fp, ft, fc, hF, la, lc, hn, hlt, hat, hac, hfn⟩ := h
  have n2 : p ≠ bat := hP.ne hT (by decide)
  have n3 : p ≠ bac := hP.ne hC (by decide)
  have hm := HeapP.nodup_le n hp hat.nodup hlt
  refine enter Try.func23 rfl rfl ?_
  refine W_seq ?_
  refine W_region (by kernel_rfl) ?_
  refine seg1 (ρ' := upd (ini [.pointer (some ⟨p, 0, none⟩), .int .i64 v]) 4 (.int .i64 0)) (by kernel_rfl) ?_
  refine op_nil ?_
  refine W_seq ?_
  refine W_seq ?_
  refine W_region (by kernel_rfl) ?_
  refine seg2 (ρ' := upd (upd (upd (ini [.pointer (some ⟨p, 0, none⟩), .int .i64 v]) 4 (.int .i64 0)) 5 (.pointer (some ⟨p, 0, none⟩))) 6 (.int .i64 v)) (by kernel_rfl) ?_
  refine st (by rfl) (S_call (args := [.pointer (some ⟨p, 0, none⟩), .int .i64 v]) (by kernel_rfl) (none_ok p bat n (.slice A hp.length cp) (.slice (some ⟨bac, 0, none⟩) n n) v _ hP) ?_)
  rintro _ w1 ⟨rfl, hT2⟩
  have hT0 := hT2
  have hP := hP.tch0 hT2
  have hT := hT.tch0 hT2
  have hC := hC.tch0 hT2
  refine op_nil ?_
  refine W_cond (noneB n v) (by kernel_rfl) (by kernel_rfl) (fun hc3 => ?_) (fun hc3 => ?_)
  · replace hc3 : v < 0 ∨ (n : Int) ≤ v := (noneB_t hc3)
    refine W_seq ?_
    refine W_region (by kernel_rfl) ?_
    refine seg1 (ρ' := upd (upd (upd (upd (upd (ini [.pointer (some ⟨p, 0, none⟩), .int .i64 v]) 4 (.int .i64 0)) 5 (.pointer (some ⟨p, 0, none⟩))) 6 (.int .i64 v)) 7 (.bool (noneB n v))) 4 (.int .i64 0)) (by kernel_rfl) ?_
    refine op_nil ?_
    refine W_ret ?_
    exact ⟨_, Res_of (v := .int .i64 0) (by kernel_rfl), ⟨congrArg (Value.int .i64) (by unfold HeapP.actB; first | (rw [if_neg (by omega)]; done) | (rw [if_pos (by omega)]; done)), hT0⟩⟩
  · replace hc3 : 0 ≤ v ∧ v < (n : Int) := (noneB_f hc3)
    refine W_skip ?_
    refine W_seq ?_
    refine W_region (by kernel_rfl) ?_
    refine seg3 (ρ' := upd (upd (upd (upd (upd (upd (upd (ini [.pointer (some ⟨p, 0, none⟩), .int .i64 v]) 4 (.int .i64 0)) 5 (.pointer (some ⟨p, 0, none⟩))) 6 (.int .i64 v)) 7 (.bool (noneB n v))) 8 (.pointer (some ⟨p, 0, none⟩))) 9 (.pointer (some ⟨p, 0, none⟩))) 10 (.pointer (some ⟨p, 2, none⟩))) (by kernel_rfl) ?_
    refine st (by rfl) (S_val (v := .slice (some ⟨bac, 0, none⟩) n n) (R_load (v := .slice (some ⟨bac, 0, none⟩) n n) (by kernel_rfl) (by kernel_rfl) ((hP.cell 2).trans rfl)) ?_)
    refine seg1 (ρ' := upd (upd (upd (upd (upd (upd (upd (upd (upd (ini [.pointer (some ⟨p, 0, none⟩), .int .i64 v]) 4 (.int .i64 0)) 5 (.pointer (some ⟨p, 0, none⟩))) 6 (.int .i64 v)) 7 (.bool (noneB n v))) 8 (.pointer (some ⟨p, 0, none⟩))) 9 (.pointer (some ⟨p, 0, none⟩))) 10 (.pointer (some ⟨p, 2, none⟩))) 11 (.slice (some ⟨bac, 0, none⟩) n n)) 12 (.int .i64 v)) (by kernel_rfl) ?_
    refine stv (v := .pointer (some ⟨bac, v.toNat, none⟩)) (by rfl) (R_index0 (b := bac) (len := n) (cap := n) (k := .i64) (i := v) (e := 3) v.toNat (by kernel_rfl) (by kernel_rfl) (by kernel_rfl) (by kernel_rfl) (by omega) (by first | omega | (simp only [List.length_set, List.length_map]; omega))) ?_
    refine st (by rfl) (S_val (v := .int .i64 (ac.getD v.toNat 0)) (R_load (v := .int .i64 (ac.getD v.toNat 0)) (by kernel_rfl) (by kernel_rfl) ((hC.cell _).trans (ints_at .i64 _ (by first | omega | (simp only [List.length_set, List.length_map]; omega))))) ?_)
    refine seg1 (ρ' := upd (upd (upd (upd (upd (upd (upd (upd (upd (upd (upd (upd (ini [.pointer (some ⟨p, 0, none⟩), .int .i64 v]) 4 (.int .i64 0)) 5 (.pointer (some ⟨p, 0, none⟩))) 6 (.int .i64 v)) 7 (.bool (noneB n v))) 8 (.pointer (some ⟨p, 0, none⟩))) 9 (.pointer (some ⟨p, 0, none⟩))) 10 (.pointer (some ⟨p, 2, none⟩))) 11 (.slice (some ⟨bac, 0, none⟩) n n)) 12 (.int .i64 v)) 13 (.pointer (some ⟨bac, v.toNat, none⟩))) 14 (.int .i64 (ac.getD v.toNat 0))) 4 (.int .i64 (ac.getD v.toNat 0))) (by kernel_rfl) ?_
    refine op_nil ?_
    refine W_ret ?_
    exact ⟨_, Res_of (v := .int .i64 (ac.getD v.toNat 0)) (by kernel_rfl), ⟨congrArg (Value.int .i64) (by unfold HeapP.actB; first | (rw [if_neg (by omega)]; done) | (rw [if_pos (by omega)]; done)), hT0⟩⟩

set_option maxRecDepth 100000 in
theorem act_nil (v : Int) (w : World) : Ret Try.prog 23 [.pointer none, .int .i64 v] w fun x w' => x = .int .i64 0 ∧ Tch N0 w w' := by
  refine enter Try.func23 rfl rfl ?_
  refine W_seq ?_
  refine W_region (by kernel_rfl) ?_
  refine seg1 (ρ' := upd (ini [.pointer none, .int .i64 v]) 4 (.int .i64 0)) (by kernel_rfl) ?_
  refine op_nil ?_
  refine W_seq ?_
  refine W_seq ?_
  refine W_region (by kernel_rfl) ?_
  refine seg2 (ρ' := upd (upd (upd (ini [.pointer none, .int .i64 v]) 4 (.int .i64 0)) 5 (.pointer none)) 6 (.int .i64 v)) (by kernel_rfl) ?_
  refine st (by rfl) (S_call (args := [.pointer none, .int .i64 v]) (by kernel_rfl) (none_nil v _) ?_)
  rintro _ w1 ⟨rfl, hT2⟩
  have hT0 := hT2
  refine op_nil ?_
  refine W_cond true (by kernel_rfl) (by kernel_rfl) (fun _ => ?_) (fun h => nomatch h)
  refine W_seq ?_
  refine W_region (by kernel_rfl) ?_
  refine seg1 (ρ' := upd (upd (upd (upd (upd (ini [.pointer none, .int .i64 v]) 4 (.int .i64 0)) 5 (.pointer none)) 6 (.int .i64 v)) 7 (.bool true)) 4 (.int .i64 0)) (by kernel_rfl) ?_
  refine op_nil ?_
  refine W_ret ?_
  exact ⟨_, Res_of (v := .int .i64 0) (by kernel_rfl), ⟨rfl, hT0⟩⟩

set_option maxRecDepth 100000 in
theorem len_ok (F : Nat → Prop) (p n : Nat) (hp : List Nat) (ac : List Int) (w : World) (h : Ord F w p n hp ac) : Ret Try.prog 20 [.pointer (some ⟨p, 0, none⟩)] w fun x w' => x = .int .i64 (hp.length : Int) ∧ Tch N0 w w' := by
  obtain ⟨A, cp, bat, bac, at_, hP, hO, hT, hC, hAF, n6, fp, ft, fc, hF, la, lc, hn, hlt, hat, hac, hfn⟩ := h
  have n2 : p ≠ bat := hP.ne hT (by decide)
  have n3 : p ≠ bac := hP.ne hC (by decide)
  have hm := HeapP.nodup_le n hp hat.nodup hlt
  refine enter Try.func20 rfl rfl ?_
  refine W_seq ?_
  refine W_region (by kernel_rfl) ?_
  refine seg1 (ρ' := upd (ini [.pointer (some ⟨p, 0, none⟩)]) 2 (.int .i64 0)) (by kernel_rfl) ?_
  refine op_nil ?_
  refine W_seq ?_
  refine W_seq ?_
  refine W_region (by kernel_rfl) ?_
  refine seg2 (ρ' := upd (upd (upd (ini [.pointer (some ⟨p, 0, none⟩)]) 2 (.int .i64 0)) 3 (.pointer (some ⟨p, 0, none⟩))) 4 (.bool false)) (by kernel_rfl) ?_
  refine op_nil ?_
  refine W_cond false (by kernel_rfl) (by kernel_rfl) (fun h => nomatch h) (fun _ => ?_)
  refine W_skip ?_
  refine W_seq ?_
  refine W_region (by kernel_rfl) ?_
  refine seg3 (ρ' := upd (upd (upd (upd (upd (upd (ini [.pointer (some ⟨p, 0, none⟩)]) 2 (.int .i64 0)) 3 (.pointer (some ⟨p, 0, none⟩))) 4 (.bool false)) 5 (.pointer (some ⟨p, 0, none⟩))) 6 (.pointer (some ⟨p, 0, none⟩))) 7 (.pointer (some ⟨p, 0, none⟩))) (by kernel_rfl) ?_
  refine st (by rfl) (S_val (v := .slice A hp.length cp) (R_load (v := .slice A hp.length cp) (by kernel_rfl) (by kernel_rfl) ((hP.cell 0).trans rfl)) ?_)
  refine seg2 (ρ' := upd (upd (upd (upd (upd (upd (upd (upd (upd (ini [.pointer (some ⟨p, 0, none⟩)]) 2 (.int .i64 0)) 3 (.pointer (some ⟨p, 0, none⟩))) 4 (.bool false)) 5 (.pointer (some ⟨p, 0, none⟩))) 6 (.pointer (some ⟨p, 0, none⟩))) 7 (.pointer (some ⟨p, 0, none⟩))) 8 (.slice A hp.length cp)) 9 (.int .i64 (hp.length : Int))) 2 (.int .i64 (hp.length : Int))) (by kernel_rfl) ?_
  refine op_nil ?_
  refine W_ret ?_
  exact ⟨_, Res_of (v := .int .i64 (hp.length : Int)) (by kernel_rfl), ⟨rfl, Tch.refl _ _⟩⟩

set_option maxRecDepth 100000 in
theorem len_nil (w : World) : Ret Try.prog 20 [.pointer none] w fun x w' => x = .int .i64 0 ∧ Tch N0 w w' := by
  refine enter Try.func20 rfl rfl ?_
  refine W_seq ?_
  refine W_region (by kernel_rfl) ?_
  refine seg1 (ρ' := upd (ini [.pointer none]) 2 (.int .i64 0)) (by kernel_rfl) ?_
  refine op_nil ?_
  refine W_seq ?_
  refine W_seq ?_
  refine W_region (by kernel_rfl) ?_
  refine seg2 (ρ' := upd (upd (upd (ini [.pointer none]) 2 (.int .i64 0)) 3 (.pointer none)) 4 (.bool true)) (by kernel_rfl) ?_
  refine op_nil ?_
  refine W_cond true (by kernel_rfl) (by kernel_rfl) (fun _ => ?_) (fun h => nomatch h)
  refine W_seq ?_
  refine W_region (by kernel_rfl) ?_
  refine seg1 (ρ' := upd (upd (upd (upd (ini [.pointer none]) 2 (.int .i64 0)) 3 (.pointer none)) 4 (.bool true)) 2 (.int .i64 0)) (by kernel_rfl) ?_
  refine op_nil ?_
  refine W_ret ?_
  exact ⟨_, Res_of (v := .int .i64 0) (by kernel_rfl), ⟨rfl, Tch.refl _ _⟩⟩

end Go.Proofs.YthfjceemphhgcaaV
