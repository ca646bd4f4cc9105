/- Texts laid together: Walks of functions of the program and of the document's texts. The conditions stand with each theorem. Walks of functions of the program and of the document's texts. The conditions stand with each theorem. Walks of functions of the program and of the document's texts. The conditions stand with each theorem. -/
import Derived.Test.YtlbadnpgmkobdaaJTterm4x1
import Derived.Test.YtlbadnpgmkobdaaProg
import Derived.Test.YtlbadnpgmkobdaaL6
import Derived.Test.YtlbadnpgmkobdaaJTterm4x6
import Derived.Test.YtlbadnpgmkobdaaJTterm4x3
set_option linter.unusedVariables false
set_option linter.unusedSimpArgs false
namespace Go.Proofs.YtlbadnpgmkobdaaV
open Go Go.RowKit Go.Proofs

theorem txt_pos (N : List Nd) (i : Nat) : txt N i ≠ [] := by
 rw [show txt N i = ndT (tl N i) (nth N i) from rfl]
 unfold ndT
 split
 ·
  intro h
  have := congrArg List.length h
  simp only [List.length_append, List.length_cons, List.length_nil] at this; omega
 ·
  split
  ·
   simp
  ·
   simp
theorem term_all (F : Nat → Prop) (p : Nat) (most m2 : Int) (N : List Nd) (W : Value → Value → Prop) (q : Nat) (hN : N.length ≤ 65536) (hJ : TJ N m2) (hB : TB N) : ∀ i, i < N.length → TermOK F p most N W q i := by
 intro i
 induction i using Nat.strongRecOn with
 | _ i ih =>
  intro hi G t w hL hBW hGF ht
  exact term_step F p most N W q i (nth N i) hN hi rfl (hB i hi) (hJ.wr _ (nth_mem hi)) (hJ.ti.wf _ (nth_mem hi)) (fun k hk => ih k hk (by omega)) G t w hL hBW hGF ht

set_option maxRecDepth 100000 in
set_option maxHeartbeats 1000000 in
theorem Show_ok (F : Nat → Prop) (p : Nat) (most m2 : Int) (N : List Nd) (W : Value → Value → Prop) (ix : Int) (w : World) (hL : TLow F w p most N W) (hN : N.length ≤ 65536) (hJ : TJ N m2) (hTB : TB N) : Ret Try.prog 22 [.pointer (some ⟨p, 0, none⟩), .int .i64 ix] w fun v w' => v = .tuple #[.string (bsT (shF N ix)), .int .i64 (seF N ix)] ∧ Tch N0 w w' := by
 refine enter Try.func22 rfl rfl ?_
 refine zQ ?_
 refine zS [(4, .string (bsT ([]))), (5, .int .i64 0)] ?_
 refine op_nil ?_
 refine W_seq ?_
 refine zQ ?_
 refine zS [(11, .pointer (some ⟨p, 0, none⟩)), (12, .int .i64 ix)] ?_
 refine zC (node_ok F p most N W ix _ hL hN) ?_
 rintro _ w1 ⟨rfl, hT2⟩
 have hT0 := hT2
 have hL := hL.tch0 hT2
 refine zS [(10, .tuple #[.agg #[.int .i64 (nO (ndF N ix)), .int .i64 (nW (ndF N ix)), .int .i64 (nA (ndF N ix)), .int .i64 (nB (ndF N ix)), .int .i64 (nC (ndF N ix)), .int .u64 (nV (ndF N ix))], .bool (isT N ix)]), (14, .agg #[.int .i64 (nO (ndF N ix)), .int .i64 (nW (ndF N ix)), .int .i64 (nA (ndF N ix)), .int .i64 (nB (ndF N ix)), .int .i64 (nC (ndF N ix)), .int .u64 (nV (ndF N ix))]), (15, .bool (isT N ix))] ?_
 have hltF := hL.lt
 have hz7 := hT0.size
 refine st (by rfl) (S_new (v := .pointer (some ⟨w1.heap.size, 0, none⟩)) (ob := .cells #[.int .i64 0, .int .i64 0, .int .i64 0, .int .i64 0, .int .i64 0, .int .u64 0] 32) (by kernel_rfl) fun w3 hT4 hs5 hB6 => ?_)
 replace hB6 : Blk w3 (w1.heap.size) 32 [.int .i64 0, .int .i64 0, .int .i64 0, .int .i64 0, .int .i64 0, .int .u64 0] := hB6
 have hT0 := hT0.t0 hT4
 have hL := hL.tch0 hT4
 have nhL_hB6 : ¬ F (w1.heap.size) := fun e => by have := hltF _ e; omega
 refine st (by rfl) (S_storeA (b := w1.heap.size) (j := 0) (cs := [.int .i64 (nO (ndF N ix)), .int .i64 (nW (ndF N ix)), .int .i64 (nA (ndF N ix)), .int .i64 (nB (ndF N ix)), .int .i64 (nC (ndF N ix)), .int .u64 (nV (ndF N ix))]) (by kernel_rfl) (by kernel_rfl) (by kernel_rfl) (by simp [oneV]) hB6 (by simp) fun w8 hT9 hs10 hB6' => ?_)
 have hT0 := (hT0).then hT9 (fun c e => by have : c = w1.heap.size := e; omega)
 have hL := hL.tchS hT9 (fun c e q => by cases e; exact nhL_hB6 q)
 replace hB6 : Blk w8 w1.heap.size 32 [.int .i64 (nO (ndF N ix)), .int .i64 (nW (ndF N ix)), .int .i64 (nA (ndF N ix)), .int .i64 (nB (ndF N ix)), .int .i64 (nC (ndF N ix)), .int .u64 (nV (ndF N ix))] := hB6'
 refine zS [(7, .bool (isT N ix))] ?_
 refine op_nil ?_
 refine W_seq ?_
 refine zF [(0, .pointer (some ⟨p, 0, none⟩)), (1, .int .i64 ix), (4, .string (bsT ([]))), (5, .int .i64 0), (7, .bool (isT N ix))] fun ρ => ?_
 refine zR ?_
 refine zS [(16, .bool (isT N ix)), (17, .bool (!(isT N ix)))] ?_
 refine zO (!(isT N ix)) (fun hc11 => ?_) (fun hc11 => ?_)
 ·
  replace hc11 : ¬ (0 ≤ ix ∧ ix < (N.length : Int)) := (of_decide_eq_false (not_t hc11))
  refine zQ ?_
  refine zS [(4, .string (bsT ([]))), (5, .int .i64 11)] ?_
  refine op_nil ?_
  refine W_ret ?_
  refine ⟨_, Res_of (v := .tuple #[.string (bsT ([])), .int .i64 11]) (by kernel_rfl), ?_⟩
  rw [(sh_out (decide_eq_false (by omega))).1, (sh_out (N := N) (x := ix) (decide_eq_false (by omega))).2]
  exact ⟨rfl, hT0⟩
 ·
  replace hc11 : 0 ≤ ix ∧ ix < (N.length : Int) := (of_decide_eq_true (not_f hc11))
  refine W_skip ?_
  refine zQ ?_
  refine zS [(18, .pointer (some ⟨p, 0, none⟩)), (19, .agg #[.pointer (some ⟨p, 0, none⟩), .pointer none, .slice none 0 0])] ?_
  have hltF := hL.lt
  have hz16 := hT0.size
  have lt17 := hB6.lt
  refine st (by rfl) (S_new (v := .pointer (some ⟨w8.heap.size, 0, none⟩)) (ob := .cells #[.pointer (some ⟨p, 0, none⟩), .pointer none, .slice none 0 0] 81) (by kernel_rfl) fun w12 hT13 hs14 hB15 => ?_)
  replace hB15 : Blk w12 (w8.heap.size) 81 [.pointer (some ⟨p, 0, none⟩), .pointer none, .slice none 0 0] := hB15
  have hT0 := hT0.t0 hT13
  have hL := hL.tch0 hT13
  have hB6 := hB6.tch0 hT13
  have nhL_hB15 : ¬ F (w8.heap.size) := fun e => by have := hltF _ e; omega
  refine zS [(8, .pointer (some ⟨w8.heap.size, 0, none⟩))] ?_
  refine op_nil ?_
  refine W_seq ?_
  refine zQ ?_
  refine zS [(21, .pointer (some ⟨w8.heap.size, 0, none⟩)), (22, .int .i64 ix)] ?_
  have hBW : BW (one (w8.heap.size)) w12 (w8.heap.size) p [] := ⟨none, none, 0, 0, hB15, rfl, .inl rfl, Own.nil_ _ _ _ _, rfl, (fun c h => by cases h), fun c h => by have h1 := hB15.lt; have h2 : c = w8.heap.size := h; omega⟩
  have hGF : ∀ c, one (w8.heap.size) c → ¬ F c := fun c h e => by have h2 : c = w8.heap.size := h; rw [h2] at e; exact nhL_hB15 e
  have hz9 := hT0.size
  refine st (by rfl) (S_call (args := [.pointer (some ⟨w8.heap.size, 0, none⟩), .int .i64 ix]) (by kernel_rfl) ((by have q := term_all F p most m2 N W (w8.heap.size) hN hJ hTB ix.toNat (by omega) (one (w8.heap.size)) [] w12 hL hBW hGF (by simp); rw [show ((ix.toNat : Nat) : Int) = ix by omega] at q; exact q)) ?_)
  rintro _ w18 ⟨rfl, G1, t1, hB, hM1, hle, he1⟩
  have hT0 := (hT0).then hM1.1 (fun c e => by have h2 : c = w8.heap.size := e; omega)
  have hL := hL.tchS hM1.1 hGF
  have hG1 : ∀ c, G1 c → w.heap.size ≤ c := fun c e => (hM1.2 c e).elim (fun h => by have h2 : c = w8.heap.size := h; omega) (fun h => by omega)
  refine zS [(9, errV (decide (0 + (txt N ix.toNat).length ≤ 4096)))] ?_
  refine op_nil ?_
  refine W_seq ?_
  refine zF [(0, .pointer (some ⟨p, 0, none⟩)), (1, .int .i64 ix), (4, .string (bsT ([]))), (5, .int .i64 0), (7, .bool (isT N ix)), (8, .pointer (some ⟨w8.heap.size, 0, none⟩)), (9, errV (decide (0 + (txt N ix.toNat).length ≤ 4096))), (17, .bool (!(isT N ix)))] fun ρ => ?_
  refine zR ?_
  refine zS [(24, errV (decide (0 + (txt N ix.toNat).length ≤ 4096))), (25, .iface 86 (.string (bsT ([116, 111, 111, 32, 108, 111, 110, 103]))))] ?_
  refine zC (Is_ok (decide (0 + (txt N ix.toNat).length ≤ 4096)) _) ?_
  rintro _ w19 ⟨rfl, hT20⟩
  have hT0 := hT0.t0 hT20
  have hL := hL.tch0 hT20
  have hB := hB.tch0 hT20
  refine zO (!(decide (0 + (txt N ix.toNat).length ≤ 4096))) (fun hc21 => ?_) (fun hc21 => ?_)
  ·
   replace hc21 : 4096 < 0 + (txt N ix.toNat).length := (Nat.not_le.1 (of_decide_eq_false (not_t hc21)))
   refine zQ ?_
   refine zS [(4, .string (bsT ([]))), (5, .int .i64 8)] ?_
   refine op_nil ?_
   refine W_ret ?_
   refine ⟨_, Res_of (v := .tuple #[.string (bsT ([])), .int .i64 8]) (by kernel_rfl), ?_⟩
   have hq := sh_big (N := N) (x := ix) (isT_t (by omega)) (fit_gt (by omega))
   rw [hq.1, hq.2]
   exact ⟨rfl, hT0⟩
  ·
   replace hc21 : 0 + (txt N ix.toNat).length ≤ 4096 := (of_decide_eq_true (not_f hc21))
   refine W_skip ?_
   refine zQ ?_
   refine zS [(27, .pointer (some ⟨w8.heap.size, 0, none⟩)), (28, .pointer (some ⟨w8.heap.size, 0, none⟩)), (29, .pointer (some ⟨w8.heap.size, 1, none⟩))] ?_
   have e1 := he1 (by show 0 + _ ≤ 4096; omega)
   rw [List.nil_append] at e1
   subst e1
   refine zC (bstr_ok G1 (w8.heap.size) p (txt N ix.toNat) _ hB (txt_pos N _)) ?_
   rintro _ w22 ⟨rfl, hT23⟩
   have hT0 := (hT0).then hT23 hG1
   refine zS [(4, .string (bsT (txt N ix.toNat))), (5, .int .i64 0)] ?_
   refine op_nil ?_
   refine W_ret ?_
   refine ⟨_, Res_of (v := .tuple #[.string (bsT (txt N ix.toNat)), .int .i64 0]) (by kernel_rfl), ?_⟩
   have hq := sh_in (N := N) (x := ix) (isT_t (by omega)) (fit_le (by omega))
   rw [hq.1, hq.2]
   exact ⟨rfl, hT0⟩

end Go.Proofs.YtlbadnpgmkobdaaV

set_option linter.unusedVariables false
set_option linter.unusedSimpArgs false
namespace Go.Proofs.YtlbadnpgmkobdaaV
open Go Go.RowKit Go.Proofs

theorem TB_at : TB [(21, 8, 0, 0, 0, 0), (20, 8, 0, 0, 0, 1), (1, 8, 0, 1, 0, 0), (23, 4, 0, 4, 0, 0)] := fun i hi => by
 have h : i = 0 ∨ i = 1 ∨ i = 2 ∨ i = 3 := by
  have : i < 4 := hi
  omega
 rcases h with rfl | rfl | rfl | rfl <;> (unfold NdW pt; decide)
theorem aw_0 : txt [(21, 8, 0, 0, 0, 0), (20, 8, 0, 0, 0, 1), (1, 8, 0, 1, 0, 0), (23, 4, 0, 4, 0, 0)] 0 = [120, 48, 58, 56] := by
 rw [txt21 (n := (21, 8, 0, 0, 0, 0)) rfl rfl]
 show [120] ++ dgs 0 ++ [58] ++ dgs 8 = _
 rw [dgs_lo (n := 0) (by omega), dgs_lo (n := 8) (by omega)]; rfl
theorem aw_1 : txt [(21, 8, 0, 0, 0, 0), (20, 8, 0, 0, 0, 1), (1, 8, 0, 1, 0, 0), (23, 4, 0, 4, 0, 0)] 1 = [49, 58, 56] := by
 rw [txt20 (n := (20, 8, 0, 0, 0, 1)) rfl rfl]
 show dgs 1 ++ [58] ++ dgs 8 = _
 rw [dgs_lo (n := 1) (by omega), dgs_lo (n := 8) (by omega)]; rfl
theorem aw_2 : txt [(21, 8, 0, 0, 0, 0), (20, 8, 0, 0, 0, 1), (1, 8, 0, 1, 0, 0), (23, 4, 0, 4, 0, 0)] 2 = [40, 97, 100, 100, 32, 120, 48, 58, 56, 32, 49, 58, 56, 41] := by
 rw [txt_k2 (n := (1, 8, 0, 1, 0, 0)) (a := 0) (b := 1) rfl (TB_at 2 (by decide)) (by decide) (by decide) rfl, aw_0, aw_1]; rfl
theorem aw_3 : txt [(21, 8, 0, 0, 0, 0), (20, 8, 0, 0, 0, 1), (1, 8, 0, 1, 0, 0), (23, 4, 0, 4, 0, 0)] 3 = [40, 101, 120, 116, 32, 52, 32, 52, 32, 120, 48, 58, 56, 41] := by
 rw [txt_k1 (n := (23, 4, 0, 4, 0, 0)) (a := 0) rfl (TB_at 3 (by decide)) (by decide) (by decide) rfl, aw_0, show hdT (23, 4, 0, 4, 0, 0) = [40] ++ [101, 120, 116] ++ ([32] ++ dgs 4 ++ [32] ++ dgs 4) from rfl, dgs_lo (n := 4) (by omega)]; rfl
theorem aw_s2 : shF [(21, 8, 0, 0, 0, 0), (20, 8, 0, 0, 0, 1), (1, 8, 0, 1, 0, 0), (23, 4, 0, 4, 0, 0)] 2 = [40, 97, 100, 100, 32, 120, 48, 58, 56, 32, 49, 58, 56, 41] ∧ seF [(21, 8, 0, 0, 0, 0), (20, 8, 0, 0, 0, 1), (1, 8, 0, 1, 0, 0), (23, 4, 0, 4, 0, 0)] 2 = 0 := by
 have h := sh_in (N := [(21, 8, 0, 0, 0, 0), (20, 8, 0, 0, 0, 1), (1, 8, 0, 1, 0, 0), (23, 4, 0, 4, 0, 0)]) (x := 2) (by decide) (fit_le (by rw [show ((2 : Int).toNat) = 2 from rfl, aw_2]; decide))
 rw [h.1, h.2]; exact ⟨aw_2, rfl⟩
theorem aw_s3 : shF [(21, 8, 0, 0, 0, 0), (20, 8, 0, 0, 0, 1), (1, 8, 0, 1, 0, 0), (23, 4, 0, 4, 0, 0)] 3 = [40, 101, 120, 116, 32, 52, 32, 52, 32, 120, 48, 58, 56, 41] ∧ seF [(21, 8, 0, 0, 0, 0), (20, 8, 0, 0, 0, 1), (1, 8, 0, 1, 0, 0), (23, 4, 0, 4, 0, 0)] 3 = 0 := by
 have h := sh_in (N := [(21, 8, 0, 0, 0, 0), (20, 8, 0, 0, 0, 1), (1, 8, 0, 1, 0, 0), (23, 4, 0, 4, 0, 0)]) (x := 3) (by decide) (fit_le (by rw [show ((3 : Int).toNat) = 3 from rfl, aw_3]; decide))
 rw [h.1, h.2]; exact ⟨aw_3, rfl⟩
theorem aw_s7 : shF [(21, 8, 0, 0, 0, 0), (20, 8, 0, 0, 0, 1), (1, 8, 0, 1, 0, 0), (23, 4, 0, 4, 0, 0)] 7 = [] ∧ seF [(21, 8, 0, 0, 0, 0), (20, 8, 0, 0, 0, 1), (1, 8, 0, 1, 0, 0), (23, 4, 0, 4, 0, 0)] 7 = 11 := sh_out (by decide)

set_option maxRecDepth 100000 in
theorem awake18_ok (w : World) : Ret Try.prog 21 [] w fun v w' => v = .bool true ∧ Tch N0 w w' := by
 refine enter Try.func21 rfl rfl ?_
 refine zQ ?_
 refine zS [(0, .bool false)] ?_
 refine op_nil ?_
 refine zQ ?_
 refine zC (new_ok 9 _) ?_
 rintro _ w1 ⟨p3, F4, rfl, hO, hT2, hFb⟩
 have hT0 := hT2
 rw [show newM 9 = 9 from by decide] at hO
 refine zS [(1, .pointer (some ⟨p3, 0, none⟩))] ?_
 refine op_nil ?_
 refine W_seq ?_
 refine zQ ?_
 refine zS [(17, .pointer (some ⟨p3, 0, none⟩)), (18, .bool false)] ?_
 refine zO false (fun h => nomatch h) (fun _ => ?_)
 refine W_skip ?_
 refine zQ ?_
 refine zS [(20, .pointer (some ⟨p3, 0, none⟩))] ?_
 have hz_ := hT0.size
 refine st (by rfl) (S_call (args := [.pointer (some ⟨p3, 0, none⟩), .int .i64 8, .int .i64 0]) (by kernel_rfl) ((var_ok F4 p3 9 ([]) 8 0 _ hO (by unfold b64; omega) (by unfold b64; omega)).mono fun _ _ h => h.lit (show varF ([]) 9 8 0 = (0, 0, [(21, 8, 0, 0, 0, 0)]) by kernel_rfl)) ?_)
 rintro _ w5 ⟨rfl, F6, hO, hm7⟩
 have hT0 := (hT0).then hm7.1 hFb
 replace hFb := hm7.ge hFb hz_
 refine zS [(19, .tuple #[.int .i64 0, .int .i64 0]), (22, .int .i64 0), (23, .int .i64 0), (2, .int .i64 0), (3, .int .i64 0)] ?_
 refine op_nil ?_
 refine W_seq ?_
 refine zF [(0, .bool false), (1, .pointer (some ⟨p3, 0, none⟩)), (2, .int .i64 0), (18, .bool false)] fun ρ => ?_
 refine zR ?_
 refine zS [(25, .pointer (some ⟨p3, 0, none⟩))] ?_
 have hz_ := hT0.size
 refine st (by rfl) (S_call (args := [.pointer (some ⟨p3, 0, none⟩), .int .i64 8, .int .u64 1]) (by kernel_rfl) ((const_ok F6 p3 9 ([(21, 8, 0, 0, 0, 0)]) 8 1 _ hO (by unfold b64; omega) (by unfold u64; omega)).mono fun _ _ h => h.lit (show constF ([(21, 8, 0, 0, 0, 0)]) 9 8 1 = (1, 0, [(21, 8, 0, 0, 0, 0), (20, 8, 0, 0, 0, 1)]) by kernel_rfl)) ?_)
 rintro _ w8 ⟨rfl, F9, hO, hm10⟩
 have hT0 := (hT0).then hm10.1 hFb
 replace hFb := hm10.ge hFb hz_
 refine zS [(24, .tuple #[.int .i64 1, .int .i64 0]), (27, .int .i64 1), (28, .int .i64 0), (4, .int .i64 1), (5, .int .i64 0)] ?_
 refine op_nil ?_
 refine zQ ?_
 refine zS [(30, .pointer (some ⟨p3, 0, none⟩)), (31, .int .i64 0), (32, .int .i64 1)] ?_
 have hz_ := hT0.size
 refine st (by rfl) (S_call (args := [.pointer (some ⟨p3, 0, none⟩), .int .i64 1, .int .i64 0, .int .i64 1]) (by kernel_rfl) ((bin_ok F9 p3 9 ([(21, 8, 0, 0, 0, 0), (20, 8, 0, 0, 0, 1)]) 1 0 1 _ hO (by unfold b64; omega) (by unfold b64; omega) (by unfold b64; omega)).mono fun _ _ h => h.lit (show binF ([(21, 8, 0, 0, 0, 0), (20, 8, 0, 0, 0, 1)]) 9 1 0 1 = (2, 0, [(21, 8, 0, 0, 0, 0), (20, 8, 0, 0, 0, 1), (1, 8, 0, 1, 0, 0)]) by kernel_rfl)) ?_)
 rintro _ w11 ⟨rfl, F12, hO, hm13⟩
 have hT0 := (hT0).then hm13.1 hFb
 replace hFb := hm13.ge hFb hz_
 refine zS [(29, .tuple #[.int .i64 2, .int .i64 0]), (34, .int .i64 2), (35, .int .i64 0), (6, .int .i64 2), (7, .int .i64 0)] ?_
 refine op_nil ?_
 refine W_seq ?_
 refine zF [(0, .bool false), (1, .pointer (some ⟨p3, 0, none⟩)), (2, .int .i64 0), (4, .int .i64 1), (6, .int .i64 2), (18, .bool false)] fun ρ => ?_
 refine zR ?_
 refine zS [(37, .pointer (some ⟨p3, 0, none⟩)), (38, .int .i64 0)] ?_
 have hz_ := hT0.size
 refine st (by rfl) (S_call (args := [.pointer (some ⟨p3, 0, none⟩), .int .i64 0, .int .i64 4, .int .i64 4]) (by kernel_rfl) ((ext_ok F12 p3 9 ([(21, 8, 0, 0, 0, 0), (20, 8, 0, 0, 0, 1), (1, 8, 0, 1, 0, 0)]) 0 4 4 _ hO (by unfold b64; omega) (by unfold b64; omega) (by unfold b64; omega)).mono fun _ _ h => h.lit (show extF ([(21, 8, 0, 0, 0, 0), (20, 8, 0, 0, 0, 1), (1, 8, 0, 1, 0, 0)]) 9 0 4 4 = (3, 0, [(21, 8, 0, 0, 0, 0), (20, 8, 0, 0, 0, 1), (1, 8, 0, 1, 0, 0), (23, 4, 0, 4, 0, 0)]) by kernel_rfl)) ?_)
 rintro _ w14 ⟨rfl, F15, hO, hm16⟩
 have hT0 := (hT0).then hm16.1 hFb
 replace hFb := hm16.ge hFb hz_
 refine zS [(36, .tuple #[.int .i64 3, .int .i64 0]), (40, .int .i64 3), (41, .int .i64 0), (8, .int .i64 3), (9, .int .i64 0)] ?_
 refine op_nil ?_
 refine W_seq ?_
 refine zF [(0, .bool false), (1, .pointer (some ⟨p3, 0, none⟩)), (2, .int .i64 0), (4, .int .i64 1), (6, .int .i64 2), (8, .int .i64 3), (18, .bool false)] fun ρ => ?_
 refine zR ?_
 refine zS [(43, .pointer (some ⟨p3, 0, none⟩)), (44, .int .i64 2)] ?_
 have hz_ := hT0.size
 refine st (by rfl) (S_call (args := [.pointer (some ⟨p3, 0, none⟩), .int .i64 2]) (by kernel_rfl) ((by have q := Show_ok F15 p3 9 _ ([(21, 8, 0, 0, 0, 0), (20, 8, 0, 0, 0, 1), (1, 8, 0, 1, 0, 0), (23, 4, 0, 4, 0, 0)]) _ 2 _ hO.1 (by decide) hO.2 TB_at; rw [aw_s2.1, aw_s2.2] at q; exact q)) ?_)
 rintro _ w17 ⟨rfl, hT18⟩
 have hT0 := hT0.t0 hT18
 have hO := hO.tch0 hT18
 refine zS [(42, .tuple #[.string (bsT ([40, 97, 100, 100, 32, 120, 48, 58, 56, 32, 49, 58, 56, 41])), .int .i64 0]), (46, .string (bsT ([40, 97, 100, 100, 32, 120, 48, 58, 56, 32, 49, 58, 56, 41]))), (47, .int .i64 0), (10, .string (bsT ([40, 97, 100, 100, 32, 120, 48, 58, 56, 32, 49, 58, 56, 41]))), (11, .int .i64 0)] ?_
 refine op_nil ?_
 refine W_seq ?_
 refine zF [(0, .bool false), (1, .pointer (some ⟨p3, 0, none⟩)), (2, .int .i64 0), (4, .int .i64 1), (6, .int .i64 2), (8, .int .i64 3), (10, .string (bsT ([40, 97, 100, 100, 32, 120, 48, 58, 56, 32, 49, 58, 56, 41]))), (11, .int .i64 0), (18, .bool false)] fun ρ => ?_
 refine zR ?_
 refine zS [(49, .pointer (some ⟨p3, 0, none⟩)), (50, .int .i64 3)] ?_
 have hz_ := hT0.size
 refine st (by rfl) (S_call (args := [.pointer (some ⟨p3, 0, none⟩), .int .i64 3]) (by kernel_rfl) ((by have q := Show_ok F15 p3 9 _ ([(21, 8, 0, 0, 0, 0), (20, 8, 0, 0, 0, 1), (1, 8, 0, 1, 0, 0), (23, 4, 0, 4, 0, 0)]) _ 3 _ hO.1 (by decide) hO.2 TB_at; rw [aw_s3.1, aw_s3.2] at q; exact q)) ?_)
 rintro _ w19 ⟨rfl, hT20⟩
 have hT0 := hT0.t0 hT20
 have hO := hO.tch0 hT20
 refine zS [(48, .tuple #[.string (bsT ([40, 101, 120, 116, 32, 52, 32, 52, 32, 120, 48, 58, 56, 41])), .int .i64 0]), (52, .string (bsT ([40, 101, 120, 116, 32, 52, 32, 52, 32, 120, 48, 58, 56, 41]))), (53, .int .i64 0), (12, .string (bsT ([40, 101, 120, 116, 32, 52, 32, 52, 32, 120, 48, 58, 56, 41]))), (13, .int .i64 0)] ?_
 refine op_nil ?_
 refine W_seq ?_
 refine zF [(0, .bool false), (1, .pointer (some ⟨p3, 0, none⟩)), (2, .int .i64 0), (4, .int .i64 1), (6, .int .i64 2), (8, .int .i64 3), (10, .string (bsT ([40, 97, 100, 100, 32, 120, 48, 58, 56, 32, 49, 58, 56, 41]))), (11, .int .i64 0), (12, .string (bsT ([40, 101, 120, 116, 32, 52, 32, 52, 32, 120, 48, 58, 56, 41]))), (13, .int .i64 0), (18, .bool false)] fun ρ => ?_
 refine zR ?_
 refine zS [(55, .pointer (some ⟨p3, 0, none⟩))] ?_
 have hz_ := hT0.size
 refine st (by rfl) (S_call (args := [.pointer (some ⟨p3, 0, none⟩), .int .i64 7]) (by kernel_rfl) ((by have q := Show_ok F15 p3 9 _ ([(21, 8, 0, 0, 0, 0), (20, 8, 0, 0, 0, 1), (1, 8, 0, 1, 0, 0), (23, 4, 0, 4, 0, 0)]) _ 7 _ hO.1 (by decide) hO.2 TB_at; rw [aw_s7.1, aw_s7.2] at q; exact q)) ?_)
 rintro _ w21 ⟨rfl, hT22⟩
 have hT0 := hT0.t0 hT22
 have hO := hO.tch0 hT22
 refine zS [(54, .tuple #[.string (bsT ([])), .int .i64 11]), (57, .string (bsT ([]))), (58, .int .i64 11), (14, .string (bsT ([]))), (15, .int .i64 11)] ?_
 refine op_nil ?_
 refine zQ ?_
 refine zS [(59, .string (bsT ([40, 97, 100, 100, 32, 120, 48, 58, 56, 32, 49, 58, 56, 41])))] ?_
 refine stv (v := .bool true) (by rfl) (R_seq_t (a := [40, 97, 100, 100, 32, 120, 48, 58, 56, 32, 49, 58, 56, 41]) (b := [40, 97, 100, 100, 32, 120, 48, 58, 56, 32, 49, 58, 56, 41]) (by kernel_rfl) (by kernel_rfl) rfl) ?_
 refine zS [(61, .bool true), (62, .int .i64 0), (63, .bool true), (64, .bool true), (65, .bool true), (66, .string (bsT ([40, 101, 120, 116, 32, 52, 32, 52, 32, 120, 48, 58, 56, 41])))] ?_
 refine stv (v := .bool true) (by kernel_rfl) (R_seq_t (a := [40, 101, 120, 116, 32, 52, 32, 52, 32, 120, 48, 58, 56, 41]) (b := [40, 101, 120, 116, 32, 52, 32, 52, 32, 120, 48, 58, 56, 41]) (by kernel_rfl) (by kernel_rfl) rfl) ?_
 refine zS [(68, .bool true), (69, .bool true), (70, .int .i64 0), (71, .bool true), (72, .bool true), (73, .bool true), (74, .int .i64 11), (75, .bool true), (76, .bool true), (77, .bool true)] ?_
 refine st (by kernel_rfl) (S_call (args := [.int .i64 16]) (by kernel_rfl) ((by have q := word_ok 16 w21; rw [show wdF 16 = [110, 101, 103] from by decide] at q; exact q)) ?_)
 rintro _ w23 ⟨rfl, hT24⟩
 have hT0 := hT0.t0 hT24
 have hO := hO.tch0 hT24
 refine stv (v := .bool true) (by kernel_rfl) (R_seq_t (a := [110, 101, 103]) (b := [110, 101, 103]) (by kernel_rfl) (by kernel_rfl) rfl) ?_
 refine zS [(80, .bool true), (81, .bool true)] ?_
 refine st (by kernel_rfl) (S_call (args := [.int .i64 20]) (by kernel_rfl) ((by have q := word_ok 20 w23; rw [show wdF 20 = [] from by decide] at q; exact q)) ?_)
 rintro _ w25 ⟨rfl, hT26⟩
 have hT0 := hT0.t0 hT26
 have hO := hO.tch0 hT26
 refine stv (v := .bool true) (by kernel_rfl) (R_seq_t (a := []) (b := []) (by kernel_rfl) (by kernel_rfl) rfl) ?_
 refine zS [(84, .bool true), (85, .bool true)] ?_
 refine st (by kernel_rfl) (S_call (args := [.int .i64 26]) (by kernel_rfl) ((by have q := word_ok 26 w25; rw [show wdF 26 = [115, 101, 120, 116] from by decide] at q; exact q)) ?_)
 rintro _ w27 ⟨rfl, hT28⟩
 have hT0 := hT0.t0 hT28
 have hO := hO.tch0 hT28
 refine stv (v := .bool true) (by kernel_rfl) (R_seq_t (a := [115, 101, 120, 116]) (b := [115, 101, 120, 116]) (by kernel_rfl) (by kernel_rfl) rfl) ?_
 refine zS [(88, .bool true), (0, .bool true)] ?_
 refine op_nil ?_
 refine W_ret ?_
 exact ⟨_, Res_of (v := .bool true) (by kernel_rfl), ⟨rfl, hT0⟩⟩

end Go.Proofs.YtlbadnpgmkobdaaV

set_option linter.unusedVariables false
set_option linter.unusedSimpArgs false
namespace Go.Proofs.YtlbadnpgmkobdaaV
open Go Go.RowKit Go.Proofs

theorem ap_dead {N : List Nd} {mo : Int} (hJ : TJ N mo) (hB : TB N) (hZ : TZ N) {i k : Nat} (hi : i < N.length) (hk : k < i) (h1 : seF N ((i : Nat) : Int) = 0) (h2 : seF N ((k : Nat) : Int) = 0) (h : shF N ((i : Nat) : Int) = shF N ((k : Nat) : Int)) : False := by
 have fit : ∀ j, j < N.length → seF N ((j : Nat) : Int) = 0 → shF N ((j : Nat) : Int) = txt N j := fun j hj hs => by
  cases e : fitB N j with
  | true => exact (sh_in (x := ((j : Nat) : Int)) (isT_t ⟨by omega, by omega⟩) e).1
  | false =>
   have := (sh_big (x := ((j : Nat) : Int)) (isT_t ⟨by omega, by omega⟩) e).2
   omega
 rw [fit i hi h1, fit k (by omega) h2] at h
 have := txt_apart hJ hB hZ hi (by omega) h
 omega

set_option maxRecDepth 100000 in
set_option maxHeartbeats 4000000 in
theorem TermtextApart_w (L : Option Addr) (mm cl : Nat) (cells : List Value) (ds : Nat → Int × Int × Int × Int × Int × Int) (w : World) (hL : RdW w 6 mm L cells) (hDs : Deeds6 mm cells ds) : Ret Try.prog 7 [.slice L mm cl] w fun v w' => v = .bool true ∧ Tch N0 w w' := by
 refine enter Try.func7 rfl rfl ?_
 refine zQ ?_
 refine zS [(2, .bool false)] ?_
 refine op_nil ?_
 refine W_seq ?_
 refine zQ ?_
 refine zS [(11, .slice L mm cl), (12, .int .i64 (mm : Int)), (13, .bool (decide ((mm : Int) > 50)))] ?_
 refine zO (decide ((mm : Int) > 50)) (fun hc1 => ?_) (fun hc1 => ?_)
 ·
  replace hc1 : 50 < (mm : Int) := (of_decide_eq_true hc1)
  refine zQ ?_
  refine zC (awake18_ok _) ?_
  rintro _ w2 ⟨rfl, hT3⟩
  have hT0 := hT3
  refine zS [(2, .bool true)] ?_
  refine op_nil ?_
  refine W_ret ?_
  exact ⟨_, Res_of (v := .bool true) (by kernel_rfl), ⟨rfl, hT0⟩⟩
 ·
  replace hc1 : (mm : Int) ≤ 50 := (Int.not_lt.1 (of_decide_eq_false hc1))
  refine W_skip ?_
  refine zQ ?_
  refine zS [(16, .slice L mm cl)] ?_
  refine zC (buildq_ok (fun N => TB N ∧ TZ N) 1000 L mm cl cells ds _ (hL) hDs (by omega) ⟨TB_nil, TZ_nil⟩ (fun _ _ _ _ _ _ _ j q => ⟨made_TB j q.1 _ _ _ _ _ _ _, made_TZ q.2 _ _ _ _ _ _ _⟩)) ?_
  rintro _ w4 ⟨p, F, A, cp, N, rfl, ⟨hB, hZ⟩, hO, hD, hFb, hDb, hT5⟩
  have hT0 := hT5
  have ln0 := hO.2.ti.len
  have lm0 := hO.2.ti.most
  refine zS [(15, .tuple #[.pointer (some ⟨p, 0, none⟩), .agg #[.slice A N.length cp, .int .i64 (newM 1000)]]), (18, .pointer (some ⟨p, 0, none⟩)), (19, .agg #[.slice A N.length cp, .int .i64 (newM 1000)])] ?_
  have hlt_ := hO.1.lt
  have lR_hD := hD.lt
  have z10 := hT0.size
  refine st (by rfl) (S_new (v := .pointer (some ⟨w4.heap.size, 0, none⟩)) (ob := .cells #[.slice none 0 0, .int .i64 0] 27) (by kernel_rfl) fun w6 hT7 hs8 hB9 => ?_)
  replace hB9 : Blk w6 (w4.heap.size) 27 [.slice none 0 0, .int .i64 0] := hB9
  have hT0 := hT0.t0 hT7
  have hO := hO.tch0 hT7
  have hD := hD.tch0 hT7
  have nF_hB9 : ¬ F (w4.heap.size) := fun e => by have := hlt_ _ e; omega
  refine zS [(3, .pointer (some ⟨p, 0, none⟩))] ?_
  refine st (by rfl) (S_storeA (b := w4.heap.size) (j := 0) (cs := [.slice A N.length cp, .int .i64 (newM 1000)]) (by kernel_rfl) (by kernel_rfl) (by kernel_rfl) (by simp [oneV]) hB9 (by simp) fun w11 hT12 hs13 hB9' => ?_)
  have hT0 := (hT0).then hT12 (fun c e => by have : c = w4.heap.size := e; omega)
  have hO := hO.tchS hT12 (fun c e q => by cases e; exact nF_hB9 q)
  have hD := hD.tch hT12 (fun c hc e => hD.blk_ne hB9 (by decide) c hc e)
  replace hB9 : Blk w11 w4.heap.size 27 [.slice A N.length cp, .int .i64 (newM 1000)] := hB9'
  refine op_nil ?_
  refine W_seq ?_
  refine W_seq ?_
  refine zF [(0, .slice L mm cl), (2, .bool false), (3, .pointer (some ⟨p, 0, none⟩)), (4, .pointer (some ⟨w4.heap.size, 0, none⟩)), (13, .bool (decide ((mm : Int) > 50)))] fun ρ => ?_
  refine zR ?_
  refine zS [(20, .pointer (some ⟨p, 0, none⟩)), (21, .bool false)] ?_
  refine zO false (fun h => nomatch h) (fun _ => ?_)
  refine W_skip ?_
  refine W_seq ?_
  refine zQ ?_
  refine zS [(5, .int .i64 0)] ?_
  refine op_nil ?_
  refine W_block ?_
  refine W_loop (fun m ρ w' => ∃ (i : Nat) (ρ0 : Env), ρ = updL ρ0 [(3, .pointer (some ⟨p, 0, none⟩)), (4, .pointer (some ⟨w4.heap.size, 0, none⟩)), (5, .int .i64 ((i : Nat) : Int))] ∧ (i ≤ N.length) ∧ Tch N0 w w' ∧ TObj F w' p (newM 1000) N ∧ Blk w' (w4.heap.size) 27 [.slice A N.length cp, .int .i64 (newM 1000)] ∧ m = N.length + 1 - i) (m := N.length + 1 - 0) ?_ ?_
  ·
   refine ⟨0, _, updL_self (by kernel_rfl), by omega, hT0, hO, hB9, rfl⟩
  ·
   rintro m ρ w14 ⟨i, ρ, rfl, hi, hT0, hO, hBX, rfl⟩
   refine W_seq ?_
   refine zQ ?_
   refine zS [(22, .int .i64 ((i : Nat) : Int)), (23, .pointer (some ⟨w4.heap.size, 0, none⟩))] ?_
   refine zL (.slice A N.length cp) ((hBX.cell 0).trans rfl) ?_
   refine zS [(25, .int .i64 (N.length : Int)), (26, .bool (decide (((i : Nat) : Int) < (N.length : Int))))] ?_
   refine zO (decide (((i : Nat) : Int) < (N.length : Int))) (fun hc15 => ?_) (fun hc15 => ?_)
   ·
    replace hc15 : ((i : Nat) : Int) < (N.length : Int) := (of_decide_eq_true hc15)
    refine W_skip ?_
    refine W_seq ?_
    refine W_block ?_
    refine zQ ?_
    refine zS [(6, .int .i64 0)] ?_
    refine op_nil ?_
    refine W_block ?_
    refine W_loop (fun m ρ w' => ∃ (k : Nat) (ρ0 : Env), ρ = updL ρ0 [(3, .pointer (some ⟨p, 0, none⟩)), (4, .pointer (some ⟨w4.heap.size, 0, none⟩)), (5, .int .i64 ((i : Nat) : Int)), (6, .int .i64 ((k : Nat) : Int))] ∧ (k ≤ i) ∧ Tch N0 w w' ∧ TObj F w' p (newM 1000) N ∧ Blk w' (w4.heap.size) 27 [.slice A N.length cp, .int .i64 (newM 1000)] ∧ m = i + 1 - k) (m := i + 1 - 0) ?_ ?_
    ·
     refine ⟨0, _, updL_self (by kernel_rfl), by omega, hT0, hO, hBX, rfl⟩
    ·
     rintro m ρ w16 ⟨k, ρ, rfl, hki, hT0, hO, hBX, rfl⟩
     refine W_seq ?_
     refine zQ ?_
     refine zS [(29, .int .i64 ((k : Nat) : Int)), (30, .int .i64 ((i : Nat) : Int)), (31, .bool (decide (((k : Nat) : Int) < ((i : Nat) : Int))))] ?_
     refine zO (decide (((k : Nat) : Int) < ((i : Nat) : Int))) (fun hc17 => ?_) (fun hc17 => ?_)
     ·
      replace hc17 : ((k : Nat) : Int) < ((i : Nat) : Int) := (of_decide_eq_true hc17)
      refine W_skip ?_
      refine W_seq ?_
      refine W_block ?_
      refine zQ ?_
      refine zS [(35, .pointer (some ⟨p, 0, none⟩)), (36, .int .i64 ((i : Nat) : Int))] ?_
      refine zC (Show_ok F p (newM 1000) _ N _ ((i : Nat) : Int) _ hO.1 (by omega) hO.2 hB) ?_
      rintro _ w18 ⟨rfl, hT19⟩
      have hT0 := hT0.t0 hT19
      have hO := hO.tch0 hT19
      have hBX := hBX.tch0 hT19
      refine zS [(34, .tuple #[.string (bsT (shF N ((i : Nat) : Int))), .int .i64 (seF N ((i : Nat) : Int))]), (38, .string (bsT (shF N ((i : Nat) : Int)))), (39, .int .i64 (seF N ((i : Nat) : Int))), (7, .string (bsT (shF N ((i : Nat) : Int)))), (8, .int .i64 (seF N ((i : Nat) : Int)))] ?_
      refine op_nil ?_
      refine W_seq ?_
      refine zF [(3, .pointer (some ⟨p, 0, none⟩)), (4, .pointer (some ⟨w4.heap.size, 0, none⟩)), (5, .int .i64 ((i : Nat) : Int)), (6, .int .i64 ((k : Nat) : Int)), (7, .string (bsT (shF N ((i : Nat) : Int)))), (8, .int .i64 (seF N ((i : Nat) : Int))), (31, .bool (decide (((k : Nat) : Int) < ((i : Nat) : Int))))] fun ρ => ?_
      refine zR ?_
      refine zS [(41, .pointer (some ⟨p, 0, none⟩)), (42, .int .i64 ((k : Nat) : Int))] ?_
      refine zC (Show_ok F p (newM 1000) _ N _ ((k : Nat) : Int) _ hO.1 (by omega) hO.2 hB) ?_
      rintro _ w20 ⟨rfl, hT21⟩
      have hT0 := hT0.t0 hT21
      have hO := hO.tch0 hT21
      have hBX := hBX.tch0 hT21
      refine zS [(40, .tuple #[.string (bsT (shF N ((k : Nat) : Int))), .int .i64 (seF N ((k : Nat) : Int))]), (44, .string (bsT (shF N ((k : Nat) : Int)))), (45, .int .i64 (seF N ((k : Nat) : Int))), (9, .string (bsT (shF N ((k : Nat) : Int)))), (10, .int .i64 (seF N ((k : Nat) : Int)))] ?_
      refine op_nil ?_
      refine W_seq ?_
      refine zF [(3, .pointer (some ⟨p, 0, none⟩)), (4, .pointer (some ⟨w4.heap.size, 0, none⟩)), (5, .int .i64 ((i : Nat) : Int)), (6, .int .i64 ((k : Nat) : Int)), (7, .string (bsT (shF N ((i : Nat) : Int)))), (8, .int .i64 (seF N ((i : Nat) : Int))), (9, .string (bsT (shF N ((k : Nat) : Int)))), (10, .int .i64 (seF N ((k : Nat) : Int))), (31, .bool (decide (((k : Nat) : Int) < ((i : Nat) : Int))))] fun ρ => ?_
      refine zR ?_
      refine zS [(46, .int .i64 (seF N ((i : Nat) : Int))), (47, .bool ((seF N ((i : Nat) : Int)) == 0)), (48, .bool ((seF N ((i : Nat) : Int)) == 0))] ?_
      cases hb22 : (seF N ((i : Nat) : Int)) == 0
      ·
       replace hb22 : seF N ((i : Nat) : Int) ≠ 0 := (ne_of_beq_false hb22)
       refine zS [(49, undef), (50, undef), (51, .bool false), (52, .bool false), (53, undef), (54, undef), (55, undef), (56, .bool false)] ?_
       refine zO false (fun h => nomatch h) (fun _ => ?_)
       refine W_skip ?_
       refine zF [(3, .pointer (some ⟨p, 0, none⟩)), (4, .pointer (some ⟨w4.heap.size, 0, none⟩)), (5, .int .i64 ((i : Nat) : Int)), (6, .int .i64 ((k : Nat) : Int)), (7, .string (bsT (shF N ((i : Nat) : Int)))), (8, .int .i64 (seF N ((i : Nat) : Int))), (9, .string (bsT (shF N ((k : Nat) : Int)))), (10, .int .i64 (seF N ((k : Nat) : Int))), (31, .bool (decide (((k : Nat) : Int) < ((i : Nat) : Int)))), (56, .bool false)] fun ρ => ?_
       refine zR ?_
       refine zS [(32, .int .i64 ((k : Nat) : Int)), (33, .int .i64 (IntKind.i64.wrap (((k : Nat) : Int) + 1)))] ?_
       rw [show IntKind.i64.wrap (((k : Nat) : Int) + 1) = ((k : Nat) : Int) + 1 from wrap_i64 (by omega) (by omega)]
       refine fixR (y := ((k + 1 : Nat) : Int)) (by omega) ?_
       refine zS [(6, .int .i64 ((k + 1 : Nat) : Int))] ?_
       refine op_nil ?_
       refine ⟨_, ?_, k + 1, _, updL_self (by kernel_rfl), ?_, hT0, hO, hBX, rfl⟩
       ·
        omega
       ·
        omega
      ·
       replace hb22 : seF N ((i : Nat) : Int) = 0 := (eq_of_beq hb22)
       refine zS [(49, .int .i64 (seF N ((k : Nat) : Int))), (50, .bool ((seF N ((k : Nat) : Int)) == 0)), (51, .bool ((seF N ((k : Nat) : Int)) == 0)), (52, .bool ((seF N ((k : Nat) : Int)) == 0))] ?_
       cases hb23 : (seF N ((k : Nat) : Int)) == 0
       ·
        replace hb23 : seF N ((k : Nat) : Int) ≠ 0 := (ne_of_beq_false hb23)
        refine zS [(53, undef), (54, undef), (55, undef), (56, .bool false)] ?_
        refine zO false (fun h => nomatch h) (fun _ => ?_)
        refine W_skip ?_
        refine zF [(3, .pointer (some ⟨p, 0, none⟩)), (4, .pointer (some ⟨w4.heap.size, 0, none⟩)), (5, .int .i64 ((i : Nat) : Int)), (6, .int .i64 ((k : Nat) : Int)), (7, .string (bsT (shF N ((i : Nat) : Int)))), (8, .int .i64 (seF N ((i : Nat) : Int))), (9, .string (bsT (shF N ((k : Nat) : Int)))), (10, .int .i64 (seF N ((k : Nat) : Int))), (31, .bool (decide (((k : Nat) : Int) < ((i : Nat) : Int)))), (56, .bool false)] fun ρ => ?_
        refine zR ?_
        refine zS [(32, .int .i64 ((k : Nat) : Int)), (33, .int .i64 (IntKind.i64.wrap (((k : Nat) : Int) + 1)))] ?_
        rw [show IntKind.i64.wrap (((k : Nat) : Int) + 1) = ((k : Nat) : Int) + 1 from wrap_i64 (by omega) (by omega)]
        refine fixR (y := ((k + 1 : Nat) : Int)) (by omega) ?_
        refine zS [(6, .int .i64 ((k + 1 : Nat) : Int))] ?_
        refine op_nil ?_
        refine ⟨_, ?_, k + 1, _, updL_self (by kernel_rfl), ?_, hT0, hO, hBX, rfl⟩
        ·
         omega
        ·
         omega
       ·
        replace hb23 : seF N ((k : Nat) : Int) = 0 := (eq_of_beq hb23)
        refine zS [(53, .string (bsT (shF N ((i : Nat) : Int)))), (54, .string (bsT (shF N ((k : Nat) : Int))))] ?_
        refine stv (v := .bool (decide (shF N ((i : Nat) : Int) = shF N ((k : Nat) : Int)))) (by kernel_rfl) (R_seq (a := shF N ((i : Nat) : Int)) (b := shF N ((k : Nat) : Int)) (by kernel_rfl) (by kernel_rfl)) ?_
        refine zS [(56, .bool (decide (shF N ((i : Nat) : Int) = shF N ((k : Nat) : Int))))] ?_
        refine zO (decide (shF N ((i : Nat) : Int) = shF N ((k : Nat) : Int))) (fun hc24 => ?_) (fun hc24 => ?_)
        ·
         replace hc24 : shF N ((i : Nat) : Int) = shF N ((k : Nat) : Int) := (of_decide_eq_true hc24)
         exact (ap_dead hO.2 hB hZ (by omega) (by omega) (by assumption) (by assumption) hc24).elim
        ·
         replace hc24 : ¬ (shF N ((i : Nat) : Int) = shF N ((k : Nat) : Int)) := (of_decide_eq_false hc24)
         refine W_skip ?_
         refine zF [(3, .pointer (some ⟨p, 0, none⟩)), (4, .pointer (some ⟨w4.heap.size, 0, none⟩)), (5, .int .i64 ((i : Nat) : Int)), (6, .int .i64 ((k : Nat) : Int)), (7, .string (bsT (shF N ((i : Nat) : Int)))), (8, .int .i64 (seF N ((i : Nat) : Int))), (9, .string (bsT (shF N ((k : Nat) : Int)))), (10, .int .i64 (seF N ((k : Nat) : Int))), (31, .bool (decide (((k : Nat) : Int) < ((i : Nat) : Int)))), (56, .bool (decide (shF N ((i : Nat) : Int) = shF N ((k : Nat) : Int))))] fun ρ => ?_
         refine zR ?_
         refine zS [(32, .int .i64 ((k : Nat) : Int)), (33, .int .i64 (IntKind.i64.wrap (((k : Nat) : Int) + 1)))] ?_
         rw [show IntKind.i64.wrap (((k : Nat) : Int) + 1) = ((k : Nat) : Int) + 1 from wrap_i64 (by omega) (by omega)]
         refine fixR (y := ((k + 1 : Nat) : Int)) (by omega) ?_
         refine zS [(6, .int .i64 ((k + 1 : Nat) : Int))] ?_
         refine op_nil ?_
         refine ⟨_, ?_, k + 1, _, updL_self (by kernel_rfl), ?_, hT0, hO, hBX, rfl⟩
         ·
          omega
         ·
          omega
     ·
      replace hc17 : ((i : Nat) : Int) ≤ ((k : Nat) : Int) := (Int.not_lt.1 (of_decide_eq_false hc17))
      refine W_exit ?_
      refine X_hit ?_
      refine zR ?_
      refine zS [(27, .int .i64 ((i : Nat) : Int)), (28, .int .i64 (IntKind.i64.wrap (((i : Nat) : Int) + 1)))] ?_
      rw [show IntKind.i64.wrap (((i : Nat) : Int) + 1) = ((i : Nat) : Int) + 1 from wrap_i64 (by omega) (by omega)]
      refine fixR (y := ((i + 1 : Nat) : Int)) (by omega) ?_
      refine zS [(5, .int .i64 ((i + 1 : Nat) : Int))] ?_
      refine op_nil ?_
      refine ⟨_, ?_, i + 1, _, updL_self (by kernel_rfl), ?_, hT0, hO, hBX, rfl⟩
      ·
       omega
      ·
       omega
   ·
    replace hc15 : (N.length : Int) ≤ ((i : Nat) : Int) := (Int.not_lt.1 (of_decide_eq_false hc15))
    refine W_exit ?_
    refine X_hit ?_
    refine zQ ?_
    refine zC (awake18_ok _) ?_
    rintro _ w25 ⟨rfl, hT26⟩
    have hT0 := hT0.t0 hT26
    have hO := hO.tch0 hT26
    have hBX := hBX.tch0 hT26
    refine zS [(2, .bool true)] ?_
    refine op_nil ?_
    refine W_ret ?_
    exact ⟨_, Res_of (v := .bool true) (by kernel_rfl), ⟨rfl, hT0⟩⟩

end Go.Proofs.YtlbadnpgmkobdaaV
