/- Walks of functions of the program and of the document's texts. The conditions stand with each theorem. -/
import Derived.Test.YtnlecdpiccgdpaaVx13
import Derived.Test.YtnlecdpiccgdpaaProg
import Derived.Test.YtnlecdpiccgdpaaVx4
import Derived.Test.YtnlecdpiccgdpaaMeanP
set_option linter.unusedVariables false
set_option linter.unusedSimpArgs false
namespace Go.Proofs.YtnlecdpiccgdpaaV
open Go Go.RowKit Go.Proofs

set_option maxRecDepth 100000 in
set_option maxHeartbeats 4000000 in
theorem awake20_ok (w : World) : Ret Try.prog 38 [] w fun v w' => v = .bool true ∧ Tch N0 w w' := by
  refine enter Try.func38 rfl rfl ?_
  refine W_seq ?_
  refine W_region (by kernel_rfl) ?_
  refine sg [(0, .bool false)] (by kernel_rfl) ?_
  refine op_nil ?_
  refine W_seq ?_
  refine W_region (by kernel_rfl) ?_
  refine st (by rfl) (S_call (args := []) (by kernel_rfl) (new_ok _) ?_)
  rintro _ w1 ⟨p3, F4, rfl, hG, hT2, hFb⟩
  have hT0 := hT2
  refine sg [(1, .pointer (some ⟨p3, 0, none⟩))] (by kernel_rfl) ?_
  refine op_nil ?_
  refine W_seq ?_
  refine W_seq ?_
  refine W_region (by kernel_rfl) ?_
  refine sg [(16, .pointer (some ⟨p3, 0, none⟩)), (17, .bool false)] (by kernel_rfl) ?_
  refine op_nil ?_
  refine W_cond false (by kernel_rfl) (by kernel_rfl) (fun h => nomatch h) (fun _ => ?_)
  refine W_skip ?_
  refine W_seq ?_
  refine W_region (by kernel_rfl) ?_
  refine sg [(18, .pointer (some ⟨p3, 0, none⟩))] (by kernel_rfl) ?_
  have hltM := hG.1.lt
  have hpos_r7 := hG.2.pos
  refine st (by rfl) (S_call (args := [.pointer (some ⟨p3, 0, none⟩), .int .i64 8, .int .u64 1]) (by kernel_rfl) (const_ok p3 8 1 _ (by omega) (by omega) (by omega)) ?_)
  rintro _ w5 ⟨g6, r7, rfl, hrl8, hBq9, hg10, hcv11, hT12⟩
  have hT0 := hT0.t0 hT12
  have hG := hG.tch0 hT12
  have hX13 := RdX.ofP (m := 8) (F := F4) hBq9 (by rw [nats_length]; exact hrl8) (by omega) (fun e => by have := hltM _ e; omega)
  have lt_hX13 := hX13.lt
  have ge_hX13 : ∀ c, blkOf (some ⟨g6, 0, none⟩) = some c → _ ≤ c := fun c hc => by injection hc with hc; rw [← hc]; exact hg10
  refine sg [(20, .pointer (some ⟨p3, 0, none⟩))] (by kernel_rfl) ?_
  have hltM := hG.1.lt
  have hpos_r16 := hG.2.pos
  refine st (by rfl) (S_call (args := [.pointer (some ⟨p3, 0, none⟩), .int .i64 8, .int .u64 255]) (by kernel_rfl) (const_ok p3 8 255 _ (by omega) (by omega) (by omega)) ?_)
  rintro _ w14 ⟨g15, r16, rfl, hrl17, hBq18, hg19, hcv20, hT21⟩
  have hT0 := hT0.t0 hT21
  have hG := hG.tch0 hT21
  have hX13 := hX13.tch0 hT21
  have hX22 := RdX.ofP (m := 8) (F := F4) hBq18 (by rw [nats_length]; exact hrl17) (by omega) (fun e => by have := hltM _ e; omega)
  have lt_hX22 := hX22.lt
  have ge_hX22 : ∀ c, blkOf (some ⟨g15, 0, none⟩) = some c → _ ≤ c := fun c hc => by injection hc with hc; rw [← hc]; exact hg19
  refine sg [(2, .slice (some ⟨g6, 0, none⟩) 8 8), (3, .slice (some ⟨g15, 0, none⟩) 8 8)] (by kernel_rfl) ?_
  refine op_nil ?_
  refine W_seq ?_
  refine W_fg [(0, .bool false), (1, .pointer (some ⟨p3, 0, none⟩)), (2, .slice (some ⟨g6, 0, none⟩) 8 8), (3, .slice (some ⟨g15, 0, none⟩) 8 8), (17, .bool false)] (by kernel_rfl) fun ρ => ?_
  refine W_region (by kernel_rfl) ?_
  refine sg [(22, .pointer (some ⟨p3, 0, none⟩)), (23, .slice (some ⟨g6, 0, none⟩) 8 8), (24, .slice (some ⟨g15, 0, none⟩) 8 8)] (by kernel_rfl) ?_
  have hz_ := hT0.size
  refine st (by rfl) (S_call (args := [.pointer (some ⟨p3, 0, none⟩), .slice (some ⟨g6, 0, none⟩) 8 8, .slice (some ⟨g15, 0, none⟩) 8 8]) (by kernel_rfl) (radd_ok F4 p3 1 8 8 8 (some ⟨g6, 0, none⟩) (some ⟨g15, 0, none⟩) r7 r16 ([[0]]) (fun _ => False) _ hG hX13 hX22 (fun j hj => by rw [hcv11 j hj]; split <;> omega) (fun j hj => by rw [hcv20 j hj]; split <;> omega) (by omega) (by omega) (by omega)) ?_)
  rintro _ w23 ⟨F24, n25, cs26, g27, r28, rfl, hrl29, hX30, hg31, hG, mv32, hrw33, hd34⟩
  have hT0 := (hT0).then mv32.1 hFb
  have hX13 := hX13.mv mv32
  have hX22 := hX22.mv mv32
  replace hFb := mv32.ge hFb hz_
  have lt_hX30 := hX30.lt
  have ge_hX30 : ∀ c, blkOf (some ⟨g27, 0, none⟩) = some c → _ ≤ c := fun c hc => by injection hc with hc; rw [← hc]; exact hg31
  have hle35 := hrw33.le
  refine sg [(4, .slice (some ⟨g27, 0, none⟩) 8 8)] (by kernel_rfl) ?_
  refine op_nil ?_
  refine W_seq ?_
  refine W_region (by kernel_rfl) ?_
  refine sg [(26, .pointer (some ⟨p3, 0, none⟩)), (27, .slice (some ⟨g6, 0, none⟩) 8 8), (28, .slice (some ⟨g15, 0, none⟩) 8 8)] (by kernel_rfl) ?_
  have hz_ := hT0.size
  refine st (by rfl) (S_call (args := [.pointer (some ⟨p3, 0, none⟩), .slice (some ⟨g6, 0, none⟩) 8 8, .slice (some ⟨g15, 0, none⟩) 8 8]) (by kernel_rfl) (less_ok F24 p3 n25 8 8 8 (some ⟨g6, 0, none⟩) (some ⟨g15, 0, none⟩) r7 r16 cs26 (fun _ => False) _ hG hX13 hX22 (fun j hj => by rw [hcv11 j hj]; split <;> omega) (fun j hj => by rw [hcv20 j hj]; split <;> omega) (by omega) (by omega) (by omega)) ?_)
  rintro _ w36 ⟨F37, n38, cs39, x40, rfl, hG, mv41, hr42, hd43⟩
  have hT0 := (hT0).then mv41.1 hFb
  have hX13 := hX13.mv mv41
  have hX22 := hX22.mv mv41
  have hX30 := hX30.mv mv41
  replace hFb := mv41.ge hFb hz_
  have hxb44 := hr42.2.2.1
  have hle45 := hr42.1
  refine sg [(5, .int .i64 ((x40 : Nat) : Int))] (by kernel_rfl) ?_
  refine op_nil ?_
  refine W_seq ?_
  refine W_fg [(0, .bool false), (1, .pointer (some ⟨p3, 0, none⟩)), (2, .slice (some ⟨g6, 0, none⟩) 8 8), (3, .slice (some ⟨g15, 0, none⟩) 8 8), (4, .slice (some ⟨g27, 0, none⟩) 8 8), (5, .int .i64 ((x40 : Nat) : Int)), (17, .bool false)] (by kernel_rfl) fun ρ => ?_
  refine W_region (by kernel_rfl) ?_
  refine sg [(30, .pointer (some ⟨p3, 0, none⟩)), (31, .slice (some ⟨g6, 0, none⟩) 8 8), (32, .slice (some ⟨g15, 0, none⟩) 8 8)] (by kernel_rfl) ?_
  have hz_ := hT0.size
  refine st (by rfl) (S_call (args := [.pointer (some ⟨p3, 0, none⟩), .slice (some ⟨g6, 0, none⟩) 8 8, .slice (some ⟨g15, 0, none⟩) 8 8]) (by kernel_rfl) (sless_ok F37 p3 n38 8 8 8 (some ⟨g6, 0, none⟩) (some ⟨g15, 0, none⟩) r7 r16 cs39 (fun _ => False) _ hG hX13 hX22 (fun j hj => by rw [hcv11 j hj]; split <;> omega) (fun j hj => by rw [hcv20 j hj]; split <;> omega) (by omega) (by omega) (by omega)) ?_)
  rintro _ w46 ⟨F47, n48, cs49, x50, rfl, hG, mv51, hr52, hd53⟩
  have hT0 := (hT0).then mv51.1 hFb
  have hX13 := hX13.mv mv51
  have hX22 := hX22.mv mv51
  have hX30 := hX30.mv mv51
  replace hFb := mv51.ge hFb hz_
  have hxb54 := hr52.2.2.1
  have hle55 := hr52.1
  refine sg [(6, .int .i64 ((x50 : Nat) : Int))] (by kernel_rfl) ?_
  refine op_nil ?_
  refine W_seq ?_
  refine W_region (by kernel_rfl) ?_
  refine sg [(35, .pointer (some ⟨p3, 0, none⟩))] (by kernel_rfl) ?_
  refine st (by rfl) (S_call (args := [.pointer (some ⟨p3, 0, none⟩)]) (by kernel_rfl) (vars_ok F47 p3 n48 cs49 (fun _ => False) _ hG) ?_)
  rintro _ w56 ⟨rfl, hT57⟩
  have hT0 := hT0.t0 hT57
  have hG := hG.tch0 hT57
  have hX13 := hX13.tch0 hT57
  have hX22 := hX22.tch0 hT57
  have hX30 := hX30.tch0 hT57
  refine sg [(37, .pointer (some ⟨p3, 0, none⟩))] (by kernel_rfl) ?_
  refine st (by rfl) (S_call (args := [.pointer (some ⟨p3, 0, none⟩)]) (by kernel_rfl) (clauses_ok F47 p3 n48 cs49 (fun _ => False) _ hG (by omega)) ?_)
  rintro _ w58 ⟨L60, lcp61, Lv62, rfl, hClr, hClc, hT59⟩
  have hT0 := hT0.t0 hT59
  have hG := hG.tch0 hT59
  have hX13 := hX13.tch0 hT59
  have hX22 := hX22.tch0 hT59
  have hX30 := hX30.tch0 hT59
  refine st (by rfl) (S_call (args := [.int .i64 ((n48 : Nat) : Int), .slice none 0 0, .slice L60 cs49.length lcp61]) (by kernel_rfl) (runG F47 p3 n48 0 0 cs49.length lcp61 cs49 (fun _ => False) none L60 ([] : List Nat) Lv62 (fun _ => false) _ hG (RdW.nil_ _ _ _) hClr hClc rfl (by omega) (fun v hv => hv.elim) (fun x hx => by cases hx)) ?_)
  rintro _ w63 ⟨K65, J66, ck67, cj68, kn69, tr70, be71, rfl, hK0, hJ0, hmod, hbt, hall, hT64⟩
  have hT0 := hT0.t0 hT64
  have hG := hG.tch0 hT64
  have hX13 := hX13.tch0 hT64
  have hX22 := hX22.tch0 hT64
  have hX30 := hX30.tch0 hT64
  have hTK := Tch.refl N0 w63
  have hK := hK0
  have hJ := hJ0
  have hmd3 := hmod
  have hmd2 := hmd3.sub hr52.2.1
  have hmd1 := hmd2.sub hr42.2.1
  have hmd0 := hmd1.sub hrw33.sub
  have hca := con_says (be := be71) hG.2 hmod hcv11
  have hcb := con_says (be := be71) hG.2 hmod hcv20
  have vS : bval 8 (fun j => lt_ be71 (r28.getD j 0)) = 0 := (add_says hca hcb (fun j hj => hrw33.val be71 hmd1 j hj)).trans (by decide)
  have vE : lt_ be71 x40 = true := (less_says hca hcb (hr42.2.2.2 be71 hmd2)).trans (by decide)
  have vF : lt_ be71 x50 = false := (sless_says hca hcb (by omega) (hr52.2.2.2 be71 hmd3)).trans (by decide)
  refine sg [(34, .tuple #[.agg #[.slice K65 n48 ck67, .slice J66 n48 cj68], .bool true]), (40, .agg #[.slice K65 n48 ck67, .slice J66 n48 cj68]), (41, .bool true)] (by kernel_rfl) ?_
  have hz76 := hTK.size
  have hlt_ := hG.1.lt
  have lt_hX13 := hX13.lt
  have lt_hX22 := hX22.lt
  have lt_hX30 := hX30.lt
  have z77 := hT0.size
  refine st (by rfl) (S_new (v := .pointer (some ⟨w63.heap.size, 0, none⟩)) (ob := .cells #[.slice none 0 0, .slice none 0 0] 54) (by kernel_rfl) fun w72 hT73 hs74 hB75 => ?_)
  replace hB75 : Blk w72 (w63.heap.size) 54 [.slice none 0 0, .slice none 0 0] := hB75
  have hT0 := hT0.t0 hT73
  have hG := hG.tch0 hT73
  have hX13 := hX13.tch0 hT73
  have hX22 := hX22.tch0 hT73
  have hX30 := hX30.tch0 hT73
  have hTK := hTK.t0 hT73
  have hK := hK0.tch0 hTK
  have hJ := hJ0.tch0 hTK
  have nF_hB75 : ¬ F47 (w63.heap.size) := fun e => by have := hlt_ _ e; omega
  refine st (by rfl) (S_storeA (b := w63.heap.size) (j := 0) (cs := [.slice K65 n48 ck67, .slice J66 n48 cj68]) (by kernel_rfl) (by kernel_rfl) (by kernel_rfl) (by simp [oneV]) hB75 (by simp) fun w78 hT79 hs80 hB75' => ?_)
  have hT0 := (hT0).then hT79 (fun c e => by have : c = w63.heap.size := e; omega)
  have hG := hG.tchS hT79 (fun c e q => by cases e; exact nF_hB75 q)
  have hX13 := hX13.st hT79 (fun c hc e => by have h1 := lt_hX13 c hc; have h2 := ge_hX13 c hc; have : c = w63.heap.size := e; omega)
  have hX22 := hX22.st hT79 (fun c hc e => by have h1 := lt_hX22 c hc; have h2 := ge_hX22 c hc; have : c = w63.heap.size := e; omega)
  have hX30 := hX30.st hT79 (fun c hc e => by have h1 := lt_hX30 c hc; have h2 := ge_hX30 c hc; have : c = w63.heap.size := e; omega)
  have hTK := hTK.then hT79 (fun c e => by have : c = w63.heap.size := e; omega)
  have hK := hK0.tch0 hTK
  have hJ := hJ0.tch0 hTK
  replace hB75 : Blk w78 w63.heap.size 54 [.slice K65 n48 ck67, .slice J66 n48 cj68] := hB75'
  refine sg [(8, .bool true)] (by kernel_rfl) ?_
  refine op_nil ?_
  refine W_seq ?_
  refine W_seq ?_
  refine W_fg [(0, .bool false), (1, .pointer (some ⟨p3, 0, none⟩)), (2, .slice (some ⟨g6, 0, none⟩) 8 8), (3, .slice (some ⟨g15, 0, none⟩) 8 8), (4, .slice (some ⟨g27, 0, none⟩) 8 8), (5, .int .i64 ((x40 : Nat) : Int)), (6, .int .i64 ((x50 : Nat) : Int)), (7, .pointer (some ⟨w63.heap.size, 0, none⟩)), (8, .bool true), (17, .bool false)] (by kernel_rfl) fun ρ => ?_
  refine W_region (by kernel_rfl) ?_
  refine sg [(42, .slice (some ⟨g27, 0, none⟩) 8 8), (43, .int .i64 8), (44, .bool false), (45, .bool false), (46, .int .i64 ((x40 : Nat) : Int)), (47, .bool (decide (((x40 : Nat) : Int) < 0))), (48, .bool (decide (((x40 : Nat) : Int) < 0))), (49, .bool (decide (((x40 : Nat) : Int) < 0)))] (by kernel_rfl) ?_
  cases hb81 : decide (((x40 : Nat) : Int) < 0)
  · replace hb81 : 0 ≤ ((x40 : Nat) : Int) := (Int.not_lt.1 (of_decide_eq_false hb81))
    refine sg [(50, .int .i64 ((x50 : Nat) : Int)), (51, .bool (decide (((x50 : Nat) : Int) < 0))), (52, .bool (decide (((x50 : Nat) : Int) < 0))), (53, .bool (decide (((x50 : Nat) : Int) < 0)))] (by kernel_rfl) ?_
    cases hb82 : decide (((x50 : Nat) : Int) < 0)
    · replace hb82 : 0 ≤ ((x50 : Nat) : Int) := (Int.not_lt.1 (of_decide_eq_false hb82))
      refine sg [(54, .bool true), (55, .bool false), (56, .bool false)] (by kernel_rfl) ?_
      refine op_nil ?_
      refine W_cond false (by kernel_rfl) (by kernel_rfl) (fun h => nomatch h) (fun _ => ?_)
      refine W_skip ?_
      refine W_seq ?_
      refine W_fg [(0, .bool false), (1, .pointer (some ⟨p3, 0, none⟩)), (2, .slice (some ⟨g6, 0, none⟩) 8 8), (3, .slice (some ⟨g15, 0, none⟩) 8 8), (4, .slice (some ⟨g27, 0, none⟩) 8 8), (5, .int .i64 ((x40 : Nat) : Int)), (6, .int .i64 ((x50 : Nat) : Int)), (7, .pointer (some ⟨w63.heap.size, 0, none⟩)), (8, .bool true), (17, .bool false), (56, .bool false)] (by kernel_rfl) fun ρ => ?_
      refine W_region (by kernel_rfl) ?_
      refine st (by rfl) (S_val (v := .agg #[.slice K65 n48 ck67, .slice J66 n48 cj68]) (R_loadA [.slice K65 n48 ck67, .slice J66 n48 cj68] (by kernel_rfl) (by kernel_rfl) (by kernel_rfl) (fun k u hk => by rw [hB75.cell]; exact get_part _ 0 _ k u rfl hk)) ?_)
      refine sg [(59, .slice (some ⟨g27, 0, none⟩) 8 8)] (by kernel_rfl) ?_
      refine st (by rfl) (S_call (args := [.agg #[.slice K65 n48 ck67, .slice J66 n48 cj68], .slice (some ⟨g27, 0, none⟩) 8 8]) (by kernel_rfl) ((by have q := rword_ok n48 8 8 K65 J66 (some ⟨g27, 0, none⟩) ck67 cj68 kn69 tr70 r28 be71 w78 hK hJ hX30.1 (by omega) hall (fun j hj => by have := hrw33.fit j hj; omega) (by omega); rw [vS] at q; exact q)) ?_)
      rintro _ w83 ⟨rfl, hT84⟩
      have hT0 := hT0.t0 hT84
      have hG := hG.tch0 hT84
      have hX13 := hX13.tch0 hT84
      have hX22 := hX22.tch0 hT84
      have hX30 := hX30.tch0 hT84
      have hTK := hTK.t0 hT84
      have hK := hK0.tch0 hTK
      have hJ := hJ0.tch0 hTK
      have hB75 := hB75.tch0 hT84
      refine sg [(57, .tuple #[.int .u64 0, .bool true]), (61, .int .u64 0), (62, .bool true), (9, .int .u64 0), (10, .bool true)] (by kernel_rfl) ?_
      refine op_nil ?_
      refine W_seq ?_
      refine W_fg [(0, .bool false), (1, .pointer (some ⟨p3, 0, none⟩)), (2, .slice (some ⟨g6, 0, none⟩) 8 8), (3, .slice (some ⟨g15, 0, none⟩) 8 8), (4, .slice (some ⟨g27, 0, none⟩) 8 8), (5, .int .i64 ((x40 : Nat) : Int)), (6, .int .i64 ((x50 : Nat) : Int)), (7, .pointer (some ⟨w63.heap.size, 0, none⟩)), (8, .bool true), (9, .int .u64 0), (10, .bool true), (17, .bool false), (56, .bool false)] (by kernel_rfl) fun ρ => ?_
      refine W_region (by kernel_rfl) ?_
      refine st (by rfl) (S_val (v := .agg #[.slice K65 n48 ck67, .slice J66 n48 cj68]) (R_loadA [.slice K65 n48 ck67, .slice J66 n48 cj68] (by kernel_rfl) (by kernel_rfl) (by kernel_rfl) (fun k u hk => by rw [hB75.cell]; exact get_part _ 0 _ k u rfl hk)) ?_)
      refine sg [(65, .int .i64 ((x40 : Nat) : Int))] (by kernel_rfl) ?_
      refine st (by rfl) (S_call (args := [.agg #[.slice K65 n48 ck67, .slice J66 n48 cj68], .int .i64 ((x40 : Nat) : Int)]) (by kernel_rfl) (holds_is n48 K65 J66 ck67 cj68 kn69 tr70 x40 true _ hK hJ (by omega) (by omega) ⟨(hall x40 (by omega)).1, (hall x40 (by omega)).2.trans vE⟩) ?_)
      rintro _ w85 ⟨rfl, hT86⟩
      have hT0 := hT0.t0 hT86
      have hG := hG.tch0 hT86
      have hX13 := hX13.tch0 hT86
      have hX22 := hX22.tch0 hT86
      have hX30 := hX30.tch0 hT86
      have hTK := hTK.t0 hT86
      have hK := hK0.tch0 hTK
      have hJ := hJ0.tch0 hTK
      have hB75 := hB75.tch0 hT86
      refine sg [(63, .tuple #[.bool true, .bool true]), (67, .bool true), (68, .bool true), (11, .bool true), (12, .bool true)] (by kernel_rfl) ?_
      refine op_nil ?_
      refine W_seq ?_
      refine W_fg [(0, .bool false), (1, .pointer (some ⟨p3, 0, none⟩)), (2, .slice (some ⟨g6, 0, none⟩) 8 8), (3, .slice (some ⟨g15, 0, none⟩) 8 8), (4, .slice (some ⟨g27, 0, none⟩) 8 8), (5, .int .i64 ((x40 : Nat) : Int)), (6, .int .i64 ((x50 : Nat) : Int)), (7, .pointer (some ⟨w63.heap.size, 0, none⟩)), (8, .bool true), (9, .int .u64 0), (10, .bool true), (11, .bool true), (12, .bool true), (17, .bool false), (56, .bool false)] (by kernel_rfl) fun ρ => ?_
      refine W_region (by kernel_rfl) ?_
      refine st (by rfl) (S_val (v := .agg #[.slice K65 n48 ck67, .slice J66 n48 cj68]) (R_loadA [.slice K65 n48 ck67, .slice J66 n48 cj68] (by kernel_rfl) (by kernel_rfl) (by kernel_rfl) (fun k u hk => by rw [hB75.cell]; exact get_part _ 0 _ k u rfl hk)) ?_)
      refine sg [(71, .int .i64 ((x50 : Nat) : Int))] (by kernel_rfl) ?_
      refine st (by rfl) (S_call (args := [.agg #[.slice K65 n48 ck67, .slice J66 n48 cj68], .int .i64 ((x50 : Nat) : Int)]) (by kernel_rfl) (holds_is n48 K65 J66 ck67 cj68 kn69 tr70 x50 false _ hK hJ (by omega) (by omega) ⟨(hall x50 (by omega)).1, (hall x50 (by omega)).2.trans vF⟩) ?_)
      rintro _ w87 ⟨rfl, hT88⟩
      have hT0 := hT0.t0 hT88
      have hG := hG.tch0 hT88
      have hX13 := hX13.tch0 hT88
      have hX22 := hX22.tch0 hT88
      have hX30 := hX30.tch0 hT88
      have hTK := hTK.t0 hT88
      have hK := hK0.tch0 hTK
      have hJ := hJ0.tch0 hTK
      have hB75 := hB75.tch0 hT88
      refine sg [(69, .tuple #[.bool false, .bool true]), (73, .bool false), (74, .bool true), (13, .bool false), (14, .bool true)] (by kernel_rfl) ?_
      refine op_nil ?_
      refine W_seq ?_
      refine W_fg [(0, .bool false), (1, .pointer (some ⟨p3, 0, none⟩)), (2, .slice (some ⟨g6, 0, none⟩) 8 8), (3, .slice (some ⟨g15, 0, none⟩) 8 8), (4, .slice (some ⟨g27, 0, none⟩) 8 8), (5, .int .i64 ((x40 : Nat) : Int)), (6, .int .i64 ((x50 : Nat) : Int)), (7, .pointer (some ⟨w63.heap.size, 0, none⟩)), (8, .bool true), (9, .int .u64 0), (10, .bool true), (11, .bool true), (12, .bool true), (13, .bool false), (14, .bool true), (17, .bool false), (56, .bool false)] (by kernel_rfl) fun ρ => ?_
      refine W_region (by kernel_rfl) ?_
      refine sg [(75, .int .u64 0), (76, .bool true), (77, .bool true), (78, .bool true), (79, .bool true), (80, .bool true), (81, .bool true), (82, .bool true), (83, .bool true), (84, .bool true), (85, .bool true), (86, .bool true), (87, .bool false), (88, .bool true), (89, .bool true), (90, .bool true), (91, .bool true), (92, .bool true), (93, .bool true), (94, .pointer (some ⟨p3, 0, none⟩)), (95, .slice (some ⟨g6, 0, none⟩) 8 8), (96, .slice (some ⟨g15, 0, none⟩) 8 8)] (by kernel_rfl) ?_
      obtain ⟨tl, hXt⟩ := hX22.head (cp := 8) (h := 7) (by omega)
      refine stv (v := .slice (slA (some ⟨g15, 0, none⟩) 0 8) (7 - 0) (8 - 0)) (by kernel_rfl) (R_sliceH (n := 8) 7 (by kernel_rfl) (by kernel_rfl) (by kernel_rfl) (by kernel_rfl) (by omega)) ?_
      have lt_hXt := hXt.lt
      have ge_hXt : ∀ c, blkOf (slA (some ⟨g15, 0, none⟩) 0 8) = some c → 0 ≤ c := fun c _ => Nat.zero_le c
      refine st (by kernel_rfl) (S_call (args := [.pointer (some ⟨p3, 0, none⟩), .slice (some ⟨g6, 0, none⟩) 8 8, .slice (slA (some ⟨g15, 0, none⟩) 0 8) (7 - 0) (8 - 0)]) (by kernel_rfl) (radd_bad p3 8 (7 - 0) 8 (8 - 0) (some ⟨g6, 0, none⟩) (slA (some ⟨g15, 0, none⟩) 0 8) (r7.map fun (x : Nat) => (x : Int)) (tl.map fun (x : Nat) => (x : Int)) _ (by rw [← nats_ints]; exact hX13.1) (by rw [← nats_ints]; exact hXt.1) (badR_len (by omega))) ?_)
      rintro _ w89 ⟨rfl, hT90⟩
      have hT0 := hT0.t0 hT90
      have hG := hG.tch0 hT90
      have hX13 := hX13.tch0 hT90
      have hX22 := hX22.tch0 hT90
      have hX30 := hX30.tch0 hT90
      have hTK := hTK.t0 hT90
      have hK := hK0.tch0 hTK
      have hJ := hJ0.tch0 hTK
      have hB75 := hB75.tch0 hT90
      have hXt := hXt.tch0 hT90
      refine sg [(99, .int .i64 0), (100, .bool true), (101, .bool true), (102, .bool true), (103, .pointer (some ⟨p3, 0, none⟩))] (by kernel_rfl) ?_
      refine st (by kernel_rfl) (S_call (args := [.pointer (some ⟨p3, 0, none⟩), .int .i64 65, .int .u64 1]) (by kernel_rfl) (const_big p3 65 1 _ (by omega)) ?_)
      rintro _ w91 ⟨rfl, hT92⟩
      have hT0 := hT0.t0 hT92
      have hG := hG.tch0 hT92
      have hX13 := hX13.tch0 hT92
      have hX22 := hX22.tch0 hT92
      have hX30 := hX30.tch0 hT92
      have hTK := hTK.t0 hT92
      have hK := hK0.tch0 hTK
      have hJ := hJ0.tch0 hTK
      have hB75 := hB75.tch0 hT92
      have hXt := hXt.tch0 hT92
      refine sg [(105, .int .i64 0), (106, .bool true), (107, .bool true), (108, .bool true), (109, .pointer (some ⟨p3, 0, none⟩))] (by kernel_rfl) ?_
      refine st (by kernel_rfl) (S_call (args := [.pointer (some ⟨p3, 0, none⟩), .slice none 0 0, .slice none 0 0]) (by kernel_rfl) (eq_bad p3 0 0 0 0 none none ([]) ([]) _ (RdW.nil_ _ _ _) (RdW.nil_ _ _ _) badR_nil) ?_)
      rintro _ w93 ⟨rfl, hT94⟩
      have hT0 := hT0.t0 hT94
      have hG := hG.tch0 hT94
      have hX13 := hX13.tch0 hT94
      have hX22 := hX22.tch0 hT94
      have hX30 := hX30.tch0 hT94
      have hTK := hTK.t0 hT94
      have hK := hK0.tch0 hTK
      have hJ := hJ0.tch0 hTK
      have hB75 := hB75.tch0 hT94
      have hXt := hXt.tch0 hT94
      refine sg [(111, .bool true), (112, .bool true), (113, .bool true), (114, .pointer (some ⟨p3, 0, none⟩))] (by kernel_rfl) ?_
      have hz99 := hTK.size
      have hlt_ := hG.1.lt
      have lt100 := hB75.lt
      have lt_hX13 := hX13.lt
      have lt_hX22 := hX22.lt
      have lt_hX30 := hX30.lt
      have lt_hXt := hXt.lt
      have z101 := hT0.size
      have l102 := hB75.lt
      refine st (by kernel_rfl) (S_new (v := .slice (some ⟨w93.heap.size, 0, none⟩) 1 1) (ob := .cells #[.int .i64 (-1)] 3) (by kernel_rfl) fun w95 hT96 hs97 hB98 => ?_)
      replace hB98 : Blk w95 (w93.heap.size) 3 [.int .i64 (-1)] := hB98
      have hT0 := hT0.t0 hT96
      have hG := hG.tch0 hT96
      have hX13 := hX13.tch0 hT96
      have hX22 := hX22.tch0 hT96
      have hX30 := hX30.tch0 hT96
      have hTK := hTK.t0 hT96
      have hK := hK0.tch0 hTK
      have hJ := hJ0.tch0 hTK
      have hB75 := hB75.tch0 hT96
      have hXt := hXt.tch0 hT96
      have nF_hB98 : ¬ F47 (w93.heap.size) := fun e => by have := hlt_ _ e; omega
      refine st (by kernel_rfl) (S_call (args := [.pointer (some ⟨p3, 0, none⟩), .slice (some ⟨w93.heap.size, 0, none⟩) 1 1]) (by kernel_rfl) (rneg2_bad p3 1 1 (some ⟨w93.heap.size, 0, none⟩) [-1] _ ((show Blk _ _ 3 (ints .i64 [-1]) from hB98).rd 1 1 (by rfl) (by omega)) (fun q => by have := q.2 0 (by omega); simp at this)) ?_)
      rintro _ w103 ⟨rfl, hT104⟩
      have hT0 := hT0.t0 hT104
      have hG := hG.tch0 hT104
      have hX13 := hX13.tch0 hT104
      have hX22 := hX22.tch0 hT104
      have hX30 := hX30.tch0 hT104
      have hTK := hTK.t0 hT104
      have hK := hK0.tch0 hTK
      have hJ := hJ0.tch0 hTK
      have hB75 := hB75.tch0 hT104
      have hXt := hXt.tch0 hT104
      have hB98 := hB98.tch0 hT104
      refine sg [(117, .int .i64 0), (118, .bool true), (119, .bool true), (0, .bool true)] (by kernel_rfl) ?_
      refine op_nil ?_
      refine W_ret ?_
      exact ⟨_, Res_of (v := .bool true) (by kernel_rfl), ⟨rfl, hT0⟩⟩
    · replace hb82 : ((x50 : Nat) : Int) < 0 := (of_decide_eq_true hb82)
      exfalso; omega
  · replace hb81 : ((x40 : Nat) : Int) < 0 := (of_decide_eq_true hb81)
    exfalso; omega

end Go.Proofs.YtnlecdpiccgdpaaV
