/- Walks of functions of the program and of the document's texts. The conditions stand with each theorem. -/
import Derived.Test.YtnlecdpiccgdpaaVx13
import Derived.Test.YtnlecdpiccgdpaaProg
import Derived.Test.YtnlecdpiccgdpaaVx4
import Derived.Test.YtnlecdpiccgdpaaLawP
set_option linter.unusedVariables false
set_option linter.unusedSimpArgs false
namespace Go.Proofs.YtnlecdpiccgdpaaV
open Go Go.RowKit Go.Proofs

set_option maxRecDepth 100000 in
set_option maxHeartbeats 4000000 in
theorem awake22_ok (w : World) : Ret Try.prog 29 [] w fun v w' => v = .bool true ∧ Tch N0 w w' := by
  refine enter Try.func29 rfl rfl ?_
  refine W_seq ?_
  refine W_region (by kernel_rfl) ?_
  refine sg [(0, .bool false)] (by kernel_rfl) ?_
  refine op_nil ?_
  refine W_seq ?_
  refine W_region (by kernel_rfl) ?_
  refine st (by rfl) (S_call (args := []) (by kernel_rfl) (new_ok _) ?_)
  rintro _ w1 ⟨p3, F4, rfl, hG, hT2, hFb⟩
  have hT0 := hT2
  refine sg [(1, .pointer (some ⟨p3, 0, none⟩))] (by kernel_rfl) ?_
  refine op_nil ?_
  refine W_seq ?_
  refine W_seq ?_
  refine W_region (by kernel_rfl) ?_
  refine sg [(14, .pointer (some ⟨p3, 0, none⟩)), (15, .bool false)] (by kernel_rfl) ?_
  refine op_nil ?_
  refine W_cond false (by kernel_rfl) (by kernel_rfl) (fun h => nomatch h) (fun _ => ?_)
  refine W_skip ?_
  refine W_seq ?_
  refine W_region (by kernel_rfl) ?_
  refine sg [(17, .pointer (some ⟨p3, 0, none⟩))] (by kernel_rfl) ?_
  have hz_ := hT0.size
  refine st (by rfl) (S_call (args := [.pointer (some ⟨p3, 0, none⟩), .int .i64 6, .int .u64 1, .int .u64 0]) (by kernel_rfl) (row_ok F4 p3 1 6 ([[0]]) (fun _ => False) 1 0 _ hG (by omega) (by omega) (by omega)) ?_)
  rintro _ w5 ⟨Fa, na, Ia, Ra, rca, Ha, hca, rowa, holda, rfl, hXa, hYa, gRa, gHa, hG, mva, hria, hda, aHa, hlla⟩
  have hT0 := (hT0).then mva.1 hFb
  replace hFb := mva.ge hFb hz_
  have lt_hXa := hXa.lt
  have lt_hYa := hYa.lt
  have ge_hXa := gRa
  have ge_hYa := gHa
  have hle_hria := hria.le
  refine sg [(16, .tuple #[.slice Ra 6 rca, .slice Ha holda.length hca]), (19, .slice Ra 6 rca), (20, .slice Ha holda.length hca), (2, .slice Ra 6 rca), (3, .slice Ha holda.length hca)] (by kernel_rfl) ?_
  refine op_nil ?_
  refine W_seq ?_
  refine W_fg [(0, .bool false), (1, .pointer (some ⟨p3, 0, none⟩)), (2, .slice Ra 6 rca), (15, .bool false)] (by kernel_rfl) fun ρ => ?_
  refine W_region (by kernel_rfl) ?_
  refine sg [(22, .pointer (some ⟨p3, 0, none⟩))] (by kernel_rfl) ?_
  have hz_ := hT0.size
  refine st (by rfl) (S_call (args := [.pointer (some ⟨p3, 0, none⟩), .int .i64 6, .int .u64 3, .int .u64 0]) (by kernel_rfl) (row_ok Fa p3 na 6 ([[0]]) Ia 3 0 _ hG (by omega) (by omega) (by omega)) ?_)
  rintro _ w6 ⟨Fb, nb, Ib, Rb, rcb, Hb, hcb, rowb, holdb, rfl, hXb, hYb, gRb, gHb, hG, mvb, hrib, hdb, aHb, hllb⟩
  have hT0 := (hT0).then mvb.1 hFb
  have hXa := hXa.mv mvb
  have hYa := hYa.mv mvb
  replace hFb := mvb.ge hFb hz_
  have lt_hXb := hXb.lt
  have lt_hYb := hYb.lt
  have ge_hXb := gRb
  have ge_hYb := gHb
  have hle_hrib := hrib.le
  refine sg [(21, .tuple #[.slice Rb 6 rcb, .slice Hb holdb.length hcb]), (24, .slice Rb 6 rcb), (25, .slice Hb holdb.length hcb), (4, .slice Rb 6 rcb), (5, .slice Hb holdb.length hcb)] (by kernel_rfl) ?_
  refine op_nil ?_
  refine W_seq ?_
  refine W_region (by kernel_rfl) ?_
  refine sg [(27, .pointer (some ⟨p3, 0, none⟩))] (by kernel_rfl) ?_
  have hz_ := hT0.size
  refine st (by rfl) (S_call (args := [.pointer (some ⟨p3, 0, none⟩), .int .i64 6, .int .u64 32, .int .u64 0]) (by kernel_rfl) (row_ok Fb p3 nb 6 ([[0]]) Ib 32 0 _ hG (by omega) (by omega) (by omega)) ?_)
  rintro _ w7 ⟨Fc, nc, Ic, Rc, rcc, Hc, hcc, rowc, holdc, rfl, hXc, hYc, gRc, gHc, hG, mvc, hric, hdc, aHc, hllc⟩
  have hT0 := (hT0).then mvc.1 hFb
  have hXa := hXa.mv mvc
  have hYa := hYa.mv mvc
  have hXb := hXb.mv mvc
  have hYb := hYb.mv mvc
  replace hFb := mvc.ge hFb hz_
  have lt_hXc := hXc.lt
  have lt_hYc := hYc.lt
  have ge_hXc := gRc
  have ge_hYc := gHc
  have hle_hric := hric.le
  refine sg [(26, .tuple #[.slice Rc 6 rcc, .slice Hc holdc.length hcc]), (29, .slice Rc 6 rcc), (30, .slice Hc holdc.length hcc), (6, .slice Rc 6 rcc), (7, .slice Hc holdc.length hcc)] (by kernel_rfl) ?_
  refine op_nil ?_
  refine W_seq ?_
  refine W_fg [(0, .bool false), (1, .pointer (some ⟨p3, 0, none⟩)), (2, .slice Ra 6 rca), (4, .slice Rb 6 rcb), (6, .slice Rc 6 rcc), (15, .bool false)] (by kernel_rfl) fun ρ => ?_
  refine W_region (by kernel_rfl) ?_
  refine sg [(31, .pointer (some ⟨p3, 0, none⟩)), (32, .slice Ra 6 rca), (33, .slice Rb 6 rcb)] (by kernel_rfl) ?_
  have hz_ := hT0.size
  refine st (by rfl) (S_call (args := [.pointer (some ⟨p3, 0, none⟩), .int .i64 9, .slice Ra 6 rca, .slice Rb 6 rcb]) (by kernel_rfl) (move9_ok Fc p3 nc 6 rca rcb Ra Rb rowa rowb ([[0]]) Ic _ hG hXa hXb (fun j hj => by have := hria.fit j hj; omega) (fun j hj => by have := hrib.fit j hj; omega) (by omega) (by omega) (by omega)) ?_)
  rintro _ w8 ⟨F9, n10, cs11, g12, r13, rfl, hrl14, hX15, hg16, hG, mv17, hrw18, hd19⟩
  have hT0 := (hT0).then mv17.1 hFb
  have hXa := hXa.mv mv17
  have hYa := hYa.mv mv17
  have hXb := hXb.mv mv17
  have hYb := hYb.mv mv17
  have hXc := hXc.mv mv17
  have hYc := hYc.mv mv17
  replace hFb := mv17.ge hFb hz_
  have lt_hX15 := hX15.lt
  have ge_hX15 : ∀ c, blkOf (some ⟨g12, 0, none⟩) = some c → _ ≤ c := fun c hc => by injection hc with hc; rw [← hc]; exact hg16
  have hle20 := hrw18.le
  refine sg [(8, .slice (some ⟨g12, 0, none⟩) 6 6)] (by kernel_rfl) ?_
  refine op_nil ?_
  refine W_seq ?_
  refine W_region (by kernel_rfl) ?_
  refine sg [(35, .pointer (some ⟨p3, 0, none⟩)), (36, .slice Rc 6 rcc), (37, .slice Rb 6 rcb)] (by kernel_rfl) ?_
  have hz_ := hT0.size
  refine st (by rfl) (S_call (args := [.pointer (some ⟨p3, 0, none⟩), .int .i64 11, .slice Rc 6 rcc, .slice Rb 6 rcb]) (by kernel_rfl) (move11_ok F9 p3 n10 6 rcc rcb Rc Rb rowc rowb cs11 Ic _ hG hXc hXb (fun j hj => by have := hric.fit j hj; omega) (fun j hj => by have := hrib.fit j hj; omega) (by omega) (by omega) (by omega)) ?_)
  rintro _ w21 ⟨F22, n23, cs24, g25, r26, rfl, hrl27, hX28, hg29, hG, mv30, hrw31, hd32⟩
  have hT0 := (hT0).then mv30.1 hFb
  have hXa := hXa.mv mv30
  have hYa := hYa.mv mv30
  have hXb := hXb.mv mv30
  have hYb := hYb.mv mv30
  have hXc := hXc.mv mv30
  have hYc := hYc.mv mv30
  have hX15 := hX15.mv mv30
  replace hFb := mv30.ge hFb hz_
  have lt_hX28 := hX28.lt
  have ge_hX28 : ∀ c, blkOf (some ⟨g25, 0, none⟩) = some c → _ ≤ c := fun c hc => by injection hc with hc; rw [← hc]; exact hg29
  have hle33 := hrw31.le
  refine sg [(9, .slice (some ⟨g25, 0, none⟩) 6 6)] (by kernel_rfl) ?_
  refine op_nil ?_
  refine W_seq ?_
  refine W_fg [(0, .bool false), (1, .pointer (some ⟨p3, 0, none⟩)), (2, .slice Ra 6 rca), (4, .slice Rb 6 rcb), (6, .slice Rc 6 rcc), (8, .slice (some ⟨g12, 0, none⟩) 6 6), (9, .slice (some ⟨g25, 0, none⟩) 6 6), (15, .bool false)] (by kernel_rfl) fun ρ => ?_
  refine W_region (by kernel_rfl) ?_
  refine sg [(39, .pointer (some ⟨p3, 0, none⟩)), (40, .slice Rc 6 rcc), (41, .slice Rc 6 rcc)] (by kernel_rfl) ?_
  have hz_ := hT0.size
  refine st (by rfl) (S_call (args := [.pointer (some ⟨p3, 0, none⟩), .int .i64 10, .slice Rc 6 rcc, .slice Rc 6 rcc]) (by kernel_rfl) (move10_ok F22 p3 n23 6 rcc rcc Rc Rc rowc rowc cs24 Ic _ hG hXc hXc (fun j hj => by have := hric.fit j hj; omega) (fun j hj => by have := hric.fit j hj; omega) (by omega) (by omega) (by omega)) ?_)
  rintro _ w34 ⟨F35, n36, cs37, g38, r39, rfl, hrl40, hX41, hg42, hG, mv43, hrw44, hd45⟩
  have hT0 := (hT0).then mv43.1 hFb
  have hXa := hXa.mv mv43
  have hYa := hYa.mv mv43
  have hXb := hXb.mv mv43
  have hYb := hYb.mv mv43
  have hXc := hXc.mv mv43
  have hYc := hYc.mv mv43
  have hX15 := hX15.mv mv43
  have hX28 := hX28.mv mv43
  replace hFb := mv43.ge hFb hz_
  have lt_hX41 := hX41.lt
  have ge_hX41 : ∀ c, blkOf (some ⟨g38, 0, none⟩) = some c → _ ≤ c := fun c hc => by injection hc with hc; rw [← hc]; exact hg42
  have hle46 := hrw44.le
  refine sg [(10, .slice (some ⟨g38, 0, none⟩) 6 6)] (by kernel_rfl) ?_
  refine op_nil ?_
  refine W_seq ?_
  refine W_region (by kernel_rfl) ?_
  refine sg [(44, .pointer (some ⟨p3, 0, none⟩))] (by kernel_rfl) ?_
  refine st (by rfl) (S_call (args := [.pointer (some ⟨p3, 0, none⟩), .slice none 0 0]) (by kernel_rfl) (close_ok F35 p3 n36 0 0 cs37 Ic none ([] : List Nat) (fun _ => false) _ hG (by omega) (RdW.nil_ _ _ _) (fun v hv => ((RowI.noin (i := 0) hric (RowI.noin (i := 0) hrib (RowI.noin (i := 0) hria (fun _ h => h)))) v hv).elim) (fun x hx => by cases hx)) ?_)
  rintro _ w47 ⟨K, J, ck, cj, kn, tr, be, rfl, hK0, hJ0, hmod, hbt, hall, hTC⟩
  have hT0 := hT0.t0 hTC
  have hG := hG.tch0 hTC
  have hXa := hXa.tch0 hTC
  have hYa := hYa.tch0 hTC
  have hXb := hXb.tch0 hTC
  have hYb := hYb.tch0 hTC
  have hXc := hXc.tch0 hTC
  have hYc := hYc.tch0 hTC
  have hX15 := hX15.tch0 hTC
  have hX28 := hX28.tch0 hTC
  have hX41 := hX41.tch0 hTC
  have hTK := Tch.refl N0 w47
  have hK := hK0
  have hJ := hJ0
  have hm2 := hmod
  have hm1 := hm2.sub hrw44.sub
  have hm0 := hm1.sub hrw31.sub
  have hmb := hm0.sub hrw18.sub
  have hv_Ra := (RowI.plain (i := 0) hria).2 be hmb
  have hv_Rb := (RowI.plain (i := 0) hrib).2 be hmb
  have hv_Rc := (RowI.plain (i := 0) hric).2 be hmb
  refine sg [(43, .tuple #[.agg #[.slice K n36 ck, .slice J n36 cj], .int .i64 1]), (46, .agg #[.slice K n36 ck, .slice J n36 cj]), (47, .int .i64 1)] (by kernel_rfl) ?_
  have hz52 := hTK.size
  have hlt_ := hG.1.lt
  have lt_hXa := hXa.lt
  have lt_hYa := hYa.lt
  have lt_hXb := hXb.lt
  have lt_hYb := hYb.lt
  have lt_hXc := hXc.lt
  have lt_hYc := hYc.lt
  have lt_hX15 := hX15.lt
  have lt_hX28 := hX28.lt
  have lt_hX41 := hX41.lt
  have z53 := hT0.size
  refine st (by rfl) (S_new (v := .pointer (some ⟨w47.heap.size, 0, none⟩)) (ob := .cells #[.slice none 0 0, .slice none 0 0] 54) (by kernel_rfl) fun w48 hT49 hs50 hB51 => ?_)
  replace hB51 : Blk w48 (w47.heap.size) 54 [.slice none 0 0, .slice none 0 0] := hB51
  have hT0 := hT0.t0 hT49
  have hG := hG.tch0 hT49
  have hXa := hXa.tch0 hT49
  have hYa := hYa.tch0 hT49
  have hXb := hXb.tch0 hT49
  have hYb := hYb.tch0 hT49
  have hXc := hXc.tch0 hT49
  have hYc := hYc.tch0 hT49
  have hX15 := hX15.tch0 hT49
  have hX28 := hX28.tch0 hT49
  have hX41 := hX41.tch0 hT49
  have hTK := hTK.t0 hT49
  have hK := hK0.tch0 hTK
  have hJ := hJ0.tch0 hTK
  have nF_hB51 : ¬ F35 (w47.heap.size) := fun e => by have := hlt_ _ e; omega
  refine st (by rfl) (S_storeA (b := w47.heap.size) (j := 0) (cs := [.slice K n36 ck, .slice J n36 cj]) (by kernel_rfl) (by kernel_rfl) (by kernel_rfl) (by simp [oneV]) hB51 (by simp) fun w54 hT55 hs56 hB51' => ?_)
  have hT0 := (hT0).then hT55 (fun c e => by have : c = w47.heap.size := e; omega)
  have hG := hG.tchS hT55 (fun c e q => by cases e; exact nF_hB51 q)
  have hXa := hXa.st hT55 (fun c hc e => by have h1 := lt_hXa c hc; have h2 := ge_hXa c hc; have : c = w47.heap.size := e; omega)
  have hYa := hYa.st hT55 (fun c hc e => by have h1 := lt_hYa c hc; have h2 := ge_hYa c hc; have : c = w47.heap.size := e; omega)
  have hXb := hXb.st hT55 (fun c hc e => by have h1 := lt_hXb c hc; have h2 := ge_hXb c hc; have : c = w47.heap.size := e; omega)
  have hYb := hYb.st hT55 (fun c hc e => by have h1 := lt_hYb c hc; have h2 := ge_hYb c hc; have : c = w47.heap.size := e; omega)
  have hXc := hXc.st hT55 (fun c hc e => by have h1 := lt_hXc c hc; have h2 := ge_hXc c hc; have : c = w47.heap.size := e; omega)
  have hYc := hYc.st hT55 (fun c hc e => by have h1 := lt_hYc c hc; have h2 := ge_hYc c hc; have : c = w47.heap.size := e; omega)
  have hX15 := hX15.st hT55 (fun c hc e => by have h1 := lt_hX15 c hc; have h2 := ge_hX15 c hc; have : c = w47.heap.size := e; omega)
  have hX28 := hX28.st hT55 (fun c hc e => by have h1 := lt_hX28 c hc; have h2 := ge_hX28 c hc; have : c = w47.heap.size := e; omega)
  have hX41 := hX41.st hT55 (fun c hc e => by have h1 := lt_hX41 c hc; have h2 := ge_hX41 c hc; have : c = w47.heap.size := e; omega)
  have hTK := hTK.then hT55 (fun c e => by have : c = w47.heap.size := e; omega)
  have hK := hK0.tch0 hTK
  have hJ := hJ0.tch0 hTK
  replace hB51 : Blk w54 w47.heap.size 54 [.slice K n36 ck, .slice J n36 cj] := hB51'
  refine sg [(12, .int .i64 1)] (by kernel_rfl) ?_
  refine op_nil ?_
  refine W_seq ?_
  refine W_fg [(0, .bool false), (1, .pointer (some ⟨p3, 0, none⟩)), (2, .slice Ra 6 rca), (4, .slice Rb 6 rcb), (6, .slice Rc 6 rcc), (8, .slice (some ⟨g12, 0, none⟩) 6 6), (9, .slice (some ⟨g25, 0, none⟩) 6 6), (10, .slice (some ⟨g38, 0, none⟩) 6 6), (11, .pointer (some ⟨w47.heap.size, 0, none⟩)), (12, .int .i64 1), (15, .bool false)] (by kernel_rfl) fun ρ => ?_
  refine W_region (by kernel_rfl) ?_
  refine sg [(48, .int .i64 1), (49, .bool true), (50, .bool true)] (by kernel_rfl) ?_
  refine st (by kernel_rfl) (S_val (v := .agg #[.slice K n36 ck, .slice J n36 cj]) (R_loadA [.slice K n36 ck, .slice J n36 cj] (by kernel_rfl) (by kernel_rfl) (by kernel_rfl) (fun k u hk => by rw [hB51.cell]; exact get_part _ 0 _ k u rfl hk)) ?_)
  refine sg [(52, .slice (some ⟨g12, 0, none⟩) 6 6)] (by kernel_rfl) ?_
  refine st (by kernel_rfl) (S_call (args := [.agg #[.slice K n36 ck, .slice J n36 cj], .slice (some ⟨g12, 0, none⟩) 6 6, .int .i64 6, .int .u64 8]) (by kernel_rfl) (is_ok n36 6 6 K J (some ⟨g12, 0, none⟩) ck cj kn tr r13 be 8 _ hK hJ hX15.1 (by omega) hall (fun j hj => by have := hrw18.fit j hj; omega) (by omega) (by omega) (by first | omega | exact bval_u (by omega)) (fun j hj => by have q := move_says (x1 := 1) (x2 := 3) (up := true) (fl' := false) (fun j hj => hrw18.val be (hm0) j hj) hv_Ra hv_Rb rfl j hj; rw [q]; congr 1)) ?_)
  rintro _ w57 ⟨rfl, hT58⟩
  have hT0 := hT0.t0 hT58
  have hG := hG.tch0 hT58
  have hXa := hXa.tch0 hT58
  have hYa := hYa.tch0 hT58
  have hXb := hXb.tch0 hT58
  have hYb := hYb.tch0 hT58
  have hXc := hXc.tch0 hT58
  have hYc := hYc.tch0 hT58
  have hX15 := hX15.tch0 hT58
  have hX28 := hX28.tch0 hT58
  have hX41 := hX41.tch0 hT58
  have hTK := hTK.t0 hT58
  have hK := hK0.tch0 hTK
  have hJ := hJ0.tch0 hTK
  have hB51 := hB51.tch0 hT58
  refine sg [(54, .bool true), (55, .bool true), (56, .bool true)] (by kernel_rfl) ?_
  refine st (by kernel_rfl) (S_val (v := .agg #[.slice K n36 ck, .slice J n36 cj]) (R_loadA [.slice K n36 ck, .slice J n36 cj] (by kernel_rfl) (by kernel_rfl) (by kernel_rfl) (fun k u hk => by rw [hB51.cell]; exact get_part _ 0 _ k u rfl hk)) ?_)
  refine sg [(58, .slice (some ⟨g25, 0, none⟩) 6 6)] (by kernel_rfl) ?_
  refine st (by kernel_rfl) (S_call (args := [.agg #[.slice K n36 ck, .slice J n36 cj], .slice (some ⟨g25, 0, none⟩) 6 6, .int .i64 6, .int .u64 60]) (by kernel_rfl) (is_ok n36 6 6 K J (some ⟨g25, 0, none⟩) ck cj kn tr r26 be 60 _ hK hJ hX28.1 (by omega) hall (fun j hj => by have := hrw31.fit j hj; omega) (by omega) (by omega) (by first | omega | exact bval_u (by omega)) (fun j hj => by have q := move_says (x1 := 32) (x2 := 3) (up := false) (fl' := (Nat.testBit 32 5)) (fun j hj => hrw31.val be (hm1) j hj) hv_Rc hv_Rb (hv_Rc 5 (by omega)) j hj; rw [q]; congr 1)) ?_)
  rintro _ w59 ⟨rfl, hT60⟩
  have hT0 := hT0.t0 hT60
  have hG := hG.tch0 hT60
  have hXa := hXa.tch0 hT60
  have hYa := hYa.tch0 hT60
  have hXb := hXb.tch0 hT60
  have hYb := hYb.tch0 hT60
  have hXc := hXc.tch0 hT60
  have hYc := hYc.tch0 hT60
  have hX15 := hX15.tch0 hT60
  have hX28 := hX28.tch0 hT60
  have hX41 := hX41.tch0 hT60
  have hTK := hTK.t0 hT60
  have hK := hK0.tch0 hTK
  have hJ := hJ0.tch0 hTK
  have hB51 := hB51.tch0 hT60
  refine sg [(60, .bool true), (61, .bool true), (62, .bool true)] (by kernel_rfl) ?_
  refine st (by kernel_rfl) (S_val (v := .agg #[.slice K n36 ck, .slice J n36 cj]) (R_loadA [.slice K n36 ck, .slice J n36 cj] (by kernel_rfl) (by kernel_rfl) (by kernel_rfl) (fun k u hk => by rw [hB51.cell]; exact get_part _ 0 _ k u rfl hk)) ?_)
  refine sg [(64, .slice (some ⟨g38, 0, none⟩) 6 6)] (by kernel_rfl) ?_
  refine st (by kernel_rfl) (S_call (args := [.agg #[.slice K n36 ck, .slice J n36 cj], .slice (some ⟨g38, 0, none⟩) 6 6, .int .i64 6, .int .u64 0]) (by kernel_rfl) (is_ok n36 6 6 K J (some ⟨g38, 0, none⟩) ck cj kn tr r39 be 0 _ hK hJ hX41.1 (by omega) hall (fun j hj => by have := hrw44.fit j hj; omega) (by omega) (by omega) (by first | omega | exact bval_u (by omega)) (fun j hj => by have q := move_says (x1 := 32) (x2 := 32) (up := false) (fl' := false) (fun j hj => hrw44.val be (hm2) j hj) hv_Rc hv_Rc rfl j hj; rw [q]; congr 1)) ?_)
  rintro _ w61 ⟨rfl, hT62⟩
  have hT0 := hT0.t0 hT62
  have hG := hG.tch0 hT62
  have hXa := hXa.tch0 hT62
  have hYa := hYa.tch0 hT62
  have hXb := hXb.tch0 hT62
  have hYb := hYb.tch0 hT62
  have hXc := hXc.tch0 hT62
  have hYc := hYc.tch0 hT62
  have hX15 := hX15.tch0 hT62
  have hX28 := hX28.tch0 hT62
  have hX41 := hX41.tch0 hT62
  have hTK := hTK.t0 hT62
  have hK := hK0.tch0 hTK
  have hJ := hJ0.tch0 hTK
  have hB51 := hB51.tch0 hT62
  refine sg [(66, .bool true), (67, .bool true), (68, .bool true), (69, .pointer (some ⟨p3, 0, none⟩)), (70, .slice Ra 6 rca), (71, .slice Rb 6 rcb)] (by kernel_rfl) ?_
  refine st (by kernel_rfl) (S_call (args := [.pointer (some ⟨p3, 0, none⟩), .int .i64 1, .slice Ra 6 rca, .slice Rb 6 rcb]) (by kernel_rfl) (move_op (some ⟨p3, 0, none⟩) 1 _ _ _ (by omega)) ?_)
  rintro _ w63 ⟨rfl, hT64⟩
  have hT0 := hT0.t0 hT64
  have hG := hG.tch0 hT64
  have hXa := hXa.tch0 hT64
  have hYa := hYa.tch0 hT64
  have hXb := hXb.tch0 hT64
  have hYb := hYb.tch0 hT64
  have hXc := hXc.tch0 hT64
  have hYc := hYc.tch0 hT64
  have hX15 := hX15.tch0 hT64
  have hX28 := hX28.tch0 hT64
  have hX41 := hX41.tch0 hT64
  have hTK := hTK.t0 hT64
  have hK := hK0.tch0 hTK
  have hJ := hJ0.tch0 hTK
  have hB51 := hB51.tch0 hT64
  refine sg [(73, .int .i64 0), (74, .bool true), (75, .bool true), (0, .bool true)] (by kernel_rfl) ?_
  refine op_nil ?_
  refine W_ret ?_
  exact ⟨_, Res_of (v := .bool true) (by kernel_rfl), ⟨rfl, hT0⟩⟩

end Go.Proofs.YtnlecdpiccgdpaaV
