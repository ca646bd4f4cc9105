/- Walks of functions of the program and of the document's texts. The conditions stand with each theorem. -/
import Derived.Test.YtlbadnpgmkobdaaJKkbit56x1
import Derived.Test.YtlbadnpgmkobdaaJKkbit56x1
import Derived.Test.YtlbadnpgmkobdaaProg
import Derived.Test.YtlbadnpgmkobdaaK3
import Derived.Test.YtlbadnpgmkobdaaJKkbit56x7
set_option linter.unusedVariables false
set_option linter.unusedSimpArgs false
namespace Go.Proofs.YtlbadnpgmkobdaaV
open Go Go.RowKit Go.Proofs

theorem rgate_ok (O wd : Nat) (x y : K) (w : World) (hO : O = 6 ∨ O = 7 ∨ O = 8) (hx : KI wd x) (hy : KI wd y) (hw : wd ≤ 64) : Ret Try.prog 103 [.int .i64 ((O : Nat) : Int), .int .i64 ((wd : Nat) : Int), .agg #[.int .u64 ((x.1 : Nat) : Int), .int .u64 ((x.2 : Nat) : Int)], .agg #[.int .u64 ((y.1 : Nat) : Int), .int .u64 ((y.2 : Nat) : Int)]] w fun v w' => v = .agg #[.int .u64 (((kgate O wd x y).1 : Nat) : Int), .int .u64 (((kgate O wd x y).2 : Nat) : Int)] ∧ Tch N0 w w' := by
 rcases hO with rfl | rfl | rfl
 ·
  exact rgate6_ok wd x y w hx hy hw
 ·
  exact rgate7_ok wd x y w hx hy hw
 ·
  exact rgate8_ok wd x y w hx hy hw
theorem rmv_ok (O wd : Nat) (x : K) (by_ : Nat) (w : World) (hO : O = 9 ∨ O = 10) (hx : KI wd x) (hw : wd ≤ 64) (hb : by_ < 18446744073709551616) : Ret Try.prog 106 [.int .i64 ((O : Nat) : Int), .int .i64 ((wd : Nat) : Int), .agg #[.int .u64 ((x.1 : Nat) : Int), .int .u64 ((x.2 : Nat) : Int)], .int .u64 ((by_ : Nat) : Int)] w fun v w' => v = .agg #[.int .u64 (((kmv O wd x by_).1 : Nat) : Int), .int .u64 (((kmv O wd x by_).2 : Nat) : Int)] ∧ Tch N0 w w' := by
 rcases hO with rfl | rfl
 ·
  exact rmv9_ok wd x by_ w hx hw hb
 ·
  exact rmv10_ok wd x by_ w hx hw hb

set_option maxRecDepth 100000 in
set_option maxHeartbeats 1000000 in
theorem rbinary_ok (A : Option Addr) (cp : Nat) (most : Int) (N : List Nd) (B : Option Addr) (k cb : Nat) (l : List K) (nw wd up a b : Nat) (xc xv : Int) (z : K) (lo V : Nat) (by_ O : Nat) (w : World) (hD : Own w 0 32 6 (.slice A N.length cp) N.length (ncs N)) (hH : RdW w 2 k B (kcs l)) (ha : a < k) (hb : b < k) (hwa : widF N ((a : Nat) : Int) = ((wd : Nat) : Int)) (hxa : KI wd (kg l a)) (hxb : KI wd (kg l b)) (hw : wd ≤ 64) (hO : 1 ≤ O ∧ O ≤ 14) (hbN : b < N.length) (hv : nV (nth N b) = ((by_ : Nat) : Int)) (hby : by_ < 18446744073709551616) : Ret Try.prog 86 [.agg #[.slice A N.length cp, .int .i64 most], .agg #[.int .i64 ((O : Nat) : Int), .int .i64 ((nw : Nat) : Int), .int .i64 ((a : Nat) : Int), .int .i64 ((b : Nat) : Int), .int .i64 xc, .int .u64 xv], .slice B k cb] w fun v w' => v = .agg #[.int .u64 (((kone O nw wd up (kg l a) (kg l b) z lo V (if nO (nth N b) = 20 then some by_ else none)).1 : Nat) : Int), .int .u64 (((kone O nw wd up (kg l a) (kg l b) z lo V (if nO (nth N b) = 20 then some by_ else none)).2 : Nat) : Int)] ∧ Tch N0 w w' := by
 have hll : l.length = k := by have := hH.1; rw [kcs_length] at this; omega
 have ua1 := hxa.u1 (show wd ≤ 64 by omega)
 have ua2 := hxa.u2 (show wd ≤ 64 by omega)
 have ub1 := hxb.u1 (show wd ≤ 64 by omega)
 have ub2 := hxb.u2 (show wd ≤ 64 by omega)
 refine enter Try.func86 rfl rfl ?_
 refine zQ ?_
 refine st (by rfl) (S_new (v := .pointer (some ⟨w.heap.size, 0, none⟩)) (ob := .cells #[.slice A N.length cp, .int .i64 most] 27) (by kernel_rfl) fun w1 hT2 hs3 hB4 => ?_)
 replace hB4 : Blk w1 (w.heap.size) 27 [.slice A N.length cp, .int .i64 most] := hB4
 have hT0 := hT2
 have hD := hD.tch0 hT2
 have hHr := hH.tch0 hT0
 have z9 := hT0.size
 have l10 := hB4.lt
 refine st (by rfl) (S_new (v := .pointer (some ⟨w1.heap.size, 0, none⟩)) (ob := .cells #[.int .i64 ((O : Nat) : Int), .int .i64 ((nw : Nat) : Int), .int .i64 ((a : Nat) : Int), .int .i64 ((b : Nat) : Int), .int .i64 xc, .int .u64 xv] 32) (by kernel_rfl) fun w5 hT6 hs7 hB8 => ?_)
 replace hB8 : Blk w5 (w1.heap.size) 32 [.int .i64 ((O : Nat) : Int), .int .i64 ((nw : Nat) : Int), .int .i64 ((a : Nat) : Int), .int .i64 ((b : Nat) : Int), .int .i64 xc, .int .u64 xv] := hB8
 have hT0 := hT0.t0 hT6
 have hD := hD.tch0 hT6
 have hHr := hH.tch0 hT0
 have hB4 := hB4.tch0 hT6
 have z15 := hT0.size
 have l16 := hB4.lt
 have l17 := hB8.lt
 refine st (by rfl) (S_new (v := .pointer (some ⟨w5.heap.size, 0, none⟩)) (ob := .cells #[.int .u64 0, .int .u64 0] 104) (by kernel_rfl) fun w11 hT12 hs13 hB14 => ?_)
 replace hB14 : Blk w11 (w5.heap.size) 104 [.int .u64 0, .int .u64 0] := hB14
 have hT0 := hT0.t0 hT12
 have hD := hD.tch0 hT12
 have hHr := hH.tch0 hT0
 have hB4 := hB4.tch0 hT12
 have hB8 := hB8.tch0 hT12
 refine op_nil ?_
 refine zQ ?_
 refine st (by rfl) (S_val (v := .agg #[.slice A N.length cp, .int .i64 most]) (R_loadA [.slice A N.length cp, .int .i64 most] (by kernel_rfl) (by kernel_rfl) (by kernel_rfl) (fun k u hk => by rw [hB4.cell]; exact get_part _ 0 _ k u rfl hk)) ?_)
 refine zS [(11, .pointer (some ⟨w1.heap.size, 2, none⟩))] ?_
 refine zL (.int .i64 ((a : Nat) : Int)) ((hB8.cell 2).trans rfl) ?_
 refine st (by rfl) (S_call (args := [.agg #[.slice A N.length cp, .int .i64 most], .int .i64 ((a : Nat) : Int)]) (by kernel_rfl) ((by have q := rwid_ok A cp most N ((a : Nat) : Int) _ hD; rw [hwa] at q; exact q)) ?_)
 rintro _ w18 ⟨rfl, hT19⟩
 have hT0 := hT0.t0 hT19
 have hD := hD.tch0 hT19
 have hHr := hH.tch0 hT0
 have hB4 := hB4.tch0 hT19
 have hB8 := hB8.tch0 hT19
 have hB14 := hB14.tch0 hT19
 refine zS [(7, .int .i64 ((wd : Nat) : Int))] ?_
 refine op_nil ?_
 refine W_seq ?_
 have hz1_ := hT0.size
 have hE := Tch.refl N0 w18
 have lt20 := hB4.lt
 have lt21 := hB8.lt
 have lt22 := hB14.lt
 refine W_rcut (C := fun ρ' w' => ∃ (b8 b9 : Nat) (ρ0 : Env), ρ' = updL ρ0 [(0, .agg #[.slice A N.length cp, .int .i64 most]), (1, .agg #[.int .i64 ((O : Nat) : Int), .int .i64 ((nw : Nat) : Int), .int .i64 ((a : Nat) : Int), .int .i64 ((b : Nat) : Int), .int .i64 xc, .int .u64 xv]), (2, .slice B k cb), (3, .pointer (some ⟨w.heap.size, 0, none⟩)), (4, .pointer (some ⟨w1.heap.size, 0, none⟩)), (6, .pointer (some ⟨w5.heap.size, 0, none⟩)), (7, .int .i64 ((wd : Nat) : Int)), (8, .pointer (some ⟨b8, 0, none⟩)), (9, .pointer (some ⟨b9, 0, none⟩))] ∧ Tch N0 w w' ∧ Own w' 0 32 6 (.slice A N.length cp) N.length (ncs N) ∧ RdW w' 2 k B (kcs l) ∧ Blk w' (w.heap.size) 27 [.slice A N.length cp, .int .i64 most] ∧ Blk w' (w1.heap.size) 32 [.int .i64 ((O : Nat) : Int), .int .i64 ((nw : Nat) : Int), .int .i64 ((a : Nat) : Int), .int .i64 ((b : Nat) : Int), .int .i64 xc, .int .u64 xv] ∧ Blk w' (w5.heap.size) 104 [.int .u64 0, .int .u64 0] ∧ Blk w' (b8) 104 [.int .u64 (((kg l a).1 : Nat) : Int), .int .u64 (((kg l a).2 : Nat) : Int)] ∧ Blk w' (b9) 104 [.int .u64 (((kg l b).1 : Nat) : Int), .int .u64 (((kg l b).2 : Nat) : Int)] ∧ w18.heap.size ≤ b8 ∧ w18.heap.size ≤ b9) ?_ ?_
 ·
  refine W_draw (fun w' => RdW w' 2 k B (kcs l) ∧ Blk w' (w1.heap.size) 32 [.int .i64 ((O : Nat) : Int), .int .i64 ((nw : Nat) : Int), .int .i64 ((a : Nat) : Int), .int .i64 ((b : Nat) : Int), .int .i64 xc, .int .u64 xv]) (by kernel_rfl) (by kernel_rfl) (by kernel_rfl) fun w23 hT24 hh25 => ?_
  have hT0 := hT0.t0 hT24
  have hD := hD.tch0 hT24
  have hHr := hH.tch0 hT0
  have hB4 := hB4.tch0 hT24
  have hB8 := hB8.tch0 hT24
  have hB14 := hB14.tch0 hT24
  have hE := hE.t0 hT24
  refine zK [0, 1, 5, 6] #[true, true, false, false, false, true, true, false, false, false, false, false, false, false] [(14, .slice B k cb), (15, .pointer (some ⟨w1.heap.size, 2, none⟩)), (19, .slice B k cb), (20, .pointer (some ⟨w1.heap.size, 3, none⟩))] ⟨hHr, hB8⟩ ?_
  refine zV 2 rfl (.int .i64 ((a : Nat) : Int)) (fun _ ⟨hHr, hB8⟩ => R_load (v := .int .i64 ((a : Nat) : Int)) (by kernel_rfl) (by kernel_rfl) ((hB8.cell 2).trans rfl)) ⟨hHr, hB8⟩ ?_
  refine zV 3 rfl (ptrAt B (a * 2)) (fun _ ⟨hHr, hB8⟩ => R_indexRd (sz := 2) (len := k) (cap := cb) (k := .i64) (i := ((a : Nat) : Int)) (e := 104) a hHr (by kernel_rfl) (by kernel_rfl) (by kernel_rfl) (by kernel_rfl) rfl (by omega)) ⟨hHr, hB8⟩ ?_
  refine zV 4 rfl (.agg #[.int .u64 (((kg l a).1 : Nat) : Int), .int .u64 (((kg l a).2 : Nat) : Int)]) (fun _ ⟨hHr, hB8⟩ => R_loadRdA [.int .u64 (((kg l a).1 : Nat) : Int), .int .u64 (((kg l a).2 : Nat) : Int)] hHr (by omega) (by kernel_rfl) (by kernel_rfl) (by kernel_rfl) (kcs_part l (by omega))) ⟨hHr, hB8⟩ ?_
  refine zV 7 rfl (.int .i64 ((b : Nat) : Int)) (fun _ ⟨hHr, hB8⟩ => R_load (v := .int .i64 ((b : Nat) : Int)) (by kernel_rfl) (by kernel_rfl) ((hB8.cell 3).trans rfl)) ⟨hHr, hB8⟩ ?_
  refine zV 8 rfl (ptrAt B (b * 2)) (fun _ ⟨hHr, hB8⟩ => R_indexRd (sz := 2) (len := k) (cap := cb) (k := .i64) (i := ((b : Nat) : Int)) (e := 104) b hHr (by kernel_rfl) (by kernel_rfl) (by kernel_rfl) (by kernel_rfl) rfl (by omega)) ⟨hHr, hB8⟩ ?_
  refine zV 9 rfl (.agg #[.int .u64 (((kg l b).1 : Nat) : Int), .int .u64 (((kg l b).2 : Nat) : Int)]) (fun _ ⟨hHr, hB8⟩ => R_loadRdA [.int .u64 (((kg l b).1 : Nat) : Int), .int .u64 (((kg l b).2 : Nat) : Int)] hHr (by omega) (by kernel_rfl) (by kernel_rfl) (by kernel_rfl) (kcs_part l (by omega))) ⟨hHr, hB8⟩ ?_
  refine d_two 10 11 (by kernel_rfl) (by rfl) (by rfl) (by kernel_rfl) (by kernel_rfl) ?_ ?_
  ·
   have hEz30 := hE.size
   have z31 := hT0.size
   have l32 := hB4.lt
   have l33 := hB8.lt
   have l34 := hB14.lt
   refine (S_new (v := .pointer (some ⟨w23.heap.size, 0, none⟩)) (ob := .cells #[.int .u64 0, .int .u64 0] 104) (by kernel_rfl) fun w26 hT27 hs28 hB29 => ?_)
   replace hB29 : Blk w26 (w23.heap.size) 104 [.int .u64 0, .int .u64 0] := hB29
   have hT0 := hT0.t0 hT27
   have hD := hD.tch0 hT27
   have hHr := hH.tch0 hT0
   have hB4 := hB4.tch0 hT27
   have hB8 := hB8.tch0 hT27
   have hB14 := hB14.tch0 hT27
   have hE := hE.t0 hT27
   refine ⟨⟨hHr, hB8⟩, ?_⟩
   have hEz39 := hE.size
   have z40 := hT0.size
   have l41 := hB4.lt
   have l42 := hB8.lt
   have l43 := hB14.lt
   have l44 := hB29.lt
   refine zD 11 rfl (S_new (v := .pointer (some ⟨w26.heap.size, 0, none⟩)) (ob := .cells #[.int .u64 0, .int .u64 0] 104) (by kernel_rfl) fun w35 hT36 hs37 hB38 => ?_)
   replace hB38 : Blk w35 (w26.heap.size) 104 [.int .u64 0, .int .u64 0] := hB38
   have hT0 := hT0.t0 hT36
   have hD := hD.tch0 hT36
   have hHr := hH.tch0 hT0
   have hB4 := hB4.tch0 hT36
   have hB8 := hB8.tch0 hT36
   have hB14 := hB14.tch0 hT36
   have hE := hE.t0 hT36
   have hB29 := hB29.tch0 hT36
   refine ⟨⟨hHr, hB8⟩, ?_⟩
   refine zD 12 rfl (S_storeA (b := w23.heap.size) (j := 0) (cs := [.int .u64 (((kg l a).1 : Nat) : Int), .int .u64 (((kg l a).2 : Nat) : Int)]) (by kernel_rfl) (by kernel_rfl) (by kernel_rfl) (by simp [oneV]) hB29 (by simp) fun w45 hT46 hs47 hB29' => ?_)
   have hT0 := (hT0).then hT46 (fun c e => by have : c = w23.heap.size := e; omega)
   have hD := hD.tch hT46 (fun c hc e => hD.blk_ne hB29 (by decide) c hc e)
   have hHr := hH.tch0 hT0
   have hB4 := hB4.tch hT46 (hB4.ne hB29 (by decide))
   have hB8 := hB8.tch hT46 (hB8.ne hB29 (by decide))
   have hB14 := hB14.tch hT46 (fun e => by have : w5.heap.size = w23.heap.size := e; omega)
   have hE := hE.then hT46 (fun c e => by have : c = w23.heap.size := e; omega)
   have hB38 := hB38.tch hT46 (fun e => by have : w26.heap.size = w23.heap.size := e; omega)
   replace hB29 : Blk w45 w23.heap.size 104 [.int .u64 (((kg l a).1 : Nat) : Int), .int .u64 (((kg l a).2 : Nat) : Int)] := hB29'
   refine ⟨⟨hHr, hB8⟩, ?_⟩
   refine zD 13 rfl (S_storeA (b := w26.heap.size) (j := 0) (cs := [.int .u64 (((kg l b).1 : Nat) : Int), .int .u64 (((kg l b).2 : Nat) : Int)]) (by kernel_rfl) (by kernel_rfl) (by kernel_rfl) (by simp [oneV]) hB38 (by simp) fun w48 hT49 hs50 hB38' => ?_)
   have hT0 := (hT0).then hT49 (fun c e => by have : c = w26.heap.size := e; omega)
   have hD := hD.tch hT49 (fun c hc e => hD.blk_ne hB38 (by decide) c hc e)
   have hHr := hH.tch0 hT0
   have hB4 := hB4.tch hT49 (hB4.ne hB38 (by decide))
   have hB8 := hB8.tch hT49 (hB8.ne hB38 (by decide))
   have hB14 := hB14.tch hT49 (fun e => by have : w5.heap.size = w26.heap.size := e; omega)
   have hE := hE.then hT49 (fun c e => by have : c = w26.heap.size := e; omega)
   have hB29 := hB29.tch hT49 (fun e => by have : w23.heap.size = w26.heap.size := e; omega)
   replace hB38 : Blk w48 w26.heap.size 104 [.int .u64 (((kg l b).1 : Nat) : Int), .int .u64 (((kg l b).2 : Nat) : Int)] := hB38'
   refine ⟨⟨hHr, hB8⟩, ?_⟩
   refine d_done (by kernel_rfl) ?_
   exact ⟨w23.heap.size, w26.heap.size, _, updL_self (by kernel_rfl), hT0, hD, hHr, hB4, hB8, hB14, hB29, hB38, by omega, by omega⟩
  ·
   have hEz55 := hE.size
   have z56 := hT0.size
   have l57 := hB4.lt
   have l58 := hB8.lt
   have l59 := hB14.lt
   refine (S_new (v := .pointer (some ⟨w23.heap.size, 0, none⟩)) (ob := .cells #[.int .u64 0, .int .u64 0] 104) (by kernel_rfl) fun w51 hT52 hs53 hB54 => ?_)
   replace hB54 : Blk w51 (w23.heap.size) 104 [.int .u64 0, .int .u64 0] := hB54
   have hT0 := hT0.t0 hT52
   have hD := hD.tch0 hT52
   have hHr := hH.tch0 hT0
   have hB4 := hB4.tch0 hT52
   have hB8 := hB8.tch0 hT52
   have hB14 := hB14.tch0 hT52
   have hE := hE.t0 hT52
   refine ⟨⟨hHr, hB8⟩, ?_⟩
   have hEz64 := hE.size
   have z65 := hT0.size
   have l66 := hB4.lt
   have l67 := hB8.lt
   have l68 := hB14.lt
   have l69 := hB54.lt
   refine zD 10 rfl (S_new (v := .pointer (some ⟨w51.heap.size, 0, none⟩)) (ob := .cells #[.int .u64 0, .int .u64 0] 104) (by kernel_rfl) fun w60 hT61 hs62 hB63 => ?_)
   replace hB63 : Blk w60 (w51.heap.size) 104 [.int .u64 0, .int .u64 0] := hB63
   have hT0 := hT0.t0 hT61
   have hD := hD.tch0 hT61
   have hHr := hH.tch0 hT0
   have hB4 := hB4.tch0 hT61
   have hB8 := hB8.tch0 hT61
   have hB14 := hB14.tch0 hT61
   have hE := hE.t0 hT61
   have hB54 := hB54.tch0 hT61
   refine ⟨⟨hHr, hB8⟩, ?_⟩
   refine zD 12 rfl (S_storeA (b := w51.heap.size) (j := 0) (cs := [.int .u64 (((kg l a).1 : Nat) : Int), .int .u64 (((kg l a).2 : Nat) : Int)]) (by kernel_rfl) (by kernel_rfl) (by kernel_rfl) (by simp [oneV]) hB63 (by simp) fun w70 hT71 hs72 hB63' => ?_)
   have hT0 := (hT0).then hT71 (fun c e => by have : c = w51.heap.size := e; omega)
   have hD := hD.tch hT71 (fun c hc e => hD.blk_ne hB63 (by decide) c hc e)
   have hHr := hH.tch0 hT0
   have hB4 := hB4.tch hT71 (hB4.ne hB63 (by decide))
   have hB8 := hB8.tch hT71 (hB8.ne hB63 (by decide))
   have hB14 := hB14.tch hT71 (fun e => by have : w5.heap.size = w51.heap.size := e; omega)
   have hE := hE.then hT71 (fun c e => by have : c = w51.heap.size := e; omega)
   have hB54 := hB54.tch hT71 (fun e => by have : w23.heap.size = w51.heap.size := e; omega)
   replace hB63 : Blk w70 w51.heap.size 104 [.int .u64 (((kg l a).1 : Nat) : Int), .int .u64 (((kg l a).2 : Nat) : Int)] := hB63'
   refine ⟨⟨hHr, hB8⟩, ?_⟩
   refine zD 13 rfl (S_storeA (b := w23.heap.size) (j := 0) (cs := [.int .u64 (((kg l b).1 : Nat) : Int), .int .u64 (((kg l b).2 : Nat) : Int)]) (by kernel_rfl) (by kernel_rfl) (by kernel_rfl) (by simp [oneV]) hB54 (by simp) fun w73 hT74 hs75 hB54' => ?_)
   have hT0 := (hT0).then hT74 (fun c e => by have : c = w23.heap.size := e; omega)
   have hD := hD.tch hT74 (fun c hc e => hD.blk_ne hB54 (by decide) c hc e)
   have hHr := hH.tch0 hT0
   have hB4 := hB4.tch hT74 (hB4.ne hB54 (by decide))
   have hB8 := hB8.tch hT74 (hB8.ne hB54 (by decide))
   have hB14 := hB14.tch hT74 (fun e => by have : w5.heap.size = w23.heap.size := e; omega)
   have hE := hE.then hT74 (fun c e => by have : c = w23.heap.size := e; omega)
   have hB63 := hB63.tch hT74 (fun e => by have : w51.heap.size = w23.heap.size := e; omega)
   replace hB54 : Blk w73 w23.heap.size 104 [.int .u64 (((kg l b).1 : Nat) : Int), .int .u64 (((kg l b).2 : Nat) : Int)] := hB54'
   refine ⟨⟨hHr, hB8⟩, ?_⟩
   refine d_done (by kernel_rfl) ?_
   exact ⟨w51.heap.size, w23.heap.size, _, updL_self (by kernel_rfl), hT0, hD, hHr, hB4, hB8, hB14, hB63, hB54, by omega, by omega⟩
 ·
  rintro _ w76 ⟨b8, b9, ρ, rfl, hT0, hD, hHr, hB4, hB8, hB14, hX8, hX9, hge_hX8, hge_hX9⟩
  have lt78 := hX8.lt
  have lt79 := hX9.lt
  refine W_seq ?_
  refine zQ ?_
  refine zS [(24, .pointer (some ⟨w1.heap.size, 0, none⟩))] ?_
  refine zL (.int .i64 ((O : Nat) : Int)) ((hB8.cell 0).trans rfl) ?_
  refine op_nil ?_
  refine W_block ?_
  refine W_seq ?_
  refine zQ ?_
  refine zS [(27, .bool (((O : Nat) : Int) == 6)), (26, .bool (((O : Nat) : Int) == 6))] ?_
  refine zO (((O : Nat) : Int) == 6) (fun hc80 => ?_) (fun hc80 => ?_)
  ·
   replace hc80 : ((O : Nat) : Int) = 6 := (eq_of_beq hc80)
   refine W_skip ?_
   refine zW (((O : Nat) : Int) == 6) (fun hc81 => ?_) (fun hc81 => ?_)
   ·
    replace hc81 : ((O : Nat) : Int) = 6 := (eq_of_beq hc81)
    refine zQ ?_
    refine zS [(30, .pointer (some ⟨w1.heap.size, 0, none⟩))] ?_
    refine zL (.int .i64 ((O : Nat) : Int)) ((hB8.cell 0).trans rfl) ?_
    refine zS [(32, .int .i64 ((wd : Nat) : Int))] ?_
    refine st (by rfl) (S_val (v := .agg #[.int .u64 (((kg l a).1 : Nat) : Int), .int .u64 (((kg l a).2 : Nat) : Int)]) (R_loadA [.int .u64 (((kg l a).1 : Nat) : Int), .int .u64 (((kg l a).2 : Nat) : Int)] (by kernel_rfl) (by kernel_rfl) (by kernel_rfl) (fun k u hk => by rw [hX8.cell]; exact get_part _ 0 _ k u rfl hk)) ?_)
    refine st (by rfl) (S_val (v := .agg #[.int .u64 (((kg l b).1 : Nat) : Int), .int .u64 (((kg l b).2 : Nat) : Int)]) (R_loadA [.int .u64 (((kg l b).1 : Nat) : Int), .int .u64 (((kg l b).2 : Nat) : Int)] (by kernel_rfl) (by kernel_rfl) (by kernel_rfl) (fun k u hk => by rw [hX9.cell]; exact get_part _ 0 _ k u rfl hk)) ?_)
    refine zC (rgate_ok O wd (kg l a) (kg l b) _ (by omega) hxa hxb hw) ?_
    rintro _ w82 ⟨rfl, hT83⟩
    have hT0 := hT0.t0 hT83
    have hD := hD.tch0 hT83
    have hHr := hH.tch0 hT0
    have hB4 := hB4.tch0 hT83
    have hB8 := hB8.tch0 hT83
    have hB14 := hB14.tch0 hT83
    have hX8 := hX8.tch0 hT83
    have hX9 := hX9.tch0 hT83
    refine st (by rfl) (S_storeA (b := w5.heap.size) (j := 0) (cs := [.int .u64 (((kgate O wd (kg l a) (kg l b)).1 : Nat) : Int), .int .u64 (((kgate O wd (kg l a) (kg l b)).2 : Nat) : Int)]) (by kernel_rfl) (by kernel_rfl) (by kernel_rfl) (by simp [oneV]) hB14 (by simp) fun w84 hT85 hs86 hB14' => ?_)
    have hT0 := (hT0).then hT85 (fun c e => by have : c = w5.heap.size := e; omega)
    have hD := hD.tch hT85 (fun c hc e => hD.blk_ne hB14 (by decide) c hc e)
    have hHr := hH.tch0 hT0
    have hB4 := hB4.tch hT85 (hB4.ne hB14 (by decide))
    have hB8 := hB8.tch hT85 (hB8.ne hB14 (by decide))
    have hX8 := hX8.tch hT85 (fun e => by have : b8 = w5.heap.size := e; omega)
    have hX9 := hX9.tch hT85 (fun e => by have : b9 = w5.heap.size := e; omega)
    replace hB14 : Blk w84 w5.heap.size 104 [.int .u64 (((kgate O wd (kg l a) (kg l b)).1 : Nat) : Int), .int .u64 (((kgate O wd (kg l a) (kg l b)).2 : Nat) : Int)] := hB14'
    refine op_nil ?_
    refine W_ret ?_
    exact ⟨_, Res_cell (b := w5.heap.size) (cs := [.int .u64 (((kgate O wd (kg l a) (kg l b)).1 : Nat) : Int), .int .u64 (((kgate O wd (kg l a) (kg l b)).2 : Nat) : Int)]) (by rfl) (by kernel_rfl) (by kernel_rfl) hB14 (by kernel_rfl) (by kernel_rfl), ⟨by unfold kone; rw [if_neg (show ¬ O = 20 by omega), if_neg (show ¬ O = 15 by omega), if_pos (show O = 6 ∨ O = 7 ∨ O = 8 by omega)], hT0⟩⟩
   ·
    replace hc81 : ((O : Nat) : Int) ≠ 6 := (ne_of_beq_false hc81)
    exfalso; omega
  ·
   replace hc80 : ((O : Nat) : Int) ≠ 6 := (ne_of_beq_false hc80)
   refine zQ ?_
   refine zS [(28, .bool (((O : Nat) : Int) == 7)), (26, .bool (((O : Nat) : Int) == 7))] ?_
   refine zO (((O : Nat) : Int) == 7) (fun hc87 => ?_) (fun hc87 => ?_)
   ·
    replace hc87 : ((O : Nat) : Int) = 7 := (eq_of_beq hc87)
    refine W_skip ?_
    refine zW (((O : Nat) : Int) == 7) (fun hc88 => ?_) (fun hc88 => ?_)
    ·
     replace hc88 : ((O : Nat) : Int) = 7 := (eq_of_beq hc88)
     refine zQ ?_
     refine zS [(30, .pointer (some ⟨w1.heap.size, 0, none⟩))] ?_
     refine zL (.int .i64 ((O : Nat) : Int)) ((hB8.cell 0).trans rfl) ?_
     refine zS [(32, .int .i64 ((wd : Nat) : Int))] ?_
     refine st (by rfl) (S_val (v := .agg #[.int .u64 (((kg l a).1 : Nat) : Int), .int .u64 (((kg l a).2 : Nat) : Int)]) (R_loadA [.int .u64 (((kg l a).1 : Nat) : Int), .int .u64 (((kg l a).2 : Nat) : Int)] (by kernel_rfl) (by kernel_rfl) (by kernel_rfl) (fun k u hk => by rw [hX8.cell]; exact get_part _ 0 _ k u rfl hk)) ?_)
     refine st (by rfl) (S_val (v := .agg #[.int .u64 (((kg l b).1 : Nat) : Int), .int .u64 (((kg l b).2 : Nat) : Int)]) (R_loadA [.int .u64 (((kg l b).1 : Nat) : Int), .int .u64 (((kg l b).2 : Nat) : Int)] (by kernel_rfl) (by kernel_rfl) (by kernel_rfl) (fun k u hk => by rw [hX9.cell]; exact get_part _ 0 _ k u rfl hk)) ?_)
     refine zC (rgate_ok O wd (kg l a) (kg l b) _ (by omega) hxa hxb hw) ?_
     rintro _ w89 ⟨rfl, hT90⟩
     have hT0 := hT0.t0 hT90
     have hD := hD.tch0 hT90
     have hHr := hH.tch0 hT0
     have hB4 := hB4.tch0 hT90
     have hB8 := hB8.tch0 hT90
     have hB14 := hB14.tch0 hT90
     have hX8 := hX8.tch0 hT90
     have hX9 := hX9.tch0 hT90
     refine st (by rfl) (S_storeA (b := w5.heap.size) (j := 0) (cs := [.int .u64 (((kgate O wd (kg l a) (kg l b)).1 : Nat) : Int), .int .u64 (((kgate O wd (kg l a) (kg l b)).2 : Nat) : Int)]) (by kernel_rfl) (by kernel_rfl) (by kernel_rfl) (by simp [oneV]) hB14 (by simp) fun w91 hT92 hs93 hB14' => ?_)
     have hT0 := (hT0).then hT92 (fun c e => by have : c = w5.heap.size := e; omega)
     have hD := hD.tch hT92 (fun c hc e => hD.blk_ne hB14 (by decide) c hc e)
     have hHr := hH.tch0 hT0
     have hB4 := hB4.tch hT92 (hB4.ne hB14 (by decide))
     have hB8 := hB8.tch hT92 (hB8.ne hB14 (by decide))
     have hX8 := hX8.tch hT92 (fun e => by have : b8 = w5.heap.size := e; omega)
     have hX9 := hX9.tch hT92 (fun e => by have : b9 = w5.heap.size := e; omega)
     replace hB14 : Blk w91 w5.heap.size 104 [.int .u64 (((kgate O wd (kg l a) (kg l b)).1 : Nat) : Int), .int .u64 (((kgate O wd (kg l a) (kg l b)).2 : Nat) : Int)] := hB14'
     refine op_nil ?_
     refine W_ret ?_
     exact ⟨_, Res_cell (b := w5.heap.size) (cs := [.int .u64 (((kgate O wd (kg l a) (kg l b)).1 : Nat) : Int), .int .u64 (((kgate O wd (kg l a) (kg l b)).2 : Nat) : Int)]) (by rfl) (by kernel_rfl) (by kernel_rfl) hB14 (by kernel_rfl) (by kernel_rfl), ⟨by unfold kone; rw [if_neg (show ¬ O = 20 by omega), if_neg (show ¬ O = 15 by omega), if_pos (show O = 6 ∨ O = 7 ∨ O = 8 by omega)], hT0⟩⟩
    ·
     replace hc88 : ((O : Nat) : Int) ≠ 7 := (ne_of_beq_false hc88)
     exfalso; omega
   ·
    replace hc87 : ((O : Nat) : Int) ≠ 7 := (ne_of_beq_false hc87)
    refine zR ?_
    refine zS [(29, .bool (((O : Nat) : Int) == 8)), (26, .bool (((O : Nat) : Int) == 8))] ?_
    refine zO (((O : Nat) : Int) == 8) (fun hc94 => ?_) (fun hc94 => ?_)
    ·
     replace hc94 : ((O : Nat) : Int) = 8 := (eq_of_beq hc94)
     refine zQ ?_
     refine zS [(30, .pointer (some ⟨w1.heap.size, 0, none⟩))] ?_
     refine zL (.int .i64 ((O : Nat) : Int)) ((hB8.cell 0).trans rfl) ?_
     refine zS [(32, .int .i64 ((wd : Nat) : Int))] ?_
     refine st (by rfl) (S_val (v := .agg #[.int .u64 (((kg l a).1 : Nat) : Int), .int .u64 (((kg l a).2 : Nat) : Int)]) (R_loadA [.int .u64 (((kg l a).1 : Nat) : Int), .int .u64 (((kg l a).2 : Nat) : Int)] (by kernel_rfl) (by kernel_rfl) (by kernel_rfl) (fun k u hk => by rw [hX8.cell]; exact get_part _ 0 _ k u rfl hk)) ?_)
     refine st (by rfl) (S_val (v := .agg #[.int .u64 (((kg l b).1 : Nat) : Int), .int .u64 (((kg l b).2 : Nat) : Int)]) (R_loadA [.int .u64 (((kg l b).1 : Nat) : Int), .int .u64 (((kg l b).2 : Nat) : Int)] (by kernel_rfl) (by kernel_rfl) (by kernel_rfl) (fun k u hk => by rw [hX9.cell]; exact get_part _ 0 _ k u rfl hk)) ?_)
     refine zC (rgate_ok O wd (kg l a) (kg l b) _ (by omega) hxa hxb hw) ?_
     rintro _ w95 ⟨rfl, hT96⟩
     have hT0 := hT0.t0 hT96
     have hD := hD.tch0 hT96
     have hHr := hH.tch0 hT0
     have hB4 := hB4.tch0 hT96
     have hB8 := hB8.tch0 hT96
     have hB14 := hB14.tch0 hT96
     have hX8 := hX8.tch0 hT96
     have hX9 := hX9.tch0 hT96
     refine st (by rfl) (S_storeA (b := w5.heap.size) (j := 0) (cs := [.int .u64 (((kgate O wd (kg l a) (kg l b)).1 : Nat) : Int), .int .u64 (((kgate O wd (kg l a) (kg l b)).2 : Nat) : Int)]) (by kernel_rfl) (by kernel_rfl) (by kernel_rfl) (by simp [oneV]) hB14 (by simp) fun w97 hT98 hs99 hB14' => ?_)
     have hT0 := (hT0).then hT98 (fun c e => by have : c = w5.heap.size := e; omega)
     have hD := hD.tch hT98 (fun c hc e => hD.blk_ne hB14 (by decide) c hc e)
     have hHr := hH.tch0 hT0
     have hB4 := hB4.tch hT98 (hB4.ne hB14 (by decide))
     have hB8 := hB8.tch hT98 (hB8.ne hB14 (by decide))
     have hX8 := hX8.tch hT98 (fun e => by have : b8 = w5.heap.size := e; omega)
     have hX9 := hX9.tch hT98 (fun e => by have : b9 = w5.heap.size := e; omega)
     replace hB14 : Blk w97 w5.heap.size 104 [.int .u64 (((kgate O wd (kg l a) (kg l b)).1 : Nat) : Int), .int .u64 (((kgate O wd (kg l a) (kg l b)).2 : Nat) : Int)] := hB14'
     refine op_nil ?_
     refine W_ret ?_
     exact ⟨_, Res_cell (b := w5.heap.size) (cs := [.int .u64 (((kgate O wd (kg l a) (kg l b)).1 : Nat) : Int), .int .u64 (((kgate O wd (kg l a) (kg l b)).2 : Nat) : Int)]) (by rfl) (by kernel_rfl) (by kernel_rfl) hB14 (by kernel_rfl) (by kernel_rfl), ⟨by unfold kone; rw [if_neg (show ¬ O = 20 by omega), if_neg (show ¬ O = 15 by omega), if_pos (show O = 6 ∨ O = 7 ∨ O = 8 by omega)], hT0⟩⟩
    ·
     replace hc94 : ((O : Nat) : Int) ≠ 8 := (ne_of_beq_false hc94)
     refine zQ ?_
     refine zS [(37, .bool (((O : Nat) : Int) == 1)), (36, .bool (((O : Nat) : Int) == 1))] ?_
     refine zO (((O : Nat) : Int) == 1) (fun hc100 => ?_) (fun hc100 => ?_)
     ·
      replace hc100 : ((O : Nat) : Int) = 1 := (eq_of_beq hc100)
      refine zQ ?_
      refine zS [(38, .int .i64 ((wd : Nat) : Int))] ?_
      refine st (by rfl) (S_val (v := .agg #[.int .u64 (((kg l a).1 : Nat) : Int), .int .u64 (((kg l a).2 : Nat) : Int)]) (R_loadA [.int .u64 (((kg l a).1 : Nat) : Int), .int .u64 (((kg l a).2 : Nat) : Int)] (by kernel_rfl) (by kernel_rfl) (by kernel_rfl) (fun k u hk => by rw [hX8.cell]; exact get_part _ 0 _ k u rfl hk)) ?_)
      refine st (by rfl) (S_val (v := .agg #[.int .u64 (((kg l b).1 : Nat) : Int), .int .u64 (((kg l b).2 : Nat) : Int)]) (R_loadA [.int .u64 (((kg l b).1 : Nat) : Int), .int .u64 (((kg l b).2 : Nat) : Int)] (by kernel_rfl) (by kernel_rfl) (by kernel_rfl) (fun k u hk => by rw [hX9.cell]; exact get_part _ 0 _ k u rfl hk)) ?_)
      refine zC (rsum_ok wd (kg l a) (kg l b) _ hxa hxb hw) ?_
      rintro _ w101 ⟨rfl, hT102⟩
      have hT0 := hT0.t0 hT102
      have hD := hD.tch0 hT102
      have hHr := hH.tch0 hT0
      have hB4 := hB4.tch0 hT102
      have hB8 := hB8.tch0 hT102
      have hB14 := hB14.tch0 hT102
      have hX8 := hX8.tch0 hT102
      have hX9 := hX9.tch0 hT102
      refine st (by rfl) (S_storeA (b := w5.heap.size) (j := 0) (cs := [.int .u64 (((ksum wd (kg l a) (kg l b)).1 : Nat) : Int), .int .u64 (((ksum wd (kg l a) (kg l b)).2 : Nat) : Int)]) (by kernel_rfl) (by kernel_rfl) (by kernel_rfl) (by simp [oneV]) hB14 (by simp) fun w103 hT104 hs105 hB14' => ?_)
      have hT0 := (hT0).then hT104 (fun c e => by have : c = w5.heap.size := e; omega)
      have hD := hD.tch hT104 (fun c hc e => hD.blk_ne hB14 (by decide) c hc e)
      have hHr := hH.tch0 hT0
      have hB4 := hB4.tch hT104 (hB4.ne hB14 (by decide))
      have hB8 := hB8.tch hT104 (hB8.ne hB14 (by decide))
      have hX8 := hX8.tch hT104 (fun e => by have : b8 = w5.heap.size := e; omega)
      have hX9 := hX9.tch hT104 (fun e => by have : b9 = w5.heap.size := e; omega)
      replace hB14 : Blk w103 w5.heap.size 104 [.int .u64 (((ksum wd (kg l a) (kg l b)).1 : Nat) : Int), .int .u64 (((ksum wd (kg l a) (kg l b)).2 : Nat) : Int)] := hB14'
      refine op_nil ?_
      refine W_ret ?_
      exact ⟨_, Res_cell (b := w5.heap.size) (cs := [.int .u64 (((ksum wd (kg l a) (kg l b)).1 : Nat) : Int), .int .u64 (((ksum wd (kg l a) (kg l b)).2 : Nat) : Int)]) (by rfl) (by kernel_rfl) (by kernel_rfl) hB14 (by kernel_rfl) (by kernel_rfl), ⟨by unfold kone; rw [if_neg (show ¬ O = 20 by omega), if_neg (show ¬ O = 15 by omega), if_neg (show ¬ (O = 6 ∨ O = 7 ∨ O = 8) by omega), if_pos (show O = 1 by omega)], hT0⟩⟩
     ·
      replace hc100 : ((O : Nat) : Int) ≠ 1 := (ne_of_beq_false hc100)
      refine zQ ?_
      refine zS [(43, .bool (((O : Nat) : Int) == 12)), (42, .bool (((O : Nat) : Int) == 12))] ?_
      refine zO (((O : Nat) : Int) == 12) (fun hc106 => ?_) (fun hc106 => ?_)
      ·
       replace hc106 : ((O : Nat) : Int) = 12 := (eq_of_beq hc106)
       refine zQ ?_
       refine zS [(44, .int .i64 ((wd : Nat) : Int))] ?_
       refine st (by rfl) (S_val (v := .agg #[.int .u64 (((kg l a).1 : Nat) : Int), .int .u64 (((kg l a).2 : Nat) : Int)]) (R_loadA [.int .u64 (((kg l a).1 : Nat) : Int), .int .u64 (((kg l a).2 : Nat) : Int)] (by kernel_rfl) (by kernel_rfl) (by kernel_rfl) (fun k u hk => by rw [hX8.cell]; exact get_part _ 0 _ k u rfl hk)) ?_)
       refine st (by rfl) (S_val (v := .agg #[.int .u64 (((kg l b).1 : Nat) : Int), .int .u64 (((kg l b).2 : Nat) : Int)]) (R_loadA [.int .u64 (((kg l b).1 : Nat) : Int), .int .u64 (((kg l b).2 : Nat) : Int)] (by kernel_rfl) (by kernel_rfl) (by kernel_rfl) (fun k u hk => by rw [hX9.cell]; exact get_part _ 0 _ k u rfl hk)) ?_)
       refine zC (requal_ok wd (kg l a) (kg l b) _ hxa hxb hw) ?_
       rintro _ w107 ⟨rfl, hT108⟩
       have hT0 := hT0.t0 hT108
       have hD := hD.tch0 hT108
       have hHr := hH.tch0 hT0
       have hB4 := hB4.tch0 hT108
       have hB8 := hB8.tch0 hT108
       have hB14 := hB14.tch0 hT108
       have hX8 := hX8.tch0 hT108
       have hX9 := hX9.tch0 hT108
       refine st (by rfl) (S_storeA (b := w5.heap.size) (j := 0) (cs := [.int .u64 (((keq wd (kg l a) (kg l b)).1 : Nat) : Int), .int .u64 (((keq wd (kg l a) (kg l b)).2 : Nat) : Int)]) (by kernel_rfl) (by kernel_rfl) (by kernel_rfl) (by simp [oneV]) hB14 (by simp) fun w109 hT110 hs111 hB14' => ?_)
       have hT0 := (hT0).then hT110 (fun c e => by have : c = w5.heap.size := e; omega)
       have hD := hD.tch hT110 (fun c hc e => hD.blk_ne hB14 (by decide) c hc e)
       have hHr := hH.tch0 hT0
       have hB4 := hB4.tch hT110 (hB4.ne hB14 (by decide))
       have hB8 := hB8.tch hT110 (hB8.ne hB14 (by decide))
       have hX8 := hX8.tch hT110 (fun e => by have : b8 = w5.heap.size := e; omega)
       have hX9 := hX9.tch hT110 (fun e => by have : b9 = w5.heap.size := e; omega)
       replace hB14 : Blk w109 w5.heap.size 104 [.int .u64 (((keq wd (kg l a) (kg l b)).1 : Nat) : Int), .int .u64 (((keq wd (kg l a) (kg l b)).2 : Nat) : Int)] := hB14'
       refine op_nil ?_
       refine W_ret ?_
       exact ⟨_, Res_cell (b := w5.heap.size) (cs := [.int .u64 (((keq wd (kg l a) (kg l b)).1 : Nat) : Int), .int .u64 (((keq wd (kg l a) (kg l b)).2 : Nat) : Int)]) (by rfl) (by kernel_rfl) (by kernel_rfl) hB14 (by kernel_rfl) (by kernel_rfl), ⟨by unfold kone; rw [if_neg (show ¬ O = 20 by omega), if_neg (show ¬ O = 15 by omega), if_neg (show ¬ (O = 6 ∨ O = 7 ∨ O = 8) by omega), if_neg (show ¬ O = 1 by omega), if_pos (show O = 12 by omega)], hT0⟩⟩
      ·
       replace hc106 : ((O : Nat) : Int) ≠ 12 := (ne_of_beq_false hc106)
       refine W_seq ?_
       refine zQ ?_
       refine zS [(49, .bool (((O : Nat) : Int) == 9)), (48, .bool (((O : Nat) : Int) == 9))] ?_
       refine zO (((O : Nat) : Int) == 9) (fun hc112 => ?_) (fun hc112 => ?_)
       ·
        replace hc112 : ((O : Nat) : Int) = 9 := (eq_of_beq hc112)
        refine W_skip ?_
        refine zW (((O : Nat) : Int) == 9) (fun hc113 => ?_) (fun hc113 => ?_)
        ·
         replace hc113 : ((O : Nat) : Int) = 9 := (eq_of_beq hc113)
         refine zQ ?_
         refine zS [(51, .pointer (some ⟨w.heap.size, 0, none⟩))] ?_
         refine zL (.slice A N.length cp) ((hB4.cell 0).trans rfl) ?_
         refine zS [(53, .pointer (some ⟨w1.heap.size, 3, none⟩))] ?_
         refine zL (.int .i64 ((b : Nat) : Int)) ((hB8.cell 3).trans rfl) ?_
         refine stv (v := ptrAt A (b * 6)) (by rfl) (R_indexRd (sz := 6) (len := N.length) (cap := cp) (k := .i64) (i := ((b : Nat) : Int)) (e := 32) b hD.rdS (by kernel_rfl) (by kernel_rfl) (by kernel_rfl) (by kernel_rfl) rfl (by omega)) ?_
         refine stv (v := ptrAt A (b * 6)) (by rfl) (R_fieldRd (m := 0) hD.rdS (by omega) (by kernel_rfl) (fun _ _ => by rfl)) ?_
         refine stv (v := .int .i64 (nO (nth N b))) (by rfl) (R_loadRd (v := .int .i64 (nO (nth N b))) hD.rdS (by omega) (by kernel_rfl) (by kernel_rfl) ((ncs_part N (by omega) 0 _ rfl))) ?_
         refine zS [(58, .bool ((nO (nth N b)) == 20))] ?_
         refine zO ((nO (nth N b)) == 20) (fun hc114 => ?_) (fun hc114 => ?_)
         ·
          replace hc114 : nO (nth N b) = 20 := (eq_of_beq hc114)
          refine W_seq ?_
          refine W_draw (fun w' => Own w' 0 32 6 (.slice A N.length cp) N.length (ncs N) ∧ Blk w' (w.heap.size) 27 [.slice A N.length cp, .int .i64 most] ∧ Blk w' (w1.heap.size) 32 [.int .i64 ((O : Nat) : Int), .int .i64 ((nw : Nat) : Int), .int .i64 ((a : Nat) : Int), .int .i64 ((b : Nat) : Int), .int .i64 xc, .int .u64 xv] ∧ Blk w' (b8) 104 [.int .u64 (((kg l a).1 : Nat) : Int), .int .u64 (((kg l a).2 : Nat) : Int)]) (by kernel_rfl) (by kernel_rfl) (by kernel_rfl) fun w115 hT116 hh117 => ?_
          have hT0 := hT0.t0 hT116
          have hD := hD.tch0 hT116
          have hHr := hH.tch0 hT0
          have hB4 := hB4.tch0 hT116
          have hB8 := hB8.tch0 hT116
          have hB14 := hB14.tch0 hT116
          have hX8 := hX8.tch0 hT116
          have hX9 := hX9.tch0 hT116
          refine zK [0, 2, 4, 6] #[true, false, true, false, true, false, true, false, false, false, false, false, false] [(59, .pointer (some ⟨w1.heap.size, 0, none⟩)), (61, .int .i64 ((wd : Nat) : Int)), (63, .pointer (some ⟨w.heap.size, 0, none⟩)), (65, .pointer (some ⟨w1.heap.size, 3, none⟩))] ⟨hD, hB4, hB8, hX8⟩ ?_
          refine zV 1 rfl (.int .i64 ((O : Nat) : Int)) (fun _ ⟨hD, hB4, hB8, hX8⟩ => R_load (v := .int .i64 ((O : Nat) : Int)) (by kernel_rfl) (by kernel_rfl) ((hB8.cell 0).trans rfl)) ⟨hD, hB4, hB8, hX8⟩ ?_
          refine zV 3 rfl (.agg #[.int .u64 (((kg l a).1 : Nat) : Int), .int .u64 (((kg l a).2 : Nat) : Int)]) (fun _ ⟨hD, hB4, hB8, hX8⟩ => R_loadA [.int .u64 (((kg l a).1 : Nat) : Int), .int .u64 (((kg l a).2 : Nat) : Int)] (by kernel_rfl) (by kernel_rfl) (by kernel_rfl) (fun k u hk => by rw [hX8.cell]; exact get_part _ 0 _ k u rfl hk)) ⟨hD, hB4, hB8, hX8⟩ ?_
          refine zV 5 rfl (.slice A N.length cp) (fun _ ⟨hD, hB4, hB8, hX8⟩ => R_load (v := .slice A N.length cp) (by kernel_rfl) (by kernel_rfl) ((hB4.cell 0).trans rfl)) ⟨hD, hB4, hB8, hX8⟩ ?_
          refine zV 7 rfl (.int .i64 ((b : Nat) : Int)) (fun _ ⟨hD, hB4, hB8, hX8⟩ => R_load (v := .int .i64 ((b : Nat) : Int)) (by kernel_rfl) (by kernel_rfl) ((hB8.cell 3).trans rfl)) ⟨hD, hB4, hB8, hX8⟩ ?_
          refine zV 8 rfl (ptrAt A (b * 6)) (fun _ ⟨hD, hB4, hB8, hX8⟩ => R_indexRd (sz := 6) (len := N.length) (cap := cp) (k := .i64) (i := ((b : Nat) : Int)) (e := 32) b hD.rdS (by kernel_rfl) (by kernel_rfl) (by kernel_rfl) (by kernel_rfl) rfl (by omega)) ⟨hD, hB4, hB8, hX8⟩ ?_
          refine zV 9 rfl (ptrAt A (b * 6 + 5)) (fun _ ⟨hD, hB4, hB8, hX8⟩ => R_fieldRd (m := 5) hD.rdS (by omega) (by kernel_rfl) (fun _ _ => by rfl)) ⟨hD, hB4, hB8, hX8⟩ ?_
          refine zV 10 rfl (.int .u64 ((by_ : Nat) : Int)) (fun _ ⟨hD, hB4, hB8, hX8⟩ => R_loadRd (v := .int .u64 ((by_ : Nat) : Int)) hD.rdS (by omega) (by kernel_rfl) (by kernel_rfl) ((ncs_part N (by omega) 5 _ (show _ = some (Value.int .u64 ((by_ : Nat) : Int)) by rw [← hv]; rfl)))) ⟨hD, hB4, hB8, hX8⟩ ?_
          refine zD 11 rfl (S_call (args := [.int .i64 ((O : Nat) : Int), .int .i64 ((wd : Nat) : Int), .agg #[.int .u64 (((kg l a).1 : Nat) : Int), .int .u64 (((kg l a).2 : Nat) : Int)], .int .u64 ((by_ : Nat) : Int)]) (by kernel_rfl) (rmv_ok O wd (kg l a) by_ _ (by omega) hxa hw hby) ?_)
          rintro _ w118 ⟨rfl, hT119⟩
          have hT0 := hT0.t0 hT119
          have hD := hD.tch0 hT119
          have hHr := hH.tch0 hT0
          have hB4 := hB4.tch0 hT119
          have hB8 := hB8.tch0 hT119
          have hB14 := hB14.tch0 hT119
          have hX8 := hX8.tch0 hT119
          have hX9 := hX9.tch0 hT119
          refine ⟨⟨hD, hB4, hB8, hX8⟩, ?_⟩
          refine zD 12 rfl (S_storeA (b := w5.heap.size) (j := 0) (cs := [.int .u64 (((kmv O wd (kg l a) by_).1 : Nat) : Int), .int .u64 (((kmv O wd (kg l a) by_).2 : Nat) : Int)]) (by kernel_rfl) (by kernel_rfl) (by kernel_rfl) (by simp [oneV]) hB14 (by simp) fun w120 hT121 hs122 hB14' => ?_)
          have hT0 := (hT0).then hT121 (fun c e => by have : c = w5.heap.size := e; omega)
          have hD := hD.tch hT121 (fun c hc e => hD.blk_ne hB14 (by decide) c hc e)
          have hHr := hH.tch0 hT0
          have hB4 := hB4.tch hT121 (hB4.ne hB14 (by decide))
          have hB8 := hB8.tch hT121 (hB8.ne hB14 (by decide))
          have hX8 := hX8.tch hT121 (fun e => by have : b8 = w5.heap.size := e; omega)
          have hX9 := hX9.tch hT121 (fun e => by have : b9 = w5.heap.size := e; omega)
          replace hB14 : Blk w120 w5.heap.size 104 [.int .u64 (((kmv O wd (kg l a) by_).1 : Nat) : Int), .int .u64 (((kmv O wd (kg l a) by_).2 : Nat) : Int)] := hB14'
          refine ⟨⟨hD, hB4, hB8, hX8⟩, ?_⟩
          refine d_done (by kernel_rfl) ?_
          refine W_ret ?_
          exact ⟨_, Res_cell (b := w5.heap.size) (cs := [.int .u64 (((kmv O wd (kg l a) by_).1 : Nat) : Int), .int .u64 (((kmv O wd (kg l a) by_).2 : Nat) : Int)]) (by rfl) (by kernel_rfl) (by kernel_rfl) hB14 (by kernel_rfl) (by kernel_rfl), ⟨by unfold kone; rw [if_neg (show ¬ O = 20 by omega), if_neg (show ¬ O = 15 by omega), if_neg (show ¬ (O = 6 ∨ O = 7 ∨ O = 8) by omega), if_neg (show ¬ O = 1 by omega), if_neg (show ¬ O = 12 by omega), if_pos (show O = 9 ∨ O = 10 by omega), if_pos (by assumption)], hT0⟩⟩
         ·
          replace hc114 : nO (nth N b) ≠ 20 := (ne_of_beq_false hc114)
          refine W_skip ?_
          refine zQ ?_
          refine zS [(71, .agg #[.int .u64 0, .int .u64 0])] ?_
          refine st (by rfl) (S_storeA (b := w5.heap.size) (j := 0) (cs := [.int .u64 0, .int .u64 0]) (by kernel_rfl) (by kernel_rfl) (by kernel_rfl) (by simp [oneV]) hB14 (by simp) fun w123 hT124 hs125 hB14' => ?_)
          have hT0 := (hT0).then hT124 (fun c e => by have : c = w5.heap.size := e; omega)
          have hD := hD.tch hT124 (fun c hc e => hD.blk_ne hB14 (by decide) c hc e)
          have hHr := hH.tch0 hT0
          have hB4 := hB4.tch hT124 (hB4.ne hB14 (by decide))
          have hB8 := hB8.tch hT124 (hB8.ne hB14 (by decide))
          have hX8 := hX8.tch hT124 (fun e => by have : b8 = w5.heap.size := e; omega)
          have hX9 := hX9.tch hT124 (fun e => by have : b9 = w5.heap.size := e; omega)
          replace hB14 : Blk w123 w5.heap.size 104 [.int .u64 0, .int .u64 0] := hB14'
          refine op_nil ?_
          refine W_ret ?_
          exact ⟨_, Res_cell (b := w5.heap.size) (cs := [.int .u64 0, .int .u64 0]) (by rfl) (by kernel_rfl) (by kernel_rfl) hB14 (by kernel_rfl) (by kernel_rfl), ⟨by unfold kone; rw [if_neg (show ¬ O = 20 by omega), if_neg (show ¬ O = 15 by omega), if_neg (show ¬ (O = 6 ∨ O = 7 ∨ O = 8) by omega), if_neg (show ¬ O = 1 by omega), if_neg (show ¬ O = 12 by omega), if_pos (show O = 9 ∨ O = 10 by omega), if_neg (by assumption)]; exact rfl, hT0⟩⟩
        ·
         replace hc113 : ((O : Nat) : Int) ≠ 9 := (ne_of_beq_false hc113)
         exfalso; omega
       ·
        replace hc112 : ((O : Nat) : Int) ≠ 9 := (ne_of_beq_false hc112)
        refine zR ?_
        refine zS [(50, .bool (((O : Nat) : Int) == 10)), (48, .bool (((O : Nat) : Int) == 10))] ?_
        refine zO (((O : Nat) : Int) == 10) (fun hc126 => ?_) (fun hc126 => ?_)
        ·
         replace hc126 : ((O : Nat) : Int) = 10 := (eq_of_beq hc126)
         refine zQ ?_
         refine zS [(51, .pointer (some ⟨w.heap.size, 0, none⟩))] ?_
         refine zL (.slice A N.length cp) ((hB4.cell 0).trans rfl) ?_
         refine zS [(53, .pointer (some ⟨w1.heap.size, 3, none⟩))] ?_
         refine zL (.int .i64 ((b : Nat) : Int)) ((hB8.cell 3).trans rfl) ?_
         refine stv (v := ptrAt A (b * 6)) (by rfl) (R_indexRd (sz := 6) (len := N.length) (cap := cp) (k := .i64) (i := ((b : Nat) : Int)) (e := 32) b hD.rdS (by kernel_rfl) (by kernel_rfl) (by kernel_rfl) (by kernel_rfl) rfl (by omega)) ?_
         refine stv (v := ptrAt A (b * 6)) (by rfl) (R_fieldRd (m := 0) hD.rdS (by omega) (by kernel_rfl) (fun _ _ => by rfl)) ?_
         refine stv (v := .int .i64 (nO (nth N b))) (by rfl) (R_loadRd (v := .int .i64 (nO (nth N b))) hD.rdS (by omega) (by kernel_rfl) (by kernel_rfl) ((ncs_part N (by omega) 0 _ rfl))) ?_
         refine zS [(58, .bool ((nO (nth N b)) == 20))] ?_
         refine zO ((nO (nth N b)) == 20) (fun hc127 => ?_) (fun hc127 => ?_)
         ·
          replace hc127 : nO (nth N b) = 20 := (eq_of_beq hc127)
          refine W_seq ?_
          refine W_draw (fun w' => Own w' 0 32 6 (.slice A N.length cp) N.length (ncs N) ∧ Blk w' (w.heap.size) 27 [.slice A N.length cp, .int .i64 most] ∧ Blk w' (w1.heap.size) 32 [.int .i64 ((O : Nat) : Int), .int .i64 ((nw : Nat) : Int), .int .i64 ((a : Nat) : Int), .int .i64 ((b : Nat) : Int), .int .i64 xc, .int .u64 xv] ∧ Blk w' (b8) 104 [.int .u64 (((kg l a).1 : Nat) : Int), .int .u64 (((kg l a).2 : Nat) : Int)]) (by kernel_rfl) (by kernel_rfl) (by kernel_rfl) fun w128 hT129 hh130 => ?_
          have hT0 := hT0.t0 hT129
          have hD := hD.tch0 hT129
          have hHr := hH.tch0 hT0
          have hB4 := hB4.tch0 hT129
          have hB8 := hB8.tch0 hT129
          have hB14 := hB14.tch0 hT129
          have hX8 := hX8.tch0 hT129
          have hX9 := hX9.tch0 hT129
          refine zK [0, 2, 4, 6] #[true, false, true, false, true, false, true, false, false, false, false, false, false] [(59, .pointer (some ⟨w1.heap.size, 0, none⟩)), (61, .int .i64 ((wd : Nat) : Int)), (63, .pointer (some ⟨w.heap.size, 0, none⟩)), (65, .pointer (some ⟨w1.heap.size, 3, none⟩))] ⟨hD, hB4, hB8, hX8⟩ ?_
          refine zV 1 rfl (.int .i64 ((O : Nat) : Int)) (fun _ ⟨hD, hB4, hB8, hX8⟩ => R_load (v := .int .i64 ((O : Nat) : Int)) (by kernel_rfl) (by kernel_rfl) ((hB8.cell 0).trans rfl)) ⟨hD, hB4, hB8, hX8⟩ ?_
          refine zV 3 rfl (.agg #[.int .u64 (((kg l a).1 : Nat) : Int), .int .u64 (((kg l a).2 : Nat) : Int)]) (fun _ ⟨hD, hB4, hB8, hX8⟩ => R_loadA [.int .u64 (((kg l a).1 : Nat) : Int), .int .u64 (((kg l a).2 : Nat) : Int)] (by kernel_rfl) (by kernel_rfl) (by kernel_rfl) (fun k u hk => by rw [hX8.cell]; exact get_part _ 0 _ k u rfl hk)) ⟨hD, hB4, hB8, hX8⟩ ?_
          refine zV 5 rfl (.slice A N.length cp) (fun _ ⟨hD, hB4, hB8, hX8⟩ => R_load (v := .slice A N.length cp) (by kernel_rfl) (by kernel_rfl) ((hB4.cell 0).trans rfl)) ⟨hD, hB4, hB8, hX8⟩ ?_
          refine zV 7 rfl (.int .i64 ((b : Nat) : Int)) (fun _ ⟨hD, hB4, hB8, hX8⟩ => R_load (v := .int .i64 ((b : Nat) : Int)) (by kernel_rfl) (by kernel_rfl) ((hB8.cell 3).trans rfl)) ⟨hD, hB4, hB8, hX8⟩ ?_
          refine zV 8 rfl (ptrAt A (b * 6)) (fun _ ⟨hD, hB4, hB8, hX8⟩ => R_indexRd (sz := 6) (len := N.length) (cap := cp) (k := .i64) (i := ((b : Nat) : Int)) (e := 32) b hD.rdS (by kernel_rfl) (by kernel_rfl) (by kernel_rfl) (by kernel_rfl) rfl (by omega)) ⟨hD, hB4, hB8, hX8⟩ ?_
          refine zV 9 rfl (ptrAt A (b * 6 + 5)) (fun _ ⟨hD, hB4, hB8, hX8⟩ => R_fieldRd (m := 5) hD.rdS (by omega) (by kernel_rfl) (fun _ _ => by rfl)) ⟨hD, hB4, hB8, hX8⟩ ?_
          refine zV 10 rfl (.int .u64 ((by_ : Nat) : Int)) (fun _ ⟨hD, hB4, hB8, hX8⟩ => R_loadRd (v := .int .u64 ((by_ : Nat) : Int)) hD.rdS (by omega) (by kernel_rfl) (by kernel_rfl) ((ncs_part N (by omega) 5 _ (show _ = some (Value.int .u64 ((by_ : Nat) : Int)) by rw [← hv]; rfl)))) ⟨hD, hB4, hB8, hX8⟩ ?_
          refine zD 11 rfl (S_call (args := [.int .i64 ((O : Nat) : Int), .int .i64 ((wd : Nat) : Int), .agg #[.int .u64 (((kg l a).1 : Nat) : Int), .int .u64 (((kg l a).2 : Nat) : Int)], .int .u64 ((by_ : Nat) : Int)]) (by kernel_rfl) (rmv_ok O wd (kg l a) by_ _ (by omega) hxa hw hby) ?_)
          rintro _ w131 ⟨rfl, hT132⟩
          have hT0 := hT0.t0 hT132
          have hD := hD.tch0 hT132
          have hHr := hH.tch0 hT0
          have hB4 := hB4.tch0 hT132
          have hB8 := hB8.tch0 hT132
          have hB14 := hB14.tch0 hT132
          have hX8 := hX8.tch0 hT132
          have hX9 := hX9.tch0 hT132
          refine ⟨⟨hD, hB4, hB8, hX8⟩, ?_⟩
          refine zD 12 rfl (S_storeA (b := w5.heap.size) (j := 0) (cs := [.int .u64 (((kmv O wd (kg l a) by_).1 : Nat) : Int), .int .u64 (((kmv O wd (kg l a) by_).2 : Nat) : Int)]) (by kernel_rfl) (by kernel_rfl) (by kernel_rfl) (by simp [oneV]) hB14 (by simp) fun w133 hT134 hs135 hB14' => ?_)
          have hT0 := (hT0).then hT134 (fun c e => by have : c = w5.heap.size := e; omega)
          have hD := hD.tch hT134 (fun c hc e => hD.blk_ne hB14 (by decide) c hc e)
          have hHr := hH.tch0 hT0
          have hB4 := hB4.tch hT134 (hB4.ne hB14 (by decide))
          have hB8 := hB8.tch hT134 (hB8.ne hB14 (by decide))
          have hX8 := hX8.tch hT134 (fun e => by have : b8 = w5.heap.size := e; omega)
          have hX9 := hX9.tch hT134 (fun e => by have : b9 = w5.heap.size := e; omega)
          replace hB14 : Blk w133 w5.heap.size 104 [.int .u64 (((kmv O wd (kg l a) by_).1 : Nat) : Int), .int .u64 (((kmv O wd (kg l a) by_).2 : Nat) : Int)] := hB14'
          refine ⟨⟨hD, hB4, hB8, hX8⟩, ?_⟩
          refine d_done (by kernel_rfl) ?_
          refine W_ret ?_
          exact ⟨_, Res_cell (b := w5.heap.size) (cs := [.int .u64 (((kmv O wd (kg l a) by_).1 : Nat) : Int), .int .u64 (((kmv O wd (kg l a) by_).2 : Nat) : Int)]) (by rfl) (by kernel_rfl) (by kernel_rfl) hB14 (by kernel_rfl) (by kernel_rfl), ⟨by unfold kone; rw [if_neg (show ¬ O = 20 by omega), if_neg (show ¬ O = 15 by omega), if_neg (show ¬ (O = 6 ∨ O = 7 ∨ O = 8) by omega), if_neg (show ¬ O = 1 by omega), if_neg (show ¬ O = 12 by omega), if_pos (show O = 9 ∨ O = 10 by omega), if_pos (by assumption)], hT0⟩⟩
         ·
          replace hc127 : nO (nth N b) ≠ 20 := (ne_of_beq_false hc127)
          refine W_skip ?_
          refine zQ ?_
          refine zS [(71, .agg #[.int .u64 0, .int .u64 0])] ?_
          refine st (by rfl) (S_storeA (b := w5.heap.size) (j := 0) (cs := [.int .u64 0, .int .u64 0]) (by kernel_rfl) (by kernel_rfl) (by kernel_rfl) (by simp [oneV]) hB14 (by simp) fun w136 hT137 hs138 hB14' => ?_)
          have hT0 := (hT0).then hT137 (fun c e => by have : c = w5.heap.size := e; omega)
          have hD := hD.tch hT137 (fun c hc e => hD.blk_ne hB14 (by decide) c hc e)
          have hHr := hH.tch0 hT0
          have hB4 := hB4.tch hT137 (hB4.ne hB14 (by decide))
          have hB8 := hB8.tch hT137 (hB8.ne hB14 (by decide))
          have hX8 := hX8.tch hT137 (fun e => by have : b8 = w5.heap.size := e; omega)
          have hX9 := hX9.tch hT137 (fun e => by have : b9 = w5.heap.size := e; omega)
          replace hB14 : Blk w136 w5.heap.size 104 [.int .u64 0, .int .u64 0] := hB14'
          refine op_nil ?_
          refine W_ret ?_
          exact ⟨_, Res_cell (b := w5.heap.size) (cs := [.int .u64 0, .int .u64 0]) (by rfl) (by kernel_rfl) (by kernel_rfl) hB14 (by kernel_rfl) (by kernel_rfl), ⟨by unfold kone; rw [if_neg (show ¬ O = 20 by omega), if_neg (show ¬ O = 15 by omega), if_neg (show ¬ (O = 6 ∨ O = 7 ∨ O = 8) by omega), if_neg (show ¬ O = 1 by omega), if_neg (show ¬ O = 12 by omega), if_pos (show O = 9 ∨ O = 10 by omega), if_neg (by assumption)]; exact rfl, hT0⟩⟩
        ·
         replace hc126 : ((O : Nat) : Int) ≠ 10 := (ne_of_beq_false hc126)
         refine W_skip ?_
         refine zQ ?_
         refine zS [(71, .agg #[.int .u64 0, .int .u64 0])] ?_
         refine st (by rfl) (S_storeA (b := w5.heap.size) (j := 0) (cs := [.int .u64 0, .int .u64 0]) (by kernel_rfl) (by kernel_rfl) (by kernel_rfl) (by simp [oneV]) hB14 (by simp) fun w139 hT140 hs141 hB14' => ?_)
         have hT0 := (hT0).then hT140 (fun c e => by have : c = w5.heap.size := e; omega)
         have hD := hD.tch hT140 (fun c hc e => hD.blk_ne hB14 (by decide) c hc e)
         have hHr := hH.tch0 hT0
         have hB4 := hB4.tch hT140 (hB4.ne hB14 (by decide))
         have hB8 := hB8.tch hT140 (hB8.ne hB14 (by decide))
         have hX8 := hX8.tch hT140 (fun e => by have : b8 = w5.heap.size := e; omega)
         have hX9 := hX9.tch hT140 (fun e => by have : b9 = w5.heap.size := e; omega)
         replace hB14 : Blk w139 w5.heap.size 104 [.int .u64 0, .int .u64 0] := hB14'
         refine op_nil ?_
         refine W_ret ?_
         exact ⟨_, Res_cell (b := w5.heap.size) (cs := [.int .u64 0, .int .u64 0]) (by rfl) (by kernel_rfl) (by kernel_rfl) hB14 (by kernel_rfl) (by kernel_rfl), ⟨by unfold kone; rw [if_neg (show ¬ O = 20 by omega), if_neg (show ¬ O = 15 by omega), if_neg (show ¬ (O = 6 ∨ O = 7 ∨ O = 8) by omega), if_neg (show ¬ O = 1 by omega), if_neg (show ¬ O = 12 by omega), if_neg (show ¬ (O = 9 ∨ O = 10) by omega), if_neg (show ¬ O = 22 by omega), if_neg (show ¬ O = 23 by omega), if_neg (show ¬ O = 24 by omega), if_neg (show ¬ O = 25 by omega), if_neg (show ¬ O = 26 by omega)]; rfl, hT0⟩⟩

end Go.Proofs.YtlbadnpgmkobdaaV
