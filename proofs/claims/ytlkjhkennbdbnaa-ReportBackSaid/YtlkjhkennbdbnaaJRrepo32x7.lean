/- Texts laid together: Walks of functions of the program and of the document's texts. The conditions stand with each theorem. Walks of functions of the program and of the document's texts. The conditions stand with each theorem. An argument that is a report, opened. Walks of functions of the program and of the document's texts. The conditions stand with each theorem. -/
import Derived.Test.YtlkjhkennbdbnaaJRrepo32x1
import Derived.Test.YtlkjhkennbdbnaaProg
import Derived.Test.YtlkjhkennbdbnaaJRrepo32x6
import Derived.WideShapes
import Derived.ProofKit
import Derived.OpenShut
import Derived.Deep.Slices
import Derived.Deep.Strs
import Derived.Lib.SmallJoins
set_option linter.unusedVariables false
set_option linter.unusedSimpArgs false
namespace Go.Proofs.YtlkjhkennbdbnaaV
open Go Go.RowKit Go.Proofs

def u9 (a b : Nat) : T6 := ⟨some ⟨a, 0, none⟩, 1, [7], 1, 0, some ⟨b, 0, none⟩, 1, [9], 1, 0⟩
def c9 : Co := ([7], 1, 0, [9], 1, 0)
theorem wf9 (a b : Nat) : wfT (u9 a b) := by
 refine ⟨?_, ?_, ?_, ?_, ?_⟩
 ·
  show b64 1; unfold b64; decide
 ·
  show b64 0; unfold b64; decide
 ·
  show b64 1; unfold b64; decide
 ·
  show b64 0; unfold b64; decide
 ·
  intro x hx
  have hx : x ∈ [9] := hx
  rw [List.mem_singleton] at hx; rw [hx]; decide
theorem ts9 {w : World} {a b r : Nat} (h1 : Blk w a 5 [.int .u8 7]) (h2 : Blk w b 44 [.int .u64 9]) (h3 : Blk w r 43 [.slice (some ⟨a, 0, none⟩) 1 1, .int .i64 1, .int .i64 0, .slice (some ⟨b, 0, none⟩) 1 1, .int .i64 1, .int .i64 0]) : TsW w (some ⟨r, 0, none⟩) [u9 a b] := by
 refine ⟨h3.rd 6 1 rfl (by decide), fun t ht => ?_⟩
 rw [List.mem_singleton] at ht
 subst ht
 exact ⟨h1.rd 1 1 rfl (by decide), h2.rd 1 1 rfl (by decide), wf9 a b⟩
theorem tb9 {a b r m : Nat} (ha : a < m) (hb : b < m) (hr : r < m) : TsB (some ⟨r, 0, none⟩) [u9 a b] 0 m := by
 refine ⟨fun _ k o s e => ?_, fun t ht k hk => ?_⟩
 ·
  injection e with e; injection e with e; omega
 ·
  rw [List.mem_singleton] at ht
  subst ht
  rcases hk with ⟨_, o, s, e⟩ | ⟨_, o, s, e⟩
  ·
   have e : some (⟨a, 0, none⟩ : Addr) = some ⟨k, o, s⟩ := e
   injection e with e; injection e with e; omega
  ·
   have e : some (⟨b, 0, none⟩ : Addr) = some ⟨k, o, s⟩ := e
   injection e with e; injection e with e; omega
theorem aw1 (w : World) : Ret Try.prog 8 [.agg #[.int .i64 1, .int .i64 0, .slice none 0 0, .int .i64 1, .int .i64 0]] w fun v w' => v = .tuple #[.string (bsT [1, 0, 0, 0, 0, 1, 0, 0, 0, 0, 0, 0]), .int .i64 0] ∧ Tch N0 w w' := by
 have q := put_ok 1 0 1 0 none 0 [] w (TsW.nil_ _ _)
 rw [show putT 1 0 1 0 (cores []) = [1, 0, 0, 0, 0, 1, 0, 0, 0, 0, 0, 0] by decide, show putE 1 0 1 0 (cores []) = 0 by decide] at q
 exact q
theorem aw2 (a b r : Nat) (w : World) (h : TsW w (some ⟨r, 0, none⟩) [u9 a b]) : Ret Try.prog 8 [.agg #[.int .i64 2, .int .i64 0, .slice (some ⟨r, 0, none⟩) 1 1, .int .i64 0, .int .i64 0]] w fun v w' => v = .tuple #[.string (bsT [2, 0, 0, 0, 0, 0, 0, 0, 0, 0, 0, 1, 1, 7, 0, 1, 0, 0, 0, 0, 1, 1, 0, 0, 0, 0, 0, 0, 0, 9]), .int .i64 0] ∧ Tch N0 w w' := by
 have q := put_ok 2 0 0 0 (some ⟨r, 0, none⟩) 1 [u9 a b] w h
 have e : cores [u9 a b] = [c9] := rfl
 rw [e, show putT 2 0 0 0 [c9] = [2, 0, 0, 0, 0, 0, 0, 0, 0, 0, 0, 1, 1, 7, 0, 1, 0, 0, 0, 0, 1, 1, 0, 0, 0, 0, 0, 0, 0, 9] by decide, show putE 2 0 0 0 [c9] = 0 by decide] at q
 exact q
theorem aw3 (w : World) : Ret Try.prog 8 [.agg #[.int .i64 4, .int .i64 0, .slice none 0 0, .int .i64 0, .int .i64 0]] w fun v w' => v = .tuple #[.string (bsT []), .int .i64 4] ∧ Tch N0 w w' := by
 have q := put_ok 4 0 0 0 none 0 [] w (TsW.nil_ _ _)
 rw [show putT 4 0 0 0 (cores []) = [] by decide, show putE 4 0 0 0 (cores []) = 4 by decide] at q
 exact q
theorem cores_nil {l : List T6} (h : cores l = []) : l = [] := List.eq_nil_of_length_eq_zero (by rw [← cores_length, h]; rfl)
theorem rd_err (s : Tx) (K : Int) (w : World) (h : code s = K) (hK : K ≠ 0) : Ret Try.prog 14 [.string (bsT s)] w fun v w' => ∃ A c, v = .tuple #[.agg #[.int .i64 0, .int .i64 0, .slice A 0 c, .int .i64 0, .int .i64 0], .int .i64 K] ∧ Tch N0 w w' := by
 refine (read_ok s w).mono ?_
 rintro v w' ⟨A, c, l, rfl, _, hc, _, hT⟩
 have hr := rep_f (s := s) (by rw [h]; exact hK)
 rw [hr.2.2.2.2] at hc
 have := cores_nil hc
 subst this
 exact ⟨A, c, by rw [h, hr.1, hr.2.1, hr.2.2.1, hr.2.2.2.1]; rfl, hT⟩
theorem rd9 (w : World) : Ret Try.prog 14 [.string (bsT [2, 0, 0, 0, 0, 0, 0, 0, 0, 0, 0, 1, 1, 7, 0, 1, 0, 0, 0, 0, 1, 1, 0, 0, 0, 0, 0, 0, 0, 9])] w fun v w' => ∃ A c l, v = .tuple #[.agg #[.int .i64 2, .int .i64 0, .slice A l.length c, .int .i64 0, .int .i64 0], .int .i64 0] ∧ TsW w' A l ∧ cores l = [c9] ∧ TsB A l w.heap.size w'.heap.size ∧ Tch N0 w w' := by
 have he := enc_rep (V := 2) (E := 0) (S := 0) (U := 0) (l := [c9]) (by decide) (fun c hc x hx => by
  rw [List.mem_singleton] at hc; subst hc
  have hx : x ∈ [9] := hx
  rw [List.mem_singleton] at hx; rw [hx]; decide)
 have es : encR 2 0 0 0 [c9] = [2, 0, 0, 0, 0, 0, 0, 0, 0, 0, 0, 1, 1, 7, 0, 1, 0, 0, 0, 0, 1, 1, 0, 0, 0, 0, 0, 0, 0, 9] := by decide
 rw [es] at he
 obtain ⟨e0, e1, e2, e3, e4, e5⟩ := he
 refine (read_ok _ w).mono ?_
 rintro v w' ⟨A, c, l, rfl, h1, h2, h3, h4⟩
 exact ⟨A, c, l, by rw [e0, e1, e2, e3, e4], h1, by rw [h2, e5], h3, h4⟩
theorem sm9 (A B : Option Addr) (ca cb a b : Nat) (l : List T6) (w : World) (hl : TsW w A l) (hc : cores l = [c9]) (h9 : TsW w B [u9 a b]) : Ret Try.prog 12 [.agg #[.int .i64 2, .int .i64 0, .slice A l.length ca, .int .i64 0, .int .i64 0], .agg #[.int .i64 2, .int .i64 0, .slice B 1 cb, .int .i64 0, .int .i64 0]] w fun v w' => v = .bool true ∧ Tch N0 w w' := by
 have q := same_ok 2 0 0 0 2 0 0 0 A B ca cb l [u9 a b] w hl h9
 rw [hc, show sameR 2 0 0 0 [c9] 2 0 0 0 (cores [u9 a b]) = true by rfl] at q
 exact q
theorem sm0 (A : Option Addr) (ca : Nat) (l : List T6) (w : World) (hl : TsW w A l) : Ret Try.prog 12 [.agg #[.int .i64 2, .int .i64 0, .slice A l.length ca, .int .i64 0, .int .i64 0], .agg #[.int .i64 0, .int .i64 0, .slice none 0 0, .int .i64 0, .int .i64 0]] w fun v w' => v = .bool false ∧ Tch N0 w w' := by
 have q := same_ok 2 0 0 0 0 0 0 0 A none ca 0 l [] w hl (TsW.nil_ _ _)
 rw [show sameR 2 0 0 0 (cores l) 0 0 0 0 (cores []) = false by unfold sameR; rw [decide_eq_false (by decide), Bool.false_and]] at q
 exact q
theorem sg0 : sgn 0 = [48] := by unfold sgn; rw [if_neg (by decide)]; exact dgs_lo (by decide)
theorem sg1 : sgn 1 = [49] := by unfold sgn; rw [if_neg (by decide)]; exact dgs_lo (by decide)
theorem sg18 : sgn 18 = [49, 56] := by
 unfold sgn; rw [if_neg (by decide)]
 show dgs 18 = _
 rw [dgs_hi (by decide), show 18 / 10 = 1 by rfl, dgs_lo (by decide)]; rfl
theorem tx1 (a b r : Nat) (w : World) (h : TsW w (some ⟨r, 0, none⟩) [u9 a b]) : Ret Try.prog 10 [.agg #[.int .i64 2, .int .i64 0, .slice (some ⟨r, 0, none⟩) 1 1, .int .i64 0, .int .i64 0]] w fun v w' => v = .string (bsT [118, 105, 111, 108, 97, 116, 105, 111, 110, 32, 48, 32, 48, 10, 112, 111, 105, 110, 116, 32, 49, 32, 109, 97, 115, 107, 32, 48, 32, 107, 105, 110, 100, 32, 49, 32, 99, 111, 100, 101, 32, 48, 32, 105, 110, 112, 117, 116, 32, 55, 32, 105, 109, 97, 103, 101, 32, 57, 10]) ∧ Tch N0 w w' := by
 have q := text_ok 2 0 0 0 (some ⟨r, 0, none⟩) 1 [u9 a b] w h ⟨show 1 ≤ 60 by decide, fun t ht => by rw [List.mem_singleton] at ht; subst ht; exact ⟨show 1 ≤ 300 by decide, show 1 ≤ 300 by decide⟩⟩ (by unfold b64; decide)
 have e : textR 2 0 0 0 (cores [u9 a b]) = [118, 105, 111, 108, 97, 116, 105, 111, 110, 32, 48, 32, 48, 10, 112, 111, 105, 110, 116, 32, 49, 32, 109, 97, 115, 107, 32, 48, 32, 107, 105, 110, 100, 32, 49, 32, 99, 111, 100, 101, 32, 48, 32, 105, 110, 112, 117, 116, 32, 55, 32, 105, 109, 97, 103, 101, 32, 57, 10] := by
  show textR 2 0 0 0 [([7], 1, 0, [9], 1, 0)] = _
  unfold textR hdX lineT lineB lineA
  simp only [List.flatMap_cons, List.flatMap_nil, sg0, sg1, List.length_cons, List.length_nil, List.take]
  rw [if_neg (by decide)]
  have d7 : dgs (7 : UInt8).toNat = [55] := dgs_lo (by decide)
  have d9 : dgs 9 = [57] := dgs_lo (by decide)
  simp only [d7, d9, List.take, Nat.zero_add, List.flatMap_cons, List.flatMap_nil]
  rfl
 rw [e] at q
 exact q
theorem tx2 (w : World) : Ret Try.prog 10 [.agg #[.int .i64 0, .int .i64 18, .slice none 0 0, .int .i64 0, .int .i64 0]] w fun v w' => v = .string (bsT [114, 101, 106, 101, 99, 116, 101, 100, 32, 49, 56, 32, 48, 32, 48, 10]) ∧ Tch N0 w w' := by
 have q := text_ok 0 18 0 0 none 0 [] w (TsW.nil_ _ _) ⟨by decide, fun t ht => by cases ht⟩ (by unfold b64; decide)
 have e : textR 0 18 0 0 (cores []) = [114, 101, 106, 101, 99, 116, 101, 100, 32, 49, 56, 32, 48, 32, 48, 10] := by
  unfold textR hdX
  rw [if_pos rfl, sg18, sg0]; rfl
 rw [e] at q
 exact q

set_option maxRecDepth 100000 in
set_option maxHeartbeats 2000000 in
theorem awake_ok (w : World) : Ret Try.prog 7 [] w fun v w' => v = .bool true ∧ Tch N0 w w' := by
 refine enter Try.func7 rfl rfl ?_
 refine zQ ?_
 refine zS [(0, .bool false)] ?_
 refine op_nil ?_
 refine zQ ?_
 refine zS [(17, .agg #[.int .i64 1, .int .i64 0, .slice none 0 0, .int .i64 1, .int .i64 0])] ?_
 refine zC (aw1 _) ?_
 rintro _ w1 ⟨rfl, hT2⟩
 have hT0 := hT2
 refine zS [(16, .tuple #[.string (bsT ([1, 0, 0, 0, 0, 1, 0, 0, 0, 0, 0, 0])), .int .i64 0]), (19, .string (bsT ([1, 0, 0, 0, 0, 1, 0, 0, 0, 0, 0, 0]))), (20, .int .i64 0), (1, .string (bsT ([1, 0, 0, 0, 0, 1, 0, 0, 0, 0, 0, 0]))), (2, .int .i64 0)] ?_
 refine op_nil ?_
 refine W_seq ?_
 refine zF [(0, .bool false), (1, .string (bsT ([1, 0, 0, 0, 0, 1, 0, 0, 0, 0, 0, 0]))), (2, .int .i64 0)] fun ρ => ?_
 refine zR ?_
 have hz7 := hT0.size
 refine st (by rfl) (S_new (v := .slice (some ⟨w1.heap.size, 0, none⟩) 1 1) (ob := .cells #[.int .u8 7] 5) (by kernel_rfl) fun w3 hT4 hs5 hB6 => ?_)
 replace hB6 : Blk w3 (w1.heap.size) 5 [.int .u8 7] := hB6
 have hT0 := hT0.t0 hT4
 have hz12 := hT0.size
 have lt13 := hB6.lt
 refine st (by rfl) (S_new (v := .slice (some ⟨w3.heap.size, 0, none⟩) 1 1) (ob := .cells #[.int .u64 9] 44) (by kernel_rfl) fun w8 hT9 hs10 hB11 => ?_)
 replace hB11 : Blk w8 (w3.heap.size) 44 [.int .u64 9] := hB11
 have hT0 := hT0.t0 hT9
 have hB6 := hB6.tch0 hT9
 refine zS [(23, .agg #[.slice (some ⟨w1.heap.size, 0, none⟩) 1 1, .int .i64 1, .int .i64 0, .slice (some ⟨w3.heap.size, 0, none⟩) 1 1, .int .i64 1, .int .i64 0])] ?_
 have hz18 := hT0.size
 have lt19 := hB6.lt
 have lt20 := hB11.lt
 refine st (by rfl) (S_new (v := .slice (some ⟨w8.heap.size, 0, none⟩) 1 1) (ob := .cells #[.slice (some ⟨w1.heap.size, 0, none⟩) 1 1, .int .i64 1, .int .i64 0, .slice (some ⟨w3.heap.size, 0, none⟩) 1 1, .int .i64 1, .int .i64 0] 43) (by kernel_rfl) fun w14 hT15 hs16 hB17 => ?_)
 replace hB17 : Blk w14 (w8.heap.size) 43 [.slice (some ⟨w1.heap.size, 0, none⟩) 1 1, .int .i64 1, .int .i64 0, .slice (some ⟨w3.heap.size, 0, none⟩) 1 1, .int .i64 1, .int .i64 0] := hB17
 have hT0 := hT0.t0 hT15
 have hB6 := hB6.tch0 hT15
 have hB11 := hB11.tch0 hT15
 refine zS [(25, .agg #[.int .i64 2, .int .i64 0, .slice (some ⟨w8.heap.size, 0, none⟩) 1 1, .int .i64 0, .int .i64 0])] ?_
 have hz25 := hT0.size
 have lt26 := hB6.lt
 have lt27 := hB11.lt
 have lt28 := hB17.lt
 refine st (by rfl) (S_new (v := .pointer (some ⟨w14.heap.size, 0, none⟩)) (ob := .cells #[.int .i64 0, .int .i64 0, .slice none 0 0, .int .i64 0, .int .i64 0] 25) (by kernel_rfl) fun w21 hT22 hs23 hB24 => ?_)
 replace hB24 : Blk w21 (w14.heap.size) 25 [.int .i64 0, .int .i64 0, .slice none 0 0, .int .i64 0, .int .i64 0] := hB24
 have hT0 := hT0.t0 hT22
 have hB6 := hB6.tch0 hT22
 have hB11 := hB11.tch0 hT22
 have hB17 := hB17.tch0 hT22
 refine st (by rfl) (S_storeA (b := w14.heap.size) (j := 0) (cs := [.int .i64 2, .int .i64 0, .slice (some ⟨w8.heap.size, 0, none⟩) 1 1, .int .i64 0, .int .i64 0]) (by kernel_rfl) (by kernel_rfl) (by kernel_rfl) (by simp [oneV]) hB24 (by simp) fun w29 hT30 hs31 hB24' => ?_)
 have hT0 := (hT0).then hT30 (fun c e => by have : c = w14.heap.size := e; omega)
 have hB6 := hB6.tch hT30 (hB6.ne hB24 (by decide))
 have hB11 := hB11.tch hT30 (hB11.ne hB24 (by decide))
 have hB17 := hB17.tch hT30 (hB17.ne hB24 (by decide))
 replace hB24 : Blk w29 w14.heap.size 25 [.int .i64 2, .int .i64 0, .slice (some ⟨w8.heap.size, 0, none⟩) 1 1, .int .i64 0, .int .i64 0] := hB24'
 refine op_nil ?_
 refine W_seq ?_
 have hT9 := ts9 hB6 hB11 hB17
 have lb_hB6 := hB6.lt
 have lb_hB11 := hB11.lt
 have lb_hB17 := hB17.lt
 have lb_hB24 := hB24.lt
 have hb9 : TsB (some ⟨w8.heap.size, 0, none⟩) [u9 (w1.heap.size) (w3.heap.size)] 0 (w29.heap.size) := tb9 (by omega) (by omega) (by omega)
 have hz9 : w29.heap.size ≤ w29.heap.size := Nat.le_refl _
 refine zR ?_
 refine st (by rfl) (S_val (v := .agg #[.int .i64 2, .int .i64 0, .slice (some ⟨w8.heap.size, 0, none⟩) 1 1, .int .i64 0, .int .i64 0]) (R_loadA [.int .i64 2, .int .i64 0, .slice (some ⟨w8.heap.size, 0, none⟩) 1 1, .int .i64 0, .int .i64 0] (by kernel_rfl) (by kernel_rfl) (by kernel_rfl) (fun k u hk => by rw [hB24.cell]; exact get_part _ 0 _ k u rfl hk)) ?_)
 refine zC (aw2 _ _ _ _ hT9) ?_
 rintro _ w32 ⟨rfl, hT33⟩
 have hT0 := hT0.t0 hT33
 have hB24 := hB24.tch0 hT33
 have hT9 := hT9.tch0 hT33
 have hz9 := Nat.le_trans hz9 hT33.size
 refine zS [(26, .tuple #[.string (bsT ([2, 0, 0, 0, 0, 0, 0, 0, 0, 0, 0, 1, 1, 7, 0, 1, 0, 0, 0, 0, 1, 1, 0, 0, 0, 0, 0, 0, 0, 9])), .int .i64 0]), (29, .string (bsT ([2, 0, 0, 0, 0, 0, 0, 0, 0, 0, 0, 1, 1, 7, 0, 1, 0, 0, 0, 0, 1, 1, 0, 0, 0, 0, 0, 0, 0, 9]))), (30, .int .i64 0), (4, .string (bsT ([2, 0, 0, 0, 0, 0, 0, 0, 0, 0, 0, 1, 1, 7, 0, 1, 0, 0, 0, 0, 1, 1, 0, 0, 0, 0, 0, 0, 0, 9]))), (5, .int .i64 0)] ?_
 refine op_nil ?_
 refine W_seq ?_
 refine zF [(0, .bool false), (1, .string (bsT ([1, 0, 0, 0, 0, 1, 0, 0, 0, 0, 0, 0]))), (2, .int .i64 0), (3, .pointer (some ⟨w14.heap.size, 0, none⟩)), (4, .string (bsT ([2, 0, 0, 0, 0, 0, 0, 0, 0, 0, 0, 1, 1, 7, 0, 1, 0, 0, 0, 0, 1, 1, 0, 0, 0, 0, 0, 0, 0, 9]))), (5, .int .i64 0)] fun ρ => ?_
 refine zR ?_
 refine zS [(32, .string (bsT ([2, 0, 0, 0, 0, 0, 0, 0, 0, 0, 0, 1, 1, 7, 0, 1, 0, 0, 0, 0, 1, 1, 0, 0, 0, 0, 0, 0, 0, 9])))] ?_
 refine zC (rd9 _) ?_
 rintro _ w34 ⟨A, c, l, rfl, hTs, hcl, hTb, hT35⟩
 have hT0 := hT0.t0 hT35
 have hB24 := hB24.tch0 hT35
 have hT9 := hT9.tch0 hT35
 have hz9 := Nat.le_trans hz9 hT35.size
 have hzL : w34.heap.size ≤ w34.heap.size := Nat.le_refl _
 refine zS [(31, .tuple #[.agg #[.int .i64 2, .int .i64 0, .slice A l.length c, .int .i64 0, .int .i64 0], .int .i64 0]), (34, .agg #[.int .i64 2, .int .i64 0, .slice A l.length c, .int .i64 0, .int .i64 0]), (35, .int .i64 0)] ?_
 have hz40 := hT0.size
 have lt41 := hB24.lt
 refine st (by rfl) (S_new (v := .pointer (some ⟨w34.heap.size, 0, none⟩)) (ob := .cells #[.int .i64 0, .int .i64 0, .slice none 0 0, .int .i64 0, .int .i64 0] 25) (by kernel_rfl) fun w36 hT37 hs38 hB39 => ?_)
 replace hB39 : Blk w36 (w34.heap.size) 25 [.int .i64 0, .int .i64 0, .slice none 0 0, .int .i64 0, .int .i64 0] := hB39
 have hT0 := hT0.t0 hT37
 have hB24 := hB24.tch0 hT37
 have hT9 := hT9.tch0 hT37
 have hz9 := Nat.le_trans hz9 hT37.size
 have hTs := hTs.tch0 hT37
 have hzL := Nat.le_trans hzL hT37.size
 refine st (by rfl) (S_storeA (b := w34.heap.size) (j := 0) (cs := [.int .i64 2, .int .i64 0, .slice A l.length c, .int .i64 0, .int .i64 0]) (by kernel_rfl) (by kernel_rfl) (by kernel_rfl) (by simp [oneV]) hB39 (by simp) fun w42 hT43 hs44 hB39' => ?_)
 have hT0 := (hT0).then hT43 (fun c e => by have : c = w34.heap.size := e; omega)
 have hB24 := hB24.tch hT43 (fun e => by have : w14.heap.size = w34.heap.size := e; omega)
 have hT9 := hT9.tchB hb9 hT43 (fun c h1 h2 e => by have e : c = w34.heap.size := e; omega)
 have hz9 := Nat.le_trans hz9 hT43.size
 have hTs := hTs.tchB hTb hT43 (fun c h1 h2 e => by have e : c = w34.heap.size := e; omega)
 have hzL := Nat.le_trans hzL hT43.size
 replace hB39 : Blk w42 w34.heap.size 25 [.int .i64 2, .int .i64 0, .slice A l.length c, .int .i64 0, .int .i64 0] := hB39'
 refine zS [(7, .int .i64 0)] ?_
 refine op_nil ?_
 refine zQ ?_
 refine zS [(37, .string (bsT ([2, 0, 0, 0, 0, 0, 0, 0, 0, 0, 0, 1, 1, 7, 0, 1, 0, 0, 0, 0, 1, 1, 0, 0, 0, 0, 0, 0, 0, 9]))), (38, .string (bsT ([2, 0, 0, 0, 0, 0, 0, 0, 0, 0, 0, 1, 1, 7, 0, 1, 0, 0, 0, 0, 1, 1, 0, 0, 0, 0, 0, 0, 0, 9]))), (39, .int .i64 30), (40, .int .i64 15)] ?_
 refine stv (v := .string (bsT ([2, 0, 0, 0, 0, 0, 0, 0, 0, 0, 0, 1, 1, 7, 0]))) (by rfl) (R_sslH (a := [2, 0, 0, 0, 0, 0, 0, 0, 0, 0, 0, 1, 1, 7, 0, 1, 0, 0, 0, 0, 1, 1, 0, 0, 0, 0, 0, 0, 0, 9]) (i := 15) 15 (by kernel_rfl) (by kernel_rfl) (by kernel_rfl) rfl (by decide)) ?_
 refine zC (rd_err [2, 0, 0, 0, 0, 0, 0, 0, 0, 0, 0, 1, 1, 7, 0] 6 _ (by decide) (by decide)) ?_
 rintro _ w45 ⟨A47, c47, rfl, hT46⟩
 have hT0 := hT0.t0 hT46
 have hB24 := hB24.tch0 hT46
 have hT9 := hT9.tch0 hT46
 have hz9 := Nat.le_trans hz9 hT46.size
 have hTs := hTs.tch0 hT46
 have hzL := Nat.le_trans hzL hT46.size
 have hB39 := hB39.tch0 hT46
 refine zS [(36, .tuple #[.agg #[.int .i64 0, .int .i64 0, .slice A47 0 c47, .int .i64 0, .int .i64 0], .int .i64 6]), (43, .agg #[.int .i64 0, .int .i64 0, .slice A47 0 c47, .int .i64 0, .int .i64 0]), (44, .int .i64 6)] ?_
 have hz52 := hT0.size
 have lt53 := hB24.lt
 have lt54 := hB39.lt
 refine st (by rfl) (S_new (v := .pointer (some ⟨w45.heap.size, 0, none⟩)) (ob := .cells #[.int .i64 0, .int .i64 0, .slice none 0 0, .int .i64 0, .int .i64 0] 25) (by kernel_rfl) fun w48 hT49 hs50 hB51 => ?_)
 replace hB51 : Blk w48 (w45.heap.size) 25 [.int .i64 0, .int .i64 0, .slice none 0 0, .int .i64 0, .int .i64 0] := hB51
 have hT0 := hT0.t0 hT49
 have hB24 := hB24.tch0 hT49
 have hT9 := hT9.tch0 hT49
 have hz9 := Nat.le_trans hz9 hT49.size
 have hTs := hTs.tch0 hT49
 have hzL := Nat.le_trans hzL hT49.size
 have hB39 := hB39.tch0 hT49
 refine st (by rfl) (S_storeA (b := w45.heap.size) (j := 0) (cs := [.int .i64 0, .int .i64 0, .slice A47 0 c47, .int .i64 0, .int .i64 0]) (by kernel_rfl) (by kernel_rfl) (by kernel_rfl) (by simp [oneV]) hB51 (by simp) fun w55 hT56 hs57 hB51' => ?_)
 have hT0 := (hT0).then hT56 (fun c e => by have : c = w45.heap.size := e; omega)
 have hB24 := hB24.tch hT56 (fun e => by have : w14.heap.size = w45.heap.size := e; omega)
 have hT9 := hT9.tchB hb9 hT56 (fun c h1 h2 e => by have e : c = w45.heap.size := e; omega)
 have hz9 := Nat.le_trans hz9 hT56.size
 have hTs := hTs.tchB hTb hT56 (fun c h1 h2 e => by have e : c = w45.heap.size := e; omega)
 have hzL := Nat.le_trans hzL hT56.size
 have hB39 := hB39.tch hT56 (fun e => by have : w34.heap.size = w45.heap.size := e; omega)
 replace hB51 : Blk w55 w45.heap.size 25 [.int .i64 0, .int .i64 0, .slice A47 0 c47, .int .i64 0, .int .i64 0] := hB51'
 refine zS [(9, .int .i64 6)] ?_
 refine op_nil ?_
 refine W_seq ?_
 refine zF [(0, .bool false), (1, .string (bsT ([1, 0, 0, 0, 0, 1, 0, 0, 0, 0, 0, 0]))), (2, .int .i64 0), (3, .pointer (some ⟨w14.heap.size, 0, none⟩)), (4, .string (bsT ([2, 0, 0, 0, 0, 0, 0, 0, 0, 0, 0, 1, 1, 7, 0, 1, 0, 0, 0, 0, 1, 1, 0, 0, 0, 0, 0, 0, 0, 9]))), (5, .int .i64 0), (6, .pointer (some ⟨w34.heap.size, 0, none⟩)), (7, .int .i64 0), (9, .int .i64 6)] fun ρ => ?_
 refine zR ?_
 refine zC (rd_err [4] 4 _ (by decide) (by decide)) ?_
 rintro _ w58 ⟨A60, c60, rfl, hT59⟩
 have hT0 := hT0.t0 hT59
 have hB24 := hB24.tch0 hT59
 have hT9 := hT9.tch0 hT59
 have hz9 := Nat.le_trans hz9 hT59.size
 have hTs := hTs.tch0 hT59
 have hzL := Nat.le_trans hzL hT59.size
 have hB39 := hB39.tch0 hT59
 have hB51 := hB51.tch0 hT59
 refine zS [(45, .tuple #[.agg #[.int .i64 0, .int .i64 0, .slice A60 0 c60, .int .i64 0, .int .i64 0], .int .i64 4]), (47, .agg #[.int .i64 0, .int .i64 0, .slice A60 0 c60, .int .i64 0, .int .i64 0]), (48, .int .i64 4)] ?_
 have hz65 := hT0.size
 have lt66 := hB24.lt
 have lt67 := hB39.lt
 have lt68 := hB51.lt
 refine st (by rfl) (S_new (v := .pointer (some ⟨w58.heap.size, 0, none⟩)) (ob := .cells #[.int .i64 0, .int .i64 0, .slice none 0 0, .int .i64 0, .int .i64 0] 25) (by kernel_rfl) fun w61 hT62 hs63 hB64 => ?_)
 replace hB64 : Blk w61 (w58.heap.size) 25 [.int .i64 0, .int .i64 0, .slice none 0 0, .int .i64 0, .int .i64 0] := hB64
 have hT0 := hT0.t0 hT62
 have hB24 := hB24.tch0 hT62
 have hT9 := hT9.tch0 hT62
 have hz9 := Nat.le_trans hz9 hT62.size
 have hTs := hTs.tch0 hT62
 have hzL := Nat.le_trans hzL hT62.size
 have hB39 := hB39.tch0 hT62
 have hB51 := hB51.tch0 hT62
 refine st (by rfl) (S_storeA (b := w58.heap.size) (j := 0) (cs := [.int .i64 0, .int .i64 0, .slice A60 0 c60, .int .i64 0, .int .i64 0]) (by kernel_rfl) (by kernel_rfl) (by kernel_rfl) (by simp [oneV]) hB64 (by simp) fun w69 hT70 hs71 hB64' => ?_)
 have hT0 := (hT0).then hT70 (fun c e => by have : c = w58.heap.size := e; omega)
 have hB24 := hB24.tch hT70 (fun e => by have : w14.heap.size = w58.heap.size := e; omega)
 have hT9 := hT9.tchB hb9 hT70 (fun c h1 h2 e => by have e : c = w58.heap.size := e; omega)
 have hz9 := Nat.le_trans hz9 hT70.size
 have hTs := hTs.tchB hTb hT70 (fun c h1 h2 e => by have e : c = w58.heap.size := e; omega)
 have hzL := Nat.le_trans hzL hT70.size
 have hB39 := hB39.tch hT70 (fun e => by have : w34.heap.size = w58.heap.size := e; omega)
 have hB51 := hB51.tch hT70 (fun e => by have : w45.heap.size = w58.heap.size := e; omega)
 replace hB64 : Blk w69 w58.heap.size 25 [.int .i64 0, .int .i64 0, .slice A60 0 c60, .int .i64 0, .int .i64 0] := hB64'
 refine zS [(11, .int .i64 4)] ?_
 refine op_nil ?_
 refine zQ ?_
 refine zS [(50, .string (bsT ([1, 0, 0, 0, 0, 1, 0, 0, 0, 0, 0, 0]))), (51, .string (bsT ([1, 0, 0, 0, 0, 1, 0, 0, 0, 0, 0, 0, 120])))] ?_
 refine zC (rd_err [1, 0, 0, 0, 0, 1, 0, 0, 0, 0, 0, 0, 120] 5 _ (by decide) (by decide)) ?_
 rintro _ w72 ⟨A74, c74, rfl, hT73⟩
 have hT0 := hT0.t0 hT73
 have hB24 := hB24.tch0 hT73
 have hT9 := hT9.tch0 hT73
 have hz9 := Nat.le_trans hz9 hT73.size
 have hTs := hTs.tch0 hT73
 have hzL := Nat.le_trans hzL hT73.size
 have hB39 := hB39.tch0 hT73
 have hB51 := hB51.tch0 hT73
 have hB64 := hB64.tch0 hT73
 refine zS [(49, .tuple #[.agg #[.int .i64 0, .int .i64 0, .slice A74 0 c74, .int .i64 0, .int .i64 0], .int .i64 5]), (53, .agg #[.int .i64 0, .int .i64 0, .slice A74 0 c74, .int .i64 0, .int .i64 0]), (54, .int .i64 5)] ?_
 have hz79 := hT0.size
 have lt80 := hB24.lt
 have lt81 := hB39.lt
 have lt82 := hB51.lt
 have lt83 := hB64.lt
 refine st (by rfl) (S_new (v := .pointer (some ⟨w72.heap.size, 0, none⟩)) (ob := .cells #[.int .i64 0, .int .i64 0, .slice none 0 0, .int .i64 0, .int .i64 0] 25) (by kernel_rfl) fun w75 hT76 hs77 hB78 => ?_)
 replace hB78 : Blk w75 (w72.heap.size) 25 [.int .i64 0, .int .i64 0, .slice none 0 0, .int .i64 0, .int .i64 0] := hB78
 have hT0 := hT0.t0 hT76
 have hB24 := hB24.tch0 hT76
 have hT9 := hT9.tch0 hT76
 have hz9 := Nat.le_trans hz9 hT76.size
 have hTs := hTs.tch0 hT76
 have hzL := Nat.le_trans hzL hT76.size
 have hB39 := hB39.tch0 hT76
 have hB51 := hB51.tch0 hT76
 have hB64 := hB64.tch0 hT76
 refine st (by rfl) (S_storeA (b := w72.heap.size) (j := 0) (cs := [.int .i64 0, .int .i64 0, .slice A74 0 c74, .int .i64 0, .int .i64 0]) (by kernel_rfl) (by kernel_rfl) (by kernel_rfl) (by simp [oneV]) hB78 (by simp) fun w84 hT85 hs86 hB78' => ?_)
 have hT0 := (hT0).then hT85 (fun c e => by have : c = w72.heap.size := e; omega)
 have hB24 := hB24.tch hT85 (fun e => by have : w14.heap.size = w72.heap.size := e; omega)
 have hT9 := hT9.tchB hb9 hT85 (fun c h1 h2 e => by have e : c = w72.heap.size := e; omega)
 have hz9 := Nat.le_trans hz9 hT85.size
 have hTs := hTs.tchB hTb hT85 (fun c h1 h2 e => by have e : c = w72.heap.size := e; omega)
 have hzL := Nat.le_trans hzL hT85.size
 have hB39 := hB39.tch hT85 (fun e => by have : w34.heap.size = w72.heap.size := e; omega)
 have hB51 := hB51.tch hT85 (fun e => by have : w45.heap.size = w72.heap.size := e; omega)
 have hB64 := hB64.tch hT85 (fun e => by have : w58.heap.size = w72.heap.size := e; omega)
 replace hB78 : Blk w84 w72.heap.size 25 [.int .i64 0, .int .i64 0, .slice A74 0 c74, .int .i64 0, .int .i64 0] := hB78'
 refine zS [(13, .int .i64 5)] ?_
 refine op_nil ?_
 refine W_seq ?_
 refine zF [(0, .bool false), (1, .string (bsT ([1, 0, 0, 0, 0, 1, 0, 0, 0, 0, 0, 0]))), (2, .int .i64 0), (3, .pointer (some ⟨w14.heap.size, 0, none⟩)), (4, .string (bsT ([2, 0, 0, 0, 0, 0, 0, 0, 0, 0, 0, 1, 1, 7, 0, 1, 0, 0, 0, 0, 1, 1, 0, 0, 0, 0, 0, 0, 0, 9]))), (5, .int .i64 0), (6, .pointer (some ⟨w34.heap.size, 0, none⟩)), (7, .int .i64 0), (9, .int .i64 6), (11, .int .i64 4), (13, .int .i64 5)] fun ρ => ?_
 refine zR ?_
 refine zS [(56, .agg #[.int .i64 4, .int .i64 0, .slice none 0 0, .int .i64 0, .int .i64 0])] ?_
 refine zC (aw3 _) ?_
 rintro _ w87 ⟨rfl, hT88⟩
 have hT0 := hT0.t0 hT88
 have hB24 := hB24.tch0 hT88
 have hT9 := hT9.tch0 hT88
 have hz9 := Nat.le_trans hz9 hT88.size
 have hTs := hTs.tch0 hT88
 have hzL := Nat.le_trans hzL hT88.size
 have hB39 := hB39.tch0 hT88
 have hB51 := hB51.tch0 hT88
 have hB64 := hB64.tch0 hT88
 have hB78 := hB78.tch0 hT88
 refine zS [(55, .tuple #[.string (bsT ([])), .int .i64 4]), (58, .string (bsT ([]))), (59, .int .i64 4), (14, .string (bsT ([]))), (15, .int .i64 4)] ?_
 refine op_nil ?_
 refine zQ ?_
 refine zS [(60, .string (bsT ([1, 0, 0, 0, 0, 1, 0, 0, 0, 0, 0, 0])))] ?_
 refine stv (v := .bool true) (by rfl) (R_seq_t (a := [1, 0, 0, 0, 0, 1, 0, 0, 0, 0, 0, 0]) (b := [1, 0, 0, 0, 0, 1, 0, 0, 0, 0, 0, 0]) (by kernel_rfl) (by kernel_rfl) rfl) ?_
 refine zS [(62, .bool true), (63, .int .i64 0), (64, .bool true), (65, .bool true), (66, .bool true), (67, .int .i64 0), (68, .bool true), (69, .bool true), (70, .bool true)] ?_
 refine st (by kernel_rfl) (S_val (v := .agg #[.int .i64 2, .int .i64 0, .slice A l.length c, .int .i64 0, .int .i64 0]) (R_loadA [.int .i64 2, .int .i64 0, .slice A l.length c, .int .i64 0, .int .i64 0] (by kernel_rfl) (by kernel_rfl) (by kernel_rfl) (fun k u hk => by rw [hB39.cell]; exact get_part _ 0 _ k u rfl hk)) ?_)
 refine st (by kernel_rfl) (S_val (v := .agg #[.int .i64 2, .int .i64 0, .slice (some ⟨w8.heap.size, 0, none⟩) 1 1, .int .i64 0, .int .i64 0]) (R_loadA [.int .i64 2, .int .i64 0, .slice (some ⟨w8.heap.size, 0, none⟩) 1 1, .int .i64 0, .int .i64 0] (by kernel_rfl) (by kernel_rfl) (by kernel_rfl) (fun k u hk => by rw [hB24.cell]; exact get_part _ 0 _ k u rfl hk)) ?_)
 refine zC (sm9 A (some ⟨w8.heap.size, 0, none⟩) c 1 _ _ _ _ hTs hcl hT9) ?_
 rintro _ w89 ⟨rfl, hT90⟩
 have hT0 := hT0.t0 hT90
 have hB24 := hB24.tch0 hT90
 have hT9 := hT9.tch0 hT90
 have hz9 := Nat.le_trans hz9 hT90.size
 have hTs := hTs.tch0 hT90
 have hzL := Nat.le_trans hzL hT90.size
 have hB39 := hB39.tch0 hT90
 have hB51 := hB51.tch0 hT90
 have hB64 := hB64.tch0 hT90
 have hB78 := hB78.tch0 hT90
 refine zS [(74, .bool true), (75, .bool true), (76, .int .i64 0), (77, .bool true), (78, .bool true), (79, .bool true), (80, .int .i64 6), (81, .bool true), (82, .bool true), (83, .bool true), (84, .int .i64 4), (85, .bool true), (86, .bool true), (87, .bool true), (88, .int .i64 5), (89, .bool true), (90, .bool true), (91, .bool true), (92, .int .i64 4), (93, .bool true), (94, .bool true), (95, .bool true)] ?_
 refine st (by kernel_rfl) (S_val (v := .agg #[.int .i64 2, .int .i64 0, .slice A l.length c, .int .i64 0, .int .i64 0]) (R_loadA [.int .i64 2, .int .i64 0, .slice A l.length c, .int .i64 0, .int .i64 0] (by kernel_rfl) (by kernel_rfl) (by kernel_rfl) (fun k u hk => by rw [hB39.cell]; exact get_part _ 0 _ k u rfl hk)) ?_)
 refine zS [(97, .agg #[.int .i64 0, .int .i64 0, .slice none 0 0, .int .i64 0, .int .i64 0])] ?_
 refine zC (sm0 A c _ _ hTs) ?_
 rintro _ w91 ⟨rfl, hT92⟩
 have hT0 := hT0.t0 hT92
 have hB24 := hB24.tch0 hT92
 have hT9 := hT9.tch0 hT92
 have hz9 := Nat.le_trans hz9 hT92.size
 have hTs := hTs.tch0 hT92
 have hzL := Nat.le_trans hzL hT92.size
 have hB39 := hB39.tch0 hT92
 have hB51 := hB51.tch0 hT92
 have hB64 := hB64.tch0 hT92
 have hB78 := hB78.tch0 hT92
 refine zS [(99, .bool true), (100, .bool true), (101, .bool true)] ?_
 refine st (by kernel_rfl) (S_val (v := .agg #[.int .i64 2, .int .i64 0, .slice (some ⟨w8.heap.size, 0, none⟩) 1 1, .int .i64 0, .int .i64 0]) (R_loadA [.int .i64 2, .int .i64 0, .slice (some ⟨w8.heap.size, 0, none⟩) 1 1, .int .i64 0, .int .i64 0] (by kernel_rfl) (by kernel_rfl) (by kernel_rfl) (fun k u hk => by rw [hB24.cell]; exact get_part _ 0 _ k u rfl hk)) ?_)
 refine zC (tx1 _ _ _ _ hT9) ?_
 rintro _ w93 ⟨rfl, hT94⟩
 have hT0 := hT0.t0 hT94
 have hB24 := hB24.tch0 hT94
 have hT9 := hT9.tch0 hT94
 have hz9 := Nat.le_trans hz9 hT94.size
 have hTs := hTs.tch0 hT94
 have hzL := Nat.le_trans hzL hT94.size
 have hB39 := hB39.tch0 hT94
 have hB51 := hB51.tch0 hT94
 have hB64 := hB64.tch0 hT94
 have hB78 := hB78.tch0 hT94
 refine stv (v := .bool true) (by kernel_rfl) (R_seq_t (a := [118, 105, 111, 108, 97, 116, 105, 111, 110, 32, 48, 32, 48, 10, 112, 111, 105, 110, 116, 32, 49, 32, 109, 97, 115, 107, 32, 48, 32, 107, 105, 110, 100, 32, 49, 32, 99, 111, 100, 101, 32, 48, 32, 105, 110, 112, 117, 116, 32, 55, 32, 105, 109, 97, 103, 101, 32, 57, 10]) (b := [118, 105, 111, 108, 97, 116, 105, 111, 110, 32, 48, 32, 48, 10, 112, 111, 105, 110, 116, 32, 49, 32, 109, 97, 115, 107, 32, 48, 32, 107, 105, 110, 100, 32, 49, 32, 99, 111, 100, 101, 32, 48, 32, 105, 110, 112, 117, 116, 32, 55, 32, 105, 109, 97, 103, 101, 32, 57, 10]) (by kernel_rfl) (by kernel_rfl) rfl) ?_
 refine zS [(105, .bool true), (106, .bool true), (107, .agg #[.int .i64 0, .int .i64 18, .slice none 0 0, .int .i64 0, .int .i64 0])] ?_
 refine zC (tx2 _) ?_
 rintro _ w95 ⟨rfl, hT96⟩
 have hT0 := hT0.t0 hT96
 have hB24 := hB24.tch0 hT96
 have hT9 := hT9.tch0 hT96
 have hz9 := Nat.le_trans hz9 hT96.size
 have hTs := hTs.tch0 hT96
 have hzL := Nat.le_trans hzL hT96.size
 have hB39 := hB39.tch0 hT96
 have hB51 := hB51.tch0 hT96
 have hB64 := hB64.tch0 hT96
 have hB78 := hB78.tch0 hT96
 refine stv (v := .bool true) (by kernel_rfl) (R_seq_t (a := [114, 101, 106, 101, 99, 116, 101, 100, 32, 49, 56, 32, 48, 32, 48, 10]) (b := [114, 101, 106, 101, 99, 116, 101, 100, 32, 49, 56, 32, 48, 32, 48, 10]) (by kernel_rfl) (by kernel_rfl) rfl) ?_
 refine zS [(110, .bool true), (0, .bool true)] ?_
 refine op_nil ?_
 refine W_ret ?_
 exact ⟨_, Res_of (v := .bool true) (by kernel_rfl), ⟨rfl, hT0⟩⟩

end Go.Proofs.YtlkjhkennbdbnaaV

set_option linter.unusedVariables false
set_option linter.unusedSimpArgs false
namespace Go.Proofs.YtlkjhkennbdbnaaV
open Go Go.RowKit Go.Proofs

theorem sameR_refl (V E S U : Int) (l : List Co) : sameR V E S U l V E S U l = true := by
 unfold sameR; rw [decide_eq_true ⟨rfl, rfl, rfl, rfl⟩, decide_eq_true rfl]; rfl
theorem smS_ok (V E S U : Int) (A B : Option Addr) (ca cb : Nat) (l m_ : List T6) (w : World) (h : TsW w A l) (h2 : TsW w B m_) (hc : cores l = cores m_) : Ret Try.prog 13 [.agg #[.int .i64 V, .int .i64 E, .slice A l.length ca, .int .i64 S, .int .i64 U], .agg #[.int .i64 V, .int .i64 E, .slice B m_.length cb, .int .i64 S, .int .i64 U]] w fun v w' => v = .bool true ∧ Tch N0 w w' := by
 have q := rsameR_ok V E S U V E S U A B ca cb l m_ w h h2
 rw [hc, sameR_refl] at q; exact q
theorem cores_lt {w : World} {A : Option Addr} {l : List T6} (h : TsW w A l) : ∀ c, c ∈ cores l → ∀ x, x ∈ c.2.2.2.1 → x < 18446744073709551616 := by
 intro c hc x hx
 unfold cores at hc
 rw [List.mem_map] at hc
 obtain ⟨t, ht, rfl⟩ := hc
 exact (h.el t ht).wf.2.2.2.2 x hx
theorem put_bad {V E S U : Int} {l : List Co} (h : putE V E S U l ≠ 0) : putT V E S U l = [] := by
 cases hm : mayR V E S U l with
 | true => exact absurd (put_t hm).2 h
 | false => exact (put_f hm).1
theorem put_good {V E S U : Int} {l : List Co} (h : putE V E S U l = 0) : mayR V E S U l = true ∧ putT V E S U l = encR V E S U l := by
 cases hm : mayR V E S U l with
 | true => exact ⟨rfl, (put_t hm).1⟩
 | false => have q := (put_f hm).2; rw [h] at q; exact absurd q (by decide)
theorem put_len {V E S U : Int} {l : List T6} (hm : mayR V E S U (cores l) = true) (he : putT V E S U (cores l) = encR V E S U (cores l)) (hF : fewP l) : 12 ≤ (putT V E S U (cores l)).length ∧ (putT V E S U (cores l)).length ≤ 200000 := by
 have h1 := (enc_hd V E S U (cores l) [] hm).1
 rw [List.append_nil] at h1
 rw [he]
 refine ⟨h1, ?_⟩
 unfold mayR at hm
 rw [Bool.and_eq_true] at hm
 have h2 := encs_length (l := cores l) (fun t ht => List.all_eq_true.1 hm.2 t ht)
 have h3 := hF.1
 rw [cores_length] at h2
 unfold encR
 simp only [List.length_append, be_length]
 omega
theorem rdB (V E S U : Int) (l : List T6) (w : World) (hm : mayR V E S U (cores l) = true) (he : putT V E S U (cores l) = encR V E S U (cores l)) (hx : ∀ c, c ∈ cores l → ∀ x, x ∈ c.2.2.2.1 → x < 18446744073709551616) : Ret Try.prog 14 [.string (bsT (putT V E S U (cores l)))] w fun v w' => ∃ A1 c1 l1, v = .tuple #[.agg #[.int .i64 V, .int .i64 E, .slice A1 (List.length (α := T6) l1) c1, .int .i64 S, .int .i64 U], .int .i64 0] ∧ TsW w' A1 l1 ∧ cores l1 = cores l ∧ TsB A1 l1 w.heap.size w'.heap.size ∧ Tch N0 w w' := by
 obtain ⟨e0, e1, e2, e3, e4, e5⟩ := enc_rep hm hx
 rw [he]
 refine (read_ok _ w).mono ?_
 rintro v w' ⟨A, c, l1, rfl, h1, h2, h3, h4⟩
 exact ⟨A, c, l1, by rw [e0, e1, e2, e3, e4], h1, by rw [h2, e5], h3, h4⟩

set_option maxRecDepth 100000 in
set_option maxHeartbeats 2000000 in
theorem law5_ok (V E S U : Int) (A : Option Addr) (c : Nat) (l : List T6) (b : UInt8) (w : World) (hR : TsW w A l) : Ret Try.prog 5 [.agg #[.int .i64 V, .int .i64 E, .slice A l.length c, .int .i64 S, .int .i64 U], .int .u8 ((b.toNat : Nat) : Int)] w fun v w' => v = .bool true ∧ Tch N0 w w' := by
 refine enter Try.func5 rfl rfl ?_
 refine zQ ?_
 refine st (by rfl) (S_new (v := .pointer (some ⟨w.heap.size, 0, none⟩)) (ob := .cells #[.int .i64 V, .int .i64 E, .slice A l.length c, .int .i64 S, .int .i64 U] 25) (by kernel_rfl) fun w1 hT2 hs3 hB4 => ?_)
 replace hB4 : Blk w1 (w.heap.size) 25 [.int .i64 V, .int .i64 E, .slice A l.length c, .int .i64 S, .int .i64 U] := hB4
 have hT0 := hT2
 refine zS [(4, .bool false)] ?_
 refine op_nil ?_
 refine W_seq ?_
 refine zQ ?_
 refine st (by rfl) (S_val (v := .agg #[.int .i64 V, .int .i64 E, .slice A l.length c, .int .i64 S, .int .i64 U]) (R_loadA [.int .i64 V, .int .i64 E, .slice A l.length c, .int .i64 S, .int .i64 U] (by kernel_rfl) (by kernel_rfl) (by kernel_rfl) (fun k u hk => by rw [hB4.cell]; exact get_part _ 0 _ k u rfl hk)) ?_)
 refine zC (few_ok V E S U A c l _ (hR.tch0 hT0)) ?_
 rintro _ w5 ⟨b1, rfl, hF1, hT6⟩
 have hT0 := hT0.t0 hT6
 have hB4 := hB4.tch0 hT6
 refine zS [(15, .bool (!b1))] ?_
 refine zO (!b1) (fun hc7 => ?_) (fun hc7 => ?_)
 ·
  replace hc7 : b1 = false := ((not_t hc7))
  refine zQ ?_
  refine zC (awake_ok _) ?_
  rintro _ w8 ⟨rfl, hT9⟩
  have hT0 := hT0.t0 hT9
  have hB4 := hB4.tch0 hT9
  refine zS [(4, .bool true)] ?_
  refine op_nil ?_
  refine W_ret ?_
  exact ⟨_, Res_of (v := .bool true) (by kernel_rfl), ⟨rfl, hT0⟩⟩
 ·
  replace hc7 : b1 = true := ((not_f hc7))
  refine W_skip ?_
  refine zQ ?_
  refine st (by rfl) (S_val (v := .agg #[.int .i64 V, .int .i64 E, .slice A l.length c, .int .i64 S, .int .i64 U]) (R_loadA [.int .i64 V, .int .i64 E, .slice A l.length c, .int .i64 S, .int .i64 U] (by kernel_rfl) (by kernel_rfl) (by kernel_rfl) (fun k u hk => by rw [hB4.cell]; exact get_part _ 0 _ k u rfl hk)) ?_)
  refine zC (put_ok V E S U A c l _ (hR.tch0 hT0)) ?_
  rintro _ w10 ⟨rfl, hT11⟩
  have hT0 := hT0.t0 hT11
  have hB4 := hB4.tch0 hT11
  refine zS [(17, .tuple #[.string (bsT (putT V E S U (cores l))), .int .i64 (putE V E S U (cores l))]), (20, .string (bsT (putT V E S U (cores l)))), (21, .int .i64 (putE V E S U (cores l))), (5, .string (bsT (putT V E S U (cores l)))), (6, .int .i64 (putE V E S U (cores l)))] ?_
  refine op_nil ?_
  refine W_seq ?_
  refine W_seq ?_
  refine zF [(0, .agg #[.int .i64 V, .int .i64 E, .slice A l.length c, .int .i64 S, .int .i64 U]), (1, .int .u8 ((b.toNat : Nat) : Int)), (2, .pointer (some ⟨w.heap.size, 0, none⟩)), (4, .bool false), (5, .string (bsT (putT V E S U (cores l)))), (6, .int .i64 (putE V E S U (cores l))), (15, .bool (!b1))] fun ρ => ?_
  refine zR ?_
  refine zS [(22, .int .i64 (putE V E S U (cores l))), (23, .bool ((putE V E S U (cores l)) != 0))] ?_
  refine zO ((putE V E S U (cores l)) != 0) (fun hc12 => ?_) (fun hc12 => ?_)
  ·
   replace hc12 : putE V E S U (cores l) ≠ 0 := (bne_iff_ne.1 hc12)
   refine zQ ?_
   refine zS [(24, .string (bsT (putT V E S U (cores l))))] ?_
   refine stv (v := .bool (decide (putT V E S U (cores l) = []))) (by rfl) (R_seq (a := putT V E S U (cores l)) (b := []) (by kernel_rfl) (by kernel_rfl)) ?_
   refine zS [(26, .bool (decide (putT V E S U (cores l) = [])))] ?_
   cases hb13 : decide (putT V E S U (cores l) = [])
   ·
    replace hb13 : ¬ (putT V E S U (cores l) = []) := (of_decide_eq_false hb13)
    exact absurd (put_bad (V := V) (E := E) (S := S) (U := U) (l := cores l) (by omega)) (by assumption)
   ·
    replace hb13 : putT V E S U (cores l) = [] := (of_decide_eq_true hb13)
    refine zC (awake_ok _) ?_
    rintro _ w14 ⟨rfl, hT15⟩
    have hT0 := hT0.t0 hT15
    have hB4 := hB4.tch0 hT15
    refine zS [(28, .bool true), (4, .bool true)] ?_
    refine op_nil ?_
    refine W_ret ?_
    exact ⟨_, Res_of (v := .bool true) (by kernel_rfl), ⟨rfl, hT0⟩⟩
  ·
   replace hc12 : putE V E S U (cores l) = 0 := (bne_eq_false_iff_eq.1 hc12)
   refine W_skip ?_
   refine W_seq ?_
   refine W_seq ?_
   obtain ⟨hm, he⟩ := put_good (V := V) (E := E) (S := S) (U := U) (l := cores l) (by omega)
   have hx := cores_lt hR
   have hln := put_len hm he (hF1 (by assumption))
   refine zR ?_
   refine zS [(29, .string (bsT (putT V E S U (cores l)))), (30, .int .i64 (((putT V E S U (cores l)).length : Nat) : Int)), (31, .bool ((((putT V E S U (cores l)).length : Nat) : Int) == 0))] ?_
   refine zO ((((putT V E S U (cores l)).length : Nat) : Int) == 0) (fun hc16 => ?_) (fun hc16 => ?_)
   ·
    replace hc16 : (((putT V E S U (cores l)).length : Nat) : Int) = 0 := (eq_of_beq hc16)
    exfalso; omega
   ·
    replace hc16 : (((putT V E S U (cores l)).length : Nat) : Int) ≠ 0 := (ne_of_beq_false hc16)
    refine W_skip ?_
    refine zQ ?_
    refine zS [(33, .string (bsT (putT V E S U (cores l))))] ?_
    refine zC (rdB V E S U l _ hm he hx) ?_
    rintro _ w17 ⟨A1, c1, l1, rfl, hTs1, hcl1, hTb1, hT18⟩
    have hT0 := hT0.t0 hT18
    have hB4 := hB4.tch0 hT18
    have hzL1 : w17.heap.size ≤ w17.heap.size := Nat.le_refl _
    refine zS [(32, .tuple #[.agg #[.int .i64 V, .int .i64 E, .slice A1 l1.length c1, .int .i64 S, .int .i64 U], .int .i64 0]), (35, .agg #[.int .i64 V, .int .i64 E, .slice A1 l1.length c1, .int .i64 S, .int .i64 U]), (36, .int .i64 0)] ?_
    have hz23 := hT0.size
    have lt24 := hB4.lt
    refine st (by rfl) (S_new (v := .pointer (some ⟨w17.heap.size, 0, none⟩)) (ob := .cells #[.int .i64 0, .int .i64 0, .slice none 0 0, .int .i64 0, .int .i64 0] 25) (by kernel_rfl) fun w19 hT20 hs21 hB22 => ?_)
    replace hB22 : Blk w19 (w17.heap.size) 25 [.int .i64 0, .int .i64 0, .slice none 0 0, .int .i64 0, .int .i64 0] := hB22
    have hT0 := hT0.t0 hT20
    have hB4 := hB4.tch0 hT20
    have hTs1 := hTs1.tch0 hT20
    have hzL1 := Nat.le_trans hzL1 hT20.size
    refine st (by rfl) (S_storeA (b := w17.heap.size) (j := 0) (cs := [.int .i64 V, .int .i64 E, .slice A1 l1.length c1, .int .i64 S, .int .i64 U]) (by kernel_rfl) (by kernel_rfl) (by kernel_rfl) (by simp [oneV]) hB22 (by simp) fun w25 hT26 hs27 hB22' => ?_)
    have hT0 := (hT0).then hT26 (fun c e => by have : c = w17.heap.size := e; omega)
    have hB4 := hB4.tch hT26 (fun e => by have : w.heap.size = w17.heap.size := e; omega)
    have hTs1 := hTs1.tchB hTb1 hT26 (fun c h1 h2 e => by have e : c = w17.heap.size := e; omega)
    have hzL1 := Nat.le_trans hzL1 hT26.size
    replace hB22 : Blk w25 w17.heap.size 25 [.int .i64 V, .int .i64 E, .slice A1 l1.length c1, .int .i64 S, .int .i64 U] := hB22'
    refine zS [(8, .int .i64 0)] ?_
    refine op_nil ?_
    refine W_seq ?_
    refine zF [(0, .agg #[.int .i64 V, .int .i64 E, .slice A l.length c, .int .i64 S, .int .i64 U]), (1, .int .u8 ((b.toNat : Nat) : Int)), (2, .pointer (some ⟨w.heap.size, 0, none⟩)), (4, .bool false), (5, .string (bsT (putT V E S U (cores l)))), (6, .int .i64 (putE V E S U (cores l))), (7, .pointer (some ⟨w17.heap.size, 0, none⟩)), (8, .int .i64 0), (15, .bool (!b1)), (23, .bool ((putE V E S U (cores l)) != 0)), (31, .bool ((((putT V E S U (cores l)).length : Nat) : Int) == 0))] fun ρ => ?_
    refine zR ?_
    refine zS [(38, .string (bsT (putT V E S U (cores l)))), (39, .string (bsT (putT V E S U (cores l)))), (40, .int .i64 (((putT V E S U (cores l)).length : Nat) : Int)), (41, .int .i64 (IntKind.i64.wrap ((((putT V E S U (cores l)).length : Nat) : Int) - 1)))] ?_
    rw [show IntKind.i64.wrap ((((putT V E S U (cores l)).length : Nat) : Int) - 1) = (((putT V E S U (cores l)).length : Nat) : Int) - 1 from wrap_i64 (by omega) (by omega)]
    refine fixR (y := (((putT V E S U (cores l)).length - 1 : Nat) : Int)) (by omega) ?_
    refine stv (v := .string (bsT ((putT V E S U (cores l)).take ((putT V E S U (cores l)).length - 1)))) (by rfl) (R_sslH (a := putT V E S U (cores l)) (i := (((putT V E S U (cores l)).length - 1 : Nat) : Int)) ((putT V E S U (cores l)).length - 1) (by kernel_rfl) (by kernel_rfl) (by kernel_rfl) rfl (by omega)) ?_
    refine zC (rd_err ((putT V E S U (cores l)).take ((putT V E S U (cores l)).length - 1)) 6 _ (by rw [he]; exact enc_less hm hx) (by decide)) ?_
    rintro _ w28 ⟨A30, c30, rfl, hT29⟩
    have hT0 := hT0.t0 hT29
    have hB4 := hB4.tch0 hT29
    have hTs1 := hTs1.tch0 hT29
    have hzL1 := Nat.le_trans hzL1 hT29.size
    have hB22 := hB22.tch0 hT29
    refine zS [(37, .tuple #[.agg #[.int .i64 0, .int .i64 0, .slice A30 0 c30, .int .i64 0, .int .i64 0], .int .i64 6]), (44, .agg #[.int .i64 0, .int .i64 0, .slice A30 0 c30, .int .i64 0, .int .i64 0]), (45, .int .i64 6)] ?_
    have hz35 := hT0.size
    have lt36 := hB4.lt
    have lt37 := hB22.lt
    refine st (by rfl) (S_new (v := .pointer (some ⟨w28.heap.size, 0, none⟩)) (ob := .cells #[.int .i64 0, .int .i64 0, .slice none 0 0, .int .i64 0, .int .i64 0] 25) (by kernel_rfl) fun w31 hT32 hs33 hB34 => ?_)
    replace hB34 : Blk w31 (w28.heap.size) 25 [.int .i64 0, .int .i64 0, .slice none 0 0, .int .i64 0, .int .i64 0] := hB34
    have hT0 := hT0.t0 hT32
    have hB4 := hB4.tch0 hT32
    have hTs1 := hTs1.tch0 hT32
    have hzL1 := Nat.le_trans hzL1 hT32.size
    have hB22 := hB22.tch0 hT32
    refine st (by rfl) (S_storeA (b := w28.heap.size) (j := 0) (cs := [.int .i64 0, .int .i64 0, .slice A30 0 c30, .int .i64 0, .int .i64 0]) (by kernel_rfl) (by kernel_rfl) (by kernel_rfl) (by simp [oneV]) hB34 (by simp) fun w38 hT39 hs40 hB34' => ?_)
    have hT0 := (hT0).then hT39 (fun c e => by have : c = w28.heap.size := e; omega)
    have hB4 := hB4.tch hT39 (fun e => by have : w.heap.size = w28.heap.size := e; omega)
    have hTs1 := hTs1.tchB hTb1 hT39 (fun c h1 h2 e => by have e : c = w28.heap.size := e; omega)
    have hzL1 := Nat.le_trans hzL1 hT39.size
    have hB22 := hB22.tch hT39 (fun e => by have : w17.heap.size = w28.heap.size := e; omega)
    replace hB34 : Blk w38 w28.heap.size 25 [.int .i64 0, .int .i64 0, .slice A30 0 c30, .int .i64 0, .int .i64 0] := hB34'
    refine zS [(10, .int .i64 6)] ?_
    refine op_nil ?_
    refine W_seq ?_
    refine zF [(0, .agg #[.int .i64 V, .int .i64 E, .slice A l.length c, .int .i64 S, .int .i64 U]), (1, .int .u8 ((b.toNat : Nat) : Int)), (2, .pointer (some ⟨w.heap.size, 0, none⟩)), (4, .bool false), (5, .string (bsT (putT V E S U (cores l)))), (6, .int .i64 (putE V E S U (cores l))), (7, .pointer (some ⟨w17.heap.size, 0, none⟩)), (8, .int .i64 0), (10, .int .i64 6), (15, .bool (!b1)), (23, .bool ((putE V E S U (cores l)) != 0)), (31, .bool ((((putT V E S U (cores l)).length : Nat) : Int) == 0))] fun ρ => ?_
    refine zR ?_
    refine zS [(47, .string (bsT (putT V E S U (cores l)))), (48, .int .u8 ((b.toNat : Nat) : Int))] ?_
    have hz45 := hT0.size
    have lt46 := hB4.lt
    have lt47 := hB22.lt
    have lt48 := hB34.lt
    refine st (by rfl) (S_new (v := .slice (some ⟨w38.heap.size, 0, none⟩) 1 1) (ob := .cells #[.int .u8 ((b.toNat : Nat) : Int)] 5) (by kernel_rfl) fun w41 hT42 hs43 hB44 => ?_)
    replace hB44 : Blk w41 (w38.heap.size) 5 [.int .u8 ((b.toNat : Nat) : Int)] := hB44
    have hT0 := hT0.t0 hT42
    have hB4 := hB4.tch0 hT42
    have hTs1 := hTs1.tch0 hT42
    have hzL1 := Nat.le_trans hzL1 hT42.size
    have hB22 := hB22.tch0 hT42
    have hB34 := hB34.tch0 hT42
    refine stv (v := .string (bsT ([b]))) (by rfl) (R_b2s (l := [b]) (len := 1) (cap := 1) (by kernel_rfl) (by kernel_rfl) (by kernel_rfl) (by kernel_rfl) (rfl) (fun k u hk => by rw [Nat.zero_add, hB44.cell]; exact hk)) ?_
    refine stv (v := .string (bsT ((putT V E S U (cores l)) ++ ([b])))) (by rfl) (R_sadd (a := putT V E S U (cores l)) (b := [b]) (by kernel_rfl) (by kernel_rfl) (by first | omega | (simp only [List.length_append, List.length_cons, List.length_nil]; omega))) ?_
    refine zC (rd_err ((putT V E S U (cores l)) ++ ([b])) 5 _ (by rw [he]; exact enc_more b hm hx) (by decide)) ?_
    rintro _ w49 ⟨A51, c51, rfl, hT50⟩
    have hT0 := hT0.t0 hT50
    have hB4 := hB4.tch0 hT50
    have hTs1 := hTs1.tch0 hT50
    have hzL1 := Nat.le_trans hzL1 hT50.size
    have hB22 := hB22.tch0 hT50
    have hB34 := hB34.tch0 hT50
    have hB44 := hB44.tch0 hT50
    refine zS [(46, .tuple #[.agg #[.int .i64 0, .int .i64 0, .slice A51 0 c51, .int .i64 0, .int .i64 0], .int .i64 5]), (53, .agg #[.int .i64 0, .int .i64 0, .slice A51 0 c51, .int .i64 0, .int .i64 0]), (54, .int .i64 5)] ?_
    have hz56 := hT0.size
    have lt57 := hB4.lt
    have lt58 := hB22.lt
    have lt59 := hB34.lt
    have lt60 := hB44.lt
    refine st (by rfl) (S_new (v := .pointer (some ⟨w49.heap.size, 0, none⟩)) (ob := .cells #[.int .i64 0, .int .i64 0, .slice none 0 0, .int .i64 0, .int .i64 0] 25) (by kernel_rfl) fun w52 hT53 hs54 hB55 => ?_)
    replace hB55 : Blk w52 (w49.heap.size) 25 [.int .i64 0, .int .i64 0, .slice none 0 0, .int .i64 0, .int .i64 0] := hB55
    have hT0 := hT0.t0 hT53
    have hB4 := hB4.tch0 hT53
    have hTs1 := hTs1.tch0 hT53
    have hzL1 := Nat.le_trans hzL1 hT53.size
    have hB22 := hB22.tch0 hT53
    have hB34 := hB34.tch0 hT53
    have hB44 := hB44.tch0 hT53
    refine st (by rfl) (S_storeA (b := w49.heap.size) (j := 0) (cs := [.int .i64 0, .int .i64 0, .slice A51 0 c51, .int .i64 0, .int .i64 0]) (by kernel_rfl) (by kernel_rfl) (by kernel_rfl) (by simp [oneV]) hB55 (by simp) fun w61 hT62 hs63 hB55' => ?_)
    have hT0 := (hT0).then hT62 (fun c e => by have : c = w49.heap.size := e; omega)
    have hB4 := hB4.tch hT62 (fun e => by have : w.heap.size = w49.heap.size := e; omega)
    have hTs1 := hTs1.tchB hTb1 hT62 (fun c h1 h2 e => by have e : c = w49.heap.size := e; omega)
    have hzL1 := Nat.le_trans hzL1 hT62.size
    have hB22 := hB22.tch hT62 (fun e => by have : w17.heap.size = w49.heap.size := e; omega)
    have hB34 := hB34.tch hT62 (fun e => by have : w28.heap.size = w49.heap.size := e; omega)
    have hB44 := hB44.tch hT62 (hB44.ne hB55 (by decide))
    replace hB55 : Blk w61 w49.heap.size 25 [.int .i64 0, .int .i64 0, .slice A51 0 c51, .int .i64 0, .int .i64 0] := hB55'
    refine zS [(12, .int .i64 5)] ?_
    refine op_nil ?_
    refine W_seq ?_
    refine zF [(0, .agg #[.int .i64 V, .int .i64 E, .slice A l.length c, .int .i64 S, .int .i64 U]), (1, .int .u8 ((b.toNat : Nat) : Int)), (2, .pointer (some ⟨w.heap.size, 0, none⟩)), (4, .bool false), (5, .string (bsT (putT V E S U (cores l)))), (6, .int .i64 (putE V E S U (cores l))), (7, .pointer (some ⟨w17.heap.size, 0, none⟩)), (8, .int .i64 0), (10, .int .i64 6), (12, .int .i64 5), (15, .bool (!b1)), (23, .bool ((putE V E S U (cores l)) != 0)), (31, .bool ((((putT V E S U (cores l)).length : Nat) : Int) == 0))] fun ρ => ?_
    refine zR ?_
    refine st (by rfl) (S_val (v := .agg #[.int .i64 V, .int .i64 E, .slice A l.length c, .int .i64 S, .int .i64 U]) (R_loadA [.int .i64 V, .int .i64 E, .slice A l.length c, .int .i64 S, .int .i64 U] (by kernel_rfl) (by kernel_rfl) (by kernel_rfl) (fun k u hk => by rw [hB4.cell]; exact get_part _ 0 _ k u rfl hk)) ?_)
    refine st (by rfl) (S_val (v := .agg #[.int .i64 V, .int .i64 E, .slice A1 l1.length c1, .int .i64 S, .int .i64 U]) (R_loadA [.int .i64 V, .int .i64 E, .slice A1 l1.length c1, .int .i64 S, .int .i64 U] (by kernel_rfl) (by kernel_rfl) (by kernel_rfl) (fun k u hk => by rw [hB22.cell]; exact get_part _ 0 _ k u rfl hk)) ?_)
    refine zC (smS_ok V E S U A A1 c c1 l l1 _ (hR.tch0 hT0) hTs1 hcl1.symm) ?_
    rintro _ w64 ⟨rfl, hT65⟩
    have hT0 := hT0.t0 hT65
    have hB4 := hB4.tch0 hT65
    have hTs1 := hTs1.tch0 hT65
    have hzL1 := Nat.le_trans hzL1 hT65.size
    have hB22 := hB22.tch0 hT65
    have hB34 := hB34.tch0 hT65
    have hB44 := hB44.tch0 hT65
    have hB55 := hB55.tch0 hT65
    refine zS [(58, .bool true), (59, .int .i64 0), (60, .bool true), (61, .bool true), (62, .bool true), (63, .int .i64 6), (64, .bool true), (65, .bool true), (66, .bool true), (67, .int .i64 5), (68, .bool true), (69, .bool true), (70, .bool true)] ?_
    refine zC (awake_ok _) ?_
    rintro _ w66 ⟨rfl, hT67⟩
    have hT0 := hT0.t0 hT67
    have hB4 := hB4.tch0 hT67
    have hTs1 := hTs1.tch0 hT67
    have hzL1 := Nat.le_trans hzL1 hT67.size
    have hB22 := hB22.tch0 hT67
    have hB34 := hB34.tch0 hT67
    have hB44 := hB44.tch0 hT67
    have hB55 := hB55.tch0 hT67
    refine zS [(72, .bool true), (4, .bool true)] ?_
    refine op_nil ?_
    refine W_ret ?_
    exact ⟨_, Res_of (v := .bool true) (by kernel_rfl), ⟨rfl, hT0⟩⟩

end Go.Proofs.YtlkjhkennbdbnaaV

set_option linter.unusedVariables false
set_option linter.unusedSimpArgs false
namespace Go.Proofs.YtlkjhkennbdbnaaV
open Go Go.RowKit Go.Proofs Go.ChangeShapes Go.WideShapes Go.Deep Go.Joins
section
variable {H : Type} {enc : TypeId × Value → H} {P : Program} {w : World} {base : Nat} {spare : Nat → Bool} {held : Bool}
theorem array5 {α : Type} {cs : Array α} (h : cs.size = 5) : ∃ c0 c1 c2 c3 c4, cs = #[c0, c1, c2, c3, c4] := by
 obtain ⟨l⟩ := cs
 match l, h with
 | [c0, c1, c2, c3, c4], _ => exact ⟨c0, c1, c2, c3, c4, rfl⟩
theorem trod_struct6 {t : TypeId} {f0 f1 f2 f3 f4 f5 : Field} {fuel : Nat} {cs : List Value} {x : DataW H × List MemPlace} (ht : P.underlying t = some (.struct #[f0, f1, f2, f3, f4, f5])) (h : DataW.trod enc P w base spare held fuel t cs = some x) :
  ∃ y0 y1 y2 y3 y4 y5 n, cs.length = P.cellsOf t ∧ DataW.trod enc P w base spare held n f0.type ((cs.drop f0.offset).take (P.cellsOf f0.type)) = some y0 ∧ DataW.trod enc P w base spare held n f1.type ((cs.drop f1.offset).take (P.cellsOf f1.type)) = some y1 ∧ DataW.trod enc P w base spare held n f2.type ((cs.drop f2.offset).take (P.cellsOf f2.type)) = some y2 ∧ DataW.trod enc P w base spare held n f3.type ((cs.drop f3.offset).take (P.cellsOf f3.type)) = some y3 ∧ DataW.trod enc P w base spare held n f4.type ((cs.drop f4.offset).take (P.cellsOf f4.type)) = some y4 ∧ DataW.trod enc P w base spare held n f5.type ((cs.drop f5.offset).take (P.cellsOf f5.type)) = some y5 := by
 obtain ⟨xs, n, _, rfl, hl, hlen, hf⟩ := DataW.trod_struct ht h
 match xs, hlen with
 | [y0, y1, y2, y3, y4, y5], _ => exact ⟨y0, y1, y2, y3, y4, y5, n, hl, by simpa using hf 0 f0 rfl, by simpa using hf 1 f1 rfl, by simpa using hf 2 f2 rfl, by simpa using hf 3 f3 rfl, by simpa using hf 4 f4 rfl, by simpa using hf 5 f5 rfl⟩
theorem trod_struct5 {t : TypeId} {f0 f1 f2 f3 f4 : Field} {fuel : Nat} {cs : List Value} {x : DataW H × List MemPlace} (ht : P.underlying t = some (.struct #[f0, f1, f2, f3, f4])) (h : DataW.trod enc P w base spare held fuel t cs = some x) :
  ∃ y0 y1 y2 y3 y4 n, cs.length = P.cellsOf t ∧ DataW.trod enc P w base spare held n f0.type ((cs.drop f0.offset).take (P.cellsOf f0.type)) = some y0 ∧ DataW.trod enc P w base spare held n f1.type ((cs.drop f1.offset).take (P.cellsOf f1.type)) = some y1 ∧ DataW.trod enc P w base spare held n f2.type ((cs.drop f2.offset).take (P.cellsOf f2.type)) = some y2 ∧ DataW.trod enc P w base spare held n f3.type ((cs.drop f3.offset).take (P.cellsOf f3.type)) = some y3 ∧ DataW.trod enc P w base spare held n f4.type ((cs.drop f4.offset).take (P.cellsOf f4.type)) = some y4 := by
 obtain ⟨xs, n, _, rfl, hl, hlen, hf⟩ := DataW.trod_struct ht h
 match xs, hlen with
 | [y0, y1, y2, y3, y4], _ => exact ⟨y0, y1, y2, y3, y4, n, hl, by simpa using hf 0 f0 rfl, by simpa using hf 1 f1 rfl, by simpa using hf 2 f2 rfl, by simpa using hf 3 f3 rfl, by simpa using hf 4 f4 rfl⟩
end
theorem cell_ltU {W : World} {b k : Nat} {u : Value} (h : W.cell? ⟨b, k, none⟩ = some u) : b < W.heap.size := by
 rcases Nat.lt_or_ge b W.heap.size with q | q
 ·
  exact q
 ·
  unfold World.cell? at h
  rw [Array.getElem?_eq_none q] at h
  simp at h
theorem add_add (a : Addr) (i j : Nat) : (a.add i).add j = a.add (i + j) := by
 unfold Addr.add
 by_cases hj : j = 0
 ·
  subst hj; simp
 ·
  by_cases hi : i = 0
  ·
   subst hi; simp
  ·
   rw [if_neg hj, if_neg hi, if_neg (by omega : ¬ i + j = 0)]
   simp [Nat.add_assoc]
theorem rdN {W : World} {sz len : Nat} {a : Addr} {cells : List Value} (hsz : 0 < sz) (hl : cells.length = len * sz) (hm : len ≤ 9223372036854775807) (hV : ∀ k u, cells[k]? = some u → W.cell? (a.add k) = some u) : RdW W sz len (some a) cells := by
 refine ⟨hl, hm, fun hn => ?_⟩
 have h0 : 0 < cells.length := by rw [hl]; exact Nat.mul_pos hn hsz
 have hc := hV 0 _ (List.getElem?_eq_getElem h0)
 have hsp : a.spot = none := by
  have e : a.add 0 = a := by simp [Addr.add]
  rw [e] at hc
  unfold World.cell? at hc
  split at hc
  ·
   split at hc
   ·
    cases hc
   ·
    rename_i hh; simpa using hh
  ·
   cases hc
 obtain ⟨b, off, spot⟩ := a
 simp only at hsp
 subst hsp
 have hc' : W.cell? ⟨b, off + 0, none⟩ = some cells[0] := by simpa only [add_at] using hc
 exact ⟨b, off, rfl, cell_ltU hc', fun k u hk => by have := hV k u hk; simpa only [add_at] using this⟩
section
variable {H : Type} {enc : TypeId × Value → H} {W : World} {sp : Nat → Bool}
theorem open_in {fuel : Nat} {c : Value} {y : DataW H × List MemPlace} (h : DataW.trod enc Try.prog W 0 sp true fuel 39 [c] = some y) : ∃ (L : Option Addr) (cl : Nat) (inp : Tx), c = .slice L inp.length cl ∧ RdW W 1 inp.length L (u8s inp) := by
 rcases open_slice1 Try.underlying39 (by kernel_rfl) h with ⟨e, _⟩ | ⟨a, len, cap, m, n, V, D, Pl, e, _, hl, hcm, hmm, _, hx⟩
 ·
  injection e with e
  exact ⟨none, 0, [], e, RdW.nil_ _ _ _⟩
 ·
  injection e with e
  have hlm : len ≤ m := by rw [hmm]; split <;> omega
  have key : ∀ i, ∃ x : Nat, i < len → V i = .int .u8 ((x : Nat) : Int) ∧ x < 256 := by
   intro i
   by_cases hi : i < len
   ·
    obtain ⟨_, h2⟩ := hx i (by omega)
    obtain ⟨x, ex, _, wx⟩ := DataW.trod_int Try.underlying5 h2
    have ex' : [V i] = [Value.int .u8 x] := ex
    injection ex' with ex'
    have hb := bounds_u8 wx
    exact ⟨x.toNat, fun _ => ⟨by rw [ex']; congr 1; omega, by omega⟩⟩
   ·
    exact ⟨0, fun q => absurd q hi⟩
  obtain ⟨f, hf⟩ := Classical.skolem.1 key
  refine ⟨some a, cap, (List.range len).map (fun i => UInt8.ofNat (f i)), by rw [e]; simp, ?_⟩
  have hlen : ((List.range len).map (fun i => UInt8.ofNat (f i))).length = len := by simp
  rw [hlen]
  refine rdN (by decide) (by rw [u8s_length, hlen]; omega) (by simp only [maxLen] at hcm; omega) fun k u hk => ?_
  have hk2 : k < len := by
   rcases Nat.lt_or_ge k len with q | q
   ·
    exact q
   ·
    rw [List.getElem?_eq_none (by rw [u8s_length, hlen]; exact q)] at hk; cases hk
  rw [u8s_at (by rw [hlen]; exact hk2)] at hk
  rw [(hx k (by omega)).1, (hf k hk2).1, ← hk]
  have e1 : ((List.range len).map (fun i => UInt8.ofNat (f i))).getD k 0 = UInt8.ofNat (f k) := by
   rw [List.getD_eq_getElem?_getD, List.getElem?_map, List.getElem?_range hk2]; rfl
  rw [e1, UInt8.toNat_ofNat']
  have := (hf k hk2).2
  rw [show f k % 2 ^ 8 = f k from Nat.mod_eq_of_lt (by omega)]
theorem open_im {fuel : Nat} {c : Value} {y : DataW H × List MemPlace} (h : DataW.trod enc Try.prog W 0 sp true fuel 41 [c] = some y) : ∃ (L : Option Addr) (cl : Nat) (img : List Nat), c = .slice L img.length cl ∧ RdW W 1 img.length L (u64s img) ∧ ∀ x, x ∈ img → x < 18446744073709551616 := by
 rcases open_slice1 Try.underlying41 (by kernel_rfl) h with ⟨e, _⟩ | ⟨a, len, cap, m, n, V, D, Pl, e, _, hl, hcm, hmm, _, hx⟩
 ·
  injection e with e
  exact ⟨none, 0, [], e, RdW.nil_ _ _ _, fun x hx => by cases hx⟩
 ·
  injection e with e
  have hlm : len ≤ m := by rw [hmm]; split <;> omega
  have key : ∀ i, ∃ x : Nat, i < len → V i = .int .u64 ((x : Nat) : Int) ∧ x < 18446744073709551616 := by
   intro i
   by_cases hi : i < len
   ·
    obtain ⟨_, h2⟩ := hx i (by omega)
    obtain ⟨x, ex, _, wx⟩ := DataW.trod_int Try.underlying44 h2
    have ex' : [V i] = [Value.int .u64 x] := ex
    injection ex' with ex'
    have hb := bounds_u64 wx
    exact ⟨x.toNat, fun _ => ⟨by rw [ex']; congr 1; omega, by omega⟩⟩
   ·
    exact ⟨0, fun q => absurd q hi⟩
  obtain ⟨f, hf⟩ := Classical.skolem.1 key
  refine ⟨some a, cap, (List.range len).map f, by rw [e]; simp, ?_, fun x hx => ?_⟩
  ·
   have hlen : ((List.range len).map f).length = len := by simp
   rw [hlen]
   refine rdN (by decide) (by rw [u64s_length, hlen]; omega) (by simp only [maxLen] at hcm; omega) fun k u hk => ?_
   have hk2 : k < len := by
    rcases Nat.lt_or_ge k len with q | q
    ·
     exact q
    ·
     rw [List.getElem?_eq_none (by rw [u64s_length, hlen]; exact q)] at hk; cases hk
   rw [u64s_at (by rw [hlen]; exact hk2)] at hk
   rw [(hx k (by omega)).1, (hf k hk2).1, ← hk]
   have e1 : ((List.range len).map f).getD k 0 = f k := by
    rw [List.getD_eq_getElem?_getD, List.getElem?_map, List.getElem?_range hk2]; rfl
   rw [e1]
  ·
   rw [List.mem_map] at hx
   obtain ⟨i, hi, rfl⟩ := hx
   exact (hf i (List.mem_range.1 hi)).2
set_option maxRecDepth 100000 in
theorem open_ts {fuel : Nat} {c : Value} {y : DataW H × List MemPlace} (h : DataW.trod enc Try.prog W 0 sp true fuel 23 [c] = some y) : ∃ (A : Option Addr) (cl : Nat) (l : List T6), c = .slice A l.length cl ∧ TsW W A l := by
 rcases open_slice Try.underlying23 h with ⟨e, _⟩ | ⟨a, len, cap, m, n, D, Pl, e, _, hl, hcm, hmm, _, hx⟩
 ·
  injection e with e
  exact ⟨none, 0, [], e, TsW.nil_ _ _⟩
 ·
  injection e with e
  have hlm : len ≤ m := by rw [hmm]; split <;> omega
  have key : ∀ i, ∃ u : T6, i < len → (∀ k v, (tc u)[k]? = some v → W.cell? ((a.add (i * 6)).add k) = some v) ∧ TmW W u := by
   intro i
   by_cases hi : i < len
   ·
    obtain ⟨cs, h1, h2⟩ := hx i (by omega)
    obtain ⟨_, hcl, hc⟩ := World.cells?_some h1
    obtain ⟨y0, y1, y2, y3, y4, y5, k, _, t0, t1, t2, t3, t4, t5⟩ := trod_struct6 Try.underlying43 h2
    have hcl6 : cs.length = 6 := hcl
    obtain ⟨c0, c1, c2, c3, c4, c5, rfl⟩ : ∃ c0 c1 c2 c3 c4 c5, cs = [c0, c1, c2, c3, c4, c5] := by
     match cs, hcl6 with
     | [c0, c1, c2, c3, c4, c5], _ => exact ⟨c0, c1, c2, c3, c4, c5, rfl⟩
    obtain ⟨iA, iC, inp, rfl, hri⟩ := open_in (c := c0) t0
    obtain ⟨q1, e1, _, w1⟩ := DataW.trod_int Try.underlying3 t1
    have e1' : [c1] = [Value.int .i64 q1] := e1
    injection e1' with e1'
    subst e1'
    obtain ⟨q2, e2, _, w2⟩ := DataW.trod_int Try.underlying3 t2
    have e2' : [c2] = [Value.int .i64 q2] := e2
    injection e2' with e2'
    subst e2'
    obtain ⟨gA, gC, img, rfl, hrg, hgl⟩ := open_im (c := c3) t3
    obtain ⟨q4, e4, _, w4⟩ := DataW.trod_int Try.underlying3 t4
    have e4' : [c4] = [Value.int .i64 q4] := e4
    injection e4' with e4'
    subst e4'
    obtain ⟨q5, e5, _, w5⟩ := DataW.trod_int Try.underlying3 t5
    have e5' : [c5] = [Value.int .i64 q5] := e5
    injection e5' with e5'
    subst e5'
    refine ⟨⟨iA, iC, inp, q1, q2, gA, gC, img, q4, q5⟩, fun _ => ⟨fun k v hk => ?_, ⟨hri, hrg, ⟨bounds_i64 w1, bounds_i64 w2, bounds_i64 w4, bounds_i64 w5, hgl⟩⟩⟩⟩
    have hk6 : k < 6 := by
     rcases Nat.lt_or_ge k 6 with q | q
     ·
      exact q
     ·
      rw [List.getElem?_eq_none (by simpa [tc] using q)] at hk; cases hk
    have hck := hc k hk6
    rw [show i * Try.prog.cellsOf 43 = i * 6 from rfl] at hck
    rw [hck]
    exact hk
   ·
    exact ⟨t60, fun q => absurd q hi⟩
  obtain ⟨f, hf⟩ := Classical.skolem.1 key
  have hlen : ((List.range len).map f).length = len := by simp
  have htq : ∀ i, i < len → tq ((List.range len).map f) i = f i := by
   intro i hi
   unfold tq
   rw [List.getD_eq_getElem?_getD, List.getElem?_map, List.getElem?_range hi]; rfl
  refine ⟨some a, cap, (List.range len).map f, by rw [e, hlen], ?_, fun t ht => ?_⟩
  ·
   rw [hlen]
   refine rdN (by decide) (by rw [tcs_length, hlen]) (by simp only [maxLen] at hcm; omega) fun k u hk => ?_
   have hk2 : k < len * 6 := by
    rcases Nat.lt_or_ge k (len * 6) with q | q
    ·
     exact q
    ·
     rw [List.getElem?_eq_none (by rw [tcs_length, hlen]; exact q)] at hk; cases hk
   have hi : k / 6 < len := by omega
   have h6 : (tc (f (k / 6))).length = 6 := rfl
   have hlt : k % 6 < (tc (f (k / 6))).length := by rw [h6]; omega
   have hp := tcs_part ((List.range len).map f) (i := k / 6) (by rw [hlen]; exact hi) (k % 6) _ (by rw [htq _ hi]; exact List.getElem?_eq_getElem hlt)
   rw [show k / 6 * 6 + k % 6 = k by omega, hk] at hp
   injection hp with hp
   have hc := (hf (k / 6) hi).1 (k % 6) _ (List.getElem?_eq_getElem hlt)
   have ea : (a.add (k / 6 * 6)).add (k % 6) = a.add k := by
    rw [add_add, show k / 6 * 6 + k % 6 = k by omega]
   rw [ea] at hc
   rw [hp, ← hc]
  ·
   rw [List.mem_map] at ht
   obtain ⟨i, hi, rfl⟩ := ht
   exact (hf i (List.mem_range.1 hi)).2
set_option maxRecDepth 100000 in
theorem open_report {r : Reach} {b0 : Nat} {v : Value} {d : DataW H} {ps : List MemPlace} (hv : Value.okWide Try.prog W r b0 25 v) (h : DataW.Trod enc Try.prog W 0 sp true 25 v d ps) :
  ∃ (V E S U : Int) (A : Option Addr) (c : Nat) (l : List T6), v = .agg #[.int .i64 V, .int .i64 E, .slice A l.length c, .int .i64 S, .int .i64 U] ∧ TsW W A l ∧ (b64 E ∧ b64 S ∧ b64 U) := by
 obtain ⟨cs, rfl, hsz⟩ := okWide_struct Try.underlying25 hv
 obtain ⟨c0, c1, c2, c3, c4, rfl⟩ := array5 (hsz.trans (by kernel_rfl))
 obtain ⟨fuel, hf⟩ := h
 obtain ⟨y0, y1, y2, y3, y4, n, _, t0, t1, t2, t3, t4⟩ := trod_struct5 Try.underlying25 hf
 obtain ⟨q0, e0, _, w0⟩ := DataW.trod_int Try.underlying3 t0
 have e0' : [c0] = [Value.int .i64 q0] := e0
 injection e0' with e0'
 subst e0'
 obtain ⟨q1, e1, _, w1⟩ := DataW.trod_int Try.underlying22 t1
 have e1' : [c1] = [Value.int .i64 q1] := e1
 injection e1' with e1'
 subst e1'
 obtain ⟨A, cl, l, rfl, hT⟩ := open_ts (c := c2) t2
 obtain ⟨q3, e3, _, w3⟩ := DataW.trod_int Try.underlying3 t3
 have e3' : [c3] = [Value.int .i64 q3] := e3
 injection e3' with e3'
 subst e3'
 obtain ⟨q4, e4, _, w4⟩ := DataW.trod_int Try.underlying3 t4
 have e4' : [c4] = [Value.int .i64 q4] := e4
 injection e4' with e4'
 subst e4'
 exact ⟨q0, q1, q3, q4, A, cl, l, rfl, hT, ⟨bounds_i64 w1, bounds_i64 w3, bounds_i64 w4⟩⟩
end
end Go.Proofs.YtlkjhkennbdbnaaV

set_option linter.unusedVariables false
set_option linter.unusedSimpArgs false
namespace Go.Proofs.YtlkjhkennbdbnaaV
open Go Go.RowKit Go.Proofs

theorem of_u8 {x : Int} (h : 0 ≤ x ∧ x ≤ 255) : ∃ b : UInt8, x = ((b.toNat : Nat) : Int) := by
 refine ⟨UInt8.ofNat x.toNat, ?_⟩
 rw [UInt8.toNat_ofNat']
 rw [show x.toNat % 2 ^ 8 = x.toNat from Nat.mod_eq_of_lt (by omega)]
 omega

end Go.Proofs.YtlkjhkennbdbnaaV
