/- Texts laid together: Walks of functions of the program and of the document's texts. The conditions stand with each theorem. Walks of functions of the program and of the document's texts. The conditions stand with each theorem. An argument that is a report, opened. Walks of functions of the program and of the document's texts. The conditions stand with each theorem. -/
import Derived.Test.YtlkjhkennbdbnaaJRrepo61x1
import Derived.Test.YtlkjhkennbdbnaaProg
import Derived.Test.YtlkjhkennbdbnaaJRrepo61x8
import Derived.WideShapes
import Derived.ProofKit
import Derived.OpenShut
import Derived.Deep.Slices
import Derived.Deep.Strs
import Derived.Lib.SmallJoins
set_option linter.unusedVariables false
set_option linter.unusedSimpArgs false
namespace Go.Proofs.YtlkjhkennbdbnaaV
open Go Go.RowKit Go.Proofs

def u9 (a b : Nat) : T6 := ⟨some ⟨a, 0, none⟩, 1, [7], 1, 0, some ⟨b, 0, none⟩, 1, [9], 1, 0⟩
def c9 : Co := ([7], 1, 0, [9], 1, 0)
theorem wf9 (a b : Nat) : wfT (u9 a b) := by
 refine ⟨?_, ?_, ?_, ?_, ?_⟩
 ·
  show b64 1; unfold b64; decide
 ·
  show b64 0; unfold b64; decide
 ·
  show b64 1; unfold b64; decide
 ·
  show b64 0; unfold b64; decide
 ·
  intro x hx
  have hx : x ∈ [9] := hx
  rw [List.mem_singleton] at hx; rw [hx]; decide
theorem ts9 {w : World} {a b r : Nat} (h1 : Blk w a 5 [.int .u8 7]) (h2 : Blk w b 44 [.int .u64 9]) (h3 : Blk w r 43 [.slice (some ⟨a, 0, none⟩) 1 1, .int .i64 1, .int .i64 0, .slice (some ⟨b, 0, none⟩) 1 1, .int .i64 1, .int .i64 0]) : TsW w (some ⟨r, 0, none⟩) [u9 a b] := by
 refine ⟨h3.rd 6 1 rfl (by decide), fun t ht => ?_⟩
 rw [List.mem_singleton] at ht
 subst ht
 exact ⟨h1.rd 1 1 rfl (by decide), h2.rd 1 1 rfl (by decide), wf9 a b⟩
theorem tb9 {a b r m : Nat} (ha : a < m) (hb : b < m) (hr : r < m) : TsB (some ⟨r, 0, none⟩) [u9 a b] 0 m := by
 refine ⟨fun _ k o s e => ?_, fun t ht k hk => ?_⟩
 ·
  injection e with e; injection e with e; omega
 ·
  rw [List.mem_singleton] at ht
  subst ht
  rcases hk with ⟨_, o, s, e⟩ | ⟨_, o, s, e⟩
  ·
   have e : some (⟨a, 0, none⟩ : Addr) = some ⟨k, o, s⟩ := e
   injection e with e; injection e with e; omega
  ·
   have e : some (⟨b, 0, none⟩ : Addr) = some ⟨k, o, s⟩ := e
   injection e with e; injection e with e; omega
theorem aw1 (w : World) : Ret Try.prog 8 [.agg #[.int .i64 1, .int .i64 0, .slice none 0 0, .int .i64 1, .int .i64 0]] w fun v w' => v = .tuple #[.string (bsT [1, 0, 0, 0, 0, 1, 0, 0, 0, 0, 0, 0]), .int .i64 0] ∧ Tch N0 w w' := by
 have q := put_ok 1 0 1 0 none 0 [] w (TsW.nil_ _ _)
 rw [show putT 1 0 1 0 (cores []) = [1, 0, 0, 0, 0, 1, 0, 0, 0, 0, 0, 0] by decide, show putE 1 0 1 0 (cores []) = 0 by decide] at q
 exact q
theorem aw2 (a b r : Nat) (w : World) (h : TsW w (some ⟨r, 0, none⟩) [u9 a b]) : Ret Try.prog 8 [.agg #[.int .i64 2, .int .i64 0, .slice (some ⟨r, 0, none⟩) 1 1, .int .i64 0, .int .i64 0]] w fun v w' => v = .tuple #[.string (bsT [2, 0, 0, 0, 0, 0, 0, 0, 0, 0, 0, 1, 1, 7, 0, 1, 0, 0, 0, 0, 1, 1, 0, 0, 0, 0, 0, 0, 0, 9]), .int .i64 0] ∧ Tch N0 w w' := by
 have q := put_ok 2 0 0 0 (some ⟨r, 0, none⟩) 1 [u9 a b] w h
 have e : cores [u9 a b] = [c9] := rfl
 rw [e, show putT 2 0 0 0 [c9] = [2, 0, 0, 0, 0, 0, 0, 0, 0, 0, 0, 1, 1, 7, 0, 1, 0, 0, 0, 0, 1, 1, 0, 0, 0, 0, 0, 0, 0, 9] by decide, show putE 2 0 0 0 [c9] = 0 by decide] at q
 exact q
theorem aw3 (w : World) : Ret Try.prog 8 [.agg #[.int .i64 4, .int .i64 0, .slice none 0 0, .int .i64 0, .int .i64 0]] w fun v w' => v = .tuple #[.string (bsT []), .int .i64 4] ∧ Tch N0 w w' := by
 have q := put_ok 4 0 0 0 none 0 [] w (TsW.nil_ _ _)
 rw [show putT 4 0 0 0 (cores []) = [] by decide, show putE 4 0 0 0 (cores []) = 4 by decide] at q
 exact q
theorem cores_nil {l : List T6} (h : cores l = []) : l = [] := List.eq_nil_of_length_eq_zero (by rw [← cores_length, h]; rfl)
theorem rd_err (s : Tx) (K : Int) (w : World) (h : code s = K) (hK : K ≠ 0) : Ret Try.prog 14 [.string (bsT s)] w fun v w' => ∃ A c, v = .tuple #[.agg #[.int .i64 0, .int .i64 0, .slice A 0 c, .int .i64 0, .int .i64 0], .int .i64 K] ∧ Tch N0 w w' := by
 refine (read_ok s w).mono ?_
 rintro v w' ⟨A, c, l, rfl, _, hc, _, hT⟩
 have hr := rep_f (s := s) (by rw [h]; exact hK)
 rw [hr.2.2.2.2] at hc
 have := cores_nil hc
 subst this
 exact ⟨A, c, by rw [h, hr.1, hr.2.1, hr.2.2.1, hr.2.2.2.1]; rfl, hT⟩
theorem rd9 (w : World) : Ret Try.prog 14 [.string (bsT [2, 0, 0, 0, 0, 0, 0, 0, 0, 0, 0, 1, 1, 7, 0, 1, 0, 0, 0, 0, 1, 1, 0, 0, 0, 0, 0, 0, 0, 9])] w fun v w' => ∃ A c l, v = .tuple #[.agg #[.int .i64 2, .int .i64 0, .slice A l.length c, .int .i64 0, .int .i64 0], .int .i64 0] ∧ TsW w' A l ∧ cores l = [c9] ∧ TsB A l w.heap.size w'.heap.size ∧ Tch N0 w w' := by
 have he := enc_rep (V := 2) (E := 0) (S := 0) (U := 0) (l := [c9]) (by decide) (fun c hc x hx => by
  rw [List.mem_singleton] at hc; subst hc
  have hx : x ∈ [9] := hx
  rw [List.mem_singleton] at hx; rw [hx]; decide)
 have es : encR 2 0 0 0 [c9] = [2, 0, 0, 0, 0, 0, 0, 0, 0, 0, 0, 1, 1, 7, 0, 1, 0, 0, 0, 0, 1, 1, 0, 0, 0, 0, 0, 0, 0, 9] := by decide
 rw [es] at he
 obtain ⟨e0, e1, e2, e3, e4, e5⟩ := he
 refine (read_ok _ w).mono ?_
 rintro v w' ⟨A, c, l, rfl, h1, h2, h3, h4⟩
 exact ⟨A, c, l, by rw [e0, e1, e2, e3, e4], h1, by rw [h2, e5], h3, h4⟩
theorem sm9 (A B : Option Addr) (ca cb a b : Nat) (l : List T6) (w : World) (hl : TsW w A l) (hc : cores l = [c9]) (h9 : TsW w B [u9 a b]) : Ret Try.prog 12 [.agg #[.int .i64 2, .int .i64 0, .slice A l.length ca, .int .i64 0, .int .i64 0], .agg #[.int .i64 2, .int .i64 0, .slice B 1 cb, .int .i64 0, .int .i64 0]] w fun v w' => v = .bool true ∧ Tch N0 w w' := by
 have q := same_ok 2 0 0 0 2 0 0 0 A B ca cb l [u9 a b] w hl h9
 rw [hc, show sameR 2 0 0 0 [c9] 2 0 0 0 (cores [u9 a b]) = true by rfl] at q
 exact q
theorem sm0 (A : Option Addr) (ca : Nat) (l : List T6) (w : World) (hl : TsW w A l) : Ret Try.prog 12 [.agg #[.int .i64 2, .int .i64 0, .slice A l.length ca, .int .i64 0, .int .i64 0], .agg #[.int .i64 0, .int .i64 0, .slice none 0 0, .int .i64 0, .int .i64 0]] w fun v w' => v = .bool false ∧ Tch N0 w w' := by
 have q := same_ok 2 0 0 0 0 0 0 0 A none ca 0 l [] w hl (TsW.nil_ _ _)
 rw [show sameR 2 0 0 0 (cores l) 0 0 0 0 (cores []) = false by unfold sameR; rw [decide_eq_false (by decide), Bool.false_and]] at q
 exact q
theorem sg0 : sgn 0 = [48] := by unfold sgn; rw [if_neg (by decide)]; exact dgs_lo (by decide)
theorem sg1 : sgn 1 = [49] := by unfold sgn; rw [if_neg (by decide)]; exact dgs_lo (by decide)
theorem sg18 : sgn 18 = [49, 56] := by
 unfold sgn; rw [if_neg (by decide)]
 show dgs 18 = _
 rw [dgs_hi (by decide), show 18 / 10 = 1 by rfl, dgs_lo (by decide)]; rfl
theorem tx1 (a b r : Nat) (w : World) (h : TsW w (some ⟨r, 0, none⟩) [u9 a b]) : Ret Try.prog 10 [.agg #[.int .i64 2, .int .i64 0, .slice (some ⟨r, 0, none⟩) 1 1, .int .i64 0, .int .i64 0]] w fun v w' => v = .string (bsT [118, 105, 111, 108, 97, 116, 105, 111, 110, 32, 48, 32, 48, 10, 112, 111, 105, 110, 116, 32, 49, 32, 109, 97, 115, 107, 32, 48, 32, 107, 105, 110, 100, 32, 49, 32, 99, 111, 100, 101, 32, 48, 32, 105, 110, 112, 117, 116, 32, 55, 32, 105, 109, 97, 103, 101, 32, 57, 10]) ∧ Tch N0 w w' := by
 have q := text_ok 2 0 0 0 (some ⟨r, 0, none⟩) 1 [u9 a b] w h ⟨show 1 ≤ 60 by decide, fun t ht => by rw [List.mem_singleton] at ht; subst ht; exact ⟨show 1 ≤ 300 by decide, show 1 ≤ 300 by decide⟩⟩ (by unfold b64; decide)
 have e : textR 2 0 0 0 (cores [u9 a b]) = [118, 105, 111, 108, 97, 116, 105, 111, 110, 32, 48, 32, 48, 10, 112, 111, 105, 110, 116, 32, 49, 32, 109, 97, 115, 107, 32, 48, 32, 107, 105, 110, 100, 32, 49, 32, 99, 111, 100, 101, 32, 48, 32, 105, 110, 112, 117, 116, 32, 55, 32, 105, 109, 97, 103, 101, 32, 57, 10] := by
  show textR 2 0 0 0 [([7], 1, 0, [9], 1, 0)] = _
  unfold textR hdX lineT lineB lineA
  simp only [List.flatMap_cons, List.flatMap_nil, sg0, sg1, List.length_cons, List.length_nil, List.take]
  rw [if_neg (by decide)]
  have d7 : dgs (7 : UInt8).toNat = [55] := dgs_lo (by decide)
  have d9 : dgs 9 = [57] := dgs_lo (by decide)
  simp only [d7, d9, List.take, Nat.zero_add, List.flatMap_cons, List.flatMap_nil]
  rfl
 rw [e] at q
 exact q
theorem tx2 (w : World) : Ret Try.prog 10 [.agg #[.int .i64 0, .int .i64 18, .slice none 0 0, .int .i64 0, .int .i64 0]] w fun v w' => v = .string (bsT [114, 101, 106, 101, 99, 116, 101, 100, 32, 49, 56, 32, 48, 32, 48, 10]) ∧ Tch N0 w w' := by
 have q := text_ok 0 18 0 0 none 0 [] w (TsW.nil_ _ _) ⟨by decide, fun t ht => by cases ht⟩ (by unfold b64; decide)
 have e : textR 0 18 0 0 (cores []) = [114, 101, 106, 101, 99, 116, 101, 100, 32, 49, 56, 32, 48, 32, 48, 10] := by
  unfold textR hdX
  rw [if_pos rfl, sg18, sg0]; rfl
 rw [e] at q
 exact q

set_option maxRecDepth 100000 in
set_option maxHeartbeats 2000000 in
theorem awake_ok (w : World) : Ret Try.prog 7 [] w fun v w' => v = .bool true ∧ Tch N0 w w' := by
 refine enter Try.func7 rfl rfl ?_
 refine zQ ?_
 refine zS [(0, .bool false)] ?_
 refine op_nil ?_
 refine zQ ?_
 refine zS [(17, .agg #[.int .i64 1, .int .i64 0, .slice none 0 0, .int .i64 1, .int .i64 0])] ?_
 refine zC (aw1 _) ?_
 rintro _ w1 ⟨rfl, hT2⟩
 have hT0 := hT2
 refine zS [(16, .tuple #[.string (bsT ([1, 0, 0, 0, 0, 1, 0, 0, 0, 0, 0, 0])), .int .i64 0]), (19, .string (bsT ([1, 0, 0, 0, 0, 1, 0, 0, 0, 0, 0, 0]))), (20, .int .i64 0), (1, .string (bsT ([1, 0, 0, 0, 0, 1, 0, 0, 0, 0, 0, 0]))), (2, .int .i64 0)] ?_
 refine op_nil ?_
 refine W_seq ?_
 refine zF [(0, .bool false), (1, .string (bsT ([1, 0, 0, 0, 0, 1, 0, 0, 0, 0, 0, 0]))), (2, .int .i64 0)] fun ρ => ?_
 refine zR ?_
 have hz7 := hT0.size
 refine st (by rfl) (S_new (v := .slice (some ⟨w1.heap.size, 0, none⟩) 1 1) (ob := .cells #[.int .u8 7] 5) (by kernel_rfl) fun w3 hT4 hs5 hB6 => ?_)
 replace hB6 : Blk w3 (w1.heap.size) 5 [.int .u8 7] := hB6
 have hT0 := hT0.t0 hT4
 have hz12 := hT0.size
 have lt13 := hB6.lt
 refine st (by rfl) (S_new (v := .slice (some ⟨w3.heap.size, 0, none⟩) 1 1) (ob := .cells #[.int .u64 9] 44) (by kernel_rfl) fun w8 hT9 hs10 hB11 => ?_)
 replace hB11 : Blk w8 (w3.heap.size) 44 [.int .u64 9] := hB11
 have hT0 := hT0.t0 hT9
 have hB6 := hB6.tch0 hT9
 refine zS [(23, .agg #[.slice (some ⟨w1.heap.size, 0, none⟩) 1 1, .int .i64 1, .int .i64 0, .slice (some ⟨w3.heap.size, 0, none⟩) 1 1, .int .i64 1, .int .i64 0])] ?_
 have hz18 := hT0.size
 have lt19 := hB6.lt
 have lt20 := hB11.lt
 refine st (by rfl) (S_new (v := .slice (some ⟨w8.heap.size, 0, none⟩) 1 1) (ob := .cells #[.slice (some ⟨w1.heap.size, 0, none⟩) 1 1, .int .i64 1, .int .i64 0, .slice (some ⟨w3.heap.size, 0, none⟩) 1 1, .int .i64 1, .int .i64 0] 43) (by kernel_rfl) fun w14 hT15 hs16 hB17 => ?_)
 replace hB17 : Blk w14 (w8.heap.size) 43 [.slice (some ⟨w1.heap.size, 0, none⟩) 1 1, .int .i64 1, .int .i64 0, .slice (some ⟨w3.heap.size, 0, none⟩) 1 1, .int .i64 1, .int .i64 0] := hB17
 have hT0 := hT0.t0 hT15
 have hB6 := hB6.tch0 hT15
 have hB11 := hB11.tch0 hT15
 refine zS [(25, .agg #[.int .i64 2, .int .i64 0, .slice (some ⟨w8.heap.size, 0, none⟩) 1 1, .int .i64 0, .int .i64 0])] ?_
 have hz25 := hT0.size
 have lt26 := hB6.lt
 have lt27 := hB11.lt
 have lt28 := hB17.lt
 refine st (by rfl) (S_new (v := .pointer (some ⟨w14.heap.size, 0, none⟩)) (ob := .cells #[.int .i64 0, .int .i64 0, .slice none 0 0, .int .i64 0, .int .i64 0] 25) (by kernel_rfl) fun w21 hT22 hs23 hB24 => ?_)
 replace hB24 : Blk w21 (w14.heap.size) 25 [.int .i64 0, .int .i64 0, .slice none 0 0, .int .i64 0, .int .i64 0] := hB24
 have hT0 := hT0.t0 hT22
 have hB6 := hB6.tch0 hT22
 have hB11 := hB11.tch0 hT22
 have hB17 := hB17.tch0 hT22
 refine st (by rfl) (S_storeA (b := w14.heap.size) (j := 0) (cs := [.int .i64 2, .int .i64 0, .slice (some ⟨w8.heap.size, 0, none⟩) 1 1, .int .i64 0, .int .i64 0]) (by kernel_rfl) (by kernel_rfl) (by kernel_rfl) (by simp [oneV]) hB24 (by simp) fun w29 hT30 hs31 hB24' => ?_)
 have hT0 := (hT0).then hT30 (fun c e => by have : c = w14.heap.size := e; omega)
 have hB6 := hB6.tch hT30 (hB6.ne hB24 (by decide))
 have hB11 := hB11.tch hT30 (hB11.ne hB24 (by decide))
 have hB17 := hB17.tch hT30 (hB17.ne hB24 (by decide))
 replace hB24 : Blk w29 w14.heap.size 25 [.int .i64 2, .int .i64 0, .slice (some ⟨w8.heap.size, 0, none⟩) 1 1, .int .i64 0, .int .i64 0] := hB24'
 refine op_nil ?_
 refine W_seq ?_
 have hT9 := ts9 hB6 hB11 hB17
 have lb_hB6 := hB6.lt
 have lb_hB11 := hB11.lt
 have lb_hB17 := hB17.lt
 have lb_hB24 := hB24.lt
 have hb9 : TsB (some ⟨w8.heap.size, 0, none⟩) [u9 (w1.heap.size) (w3.heap.size)] 0 (w29.heap.size) := tb9 (by omega) (by omega) (by omega)
 have hz9 : w29.heap.size ≤ w29.heap.size := Nat.le_refl _
 refine zR ?_
 refine st (by rfl) (S_val (v := .agg #[.int .i64 2, .int .i64 0, .slice (some ⟨w8.heap.size, 0, none⟩) 1 1, .int .i64 0, .int .i64 0]) (R_loadA [.int .i64 2, .int .i64 0, .slice (some ⟨w8.heap.size, 0, none⟩) 1 1, .int .i64 0, .int .i64 0] (by kernel_rfl) (by kernel_rfl) (by kernel_rfl) (fun k u hk => by rw [hB24.cell]; exact get_part _ 0 _ k u rfl hk)) ?_)
 refine zC (aw2 _ _ _ _ hT9) ?_
 rintro _ w32 ⟨rfl, hT33⟩
 have hT0 := hT0.t0 hT33
 have hB24 := hB24.tch0 hT33
 have hT9 := hT9.tch0 hT33
 have hz9 := Nat.le_trans hz9 hT33.size
 refine zS [(26, .tuple #[.string (bsT ([2, 0, 0, 0, 0, 0, 0, 0, 0, 0, 0, 1, 1, 7, 0, 1, 0, 0, 0, 0, 1, 1, 0, 0, 0, 0, 0, 0, 0, 9])), .int .i64 0]), (29, .string (bsT ([2, 0, 0, 0, 0, 0, 0, 0, 0, 0, 0, 1, 1, 7, 0, 1, 0, 0, 0, 0, 1, 1, 0, 0, 0, 0, 0, 0, 0, 9]))), (30, .int .i64 0), (4, .string (bsT ([2, 0, 0, 0, 0, 0, 0, 0, 0, 0, 0, 1, 1, 7, 0, 1, 0, 0, 0, 0, 1, 1, 0, 0, 0, 0, 0, 0, 0, 9]))), (5, .int .i64 0)] ?_
 refine op_nil ?_
 refine W_seq ?_
 refine zF [(0, .bool false), (1, .string (bsT ([1, 0, 0, 0, 0, 1, 0, 0, 0, 0, 0, 0]))), (2, .int .i64 0), (3, .pointer (some ⟨w14.heap.size, 0, none⟩)), (4, .string (bsT ([2, 0, 0, 0, 0, 0, 0, 0, 0, 0, 0, 1, 1, 7, 0, 1, 0, 0, 0, 0, 1, 1, 0, 0, 0, 0, 0, 0, 0, 9]))), (5, .int .i64 0)] fun ρ => ?_
 refine zR ?_
 refine zS [(32, .string (bsT ([2, 0, 0, 0, 0, 0, 0, 0, 0, 0, 0, 1, 1, 7, 0, 1, 0, 0, 0, 0, 1, 1, 0, 0, 0, 0, 0, 0, 0, 9])))] ?_
 refine zC (rd9 _) ?_
 rintro _ w34 ⟨A, c, l, rfl, hTs, hcl, hTb, hT35⟩
 have hT0 := hT0.t0 hT35
 have hB24 := hB24.tch0 hT35
 have hT9 := hT9.tch0 hT35
 have hz9 := Nat.le_trans hz9 hT35.size
 have hzL : w34.heap.size ≤ w34.heap.size := Nat.le_refl _
 refine zS [(31, .tuple #[.agg #[.int .i64 2, .int .i64 0, .slice A l.length c, .int .i64 0, .int .i64 0], .int .i64 0]), (34, .agg #[.int .i64 2, .int .i64 0, .slice A l.length c, .int .i64 0, .int .i64 0]), (35, .int .i64 0)] ?_
 have hz40 := hT0.size
 have lt41 := hB24.lt
 refine st (by rfl) (S_new (v := .pointer (some ⟨w34.heap.size, 0, none⟩)) (ob := .cells #[.int .i64 0, .int .i64 0, .slice none 0 0, .int .i64 0, .int .i64 0] 25) (by kernel_rfl) fun w36 hT37 hs38 hB39 => ?_)
 replace hB39 : Blk w36 (w34.heap.size) 25 [.int .i64 0, .int .i64 0, .slice none 0 0, .int .i64 0, .int .i64 0] := hB39
 have hT0 := hT0.t0 hT37
 have hB24 := hB24.tch0 hT37
 have hT9 := hT9.tch0 hT37
 have hz9 := Nat.le_trans hz9 hT37.size
 have hTs := hTs.tch0 hT37
 have hzL := Nat.le_trans hzL hT37.size
 refine st (by rfl) (S_storeA (b := w34.heap.size) (j := 0) (cs := [.int .i64 2, .int .i64 0, .slice A l.length c, .int .i64 0, .int .i64 0]) (by kernel_rfl) (by kernel_rfl) (by kernel_rfl) (by simp [oneV]) hB39 (by simp) fun w42 hT43 hs44 hB39' => ?_)
 have hT0 := (hT0).then hT43 (fun c e => by have : c = w34.heap.size := e; omega)
 have hB24 := hB24.tch hT43 (fun e => by have : w14.heap.size = w34.heap.size := e; omega)
 have hT9 := hT9.tchB hb9 hT43 (fun c h1 h2 e => by have e : c = w34.heap.size := e; omega)
 have hz9 := Nat.le_trans hz9 hT43.size
 have hTs := hTs.tchB hTb hT43 (fun c h1 h2 e => by have e : c = w34.heap.size := e; omega)
 have hzL := Nat.le_trans hzL hT43.size
 replace hB39 : Blk w42 w34.heap.size 25 [.int .i64 2, .int .i64 0, .slice A l.length c, .int .i64 0, .int .i64 0] := hB39'
 refine zS [(7, .int .i64 0)] ?_
 refine op_nil ?_
 refine zQ ?_
 refine zS [(37, .string (bsT ([2, 0, 0, 0, 0, 0, 0, 0, 0, 0, 0, 1, 1, 7, 0, 1, 0, 0, 0, 0, 1, 1, 0, 0, 0, 0, 0, 0, 0, 9]))), (38, .string (bsT ([2, 0, 0, 0, 0, 0, 0, 0, 0, 0, 0, 1, 1, 7, 0, 1, 0, 0, 0, 0, 1, 1, 0, 0, 0, 0, 0, 0, 0, 9]))), (39, .int .i64 30), (40, .int .i64 15)] ?_
 refine stv (v := .string (bsT ([2, 0, 0, 0, 0, 0, 0, 0, 0, 0, 0, 1, 1, 7, 0]))) (by rfl) (R_sslH (a := [2, 0, 0, 0, 0, 0, 0, 0, 0, 0, 0, 1, 1, 7, 0, 1, 0, 0, 0, 0, 1, 1, 0, 0, 0, 0, 0, 0, 0, 9]) (i := 15) 15 (by kernel_rfl) (by kernel_rfl) (by kernel_rfl) rfl (by decide)) ?_
 refine zC (rd_err [2, 0, 0, 0, 0, 0, 0, 0, 0, 0, 0, 1, 1, 7, 0] 6 _ (by decide) (by decide)) ?_
 rintro _ w45 ⟨A47, c47, rfl, hT46⟩
 have hT0 := hT0.t0 hT46
 have hB24 := hB24.tch0 hT46
 have hT9 := hT9.tch0 hT46
 have hz9 := Nat.le_trans hz9 hT46.size
 have hTs := hTs.tch0 hT46
 have hzL := Nat.le_trans hzL hT46.size
 have hB39 := hB39.tch0 hT46
 refine zS [(36, .tuple #[.agg #[.int .i64 0, .int .i64 0, .slice A47 0 c47, .int .i64 0, .int .i64 0], .int .i64 6]), (43, .agg #[.int .i64 0, .int .i64 0, .slice A47 0 c47, .int .i64 0, .int .i64 0]), (44, .int .i64 6)] ?_
 have hz52 := hT0.size
 have lt53 := hB24.lt
 have lt54 := hB39.lt
 refine st (by rfl) (S_new (v := .pointer (some ⟨w45.heap.size, 0, none⟩)) (ob := .cells #[.int .i64 0, .int .i64 0, .slice none 0 0, .int .i64 0, .int .i64 0] 25) (by kernel_rfl) fun w48 hT49 hs50 hB51 => ?_)
 replace hB51 : Blk w48 (w45.heap.size) 25 [.int .i64 0, .int .i64 0, .slice none 0 0, .int .i64 0, .int .i64 0] := hB51
 have hT0 := hT0.t0 hT49
 have hB24 := hB24.tch0 hT49
 have hT9 := hT9.tch0 hT49
 have hz9 := Nat.le_trans hz9 hT49.size
 have hTs := hTs.tch0 hT49
 have hzL := Nat.le_trans hzL hT49.size
 have hB39 := hB39.tch0 hT49
 refine st (by rfl) (S_storeA (b := w45.heap.size) (j := 0) (cs := [.int .i64 0, .int .i64 0, .slice A47 0 c47, .int .i64 0, .int .i64 0]) (by kernel_rfl) (by kernel_rfl) (by kernel_rfl) (by simp [oneV]) hB51 (by simp) fun w55 hT56 hs57 hB51' => ?_)
 have hT0 := (hT0).then hT56 (fun c e => by have : c = w45.heap.size := e; omega)
 have hB24 := hB24.tch hT56 (fun e => by have : w14.heap.size = w45.heap.size := e; omega)
 have hT9 := hT9.tchB hb9 hT56 (fun c h1 h2 e => by have e : c = w45.heap.size := e; omega)
 have hz9 := Nat.le_trans hz9 hT56.size
 have hTs := hTs.tchB hTb hT56 (fun c h1 h2 e => by have e : c = w45.heap.size := e; omega)
 have hzL := Nat.le_trans hzL hT56.size
 have hB39 := hB39.tch hT56 (fun e => by have : w34.heap.size = w45.heap.size := e; omega)
 replace hB51 : Blk w55 w45.heap.size 25 [.int .i64 0, .int .i64 0, .slice A47 0 c47, .int .i64 0, .int .i64 0] := hB51'
 refine zS [(9, .int .i64 6)] ?_
 refine op_nil ?_
 refine W_seq ?_
 refine zF [(0, .bool false), (1, .string (bsT ([1, 0, 0, 0, 0, 1, 0, 0, 0, 0, 0, 0]))), (2, .int .i64 0), (3, .pointer (some ⟨w14.heap.size, 0, none⟩)), (4, .string (bsT ([2, 0, 0, 0, 0, 0, 0, 0, 0, 0, 0, 1, 1, 7, 0, 1, 0, 0, 0, 0, 1, 1, 0, 0, 0, 0, 0, 0, 0, 9]))), (5, .int .i64 0), (6, .pointer (some ⟨w34.heap.size, 0, none⟩)), (7, .int .i64 0), (9, .int .i64 6)] fun ρ => ?_
 refine zR ?_
 refine zC (rd_err [4] 4 _ (by decide) (by decide)) ?_
 rintro _ w58 ⟨A60, c60, rfl, hT59⟩
 have hT0 := hT0.t0 hT59
 have hB24 := hB24.tch0 hT59
 have hT9 := hT9.tch0 hT59
 have hz9 := Nat.le_trans hz9 hT59.size
 have hTs := hTs.tch0 hT59
 have hzL := Nat.le_trans hzL hT59.size
 have hB39 := hB39.tch0 hT59
 have hB51 := hB51.tch0 hT59
 refine zS [(45, .tuple #[.agg #[.int .i64 0, .int .i64 0, .slice A60 0 c60, .int .i64 0, .int .i64 0], .int .i64 4]), (47, .agg #[.int .i64 0, .int .i64 0, .slice A60 0 c60, .int .i64 0, .int .i64 0]), (48, .int .i64 4)] ?_
 have hz65 := hT0.size
 have lt66 := hB24.lt
 have lt67 := hB39.lt
 have lt68 := hB51.lt
 refine st (by rfl) (S_new (v := .pointer (some ⟨w58.heap.size, 0, none⟩)) (ob := .cells #[.int .i64 0, .int .i64 0, .slice none 0 0, .int .i64 0, .int .i64 0] 25) (by kernel_rfl) fun w61 hT62 hs63 hB64 => ?_)
 replace hB64 : Blk w61 (w58.heap.size) 25 [.int .i64 0, .int .i64 0, .slice none 0 0, .int .i64 0, .int .i64 0] := hB64
 have hT0 := hT0.t0 hT62
 have hB24 := hB24.tch0 hT62
 have hT9 := hT9.tch0 hT62
 have hz9 := Nat.le_trans hz9 hT62.size
 have hTs := hTs.tch0 hT62
 have hzL := Nat.le_trans hzL hT62.size
 have hB39 := hB39.tch0 hT62
 have hB51 := hB51.tch0 hT62
 refine st (by rfl) (S_storeA (b := w58.heap.size) (j := 0) (cs := [.int .i64 0, .int .i64 0, .slice A60 0 c60, .int .i64 0, .int .i64 0]) (by kernel_rfl) (by kernel_rfl) (by kernel_rfl) (by simp [oneV]) hB64 (by simp) fun w69 hT70 hs71 hB64' => ?_)
 have hT0 := (hT0).then hT70 (fun c e => by have : c = w58.heap.size := e; omega)
 have hB24 := hB24.tch hT70 (fun e => by have : w14.heap.size = w58.heap.size := e; omega)
 have hT9 := hT9.tchB hb9 hT70 (fun c h1 h2 e => by have e : c = w58.heap.size := e; omega)
 have hz9 := Nat.le_trans hz9 hT70.size
 have hTs := hTs.tchB hTb hT70 (fun c h1 h2 e => by have e : c = w58.heap.size := e; omega)
 have hzL := Nat.le_trans hzL hT70.size
 have hB39 := hB39.tch hT70 (fun e => by have : w34.heap.size = w58.heap.size := e; omega)
 have hB51 := hB51.tch hT70 (fun e => by have : w45.heap.size = w58.heap.size := e; omega)
 replace hB64 : Blk w69 w58.heap.size 25 [.int .i64 0, .int .i64 0, .slice A60 0 c60, .int .i64 0, .int .i64 0] := hB64'
 refine zS [(11, .int .i64 4)] ?_
 refine op_nil ?_
 refine zQ ?_
 refine zS [(50, .string (bsT ([1, 0, 0, 0, 0, 1, 0, 0, 0, 0, 0, 0]))), (51, .string (bsT ([1, 0, 0, 0, 0, 1, 0, 0, 0, 0, 0, 0, 120])))] ?_
 refine zC (rd_err [1, 0, 0, 0, 0, 1, 0, 0, 0, 0, 0, 0, 120] 5 _ (by decide) (by decide)) ?_
 rintro _ w72 ⟨A74, c74, rfl, hT73⟩
 have hT0 := hT0.t0 hT73
 have hB24 := hB24.tch0 hT73
 have hT9 := hT9.tch0 hT73
 have hz9 := Nat.le_trans hz9 hT73.size
 have hTs := hTs.tch0 hT73
 have hzL := Nat.le_trans hzL hT73.size
 have hB39 := hB39.tch0 hT73
 have hB51 := hB51.tch0 hT73
 have hB64 := hB64.tch0 hT73
 refine zS [(49, .tuple #[.agg #[.int .i64 0, .int .i64 0, .slice A74 0 c74, .int .i64 0, .int .i64 0], .int .i64 5]), (53, .agg #[.int .i64 0, .int .i64 0, .slice A74 0 c74, .int .i64 0, .int .i64 0]), (54, .int .i64 5)] ?_
 have hz79 := hT0.size
 have lt80 := hB24.lt
 have lt81 := hB39.lt
 have lt82 := hB51.lt
 have lt83 := hB64.lt
 refine st (by rfl) (S_new (v := .pointer (some ⟨w72.heap.size, 0, none⟩)) (ob := .cells #[.int .i64 0, .int .i64 0, .slice none 0 0, .int .i64 0, .int .i64 0] 25) (by kernel_rfl) fun w75 hT76 hs77 hB78 => ?_)
 replace hB78 : Blk w75 (w72.heap.size) 25 [.int .i64 0, .int .i64 0, .slice none 0 0, .int .i64 0, .int .i64 0] := hB78
 have hT0 := hT0.t0 hT76
 have hB24 := hB24.tch0 hT76
 have hT9 := hT9.tch0 hT76
 have hz9 := Nat.le_trans hz9 hT76.size
 have hTs := hTs.tch0 hT76
 have hzL := Nat.le_trans hzL hT76.size
 have hB39 := hB39.tch0 hT76
 have hB51 := hB51.tch0 hT76
 have hB64 := hB64.tch0 hT76
 refine st (by rfl) (S_storeA (b := w72.heap.size) (j := 0) (cs := [.int .i64 0, .int .i64 0, .slice A74 0 c74, .int .i64 0, .int .i64 0]) (by kernel_rfl) (by kernel_rfl) (by kernel_rfl) (by simp [oneV]) hB78 (by simp) fun w84 hT85 hs86 hB78' => ?_)
 have hT0 := (hT0).then hT85 (fun c e => by have : c = w72.heap.size := e; omega)
 have hB24 := hB24.tch hT85 (fun e => by have : w14.heap.size = w72.heap.size := e; omega)
 have hT9 := hT9.tchB hb9 hT85 (fun c h1 h2 e => by have e : c = w72.heap.size := e; omega)
 have hz9 := Nat.le_trans hz9 hT85.size
 have hTs := hTs.tchB hTb hT85 (fun c h1 h2 e => by have e : c = w72.heap.size := e; omega)
 have hzL := Nat.le_trans hzL hT85.size
 have hB39 := hB39.tch hT85 (fun e => by have : w34.heap.size = w72.heap.size := e; omega)
 have hB51 := hB51.tch hT85 (fun e => by have : w45.heap.size = w72.heap.size := e; omega)
 have hB64 := hB64.tch hT85 (fun e => by have : w58.heap.size = w72.heap.size := e; omega)
 replace hB78 : Blk w84 w72.heap.size 25 [.int .i64 0, .int .i64 0, .slice A74 0 c74, .int .i64 0, .int .i64 0] := hB78'
 refine zS [(13, .int .i64 5)] ?_
 refine op_nil ?_
 refine W_seq ?_
 refine zF [(0, .bool false), (1, .string (bsT ([1, 0, 0, 0, 0, 1, 0, 0, 0, 0, 0, 0]))), (2, .int .i64 0), (3, .pointer (some ⟨w14.heap.size, 0, none⟩)), (4, .string (bsT ([2, 0, 0, 0, 0, 0, 0, 0, 0, 0, 0, 1, 1, 7, 0, 1, 0, 0, 0, 0, 1, 1, 0, 0, 0, 0, 0, 0, 0, 9]))), (5, .int .i64 0), (6, .pointer (some ⟨w34.heap.size, 0, none⟩)), (7, .int .i64 0), (9, .int .i64 6), (11, .int .i64 4), (13, .int .i64 5)] fun ρ => ?_
 refine zR ?_
 refine zS [(56, .agg #[.int .i64 4, .int .i64 0, .slice none 0 0, .int .i64 0, .int .i64 0])] ?_
 refine zC (aw3 _) ?_
 rintro _ w87 ⟨rfl, hT88⟩
 have hT0 := hT0.t0 hT88
 have hB24 := hB24.tch0 hT88
 have hT9 := hT9.tch0 hT88
 have hz9 := Nat.le_trans hz9 hT88.size
 have hTs := hTs.tch0 hT88
 have hzL := Nat.le_trans hzL hT88.size
 have hB39 := hB39.tch0 hT88
 have hB51 := hB51.tch0 hT88
 have hB64 := hB64.tch0 hT88
 have hB78 := hB78.tch0 hT88
 refine zS [(55, .tuple #[.string (bsT ([])), .int .i64 4]), (58, .string (bsT ([]))), (59, .int .i64 4), (14, .string (bsT ([]))), (15, .int .i64 4)] ?_
 refine op_nil ?_
 refine zQ ?_
 refine zS [(60, .string (bsT ([1, 0, 0, 0, 0, 1, 0, 0, 0, 0, 0, 0])))] ?_
 refine stv (v := .bool true) (by rfl) (R_seq_t (a := [1, 0, 0, 0, 0, 1, 0, 0, 0, 0, 0, 0]) (b := [1, 0, 0, 0, 0, 1, 0, 0, 0, 0, 0, 0]) (by kernel_rfl) (by kernel_rfl) rfl) ?_
 refine zS [(62, .bool true), (63, .int .i64 0), (64, .bool true), (65, .bool true), (66, .bool true), (67, .int .i64 0), (68, .bool true), (69, .bool true), (70, .bool true)] ?_
 refine st (by kernel_rfl) (S_val (v := .agg #[.int .i64 2, .int .i64 0, .slice A l.length c, .int .i64 0, .int .i64 0]) (R_loadA [.int .i64 2, .int .i64 0, .slice A l.length c, .int .i64 0, .int .i64 0] (by kernel_rfl) (by kernel_rfl) (by kernel_rfl) (fun k u hk => by rw [hB39.cell]; exact get_part _ 0 _ k u rfl hk)) ?_)
 refine st (by kernel_rfl) (S_val (v := .agg #[.int .i64 2, .int .i64 0, .slice (some ⟨w8.heap.size, 0, none⟩) 1 1, .int .i64 0, .int .i64 0]) (R_loadA [.int .i64 2, .int .i64 0, .slice (some ⟨w8.heap.size, 0, none⟩) 1 1, .int .i64 0, .int .i64 0] (by kernel_rfl) (by kernel_rfl) (by kernel_rfl) (fun k u hk => by rw [hB24.cell]; exact get_part _ 0 _ k u rfl hk)) ?_)
 refine zC (sm9 A (some ⟨w8.heap.size, 0, none⟩) c 1 _ _ _ _ hTs hcl hT9) ?_
 rintro _ w89 ⟨rfl, hT90⟩
 have hT0 := hT0.t0 hT90
 have hB24 := hB24.tch0 hT90
 have hT9 := hT9.tch0 hT90
 have hz9 := Nat.le_trans hz9 hT90.size
 have hTs := hTs.tch0 hT90
 have hzL := Nat.le_trans hzL hT90.size
 have hB39 := hB39.tch0 hT90
 have hB51 := hB51.tch0 hT90
 have hB64 := hB64.tch0 hT90
 have hB78 := hB78.tch0 hT90
 refine zS [(74, .bool true), (75, .bool true), (76, .int .i64 0), (77, .bool true), (78, .bool true), (79, .bool true), (80, .int .i64 6), (81, .bool true), (82, .bool true), (83, .bool true), (84, .int .i64 4), (85, .bool true), (86, .bool true), (87, .bool true), (88, .int .i64 5), (89, .bool true), (90, .bool true), (91, .bool true), (92, .int .i64 4), (93, .bool true), (94, .bool true), (95, .bool true)] ?_
 refine st (by kernel_rfl) (S_val (v := .agg #[.int .i64 2, .int .i64 0, .slice A l.length c, .int .i64 0, .int .i64 0]) (R_loadA [.int .i64 2, .int .i64 0, .slice A l.length c, .int .i64 0, .int .i64 0] (by kernel_rfl) (by kernel_rfl) (by kernel_rfl) (fun k u hk => by rw [hB39.cell]; exact get_part _ 0 _ k u rfl hk)) ?_)
 refine zS [(97, .agg #[.int .i64 0, .int .i64 0, .slice none 0 0, .int .i64 0, .int .i64 0])] ?_
 refine zC (sm0 A c _ _ hTs) ?_
 rintro _ w91 ⟨rfl, hT92⟩
 have hT0 := hT0.t0 hT92
 have hB24 := hB24.tch0 hT92
 have hT9 := hT9.tch0 hT92
 have hz9 := Nat.le_trans hz9 hT92.size
 have hTs := hTs.tch0 hT92
 have hzL := Nat.le_trans hzL hT92.size
 have hB39 := hB39.tch0 hT92
 have hB51 := hB51.tch0 hT92
 have hB64 := hB64.tch0 hT92
 have hB78 := hB78.tch0 hT92
 refine zS [(99, .bool true), (100, .bool true), (101, .bool true)] ?_
 refine st (by kernel_rfl) (S_val (v := .agg #[.int .i64 2, .int .i64 0, .slice (some ⟨w8.heap.size, 0, none⟩) 1 1, .int .i64 0, .int .i64 0]) (R_loadA [.int .i64 2, .int .i64 0, .slice (some ⟨w8.heap.size, 0, none⟩) 1 1, .int .i64 0, .int .i64 0] (by kernel_rfl) (by kernel_rfl) (by kernel_rfl) (fun k u hk => by rw [hB24.cell]; exact get_part _ 0 _ k u rfl hk)) ?_)
 refine zC (tx1 _ _ _ _ hT9) ?_
 rintro _ w93 ⟨rfl, hT94⟩
 have hT0 := hT0.t0 hT94
 have hB24 := hB24.tch0 hT94
 have hT9 := hT9.tch0 hT94
 have hz9 := Nat.le_trans hz9 hT94.size
 have hTs := hTs.tch0 hT94
 have hzL := Nat.le_trans hzL hT94.size
 have hB39 := hB39.tch0 hT94
 have hB51 := hB51.tch0 hT94
 have hB64 := hB64.tch0 hT94
 have hB78 := hB78.tch0 hT94
 refine stv (v := .bool true) (by kernel_rfl) (R_seq_t (a := [118, 105, 111, 108, 97, 116, 105, 111, 110, 32, 48, 32, 48, 10, 112, 111, 105, 110, 116, 32, 49, 32, 109, 97, 115, 107, 32, 48, 32, 107, 105, 110, 100, 32, 49, 32, 99, 111, 100, 101, 32, 48, 32, 105, 110, 112, 117, 116, 32, 55, 32, 105, 109, 97, 103, 101, 32, 57, 10]) (b := [118, 105, 111, 108, 97, 116, 105, 111, 110, 32, 48, 32, 48, 10, 112, 111, 105, 110, 116, 32, 49, 32, 109, 97, 115, 107, 32, 48, 32, 107, 105, 110, 100, 32, 49, 32, 99, 111, 100, 101, 32, 48, 32, 105, 110, 112, 117, 116, 32, 55, 32, 105, 109, 97, 103, 101, 32, 57, 10]) (by kernel_rfl) (by kernel_rfl) rfl) ?_
 refine zS [(105, .bool true), (106, .bool true), (107, .agg #[.int .i64 0, .int .i64 18, .slice none 0 0, .int .i64 0, .int .i64 0])] ?_
 refine zC (tx2 _) ?_
 rintro _ w95 ⟨rfl, hT96⟩
 have hT0 := hT0.t0 hT96
 have hB24 := hB24.tch0 hT96
 have hT9 := hT9.tch0 hT96
 have hz9 := Nat.le_trans hz9 hT96.size
 have hTs := hTs.tch0 hT96
 have hzL := Nat.le_trans hzL hT96.size
 have hB39 := hB39.tch0 hT96
 have hB51 := hB51.tch0 hT96
 have hB64 := hB64.tch0 hT96
 have hB78 := hB78.tch0 hT96
 refine stv (v := .bool true) (by kernel_rfl) (R_seq_t (a := [114, 101, 106, 101, 99, 116, 101, 100, 32, 49, 56, 32, 48, 32, 48, 10]) (b := [114, 101, 106, 101, 99, 116, 101, 100, 32, 49, 56, 32, 48, 32, 48, 10]) (by kernel_rfl) (by kernel_rfl) rfl) ?_
 refine zS [(110, .bool true), (0, .bool true)] ?_
 refine op_nil ?_
 refine W_ret ?_
 exact ⟨_, Res_of (v := .bool true) (by kernel_rfl), ⟨rfl, hT0⟩⟩

end Go.Proofs.YtlkjhkennbdbnaaV

set_option linter.unusedVariables false
set_option linter.unusedSimpArgs false
namespace Go.Proofs.YtlkjhkennbdbnaaV
open Go Go.RowKit Go.Proofs

def pT (s : Tx) : Tx := putT (rV s) (rE s) (rS s) (rU s) (rL s)
def pE (s : Tx) : Int := putE (rV s) (rE s) (rS s) (rU s) (rL s)
theorem p_ok {s : Tx} (h : code s = 0) : pT s = s ∧ pE s = 0 := by
 obtain ⟨h1, h2⟩ := read_enc h
 have q := put_t h1
 unfold pT pE
 exact ⟨by rw [q.1, h2], q.2⟩
theorem sameR_refl (V E S U : Int) (l : List Co) : sameR V E S U l V E S U l = true := by
 unfold sameR; rw [decide_eq_true ⟨rfl, rfl, rfl, rfl⟩, decide_eq_true rfl]; rfl
theorem putS_ok (s : Tx) (A : Option Addr) (c : Nat) (l : List T6) (w : World) (h : TsW w A l) (hc : cores l = rL s) : Ret Try.prog 8 [.agg #[.int .i64 (rV s), .int .i64 (rE s), .slice A l.length c, .int .i64 (rS s), .int .i64 (rU s)]] w fun v w' => v = .tuple #[.string (bsT (pT s)), .int .i64 (pE s)] ∧ Tch N0 w w' := by
 have q := put_ok (rV s) (rE s) (rS s) (rU s) A c l w h
 rw [hc] at q; exact q
theorem smS_ok (V E S U : Int) (A B : Option Addr) (ca cb : Nat) (l m_ : List T6) (w : World) (h : TsW w A l) (h2 : TsW w B m_) (hc : cores l = cores m_) : Ret Try.prog 13 [.agg #[.int .i64 V, .int .i64 E, .slice A l.length ca, .int .i64 S, .int .i64 U], .agg #[.int .i64 V, .int .i64 E, .slice B m_.length cb, .int .i64 S, .int .i64 U]] w fun v w' => v = .bool true ∧ Tch N0 w w' := by
 have q := rsameR_ok V E S U V E S U A B ca cb l m_ w h h2
 rw [hc, sameR_refl] at q; exact q
set_option maxRecDepth 100000 in
set_option maxHeartbeats 2000000 in
theorem law4_ok (s : Tx) (w : World) : Ret Try.prog 4 [.string (bsT s)] w fun v w' => v = .bool true ∧ Tch N0 w w' := by
 refine enter Try.func4 rfl rfl ?_
 refine zQ ?_
 refine zS [(2, .bool false)] ?_
 refine op_nil ?_
 refine W_seq ?_
 refine zQ ?_
 refine zS [(9, .string (bsT s)), (10, .int .i64 ((s.length : Nat) : Int)), (11, .bool (decide (((s.length : Nat) : Int) > 8000)))] ?_
 refine zO (decide (((s.length : Nat) : Int) > 8000)) (fun hc1 => ?_) (fun hc1 => ?_)
 ·
  replace hc1 : 8000 < ((s.length : Nat) : Int) := (of_decide_eq_true hc1)
  refine zQ ?_
  refine zC (awake_ok _) ?_
  rintro _ w2 ⟨rfl, hT3⟩
  have hT0 := hT3
  refine zS [(2, .bool true)] ?_
  refine op_nil ?_
  refine W_ret ?_
  exact ⟨_, Res_of (v := .bool true) (by kernel_rfl), ⟨rfl, hT0⟩⟩
 ·
  replace hc1 : ((s.length : Nat) : Int) ≤ 8000 := (Int.not_lt.1 (of_decide_eq_false hc1))
  refine W_skip ?_
  refine zQ ?_
  refine zS [(14, .string (bsT s))] ?_
  refine zC (read_ok s _) ?_
  rintro _ w4 ⟨A1, c1, l1, rfl, hTs1, hcl1, hTb1, hT5⟩
  have hT0 := hT5
  have hzL1 : w4.heap.size ≤ w4.heap.size := Nat.le_refl _
  refine zS [(13, .tuple #[.agg #[.int .i64 (rV s), .int .i64 (rE s), .slice A1 l1.length c1, .int .i64 (rS s), .int .i64 (rU s)], .int .i64 (code s)]), (16, .agg #[.int .i64 (rV s), .int .i64 (rE s), .slice A1 l1.length c1, .int .i64 (rS s), .int .i64 (rU s)]), (17, .int .i64 (code s))] ?_
  have hz10 := hT0.size
  refine st (by rfl) (S_new (v := .pointer (some ⟨w4.heap.size, 0, none⟩)) (ob := .cells #[.int .i64 0, .int .i64 0, .slice none 0 0, .int .i64 0, .int .i64 0] 25) (by kernel_rfl) fun w6 hT7 hs8 hB9 => ?_)
  replace hB9 : Blk w6 (w4.heap.size) 25 [.int .i64 0, .int .i64 0, .slice none 0 0, .int .i64 0, .int .i64 0] := hB9
  have hT0 := hT0.t0 hT7
  have hTs1 := hTs1.tch0 hT7
  have hzL1 := Nat.le_trans hzL1 hT7.size
  refine st (by rfl) (S_storeA (b := w4.heap.size) (j := 0) (cs := [.int .i64 (rV s), .int .i64 (rE s), .slice A1 l1.length c1, .int .i64 (rS s), .int .i64 (rU s)]) (by kernel_rfl) (by kernel_rfl) (by kernel_rfl) (by simp [oneV]) hB9 (by simp) fun w11 hT12 hs13 hB9' => ?_)
  have hT0 := (hT0).then hT12 (fun c e => by have : c = w4.heap.size := e; omega)
  have hTs1 := hTs1.tchB hTb1 hT12 (fun c h1 h2 e => by have e : c = w4.heap.size := e; omega)
  have hzL1 := Nat.le_trans hzL1 hT12.size
  replace hB9 : Blk w11 w4.heap.size 25 [.int .i64 (rV s), .int .i64 (rE s), .slice A1 l1.length c1, .int .i64 (rS s), .int .i64 (rU s)] := hB9'
  refine zS [(4, .int .i64 (code s))] ?_
  refine op_nil ?_
  refine W_seq ?_
  refine zF [(0, .string (bsT s)), (2, .bool false), (3, .pointer (some ⟨w4.heap.size, 0, none⟩)), (4, .int .i64 (code s)), (11, .bool (decide (((s.length : Nat) : Int) > 8000)))] fun ρ => ?_
  refine zR ?_
  refine zS [(19, .string (bsT s))] ?_
  refine zC (rread_ok s _ (by omega)) ?_
  rintro _ w14 ⟨A2, c2, l2, rfl, hTs2, hcl2, hTb2, hT15⟩
  have hT0 := hT0.t0 hT15
  have hTs1 := hTs1.tch0 hT15
  have hzL1 := Nat.le_trans hzL1 hT15.size
  have hB9 := hB9.tch0 hT15
  have hzL2 : w14.heap.size ≤ w14.heap.size := Nat.le_refl _
  refine zS [(18, .tuple #[.agg #[.int .i64 (rV s), .int .i64 (rE s), .slice A2 l2.length c2, .int .i64 (rS s), .int .i64 (rU s)], .int .i64 (code s)]), (21, .agg #[.int .i64 (rV s), .int .i64 (rE s), .slice A2 l2.length c2, .int .i64 (rS s), .int .i64 (rU s)]), (22, .int .i64 (code s))] ?_
  have hz20 := hT0.size
  have lt21 := hB9.lt
  refine st (by rfl) (S_new (v := .pointer (some ⟨w14.heap.size, 0, none⟩)) (ob := .cells #[.int .i64 0, .int .i64 0, .slice none 0 0, .int .i64 0, .int .i64 0] 25) (by kernel_rfl) fun w16 hT17 hs18 hB19 => ?_)
  replace hB19 : Blk w16 (w14.heap.size) 25 [.int .i64 0, .int .i64 0, .slice none 0 0, .int .i64 0, .int .i64 0] := hB19
  have hT0 := hT0.t0 hT17
  have hTs1 := hTs1.tch0 hT17
  have hzL1 := Nat.le_trans hzL1 hT17.size
  have hB9 := hB9.tch0 hT17
  have hTs2 := hTs2.tch0 hT17
  have hzL2 := Nat.le_trans hzL2 hT17.size
  refine st (by rfl) (S_storeA (b := w14.heap.size) (j := 0) (cs := [.int .i64 (rV s), .int .i64 (rE s), .slice A2 l2.length c2, .int .i64 (rS s), .int .i64 (rU s)]) (by kernel_rfl) (by kernel_rfl) (by kernel_rfl) (by simp [oneV]) hB19 (by simp) fun w22 hT23 hs24 hB19' => ?_)
  have hT0 := (hT0).then hT23 (fun c e => by have : c = w14.heap.size := e; omega)
  have hTs1 := hTs1.tchB hTb1 hT23 (fun c h1 h2 e => by have e : c = w14.heap.size := e; omega)
  have hzL1 := Nat.le_trans hzL1 hT23.size
  have hB9 := hB9.tch hT23 (fun e => by have : w4.heap.size = w14.heap.size := e; omega)
  have hTs2 := hTs2.tchB hTb2 hT23 (fun c h1 h2 e => by have e : c = w14.heap.size := e; omega)
  have hzL2 := Nat.le_trans hzL2 hT23.size
  replace hB19 : Blk w22 w14.heap.size 25 [.int .i64 (rV s), .int .i64 (rE s), .slice A2 l2.length c2, .int .i64 (rS s), .int .i64 (rU s)] := hB19'
  refine zS [(6, .int .i64 (code s))] ?_
  refine op_nil ?_
  refine zQ ?_
  refine st (by rfl) (S_val (v := .agg #[.int .i64 (rV s), .int .i64 (rE s), .slice A1 l1.length c1, .int .i64 (rS s), .int .i64 (rU s)]) (R_loadA [.int .i64 (rV s), .int .i64 (rE s), .slice A1 l1.length c1, .int .i64 (rS s), .int .i64 (rU s)] (by kernel_rfl) (by kernel_rfl) (by kernel_rfl) (fun k u hk => by rw [hB9.cell]; exact get_part _ 0 _ k u rfl hk)) ?_)
  refine zC (putS_ok s A1 c1 l1 _ hTs1 hcl1) ?_
  rintro _ w25 ⟨rfl, hT26⟩
  have hT0 := hT0.t0 hT26
  have hTs1 := hTs1.tch0 hT26
  have hzL1 := Nat.le_trans hzL1 hT26.size
  have hB9 := hB9.tch0 hT26
  have hTs2 := hTs2.tch0 hT26
  have hzL2 := Nat.le_trans hzL2 hT26.size
  have hB19 := hB19.tch0 hT26
  refine zS [(23, .tuple #[.string (bsT (pT s)), .int .i64 (pE s)]), (26, .string (bsT (pT s))), (27, .int .i64 (pE s)), (7, .string (bsT (pT s))), (8, .int .i64 (pE s))] ?_
  refine op_nil ?_
  refine W_seq ?_
  refine zF [(0, .string (bsT s)), (2, .bool false), (3, .pointer (some ⟨w4.heap.size, 0, none⟩)), (4, .int .i64 (code s)), (5, .pointer (some ⟨w14.heap.size, 0, none⟩)), (6, .int .i64 (code s)), (7, .string (bsT (pT s))), (8, .int .i64 (pE s)), (11, .bool (decide (((s.length : Nat) : Int) > 8000)))] fun ρ => ?_
  refine zR ?_
  refine st (by rfl) (S_val (v := .agg #[.int .i64 (rV s), .int .i64 (rE s), .slice A1 l1.length c1, .int .i64 (rS s), .int .i64 (rU s)]) (R_loadA [.int .i64 (rV s), .int .i64 (rE s), .slice A1 l1.length c1, .int .i64 (rS s), .int .i64 (rU s)] (by kernel_rfl) (by kernel_rfl) (by kernel_rfl) (fun k u hk => by rw [hB9.cell]; exact get_part _ 0 _ k u rfl hk)) ?_)
  refine st (by rfl) (S_val (v := .agg #[.int .i64 (rV s), .int .i64 (rE s), .slice A2 l2.length c2, .int .i64 (rS s), .int .i64 (rU s)]) (R_loadA [.int .i64 (rV s), .int .i64 (rE s), .slice A2 l2.length c2, .int .i64 (rS s), .int .i64 (rU s)] (by kernel_rfl) (by kernel_rfl) (by kernel_rfl) (fun k u hk => by rw [hB19.cell]; exact get_part _ 0 _ k u rfl hk)) ?_)
  refine zC (smS_ok (rV s) (rE s) (rS s) (rU s) A1 A2 c1 c2 l1 l2 _ hTs1 hTs2 (by rw [hcl1, hcl2])) ?_
  rintro _ w27 ⟨rfl, hT28⟩
  have hT0 := hT0.t0 hT28
  have hTs1 := hTs1.tch0 hT28
  have hzL1 := Nat.le_trans hzL1 hT28.size
  have hB9 := hB9.tch0 hT28
  have hTs2 := hTs2.tch0 hT28
  have hzL2 := Nat.le_trans hzL2 hT28.size
  have hB19 := hB19.tch0 hT28
  refine zS [(31, .bool true), (32, .int .i64 (code s)), (33, .int .i64 (code s)), (34, .bool ((code s) == (code s))), (35, .bool ((code s) == (code s))), (36, .bool ((code s) == (code s)))] ?_
  cases hb29 : (code s) == (code s)
  ·
   replace hb29 : code s ≠ code s := (ne_of_beq_false hb29)
   exact absurd rfl hb29
  ·
   replace hb29 : code s = code s := (eq_of_beq hb29)
   refine zS [(37, .int .i64 (code s)), (38, .bool ((code s) != 0)), (39, .bool ((code s) != 0))] ?_
   cases hb30 : (code s) != 0
   ·
    replace hb30 : code s = 0 := (bne_eq_false_iff_eq.1 hb30)
    refine zS [(40, .int .i64 (pE s)), (41, .bool ((pE s) == 0)), (42, .bool ((pE s) == 0))] ?_
    cases hb31 : (pE s) == 0
    ·
     replace hb31 : pE s ≠ 0 := (ne_of_beq_false hb31)
     exact absurd (p_ok (s := s) (by omega)).2 (by omega)
    ·
     replace hb31 : pE s = 0 := (eq_of_beq hb31)
     refine zS [(43, .string (bsT (pT s))), (44, .string (bsT s))] ?_
     refine stv (v := .bool (decide (pT s = s))) (by kernel_rfl) (R_seq (a := pT s) (b := s) (by kernel_rfl) (by kernel_rfl)) ?_
     refine zS [(46, .bool (decide (pT s = s))), (47, .bool (decide (pT s = s))), (48, .bool (decide (pT s = s))), (49, .bool (decide (pT s = s)))] ?_
     cases hb32 : decide (pT s = s)
     ·
      replace hb32 : ¬ (pT s = s) := (of_decide_eq_false hb32)
      exact absurd (p_ok (s := s) (by omega)).1 (by assumption)
     ·
      replace hb32 : pT s = s := (of_decide_eq_true hb32)
      refine zC (awake_ok _) ?_
      rintro _ w33 ⟨rfl, hT34⟩
      have hT0 := hT0.t0 hT34
      have hTs1 := hTs1.tch0 hT34
      have hzL1 := Nat.le_trans hzL1 hT34.size
      have hB9 := hB9.tch0 hT34
      have hTs2 := hTs2.tch0 hT34
      have hzL2 := Nat.le_trans hzL2 hT34.size
      have hB19 := hB19.tch0 hT34
      refine zS [(51, .bool true), (2, .bool true)] ?_
      refine op_nil ?_
      refine W_ret ?_
      exact ⟨_, Res_of (v := .bool true) (by kernel_rfl), ⟨rfl, hT0⟩⟩
   ·
    replace hb30 : code s ≠ 0 := (bne_iff_ne.1 hb30)
    refine zS [(40, undef), (41, undef), (42, undef), (43, undef), (44, undef), (45, undef), (46, undef), (47, .bool true), (48, .bool true), (49, .bool true)] ?_
    refine zC (awake_ok _) ?_
    rintro _ w35 ⟨rfl, hT36⟩
    have hT0 := hT0.t0 hT36
    have hTs1 := hTs1.tch0 hT36
    have hzL1 := Nat.le_trans hzL1 hT36.size
    have hB9 := hB9.tch0 hT36
    have hTs2 := hTs2.tch0 hT36
    have hzL2 := Nat.le_trans hzL2 hT36.size
    have hB19 := hB19.tch0 hT36
    refine zS [(51, .bool true), (2, .bool true)] ?_
    refine op_nil ?_
    refine W_ret ?_
    exact ⟨_, Res_of (v := .bool true) (by kernel_rfl), ⟨rfl, hT0⟩⟩

end Go.Proofs.YtlkjhkennbdbnaaV

set_option linter.unusedVariables false
set_option linter.unusedSimpArgs false
namespace Go.Proofs.YtlkjhkennbdbnaaV
open Go Go.RowKit Go.Proofs Go.ChangeShapes Go.WideShapes Go.Deep Go.Joins
section
variable {H : Type} {enc : TypeId × Value → H} {P : Program} {w : World} {base : Nat} {spare : Nat → Bool} {held : Bool}
end
section
variable {H : Type} {enc : TypeId × Value → H} {W : World} {sp : Nat → Bool}
end
end Go.Proofs.YtlkjhkennbdbnaaV

set_option linter.unusedVariables false
set_option linter.unusedSimpArgs false
namespace Go.Proofs.YtlkjhkennbdbnaaV
open Go Go.RowKit Go.Proofs

theorem law4_w (a : ByteArray) (w : World) : Ret Try.prog 4 [.string a] w fun v w' => v = .bool true ∧ Tch N0 w w' := by
 have q := law4_ok a.data.toList w
 rw [← bsT_of] at q
 exact q
end Go.Proofs.YtlkjhkennbdbnaaV
