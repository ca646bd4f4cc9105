/- Walks of functions of the program and of the document's texts: each call returns what the plain function says, and turns nothing that lay. The conditions stand with each theorem. -/
import Derived.Test.YthfjceemphhgcaaProg
import Derived.Test.YthfjceemphhgcaaVx2
import Derived.Test.YthfjceemphhgcaaU1
set_option linter.unusedVariables false
set_option linter.unusedSimpArgs false
namespace Go.Proofs.YthfjceemphhgcaaV
open Go Go.RowKit Go.Proofs

theorem act_lit (F : Nat → Prop) (p n : Nat) (hp : List Nat) (ac : List Int) (v r : Int) (w : World) (h : Ord F w p n hp ac) (hr : HeapP.actB ac v = r) : Ret Try.prog 23 [.pointer (some ⟨p, 0, none⟩), .int .i64 v] w fun x w' => x = .int .i64 r ∧ Tch N0 w w' := (act_ok F p n hp ac v w h).mono fun _ _ ⟨a, b⟩ => ⟨by rw [a, hr], b⟩
theorem has_lit (F : Nat → Prop) (p n : Nat) (hp : List Nat) (ac : List Int) (v : Int) (r : Bool) (w : World) (h : Ord F w p n hp ac) (hr : HeapP.hasB hp v = r) : Ret Try.prog 22 [.pointer (some ⟨p, 0, none⟩), .int .i64 v] w fun x w' => x = .bool r ∧ Tch N0 w w' := (has_ok F p n hp ac v w h).mono fun _ _ ⟨a, b⟩ => ⟨by rw [a, hr], b⟩
theorem len_lit (F : Nat → Prop) (p n : Nat) (hp : List Nat) (ac : List Int) (r : Int) (w : World) (h : Ord F w p n hp ac) (hr : (hp.length : Int) = r) : Ret Try.prog 20 [.pointer (some ⟨p, 0, none⟩)] w fun x w' => x = .int .i64 r ∧ Tch N0 w w' := (len_ok F p n hp ac w h).mono fun _ _ ⟨a, b⟩ => ⟨by rw [a, hr], b⟩
theorem has_nil_perm {hp : List Nat} (h : hp.Perm []) (v : Int) : HeapP.hasB hp v = false := by rw [List.perm_nil.1 h]; simp [HeapP.hasB]
theorem Mv.ge {F F' : Nat → Prop} {w0 w w' : World} (h : Mv F F' w w') (hF : ∀ b, F b → w0.heap.size ≤ b) (hz : w0.heap.size ≤ w.heap.size) : ∀ b, F' b → w0.heap.size ≤ b := fun b hb => (h.2 b hb).elim (hF b) (fun q => Nat.le_trans hz q)

set_option maxRecDepth 100000 in
theorem awake8_ok (w : World) : Ret Try.prog 15 [] w fun v w' => v = .bool true ∧ Tch N0 w w' := by
  refine enter Try.func15 rfl rfl ?_
  refine W_seq ?_
  refine W_region (by kernel_rfl) ?_
  refine seg1 (ρ' := upd (ini []) 0 (.bool false)) (by kernel_rfl) ?_
  refine op_nil ?_
  refine W_seq ?_
  refine W_region (by kernel_rfl) ?_
  refine st (by rfl) (S_call (args := [.int .i64 3]) (by kernel_rfl) (new_ok 3 _) ?_)
  rintro _ w1 ⟨F3, p4, rfl, hO, hT2, hFb⟩
  have hT0 := hT2
  rw [show cl 3 = 3 from by decide] at hO
  replace hO : Ord F3 w1 p4 3 [] [0, 0, 0] := hO
  have hpm : ([] : List Nat).Perm [] := List.Perm.refl _
  refine seg1 (ρ' := upd (upd (upd (ini []) 0 (.bool false)) 12 (.pointer (some ⟨p4, 0, none⟩))) 1 (.pointer (some ⟨p4, 0, none⟩))) (by kernel_rfl) ?_
  refine op_nil ?_
  refine W_seq ?_
  refine W_seq ?_
  refine W_region (by kernel_rfl) ?_
  refine seg2 (ρ' := upd (upd (upd (upd (upd (ini []) 0 (.bool false)) 12 (.pointer (some ⟨p4, 0, none⟩))) 1 (.pointer (some ⟨p4, 0, none⟩))) 13 (.pointer (some ⟨p4, 0, none⟩))) 14 (.bool false)) (by kernel_rfl) ?_
  refine op_nil ?_
  refine W_cond false (by kernel_rfl) (by kernel_rfl) (fun h => nomatch h) (fun _ => ?_)
  refine W_skip ?_
  refine W_seq ?_
  refine W_region (by kernel_rfl) ?_
  refine seg1 (ρ' := upd (upd (upd (upd (upd (upd (ini []) 0 (.bool false)) 12 (.pointer (some ⟨p4, 0, none⟩))) 1 (.pointer (some ⟨p4, 0, none⟩))) 13 (.pointer (some ⟨p4, 0, none⟩))) 14 (.bool false)) 15 (.pointer (some ⟨p4, 0, none⟩))) (by kernel_rfl) ?_
  have hz_ := hT0.size
  refine st (by rfl) (S_call (args := [.pointer (some ⟨p4, 0, none⟩), .int .i64 0]) (by kernel_rfl) (push_ok F3 p4 3 ([]) ([0, 0, 0]) 0 _ hO) ?_)
  rintro _ w5 ⟨r9, F7, hp8, rfl, hO, hmv10, hr⟩
  have hT0 := (hT0).then hmv10.1 hFb
  replace hFb := hmv10.ge hFb hz_
  obtain ⟨rfl, hpm⟩ := hr.yes 0 rfl (by decide) hpm (by decide)
  refine seg1 (ρ' := upd (upd (upd (upd (upd (upd (upd (upd (ini []) 0 (.bool false)) 12 (.pointer (some ⟨p4, 0, none⟩))) 1 (.pointer (some ⟨p4, 0, none⟩))) 13 (.pointer (some ⟨p4, 0, none⟩))) 14 (.bool false)) 15 (.pointer (some ⟨p4, 0, none⟩))) 16 (.bool true)) 17 (.pointer (some ⟨p4, 0, none⟩))) (by kernel_rfl) ?_
  have hz_ := hT0.size
  refine st (by rfl) (S_call (args := [.pointer (some ⟨p4, 0, none⟩), .int .i64 1]) (by kernel_rfl) (push_ok F7 p4 3 hp8 ([0, 0, 0]) 1 _ hO) ?_)
  rintro _ w11 ⟨r15, F13, hp14, rfl, hO, hmv16, hr⟩
  have hT0 := (hT0).then hmv16.1 hFb
  replace hFb := hmv16.ge hFb hz_
  obtain ⟨rfl, hpm⟩ := hr.yes 1 rfl (by decide) hpm (by decide)
  refine seg1 (ρ' := upd (upd (upd (upd (upd (upd (upd (upd (upd (upd (ini []) 0 (.bool false)) 12 (.pointer (some ⟨p4, 0, none⟩))) 1 (.pointer (some ⟨p4, 0, none⟩))) 13 (.pointer (some ⟨p4, 0, none⟩))) 14 (.bool false)) 15 (.pointer (some ⟨p4, 0, none⟩))) 16 (.bool true)) 17 (.pointer (some ⟨p4, 0, none⟩))) 18 (.bool true)) 19 (.pointer (some ⟨p4, 0, none⟩))) (by kernel_rfl) ?_
  have hz_ := hT0.size
  refine st (by rfl) (S_call (args := [.pointer (some ⟨p4, 0, none⟩), .int .i64 1]) (by kernel_rfl) (push_ok F13 p4 3 hp14 ([0, 0, 0]) 1 _ hO) ?_)
  rintro _ w17 ⟨r21, F19, hp20, rfl, hO, hmv22, hr⟩
  have hT0 := (hT0).then hmv22.1 hFb
  replace hFb := hmv22.ge hFb hz_
  obtain ⟨rfl, hpm⟩ := hr.no 1 rfl hpm (by decide)
  refine seg3 (ρ' := upd (upd (upd (upd (upd (upd (upd (upd (upd (upd (upd (upd (upd (upd (ini []) 0 (.bool false)) 12 (.pointer (some ⟨p4, 0, none⟩))) 1 (.pointer (some ⟨p4, 0, none⟩))) 13 (.pointer (some ⟨p4, 0, none⟩))) 14 (.bool false)) 15 (.pointer (some ⟨p4, 0, none⟩))) 16 (.bool true)) 17 (.pointer (some ⟨p4, 0, none⟩))) 18 (.bool true)) 19 (.pointer (some ⟨p4, 0, none⟩))) 20 (.bool false)) 2 (.bool true)) 3 (.bool true)) 4 (.bool false)) (by kernel_rfl) ?_
  refine op_nil ?_
  refine W_seq ?_
  refine W_fg [(0, .bool false), (1, .pointer (some ⟨p4, 0, none⟩)), (2, .bool true), (3, .bool true), (4, .bool false), (14, .bool false)] (by kernel_rfl) fun ρ => ?_
  refine W_region (by kernel_rfl) ?_
  refine seg1 (ρ' := upd (updL ρ [(0, .bool false), (1, .pointer (some ⟨p4, 0, none⟩)), (2, .bool true), (3, .bool true), (4, .bool false), (14, .bool false)]) 21 (.pointer (some ⟨p4, 0, none⟩))) (by kernel_rfl) ?_
  refine st (by rfl) (S_call (args := [.pointer (some ⟨p4, 0, none⟩), .int .i64 1, .int .i64 1]) (by kernel_rfl) (bump_ok F19 p4 3 hp20 ([0, 0, 0]) 1 1 _ hO) ?_)
  rintro _ w23 ⟨r26, hp25, ac27, rfl, hO, hq, hT24, hr⟩
  have hT0 := (hT0).then hT24 hFb
  replace hpm := hq.trans hpm
  obtain ⟨rfl, rfl⟩ := hr.yes (by decide) (by decide)
  replace hO : Ord F19 w23 p4 3 hp25 [0, 1, 0] := hO
  refine seg1 (ρ' := upd (upd (upd (updL ρ [(0, .bool false), (1, .pointer (some ⟨p4, 0, none⟩)), (2, .bool true), (3, .bool true), (4, .bool false), (14, .bool false)]) 21 (.pointer (some ⟨p4, 0, none⟩))) 22 (.bool true)) 5 (.bool true)) (by kernel_rfl) ?_
  refine op_nil ?_
  refine W_seq ?_
  refine W_region (by kernel_rfl) ?_
  refine seg1 (ρ' := upd (upd (upd (upd (updL ρ [(0, .bool false), (1, .pointer (some ⟨p4, 0, none⟩)), (2, .bool true), (3, .bool true), (4, .bool false), (14, .bool false)]) 21 (.pointer (some ⟨p4, 0, none⟩))) 22 (.bool true)) 5 (.bool true)) 24 (.pointer (some ⟨p4, 0, none⟩))) (by kernel_rfl) ?_
  refine st (by rfl) (S_call (args := [.pointer (some ⟨p4, 0, none⟩)]) (by kernel_rfl) (pop_ok F19 p4 3 hp25 ([0, 1, 0]) _ hO) ?_)
  rintro _ w28 ⟨a32, r31, hp30, rfl, hO, hT29, hr⟩
  have hT0 := (hT0).then hT29 hFb
  obtain ⟨rfl, rfl, hpm⟩ := hr.is (x := 1) hpm (by decide)
  refine seg5 (ρ' := upd (upd (upd (upd (upd (upd (upd (upd (upd (upd (updL ρ [(0, .bool false), (1, .pointer (some ⟨p4, 0, none⟩)), (2, .bool true), (3, .bool true), (4, .bool false), (14, .bool false)]) 21 (.pointer (some ⟨p4, 0, none⟩))) 22 (.bool true)) 5 (.bool true)) 24 (.pointer (some ⟨p4, 0, none⟩))) 25 (.tuple #[.int .i64 1, .bool true])) 23 (.tuple #[.int .i64 1, .bool true])) 26 (.int .i64 1)) 27 (.bool true)) 6 (.int .i64 1)) 7 (.bool true)) (by kernel_rfl) ?_
  refine op_nil ?_
  refine W_seq ?_
  refine W_fg [(0, .bool false), (1, .pointer (some ⟨p4, 0, none⟩)), (2, .bool true), (3, .bool true), (4, .bool false), (5, .bool true), (6, .int .i64 1), (7, .bool true), (14, .bool false)] (by kernel_rfl) fun ρ => ?_
  refine W_region (by kernel_rfl) ?_
  refine seg1 (ρ' := upd (updL ρ [(0, .bool false), (1, .pointer (some ⟨p4, 0, none⟩)), (2, .bool true), (3, .bool true), (4, .bool false), (5, .bool true), (6, .int .i64 1), (7, .bool true), (14, .bool false)]) 29 (.pointer (some ⟨p4, 0, none⟩))) (by kernel_rfl) ?_
  refine st (by rfl) (S_call (args := [.pointer (some ⟨p4, 0, none⟩)]) (by kernel_rfl) (pop_ok F19 p4 3 hp30 ([0, 1, 0]) _ hO) ?_)
  rintro _ w33 ⟨a37, r36, hp35, rfl, hO, hT34, hr⟩
  have hT0 := (hT0).then hT34 hFb
  obtain ⟨rfl, rfl, hpm⟩ := hr.is (x := 0) hpm (by decide)
  refine seg5 (ρ' := upd (upd (upd (upd (upd (upd (upd (updL ρ [(0, .bool false), (1, .pointer (some ⟨p4, 0, none⟩)), (2, .bool true), (3, .bool true), (4, .bool false), (5, .bool true), (6, .int .i64 1), (7, .bool true), (14, .bool false)]) 29 (.pointer (some ⟨p4, 0, none⟩))) 30 (.tuple #[.int .i64 0, .bool true])) 28 (.tuple #[.int .i64 0, .bool true])) 31 (.int .i64 0)) 32 (.bool true)) 8 (.int .i64 0)) 9 (.bool true)) (by kernel_rfl) ?_
  refine op_nil ?_
  refine W_seq ?_
  refine W_region (by kernel_rfl) ?_
  refine seg1 (ρ' := upd (upd (upd (upd (upd (upd (upd (upd (updL ρ [(0, .bool false), (1, .pointer (some ⟨p4, 0, none⟩)), (2, .bool true), (3, .bool true), (4, .bool false), (5, .bool true), (6, .int .i64 1), (7, .bool true), (14, .bool false)]) 29 (.pointer (some ⟨p4, 0, none⟩))) 30 (.tuple #[.int .i64 0, .bool true])) 28 (.tuple #[.int .i64 0, .bool true])) 31 (.int .i64 0)) 32 (.bool true)) 8 (.int .i64 0)) 9 (.bool true)) 34 (.pointer (some ⟨p4, 0, none⟩))) (by kernel_rfl) ?_
  refine st (by rfl) (S_call (args := [.pointer (some ⟨p4, 0, none⟩)]) (by kernel_rfl) (pop_ok F19 p4 3 hp35 ([0, 1, 0]) _ hO) ?_)
  rintro _ w38 ⟨a42, r41, hp40, rfl, hO, hT39, hr⟩
  have hT0 := (hT0).then hT39 hFb
  obtain ⟨rfl, rfl, hpm⟩ := hr.none hpm
  refine seg5 (ρ' := upd (upd (upd (upd (upd (upd (upd (upd (upd (upd (upd (upd (upd (upd (updL ρ [(0, .bool false), (1, .pointer (some ⟨p4, 0, none⟩)), (2, .bool true), (3, .bool true), (4, .bool false), (5, .bool true), (6, .int .i64 1), (7, .bool true), (14, .bool false)]) 29 (.pointer (some ⟨p4, 0, none⟩))) 30 (.tuple #[.int .i64 0, .bool true])) 28 (.tuple #[.int .i64 0, .bool true])) 31 (.int .i64 0)) 32 (.bool true)) 8 (.int .i64 0)) 9 (.bool true)) 34 (.pointer (some ⟨p4, 0, none⟩))) 35 (.tuple #[.int .i64 (-1), .bool false])) 33 (.tuple #[.int .i64 (-1), .bool false])) 36 (.int .i64 (-1))) 37 (.bool false)) 10 (.int .i64 (-1))) 11 (.bool false)) (by kernel_rfl) ?_
  refine op_nil ?_
  refine W_seq ?_
  refine W_fg [(0, .bool false), (1, .pointer (some ⟨p4, 0, none⟩)), (2, .bool true), (3, .bool true), (4, .bool false), (5, .bool true), (6, .int .i64 1), (7, .bool true), (8, .int .i64 0), (9, .bool true), (10, .int .i64 (-1)), (11, .bool false), (14, .bool false)] (by kernel_rfl) fun ρ => ?_
  refine W_region (by kernel_rfl) ?_
  refine seg1 (ρ' := upd (updL ρ [(0, .bool false), (1, .pointer (some ⟨p4, 0, none⟩)), (2, .bool true), (3, .bool true), (4, .bool false), (5, .bool true), (6, .int .i64 1), (7, .bool true), (8, .int .i64 0), (9, .bool true), (10, .int .i64 (-1)), (11, .bool false), (14, .bool false)]) 38 (.pointer (some ⟨p4, 0, none⟩))) (by kernel_rfl) ?_
  refine st (by rfl) (S_call (args := [.pointer (some ⟨p4, 0, none⟩), .int .i64 2, .int .i64 5]) (by kernel_rfl) (bump_ok F19 p4 3 hp40 ([0, 1, 0]) 2 5 _ hO) ?_)
  rintro _ w43 ⟨r46, hp45, ac47, rfl, hO, hq, hT44, hr⟩
  have hT0 := (hT0).then hT44 hFb
  replace hpm := hq.trans hpm
  obtain ⟨rfl, rfl⟩ := hr.yes (by decide) (by decide)
  replace hO : Ord F19 w43 p4 3 hp45 [0, 1, 5] := hO
  refine op_nil ?_
  refine W_seq ?_
  refine W_region (by kernel_rfl) ?_
  refine seg1 (ρ' := upd (upd (upd (updL ρ [(0, .bool false), (1, .pointer (some ⟨p4, 0, none⟩)), (2, .bool true), (3, .bool true), (4, .bool false), (5, .bool true), (6, .int .i64 1), (7, .bool true), (8, .int .i64 0), (9, .bool true), (10, .int .i64 (-1)), (11, .bool false), (14, .bool false)]) 38 (.pointer (some ⟨p4, 0, none⟩))) 39 (.bool true)) 40 (.pointer (some ⟨p4, 0, none⟩))) (by kernel_rfl) ?_
  refine st (by rfl) (S_call (args := [.pointer (some ⟨p4, 0, none⟩)]) (by kernel_rfl) (halve_ok F19 p4 3 hp45 ([0, 1, 5]) _ hO) ?_)
  rintro v51 w48 ⟨hp50, hO, hq, hT49⟩
  have hT0 := (hT0).then hT49 hFb
  replace hpm := hq.trans hpm
  replace hO : Ord F19 w48 p4 3 hp50 [0, 0, 2] := hO
  refine op_nil ?_
  refine W_seq ?_
  refine W_region (by kernel_rfl) ?_
  refine seg24 (ρ' := upd (upd (upd (upd (upd (upd (upd (upd (upd (upd (upd (upd (upd (upd (upd (upd (upd (upd (upd (upd (upd (upd (upd (upd (upd (upd (upd (upd (updL ρ [(0, .bool false), (1, .pointer (some ⟨p4, 0, none⟩)), (2, .bool true), (3, .bool true), (4, .bool false), (5, .bool true), (6, .int .i64 1), (7, .bool true), (8, .int .i64 0), (9, .bool true), (10, .int .i64 (-1)), (11, .bool false), (14, .bool false)]) 38 (.pointer (some ⟨p4, 0, none⟩))) 39 (.bool true)) 40 (.pointer (some ⟨p4, 0, none⟩))) 41 (v51)) 42 (.bool true)) 43 (.bool true)) 44 (.bool true)) 45 (.bool true)) 46 (.bool true)) 47 (.bool false)) 48 (.bool true)) 49 (.bool true)) 50 (.bool true)) 51 (.bool true)) 52 (.bool true)) 53 (.bool true)) 54 (.int .i64 1)) 55 (.bool true)) 56 (.bool true)) 57 (.bool true)) 58 (.bool true)) 59 (.bool true)) 60 (.bool true)) 61 (.int .i64 0)) 62 (.bool true)) 63 (.bool true)) 64 (.bool true)) 65 (.bool true)) (by kernel_rfl) ?_
  refine seg11 (ρ' := upd (upd (upd (upd (upd (upd (upd (upd (upd (upd (upd (upd (upd (upd (upd (upd (upd (upd (upd (upd (upd (upd (upd (upd (upd (upd (upd (upd (upd (upd (upd (upd (upd (upd (upd (upd (upd (upd (upd (updL ρ [(0, .bool false), (1, .pointer (some ⟨p4, 0, none⟩)), (2, .bool true), (3, .bool true), (4, .bool false), (5, .bool true), (6, .int .i64 1), (7, .bool true), (8, .int .i64 0), (9, .bool true), (10, .int .i64 (-1)), (11, .bool false), (14, .bool false)]) 38 (.pointer (some ⟨p4, 0, none⟩))) 39 (.bool true)) 40 (.pointer (some ⟨p4, 0, none⟩))) 41 (v51)) 42 (.bool true)) 43 (.bool true)) 44 (.bool true)) 45 (.bool true)) 46 (.bool true)) 47 (.bool false)) 48 (.bool true)) 49 (.bool true)) 50 (.bool true)) 51 (.bool true)) 52 (.bool true)) 53 (.bool true)) 54 (.int .i64 1)) 55 (.bool true)) 56 (.bool true)) 57 (.bool true)) 58 (.bool true)) 59 (.bool true)) 60 (.bool true)) 61 (.int .i64 0)) 62 (.bool true)) 63 (.bool true)) 64 (.bool true)) 65 (.bool true)) 66 (.bool true)) 67 (.bool true)) 68 (.int .i64 (-1))) 69 (.bool true)) 70 (.bool true)) 71 (.bool true)) 72 (.bool false)) 73 (.bool true)) 74 (.bool true)) 75 (.bool true)) 76 (.pointer (some ⟨p4, 0, none⟩))) (by kernel_rfl) ?_
  refine st (by kernel_rfl) (S_call (args := [.pointer (some ⟨p4, 0, none⟩), .int .i64 2]) (by kernel_rfl) (act_lit F19 p4 3 hp50 ([0, 0, 2]) 2 2 _ hO (by decide)) ?_)
  rintro _ w52 ⟨rfl, hT53⟩
  have hT0 := hT0.t0 hT53
  have hO := hO.tch0 hT53
  refine seg4 (ρ' := upd (upd (upd (upd (upd (upd (upd (upd (upd (upd (upd (upd (upd (upd (upd (upd (upd (upd (upd (upd (upd (upd (upd (upd (upd (upd (upd (upd (upd (upd (upd (upd (upd (upd (upd (upd (upd (upd (upd (upd (upd (upd (upd (upd (updL ρ [(0, .bool false), (1, .pointer (some ⟨p4, 0, none⟩)), (2, .bool true), (3, .bool true), (4, .bool false), (5, .bool true), (6, .int .i64 1), (7, .bool true), (8, .int .i64 0), (9, .bool true), (10, .int .i64 (-1)), (11, .bool false), (14, .bool false)]) 38 (.pointer (some ⟨p4, 0, none⟩))) 39 (.bool true)) 40 (.pointer (some ⟨p4, 0, none⟩))) 41 (v51)) 42 (.bool true)) 43 (.bool true)) 44 (.bool true)) 45 (.bool true)) 46 (.bool true)) 47 (.bool false)) 48 (.bool true)) 49 (.bool true)) 50 (.bool true)) 51 (.bool true)) 52 (.bool true)) 53 (.bool true)) 54 (.int .i64 1)) 55 (.bool true)) 56 (.bool true)) 57 (.bool true)) 58 (.bool true)) 59 (.bool true)) 60 (.bool true)) 61 (.int .i64 0)) 62 (.bool true)) 63 (.bool true)) 64 (.bool true)) 65 (.bool true)) 66 (.bool true)) 67 (.bool true)) 68 (.int .i64 (-1))) 69 (.bool true)) 70 (.bool true)) 71 (.bool true)) 72 (.bool false)) 73 (.bool true)) 74 (.bool true)) 75 (.bool true)) 76 (.pointer (some ⟨p4, 0, none⟩))) 77 (.int .i64 2)) 78 (.bool true)) 79 (.bool true)) 80 (.bool true)) 81 (.pointer (some ⟨p4, 0, none⟩))) (by kernel_rfl) ?_
  refine st (by kernel_rfl) (S_call (args := [.pointer (some ⟨p4, 0, none⟩), .int .i64 9]) (by kernel_rfl) (act_lit F19 p4 3 hp50 ([0, 0, 2]) 9 0 _ hO (by decide)) ?_)
  rintro _ w54 ⟨rfl, hT55⟩
  have hT0 := hT0.t0 hT55
  have hO := hO.tch0 hT55
  refine seg4 (ρ' := upd (upd (upd (upd (upd (upd (upd (upd (upd (upd (upd (upd (upd (upd (upd (upd (upd (upd (upd (upd (upd (upd (upd (upd (upd (upd (upd (upd (upd (upd (upd (upd (upd (upd (upd (upd (upd (upd (upd (upd (upd (upd (upd (upd (upd (upd (upd (upd (upd (updL ρ [(0, .bool false), (1, .pointer (some ⟨p4, 0, none⟩)), (2, .bool true), (3, .bool true), (4, .bool false), (5, .bool true), (6, .int .i64 1), (7, .bool true), (8, .int .i64 0), (9, .bool true), (10, .int .i64 (-1)), (11, .bool false), (14, .bool false)]) 38 (.pointer (some ⟨p4, 0, none⟩))) 39 (.bool true)) 40 (.pointer (some ⟨p4, 0, none⟩))) 41 (v51)) 42 (.bool true)) 43 (.bool true)) 44 (.bool true)) 45 (.bool true)) 46 (.bool true)) 47 (.bool false)) 48 (.bool true)) 49 (.bool true)) 50 (.bool true)) 51 (.bool true)) 52 (.bool true)) 53 (.bool true)) 54 (.int .i64 1)) 55 (.bool true)) 56 (.bool true)) 57 (.bool true)) 58 (.bool true)) 59 (.bool true)) 60 (.bool true)) 61 (.int .i64 0)) 62 (.bool true)) 63 (.bool true)) 64 (.bool true)) 65 (.bool true)) 66 (.bool true)) 67 (.bool true)) 68 (.int .i64 (-1))) 69 (.bool true)) 70 (.bool true)) 71 (.bool true)) 72 (.bool false)) 73 (.bool true)) 74 (.bool true)) 75 (.bool true)) 76 (.pointer (some ⟨p4, 0, none⟩))) 77 (.int .i64 2)) 78 (.bool true)) 79 (.bool true)) 80 (.bool true)) 81 (.pointer (some ⟨p4, 0, none⟩))) 82 (.int .i64 0)) 83 (.bool true)) 84 (.bool true)) 85 (.bool true)) 86 (.pointer (some ⟨p4, 0, none⟩))) (by kernel_rfl) ?_
  refine st (by kernel_rfl) (S_call (args := [.pointer (some ⟨p4, 0, none⟩), .int .i64 3, .int .i64 1]) (by kernel_rfl) (bump_ok F19 p4 3 hp50 ([0, 0, 2]) 3 1 _ hO) ?_)
  rintro _ w56 ⟨r59, hp58, ac60, rfl, hO, hq, hT57, hr⟩
  have hT0 := (hT0).then hT57 hFb
  replace hpm := hq.trans hpm
  obtain ⟨rfl, rfl⟩ := hr.no (by decide)
  refine seg4 (ρ' := upd (upd (upd (upd (upd (upd (upd (upd (upd (upd (upd (upd (upd (upd (upd (upd (upd (upd (upd (upd (upd (upd (upd (upd (upd (upd (upd (upd (upd (upd (upd (upd (upd (upd (upd (upd (upd (upd (upd (upd (upd (upd (upd (upd (upd (upd (upd (upd (upd (upd (upd (upd (upd (upd (updL ρ [(0, .bool false), (1, .pointer (some ⟨p4, 0, none⟩)), (2, .bool true), (3, .bool true), (4, .bool false), (5, .bool true), (6, .int .i64 1), (7, .bool true), (8, .int .i64 0), (9, .bool true), (10, .int .i64 (-1)), (11, .bool false), (14, .bool false)]) 38 (.pointer (some ⟨p4, 0, none⟩))) 39 (.bool true)) 40 (.pointer (some ⟨p4, 0, none⟩))) 41 (v51)) 42 (.bool true)) 43 (.bool true)) 44 (.bool true)) 45 (.bool true)) 46 (.bool true)) 47 (.bool false)) 48 (.bool true)) 49 (.bool true)) 50 (.bool true)) 51 (.bool true)) 52 (.bool true)) 53 (.bool true)) 54 (.int .i64 1)) 55 (.bool true)) 56 (.bool true)) 57 (.bool true)) 58 (.bool true)) 59 (.bool true)) 60 (.bool true)) 61 (.int .i64 0)) 62 (.bool true)) 63 (.bool true)) 64 (.bool true)) 65 (.bool true)) 66 (.bool true)) 67 (.bool true)) 68 (.int .i64 (-1))) 69 (.bool true)) 70 (.bool true)) 71 (.bool true)) 72 (.bool false)) 73 (.bool true)) 74 (.bool true)) 75 (.bool true)) 76 (.pointer (some ⟨p4, 0, none⟩))) 77 (.int .i64 2)) 78 (.bool true)) 79 (.bool true)) 80 (.bool true)) 81 (.pointer (some ⟨p4, 0, none⟩))) 82 (.int .i64 0)) 83 (.bool true)) 84 (.bool true)) 85 (.bool true)) 86 (.pointer (some ⟨p4, 0, none⟩))) 87 (.bool false)) 88 (.bool true)) 89 (.bool true)) 90 (.bool true)) 91 (.pointer (some ⟨p4, 0, none⟩))) (by kernel_rfl) ?_
  refine st (by kernel_rfl) (S_call (args := [.pointer (some ⟨p4, 0, none⟩)]) (by kernel_rfl) (len_lit F19 p4 3 hp58 ([0, 0, 2]) 0 _ hO (by rw [hpm.length_eq]; rfl)) ?_)
  rintro _ w61 ⟨rfl, hT62⟩
  have hT0 := hT0.t0 hT62
  have hO := hO.tch0 hT62
  refine seg4 (ρ' := upd (upd (upd (upd (upd (upd (upd (upd (upd (upd (upd (upd (upd (upd (upd (upd (upd (upd (upd (upd (upd (upd (upd (upd (upd (upd (upd (upd (upd (upd (upd (upd (upd (upd (upd (upd (upd (upd (upd (upd (upd (upd (upd (upd (upd (upd (upd (upd (upd (upd (upd (upd (upd (upd (upd (upd (upd (upd (upd (updL ρ [(0, .bool false), (1, .pointer (some ⟨p4, 0, none⟩)), (2, .bool true), (3, .bool true), (4, .bool false), (5, .bool true), (6, .int .i64 1), (7, .bool true), (8, .int .i64 0), (9, .bool true), (10, .int .i64 (-1)), (11, .bool false), (14, .bool false)]) 38 (.pointer (some ⟨p4, 0, none⟩))) 39 (.bool true)) 40 (.pointer (some ⟨p4, 0, none⟩))) 41 (v51)) 42 (.bool true)) 43 (.bool true)) 44 (.bool true)) 45 (.bool true)) 46 (.bool true)) 47 (.bool false)) 48 (.bool true)) 49 (.bool true)) 50 (.bool true)) 51 (.bool true)) 52 (.bool true)) 53 (.bool true)) 54 (.int .i64 1)) 55 (.bool true)) 56 (.bool true)) 57 (.bool true)) 58 (.bool true)) 59 (.bool true)) 60 (.bool true)) 61 (.int .i64 0)) 62 (.bool true)) 63 (.bool true)) 64 (.bool true)) 65 (.bool true)) 66 (.bool true)) 67 (.bool true)) 68 (.int .i64 (-1))) 69 (.bool true)) 70 (.bool true)) 71 (.bool true)) 72 (.bool false)) 73 (.bool true)) 74 (.bool true)) 75 (.bool true)) 76 (.pointer (some ⟨p4, 0, none⟩))) 77 (.int .i64 2)) 78 (.bool true)) 79 (.bool true)) 80 (.bool true)) 81 (.pointer (some ⟨p4, 0, none⟩))) 82 (.int .i64 0)) 83 (.bool true)) 84 (.bool true)) 85 (.bool true)) 86 (.pointer (some ⟨p4, 0, none⟩))) 87 (.bool false)) 88 (.bool true)) 89 (.bool true)) 90 (.bool true)) 91 (.pointer (some ⟨p4, 0, none⟩))) 92 (.int .i64 0)) 93 (.bool true)) 94 (.bool true)) 95 (.bool true)) 96 (.pointer (some ⟨p4, 0, none⟩))) (by kernel_rfl) ?_
  refine st (by kernel_rfl) (S_call (args := [.pointer (some ⟨p4, 0, none⟩), .int .i64 0]) (by kernel_rfl) (has_lit F19 p4 3 hp58 ([0, 0, 2]) 0 false _ hO (has_nil_perm hpm _)) ?_)
  rintro _ w63 ⟨rfl, hT64⟩
  have hT0 := hT0.t0 hT64
  have hO := hO.tch0 hT64
  refine seg3 (ρ' := upd (upd (upd (upd (upd (upd (upd (upd (upd (upd (upd (upd (upd (upd (upd (upd (upd (upd (upd (upd (upd (upd (upd (upd (upd (upd (upd (upd (upd (upd (upd (upd (upd (upd (upd (upd (upd (upd (upd (upd (upd (upd (upd (upd (upd (upd (upd (upd (upd (upd (upd (upd (upd (upd (upd (upd (upd (upd (upd (upd (upd (upd (upd (updL ρ [(0, .bool false), (1, .pointer (some ⟨p4, 0, none⟩)), (2, .bool true), (3, .bool true), (4, .bool false), (5, .bool true), (6, .int .i64 1), (7, .bool true), (8, .int .i64 0), (9, .bool true), (10, .int .i64 (-1)), (11, .bool false), (14, .bool false)]) 38 (.pointer (some ⟨p4, 0, none⟩))) 39 (.bool true)) 40 (.pointer (some ⟨p4, 0, none⟩))) 41 (v51)) 42 (.bool true)) 43 (.bool true)) 44 (.bool true)) 45 (.bool true)) 46 (.bool true)) 47 (.bool false)) 48 (.bool true)) 49 (.bool true)) 50 (.bool true)) 51 (.bool true)) 52 (.bool true)) 53 (.bool true)) 54 (.int .i64 1)) 55 (.bool true)) 56 (.bool true)) 57 (.bool true)) 58 (.bool true)) 59 (.bool true)) 60 (.bool true)) 61 (.int .i64 0)) 62 (.bool true)) 63 (.bool true)) 64 (.bool true)) 65 (.bool true)) 66 (.bool true)) 67 (.bool true)) 68 (.int .i64 (-1))) 69 (.bool true)) 70 (.bool true)) 71 (.bool true)) 72 (.bool false)) 73 (.bool true)) 74 (.bool true)) 75 (.bool true)) 76 (.pointer (some ⟨p4, 0, none⟩))) 77 (.int .i64 2)) 78 (.bool true)) 79 (.bool true)) 80 (.bool true)) 81 (.pointer (some ⟨p4, 0, none⟩))) 82 (.int .i64 0)) 83 (.bool true)) 84 (.bool true)) 85 (.bool true)) 86 (.pointer (some ⟨p4, 0, none⟩))) 87 (.bool false)) 88 (.bool true)) 89 (.bool true)) 90 (.bool true)) 91 (.pointer (some ⟨p4, 0, none⟩))) 92 (.int .i64 0)) 93 (.bool true)) 94 (.bool true)) 95 (.bool true)) 96 (.pointer (some ⟨p4, 0, none⟩))) 97 (.bool false)) 98 (.bool true)) 99 (.bool true)) 0 (.bool true)) (by kernel_rfl) ?_
  refine op_nil ?_
  refine W_ret ?_
  exact ⟨_, Res_of (v := .bool true) (by kernel_rfl), ⟨rfl, hT0⟩⟩

set_option maxRecDepth 100000 in
theorem OrderNone_w (k v d : Int) (w : World) : Ret Try.prog 8 [.agg #[.int .i64 k, .int .i64 v, .int .i64 d]] w fun x w' => x = .bool true ∧ Tch N0 w w' := by
  refine enter Try.func8 rfl rfl ?_
  refine W_seq ?_
  refine W_region (by kernel_rfl) ?_
  refine st (by rfl) (S_new (v := .pointer (some ⟨w.heap.size, 0, none⟩)) (ob := .cells #[.int .i64 k, .int .i64 v, .int .i64 d] 40) (by kernel_rfl) fun w1 hT2 hs3 hB4 => ?_)
  replace hB4 : Blk w1 (w.heap.size) 40 [.int .i64 k, .int .i64 v, .int .i64 d] := hB4
  have hT0 := hT2
  refine seg1 (ρ' := upd (upd (ini [.agg #[.int .i64 k, .int .i64 v, .int .i64 d]]) 1 (.pointer (some ⟨w.heap.size, 0, none⟩))) 2 (.bool false)) (by kernel_rfl) ?_
  refine op_nil ?_
  refine W_seq ?_
  refine W_region (by kernel_rfl) ?_
  refine seg1 (ρ' := upd (upd (upd (ini [.agg #[.int .i64 k, .int .i64 v, .int .i64 d]]) 1 (.pointer (some ⟨w.heap.size, 0, none⟩))) 2 (.bool false)) 3 (.pointer none)) (by kernel_rfl) ?_
  refine op_nil ?_
  refine W_seq ?_
  refine W_region (by kernel_rfl) ?_
  refine seg1 (ρ' := upd (upd (upd (upd (ini [.agg #[.int .i64 k, .int .i64 v, .int .i64 d]]) 1 (.pointer (some ⟨w.heap.size, 0, none⟩))) 2 (.bool false)) 3 (.pointer none)) 7 (.pointer none)) (by kernel_rfl) ?_
  refine st (by rfl) (S_call (args := [.pointer none]) (by kernel_rfl) (pop_nil  _) ?_)
  rintro _ w5 ⟨rfl, hT6⟩
  have hT0 := hT0.t0 hT6
  have hB4 := hB4.tch0 hT6
  refine seg5 (ρ' := upd (upd (upd (upd (upd (upd (upd (upd (upd (upd (ini [.agg #[.int .i64 k, .int .i64 v, .int .i64 d]]) 1 (.pointer (some ⟨w.heap.size, 0, none⟩))) 2 (.bool false)) 3 (.pointer none)) 7 (.pointer none)) 8 (.tuple #[.int .i64 (-1), .bool false])) 6 (.tuple #[.int .i64 (-1), .bool false])) 9 (.int .i64 (-1))) 10 (.bool false)) 4 (.int .i64 (-1))) 5 (.bool false)) (by kernel_rfl) ?_
  refine op_nil ?_
  refine W_seq ?_
  refine W_fg [(0, .agg #[.int .i64 k, .int .i64 v, .int .i64 d]), (1, .pointer (some ⟨w.heap.size, 0, none⟩)), (2, .bool false), (3, .pointer none), (4, .int .i64 (-1)), (5, .bool false)] (by kernel_rfl) fun ρ => ?_
  refine W_region (by kernel_rfl) ?_
  refine seg1 (ρ' := upd (updL ρ [(0, .agg #[.int .i64 k, .int .i64 v, .int .i64 d]), (1, .pointer (some ⟨w.heap.size, 0, none⟩)), (2, .bool false), (3, .pointer none), (4, .int .i64 (-1)), (5, .bool false)]) 11 (.pointer none)) (by kernel_rfl) ?_
  refine st (by rfl) (S_call (args := [.pointer none]) (by kernel_rfl) (halve_nil _) ?_)
  rintro v9 w7 hT8
  have hT0 := hT0.t0 hT8
  have hB4 := hB4.tch0 hT8
  refine op_nil ?_
  refine W_seq ?_
  refine W_region (by kernel_rfl) ?_
  refine seg2 (ρ' := upd (upd (upd (upd (updL ρ [(0, .agg #[.int .i64 k, .int .i64 v, .int .i64 d]), (1, .pointer (some ⟨w.heap.size, 0, none⟩)), (2, .bool false), (3, .pointer none), (4, .int .i64 (-1)), (5, .bool false)]) 11 (.pointer none)) 12 (v9)) 13 (.pointer none)) 14 (.pointer (some ⟨w.heap.size, 1, none⟩))) (by kernel_rfl) ?_
  refine st (by rfl) (S_val (v := .int .i64 v) (R_load (v := .int .i64 v) (by kernel_rfl) (by kernel_rfl) ((hB4.cell 1).trans rfl)) ?_)
  refine st (by rfl) (S_call (args := [.pointer none, .int .i64 v]) (by kernel_rfl) (push_nil v _) ?_)
  rintro _ w10 ⟨rfl, hT11⟩
  have hT0 := hT0.t0 hT11
  have hB4 := hB4.tch0 hT11
  refine seg12 (ρ' := upd (upd (upd (upd (upd (upd (upd (upd (upd (upd (upd (upd (upd (upd (upd (upd (upd (upd (updL ρ [(0, .agg #[.int .i64 k, .int .i64 v, .int .i64 d]), (1, .pointer (some ⟨w.heap.size, 0, none⟩)), (2, .bool false), (3, .pointer none), (4, .int .i64 (-1)), (5, .bool false)]) 11 (.pointer none)) 12 (v9)) 13 (.pointer none)) 14 (.pointer (some ⟨w.heap.size, 1, none⟩))) 15 (.int .i64 v)) 16 (.bool false)) 17 (.bool true)) 18 (.bool true)) 19 (.int .i64 (-1))) 20 (.bool true)) 21 (.bool true)) 22 (.bool true)) 23 (.bool false)) 24 (.bool true)) 25 (.bool true)) 26 (.bool true)) 27 (.pointer none)) 28 (.pointer (some ⟨w.heap.size, 1, none⟩))) (by kernel_rfl) ?_
  refine st (by kernel_rfl) (S_val (v := .int .i64 v) (R_load (v := .int .i64 v) (by kernel_rfl) (by kernel_rfl) ((hB4.cell 1).trans rfl)) ?_)
  refine st (by kernel_rfl) (S_call (args := [.pointer none, .int .i64 v]) (by kernel_rfl) (has_nil v _) ?_)
  rintro _ w12 ⟨rfl, hT13⟩
  have hT0 := hT0.t0 hT13
  have hB4 := hB4.tch0 hT13
  refine seg5 (ρ' := upd (upd (upd (upd (upd (upd (upd (upd (upd (upd (upd (upd (upd (upd (upd (upd (upd (upd (upd (upd (upd (upd (upd (upd (upd (updL ρ [(0, .agg #[.int .i64 k, .int .i64 v, .int .i64 d]), (1, .pointer (some ⟨w.heap.size, 0, none⟩)), (2, .bool false), (3, .pointer none), (4, .int .i64 (-1)), (5, .bool false)]) 11 (.pointer none)) 12 (v9)) 13 (.pointer none)) 14 (.pointer (some ⟨w.heap.size, 1, none⟩))) 15 (.int .i64 v)) 16 (.bool false)) 17 (.bool true)) 18 (.bool true)) 19 (.int .i64 (-1))) 20 (.bool true)) 21 (.bool true)) 22 (.bool true)) 23 (.bool false)) 24 (.bool true)) 25 (.bool true)) 26 (.bool true)) 27 (.pointer none)) 28 (.pointer (some ⟨w.heap.size, 1, none⟩))) 29 (.int .i64 v)) 30 (.bool false)) 31 (.bool true)) 32 (.bool true)) 33 (.bool true)) 34 (.pointer none)) 35 (.pointer (some ⟨w.heap.size, 1, none⟩))) (by kernel_rfl) ?_
  refine st (by kernel_rfl) (S_val (v := .int .i64 v) (R_load (v := .int .i64 v) (by kernel_rfl) (by kernel_rfl) ((hB4.cell 1).trans rfl)) ?_)
  refine seg1 (ρ' := upd (upd (upd (upd (upd (upd (upd (upd (upd (upd (upd (upd (upd (upd (upd (upd (upd (upd (upd (upd (upd (upd (upd (upd (upd (upd (upd (updL ρ [(0, .agg #[.int .i64 k, .int .i64 v, .int .i64 d]), (1, .pointer (some ⟨w.heap.size, 0, none⟩)), (2, .bool false), (3, .pointer none), (4, .int .i64 (-1)), (5, .bool false)]) 11 (.pointer none)) 12 (v9)) 13 (.pointer none)) 14 (.pointer (some ⟨w.heap.size, 1, none⟩))) 15 (.int .i64 v)) 16 (.bool false)) 17 (.bool true)) 18 (.bool true)) 19 (.int .i64 (-1))) 20 (.bool true)) 21 (.bool true)) 22 (.bool true)) 23 (.bool false)) 24 (.bool true)) 25 (.bool true)) 26 (.bool true)) 27 (.pointer none)) 28 (.pointer (some ⟨w.heap.size, 1, none⟩))) 29 (.int .i64 v)) 30 (.bool false)) 31 (.bool true)) 32 (.bool true)) 33 (.bool true)) 34 (.pointer none)) 35 (.pointer (some ⟨w.heap.size, 1, none⟩))) 36 (.int .i64 v)) 37 (.pointer (some ⟨w.heap.size, 2, none⟩))) (by kernel_rfl) ?_
  refine st (by kernel_rfl) (S_val (v := .int .i64 d) (R_load (v := .int .i64 d) (by kernel_rfl) (by kernel_rfl) ((hB4.cell 2).trans rfl)) ?_)
  refine st (by kernel_rfl) (S_call (args := [.pointer none, .int .i64 v, .int .i64 d]) (by kernel_rfl) (bump_nil v d _) ?_)
  rintro _ w14 ⟨rfl, hT15⟩
  have hT0 := hT0.t0 hT15
  have hB4 := hB4.tch0 hT15
  refine seg5 (ρ' := upd (upd (upd (upd (upd (upd (upd (upd (upd (upd (upd (upd (upd (upd (upd (upd (upd (upd (upd (upd (upd (upd (upd (upd (upd (upd (upd (upd (upd (upd (upd (upd (upd (upd (updL ρ [(0, .agg #[.int .i64 k, .int .i64 v, .int .i64 d]), (1, .pointer (some ⟨w.heap.size, 0, none⟩)), (2, .bool false), (3, .pointer none), (4, .int .i64 (-1)), (5, .bool false)]) 11 (.pointer none)) 12 (v9)) 13 (.pointer none)) 14 (.pointer (some ⟨w.heap.size, 1, none⟩))) 15 (.int .i64 v)) 16 (.bool false)) 17 (.bool true)) 18 (.bool true)) 19 (.int .i64 (-1))) 20 (.bool true)) 21 (.bool true)) 22 (.bool true)) 23 (.bool false)) 24 (.bool true)) 25 (.bool true)) 26 (.bool true)) 27 (.pointer none)) 28 (.pointer (some ⟨w.heap.size, 1, none⟩))) 29 (.int .i64 v)) 30 (.bool false)) 31 (.bool true)) 32 (.bool true)) 33 (.bool true)) 34 (.pointer none)) 35 (.pointer (some ⟨w.heap.size, 1, none⟩))) 36 (.int .i64 v)) 37 (.pointer (some ⟨w.heap.size, 2, none⟩))) 38 (.int .i64 d)) 39 (.bool false)) 40 (.bool true)) 41 (.bool true)) 42 (.bool true)) 43 (.pointer none)) 44 (.pointer (some ⟨w.heap.size, 1, none⟩))) (by kernel_rfl) ?_
  refine st (by kernel_rfl) (S_val (v := .int .i64 v) (R_load (v := .int .i64 v) (by kernel_rfl) (by kernel_rfl) ((hB4.cell 1).trans rfl)) ?_)
  refine st (by kernel_rfl) (S_call (args := [.pointer none, .int .i64 v]) (by kernel_rfl) (act_nil v _) ?_)
  rintro _ w16 ⟨rfl, hT17⟩
  have hT0 := hT0.t0 hT17
  have hB4 := hB4.tch0 hT17
  refine seg4 (ρ' := upd (upd (upd (upd (upd (upd (upd (upd (upd (upd (upd (upd (upd (upd (upd (upd (upd (upd (upd (upd (upd (upd (upd (upd (upd (upd (upd (upd (upd (upd (upd (upd (upd (upd (upd (upd (upd (upd (upd (upd (updL ρ [(0, .agg #[.int .i64 k, .int .i64 v, .int .i64 d]), (1, .pointer (some ⟨w.heap.size, 0, none⟩)), (2, .bool false), (3, .pointer none), (4, .int .i64 (-1)), (5, .bool false)]) 11 (.pointer none)) 12 (v9)) 13 (.pointer none)) 14 (.pointer (some ⟨w.heap.size, 1, none⟩))) 15 (.int .i64 v)) 16 (.bool false)) 17 (.bool true)) 18 (.bool true)) 19 (.int .i64 (-1))) 20 (.bool true)) 21 (.bool true)) 22 (.bool true)) 23 (.bool false)) 24 (.bool true)) 25 (.bool true)) 26 (.bool true)) 27 (.pointer none)) 28 (.pointer (some ⟨w.heap.size, 1, none⟩))) 29 (.int .i64 v)) 30 (.bool false)) 31 (.bool true)) 32 (.bool true)) 33 (.bool true)) 34 (.pointer none)) 35 (.pointer (some ⟨w.heap.size, 1, none⟩))) 36 (.int .i64 v)) 37 (.pointer (some ⟨w.heap.size, 2, none⟩))) 38 (.int .i64 d)) 39 (.bool false)) 40 (.bool true)) 41 (.bool true)) 42 (.bool true)) 43 (.pointer none)) 44 (.pointer (some ⟨w.heap.size, 1, none⟩))) 45 (.int .i64 v)) 46 (.int .i64 0)) 47 (.bool true)) 48 (.bool true)) 49 (.bool true)) 50 (.pointer none)) (by kernel_rfl) ?_
  refine st (by kernel_rfl) (S_call (args := [.pointer none]) (by kernel_rfl) (len_nil  _) ?_)
  rintro _ w18 ⟨rfl, hT19⟩
  have hT0 := hT0.t0 hT19
  have hB4 := hB4.tch0 hT19
  refine seg3 (ρ' := upd (upd (upd (upd (upd (upd (upd (upd (upd (upd (upd (upd (upd (upd (upd (upd (upd (upd (upd (upd (upd (upd (upd (upd (upd (upd (upd (upd (upd (upd (upd (upd (upd (upd (upd (upd (upd (upd (upd (upd (upd (upd (upd (upd (updL ρ [(0, .agg #[.int .i64 k, .int .i64 v, .int .i64 d]), (1, .pointer (some ⟨w.heap.size, 0, none⟩)), (2, .bool false), (3, .pointer none), (4, .int .i64 (-1)), (5, .bool false)]) 11 (.pointer none)) 12 (v9)) 13 (.pointer none)) 14 (.pointer (some ⟨w.heap.size, 1, none⟩))) 15 (.int .i64 v)) 16 (.bool false)) 17 (.bool true)) 18 (.bool true)) 19 (.int .i64 (-1))) 20 (.bool true)) 21 (.bool true)) 22 (.bool true)) 23 (.bool false)) 24 (.bool true)) 25 (.bool true)) 26 (.bool true)) 27 (.pointer none)) 28 (.pointer (some ⟨w.heap.size, 1, none⟩))) 29 (.int .i64 v)) 30 (.bool false)) 31 (.bool true)) 32 (.bool true)) 33 (.bool true)) 34 (.pointer none)) 35 (.pointer (some ⟨w.heap.size, 1, none⟩))) 36 (.int .i64 v)) 37 (.pointer (some ⟨w.heap.size, 2, none⟩))) 38 (.int .i64 d)) 39 (.bool false)) 40 (.bool true)) 41 (.bool true)) 42 (.bool true)) 43 (.pointer none)) 44 (.pointer (some ⟨w.heap.size, 1, none⟩))) 45 (.int .i64 v)) 46 (.int .i64 0)) 47 (.bool true)) 48 (.bool true)) 49 (.bool true)) 50 (.pointer none)) 51 (.int .i64 0)) 52 (.bool true)) 53 (.bool true)) 54 (.bool true)) (by kernel_rfl) ?_
  refine st (by kernel_rfl) (S_call (args := []) (by kernel_rfl) (awake8_ok _) ?_)
  rintro _ w20 ⟨rfl, hT21⟩
  have hT0 := hT0.t0 hT21
  have hB4 := hB4.tch0 hT21
  refine seg2 (ρ' := upd (upd (upd (upd (upd (upd (upd (upd (upd (upd (upd (upd (upd (upd (upd (upd (upd (upd (upd (upd (upd (upd (upd (upd (upd (upd (upd (upd (upd (upd (upd (upd (upd (upd (upd (upd (upd (upd (upd (upd (upd (upd (upd (upd (upd (upd (upd (updL ρ [(0, .agg #[.int .i64 k, .int .i64 v, .int .i64 d]), (1, .pointer (some ⟨w.heap.size, 0, none⟩)), (2, .bool false), (3, .pointer none), (4, .int .i64 (-1)), (5, .bool false)]) 11 (.pointer none)) 12 (v9)) 13 (.pointer none)) 14 (.pointer (some ⟨w.heap.size, 1, none⟩))) 15 (.int .i64 v)) 16 (.bool false)) 17 (.bool true)) 18 (.bool true)) 19 (.int .i64 (-1))) 20 (.bool true)) 21 (.bool true)) 22 (.bool true)) 23 (.bool false)) 24 (.bool true)) 25 (.bool true)) 26 (.bool true)) 27 (.pointer none)) 28 (.pointer (some ⟨w.heap.size, 1, none⟩))) 29 (.int .i64 v)) 30 (.bool false)) 31 (.bool true)) 32 (.bool true)) 33 (.bool true)) 34 (.pointer none)) 35 (.pointer (some ⟨w.heap.size, 1, none⟩))) 36 (.int .i64 v)) 37 (.pointer (some ⟨w.heap.size, 2, none⟩))) 38 (.int .i64 d)) 39 (.bool false)) 40 (.bool true)) 41 (.bool true)) 42 (.bool true)) 43 (.pointer none)) 44 (.pointer (some ⟨w.heap.size, 1, none⟩))) 45 (.int .i64 v)) 46 (.int .i64 0)) 47 (.bool true)) 48 (.bool true)) 49 (.bool true)) 50 (.pointer none)) 51 (.int .i64 0)) 52 (.bool true)) 53 (.bool true)) 54 (.bool true)) 55 (.bool true)) 56 (.bool true)) 2 (.bool true)) (by kernel_rfl) ?_
  refine op_nil ?_
  refine W_ret ?_
  exact ⟨_, Res_of (v := .bool true) (by kernel_rfl), ⟨rfl, hT0⟩⟩

end Go.Proofs.YthfjceemphhgcaaV
