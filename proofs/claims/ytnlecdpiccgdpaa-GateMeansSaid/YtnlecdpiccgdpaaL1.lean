/- Walks of functions of the program and of the document's texts. The conditions stand with each theorem. -/
import Derived.Test.YtnlecdpiccgdpaaProg
import Derived.Test.YtnlecdpiccgdpaaVx4
import Derived.Test.YtnlecdpiccgdpaaGateR
set_option linter.unusedVariables false
set_option linter.unusedSimpArgs false
namespace Go.Proofs.YtnlecdpiccgdpaaV
open Go Go.RowKit Go.Proofs

set_option maxRecDepth 100000 in
theorem awake19_ok (w : World) : Ret Try.prog 13 [] w fun v w' => v = .bool true ∧ Tch N0 w w' := by
  refine enter Try.func13 rfl rfl ?_
  refine W_seq ?_
  refine W_region (by kernel_rfl) ?_
  refine seg1 (ρ' := upd (ini []) 0 (.bool false)) (by kernel_rfl) ?_
  refine op_nil ?_
  refine W_seq ?_
  refine W_region (by kernel_rfl) ?_
  refine st (by rfl) (S_call (args := []) (by kernel_rfl) (new_ok _) ?_)
  rintro _ w1 ⟨p3, F4, rfl, hG, hT2, hFb⟩
  have hT0 := hT2
  refine seg1 (ρ' := upd (upd (upd (ini []) 0 (.bool false)) 15 (.pointer (some ⟨p3, 0, none⟩))) 1 (.pointer (some ⟨p3, 0, none⟩))) (by kernel_rfl) ?_
  refine op_nil ?_
  refine W_seq ?_
  refine W_seq ?_
  refine W_region (by kernel_rfl) ?_
  refine seg2 (ρ' := upd (upd (upd (upd (upd (ini []) 0 (.bool false)) 15 (.pointer (some ⟨p3, 0, none⟩))) 1 (.pointer (some ⟨p3, 0, none⟩))) 16 (.pointer (some ⟨p3, 0, none⟩))) 17 (.bool false)) (by kernel_rfl) ?_
  refine op_nil ?_
  refine W_cond false (by kernel_rfl) (by kernel_rfl) (fun h => nomatch h) (fun _ => ?_)
  refine W_skip ?_
  refine W_seq ?_
  refine W_region (by kernel_rfl) ?_
  refine seg1 (ρ' := upd (upd (upd (upd (upd (upd (ini []) 0 (.bool false)) 15 (.pointer (some ⟨p3, 0, none⟩))) 1 (.pointer (some ⟨p3, 0, none⟩))) 16 (.pointer (some ⟨p3, 0, none⟩))) 17 (.bool false)) 18 (.pointer (some ⟨p3, 0, none⟩))) (by kernel_rfl) ?_
  have hz_ := hT0.size
  refine st (by rfl) (S_call (args := [.pointer (some ⟨p3, 0, none⟩)]) (by kernel_rfl) (input_ok F4 p3 1 ([[0]]) (fun _ => False) _ hG (by omega)) ?_)
  rintro _ w5 ⟨rfl, hG, hm6⟩
  have hT0 := (hT0).then hm6.1 hFb
  replace hFb := hm6.ge hFb hz_
  replace hG : GObj F4 w5 p3 2 ([[0]]) (fun v => False ∨ v = 1) := hG
  refine seg1 (ρ' := upd (upd (upd (upd (upd (upd (upd (upd (ini []) 0 (.bool false)) 15 (.pointer (some ⟨p3, 0, none⟩))) 1 (.pointer (some ⟨p3, 0, none⟩))) 16 (.pointer (some ⟨p3, 0, none⟩))) 17 (.bool false)) 18 (.pointer (some ⟨p3, 0, none⟩))) 19 (.int .i64 2)) 20 (.pointer (some ⟨p3, 0, none⟩))) (by kernel_rfl) ?_
  have hz_ := hT0.size
  refine st (by rfl) (S_call (args := [.pointer (some ⟨p3, 0, none⟩)]) (by kernel_rfl) (input_ok F4 p3 2 ([[0]]) (fun v => False ∨ v = 1) _ hG (by omega)) ?_)
  rintro _ w7 ⟨rfl, hG, hm8⟩
  have hT0 := (hT0).then hm8.1 hFb
  replace hFb := hm8.ge hFb hz_
  replace hG : GObj F4 w7 p3 3 ([[0]]) (fun v => (False ∨ v = 1) ∨ v = 2) := hG
  refine seg2 (ρ' := upd (upd (upd (upd (upd (upd (upd (upd (upd (upd (upd (ini []) 0 (.bool false)) 15 (.pointer (some ⟨p3, 0, none⟩))) 1 (.pointer (some ⟨p3, 0, none⟩))) 16 (.pointer (some ⟨p3, 0, none⟩))) 17 (.bool false)) 18 (.pointer (some ⟨p3, 0, none⟩))) 19 (.int .i64 2)) 20 (.pointer (some ⟨p3, 0, none⟩))) 21 (.int .i64 4)) 2 (.int .i64 2)) 3 (.int .i64 4)) (by kernel_rfl) ?_
  refine op_nil ?_
  refine W_seq ?_
  refine W_fg [(0, .bool false), (1, .pointer (some ⟨p3, 0, none⟩)), (2, .int .i64 2), (3, .int .i64 4), (17, .bool false)] (by kernel_rfl) fun ρ => ?_
  refine W_region (by kernel_rfl) ?_
  refine seg3 (ρ' := upd (upd (upd (updL ρ [(0, .bool false), (1, .pointer (some ⟨p3, 0, none⟩)), (2, .int .i64 2), (3, .int .i64 4), (17, .bool false)]) 22 (.pointer (some ⟨p3, 0, none⟩))) 23 (.int .i64 2)) 24 (.int .i64 4)) (by kernel_rfl) ?_
  have hz_ := hT0.size
  refine st (by rfl) (S_call (args := [.pointer (some ⟨p3, 0, none⟩), .int .i64 2, .int .i64 4]) (by kernel_rfl) (and_ok F4 p3 3 2 4 ([[0]]) (fun v => (False ∨ v = 1) ∨ v = 2) _ hG (by omega) (by omega) (by omega)) ?_)
  rintro _ w9 ⟨F10, n11, cs12, x13, rfl, hG, hm14, hr15, hd16⟩
  have hT0 := (hT0).then hm14.1 hFb
  have hxb17 := hr15.2.2.1
  have hle18 := hr15.1
  replace hFb := hm14.ge hFb hz_
  have h4 := and_four hG.2 (by omega) hr15.2.2.2
  refine seg1 (ρ' := upd (upd (upd (upd (upd (updL ρ [(0, .bool false), (1, .pointer (some ⟨p3, 0, none⟩)), (2, .int .i64 2), (3, .int .i64 4), (17, .bool false)]) 22 (.pointer (some ⟨p3, 0, none⟩))) 23 (.int .i64 2)) 24 (.int .i64 4)) 25 (.int .i64 ((x13 : Nat) : Int))) 4 (.int .i64 ((x13 : Nat) : Int))) (by kernel_rfl) ?_
  refine op_nil ?_
  refine W_seq ?_
  refine W_region (by kernel_rfl) ?_
  refine seg3 (ρ' := upd (upd (upd (upd (upd (upd (upd (upd (updL ρ [(0, .bool false), (1, .pointer (some ⟨p3, 0, none⟩)), (2, .int .i64 2), (3, .int .i64 4), (17, .bool false)]) 22 (.pointer (some ⟨p3, 0, none⟩))) 23 (.int .i64 2)) 24 (.int .i64 4)) 25 (.int .i64 ((x13 : Nat) : Int))) 4 (.int .i64 ((x13 : Nat) : Int))) 26 (.pointer (some ⟨p3, 0, none⟩))) 27 (.int .i64 2)) 28 (.pointer (some ⟨p3, 0, none⟩))) (by kernel_rfl) ?_
  refine st (by rfl) (S_call (args := [.pointer (some ⟨p3, 0, none⟩)]) (by kernel_rfl) (true_ok p3 _) ?_)
  rintro _ w19 ⟨rfl, hT20⟩
  have hT0 := hT0.t0 hT20
  have hG := hG.tch0 hT20
  have hz_ := hT0.size
  refine st (by rfl) (S_call (args := [.pointer (some ⟨p3, 0, none⟩), .int .i64 2, .int .i64 0]) (by kernel_rfl) (and_ok F10 p3 n11 2 0 cs12 (fun v => (False ∨ v = 1) ∨ v = 2) _ hG (by omega) (by omega) (by omega)) ?_)
  rintro _ w21 ⟨F22, n23, cs24, x25, rfl, hG, hm26, hr27, hd28⟩
  have hT0 := (hT0).then hm26.1 hFb
  have hxb29 := hr27.2.2.1
  have hle30 := hr27.1
  replace hFb := hm26.ge hFb hz_
  refine seg1 (ρ' := upd (upd (upd (upd (upd (upd (upd (upd (upd (upd (upd (updL ρ [(0, .bool false), (1, .pointer (some ⟨p3, 0, none⟩)), (2, .int .i64 2), (3, .int .i64 4), (17, .bool false)]) 22 (.pointer (some ⟨p3, 0, none⟩))) 23 (.int .i64 2)) 24 (.int .i64 4)) 25 (.int .i64 ((x13 : Nat) : Int))) 4 (.int .i64 ((x13 : Nat) : Int))) 26 (.pointer (some ⟨p3, 0, none⟩))) 27 (.int .i64 2)) 28 (.pointer (some ⟨p3, 0, none⟩))) 29 (.int .i64 0)) 30 (.int .i64 ((x25 : Nat) : Int))) 5 (.int .i64 ((x25 : Nat) : Int))) (by kernel_rfl) ?_
  refine op_nil ?_
  refine W_seq ?_
  refine W_fg [(0, .bool false), (1, .pointer (some ⟨p3, 0, none⟩)), (2, .int .i64 2), (3, .int .i64 4), (4, .int .i64 ((x13 : Nat) : Int)), (5, .int .i64 ((x25 : Nat) : Int)), (17, .bool false)] (by kernel_rfl) fun ρ => ?_
  refine W_region (by kernel_rfl) ?_
  refine seg1 (ρ' := upd (updL ρ [(0, .bool false), (1, .pointer (some ⟨p3, 0, none⟩)), (2, .int .i64 2), (3, .int .i64 4), (4, .int .i64 ((x13 : Nat) : Int)), (5, .int .i64 ((x25 : Nat) : Int)), (17, .bool false)]) 31 (.pointer (some ⟨p3, 0, none⟩))) (by kernel_rfl) ?_
  refine st (by rfl) (S_call (args := [.pointer (some ⟨p3, 0, none⟩)]) (by kernel_rfl) (vars_ok F22 p3 n23 cs24 (fun v => (False ∨ v = 1) ∨ v = 2) _ hG) ?_)
  rintro _ w31 ⟨rfl, hT32⟩
  have hT0 := hT0.t0 hT32
  have hG := hG.tch0 hT32
  refine seg1 (ρ' := upd (upd (upd (updL ρ [(0, .bool false), (1, .pointer (some ⟨p3, 0, none⟩)), (2, .int .i64 2), (3, .int .i64 4), (4, .int .i64 ((x13 : Nat) : Int)), (5, .int .i64 ((x25 : Nat) : Int)), (17, .bool false)]) 31 (.pointer (some ⟨p3, 0, none⟩))) 32 (.int .i64 ((n23 : Nat) : Int))) 6 (.int .i64 ((n23 : Nat) : Int))) (by kernel_rfl) ?_
  refine op_nil ?_
  refine W_seq ?_
  refine W_seq ?_
  refine W_region (by kernel_rfl) ?_
  refine seg3 (ρ' := upd (upd (upd (upd (upd (upd (updL ρ [(0, .bool false), (1, .pointer (some ⟨p3, 0, none⟩)), (2, .int .i64 2), (3, .int .i64 4), (4, .int .i64 ((x13 : Nat) : Int)), (5, .int .i64 ((x25 : Nat) : Int)), (17, .bool false)]) 31 (.pointer (some ⟨p3, 0, none⟩))) 32 (.int .i64 ((n23 : Nat) : Int))) 6 (.int .i64 ((n23 : Nat) : Int))) 33 (.int .i64 ((n23 : Nat) : Int))) 34 (.bool (decide (((n23 : Nat) : Int) < 4)))) 35 (.bool (decide (((n23 : Nat) : Int) < 4)))) (by kernel_rfl) ?_
  cases hb33 : decide (((n23 : Nat) : Int) < 4)
  · replace hb33 : 4 ≤ ((n23 : Nat) : Int) := (Int.not_lt.1 (of_decide_eq_false hb33))
    refine seg7 (ρ' := upd (upd (upd (upd (upd (upd (upd (upd (upd (upd (upd (upd (upd (updL ρ [(0, .bool false), (1, .pointer (some ⟨p3, 0, none⟩)), (2, .int .i64 2), (3, .int .i64 4), (4, .int .i64 ((x13 : Nat) : Int)), (5, .int .i64 ((x25 : Nat) : Int)), (17, .bool false)]) 31 (.pointer (some ⟨p3, 0, none⟩))) 32 (.int .i64 ((n23 : Nat) : Int))) 6 (.int .i64 ((n23 : Nat) : Int))) 33 (.int .i64 ((n23 : Nat) : Int))) 34 (.bool false)) 35 (.bool false)) 36 (.int .i64 2)) 37 (.bool false)) 38 (.bool false)) 39 (.bool false)) 40 (.int .i64 4)) 41 (.bool false)) 42 (.bool false)) (by kernel_rfl) ?_
    refine op_nil ?_
    refine W_cond false (by kernel_rfl) (by kernel_rfl) (fun h => nomatch h) (fun _ => ?_)
    refine W_skip ?_
    refine W_seq ?_
    refine W_fg [(0, .bool false), (1, .pointer (some ⟨p3, 0, none⟩)), (2, .int .i64 2), (3, .int .i64 4), (4, .int .i64 ((x13 : Nat) : Int)), (5, .int .i64 ((x25 : Nat) : Int)), (6, .int .i64 ((n23 : Nat) : Int)), (17, .bool false), (42, .bool false)] (by kernel_rfl) fun ρ => ?_
    refine W_region (by kernel_rfl) ?_
    refine seg3 (ρ' := upd (upd (upd (updL ρ [(0, .bool false), (1, .pointer (some ⟨p3, 0, none⟩)), (2, .int .i64 2), (3, .int .i64 4), (4, .int .i64 ((x13 : Nat) : Int)), (5, .int .i64 ((x25 : Nat) : Int)), (6, .int .i64 ((n23 : Nat) : Int)), (17, .bool false), (42, .bool false)]) 44 (.int .i64 ((n23 : Nat) : Int))) 45 (.int .i64 2)) 46 (.int .i64 4)) (by kernel_rfl) ?_
    refine seg1 (ρ' := upd (upd (upd (upd (updL ρ [(0, .bool false), (1, .pointer (some ⟨p3, 0, none⟩)), (2, .int .i64 2), (3, .int .i64 4), (4, .int .i64 ((x13 : Nat) : Int)), (5, .int .i64 ((x25 : Nat) : Int)), (6, .int .i64 ((n23 : Nat) : Int)), (17, .bool false), (42, .bool false)]) 44 (.int .i64 ((n23 : Nat) : Int))) 45 (.int .i64 2)) 46 (.int .i64 4)) 47 (.int .i64 (IntKind.i64.wrap (BitVec.ofInt 64 4 ^^^ BitVec.ofInt 64 1).toNat))) (by kernel_rfl) ?_
    rw [show IntKind.i64.wrap (BitVec.ofInt 64 4 ^^^ BitVec.ofInt 64 1).toNat = 5 from by decide]
    have hlt_ := hG.1.lt
    have z38 := hT0.size
    refine st (by rfl) (S_new (v := .slice (some ⟨w31.heap.size, 0, none⟩) 2 2) (ob := .cells #[.int .i64 2, .int .i64 5] 3) (by kernel_rfl) fun w34 hT35 hs36 hB37 => ?_)
    replace hB37 : Blk w34 (w31.heap.size) 3 [.int .i64 2, .int .i64 5] := hB37
    have hT0 := hT0.t0 hT35
    have hG := hG.tch0 hT35
    have nF_hB37 : ¬ F22 (w31.heap.size) := fun e => by have := hlt_ _ e; omega
    refine seg1 (ρ' := upd (upd (upd (upd (upd (upd (updL ρ [(0, .bool false), (1, .pointer (some ⟨p3, 0, none⟩)), (2, .int .i64 2), (3, .int .i64 4), (4, .int .i64 ((x13 : Nat) : Int)), (5, .int .i64 ((x25 : Nat) : Int)), (6, .int .i64 ((n23 : Nat) : Int)), (17, .bool false), (42, .bool false)]) 44 (.int .i64 ((n23 : Nat) : Int))) 45 (.int .i64 2)) 46 (.int .i64 4)) 47 (.int .i64 5)) 48 (.slice (some ⟨w31.heap.size, 0, none⟩) 2 2)) 49 (.pointer (some ⟨p3, 0, none⟩))) (by kernel_rfl) ?_
    refine st (by rfl) (S_call (args := [.pointer (some ⟨p3, 0, none⟩)]) (by kernel_rfl) (clauses_ok F22 p3 n23 cs24 (fun v => (False ∨ v = 1) ∨ v = 2) _ hG (by omega)) ?_)
    rintro _ w39 ⟨L41, lcp42, Lv43, rfl, hClr, hClc, hT40⟩
    have hT0 := hT0.t0 hT40
    have hG := hG.tch0 hT40
    have hB37 := hB37.tch0 hT40
    refine st (by rfl) (S_call (args := [.int .i64 ((n23 : Nat) : Int), .slice (some ⟨w31.heap.size, 0, none⟩) 2 2, .slice L41 cs24.length lcp42]) (by kernel_rfl) (runG F22 p3 n23 2 2 cs24.length lcp42 cs24 (fun v => (False ∨ v = 1) ∨ v = 2) (some ⟨w31.heap.size, 0, none⟩) L41 ([2, 5]) Lv43 (fun v => decide (v = 1)) _ hG (show RdW _ 1 2 _ (nats [2, 5]) from hB37.rd 1 2 (by rfl) (by omega)) hClr hClc rfl (by omega) (by rintro v ((h | rfl) | rfl); exact h.elim; exact ⟨2, by simp, rfl⟩; exact ⟨5, by simp, rfl⟩) (by intro x hx; simp only [List.mem_cons, List.not_mem_nil, or_false] at hx; rcases hx with rfl | rfl; exact ⟨.inl (.inr rfl), rfl⟩; exact ⟨.inr rfl, rfl⟩)) ?_)
    rintro _ w44 ⟨K46, J47, ck48, cj49, kn50, tr51, be52, rfl, hK0, hJ0, hmod, hbt, hall, hT45⟩
    have hT0 := hT0.t0 hT45
    have hG := hG.tch0 hT45
    have hB37 := hB37.tch0 hT45
    have hTK := Tch.refl N0 w44
    have hK := hK0
    have hJ := hJ0
    have hb1 : be52 1 = true := hbt 1 (.inl (.inr rfl))
    have hb2 : be52 2 = false := hbt 2 (.inr rfl)
    have v0 : lt_ be52 0 = true := hG.2.t0 hmod
    have v2 : lt_ be52 2 = true := by unfold lt_; simp [hb1]
    have v4 : lt_ be52 4 = false := by unfold lt_; simp [hb2]
    have va : lt_ be52 x13 = false := by have e : lt_ be52 x13 = (lt_ be52 2 && lt_ be52 4) := hr15.2.2.2 be52 (hmod.sub hr27.2.1); rw [e, v2, v4]; rfl
    have vb : lt_ be52 x25 = true := by have e : lt_ be52 x25 = (lt_ be52 2 && lt_ be52 0) := hr27.2.2.2 be52 hmod; rw [e, v2, v0]; rfl
    refine seg3 (ρ' := upd (upd (upd (upd (upd (upd (upd (upd (upd (upd (upd (updL ρ [(0, .bool false), (1, .pointer (some ⟨p3, 0, none⟩)), (2, .int .i64 2), (3, .int .i64 4), (4, .int .i64 ((x13 : Nat) : Int)), (5, .int .i64 ((x25 : Nat) : Int)), (6, .int .i64 ((n23 : Nat) : Int)), (17, .bool false), (42, .bool false)]) 44 (.int .i64 ((n23 : Nat) : Int))) 45 (.int .i64 2)) 46 (.int .i64 4)) 47 (.int .i64 5)) 48 (.slice (some ⟨w31.heap.size, 0, none⟩) 2 2)) 49 (.pointer (some ⟨p3, 0, none⟩))) 50 (.slice L41 cs24.length lcp42)) 51 (.tuple #[.agg #[.slice K46 n23 ck48, .slice J47 n23 cj49], .bool true])) 43 (.tuple #[.agg #[.slice K46 n23 ck48, .slice J47 n23 cj49], .bool true])) 52 (.agg #[.slice K46 n23 ck48, .slice J47 n23 cj49])) 53 (.bool true)) (by kernel_rfl) ?_
    have hz57 := hTK.size
    have hlt_ := hG.1.lt
    have z58 := hT0.size
    have l59 := hB37.lt
    refine st (by rfl) (S_new (v := .pointer (some ⟨w44.heap.size, 0, none⟩)) (ob := .cells #[.slice none 0 0, .slice none 0 0] 54) (by kernel_rfl) fun w53 hT54 hs55 hB56 => ?_)
    replace hB56 : Blk w53 (w44.heap.size) 54 [.slice none 0 0, .slice none 0 0] := hB56
    have hT0 := hT0.t0 hT54
    have hG := hG.tch0 hT54
    have hB37 := hB37.tch0 hT54
    have hTK := hTK.t0 hT54
    have hK := hK0.tch0 hTK
    have hJ := hJ0.tch0 hTK
    have nF_hB56 : ¬ F22 (w44.heap.size) := fun e => by have := hlt_ _ e; omega
    refine st (by rfl) (S_storeA (b := w44.heap.size) (j := 0) (cs := [.slice K46 n23 ck48, .slice J47 n23 cj49]) (by kernel_rfl) (by kernel_rfl) (by kernel_rfl) (by simp [oneV]) hB56 (by simp) fun w60 hT61 hs62 hB56' => ?_)
    have hT0 := (hT0).then hT61 (fun c e => by have : c = w44.heap.size := e; omega)
    have hG := hG.tchS hT61 (fun c e q => by cases e; exact nF_hB56 q)
    have hB37 := hB37.tch hT61 (hB37.ne hB56 (by decide))
    have hTK := hTK.then hT61 (fun c e => by have : c = w44.heap.size := e; omega)
    have hK := hK0.tch0 hTK
    have hJ := hJ0.tch0 hTK
    replace hB56 : Blk w60 w44.heap.size 54 [.slice K46 n23 ck48, .slice J47 n23 cj49] := hB56'
    refine seg1 (ρ' := upd (upd (upd (upd (upd (upd (upd (upd (upd (upd (upd (upd (upd (updL ρ [(0, .bool false), (1, .pointer (some ⟨p3, 0, none⟩)), (2, .int .i64 2), (3, .int .i64 4), (4, .int .i64 ((x13 : Nat) : Int)), (5, .int .i64 ((x25 : Nat) : Int)), (6, .int .i64 ((n23 : Nat) : Int)), (17, .bool false), (42, .bool false)]) 44 (.int .i64 ((n23 : Nat) : Int))) 45 (.int .i64 2)) 46 (.int .i64 4)) 47 (.int .i64 5)) 48 (.slice (some ⟨w31.heap.size, 0, none⟩) 2 2)) 49 (.pointer (some ⟨p3, 0, none⟩))) 50 (.slice L41 cs24.length lcp42)) 51 (.tuple #[.agg #[.slice K46 n23 ck48, .slice J47 n23 cj49], .bool true])) 43 (.tuple #[.agg #[.slice K46 n23 ck48, .slice J47 n23 cj49], .bool true])) 52 (.agg #[.slice K46 n23 ck48, .slice J47 n23 cj49])) 53 (.bool true)) 7 (.pointer (some ⟨w44.heap.size, 0, none⟩))) 8 (.bool true)) (by kernel_rfl) ?_
    refine op_nil ?_
    refine W_seq ?_
    refine W_fg [(0, .bool false), (1, .pointer (some ⟨p3, 0, none⟩)), (2, .int .i64 2), (3, .int .i64 4), (4, .int .i64 ((x13 : Nat) : Int)), (5, .int .i64 ((x25 : Nat) : Int)), (6, .int .i64 ((n23 : Nat) : Int)), (7, .pointer (some ⟨w44.heap.size, 0, none⟩)), (8, .bool true), (17, .bool false), (42, .bool false)] (by kernel_rfl) fun ρ => ?_
    refine W_region (by kernel_rfl) ?_
    refine st (by rfl) (S_val (v := .agg #[.slice K46 n23 ck48, .slice J47 n23 cj49]) (R_loadA [.slice K46 n23 ck48, .slice J47 n23 cj49] (by kernel_rfl) (by kernel_rfl) (by kernel_rfl) (fun k u hk => by rw [hB56.cell]; exact get_part _ 0 _ k u rfl hk)) ?_)
    refine seg1 (ρ' := upd (upd (updL ρ [(0, .bool false), (1, .pointer (some ⟨p3, 0, none⟩)), (2, .int .i64 2), (3, .int .i64 4), (4, .int .i64 ((x13 : Nat) : Int)), (5, .int .i64 ((x25 : Nat) : Int)), (6, .int .i64 ((n23 : Nat) : Int)), (7, .pointer (some ⟨w44.heap.size, 0, none⟩)), (8, .bool true), (17, .bool false), (42, .bool false)]) 55 (.agg #[.slice K46 n23 ck48, .slice J47 n23 cj49])) 56 (.int .i64 ((x13 : Nat) : Int))) (by kernel_rfl) ?_
    refine st (by rfl) (S_call (args := [.agg #[.slice K46 n23 ck48, .slice J47 n23 cj49], .int .i64 ((x13 : Nat) : Int)]) (by kernel_rfl) (holds_is n23 K46 J47 ck48 cj49 kn50 tr51 x13 false _ hK hJ (by omega) (by omega) ⟨(hall x13 (by omega)).1, (hall x13 (by omega)).2.trans va⟩) ?_)
    rintro _ w63 ⟨rfl, hT64⟩
    have hT0 := hT0.t0 hT64
    have hG := hG.tch0 hT64
    have hB37 := hB37.tch0 hT64
    have hTK := hTK.t0 hT64
    have hK := hK0.tch0 hTK
    have hJ := hJ0.tch0 hTK
    have hB56 := hB56.tch0 hT64
    refine seg5 (ρ' := upd (upd (upd (upd (upd (upd (upd (upd (updL ρ [(0, .bool false), (1, .pointer (some ⟨p3, 0, none⟩)), (2, .int .i64 2), (3, .int .i64 4), (4, .int .i64 ((x13 : Nat) : Int)), (5, .int .i64 ((x25 : Nat) : Int)), (6, .int .i64 ((n23 : Nat) : Int)), (7, .pointer (some ⟨w44.heap.size, 0, none⟩)), (8, .bool true), (17, .bool false), (42, .bool false)]) 55 (.agg #[.slice K46 n23 ck48, .slice J47 n23 cj49])) 56 (.int .i64 ((x13 : Nat) : Int))) 57 (.tuple #[.bool false, .bool true])) 54 (.tuple #[.bool false, .bool true])) 58 (.bool false)) 59 (.bool true)) 9 (.bool false)) 10 (.bool true)) (by kernel_rfl) ?_
    refine op_nil ?_
    refine W_seq ?_
    refine W_fg [(0, .bool false), (1, .pointer (some ⟨p3, 0, none⟩)), (2, .int .i64 2), (3, .int .i64 4), (4, .int .i64 ((x13 : Nat) : Int)), (5, .int .i64 ((x25 : Nat) : Int)), (6, .int .i64 ((n23 : Nat) : Int)), (7, .pointer (some ⟨w44.heap.size, 0, none⟩)), (8, .bool true), (9, .bool false), (10, .bool true), (17, .bool false), (42, .bool false)] (by kernel_rfl) fun ρ => ?_
    refine W_region (by kernel_rfl) ?_
    refine st (by rfl) (S_val (v := .agg #[.slice K46 n23 ck48, .slice J47 n23 cj49]) (R_loadA [.slice K46 n23 ck48, .slice J47 n23 cj49] (by kernel_rfl) (by kernel_rfl) (by kernel_rfl) (fun k u hk => by rw [hB56.cell]; exact get_part _ 0 _ k u rfl hk)) ?_)
    refine seg1 (ρ' := upd (upd (updL ρ [(0, .bool false), (1, .pointer (some ⟨p3, 0, none⟩)), (2, .int .i64 2), (3, .int .i64 4), (4, .int .i64 ((x13 : Nat) : Int)), (5, .int .i64 ((x25 : Nat) : Int)), (6, .int .i64 ((n23 : Nat) : Int)), (7, .pointer (some ⟨w44.heap.size, 0, none⟩)), (8, .bool true), (9, .bool false), (10, .bool true), (17, .bool false), (42, .bool false)]) 61 (.agg #[.slice K46 n23 ck48, .slice J47 n23 cj49])) 62 (.int .i64 ((x25 : Nat) : Int))) (by kernel_rfl) ?_
    refine st (by rfl) (S_call (args := [.agg #[.slice K46 n23 ck48, .slice J47 n23 cj49], .int .i64 ((x25 : Nat) : Int)]) (by kernel_rfl) (holds_is n23 K46 J47 ck48 cj49 kn50 tr51 x25 true _ hK hJ (by omega) (by omega) ⟨(hall x25 (by omega)).1, (hall x25 (by omega)).2.trans vb⟩) ?_)
    rintro _ w65 ⟨rfl, hT66⟩
    have hT0 := hT0.t0 hT66
    have hG := hG.tch0 hT66
    have hB37 := hB37.tch0 hT66
    have hTK := hTK.t0 hT66
    have hK := hK0.tch0 hTK
    have hJ := hJ0.tch0 hTK
    have hB56 := hB56.tch0 hT66
    refine seg5 (ρ' := upd (upd (upd (upd (upd (upd (upd (upd (updL ρ [(0, .bool false), (1, .pointer (some ⟨p3, 0, none⟩)), (2, .int .i64 2), (3, .int .i64 4), (4, .int .i64 ((x13 : Nat) : Int)), (5, .int .i64 ((x25 : Nat) : Int)), (6, .int .i64 ((n23 : Nat) : Int)), (7, .pointer (some ⟨w44.heap.size, 0, none⟩)), (8, .bool true), (9, .bool false), (10, .bool true), (17, .bool false), (42, .bool false)]) 61 (.agg #[.slice K46 n23 ck48, .slice J47 n23 cj49])) 62 (.int .i64 ((x25 : Nat) : Int))) 63 (.tuple #[.bool true, .bool true])) 60 (.tuple #[.bool true, .bool true])) 64 (.bool true)) 65 (.bool true)) 11 (.bool true)) 12 (.bool true)) (by kernel_rfl) ?_
    refine op_nil ?_
    refine W_seq ?_
    refine W_fg [(0, .bool false), (1, .pointer (some ⟨p3, 0, none⟩)), (2, .int .i64 2), (3, .int .i64 4), (4, .int .i64 ((x13 : Nat) : Int)), (5, .int .i64 ((x25 : Nat) : Int)), (6, .int .i64 ((n23 : Nat) : Int)), (7, .pointer (some ⟨w44.heap.size, 0, none⟩)), (8, .bool true), (9, .bool false), (10, .bool true), (11, .bool true), (12, .bool true), (17, .bool false), (42, .bool false)] (by kernel_rfl) fun ρ => ?_
    refine W_draw (fun w' => Blk w' (w31.heap.size) 3 [.int .i64 2, .int .i64 5] ∧ Blk w' (w44.heap.size) 54 [.slice K46 n23 ck48, .slice J47 n23 cj49]) (by kernel_rfl) (by kernel_rfl) (by kernel_rfl) fun w67 hT68 hh69 => ?_
    have hT0 := hT0.t0 hT68
    have hG := hG.tch0 hT68
    have hB37 := hB37.tch0 hT68
    have hTK := hTK.t0 hT68
    have hK := hK0.tch0 hTK
    have hJ := hJ0.tch0 hTK
    have hB56 := hB56.tch0 hT68
    refine d_takes [1] (listed' := #[false, true, false, false, false, false, false, false, false]) (ρ' := upd (updL ρ [(0, .bool false), (1, .pointer (some ⟨p3, 0, none⟩)), (2, .int .i64 2), (3, .int .i64 4), (4, .int .i64 ((x13 : Nat) : Int)), (5, .int .i64 ((x25 : Nat) : Int)), (6, .int .i64 ((n23 : Nat) : Int)), (7, .pointer (some ⟨w44.heap.size, 0, none⟩)), (8, .bool true), (9, .bool false), (10, .bool true), (11, .bool true), (12, .bool true), (17, .bool false), (42, .bool false)]) 68 (.pointer (some ⟨p3, 0, none⟩))) ⟨hB37, hB56⟩ (by kernel_rfl) ?_
    refine d_val (v := .agg #[.slice K46 n23 ck48, .slice J47 n23 cj49]) 0 (by rfl) (by kernel_rfl) (by kernel_rfl) (by kernel_rfl) (fun w' hs => by obtain ⟨hB37, hB56⟩ := hs; exact R_loadA [.slice K46 n23 ck48, .slice J47 n23 cj49] (by kernel_rfl) (by kernel_rfl) (by kernel_rfl) (fun k u hk => by rw [hB56.cell]; exact get_part _ 0 _ k u rfl hk)) ⟨hB37, hB56⟩ ?_
    refine d_one 2 (by kernel_rfl) (by rfl) (by kernel_rfl) (S_call (args := [.pointer (some ⟨p3, 0, none⟩)]) (by kernel_rfl) (true_ok p3 _) ?_)
    rintro _ w70 ⟨rfl, hT71⟩
    have hT0 := hT0.t0 hT71
    have hG := hG.tch0 hT71
    have hB37 := hB37.tch0 hT71
    have hTK := hTK.t0 hT71
    have hK := hK0.tch0 hTK
    have hJ := hJ0.tch0 hTK
    have hB56 := hB56.tch0 hT71
    refine ⟨⟨hB37, hB56⟩, ?_⟩
    refine d_one 3 (by kernel_rfl) (by rfl) (by kernel_rfl) (S_call (args := [.agg #[.slice K46 n23 ck48, .slice J47 n23 cj49], .int .i64 0]) (by kernel_rfl) (holds_is n23 K46 J47 ck48 cj49 kn50 tr51 0 true _ hK hJ (by omega) (by omega) ⟨(hall 0 (by omega)).1, (hall 0 (by omega)).2.trans v0⟩) ?_)
    rintro _ w72 ⟨rfl, hT73⟩
    have hT0 := hT0.t0 hT73
    have hG := hG.tch0 hT73
    have hB37 := hB37.tch0 hT73
    have hTK := hTK.t0 hT73
    have hK := hK0.tch0 hTK
    have hJ := hJ0.tch0 hTK
    have hB56 := hB56.tch0 hT73
    refine ⟨⟨hB37, hB56⟩, ?_⟩
    refine d_takes [4, 5, 6, 7, 8] (listed' := #[true, true, true, true, true, true, true, true, true]) (ρ' := upd (upd (upd (upd (upd (upd (upd (upd (upd (updL ρ [(0, .bool false), (1, .pointer (some ⟨p3, 0, none⟩)), (2, .int .i64 2), (3, .int .i64 4), (4, .int .i64 ((x13 : Nat) : Int)), (5, .int .i64 ((x25 : Nat) : Int)), (6, .int .i64 ((n23 : Nat) : Int)), (7, .pointer (some ⟨w44.heap.size, 0, none⟩)), (8, .bool true), (9, .bool false), (10, .bool true), (11, .bool true), (12, .bool true), (17, .bool false), (42, .bool false)]) 68 (.pointer (some ⟨p3, 0, none⟩))) 67 (.agg #[.slice K46 n23 ck48, .slice J47 n23 cj49])) 69 (.int .i64 0)) 70 (.tuple #[.bool true, .bool true])) 66 (.tuple #[.bool true, .bool true])) 71 (.bool true)) 72 (.bool true)) 13 (.bool true)) 14 (.bool true)) ⟨hB37, hB56⟩ (by kernel_rfl) ?_
    refine d_done (by kernel_rfl) ?_
    refine W_seq ?_
    refine W_fg [(0, .bool false), (1, .pointer (some ⟨p3, 0, none⟩)), (2, .int .i64 2), (3, .int .i64 4), (4, .int .i64 ((x13 : Nat) : Int)), (5, .int .i64 ((x25 : Nat) : Int)), (6, .int .i64 ((n23 : Nat) : Int)), (7, .pointer (some ⟨w44.heap.size, 0, none⟩)), (8, .bool true), (9, .bool false), (10, .bool true), (11, .bool true), (12, .bool true), (13, .bool true), (14, .bool true), (17, .bool false), (42, .bool false)] (by kernel_rfl) fun ρ => ?_
    refine W_region (by kernel_rfl) ?_
    refine seg23 (ρ' := upd (upd (upd (upd (upd (upd (upd (upd (upd (upd (upd (upd (upd (upd (upd (upd (upd (upd (upd (upd (upd (upd (upd (updL ρ [(0, .bool false), (1, .pointer (some ⟨p3, 0, none⟩)), (2, .int .i64 2), (3, .int .i64 4), (4, .int .i64 ((x13 : Nat) : Int)), (5, .int .i64 ((x25 : Nat) : Int)), (6, .int .i64 ((n23 : Nat) : Int)), (7, .pointer (some ⟨w44.heap.size, 0, none⟩)), (8, .bool true), (9, .bool false), (10, .bool true), (11, .bool true), (12, .bool true), (13, .bool true), (14, .bool true), (17, .bool false), (42, .bool false)]) 73 (.bool true)) 74 (.bool true)) 75 (.bool false)) 76 (.bool true)) 77 (.bool true)) 78 (.bool true)) 79 (.bool true)) 80 (.bool true)) 81 (.bool true)) 82 (.bool true)) 83 (.bool true)) 84 (.bool true)) 85 (.bool true)) 86 (.bool true)) 87 (.bool true)) 88 (.bool true)) 89 (.bool true)) 90 (.bool true)) 91 (.bool true)) 92 (.bool true)) 93 (.bool true)) 94 (.pointer (some ⟨p3, 0, none⟩))) 95 (.int .i64 2)) (by kernel_rfl) ?_
    refine st (by kernel_rfl) (S_call (args := [.pointer (some ⟨p3, 0, none⟩), .int .i64 (-1), .int .i64 2]) (by kernel_rfl) (and_bad F22 p3 n23 (-1) 2 cs24 (fun v => (False ∨ v = 1) ∨ v = 2) _ hG (by omega) (by omega) (by simp [badB, badI] <;> omega)) ?_)
    rintro _ w74 ⟨rfl, hT75⟩
    have hT0 := hT0.t0 hT75
    have hG := hG.tch0 hT75
    have hB37 := hB37.tch0 hT75
    have hTK := hTK.t0 hT75
    have hK := hK0.tch0 hTK
    have hJ := hJ0.tch0 hTK
    have hB56 := hB56.tch0 hT75
    refine seg7 (ρ' := upd (upd (upd (upd (upd (upd (upd (upd (upd (upd (upd (upd (upd (upd (upd (upd (upd (upd (upd (upd (upd (upd (upd (upd (upd (upd (upd (upd (upd (upd (upd (updL ρ [(0, .bool false), (1, .pointer (some ⟨p3, 0, none⟩)), (2, .int .i64 2), (3, .int .i64 4), (4, .int .i64 ((x13 : Nat) : Int)), (5, .int .i64 ((x25 : Nat) : Int)), (6, .int .i64 ((n23 : Nat) : Int)), (7, .pointer (some ⟨w44.heap.size, 0, none⟩)), (8, .bool true), (9, .bool false), (10, .bool true), (11, .bool true), (12, .bool true), (13, .bool true), (14, .bool true), (17, .bool false), (42, .bool false)]) 73 (.bool true)) 74 (.bool true)) 75 (.bool false)) 76 (.bool true)) 77 (.bool true)) 78 (.bool true)) 79 (.bool true)) 80 (.bool true)) 81 (.bool true)) 82 (.bool true)) 83 (.bool true)) 84 (.bool true)) 85 (.bool true)) 86 (.bool true)) 87 (.bool true)) 88 (.bool true)) 89 (.bool true)) 90 (.bool true)) 91 (.bool true)) 92 (.bool true)) 93 (.bool true)) 94 (.pointer (some ⟨p3, 0, none⟩))) 95 (.int .i64 2)) 96 (.int .i64 (-1))) 97 (.bool true)) 98 (.bool true)) 99 (.bool true)) 100 (.pointer (some ⟨p3, 0, none⟩))) 101 (.int .i64 2)) 102 (.int .i64 ((n23 : Nat) : Int))) 103 (.int .i64 (IntKind.i64.wrap (2 * ((n23 : Nat) : Int))))) (by kernel_rfl) ?_
    rw [show IntKind.i64.wrap (2 * ((n23 : Nat) : Int)) = 2 * ((n23 : Nat) : Int) from wrap_i64 (by omega) (by omega)]
    refine st (by kernel_rfl) (S_call (args := [.pointer (some ⟨p3, 0, none⟩), .int .i64 2, .int .i64 (2 * ((n23 : Nat) : Int))]) (by kernel_rfl) (or_bad F22 p3 n23 2 (2 * ((n23 : Nat) : Int)) cs24 (fun v => (False ∨ v = 1) ∨ v = 2) _ hG (by omega) (by omega) (by simp [badB, badI] <;> omega)) ?_)
    rintro _ w76 ⟨rfl, hT77⟩
    have hT0 := hT0.t0 hT77
    have hG := hG.tch0 hT77
    have hB37 := hB37.tch0 hT77
    have hTK := hTK.t0 hT77
    have hK := hK0.tch0 hTK
    have hJ := hJ0.tch0 hTK
    have hB56 := hB56.tch0 hT77
    refine seg6 (ρ' := upd (upd (upd (upd (upd (upd (upd (upd (upd (upd (upd (upd (upd (upd (upd (upd (upd (upd (upd (upd (upd (upd (upd (upd (upd (upd (upd (upd (upd (upd (upd (upd (upd (upd (upd (upd (upd (upd (updL ρ [(0, .bool false), (1, .pointer (some ⟨p3, 0, none⟩)), (2, .int .i64 2), (3, .int .i64 4), (4, .int .i64 ((x13 : Nat) : Int)), (5, .int .i64 ((x25 : Nat) : Int)), (6, .int .i64 ((n23 : Nat) : Int)), (7, .pointer (some ⟨w44.heap.size, 0, none⟩)), (8, .bool true), (9, .bool false), (10, .bool true), (11, .bool true), (12, .bool true), (13, .bool true), (14, .bool true), (17, .bool false), (42, .bool false)]) 73 (.bool true)) 74 (.bool true)) 75 (.bool false)) 76 (.bool true)) 77 (.bool true)) 78 (.bool true)) 79 (.bool true)) 80 (.bool true)) 81 (.bool true)) 82 (.bool true)) 83 (.bool true)) 84 (.bool true)) 85 (.bool true)) 86 (.bool true)) 87 (.bool true)) 88 (.bool true)) 89 (.bool true)) 90 (.bool true)) 91 (.bool true)) 92 (.bool true)) 93 (.bool true)) 94 (.pointer (some ⟨p3, 0, none⟩))) 95 (.int .i64 2)) 96 (.int .i64 (-1))) 97 (.bool true)) 98 (.bool true)) 99 (.bool true)) 100 (.pointer (some ⟨p3, 0, none⟩))) 101 (.int .i64 2)) 102 (.int .i64 ((n23 : Nat) : Int))) 103 (.int .i64 (2 * ((n23 : Nat) : Int)))) 104 (.int .i64 (-1))) 105 (.bool true)) 106 (.bool true)) 107 (.bool true)) 108 (.pointer (some ⟨p3, 0, none⟩))) 109 (.int .i64 2)) 110 (.int .i64 4)) (by kernel_rfl) ?_
    refine st (by kernel_rfl) (S_call (args := [.pointer (some ⟨p3, 0, none⟩), .int .i64 2, .int .i64 4, .int .i64 (-2)]) (by kernel_rfl) (ite_bad F22 p3 n23 2 4 (-2) cs24 (fun v => (False ∨ v = 1) ∨ v = 2) _ hG (by omega) (by omega) (by omega) (by simp [badB, badI] <;> omega)) ?_)
    rintro _ w78 ⟨rfl, hT79⟩
    have hT0 := hT0.t0 hT79
    have hG := hG.tch0 hT79
    have hB37 := hB37.tch0 hT79
    have hTK := hTK.t0 hT79
    have hK := hK0.tch0 hTK
    have hJ := hJ0.tch0 hTK
    have hB56 := hB56.tch0 hT79
    refine seg3 (ρ' := upd (upd (upd (upd (upd (upd (upd (upd (upd (upd (upd (upd (upd (upd (upd (upd (upd (upd (upd (upd (upd (upd (upd (upd (upd (upd (upd (upd (upd (upd (upd (upd (upd (upd (upd (upd (upd (upd (upd (upd (upd (upd (updL ρ [(0, .bool false), (1, .pointer (some ⟨p3, 0, none⟩)), (2, .int .i64 2), (3, .int .i64 4), (4, .int .i64 ((x13 : Nat) : Int)), (5, .int .i64 ((x25 : Nat) : Int)), (6, .int .i64 ((n23 : Nat) : Int)), (7, .pointer (some ⟨w44.heap.size, 0, none⟩)), (8, .bool true), (9, .bool false), (10, .bool true), (11, .bool true), (12, .bool true), (13, .bool true), (14, .bool true), (17, .bool false), (42, .bool false)]) 73 (.bool true)) 74 (.bool true)) 75 (.bool false)) 76 (.bool true)) 77 (.bool true)) 78 (.bool true)) 79 (.bool true)) 80 (.bool true)) 81 (.bool true)) 82 (.bool true)) 83 (.bool true)) 84 (.bool true)) 85 (.bool true)) 86 (.bool true)) 87 (.bool true)) 88 (.bool true)) 89 (.bool true)) 90 (.bool true)) 91 (.bool true)) 92 (.bool true)) 93 (.bool true)) 94 (.pointer (some ⟨p3, 0, none⟩))) 95 (.int .i64 2)) 96 (.int .i64 (-1))) 97 (.bool true)) 98 (.bool true)) 99 (.bool true)) 100 (.pointer (some ⟨p3, 0, none⟩))) 101 (.int .i64 2)) 102 (.int .i64 ((n23 : Nat) : Int))) 103 (.int .i64 (2 * ((n23 : Nat) : Int)))) 104 (.int .i64 (-1))) 105 (.bool true)) 106 (.bool true)) 107 (.bool true)) 108 (.pointer (some ⟨p3, 0, none⟩))) 109 (.int .i64 2)) 110 (.int .i64 4)) 111 (.int .i64 (-1))) 112 (.bool true)) 113 (.bool true)) 0 (.bool true)) (by kernel_rfl) ?_
    refine op_nil ?_
    refine W_ret ?_
    exact ⟨_, Res_of (v := .bool true) (by kernel_rfl), ⟨rfl, hT0⟩⟩
  · replace hb33 : ((n23 : Nat) : Int) < 4 := (of_decide_eq_true hb33)
    exfalso; omega

set_option maxRecDepth 100000 in
theorem ask_nil (k a b c : Int) (w : World) : Ret Try.prog 18 [.pointer none, .int .i64 k, .int .i64 a, .int .i64 b, .int .i64 c] w fun v w' => v = .int .i64 (-1) ∧ Tch N0 w w' := by
  refine enter Try.func18 rfl rfl ?_
  refine W_seq ?_
  refine W_region (by kernel_rfl) ?_
  refine seg1 (ρ' := upd (ini [.pointer none, .int .i64 k, .int .i64 a, .int .i64 b, .int .i64 c]) 10 (.int .i64 0)) (by kernel_rfl) ?_
  refine op_nil ?_
  refine W_seq ?_
  refine W_seq ?_
  refine W_region (by kernel_rfl) ?_
  refine seg1 (ρ' := upd (upd (ini [.pointer none, .int .i64 k, .int .i64 a, .int .i64 b, .int .i64 c]) 10 (.int .i64 0)) 11 (.int .i64 k)) (by kernel_rfl) ?_
  refine op_nil ?_
  refine W_block ?_
  refine W_seq ?_
  refine W_region (by kernel_rfl) ?_
  refine seg2 (ρ' := upd (upd (upd (upd (ini [.pointer none, .int .i64 k, .int .i64 a, .int .i64 b, .int .i64 c]) 10 (.int .i64 0)) 11 (.int .i64 k)) 13 (.bool (k == 1))) 12 (.bool (k == 1))) (by kernel_rfl) ?_
  refine op_nil ?_
  refine W_cond (k == 1) (by kernel_rfl) (by kernel_rfl) (fun hc1 => ?_) (fun hc1 => ?_)
  · replace hc1 : k = 1 := (eq_of_beq hc1)
    refine W_seq ?_
    refine W_region (by kernel_rfl) ?_
    refine seg3 (ρ' := upd (upd (upd (upd (upd (upd (upd (ini [.pointer none, .int .i64 k, .int .i64 a, .int .i64 b, .int .i64 c]) 10 (.int .i64 0)) 11 (.int .i64 k)) 13 (.bool (k == 1))) 12 (.bool (k == 1))) 14 (.pointer none)) 15 (.int .i64 a)) 16 (.int .i64 b)) (by kernel_rfl) ?_
    refine st (by rfl) (S_call (args := [.pointer none, .int .i64 a, .int .i64 b]) (by kernel_rfl) (and_nil a b _) ?_)
    rintro _ w2 ⟨rfl, hT3⟩
    have hT0 := hT3
    refine seg1 (ρ' := upd (upd (upd (upd (upd (upd (upd (upd (upd (ini [.pointer none, .int .i64 k, .int .i64 a, .int .i64 b, .int .i64 c]) 10 (.int .i64 0)) 11 (.int .i64 k)) 13 (.bool (k == 1))) 12 (.bool (k == 1))) 14 (.pointer none)) 15 (.int .i64 a)) 16 (.int .i64 b)) 17 (.int .i64 (-1))) 10 (.int .i64 (-1))) (by kernel_rfl) ?_
    refine op_nil ?_
    refine W_ret ?_
    exact ⟨_, Res_of (v := .int .i64 (-1)) (by kernel_rfl), ⟨rfl, hT0⟩⟩
  · replace hc1 : k ≠ 1 := (ne_of_beq_false hc1)
    refine W_seq ?_
    refine W_region (by kernel_rfl) ?_
    refine seg2 (ρ' := upd (upd (upd (upd (upd (upd (ini [.pointer none, .int .i64 k, .int .i64 a, .int .i64 b, .int .i64 c]) 10 (.int .i64 0)) 11 (.int .i64 k)) 13 (.bool (k == 1))) 12 (.bool (k == 1))) 19 (.bool (k == 2))) 18 (.bool (k == 2))) (by kernel_rfl) ?_
    refine op_nil ?_
    refine W_cond (k == 2) (by kernel_rfl) (by kernel_rfl) (fun hc4 => ?_) (fun hc4 => ?_)
    · replace hc4 : k = 2 := (eq_of_beq hc4)
      refine W_seq ?_
      refine W_region (by kernel_rfl) ?_
      refine seg3 (ρ' := upd (upd (upd (upd (upd (upd (upd (upd (upd (ini [.pointer none, .int .i64 k, .int .i64 a, .int .i64 b, .int .i64 c]) 10 (.int .i64 0)) 11 (.int .i64 k)) 13 (.bool (k == 1))) 12 (.bool (k == 1))) 19 (.bool (k == 2))) 18 (.bool (k == 2))) 20 (.pointer none)) 21 (.int .i64 a)) 22 (.int .i64 b)) (by kernel_rfl) ?_
      refine st (by rfl) (S_call (args := [.pointer none, .int .i64 a, .int .i64 b]) (by kernel_rfl) (or_nil a b _) ?_)
      rintro _ w5 ⟨rfl, hT6⟩
      have hT0 := hT6
      refine seg1 (ρ' := upd (upd (upd (upd (upd (upd (upd (upd (upd (upd (upd (ini [.pointer none, .int .i64 k, .int .i64 a, .int .i64 b, .int .i64 c]) 10 (.int .i64 0)) 11 (.int .i64 k)) 13 (.bool (k == 1))) 12 (.bool (k == 1))) 19 (.bool (k == 2))) 18 (.bool (k == 2))) 20 (.pointer none)) 21 (.int .i64 a)) 22 (.int .i64 b)) 23 (.int .i64 (-1))) 10 (.int .i64 (-1))) (by kernel_rfl) ?_
      refine op_nil ?_
      refine W_ret ?_
      exact ⟨_, Res_of (v := .int .i64 (-1)) (by kernel_rfl), ⟨rfl, hT0⟩⟩
    · replace hc4 : k ≠ 2 := (ne_of_beq_false hc4)
      refine W_seq ?_
      refine W_region (by kernel_rfl) ?_
      refine seg2 (ρ' := upd (upd (upd (upd (upd (upd (upd (upd (ini [.pointer none, .int .i64 k, .int .i64 a, .int .i64 b, .int .i64 c]) 10 (.int .i64 0)) 11 (.int .i64 k)) 13 (.bool (k == 1))) 12 (.bool (k == 1))) 19 (.bool (k == 2))) 18 (.bool (k == 2))) 25 (.bool (k == 3))) 24 (.bool (k == 3))) (by kernel_rfl) ?_
      refine op_nil ?_
      refine W_cond (k == 3) (by kernel_rfl) (by kernel_rfl) (fun hc7 => ?_) (fun hc7 => ?_)
      · replace hc7 : k = 3 := (eq_of_beq hc7)
        refine W_seq ?_
        refine W_fg [(0, .pointer none), (1, .int .i64 k), (2, .int .i64 a), (3, .int .i64 b), (4, .int .i64 c), (10, .int .i64 0), (11, .int .i64 k), (12, .bool (k == 1)), (18, .bool (k == 2)), (24, .bool (k == 3))] (by kernel_rfl) fun ρ => ?_
        refine W_region (by kernel_rfl) ?_
        refine seg3 (ρ' := upd (upd (upd (updL ρ [(0, .pointer none), (1, .int .i64 k), (2, .int .i64 a), (3, .int .i64 b), (4, .int .i64 c), (10, .int .i64 0), (11, .int .i64 k), (12, .bool (k == 1)), (18, .bool (k == 2)), (24, .bool (k == 3))]) 26 (.pointer none)) 27 (.int .i64 a)) 28 (.int .i64 b)) (by kernel_rfl) ?_
        refine st (by rfl) (S_call (args := [.pointer none, .int .i64 a, .int .i64 b]) (by kernel_rfl) (xor_nil a b _) ?_)
        rintro _ w8 ⟨rfl, hT9⟩
        have hT0 := hT9
        refine seg1 (ρ' := upd (upd (upd (upd (upd (updL ρ [(0, .pointer none), (1, .int .i64 k), (2, .int .i64 a), (3, .int .i64 b), (4, .int .i64 c), (10, .int .i64 0), (11, .int .i64 k), (12, .bool (k == 1)), (18, .bool (k == 2)), (24, .bool (k == 3))]) 26 (.pointer none)) 27 (.int .i64 a)) 28 (.int .i64 b)) 29 (.int .i64 (-1))) 10 (.int .i64 (-1))) (by kernel_rfl) ?_
        refine op_nil ?_
        refine W_ret ?_
        exact ⟨_, Res_of (v := .int .i64 (-1)) (by kernel_rfl), ⟨rfl, hT0⟩⟩
      · replace hc7 : k ≠ 3 := (ne_of_beq_false hc7)
        refine W_seq ?_
        refine W_fg [(0, .pointer none), (1, .int .i64 k), (2, .int .i64 a), (3, .int .i64 b), (4, .int .i64 c), (10, .int .i64 0), (11, .int .i64 k), (12, .bool (k == 1)), (18, .bool (k == 2)), (24, .bool (k == 3))] (by kernel_rfl) fun ρ => ?_
        refine W_region (by kernel_rfl) ?_
        refine seg2 (ρ' := upd (upd (updL ρ [(0, .pointer none), (1, .int .i64 k), (2, .int .i64 a), (3, .int .i64 b), (4, .int .i64 c), (10, .int .i64 0), (11, .int .i64 k), (12, .bool (k == 1)), (18, .bool (k == 2)), (24, .bool (k == 3))]) 31 (.bool (k == 4))) 30 (.bool (k == 4))) (by kernel_rfl) ?_
        refine op_nil ?_
        refine W_cond (k == 4) (by kernel_rfl) (by kernel_rfl) (fun hc10 => ?_) (fun hc10 => ?_)
        · replace hc10 : k = 4 := (eq_of_beq hc10)
          refine W_seq ?_
          refine W_region (by kernel_rfl) ?_
          refine seg4 (ρ' := upd (upd (upd (upd (upd (upd (updL ρ [(0, .pointer none), (1, .int .i64 k), (2, .int .i64 a), (3, .int .i64 b), (4, .int .i64 c), (10, .int .i64 0), (11, .int .i64 k), (12, .bool (k == 1)), (18, .bool (k == 2)), (24, .bool (k == 3))]) 31 (.bool (k == 4))) 30 (.bool (k == 4))) 32 (.pointer none)) 33 (.int .i64 a)) 34 (.int .i64 b)) 35 (.int .i64 c)) (by kernel_rfl) ?_
          refine st (by rfl) (S_call (args := [.pointer none, .int .i64 a, .int .i64 b, .int .i64 c]) (by kernel_rfl) (ite_nil a b c _) ?_)
          rintro _ w11 ⟨rfl, hT12⟩
          have hT0 := hT12
          refine seg1 (ρ' := upd (upd (upd (upd (upd (upd (upd (upd (updL ρ [(0, .pointer none), (1, .int .i64 k), (2, .int .i64 a), (3, .int .i64 b), (4, .int .i64 c), (10, .int .i64 0), (11, .int .i64 k), (12, .bool (k == 1)), (18, .bool (k == 2)), (24, .bool (k == 3))]) 31 (.bool (k == 4))) 30 (.bool (k == 4))) 32 (.pointer none)) 33 (.int .i64 a)) 34 (.int .i64 b)) 35 (.int .i64 c)) 36 (.int .i64 (-1))) 10 (.int .i64 (-1))) (by kernel_rfl) ?_
          refine op_nil ?_
          refine W_ret ?_
          exact ⟨_, Res_of (v := .int .i64 (-1)) (by kernel_rfl), ⟨rfl, hT0⟩⟩
        · replace hc10 : k ≠ 4 := (ne_of_beq_false hc10)
          refine W_skip ?_
          refine W_seq ?_
          refine W_region (by kernel_rfl) ?_
          refine seg4 (ρ' := upd (upd (upd (upd (upd (upd (updL ρ [(0, .pointer none), (1, .int .i64 k), (2, .int .i64 a), (3, .int .i64 b), (4, .int .i64 c), (10, .int .i64 0), (11, .int .i64 k), (12, .bool (k == 1)), (18, .bool (k == 2)), (24, .bool (k == 3))]) 31 (.bool (k == 4))) 30 (.bool (k == 4))) 37 (.pointer none)) 38 (.int .i64 a)) 39 (.int .i64 b)) 40 (.int .i64 c)) (by kernel_rfl) ?_
          refine st (by rfl) (S_call (args := [.pointer none, .int .i64 a, .int .i64 b, .int .i64 c]) (by kernel_rfl) (maj_nil a b c _) ?_)
          rintro _ w13 ⟨rfl, hT14⟩
          have hT0 := hT14
          refine seg1 (ρ' := upd (upd (upd (upd (upd (upd (upd (upd (updL ρ [(0, .pointer none), (1, .int .i64 k), (2, .int .i64 a), (3, .int .i64 b), (4, .int .i64 c), (10, .int .i64 0), (11, .int .i64 k), (12, .bool (k == 1)), (18, .bool (k == 2)), (24, .bool (k == 3))]) 31 (.bool (k == 4))) 30 (.bool (k == 4))) 37 (.pointer none)) 38 (.int .i64 a)) 39 (.int .i64 b)) 40 (.int .i64 c)) 41 (.int .i64 (-1))) 10 (.int .i64 (-1))) (by kernel_rfl) ?_
          refine op_nil ?_
          refine W_ret ?_
          exact ⟨_, Res_of (v := .int .i64 (-1)) (by kernel_rfl), ⟨rfl, hT0⟩⟩

set_option maxRecDepth 100000 in
theorem GateNone_w (k a b c : Int) (w : World) : Ret Try.prog 5 [.agg #[.int .i64 k, .int .i64 a, .int .i64 b, .int .i64 c]] w fun v w' => v = .bool true ∧ Tch N0 w w' := by
  refine enter Try.func5 rfl rfl ?_
  refine W_seq ?_
  refine W_region (by kernel_rfl) ?_
  refine st (by rfl) (S_new (v := .pointer (some ⟨w.heap.size, 0, none⟩)) (ob := .cells #[.int .i64 k, .int .i64 a, .int .i64 b, .int .i64 c] 30) (by kernel_rfl) fun w1 hT2 hs3 hB4 => ?_)
  replace hB4 : Blk w1 (w.heap.size) 30 [.int .i64 k, .int .i64 a, .int .i64 b, .int .i64 c] := hB4
  have hT0 := hT2
  refine seg1 (ρ' := upd (upd (ini [.agg #[.int .i64 k, .int .i64 a, .int .i64 b, .int .i64 c]]) 1 (.pointer (some ⟨w.heap.size, 0, none⟩))) 2 (.bool false)) (by kernel_rfl) ?_
  refine op_nil ?_
  refine W_seq ?_
  refine W_region (by kernel_rfl) ?_
  refine seg1 (ρ' := upd (upd (upd (ini [.agg #[.int .i64 k, .int .i64 a, .int .i64 b, .int .i64 c]]) 1 (.pointer (some ⟨w.heap.size, 0, none⟩))) 2 (.bool false)) 3 (.pointer none)) (by kernel_rfl) ?_
  refine op_nil ?_
  refine W_seq ?_
  refine W_region (by kernel_rfl) ?_
  refine seg1 (ρ' := upd (upd (upd (upd (ini [.agg #[.int .i64 k, .int .i64 a, .int .i64 b, .int .i64 c]]) 1 (.pointer (some ⟨w.heap.size, 0, none⟩))) 2 (.bool false)) 3 (.pointer none)) 4 (.pointer none)) (by kernel_rfl) ?_
  refine st (by rfl) (S_call (args := [.pointer none]) (by kernel_rfl) (true_nil _) ?_)
  rintro _ w5 ⟨rfl, hT6⟩
  have hT0 := hT0.t0 hT6
  have hB4 := hB4.tch0 hT6
  refine seg3 (ρ' := upd (upd (upd (upd (upd (upd (upd (upd (ini [.agg #[.int .i64 k, .int .i64 a, .int .i64 b, .int .i64 c]]) 1 (.pointer (some ⟨w.heap.size, 0, none⟩))) 2 (.bool false)) 3 (.pointer none)) 4 (.pointer none)) 5 (.int .i64 (-1))) 6 (.bool true)) 7 (.bool true)) 8 (.pointer none)) (by kernel_rfl) ?_
  refine st (by kernel_rfl) (S_call (args := [.pointer none]) (by kernel_rfl) (input_nil _) ?_)
  rintro _ w7 ⟨rfl, hT8⟩
  have hT0 := hT0.t0 hT8
  have hB4 := hB4.tch0 hT8
  refine seg5 (ρ' := upd (upd (upd (upd (upd (upd (upd (upd (upd (upd (upd (upd (upd (upd (ini [.agg #[.int .i64 k, .int .i64 a, .int .i64 b, .int .i64 c]]) 1 (.pointer (some ⟨w.heap.size, 0, none⟩))) 2 (.bool false)) 3 (.pointer none)) 4 (.pointer none)) 5 (.int .i64 (-1))) 6 (.bool true)) 7 (.bool true)) 8 (.pointer none)) 9 (.int .i64 (-1))) 10 (.bool true)) 11 (.bool true)) 12 (.bool true)) 13 (.pointer none)) 14 (.pointer (some ⟨w.heap.size, 0, none⟩))) (by kernel_rfl) ?_
  refine st (by kernel_rfl) (S_val (v := .int .i64 k) (R_load (v := .int .i64 k) (by kernel_rfl) (by kernel_rfl) ((hB4.cell 0).trans rfl)) ?_)
  refine seg1 (ρ' := upd (upd (upd (upd (upd (upd (upd (upd (upd (upd (upd (upd (upd (upd (upd (upd (ini [.agg #[.int .i64 k, .int .i64 a, .int .i64 b, .int .i64 c]]) 1 (.pointer (some ⟨w.heap.size, 0, none⟩))) 2 (.bool false)) 3 (.pointer none)) 4 (.pointer none)) 5 (.int .i64 (-1))) 6 (.bool true)) 7 (.bool true)) 8 (.pointer none)) 9 (.int .i64 (-1))) 10 (.bool true)) 11 (.bool true)) 12 (.bool true)) 13 (.pointer none)) 14 (.pointer (some ⟨w.heap.size, 0, none⟩))) 15 (.int .i64 k)) 16 (.pointer (some ⟨w.heap.size, 1, none⟩))) (by kernel_rfl) ?_
  refine st (by kernel_rfl) (S_val (v := .int .i64 a) (R_load (v := .int .i64 a) (by kernel_rfl) (by kernel_rfl) ((hB4.cell 1).trans rfl)) ?_)
  refine seg1 (ρ' := upd (upd (upd (upd (upd (upd (upd (upd (upd (upd (upd (upd (upd (upd (upd (upd (upd (upd (ini [.agg #[.int .i64 k, .int .i64 a, .int .i64 b, .int .i64 c]]) 1 (.pointer (some ⟨w.heap.size, 0, none⟩))) 2 (.bool false)) 3 (.pointer none)) 4 (.pointer none)) 5 (.int .i64 (-1))) 6 (.bool true)) 7 (.bool true)) 8 (.pointer none)) 9 (.int .i64 (-1))) 10 (.bool true)) 11 (.bool true)) 12 (.bool true)) 13 (.pointer none)) 14 (.pointer (some ⟨w.heap.size, 0, none⟩))) 15 (.int .i64 k)) 16 (.pointer (some ⟨w.heap.size, 1, none⟩))) 17 (.int .i64 a)) 18 (.pointer (some ⟨w.heap.size, 2, none⟩))) (by kernel_rfl) ?_
  refine st (by kernel_rfl) (S_val (v := .int .i64 b) (R_load (v := .int .i64 b) (by kernel_rfl) (by kernel_rfl) ((hB4.cell 2).trans rfl)) ?_)
  refine seg1 (ρ' := upd (upd (upd (upd (upd (upd (upd (upd (upd (upd (upd (upd (upd (upd (upd (upd (upd (upd (upd (upd (ini [.agg #[.int .i64 k, .int .i64 a, .int .i64 b, .int .i64 c]]) 1 (.pointer (some ⟨w.heap.size, 0, none⟩))) 2 (.bool false)) 3 (.pointer none)) 4 (.pointer none)) 5 (.int .i64 (-1))) 6 (.bool true)) 7 (.bool true)) 8 (.pointer none)) 9 (.int .i64 (-1))) 10 (.bool true)) 11 (.bool true)) 12 (.bool true)) 13 (.pointer none)) 14 (.pointer (some ⟨w.heap.size, 0, none⟩))) 15 (.int .i64 k)) 16 (.pointer (some ⟨w.heap.size, 1, none⟩))) 17 (.int .i64 a)) 18 (.pointer (some ⟨w.heap.size, 2, none⟩))) 19 (.int .i64 b)) 20 (.pointer (some ⟨w.heap.size, 3, none⟩))) (by kernel_rfl) ?_
  refine st (by kernel_rfl) (S_val (v := .int .i64 c) (R_load (v := .int .i64 c) (by kernel_rfl) (by kernel_rfl) ((hB4.cell 3).trans rfl)) ?_)
  refine st (by kernel_rfl) (S_call (args := [.pointer none, .int .i64 k, .int .i64 a, .int .i64 b, .int .i64 c]) (by kernel_rfl) (ask_nil k a b c _) ?_)
  rintro _ w9 ⟨rfl, hT10⟩
  have hT0 := hT0.t0 hT10
  have hB4 := hB4.tch0 hT10
  refine seg4 (ρ' := upd (upd (upd (upd (upd (upd (upd (upd (upd (upd (upd (upd (upd (upd (upd (upd (upd (upd (upd (upd (upd (upd (upd (upd (upd (upd (ini [.agg #[.int .i64 k, .int .i64 a, .int .i64 b, .int .i64 c]]) 1 (.pointer (some ⟨w.heap.size, 0, none⟩))) 2 (.bool false)) 3 (.pointer none)) 4 (.pointer none)) 5 (.int .i64 (-1))) 6 (.bool true)) 7 (.bool true)) 8 (.pointer none)) 9 (.int .i64 (-1))) 10 (.bool true)) 11 (.bool true)) 12 (.bool true)) 13 (.pointer none)) 14 (.pointer (some ⟨w.heap.size, 0, none⟩))) 15 (.int .i64 k)) 16 (.pointer (some ⟨w.heap.size, 1, none⟩))) 17 (.int .i64 a)) 18 (.pointer (some ⟨w.heap.size, 2, none⟩))) 19 (.int .i64 b)) 20 (.pointer (some ⟨w.heap.size, 3, none⟩))) 21 (.int .i64 c)) 22 (.int .i64 (-1))) 23 (.bool true)) 24 (.bool true)) 25 (.bool true)) 26 (.pointer none)) (by kernel_rfl) ?_
  refine st (by kernel_rfl) (S_call (args := [.pointer none]) (by kernel_rfl) (vars_nil _) ?_)
  rintro _ w11 ⟨rfl, hT12⟩
  have hT0 := hT0.t0 hT12
  have hB4 := hB4.tch0 hT12
  refine seg4 (ρ' := upd (upd (upd (upd (upd (upd (upd (upd (upd (upd (upd (upd (upd (upd (upd (upd (upd (upd (upd (upd (upd (upd (upd (upd (upd (upd (upd (upd (upd (upd (upd (ini [.agg #[.int .i64 k, .int .i64 a, .int .i64 b, .int .i64 c]]) 1 (.pointer (some ⟨w.heap.size, 0, none⟩))) 2 (.bool false)) 3 (.pointer none)) 4 (.pointer none)) 5 (.int .i64 (-1))) 6 (.bool true)) 7 (.bool true)) 8 (.pointer none)) 9 (.int .i64 (-1))) 10 (.bool true)) 11 (.bool true)) 12 (.bool true)) 13 (.pointer none)) 14 (.pointer (some ⟨w.heap.size, 0, none⟩))) 15 (.int .i64 k)) 16 (.pointer (some ⟨w.heap.size, 1, none⟩))) 17 (.int .i64 a)) 18 (.pointer (some ⟨w.heap.size, 2, none⟩))) 19 (.int .i64 b)) 20 (.pointer (some ⟨w.heap.size, 3, none⟩))) 21 (.int .i64 c)) 22 (.int .i64 (-1))) 23 (.bool true)) 24 (.bool true)) 25 (.bool true)) 26 (.pointer none)) 27 (.int .i64 0)) 28 (.bool true)) 29 (.bool true)) 30 (.bool true)) 31 (.pointer none)) (by kernel_rfl) ?_
  refine st (by kernel_rfl) (S_call (args := [.pointer none]) (by kernel_rfl) (clauses_nil _) ?_)
  rintro _ w13 ⟨rfl, hT14⟩
  have hT0 := hT0.t0 hT14
  have hB4 := hB4.tch0 hT14
  refine seg4 (ρ' := upd (upd (upd (upd (upd (upd (upd (upd (upd (upd (upd (upd (upd (upd (upd (upd (upd (upd (upd (upd (upd (upd (upd (upd (upd (upd (upd (upd (upd (upd (upd (upd (upd (upd (upd (upd (ini [.agg #[.int .i64 k, .int .i64 a, .int .i64 b, .int .i64 c]]) 1 (.pointer (some ⟨w.heap.size, 0, none⟩))) 2 (.bool false)) 3 (.pointer none)) 4 (.pointer none)) 5 (.int .i64 (-1))) 6 (.bool true)) 7 (.bool true)) 8 (.pointer none)) 9 (.int .i64 (-1))) 10 (.bool true)) 11 (.bool true)) 12 (.bool true)) 13 (.pointer none)) 14 (.pointer (some ⟨w.heap.size, 0, none⟩))) 15 (.int .i64 k)) 16 (.pointer (some ⟨w.heap.size, 1, none⟩))) 17 (.int .i64 a)) 18 (.pointer (some ⟨w.heap.size, 2, none⟩))) 19 (.int .i64 b)) 20 (.pointer (some ⟨w.heap.size, 3, none⟩))) 21 (.int .i64 c)) 22 (.int .i64 (-1))) 23 (.bool true)) 24 (.bool true)) 25 (.bool true)) 26 (.pointer none)) 27 (.int .i64 0)) 28 (.bool true)) 29 (.bool true)) 30 (.bool true)) 31 (.pointer none)) 32 (.slice none 0 0)) 33 (.int .i64 0)) 34 (.bool true)) 35 (.bool true)) 36 (.bool true)) (by kernel_rfl) ?_
  refine st (by kernel_rfl) (S_call (args := []) (by kernel_rfl) (awake19_ok _) ?_)
  rintro _ w15 ⟨rfl, hT16⟩
  have hT0 := hT0.t0 hT16
  have hB4 := hB4.tch0 hT16
  refine seg2 (ρ' := upd (upd (upd (upd (upd (upd (upd (upd (upd (upd (upd (upd (upd (upd (upd (upd (upd (upd (upd (upd (upd (upd (upd (upd (upd (upd (upd (upd (upd (upd (upd (upd (upd (upd (upd (upd (upd (upd (upd (ini [.agg #[.int .i64 k, .int .i64 a, .int .i64 b, .int .i64 c]]) 1 (.pointer (some ⟨w.heap.size, 0, none⟩))) 2 (.bool false)) 3 (.pointer none)) 4 (.pointer none)) 5 (.int .i64 (-1))) 6 (.bool true)) 7 (.bool true)) 8 (.pointer none)) 9 (.int .i64 (-1))) 10 (.bool true)) 11 (.bool true)) 12 (.bool true)) 13 (.pointer none)) 14 (.pointer (some ⟨w.heap.size, 0, none⟩))) 15 (.int .i64 k)) 16 (.pointer (some ⟨w.heap.size, 1, none⟩))) 17 (.int .i64 a)) 18 (.pointer (some ⟨w.heap.size, 2, none⟩))) 19 (.int .i64 b)) 20 (.pointer (some ⟨w.heap.size, 3, none⟩))) 21 (.int .i64 c)) 22 (.int .i64 (-1))) 23 (.bool true)) 24 (.bool true)) 25 (.bool true)) 26 (.pointer none)) 27 (.int .i64 0)) 28 (.bool true)) 29 (.bool true)) 30 (.bool true)) 31 (.pointer none)) 32 (.slice none 0 0)) 33 (.int .i64 0)) 34 (.bool true)) 35 (.bool true)) 36 (.bool true)) 37 (.bool true)) 38 (.bool true)) 2 (.bool true)) (by kernel_rfl) ?_
  refine op_nil ?_
  refine W_ret ?_
  exact ⟨_, Res_of (v := .bool true) (by kernel_rfl), ⟨rfl, hT0⟩⟩

end Go.Proofs.YtnlecdpiccgdpaaV
