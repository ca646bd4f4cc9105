/- Walks of functions of the program and of the document's texts. The conditions stand with each theorem. -/
import Derived.Test.YtnlecdpiccgdpaaProg
import Derived.Test.YtnlecdpiccgdpaaVx4
import Derived.Test.YtnlecdpiccgdpaaN1
set_option linter.unusedVariables false
set_option linter.unusedSimpArgs false
namespace Go.Proofs.YtnlecdpiccgdpaaV
open Go Go.RowKit Go.Proofs

theorem says1 {k : Int} (h : k = 1) (a b c : Bool) : (a && b) = saysF k a b c := by subst h; rfl
theorem says2 {k : Int} (h : k = 2) (a b c : Bool) : (a || b) = saysF k a b c := by subst h; rfl
theorem says3 {k : Int} (h : k = 3) (a b c : Bool) : (a != b) = saysF k a b c := by subst h; rfl
theorem says4 {k : Int} (h : k = 4) (a b c : Bool) : ite_ a b c = saysF k a b c := by subst h; rfl
theorem says5 {k : Int} (h : k = 5) (a b c : Bool) : ((a && b) || (c && (a || b))) = saysF k a b c := by subst h; cases a <;> cases b <;> cases c <;> rfl

set_option maxRecDepth 100000 in
theorem ask_lo (F : Nat → Prop) (p n : Nat) (k : Int) (a b : Nat) (c : Int) (cs : List (List Nat)) (I : Nat → Prop) (w : World) (hG : GObj F w p n cs I) (ha : a / 2 < n) (hb : b / 2 < n) (hn : n ≤ 68719470000) (hk : k = 1 ∨ k = 2 ∨ k = 3) : Ret Try.prog 18 [.pointer (some ⟨p, 0, none⟩), .int .i64 k, .int .i64 ((a : Nat) : Int), .int .i64 ((b : Nat) : Int), .int .i64 c] w fun v w' => GRet F p n cs I w 4 (fun be => saysF k (lt_ be a) (lt_ be b) false) v w' := by
  have hMv := Mv.refl F w
  refine enter Try.func18 rfl rfl ?_
  refine W_seq ?_
  refine W_region (by kernel_rfl) ?_
  refine seg1 (ρ' := upd (ini [.pointer (some ⟨p, 0, none⟩), .int .i64 k, .int .i64 ((a : Nat) : Int), .int .i64 ((b : Nat) : Int), .int .i64 c]) 10 (.int .i64 0)) (by kernel_rfl) ?_
  refine op_nil ?_
  refine W_seq ?_
  refine W_seq ?_
  refine W_region (by kernel_rfl) ?_
  refine seg1 (ρ' := upd (upd (ini [.pointer (some ⟨p, 0, none⟩), .int .i64 k, .int .i64 ((a : Nat) : Int), .int .i64 ((b : Nat) : Int), .int .i64 c]) 10 (.int .i64 0)) 11 (.int .i64 k)) (by kernel_rfl) ?_
  refine op_nil ?_
  refine W_block ?_
  refine W_seq ?_
  refine W_region (by kernel_rfl) ?_
  refine seg2 (ρ' := upd (upd (upd (upd (ini [.pointer (some ⟨p, 0, none⟩), .int .i64 k, .int .i64 ((a : Nat) : Int), .int .i64 ((b : Nat) : Int), .int .i64 c]) 10 (.int .i64 0)) 11 (.int .i64 k)) 13 (.bool (k == 1))) 12 (.bool (k == 1))) (by kernel_rfl) ?_
  refine op_nil ?_
  refine W_cond (k == 1) (by kernel_rfl) (by kernel_rfl) (fun hc1 => ?_) (fun hc1 => ?_)
  · replace hc1 : k = 1 := (eq_of_beq hc1)
    refine W_seq ?_
    refine W_region (by kernel_rfl) ?_
    refine seg3 (ρ' := upd (upd (upd (upd (upd (upd (upd (ini [.pointer (some ⟨p, 0, none⟩), .int .i64 k, .int .i64 ((a : Nat) : Int), .int .i64 ((b : Nat) : Int), .int .i64 c]) 10 (.int .i64 0)) 11 (.int .i64 k)) 13 (.bool (k == 1))) 12 (.bool (k == 1))) 14 (.pointer (some ⟨p, 0, none⟩))) 15 (.int .i64 ((a : Nat) : Int))) 16 (.int .i64 ((b : Nat) : Int))) (by kernel_rfl) ?_
    refine st (by rfl) (S_call (args := [.pointer (some ⟨p, 0, none⟩), .int .i64 ((a : Nat) : Int), .int .i64 ((b : Nat) : Int)]) (by kernel_rfl) (and_ok F p n a b cs I _ hG (by omega) (by omega) (by omega)) ?_)
    rintro _ w2 ⟨F3, n4, cs5, x6, rfl, hG, hm7, hr8, hd9⟩
    have hMv := hMv.trans hm7
    have hle11 := hr8.1
    have hxb10 := hr8.2.2.1
    refine seg1 (ρ' := upd (upd (upd (upd (upd (upd (upd (upd (upd (ini [.pointer (some ⟨p, 0, none⟩), .int .i64 k, .int .i64 ((a : Nat) : Int), .int .i64 ((b : Nat) : Int), .int .i64 c]) 10 (.int .i64 0)) 11 (.int .i64 k)) 13 (.bool (k == 1))) 12 (.bool (k == 1))) 14 (.pointer (some ⟨p, 0, none⟩))) 15 (.int .i64 ((a : Nat) : Int))) 16 (.int .i64 ((b : Nat) : Int))) 17 (.int .i64 ((x6 : Nat) : Int))) 10 (.int .i64 ((x6 : Nat) : Int))) (by kernel_rfl) ?_
    refine op_nil ?_
    refine W_ret ?_
    exact ⟨_, Res_of (v := .int .i64 ((x6 : Nat) : Int)) (by kernel_rfl), ⟨F3, n4, cs5, _, rfl, hG, hMv, hr8.eq (fun be _ => says1 (by omega) _ _ _), by omega⟩⟩
  · replace hc1 : k ≠ 1 := (ne_of_beq_false hc1)
    refine W_seq ?_
    refine W_region (by kernel_rfl) ?_
    refine seg2 (ρ' := upd (upd (upd (upd (upd (upd (ini [.pointer (some ⟨p, 0, none⟩), .int .i64 k, .int .i64 ((a : Nat) : Int), .int .i64 ((b : Nat) : Int), .int .i64 c]) 10 (.int .i64 0)) 11 (.int .i64 k)) 13 (.bool (k == 1))) 12 (.bool (k == 1))) 19 (.bool (k == 2))) 18 (.bool (k == 2))) (by kernel_rfl) ?_
    refine op_nil ?_
    refine W_cond (k == 2) (by kernel_rfl) (by kernel_rfl) (fun hc12 => ?_) (fun hc12 => ?_)
    · replace hc12 : k = 2 := (eq_of_beq hc12)
      refine W_seq ?_
      refine W_region (by kernel_rfl) ?_
      refine seg3 (ρ' := upd (upd (upd (upd (upd (upd (upd (upd (upd (ini [.pointer (some ⟨p, 0, none⟩), .int .i64 k, .int .i64 ((a : Nat) : Int), .int .i64 ((b : Nat) : Int), .int .i64 c]) 10 (.int .i64 0)) 11 (.int .i64 k)) 13 (.bool (k == 1))) 12 (.bool (k == 1))) 19 (.bool (k == 2))) 18 (.bool (k == 2))) 20 (.pointer (some ⟨p, 0, none⟩))) 21 (.int .i64 ((a : Nat) : Int))) 22 (.int .i64 ((b : Nat) : Int))) (by kernel_rfl) ?_
      refine st (by rfl) (S_call (args := [.pointer (some ⟨p, 0, none⟩), .int .i64 ((a : Nat) : Int), .int .i64 ((b : Nat) : Int)]) (by kernel_rfl) (or_ok F p n a b cs I _ hG (by omega) (by omega) (by omega)) ?_)
      rintro _ w13 ⟨F14, n15, cs16, x17, rfl, hG, hm18, hr19, hd20⟩
      have hMv := hMv.trans hm18
      have hle22 := hr19.1
      have hxb21 := hr19.2.2.1
      refine seg1 (ρ' := upd (upd (upd (upd (upd (upd (upd (upd (upd (upd (upd (ini [.pointer (some ⟨p, 0, none⟩), .int .i64 k, .int .i64 ((a : Nat) : Int), .int .i64 ((b : Nat) : Int), .int .i64 c]) 10 (.int .i64 0)) 11 (.int .i64 k)) 13 (.bool (k == 1))) 12 (.bool (k == 1))) 19 (.bool (k == 2))) 18 (.bool (k == 2))) 20 (.pointer (some ⟨p, 0, none⟩))) 21 (.int .i64 ((a : Nat) : Int))) 22 (.int .i64 ((b : Nat) : Int))) 23 (.int .i64 ((x17 : Nat) : Int))) 10 (.int .i64 ((x17 : Nat) : Int))) (by kernel_rfl) ?_
      refine op_nil ?_
      refine W_ret ?_
      exact ⟨_, Res_of (v := .int .i64 ((x17 : Nat) : Int)) (by kernel_rfl), ⟨F14, n15, cs16, _, rfl, hG, hMv, hr19.eq (fun be _ => says2 (by omega) _ _ _), by omega⟩⟩
    · replace hc12 : k ≠ 2 := (ne_of_beq_false hc12)
      refine W_seq ?_
      refine W_region (by kernel_rfl) ?_
      refine seg2 (ρ' := upd (upd (upd (upd (upd (upd (upd (upd (ini [.pointer (some ⟨p, 0, none⟩), .int .i64 k, .int .i64 ((a : Nat) : Int), .int .i64 ((b : Nat) : Int), .int .i64 c]) 10 (.int .i64 0)) 11 (.int .i64 k)) 13 (.bool (k == 1))) 12 (.bool (k == 1))) 19 (.bool (k == 2))) 18 (.bool (k == 2))) 25 (.bool (k == 3))) 24 (.bool (k == 3))) (by kernel_rfl) ?_
      refine op_nil ?_
      refine W_cond (k == 3) (by kernel_rfl) (by kernel_rfl) (fun hc23 => ?_) (fun hc23 => ?_)
      · replace hc23 : k = 3 := (eq_of_beq hc23)
        refine W_seq ?_
        refine W_fg [(0, .pointer (some ⟨p, 0, none⟩)), (1, .int .i64 k), (2, .int .i64 ((a : Nat) : Int)), (3, .int .i64 ((b : Nat) : Int)), (4, .int .i64 c), (10, .int .i64 0), (11, .int .i64 k), (12, .bool (k == 1)), (18, .bool (k == 2)), (24, .bool (k == 3))] (by kernel_rfl) fun ρ => ?_
        refine W_region (by kernel_rfl) ?_
        refine seg3 (ρ' := upd (upd (upd (updL ρ [(0, .pointer (some ⟨p, 0, none⟩)), (1, .int .i64 k), (2, .int .i64 ((a : Nat) : Int)), (3, .int .i64 ((b : Nat) : Int)), (4, .int .i64 c), (10, .int .i64 0), (11, .int .i64 k), (12, .bool (k == 1)), (18, .bool (k == 2)), (24, .bool (k == 3))]) 26 (.pointer (some ⟨p, 0, none⟩))) 27 (.int .i64 ((a : Nat) : Int))) 28 (.int .i64 ((b : Nat) : Int))) (by kernel_rfl) ?_
        refine st (by rfl) (S_call (args := [.pointer (some ⟨p, 0, none⟩), .int .i64 ((a : Nat) : Int), .int .i64 ((b : Nat) : Int)]) (by kernel_rfl) (xor_ok F p n a b cs I _ hG (by omega) (by omega) (by omega)) ?_)
        rintro _ w24 ⟨F25, n26, cs27, x28, rfl, hG, hm29, hr30, hd31⟩
        have hMv := hMv.trans hm29
        have hle33 := hr30.1
        have hxb32 := hr30.2.2.1
        refine seg1 (ρ' := upd (upd (upd (upd (upd (updL ρ [(0, .pointer (some ⟨p, 0, none⟩)), (1, .int .i64 k), (2, .int .i64 ((a : Nat) : Int)), (3, .int .i64 ((b : Nat) : Int)), (4, .int .i64 c), (10, .int .i64 0), (11, .int .i64 k), (12, .bool (k == 1)), (18, .bool (k == 2)), (24, .bool (k == 3))]) 26 (.pointer (some ⟨p, 0, none⟩))) 27 (.int .i64 ((a : Nat) : Int))) 28 (.int .i64 ((b : Nat) : Int))) 29 (.int .i64 ((x28 : Nat) : Int))) 10 (.int .i64 ((x28 : Nat) : Int))) (by kernel_rfl) ?_
        refine op_nil ?_
        refine W_ret ?_
        exact ⟨_, Res_of (v := .int .i64 ((x28 : Nat) : Int)) (by kernel_rfl), ⟨F25, n26, cs27, _, rfl, hG, hMv, hr30.eq (fun be _ => says3 (by omega) _ _ _), by omega⟩⟩
      · replace hc23 : k ≠ 3 := (ne_of_beq_false hc23)
        exfalso; omega

set_option maxRecDepth 100000 in
theorem ask_hi (F : Nat → Prop) (p n : Nat) (k : Int) (a b : Nat) (c : Nat) (cs : List (List Nat)) (I : Nat → Prop) (w : World) (hG : GObj F w p n cs I) (ha : a / 2 < n) (hb : b / 2 < n) (hn : n ≤ 68719470000) (hc : c / 2 < n) (hk : k = 4 ∨ k = 5) : Ret Try.prog 18 [.pointer (some ⟨p, 0, none⟩), .int .i64 k, .int .i64 ((a : Nat) : Int), .int .i64 ((b : Nat) : Int), .int .i64 ((c : Nat) : Int)] w fun v w' => GRet F p n cs I w 4 (fun be => saysF k (lt_ be a) (lt_ be b) (lt_ be c)) v w' := by
  have hMv := Mv.refl F w
  refine enter Try.func18 rfl rfl ?_
  refine W_seq ?_
  refine W_region (by kernel_rfl) ?_
  refine seg1 (ρ' := upd (ini [.pointer (some ⟨p, 0, none⟩), .int .i64 k, .int .i64 ((a : Nat) : Int), .int .i64 ((b : Nat) : Int), .int .i64 ((c : Nat) : Int)]) 10 (.int .i64 0)) (by kernel_rfl) ?_
  refine op_nil ?_
  refine W_seq ?_
  refine W_seq ?_
  refine W_region (by kernel_rfl) ?_
  refine seg1 (ρ' := upd (upd (ini [.pointer (some ⟨p, 0, none⟩), .int .i64 k, .int .i64 ((a : Nat) : Int), .int .i64 ((b : Nat) : Int), .int .i64 ((c : Nat) : Int)]) 10 (.int .i64 0)) 11 (.int .i64 k)) (by kernel_rfl) ?_
  refine op_nil ?_
  refine W_block ?_
  refine W_seq ?_
  refine W_region (by kernel_rfl) ?_
  refine seg2 (ρ' := upd (upd (upd (upd (ini [.pointer (some ⟨p, 0, none⟩), .int .i64 k, .int .i64 ((a : Nat) : Int), .int .i64 ((b : Nat) : Int), .int .i64 ((c : Nat) : Int)]) 10 (.int .i64 0)) 11 (.int .i64 k)) 13 (.bool (k == 1))) 12 (.bool (k == 1))) (by kernel_rfl) ?_
  refine op_nil ?_
  refine W_cond (k == 1) (by kernel_rfl) (by kernel_rfl) (fun hc1 => ?_) (fun hc1 => ?_)
  · replace hc1 : k = 1 := (eq_of_beq hc1)
    exfalso; omega
  · replace hc1 : k ≠ 1 := (ne_of_beq_false hc1)
    refine W_seq ?_
    refine W_region (by kernel_rfl) ?_
    refine seg2 (ρ' := upd (upd (upd (upd (upd (upd (ini [.pointer (some ⟨p, 0, none⟩), .int .i64 k, .int .i64 ((a : Nat) : Int), .int .i64 ((b : Nat) : Int), .int .i64 ((c : Nat) : Int)]) 10 (.int .i64 0)) 11 (.int .i64 k)) 13 (.bool (k == 1))) 12 (.bool (k == 1))) 19 (.bool (k == 2))) 18 (.bool (k == 2))) (by kernel_rfl) ?_
    refine op_nil ?_
    refine W_cond (k == 2) (by kernel_rfl) (by kernel_rfl) (fun hc2 => ?_) (fun hc2 => ?_)
    · replace hc2 : k = 2 := (eq_of_beq hc2)
      exfalso; omega
    · replace hc2 : k ≠ 2 := (ne_of_beq_false hc2)
      refine W_seq ?_
      refine W_region (by kernel_rfl) ?_
      refine seg2 (ρ' := upd (upd (upd (upd (upd (upd (upd (upd (ini [.pointer (some ⟨p, 0, none⟩), .int .i64 k, .int .i64 ((a : Nat) : Int), .int .i64 ((b : Nat) : Int), .int .i64 ((c : Nat) : Int)]) 10 (.int .i64 0)) 11 (.int .i64 k)) 13 (.bool (k == 1))) 12 (.bool (k == 1))) 19 (.bool (k == 2))) 18 (.bool (k == 2))) 25 (.bool (k == 3))) 24 (.bool (k == 3))) (by kernel_rfl) ?_
      refine op_nil ?_
      refine W_cond (k == 3) (by kernel_rfl) (by kernel_rfl) (fun hc3 => ?_) (fun hc3 => ?_)
      · replace hc3 : k = 3 := (eq_of_beq hc3)
        exfalso; omega
      · replace hc3 : k ≠ 3 := (ne_of_beq_false hc3)
        refine W_seq ?_
        refine W_fg [(0, .pointer (some ⟨p, 0, none⟩)), (1, .int .i64 k), (2, .int .i64 ((a : Nat) : Int)), (3, .int .i64 ((b : Nat) : Int)), (4, .int .i64 ((c : Nat) : Int)), (10, .int .i64 0), (11, .int .i64 k), (12, .bool (k == 1)), (18, .bool (k == 2)), (24, .bool (k == 3))] (by kernel_rfl) fun ρ => ?_
        refine W_region (by kernel_rfl) ?_
        refine seg2 (ρ' := upd (upd (updL ρ [(0, .pointer (some ⟨p, 0, none⟩)), (1, .int .i64 k), (2, .int .i64 ((a : Nat) : Int)), (3, .int .i64 ((b : Nat) : Int)), (4, .int .i64 ((c : Nat) : Int)), (10, .int .i64 0), (11, .int .i64 k), (12, .bool (k == 1)), (18, .bool (k == 2)), (24, .bool (k == 3))]) 31 (.bool (k == 4))) 30 (.bool (k == 4))) (by kernel_rfl) ?_
        refine op_nil ?_
        refine W_cond (k == 4) (by kernel_rfl) (by kernel_rfl) (fun hc4 => ?_) (fun hc4 => ?_)
        · replace hc4 : k = 4 := (eq_of_beq hc4)
          refine W_seq ?_
          refine W_region (by kernel_rfl) ?_
          refine seg4 (ρ' := upd (upd (upd (upd (upd (upd (updL ρ [(0, .pointer (some ⟨p, 0, none⟩)), (1, .int .i64 k), (2, .int .i64 ((a : Nat) : Int)), (3, .int .i64 ((b : Nat) : Int)), (4, .int .i64 ((c : Nat) : Int)), (10, .int .i64 0), (11, .int .i64 k), (12, .bool (k == 1)), (18, .bool (k == 2)), (24, .bool (k == 3))]) 31 (.bool (k == 4))) 30 (.bool (k == 4))) 32 (.pointer (some ⟨p, 0, none⟩))) 33 (.int .i64 ((a : Nat) : Int))) 34 (.int .i64 ((b : Nat) : Int))) 35 (.int .i64 ((c : Nat) : Int))) (by kernel_rfl) ?_
          refine st (by rfl) (S_call (args := [.pointer (some ⟨p, 0, none⟩), .int .i64 ((a : Nat) : Int), .int .i64 ((b : Nat) : Int), .int .i64 ((c : Nat) : Int)]) (by kernel_rfl) (ite_ok F p n a b c cs I _ hG (by omega) (by omega) (by omega) (by omega)) ?_)
          rintro _ w5 ⟨F6, n7, cs8, x9, rfl, hG, hm10, hr11, hd12⟩
          have hMv := hMv.trans hm10
          have hle14 := hr11.1
          have hxb13 := hr11.2.2.1
          refine seg1 (ρ' := upd (upd (upd (upd (upd (upd (upd (upd (updL ρ [(0, .pointer (some ⟨p, 0, none⟩)), (1, .int .i64 k), (2, .int .i64 ((a : Nat) : Int)), (3, .int .i64 ((b : Nat) : Int)), (4, .int .i64 ((c : Nat) : Int)), (10, .int .i64 0), (11, .int .i64 k), (12, .bool (k == 1)), (18, .bool (k == 2)), (24, .bool (k == 3))]) 31 (.bool (k == 4))) 30 (.bool (k == 4))) 32 (.pointer (some ⟨p, 0, none⟩))) 33 (.int .i64 ((a : Nat) : Int))) 34 (.int .i64 ((b : Nat) : Int))) 35 (.int .i64 ((c : Nat) : Int))) 36 (.int .i64 ((x9 : Nat) : Int))) 10 (.int .i64 ((x9 : Nat) : Int))) (by kernel_rfl) ?_
          refine op_nil ?_
          refine W_ret ?_
          exact ⟨_, Res_of (v := .int .i64 ((x9 : Nat) : Int)) (by kernel_rfl), ⟨F6, n7, cs8, _, rfl, hG, hMv, hr11.eq (fun be _ => says4 (by omega) _ _ _), by omega⟩⟩
        · replace hc4 : k ≠ 4 := (ne_of_beq_false hc4)
          refine W_skip ?_
          refine W_seq ?_
          refine W_region (by kernel_rfl) ?_
          refine seg4 (ρ' := upd (upd (upd (upd (upd (upd (updL ρ [(0, .pointer (some ⟨p, 0, none⟩)), (1, .int .i64 k), (2, .int .i64 ((a : Nat) : Int)), (3, .int .i64 ((b : Nat) : Int)), (4, .int .i64 ((c : Nat) : Int)), (10, .int .i64 0), (11, .int .i64 k), (12, .bool (k == 1)), (18, .bool (k == 2)), (24, .bool (k == 3))]) 31 (.bool (k == 4))) 30 (.bool (k == 4))) 37 (.pointer (some ⟨p, 0, none⟩))) 38 (.int .i64 ((a : Nat) : Int))) 39 (.int .i64 ((b : Nat) : Int))) 40 (.int .i64 ((c : Nat) : Int))) (by kernel_rfl) ?_
          refine st (by rfl) (S_call (args := [.pointer (some ⟨p, 0, none⟩), .int .i64 ((a : Nat) : Int), .int .i64 ((b : Nat) : Int), .int .i64 ((c : Nat) : Int)]) (by kernel_rfl) (maj_ok F p n a b c cs I _ hG (by omega) (by omega) (by omega) (by omega)) ?_)
          rintro _ w15 ⟨F16, n17, cs18, x19, rfl, hG, hm20, hr21, hd22⟩
          have hMv := hMv.trans hm20
          have hle24 := hr21.1
          have hxb23 := hr21.2.2.1
          refine seg1 (ρ' := upd (upd (upd (upd (upd (upd (upd (upd (updL ρ [(0, .pointer (some ⟨p, 0, none⟩)), (1, .int .i64 k), (2, .int .i64 ((a : Nat) : Int)), (3, .int .i64 ((b : Nat) : Int)), (4, .int .i64 ((c : Nat) : Int)), (10, .int .i64 0), (11, .int .i64 k), (12, .bool (k == 1)), (18, .bool (k == 2)), (24, .bool (k == 3))]) 31 (.bool (k == 4))) 30 (.bool (k == 4))) 37 (.pointer (some ⟨p, 0, none⟩))) 38 (.int .i64 ((a : Nat) : Int))) 39 (.int .i64 ((b : Nat) : Int))) 40 (.int .i64 ((c : Nat) : Int))) 41 (.int .i64 ((x19 : Nat) : Int))) 10 (.int .i64 ((x19 : Nat) : Int))) (by kernel_rfl) ?_
          refine op_nil ?_
          refine W_ret ?_
          exact ⟨_, Res_of (v := .int .i64 ((x19 : Nat) : Int)) (by kernel_rfl), ⟨F16, n17, cs18, _, rfl, hG, hMv, hr21.eq (fun be _ => says5 (by omega) _ _ _), by omega⟩⟩

theorem ask_ok (F : Nat → Prop) (p n : Nat) (k a b c : Int) (cs : List (List Nat)) (I : Nat → Prop) (w : World) (hG : GObj F w p n cs I) (ha0 : 0 ≤ a) (ha : a / 2 < n) (hb0 : 0 ≤ b) (hb : b / 2 < n) (hn : n ≤ 68719470000) (hk : 1 ≤ k ∧ k ≤ 5) (hc : 3 < k → 0 ≤ c ∧ c / 2 < n) :
    Ret Try.prog 18 [.pointer (some ⟨p, 0, none⟩), .int .i64 k, .int .i64 a, .int .i64 b, .int .i64 c] w fun v w' => GRet F p n cs I w 4 (fun be => saysF k (litV be a) (litV be b) (litV be c)) v w' := by
  obtain ⟨x, rfl⟩ : ∃ x : Nat, a = x := ⟨a.toNat, by omega⟩
  obtain ⟨y, rfl⟩ : ∃ y : Nat, b = y := ⟨b.toNat, by omega⟩
  by_cases h : 3 < k
  · obtain ⟨c0, c1⟩ := hc h
    obtain ⟨z, rfl⟩ : ∃ z : Nat, c = z := ⟨c.toNat, by omega⟩
    refine (ask_hi F p n k x y z cs I w hG (by omega) (by omega) hn (by omega) (by omega)).mono fun v w' ⟨F', n', cs', r, e, hg, hm, hr, hd⟩ => ⟨F', n', cs', r, e, hg, hm, hr.eq fun be _ => ?_, hd⟩
    show _ = saysF k _ _ _
    rw [litV_nat, litV_nat, litV_nat]
  · refine (ask_lo F p n k x y c cs I w hG (by omega) (by omega) hn (by omega)).mono fun v w' ⟨F', n', cs', r, e, hg, hm, hr, hd⟩ => ⟨F', n', cs', r, e, hg, hm, hr.eq fun be _ => ?_, hd⟩
    show _ = saysF k _ _ _
    rw [litV_nat, litV_nat]
    exact saysF_lo k _ _ _ _ (by omega)

end Go.Proofs.YtnlecdpiccgdpaaV
