/- Walks of functions of the program and of the document's texts. The conditions stand with each theorem. -/
import Derived.Test.YtnlecdpiccgdpaaProg
import Derived.Test.YtnlecdpiccgdpaaVx4
import Derived.Test.YtnlecdpiccgdpaaL1
import Derived.Test.YtnlecdpiccgdpaaVx7
import Derived.Test.YtnlecdpiccgdpaaU4
set_option linter.unusedVariables false
set_option linter.unusedSimpArgs false
namespace Go.Proofs.YtnlecdpiccgdpaaV
open Go Go.RowKit Go.Proofs

set_option maxRecDepth 100000 in
theorem lit_in (n k kc : Nat) (A : Option Addr) (told : List Nat) (x : Nat) (w : World) (hA : RdW w 1 k A (nats told)) (hk : 0 < k) (hx : x ≤ 9223372036854775807) (hfit : ∀ z, z ∈ told → z / 2 < n) (hn : n ≤ 68719476736) : Ret Try.prog 15 [.slice A k kc, .int .i64 ((x : Nat) : Int)] w fun v w' => ∃ z : Nat, v = .int .i64 ((z : Nat) : Int) ∧ z / 2 < n ∧ Tch N0 w w' := by
  have lt_ : told.length = k := by have := hA.1; rw [nats_length] at this; omega
  refine enter Try.func15 rfl rfl ?_
  refine W_seq ?_
  refine W_region (by kernel_rfl) ?_
  refine seg1 (ρ' := upd (ini [.slice A k kc, .int .i64 ((x : Nat) : Int)]) 4 (.int .i64 0)) (by kernel_rfl) ?_
  refine op_nil ?_
  refine W_seq ?_
  refine W_seq ?_
  refine W_region (by kernel_rfl) ?_
  refine seg4 (ρ' := upd (upd (upd (upd (upd (ini [.slice A k kc, .int .i64 ((x : Nat) : Int)]) 4 (.int .i64 0)) 6 (.slice A k kc)) 7 (.int .i64 (k : Int))) 8 (.bool ((k : Int) == 0))) 9 (.bool ((k : Int) == 0))) (by kernel_rfl) ?_
  cases hb1 : (k : Int) == 0
  · replace hb1 : (k : Int) ≠ 0 := (ne_of_beq_false hb1)
    refine seg3 (ρ' := upd (upd (upd (upd (upd (upd (upd (upd (ini [.slice A k kc, .int .i64 ((x : Nat) : Int)]) 4 (.int .i64 0)) 6 (.slice A k kc)) 7 (.int .i64 (k : Int))) 8 (.bool false)) 9 (.bool false)) 10 (.int .i64 ((x : Nat) : Int))) 11 (.bool (decide (((x : Nat) : Int) < 0)))) 12 (.bool (decide (((x : Nat) : Int) < 0)))) (by kernel_rfl) ?_
    refine op_nil ?_
    refine W_cond (decide (((x : Nat) : Int) < 0)) (by kernel_rfl) (by kernel_rfl) (fun hc2 => ?_) (fun hc2 => ?_)
    · replace hc2 : ((x : Nat) : Int) < 0 := (of_decide_eq_true hc2)
      exfalso; omega
    · replace hc2 : 0 ≤ ((x : Nat) : Int) := (Int.not_lt.1 (of_decide_eq_false hc2))
      refine W_skip ?_
      refine W_seq ?_
      refine W_fg [(0, .slice A k kc), (1, .int .i64 ((x : Nat) : Int)), (4, .int .i64 0), (12, .bool (decide (((x : Nat) : Int) < 0)))] (by kernel_rfl) fun ρ => ?_
      refine W_region (by kernel_rfl) ?_
      refine seg3 (ρ' := upd (upd (upd (updL ρ [(0, .slice A k kc), (1, .int .i64 ((x : Nat) : Int)), (4, .int .i64 0), (12, .bool (decide (((x : Nat) : Int) < 0)))]) 14 (.slice A k kc)) 15 (.int .i64 ((x : Nat) : Int))) 16 (.int .i64 (IntKind.i64.wrap (((x : Nat) : Int).tdiv 2)))) (by kernel_rfl) ?_
      rw [show IntKind.i64.wrap (((x : Nat) : Int).tdiv 2) = ((x : Nat) : Int) / 2 from by rw [Int.tdiv_eq_ediv_of_nonneg (by omega)]; exact wrap_i64 (by omega) (by omega)]
      rw [show upd (upd (upd (updL ρ [(0, .slice A k kc), (1, .int .i64 ((x : Nat) : Int)), (4, .int .i64 0), (12, .bool (decide (((x : Nat) : Int) < 0)))]) 14 (.slice A k kc)) 15 (.int .i64 ((x : Nat) : Int))) 16 (.int .i64 (((x : Nat) : Int) / 2)) = upd (upd (upd (updL ρ [(0, .slice A k kc), (1, .int .i64 ((x : Nat) : Int)), (4, .int .i64 0), (12, .bool (decide (((x : Nat) : Int) < 0)))]) 14 (.slice A k kc)) 15 (.int .i64 ((x : Nat) : Int))) 16 (.int .i64 ((x / 2 : Nat) : Int)) from congrArg (fun z => upd (upd (upd (updL ρ [(0, .slice A k kc), (1, .int .i64 ((x : Nat) : Int)), (4, .int .i64 0), (12, .bool (decide (((x : Nat) : Int) < 0)))]) 14 (.slice A k kc)) 15 (.int .i64 ((x : Nat) : Int))) 16 (.int .i64 z)) (by omega)]
      refine seg2 (ρ' := upd (upd (upd (upd (upd (updL ρ [(0, .slice A k kc), (1, .int .i64 ((x : Nat) : Int)), (4, .int .i64 0), (12, .bool (decide (((x : Nat) : Int) < 0)))]) 14 (.slice A k kc)) 15 (.int .i64 ((x : Nat) : Int))) 16 (.int .i64 ((x / 2 : Nat) : Int))) 17 (.slice A k kc)) 18 (.int .i64 (k : Int))) (by kernel_rfl) ?_
      refine stv (v := .int .i64 ((x / 2 % k : Nat) : Int)) (by rfl) (S_rem_ (a := x / 2) (b := k) (by kernel_rfl) (by kernel_rfl) (by omega)) ?_
      have hmod := Nat.mod_lt (x / 2) (show 0 < k by omega)
      have hf1 := hfit _ (gmem (show x / 2 % k < told.length by omega))
      refine stv (v := ptrAt A (x / 2 % k)) (by rfl) (R_indexRd1 (len := k) (cap := kc) (k := .i64) (i := ((x / 2 % k : Nat) : Int)) (e := 3) (x / 2 % k) hA (by kernel_rfl) (by kernel_rfl) (by kernel_rfl) (by kernel_rfl) rfl (by omega)) ?_
      refine stv (v := .int .i64 ((told.getD (x / 2 % k) 0 : Nat) : Int)) (by rfl) (R_loadRd (v := .int .i64 ((told.getD (x / 2 % k) 0 : Nat) : Int)) hA (by omega) (by kernel_rfl) (by kernel_rfl) (nats_at (l := told) (by omega))) ?_
      refine seg1 (ρ' := upd (upd (upd (upd (upd (upd (upd (upd (upd (updL ρ [(0, .slice A k kc), (1, .int .i64 ((x : Nat) : Int)), (4, .int .i64 0), (12, .bool (decide (((x : Nat) : Int) < 0)))]) 14 (.slice A k kc)) 15 (.int .i64 ((x : Nat) : Int))) 16 (.int .i64 ((x / 2 : Nat) : Int))) 17 (.slice A k kc)) 18 (.int .i64 (k : Int))) 19 (.int .i64 ((x / 2 % k : Nat) : Int))) 20 (ptrAt A (x / 2 % k))) 21 (.int .i64 ((told.getD (x / 2 % k) 0 : Nat) : Int))) 5 (.int .i64 ((told.getD (x / 2 % k) 0 : Nat) : Int))) (by kernel_rfl) ?_
      refine op_nil ?_
      refine W_seq ?_
      refine W_seq ?_
      refine W_fg [(0, .slice A k kc), (1, .int .i64 ((x : Nat) : Int)), (4, .int .i64 0), (5, .int .i64 ((told.getD (x / 2 % k) 0 : Nat) : Int)), (12, .bool (decide (((x : Nat) : Int) < 0)))] (by kernel_rfl) fun ρ => ?_
      refine W_region (by kernel_rfl) ?_
      refine seg2 (ρ' := upd (upd (updL ρ [(0, .slice A k kc), (1, .int .i64 ((x : Nat) : Int)), (4, .int .i64 0), (5, .int .i64 ((told.getD (x / 2 % k) 0 : Nat) : Int)), (12, .bool (decide (((x : Nat) : Int) < 0)))]) 22 (.int .i64 ((x : Nat) : Int))) 23 (.int .i64 (((x : Nat) : Int).tmod 2))) (by kernel_rfl) ?_
      rw [show ((x : Nat) : Int).tmod 2 = ((x : Nat) : Int) % 2 from Int.tmod_eq_emod_of_nonneg (by omega)]
      refine seg1 (ρ' := upd (upd (upd (updL ρ [(0, .slice A k kc), (1, .int .i64 ((x : Nat) : Int)), (4, .int .i64 0), (5, .int .i64 ((told.getD (x / 2 % k) 0 : Nat) : Int)), (12, .bool (decide (((x : Nat) : Int) < 0)))]) 22 (.int .i64 ((x : Nat) : Int))) 23 (.int .i64 (((x : Nat) : Int) % 2))) 24 (.bool ((((x : Nat) : Int) % 2) == 1))) (by kernel_rfl) ?_
      refine op_nil ?_
      refine W_cond ((((x : Nat) : Int) % 2) == 1) (by kernel_rfl) (by kernel_rfl) (fun hc3 => ?_) (fun hc3 => ?_)
      · replace hc3 : ((x : Nat) : Int) % 2 = 1 := (eq_of_beq hc3)
        refine W_seq ?_
        refine W_region (by kernel_rfl) ?_
        refine seg1 (ρ' := upd (upd (upd (upd (updL ρ [(0, .slice A k kc), (1, .int .i64 ((x : Nat) : Int)), (4, .int .i64 0), (5, .int .i64 ((told.getD (x / 2 % k) 0 : Nat) : Int)), (12, .bool (decide (((x : Nat) : Int) < 0)))]) 22 (.int .i64 ((x : Nat) : Int))) 23 (.int .i64 (((x : Nat) : Int) % 2))) 24 (.bool ((((x : Nat) : Int) % 2) == 1))) 25 (.int .i64 ((told.getD (x / 2 % k) 0 : Nat) : Int))) (by kernel_rfl) ?_
        refine st (by rfl) (S_call (args := [.int .i64 ((told.getD (x / 2 % k) 0 : Nat) : Int)]) (by kernel_rfl) (rnot_ok (told.getD (x / 2 % k) 0) _ (by omega)) ?_)
        rintro _ w4 ⟨rfl, hT5⟩
        have hT0 := hT5
        have hnt6 := GateP.nt_div (told.getD (x / 2 % k) 0)
        refine seg1 (ρ' := upd (upd (upd (upd (upd (upd (updL ρ [(0, .slice A k kc), (1, .int .i64 ((x : Nat) : Int)), (4, .int .i64 0), (5, .int .i64 ((told.getD (x / 2 % k) 0 : Nat) : Int)), (12, .bool (decide (((x : Nat) : Int) < 0)))]) 22 (.int .i64 ((x : Nat) : Int))) 23 (.int .i64 (((x : Nat) : Int) % 2))) 24 (.bool ((((x : Nat) : Int) % 2) == 1))) 25 (.int .i64 ((told.getD (x / 2 % k) 0 : Nat) : Int))) 26 (.int .i64 ((GateP.nt (told.getD (x / 2 % k) 0) : Nat) : Int))) 4 (.int .i64 ((GateP.nt (told.getD (x / 2 % k) 0) : Nat) : Int))) (by kernel_rfl) ?_
        refine op_nil ?_
        refine W_ret ?_
        exact ⟨_, Res_of (v := .int .i64 ((GateP.nt (told.getD (x / 2 % k) 0) : Nat) : Int)) (by kernel_rfl), ⟨_, rfl, by omega, hT0⟩⟩
      · replace hc3 : ((x : Nat) : Int) % 2 ≠ 1 := (ne_of_beq_false hc3)
        refine W_skip ?_
        refine W_seq ?_
        refine W_region (by kernel_rfl) ?_
        refine seg2 (ρ' := upd (upd (upd (upd (upd (updL ρ [(0, .slice A k kc), (1, .int .i64 ((x : Nat) : Int)), (4, .int .i64 0), (5, .int .i64 ((told.getD (x / 2 % k) 0 : Nat) : Int)), (12, .bool (decide (((x : Nat) : Int) < 0)))]) 22 (.int .i64 ((x : Nat) : Int))) 23 (.int .i64 (((x : Nat) : Int) % 2))) 24 (.bool ((((x : Nat) : Int) % 2) == 1))) 27 (.int .i64 ((told.getD (x / 2 % k) 0 : Nat) : Int))) 4 (.int .i64 ((told.getD (x / 2 % k) 0 : Nat) : Int))) (by kernel_rfl) ?_
        refine op_nil ?_
        refine W_ret ?_
        exact ⟨_, Res_of (v := .int .i64 ((told.getD (x / 2 % k) 0 : Nat) : Int)) (by kernel_rfl), ⟨_, rfl, by omega, Tch.refl _ _⟩⟩
  · replace hb1 : (k : Int) = 0 := (eq_of_beq hb1)
    exfalso; omega

set_option maxRecDepth 100000 in
theorem lit_out (k kc : Nat) (A : Option Addr) (x : Int) (w : World) (hk : k = 0 ∨ x < 0) : Ret Try.prog 15 [.slice A k kc, .int .i64 x] w fun v w' => v = .int .i64 x ∧ Tch N0 w w' := by
  refine enter Try.func15 rfl rfl ?_
  refine W_seq ?_
  refine W_region (by kernel_rfl) ?_
  refine seg1 (ρ' := upd (ini [.slice A k kc, .int .i64 x]) 4 (.int .i64 0)) (by kernel_rfl) ?_
  refine op_nil ?_
  refine W_seq ?_
  refine W_seq ?_
  refine W_region (by kernel_rfl) ?_
  refine seg4 (ρ' := upd (upd (upd (upd (upd (ini [.slice A k kc, .int .i64 x]) 4 (.int .i64 0)) 6 (.slice A k kc)) 7 (.int .i64 (k : Int))) 8 (.bool ((k : Int) == 0))) 9 (.bool ((k : Int) == 0))) (by kernel_rfl) ?_
  cases hb1 : (k : Int) == 0
  · replace hb1 : (k : Int) ≠ 0 := (ne_of_beq_false hb1)
    refine seg3 (ρ' := upd (upd (upd (upd (upd (upd (upd (upd (ini [.slice A k kc, .int .i64 x]) 4 (.int .i64 0)) 6 (.slice A k kc)) 7 (.int .i64 (k : Int))) 8 (.bool false)) 9 (.bool false)) 10 (.int .i64 x)) 11 (.bool (decide (x < 0)))) 12 (.bool (decide (x < 0)))) (by kernel_rfl) ?_
    refine op_nil ?_
    refine W_cond (decide (x < 0)) (by kernel_rfl) (by kernel_rfl) (fun hc2 => ?_) (fun hc2 => ?_)
    · replace hc2 : x < 0 := (of_decide_eq_true hc2)
      refine W_seq ?_
      refine W_fg [(0, .slice A k kc), (1, .int .i64 x), (4, .int .i64 0), (12, .bool (decide (x < 0)))] (by kernel_rfl) fun ρ => ?_
      refine W_region (by kernel_rfl) ?_
      refine seg2 (ρ' := upd (upd (updL ρ [(0, .slice A k kc), (1, .int .i64 x), (4, .int .i64 0), (12, .bool (decide (x < 0)))]) 13 (.int .i64 x)) 4 (.int .i64 x)) (by kernel_rfl) ?_
      refine op_nil ?_
      refine W_ret ?_
      exact ⟨_, Res_of (v := .int .i64 x) (by kernel_rfl), ⟨rfl, Tch.refl _ _⟩⟩
    · replace hc2 : 0 ≤ x := (Int.not_lt.1 (of_decide_eq_false hc2))
      exfalso; omega
  · replace hb1 : (k : Int) = 0 := (eq_of_beq hb1)
    refine seg3 (ρ' := upd (upd (upd (upd (upd (upd (upd (upd (ini [.slice A k kc, .int .i64 x]) 4 (.int .i64 0)) 6 (.slice A k kc)) 7 (.int .i64 (k : Int))) 8 (.bool true)) 9 (.bool true)) 10 (undef)) 11 (undef)) 12 (.bool true)) (by kernel_rfl) ?_
    refine op_nil ?_
    refine W_cond true (by kernel_rfl) (by kernel_rfl) (fun _ => ?_) (fun h => nomatch h)
    refine W_seq ?_
    refine W_fg [(0, .slice A k kc), (1, .int .i64 x), (4, .int .i64 0), (12, .bool true)] (by kernel_rfl) fun ρ => ?_
    refine W_region (by kernel_rfl) ?_
    refine seg2 (ρ' := upd (upd (updL ρ [(0, .slice A k kc), (1, .int .i64 x), (4, .int .i64 0), (12, .bool true)]) 13 (.int .i64 x)) 4 (.int .i64 x)) (by kernel_rfl) ?_
    refine op_nil ?_
    refine W_ret ?_
    exact ⟨_, Res_of (v := .int .i64 x) (by kernel_rfl), ⟨rfl, Tch.refl _ _⟩⟩

theorem lit_any (n k kc : Nat) (A : Option Addr) (told : List Nat) (x : Int) (w : World) (hA : RdW w 1 k A (nats told)) (hx : -9223372036854775808 ≤ x ∧ x ≤ 9223372036854775807) (hfit : ∀ z, z ∈ told → z / 2 < n) (hn : n ≤ 68719476736) :
    Ret Try.prog 15 [.slice A k kc, .int .i64 x] w fun v w' => ∃ y, v = .int .i64 y ∧ (-9223372036854775808 ≤ y ∧ y ≤ 9223372036854775807) ∧ (0 < k → 0 ≤ y → y / 2 < (n : Int)) ∧ Tch N0 w w' := by
  by_cases h : k = 0 ∨ x < 0
  · exact (lit_out k kc A x w h).mono fun v w' ⟨e, T⟩ => ⟨x, e, hx, fun h1 h2 => by omega, T⟩
  · obtain ⟨q, rfl⟩ : ∃ q : Nat, x = q := ⟨x.toNat, by omega⟩
    exact (lit_in n k kc A told q w hA (by omega) (by omega) hfit hn).mono fun v w' ⟨z, e, hz, T⟩ => ⟨_, e, by omega, fun _ _ => by omega, T⟩

/-- a & 1023 -/
def aN (a : Int) : Nat := (BitVec.ofInt 64 a &&& BitVec.ofInt 64 1023).toNat
theorem aN_le (a : Int) : aN a ≤ 1023 := by
  unfold aN
  rw [BitVec.toNat_and]
  exact Nat.and_le_right
theorem and1023 (a : Int) : IntKind.i64.wrap ((BitVec.ofInt 64 a &&& BitVec.ofInt 64 1023).toNat : Int) = ((aN a : Nat) : Int) := by
  have := aN_le a
  unfold aN at this ⊢
  rw [IntKind.wrap_i64]; omega

set_option maxRecDepth 100000 in
theorem ask_bad (F : Nat → Prop) (p n : Nat) (k a : Int) (cs : List (List Nat)) (I : Nat → Prop) (w : World) (hG : GObj F w p n cs I) (ha : a ≤ 9223372036854775807) (hb : badI n a = true) : Ret Try.prog 18 [.pointer (some ⟨p, 0, none⟩), .int .i64 k, .int .i64 a, .int .i64 a, .int .i64 a] w fun v w' => v = .int .i64 (-1) ∧ Tch N0 w w' := by
  refine enter Try.func18 rfl rfl ?_
  refine W_seq ?_
  refine W_region (by kernel_rfl) ?_
  refine seg1 (ρ' := upd (ini [.pointer (some ⟨p, 0, none⟩), .int .i64 k, .int .i64 a, .int .i64 a, .int .i64 a]) 10 (.int .i64 0)) (by kernel_rfl) ?_
  refine op_nil ?_
  refine W_seq ?_
  refine W_seq ?_
  refine W_region (by kernel_rfl) ?_
  refine seg1 (ρ' := upd (upd (ini [.pointer (some ⟨p, 0, none⟩), .int .i64 k, .int .i64 a, .int .i64 a, .int .i64 a]) 10 (.int .i64 0)) 11 (.int .i64 k)) (by kernel_rfl) ?_
  refine op_nil ?_
  refine W_block ?_
  refine W_seq ?_
  refine W_region (by kernel_rfl) ?_
  refine seg2 (ρ' := upd (upd (upd (upd (ini [.pointer (some ⟨p, 0, none⟩), .int .i64 k, .int .i64 a, .int .i64 a, .int .i64 a]) 10 (.int .i64 0)) 11 (.int .i64 k)) 13 (.bool (k == 1))) 12 (.bool (k == 1))) (by kernel_rfl) ?_
  refine op_nil ?_
  refine W_cond (k == 1) (by kernel_rfl) (by kernel_rfl) (fun hc1 => ?_) (fun hc1 => ?_)
  · replace hc1 : k = 1 := (eq_of_beq hc1)
    refine W_seq ?_
    refine W_region (by kernel_rfl) ?_
    refine seg3 (ρ' := upd (upd (upd (upd (upd (upd (upd (ini [.pointer (some ⟨p, 0, none⟩), .int .i64 k, .int .i64 a, .int .i64 a, .int .i64 a]) 10 (.int .i64 0)) 11 (.int .i64 k)) 13 (.bool (k == 1))) 12 (.bool (k == 1))) 14 (.pointer (some ⟨p, 0, none⟩))) 15 (.int .i64 a)) 16 (.int .i64 a)) (by kernel_rfl) ?_
    refine st (by rfl) (S_call (args := [.pointer (some ⟨p, 0, none⟩), .int .i64 a, .int .i64 a]) (by kernel_rfl) (and_bad F p n a a cs I _ hG (by omega) (by omega) (by simp [badB, hb])) ?_)
    rintro _ w2 ⟨rfl, hT3⟩
    have hT0 := hT3
    have hG := hG.tch0 hT3
    refine seg1 (ρ' := upd (upd (upd (upd (upd (upd (upd (upd (upd (ini [.pointer (some ⟨p, 0, none⟩), .int .i64 k, .int .i64 a, .int .i64 a, .int .i64 a]) 10 (.int .i64 0)) 11 (.int .i64 k)) 13 (.bool (k == 1))) 12 (.bool (k == 1))) 14 (.pointer (some ⟨p, 0, none⟩))) 15 (.int .i64 a)) 16 (.int .i64 a)) 17 (.int .i64 (-1))) 10 (.int .i64 (-1))) (by kernel_rfl) ?_
    refine op_nil ?_
    refine W_ret ?_
    exact ⟨_, Res_of (v := .int .i64 (-1)) (by kernel_rfl), ⟨rfl, hT0⟩⟩
  · replace hc1 : k ≠ 1 := (ne_of_beq_false hc1)
    refine W_seq ?_
    refine W_region (by kernel_rfl) ?_
    refine seg2 (ρ' := upd (upd (upd (upd (upd (upd (ini [.pointer (some ⟨p, 0, none⟩), .int .i64 k, .int .i64 a, .int .i64 a, .int .i64 a]) 10 (.int .i64 0)) 11 (.int .i64 k)) 13 (.bool (k == 1))) 12 (.bool (k == 1))) 19 (.bool (k == 2))) 18 (.bool (k == 2))) (by kernel_rfl) ?_
    refine op_nil ?_
    refine W_cond (k == 2) (by kernel_rfl) (by kernel_rfl) (fun hc4 => ?_) (fun hc4 => ?_)
    · replace hc4 : k = 2 := (eq_of_beq hc4)
      refine W_seq ?_
      refine W_region (by kernel_rfl) ?_
      refine seg3 (ρ' := upd (upd (upd (upd (upd (upd (upd (upd (upd (ini [.pointer (some ⟨p, 0, none⟩), .int .i64 k, .int .i64 a, .int .i64 a, .int .i64 a]) 10 (.int .i64 0)) 11 (.int .i64 k)) 13 (.bool (k == 1))) 12 (.bool (k == 1))) 19 (.bool (k == 2))) 18 (.bool (k == 2))) 20 (.pointer (some ⟨p, 0, none⟩))) 21 (.int .i64 a)) 22 (.int .i64 a)) (by kernel_rfl) ?_
      refine st (by rfl) (S_call (args := [.pointer (some ⟨p, 0, none⟩), .int .i64 a, .int .i64 a]) (by kernel_rfl) (or_bad F p n a a cs I _ hG (by omega) (by omega) (by simp [badB, hb])) ?_)
      rintro _ w5 ⟨rfl, hT6⟩
      have hT0 := hT6
      have hG := hG.tch0 hT6
      refine seg1 (ρ' := upd (upd (upd (upd (upd (upd (upd (upd (upd (upd (upd (ini [.pointer (some ⟨p, 0, none⟩), .int .i64 k, .int .i64 a, .int .i64 a, .int .i64 a]) 10 (.int .i64 0)) 11 (.int .i64 k)) 13 (.bool (k == 1))) 12 (.bool (k == 1))) 19 (.bool (k == 2))) 18 (.bool (k == 2))) 20 (.pointer (some ⟨p, 0, none⟩))) 21 (.int .i64 a)) 22 (.int .i64 a)) 23 (.int .i64 (-1))) 10 (.int .i64 (-1))) (by kernel_rfl) ?_
      refine op_nil ?_
      refine W_ret ?_
      exact ⟨_, Res_of (v := .int .i64 (-1)) (by kernel_rfl), ⟨rfl, hT0⟩⟩
    · replace hc4 : k ≠ 2 := (ne_of_beq_false hc4)
      refine W_seq ?_
      refine W_region (by kernel_rfl) ?_
      refine seg2 (ρ' := upd (upd (upd (upd (upd (upd (upd (upd (ini [.pointer (some ⟨p, 0, none⟩), .int .i64 k, .int .i64 a, .int .i64 a, .int .i64 a]) 10 (.int .i64 0)) 11 (.int .i64 k)) 13 (.bool (k == 1))) 12 (.bool (k == 1))) 19 (.bool (k == 2))) 18 (.bool (k == 2))) 25 (.bool (k == 3))) 24 (.bool (k == 3))) (by kernel_rfl) ?_
      refine op_nil ?_
      refine W_cond (k == 3) (by kernel_rfl) (by kernel_rfl) (fun hc7 => ?_) (fun hc7 => ?_)
      · replace hc7 : k = 3 := (eq_of_beq hc7)
        refine W_seq ?_
        refine W_fg [(0, .pointer (some ⟨p, 0, none⟩)), (1, .int .i64 k), (2, .int .i64 a), (3, .int .i64 a), (4, .int .i64 a), (10, .int .i64 0), (11, .int .i64 k), (12, .bool (k == 1)), (18, .bool (k == 2)), (24, .bool (k == 3))] (by kernel_rfl) fun ρ => ?_
        refine W_region (by kernel_rfl) ?_
        refine seg3 (ρ' := upd (upd (upd (updL ρ [(0, .pointer (some ⟨p, 0, none⟩)), (1, .int .i64 k), (2, .int .i64 a), (3, .int .i64 a), (4, .int .i64 a), (10, .int .i64 0), (11, .int .i64 k), (12, .bool (k == 1)), (18, .bool (k == 2)), (24, .bool (k == 3))]) 26 (.pointer (some ⟨p, 0, none⟩))) 27 (.int .i64 a)) 28 (.int .i64 a)) (by kernel_rfl) ?_
        refine st (by rfl) (S_call (args := [.pointer (some ⟨p, 0, none⟩), .int .i64 a, .int .i64 a]) (by kernel_rfl) (xor_bad F p n a a cs I _ hG (by omega) (by omega) (by simp [badB, hb])) ?_)
        rintro _ w8 ⟨rfl, hT9⟩
        have hT0 := hT9
        have hG := hG.tch0 hT9
        refine seg1 (ρ' := upd (upd (upd (upd (upd (updL ρ [(0, .pointer (some ⟨p, 0, none⟩)), (1, .int .i64 k), (2, .int .i64 a), (3, .int .i64 a), (4, .int .i64 a), (10, .int .i64 0), (11, .int .i64 k), (12, .bool (k == 1)), (18, .bool (k == 2)), (24, .bool (k == 3))]) 26 (.pointer (some ⟨p, 0, none⟩))) 27 (.int .i64 a)) 28 (.int .i64 a)) 29 (.int .i64 (-1))) 10 (.int .i64 (-1))) (by kernel_rfl) ?_
        refine op_nil ?_
        refine W_ret ?_
        exact ⟨_, Res_of (v := .int .i64 (-1)) (by kernel_rfl), ⟨rfl, hT0⟩⟩
      · replace hc7 : k ≠ 3 := (ne_of_beq_false hc7)
        refine W_seq ?_
        refine W_fg [(0, .pointer (some ⟨p, 0, none⟩)), (1, .int .i64 k), (2, .int .i64 a), (3, .int .i64 a), (4, .int .i64 a), (10, .int .i64 0), (11, .int .i64 k), (12, .bool (k == 1)), (18, .bool (k == 2)), (24, .bool (k == 3))] (by kernel_rfl) fun ρ => ?_
        refine W_region (by kernel_rfl) ?_
        refine seg2 (ρ' := upd (upd (updL ρ [(0, .pointer (some ⟨p, 0, none⟩)), (1, .int .i64 k), (2, .int .i64 a), (3, .int .i64 a), (4, .int .i64 a), (10, .int .i64 0), (11, .int .i64 k), (12, .bool (k == 1)), (18, .bool (k == 2)), (24, .bool (k == 3))]) 31 (.bool (k == 4))) 30 (.bool (k == 4))) (by kernel_rfl) ?_
        refine op_nil ?_
        refine W_cond (k == 4) (by kernel_rfl) (by kernel_rfl) (fun hc10 => ?_) (fun hc10 => ?_)
        · replace hc10 : k = 4 := (eq_of_beq hc10)
          refine W_seq ?_
          refine W_region (by kernel_rfl) ?_
          refine seg4 (ρ' := upd (upd (upd (upd (upd (upd (updL ρ [(0, .pointer (some ⟨p, 0, none⟩)), (1, .int .i64 k), (2, .int .i64 a), (3, .int .i64 a), (4, .int .i64 a), (10, .int .i64 0), (11, .int .i64 k), (12, .bool (k == 1)), (18, .bool (k == 2)), (24, .bool (k == 3))]) 31 (.bool (k == 4))) 30 (.bool (k == 4))) 32 (.pointer (some ⟨p, 0, none⟩))) 33 (.int .i64 a)) 34 (.int .i64 a)) 35 (.int .i64 a)) (by kernel_rfl) ?_
          refine st (by rfl) (S_call (args := [.pointer (some ⟨p, 0, none⟩), .int .i64 a, .int .i64 a, .int .i64 a]) (by kernel_rfl) (ite_bad F p n a a a cs I _ hG (by omega) (by omega) (by omega) (by simp [badB, hb])) ?_)
          rintro _ w11 ⟨rfl, hT12⟩
          have hT0 := hT12
          have hG := hG.tch0 hT12
          refine seg1 (ρ' := upd (upd (upd (upd (upd (upd (upd (upd (updL ρ [(0, .pointer (some ⟨p, 0, none⟩)), (1, .int .i64 k), (2, .int .i64 a), (3, .int .i64 a), (4, .int .i64 a), (10, .int .i64 0), (11, .int .i64 k), (12, .bool (k == 1)), (18, .bool (k == 2)), (24, .bool (k == 3))]) 31 (.bool (k == 4))) 30 (.bool (k == 4))) 32 (.pointer (some ⟨p, 0, none⟩))) 33 (.int .i64 a)) 34 (.int .i64 a)) 35 (.int .i64 a)) 36 (.int .i64 (-1))) 10 (.int .i64 (-1))) (by kernel_rfl) ?_
          refine op_nil ?_
          refine W_ret ?_
          exact ⟨_, Res_of (v := .int .i64 (-1)) (by kernel_rfl), ⟨rfl, hT0⟩⟩
        · replace hc10 : k ≠ 4 := (ne_of_beq_false hc10)
          refine W_skip ?_
          refine W_seq ?_
          refine W_region (by kernel_rfl) ?_
          refine seg4 (ρ' := upd (upd (upd (upd (upd (upd (updL ρ [(0, .pointer (some ⟨p, 0, none⟩)), (1, .int .i64 k), (2, .int .i64 a), (3, .int .i64 a), (4, .int .i64 a), (10, .int .i64 0), (11, .int .i64 k), (12, .bool (k == 1)), (18, .bool (k == 2)), (24, .bool (k == 3))]) 31 (.bool (k == 4))) 30 (.bool (k == 4))) 37 (.pointer (some ⟨p, 0, none⟩))) 38 (.int .i64 a)) 39 (.int .i64 a)) 40 (.int .i64 a)) (by kernel_rfl) ?_
          refine st (by rfl) (S_call (args := [.pointer (some ⟨p, 0, none⟩), .int .i64 a, .int .i64 a, .int .i64 a]) (by kernel_rfl) (maj_bad F p n a a a cs I _ hG (by omega) (by omega) (by omega) (by simp [badB, hb])) ?_)
          rintro _ w13 ⟨rfl, hT14⟩
          have hT0 := hT14
          have hG := hG.tch0 hT14
          refine seg1 (ρ' := upd (upd (upd (upd (upd (upd (upd (upd (updL ρ [(0, .pointer (some ⟨p, 0, none⟩)), (1, .int .i64 k), (2, .int .i64 a), (3, .int .i64 a), (4, .int .i64 a), (10, .int .i64 0), (11, .int .i64 k), (12, .bool (k == 1)), (18, .bool (k == 2)), (24, .bool (k == 3))]) 31 (.bool (k == 4))) 30 (.bool (k == 4))) 37 (.pointer (some ⟨p, 0, none⟩))) 38 (.int .i64 a)) 39 (.int .i64 a)) 40 (.int .i64 a)) 41 (.int .i64 (-1))) 10 (.int .i64 (-1))) (by kernel_rfl) ?_
          refine op_nil ?_
          refine W_ret ?_
          exact ⟨_, Res_of (v := .int .i64 (-1)) (by kernel_rfl), ⟨rfl, hT0⟩⟩

end Go.Proofs.YtnlecdpiccgdpaaV
