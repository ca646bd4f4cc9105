/- Walks of functions of the program and of the document's texts. The conditions stand with each theorem. -/
import Derived.Test.YtnlecdpiccgdpaaVx13
import Derived.Test.YtnlecdpiccgdpaaProg
import Derived.Test.YtnlecdpiccgdpaaVx4
import Derived.Test.YtnlecdpiccgdpaaWordP
set_option linter.unusedVariables false
set_option linter.unusedSimpArgs false
namespace Go.Proofs.YtnlecdpiccgdpaaV
open Go Go.RowKit Go.Proofs

theorem R_shrP {P : Program} {ρ : Env} {w : World} {d : Option Tmp} {t u : TypeId} {x y : Operand} {ty : TypeId} {pos : String} {af : Array Edge} {g : Option (Nat × Bool)} {k2 : IntKind} (a i : Nat) (hx : evR ρ x = .int .u64 ((a : Nat) : Int)) (hy : evR ρ y = .int k2 ((i : Nat) : Int)) (hi : i ≤ 64) :
    (execOp (evR ρ) ⟨d, .binOp .shr t x y u, ty, pos, af, g⟩).run P w = .ok (.value (.int .u64 ((a / pw i : Nat) : Int))) w := by
  rw [R_shr (k := .u64) (a := ((a : Nat) : Int)) (b := ((i : Nat) : Int)) i hx hy rfl (by show _ ≤ 64; omega), fdiv_nat]
theorem R_shlB {P : Program} {ρ : Env} {w : World} {d : Option Tmp} {t u : TypeId} {x y : Operand} {ty : TypeId} {pos : String} {af : Array Edge} {g : Option (Nat × Bool)} {k2 : IntKind} (b : Bool) (i : Nat) (hx : evR ρ x = .int .u64 ((bitN b : Nat) : Int)) (hy : evR ρ y = .int k2 ((i : Nat) : Int)) (hi : i < 64) :
    (execOp (evR ρ) ⟨d, .binOp .shl t x y u, ty, pos, af, g⟩).run P w = .ok (.value (.int .u64 (((if b = true then pw i else 0 : Nat)) : Int))) w := by
  rw [R_shl (k := .u64) (a := ((bitN b : Nat) : Int)) (b := ((i : Nat) : Int)) i hx hy rfl (by show _ ≤ 64; omega), shl_bit b hi]
theorem mvR_dn' {w a b i : Nat} (hi : i < w) (hw : w ≤ 64) (fl : Bool) (s : Int) (hs : s = 0 - (if b < 64 then (b : Int) else 64)) : mvR w a s fl i = mvB false w (fun j => a.testBit j) fl b i := by
  rw [show s = -(if b < 64 then (b : Int) else 64) by omega]
  exact mvR_dn hi hw fl _ rfl

set_option maxRecDepth 100000 in
theorem rbit_ok (x i : Nat) (w : World) (hi : i < 64) : Ret Try.prog 60 [.int .u64 ((x : Nat) : Int), .int .i64 ((i : Nat) : Int)] w fun v w' => v = .bool (x.testBit i) ∧ Tch N0 w w' := by
  refine enter Try.func60 rfl rfl ?_
  refine W_seq ?_
  refine W_region (by kernel_rfl) ?_
  refine sg [(4, .bool false)] (by kernel_rfl) ?_
  refine op_nil ?_
  refine W_seq ?_
  refine W_region (by kernel_rfl) ?_
  refine sg [(5, .int .i64 ((i : Nat) : Int)), (6, .bool (decide (((i : Nat) : Int) ≥ 0))), (7, .bool (decide (((i : Nat) : Int) ≥ 0)))] (by kernel_rfl) ?_
  cases hb1 : decide (((i : Nat) : Int) ≥ 0)
  · replace hb1 : ((i : Nat) : Int) < 0 := (Int.not_le.1 (of_decide_eq_false hb1))
    exfalso; omega
  · replace hb1 : 0 ≤ ((i : Nat) : Int) := (of_decide_eq_true hb1)
    refine sg [(8, .int .i64 ((i : Nat) : Int)), (9, .bool (decide (((i : Nat) : Int) < 64))), (10, .bool (decide (((i : Nat) : Int) < 64))), (11, .bool (decide (((i : Nat) : Int) < 64)))] (by kernel_rfl) ?_
    cases hb2 : decide (((i : Nat) : Int) < 64)
    · replace hb2 : 64 ≤ ((i : Nat) : Int) := (Int.not_lt.1 (of_decide_eq_false hb2))
      exfalso; omega
    · replace hb2 : ((i : Nat) : Int) < 64 := (of_decide_eq_true hb2)
      refine sg [(12, .int .u64 ((x : Nat) : Int)), (13, .int .i64 ((i : Nat) : Int)), (14, .int .u64 (IntKind.u64.wrap ((i : Nat) : Int)))] (by kernel_rfl) ?_
      rw [show IntKind.u64.wrap ((i : Nat) : Int) = ((i : Nat) : Int) from wrap_u64 (by omega) (by omega)]
      refine stv (v := .int .u64 ((x / pw i : Nat) : Int)) (by kernel_rfl) (R_shrP (k2 := .u64) x i (by kernel_rfl) (by kernel_rfl) (by omega)) ?_
      refine sg [(16, .int .u64 (((x / pw i : Nat) : Int).tmod 2))] (by kernel_rfl) ?_
      rw [show ((x / pw i : Nat) : Int).tmod 2 = ((x / pw i : Nat) : Int) % 2 from Int.tmod_eq_emod_of_nonneg (by first | omega | exact Int.natCast_nonneg _)]
      refine sg [(17, .bool ((((x / pw i : Nat) : Int) % 2) == 1)), (18, .bool ((((x / pw i : Nat) : Int) % 2) == 1)), (4, .bool ((((x / pw i : Nat) : Int) % 2) == 1))] (by kernel_rfl) ?_
      refine op_nil ?_
      refine W_ret ?_
      exact ⟨_, Res_of (v := .bool ((((x / pw i : Nat) : Int) % 2) == 1)) (by kernel_rfl), ⟨congrArg Value.bool (bit_eq x i), Tch.refl _ _⟩⟩

theorem rbit_i (x : Nat) (z : Int) (w : World) (h0 : 0 ≤ z) (h1 : z < 64) : Ret Try.prog 60 [.int .u64 ((x : Nat) : Int), .int .i64 z] w fun v w' => v = .bool (x.testBit z.toNat) ∧ Tch N0 w w' := by
  obtain ⟨i, rfl⟩ : ∃ i : Nat, z = i := ⟨z.toNat, by omega⟩
  exact rbit_ok x i w (by omega)

set_option maxRecDepth 100000 in
theorem rfits_t (wd : Nat) (w : World) (h1 : 1 ≤ wd) (h2 : wd ≤ 64) : Ret Try.prog 62 [.int .i64 ((wd : Nat) : Int)] w fun v w' => v = .bool true ∧ Tch N0 w w' := by
  refine enter Try.func62 rfl rfl ?_
  refine W_seq ?_
  refine W_region (by kernel_rfl) ?_
  refine sg [(2, .bool false)] (by kernel_rfl) ?_
  refine op_nil ?_
  refine W_seq ?_
  refine W_region (by kernel_rfl) ?_
  refine sg [(3, .int .i64 ((wd : Nat) : Int)), (4, .bool (decide (((wd : Nat) : Int) ≥ 1))), (5, .bool (decide (((wd : Nat) : Int) ≥ 1)))] (by kernel_rfl) ?_
  cases hb1 : decide (((wd : Nat) : Int) ≥ 1)
  · replace hb1 : ((wd : Nat) : Int) < 1 := (Int.not_le.1 (of_decide_eq_false hb1))
    exfalso; omega
  · replace hb1 : 1 ≤ ((wd : Nat) : Int) := (of_decide_eq_true hb1)
    refine sg [(6, .int .i64 ((wd : Nat) : Int)), (7, .bool (decide (((wd : Nat) : Int) ≤ 64))), (8, .bool (decide (((wd : Nat) : Int) ≤ 64))), (2, .bool (decide (((wd : Nat) : Int) ≤ 64)))] (by kernel_rfl) ?_
    refine op_nil ?_
    refine W_ret ?_
    exact ⟨_, Res_of (v := .bool (decide (((wd : Nat) : Int) ≤ 64))) (by kernel_rfl), ⟨by first | rfl | exact congrArg Value.bool (decide_eq_true (by omega)), Tch.refl _ _⟩⟩

set_option maxRecDepth 100000 in
theorem rmask_ok (wd : Nat) (w : World) (h1 : 1 ≤ wd) (h2 : wd ≤ 64) : Ret Try.prog 64 [.int .i64 ((wd : Nat) : Int)] w fun v w' => v = .int .u64 ((pw wd - 1 : Nat) : Int) ∧ Tch N0 w w' := by
  refine enter Try.func64 rfl rfl ?_
  refine W_seq ?_
  refine W_region (by kernel_rfl) ?_
  refine sg [(2, .int .u64 0)] (by kernel_rfl) ?_
  refine op_nil ?_
  refine W_seq ?_
  refine W_region (by kernel_rfl) ?_
  refine sg [(3, .int .u64 0)] (by kernel_rfl) ?_
  refine op_nil ?_
  refine W_seq ?_
  refine W_seq ?_
  refine W_region (by kernel_rfl) ?_
  refine sg [(4, .int .i64 0)] (by kernel_rfl) ?_
  refine op_nil ?_
  refine W_block ?_
  refine W_loop (fun m ρ w' => ∃ (i : Nat) (ρ0 : Env), ρ = updL ρ0 [(0, .int .i64 ((wd : Nat) : Int)), (3, .int .u64 ((pw i - 1 : Nat) : Int)), (4, .int .i64 ((i : Nat) : Int))] ∧ (i ≤ wd) ∧ Tch N0 w w' ∧ m = wd - i) (m := wd - 0) ?_ ?_
  · refine ⟨0, _, updL_self (by kernel_rfl), by omega, Tch.refl _ _, rfl⟩
  · rintro m ρ w1 ⟨i, ρ, rfl, hi, hT0, rfl⟩
    refine W_seq ?_
    refine W_seq ?_
    refine W_region (by kernel_rfl) ?_
    refine sg [(5, .int .i64 ((i : Nat) : Int)), (6, .int .i64 ((wd : Nat) : Int)), (7, .bool (decide (((i : Nat) : Int) < ((wd : Nat) : Int)))), (8, .bool (decide (((i : Nat) : Int) < ((wd : Nat) : Int))))] (by kernel_rfl) ?_
    cases hb2 : decide (((i : Nat) : Int) < ((wd : Nat) : Int))
    · replace hb2 : ((wd : Nat) : Int) ≤ ((i : Nat) : Int) := (Int.not_lt.1 (of_decide_eq_false hb2))
      refine sg [(9, undef), (10, undef), (11, .bool false)] (by kernel_rfl) ?_
      refine op_nil ?_
      refine W_cond false (by kernel_rfl) (by kernel_rfl) (fun h => nomatch h) (fun _ => ?_)
      refine W_exit ?_
      refine X_hit ?_
      refine W_seq ?_
      refine W_region (by kernel_rfl) ?_
      refine sg [(17, .int .u64 ((pw i - 1 : Nat) : Int)), (2, .int .u64 ((pw i - 1 : Nat) : Int))] (by kernel_rfl) ?_
      refine op_nil ?_
      refine W_ret ?_
      exact ⟨_, Res_of (v := .int .u64 ((pw i - 1 : Nat) : Int)) (by kernel_rfl), ⟨by rw [show i = wd by omega], hT0⟩⟩
    · replace hb2 : ((i : Nat) : Int) < ((wd : Nat) : Int) := (of_decide_eq_true hb2)
      refine sg [(9, .int .i64 ((wd : Nat) : Int))] (by kernel_rfl) ?_
      refine st (by kernel_rfl) (S_call (args := [.int .i64 ((wd : Nat) : Int)]) (by kernel_rfl) (rfits_t wd _ (by omega) (by omega)) ?_)
      rintro _ w3 ⟨rfl, hT4⟩
      have hT0 := hT0.t0 hT4
      refine sg [(11, .bool true)] (by kernel_rfl) ?_
      refine op_nil ?_
      refine W_cond true (by kernel_rfl) (by kernel_rfl) (fun _ => ?_) (fun h => nomatch h)
      refine W_skip ?_
      refine W_seq ?_
      refine W_block ?_
      have hp := pw_u64 (i := i) (by omega)
      have hp1 := pw_pos i
      have hp2 := pw_succ i
      refine W_region (by kernel_rfl) ?_
      refine sg [(14, .int .u64 ((pw i - 1 : Nat) : Int)), (15, .int .u64 (IntKind.u64.wrap (((pw i - 1 : Nat) : Int) * 2)))] (by kernel_rfl) ?_
      rw [show IntKind.u64.wrap (((pw i - 1 : Nat) : Int) * 2) = ((pw i - 1 : Nat) : Int) * 2 from wrap_u64 (by omega) (by omega)]
      refine sg [(16, .int .u64 (IntKind.u64.wrap ((((pw i - 1 : Nat) : Int) * 2) + 1)))] (by kernel_rfl) ?_
      rw [show IntKind.u64.wrap ((((pw i - 1 : Nat) : Int) * 2) + 1) = (((pw i - 1 : Nat) : Int) * 2) + 1 from wrap_u64 (by omega) (by omega)]
      refine fixR (y := ((pw (i + 1) - 1 : Nat) : Int)) (by omega) ?_
      refine sg [(3, .int .u64 ((pw (i + 1) - 1 : Nat) : Int))] (by kernel_rfl) ?_
      refine op_nil ?_
      refine W_fg [(0, .int .i64 ((wd : Nat) : Int)), (3, .int .u64 ((pw (i + 1) - 1 : Nat) : Int)), (4, .int .i64 ((i : Nat) : Int)), (11, .bool true)] (by kernel_rfl) fun ρ => ?_
      refine W_region (by kernel_rfl) ?_
      refine sg [(12, .int .i64 ((i : Nat) : Int)), (13, .int .i64 (IntKind.i64.wrap (((i : Nat) : Int) + 1)))] (by kernel_rfl) ?_
      rw [show IntKind.i64.wrap (((i : Nat) : Int) + 1) = ((i : Nat) : Int) + 1 from wrap_i64 (by omega) (by omega)]
      refine fixR (y := ((i + 1 : Nat) : Int)) (by omega) ?_
      refine sg [(4, .int .i64 ((i + 1 : Nat) : Int))] (by kernel_rfl) ?_
      refine op_nil ?_
      refine ⟨_, ?_, i + 1, _, updL_self (by kernel_rfl), ?_, hT0, rfl⟩
      · omega
      · omega

set_option maxRecDepth 100000 in
theorem rcut_ok (wd x : Nat) (w : World) (h1 : 1 ≤ wd) (h2 : wd ≤ 64) (hx : x < 18446744073709551616) : Ret Try.prog 63 [.int .i64 ((wd : Nat) : Int), .int .u64 ((x : Nat) : Int)] w fun v w' => v = .int .u64 ((cutN wd x : Nat) : Int) ∧ Tch N0 w w' := by
  refine enter Try.func63 rfl rfl ?_
  refine W_seq ?_
  refine W_region (by kernel_rfl) ?_
  refine sg [(4, .int .u64 0)] (by kernel_rfl) ?_
  refine op_nil ?_
  refine W_seq ?_
  refine W_region (by kernel_rfl) ?_
  refine sg [(5, .int .u64 ((x : Nat) : Int)), (6, .int .i64 ((wd : Nat) : Int))] (by kernel_rfl) ?_
  refine st (by rfl) (S_call (args := [.int .i64 ((wd : Nat) : Int)]) (by kernel_rfl) (rmask_ok wd _ (by omega) (by omega)) ?_)
  rintro _ w1 ⟨rfl, hT2⟩
  have hT0 := hT2
  refine sg [(8, .int .u64 (IntKind.u64.wrap (BitVec.ofInt 64 ((x : Nat) : Int) &&& BitVec.ofInt 64 ((pw wd - 1 : Nat) : Int)).toNat))] (by kernel_rfl) ?_
  rw [cut_u wd x (by omega) (by omega)]
  refine sg [(4, .int .u64 ((cutN wd x : Nat) : Int))] (by kernel_rfl) ?_
  refine op_nil ?_
  refine W_ret ?_
  exact ⟨_, Res_of (v := .int .u64 ((cutN wd x : Nat) : Int)) (by kernel_rfl), ⟨rfl, hT0⟩⟩

set_option maxRecDepth 100000 in
theorem rone_ok (b : Bool) (w : World) : Ret Try.prog 65 [.bool b] w fun v w' => v = .int .u64 ((bitN b : Nat) : Int) ∧ Tch N0 w w' := by
  refine enter Try.func65 rfl rfl ?_
  refine W_seq ?_
  refine W_region (by kernel_rfl) ?_
  refine sg [(2, .int .u64 0)] (by kernel_rfl) ?_
  refine op_nil ?_
  refine W_seq ?_
  refine W_seq ?_
  refine W_region (by kernel_rfl) ?_
  refine sg [(3, .bool b)] (by kernel_rfl) ?_
  refine op_nil ?_
  refine W_cond (b) (by kernel_rfl) (by kernel_rfl) (fun hc1 => ?_) (fun hc1 => ?_)
  · replace hc1 : b = true := (hc1)
    refine W_seq ?_
    refine W_region (by kernel_rfl) ?_
    refine sg [(2, .int .u64 1)] (by kernel_rfl) ?_
    refine op_nil ?_
    refine W_ret ?_
    exact ⟨_, Res_of (v := .int .u64 1) (by kernel_rfl), ⟨by simp [bitN, *], Tch.refl _ _⟩⟩
  · replace hc1 : b = false := (hc1)
    refine W_skip ?_
    refine W_seq ?_
    refine W_region (by kernel_rfl) ?_
    refine sg [(2, .int .u64 0)] (by kernel_rfl) ?_
    refine op_nil ?_
    refine W_ret ?_
    exact ⟨_, Res_of (v := .int .u64 0) (by kernel_rfl), ⟨by simp [bitN, *], Tch.refl _ _⟩⟩

set_option maxRecDepth 100000 in
theorem rmoved_ok (wd a : Nat) (sh : Int) (fl : Bool) (w : World) (h1 : 1 ≤ wd) (h2 : wd ≤ 64) (hs : -64 ≤ sh ∧ sh ≤ 64) : Ret Try.prog 80 [.int .i64 ((wd : Nat) : Int), .int .u64 ((a : Nat) : Int), .int .i64 sh, .bool fl] w fun v w' => v = .int .u64 ((bval wd (mvR wd a sh fl) : Nat) : Int) ∧ Tch N0 w w' := by
  refine enter Try.func80 rfl rfl ?_
  refine W_seq ?_
  refine W_region (by kernel_rfl) ?_
  refine sg [(8, .int .u64 0)] (by kernel_rfl) ?_
  refine op_nil ?_
  refine W_seq ?_
  refine W_region (by kernel_rfl) ?_
  refine sg [(9, .int .u64 0)] (by kernel_rfl) ?_
  refine op_nil ?_
  refine W_seq ?_
  refine W_seq ?_
  refine W_region (by kernel_rfl) ?_
  refine sg [(10, .int .i64 0)] (by kernel_rfl) ?_
  refine op_nil ?_
  refine W_block ?_
  refine W_loop (fun m ρ w' => ∃ (i : Nat) (ρ0 : Env), ρ = updL ρ0 [(0, .int .i64 ((wd : Nat) : Int)), (1, .int .u64 ((a : Nat) : Int)), (2, .int .i64 sh), (3, .bool fl), (9, .int .u64 ((bval i (mvR wd a sh fl) : Nat) : Int)), (10, .int .i64 ((i : Nat) : Int))] ∧ (i ≤ wd) ∧ Tch N0 w w' ∧ m = wd - i) (m := wd - 0) ?_ ?_
  · refine ⟨0, _, updL_self (by kernel_rfl), by omega, Tch.refl _ _, rfl⟩
  · rintro m ρ w1 ⟨i, ρ, rfl, hi, hT0, rfl⟩
    refine W_seq ?_
    refine W_seq ?_
    refine W_region (by kernel_rfl) ?_
    refine sg [(13, .int .i64 ((i : Nat) : Int)), (14, .int .i64 ((wd : Nat) : Int)), (15, .bool (decide (((i : Nat) : Int) < ((wd : Nat) : Int))))] (by kernel_rfl) ?_
    refine op_nil ?_
    refine W_cond (decide (((i : Nat) : Int) < ((wd : Nat) : Int))) (by kernel_rfl) (by kernel_rfl) (fun hc2 => ?_) (fun hc2 => ?_)
    · replace hc2 : ((i : Nat) : Int) < ((wd : Nat) : Int) := (of_decide_eq_true hc2)
      refine W_skip ?_
      refine W_seq ?_
      refine W_block ?_
      refine W_seq ?_
      refine W_region (by kernel_rfl) ?_
      refine sg [(18, .int .i64 ((i : Nat) : Int)), (19, .int .i64 sh), (20, .int .i64 (IntKind.i64.wrap (((i : Nat) : Int) - sh)))] (by kernel_rfl) ?_
      rw [show IntKind.i64.wrap (((i : Nat) : Int) - sh) = ((i : Nat) : Int) - sh from wrap_i64 (by omega) (by omega)]
      refine sg [(11, .int .i64 (((i : Nat) : Int) - sh))] (by kernel_rfl) ?_
      refine op_nil ?_
      refine W_seq ?_
      refine W_region (by kernel_rfl) ?_
      refine sg [(12, .bool false)] (by kernel_rfl) ?_
      refine op_nil ?_
      refine W_seq ?_
      refine W_seq ?_
      refine W_fg [(0, .int .i64 ((wd : Nat) : Int)), (1, .int .u64 ((a : Nat) : Int)), (2, .int .i64 sh), (3, .bool fl), (9, .int .u64 ((bval i (mvR wd a sh fl) : Nat) : Int)), (10, .int .i64 ((i : Nat) : Int)), (11, .int .i64 (((i : Nat) : Int) - sh)), (12, .bool false), (15, .bool (decide (((i : Nat) : Int) < ((wd : Nat) : Int))))] (by kernel_rfl) fun ρ => ?_
      refine W_region (by kernel_rfl) ?_
      refine sg [(21, .int .i64 (((i : Nat) : Int) - sh)), (22, .int .i64 ((wd : Nat) : Int)), (23, .bool (decide (((i : Nat) : Int) - sh ≥ ((wd : Nat) : Int))))] (by kernel_rfl) ?_
      refine op_nil ?_
      refine W_cond (decide (((i : Nat) : Int) - sh ≥ ((wd : Nat) : Int))) (by kernel_rfl) (by kernel_rfl) (fun hc3 => ?_) (fun hc3 => ?_)
      · replace hc3 : ((wd : Nat) : Int) ≤ ((i : Nat) : Int) - sh := (of_decide_eq_true hc3)
        refine W_region (by kernel_rfl) ?_
        refine sg [(24, .bool fl), (12, .bool fl)] (by kernel_rfl) ?_
        refine op_nil ?_
        refine W_region (by kernel_rfl) ?_
        refine sg [(30, .int .u64 ((bval i (mvR wd a sh fl) : Nat) : Int)), (31, .bool fl)] (by kernel_rfl) ?_
        refine st (by rfl) (S_call (args := [.bool fl]) (by kernel_rfl) (rone_ok fl _) ?_)
        rintro _ w4 ⟨rfl, hT5⟩
        have hT0 := hT0.t0 hT5
        refine sg [(33, .int .i64 ((i : Nat) : Int)), (34, .int .u64 (IntKind.u64.wrap ((i : Nat) : Int)))] (by kernel_rfl) ?_
        rw [show IntKind.u64.wrap ((i : Nat) : Int) = ((i : Nat) : Int) from wrap_u64 (by omega) (by omega)]
        refine stv (v := .int .u64 (((if fl = true then pw i else 0 : Nat)) : Int)) (by kernel_rfl) (R_shlB (k2 := .u64) fl i (by kernel_rfl) (by kernel_rfl) (by omega)) ?_
        refine sg [(36, .int .u64 (IntKind.u64.wrap (BitVec.ofInt 64 ((bval i (mvR wd a sh fl) : Nat) : Int) ||| BitVec.ofInt 64 (((if fl = true then pw i else 0 : Nat)) : Int)).toNat))] (by kernel_rfl) ?_
        rw [bvalor_u i (mvR wd a sh fl) fl (by omega) (by unfold mvR; first | rw [if_pos (by omega)] | rw [if_neg (by omega), if_pos (by omega)] | rw [if_neg (by omega), if_neg (by omega)])]
        refine sg [(9, .int .u64 ((bval (i + 1) (mvR wd a sh fl) : Nat) : Int))] (by kernel_rfl) ?_
        refine op_nil ?_
        refine W_fg [(0, .int .i64 ((wd : Nat) : Int)), (1, .int .u64 ((a : Nat) : Int)), (2, .int .i64 sh), (3, .bool fl), (9, .int .u64 ((bval (i + 1) (mvR wd a sh fl) : Nat) : Int)), (10, .int .i64 ((i : Nat) : Int)), (11, .int .i64 (((i : Nat) : Int) - sh)), (12, .bool fl), (15, .bool (decide (((i : Nat) : Int) < ((wd : Nat) : Int)))), (23, .bool (decide (((i : Nat) : Int) - sh ≥ ((wd : Nat) : Int))))] (by kernel_rfl) fun ρ => ?_
        refine W_region (by kernel_rfl) ?_
        refine sg [(16, .int .i64 ((i : Nat) : Int)), (17, .int .i64 (IntKind.i64.wrap (((i : Nat) : Int) + 1)))] (by kernel_rfl) ?_
        rw [show IntKind.i64.wrap (((i : Nat) : Int) + 1) = ((i : Nat) : Int) + 1 from wrap_i64 (by omega) (by omega)]
        refine fixR (y := ((i + 1 : Nat) : Int)) (by omega) ?_
        refine sg [(10, .int .i64 ((i + 1 : Nat) : Int))] (by kernel_rfl) ?_
        refine op_nil ?_
        refine ⟨_, ?_, i + 1, _, updL_self (by kernel_rfl), ?_, hT0, rfl⟩
        · omega
        · omega
      · replace hc3 : ((i : Nat) : Int) - sh < ((wd : Nat) : Int) := (Int.not_le.1 (of_decide_eq_false hc3))
        refine W_seq ?_
        refine W_region (by kernel_rfl) ?_
        refine sg [(25, .int .i64 (((i : Nat) : Int) - sh)), (26, .bool (decide (((i : Nat) : Int) - sh ≥ 0)))] (by kernel_rfl) ?_
        refine op_nil ?_
        refine W_cond (decide (((i : Nat) : Int) - sh ≥ 0)) (by kernel_rfl) (by kernel_rfl) (fun hc6 => ?_) (fun hc6 => ?_)
        · replace hc6 : 0 ≤ ((i : Nat) : Int) - sh := (of_decide_eq_true hc6)
          refine W_region (by kernel_rfl) ?_
          refine sg [(27, .int .u64 ((a : Nat) : Int)), (28, .int .i64 (((i : Nat) : Int) - sh))] (by kernel_rfl) ?_
          refine st (by rfl) (S_call (args := [.int .u64 ((a : Nat) : Int), .int .i64 (((i : Nat) : Int) - sh)]) (by kernel_rfl) (rbit_i a (((i : Nat) : Int) - sh) _ (by omega) (by omega)) ?_)
          rintro _ w7 ⟨rfl, hT8⟩
          have hT0 := hT0.t0 hT8
          refine sg [(12, .bool (a.testBit ((((i : Nat) : Int) - sh).toNat)))] (by kernel_rfl) ?_
          refine op_nil ?_
          refine W_fg [(0, .int .i64 ((wd : Nat) : Int)), (1, .int .u64 ((a : Nat) : Int)), (2, .int .i64 sh), (3, .bool fl), (9, .int .u64 ((bval i (mvR wd a sh fl) : Nat) : Int)), (10, .int .i64 ((i : Nat) : Int)), (11, .int .i64 (((i : Nat) : Int) - sh)), (12, .bool (a.testBit ((((i : Nat) : Int) - sh).toNat))), (15, .bool (decide (((i : Nat) : Int) < ((wd : Nat) : Int)))), (23, .bool (decide (((i : Nat) : Int) - sh ≥ ((wd : Nat) : Int)))), (26, .bool (decide (((i : Nat) : Int) - sh ≥ 0)))] (by kernel_rfl) fun ρ => ?_
          refine W_region (by kernel_rfl) ?_
          refine sg [(30, .int .u64 ((bval i (mvR wd a sh fl) : Nat) : Int)), (31, .bool (a.testBit ((((i : Nat) : Int) - sh).toNat)))] (by kernel_rfl) ?_
          refine st (by rfl) (S_call (args := [.bool (a.testBit ((((i : Nat) : Int) - sh).toNat))]) (by kernel_rfl) (rone_ok (a.testBit ((((i : Nat) : Int) - sh).toNat)) _) ?_)
          rintro _ w9 ⟨rfl, hT10⟩
          have hT0 := hT0.t0 hT10
          refine sg [(33, .int .i64 ((i : Nat) : Int)), (34, .int .u64 (IntKind.u64.wrap ((i : Nat) : Int)))] (by kernel_rfl) ?_
          rw [show IntKind.u64.wrap ((i : Nat) : Int) = ((i : Nat) : Int) from wrap_u64 (by omega) (by omega)]
          refine stv (v := .int .u64 (((if (a.testBit ((((i : Nat) : Int) - sh).toNat)) = true then pw i else 0 : Nat)) : Int)) (by kernel_rfl) (R_shlB (k2 := .u64) (a.testBit ((((i : Nat) : Int) - sh).toNat)) i (by kernel_rfl) (by kernel_rfl) (by omega)) ?_
          refine sg [(36, .int .u64 (IntKind.u64.wrap (BitVec.ofInt 64 ((bval i (mvR wd a sh fl) : Nat) : Int) ||| BitVec.ofInt 64 (((if (a.testBit ((((i : Nat) : Int) - sh).toNat)) = true then pw i else 0 : Nat)) : Int)).toNat))] (by kernel_rfl) ?_
          rw [bvalor_u i (mvR wd a sh fl) (a.testBit ((((i : Nat) : Int) - sh).toNat)) (by omega) (by unfold mvR; first | rw [if_pos (by omega)] | rw [if_neg (by omega), if_pos (by omega)] | rw [if_neg (by omega), if_neg (by omega)])]
          refine sg [(9, .int .u64 ((bval (i + 1) (mvR wd a sh fl) : Nat) : Int))] (by kernel_rfl) ?_
          refine op_nil ?_
          refine W_fg [(0, .int .i64 ((wd : Nat) : Int)), (1, .int .u64 ((a : Nat) : Int)), (2, .int .i64 sh), (3, .bool fl), (9, .int .u64 ((bval (i + 1) (mvR wd a sh fl) : Nat) : Int)), (10, .int .i64 ((i : Nat) : Int)), (11, .int .i64 (((i : Nat) : Int) - sh)), (12, .bool (a.testBit ((((i : Nat) : Int) - sh).toNat))), (15, .bool (decide (((i : Nat) : Int) < ((wd : Nat) : Int)))), (23, .bool (decide (((i : Nat) : Int) - sh ≥ ((wd : Nat) : Int)))), (26, .bool (decide (((i : Nat) : Int) - sh ≥ 0)))] (by kernel_rfl) fun ρ => ?_
          refine W_region (by kernel_rfl) ?_
          refine sg [(16, .int .i64 ((i : Nat) : Int)), (17, .int .i64 (IntKind.i64.wrap (((i : Nat) : Int) + 1)))] (by kernel_rfl) ?_
          rw [show IntKind.i64.wrap (((i : Nat) : Int) + 1) = ((i : Nat) : Int) + 1 from wrap_i64 (by omega) (by omega)]
          refine fixR (y := ((i + 1 : Nat) : Int)) (by omega) ?_
          refine sg [(10, .int .i64 ((i + 1 : Nat) : Int))] (by kernel_rfl) ?_
          refine op_nil ?_
          refine ⟨_, ?_, i + 1, _, updL_self (by kernel_rfl), ?_, hT0, rfl⟩
          · omega
          · omega
        · replace hc6 : ((i : Nat) : Int) - sh < 0 := (Int.not_le.1 (of_decide_eq_false hc6))
          refine W_skip ?_
          refine W_region (by kernel_rfl) ?_
          refine sg [(30, .int .u64 ((bval i (mvR wd a sh fl) : Nat) : Int)), (31, .bool false)] (by kernel_rfl) ?_
          refine st (by rfl) (S_call (args := [.bool false]) (by kernel_rfl) (rone_ok false _) ?_)
          rintro _ w11 ⟨rfl, hT12⟩
          have hT0 := hT0.t0 hT12
          refine sg [(33, .int .i64 ((i : Nat) : Int)), (34, .int .u64 (IntKind.u64.wrap ((i : Nat) : Int)))] (by kernel_rfl) ?_
          rw [show IntKind.u64.wrap ((i : Nat) : Int) = ((i : Nat) : Int) from wrap_u64 (by omega) (by omega)]
          refine stv (v := .int .u64 (((if false = true then pw i else 0 : Nat)) : Int)) (by kernel_rfl) (R_shlB (k2 := .u64) false i (by kernel_rfl) (by kernel_rfl) (by omega)) ?_
          refine sg [(36, .int .u64 (IntKind.u64.wrap (BitVec.ofInt 64 ((bval i (mvR wd a sh fl) : Nat) : Int) ||| BitVec.ofInt 64 (((if false = true then pw i else 0 : Nat)) : Int)).toNat))] (by kernel_rfl) ?_
          rw [bvalor_u i (mvR wd a sh fl) false (by omega) (by unfold mvR; first | rw [if_pos (by omega)] | rw [if_neg (by omega), if_pos (by omega)] | rw [if_neg (by omega), if_neg (by omega)])]
          refine sg [(9, .int .u64 ((bval (i + 1) (mvR wd a sh fl) : Nat) : Int))] (by kernel_rfl) ?_
          refine op_nil ?_
          refine W_fg [(0, .int .i64 ((wd : Nat) : Int)), (1, .int .u64 ((a : Nat) : Int)), (2, .int .i64 sh), (3, .bool fl), (9, .int .u64 ((bval (i + 1) (mvR wd a sh fl) : Nat) : Int)), (10, .int .i64 ((i : Nat) : Int)), (11, .int .i64 (((i : Nat) : Int) - sh)), (12, .bool false), (15, .bool (decide (((i : Nat) : Int) < ((wd : Nat) : Int)))), (23, .bool (decide (((i : Nat) : Int) - sh ≥ ((wd : Nat) : Int)))), (26, .bool (decide (((i : Nat) : Int) - sh ≥ 0)))] (by kernel_rfl) fun ρ => ?_
          refine W_region (by kernel_rfl) ?_
          refine sg [(16, .int .i64 ((i : Nat) : Int)), (17, .int .i64 (IntKind.i64.wrap (((i : Nat) : Int) + 1)))] (by kernel_rfl) ?_
          rw [show IntKind.i64.wrap (((i : Nat) : Int) + 1) = ((i : Nat) : Int) + 1 from wrap_i64 (by omega) (by omega)]
          refine fixR (y := ((i + 1 : Nat) : Int)) (by omega) ?_
          refine sg [(10, .int .i64 ((i + 1 : Nat) : Int))] (by kernel_rfl) ?_
          refine op_nil ?_
          refine ⟨_, ?_, i + 1, _, updL_self (by kernel_rfl), ?_, hT0, rfl⟩
          · omega
          · omega
    · replace hc2 : ((wd : Nat) : Int) ≤ ((i : Nat) : Int) := (Int.not_lt.1 (of_decide_eq_false hc2))
      refine W_exit ?_
      refine X_hit ?_
      refine W_seq ?_
      refine W_region (by kernel_rfl) ?_
      refine sg [(37, .int .u64 ((bval i (mvR wd a sh fl) : Nat) : Int)), (8, .int .u64 ((bval i (mvR wd a sh fl) : Nat) : Int))] (by kernel_rfl) ?_
      refine op_nil ?_
      refine W_ret ?_
      exact ⟨_, Res_of (v := .int .u64 ((bval i (mvR wd a sh fl) : Nat) : Int)) (by kernel_rfl), ⟨by rw [show i = wd by omega], hT0⟩⟩

set_option maxRecDepth 100000 in
theorem rshift9_ok (wd a b : Nat) (w : World) (h1 : 1 ≤ wd) (h2 : wd ≤ 64) (hb : b < 18446744073709551616) : Ret Try.prog 67 [.int .i64 9, .int .i64 ((wd : Nat) : Int), .int .u64 ((a : Nat) : Int), .int .u64 ((b : Nat) : Int)] w fun v w' => v = .int .u64 ((bval wd (mvB true wd (fun j => a.testBit j) false b) : Nat) : Int) ∧ Tch N0 w w' := by
  refine enter Try.func67 rfl rfl ?_
  refine W_seq ?_
  refine W_region (by kernel_rfl) ?_
  refine sg [(8, .int .u64 0)] (by kernel_rfl) ?_
  refine op_nil ?_
  refine W_seq ?_
  refine W_region (by kernel_rfl) ?_
  refine sg [(9, .int .i64 64)] (by kernel_rfl) ?_
  refine op_nil ?_
  refine W_seq ?_
  refine W_seq ?_
  refine W_region (by kernel_rfl) ?_
  refine sg [(10, .int .u64 ((b : Nat) : Int)), (11, .bool (decide (((b : Nat) : Int) < 64)))] (by kernel_rfl) ?_
  refine op_nil ?_
  refine W_cond (decide (((b : Nat) : Int) < 64)) (by kernel_rfl) (by kernel_rfl) (fun hc1 => ?_) (fun hc1 => ?_)
  · replace hc1 : ((b : Nat) : Int) < 64 := (of_decide_eq_true hc1)
    refine W_region (by kernel_rfl) ?_
    refine sg [(12, .int .u64 ((b : Nat) : Int)), (13, .int .i64 (IntKind.i64.wrap ((b : Nat) : Int)))] (by kernel_rfl) ?_
    rw [show IntKind.i64.wrap ((b : Nat) : Int) = ((b : Nat) : Int) from wrap_i64 (by omega) (by omega)]
    refine sg [(9, .int .i64 ((b : Nat) : Int))] (by kernel_rfl) ?_
    refine op_nil ?_
    refine W_seq ?_
    refine W_seq ?_
    refine W_region (by kernel_rfl) ?_
    refine sg [(14, .int .i64 9)] (by kernel_rfl) ?_
    refine op_nil ?_
    refine W_block ?_
    refine W_seq ?_
    refine W_fg [(0, .int .i64 9), (1, .int .i64 ((wd : Nat) : Int)), (2, .int .u64 ((a : Nat) : Int)), (3, .int .u64 ((b : Nat) : Int)), (8, .int .u64 0), (9, .int .i64 ((b : Nat) : Int)), (11, .bool (decide (((b : Nat) : Int) < 64))), (14, .int .i64 9)] (by kernel_rfl) fun ρ => ?_
    refine W_region (by kernel_rfl) ?_
    refine sg [(16, .bool true), (15, .bool true)] (by kernel_rfl) ?_
    refine op_nil ?_
    refine W_cond true (by kernel_rfl) (by kernel_rfl) (fun _ => ?_) (fun h => nomatch h)
    refine W_seq ?_
    refine W_region (by kernel_rfl) ?_
    refine sg [(17, .int .i64 ((wd : Nat) : Int)), (18, .int .u64 ((a : Nat) : Int)), (19, .int .i64 ((b : Nat) : Int))] (by kernel_rfl) ?_
    refine st (by rfl) (S_call (args := [.int .i64 ((wd : Nat) : Int), .int .u64 ((a : Nat) : Int), .int .i64 ((b : Nat) : Int), .bool false]) (by kernel_rfl) (rmoved_ok wd a ((b : Nat) : Int) false _ (by omega) (by omega) (by omega)) ?_)
    rintro _ w2 ⟨rfl, hT3⟩
    have hT0 := hT3
    refine sg [(8, .int .u64 ((bval wd (mvR wd a ((b : Nat) : Int) false) : Nat) : Int))] (by kernel_rfl) ?_
    refine op_nil ?_
    refine W_ret ?_
    exact ⟨_, Res_of (v := .int .u64 ((bval wd (mvR wd a ((b : Nat) : Int) false) : Nat) : Int)) (by kernel_rfl), ⟨congrArg (fun z : Nat => Value.int .u64 (z : Int)) (bval_congr fun j hj => mvR_up hj (by omega)  _ (by split <;> omega)), hT0⟩⟩
  · replace hc1 : 64 ≤ ((b : Nat) : Int) := (Int.not_lt.1 (of_decide_eq_false hc1))
    refine W_skip ?_
    refine W_seq ?_
    refine W_seq ?_
    refine W_region (by kernel_rfl) ?_
    refine sg [(14, .int .i64 9)] (by kernel_rfl) ?_
    refine op_nil ?_
    refine W_block ?_
    refine W_seq ?_
    refine W_region (by kernel_rfl) ?_
    refine sg [(16, .bool true), (15, .bool true)] (by kernel_rfl) ?_
    refine op_nil ?_
    refine W_cond true (by kernel_rfl) (by kernel_rfl) (fun _ => ?_) (fun h => nomatch h)
    refine W_seq ?_
    refine W_region (by kernel_rfl) ?_
    refine sg [(17, .int .i64 ((wd : Nat) : Int)), (18, .int .u64 ((a : Nat) : Int)), (19, .int .i64 64)] (by kernel_rfl) ?_
    refine st (by rfl) (S_call (args := [.int .i64 ((wd : Nat) : Int), .int .u64 ((a : Nat) : Int), .int .i64 64, .bool false]) (by kernel_rfl) (rmoved_ok wd a 64 false _ (by omega) (by omega) (by omega)) ?_)
    rintro _ w4 ⟨rfl, hT5⟩
    have hT0 := hT5
    refine sg [(8, .int .u64 ((bval wd (mvR wd a 64 false) : Nat) : Int))] (by kernel_rfl) ?_
    refine op_nil ?_
    refine W_ret ?_
    exact ⟨_, Res_of (v := .int .u64 ((bval wd (mvR wd a 64 false) : Nat) : Int)) (by kernel_rfl), ⟨congrArg (fun z : Nat => Value.int .u64 (z : Int)) (bval_congr fun j hj => mvR_up hj (by omega)  _ (by split <;> omega)), hT0⟩⟩

set_option maxRecDepth 100000 in
theorem rshift10_ok (wd a b : Nat) (w : World) (h1 : 1 ≤ wd) (h2 : wd ≤ 64) (hb : b < 18446744073709551616) : Ret Try.prog 67 [.int .i64 10, .int .i64 ((wd : Nat) : Int), .int .u64 ((a : Nat) : Int), .int .u64 ((b : Nat) : Int)] w fun v w' => v = .int .u64 ((bval wd (mvB false wd (fun j => a.testBit j) false b) : Nat) : Int) ∧ Tch N0 w w' := by
  refine enter Try.func67 rfl rfl ?_
  refine W_seq ?_
  refine W_region (by kernel_rfl) ?_
  refine sg [(8, .int .u64 0)] (by kernel_rfl) ?_
  refine op_nil ?_
  refine W_seq ?_
  refine W_region (by kernel_rfl) ?_
  refine sg [(9, .int .i64 64)] (by kernel_rfl) ?_
  refine op_nil ?_
  refine W_seq ?_
  refine W_seq ?_
  refine W_region (by kernel_rfl) ?_
  refine sg [(10, .int .u64 ((b : Nat) : Int)), (11, .bool (decide (((b : Nat) : Int) < 64)))] (by kernel_rfl) ?_
  refine op_nil ?_
  refine W_cond (decide (((b : Nat) : Int) < 64)) (by kernel_rfl) (by kernel_rfl) (fun hc1 => ?_) (fun hc1 => ?_)
  · replace hc1 : ((b : Nat) : Int) < 64 := (of_decide_eq_true hc1)
    refine W_region (by kernel_rfl) ?_
    refine sg [(12, .int .u64 ((b : Nat) : Int)), (13, .int .i64 (IntKind.i64.wrap ((b : Nat) : Int)))] (by kernel_rfl) ?_
    rw [show IntKind.i64.wrap ((b : Nat) : Int) = ((b : Nat) : Int) from wrap_i64 (by omega) (by omega)]
    refine sg [(9, .int .i64 ((b : Nat) : Int))] (by kernel_rfl) ?_
    refine op_nil ?_
    refine W_seq ?_
    refine W_seq ?_
    refine W_region (by kernel_rfl) ?_
    refine sg [(14, .int .i64 10)] (by kernel_rfl) ?_
    refine op_nil ?_
    refine W_block ?_
    refine W_seq ?_
    refine W_fg [(0, .int .i64 10), (1, .int .i64 ((wd : Nat) : Int)), (2, .int .u64 ((a : Nat) : Int)), (3, .int .u64 ((b : Nat) : Int)), (8, .int .u64 0), (9, .int .i64 ((b : Nat) : Int)), (11, .bool (decide (((b : Nat) : Int) < 64))), (14, .int .i64 10)] (by kernel_rfl) fun ρ => ?_
    refine W_region (by kernel_rfl) ?_
    refine sg [(16, .bool false), (15, .bool false)] (by kernel_rfl) ?_
    refine op_nil ?_
    refine W_cond false (by kernel_rfl) (by kernel_rfl) (fun h => nomatch h) (fun _ => ?_)
    refine W_seq ?_
    refine W_region (by kernel_rfl) ?_
    refine sg [(22, .bool true), (21, .bool true)] (by kernel_rfl) ?_
    refine op_nil ?_
    refine W_cond true (by kernel_rfl) (by kernel_rfl) (fun _ => ?_) (fun h => nomatch h)
    refine W_seq ?_
    refine W_region (by kernel_rfl) ?_
    refine sg [(23, .int .i64 ((wd : Nat) : Int)), (24, .int .u64 ((a : Nat) : Int)), (25, .int .i64 ((b : Nat) : Int)), (26, .int .i64 (IntKind.i64.wrap (0 - ((b : Nat) : Int))))] (by kernel_rfl) ?_
    rw [show IntKind.i64.wrap (0 - ((b : Nat) : Int)) = 0 - ((b : Nat) : Int) from wrap_i64 (by omega) (by omega)]
    refine st (by rfl) (S_call (args := [.int .i64 ((wd : Nat) : Int), .int .u64 ((a : Nat) : Int), .int .i64 (0 - ((b : Nat) : Int)), .bool false]) (by kernel_rfl) (rmoved_ok wd a (0 - ((b : Nat) : Int)) false _ (by omega) (by omega) (by omega)) ?_)
    rintro _ w2 ⟨rfl, hT3⟩
    have hT0 := hT3
    refine sg [(8, .int .u64 ((bval wd (mvR wd a (0 - ((b : Nat) : Int)) false) : Nat) : Int))] (by kernel_rfl) ?_
    refine op_nil ?_
    refine W_ret ?_
    exact ⟨_, Res_of (v := .int .u64 ((bval wd (mvR wd a (0 - ((b : Nat) : Int)) false) : Nat) : Int)) (by kernel_rfl), ⟨congrArg (fun z : Nat => Value.int .u64 (z : Int)) (bval_congr fun j hj => mvR_dn' hj (by omega) _ _ (by split <;> omega)), hT0⟩⟩
  · replace hc1 : 64 ≤ ((b : Nat) : Int) := (Int.not_lt.1 (of_decide_eq_false hc1))
    refine W_skip ?_
    refine W_seq ?_
    refine W_seq ?_
    refine W_region (by kernel_rfl) ?_
    refine sg [(14, .int .i64 10)] (by kernel_rfl) ?_
    refine op_nil ?_
    refine W_block ?_
    refine W_seq ?_
    refine W_region (by kernel_rfl) ?_
    refine sg [(16, .bool false), (15, .bool false)] (by kernel_rfl) ?_
    refine op_nil ?_
    refine W_cond false (by kernel_rfl) (by kernel_rfl) (fun h => nomatch h) (fun _ => ?_)
    refine W_seq ?_
    refine W_region (by kernel_rfl) ?_
    refine sg [(22, .bool true), (21, .bool true)] (by kernel_rfl) ?_
    refine op_nil ?_
    refine W_cond true (by kernel_rfl) (by kernel_rfl) (fun _ => ?_) (fun h => nomatch h)
    refine W_seq ?_
    refine W_fg [(0, .int .i64 10), (1, .int .i64 ((wd : Nat) : Int)), (2, .int .u64 ((a : Nat) : Int)), (3, .int .u64 ((b : Nat) : Int)), (8, .int .u64 0), (9, .int .i64 64), (11, .bool (decide (((b : Nat) : Int) < 64))), (14, .int .i64 10), (15, .bool false), (21, .bool true)] (by kernel_rfl) fun ρ => ?_
    refine W_region (by kernel_rfl) ?_
    refine sg [(23, .int .i64 ((wd : Nat) : Int)), (24, .int .u64 ((a : Nat) : Int)), (25, .int .i64 64), (26, .int .i64 (-64))] (by kernel_rfl) ?_
    refine st (by rfl) (S_call (args := [.int .i64 ((wd : Nat) : Int), .int .u64 ((a : Nat) : Int), .int .i64 (-64), .bool false]) (by kernel_rfl) (rmoved_ok wd a (-64) false _ (by omega) (by omega) (by omega)) ?_)
    rintro _ w4 ⟨rfl, hT5⟩
    have hT0 := hT5
    refine sg [(8, .int .u64 ((bval wd (mvR wd a (-64) false) : Nat) : Int))] (by kernel_rfl) ?_
    refine op_nil ?_
    refine W_ret ?_
    exact ⟨_, Res_of (v := .int .u64 ((bval wd (mvR wd a (-64) false) : Nat) : Int)) (by kernel_rfl), ⟨congrArg (fun z : Nat => Value.int .u64 (z : Int)) (bval_congr fun j hj => mvR_dn' hj (by omega) _ _ (by split <;> omega)), hT0⟩⟩

set_option maxRecDepth 100000 in
theorem rshift11_ok (wd a b : Nat) (w : World) (h1 : 1 ≤ wd) (h2 : wd ≤ 64) (hb : b < 18446744073709551616) : Ret Try.prog 67 [.int .i64 11, .int .i64 ((wd : Nat) : Int), .int .u64 ((a : Nat) : Int), .int .u64 ((b : Nat) : Int)] w fun v w' => v = .int .u64 ((bval wd (mvB false wd (fun j => a.testBit j) (a.testBit (wd - 1)) b) : Nat) : Int) ∧ Tch N0 w w' := by
  refine enter Try.func67 rfl rfl ?_
  refine W_seq ?_
  refine W_region (by kernel_rfl) ?_
  refine sg [(8, .int .u64 0)] (by kernel_rfl) ?_
  refine op_nil ?_
  refine W_seq ?_
  refine W_region (by kernel_rfl) ?_
  refine sg [(9, .int .i64 64)] (by kernel_rfl) ?_
  refine op_nil ?_
  refine W_seq ?_
  refine W_seq ?_
  refine W_region (by kernel_rfl) ?_
  refine sg [(10, .int .u64 ((b : Nat) : Int)), (11, .bool (decide (((b : Nat) : Int) < 64)))] (by kernel_rfl) ?_
  refine op_nil ?_
  refine W_cond (decide (((b : Nat) : Int) < 64)) (by kernel_rfl) (by kernel_rfl) (fun hc1 => ?_) (fun hc1 => ?_)
  · replace hc1 : ((b : Nat) : Int) < 64 := (of_decide_eq_true hc1)
    refine W_region (by kernel_rfl) ?_
    refine sg [(12, .int .u64 ((b : Nat) : Int)), (13, .int .i64 (IntKind.i64.wrap ((b : Nat) : Int)))] (by kernel_rfl) ?_
    rw [show IntKind.i64.wrap ((b : Nat) : Int) = ((b : Nat) : Int) from wrap_i64 (by omega) (by omega)]
    refine sg [(9, .int .i64 ((b : Nat) : Int))] (by kernel_rfl) ?_
    refine op_nil ?_
    refine W_seq ?_
    refine W_seq ?_
    refine W_region (by kernel_rfl) ?_
    refine sg [(14, .int .i64 11)] (by kernel_rfl) ?_
    refine op_nil ?_
    refine W_block ?_
    refine W_seq ?_
    refine W_fg [(0, .int .i64 11), (1, .int .i64 ((wd : Nat) : Int)), (2, .int .u64 ((a : Nat) : Int)), (3, .int .u64 ((b : Nat) : Int)), (8, .int .u64 0), (9, .int .i64 ((b : Nat) : Int)), (11, .bool (decide (((b : Nat) : Int) < 64))), (14, .int .i64 11)] (by kernel_rfl) fun ρ => ?_
    refine W_region (by kernel_rfl) ?_
    refine sg [(16, .bool false), (15, .bool false)] (by kernel_rfl) ?_
    refine op_nil ?_
    refine W_cond false (by kernel_rfl) (by kernel_rfl) (fun h => nomatch h) (fun _ => ?_)
    refine W_seq ?_
    refine W_region (by kernel_rfl) ?_
    refine sg [(22, .bool false), (21, .bool false)] (by kernel_rfl) ?_
    refine op_nil ?_
    refine W_cond false (by kernel_rfl) (by kernel_rfl) (fun h => nomatch h) (fun _ => ?_)
    refine W_skip ?_
    refine W_seq ?_
    refine W_region (by kernel_rfl) ?_
    refine sg [(28, .int .i64 ((wd : Nat) : Int)), (29, .int .u64 ((a : Nat) : Int)), (30, .int .i64 ((b : Nat) : Int)), (31, .int .i64 (IntKind.i64.wrap (0 - ((b : Nat) : Int))))] (by kernel_rfl) ?_
    rw [show IntKind.i64.wrap (0 - ((b : Nat) : Int)) = 0 - ((b : Nat) : Int) from wrap_i64 (by omega) (by omega)]
    refine sg [(32, .int .u64 ((a : Nat) : Int)), (33, .int .i64 ((wd : Nat) : Int)), (34, .int .i64 (IntKind.i64.wrap (((wd : Nat) : Int) - 1)))] (by kernel_rfl) ?_
    rw [show IntKind.i64.wrap (((wd : Nat) : Int) - 1) = ((wd : Nat) : Int) - 1 from wrap_i64 (by omega) (by omega)]
    refine fixR (y := ((wd - 1 : Nat) : Int)) (by omega) ?_
    refine st (by rfl) (S_call (args := [.int .u64 ((a : Nat) : Int), .int .i64 ((wd - 1 : Nat) : Int)]) (by kernel_rfl) (rbit_ok a (wd - 1) _ (by omega)) ?_)
    rintro _ w2 ⟨rfl, hT3⟩
    have hT0 := hT3
    refine st (by rfl) (S_call (args := [.int .i64 ((wd : Nat) : Int), .int .u64 ((a : Nat) : Int), .int .i64 (0 - ((b : Nat) : Int)), .bool (a.testBit (wd - 1))]) (by kernel_rfl) (rmoved_ok wd a (0 - ((b : Nat) : Int)) (a.testBit (wd - 1)) _ (by omega) (by omega) (by omega)) ?_)
    rintro _ w4 ⟨rfl, hT5⟩
    have hT0 := hT0.t0 hT5
    refine sg [(8, .int .u64 ((bval wd (mvR wd a (0 - ((b : Nat) : Int)) (a.testBit (wd - 1))) : Nat) : Int))] (by kernel_rfl) ?_
    refine op_nil ?_
    refine W_ret ?_
    exact ⟨_, Res_of (v := .int .u64 ((bval wd (mvR wd a (0 - ((b : Nat) : Int)) (a.testBit (wd - 1))) : Nat) : Int)) (by kernel_rfl), ⟨congrArg (fun z : Nat => Value.int .u64 (z : Int)) (bval_congr fun j hj => mvR_dn' hj (by omega) _ _ (by split <;> omega)), hT0⟩⟩
  · replace hc1 : 64 ≤ ((b : Nat) : Int) := (Int.not_lt.1 (of_decide_eq_false hc1))
    refine W_skip ?_
    refine W_seq ?_
    refine W_seq ?_
    refine W_region (by kernel_rfl) ?_
    refine sg [(14, .int .i64 11)] (by kernel_rfl) ?_
    refine op_nil ?_
    refine W_block ?_
    refine W_seq ?_
    refine W_region (by kernel_rfl) ?_
    refine sg [(16, .bool false), (15, .bool false)] (by kernel_rfl) ?_
    refine op_nil ?_
    refine W_cond false (by kernel_rfl) (by kernel_rfl) (fun h => nomatch h) (fun _ => ?_)
    refine W_seq ?_
    refine W_region (by kernel_rfl) ?_
    refine sg [(22, .bool false), (21, .bool false)] (by kernel_rfl) ?_
    refine op_nil ?_
    refine W_cond false (by kernel_rfl) (by kernel_rfl) (fun h => nomatch h) (fun _ => ?_)
    refine W_skip ?_
    refine W_seq ?_
    refine W_fg [(0, .int .i64 11), (1, .int .i64 ((wd : Nat) : Int)), (2, .int .u64 ((a : Nat) : Int)), (3, .int .u64 ((b : Nat) : Int)), (8, .int .u64 0), (9, .int .i64 64), (11, .bool (decide (((b : Nat) : Int) < 64))), (14, .int .i64 11), (15, .bool false), (21, .bool false)] (by kernel_rfl) fun ρ => ?_
    refine W_region (by kernel_rfl) ?_
    refine sg [(28, .int .i64 ((wd : Nat) : Int)), (29, .int .u64 ((a : Nat) : Int)), (30, .int .i64 64), (31, .int .i64 (-64)), (32, .int .u64 ((a : Nat) : Int)), (33, .int .i64 ((wd : Nat) : Int)), (34, .int .i64 (IntKind.i64.wrap (((wd : Nat) : Int) - 1)))] (by kernel_rfl) ?_
    rw [show IntKind.i64.wrap (((wd : Nat) : Int) - 1) = ((wd : Nat) : Int) - 1 from wrap_i64 (by omega) (by omega)]
    refine fixR (y := ((wd - 1 : Nat) : Int)) (by omega) ?_
    refine st (by rfl) (S_call (args := [.int .u64 ((a : Nat) : Int), .int .i64 ((wd - 1 : Nat) : Int)]) (by kernel_rfl) (rbit_ok a (wd - 1) _ (by omega)) ?_)
    rintro _ w6 ⟨rfl, hT7⟩
    have hT0 := hT7
    refine st (by rfl) (S_call (args := [.int .i64 ((wd : Nat) : Int), .int .u64 ((a : Nat) : Int), .int .i64 (-64), .bool (a.testBit (wd - 1))]) (by kernel_rfl) (rmoved_ok wd a (-64) (a.testBit (wd - 1)) _ (by omega) (by omega) (by omega)) ?_)
    rintro _ w8 ⟨rfl, hT9⟩
    have hT0 := hT0.t0 hT9
    refine sg [(8, .int .u64 ((bval wd (mvR wd a (-64) (a.testBit (wd - 1))) : Nat) : Int))] (by kernel_rfl) ?_
    refine op_nil ?_
    refine W_ret ?_
    exact ⟨_, Res_of (v := .int .u64 ((bval wd (mvR wd a (-64) (a.testBit (wd - 1))) : Nat) : Int)) (by kernel_rfl), ⟨congrArg (fun z : Nat => Value.int .u64 (z : Int)) (bval_congr fun j hj => mvR_dn' hj (by omega) _ _ (by split <;> omega)), hT0⟩⟩

end Go.Proofs.YtnlecdpiccgdpaaV
