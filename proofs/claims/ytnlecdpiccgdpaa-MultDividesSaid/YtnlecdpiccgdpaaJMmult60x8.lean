/- Texts laid together: Walks of functions of the program and of the document's texts. The conditions stand with each theorem. The calculus' words for rows of one's own, kept apart from other blocks by hand. A row is copied behind none. A loop of so many rounds, each by itself. A word's row: inputs and constants: plain. Sums and comparisons of rows: plain. Walks of functions of the program and of the document's texts. The conditions stand with each theorem. -/
import Derived.Test.YtnlecdpiccgdpaaJMmult60x2
import Derived.Test.YtnlecdpiccgdpaaProg
import Derived.Test.YtnlecdpiccgdpaaJMmult60x1
import Derived.Test.YtnlecdpiccgdpaaJMmult60x7
set_option linter.unusedVariables false
set_option linter.unusedSimpArgs false
namespace Go.Proofs.YtnlecdpiccgdpaaV
open Go Go.RowKit Go.Proofs

theorem R_shrP {P : Program} {ρ : Env} {w : World} {d : Option Tmp} {t u : TypeId} {x y : Operand} {ty : TypeId} {pos : String} {af : Array Edge} {g : Option (Nat × Bool)} {k2 : IntKind} (a i : Nat) (hx : evR ρ x = .int .u64 ((a : Nat) : Int)) (hy : evR ρ y = .int k2 ((i : Nat) : Int)) (hi : i ≤ 64) :
    (execOp (evR ρ) ⟨d, .binOp .shr t x y u, ty, pos, af, g⟩).run P w = .ok (.value (.int .u64 ((a / pw i : Nat) : Int))) w := by
  rw [R_shr (k := .u64) (a := ((a : Nat) : Int)) (b := ((i : Nat) : Int)) i hx hy rfl (by show _ ≤ 64; omega), fdiv_nat]
theorem R_shlB {P : Program} {ρ : Env} {w : World} {d : Option Tmp} {t u : TypeId} {x y : Operand} {ty : TypeId} {pos : String} {af : Array Edge} {g : Option (Nat × Bool)} {k2 : IntKind} (b : Bool) (i : Nat) (hx : evR ρ x = .int .u64 ((bitN b : Nat) : Int)) (hy : evR ρ y = .int k2 ((i : Nat) : Int)) (hi : i < 64) :
    (execOp (evR ρ) ⟨d, .binOp .shl t x y u, ty, pos, af, g⟩).run P w = .ok (.value (.int .u64 (((if b = true then pw i else 0 : Nat)) : Int))) w := by
  rw [R_shl (k := .u64) (a := ((bitN b : Nat) : Int)) (b := ((i : Nat) : Int)) i hx hy rfl (by show _ ≤ 64; omega), shl_bit b hi]
theorem mvR_dn' {w a b i : Nat} (hi : i < w) (hw : w ≤ 64) (fl : Bool) (s : Int) (hs : s = 0 - (if b < 64 then (b : Int) else 64)) : mvR w a s fl i = mvB false w (fun j => a.testBit j) fl b i := by
  rw [show s = -(if b < 64 then (b : Int) else 64) by omega]
  exact mvR_dn hi hw fl _ rfl

set_option maxRecDepth 100000 in
theorem rbit_ok (x i : Nat) (w : World) (hi : i < 64) : Ret Try.prog 60 [.int .u64 ((x : Nat) : Int), .int .i64 ((i : Nat) : Int)] w fun v w' => v = .bool (x.testBit i) ∧ Tch N0 w w' := by
  refine enter Try.func60 rfl rfl ?_
  refine W_seq ?_
  refine W_region (by kernel_rfl) ?_
  refine sg [(4, .bool false)] (by kernel_rfl) ?_
  refine op_nil ?_
  refine W_seq ?_
  refine W_region (by kernel_rfl) ?_
  refine sg [(5, .int .i64 ((i : Nat) : Int)), (6, .bool (decide (((i : Nat) : Int) ≥ 0))), (7, .bool (decide (((i : Nat) : Int) ≥ 0)))] (by kernel_rfl) ?_
  cases hb1 : decide (((i : Nat) : Int) ≥ 0)
  · replace hb1 : ((i : Nat) : Int) < 0 := (Int.not_le.1 (of_decide_eq_false hb1))
    exfalso; omega
  · replace hb1 : 0 ≤ ((i : Nat) : Int) := (of_decide_eq_true hb1)
    refine sg [(8, .int .i64 ((i : Nat) : Int)), (9, .bool (decide (((i : Nat) : Int) < 64))), (10, .bool (decide (((i : Nat) : Int) < 64))), (11, .bool (decide (((i : Nat) : Int) < 64)))] (by kernel_rfl) ?_
    cases hb2 : decide (((i : Nat) : Int) < 64)
    · replace hb2 : 64 ≤ ((i : Nat) : Int) := (Int.not_lt.1 (of_decide_eq_false hb2))
      exfalso; omega
    · replace hb2 : ((i : Nat) : Int) < 64 := (of_decide_eq_true hb2)
      refine sg [(12, .int .u64 ((x : Nat) : Int)), (13, .int .i64 ((i : Nat) : Int)), (14, .int .u64 (IntKind.u64.wrap ((i : Nat) : Int)))] (by kernel_rfl) ?_
      rw [show IntKind.u64.wrap ((i : Nat) : Int) = ((i : Nat) : Int) from wrap_u64 (by omega) (by omega)]
      refine stv (v := .int .u64 ((x / pw i : Nat) : Int)) (by kernel_rfl) (R_shrP (k2 := .u64) x i (by kernel_rfl) (by kernel_rfl) (by omega)) ?_
      refine sg [(16, .int .u64 (((x / pw i : Nat) : Int).tmod 2))] (by kernel_rfl) ?_
      rw [show ((x / pw i : Nat) : Int).tmod 2 = ((x / pw i : Nat) : Int) % 2 from Int.tmod_eq_emod_of_nonneg (by first | omega | exact Int.natCast_nonneg _)]
      refine sg [(17, .bool ((((x / pw i : Nat) : Int) % 2) == 1)), (18, .bool ((((x / pw i : Nat) : Int) % 2) == 1)), (4, .bool ((((x / pw i : Nat) : Int) % 2) == 1))] (by kernel_rfl) ?_
      refine op_nil ?_
      refine W_ret ?_
      exact ⟨_, Res_of (v := .bool ((((x / pw i : Nat) : Int) % 2) == 1)) (by kernel_rfl), ⟨congrArg Value.bool (bit_eq x i), Tch.refl _ _⟩⟩

theorem rbit_i (x : Nat) (z : Int) (w : World) (h0 : 0 ≤ z) (h1 : z < 64) : Ret Try.prog 60 [.int .u64 ((x : Nat) : Int), .int .i64 z] w fun v w' => v = .bool (x.testBit z.toNat) ∧ Tch N0 w w' := by
  obtain ⟨i, rfl⟩ : ∃ i : Nat, z = i := ⟨z.toNat, by omega⟩
  exact rbit_ok x i w (by omega)

set_option maxRecDepth 100000 in
theorem rfits_t (wd : Nat) (w : World) (h1 : 1 ≤ wd) (h2 : wd ≤ 64) : Ret Try.prog 62 [.int .i64 ((wd : Nat) : Int)] w fun v w' => v = .bool true ∧ Tch N0 w w' := by
  refine enter Try.func62 rfl rfl ?_
  refine W_seq ?_
  refine W_region (by kernel_rfl) ?_
  refine sg [(2, .bool false)] (by kernel_rfl) ?_
  refine op_nil ?_
  refine W_seq ?_
  refine W_region (by kernel_rfl) ?_
  refine sg [(3, .int .i64 ((wd : Nat) : Int)), (4, .bool (decide (((wd : Nat) : Int) ≥ 1))), (5, .bool (decide (((wd : Nat) : Int) ≥ 1)))] (by kernel_rfl) ?_
  cases hb1 : decide (((wd : Nat) : Int) ≥ 1)
  · replace hb1 : ((wd : Nat) : Int) < 1 := (Int.not_le.1 (of_decide_eq_false hb1))
    exfalso; omega
  · replace hb1 : 1 ≤ ((wd : Nat) : Int) := (of_decide_eq_true hb1)
    refine sg [(6, .int .i64 ((wd : Nat) : Int)), (7, .bool (decide (((wd : Nat) : Int) ≤ 64))), (8, .bool (decide (((wd : Nat) : Int) ≤ 64))), (2, .bool (decide (((wd : Nat) : Int) ≤ 64)))] (by kernel_rfl) ?_
    refine op_nil ?_
    refine W_ret ?_
    exact ⟨_, Res_of (v := .bool (decide (((wd : Nat) : Int) ≤ 64))) (by kernel_rfl), ⟨by first | rfl | exact congrArg Value.bool (decide_eq_true (by omega)), Tch.refl _ _⟩⟩

set_option maxRecDepth 100000 in
theorem rmask_ok (wd : Nat) (w : World) (h1 : 1 ≤ wd) (h2 : wd ≤ 64) : Ret Try.prog 64 [.int .i64 ((wd : Nat) : Int)] w fun v w' => v = .int .u64 ((pw wd - 1 : Nat) : Int) ∧ Tch N0 w w' := by
  refine enter Try.func64 rfl rfl ?_
  refine W_seq ?_
  refine W_region (by kernel_rfl) ?_
  refine sg [(2, .int .u64 0)] (by kernel_rfl) ?_
  refine op_nil ?_
  refine W_seq ?_
  refine W_region (by kernel_rfl) ?_
  refine sg [(3, .int .u64 0)] (by kernel_rfl) ?_
  refine op_nil ?_
  refine W_seq ?_
  refine W_seq ?_
  refine W_region (by kernel_rfl) ?_
  refine sg [(4, .int .i64 0)] (by kernel_rfl) ?_
  refine op_nil ?_
  refine W_block ?_
  refine W_loop (fun m ρ w' => ∃ (i : Nat) (ρ0 : Env), ρ = updL ρ0 [(0, .int .i64 ((wd : Nat) : Int)), (3, .int .u64 ((pw i - 1 : Nat) : Int)), (4, .int .i64 ((i : Nat) : Int))] ∧ (i ≤ wd) ∧ Tch N0 w w' ∧ m = wd - i) (m := wd - 0) ?_ ?_
  · refine ⟨0, _, updL_self (by kernel_rfl), by omega, Tch.refl _ _, rfl⟩
  · rintro m ρ w1 ⟨i, ρ, rfl, hi, hT0, rfl⟩
    refine W_seq ?_
    refine W_seq ?_
    refine W_region (by kernel_rfl) ?_
    refine sg [(5, .int .i64 ((i : Nat) : Int)), (6, .int .i64 ((wd : Nat) : Int)), (7, .bool (decide (((i : Nat) : Int) < ((wd : Nat) : Int)))), (8, .bool (decide (((i : Nat) : Int) < ((wd : Nat) : Int))))] (by kernel_rfl) ?_
    cases hb2 : decide (((i : Nat) : Int) < ((wd : Nat) : Int))
    · replace hb2 : ((wd : Nat) : Int) ≤ ((i : Nat) : Int) := (Int.not_lt.1 (of_decide_eq_false hb2))
      refine sg [(9, undef), (10, undef), (11, .bool false)] (by kernel_rfl) ?_
      refine op_nil ?_
      refine W_cond false (by kernel_rfl) (by kernel_rfl) (fun h => nomatch h) (fun _ => ?_)
      refine W_exit ?_
      refine X_hit ?_
      refine W_seq ?_
      refine W_region (by kernel_rfl) ?_
      refine sg [(17, .int .u64 ((pw i - 1 : Nat) : Int)), (2, .int .u64 ((pw i - 1 : Nat) : Int))] (by kernel_rfl) ?_
      refine op_nil ?_
      refine W_ret ?_
      exact ⟨_, Res_of (v := .int .u64 ((pw i - 1 : Nat) : Int)) (by kernel_rfl), ⟨by rw [show i = wd by omega], hT0⟩⟩
    · replace hb2 : ((i : Nat) : Int) < ((wd : Nat) : Int) := (of_decide_eq_true hb2)
      refine sg [(9, .int .i64 ((wd : Nat) : Int))] (by kernel_rfl) ?_
      refine st (by kernel_rfl) (S_call (args := [.int .i64 ((wd : Nat) : Int)]) (by kernel_rfl) (rfits_t wd _ (by omega) (by omega)) ?_)
      rintro _ w3 ⟨rfl, hT4⟩
      have hT0 := hT0.t0 hT4
      refine sg [(11, .bool true)] (by kernel_rfl) ?_
      refine op_nil ?_
      refine W_cond true (by kernel_rfl) (by kernel_rfl) (fun _ => ?_) (fun h => nomatch h)
      refine W_skip ?_
      refine W_seq ?_
      refine W_block ?_
      have hp := pw_u64 (i := i) (by omega)
      have hp1 := pw_pos i
      have hp2 := pw_succ i
      refine W_region (by kernel_rfl) ?_
      refine sg [(14, .int .u64 ((pw i - 1 : Nat) : Int)), (15, .int .u64 (IntKind.u64.wrap (((pw i - 1 : Nat) : Int) * 2)))] (by kernel_rfl) ?_
      rw [show IntKind.u64.wrap (((pw i - 1 : Nat) : Int) * 2) = ((pw i - 1 : Nat) : Int) * 2 from wrap_u64 (by omega) (by omega)]
      refine sg [(16, .int .u64 (IntKind.u64.wrap ((((pw i - 1 : Nat) : Int) * 2) + 1)))] (by kernel_rfl) ?_
      rw [show IntKind.u64.wrap ((((pw i - 1 : Nat) : Int) * 2) + 1) = (((pw i - 1 : Nat) : Int) * 2) + 1 from wrap_u64 (by omega) (by omega)]
      refine fixR (y := ((pw (i + 1) - 1 : Nat) : Int)) (by omega) ?_
      refine sg [(3, .int .u64 ((pw (i + 1) - 1 : Nat) : Int))] (by kernel_rfl) ?_
      refine op_nil ?_
      refine W_fg [(0, .int .i64 ((wd : Nat) : Int)), (3, .int .u64 ((pw (i + 1) - 1 : Nat) : Int)), (4, .int .i64 ((i : Nat) : Int)), (11, .bool true)] (by kernel_rfl) fun ρ => ?_
      refine W_region (by kernel_rfl) ?_
      refine sg [(12, .int .i64 ((i : Nat) : Int)), (13, .int .i64 (IntKind.i64.wrap (((i : Nat) : Int) + 1)))] (by kernel_rfl) ?_
      rw [show IntKind.i64.wrap (((i : Nat) : Int) + 1) = ((i : Nat) : Int) + 1 from wrap_i64 (by omega) (by omega)]
      refine fixR (y := ((i + 1 : Nat) : Int)) (by omega) ?_
      refine sg [(4, .int .i64 ((i + 1 : Nat) : Int))] (by kernel_rfl) ?_
      refine op_nil ?_
      refine ⟨_, ?_, i + 1, _, updL_self (by kernel_rfl), ?_, hT0, rfl⟩
      · omega
      · omega

set_option maxRecDepth 100000 in
theorem rcut_ok (wd x : Nat) (w : World) (h1 : 1 ≤ wd) (h2 : wd ≤ 64) (hx : x < 18446744073709551616) : Ret Try.prog 63 [.int .i64 ((wd : Nat) : Int), .int .u64 ((x : Nat) : Int)] w fun v w' => v = .int .u64 ((cutN wd x : Nat) : Int) ∧ Tch N0 w w' := by
  refine enter Try.func63 rfl rfl ?_
  refine W_seq ?_
  refine W_region (by kernel_rfl) ?_
  refine sg [(4, .int .u64 0)] (by kernel_rfl) ?_
  refine op_nil ?_
  refine W_seq ?_
  refine W_region (by kernel_rfl) ?_
  refine sg [(5, .int .u64 ((x : Nat) : Int)), (6, .int .i64 ((wd : Nat) : Int))] (by kernel_rfl) ?_
  refine st (by rfl) (S_call (args := [.int .i64 ((wd : Nat) : Int)]) (by kernel_rfl) (rmask_ok wd _ (by omega) (by omega)) ?_)
  rintro _ w1 ⟨rfl, hT2⟩
  have hT0 := hT2
  refine sg [(8, .int .u64 (IntKind.u64.wrap (BitVec.ofInt 64 ((x : Nat) : Int) &&& BitVec.ofInt 64 ((pw wd - 1 : Nat) : Int)).toNat))] (by kernel_rfl) ?_
  rw [cut_u wd x (by omega) (by omega)]
  refine sg [(4, .int .u64 ((cutN wd x : Nat) : Int))] (by kernel_rfl) ?_
  refine op_nil ?_
  refine W_ret ?_
  exact ⟨_, Res_of (v := .int .u64 ((cutN wd x : Nat) : Int)) (by kernel_rfl), ⟨rfl, hT0⟩⟩

set_option maxRecDepth 100000 in
theorem rone_ok (b : Bool) (w : World) : Ret Try.prog 65 [.bool b] w fun v w' => v = .int .u64 ((bitN b : Nat) : Int) ∧ Tch N0 w w' := by
  refine enter Try.func65 rfl rfl ?_
  refine W_seq ?_
  refine W_region (by kernel_rfl) ?_
  refine sg [(2, .int .u64 0)] (by kernel_rfl) ?_
  refine op_nil ?_
  refine W_seq ?_
  refine W_seq ?_
  refine W_region (by kernel_rfl) ?_
  refine sg [(3, .bool b)] (by kernel_rfl) ?_
  refine op_nil ?_
  refine W_cond (b) (by kernel_rfl) (by kernel_rfl) (fun hc1 => ?_) (fun hc1 => ?_)
  · replace hc1 : b = true := (hc1)
    refine W_seq ?_
    refine W_region (by kernel_rfl) ?_
    refine sg [(2, .int .u64 1)] (by kernel_rfl) ?_
    refine op_nil ?_
    refine W_ret ?_
    exact ⟨_, Res_of (v := .int .u64 1) (by kernel_rfl), ⟨by simp [bitN, *], Tch.refl _ _⟩⟩
  · replace hc1 : b = false := (hc1)
    refine W_skip ?_
    refine W_seq ?_
    refine W_region (by kernel_rfl) ?_
    refine sg [(2, .int .u64 0)] (by kernel_rfl) ?_
    refine op_nil ?_
    refine W_ret ?_
    exact ⟨_, Res_of (v := .int .u64 0) (by kernel_rfl), ⟨by simp [bitN, *], Tch.refl _ _⟩⟩

set_option maxRecDepth 100000 in
theorem rmoved_ok (wd a : Nat) (sh : Int) (fl : Bool) (w : World) (h1 : 1 ≤ wd) (h2 : wd ≤ 64) (hs : -64 ≤ sh ∧ sh ≤ 64) : Ret Try.prog 80 [.int .i64 ((wd : Nat) : Int), .int .u64 ((a : Nat) : Int), .int .i64 sh, .bool fl] w fun v w' => v = .int .u64 ((bval wd (mvR wd a sh fl) : Nat) : Int) ∧ Tch N0 w w' := by
  refine enter Try.func80 rfl rfl ?_
  refine W_seq ?_
  refine W_region (by kernel_rfl) ?_
  refine sg [(8, .int .u64 0)] (by kernel_rfl) ?_
  refine op_nil ?_
  refine W_seq ?_
  refine W_region (by kernel_rfl) ?_
  refine sg [(9, .int .u64 0)] (by kernel_rfl) ?_
  refine op_nil ?_
  refine W_seq ?_
  refine W_seq ?_
  refine W_region (by kernel_rfl) ?_
  refine sg [(10, .int .i64 0)] (by kernel_rfl) ?_
  refine op_nil ?_
  refine W_block ?_
  refine W_loop (fun m ρ w' => ∃ (i : Nat) (ρ0 : Env), ρ = updL ρ0 [(0, .int .i64 ((wd : Nat) : Int)), (1, .int .u64 ((a : Nat) : Int)), (2, .int .i64 sh), (3, .bool fl), (9, .int .u64 ((bval i (mvR wd a sh fl) : Nat) : Int)), (10, .int .i64 ((i : Nat) : Int))] ∧ (i ≤ wd) ∧ Tch N0 w w' ∧ m = wd - i) (m := wd - 0) ?_ ?_
  · refine ⟨0, _, updL_self (by kernel_rfl), by omega, Tch.refl _ _, rfl⟩
  · rintro m ρ w1 ⟨i, ρ, rfl, hi, hT0, rfl⟩
    refine W_seq ?_
    refine W_seq ?_
    refine W_region (by kernel_rfl) ?_
    refine sg [(13, .int .i64 ((i : Nat) : Int)), (14, .int .i64 ((wd : Nat) : Int)), (15, .bool (decide (((i : Nat) : Int) < ((wd : Nat) : Int))))] (by kernel_rfl) ?_
    refine op_nil ?_
    refine W_cond (decide (((i : Nat) : Int) < ((wd : Nat) : Int))) (by kernel_rfl) (by kernel_rfl) (fun hc2 => ?_) (fun hc2 => ?_)
    · replace hc2 : ((i : Nat) : Int) < ((wd : Nat) : Int) := (of_decide_eq_true hc2)
      refine W_skip ?_
      refine W_seq ?_
      refine W_block ?_
      refine W_seq ?_
      refine W_region (by kernel_rfl) ?_
      refine sg [(18, .int .i64 ((i : Nat) : Int)), (19, .int .i64 sh), (20, .int .i64 (IntKind.i64.wrap (((i : Nat) : Int) - sh)))] (by kernel_rfl) ?_
      rw [show IntKind.i64.wrap (((i : Nat) : Int) - sh) = ((i : Nat) : Int) - sh from wrap_i64 (by omega) (by omega)]
      refine sg [(11, .int .i64 (((i : Nat) : Int) - sh))] (by kernel_rfl) ?_
      refine op_nil ?_
      refine W_seq ?_
      refine W_region (by kernel_rfl) ?_
      refine sg [(12, .bool false)] (by kernel_rfl) ?_
      refine op_nil ?_
      refine W_seq ?_
      refine W_seq ?_
      refine W_fg [(0, .int .i64 ((wd : Nat) : Int)), (1, .int .u64 ((a : Nat) : Int)), (2, .int .i64 sh), (3, .bool fl), (9, .int .u64 ((bval i (mvR wd a sh fl) : Nat) : Int)), (10, .int .i64 ((i : Nat) : Int)), (11, .int .i64 (((i : Nat) : Int) - sh)), (12, .bool false), (15, .bool (decide (((i : Nat) : Int) < ((wd : Nat) : Int))))] (by kernel_rfl) fun ρ => ?_
      refine W_region (by kernel_rfl) ?_
      refine sg [(21, .int .i64 (((i : Nat) : Int) - sh)), (22, .int .i64 ((wd : Nat) : Int)), (23, .bool (decide (((i : Nat) : Int) - sh ≥ ((wd : Nat) : Int))))] (by kernel_rfl) ?_
      refine op_nil ?_
      refine W_cond (decide (((i : Nat) : Int) - sh ≥ ((wd : Nat) : Int))) (by kernel_rfl) (by kernel_rfl) (fun hc3 => ?_) (fun hc3 => ?_)
      · replace hc3 : ((wd : Nat) : Int) ≤ ((i : Nat) : Int) - sh := (of_decide_eq_true hc3)
        refine W_region (by kernel_rfl) ?_
        refine sg [(24, .bool fl), (12, .bool fl)] (by kernel_rfl) ?_
        refine op_nil ?_
        refine W_region (by kernel_rfl) ?_
        refine sg [(30, .int .u64 ((bval i (mvR wd a sh fl) : Nat) : Int)), (31, .bool fl)] (by kernel_rfl) ?_
        refine st (by rfl) (S_call (args := [.bool fl]) (by kernel_rfl) (rone_ok fl _) ?_)
        rintro _ w4 ⟨rfl, hT5⟩
        have hT0 := hT0.t0 hT5
        refine sg [(33, .int .i64 ((i : Nat) : Int)), (34, .int .u64 (IntKind.u64.wrap ((i : Nat) : Int)))] (by kernel_rfl) ?_
        rw [show IntKind.u64.wrap ((i : Nat) : Int) = ((i : Nat) : Int) from wrap_u64 (by omega) (by omega)]
        refine stv (v := .int .u64 (((if fl = true then pw i else 0 : Nat)) : Int)) (by kernel_rfl) (R_shlB (k2 := .u64) fl i (by kernel_rfl) (by kernel_rfl) (by omega)) ?_
        refine sg [(36, .int .u64 (IntKind.u64.wrap (BitVec.ofInt 64 ((bval i (mvR wd a sh fl) : Nat) : Int) ||| BitVec.ofInt 64 (((if fl = true then pw i else 0 : Nat)) : Int)).toNat))] (by kernel_rfl) ?_
        rw [bvalor_u i (mvR wd a sh fl) fl (by omega) (by unfold mvR; first | rw [if_pos (by omega)] | rw [if_neg (by omega), if_pos (by omega)] | rw [if_neg (by omega), if_neg (by omega)])]
        refine sg [(9, .int .u64 ((bval (i + 1) (mvR wd a sh fl) : Nat) : Int))] (by kernel_rfl) ?_
        refine op_nil ?_
        refine W_fg [(0, .int .i64 ((wd : Nat) : Int)), (1, .int .u64 ((a : Nat) : Int)), (2, .int .i64 sh), (3, .bool fl), (9, .int .u64 ((bval (i + 1) (mvR wd a sh fl) : Nat) : Int)), (10, .int .i64 ((i : Nat) : Int)), (11, .int .i64 (((i : Nat) : Int) - sh)), (12, .bool fl), (15, .bool (decide (((i : Nat) : Int) < ((wd : Nat) : Int)))), (23, .bool (decide (((i : Nat) : Int) - sh ≥ ((wd : Nat) : Int))))] (by kernel_rfl) fun ρ => ?_
        refine W_region (by kernel_rfl) ?_
        refine sg [(16, .int .i64 ((i : Nat) : Int)), (17, .int .i64 (IntKind.i64.wrap (((i : Nat) : Int) + 1)))] (by kernel_rfl) ?_
        rw [show IntKind.i64.wrap (((i : Nat) : Int) + 1) = ((i : Nat) : Int) + 1 from wrap_i64 (by omega) (by omega)]
        refine fixR (y := ((i + 1 : Nat) : Int)) (by omega) ?_
        refine sg [(10, .int .i64 ((i + 1 : Nat) : Int))] (by kernel_rfl) ?_
        refine op_nil ?_
        refine ⟨_, ?_, i + 1, _, updL_self (by kernel_rfl), ?_, hT0, rfl⟩
        · omega
        · omega
      · replace hc3 : ((i : Nat) : Int) - sh < ((wd : Nat) : Int) := (Int.not_le.1 (of_decide_eq_false hc3))
        refine W_seq ?_
        refine W_region (by kernel_rfl) ?_
        refine sg [(25, .int .i64 (((i : Nat) : Int) - sh)), (26, .bool (decide (((i : Nat) : Int) - sh ≥ 0)))] (by kernel_rfl) ?_
        refine op_nil ?_
        refine W_cond (decide (((i : Nat) : Int) - sh ≥ 0)) (by kernel_rfl) (by kernel_rfl) (fun hc6 => ?_) (fun hc6 => ?_)
        · replace hc6 : 0 ≤ ((i : Nat) : Int) - sh := (of_decide_eq_true hc6)
          refine W_region (by kernel_rfl) ?_
          refine sg [(27, .int .u64 ((a : Nat) : Int)), (28, .int .i64 (((i : Nat) : Int) - sh))] (by kernel_rfl) ?_
          refine st (by rfl) (S_call (args := [.int .u64 ((a : Nat) : Int), .int .i64 (((i : Nat) : Int) - sh)]) (by kernel_rfl) (rbit_i a (((i : Nat) : Int) - sh) _ (by omega) (by omega)) ?_)
          rintro _ w7 ⟨rfl, hT8⟩
          have hT0 := hT0.t0 hT8
          refine sg [(12, .bool (a.testBit ((((i : Nat) : Int) - sh).toNat)))] (by kernel_rfl) ?_
          refine op_nil ?_
          refine W_fg [(0, .int .i64 ((wd : Nat) : Int)), (1, .int .u64 ((a : Nat) : Int)), (2, .int .i64 sh), (3, .bool fl), (9, .int .u64 ((bval i (mvR wd a sh fl) : Nat) : Int)), (10, .int .i64 ((i : Nat) : Int)), (11, .int .i64 (((i : Nat) : Int) - sh)), (12, .bool (a.testBit ((((i : Nat) : Int) - sh).toNat))), (15, .bool (decide (((i : Nat) : Int) < ((wd : Nat) : Int)))), (23, .bool (decide (((i : Nat) : Int) - sh ≥ ((wd : Nat) : Int)))), (26, .bool (decide (((i : Nat) : Int) - sh ≥ 0)))] (by kernel_rfl) fun ρ => ?_
          refine W_region (by kernel_rfl) ?_
          refine sg [(30, .int .u64 ((bval i (mvR wd a sh fl) : Nat) : Int)), (31, .bool (a.testBit ((((i : Nat) : Int) - sh).toNat)))] (by kernel_rfl) ?_
          refine st (by rfl) (S_call (args := [.bool (a.testBit ((((i : Nat) : Int) - sh).toNat))]) (by kernel_rfl) (rone_ok (a.testBit ((((i : Nat) : Int) - sh).toNat)) _) ?_)
          rintro _ w9 ⟨rfl, hT10⟩
          have hT0 := hT0.t0 hT10
          refine sg [(33, .int .i64 ((i : Nat) : Int)), (34, .int .u64 (IntKind.u64.wrap ((i : Nat) : Int)))] (by kernel_rfl) ?_
          rw [show IntKind.u64.wrap ((i : Nat) : Int) = ((i : Nat) : Int) from wrap_u64 (by omega) (by omega)]
          refine stv (v := .int .u64 (((if (a.testBit ((((i : Nat) : Int) - sh).toNat)) = true then pw i else 0 : Nat)) : Int)) (by kernel_rfl) (R_shlB (k2 := .u64) (a.testBit ((((i : Nat) : Int) - sh).toNat)) i (by kernel_rfl) (by kernel_rfl) (by omega)) ?_
          refine sg [(36, .int .u64 (IntKind.u64.wrap (BitVec.ofInt 64 ((bval i (mvR wd a sh fl) : Nat) : Int) ||| BitVec.ofInt 64 (((if (a.testBit ((((i : Nat) : Int) - sh).toNat)) = true then pw i else 0 : Nat)) : Int)).toNat))] (by kernel_rfl) ?_
          rw [bvalor_u i (mvR wd a sh fl) (a.testBit ((((i : Nat) : Int) - sh).toNat)) (by omega) (by unfold mvR; first | rw [if_pos (by omega)] | rw [if_neg (by omega), if_pos (by omega)] | rw [if_neg (by omega), if_neg (by omega)])]
          refine sg [(9, .int .u64 ((bval (i + 1) (mvR wd a sh fl) : Nat) : Int))] (by kernel_rfl) ?_
          refine op_nil ?_
          refine W_fg [(0, .int .i64 ((wd : Nat) : Int)), (1, .int .u64 ((a : Nat) : Int)), (2, .int .i64 sh), (3, .bool fl), (9, .int .u64 ((bval (i + 1) (mvR wd a sh fl) : Nat) : Int)), (10, .int .i64 ((i : Nat) : Int)), (11, .int .i64 (((i : Nat) : Int) - sh)), (12, .bool (a.testBit ((((i : Nat) : Int) - sh).toNat))), (15, .bool (decide (((i : Nat) : Int) < ((wd : Nat) : Int)))), (23, .bool (decide (((i : Nat) : Int) - sh ≥ ((wd : Nat) : Int)))), (26, .bool (decide (((i : Nat) : Int) - sh ≥ 0)))] (by kernel_rfl) fun ρ => ?_
          refine W_region (by kernel_rfl) ?_
          refine sg [(16, .int .i64 ((i : Nat) : Int)), (17, .int .i64 (IntKind.i64.wrap (((i : Nat) : Int) + 1)))] (by kernel_rfl) ?_
          rw [show IntKind.i64.wrap (((i : Nat) : Int) + 1) = ((i : Nat) : Int) + 1 from wrap_i64 (by omega) (by omega)]
          refine fixR (y := ((i + 1 : Nat) : Int)) (by omega) ?_
          refine sg [(10, .int .i64 ((i + 1 : Nat) : Int))] (by kernel_rfl) ?_
          refine op_nil ?_
          refine ⟨_, ?_, i + 1, _, updL_self (by kernel_rfl), ?_, hT0, rfl⟩
          · omega
          · omega
        · replace hc6 : ((i : Nat) : Int) - sh < 0 := (Int.not_le.1 (of_decide_eq_false hc6))
          refine W_skip ?_
          refine W_region (by kernel_rfl) ?_
          refine sg [(30, .int .u64 ((bval i (mvR wd a sh fl) : Nat) : Int)), (31, .bool false)] (by kernel_rfl) ?_
          refine st (by rfl) (S_call (args := [.bool false]) (by kernel_rfl) (rone_ok false _) ?_)
          rintro _ w11 ⟨rfl, hT12⟩
          have hT0 := hT0.t0 hT12
          refine sg [(33, .int .i64 ((i : Nat) : Int)), (34, .int .u64 (IntKind.u64.wrap ((i : Nat) : Int)))] (by kernel_rfl) ?_
          rw [show IntKind.u64.wrap ((i : Nat) : Int) = ((i : Nat) : Int) from wrap_u64 (by omega) (by omega)]
          refine stv (v := .int .u64 (((if false = true then pw i else 0 : Nat)) : Int)) (by kernel_rfl) (R_shlB (k2 := .u64) false i (by kernel_rfl) (by kernel_rfl) (by omega)) ?_
          refine sg [(36, .int .u64 (IntKind.u64.wrap (BitVec.ofInt 64 ((bval i (mvR wd a sh fl) : Nat) : Int) ||| BitVec.ofInt 64 (((if false = true then pw i else 0 : Nat)) : Int)).toNat))] (by kernel_rfl) ?_
          rw [bvalor_u i (mvR wd a sh fl) false (by omega) (by unfold mvR; first | rw [if_pos (by omega)] | rw [if_neg (by omega), if_pos (by omega)] | rw [if_neg (by omega), if_neg (by omega)])]
          refine sg [(9, .int .u64 ((bval (i + 1) (mvR wd a sh fl) : Nat) : Int))] (by kernel_rfl) ?_
          refine op_nil ?_
          refine W_fg [(0, .int .i64 ((wd : Nat) : Int)), (1, .int .u64 ((a : Nat) : Int)), (2, .int .i64 sh), (3, .bool fl), (9, .int .u64 ((bval (i + 1) (mvR wd a sh fl) : Nat) : Int)), (10, .int .i64 ((i : Nat) : Int)), (11, .int .i64 (((i : Nat) : Int) - sh)), (12, .bool false), (15, .bool (decide (((i : Nat) : Int) < ((wd : Nat) : Int)))), (23, .bool (decide (((i : Nat) : Int) - sh ≥ ((wd : Nat) : Int)))), (26, .bool (decide (((i : Nat) : Int) - sh ≥ 0)))] (by kernel_rfl) fun ρ => ?_
          refine W_region (by kernel_rfl) ?_
          refine sg [(16, .int .i64 ((i : Nat) : Int)), (17, .int .i64 (IntKind.i64.wrap (((i : Nat) : Int) + 1)))] (by kernel_rfl) ?_
          rw [show IntKind.i64.wrap (((i : Nat) : Int) + 1) = ((i : Nat) : Int) + 1 from wrap_i64 (by omega) (by omega)]
          refine fixR (y := ((i + 1 : Nat) : Int)) (by omega) ?_
          refine sg [(10, .int .i64 ((i + 1 : Nat) : Int))] (by kernel_rfl) ?_
          refine op_nil ?_
          refine ⟨_, ?_, i + 1, _, updL_self (by kernel_rfl), ?_, hT0, rfl⟩
          · omega
          · omega
    · replace hc2 : ((wd : Nat) : Int) ≤ ((i : Nat) : Int) := (Int.not_lt.1 (of_decide_eq_false hc2))
      refine W_exit ?_
      refine X_hit ?_
      refine W_seq ?_
      refine W_region (by kernel_rfl) ?_
      refine sg [(37, .int .u64 ((bval i (mvR wd a sh fl) : Nat) : Int)), (8, .int .u64 ((bval i (mvR wd a sh fl) : Nat) : Int))] (by kernel_rfl) ?_
      refine op_nil ?_
      refine W_ret ?_
      exact ⟨_, Res_of (v := .int .u64 ((bval i (mvR wd a sh fl) : Nat) : Int)) (by kernel_rfl), ⟨by rw [show i = wd by omega], hT0⟩⟩

set_option maxRecDepth 100000 in
theorem rshift9_ok (wd a b : Nat) (w : World) (h1 : 1 ≤ wd) (h2 : wd ≤ 64) (hb : b < 18446744073709551616) : Ret Try.prog 67 [.int .i64 9, .int .i64 ((wd : Nat) : Int), .int .u64 ((a : Nat) : Int), .int .u64 ((b : Nat) : Int)] w fun v w' => v = .int .u64 ((bval wd (mvB true wd (fun j => a.testBit j) false b) : Nat) : Int) ∧ Tch N0 w w' := by
  refine enter Try.func67 rfl rfl ?_
  refine W_seq ?_
  refine W_region (by kernel_rfl) ?_
  refine sg [(8, .int .u64 0)] (by kernel_rfl) ?_
  refine op_nil ?_
  refine W_seq ?_
  refine W_region (by kernel_rfl) ?_
  refine sg [(9, .int .i64 64)] (by kernel_rfl) ?_
  refine op_nil ?_
  refine W_seq ?_
  refine W_seq ?_
  refine W_region (by kernel_rfl) ?_
  refine sg [(10, .int .u64 ((b : Nat) : Int)), (11, .bool (decide (((b : Nat) : Int) < 64)))] (by kernel_rfl) ?_
  refine op_nil ?_
  refine W_cond (decide (((b : Nat) : Int) < 64)) (by kernel_rfl) (by kernel_rfl) (fun hc1 => ?_) (fun hc1 => ?_)
  · replace hc1 : ((b : Nat) : Int) < 64 := (of_decide_eq_true hc1)
    refine W_region (by kernel_rfl) ?_
    refine sg [(12, .int .u64 ((b : Nat) : Int)), (13, .int .i64 (IntKind.i64.wrap ((b : Nat) : Int)))] (by kernel_rfl) ?_
    rw [show IntKind.i64.wrap ((b : Nat) : Int) = ((b : Nat) : Int) from wrap_i64 (by omega) (by omega)]
    refine sg [(9, .int .i64 ((b : Nat) : Int))] (by kernel_rfl) ?_
    refine op_nil ?_
    refine W_seq ?_
    refine W_seq ?_
    refine W_region (by kernel_rfl) ?_
    refine sg [(14, .int .i64 9)] (by kernel_rfl) ?_
    refine op_nil ?_
    refine W_block ?_
    refine W_seq ?_
    refine W_fg [(0, .int .i64 9), (1, .int .i64 ((wd : Nat) : Int)), (2, .int .u64 ((a : Nat) : Int)), (3, .int .u64 ((b : Nat) : Int)), (8, .int .u64 0), (9, .int .i64 ((b : Nat) : Int)), (11, .bool (decide (((b : Nat) : Int) < 64))), (14, .int .i64 9)] (by kernel_rfl) fun ρ => ?_
    refine W_region (by kernel_rfl) ?_
    refine sg [(16, .bool true), (15, .bool true)] (by kernel_rfl) ?_
    refine op_nil ?_
    refine W_cond true (by kernel_rfl) (by kernel_rfl) (fun _ => ?_) (fun h => nomatch h)
    refine W_seq ?_
    refine W_region (by kernel_rfl) ?_
    refine sg [(17, .int .i64 ((wd : Nat) : Int)), (18, .int .u64 ((a : Nat) : Int)), (19, .int .i64 ((b : Nat) : Int))] (by kernel_rfl) ?_
    refine st (by rfl) (S_call (args := [.int .i64 ((wd : Nat) : Int), .int .u64 ((a : Nat) : Int), .int .i64 ((b : Nat) : Int), .bool false]) (by kernel_rfl) (rmoved_ok wd a ((b : Nat) : Int) false _ (by omega) (by omega) (by omega)) ?_)
    rintro _ w2 ⟨rfl, hT3⟩
    have hT0 := hT3
    refine sg [(8, .int .u64 ((bval wd (mvR wd a ((b : Nat) : Int) false) : Nat) : Int))] (by kernel_rfl) ?_
    refine op_nil ?_
    refine W_ret ?_
    exact ⟨_, Res_of (v := .int .u64 ((bval wd (mvR wd a ((b : Nat) : Int) false) : Nat) : Int)) (by kernel_rfl), ⟨congrArg (fun z : Nat => Value.int .u64 (z : Int)) (bval_congr fun j hj => mvR_up hj (by omega)  _ (by split <;> omega)), hT0⟩⟩
  · replace hc1 : 64 ≤ ((b : Nat) : Int) := (Int.not_lt.1 (of_decide_eq_false hc1))
    refine W_skip ?_
    refine W_seq ?_
    refine W_seq ?_
    refine W_region (by kernel_rfl) ?_
    refine sg [(14, .int .i64 9)] (by kernel_rfl) ?_
    refine op_nil ?_
    refine W_block ?_
    refine W_seq ?_
    refine W_region (by kernel_rfl) ?_
    refine sg [(16, .bool true), (15, .bool true)] (by kernel_rfl) ?_
    refine op_nil ?_
    refine W_cond true (by kernel_rfl) (by kernel_rfl) (fun _ => ?_) (fun h => nomatch h)
    refine W_seq ?_
    refine W_region (by kernel_rfl) ?_
    refine sg [(17, .int .i64 ((wd : Nat) : Int)), (18, .int .u64 ((a : Nat) : Int)), (19, .int .i64 64)] (by kernel_rfl) ?_
    refine st (by rfl) (S_call (args := [.int .i64 ((wd : Nat) : Int), .int .u64 ((a : Nat) : Int), .int .i64 64, .bool false]) (by kernel_rfl) (rmoved_ok wd a 64 false _ (by omega) (by omega) (by omega)) ?_)
    rintro _ w4 ⟨rfl, hT5⟩
    have hT0 := hT5
    refine sg [(8, .int .u64 ((bval wd (mvR wd a 64 false) : Nat) : Int))] (by kernel_rfl) ?_
    refine op_nil ?_
    refine W_ret ?_
    exact ⟨_, Res_of (v := .int .u64 ((bval wd (mvR wd a 64 false) : Nat) : Int)) (by kernel_rfl), ⟨congrArg (fun z : Nat => Value.int .u64 (z : Int)) (bval_congr fun j hj => mvR_up hj (by omega)  _ (by split <;> omega)), hT0⟩⟩

set_option maxRecDepth 100000 in
theorem rshift10_ok (wd a b : Nat) (w : World) (h1 : 1 ≤ wd) (h2 : wd ≤ 64) (hb : b < 18446744073709551616) : Ret Try.prog 67 [.int .i64 10, .int .i64 ((wd : Nat) : Int), .int .u64 ((a : Nat) : Int), .int .u64 ((b : Nat) : Int)] w fun v w' => v = .int .u64 ((bval wd (mvB false wd (fun j => a.testBit j) false b) : Nat) : Int) ∧ Tch N0 w w' := by
  refine enter Try.func67 rfl rfl ?_
  refine W_seq ?_
  refine W_region (by kernel_rfl) ?_
  refine sg [(8, .int .u64 0)] (by kernel_rfl) ?_
  refine op_nil ?_
  refine W_seq ?_
  refine W_region (by kernel_rfl) ?_
  refine sg [(9, .int .i64 64)] (by kernel_rfl) ?_
  refine op_nil ?_
  refine W_seq ?_
  refine W_seq ?_
  refine W_region (by kernel_rfl) ?_
  refine sg [(10, .int .u64 ((b : Nat) : Int)), (11, .bool (decide (((b : Nat) : Int) < 64)))] (by kernel_rfl) ?_
  refine op_nil ?_
  refine W_cond (decide (((b : Nat) : Int) < 64)) (by kernel_rfl) (by kernel_rfl) (fun hc1 => ?_) (fun hc1 => ?_)
  · replace hc1 : ((b : Nat) : Int) < 64 := (of_decide_eq_true hc1)
    refine W_region (by kernel_rfl) ?_
    refine sg [(12, .int .u64 ((b : Nat) : Int)), (13, .int .i64 (IntKind.i64.wrap ((b : Nat) : Int)))] (by kernel_rfl) ?_
    rw [show IntKind.i64.wrap ((b : Nat) : Int) = ((b : Nat) : Int) from wrap_i64 (by omega) (by omega)]
    refine sg [(9, .int .i64 ((b : Nat) : Int))] (by kernel_rfl) ?_
    refine op_nil ?_
    refine W_seq ?_
    refine W_seq ?_
    refine W_region (by kernel_rfl) ?_
    refine sg [(14, .int .i64 10)] (by kernel_rfl) ?_
    refine op_nil ?_
    refine W_block ?_
    refine W_seq ?_
    refine W_fg [(0, .int .i64 10), (1, .int .i64 ((wd : Nat) : Int)), (2, .int .u64 ((a : Nat) : Int)), (3, .int .u64 ((b : Nat) : Int)), (8, .int .u64 0), (9, .int .i64 ((b : Nat) : Int)), (11, .bool (decide (((b : Nat) : Int) < 64))), (14, .int .i64 10)] (by kernel_rfl) fun ρ => ?_
    refine W_region (by kernel_rfl) ?_
    refine sg [(16, .bool false), (15, .bool false)] (by kernel_rfl) ?_
    refine op_nil ?_
    refine W_cond false (by kernel_rfl) (by kernel_rfl) (fun h => nomatch h) (fun _ => ?_)
    refine W_seq ?_
    refine W_region (by kernel_rfl) ?_
    refine sg [(22, .bool true), (21, .bool true)] (by kernel_rfl) ?_
    refine op_nil ?_
    refine W_cond true (by kernel_rfl) (by kernel_rfl) (fun _ => ?_) (fun h => nomatch h)
    refine W_seq ?_
    refine W_region (by kernel_rfl) ?_
    refine sg [(23, .int .i64 ((wd : Nat) : Int)), (24, .int .u64 ((a : Nat) : Int)), (25, .int .i64 ((b : Nat) : Int)), (26, .int .i64 (IntKind.i64.wrap (0 - ((b : Nat) : Int))))] (by kernel_rfl) ?_
    rw [show IntKind.i64.wrap (0 - ((b : Nat) : Int)) = 0 - ((b : Nat) : Int) from wrap_i64 (by omega) (by omega)]
    refine st (by rfl) (S_call (args := [.int .i64 ((wd : Nat) : Int), .int .u64 ((a : Nat) : Int), .int .i64 (0 - ((b : Nat) : Int)), .bool false]) (by kernel_rfl) (rmoved_ok wd a (0 - ((b : Nat) : Int)) false _ (by omega) (by omega) (by omega)) ?_)
    rintro _ w2 ⟨rfl, hT3⟩
    have hT0 := hT3
    refine sg [(8, .int .u64 ((bval wd (mvR wd a (0 - ((b : Nat) : Int)) false) : Nat) : Int))] (by kernel_rfl) ?_
    refine op_nil ?_
    refine W_ret ?_
    exact ⟨_, Res_of (v := .int .u64 ((bval wd (mvR wd a (0 - ((b : Nat) : Int)) false) : Nat) : Int)) (by kernel_rfl), ⟨congrArg (fun z : Nat => Value.int .u64 (z : Int)) (bval_congr fun j hj => mvR_dn' hj (by omega) _ _ (by split <;> omega)), hT0⟩⟩
  · replace hc1 : 64 ≤ ((b : Nat) : Int) := (Int.not_lt.1 (of_decide_eq_false hc1))
    refine W_skip ?_
    refine W_seq ?_
    refine W_seq ?_
    refine W_region (by kernel_rfl) ?_
    refine sg [(14, .int .i64 10)] (by kernel_rfl) ?_
    refine op_nil ?_
    refine W_block ?_
    refine W_seq ?_
    refine W_region (by kernel_rfl) ?_
    refine sg [(16, .bool false), (15, .bool false)] (by kernel_rfl) ?_
    refine op_nil ?_
    refine W_cond false (by kernel_rfl) (by kernel_rfl) (fun h => nomatch h) (fun _ => ?_)
    refine W_seq ?_
    refine W_region (by kernel_rfl) ?_
    refine sg [(22, .bool true), (21, .bool true)] (by kernel_rfl) ?_
    refine op_nil ?_
    refine W_cond true (by kernel_rfl) (by kernel_rfl) (fun _ => ?_) (fun h => nomatch h)
    refine W_seq ?_
    refine W_fg [(0, .int .i64 10), (1, .int .i64 ((wd : Nat) : Int)), (2, .int .u64 ((a : Nat) : Int)), (3, .int .u64 ((b : Nat) : Int)), (8, .int .u64 0), (9, .int .i64 64), (11, .bool (decide (((b : Nat) : Int) < 64))), (14, .int .i64 10), (15, .bool false), (21, .bool true)] (by kernel_rfl) fun ρ => ?_
    refine W_region (by kernel_rfl) ?_
    refine sg [(23, .int .i64 ((wd : Nat) : Int)), (24, .int .u64 ((a : Nat) : Int)), (25, .int .i64 64), (26, .int .i64 (-64))] (by kernel_rfl) ?_
    refine st (by rfl) (S_call (args := [.int .i64 ((wd : Nat) : Int), .int .u64 ((a : Nat) : Int), .int .i64 (-64), .bool false]) (by kernel_rfl) (rmoved_ok wd a (-64) false _ (by omega) (by omega) (by omega)) ?_)
    rintro _ w4 ⟨rfl, hT5⟩
    have hT0 := hT5
    refine sg [(8, .int .u64 ((bval wd (mvR wd a (-64) false) : Nat) : Int))] (by kernel_rfl) ?_
    refine op_nil ?_
    refine W_ret ?_
    exact ⟨_, Res_of (v := .int .u64 ((bval wd (mvR wd a (-64) false) : Nat) : Int)) (by kernel_rfl), ⟨congrArg (fun z : Nat => Value.int .u64 (z : Int)) (bval_congr fun j hj => mvR_dn' hj (by omega) _ _ (by split <;> omega)), hT0⟩⟩

set_option maxRecDepth 100000 in
theorem rshift11_ok (wd a b : Nat) (w : World) (h1 : 1 ≤ wd) (h2 : wd ≤ 64) (hb : b < 18446744073709551616) : Ret Try.prog 67 [.int .i64 11, .int .i64 ((wd : Nat) : Int), .int .u64 ((a : Nat) : Int), .int .u64 ((b : Nat) : Int)] w fun v w' => v = .int .u64 ((bval wd (mvB false wd (fun j => a.testBit j) (a.testBit (wd - 1)) b) : Nat) : Int) ∧ Tch N0 w w' := by
  refine enter Try.func67 rfl rfl ?_
  refine W_seq ?_
  refine W_region (by kernel_rfl) ?_
  refine sg [(8, .int .u64 0)] (by kernel_rfl) ?_
  refine op_nil ?_
  refine W_seq ?_
  refine W_region (by kernel_rfl) ?_
  refine sg [(9, .int .i64 64)] (by kernel_rfl) ?_
  refine op_nil ?_
  refine W_seq ?_
  refine W_seq ?_
  refine W_region (by kernel_rfl) ?_
  refine sg [(10, .int .u64 ((b : Nat) : Int)), (11, .bool (decide (((b : Nat) : Int) < 64)))] (by kernel_rfl) ?_
  refine op_nil ?_
  refine W_cond (decide (((b : Nat) : Int) < 64)) (by kernel_rfl) (by kernel_rfl) (fun hc1 => ?_) (fun hc1 => ?_)
  · replace hc1 : ((b : Nat) : Int) < 64 := (of_decide_eq_true hc1)
    refine W_region (by kernel_rfl) ?_
    refine sg [(12, .int .u64 ((b : Nat) : Int)), (13, .int .i64 (IntKind.i64.wrap ((b : Nat) : Int)))] (by kernel_rfl) ?_
    rw [show IntKind.i64.wrap ((b : Nat) : Int) = ((b : Nat) : Int) from wrap_i64 (by omega) (by omega)]
    refine sg [(9, .int .i64 ((b : Nat) : Int))] (by kernel_rfl) ?_
    refine op_nil ?_
    refine W_seq ?_
    refine W_seq ?_
    refine W_region (by kernel_rfl) ?_
    refine sg [(14, .int .i64 11)] (by kernel_rfl) ?_
    refine op_nil ?_
    refine W_block ?_
    refine W_seq ?_
    refine W_fg [(0, .int .i64 11), (1, .int .i64 ((wd : Nat) : Int)), (2, .int .u64 ((a : Nat) : Int)), (3, .int .u64 ((b : Nat) : Int)), (8, .int .u64 0), (9, .int .i64 ((b : Nat) : Int)), (11, .bool (decide (((b : Nat) : Int) < 64))), (14, .int .i64 11)] (by kernel_rfl) fun ρ => ?_
    refine W_region (by kernel_rfl) ?_
    refine sg [(16, .bool false), (15, .bool false)] (by kernel_rfl) ?_
    refine op_nil ?_
    refine W_cond false (by kernel_rfl) (by kernel_rfl) (fun h => nomatch h) (fun _ => ?_)
    refine W_seq ?_
    refine W_region (by kernel_rfl) ?_
    refine sg [(22, .bool false), (21, .bool false)] (by kernel_rfl) ?_
    refine op_nil ?_
    refine W_cond false (by kernel_rfl) (by kernel_rfl) (fun h => nomatch h) (fun _ => ?_)
    refine W_skip ?_
    refine W_seq ?_
    refine W_region (by kernel_rfl) ?_
    refine sg [(28, .int .i64 ((wd : Nat) : Int)), (29, .int .u64 ((a : Nat) : Int)), (30, .int .i64 ((b : Nat) : Int)), (31, .int .i64 (IntKind.i64.wrap (0 - ((b : Nat) : Int))))] (by kernel_rfl) ?_
    rw [show IntKind.i64.wrap (0 - ((b : Nat) : Int)) = 0 - ((b : Nat) : Int) from wrap_i64 (by omega) (by omega)]
    refine sg [(32, .int .u64 ((a : Nat) : Int)), (33, .int .i64 ((wd : Nat) : Int)), (34, .int .i64 (IntKind.i64.wrap (((wd : Nat) : Int) - 1)))] (by kernel_rfl) ?_
    rw [show IntKind.i64.wrap (((wd : Nat) : Int) - 1) = ((wd : Nat) : Int) - 1 from wrap_i64 (by omega) (by omega)]
    refine fixR (y := ((wd - 1 : Nat) : Int)) (by omega) ?_
    refine st (by rfl) (S_call (args := [.int .u64 ((a : Nat) : Int), .int .i64 ((wd - 1 : Nat) : Int)]) (by kernel_rfl) (rbit_ok a (wd - 1) _ (by omega)) ?_)
    rintro _ w2 ⟨rfl, hT3⟩
    have hT0 := hT3
    refine st (by rfl) (S_call (args := [.int .i64 ((wd : Nat) : Int), .int .u64 ((a : Nat) : Int), .int .i64 (0 - ((b : Nat) : Int)), .bool (a.testBit (wd - 1))]) (by kernel_rfl) (rmoved_ok wd a (0 - ((b : Nat) : Int)) (a.testBit (wd - 1)) _ (by omega) (by omega) (by omega)) ?_)
    rintro _ w4 ⟨rfl, hT5⟩
    have hT0 := hT0.t0 hT5
    refine sg [(8, .int .u64 ((bval wd (mvR wd a (0 - ((b : Nat) : Int)) (a.testBit (wd - 1))) : Nat) : Int))] (by kernel_rfl) ?_
    refine op_nil ?_
    refine W_ret ?_
    exact ⟨_, Res_of (v := .int .u64 ((bval wd (mvR wd a (0 - ((b : Nat) : Int)) (a.testBit (wd - 1))) : Nat) : Int)) (by kernel_rfl), ⟨congrArg (fun z : Nat => Value.int .u64 (z : Int)) (bval_congr fun j hj => mvR_dn' hj (by omega) _ _ (by split <;> omega)), hT0⟩⟩
  · replace hc1 : 64 ≤ ((b : Nat) : Int) := (Int.not_lt.1 (of_decide_eq_false hc1))
    refine W_skip ?_
    refine W_seq ?_
    refine W_seq ?_
    refine W_region (by kernel_rfl) ?_
    refine sg [(14, .int .i64 11)] (by kernel_rfl) ?_
    refine op_nil ?_
    refine W_block ?_
    refine W_seq ?_
    refine W_region (by kernel_rfl) ?_
    refine sg [(16, .bool false), (15, .bool false)] (by kernel_rfl) ?_
    refine op_nil ?_
    refine W_cond false (by kernel_rfl) (by kernel_rfl) (fun h => nomatch h) (fun _ => ?_)
    refine W_seq ?_
    refine W_region (by kernel_rfl) ?_
    refine sg [(22, .bool false), (21, .bool false)] (by kernel_rfl) ?_
    refine op_nil ?_
    refine W_cond false (by kernel_rfl) (by kernel_rfl) (fun h => nomatch h) (fun _ => ?_)
    refine W_skip ?_
    refine W_seq ?_
    refine W_fg [(0, .int .i64 11), (1, .int .i64 ((wd : Nat) : Int)), (2, .int .u64 ((a : Nat) : Int)), (3, .int .u64 ((b : Nat) : Int)), (8, .int .u64 0), (9, .int .i64 64), (11, .bool (decide (((b : Nat) : Int) < 64))), (14, .int .i64 11), (15, .bool false), (21, .bool false)] (by kernel_rfl) fun ρ => ?_
    refine W_region (by kernel_rfl) ?_
    refine sg [(28, .int .i64 ((wd : Nat) : Int)), (29, .int .u64 ((a : Nat) : Int)), (30, .int .i64 64), (31, .int .i64 (-64)), (32, .int .u64 ((a : Nat) : Int)), (33, .int .i64 ((wd : Nat) : Int)), (34, .int .i64 (IntKind.i64.wrap (((wd : Nat) : Int) - 1)))] (by kernel_rfl) ?_
    rw [show IntKind.i64.wrap (((wd : Nat) : Int) - 1) = ((wd : Nat) : Int) - 1 from wrap_i64 (by omega) (by omega)]
    refine fixR (y := ((wd - 1 : Nat) : Int)) (by omega) ?_
    refine st (by rfl) (S_call (args := [.int .u64 ((a : Nat) : Int), .int .i64 ((wd - 1 : Nat) : Int)]) (by kernel_rfl) (rbit_ok a (wd - 1) _ (by omega)) ?_)
    rintro _ w6 ⟨rfl, hT7⟩
    have hT0 := hT7
    refine st (by rfl) (S_call (args := [.int .i64 ((wd : Nat) : Int), .int .u64 ((a : Nat) : Int), .int .i64 (-64), .bool (a.testBit (wd - 1))]) (by kernel_rfl) (rmoved_ok wd a (-64) (a.testBit (wd - 1)) _ (by omega) (by omega) (by omega)) ?_)
    rintro _ w8 ⟨rfl, hT9⟩
    have hT0 := hT0.t0 hT9
    refine sg [(8, .int .u64 ((bval wd (mvR wd a (-64) (a.testBit (wd - 1))) : Nat) : Int))] (by kernel_rfl) ?_
    refine op_nil ?_
    refine W_ret ?_
    exact ⟨_, Res_of (v := .int .u64 ((bval wd (mvR wd a (-64) (a.testBit (wd - 1))) : Nat) : Int)) (by kernel_rfl), ⟨congrArg (fun z : Nat => Value.int .u64 (z : Int)) (bval_congr fun j hj => mvR_dn' hj (by omega) _ _ (by split <;> omega)), hT0⟩⟩

end Go.Proofs.YtnlecdpiccgdpaaV

set_option linter.unusedVariables false
set_option linter.unusedSimpArgs false
namespace Go.Proofs.YtnlecdpiccgdpaaV
open Go Go.RowKit
theorem Own.ne_own {w : World} {b e sz n b' e' sz' n' : Nat} {v v' : Value} {cells cells' : List Value} (h : Own w b e sz v n cells) (h' : Own w b' e' sz' v' n' cells') (hne : e ≠ e') : ∀ c, v.ownBlock = some c → v'.ownBlock = some c → False := by
  intro c hc hc'
  obtain ⟨_, k⟩ := h
  obtain ⟨_, k'⟩ := h'
  rcases k with ⟨hv, _⟩ | ⟨g, cap, cur, hv, _, hgb, _⟩
  · rw [hv] at hc; cases hc
  · rcases k' with ⟨hv', _⟩ | ⟨g', cap', cur', hv', _, hgb', _⟩
    · rw [hv'] at hc'; cases hc'
    · rw [hv] at hc; rw [hv'] at hc'
      have e1 : g = c := by injection hc
      have e2 : g' = c := by injection hc'
      subst e1; subst e2
      rw [hgb] at hgb'
      injection hgb' with q
      injection q with q1 q2
      exact hne q2
section
variable {P : Program} {ρ : Env} {w : World} {J : Env → World → Prop}
/-- append(v, x..), where the row lies in its own block: behind it, in that block or in a new one. -/
theorem S_appendR {d : Option Tmp} {x y : Operand} {ty : TypeId} {pos : String} {af : Array Edge} {g : Option (Nat × Bool)} (t e : TypeId) (z : Value) (sz by_ : Nat) {n m : Nat} {A : Option Addr} {cp : Nat} {cells news : List Value} {b off c : Nat}
    (hi : (P.info? e).map (fun i => (i.zero, i.size, i.bytes)) = some (some z, sz, by_)) (hzs : z.cells.size = sz) (hsz : 0 < sz) (ht : pureR P (underlying t) = some (.slice e))
    (hx : evR ρ x = .slice A n cp) (hy : evR ρ y = .slice (some ⟨b, off, none⟩) m c) (hown : Own w 0 e sz (.slice A n cp) n cells)
    (hl : news.length = m * sz) (hnews : ∀ k u, news[k]? = some u → w.cell? ⟨b, off + k, none⟩ = some u) (h1 : ∀ u ∈ news, oneV u = true)
    (h63 : n + m ≤ maxLen) (hbytes : (n + m) * by_ ≤ 140737488355328)
    (h : ∀ A2 cp2 w1, Own w1 0 e sz (.slice A2 (n + m) cp2) (n + m) (cells ++ news) → (∀ c, (Value.slice A2 (n + m) cp2).ownBlock = some c → (Value.slice A n cp).ownBlock = some c ∨ c = w.heap.size) → Tch (ownS (.slice A n cp)) w w1 → J (updO ρ d (.slice A2 (n + m) cp2)) w1) :
    Step P ⟨d, .call { callee := .builtin .append, args := #[x, y], argTypes := #[t, t] }, ty, pos, af, g⟩ ρ w J := by
  obtain ⟨i, hi1, hi2, hi3, hi4⟩ := info_of hi
  have ht' : P.underlying t = some (.slice e) := by
    have := pureR_run (w := w) ht
    simp only [underlying] at this
    cases hu : P.underlying t with
    | none => simp [hu] at this
    | some u => simp [hu] at this; rw [this]
  obtain ⟨v', w', hr, ho, hg, _, hwh⟩ := run_append_own_at (P := P) (w := w) 0 t ty e i z sz by_ ht' hi1 hi2 hi3 hi4 hzs hsz (.slice A n cp) n cells hown ⟨b, off, none⟩ m c news hl (fun k u hu => by rw [add_at]; exact hnews k u hu) (fun u hu => oneV_oneCell (h1 u hu)) h63 hbytes (by omega)
  have ho' : Own w' 0 e sz v' (n + m) (cells ++ news) := ho
  obtain ⟨A2, cp2, rfl, _⟩ := ho'.rd
  refine S_val (v := .slice A2 (n + m) cp2) (w' := w') ?_ (h A2 cp2 w' ho' (fun c hc => ?_) (Tch.of_grown hg))
  · simp only [execOp, resolve, invoke, builtin, Array.map, hx, hy]
    simp [hx, hy, hr]
  · rcases hwh with h' | h'
    · rw [h'] at hc; exact .inl hc
    · rw [h'] at hc; injection hc with hc; exact .inr hc.symm
/-- %, by a number that is not 0. -/
theorem S_rem_ {d : Option Tmp} {t u : TypeId} {x y : Operand} {ty : TypeId} {pos : String} {af : Array Edge} {g : Option (Nat × Bool)} {a b : Nat} (hx : evR ρ x = .int .i64 ((a : Nat) : Int)) (hy : evR ρ y = .int .i64 ((b : Nat) : Int)) (hb : 0 < b) :
    (execOp (evR ρ) ⟨d, .binOp .rem t x y u, ty, pos, af, g⟩).run P w = .ok (.value (.int .i64 ((a % b : Nat) : Int))) w := by
  have := R_rem (P := P) (w := w) (d := d) (t := t) (u := u) (ty := ty) (pos := pos) (af := af) (g := g) hx hy (by omega) (by omega)
  rw [this]
  congr 1
end
end Go.Proofs.YtnlecdpiccgdpaaV

set_option linter.unusedVariables false
set_option linter.unusedSimpArgs false
namespace Go.Proofs.YtnlecdpiccgdpaaV
open Go Go.RowKit Go.Proofs
section
variable {P : Program} {ρ : Env} {w : World} {J : Env → World → Prop}
theorem S_copyR {d : Option Tmp} {x y : Operand} {ty : TypeId} {pos : String} {af : Array Edge} {g : Option (Nat × Bool)} (t e : TypeId) (z : Value) (sz by_ : Nat) {m : Nat} {A : Option Addr} {cp : Nat} {cells : List Value}
    (hi : (P.info? e).map (fun i => (i.zero, i.size, i.bytes)) = some (some z, sz, by_)) (hzs : z.cells.size = sz) (hsz : 0 < sz) (ht : pureR P (underlying t) = some (.slice e))
    (hx : evR ρ x = .slice none 0 0) (hy : evR ρ y = .slice A m cp) (hown : Own w 0 e sz (.slice A m cp) m cells) (h1 : ∀ u ∈ cells, oneV u = true)
    (h63 : m ≤ maxLen) (hbytes : m * by_ ≤ 140737488355328)
    (h : ∀ A2 cp2 w1, Own w1 0 e sz (.slice A2 m cp2) m cells → (∀ c, (Value.slice A2 m cp2).ownBlock = some c → c = w.heap.size) → Tch N0 w w1 → J (updO ρ d (.slice A2 m cp2)) w1) :
    Step P ⟨d, .call { callee := .builtin .append, args := #[x, y], argTypes := #[t, t] }, ty, pos, af, g⟩ ρ w J := by
  rcases hown with ⟨hl, ⟨hv, hm⟩ | ⟨b, cap, cur, hv, _, hg, hn, hcap, hsize, hcur⟩⟩
  · subst hm
    injection hv with hA _ hc
    subst hA; subst hc
    have hc0 : cells = [] := List.eq_nil_of_length_eq_zero (by omega)
    subst hc0
    obtain ⟨i, hi1, hi2, hi3, hi4⟩ := info_of hi
    have ht' : P.underlying t = some (.slice e) := by
      have := pureR_run (w := w) ht
      simp only [underlying] at this
      cases hu : P.underlying t with
      | none => simp [hu] at this
      | some u => simp [hu] at this; rw [this]
    refine S_val (v := .slice none 0 0) (w' := w) ?_ (h none 0 w (Own.nil_ _ _ _ _) (fun c hc => by cases hc) (Tch.refl _ _))
    simp only [execOp, resolve, invoke, builtin, Array.map, hx, hy]
    simp [hx, hy, Builtin.append_, run_underlying ht', sizeOf, typeInfo, zeroValue, hi1, hi2, Builtin.lenOf, Builtin.firstCells]
  · injection hv with hA _ hc
    subst hA; subst hc
    refine S_appendR t e z sz by_ (n := 0) (m := m) (A := none) (cp := 0) (cells := []) (news := cells) (b := b) (off := 0) (c := cp) hi hzs hsz ht hx hy (Own.nil_ _ _ _ _) hl (fun k u hk => ?_) h1 (by omega) (by rw [Nat.zero_add]; exact hbytes) fun A2 cp2 w1 hO hw hT => ?_
    · rw [Nat.zero_add]
      rw [← hcur] at hk
      have hk2 : cur.toList[k]? = some u := by
        rw [List.getElem?_take] at hk
        split at hk
        · exact hk
        · cases hk
      simp [World.cell?, hg]
      simpa using hk2
    · rw [Nat.zero_add] at hO hw ⊢
      exact h A2 cp2 w1 (by simpa using hO) (fun c hc => (hw c hc).resolve_left (fun q => by cases q)) (hT.weaken (fun b _ q => by cases q))
end
theorem Res_tc {P : Program} {fn : Func} {ρ : Env} {w : World} {p u : Tmp} {ty : TypeId} {b : Nat} {e : TypeId} {cs : List Value} (h : fn.results = #[.tmp u, .cell p ty]) (hp : Nat.blt p fn.ntmps = true) (hu : Nat.blt u fn.ntmps = true) (hx : ρ p = .pointer (some ⟨b, 0, none⟩)) (hb : Blk w b e cs) (ha : pureR P (isAgg ty) = some true) (hz : pureR P (sizeOf ty) = some cs.length) :
    Res P fn ρ w (.tuple #[ρ u, .agg cs.toArray]) := by
  unfold Res results
  have h3 := run_loadVarA (P := P) (w := w) (b := b) (j := 0) cs ha hz (blk_part hb)
  simp [h, Fr_getD hp, Fr_getD hu, hx, asAddr_run, h3]
end Go.Proofs.YtnlecdpiccgdpaaV

set_option linter.unusedVariables false
set_option linter.unusedSimpArgs false
namespace Go.Proofs.YtnlecdpiccgdpaaV
open Go Go.RowKit Go.Proofs
/-- At most k rounds from here. -/
def Un (P : Program) (n : Nat) (c : Code) (R : Env → World → Prop) (X : Nat → Env → World → Prop) : Nat → Env → World → Prop
  | 0 => fun _ _ => False
  | k + 1 => fun ρ w => W P n c (Un P n c R X k) R X ρ w
section
variable {P : Program} {n : Nat} {c : Code} {N R : Env → World → Prop} {X : Nat → Env → World → Prop} {ρ : Env} {w : World}
theorem Un_s {k : Nat} (h : W P n c (Un P n c R X k) R X ρ w) : Un P n c R X (k + 1) ρ w := h
theorem W_un (k : Nat) (h : Un P n c R X k ρ w) : W P n (.loop c) N R X ρ w :=
  W_loop (fun m ρ w => Un P n c R X m ρ w) (m := k) h fun m ρ w hI => by
    cases m with
    | zero => exact hI.elim
    | succ m => exact W_mono (show W P n c (Un P n c R X m) R X ρ w from hI) (fun ρ' w' q => ⟨m, Nat.lt_succ_self m, q⟩) (fun _ _ q => q) (fun _ _ _ q => q)
end
end Go.Proofs.YtnlecdpiccgdpaaV

set_option linter.unusedVariables false
set_option linter.unusedSimpArgs false
namespace Go.Proofs.YtnlecdpiccgdpaaV
open Go Go.RowKit Go.Proofs
theorem Mv.newS {F F' S : Nat → Prop} {w w1 w2 : World} (h : Mv F F' w w1) (k : Tch S w1 w2) (hb : ∀ b, S b → w.heap.size ≤ b) : Mv F F' w w2 :=
  ⟨h.1.trans k (fun _ _ e => e) (fun c hc e => by have := hb c e; omega), h.2⟩
/-- The row of some bits of a word x, of which those of ins are inputs. -/
structure RowI (n : Nat) (cs : List (List Nat)) (I : Nat → Prop) (n' : Nat) (I' : Nat → Prop) (i : Nat) (row hold : List Nat) (x ins : Nat) : Prop where
  len : row.length = i
  le : n ≤ n'
  fit : ∀ j, j < i → row.getD j 0 / 2 < n'
  val : ∀ be, Mod cs be → (∀ h, h ∈ hold → lt_ be h = true) → ∀ j, j < i → lt_ be (row.getD j 0) = x.testBit j
  new : ∀ h, h ∈ hold → n ≤ h / 2 ∧ h / 2 < n' ∧ I' (h / 2)
  uniq : ∀ h h', h ∈ hold → h' ∈ hold → h / 2 = h' / 2 → h = h'
  inp : ∀ v, I' v → I v ∨ ∃ h, h ∈ hold ∧ h / 2 = v
  old : ∀ v, I v → I' v
  none : (∀ j, j < i → ins.testBit j = false) → hold = []
theorem RowI.zero (n : Nat) (cs : List (List Nat)) (I : Nat → Prop) (x ins : Nat) : RowI n cs I n I 0 [] [] x ins := ⟨rfl, Nat.le_refl _, fun j h => by omega, fun _ _ _ j h => by omega, (fun h q => by cases q), (fun h _ q => by cases q), fun v h => .inl h, fun v h => h, fun _ => rfl⟩
theorem getD_snoc (l : List Nat) (x j : Nat) : (l ++ [x]).getD j 0 = if j = l.length then x else l.getD j 0 := by
  simp only [List.getD_eq_getElem?_getD, List.getElem?_append]
  by_cases h : j < l.length
  · rw [if_pos h, if_neg (by omega)]
  · rw [if_neg h]
    by_cases e : j = l.length
    · subst e; simp
    · rw [if_neg e]
      rw [List.getElem?_eq_none (by simp; omega), List.getElem?_eq_none (by omega)]
theorem RowI.const {n n' i x ins y : Nat} {cs : List (List Nat)} {I I' : Nat → Prop} {row hold : List Nat} (h : RowI n cs I n' I' i row hold x ins) (hy : y / 2 < n') (hv : ∀ be, Mod cs be → lt_ be y = x.testBit i) : RowI n cs I n' I' (i + 1) (row ++ [y]) hold x ins where
  len := by rw [List.length_append, h.len]; rfl
  le := h.le
  fit := fun j hj => by
    rw [getD_snoc, h.len]
    split
    · exact hy
    · exact h.fit j (by omega)
  val := fun be hm hh j hj => by
    rw [getD_snoc, h.len]
    split
    · rename_i e; rw [e]; exact hv be hm
    · exact h.val be hm hh j (by omega)
  new := h.new
  uniq := h.uniq
  inp := h.inp
  old := h.old
  none := fun q => h.none (fun j hj => q j (by omega))
theorem RowI.input {n n' i x ins y : Nat} {cs : List (List Nat)} {I I' : Nat → Prop} {row hold : List Nat} (h : RowI n cs I n' I' i row hold x ins) (hn : 2 * n ≤ 2 * n') (hi : ins.testBit i = true) (hy : (y = 2 * n' ∧ x.testBit i = true) ∨ (y = GateP.nt (2 * n') ∧ x.testBit i = false)) :
    RowI n cs I (n' + 1) (fun v => I' v ∨ v = n') (i + 1) (row ++ [2 * n']) (hold ++ [y]) x ins := by
  have hy2 : y / 2 = n' := by
    rcases hy with ⟨e, _⟩ | ⟨e, _⟩
    · rw [e]; omega
    · rw [e, nt_div]; omega
  exact {
    len := by rw [List.length_append, h.len]; rfl
    le := by have := h.le; omega
    fit := fun j hj => by
      rw [getD_snoc, h.len]
      split
      · omega
      · have := h.fit j (by omega); omega
    val := fun be hm hh j hj => by
      rw [getD_snoc, h.len]
      split
      · rename_i e
        have hl := hh y (List.mem_append.2 (.inr (by simp)))
        rw [e]
        rcases hy with ⟨e1, e2⟩ | ⟨e1, e2⟩
        · rw [e2, ← e1]; exact hl
        · rw [e2]; rw [e1, lt_nt] at hl; simpa using hl
      · exact h.val be hm (fun z hz => hh z (List.mem_append.2 (.inl hz))) j (by omega)
    new := fun z hz => by
      rcases List.mem_append.1 hz with q | q
      · have := h.new z q; exact ⟨this.1, by omega, .inl this.2.2⟩
      · simp at q; subst q; rw [hy2]; exact ⟨by omega, by omega, .inr rfl⟩
    uniq := fun z z' hz hz' e => by
      rcases List.mem_append.1 hz with q | q <;> rcases List.mem_append.1 hz' with q' | q'
      · exact h.uniq z z' q q' e
      · simp at q'; subst q'; have := (h.new z q).2.1; omega
      · simp at q; subst q; have := (h.new z' q').2.1; omega
      · simp at q q'; rw [q, q']
    inp := fun v hv => by
      rcases hv with hv | hv
      · rcases h.inp v hv with q | ⟨z, hz, e⟩
        · exact .inl q
        · exact .inr ⟨z, List.mem_append.2 (.inl hz), e⟩
      · exact .inr ⟨y, List.mem_append.2 (.inr (by simp)), by omega⟩
    old := fun v hv => .inl (h.old v hv)
    none := fun q => by have := q i (by omega); rw [hi] at this; cases this }
/-- The truths of inputs. -/
theorem hold_truths {hold : List Nat} (hu : ∀ h h', h ∈ hold → h' ∈ hold → h / 2 = h' / 2 → h = h') : ∀ x, x ∈ hold → (fun v => decide (2 * v ∈ hold)) (x / 2) = !decide (x % 2 = 1) := fun x hx => by
  rcases (show x % 2 = 0 ∨ x % 2 = 1 by omega) with e | e
  · have e2 : 2 * (x / 2) = x := by omega
    show decide (2 * (x / 2) ∈ hold) = _
    rw [e2, decide_eq_true hx, decide_eq_false (by omega)]; rfl
  · have : ¬ 2 * (x / 2) ∈ hold := fun q => by
      have := hu x (2 * (x / 2)) hx q (by omega)
      omega
    show decide (2 * (x / 2) ∈ hold) = _
    rw [decide_eq_false this, decide_eq_true e]; rfl
theorem hold_true {hold : List Nat} {be : Nat → Bool} (hu : ∀ h h', h ∈ hold → h' ∈ hold → h / 2 = h' / 2 → h = h') (hb : ∀ x, x ∈ hold → be (x / 2) = (fun v => decide (2 * v ∈ hold)) (x / 2)) : ∀ x, x ∈ hold → lt_ be x = true := fun x hx => by
  unfold lt_
  rw [hb x hx, hold_truths hu x hx]
  cases decide (x % 2 = 1) <;> rfl
theorem RdW.ne_sl {w : World} {n b t : Nat} {A : Option Addr} {kn : List Bool} {x1 y1 : Option Addr} {x2 x3 y2 y3 : Nat} (h : RdW w 1 n A (boolsV kn)) (hn : 0 < n) (hB : Blk w b t [.slice x1 x2 x3, .slice y1 y2 y3]) : ∀ c, blkOf A = some c → c ≠ b := fun c hc e => by
  obtain ⟨b', off, e1, _, h3⟩ := h.2.2 hn
  subst e1
  injection hc with hc
  have hl := h.lenb
  have := h3 0 (.bool (kn.getD 0 false)) (boolsV_at kn (by omega))
  simp only at hc
  rw [hc, e, hB.cell] at this
  match off with
  | 0 => simp at this
  | 1 => simp at this
  | k + 2 => simp at this
theorem own_blk (A : Option Addr) (n cp : Nat) : blkOf A = (Value.slice A n cp).ownBlock := by cases A <;> rfl
/-- An address of a whole block's cell, or none. -/
def AdOk (A : Option Addr) : Prop := A = none ∨ ∃ b off, A = some ⟨b, off, none⟩
theorem Own.adok {w : World} {n : Nat} {A : Option Addr} {cp : Nat} {cells : List Value} (h : Own w 0 3 1 (.slice A n cp) n cells) : AdOk A := by
  rcases h with ⟨_, ⟨hv, _⟩ | ⟨b, cap, cur, hv, _⟩⟩
  · injection hv with q; exact .inl q
  · injection hv with q; exact .inr ⟨b, 0, q⟩
theorem Own.rdx {F : Nat → Prop} {w : World} {n : Nat} {A : Option Addr} {cp : Nat} {cells : List Value} (h : Own w 0 3 1 (.slice A n cp) n cells) (hF : ∀ c, (Value.slice A n cp).ownBlock = some c → ¬ F c) : RdX F w n A cells := ⟨h.rd1, fun c hc => by rw [own_blk A n cp] at hc; exact ⟨h.lt c hc, hF c hc⟩⟩
theorem RdX.len {F : Nat → Prop} {w : World} {m : Nat} {A : Option Addr} {l : List Nat} (h : RdX F w m A (nats l)) : l.length = m := by have := h.1.1; rw [nats_length] at this; omega
end Go.Proofs.YtnlecdpiccgdpaaV

set_option linter.unusedVariables false
set_option linter.unusedSimpArgs false
namespace Go.Proofs.YtnlecdpiccgdpaaV
open Go Go.RowKit Go.Proofs
theorem bval_succ (m : Nat) (f : Nat → Bool) : bval (m + 1) f = bval m f + (if f m = true then 2 ^ m else 0) := rfl
def cryB (A B : Nat → Bool) (c : Bool) : Nat → Bool
  | 0 => c
  | i + 1 => (A i && B i) || ((A i != B i) && cryB A B c i)
def sumB (A B : Nat → Bool) (c : Bool) (i : Nat) : Bool := (A i != B i) != cryB A B c i
theorem sum_val (A B : Nat → Bool) (c : Bool) (m : Nat) : bval m (sumB A B c) + (if cryB A B c m = true then 2 ^ m else 0) = bval m A + bval m B + (if c = true then 1 else 0) := by
  induction m with
  | zero => cases c <;> rfl
  | succ m ih =>
    rw [bval_succ, bval_succ, bval_succ]
    have e1 : cryB A B c (m + 1) = ((A m && B m) || ((A m != B m) && cryB A B c m)) := rfl
    have e2 : sumB A B c m = ((A m != B m) != cryB A B c m) := rfl
    rw [e1, e2, Nat.pow_succ]
    generalize 2 ^ m = P at *
    cases hA : A m <;> cases hB : B m <;> cases hC : cryB A B c m <;> simp [hC] at ih ⊢ <;> omega
theorem sum_mod (A B : Nat → Bool) (c : Bool) (m : Nat) : bval m (sumB A B c) = (bval m A + bval m B + (if c = true then 1 else 0)) % pw m := by
  have h := sum_val A B c m
  have hl := bval_lt m (sumB A B c)
  unfold pw
  rw [← h]
  split
  · rw [Nat.add_mod_right, Nat.mod_eq_of_lt hl]
  · rw [Nat.add_zero, Nat.mod_eq_of_lt hl]
theorem bval_nots (A : Nat → Bool) (m : Nat) : bval m (fun j => !A j) + bval m A + 1 = pw m := by
  induction m with
  | zero => rfl
  | succ m ih =>
    unfold bval
    rw [pw_succ]
    unfold pw at *
    cases A m <;> simp <;> omega
theorem bval_false (m : Nat) : bval m (fun _ => false) = 0 := by
  induction m with
  | zero => rfl
  | succ m ih => unfold bval; rw [ih]; simp
theorem cut_add {w a b : Nat} (hw : w ≤ 64) : cutN w ((a + b) % 18446744073709551616) = cutN w (a + b) := by
  have : pw w ∣ 18446744073709551616 := by
    have : pw w ∣ 2 ^ 64 := Nat.pow_dvd_pow 2 hw
    exact this
  unfold cutN
  exact Nat.mod_mod_of_dvd _ this
theorem cut_of64 {w x : Nat} (hw : w ≤ 64) : cutN w (x % 18446744073709551616) = cutN w x := by
  have : pw w ∣ 18446744073709551616 := by
    have : pw w ∣ 2 ^ 64 := Nat.pow_dvd_pow 2 hw
    exact this
  unfold cutN
  exact Nat.mod_mod_of_dvd _ this
/-- A difference. -/
def subN (w a b : Nat) : Nat := (a + (pw w - b % pw w)) % pw w
theorem sub_mod (A B : Nat → Bool) (m : Nat) : bval m (sumB A (fun j => !B j) true) = subN m (bval m A) (bval m B) := by
  rw [sum_mod]
  have h := bval_nots B m
  have hl := bval_lt m B
  unfold subN
  rw [Nat.mod_eq_of_lt (show bval m B < pw m from hl)]
  congr 1
  simp only [if_true]; omega
theorem cut_cut {w x : Nat} : cutN w (cutN w x) = cutN w x := Nat.mod_mod _ _
theorem u64_sub (a b : Nat) (ha : a < 18446744073709551616) (hb : b < 18446744073709551616) : IntKind.u64.wrap ((a : Int) - (b : Int)) = (((a + (18446744073709551616 - b)) % 18446744073709551616 : Nat) : Int) := by
  simp only [IntKind.wrap, IntKind.bits, IntKind.signed]; simp; omega
theorem u64_add (a b : Nat) : IntKind.u64.wrap ((a : Int) + (b : Int)) = (((a + b) % 18446744073709551616 : Nat) : Int) := by
  simp only [IntKind.wrap, IntKind.bits, IntKind.signed]; simp
theorem cut_sub64 {w a b : Nat} (hw : w ≤ 64) (hb : b < 18446744073709551616) : cutN w ((a + (18446744073709551616 - b)) % 18446744073709551616) = subN w a b := by
  rw [cut_of64 hw]
  obtain ⟨k, hk⟩ : pw w ∣ 18446744073709551616 := by
    have : pw w ∣ 2 ^ 64 := Nat.pow_dvd_pow 2 hw
    exact this
  unfold cutN subN
  have hp := pw_pos w
  have hd := Nat.div_add_mod b (pw w)
  have hm := Nat.mod_lt b (show pw w > 0 by omega)
  have e : a + (18446744073709551616 - b) = a + (pw w - b % pw w) + pw w * (k - 1 - b / pw w) := by
    have hbk : b / pw w < k := by
      rw [Nat.div_lt_iff_lt_mul (by omega), Nat.mul_comm, ← hk]; exact hb
    have h3 : pw w * (k - 1 - b / pw w) + pw w * (b / pw w) + pw w = pw w * k := by
      rw [← Nat.mul_add, ← Nat.mul_succ]; congr 1; omega
    rw [hk]; omega
  rw [e, Nat.add_mul_mod_self_left]
theorem subN_cut {w a b : Nat} : subN w (cutN w a) (cutN w b) = subN w a b := by
  unfold subN cutN
  rw [Nat.mod_mod, Nat.mod_add_mod]
theorem subN_lt (w a b : Nat) : cutN w (subN w a b) = subN w a b := Nat.mod_mod _ _
/-! ### Comparisons -/
def eqB (A B : Nat → Bool) : Nat → Bool
  | 0 => true
  | i + 1 => eqB A B i && !(A i != B i)
def lsB (A B : Nat → Bool) : Nat → Bool
  | 0 => false
  | i + 1 => ite_ (A i != B i) (B i) (lsB A B i)
theorem eqB_val (A B : Nat → Bool) (m : Nat) : eqB A B m = decide (bval m A = bval m B) := by
  induction m with
  | zero => rfl
  | succ m ih =>
    have h1 := bval_lt m A
    have h2 := bval_lt m B
    show (eqB A B m && !(A m != B m)) = _
    rw [ih, bval_succ, bval_succ]
    generalize 2 ^ m = P at *
    cases A m <;> cases B m <;> simp <;> omega
theorem lsB_val (A B : Nat → Bool) (m : Nat) : lsB A B m = decide (bval m A < bval m B) := by
  induction m with
  | zero => rfl
  | succ m ih =>
    have h1 := bval_lt m A
    have h2 := bval_lt m B
    show ite_ (A m != B m) (B m) (lsB A B m) = _
    rw [ih, bval_succ, bval_succ]
    unfold ite_
    generalize 2 ^ m = P at *
    cases A m <;> cases B m <;> simp <;> omega
def flip (m : Nat) (A : Nat → Bool) (j : Nat) : Bool := if j = m - 1 then !A j else A j
/-- A word with its sign. -/
def sgn (w x : Nat) : Int := if (cutN w x).testBit (w - 1) = true then (cutN w x : Int) - (pw w : Int) else (cutN w x : Int)
theorem flip_val {m : Nat} (A : Nat → Bool) (hm : 1 ≤ m) : (bval m (flip m A) : Int) = (if A (m - 1) = true then (bval m A : Int) - pw m else (bval m A : Int)) + pw (m - 1) := by
  obtain ⟨k, rfl⟩ : ∃ k, m = k + 1 := ⟨m - 1, by omega⟩
  unfold bval
  have e : bval k (flip (k + 1) A) = bval k A := bval_congr fun j hj => by unfold flip; rw [if_neg (by omega)]
  have e2 : flip (k + 1) A k = !A k := by unfold flip; rw [if_pos (by omega)]
  rw [e, e2, pw_succ, show k + 1 - 1 = k from rfl]
  unfold pw
  generalize 2 ^ k = P at *
  cases A k <;> simp <;> omega
theorem sless_val {m a b : Nat} {A B : Nat → Bool} (hm : 1 ≤ m) (hA : ∀ j, j < m → A j = a.testBit j) (hB : ∀ j, j < m → B j = b.testBit j) : lsB (flip m A) (flip m B) m = decide (sgn m a < sgn m b) := by
  rw [lsB_val]
  have h1 := flip_val A hm
  have h2 := flip_val B hm
  have e1 : bval m A = cutN m a := bval_cut hA
  have e2 : bval m B = cutN m b := bval_cut hB
  have t1 : A (m - 1) = (cutN m a).testBit (m - 1) := by rw [hA _ (by omega), cut_bit, decide_eq_true (by omega), Bool.true_and]
  have t2 : B (m - 1) = (cutN m b).testBit (m - 1) := by rw [hB _ (by omega), cut_bit, decide_eq_true (by omega), Bool.true_and]
  rw [e1, t1] at h1
  rw [e2, t2] at h2
  refine decide_eq_decide.2 ?_
  unfold sgn
  constructor <;> intro h <;> omega
theorem lsB_congr {A A' B B' : Nat → Bool} {m : Nat} (h : ∀ j, j < m → A j = A' j) (k : ∀ j, j < m → B j = B' j) : lsB A B m = lsB A' B' m := by rw [lsB_val, lsB_val, bval_congr h, bval_congr k]
theorem cryB_congr {A A' B B' : Nat → Bool} {c : Bool} {m : Nat} (h : ∀ j, j < m → A j = A' j) (k : ∀ j, j < m → B j = B' j) : cryB A B c m = cryB A' B' c m := by
  induction m with
  | zero => rfl
  | succ m ih =>
    show ((A m && B m) || ((A m != B m) && cryB A B c m)) = ((A' m && B' m) || ((A' m != B' m) && cryB A' B' c m))
    rw [ih (fun j hj => h j (by omega)) (fun j hj => k j (by omega)), h m (by omega), k m (by omega)]
theorem sumB_congr {A A' B B' : Nat → Bool} {c : Bool} {j : Nat} (h : ∀ i, i ≤ j → A i = A' i) (k : ∀ i, i ≤ j → B i = B' i) : sumB A B c j = sumB A' B' c j := by
  unfold sumB
  rw [cryB_congr (fun i hi => h i (by omega)) (fun i hi => k i (by omega)), h j (by omega), k j (by omega)]
theorem and1_u (x : Nat) (hx : x < 18446744073709551616) : IntKind.u64.wrap ((BitVec.ofInt 64 (x : Int) &&& BitVec.ofInt 64 1).toNat : Int) = ((x % 2 : Nat) : Int) := by
  have := and_u x 1 hx (by omega)
  rw [show ((1 : Nat) : Int) = 1 from rfl] at this
  rw [this, Nat.and_one_is_mod]
end Go.Proofs.YtnlecdpiccgdpaaV

set_option linter.unusedVariables false
set_option linter.unusedSimpArgs false
namespace Go.Proofs.YtnlecdpiccgdpaaV
open Go Go.RowKit Go.Proofs

set_option maxRecDepth 100000 in
theorem rword_ok (n mm ca : Nat) (K J A : Option Addr) (ck cj : Nat) (kn tr : List Bool) (r : List Nat) (be : Nat → Bool)  (w : World) (hK : RdW w 1 n K (boolsV kn)) (hJ : RdW w 1 n J (boolsV tr)) (hA : RdW w 1 mm A (nats r)) (hn : n ≤ 68719476736) (hall : ∀ x, x / 2 < n → kn.getD (x / 2) false = true ∧ hIs kn tr x = lt_ be x) (hfr : ∀ j, j < mm → r.getD j 0 / 2 < n) (hm2 : mm ≤ 64) : Ret Try.prog 68 [.agg #[.slice K n ck, .slice J n cj], .slice A mm ca] w fun v w' => v = .tuple #[.int .u64 ((bval mm (fun j => lt_ be (r.getD j 0)) : Nat) : Int), .bool true] ∧ Tch N0 w w' := by
  have hAc := hA
  have hlr : r.length = mm := by have := hA.1; rw [nats_length] at this; omega
  refine enter Try.func68 rfl rfl ?_
  refine W_seq ?_
  refine W_region (by kernel_rfl) ?_
  refine st (by rfl) (S_new (v := .pointer (some ⟨w.heap.size, 0, none⟩)) (ob := .cells #[.slice K n ck, .slice J n cj] 54) (by kernel_rfl) fun w1 hT2 hs3 hB4 => ?_)
  replace hB4 : Blk w1 (w.heap.size) 54 [.slice K n ck, .slice J n cj] := hB4
  have hT0 := hT2
  have hAc := hA.tch0 hT0
  refine sg [(4, .int .u64 0), (5, .bool false)] (by kernel_rfl) ?_
  refine op_nil ?_
  refine W_seq ?_
  refine W_region (by kernel_rfl) ?_
  refine sg [(6, .int .u64 0)] (by kernel_rfl) ?_
  refine op_nil ?_
  refine W_seq ?_
  refine W_seq ?_
  refine W_region (by kernel_rfl) ?_
  refine sg [(7, .int .i64 0)] (by kernel_rfl) ?_
  refine op_nil ?_
  refine W_block ?_
  refine W_loop (fun m ρ w' => ∃ (i : Nat) (ρ0 : Env), ρ = updL ρ0 [(1, .slice A mm ca), (2, .pointer (some ⟨w.heap.size, 0, none⟩)), (4, .int .u64 0), (5, .bool false), (6, .int .u64 ((bval i (fun j => lt_ be (r.getD j 0)) : Nat) : Int)), (7, .int .i64 ((i : Nat) : Int))] ∧ (i ≤ mm) ∧ Tch N0 w w' ∧ Blk w' (w.heap.size) 54 [.slice K n ck, .slice J n cj] ∧ RdW w' 1 mm A (nats r) ∧ m = mm - i) (m := mm - 0) ?_ ?_
  · refine ⟨0, _, updL_self (by kernel_rfl), by omega, hT0, hB4, hAc, rfl⟩
  · rintro m ρ w5 ⟨i, ρ, rfl, hi, hT0, hBv, hAc, rfl⟩
    refine W_seq ?_
    refine W_seq ?_
    refine W_region (by kernel_rfl) ?_
    refine sg [(10, .int .i64 ((i : Nat) : Int)), (11, .slice A mm ca), (12, .int .i64 (mm : Int)), (13, .bool (decide (((i : Nat) : Int) < (mm : Int)))), (14, .bool (decide (((i : Nat) : Int) < (mm : Int))))] (by kernel_rfl) ?_
    cases hb6 : decide (((i : Nat) : Int) < (mm : Int))
    · replace hb6 : (mm : Int) ≤ ((i : Nat) : Int) := (Int.not_lt.1 (of_decide_eq_false hb6))
      refine sg [(15, undef), (16, undef), (17, .bool false)] (by kernel_rfl) ?_
      refine op_nil ?_
      refine W_cond false (by kernel_rfl) (by kernel_rfl) (fun h => nomatch h) (fun _ => ?_)
      refine W_exit ?_
      refine X_hit ?_
      refine W_seq ?_
      refine W_fg [(1, .slice A mm ca), (2, .pointer (some ⟨w.heap.size, 0, none⟩)), (4, .int .u64 0), (5, .bool false), (6, .int .u64 ((bval i (fun j => lt_ be (r.getD j 0)) : Nat) : Int)), (7, .int .i64 ((i : Nat) : Int)), (17, .bool false)] (by kernel_rfl) fun ρ => ?_
      refine W_region (by kernel_rfl) ?_
      refine sg [(37, .int .u64 ((bval i (fun j => lt_ be (r.getD j 0)) : Nat) : Int)), (4, .int .u64 ((bval i (fun j => lt_ be (r.getD j 0)) : Nat) : Int)), (5, .bool true)] (by kernel_rfl) ?_
      refine op_nil ?_
      refine W_ret ?_
      exact ⟨_, Res_of (v := .tuple #[.int .u64 ((bval i (fun j => lt_ be (r.getD j 0)) : Nat) : Int), .bool true]) (by kernel_rfl), ⟨by rw [show i = mm by omega], hT0⟩⟩
    · replace hb6 : ((i : Nat) : Int) < (mm : Int) := (of_decide_eq_true hb6)
      refine sg [(15, .int .i64 ((i : Nat) : Int)), (16, .bool (decide (((i : Nat) : Int) < 64))), (17, .bool (decide (((i : Nat) : Int) < 64)))] (by kernel_rfl) ?_
      refine op_nil ?_
      refine W_cond (decide (((i : Nat) : Int) < 64)) (by kernel_rfl) (by kernel_rfl) (fun hc7 => ?_) (fun hc7 => ?_)
      · replace hc7 : ((i : Nat) : Int) < 64 := (of_decide_eq_true hc7)
        refine W_skip ?_
        refine W_seq ?_
        refine W_block ?_
        refine W_seq ?_
        refine W_fg [(1, .slice A mm ca), (2, .pointer (some ⟨w.heap.size, 0, none⟩)), (4, .int .u64 0), (5, .bool false), (6, .int .u64 ((bval i (fun j => lt_ be (r.getD j 0)) : Nat) : Int)), (7, .int .i64 ((i : Nat) : Int)), (17, .bool (decide (((i : Nat) : Int) < 64)))] (by kernel_rfl) fun ρ => ?_
        refine W_draw (fun w' => Blk w' (w.heap.size) 54 [.slice K n ck, .slice J n cj] ∧ RdW w' 1 mm A (nats r)) (by kernel_rfl) (by kernel_rfl) (by kernel_rfl) fun w8 hT9 hh10 => ?_
        have hT0 := hT0.t0 hT9
        have hBv := hBv.tch0 hT9
        have hAc := hA.tch0 hT0
        refine dtk [1, 2] #[false, true, true, false, false, false, false, false, false, false, false] [(22, .slice A mm ca), (23, .int .i64 ((i : Nat) : Int))] ⟨hBv, hAc⟩ (by kernel_rfl) ?_
        refine d_val (v := .agg #[.slice K n ck, .slice J n cj]) 0 (by rfl) (by kernel_rfl) (by kernel_rfl) (by kernel_rfl) (fun w' hs => by obtain ⟨hBv, hAc⟩ := hs; exact R_loadA [.slice K n ck, .slice J n cj] (by kernel_rfl) (by kernel_rfl) (by kernel_rfl) (fun k u hk => by rw [hBv.cell]; exact get_part _ 0 _ k u rfl hk)) ⟨hBv, hAc⟩ ?_
        refine d_val (v := ptrAt A i) 3 (by rfl) (by kernel_rfl) (by kernel_rfl) (by kernel_rfl) (fun w' hs => by obtain ⟨hBv, hAc⟩ := hs; exact R_indexRd1 (len := mm) (cap := ca) (k := .i64) (i := ((i : Nat) : Int)) (e := 3) i hAc (by kernel_rfl) (by kernel_rfl) (by kernel_rfl) (by kernel_rfl) rfl (by omega)) ⟨hBv, hAc⟩ ?_
        refine d_val (v := .int .i64 ((r.getD i 0 : Nat) : Int)) 4 (by rfl) (by kernel_rfl) (by kernel_rfl) (by kernel_rfl) (fun w' hs => by obtain ⟨hBv, hAc⟩ := hs; exact R_loadRd (v := .int .i64 ((r.getD i 0 : Nat) : Int)) hAc (by omega) (by kernel_rfl) (by kernel_rfl) (nats_at (l := r) (by omega))) ⟨hBv, hAc⟩ ?_
        have hfi := hfr i (by omega)
        refine d_one 5 (by kernel_rfl) (by rfl) (by kernel_rfl) (S_call (args := [.agg #[.slice K n ck, .slice J n cj], .int .i64 ((r.getD i 0 : Nat) : Int)]) (by kernel_rfl) (holds_is n K J ck cj kn tr (r.getD i 0) (lt_ be (r.getD i 0)) _ (hK.tch0 hT0) (hJ.tch0 hT0) hn (by omega) (hall _ (by omega))) ?_)
        rintro _ w11 ⟨rfl, hT12⟩
        have hT0 := hT0.t0 hT12
        have hBv := hBv.tch0 hT12
        have hAc := hA.tch0 hT0
        refine ⟨⟨hBv, hAc⟩, ?_⟩
        refine dtk [6, 7, 8, 9, 10] #[true, true, true, true, true, true, true, true, true, true, true] [(20, .tuple #[.bool (lt_ be (r.getD i 0)), .bool true]), (27, .bool (lt_ be (r.getD i 0))), (28, .bool true), (8, .bool (lt_ be (r.getD i 0))), (9, .bool true)] ⟨hBv, hAc⟩ (by kernel_rfl) ?_
        refine d_done (by kernel_rfl) ?_
        refine W_seq ?_
        refine W_seq ?_
        refine W_fg [(1, .slice A mm ca), (2, .pointer (some ⟨w.heap.size, 0, none⟩)), (4, .int .u64 0), (5, .bool false), (6, .int .u64 ((bval i (fun j => lt_ be (r.getD j 0)) : Nat) : Int)), (7, .int .i64 ((i : Nat) : Int)), (8, .bool (lt_ be (r.getD i 0))), (9, .bool true), (17, .bool (decide (((i : Nat) : Int) < 64)))] (by kernel_rfl) fun ρ => ?_
        refine W_region (by kernel_rfl) ?_
        refine sg [(29, .bool true), (30, .bool false)] (by kernel_rfl) ?_
        refine op_nil ?_
        refine W_cond false (by kernel_rfl) (by kernel_rfl) (fun h => nomatch h) (fun _ => ?_)
        refine W_skip ?_
        refine W_seq ?_
        refine W_region (by kernel_rfl) ?_
        refine sg [(31, .bool (lt_ be (r.getD i 0)))] (by kernel_rfl) ?_
        refine op_nil ?_
        refine W_cond (lt_ be (r.getD i 0)) (by kernel_rfl) (by kernel_rfl) (fun hc13 => ?_) (fun hc13 => ?_)
        · replace hc13 : lt_ be (r.getD i 0) = true := (hc13)
          refine W_region (by kernel_rfl) ?_
          refine sg [(32, .int .u64 ((bval i (fun j => lt_ be (r.getD j 0)) : Nat) : Int)), (33, .int .i64 ((i : Nat) : Int)), (34, .int .u64 (IntKind.u64.wrap ((i : Nat) : Int)))] (by kernel_rfl) ?_
          rw [show IntKind.u64.wrap ((i : Nat) : Int) = ((i : Nat) : Int) from wrap_u64 (by omega) (by omega)]
          refine stv (v := .int .u64 (((if true = true then pw i else 0 : Nat)) : Int)) (by kernel_rfl) (R_shlB (k2 := .u64) true i (by kernel_rfl) (by kernel_rfl) (by omega)) ?_
          refine sg [(36, .int .u64 (IntKind.u64.wrap (BitVec.ofInt 64 ((bval i (fun j => lt_ be (r.getD j 0)) : Nat) : Int) ||| BitVec.ofInt 64 (((if true = true then pw i else 0 : Nat)) : Int)).toNat))] (by kernel_rfl) ?_
          rw [bvalor_u i (fun j => lt_ be (r.getD j 0)) true (by omega) (by symm; assumption)]
          refine sg [(6, .int .u64 ((bval (i + 1) (fun j => lt_ be (r.getD j 0)) : Nat) : Int))] (by kernel_rfl) ?_
          refine op_nil ?_
          refine W_fg [(1, .slice A mm ca), (2, .pointer (some ⟨w.heap.size, 0, none⟩)), (4, .int .u64 0), (5, .bool false), (6, .int .u64 ((bval (i + 1) (fun j => lt_ be (r.getD j 0)) : Nat) : Int)), (7, .int .i64 ((i : Nat) : Int)), (8, .bool (lt_ be (r.getD i 0))), (9, .bool true), (17, .bool (decide (((i : Nat) : Int) < 64))), (30, .bool false), (31, .bool (lt_ be (r.getD i 0)))] (by kernel_rfl) fun ρ => ?_
          refine W_region (by kernel_rfl) ?_
          refine sg [(18, .int .i64 ((i : Nat) : Int)), (19, .int .i64 (IntKind.i64.wrap (((i : Nat) : Int) + 1)))] (by kernel_rfl) ?_
          rw [show IntKind.i64.wrap (((i : Nat) : Int) + 1) = ((i : Nat) : Int) + 1 from wrap_i64 (by omega) (by omega)]
          refine fixR (y := ((i + 1 : Nat) : Int)) (by omega) ?_
          refine sg [(7, .int .i64 ((i + 1 : Nat) : Int))] (by kernel_rfl) ?_
          refine op_nil ?_
          refine ⟨_, ?_, i + 1, _, updL_self (by kernel_rfl), ?_, hT0, hBv, hAc, rfl⟩
          · omega
          · omega
        · replace hc13 : lt_ be (r.getD i 0) = false := (hc13)
          refine W_skip ?_
          rw [show bval i (fun j => lt_ be (r.getD j 0)) = bval (i + 1) (fun j => lt_ be (r.getD j 0)) from bval_not (by assumption)]
          refine W_region (by kernel_rfl) ?_
          refine sg [(18, .int .i64 ((i : Nat) : Int)), (19, .int .i64 (IntKind.i64.wrap (((i : Nat) : Int) + 1)))] (by kernel_rfl) ?_
          rw [show IntKind.i64.wrap (((i : Nat) : Int) + 1) = ((i : Nat) : Int) + 1 from wrap_i64 (by omega) (by omega)]
          refine fixR (y := ((i + 1 : Nat) : Int)) (by omega) ?_
          refine sg [(7, .int .i64 ((i + 1 : Nat) : Int))] (by kernel_rfl) ?_
          refine op_nil ?_
          refine ⟨_, ?_, i + 1, _, updL_self (by kernel_rfl), ?_, hT0, hBv, hAc, rfl⟩
          · omega
          · omega
      · replace hc7 : 64 ≤ ((i : Nat) : Int) := (Int.not_lt.1 (of_decide_eq_false hc7))
        refine W_exit ?_
        refine X_hit ?_
        refine W_seq ?_
        refine W_fg [(1, .slice A mm ca), (2, .pointer (some ⟨w.heap.size, 0, none⟩)), (4, .int .u64 0), (5, .bool false), (6, .int .u64 ((bval i (fun j => lt_ be (r.getD j 0)) : Nat) : Int)), (7, .int .i64 ((i : Nat) : Int)), (17, .bool (decide (((i : Nat) : Int) < 64)))] (by kernel_rfl) fun ρ => ?_
        refine W_region (by kernel_rfl) ?_
        refine sg [(37, .int .u64 ((bval i (fun j => lt_ be (r.getD j 0)) : Nat) : Int)), (4, .int .u64 ((bval i (fun j => lt_ be (r.getD j 0)) : Nat) : Int)), (5, .bool true)] (by kernel_rfl) ?_
        refine op_nil ?_
        refine W_ret ?_
        exact ⟨_, Res_of (v := .tuple #[.int .u64 ((bval i (fun j => lt_ be (r.getD j 0)) : Nat) : Int), .bool true]) (by kernel_rfl), ⟨by rw [show i = mm by omega], hT0⟩⟩

set_option maxRecDepth 100000 in
theorem is_ok (n mm ca : Nat) (K J A : Option Addr) (ck cj : Nat) (kn tr : List Bool) (r : List Nat) (be : Nat → Bool) (x : Nat) (w : World) (hK : RdW w 1 n K (boolsV kn)) (hJ : RdW w 1 n J (boolsV tr)) (hA : RdW w 1 mm A (nats r)) (hn : n ≤ 68719476736) (hall : ∀ x, x / 2 < n → kn.getD (x / 2) false = true ∧ hIs kn tr x = lt_ be x) (hfr : ∀ j, j < mm → r.getD j 0 / 2 < n) (hm2 : mm ≤ 64) (hm1 : 1 ≤ mm) (hx : x < 18446744073709551616) (hv : ∀ j, j < mm → lt_ be (r.getD j 0) = x.testBit j) : Ret Try.prog 34 [.agg #[.slice K n ck, .slice J n cj], .slice A mm ca, .int .i64 ((mm : Nat) : Int), .int .u64 ((x : Nat) : Int)] w fun v w' => v = .int .i64 1 ∧ Tch N0 w w' := by
  have hbv : bval mm (fun j => lt_ be (r.getD j 0)) = cutN mm x := bval_cut hv
  refine enter Try.func34 rfl rfl ?_
  refine W_seq ?_
  refine W_region (by kernel_rfl) ?_
  refine st (by rfl) (S_new (v := .pointer (some ⟨w.heap.size, 0, none⟩)) (ob := .cells #[.slice K n ck, .slice J n cj] 54) (by kernel_rfl) fun w1 hT2 hs3 hB4 => ?_)
  replace hB4 : Blk w1 (w.heap.size) 54 [.slice K n ck, .slice J n cj] := hB4
  have hT0 := hT2
  refine sg [(8, .int .i64 0)] (by kernel_rfl) ?_
  refine op_nil ?_
  refine W_seq ?_
  refine W_region (by kernel_rfl) ?_
  refine st (by rfl) (S_val (v := .agg #[.slice K n ck, .slice J n cj]) (R_loadA [.slice K n ck, .slice J n cj] (by kernel_rfl) (by kernel_rfl) (by kernel_rfl) (fun k u hk => by rw [hB4.cell]; exact get_part _ 0 _ k u rfl hk)) ?_)
  refine sg [(13, .slice A mm ca)] (by kernel_rfl) ?_
  refine st (by rfl) (S_call (args := [.agg #[.slice K n ck, .slice J n cj], .slice A mm ca]) (by kernel_rfl) (rword_ok n mm ca K J A ck cj kn tr r be _ (hK.tch0 hT0) (hJ.tch0 hT0) (hA.tch0 hT0) hn hall hfr hm2) ?_)
  rintro _ w5 ⟨rfl, hT6⟩
  have hT0 := hT0.t0 hT6
  have hB4 := hB4.tch0 hT6
  refine sg [(11, .tuple #[.int .u64 ((bval mm (fun j => lt_ be (r.getD j 0)) : Nat) : Int), .bool true]), (15, .int .u64 ((bval mm (fun j => lt_ be (r.getD j 0)) : Nat) : Int)), (16, .bool true), (9, .int .u64 ((bval mm (fun j => lt_ be (r.getD j 0)) : Nat) : Int)), (10, .bool true)] (by kernel_rfl) ?_
  refine op_nil ?_
  refine W_seq ?_
  refine W_seq ?_
  refine W_fg [(0, .agg #[.slice K n ck, .slice J n cj]), (1, .slice A mm ca), (2, .int .i64 ((mm : Nat) : Int)), (3, .int .u64 ((x : Nat) : Int)), (4, .pointer (some ⟨w.heap.size, 0, none⟩)), (8, .int .i64 0), (9, .int .u64 ((bval mm (fun j => lt_ be (r.getD j 0)) : Nat) : Int)), (10, .bool true)] (by kernel_rfl) fun ρ => ?_
  refine W_region (by kernel_rfl) ?_
  refine sg [(17, .slice A mm ca), (18, .int .i64 (mm : Int)), (19, .int .i64 ((mm : Nat) : Int)), (20, .bool ((mm : Int) != ((mm : Nat) : Int))), (21, .bool ((mm : Int) != ((mm : Nat) : Int)))] (by kernel_rfl) ?_
  cases hb7 : (mm : Int) != ((mm : Nat) : Int)
  · replace hb7 : (mm : Int) = ((mm : Nat) : Int) := (bne_eq_false_iff_eq.1 hb7)
    refine sg [(22, .bool true), (23, .bool false), (24, .bool false), (25, .bool false), (26, .int .u64 ((bval mm (fun j => lt_ be (r.getD j 0)) : Nat) : Int)), (27, .int .i64 ((mm : Nat) : Int)), (28, .int .u64 ((x : Nat) : Int))] (by kernel_rfl) ?_
    refine st (by kernel_rfl) (S_call (args := [.int .i64 ((mm : Nat) : Int), .int .u64 ((x : Nat) : Int)]) (by kernel_rfl) (rcut_ok mm x _ (by omega) (by omega) (by first | omega | exact bval_u (by omega))) ?_)
    rintro _ w8 ⟨rfl, hT9⟩
    have hT0 := hT0.t0 hT9
    have hB4 := hB4.tch0 hT9
    have hcl10 := cutN_lt mm x
    refine sg [(30, .bool (((bval mm (fun j => lt_ be (r.getD j 0)) : Nat) : Int) != ((cutN mm x : Nat) : Int))), (31, .bool (((bval mm (fun j => lt_ be (r.getD j 0)) : Nat) : Int) != ((cutN mm x : Nat) : Int)))] (by kernel_rfl) ?_
    refine op_nil ?_
    refine W_cond (((bval mm (fun j => lt_ be (r.getD j 0)) : Nat) : Int) != ((cutN mm x : Nat) : Int)) (by kernel_rfl) (by kernel_rfl) (fun hc11 => ?_) (fun hc11 => ?_)
    · replace hc11 : ((bval mm (fun j => lt_ be (r.getD j 0)) : Nat) : Int) ≠ ((cutN mm x : Nat) : Int) := (bne_iff_ne.1 hc11)
      exfalso; omega
    · replace hc11 : ((bval mm (fun j => lt_ be (r.getD j 0)) : Nat) : Int) = ((cutN mm x : Nat) : Int) := (bne_eq_false_iff_eq.1 hc11)
      refine W_skip ?_
      refine W_seq ?_
      refine W_fg [(0, .agg #[.slice K n ck, .slice J n cj]), (1, .slice A mm ca), (2, .int .i64 ((mm : Nat) : Int)), (3, .int .u64 ((x : Nat) : Int)), (4, .pointer (some ⟨w.heap.size, 0, none⟩)), (8, .int .i64 0), (9, .int .u64 ((bval mm (fun j => lt_ be (r.getD j 0)) : Nat) : Int)), (10, .bool true), (31, .bool (((bval mm (fun j => lt_ be (r.getD j 0)) : Nat) : Int) != ((cutN mm x : Nat) : Int)))] (by kernel_rfl) fun ρ => ?_
      refine W_region (by kernel_rfl) ?_
      refine sg [(8, .int .i64 1)] (by kernel_rfl) ?_
      refine op_nil ?_
      refine W_ret ?_
      exact ⟨_, Res_of (v := .int .i64 1) (by kernel_rfl), ⟨rfl, hT0⟩⟩
  · replace hb7 : (mm : Int) ≠ ((mm : Nat) : Int) := (bne_iff_ne.1 hb7)
    exfalso; omega

set_option maxRecDepth 100000 in
theorem close_ok (F : Nat → Prop) (p n hm hcp : Nat) (cs : List (List Nat)) (I : Nat → Prop) (H : Option Addr) (hol : List Nat) (t : Nat → Bool) (w : World) (hG : GObj F w p n cs I) (hn : n ≤ 68719476736) (hH : RdW w 1 hm H (nats hol)) (hin : ∀ v, I v → ∃ x, x ∈ hol ∧ x / 2 = v) (hfh : ∀ x, x ∈ hol → I (x / 2) ∧ t (x / 2) = !decide (x % 2 = 1)) : Ret Try.prog 32 [.pointer (some ⟨p, 0, none⟩), .slice H hm hcp] w fun v w' => ∃ K J ck cj kn tr b, v = .tuple #[.agg #[.slice K n ck, .slice J n cj], .int .i64 1] ∧ RdW w' 1 n K (boolsV kn) ∧ RdW w' 1 n J (boolsV tr) ∧ Mod cs b ∧ (∀ v, I v → b v = t v) ∧ (∀ x, x / 2 < n → kn.getD (x / 2) false = true ∧ hIs kn tr x = lt_ b x) ∧ Tch N0 w w' := by
  have hpos := hG.2.pos
  refine enter Try.func32 rfl rfl ?_
  refine W_seq ?_
  refine W_region (by kernel_rfl) ?_
  have hlt_ := hG.1.lt
  refine st (by rfl) (S_new (v := .pointer (some ⟨w.heap.size, 0, none⟩)) (ob := .cells #[.slice none 0 0, .slice none 0 0] 54) (by kernel_rfl) fun w1 hT2 hs3 hB4 => ?_)
  replace hB4 : Blk w1 (w.heap.size) 54 [.slice none 0 0, .slice none 0 0] := hB4
  have hT0 := hT2
  have hG := hG.tch0 hT2
  have nF_hB4 : ¬ F (w.heap.size) := fun e => by have := hlt_ _ e; omega
  refine sg [(5, .int .i64 0)] (by kernel_rfl) ?_
  refine op_nil ?_
  refine W_seq ?_
  refine W_region (by kernel_rfl) ?_
  refine sg [(9, .pointer (some ⟨p, 0, none⟩))] (by kernel_rfl) ?_
  refine st (by rfl) (S_call (args := [.pointer (some ⟨p, 0, none⟩)]) (by kernel_rfl) (vars_ok F p n cs I _ hG) ?_)
  rintro _ w5 ⟨rfl, hT6⟩
  have hT0 := hT0.t0 hT6
  have hG := hG.tch0 hT6
  have hB4 := hB4.tch0 hT6
  refine sg [(11, .slice H hm hcp), (12, .pointer (some ⟨p, 0, none⟩))] (by kernel_rfl) ?_
  refine st (by rfl) (S_call (args := [.pointer (some ⟨p, 0, none⟩)]) (by kernel_rfl) (clauses_ok F p n cs I _ hG (by omega)) ?_)
  rintro _ w7 ⟨L9, lcp10, Lv11, rfl, hClr, hClc, hT8⟩
  have hT0 := hT0.t0 hT8
  have hG := hG.tch0 hT8
  have hB4 := hB4.tch0 hT8
  refine st (by rfl) (S_call (args := [.int .i64 ((n : Nat) : Int), .slice H hm hcp, .slice L9 cs.length lcp10]) (by kernel_rfl) (runG F p n hm hcp cs.length lcp10 cs I H L9 hol Lv11 t _ hG (hH.tch0 hT0) hClr hClc rfl (by omega) hin hfh) ?_)
  rintro _ w12 ⟨K14, J15, ck16, cj17, kn18, tr19, be20, rfl, hK0, hJ0, hmod, hbt, hall, hT13⟩
  have hT0 := hT0.t0 hT13
  have hG := hG.tch0 hT13
  have hB4 := hB4.tch0 hT13
  have hK := hK0
  have hJ := hJ0
  refine sg [(8, .tuple #[.agg #[.slice K14 n ck16, .slice J15 n cj17], .bool true]), (15, .agg #[.slice K14 n ck16, .slice J15 n cj17]), (16, .bool true)] (by kernel_rfl) ?_
  have hlt_ := hG.1.lt
  have z25 := hT0.size
  have l26 := hB4.lt
  refine st (by rfl) (S_new (v := .pointer (some ⟨w12.heap.size, 0, none⟩)) (ob := .cells #[.slice none 0 0, .slice none 0 0] 54) (by kernel_rfl) fun w21 hT22 hs23 hB24 => ?_)
  replace hB24 : Blk w21 (w12.heap.size) 54 [.slice none 0 0, .slice none 0 0] := hB24
  have hT0 := hT0.t0 hT22
  have hG := hG.tch0 hT22
  have hB4 := hB4.tch0 hT22
  have hK := hK.tch0 hT22
  have hJ := hJ.tch0 hT22
  have nF_hB24 : ¬ F (w12.heap.size) := fun e => by have := hlt_ _ e; omega
  refine st (by rfl) (S_storeA (b := w12.heap.size) (j := 0) (cs := [.slice K14 n ck16, .slice J15 n cj17]) (by kernel_rfl) (by kernel_rfl) (by kernel_rfl) (by simp [oneV]) hB24 (by simp) fun w27 hT28 hs29 hB24' => ?_)
  have hT0 := (hT0).then hT28 (fun c e => by have : c = w12.heap.size := e; omega)
  have hG := hG.tchS hT28 (fun c e q => by cases e; exact nF_hB24 q)
  have hB4 := hB4.tch hT28 (fun e => by have : w.heap.size = w12.heap.size := e; omega)
  have hK := hK.tchS hT28 (fun c hc e => hK.ne_sl hpos hB24 c hc e)
  have hJ := hJ.tchS hT28 (fun c hc e => hJ.ne_sl hpos hB24 c hc e)
  replace hB24 : Blk w27 w12.heap.size 54 [.slice K14 n ck16, .slice J15 n cj17] := hB24'
  refine sg [(7, .bool true)] (by kernel_rfl) ?_
  refine op_nil ?_
  refine W_seq ?_
  refine W_seq ?_
  refine W_fg [(0, .pointer (some ⟨p, 0, none⟩)), (1, .slice H hm hcp), (4, .pointer (some ⟨w.heap.size, 0, none⟩)), (5, .int .i64 0), (6, .pointer (some ⟨w12.heap.size, 0, none⟩)), (7, .bool true)] (by kernel_rfl) fun ρ => ?_
  refine W_region (by kernel_rfl) ?_
  refine sg [(17, .bool true), (18, .bool false)] (by kernel_rfl) ?_
  refine op_nil ?_
  refine W_cond false (by kernel_rfl) (by kernel_rfl) (fun h => nomatch h) (fun _ => ?_)
  refine W_skip ?_
  refine W_seq ?_
  refine W_region (by kernel_rfl) ?_
  refine st (by rfl) (S_val (v := .agg #[.slice K14 n ck16, .slice J15 n cj17]) (R_loadA [.slice K14 n ck16, .slice J15 n cj17] (by kernel_rfl) (by kernel_rfl) (by kernel_rfl) (fun k u hk => by rw [hB24.cell]; exact get_part _ 0 _ k u rfl hk)) ?_)
  refine st (by rfl) (S_storeA (b := w.heap.size) (j := 0) (cs := [.slice K14 n ck16, .slice J15 n cj17]) (by kernel_rfl) (by kernel_rfl) (by kernel_rfl) (by simp [oneV]) hB4 (by simp) fun w30 hT31 hs32 hB4' => ?_)
  have hT0 := (hT0).then hT31 (fun c e => by have : c = w.heap.size := e; omega)
  have hG := hG.tchS hT31 (fun c e q => by cases e; exact nF_hB4 q)
  have hK := hK.tchS hT31 (fun c hc e => hK.ne_sl hpos hB4 c hc e)
  have hJ := hJ.tchS hT31 (fun c hc e => hJ.ne_sl hpos hB4 c hc e)
  have hB24 := hB24.tch hT31 (fun e => by have : w12.heap.size = w.heap.size := e; omega)
  replace hB4 : Blk w30 w.heap.size 54 [.slice K14 n ck16, .slice J15 n cj17] := hB4'
  refine sg [(5, .int .i64 1)] (by kernel_rfl) ?_
  refine op_nil ?_
  refine W_ret ?_
  exact ⟨_, Res_cell1 (b := w.heap.size) (cs := [.slice K14 n ck16, .slice J15 n cj17]) (by rfl) (by kernel_rfl) (by kernel_rfl) (by kernel_rfl) hB4 (by kernel_rfl) (by kernel_rfl), ⟨_, _, _, _, _, _, _, rfl, hK, hJ, hmod, hbt, hall, hT0⟩⟩

end Go.Proofs.YtnlecdpiccgdpaaV
