/- Walks of functions of the program and of the document's texts. The conditions stand with each theorem. -/
import Derived.Test.YtlbadnpgmkobdaaJRrang58x1
import Derived.Test.YtlbadnpgmkobdaaJRrang58x1
import Derived.Test.YtlbadnpgmkobdaaProg
import Derived.Test.YtlbadnpgmkobdaaJRrang58x6
import Derived.Test.YtlbadnpgmkobdaaJRrang58x6
set_option linter.unusedVariables false
set_option linter.unusedSimpArgs false
namespace Go.Proofs.YtlbadnpgmkobdaaV
open Go Go.RowKit Go.Proofs

def lenTab : ByteArray := ⟨#[0, 1, 2, 2, 3, 3, 3, 3, 4, 4, 4, 4, 4, 4, 4, 4, 5, 5, 5, 5, 5, 5, 5, 5, 5, 5, 5, 5, 5, 5, 5, 5, 6, 6, 6, 6, 6, 6, 6, 6, 6, 6, 6, 6, 6, 6, 6, 6, 6, 6, 6, 6, 6, 6, 6, 6, 6, 6, 6, 6, 6, 6, 6, 6, 7, 7, 7, 7, 7, 7, 7, 7, 7, 7, 7, 7, 7, 7, 7, 7, 7, 7, 7, 7, 7, 7, 7, 7, 7, 7, 7, 7, 7, 7, 7, 7, 7, 7, 7, 7, 7, 7, 7, 7, 7, 7, 7, 7, 7, 7, 7, 7, 7, 7, 7, 7, 7, 7, 7, 7, 7, 7, 7, 7, 7, 7, 7, 7, 8, 8, 8, 8, 8, 8, 8, 8, 8, 8, 8, 8, 8, 8, 8, 8, 8, 8, 8, 8, 8, 8, 8, 8, 8, 8, 8, 8, 8, 8, 8, 8, 8, 8, 8, 8, 8, 8, 8, 8, 8, 8, 8, 8, 8, 8, 8, 8, 8, 8, 8, 8, 8, 8, 8, 8, 8, 8, 8, 8, 8, 8, 8, 8, 8, 8, 8, 8, 8, 8, 8, 8, 8, 8, 8, 8, 8, 8, 8, 8, 8, 8, 8, 8, 8, 8, 8, 8, 8, 8, 8, 8, 8, 8, 8, 8, 8, 8, 8, 8, 8, 8, 8, 8, 8, 8, 8, 8, 8, 8, 8, 8, 8, 8, 8, 8, 8, 8, 8, 8, 8, 8, 8, 8, 8, 8, 8, 8]⟩
theorem lenTab_all : (List.range 256).all (fun n => lenTab[n]? == some (UInt8.ofNat (bl n)) && decide ((UInt8.ofNat (bl n)).toNat = bl n)) = true := by kernel_rfl
theorem lenTab_at {n : Nat} (h : n < 256) : ∃ b : UInt8, lenTab[n]? = some b ∧ b.toNat = bl n := by
 have := List.all_eq_true.1 lenTab_all n (List.mem_range.2 h)
 simp only [Bool.and_eq_true, beq_iff_eq, decide_eq_true_eq] at this
 exact ⟨_, this.1, this.2⟩
section
variable {ρ : Env} {w : World}
theorem R_lenTab {d : Option Tmp} {y x : Operand} {ty : TypeId} {pos : String} {af : Array Edge} {g : Option (Nat × Bool)} (n : Nat) (hy : evR ρ y = .string lenTab) (hx : evR ρ x = .int .u8 ((n : Nat) : Int)) (h : n < 256) :
  (execOp (evR ρ) ⟨d, .index 9 y x, ty, pos, af, g⟩).run Try.prog w = .ok (.value (.int .u8 ((bl n : Nat) : Int))) w := by
 obtain ⟨b, h1, h2⟩ := lenTab_at h
 simp only [execOp, hx, hy]
 simp [Instr.index, asIntOf, run_underlying Try.underlying9, h1, h2]
theorem keyT113 : Try.prog.keyTypeAt 3 113 = true := by kernel_rfl
theorem tiled113 : Try.prog.tiled 3 113 = true := by kernel_rfl
theorem cells113 : Try.prog.cellsOf 113 = 2 := by kernel_rfl
theorem keyT113' : Try.prog.keyType 113 = true := by kernel_rfl
theorem key_law113 : Go.Maps.Keyed Try.prog 113 := .of_law (Go.deep_law (m := 3) (by omega) keyT113 tiled113 (by rw [Try.underlying113]))
set_option maxRecDepth 100000 in
theorem key_sp {x : K} (h1 : x.1 < 18446744073709551616) (h2 : x.2 < 18446744073709551616) : ∃ l, keyOf Try.prog 113 (kV x) = some l := by
 have k0 := wf_u64 (x := ((x.1 : Nat) : Int)) (by unfold u64; omega)
 have k1 := wf_u64 (x := ((x.2 : Nat) : Int)) (by unfold u64; omega)
 obtain ⟨m, hm⟩ : ∃ m, Try.prog.types.size = m + 1 := ⟨_, rfl⟩
 have hf : (kV x).formed Try.prog 113 = true := by
  unfold kV Value.formed
  rw [Try.underlying113]
  simp [cells113]
 unfold keyOf
 rw [Try.underlying113]
 simp only [keyT113', hf, Bool.and_self, if_true, hm]
 unfold Program.keyLits
 rw [Try.underlying113]
 simp [kV, cells113, cells30, Value.cells, lits30, k0, k1]
theorem kV_inj {x y : K} (h : kV x = kV y) : x = y := by
 unfold kV at h
 injection h with h
 have h2 := congrArg Array.toList h
 simp only [List.cons.injEq, Value.int.injEq, true_and, and_true] at h2
 exact Prod.ext (by omega) (by omega)
theorem eqg113 : Try.prog.eqGuardType Try.prog.depth 113 = false := by kernel_rfl
set_option maxRecDepth 100000 in
theorem equal_sp (w : World) {x y : K} (h1 : x.1 < 18446744073709551616) (h2 : x.2 < 18446744073709551616) (h3 : y.1 < 18446744073709551616) (h4 : y.2 < 18446744073709551616) : (Op.equal 113 (kV x) (kV y)).run Try.prog w = .ok (decide (x = y)) w := by
 obtain ⟨l1, q1⟩ := key_sp h1 h2
 obtain ⟨l2, q2⟩ := key_sp h3 h4
 obtain ⟨r, hr, hi⟩ := Go.run_equal_deep w (m := 3) (by omega) keyT113 (by rw [Try.underlying113]) q1 q2
 rw [hr]
 congr 1
 have : r = true ↔ x = y := hi.trans ⟨fun e => kV_inj (key_law113.inj q1 (e ▸ q2)), fun e => by subst e; rw [q1] at q2; injection q2⟩
 cases r <;> simp_all
set_option maxRecDepth 100000 in
theorem R_eqSp {d : Option Tmp} {u : TypeId} {x y : Operand} {ty : TypeId} {pos : String} {af : Array Edge} {g : Option (Nat × Bool)} (a b : K) (hx : evR ρ x = kV a) (hy : evR ρ y = kV b) (h1 : a.1 < 18446744073709551616) (h2 : a.2 < 18446744073709551616) (h3 : b.1 < 18446744073709551616) (h4 : b.2 < 18446744073709551616) :
  (execOp (evR ρ) ⟨d, .binOp .eql 113 x y u, ty, pos, af, g⟩).run Try.prog w = .ok (.value (.bool (decide (a = b)))) w := by
 have e := equal_sp w h1 h2 h3 h4
 simp only [execOp, hx, hy]
 obtain ⟨c1, q1⟩ : ∃ c, kV a = .agg c := ⟨_, rfl⟩
 obtain ⟨c2, q2⟩ : ∃ c, kV b = .agg c := ⟨_, rfl⟩
 rw [q1, q2] at e ⊢
 simp [eqGuard, run_underlying Try.underlying113, eqg113, binOp, e]
end
theorem min_u (a b : Nat) : (if ((b : Nat) : Int) < ((a : Nat) : Int) then ((b : Nat) : Int) else ((a : Nat) : Int)) = ((min a b : Nat) : Int) := by split <;> omega
theorem max_u (a b : Nat) : (if ((a : Nat) : Int) < ((b : Nat) : Int) then ((b : Nat) : Int) else ((a : Nat) : Int)) = ((max a b : Nat) : Int) := by split <;> omega
theorem min_lt64 {a b : Nat} (h : a < 18446744073709551616) : min a b < 18446744073709551616 := by omega
theorem max_lt64 {a b : Nat} (h : a < 18446744073709551616) (h2 : b < 18446744073709551616) : max a b < 18446744073709551616 := by omega

set_option maxRecDepth 100000 in
theorem mul64_ok (x y : Nat) (w : World) (hx : x < 18446744073709551616) (hy : y < 18446744073709551616) : Ret Try.prog 109 [.int .u64 ((x : Nat) : Int), .int .u64 ((y : Nat) : Int)] w fun v w' => v = .tuple #[.int .u64 ((x * y / 18446744073709551616 : Nat) : Int), .int .u64 ((x * y % 18446744073709551616 : Nat) : Int)] ∧ Tch N0 w w' := by
 refine enter Try.func109 rfl rfl ?_
 refine zQ ?_
 refine zS [(4, .int .u64 0), (5, .int .u64 0)] ?_
 refine op_nil ?_
 refine zQ ?_
 refine zS [(14, .int .u64 ((x : Nat) : Int)), (15, .int .u64 (IntKind.u64.wrap (BitVec.ofInt 64 ((x : Nat) : Int) &&& BitVec.ofInt 64 4294967295).toNat))] ?_
 rw [show IntKind.u64.wrap (BitVec.ofInt 64 ((x : Nat) : Int) &&& BitVec.ofInt 64 4294967295).toNat = ((x &&& 4294967295 : Nat) : Int) from and_u x 4294967295 hx (by omega)]
 have hu1 : x &&& 4294967295 < 18446744073709551616 := and_lt hx
 refine zS [(6, .int .u64 ((x &&& 4294967295 : Nat) : Int))] ?_
 refine op_nil ?_
 refine zQ ?_
 refine zS [(16, .int .u64 ((x : Nat) : Int))] ?_
 refine stv (v := .int .u64 ((x / pw 32 : Nat) : Int)) (by rfl) (R_shrP (k2 := .u64) x 32 (by kernel_rfl) (by kernel_rfl) (by omega)) ?_
 have hu2 : x / pw 32 < 18446744073709551616 := div_lt64 hx
 refine zS [(7, .int .u64 ((x / pw 32 : Nat) : Int))] ?_
 refine op_nil ?_
 refine W_seq ?_
 refine zF [(0, .int .u64 ((x : Nat) : Int)), (1, .int .u64 ((y : Nat) : Int)), (4, .int .u64 0), (5, .int .u64 0), (6, .int .u64 ((x &&& 4294967295 : Nat) : Int)), (7, .int .u64 ((x / pw 32 : Nat) : Int))] fun ρ => ?_
 refine zR ?_
 refine zS [(18, .int .u64 ((y : Nat) : Int)), (19, .int .u64 (IntKind.u64.wrap (BitVec.ofInt 64 ((y : Nat) : Int) &&& BitVec.ofInt 64 4294967295).toNat))] ?_
 rw [show IntKind.u64.wrap (BitVec.ofInt 64 ((y : Nat) : Int) &&& BitVec.ofInt 64 4294967295).toNat = ((y &&& 4294967295 : Nat) : Int) from and_u y 4294967295 hy (by omega)]
 have hu3 : y &&& 4294967295 < 18446744073709551616 := and_lt hy
 refine zS [(8, .int .u64 ((y &&& 4294967295 : Nat) : Int))] ?_
 refine op_nil ?_
 refine zQ ?_
 refine zS [(20, .int .u64 ((y : Nat) : Int))] ?_
 refine stv (v := .int .u64 ((y / pw 32 : Nat) : Int)) (by rfl) (R_shrP (k2 := .u64) y 32 (by kernel_rfl) (by kernel_rfl) (by omega)) ?_
 have hu4 : y / pw 32 < 18446744073709551616 := div_lt64 hy
 refine zS [(9, .int .u64 ((y / pw 32 : Nat) : Int))] ?_
 refine op_nil ?_
 refine zQ ?_
 refine zS [(22, .int .u64 ((x &&& 4294967295 : Nat) : Int)), (23, .int .u64 ((y &&& 4294967295 : Nat) : Int)), (24, .int .u64 (IntKind.u64.wrap (((x &&& 4294967295 : Nat) : Int) * ((y &&& 4294967295 : Nat) : Int))))] ?_
 rw [show IntKind.u64.wrap (((x &&& 4294967295 : Nat) : Int) * ((y &&& 4294967295 : Nat) : Int)) = (((x &&& 4294967295) * (y &&& 4294967295) % 18446744073709551616 : Nat) : Int) from u64_mul (x &&& 4294967295) (y &&& 4294967295)]
 have hu5 : (x &&& 4294967295) * (y &&& 4294967295) % 18446744073709551616 < 18446744073709551616 := mod_lt64 _
 refine zS [(10, .int .u64 (((x &&& 4294967295) * (y &&& 4294967295) % 18446744073709551616 : Nat) : Int))] ?_
 refine op_nil ?_
 refine W_seq ?_
 refine zF [(0, .int .u64 ((x : Nat) : Int)), (1, .int .u64 ((y : Nat) : Int)), (4, .int .u64 0), (5, .int .u64 0), (6, .int .u64 ((x &&& 4294967295 : Nat) : Int)), (7, .int .u64 ((x / pw 32 : Nat) : Int)), (8, .int .u64 ((y &&& 4294967295 : Nat) : Int)), (9, .int .u64 ((y / pw 32 : Nat) : Int)), (10, .int .u64 (((x &&& 4294967295) * (y &&& 4294967295) % 18446744073709551616 : Nat) : Int))] fun ρ => ?_
 refine zR ?_
 refine zS [(25, .int .u64 ((x / pw 32 : Nat) : Int)), (26, .int .u64 ((y &&& 4294967295 : Nat) : Int)), (27, .int .u64 (IntKind.u64.wrap (((x / pw 32 : Nat) : Int) * ((y &&& 4294967295 : Nat) : Int))))] ?_
 rw [show IntKind.u64.wrap (((x / pw 32 : Nat) : Int) * ((y &&& 4294967295 : Nat) : Int)) = (((x / pw 32) * (y &&& 4294967295) % 18446744073709551616 : Nat) : Int) from u64_mul (x / pw 32) (y &&& 4294967295)]
 have hu6 : (x / pw 32) * (y &&& 4294967295) % 18446744073709551616 < 18446744073709551616 := mod_lt64 _
 refine zS [(28, .int .u64 (((x &&& 4294967295) * (y &&& 4294967295) % 18446744073709551616 : Nat) : Int))] ?_
 refine stv (v := .int .u64 ((((x &&& 4294967295) * (y &&& 4294967295) % 18446744073709551616) / pw 32 : Nat) : Int)) (by rfl) (R_shrP (k2 := .u64) ((x &&& 4294967295) * (y &&& 4294967295) % 18446744073709551616) 32 (by kernel_rfl) (by kernel_rfl) (by omega)) ?_
 have hu7 : ((x &&& 4294967295) * (y &&& 4294967295) % 18446744073709551616) / pw 32 < 18446744073709551616 := div_lt64 hu5
 refine zS [(30, .int .u64 (IntKind.u64.wrap ((((x / pw 32) * (y &&& 4294967295) % 18446744073709551616 : Nat) : Int) + ((((x &&& 4294967295) * (y &&& 4294967295) % 18446744073709551616) / pw 32 : Nat) : Int))))] ?_
 rw [show IntKind.u64.wrap ((((x / pw 32) * (y &&& 4294967295) % 18446744073709551616 : Nat) : Int) + ((((x &&& 4294967295) * (y &&& 4294967295) % 18446744073709551616) / pw 32 : Nat) : Int)) = (((((x / pw 32) * (y &&& 4294967295) % 18446744073709551616) + (((x &&& 4294967295) * (y &&& 4294967295) % 18446744073709551616) / pw 32)) % 18446744073709551616 : Nat) : Int) from u64_add ((x / pw 32) * (y &&& 4294967295) % 18446744073709551616) (((x &&& 4294967295) * (y &&& 4294967295) % 18446744073709551616) / pw 32)]
 have hu8 : (((x / pw 32) * (y &&& 4294967295) % 18446744073709551616) + (((x &&& 4294967295) * (y &&& 4294967295) % 18446744073709551616) / pw 32)) % 18446744073709551616 < 18446744073709551616 := mod_lt64 _
 refine zS [(11, .int .u64 (((((x / pw 32) * (y &&& 4294967295) % 18446744073709551616) + (((x &&& 4294967295) * (y &&& 4294967295) % 18446744073709551616) / pw 32)) % 18446744073709551616 : Nat) : Int))] ?_
 refine op_nil ?_
 refine zQ ?_
 refine zS [(31, .int .u64 (((((x / pw 32) * (y &&& 4294967295) % 18446744073709551616) + (((x &&& 4294967295) * (y &&& 4294967295) % 18446744073709551616) / pw 32)) % 18446744073709551616 : Nat) : Int)), (32, .int .u64 (IntKind.u64.wrap (BitVec.ofInt 64 (((((x / pw 32) * (y &&& 4294967295) % 18446744073709551616) + (((x &&& 4294967295) * (y &&& 4294967295) % 18446744073709551616) / pw 32)) % 18446744073709551616 : Nat) : Int) &&& BitVec.ofInt 64 4294967295).toNat))] ?_
 rw [show IntKind.u64.wrap (BitVec.ofInt 64 (((((x / pw 32) * (y &&& 4294967295) % 18446744073709551616) + (((x &&& 4294967295) * (y &&& 4294967295) % 18446744073709551616) / pw 32)) % 18446744073709551616 : Nat) : Int) &&& BitVec.ofInt 64 4294967295).toNat = ((((((x / pw 32) * (y &&& 4294967295) % 18446744073709551616) + (((x &&& 4294967295) * (y &&& 4294967295) % 18446744073709551616) / pw 32)) % 18446744073709551616) &&& 4294967295 : Nat) : Int) from and_u ((((x / pw 32) * (y &&& 4294967295) % 18446744073709551616) + (((x &&& 4294967295) * (y &&& 4294967295) % 18446744073709551616) / pw 32)) % 18446744073709551616) 4294967295 hu8 (by omega)]
 have hu9 : ((((x / pw 32) * (y &&& 4294967295) % 18446744073709551616) + (((x &&& 4294967295) * (y &&& 4294967295) % 18446744073709551616) / pw 32)) % 18446744073709551616) &&& 4294967295 < 18446744073709551616 := and_lt hu8
 refine zS [(12, .int .u64 ((((((x / pw 32) * (y &&& 4294967295) % 18446744073709551616) + (((x &&& 4294967295) * (y &&& 4294967295) % 18446744073709551616) / pw 32)) % 18446744073709551616) &&& 4294967295 : Nat) : Int))] ?_
 refine op_nil ?_
 refine W_seq ?_
 refine zF [(0, .int .u64 ((x : Nat) : Int)), (1, .int .u64 ((y : Nat) : Int)), (4, .int .u64 0), (5, .int .u64 0), (6, .int .u64 ((x &&& 4294967295 : Nat) : Int)), (7, .int .u64 ((x / pw 32 : Nat) : Int)), (8, .int .u64 ((y &&& 4294967295 : Nat) : Int)), (9, .int .u64 ((y / pw 32 : Nat) : Int)), (10, .int .u64 (((x &&& 4294967295) * (y &&& 4294967295) % 18446744073709551616 : Nat) : Int)), (11, .int .u64 (((((x / pw 32) * (y &&& 4294967295) % 18446744073709551616) + (((x &&& 4294967295) * (y &&& 4294967295) % 18446744073709551616) / pw 32)) % 18446744073709551616 : Nat) : Int)), (12, .int .u64 ((((((x / pw 32) * (y &&& 4294967295) % 18446744073709551616) + (((x &&& 4294967295) * (y &&& 4294967295) % 18446744073709551616) / pw 32)) % 18446744073709551616) &&& 4294967295 : Nat) : Int))] fun ρ => ?_
 refine zR ?_
 refine zS [(33, .int .u64 (((((x / pw 32) * (y &&& 4294967295) % 18446744073709551616) + (((x &&& 4294967295) * (y &&& 4294967295) % 18446744073709551616) / pw 32)) % 18446744073709551616 : Nat) : Int))] ?_
 refine stv (v := .int .u64 ((((((x / pw 32) * (y &&& 4294967295) % 18446744073709551616) + (((x &&& 4294967295) * (y &&& 4294967295) % 18446744073709551616) / pw 32)) % 18446744073709551616) / pw 32 : Nat) : Int)) (by rfl) (R_shrP (k2 := .u64) ((((x / pw 32) * (y &&& 4294967295) % 18446744073709551616) + (((x &&& 4294967295) * (y &&& 4294967295) % 18446744073709551616) / pw 32)) % 18446744073709551616) 32 (by kernel_rfl) (by kernel_rfl) (by omega)) ?_
 have hu10 : ((((x / pw 32) * (y &&& 4294967295) % 18446744073709551616) + (((x &&& 4294967295) * (y &&& 4294967295) % 18446744073709551616) / pw 32)) % 18446744073709551616) / pw 32 < 18446744073709551616 := div_lt64 hu8
 refine zS [(13, .int .u64 ((((((x / pw 32) * (y &&& 4294967295) % 18446744073709551616) + (((x &&& 4294967295) * (y &&& 4294967295) % 18446744073709551616) / pw 32)) % 18446744073709551616) / pw 32 : Nat) : Int))] ?_
 refine op_nil ?_
 refine zQ ?_
 refine zS [(35, .int .u64 ((((((x / pw 32) * (y &&& 4294967295) % 18446744073709551616) + (((x &&& 4294967295) * (y &&& 4294967295) % 18446744073709551616) / pw 32)) % 18446744073709551616) &&& 4294967295 : Nat) : Int)), (36, .int .u64 ((x &&& 4294967295 : Nat) : Int)), (37, .int .u64 ((y / pw 32 : Nat) : Int)), (38, .int .u64 (IntKind.u64.wrap (((x &&& 4294967295 : Nat) : Int) * ((y / pw 32 : Nat) : Int))))] ?_
 rw [show IntKind.u64.wrap (((x &&& 4294967295 : Nat) : Int) * ((y / pw 32 : Nat) : Int)) = (((x &&& 4294967295) * (y / pw 32) % 18446744073709551616 : Nat) : Int) from u64_mul (x &&& 4294967295) (y / pw 32)]
 have hu11 : (x &&& 4294967295) * (y / pw 32) % 18446744073709551616 < 18446744073709551616 := mod_lt64 _
 refine zS [(39, .int .u64 (IntKind.u64.wrap (((((((x / pw 32) * (y &&& 4294967295) % 18446744073709551616) + (((x &&& 4294967295) * (y &&& 4294967295) % 18446744073709551616) / pw 32)) % 18446744073709551616) &&& 4294967295 : Nat) : Int) + (((x &&& 4294967295) * (y / pw 32) % 18446744073709551616 : Nat) : Int))))] ?_
 rw [show IntKind.u64.wrap (((((((x / pw 32) * (y &&& 4294967295) % 18446744073709551616) + (((x &&& 4294967295) * (y &&& 4294967295) % 18446744073709551616) / pw 32)) % 18446744073709551616) &&& 4294967295 : Nat) : Int) + (((x &&& 4294967295) * (y / pw 32) % 18446744073709551616 : Nat) : Int)) = ((((((((x / pw 32) * (y &&& 4294967295) % 18446744073709551616) + (((x &&& 4294967295) * (y &&& 4294967295) % 18446744073709551616) / pw 32)) % 18446744073709551616) &&& 4294967295) + ((x &&& 4294967295) * (y / pw 32) % 18446744073709551616)) % 18446744073709551616 : Nat) : Int) from u64_add (((((x / pw 32) * (y &&& 4294967295) % 18446744073709551616) + (((x &&& 4294967295) * (y &&& 4294967295) % 18446744073709551616) / pw 32)) % 18446744073709551616) &&& 4294967295) ((x &&& 4294967295) * (y / pw 32) % 18446744073709551616)]
 have hu12 : ((((((x / pw 32) * (y &&& 4294967295) % 18446744073709551616) + (((x &&& 4294967295) * (y &&& 4294967295) % 18446744073709551616) / pw 32)) % 18446744073709551616) &&& 4294967295) + ((x &&& 4294967295) * (y / pw 32) % 18446744073709551616)) % 18446744073709551616 < 18446744073709551616 := mod_lt64 _
 refine zS [(12, .int .u64 ((((((((x / pw 32) * (y &&& 4294967295) % 18446744073709551616) + (((x &&& 4294967295) * (y &&& 4294967295) % 18446744073709551616) / pw 32)) % 18446744073709551616) &&& 4294967295) + ((x &&& 4294967295) * (y / pw 32) % 18446744073709551616)) % 18446744073709551616 : Nat) : Int))] ?_
 refine op_nil ?_
 refine W_seq ?_
 refine zF [(0, .int .u64 ((x : Nat) : Int)), (1, .int .u64 ((y : Nat) : Int)), (4, .int .u64 0), (5, .int .u64 0), (6, .int .u64 ((x &&& 4294967295 : Nat) : Int)), (7, .int .u64 ((x / pw 32 : Nat) : Int)), (8, .int .u64 ((y &&& 4294967295 : Nat) : Int)), (9, .int .u64 ((y / pw 32 : Nat) : Int)), (10, .int .u64 (((x &&& 4294967295) * (y &&& 4294967295) % 18446744073709551616 : Nat) : Int)), (11, .int .u64 (((((x / pw 32) * (y &&& 4294967295) % 18446744073709551616) + (((x &&& 4294967295) * (y &&& 4294967295) % 18446744073709551616) / pw 32)) % 18446744073709551616 : Nat) : Int)), (12, .int .u64 ((((((((x / pw 32) * (y &&& 4294967295) % 18446744073709551616) + (((x &&& 4294967295) * (y &&& 4294967295) % 18446744073709551616) / pw 32)) % 18446744073709551616) &&& 4294967295) + ((x &&& 4294967295) * (y / pw 32) % 18446744073709551616)) % 18446744073709551616 : Nat) : Int)), (13, .int .u64 ((((((x / pw 32) * (y &&& 4294967295) % 18446744073709551616) + (((x &&& 4294967295) * (y &&& 4294967295) % 18446744073709551616) / pw 32)) % 18446744073709551616) / pw 32 : Nat) : Int))] fun ρ => ?_
 refine zR ?_
 refine zS [(40, .int .u64 ((x / pw 32 : Nat) : Int)), (41, .int .u64 ((y / pw 32 : Nat) : Int)), (42, .int .u64 (IntKind.u64.wrap (((x / pw 32 : Nat) : Int) * ((y / pw 32 : Nat) : Int))))] ?_
 rw [show IntKind.u64.wrap (((x / pw 32 : Nat) : Int) * ((y / pw 32 : Nat) : Int)) = (((x / pw 32) * (y / pw 32) % 18446744073709551616 : Nat) : Int) from u64_mul (x / pw 32) (y / pw 32)]
 have hu13 : (x / pw 32) * (y / pw 32) % 18446744073709551616 < 18446744073709551616 := mod_lt64 _
 refine zS [(43, .int .u64 ((((((x / pw 32) * (y &&& 4294967295) % 18446744073709551616) + (((x &&& 4294967295) * (y &&& 4294967295) % 18446744073709551616) / pw 32)) % 18446744073709551616) / pw 32 : Nat) : Int)), (44, .int .u64 (IntKind.u64.wrap ((((x / pw 32) * (y / pw 32) % 18446744073709551616 : Nat) : Int) + ((((((x / pw 32) * (y &&& 4294967295) % 18446744073709551616) + (((x &&& 4294967295) * (y &&& 4294967295) % 18446744073709551616) / pw 32)) % 18446744073709551616) / pw 32 : Nat) : Int))))] ?_
 rw [show IntKind.u64.wrap ((((x / pw 32) * (y / pw 32) % 18446744073709551616 : Nat) : Int) + ((((((x / pw 32) * (y &&& 4294967295) % 18446744073709551616) + (((x &&& 4294967295) * (y &&& 4294967295) % 18446744073709551616) / pw 32)) % 18446744073709551616) / pw 32 : Nat) : Int)) = (((((x / pw 32) * (y / pw 32) % 18446744073709551616) + (((((x / pw 32) * (y &&& 4294967295) % 18446744073709551616) + (((x &&& 4294967295) * (y &&& 4294967295) % 18446744073709551616) / pw 32)) % 18446744073709551616) / pw 32)) % 18446744073709551616 : Nat) : Int) from u64_add ((x / pw 32) * (y / pw 32) % 18446744073709551616) (((((x / pw 32) * (y &&& 4294967295) % 18446744073709551616) + (((x &&& 4294967295) * (y &&& 4294967295) % 18446744073709551616) / pw 32)) % 18446744073709551616) / pw 32)]
 have hu14 : (((x / pw 32) * (y / pw 32) % 18446744073709551616) + (((((x / pw 32) * (y &&& 4294967295) % 18446744073709551616) + (((x &&& 4294967295) * (y &&& 4294967295) % 18446744073709551616) / pw 32)) % 18446744073709551616) / pw 32)) % 18446744073709551616 < 18446744073709551616 := mod_lt64 _
 refine zS [(45, .int .u64 ((((((((x / pw 32) * (y &&& 4294967295) % 18446744073709551616) + (((x &&& 4294967295) * (y &&& 4294967295) % 18446744073709551616) / pw 32)) % 18446744073709551616) &&& 4294967295) + ((x &&& 4294967295) * (y / pw 32) % 18446744073709551616)) % 18446744073709551616 : Nat) : Int))] ?_
 refine stv (v := .int .u64 (((((((((x / pw 32) * (y &&& 4294967295) % 18446744073709551616) + (((x &&& 4294967295) * (y &&& 4294967295) % 18446744073709551616) / pw 32)) % 18446744073709551616) &&& 4294967295) + ((x &&& 4294967295) * (y / pw 32) % 18446744073709551616)) % 18446744073709551616) / pw 32 : Nat) : Int)) (by rfl) (R_shrP (k2 := .u64) (((((((x / pw 32) * (y &&& 4294967295) % 18446744073709551616) + (((x &&& 4294967295) * (y &&& 4294967295) % 18446744073709551616) / pw 32)) % 18446744073709551616) &&& 4294967295) + ((x &&& 4294967295) * (y / pw 32) % 18446744073709551616)) % 18446744073709551616) 32 (by kernel_rfl) (by kernel_rfl) (by omega)) ?_
 have hu15 : (((((((x / pw 32) * (y &&& 4294967295) % 18446744073709551616) + (((x &&& 4294967295) * (y &&& 4294967295) % 18446744073709551616) / pw 32)) % 18446744073709551616) &&& 4294967295) + ((x &&& 4294967295) * (y / pw 32) % 18446744073709551616)) % 18446744073709551616) / pw 32 < 18446744073709551616 := div_lt64 hu12
 refine zS [(47, .int .u64 (IntKind.u64.wrap ((((((x / pw 32) * (y / pw 32) % 18446744073709551616) + (((((x / pw 32) * (y &&& 4294967295) % 18446744073709551616) + (((x &&& 4294967295) * (y &&& 4294967295) % 18446744073709551616) / pw 32)) % 18446744073709551616) / pw 32)) % 18446744073709551616 : Nat) : Int) + (((((((((x / pw 32) * (y &&& 4294967295) % 18446744073709551616) + (((x &&& 4294967295) * (y &&& 4294967295) % 18446744073709551616) / pw 32)) % 18446744073709551616) &&& 4294967295) + ((x &&& 4294967295) * (y / pw 32) % 18446744073709551616)) % 18446744073709551616) / pw 32 : Nat) : Int))))] ?_
 rw [show IntKind.u64.wrap ((((((x / pw 32) * (y / pw 32) % 18446744073709551616) + (((((x / pw 32) * (y &&& 4294967295) % 18446744073709551616) + (((x &&& 4294967295) * (y &&& 4294967295) % 18446744073709551616) / pw 32)) % 18446744073709551616) / pw 32)) % 18446744073709551616 : Nat) : Int) + (((((((((x / pw 32) * (y &&& 4294967295) % 18446744073709551616) + (((x &&& 4294967295) * (y &&& 4294967295) % 18446744073709551616) / pw 32)) % 18446744073709551616) &&& 4294967295) + ((x &&& 4294967295) * (y / pw 32) % 18446744073709551616)) % 18446744073709551616) / pw 32 : Nat) : Int)) = (((((((x / pw 32) * (y / pw 32) % 18446744073709551616) + (((((x / pw 32) * (y &&& 4294967295) % 18446744073709551616) + (((x &&& 4294967295) * (y &&& 4294967295) % 18446744073709551616) / pw 32)) % 18446744073709551616) / pw 32)) % 18446744073709551616) + ((((((((x / pw 32) * (y &&& 4294967295) % 18446744073709551616) + (((x &&& 4294967295) * (y &&& 4294967295) % 18446744073709551616) / pw 32)) % 18446744073709551616) &&& 4294967295) + ((x &&& 4294967295) * (y / pw 32) % 18446744073709551616)) % 18446744073709551616) / pw 32)) % 18446744073709551616 : Nat) : Int) from u64_add ((((x / pw 32) * (y / pw 32) % 18446744073709551616) + (((((x / pw 32) * (y &&& 4294967295) % 18446744073709551616) + (((x &&& 4294967295) * (y &&& 4294967295) % 18446744073709551616) / pw 32)) % 18446744073709551616) / pw 32)) % 18446744073709551616) ((((((((x / pw 32) * (y &&& 4294967295) % 18446744073709551616) + (((x &&& 4294967295) * (y &&& 4294967295) % 18446744073709551616) / pw 32)) % 18446744073709551616) &&& 4294967295) + ((x &&& 4294967295) * (y / pw 32) % 18446744073709551616)) % 18446744073709551616) / pw 32)]
 have hu16 : (((((x / pw 32) * (y / pw 32) % 18446744073709551616) + (((((x / pw 32) * (y &&& 4294967295) % 18446744073709551616) + (((x &&& 4294967295) * (y &&& 4294967295) % 18446744073709551616) / pw 32)) % 18446744073709551616) / pw 32)) % 18446744073709551616) + ((((((((x / pw 32) * (y &&& 4294967295) % 18446744073709551616) + (((x &&& 4294967295) * (y &&& 4294967295) % 18446744073709551616) / pw 32)) % 18446744073709551616) &&& 4294967295) + ((x &&& 4294967295) * (y / pw 32) % 18446744073709551616)) % 18446744073709551616) / pw 32)) % 18446744073709551616 < 18446744073709551616 := mod_lt64 _
 refine zS [(4, .int .u64 (((((((x / pw 32) * (y / pw 32) % 18446744073709551616) + (((((x / pw 32) * (y &&& 4294967295) % 18446744073709551616) + (((x &&& 4294967295) * (y &&& 4294967295) % 18446744073709551616) / pw 32)) % 18446744073709551616) / pw 32)) % 18446744073709551616) + ((((((((x / pw 32) * (y &&& 4294967295) % 18446744073709551616) + (((x &&& 4294967295) * (y &&& 4294967295) % 18446744073709551616) / pw 32)) % 18446744073709551616) &&& 4294967295) + ((x &&& 4294967295) * (y / pw 32) % 18446744073709551616)) % 18446744073709551616) / pw 32)) % 18446744073709551616 : Nat) : Int))] ?_
 refine op_nil ?_
 refine W_seq ?_
 refine zF [(0, .int .u64 ((x : Nat) : Int)), (1, .int .u64 ((y : Nat) : Int)), (4, .int .u64 (((((((x / pw 32) * (y / pw 32) % 18446744073709551616) + (((((x / pw 32) * (y &&& 4294967295) % 18446744073709551616) + (((x &&& 4294967295) * (y &&& 4294967295) % 18446744073709551616) / pw 32)) % 18446744073709551616) / pw 32)) % 18446744073709551616) + ((((((((x / pw 32) * (y &&& 4294967295) % 18446744073709551616) + (((x &&& 4294967295) * (y &&& 4294967295) % 18446744073709551616) / pw 32)) % 18446744073709551616) &&& 4294967295) + ((x &&& 4294967295) * (y / pw 32) % 18446744073709551616)) % 18446744073709551616) / pw 32)) % 18446744073709551616 : Nat) : Int)), (5, .int .u64 0), (6, .int .u64 ((x &&& 4294967295 : Nat) : Int)), (7, .int .u64 ((x / pw 32 : Nat) : Int)), (8, .int .u64 ((y &&& 4294967295 : Nat) : Int)), (9, .int .u64 ((y / pw 32 : Nat) : Int)), (10, .int .u64 (((x &&& 4294967295) * (y &&& 4294967295) % 18446744073709551616 : Nat) : Int)), (11, .int .u64 (((((x / pw 32) * (y &&& 4294967295) % 18446744073709551616) + (((x &&& 4294967295) * (y &&& 4294967295) % 18446744073709551616) / pw 32)) % 18446744073709551616 : Nat) : Int)), (12, .int .u64 ((((((((x / pw 32) * (y &&& 4294967295) % 18446744073709551616) + (((x &&& 4294967295) * (y &&& 4294967295) % 18446744073709551616) / pw 32)) % 18446744073709551616) &&& 4294967295) + ((x &&& 4294967295) * (y / pw 32) % 18446744073709551616)) % 18446744073709551616 : Nat) : Int)), (13, .int .u64 ((((((x / pw 32) * (y &&& 4294967295) % 18446744073709551616) + (((x &&& 4294967295) * (y &&& 4294967295) % 18446744073709551616) / pw 32)) % 18446744073709551616) / pw 32 : Nat) : Int))] fun ρ => ?_
 refine zR ?_
 refine zS [(48, .int .u64 ((x : Nat) : Int)), (49, .int .u64 ((y : Nat) : Int)), (50, .int .u64 (IntKind.u64.wrap (((x : Nat) : Int) * ((y : Nat) : Int))))] ?_
 rw [show IntKind.u64.wrap (((x : Nat) : Int) * ((y : Nat) : Int)) = ((x * y % 18446744073709551616 : Nat) : Int) from u64_mul x y]
 have hu17 : x * y % 18446744073709551616 < 18446744073709551616 := mod_lt64 _
 refine zS [(5, .int .u64 ((x * y % 18446744073709551616 : Nat) : Int))] ?_
 refine op_nil ?_
 refine W_ret ?_
 exact ⟨_, Res_of (v := .tuple #[.int .u64 (((((((x / pw 32) * (y / pw 32) % 18446744073709551616) + (((((x / pw 32) * (y &&& 4294967295) % 18446744073709551616) + (((x &&& 4294967295) * (y &&& 4294967295) % 18446744073709551616) / pw 32)) % 18446744073709551616) / pw 32)) % 18446744073709551616) + ((((((((x / pw 32) * (y &&& 4294967295) % 18446744073709551616) + (((x &&& 4294967295) * (y &&& 4294967295) % 18446744073709551616) / pw 32)) % 18446744073709551616) &&& 4294967295) + ((x &&& 4294967295) * (y / pw 32) % 18446744073709551616)) % 18446744073709551616) / pw 32)) % 18446744073709551616 : Nat) : Int), .int .u64 ((x * y % 18446744073709551616 : Nat) : Int)]) (by kernel_rfl), ⟨by rw [mul_hi hx hy], Tch.refl _ _⟩⟩

set_option maxRecDepth 100000 in
theorem len64_ok (x : Nat) (w : World) (hx : x < 18446744073709551616) : Ret Try.prog 110 [.int .u64 ((x : Nat) : Int)] w fun v w' => v = .int .i64 ((bl x : Nat) : Int) ∧ Tch N0 w w' := by
 have q32 : pw 32 = 4294967296 := rfl
 have q16 : pw 16 = 65536 := rfl
 have q8 : pw 8 = 256 := rfl
 refine enter Try.func110 rfl rfl ?_
 refine zQ ?_
 refine zS [(2, .int .i64 0)] ?_
 refine op_nil ?_
 refine W_seq ?_
 refine zQ ?_
 refine zS [(3, .int .u64 ((x : Nat) : Int)), (4, .bool (decide (((x : Nat) : Int) ≥ 4294967296)))] ?_
 refine zO (decide (((x : Nat) : Int) ≥ 4294967296)) (fun hc1 => ?_) (fun hc1 => ?_)
 ·
  replace hc1 : 4294967296 ≤ ((x : Nat) : Int) := (of_decide_eq_true hc1)
  refine zQ ?_
  refine zS [(5, .int .u64 ((x : Nat) : Int))] ?_
  refine stv (v := .int .u64 ((x / 4294967296 : Nat) : Int)) (by rfl) (R_shrP (k2 := .u64) x 32 (by kernel_rfl) (by kernel_rfl) (by omega)) ?_
  have hu2 : x / 4294967296 < 18446744073709551616 := by omega
  refine zS [(0, .int .u64 ((x / 4294967296 : Nat) : Int))] ?_
  refine op_nil ?_
  refine zR ?_
  refine zS [(2, .int .i64 32)] ?_
  refine op_nil ?_
  refine W_seq ?_
  refine zQ ?_
  refine zS [(7, .int .u64 ((x / 4294967296 : Nat) : Int)), (8, .bool (decide (((x / 4294967296 : Nat) : Int) ≥ 65536)))] ?_
  refine zO (decide (((x / 4294967296 : Nat) : Int) ≥ 65536)) (fun hc3 => ?_) (fun hc3 => ?_)
  ·
   replace hc3 : 65536 ≤ ((x / 4294967296 : Nat) : Int) := (of_decide_eq_true hc3)
   refine W_seq ?_
   refine zF [(0, .int .u64 ((x / 4294967296 : Nat) : Int)), (2, .int .i64 32), (4, .bool (decide (((x : Nat) : Int) ≥ 4294967296))), (8, .bool (decide (((x / 4294967296 : Nat) : Int) ≥ 65536)))] fun ρ => ?_
   refine zR ?_
   refine zS [(9, .int .u64 ((x / 4294967296 : Nat) : Int))] ?_
   refine stv (v := .int .u64 (((x / 4294967296) / 65536 : Nat) : Int)) (by rfl) (R_shrP (k2 := .u64) (x / 4294967296) 16 (by kernel_rfl) (by kernel_rfl) (by omega)) ?_
   have hu4 : (x / 4294967296) / 65536 < 18446744073709551616 := by omega
   refine zS [(0, .int .u64 (((x / 4294967296) / 65536 : Nat) : Int))] ?_
   refine op_nil ?_
   refine zR ?_
   refine zS [(11, .int .i64 32), (12, .int .i64 48), (2, .int .i64 48)] ?_
   refine op_nil ?_
   refine W_seq ?_
   refine zQ ?_
   refine zS [(13, .int .u64 (((x / 4294967296) / 65536 : Nat) : Int)), (14, .bool (decide ((((x / 4294967296) / 65536 : Nat) : Int) ≥ 256)))] ?_
   refine zO (decide ((((x / 4294967296) / 65536 : Nat) : Int) ≥ 256)) (fun hc5 => ?_) (fun hc5 => ?_)
   ·
    replace hc5 : 256 ≤ (((x / 4294967296) / 65536 : Nat) : Int) := (of_decide_eq_true hc5)
    refine W_seq ?_
    refine zF [(0, .int .u64 (((x / 4294967296) / 65536 : Nat) : Int)), (2, .int .i64 48), (4, .bool (decide (((x : Nat) : Int) ≥ 4294967296))), (8, .bool (decide (((x / 4294967296 : Nat) : Int) ≥ 65536))), (14, .bool (decide ((((x / 4294967296) / 65536 : Nat) : Int) ≥ 256)))] fun ρ => ?_
    refine zR ?_
    refine zS [(15, .int .u64 (((x / 4294967296) / 65536 : Nat) : Int))] ?_
    refine stv (v := .int .u64 ((((x / 4294967296) / 65536) / 256 : Nat) : Int)) (by rfl) (R_shrP (k2 := .u64) ((x / 4294967296) / 65536) 8 (by kernel_rfl) (by kernel_rfl) (by omega)) ?_
    have hu6 : ((x / 4294967296) / 65536) / 256 < 18446744073709551616 := by omega
    refine zS [(0, .int .u64 ((((x / 4294967296) / 65536) / 256 : Nat) : Int))] ?_
    refine op_nil ?_
    refine zR ?_
    refine zS [(17, .int .i64 48), (18, .int .i64 56), (2, .int .i64 56)] ?_
    refine op_nil ?_
    refine zQ ?_
    refine zS [(19, .int .i64 56), (20, .int .u64 ((((x / 4294967296) / 65536) / 256 : Nat) : Int)), (21, .int .u8 (IntKind.u8.wrap ((((x / 4294967296) / 65536) / 256 : Nat) : Int)))] ?_
    rw [show IntKind.u8.wrap ((((x / 4294967296) / 65536) / 256 : Nat) : Int) = ((((x / 4294967296) / 65536) / 256 : Nat) : Int) from wrap_u8 (by omega) (by omega)]
    have hX : ((x / 4294967296) / 65536) / 256 < 256 := by omega
    have hbl : bl (((x / 4294967296) / 65536) / 256) ≤ 8 := bl_le64 (n := 8) hX
    refine stv (v := .int .u8 ((bl (((x / 4294967296) / 65536) / 256) : Nat) : Int)) (by rfl) (R_lenTab (((x / 4294967296) / 65536) / 256) (by kernel_rfl) (by kernel_rfl) hX) ?_
    refine zS [(23, .int .i64 (IntKind.i64.wrap ((bl (((x / 4294967296) / 65536) / 256) : Nat) : Int)))] ?_
    rw [show IntKind.i64.wrap ((bl (((x / 4294967296) / 65536) / 256) : Nat) : Int) = ((bl (((x / 4294967296) / 65536) / 256) : Nat) : Int) from wrap_i64 (by omega) (by omega)]
    refine zS [(24, .int .i64 (IntKind.i64.wrap (56 + ((bl (((x / 4294967296) / 65536) / 256) : Nat) : Int))))] ?_
    rw [show IntKind.i64.wrap (56 + ((bl (((x / 4294967296) / 65536) / 256) : Nat) : Int)) = 56 + ((bl (((x / 4294967296) / 65536) / 256) : Nat) : Int) from wrap_i64 (by omega) (by omega)]
    refine zS [(2, .int .i64 (56 + ((bl (((x / 4294967296) / 65536) / 256) : Nat) : Int)))] ?_
    refine op_nil ?_
    refine W_ret ?_
    refine ⟨_, Res_of (v := .int .i64 (56 + ((bl (((x / 4294967296) / 65536) / 256) : Nat) : Int))) (by kernel_rfl), ?_⟩
    have e32 : bl (x / 4294967296) + 32 = bl x := bl_div (x := x) (k := 32) (by have : pw 32 = 4294967296 := rfl; omega)
    have e16 : bl ((x / 4294967296) / 65536) + 16 = bl (x / 4294967296) := bl_div (x := x / 4294967296) (k := 16) (by have : pw 16 = 65536 := rfl; omega)
    have e8 : bl (((x / 4294967296) / 65536) / 256) + 8 = bl ((x / 4294967296) / 65536) := bl_div (x := (x / 4294967296) / 65536) (k := 8) (by have : pw 8 = 256 := rfl; omega)
    exact ⟨congrArg (Value.int .i64) (by omega), Tch.refl _ _⟩
   ·
    replace hc5 : (((x / 4294967296) / 65536 : Nat) : Int) < 256 := (Int.not_le.1 (of_decide_eq_false hc5))
    refine W_skip ?_
    refine W_seq ?_
    refine zF [(0, .int .u64 (((x / 4294967296) / 65536 : Nat) : Int)), (2, .int .i64 48), (4, .bool (decide (((x : Nat) : Int) ≥ 4294967296))), (8, .bool (decide (((x / 4294967296 : Nat) : Int) ≥ 65536))), (14, .bool (decide ((((x / 4294967296) / 65536 : Nat) : Int) ≥ 256)))] fun ρ => ?_
    refine zR ?_
    refine zS [(19, .int .i64 48), (20, .int .u64 (((x / 4294967296) / 65536 : Nat) : Int)), (21, .int .u8 (IntKind.u8.wrap (((x / 4294967296) / 65536 : Nat) : Int)))] ?_
    rw [show IntKind.u8.wrap (((x / 4294967296) / 65536 : Nat) : Int) = (((x / 4294967296) / 65536 : Nat) : Int) from wrap_u8 (by omega) (by omega)]
    have hX : (x / 4294967296) / 65536 < 256 := by omega
    have hbl : bl ((x / 4294967296) / 65536) ≤ 8 := bl_le64 (n := 8) hX
    refine stv (v := .int .u8 ((bl ((x / 4294967296) / 65536) : Nat) : Int)) (by rfl) (R_lenTab ((x / 4294967296) / 65536) (by kernel_rfl) (by kernel_rfl) hX) ?_
    refine zS [(23, .int .i64 (IntKind.i64.wrap ((bl ((x / 4294967296) / 65536) : Nat) : Int)))] ?_
    rw [show IntKind.i64.wrap ((bl ((x / 4294967296) / 65536) : Nat) : Int) = ((bl ((x / 4294967296) / 65536) : Nat) : Int) from wrap_i64 (by omega) (by omega)]
    refine zS [(24, .int .i64 (IntKind.i64.wrap (48 + ((bl ((x / 4294967296) / 65536) : Nat) : Int))))] ?_
    rw [show IntKind.i64.wrap (48 + ((bl ((x / 4294967296) / 65536) : Nat) : Int)) = 48 + ((bl ((x / 4294967296) / 65536) : Nat) : Int) from wrap_i64 (by omega) (by omega)]
    refine zS [(2, .int .i64 (48 + ((bl ((x / 4294967296) / 65536) : Nat) : Int)))] ?_
    refine op_nil ?_
    refine W_ret ?_
    refine ⟨_, Res_of (v := .int .i64 (48 + ((bl ((x / 4294967296) / 65536) : Nat) : Int))) (by kernel_rfl), ?_⟩
    have e32 : bl (x / 4294967296) + 32 = bl x := bl_div (x := x) (k := 32) (by have : pw 32 = 4294967296 := rfl; omega)
    have e16 : bl ((x / 4294967296) / 65536) + 16 = bl (x / 4294967296) := bl_div (x := x / 4294967296) (k := 16) (by have : pw 16 = 65536 := rfl; omega)
    exact ⟨congrArg (Value.int .i64) (by omega), Tch.refl _ _⟩
  ·
   replace hc3 : ((x / 4294967296 : Nat) : Int) < 65536 := (Int.not_le.1 (of_decide_eq_false hc3))
   refine W_skip ?_
   refine W_seq ?_
   refine W_seq ?_
   refine zF [(0, .int .u64 ((x / 4294967296 : Nat) : Int)), (2, .int .i64 32), (4, .bool (decide (((x : Nat) : Int) ≥ 4294967296))), (8, .bool (decide (((x / 4294967296 : Nat) : Int) ≥ 65536)))] fun ρ => ?_
   refine zR ?_
   refine zS [(13, .int .u64 ((x / 4294967296 : Nat) : Int)), (14, .bool (decide (((x / 4294967296 : Nat) : Int) ≥ 256)))] ?_
   refine zO (decide (((x / 4294967296 : Nat) : Int) ≥ 256)) (fun hc7 => ?_) (fun hc7 => ?_)
   ·
    replace hc7 : 256 ≤ ((x / 4294967296 : Nat) : Int) := (of_decide_eq_true hc7)
    refine zQ ?_
    refine zS [(15, .int .u64 ((x / 4294967296 : Nat) : Int))] ?_
    refine stv (v := .int .u64 (((x / 4294967296) / 256 : Nat) : Int)) (by rfl) (R_shrP (k2 := .u64) (x / 4294967296) 8 (by kernel_rfl) (by kernel_rfl) (by omega)) ?_
    have hu8 : (x / 4294967296) / 256 < 18446744073709551616 := by omega
    refine zS [(0, .int .u64 (((x / 4294967296) / 256 : Nat) : Int))] ?_
    refine op_nil ?_
    refine zR ?_
    refine zS [(17, .int .i64 32), (18, .int .i64 40), (2, .int .i64 40)] ?_
    refine op_nil ?_
    refine W_seq ?_
    refine zF [(0, .int .u64 (((x / 4294967296) / 256 : Nat) : Int)), (2, .int .i64 40), (4, .bool (decide (((x : Nat) : Int) ≥ 4294967296))), (8, .bool (decide (((x / 4294967296 : Nat) : Int) ≥ 65536))), (14, .bool (decide (((x / 4294967296 : Nat) : Int) ≥ 256)))] fun ρ => ?_
    refine zR ?_
    refine zS [(19, .int .i64 40), (20, .int .u64 (((x / 4294967296) / 256 : Nat) : Int)), (21, .int .u8 (IntKind.u8.wrap (((x / 4294967296) / 256 : Nat) : Int)))] ?_
    rw [show IntKind.u8.wrap (((x / 4294967296) / 256 : Nat) : Int) = (((x / 4294967296) / 256 : Nat) : Int) from wrap_u8 (by omega) (by omega)]
    have hX : (x / 4294967296) / 256 < 256 := by omega
    have hbl : bl ((x / 4294967296) / 256) ≤ 8 := bl_le64 (n := 8) hX
    refine stv (v := .int .u8 ((bl ((x / 4294967296) / 256) : Nat) : Int)) (by rfl) (R_lenTab ((x / 4294967296) / 256) (by kernel_rfl) (by kernel_rfl) hX) ?_
    refine zS [(23, .int .i64 (IntKind.i64.wrap ((bl ((x / 4294967296) / 256) : Nat) : Int)))] ?_
    rw [show IntKind.i64.wrap ((bl ((x / 4294967296) / 256) : Nat) : Int) = ((bl ((x / 4294967296) / 256) : Nat) : Int) from wrap_i64 (by omega) (by omega)]
    refine zS [(24, .int .i64 (IntKind.i64.wrap (40 + ((bl ((x / 4294967296) / 256) : Nat) : Int))))] ?_
    rw [show IntKind.i64.wrap (40 + ((bl ((x / 4294967296) / 256) : Nat) : Int)) = 40 + ((bl ((x / 4294967296) / 256) : Nat) : Int) from wrap_i64 (by omega) (by omega)]
    refine zS [(2, .int .i64 (40 + ((bl ((x / 4294967296) / 256) : Nat) : Int)))] ?_
    refine op_nil ?_
    refine W_ret ?_
    refine ⟨_, Res_of (v := .int .i64 (40 + ((bl ((x / 4294967296) / 256) : Nat) : Int))) (by kernel_rfl), ?_⟩
    have e32 : bl (x / 4294967296) + 32 = bl x := bl_div (x := x) (k := 32) (by have : pw 32 = 4294967296 := rfl; omega)
    have e8 : bl ((x / 4294967296) / 256) + 8 = bl (x / 4294967296) := bl_div (x := x / 4294967296) (k := 8) (by have : pw 8 = 256 := rfl; omega)
    exact ⟨congrArg (Value.int .i64) (by omega), Tch.refl _ _⟩
   ·
    replace hc7 : ((x / 4294967296 : Nat) : Int) < 256 := (Int.not_le.1 (of_decide_eq_false hc7))
    refine W_skip ?_
    refine zQ ?_
    refine zS [(19, .int .i64 32), (20, .int .u64 ((x / 4294967296 : Nat) : Int)), (21, .int .u8 (IntKind.u8.wrap ((x / 4294967296 : Nat) : Int)))] ?_
    rw [show IntKind.u8.wrap ((x / 4294967296 : Nat) : Int) = ((x / 4294967296 : Nat) : Int) from wrap_u8 (by omega) (by omega)]
    have hX : x / 4294967296 < 256 := by omega
    have hbl : bl (x / 4294967296) ≤ 8 := bl_le64 (n := 8) hX
    refine stv (v := .int .u8 ((bl (x / 4294967296) : Nat) : Int)) (by rfl) (R_lenTab (x / 4294967296) (by kernel_rfl) (by kernel_rfl) hX) ?_
    refine zS [(23, .int .i64 (IntKind.i64.wrap ((bl (x / 4294967296) : Nat) : Int)))] ?_
    rw [show IntKind.i64.wrap ((bl (x / 4294967296) : Nat) : Int) = ((bl (x / 4294967296) : Nat) : Int) from wrap_i64 (by omega) (by omega)]
    refine zS [(24, .int .i64 (IntKind.i64.wrap (32 + ((bl (x / 4294967296) : Nat) : Int))))] ?_
    rw [show IntKind.i64.wrap (32 + ((bl (x / 4294967296) : Nat) : Int)) = 32 + ((bl (x / 4294967296) : Nat) : Int) from wrap_i64 (by omega) (by omega)]
    refine zS [(2, .int .i64 (32 + ((bl (x / 4294967296) : Nat) : Int)))] ?_
    refine op_nil ?_
    refine W_ret ?_
    refine ⟨_, Res_of (v := .int .i64 (32 + ((bl (x / 4294967296) : Nat) : Int))) (by kernel_rfl), ?_⟩
    have e32 : bl (x / 4294967296) + 32 = bl x := bl_div (x := x) (k := 32) (by have : pw 32 = 4294967296 := rfl; omega)
    exact ⟨congrArg (Value.int .i64) (by omega), Tch.refl _ _⟩
 ·
  replace hc1 : ((x : Nat) : Int) < 4294967296 := (Int.not_le.1 (of_decide_eq_false hc1))
  refine W_skip ?_
  refine W_seq ?_
  refine zQ ?_
  refine zS [(7, .int .u64 ((x : Nat) : Int)), (8, .bool (decide (((x : Nat) : Int) ≥ 65536)))] ?_
  refine zO (decide (((x : Nat) : Int) ≥ 65536)) (fun hc9 => ?_) (fun hc9 => ?_)
  ·
   replace hc9 : 65536 ≤ ((x : Nat) : Int) := (of_decide_eq_true hc9)
   refine zQ ?_
   refine zS [(9, .int .u64 ((x : Nat) : Int))] ?_
   refine stv (v := .int .u64 ((x / 65536 : Nat) : Int)) (by rfl) (R_shrP (k2 := .u64) x 16 (by kernel_rfl) (by kernel_rfl) (by omega)) ?_
   have hu10 : x / 65536 < 18446744073709551616 := by omega
   refine zS [(0, .int .u64 ((x / 65536 : Nat) : Int))] ?_
   refine op_nil ?_
   refine zF [(0, .int .u64 ((x / 65536 : Nat) : Int)), (2, .int .i64 0), (4, .bool (decide (((x : Nat) : Int) ≥ 4294967296))), (8, .bool (decide (((x : Nat) : Int) ≥ 65536)))] fun ρ => ?_
   refine zR ?_
   refine zS [(11, .int .i64 0), (12, .int .i64 16), (2, .int .i64 16)] ?_
   refine op_nil ?_
   refine W_seq ?_
   refine zQ ?_
   refine zS [(13, .int .u64 ((x / 65536 : Nat) : Int)), (14, .bool (decide (((x / 65536 : Nat) : Int) ≥ 256)))] ?_
   refine zO (decide (((x / 65536 : Nat) : Int) ≥ 256)) (fun hc11 => ?_) (fun hc11 => ?_)
   ·
    replace hc11 : 256 ≤ ((x / 65536 : Nat) : Int) := (of_decide_eq_true hc11)
    refine zQ ?_
    refine zS [(15, .int .u64 ((x / 65536 : Nat) : Int))] ?_
    refine stv (v := .int .u64 (((x / 65536) / 256 : Nat) : Int)) (by rfl) (R_shrP (k2 := .u64) (x / 65536) 8 (by kernel_rfl) (by kernel_rfl) (by omega)) ?_
    have hu12 : (x / 65536) / 256 < 18446744073709551616 := by omega
    refine zS [(0, .int .u64 (((x / 65536) / 256 : Nat) : Int))] ?_
    refine op_nil ?_
    refine zF [(0, .int .u64 (((x / 65536) / 256 : Nat) : Int)), (2, .int .i64 16), (4, .bool (decide (((x : Nat) : Int) ≥ 4294967296))), (8, .bool (decide (((x : Nat) : Int) ≥ 65536))), (14, .bool (decide (((x / 65536 : Nat) : Int) ≥ 256)))] fun ρ => ?_
    refine zR ?_
    refine zS [(17, .int .i64 16), (18, .int .i64 24), (2, .int .i64 24)] ?_
    refine op_nil ?_
    refine zQ ?_
    refine zS [(19, .int .i64 24), (20, .int .u64 (((x / 65536) / 256 : Nat) : Int)), (21, .int .u8 (IntKind.u8.wrap (((x / 65536) / 256 : Nat) : Int)))] ?_
    rw [show IntKind.u8.wrap (((x / 65536) / 256 : Nat) : Int) = (((x / 65536) / 256 : Nat) : Int) from wrap_u8 (by omega) (by omega)]
    have hX : (x / 65536) / 256 < 256 := by omega
    have hbl : bl ((x / 65536) / 256) ≤ 8 := bl_le64 (n := 8) hX
    refine stv (v := .int .u8 ((bl ((x / 65536) / 256) : Nat) : Int)) (by rfl) (R_lenTab ((x / 65536) / 256) (by kernel_rfl) (by kernel_rfl) hX) ?_
    refine zS [(23, .int .i64 (IntKind.i64.wrap ((bl ((x / 65536) / 256) : Nat) : Int)))] ?_
    rw [show IntKind.i64.wrap ((bl ((x / 65536) / 256) : Nat) : Int) = ((bl ((x / 65536) / 256) : Nat) : Int) from wrap_i64 (by omega) (by omega)]
    refine zS [(24, .int .i64 (IntKind.i64.wrap (24 + ((bl ((x / 65536) / 256) : Nat) : Int))))] ?_
    rw [show IntKind.i64.wrap (24 + ((bl ((x / 65536) / 256) : Nat) : Int)) = 24 + ((bl ((x / 65536) / 256) : Nat) : Int) from wrap_i64 (by omega) (by omega)]
    refine zS [(2, .int .i64 (24 + ((bl ((x / 65536) / 256) : Nat) : Int)))] ?_
    refine op_nil ?_
    refine W_ret ?_
    refine ⟨_, Res_of (v := .int .i64 (24 + ((bl ((x / 65536) / 256) : Nat) : Int))) (by kernel_rfl), ?_⟩
    have e16 : bl (x / 65536) + 16 = bl x := bl_div (x := x) (k := 16) (by have : pw 16 = 65536 := rfl; omega)
    have e8 : bl ((x / 65536) / 256) + 8 = bl (x / 65536) := bl_div (x := x / 65536) (k := 8) (by have : pw 8 = 256 := rfl; omega)
    exact ⟨congrArg (Value.int .i64) (by omega), Tch.refl _ _⟩
   ·
    replace hc11 : ((x / 65536 : Nat) : Int) < 256 := (Int.not_le.1 (of_decide_eq_false hc11))
    refine W_skip ?_
    refine zQ ?_
    refine zS [(19, .int .i64 16), (20, .int .u64 ((x / 65536 : Nat) : Int)), (21, .int .u8 (IntKind.u8.wrap ((x / 65536 : Nat) : Int)))] ?_
    rw [show IntKind.u8.wrap ((x / 65536 : Nat) : Int) = ((x / 65536 : Nat) : Int) from wrap_u8 (by omega) (by omega)]
    have hX : x / 65536 < 256 := by omega
    have hbl : bl (x / 65536) ≤ 8 := bl_le64 (n := 8) hX
    refine stv (v := .int .u8 ((bl (x / 65536) : Nat) : Int)) (by rfl) (R_lenTab (x / 65536) (by kernel_rfl) (by kernel_rfl) hX) ?_
    refine zS [(23, .int .i64 (IntKind.i64.wrap ((bl (x / 65536) : Nat) : Int)))] ?_
    rw [show IntKind.i64.wrap ((bl (x / 65536) : Nat) : Int) = ((bl (x / 65536) : Nat) : Int) from wrap_i64 (by omega) (by omega)]
    refine zS [(24, .int .i64 (IntKind.i64.wrap (16 + ((bl (x / 65536) : Nat) : Int))))] ?_
    rw [show IntKind.i64.wrap (16 + ((bl (x / 65536) : Nat) : Int)) = 16 + ((bl (x / 65536) : Nat) : Int) from wrap_i64 (by omega) (by omega)]
    refine zS [(2, .int .i64 (16 + ((bl (x / 65536) : Nat) : Int)))] ?_
    refine op_nil ?_
    refine W_ret ?_
    refine ⟨_, Res_of (v := .int .i64 (16 + ((bl (x / 65536) : Nat) : Int))) (by kernel_rfl), ?_⟩
    have e16 : bl (x / 65536) + 16 = bl x := bl_div (x := x) (k := 16) (by have : pw 16 = 65536 := rfl; omega)
    exact ⟨congrArg (Value.int .i64) (by omega), Tch.refl _ _⟩
  ·
   replace hc9 : ((x : Nat) : Int) < 65536 := (Int.not_le.1 (of_decide_eq_false hc9))
   refine W_skip ?_
   refine W_seq ?_
   refine zQ ?_
   refine zS [(13, .int .u64 ((x : Nat) : Int)), (14, .bool (decide (((x : Nat) : Int) ≥ 256)))] ?_
   refine zO (decide (((x : Nat) : Int) ≥ 256)) (fun hc13 => ?_) (fun hc13 => ?_)
   ·
    replace hc13 : 256 ≤ ((x : Nat) : Int) := (of_decide_eq_true hc13)
    refine zQ ?_
    refine zS [(15, .int .u64 ((x : Nat) : Int))] ?_
    refine stv (v := .int .u64 ((x / 256 : Nat) : Int)) (by rfl) (R_shrP (k2 := .u64) x 8 (by kernel_rfl) (by kernel_rfl) (by omega)) ?_
    have hu14 : x / 256 < 18446744073709551616 := by omega
    refine zS [(0, .int .u64 ((x / 256 : Nat) : Int))] ?_
    refine op_nil ?_
    refine zF [(0, .int .u64 ((x / 256 : Nat) : Int)), (2, .int .i64 0), (4, .bool (decide (((x : Nat) : Int) ≥ 4294967296))), (8, .bool (decide (((x : Nat) : Int) ≥ 65536))), (14, .bool (decide (((x : Nat) : Int) ≥ 256)))] fun ρ => ?_
    refine zR ?_
    refine zS [(17, .int .i64 0), (18, .int .i64 8), (2, .int .i64 8)] ?_
    refine op_nil ?_
    refine zQ ?_
    refine zS [(19, .int .i64 8), (20, .int .u64 ((x / 256 : Nat) : Int)), (21, .int .u8 (IntKind.u8.wrap ((x / 256 : Nat) : Int)))] ?_
    rw [show IntKind.u8.wrap ((x / 256 : Nat) : Int) = ((x / 256 : Nat) : Int) from wrap_u8 (by omega) (by omega)]
    have hX : x / 256 < 256 := by omega
    have hbl : bl (x / 256) ≤ 8 := bl_le64 (n := 8) hX
    refine stv (v := .int .u8 ((bl (x / 256) : Nat) : Int)) (by rfl) (R_lenTab (x / 256) (by kernel_rfl) (by kernel_rfl) hX) ?_
    refine zS [(23, .int .i64 (IntKind.i64.wrap ((bl (x / 256) : Nat) : Int)))] ?_
    rw [show IntKind.i64.wrap ((bl (x / 256) : Nat) : Int) = ((bl (x / 256) : Nat) : Int) from wrap_i64 (by omega) (by omega)]
    refine zS [(24, .int .i64 (IntKind.i64.wrap (8 + ((bl (x / 256) : Nat) : Int))))] ?_
    rw [show IntKind.i64.wrap (8 + ((bl (x / 256) : Nat) : Int)) = 8 + ((bl (x / 256) : Nat) : Int) from wrap_i64 (by omega) (by omega)]
    refine zS [(2, .int .i64 (8 + ((bl (x / 256) : Nat) : Int)))] ?_
    refine op_nil ?_
    refine W_ret ?_
    refine ⟨_, Res_of (v := .int .i64 (8 + ((bl (x / 256) : Nat) : Int))) (by kernel_rfl), ?_⟩
    have e8 : bl (x / 256) + 8 = bl x := bl_div (x := x) (k := 8) (by have : pw 8 = 256 := rfl; omega)
    exact ⟨congrArg (Value.int .i64) (by omega), Tch.refl _ _⟩
   ·
    replace hc13 : ((x : Nat) : Int) < 256 := (Int.not_le.1 (of_decide_eq_false hc13))
    refine W_skip ?_
    refine zQ ?_
    refine zS [(19, .int .i64 0), (20, .int .u64 ((x : Nat) : Int)), (21, .int .u8 (IntKind.u8.wrap ((x : Nat) : Int)))] ?_
    rw [show IntKind.u8.wrap ((x : Nat) : Int) = ((x : Nat) : Int) from wrap_u8 (by omega) (by omega)]
    have hX : x < 256 := by omega
    have hbl : bl x ≤ 8 := bl_le64 (n := 8) hX
    refine stv (v := .int .u8 ((bl x : Nat) : Int)) (by rfl) (R_lenTab x (by kernel_rfl) (by kernel_rfl) hX) ?_
    refine zS [(23, .int .i64 (IntKind.i64.wrap ((bl x : Nat) : Int)))] ?_
    rw [show IntKind.i64.wrap ((bl x : Nat) : Int) = ((bl x : Nat) : Int) from wrap_i64 (by omega) (by omega)]
    refine zS [(24, .int .i64 (IntKind.i64.wrap (0 + ((bl x : Nat) : Int))))] ?_
    rw [show IntKind.i64.wrap (0 + ((bl x : Nat) : Int)) = 0 + ((bl x : Nat) : Int) from wrap_i64 (by omega) (by omega)]
    refine zS [(2, .int .i64 (0 + ((bl x : Nat) : Int)))] ?_
    refine op_nil ?_
    refine W_ret ?_
    refine ⟨_, Res_of (v := .int .i64 (0 + ((bl x : Nat) : Int))) (by kernel_rfl), ?_⟩
    skip
    exact ⟨congrArg (Value.int .i64) (by omega), Tch.refl _ _⟩

set_option maxRecDepth 100000 in
theorem all_ok (wd : Nat) (w : World) (hw : wd ≤ 64) : Ret Try.prog 91 [.int .i64 ((wd : Nat) : Int)] w fun v w' => v = .agg #[.int .u64 (((rall wd).1 : Nat) : Int), .int .u64 (((rall wd).2 : Nat) : Int)] ∧ Tch N0 w w' := by
 refine enter Try.func91 rfl rfl ?_
 refine zQ ?_
 refine st (by rfl) (S_new (v := .pointer (some ⟨w.heap.size, 0, none⟩)) (ob := .cells #[.int .u64 0, .int .u64 0] 113) (by kernel_rfl) fun w1 hT2 hs3 hB4 => ?_)
 replace hB4 : Blk w1 (w.heap.size) 113 [.int .u64 0, .int .u64 0] := hB4
 have hT0 := hT2
 refine op_nil ?_
 refine zQ ?_
 refine zS [(3, .int .i64 ((wd : Nat) : Int))] ?_
 refine zC (mask_okN wd _ (by omega)) ?_
 rintro _ w5 ⟨rfl, hT6⟩
 have hT0 := hT0.t0 hT6
 have hB4 := hB4.tch0 hT6
 have hu7 := pwm_lt (x := wd) (by omega)
 refine zS [(5, .agg #[.int .u64 0, .int .u64 ((pw wd - 1 : Nat) : Int)])] ?_
 refine st (by rfl) (S_storeA (b := w.heap.size) (j := 0) (cs := [.int .u64 0, .int .u64 ((pw wd - 1 : Nat) : Int)]) (by kernel_rfl) (by kernel_rfl) (by kernel_rfl) (by simp [oneV]) hB4 (by simp) fun w8 hT9 hs10 hB4' => ?_)
 have hT0 := (hT0).then hT9 (fun c e => by have : c = w.heap.size := e; omega)
 replace hB4 : Blk w8 w.heap.size 113 [.int .u64 0, .int .u64 ((pw wd - 1 : Nat) : Int)] := hB4'
 refine op_nil ?_
 refine W_ret ?_
 exact ⟨_, Res_cell (b := w.heap.size) (cs := [.int .u64 0, .int .u64 ((pw wd - 1 : Nat) : Int)]) (by rfl) (by kernel_rfl) (by kernel_rfl) hB4 (by kernel_rfl) (by kernel_rfl), ⟨rfl, hT0⟩⟩

set_option maxRecDepth 100000 in
theorem truth_ok (m n : Bool) (w : World) : Ret Try.prog 111 [.bool m, .bool n] w fun v w' => v = .agg #[.int .u64 (((rtruth m n).1 : Nat) : Int), .int .u64 (((rtruth m n).2 : Nat) : Int)] ∧ Tch N0 w w' := by
 refine enter Try.func111 rfl rfl ?_
 refine zQ ?_
 refine st (by rfl) (S_new (v := .pointer (some ⟨w.heap.size, 0, none⟩)) (ob := .cells #[.int .u64 0, .int .u64 0] 113) (by kernel_rfl) fun w1 hT2 hs3 hB4 => ?_)
 replace hB4 : Blk w1 (w.heap.size) 113 [.int .u64 0, .int .u64 0] := hB4
 have hT0 := hT2
 refine op_nil ?_
 refine W_seq ?_
 refine W_block ?_
 refine zQ ?_
 refine zS [(6, .bool m), (5, .bool m)] ?_
 refine zO (m) (fun hc5 => ?_) (fun hc5 => ?_)
 ·
  replace hc5 : m = true := (hc5)
  refine zQ ?_
  refine zS [(7, .agg #[.int .u64 1, .int .u64 1])] ?_
  refine st (by rfl) (S_storeA (b := w.heap.size) (j := 0) (cs := [.int .u64 1, .int .u64 1]) (by kernel_rfl) (by kernel_rfl) (by kernel_rfl) (by simp [oneV]) hB4 (by simp) fun w6 hT7 hs8 hB4' => ?_)
  have hT0 := (hT0).then hT7 (fun c e => by have : c = w.heap.size := e; omega)
  replace hB4 : Blk w6 w.heap.size 113 [.int .u64 1, .int .u64 1] := hB4'
  refine op_nil ?_
  refine W_ret ?_
  exact ⟨_, Res_cell (b := w.heap.size) (cs := [.int .u64 1, .int .u64 1]) (by rfl) (by kernel_rfl) (by kernel_rfl) hB4 (by kernel_rfl) (by kernel_rfl), ⟨by simp [rtruth, *], hT0⟩⟩
 ·
  replace hc5 : m = false := (hc5)
  refine zQ ?_
  refine zS [(9, .bool n), (8, .bool n)] ?_
  refine zO (n) (fun hc9 => ?_) (fun hc9 => ?_)
  ·
   replace hc9 : n = true := (hc9)
   refine zQ ?_
   refine zS [(10, .agg #[.int .u64 0, .int .u64 0])] ?_
   refine st (by rfl) (S_storeA (b := w.heap.size) (j := 0) (cs := [.int .u64 0, .int .u64 0]) (by kernel_rfl) (by kernel_rfl) (by kernel_rfl) (by simp [oneV]) hB4 (by simp) fun w10 hT11 hs12 hB4' => ?_)
   have hT0 := (hT0).then hT11 (fun c e => by have : c = w.heap.size := e; omega)
   replace hB4 : Blk w10 w.heap.size 113 [.int .u64 0, .int .u64 0] := hB4'
   refine op_nil ?_
   refine W_ret ?_
   exact ⟨_, Res_cell (b := w.heap.size) (cs := [.int .u64 0, .int .u64 0]) (by rfl) (by kernel_rfl) (by kernel_rfl) hB4 (by kernel_rfl) (by kernel_rfl), ⟨by simp [rtruth, *], hT0⟩⟩
  ·
   replace hc9 : n = false := (hc9)
   refine W_skip ?_
   refine zQ ?_
   refine zS [(11, .agg #[.int .u64 0, .int .u64 1])] ?_
   refine st (by rfl) (S_storeA (b := w.heap.size) (j := 0) (cs := [.int .u64 0, .int .u64 1]) (by kernel_rfl) (by kernel_rfl) (by kernel_rfl) (by simp [oneV]) hB4 (by simp) fun w13 hT14 hs15 hB4' => ?_)
   have hT0 := (hT0).then hT14 (fun c e => by have : c = w.heap.size := e; omega)
   replace hB4 : Blk w13 w.heap.size 113 [.int .u64 0, .int .u64 1] := hB4'
   refine op_nil ?_
   refine W_ret ?_
   exact ⟨_, Res_cell (b := w.heap.size) (cs := [.int .u64 0, .int .u64 1]) (by rfl) (by kernel_rfl) (by kernel_rfl) hB4 (by kernel_rfl) (by kernel_rfl), ⟨by simp [rtruth, *], hT0⟩⟩

end Go.Proofs.YtlbadnpgmkobdaaV
