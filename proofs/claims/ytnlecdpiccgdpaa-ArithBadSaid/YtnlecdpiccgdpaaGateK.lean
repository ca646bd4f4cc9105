/- The law of keys for the map of gates: four whole numbers. -/
import Derived.Test.YtnlecdpiccgdpaaProg
import Derived.Test.YtnlecdpiccgdpaaVx5
set_option linter.unusedVariables false
set_option linter.unusedSimpArgs false
namespace Go.Proofs.YtnlecdpiccgdpaaV
open Go Go.RowKit Go.Proofs
theorem und34 : Try.prog.underlying 34 = some (.array 4 3) := by kernel_rfl
theorem und3 : Try.prog.underlying 3 = some (.int .i64) := by kernel_rfl
theorem keyT34 : Try.prog.keyTypeAt 3 34 = true := by kernel_rfl
theorem tiled34 : Try.prog.tiled 3 34 = true := by kernel_rfl
theorem key_law : WideMaps.KeyLaw Try.prog 34 := Go.deep_law (m := 3) (by omega) keyT34 tiled34 (by rw [und34])
theorem cells3 : Try.prog.cellsOf 3 = 1 := by kernel_rfl
theorem cells34 : Try.prog.cellsOf 34 = 4 := by kernel_rfl
theorem keyT34' : Try.prog.keyType 34 = true := by kernel_rfl
def key4 (a b c d : Int) : Value := .agg #[.int .i64 a, .int .i64 b, .int .i64 c, .int .i64 d]
theorem lits3 (m : Nat) (x : Int) (h : (Lit.int .i64 x).wf = true) : Try.prog.keyLits (m + 1) 3 [.int .i64 x] = some [.int .i64 x] := by
  simp [Program.keyLits, und3, h]
theorem key_is (a b c d : Int) (ha : (Lit.int .i64 a).wf = true) (hb : (Lit.int .i64 b).wf = true) (hc : (Lit.int .i64 c).wf = true) (hd : (Lit.int .i64 d).wf = true) : ∃ l, keyOf Try.prog 34 (key4 a b c d) = some l := by
  obtain ⟨m, hm⟩ : ∃ m, Try.prog.types.size = m + 1 := ⟨_, rfl⟩
  have hf : (key4 a b c d).formed Try.prog 34 = true := by
    unfold key4 Value.formed
    rw [und34]
    simp [cells34]
  unfold keyOf
  rw [und34]
  simp only [keyT34', hf, Bool.and_self, if_true, hm]
  unfold Program.keyLits
  rw [und34]
  simp [key4, cells34, cells3, Value.cells, List.range_succ, lits3, ha, hb, hc, hd]
end Go.Proofs.YtnlecdpiccgdpaaV
