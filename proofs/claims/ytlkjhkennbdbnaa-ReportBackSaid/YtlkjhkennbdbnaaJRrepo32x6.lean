/- Texts laid together: Walks of functions of the program and of the document's texts. The conditions stand with each theorem. Both readings of a report's bytes are one: plain. Walks of functions of the program and of the document's texts. The conditions stand with each theorem. A report's bytes there and back: plain. -/
import Derived.Test.YtlkjhkennbdbnaaJRrepo32x1
import Derived.Test.YtlkjhkennbdbnaaProg
import Derived.Test.YtlkjhkennbdbnaaJRrepo32x5
import Derived.Stop.Asserts
set_option linter.unusedVariables false
set_option linter.unusedSimpArgs false
namespace Go.Proofs.YtlkjhkennbdbnaaV
open Go Go.RowKit Go.Proofs

theorem noAs (v : Value) (xT : TypeId) (w : World) : (Instr.typeAssert (.iface 72 v) xT 106 true).run Try.prog w = .ok (.tuple #[.nilIface, .bool false]) w := Go.run_typeAssert_lacksB (want := #[("Is", 108)]) (by kernel_rfl) (by kernel_rfl) (by kernel_rfl) v xT w
theorem noAs2 (v : Value) (xT : TypeId) (w : World) : (Instr.typeAssert (.iface 72 v) xT 109 true).run Try.prog w = .ok (.tuple #[.nilIface, .bool false]) w := Go.run_typeAssert_lacksB (want := #[("Unwrap", 110)]) (by kernel_rfl) (by kernel_rfl) (by kernel_rfl) v xT w
theorem noAs3 (v : Value) (xT : TypeId) (w : World) : (Instr.typeAssert (.iface 72 v) xT 111 true).run Try.prog w = .ok (.tuple #[.nilIface, .bool false]) w := Go.run_typeAssert_lacksB (want := #[("Unwrap", 113)]) (by kernel_rfl) (by kernel_rfl) (by kernel_rfl) v xT w

set_option maxRecDepth 100000 in
theorem is_sh_sh (w : World) : Ret Try.prog 53 [.iface 72 (.string (bsT ([116, 111, 111, 32, 115, 104, 111, 114, 116]))), .iface 72 (.string (bsT ([116, 111, 111, 32, 115, 104, 111, 114, 116]))), .bool true] w fun v w' => v = .bool true ∧ Tch N0 w w' := by
 refine enter Try.func53 rfl rfl ?_
 refine zQ ?_
 refine zS [(6, .bool false)] ?_
 refine op_nil ?_
 refine W_block ?_
 refine W_un 1 ?_
 refine Un_s ?_
 refine W_block ?_
 refine W_seq ?_
 refine zQ ?_
 refine zS [(14, .bool true), (15, .bool true), (16, .iface 72 (.string (bsT ([116, 111, 111, 32, 115, 104, 111, 114, 116])))), (17, .iface 72 (.string (bsT ([116, 111, 111, 32, 115, 104, 111, 114, 116])))), (18, .bool true), (19, .bool true)] ?_
 refine zO true (fun _ => ?_) (fun h => nomatch h)
 refine zQ ?_
 refine zS [(6, .bool true)] ?_
 refine op_nil ?_
 refine W_ret ?_
 exact ⟨_, Res_of (v := .bool true) (by kernel_rfl), ⟨rfl, Tch.refl _ _⟩⟩

set_option maxRecDepth 100000 in
theorem Is_sh_sh (w : World) : Ret Try.prog 35 [.iface 72 (.string (bsT ([116, 111, 111, 32, 115, 104, 111, 114, 116]))), .iface 72 (.string (bsT ([116, 111, 111, 32, 115, 104, 111, 114, 116])))] w fun v w' => v = .bool true ∧ Tch N0 w w' := by
 refine enter Try.func35 rfl rfl ?_
 refine zQ ?_
 refine zS [(4, .bool false)] ?_
 refine op_nil ?_
 refine W_seq ?_
 refine zQ ?_
 refine zS [(6, .iface 72 (.string (bsT ([116, 111, 111, 32, 115, 104, 111, 114, 116])))), (7, .bool false), (8, .bool false), (9, .iface 72 (.string (bsT ([116, 111, 111, 32, 115, 104, 111, 114, 116])))), (10, .bool false), (11, .bool false)] ?_
 refine zO false (fun h => nomatch h) (fun _ => ?_)
 refine W_skip ?_
 refine zQ ?_
 refine zS [(15, .iface 72 (.string (bsT ([116, 111, 111, 32, 115, 104, 111, 114, 116]))))] ?_
 refine stv (v := .iface 104 (.agg #[.pointer (some ⟨1, 72, none⟩)])) (w' := w) (by rfl) (by kernel_rfl) ?_
 refine stv (v := .bool true) (w' := w) (by rfl) (by kernel_rfl) ?_
 refine zS [(5, .bool true)] ?_
 refine op_nil ?_
 refine W_seq ?_
 refine zF [(0, .iface 72 (.string (bsT ([116, 111, 111, 32, 115, 104, 111, 114, 116])))), (1, .iface 72 (.string (bsT ([116, 111, 111, 32, 115, 104, 111, 114, 116])))), (4, .bool false), (5, .bool true), (11, .bool false)] fun ρ => ?_
 refine zR ?_
 refine zS [(18, .iface 72 (.string (bsT ([116, 111, 111, 32, 115, 104, 111, 114, 116])))), (19, .iface 72 (.string (bsT ([116, 111, 111, 32, 115, 104, 111, 114, 116])))), (20, .bool true)] ?_
 refine zC (is_sh_sh _) ?_
 rintro _ w1 ⟨rfl, hT2⟩
 have hT0 := hT2
 refine zS [(4, .bool true)] ?_
 refine op_nil ?_
 refine W_ret ?_
 exact ⟨_, Res_of (v := .bool true) (by kernel_rfl), ⟨rfl, hT0⟩⟩

set_option maxRecDepth 100000 in
theorem is_sh_rg (w : World) : Ret Try.prog 53 [.iface 72 (.string (bsT ([116, 111, 111, 32, 115, 104, 111, 114, 116]))), .iface 72 (.string (bsT ([111, 117, 116, 32, 111, 102, 32, 114, 97, 110, 103, 101]))), .bool true] w fun v w' => v = .bool false ∧ Tch N0 w w' := by
 refine enter Try.func53 rfl rfl ?_
 refine zQ ?_
 refine zS [(6, .bool false)] ?_
 refine op_nil ?_
 refine W_block ?_
 refine W_un 1 ?_
 refine Un_s ?_
 refine W_block ?_
 refine W_seq ?_
 refine zQ ?_
 refine zS [(14, .bool true), (15, .bool true), (16, .iface 72 (.string (bsT ([116, 111, 111, 32, 115, 104, 111, 114, 116])))), (17, .iface 72 (.string (bsT ([111, 117, 116, 32, 111, 102, 32, 114, 97, 110, 103, 101])))), (18, .bool false), (19, .bool false)] ?_
 refine zO false (fun h => nomatch h) (fun _ => ?_)
 refine W_skip ?_
 refine W_seq ?_
 refine zQ ?_
 refine zS [(21, .iface 72 (.string (bsT ([116, 111, 111, 32, 115, 104, 111, 114, 116]))))] ?_
 refine stv (v := .tuple #[.nilIface, .bool false]) (by rfl) (R_assert (v := .iface 72 (.string (bsT ([116, 111, 111, 32, 115, 104, 111, 114, 116])))) (v' := .tuple #[.nilIface, .bool false]) (by kernel_rfl) (noAs _ _ _)) ?_
 refine zS [(20, .tuple #[.nilIface, .bool false]), (23, .nilIface), (24, .bool false), (7, .nilIface), (8, .bool false)] ?_
 refine op_nil ?_
 refine W_seq ?_
 refine zF [(0, .iface 72 (.string (bsT ([116, 111, 111, 32, 115, 104, 111, 114, 116])))), (1, .iface 72 (.string (bsT ([111, 117, 116, 32, 111, 102, 32, 114, 97, 110, 103, 101])))), (2, .bool true), (6, .bool false), (7, .nilIface), (8, .bool false), (19, .bool false)] fun ρ => ?_
 refine zR ?_
 refine zS [(25, .bool false), (26, .bool false), (27, undef), (28, undef), (29, undef), (30, .bool false)] ?_
 refine zO false (fun h => nomatch h) (fun _ => ?_)
 refine W_skip ?_
 refine zQ ?_
 refine zS [(31, .iface 72 (.string (bsT ([116, 111, 111, 32, 115, 104, 111, 114, 116]))))] ?_
 refine op_nil ?_
 refine W_block ?_
 refine zQ ?_
 refine stv (v := .tuple #[.nilIface, .bool false]) (by rfl) (R_assert (v := .iface 72 (.string (bsT ([116, 111, 111, 32, 115, 104, 111, 114, 116])))) (v' := .tuple #[.nilIface, .bool false]) (by kernel_rfl) (noAs2 _ _ _)) ?_
 refine zS [(33, .bool false), (34, .nilIface)] ?_
 refine zO false (fun h => nomatch h) (fun _ => ?_)
 refine W_seq ?_
 refine zF [(0, .iface 72 (.string (bsT ([116, 111, 111, 32, 115, 104, 111, 114, 116])))), (1, .iface 72 (.string (bsT ([111, 117, 116, 32, 111, 102, 32, 114, 97, 110, 103, 101])))), (2, .bool true), (6, .bool false), (7, .nilIface), (8, .bool false), (19, .bool false), (30, .bool false), (31, .iface 72 (.string (bsT ([116, 111, 111, 32, 115, 104, 111, 114, 116])))), (33, .bool false), (34, .nilIface)] fun ρ => ?_
 refine zR ?_
 refine stv (v := .tuple #[.nilIface, .bool false]) (by rfl) (R_assert (v := .iface 72 (.string (bsT ([116, 111, 111, 32, 115, 104, 111, 114, 116])))) (v' := .tuple #[.nilIface, .bool false]) (by kernel_rfl) (noAs3 _ _ _)) ?_
 refine zS [(40, .bool false), (41, .nilIface)] ?_
 refine zO false (fun h => nomatch h) (fun _ => ?_)
 refine zQ ?_
 refine zS [(13, .iface 72 (.string (bsT ([116, 111, 111, 32, 115, 104, 111, 114, 116]))))] ?_
 refine op_nil ?_
 refine zQ ?_
 refine zS [(6, .bool false)] ?_
 refine op_nil ?_
 refine W_ret ?_
 exact ⟨_, Res_of (v := .bool false) (by kernel_rfl), ⟨rfl, Tch.refl _ _⟩⟩

set_option maxRecDepth 100000 in
theorem Is_sh_rg (w : World) : Ret Try.prog 35 [.iface 72 (.string (bsT ([116, 111, 111, 32, 115, 104, 111, 114, 116]))), .iface 72 (.string (bsT ([111, 117, 116, 32, 111, 102, 32, 114, 97, 110, 103, 101])))] w fun v w' => v = .bool false ∧ Tch N0 w w' := by
 refine enter Try.func35 rfl rfl ?_
 refine zQ ?_
 refine zS [(4, .bool false)] ?_
 refine op_nil ?_
 refine W_seq ?_
 refine zQ ?_
 refine zS [(6, .iface 72 (.string (bsT ([116, 111, 111, 32, 115, 104, 111, 114, 116])))), (7, .bool false), (8, .bool false), (9, .iface 72 (.string (bsT ([111, 117, 116, 32, 111, 102, 32, 114, 97, 110, 103, 101])))), (10, .bool false), (11, .bool false)] ?_
 refine zO false (fun h => nomatch h) (fun _ => ?_)
 refine W_skip ?_
 refine zQ ?_
 refine zS [(15, .iface 72 (.string (bsT ([111, 117, 116, 32, 111, 102, 32, 114, 97, 110, 103, 101]))))] ?_
 refine stv (v := .iface 104 (.agg #[.pointer (some ⟨1, 72, none⟩)])) (w' := w) (by rfl) (by kernel_rfl) ?_
 refine stv (v := .bool true) (w' := w) (by rfl) (by kernel_rfl) ?_
 refine zS [(5, .bool true)] ?_
 refine op_nil ?_
 refine W_seq ?_
 refine zF [(0, .iface 72 (.string (bsT ([116, 111, 111, 32, 115, 104, 111, 114, 116])))), (1, .iface 72 (.string (bsT ([111, 117, 116, 32, 111, 102, 32, 114, 97, 110, 103, 101])))), (4, .bool false), (5, .bool true), (11, .bool false)] fun ρ => ?_
 refine zR ?_
 refine zS [(18, .iface 72 (.string (bsT ([116, 111, 111, 32, 115, 104, 111, 114, 116])))), (19, .iface 72 (.string (bsT ([111, 117, 116, 32, 111, 102, 32, 114, 97, 110, 103, 101])))), (20, .bool true)] ?_
 refine zC (is_sh_rg _) ?_
 rintro _ w1 ⟨rfl, hT2⟩
 have hT0 := hT2
 refine zS [(4, .bool false)] ?_
 refine op_nil ?_
 refine W_ret ?_
 exact ⟨_, Res_of (v := .bool false) (by kernel_rfl), ⟨rfl, hT0⟩⟩

set_option maxRecDepth 100000 in
theorem is_sh_fm (w : World) : Ret Try.prog 53 [.iface 72 (.string (bsT ([116, 111, 111, 32, 115, 104, 111, 114, 116]))), .iface 72 (.string (bsT ([98, 121, 116, 101, 115, 32, 108, 101, 102, 116]))), .bool true] w fun v w' => v = .bool false ∧ Tch N0 w w' := by
 refine enter Try.func53 rfl rfl ?_
 refine zQ ?_
 refine zS [(6, .bool false)] ?_
 refine op_nil ?_
 refine W_block ?_
 refine W_un 1 ?_
 refine Un_s ?_
 refine W_block ?_
 refine W_seq ?_
 refine zQ ?_
 refine zS [(14, .bool true), (15, .bool true), (16, .iface 72 (.string (bsT ([116, 111, 111, 32, 115, 104, 111, 114, 116])))), (17, .iface 72 (.string (bsT ([98, 121, 116, 101, 115, 32, 108, 101, 102, 116])))), (18, .bool false), (19, .bool false)] ?_
 refine zO false (fun h => nomatch h) (fun _ => ?_)
 refine W_skip ?_
 refine W_seq ?_
 refine zQ ?_
 refine zS [(21, .iface 72 (.string (bsT ([116, 111, 111, 32, 115, 104, 111, 114, 116]))))] ?_
 refine stv (v := .tuple #[.nilIface, .bool false]) (by rfl) (R_assert (v := .iface 72 (.string (bsT ([116, 111, 111, 32, 115, 104, 111, 114, 116])))) (v' := .tuple #[.nilIface, .bool false]) (by kernel_rfl) (noAs _ _ _)) ?_
 refine zS [(20, .tuple #[.nilIface, .bool false]), (23, .nilIface), (24, .bool false), (7, .nilIface), (8, .bool false)] ?_
 refine op_nil ?_
 refine W_seq ?_
 refine zF [(0, .iface 72 (.string (bsT ([116, 111, 111, 32, 115, 104, 111, 114, 116])))), (1, .iface 72 (.string (bsT ([98, 121, 116, 101, 115, 32, 108, 101, 102, 116])))), (2, .bool true), (6, .bool false), (7, .nilIface), (8, .bool false), (19, .bool false)] fun ρ => ?_
 refine zR ?_
 refine zS [(25, .bool false), (26, .bool false), (27, undef), (28, undef), (29, undef), (30, .bool false)] ?_
 refine zO false (fun h => nomatch h) (fun _ => ?_)
 refine W_skip ?_
 refine zQ ?_
 refine zS [(31, .iface 72 (.string (bsT ([116, 111, 111, 32, 115, 104, 111, 114, 116]))))] ?_
 refine op_nil ?_
 refine W_block ?_
 refine zQ ?_
 refine stv (v := .tuple #[.nilIface, .bool false]) (by rfl) (R_assert (v := .iface 72 (.string (bsT ([116, 111, 111, 32, 115, 104, 111, 114, 116])))) (v' := .tuple #[.nilIface, .bool false]) (by kernel_rfl) (noAs2 _ _ _)) ?_
 refine zS [(33, .bool false), (34, .nilIface)] ?_
 refine zO false (fun h => nomatch h) (fun _ => ?_)
 refine W_seq ?_
 refine zF [(0, .iface 72 (.string (bsT ([116, 111, 111, 32, 115, 104, 111, 114, 116])))), (1, .iface 72 (.string (bsT ([98, 121, 116, 101, 115, 32, 108, 101, 102, 116])))), (2, .bool true), (6, .bool false), (7, .nilIface), (8, .bool false), (19, .bool false), (30, .bool false), (31, .iface 72 (.string (bsT ([116, 111, 111, 32, 115, 104, 111, 114, 116])))), (33, .bool false), (34, .nilIface)] fun ρ => ?_
 refine zR ?_
 refine stv (v := .tuple #[.nilIface, .bool false]) (by rfl) (R_assert (v := .iface 72 (.string (bsT ([116, 111, 111, 32, 115, 104, 111, 114, 116])))) (v' := .tuple #[.nilIface, .bool false]) (by kernel_rfl) (noAs3 _ _ _)) ?_
 refine zS [(40, .bool false), (41, .nilIface)] ?_
 refine zO false (fun h => nomatch h) (fun _ => ?_)
 refine zQ ?_
 refine zS [(13, .iface 72 (.string (bsT ([116, 111, 111, 32, 115, 104, 111, 114, 116]))))] ?_
 refine op_nil ?_
 refine zQ ?_
 refine zS [(6, .bool false)] ?_
 refine op_nil ?_
 refine W_ret ?_
 exact ⟨_, Res_of (v := .bool false) (by kernel_rfl), ⟨rfl, Tch.refl _ _⟩⟩

set_option maxRecDepth 100000 in
theorem Is_sh_fm (w : World) : Ret Try.prog 35 [.iface 72 (.string (bsT ([116, 111, 111, 32, 115, 104, 111, 114, 116]))), .iface 72 (.string (bsT ([98, 121, 116, 101, 115, 32, 108, 101, 102, 116])))] w fun v w' => v = .bool false ∧ Tch N0 w w' := by
 refine enter Try.func35 rfl rfl ?_
 refine zQ ?_
 refine zS [(4, .bool false)] ?_
 refine op_nil ?_
 refine W_seq ?_
 refine zQ ?_
 refine zS [(6, .iface 72 (.string (bsT ([116, 111, 111, 32, 115, 104, 111, 114, 116])))), (7, .bool false), (8, .bool false), (9, .iface 72 (.string (bsT ([98, 121, 116, 101, 115, 32, 108, 101, 102, 116])))), (10, .bool false), (11, .bool false)] ?_
 refine zO false (fun h => nomatch h) (fun _ => ?_)
 refine W_skip ?_
 refine zQ ?_
 refine zS [(15, .iface 72 (.string (bsT ([98, 121, 116, 101, 115, 32, 108, 101, 102, 116]))))] ?_
 refine stv (v := .iface 104 (.agg #[.pointer (some ⟨1, 72, none⟩)])) (w' := w) (by rfl) (by kernel_rfl) ?_
 refine stv (v := .bool true) (w' := w) (by rfl) (by kernel_rfl) ?_
 refine zS [(5, .bool true)] ?_
 refine op_nil ?_
 refine W_seq ?_
 refine zF [(0, .iface 72 (.string (bsT ([116, 111, 111, 32, 115, 104, 111, 114, 116])))), (1, .iface 72 (.string (bsT ([98, 121, 116, 101, 115, 32, 108, 101, 102, 116])))), (4, .bool false), (5, .bool true), (11, .bool false)] fun ρ => ?_
 refine zR ?_
 refine zS [(18, .iface 72 (.string (bsT ([116, 111, 111, 32, 115, 104, 111, 114, 116])))), (19, .iface 72 (.string (bsT ([98, 121, 116, 101, 115, 32, 108, 101, 102, 116])))), (20, .bool true)] ?_
 refine zC (is_sh_fm _) ?_
 rintro _ w1 ⟨rfl, hT2⟩
 have hT0 := hT2
 refine zS [(4, .bool false)] ?_
 refine op_nil ?_
 refine W_ret ?_
 exact ⟨_, Res_of (v := .bool false) (by kernel_rfl), ⟨rfl, hT0⟩⟩

set_option maxRecDepth 100000 in
theorem is_rg_sh (w : World) : Ret Try.prog 53 [.iface 72 (.string (bsT ([111, 117, 116, 32, 111, 102, 32, 114, 97, 110, 103, 101]))), .iface 72 (.string (bsT ([116, 111, 111, 32, 115, 104, 111, 114, 116]))), .bool true] w fun v w' => v = .bool false ∧ Tch N0 w w' := by
 refine enter Try.func53 rfl rfl ?_
 refine zQ ?_
 refine zS [(6, .bool false)] ?_
 refine op_nil ?_
 refine W_block ?_
 refine W_un 1 ?_
 refine Un_s ?_
 refine W_block ?_
 refine W_seq ?_
 refine zQ ?_
 refine zS [(14, .bool true), (15, .bool true), (16, .iface 72 (.string (bsT ([111, 117, 116, 32, 111, 102, 32, 114, 97, 110, 103, 101])))), (17, .iface 72 (.string (bsT ([116, 111, 111, 32, 115, 104, 111, 114, 116])))), (18, .bool false), (19, .bool false)] ?_
 refine zO false (fun h => nomatch h) (fun _ => ?_)
 refine W_skip ?_
 refine W_seq ?_
 refine zQ ?_
 refine zS [(21, .iface 72 (.string (bsT ([111, 117, 116, 32, 111, 102, 32, 114, 97, 110, 103, 101]))))] ?_
 refine stv (v := .tuple #[.nilIface, .bool false]) (by rfl) (R_assert (v := .iface 72 (.string (bsT ([111, 117, 116, 32, 111, 102, 32, 114, 97, 110, 103, 101])))) (v' := .tuple #[.nilIface, .bool false]) (by kernel_rfl) (noAs _ _ _)) ?_
 refine zS [(20, .tuple #[.nilIface, .bool false]), (23, .nilIface), (24, .bool false), (7, .nilIface), (8, .bool false)] ?_
 refine op_nil ?_
 refine W_seq ?_
 refine zF [(0, .iface 72 (.string (bsT ([111, 117, 116, 32, 111, 102, 32, 114, 97, 110, 103, 101])))), (1, .iface 72 (.string (bsT ([116, 111, 111, 32, 115, 104, 111, 114, 116])))), (2, .bool true), (6, .bool false), (7, .nilIface), (8, .bool false), (19, .bool false)] fun ρ => ?_
 refine zR ?_
 refine zS [(25, .bool false), (26, .bool false), (27, undef), (28, undef), (29, undef), (30, .bool false)] ?_
 refine zO false (fun h => nomatch h) (fun _ => ?_)
 refine W_skip ?_
 refine zQ ?_
 refine zS [(31, .iface 72 (.string (bsT ([111, 117, 116, 32, 111, 102, 32, 114, 97, 110, 103, 101]))))] ?_
 refine op_nil ?_
 refine W_block ?_
 refine zQ ?_
 refine stv (v := .tuple #[.nilIface, .bool false]) (by rfl) (R_assert (v := .iface 72 (.string (bsT ([111, 117, 116, 32, 111, 102, 32, 114, 97, 110, 103, 101])))) (v' := .tuple #[.nilIface, .bool false]) (by kernel_rfl) (noAs2 _ _ _)) ?_
 refine zS [(33, .bool false), (34, .nilIface)] ?_
 refine zO false (fun h => nomatch h) (fun _ => ?_)
 refine W_seq ?_
 refine zF [(0, .iface 72 (.string (bsT ([111, 117, 116, 32, 111, 102, 32, 114, 97, 110, 103, 101])))), (1, .iface 72 (.string (bsT ([116, 111, 111, 32, 115, 104, 111, 114, 116])))), (2, .bool true), (6, .bool false), (7, .nilIface), (8, .bool false), (19, .bool false), (30, .bool false), (31, .iface 72 (.string (bsT ([111, 117, 116, 32, 111, 102, 32, 114, 97, 110, 103, 101])))), (33, .bool false), (34, .nilIface)] fun ρ => ?_
 refine zR ?_
 refine stv (v := .tuple #[.nilIface, .bool false]) (by rfl) (R_assert (v := .iface 72 (.string (bsT ([111, 117, 116, 32, 111, 102, 32, 114, 97, 110, 103, 101])))) (v' := .tuple #[.nilIface, .bool false]) (by kernel_rfl) (noAs3 _ _ _)) ?_
 refine zS [(40, .bool false), (41, .nilIface)] ?_
 refine zO false (fun h => nomatch h) (fun _ => ?_)
 refine zQ ?_
 refine zS [(13, .iface 72 (.string (bsT ([111, 117, 116, 32, 111, 102, 32, 114, 97, 110, 103, 101]))))] ?_
 refine op_nil ?_
 refine zQ ?_
 refine zS [(6, .bool false)] ?_
 refine op_nil ?_
 refine W_ret ?_
 exact ⟨_, Res_of (v := .bool false) (by kernel_rfl), ⟨rfl, Tch.refl _ _⟩⟩

set_option maxRecDepth 100000 in
theorem Is_rg_sh (w : World) : Ret Try.prog 35 [.iface 72 (.string (bsT ([111, 117, 116, 32, 111, 102, 32, 114, 97, 110, 103, 101]))), .iface 72 (.string (bsT ([116, 111, 111, 32, 115, 104, 111, 114, 116])))] w fun v w' => v = .bool false ∧ Tch N0 w w' := by
 refine enter Try.func35 rfl rfl ?_
 refine zQ ?_
 refine zS [(4, .bool false)] ?_
 refine op_nil ?_
 refine W_seq ?_
 refine zQ ?_
 refine zS [(6, .iface 72 (.string (bsT ([111, 117, 116, 32, 111, 102, 32, 114, 97, 110, 103, 101])))), (7, .bool false), (8, .bool false), (9, .iface 72 (.string (bsT ([116, 111, 111, 32, 115, 104, 111, 114, 116])))), (10, .bool false), (11, .bool false)] ?_
 refine zO false (fun h => nomatch h) (fun _ => ?_)
 refine W_skip ?_
 refine zQ ?_
 refine zS [(15, .iface 72 (.string (bsT ([116, 111, 111, 32, 115, 104, 111, 114, 116]))))] ?_
 refine stv (v := .iface 104 (.agg #[.pointer (some ⟨1, 72, none⟩)])) (w' := w) (by rfl) (by kernel_rfl) ?_
 refine stv (v := .bool true) (w' := w) (by rfl) (by kernel_rfl) ?_
 refine zS [(5, .bool true)] ?_
 refine op_nil ?_
 refine W_seq ?_
 refine zF [(0, .iface 72 (.string (bsT ([111, 117, 116, 32, 111, 102, 32, 114, 97, 110, 103, 101])))), (1, .iface 72 (.string (bsT ([116, 111, 111, 32, 115, 104, 111, 114, 116])))), (4, .bool false), (5, .bool true), (11, .bool false)] fun ρ => ?_
 refine zR ?_
 refine zS [(18, .iface 72 (.string (bsT ([111, 117, 116, 32, 111, 102, 32, 114, 97, 110, 103, 101])))), (19, .iface 72 (.string (bsT ([116, 111, 111, 32, 115, 104, 111, 114, 116])))), (20, .bool true)] ?_
 refine zC (is_rg_sh _) ?_
 rintro _ w1 ⟨rfl, hT2⟩
 have hT0 := hT2
 refine zS [(4, .bool false)] ?_
 refine op_nil ?_
 refine W_ret ?_
 exact ⟨_, Res_of (v := .bool false) (by kernel_rfl), ⟨rfl, hT0⟩⟩

set_option maxRecDepth 100000 in
theorem is_rg_rg (w : World) : Ret Try.prog 53 [.iface 72 (.string (bsT ([111, 117, 116, 32, 111, 102, 32, 114, 97, 110, 103, 101]))), .iface 72 (.string (bsT ([111, 117, 116, 32, 111, 102, 32, 114, 97, 110, 103, 101]))), .bool true] w fun v w' => v = .bool true ∧ Tch N0 w w' := by
 refine enter Try.func53 rfl rfl ?_
 refine zQ ?_
 refine zS [(6, .bool false)] ?_
 refine op_nil ?_
 refine W_block ?_
 refine W_un 1 ?_
 refine Un_s ?_
 refine W_block ?_
 refine W_seq ?_
 refine zQ ?_
 refine zS [(14, .bool true), (15, .bool true), (16, .iface 72 (.string (bsT ([111, 117, 116, 32, 111, 102, 32, 114, 97, 110, 103, 101])))), (17, .iface 72 (.string (bsT ([111, 117, 116, 32, 111, 102, 32, 114, 97, 110, 103, 101])))), (18, .bool true), (19, .bool true)] ?_
 refine zO true (fun _ => ?_) (fun h => nomatch h)
 refine zQ ?_
 refine zS [(6, .bool true)] ?_
 refine op_nil ?_
 refine W_ret ?_
 exact ⟨_, Res_of (v := .bool true) (by kernel_rfl), ⟨rfl, Tch.refl _ _⟩⟩

set_option maxRecDepth 100000 in
theorem Is_rg_rg (w : World) : Ret Try.prog 35 [.iface 72 (.string (bsT ([111, 117, 116, 32, 111, 102, 32, 114, 97, 110, 103, 101]))), .iface 72 (.string (bsT ([111, 117, 116, 32, 111, 102, 32, 114, 97, 110, 103, 101])))] w fun v w' => v = .bool true ∧ Tch N0 w w' := by
 refine enter Try.func35 rfl rfl ?_
 refine zQ ?_
 refine zS [(4, .bool false)] ?_
 refine op_nil ?_
 refine W_seq ?_
 refine zQ ?_
 refine zS [(6, .iface 72 (.string (bsT ([111, 117, 116, 32, 111, 102, 32, 114, 97, 110, 103, 101])))), (7, .bool false), (8, .bool false), (9, .iface 72 (.string (bsT ([111, 117, 116, 32, 111, 102, 32, 114, 97, 110, 103, 101])))), (10, .bool false), (11, .bool false)] ?_
 refine zO false (fun h => nomatch h) (fun _ => ?_)
 refine W_skip ?_
 refine zQ ?_
 refine zS [(15, .iface 72 (.string (bsT ([111, 117, 116, 32, 111, 102, 32, 114, 97, 110, 103, 101]))))] ?_
 refine stv (v := .iface 104 (.agg #[.pointer (some ⟨1, 72, none⟩)])) (w' := w) (by rfl) (by kernel_rfl) ?_
 refine stv (v := .bool true) (w' := w) (by rfl) (by kernel_rfl) ?_
 refine zS [(5, .bool true)] ?_
 refine op_nil ?_
 refine W_seq ?_
 refine zF [(0, .iface 72 (.string (bsT ([111, 117, 116, 32, 111, 102, 32, 114, 97, 110, 103, 101])))), (1, .iface 72 (.string (bsT ([111, 117, 116, 32, 111, 102, 32, 114, 97, 110, 103, 101])))), (4, .bool false), (5, .bool true), (11, .bool false)] fun ρ => ?_
 refine zR ?_
 refine zS [(18, .iface 72 (.string (bsT ([111, 117, 116, 32, 111, 102, 32, 114, 97, 110, 103, 101])))), (19, .iface 72 (.string (bsT ([111, 117, 116, 32, 111, 102, 32, 114, 97, 110, 103, 101])))), (20, .bool true)] ?_
 refine zC (is_rg_rg _) ?_
 rintro _ w1 ⟨rfl, hT2⟩
 have hT0 := hT2
 refine zS [(4, .bool true)] ?_
 refine op_nil ?_
 refine W_ret ?_
 exact ⟨_, Res_of (v := .bool true) (by kernel_rfl), ⟨rfl, hT0⟩⟩

set_option maxRecDepth 100000 in
theorem is_rg_fm (w : World) : Ret Try.prog 53 [.iface 72 (.string (bsT ([111, 117, 116, 32, 111, 102, 32, 114, 97, 110, 103, 101]))), .iface 72 (.string (bsT ([98, 121, 116, 101, 115, 32, 108, 101, 102, 116]))), .bool true] w fun v w' => v = .bool false ∧ Tch N0 w w' := by
 refine enter Try.func53 rfl rfl ?_
 refine zQ ?_
 refine zS [(6, .bool false)] ?_
 refine op_nil ?_
 refine W_block ?_
 refine W_un 1 ?_
 refine Un_s ?_
 refine W_block ?_
 refine W_seq ?_
 refine zQ ?_
 refine zS [(14, .bool true), (15, .bool true), (16, .iface 72 (.string (bsT ([111, 117, 116, 32, 111, 102, 32, 114, 97, 110, 103, 101])))), (17, .iface 72 (.string (bsT ([98, 121, 116, 101, 115, 32, 108, 101, 102, 116])))), (18, .bool false), (19, .bool false)] ?_
 refine zO false (fun h => nomatch h) (fun _ => ?_)
 refine W_skip ?_
 refine W_seq ?_
 refine zQ ?_
 refine zS [(21, .iface 72 (.string (bsT ([111, 117, 116, 32, 111, 102, 32, 114, 97, 110, 103, 101]))))] ?_
 refine stv (v := .tuple #[.nilIface, .bool false]) (by rfl) (R_assert (v := .iface 72 (.string (bsT ([111, 117, 116, 32, 111, 102, 32, 114, 97, 110, 103, 101])))) (v' := .tuple #[.nilIface, .bool false]) (by kernel_rfl) (noAs _ _ _)) ?_
 refine zS [(20, .tuple #[.nilIface, .bool false]), (23, .nilIface), (24, .bool false), (7, .nilIface), (8, .bool false)] ?_
 refine op_nil ?_
 refine W_seq ?_
 refine zF [(0, .iface 72 (.string (bsT ([111, 117, 116, 32, 111, 102, 32, 114, 97, 110, 103, 101])))), (1, .iface 72 (.string (bsT ([98, 121, 116, 101, 115, 32, 108, 101, 102, 116])))), (2, .bool true), (6, .bool false), (7, .nilIface), (8, .bool false), (19, .bool false)] fun ρ => ?_
 refine zR ?_
 refine zS [(25, .bool false), (26, .bool false), (27, undef), (28, undef), (29, undef), (30, .bool false)] ?_
 refine zO false (fun h => nomatch h) (fun _ => ?_)
 refine W_skip ?_
 refine zQ ?_
 refine zS [(31, .iface 72 (.string (bsT ([111, 117, 116, 32, 111, 102, 32, 114, 97, 110, 103, 101]))))] ?_
 refine op_nil ?_
 refine W_block ?_
 refine zQ ?_
 refine stv (v := .tuple #[.nilIface, .bool false]) (by rfl) (R_assert (v := .iface 72 (.string (bsT ([111, 117, 116, 32, 111, 102, 32, 114, 97, 110, 103, 101])))) (v' := .tuple #[.nilIface, .bool false]) (by kernel_rfl) (noAs2 _ _ _)) ?_
 refine zS [(33, .bool false), (34, .nilIface)] ?_
 refine zO false (fun h => nomatch h) (fun _ => ?_)
 refine W_seq ?_
 refine zF [(0, .iface 72 (.string (bsT ([111, 117, 116, 32, 111, 102, 32, 114, 97, 110, 103, 101])))), (1, .iface 72 (.string (bsT ([98, 121, 116, 101, 115, 32, 108, 101, 102, 116])))), (2, .bool true), (6, .bool false), (7, .nilIface), (8, .bool false), (19, .bool false), (30, .bool false), (31, .iface 72 (.string (bsT ([111, 117, 116, 32, 111, 102, 32, 114, 97, 110, 103, 101])))), (33, .bool false), (34, .nilIface)] fun ρ => ?_
 refine zR ?_
 refine stv (v := .tuple #[.nilIface, .bool false]) (by rfl) (R_assert (v := .iface 72 (.string (bsT ([111, 117, 116, 32, 111, 102, 32, 114, 97, 110, 103, 101])))) (v' := .tuple #[.nilIface, .bool false]) (by kernel_rfl) (noAs3 _ _ _)) ?_
 refine zS [(40, .bool false), (41, .nilIface)] ?_
 refine zO false (fun h => nomatch h) (fun _ => ?_)
 refine zQ ?_
 refine zS [(13, .iface 72 (.string (bsT ([111, 117, 116, 32, 111, 102, 32, 114, 97, 110, 103, 101]))))] ?_
 refine op_nil ?_
 refine zQ ?_
 refine zS [(6, .bool false)] ?_
 refine op_nil ?_
 refine W_ret ?_
 exact ⟨_, Res_of (v := .bool false) (by kernel_rfl), ⟨rfl, Tch.refl _ _⟩⟩

set_option maxRecDepth 100000 in
theorem Is_rg_fm (w : World) : Ret Try.prog 35 [.iface 72 (.string (bsT ([111, 117, 116, 32, 111, 102, 32, 114, 97, 110, 103, 101]))), .iface 72 (.string (bsT ([98, 121, 116, 101, 115, 32, 108, 101, 102, 116])))] w fun v w' => v = .bool false ∧ Tch N0 w w' := by
 refine enter Try.func35 rfl rfl ?_
 refine zQ ?_
 refine zS [(4, .bool false)] ?_
 refine op_nil ?_
 refine W_seq ?_
 refine zQ ?_
 refine zS [(6, .iface 72 (.string (bsT ([111, 117, 116, 32, 111, 102, 32, 114, 97, 110, 103, 101])))), (7, .bool false), (8, .bool false), (9, .iface 72 (.string (bsT ([98, 121, 116, 101, 115, 32, 108, 101, 102, 116])))), (10, .bool false), (11, .bool false)] ?_
 refine zO false (fun h => nomatch h) (fun _ => ?_)
 refine W_skip ?_
 refine zQ ?_
 refine zS [(15, .iface 72 (.string (bsT ([98, 121, 116, 101, 115, 32, 108, 101, 102, 116]))))] ?_
 refine stv (v := .iface 104 (.agg #[.pointer (some ⟨1, 72, none⟩)])) (w' := w) (by rfl) (by kernel_rfl) ?_
 refine stv (v := .bool true) (w' := w) (by rfl) (by kernel_rfl) ?_
 refine zS [(5, .bool true)] ?_
 refine op_nil ?_
 refine W_seq ?_
 refine zF [(0, .iface 72 (.string (bsT ([111, 117, 116, 32, 111, 102, 32, 114, 97, 110, 103, 101])))), (1, .iface 72 (.string (bsT ([98, 121, 116, 101, 115, 32, 108, 101, 102, 116])))), (4, .bool false), (5, .bool true), (11, .bool false)] fun ρ => ?_
 refine zR ?_
 refine zS [(18, .iface 72 (.string (bsT ([111, 117, 116, 32, 111, 102, 32, 114, 97, 110, 103, 101])))), (19, .iface 72 (.string (bsT ([98, 121, 116, 101, 115, 32, 108, 101, 102, 116])))), (20, .bool true)] ?_
 refine zC (is_rg_fm _) ?_
 rintro _ w1 ⟨rfl, hT2⟩
 have hT0 := hT2
 refine zS [(4, .bool false)] ?_
 refine op_nil ?_
 refine W_ret ?_
 exact ⟨_, Res_of (v := .bool false) (by kernel_rfl), ⟨rfl, hT0⟩⟩

set_option maxRecDepth 100000 in
theorem is_fm_sh (w : World) : Ret Try.prog 53 [.iface 72 (.string (bsT ([98, 121, 116, 101, 115, 32, 108, 101, 102, 116]))), .iface 72 (.string (bsT ([116, 111, 111, 32, 115, 104, 111, 114, 116]))), .bool true] w fun v w' => v = .bool false ∧ Tch N0 w w' := by
 refine enter Try.func53 rfl rfl ?_
 refine zQ ?_
 refine zS [(6, .bool false)] ?_
 refine op_nil ?_
 refine W_block ?_
 refine W_un 1 ?_
 refine Un_s ?_
 refine W_block ?_
 refine W_seq ?_
 refine zQ ?_
 refine zS [(14, .bool true), (15, .bool true), (16, .iface 72 (.string (bsT ([98, 121, 116, 101, 115, 32, 108, 101, 102, 116])))), (17, .iface 72 (.string (bsT ([116, 111, 111, 32, 115, 104, 111, 114, 116])))), (18, .bool false), (19, .bool false)] ?_
 refine zO false (fun h => nomatch h) (fun _ => ?_)
 refine W_skip ?_
 refine W_seq ?_
 refine zQ ?_
 refine zS [(21, .iface 72 (.string (bsT ([98, 121, 116, 101, 115, 32, 108, 101, 102, 116]))))] ?_
 refine stv (v := .tuple #[.nilIface, .bool false]) (by rfl) (R_assert (v := .iface 72 (.string (bsT ([98, 121, 116, 101, 115, 32, 108, 101, 102, 116])))) (v' := .tuple #[.nilIface, .bool false]) (by kernel_rfl) (noAs _ _ _)) ?_
 refine zS [(20, .tuple #[.nilIface, .bool false]), (23, .nilIface), (24, .bool false), (7, .nilIface), (8, .bool false)] ?_
 refine op_nil ?_
 refine W_seq ?_
 refine zF [(0, .iface 72 (.string (bsT ([98, 121, 116, 101, 115, 32, 108, 101, 102, 116])))), (1, .iface 72 (.string (bsT ([116, 111, 111, 32, 115, 104, 111, 114, 116])))), (2, .bool true), (6, .bool false), (7, .nilIface), (8, .bool false), (19, .bool false)] fun ρ => ?_
 refine zR ?_
 refine zS [(25, .bool false), (26, .bool false), (27, undef), (28, undef), (29, undef), (30, .bool false)] ?_
 refine zO false (fun h => nomatch h) (fun _ => ?_)
 refine W_skip ?_
 refine zQ ?_
 refine zS [(31, .iface 72 (.string (bsT ([98, 121, 116, 101, 115, 32, 108, 101, 102, 116]))))] ?_
 refine op_nil ?_
 refine W_block ?_
 refine zQ ?_
 refine stv (v := .tuple #[.nilIface, .bool false]) (by rfl) (R_assert (v := .iface 72 (.string (bsT ([98, 121, 116, 101, 115, 32, 108, 101, 102, 116])))) (v' := .tuple #[.nilIface, .bool false]) (by kernel_rfl) (noAs2 _ _ _)) ?_
 refine zS [(33, .bool false), (34, .nilIface)] ?_
 refine zO false (fun h => nomatch h) (fun _ => ?_)
 refine W_seq ?_
 refine zF [(0, .iface 72 (.string (bsT ([98, 121, 116, 101, 115, 32, 108, 101, 102, 116])))), (1, .iface 72 (.string (bsT ([116, 111, 111, 32, 115, 104, 111, 114, 116])))), (2, .bool true), (6, .bool false), (7, .nilIface), (8, .bool false), (19, .bool false), (30, .bool false), (31, .iface 72 (.string (bsT ([98, 121, 116, 101, 115, 32, 108, 101, 102, 116])))), (33, .bool false), (34, .nilIface)] fun ρ => ?_
 refine zR ?_
 refine stv (v := .tuple #[.nilIface, .bool false]) (by rfl) (R_assert (v := .iface 72 (.string (bsT ([98, 121, 116, 101, 115, 32, 108, 101, 102, 116])))) (v' := .tuple #[.nilIface, .bool false]) (by kernel_rfl) (noAs3 _ _ _)) ?_
 refine zS [(40, .bool false), (41, .nilIface)] ?_
 refine zO false (fun h => nomatch h) (fun _ => ?_)
 refine zQ ?_
 refine zS [(13, .iface 72 (.string (bsT ([98, 121, 116, 101, 115, 32, 108, 101, 102, 116]))))] ?_
 refine op_nil ?_
 refine zQ ?_
 refine zS [(6, .bool false)] ?_
 refine op_nil ?_
 refine W_ret ?_
 exact ⟨_, Res_of (v := .bool false) (by kernel_rfl), ⟨rfl, Tch.refl _ _⟩⟩

set_option maxRecDepth 100000 in
theorem Is_fm_sh (w : World) : Ret Try.prog 35 [.iface 72 (.string (bsT ([98, 121, 116, 101, 115, 32, 108, 101, 102, 116]))), .iface 72 (.string (bsT ([116, 111, 111, 32, 115, 104, 111, 114, 116])))] w fun v w' => v = .bool false ∧ Tch N0 w w' := by
 refine enter Try.func35 rfl rfl ?_
 refine zQ ?_
 refine zS [(4, .bool false)] ?_
 refine op_nil ?_
 refine W_seq ?_
 refine zQ ?_
 refine zS [(6, .iface 72 (.string (bsT ([98, 121, 116, 101, 115, 32, 108, 101, 102, 116])))), (7, .bool false), (8, .bool false), (9, .iface 72 (.string (bsT ([116, 111, 111, 32, 115, 104, 111, 114, 116])))), (10, .bool false), (11, .bool false)] ?_
 refine zO false (fun h => nomatch h) (fun _ => ?_)
 refine W_skip ?_
 refine zQ ?_
 refine zS [(15, .iface 72 (.string (bsT ([116, 111, 111, 32, 115, 104, 111, 114, 116]))))] ?_
 refine stv (v := .iface 104 (.agg #[.pointer (some ⟨1, 72, none⟩)])) (w' := w) (by rfl) (by kernel_rfl) ?_
 refine stv (v := .bool true) (w' := w) (by rfl) (by kernel_rfl) ?_
 refine zS [(5, .bool true)] ?_
 refine op_nil ?_
 refine W_seq ?_
 refine zF [(0, .iface 72 (.string (bsT ([98, 121, 116, 101, 115, 32, 108, 101, 102, 116])))), (1, .iface 72 (.string (bsT ([116, 111, 111, 32, 115, 104, 111, 114, 116])))), (4, .bool false), (5, .bool true), (11, .bool false)] fun ρ => ?_
 refine zR ?_
 refine zS [(18, .iface 72 (.string (bsT ([98, 121, 116, 101, 115, 32, 108, 101, 102, 116])))), (19, .iface 72 (.string (bsT ([116, 111, 111, 32, 115, 104, 111, 114, 116])))), (20, .bool true)] ?_
 refine zC (is_fm_sh _) ?_
 rintro _ w1 ⟨rfl, hT2⟩
 have hT0 := hT2
 refine zS [(4, .bool false)] ?_
 refine op_nil ?_
 refine W_ret ?_
 exact ⟨_, Res_of (v := .bool false) (by kernel_rfl), ⟨rfl, hT0⟩⟩

set_option maxRecDepth 100000 in
theorem is_fm_rg (w : World) : Ret Try.prog 53 [.iface 72 (.string (bsT ([98, 121, 116, 101, 115, 32, 108, 101, 102, 116]))), .iface 72 (.string (bsT ([111, 117, 116, 32, 111, 102, 32, 114, 97, 110, 103, 101]))), .bool true] w fun v w' => v = .bool false ∧ Tch N0 w w' := by
 refine enter Try.func53 rfl rfl ?_
 refine zQ ?_
 refine zS [(6, .bool false)] ?_
 refine op_nil ?_
 refine W_block ?_
 refine W_un 1 ?_
 refine Un_s ?_
 refine W_block ?_
 refine W_seq ?_
 refine zQ ?_
 refine zS [(14, .bool true), (15, .bool true), (16, .iface 72 (.string (bsT ([98, 121, 116, 101, 115, 32, 108, 101, 102, 116])))), (17, .iface 72 (.string (bsT ([111, 117, 116, 32, 111, 102, 32, 114, 97, 110, 103, 101])))), (18, .bool false), (19, .bool false)] ?_
 refine zO false (fun h => nomatch h) (fun _ => ?_)
 refine W_skip ?_
 refine W_seq ?_
 refine zQ ?_
 refine zS [(21, .iface 72 (.string (bsT ([98, 121, 116, 101, 115, 32, 108, 101, 102, 116]))))] ?_
 refine stv (v := .tuple #[.nilIface, .bool false]) (by rfl) (R_assert (v := .iface 72 (.string (bsT ([98, 121, 116, 101, 115, 32, 108, 101, 102, 116])))) (v' := .tuple #[.nilIface, .bool false]) (by kernel_rfl) (noAs _ _ _)) ?_
 refine zS [(20, .tuple #[.nilIface, .bool false]), (23, .nilIface), (24, .bool false), (7, .nilIface), (8, .bool false)] ?_
 refine op_nil ?_
 refine W_seq ?_
 refine zF [(0, .iface 72 (.string (bsT ([98, 121, 116, 101, 115, 32, 108, 101, 102, 116])))), (1, .iface 72 (.string (bsT ([111, 117, 116, 32, 111, 102, 32, 114, 97, 110, 103, 101])))), (2, .bool true), (6, .bool false), (7, .nilIface), (8, .bool false), (19, .bool false)] fun ρ => ?_
 refine zR ?_
 refine zS [(25, .bool false), (26, .bool false), (27, undef), (28, undef), (29, undef), (30, .bool false)] ?_
 refine zO false (fun h => nomatch h) (fun _ => ?_)
 refine W_skip ?_
 refine zQ ?_
 refine zS [(31, .iface 72 (.string (bsT ([98, 121, 116, 101, 115, 32, 108, 101, 102, 116]))))] ?_
 refine op_nil ?_
 refine W_block ?_
 refine zQ ?_
 refine stv (v := .tuple #[.nilIface, .bool false]) (by rfl) (R_assert (v := .iface 72 (.string (bsT ([98, 121, 116, 101, 115, 32, 108, 101, 102, 116])))) (v' := .tuple #[.nilIface, .bool false]) (by kernel_rfl) (noAs2 _ _ _)) ?_
 refine zS [(33, .bool false), (34, .nilIface)] ?_
 refine zO false (fun h => nomatch h) (fun _ => ?_)
 refine W_seq ?_
 refine zF [(0, .iface 72 (.string (bsT ([98, 121, 116, 101, 115, 32, 108, 101, 102, 116])))), (1, .iface 72 (.string (bsT ([111, 117, 116, 32, 111, 102, 32, 114, 97, 110, 103, 101])))), (2, .bool true), (6, .bool false), (7, .nilIface), (8, .bool false), (19, .bool false), (30, .bool false), (31, .iface 72 (.string (bsT ([98, 121, 116, 101, 115, 32, 108, 101, 102, 116])))), (33, .bool false), (34, .nilIface)] fun ρ => ?_
 refine zR ?_
 refine stv (v := .tuple #[.nilIface, .bool false]) (by rfl) (R_assert (v := .iface 72 (.string (bsT ([98, 121, 116, 101, 115, 32, 108, 101, 102, 116])))) (v' := .tuple #[.nilIface, .bool false]) (by kernel_rfl) (noAs3 _ _ _)) ?_
 refine zS [(40, .bool false), (41, .nilIface)] ?_
 refine zO false (fun h => nomatch h) (fun _ => ?_)
 refine zQ ?_
 refine zS [(13, .iface 72 (.string (bsT ([98, 121, 116, 101, 115, 32, 108, 101, 102, 116]))))] ?_
 refine op_nil ?_
 refine zQ ?_
 refine zS [(6, .bool false)] ?_
 refine op_nil ?_
 refine W_ret ?_
 exact ⟨_, Res_of (v := .bool false) (by kernel_rfl), ⟨rfl, Tch.refl _ _⟩⟩

set_option maxRecDepth 100000 in
theorem Is_fm_rg (w : World) : Ret Try.prog 35 [.iface 72 (.string (bsT ([98, 121, 116, 101, 115, 32, 108, 101, 102, 116]))), .iface 72 (.string (bsT ([111, 117, 116, 32, 111, 102, 32, 114, 97, 110, 103, 101])))] w fun v w' => v = .bool false ∧ Tch N0 w w' := by
 refine enter Try.func35 rfl rfl ?_
 refine zQ ?_
 refine zS [(4, .bool false)] ?_
 refine op_nil ?_
 refine W_seq ?_
 refine zQ ?_
 refine zS [(6, .iface 72 (.string (bsT ([98, 121, 116, 101, 115, 32, 108, 101, 102, 116])))), (7, .bool false), (8, .bool false), (9, .iface 72 (.string (bsT ([111, 117, 116, 32, 111, 102, 32, 114, 97, 110, 103, 101])))), (10, .bool false), (11, .bool false)] ?_
 refine zO false (fun h => nomatch h) (fun _ => ?_)
 refine W_skip ?_
 refine zQ ?_
 refine zS [(15, .iface 72 (.string (bsT ([111, 117, 116, 32, 111, 102, 32, 114, 97, 110, 103, 101]))))] ?_
 refine stv (v := .iface 104 (.agg #[.pointer (some ⟨1, 72, none⟩)])) (w' := w) (by rfl) (by kernel_rfl) ?_
 refine stv (v := .bool true) (w' := w) (by rfl) (by kernel_rfl) ?_
 refine zS [(5, .bool true)] ?_
 refine op_nil ?_
 refine W_seq ?_
 refine zF [(0, .iface 72 (.string (bsT ([98, 121, 116, 101, 115, 32, 108, 101, 102, 116])))), (1, .iface 72 (.string (bsT ([111, 117, 116, 32, 111, 102, 32, 114, 97, 110, 103, 101])))), (4, .bool false), (5, .bool true), (11, .bool false)] fun ρ => ?_
 refine zR ?_
 refine zS [(18, .iface 72 (.string (bsT ([98, 121, 116, 101, 115, 32, 108, 101, 102, 116])))), (19, .iface 72 (.string (bsT ([111, 117, 116, 32, 111, 102, 32, 114, 97, 110, 103, 101])))), (20, .bool true)] ?_
 refine zC (is_fm_rg _) ?_
 rintro _ w1 ⟨rfl, hT2⟩
 have hT0 := hT2
 refine zS [(4, .bool false)] ?_
 refine op_nil ?_
 refine W_ret ?_
 exact ⟨_, Res_of (v := .bool false) (by kernel_rfl), ⟨rfl, hT0⟩⟩

set_option maxRecDepth 100000 in
theorem is_fm_fm (w : World) : Ret Try.prog 53 [.iface 72 (.string (bsT ([98, 121, 116, 101, 115, 32, 108, 101, 102, 116]))), .iface 72 (.string (bsT ([98, 121, 116, 101, 115, 32, 108, 101, 102, 116]))), .bool true] w fun v w' => v = .bool true ∧ Tch N0 w w' := by
 refine enter Try.func53 rfl rfl ?_
 refine zQ ?_
 refine zS [(6, .bool false)] ?_
 refine op_nil ?_
 refine W_block ?_
 refine W_un 1 ?_
 refine Un_s ?_
 refine W_block ?_
 refine W_seq ?_
 refine zQ ?_
 refine zS [(14, .bool true), (15, .bool true), (16, .iface 72 (.string (bsT ([98, 121, 116, 101, 115, 32, 108, 101, 102, 116])))), (17, .iface 72 (.string (bsT ([98, 121, 116, 101, 115, 32, 108, 101, 102, 116])))), (18, .bool true), (19, .bool true)] ?_
 refine zO true (fun _ => ?_) (fun h => nomatch h)
 refine zQ ?_
 refine zS [(6, .bool true)] ?_
 refine op_nil ?_
 refine W_ret ?_
 exact ⟨_, Res_of (v := .bool true) (by kernel_rfl), ⟨rfl, Tch.refl _ _⟩⟩

set_option maxRecDepth 100000 in
theorem Is_fm_fm (w : World) : Ret Try.prog 35 [.iface 72 (.string (bsT ([98, 121, 116, 101, 115, 32, 108, 101, 102, 116]))), .iface 72 (.string (bsT ([98, 121, 116, 101, 115, 32, 108, 101, 102, 116])))] w fun v w' => v = .bool true ∧ Tch N0 w w' := by
 refine enter Try.func35 rfl rfl ?_
 refine zQ ?_
 refine zS [(4, .bool false)] ?_
 refine op_nil ?_
 refine W_seq ?_
 refine zQ ?_
 refine zS [(6, .iface 72 (.string (bsT ([98, 121, 116, 101, 115, 32, 108, 101, 102, 116])))), (7, .bool false), (8, .bool false), (9, .iface 72 (.string (bsT ([98, 121, 116, 101, 115, 32, 108, 101, 102, 116])))), (10, .bool false), (11, .bool false)] ?_
 refine zO false (fun h => nomatch h) (fun _ => ?_)
 refine W_skip ?_
 refine zQ ?_
 refine zS [(15, .iface 72 (.string (bsT ([98, 121, 116, 101, 115, 32, 108, 101, 102, 116]))))] ?_
 refine stv (v := .iface 104 (.agg #[.pointer (some ⟨1, 72, none⟩)])) (w' := w) (by rfl) (by kernel_rfl) ?_
 refine stv (v := .bool true) (w' := w) (by rfl) (by kernel_rfl) ?_
 refine zS [(5, .bool true)] ?_
 refine op_nil ?_
 refine W_seq ?_
 refine zF [(0, .iface 72 (.string (bsT ([98, 121, 116, 101, 115, 32, 108, 101, 102, 116])))), (1, .iface 72 (.string (bsT ([98, 121, 116, 101, 115, 32, 108, 101, 102, 116])))), (4, .bool false), (5, .bool true), (11, .bool false)] fun ρ => ?_
 refine zR ?_
 refine zS [(18, .iface 72 (.string (bsT ([98, 121, 116, 101, 115, 32, 108, 101, 102, 116])))), (19, .iface 72 (.string (bsT ([98, 121, 116, 101, 115, 32, 108, 101, 102, 116])))), (20, .bool true)] ?_
 refine zC (is_fm_fm _) ?_
 rintro _ w1 ⟨rfl, hT2⟩
 have hT0 := hT2
 refine zS [(4, .bool true)] ?_
 refine op_nil ?_
 refine W_ret ?_
 exact ⟨_, Res_of (v := .bool true) (by kernel_rfl), ⟨rfl, hT0⟩⟩

set_option maxRecDepth 100000 in
theorem Is_n_sh (w : World) : Ret Try.prog 35 [.nilIface, .iface 72 (.string (bsT ([116, 111, 111, 32, 115, 104, 111, 114, 116])))] w fun v w' => v = .bool false ∧ Tch N0 w w' := by
 refine enter Try.func35 rfl rfl ?_
 refine zQ ?_
 refine zS [(4, .bool false)] ?_
 refine op_nil ?_
 refine W_seq ?_
 refine zQ ?_
 refine zS [(6, .nilIface), (7, .bool true), (8, .bool true), (9, undef), (10, undef), (11, .bool true)] ?_
 refine zO true (fun _ => ?_) (fun h => nomatch h)
 refine zQ ?_
 refine zS [(12, .nilIface), (13, .iface 72 (.string (bsT ([116, 111, 111, 32, 115, 104, 111, 114, 116])))), (14, .bool false), (4, .bool false)] ?_
 refine op_nil ?_
 refine W_ret ?_
 exact ⟨_, Res_of (v := .bool false) (by kernel_rfl), ⟨rfl, Tch.refl _ _⟩⟩

set_option maxRecDepth 100000 in
theorem Is_n_rg (w : World) : Ret Try.prog 35 [.nilIface, .iface 72 (.string (bsT ([111, 117, 116, 32, 111, 102, 32, 114, 97, 110, 103, 101])))] w fun v w' => v = .bool false ∧ Tch N0 w w' := by
 refine enter Try.func35 rfl rfl ?_
 refine zQ ?_
 refine zS [(4, .bool false)] ?_
 refine op_nil ?_
 refine W_seq ?_
 refine zQ ?_
 refine zS [(6, .nilIface), (7, .bool true), (8, .bool true), (9, undef), (10, undef), (11, .bool true)] ?_
 refine zO true (fun _ => ?_) (fun h => nomatch h)
 refine zQ ?_
 refine zS [(12, .nilIface), (13, .iface 72 (.string (bsT ([111, 117, 116, 32, 111, 102, 32, 114, 97, 110, 103, 101])))), (14, .bool false), (4, .bool false)] ?_
 refine op_nil ?_
 refine W_ret ?_
 exact ⟨_, Res_of (v := .bool false) (by kernel_rfl), ⟨rfl, Tch.refl _ _⟩⟩

set_option maxRecDepth 100000 in
theorem Is_n_fm (w : World) : Ret Try.prog 35 [.nilIface, .iface 72 (.string (bsT ([98, 121, 116, 101, 115, 32, 108, 101, 102, 116])))] w fun v w' => v = .bool false ∧ Tch N0 w w' := by
 refine enter Try.func35 rfl rfl ?_
 refine zQ ?_
 refine zS [(4, .bool false)] ?_
 refine op_nil ?_
 refine W_seq ?_
 refine zQ ?_
 refine zS [(6, .nilIface), (7, .bool true), (8, .bool true), (9, undef), (10, undef), (11, .bool true)] ?_
 refine zO true (fun _ => ?_) (fun h => nomatch h)
 refine zQ ?_
 refine zS [(12, .nilIface), (13, .iface 72 (.string (bsT ([98, 121, 116, 101, 115, 32, 108, 101, 102, 116])))), (14, .bool false), (4, .bool false)] ?_
 refine op_nil ?_
 refine W_ret ?_
 exact ⟨_, Res_of (v := .bool false) (by kernel_rfl), ⟨rfl, Tch.refl _ _⟩⟩

end Go.Proofs.YtlkjhkennbdbnaaV

set_option linter.unusedVariables false
set_option linter.unusedSimpArgs false
namespace Go.Proofs.YtlkjhkennbdbnaaV
open Go Go.RowKit Go.Proofs
theorem nxo {t : Tx} {k : Nat} (h : k ≤ t.length) : nx (t, none) k = (t.drop k, none) := by
 unfold nx; rw [if_neg (by show ¬ (false = true); decide), if_neg (by show ¬ t.length < k; omega)]
theorem nxs {t : Tx} {k : Nat} (h : t.length < k) : nx (t, none) k = (t, some shT) := by
 unfold nx; rw [if_neg (by show ¬ (false = true); decide), if_pos (by show t.length < k; omega)]
theorem tko {t : Tx} {k : Nat} (h : k ≤ t.length) : tk (t, none) k = t.take k := by
 unfold tk; rw [if_neg]
 rintro (h1 | h1)
 ·
  exact absurd h1 (by show ¬ (false = true); decide)
 ·
  have h1 : t.length < k := h1
  omega
theorem nuo {t : Tx} {k : Nat} (h : k ≤ t.length) : nu (t, none) k = vl (t.take k) := by unfold nu; rw [tko h]
theorem vl_one {t : Tx} (h : 1 ≤ t.length) : vl (t.take 1) = (t.getD 0 0).toNat := by
 cases t with
 | nil => simp at h
 | cons a t => simp [vl]
theorem getD_drop {t : Tx} (k : Nat) : (t.drop k).getD 0 0 = t.getD k 0 := by simp [List.getD_eq_getElem?_getD, List.getElem?_drop]
/-! ### one test -/
theorem er_nx {x : St} {k : Nat} (h : x.2 = some shT) : (nx x k).2 = some shT := by rw [nx_err (by rw [h]; rfl), h]
theorem er_q7 {x : St} (h : (q7 x).2 = some shT) : ∀ i, (qi x i).2 = some shT
 | 0 => h
 | i + 1 => er_nx (er_q7 h i)
theorem er_qi {x : St} {i : Nat} (h : (qi x i).2 = some shT) : ∀ d, (qi x (i + d)).2 = some shT
 | 0 => h
 | d + 1 => er_nx (er_qi h d)
theorem er6 {x : St} (h : (q6 x).2 = some shT) : (tf x).2 = some shT := er_q7 (er_nx h) _
theorem er5 {x : St} (h : (q5 x).2 = some shT) : (tf x).2 = some shT := er6 (er_nx h)
theorem er4 {x : St} (h : (q4 x).2 = some shT) : (tf x).2 = some shT := er5 (er_nx h)
theorem er3 {x : St} (h : (q3 x).2 = some shT) : (tf x).2 = some shT := er4 (er_nx h)
theorem er2 {x : St} (h : (q2 x).2 = some shT) : (tf x).2 = some shT := er3 (er_nx h)
theorem er1 {x : St} (h : (q1 x).2 = some shT) : (tf x).2 = some shT := er2 (er_nx h)
theorem qi_go {t : Tx} (h7 : q7 (t, none) = (p1e t, none)) : ∀ i, 8 * i ≤ (p1e t).length → qi (t, none) i = ((p1e t).drop (8 * i), none)
 | 0, _ => by show q7 (t, none) = _; rw [h7]; simp
 | i + 1, h => by
  show nx (qi (t, none) i) 8 = _
  rw [qi_go h7 i (by omega), nxo (by rw [List.length_drop]; omega), List.drop_drop]
  rw [show 8 * i + 8 = 8 * (i + 1) by omega]
theorem q12 {t : Tx} (h1 : 1 ≤ t.length) : q1 (t, none) = (p1a t, none) ∧ nu (t, none) 1 = p1k t := by
 have ha := rn_t h1
 constructor
 ·
  unfold q1 p1a; rw [nxo h1, ha.2]
 ·
  unfold p1k; rw [nuo h1, ha.1]
theorem q2_go {t : Tx} (h1 : 1 ≤ t.length) (h2 : p1k t ≤ (p1a t).length) : q2 (t, none) = (p1d t, none) ∧ tk (q1 (t, none)) (nu (t, none) 1) = (p1a t).take (p1k t) := by
 obtain ⟨e1, k1⟩ := q12 h1
 constructor
 ·
  unfold q2 p1d; rw [e1, k1, nxo h2]
 ·
  rw [e1, k1, tko h2]
theorem q7_go {t : Tx} (h1 : 1 ≤ t.length) (h2 : p1k t ≤ (p1a t).length) (h3 : 8 ≤ (p1d t).length) :
  q3 (t, none) = ((p1d t).drop 2, none) ∧ q4 (t, none) = ((p1d t).drop 4, none) ∧ q5 (t, none) = ((p1d t).drop 6, none) ∧ q6 (t, none) = ((p1d t).drop 7, none) ∧ q7 (t, none) = (p1e t, none) := by
 obtain ⟨e2, _⟩ := q2_go h1 h2
 have e3 : q3 (t, none) = ((p1d t).drop 2, none) := by unfold q3; rw [e2, nxo (by omega)]
 have e4 : q4 (t, none) = ((p1d t).drop 4, none) := by unfold q4; rw [e3, nxo (by rw [List.length_drop]; omega), List.drop_drop]
 have e5 : q5 (t, none) = ((p1d t).drop 6, none) := by unfold q5; rw [e4, nxo (by rw [List.length_drop]; omega), List.drop_drop]
 have e6 : q6 (t, none) = ((p1d t).drop 7, none) := by unfold q6; rw [e5, nxo (by rw [List.length_drop]; omega), List.drop_drop]
 have e7 : q7 (t, none) = (p1e t, none) := by unfold q7 p1e; rw [e6, nxo (by rw [List.length_drop]; omega), List.drop_drop]
 exact ⟨e3, e4, e5, e6, e7⟩
theorem nN {t : Tx} (h1 : 1 ≤ t.length) (h2 : p1k t ≤ (p1a t).length) (h3 : 8 ≤ (p1d t).length) : nu (q6 (t, none)) 1 = p1n t := by
 obtain ⟨e3, e4, e5, e6, e7⟩ := q7_go h1 h2 h3
 rw [e6, nuo (by rw [List.length_drop]; omega), vl_one (by rw [List.length_drop]; omega), getD_drop]; rfl
theorem tf_ok {t : Tx} (h : p1b t = true) : tf (t, none) = (p1r t, none) ∧ tco (t, none) = p1c t := by
 obtain ⟨h1, h2, h3, h4⟩ := of_decide_eq_true h
 obtain ⟨e2, ei⟩ := q2_go h1 h2
 obtain ⟨e3, e4, e5, e6, e7⟩ := q7_go h1 h2 h3
 have en := nN h1 h2 h3
 constructor
 ·
  unfold tf; rw [en, qi_go e7 _ h4, p1_t h]
 ·
  unfold tco p1c
  rw [ei, en, e2, e3, e4, e5, nuo (by omega), nuo (by rw [List.length_drop]; omega), nuo (by rw [List.length_drop]; omega), nuo (by rw [List.length_drop]; omega), vl_one (t := (p1d t).drop 6) (by rw [List.length_drop]; omega), getD_drop]
  have em : imx (t, none) (p1n t) = ims (p1e t) (p1n t) := by
   unfold imx ims
   refine List.map_congr_left fun i hi => ?_
   rw [List.mem_range] at hi
   rw [qi_go e7 i (by omega), nuo (by rw [List.length_drop]; omega)]; rfl
  rw [em]
theorem tf_bad {t : Tx} (h : p1b t = false) : (tf (t, none)).2 = some shT := by
 have h := of_decide_eq_false h
 rcases Nat.lt_or_ge t.length 1 with c1 | c1
 ·
  exact er1 (by unfold q1; rw [nxs c1])
 obtain ⟨e1, k1⟩ := q12 c1
 rcases Nat.lt_or_ge (p1a t).length (p1k t) with c2 | c2
 ·
  exact er2 (by unfold q2; rw [e1, k1, nxs c2])
 obtain ⟨e2, ei⟩ := q2_go c1 c2
 rcases Nat.lt_or_ge (p1d t).length 2 with c3 | c3
 ·
  exact er3 (by unfold q3; rw [e2, nxs c3])
 have e3 : q3 (t, none) = ((p1d t).drop 2, none) := by unfold q3; rw [e2, nxo c3]
 rcases Nat.lt_or_ge (p1d t).length 4 with c4 | c4
 ·
  exact er4 (by unfold q4; rw [e3, nxs (by rw [List.length_drop]; omega)])
 have e4 : q4 (t, none) = ((p1d t).drop 4, none) := by unfold q4; rw [e3, nxo (by rw [List.length_drop]; omega), List.drop_drop]
 rcases Nat.lt_or_ge (p1d t).length 6 with c5 | c5
 ·
  exact er5 (by unfold q5; rw [e4, nxs (by rw [List.length_drop]; omega)])
 have e5 : q5 (t, none) = ((p1d t).drop 6, none) := by unfold q5; rw [e4, nxo (by rw [List.length_drop]; omega), List.drop_drop]
 rcases Nat.lt_or_ge (p1d t).length 7 with c6 | c6
 ·
  exact er6 (by unfold q6; rw [e5, nxs (by rw [List.length_drop]; omega)])
 have e6 : q6 (t, none) = ((p1d t).drop 7, none) := by unfold q6; rw [e5, nxo (by rw [List.length_drop]; omega), List.drop_drop]
 rcases Nat.lt_or_ge (p1d t).length 8 with c7 | c7
 ·
  exact er_q7 (by unfold q7; rw [e6, nxs (by rw [List.length_drop]; omega)]) _
 obtain ⟨_, _, _, _, e7⟩ := q7_go c1 c2 c7
 have en := nN c1 c2 c7
 have c8 : (p1e t).length < 8 * p1n t := by
  rcases Nat.lt_or_ge (p1e t).length (8 * p1n t) with q | q
  ·
   exact q
  ·
   exact absurd ⟨c1, c2, c7, q⟩ h
 have e8 := qi_go e7 ((p1e t).length / 8) (by omega)
 have e9 : (qi (t, none) ((p1e t).length / 8 + 1)).2 = some shT := by
  show (nx (qi (t, none) ((p1e t).length / 8)) 8).2 = _
  rw [e8, nxs (by rw [List.length_drop]; omega)]
 have e10 := er_qi e9 (p1n t - ((p1e t).length / 8 + 1))
 unfold tf
 rw [en, show p1n t = (p1e t).length / 8 + 1 + (p1n t - ((p1e t).length / 8 + 1)) by omega]
 exact e10
/-! ### the whole -/
def cdE (E : Option Tx) : Int := if E = some shT then 6 else if E = some rgT then 4 else if E = some fmT then 5 else 0
theorem blo {t : Tx} {k m : Nat} (h : k ≤ t.length) (h2 : vl (t.take k) ≤ m) : bl (t, none) k m = (t.drop k, none) := by
 unfold bl; rw [nxo h, nuo h, if_neg (by rintro ⟨_, q⟩; omega)]
theorem blb {t : Tx} {k m : Nat} (h : k ≤ t.length) (h2 : m < vl (t.take k)) : (bl (t, none) k m).2 = some rgT := by
 unfold bl; rw [nxo h, nuo h, if_pos ⟨rfl, h2⟩]
theorem bls {t : Tx} {k m : Nat} (h : t.length < k) : bl (t, none) k m = (t, some shT) := by
 unfold bl; rw [nxs h, if_neg (by rintro ⟨q, _⟩; exact absurd q (by show ¬ (true = false); decide))]
theorem er_bl {x : St} {k m : Nat} {e : Tx} (h : x.2 = some e) : (bl x k m).2 = some e := by
 have h2 : x.2.isSome = true := by rw [h]; rfl
 unfold bl; rw [nx_err h2, if_neg (by rintro ⟨q, _⟩; rw [h2] at q; cases q), h]
theorem er_nx2 {x : St} {k : Nat} {e : Tx} (h : x.2 = some e) : (nx x k).2 = some e := by rw [nx_err (by rw [h]; rfl), h]
theorem fe5 {s : Tx} {e : Tx} (h : (a5 s).2 = some e) : fe s = some e := by
 have h0 : (tst s 0).2.isSome = true := by show (a5 s).2.isSome = true; rw [h]; rfl
 have := tst_err h0 (aN s)
 rw [Nat.zero_add] at this
 unfold fe
 rw [this, if_neg (by rintro ⟨q, _⟩; rw [h0] at q; cases q)]
 exact h
theorem fe4 {s : Tx} {e : Tx} (h : (a4 s).2 = some e) : fe s = some e := fe5 (er_nx2 h)
theorem fe3 {s : Tx} {e : Tx} (h : (a3 s).2 = some e) : fe s = some e := fe4 (er_bl h)
theorem fe2 {s : Tx} {e : Tx} (h : (a2 s).2 = some e) : fe s = some e := fe3 (er_bl h)
theorem fe1 {s : Tx} {e : Tx} (h : (a1 s).2 = some e) : fe s = some e := fe2 (er_nx2 h)
theorem tst_go {s : Tx} (h5 : a5 s = (hT s, none)) : ∀ j, (∀ i, i < j → p1b (pl i (hT s)) = true) → tst s j = (pl j (hT s), none) ∧ ptc s j = pc j (hT s)
 | 0, _ => ⟨h5, rfl⟩
 | j + 1, h => by
  obtain ⟨e1, e2⟩ := tst_go h5 j (fun i hi => h i (by omega))
  obtain ⟨e3, e4⟩ := tf_ok (h j (by omega))
  constructor
  ·
   show tf (tst s j) = _
   rw [e1, e3]; rfl
  ·
   rw [ptc_step, pc_step, e2, e1, e4]
theorem first_bad (f : Nat → Bool) : ∀ n, (∀ i, i < n → f i = true) ∨ ∃ j, j < n ∧ f j = false ∧ ∀ i, i < j → f i = true
 | 0 => .inl (fun i h => by omega)
 | n + 1 => by
  rcases first_bad f n with h | ⟨j, hj, hf, ha⟩
  ·
   cases hn : f n with
   | true => exact .inl (fun i hi => (Nat.lt_or_eq_of_le (Nat.le_of_lt_succ hi)).elim (h i) (fun e => by rw [e]; exact hn))
   | false => exact .inr ⟨n, by omega, hn, h⟩
  ·
   exact .inr ⟨j, by omega, hf, ha⟩
/-- What the program's reader says is what the document says. -/
theorem both (s : Tx) : code s = cdE (fe s) ∧ (fe s = none ∨ fe s = some shT ∨ fe s = some rgT ∨ fe s = some fmT) ∧ (fe s = none → nu (a0 s) 1 = hV s ∧ nu (a1 s) 1 = hE s ∧ nu (a2 s) 4 = hS s ∧ nu (a3 s) 4 = hU s ∧ ptc s (aN s) = pc (hN s) (hT s)) := by
 have csh : cdE (some shT) = 6 := by decide
 have crg : cdE (some rgT) = 4 := by decide
 have cfm : cdE (some fmT) = 5 := by decide
 have fsh : ∀ c : Int, code s = 6 → fe s = some shT → code s = cdE (fe s) ∧ (fe s = none ∨ fe s = some shT ∨ fe s = some rgT ∨ fe s = some fmT) ∧ (fe s = none → nu (a0 s) 1 = hV s ∧ nu (a1 s) 1 = hE s ∧ nu (a2 s) 4 = hS s ∧ nu (a3 s) 4 = hU s ∧ ptc s (aN s) = pc (hN s) (hT s)) := fun _ h1 h2 => ⟨by rw [h1, h2, csh], .inr (.inl h2), fun h => by rw [h2] at h; cases h⟩
 have frg : ∀ c : Int, code s = 4 → fe s = some rgT → code s = cdE (fe s) ∧ (fe s = none ∨ fe s = some shT ∨ fe s = some rgT ∨ fe s = some fmT) ∧ (fe s = none → nu (a0 s) 1 = hV s ∧ nu (a1 s) 1 = hE s ∧ nu (a2 s) 4 = hS s ∧ nu (a3 s) 4 = hU s ∧ ptc s (aN s) = pc (hN s) (hT s)) := fun _ h1 h2 => ⟨by rw [h1, h2, crg], .inr (.inr (.inl h2)), fun h => by rw [h2] at h; cases h⟩
 rcases Nat.lt_or_ge s.length 1 with c1 | c1
 ·
  exact fsh 0 (by unfold code; rw [if_neg (by omega), if_pos (by omega)]) (fe1 (by unfold a1 a0; rw [bls c1]))
 have v0 : vl (s.take 1) = hV s := vl_one c1
 rcases Nat.lt_or_ge 3 (hV s) with c2 | c2
 ·
  exact frg 0 (by unfold code; rw [if_pos (by omega)]) (fe1 (by unfold a1 a0; exact blb c1 (by omega)))
 have e1 : a1 s = (s.drop 1, none) := by unfold a1 a0; exact blo c1 (by omega)
 rcases Nat.lt_or_ge s.length 2 with c3 | c3
 ·
  exact fsh 0 (by unfold code; rw [if_neg (by omega), if_pos (by omega)]) (fe2 (by unfold a2; rw [e1, nxs (by rw [List.length_drop]; omega)]))
 have e2 : a2 s = (s.drop 2, none) := by unfold a2; rw [e1, nxo (by rw [List.length_drop]; omega), List.drop_drop]
 rcases Nat.lt_or_ge s.length 6 with c4 | c4
 ·
  exact fsh 0 (by unfold code; rw [if_neg (by omega), if_pos (by omega)]) (fe3 (by unfold a3; rw [e2, bls (by rw [List.length_drop]; omega)]))
 rcases Nat.lt_or_ge 1073741824 (hS s) with c5 | c5
 ·
  exact frg 0 (by unfold code; rw [if_neg (by omega), if_neg (by omega), if_pos (by omega)]) (fe3 (by unfold a3; rw [e2]; exact blb (by rw [List.length_drop]; omega) c5))
 have e3 : a3 s = (s.drop 6, none) := by unfold a3; rw [e2, blo (by rw [List.length_drop]; omega) c5, List.drop_drop]
 rcases Nat.lt_or_ge (s.length - 6) 4 with c6 | c6
 ·
  exact fsh 0 (by unfold code; rw [if_neg (by omega), if_neg (by omega), if_neg (by omega), if_pos (by omega)]) (fe4 (by unfold a4; rw [e3, bls (by rw [List.length_drop]; omega)]))
 have hd6 : (s.drop 6).length = s.length - 6 := List.length_drop
 have hu := rn_t (k := 4) (t := s.drop 6) (by omega)
 have vU : vl ((s.drop 6).take 4) = hU s := hu.1.symm
 rcases Nat.lt_or_ge 1073741824 (hU s) with c7 | c7
 ·
  exact frg 0 (by unfold code; rw [if_neg (by omega), if_neg (by omega), if_neg (by omega), if_neg (by omega), if_pos (by omega)]) (fe4 (by unfold a4; rw [e3]; exact blb (by omega) (by omega)))
 have e4 : a4 s = (hR s, none) := by unfold a4 hR; rw [e3, blo (by omega) (by omega), hu.2]
 rcases Nat.lt_or_ge (hR s).length 2 with c8 | c8
 ·
  exact fsh 0 (by unfold code; rw [if_neg (by omega), if_neg (by omega), if_neg (by omega), if_neg (by omega), if_neg (by omega), if_pos (by omega)]) (fe5 (by unfold a5; rw [e4, nxs c8]))
 have hn := rn_t (k := 2) (t := hR s) c8
 have e5 : a5 s = (hT s, none) := by unfold a5 hT; rw [e4, nxo c8, hn.2]
 have eN : aN s = hN s := by unfold aN hN; rw [e4, nuo c8, hn.1]
 have base : code s = if okN (hN s) (hT s) = false then 6 else if 0 < (pl (hN s) (hT s)).length then 5 else 0 := by
  unfold code; rw [if_neg (by omega), if_neg (by omega), if_neg (by omega), if_neg (by omega), if_neg (by omega), if_neg (by omega)]
 rcases first_bad (fun i => p1b (pl i (hT s))) (hN s) with hall | ⟨j, hj, hf, ha⟩
 ·
  obtain ⟨t1, t2⟩ := tst_go e5 (hN s) hall
  have vals : nu (a0 s) 1 = hV s ∧ nu (a1 s) 1 = hE s ∧ nu (a2 s) 4 = hS s ∧ nu (a3 s) 4 = hU s ∧ ptc s (aN s) = pc (hN s) (hT s) := by
   refine ⟨?_, ?_, ?_, ?_, ?_⟩
   ·
    unfold a0; rw [nuo c1, v0]
   ·
    rw [e1, nuo (by rw [List.length_drop]; omega), vl_one (by rw [List.length_drop]; omega), getD_drop]; rfl
   ·
    rw [e2, nuo (by rw [List.length_drop]; omega)]; rfl
   ·
    rw [e3, nuo (by omega), vU]
   ·
    rw [eN, t2]
  rw [if_neg (okN_t hall)] at base
  rcases Nat.eq_zero_or_pos (pl (hN s) (hT s)).length with c9 | c9
  ·
   have hfe : fe s = none := by
    unfold fe; rw [eN, t1, if_neg]
    rintro ⟨_, q⟩
    exact q (List.eq_nil_of_length_eq_zero c9)
   rw [if_neg (by omega)] at base
   exact ⟨by rw [base, hfe]; decide, .inl hfe, fun _ => vals⟩
  ·
   have hfe : fe s = some fmT := by
    unfold fe; rw [eN, t1, if_pos]
    refine ⟨rfl, fun q => ?_⟩
    have q : pl (hN s) (hT s) = [] := q
    rw [q] at c9; simp at c9
   rw [if_pos c9] at base
   exact ⟨by rw [base, hfe, cfm], .inr (.inr (.inr hfe)), fun h => by rw [hfe] at h; cases h⟩
 ·
  rw [if_pos (okN_f hj hf)] at base
  obtain ⟨t1, _⟩ := tst_go e5 j ha
  have t2 : (tst s (j + 1)).2 = some shT := by
   show (tf (tst s j)).2 = _
   rw [t1]; exact tf_bad hf
  have t3 := tst_err (s := s) (j := j + 1) (by rw [t2]; rfl) (aN s - (j + 1))
  have hfe : fe s = some shT := by
   unfold fe
   rw [show aN s = j + 1 + (aN s - (j + 1)) by omega, t3, t2, if_neg (by rintro ⟨q, _⟩; cases q)]
  exact fsh 0 base hfe
end Go.Proofs.YtlkjhkennbdbnaaV

set_option linter.unusedVariables false
set_option linter.unusedSimpArgs false
namespace Go.Proofs.YtlkjhkennbdbnaaV
open Go Go.RowKit Go.Proofs

theorem isO_sh (E : Option Tx) (w : World) (h : E = none ∨ E = some shT ∨ E = some rgT ∨ E = some fmT) : Ret Try.prog 35 [evO E, .iface 72 (.string (bsT [116, 111, 111, 32, 115, 104, 111, 114, 116]))] w fun v w' => v = .bool (decide (E = some shT)) ∧ Tch N0 w w' := by
 rcases h with rfl | rfl | rfl | rfl
 ·
  exact Is_n_sh w
 ·
  exact Is_sh_sh w
 ·
  exact Is_rg_sh w
 ·
  exact Is_fm_sh w
theorem isO_rg (E : Option Tx) (w : World) (h : E = none ∨ E = some shT ∨ E = some rgT ∨ E = some fmT) : Ret Try.prog 35 [evO E, .iface 72 (.string (bsT [111, 117, 116, 32, 111, 102, 32, 114, 97, 110, 103, 101]))] w fun v w' => v = .bool (decide (E = some rgT)) ∧ Tch N0 w w' := by
 rcases h with rfl | rfl | rfl | rfl
 ·
  exact Is_n_rg w
 ·
  exact Is_sh_rg w
 ·
  exact Is_rg_rg w
 ·
  exact Is_fm_rg w
theorem isO_fm (E : Option Tx) (w : World) (h : E = none ∨ E = some shT ∨ E = some rgT ∨ E = some fmT) : Ret Try.prog 35 [evO E, .iface 72 (.string (bsT [98, 121, 116, 101, 115, 32, 108, 101, 102, 116]))] w fun v w' => v = .bool (decide (E = some fmT)) ∧ Tch N0 w w' := by
 rcases h with rfl | rfl | rfl | rfl
 ·
  exact Is_n_fm w
 ·
  exact Is_sh_fm w
 ·
  exact Is_rg_fm w
 ·
  exact Is_fm_fm w
theorem cd_sh {E : Option Tx} (h : E = some shT) : cdE E = 6 := by rw [h]; decide
theorem cd_rg {E : Option Tx} (h : E = some rgT) : cdE E = 4 := by rw [h]; decide
theorem cd_fm {E : Option Tx} (h : E = some fmT) : cdE E = 5 := by rw [h]; decide
theorem cd_no {E : Option Tx} (h : E = none ∨ E = some shT ∨ E = some rgT ∨ E = some fmT) (h1 : ¬ E = some shT) (h2 : ¬ E = some rgT) (h3 : ¬ E = some fmT) : E = none := by
 rcases h with h | h | h | h
 ·
  exact h
 ·
  exact absurd h h1
 ·
  exact absurd h h2
 ·
  exact absurd h h3

set_option maxRecDepth 100000 in
theorem read_ok (s : Tx) (w : World) : Ret Try.prog 14 [.string (bsT s)] w fun v w' => ∃ A c l, v = .tuple #[.agg #[.int .i64 (rV s), .int .i64 (rE s), .slice A l.length c, .int .i64 (rS s), .int .i64 (rU s)], .int .i64 (code s)] ∧ TsW w' A l ∧ cores l = rL s ∧ TsB A l w.heap.size w'.heap.size ∧ Tch N0 w w' := by
 have hbo := both s
 refine enter Try.func14 rfl rfl ?_
 refine zQ ?_
 refine st (by rfl) (S_new (v := .pointer (some ⟨w.heap.size, 0, none⟩)) (ob := .cells #[.int .i64 0, .int .i64 0, .slice none 0 0, .int .i64 0, .int .i64 0] 25) (by kernel_rfl) fun w1 hT2 hs3 hB4 => ?_)
 replace hB4 : Blk w1 (w.heap.size) 25 [.int .i64 0, .int .i64 0, .slice none 0 0, .int .i64 0, .int .i64 0] := hB4
 have hT0 := hT2
 refine zS [(3, .int .i64 0)] ?_
 refine op_nil ?_
 refine zQ ?_
 refine zS [(7, .string (bsT s)), (8, .agg #[.string (bsT s), .nilIface])] ?_
 have hz9 := hT0.size
 have lt10 := hB4.lt
 refine st (by rfl) (S_new (v := .pointer (some ⟨w1.heap.size, 0, none⟩)) (ob := .cells #[.string (bsT s), .nilIface] 69) (by kernel_rfl) fun w5 hT6 hs7 hB8 => ?_)
 replace hB8 : Blk w5 (w1.heap.size) 69 [.string (bsT s), .nilIface] := hB8
 have hT0 := hT0.t0 hT6
 have hB4 := hB4.tch0 hT6
 have hz_ := hT0.size
 refine zC (all_ok (w1.heap.size) s _ hB8) ?_
 rintro _ w11 ⟨A, c, l, rfl, hTs, hcl, hTb, hT12⟩
 have hT0 := (hT0).then hT12 (fun c e => by have : c = w1.heap.size := e; omega)
 have hB4 := hB4.tch hT12 (hB4.ne hB8 (by decide))
 have hzL : w11.heap.size ≤ w11.heap.size := Nat.le_refl _
 refine zS [(6, .tuple #[.agg #[.int .i64 ((nu (a0 s) 1 : Nat) : Int), .int .i64 ((nu (a1 s) 1 : Nat) : Int), .slice A l.length c, .int .i64 ((nu (a2 s) 4 : Nat) : Int), .int .i64 ((nu (a3 s) 4 : Nat) : Int)], (evO (fe s))]), (11, .agg #[.int .i64 ((nu (a0 s) 1 : Nat) : Int), .int .i64 ((nu (a1 s) 1 : Nat) : Int), .slice A l.length c, .int .i64 ((nu (a2 s) 4 : Nat) : Int), .int .i64 ((nu (a3 s) 4 : Nat) : Int)]), (12, (evO (fe s)))] ?_
 have hz17 := hT0.size
 have lt18 := hB4.lt
 refine st (by rfl) (S_new (v := .pointer (some ⟨w11.heap.size, 0, none⟩)) (ob := .cells #[.int .i64 0, .int .i64 0, .slice none 0 0, .int .i64 0, .int .i64 0] 25) (by kernel_rfl) fun w13 hT14 hs15 hB16 => ?_)
 replace hB16 : Blk w13 (w11.heap.size) 25 [.int .i64 0, .int .i64 0, .slice none 0 0, .int .i64 0, .int .i64 0] := hB16
 have hT0 := hT0.t0 hT14
 have hB4 := hB4.tch0 hT14
 have hTs := hTs.tch0 hT14
 have hzL := Nat.le_trans hzL hT14.size
 refine st (by rfl) (S_storeA (b := w11.heap.size) (j := 0) (cs := [.int .i64 ((nu (a0 s) 1 : Nat) : Int), .int .i64 ((nu (a1 s) 1 : Nat) : Int), .slice A l.length c, .int .i64 ((nu (a2 s) 4 : Nat) : Int), .int .i64 ((nu (a3 s) 4 : Nat) : Int)]) (by kernel_rfl) (by kernel_rfl) (by kernel_rfl) (by simp [oneV]) hB16 (by simp) fun w19 hT20 hs21 hB16' => ?_)
 have hT0 := (hT0).then hT20 (fun c e => by have : c = w11.heap.size := e; omega)
 have hB4 := hB4.tch hT20 (fun e => by have : w.heap.size = w11.heap.size := e; omega)
 have hTs := hTs.tchB hTb hT20 (fun c h1 h2 e => by have e : c = w11.heap.size := e; omega)
 have hzL := Nat.le_trans hzL hT20.size
 replace hB16 : Blk w19 w11.heap.size 25 [.int .i64 ((nu (a0 s) 1 : Nat) : Int), .int .i64 ((nu (a1 s) 1 : Nat) : Int), .slice A l.length c, .int .i64 ((nu (a2 s) 4 : Nat) : Int), .int .i64 ((nu (a3 s) 4 : Nat) : Int)] := hB16'
 refine zS [(5, (evO (fe s)))] ?_
 refine op_nil ?_
 refine W_seq ?_
 refine W_block ?_
 refine W_seq ?_
 refine zF [(0, .string (bsT s)), (2, .pointer (some ⟨w.heap.size, 0, none⟩)), (3, .int .i64 0), (4, .pointer (some ⟨w11.heap.size, 0, none⟩)), (5, (evO (fe s)))] fun ρ => ?_
 refine zR ?_
 refine zS [(14, (evO (fe s))), (15, .iface 72 (.string (bsT ([116, 111, 111, 32, 115, 104, 111, 114, 116]))))] ?_
 refine zC (isO_sh (fe s) _ hbo.2.1) ?_
 rintro _ w22 ⟨rfl, hT23⟩
 have hT0 := hT0.t0 hT23
 have hB4 := hB4.tch0 hT23
 have hTs := hTs.tch0 hT23
 have hzL := Nat.le_trans hzL hT23.size
 have hB16 := hB16.tch0 hT23
 refine zS [(13, .bool (decide (fe s = some shT)))] ?_
 refine zO (decide (fe s = some shT)) (fun hc24 => ?_) (fun hc24 => ?_)
 ·
  replace hc24 : fe s = some shT := (of_decide_eq_true hc24)
  refine zQ ?_
  refine zS [(17, .agg #[.int .i64 0, .int .i64 0, .slice none 0 0, .int .i64 0, .int .i64 0])] ?_
  refine st (by rfl) (S_storeA (b := w.heap.size) (j := 0) (cs := [.int .i64 0, .int .i64 0, .slice none 0 0, .int .i64 0, .int .i64 0]) (by kernel_rfl) (by kernel_rfl) (by kernel_rfl) (by simp [oneV]) hB4 (by simp) fun w25 hT26 hs27 hB4' => ?_)
  have hT0 := (hT0).then hT26 (fun c e => by have : c = w.heap.size := e; omega)
  have hTs := hTs.tchB hTb hT26 (fun c h1 h2 e => by have e : c = w.heap.size := e; omega)
  have hzL := Nat.le_trans hzL hT26.size
  have hB16 := hB16.tch hT26 (fun e => by have : w11.heap.size = w.heap.size := e; omega)
  replace hB4 : Blk w25 w.heap.size 25 [.int .i64 0, .int .i64 0, .slice none 0 0, .int .i64 0, .int .i64 0] := hB4'
  refine zS [(3, .int .i64 6)] ?_
  refine op_nil ?_
  refine W_ret ?_
  refine ⟨_, Res_cell1 (b := w.heap.size) (cs := [.int .i64 0, .int .i64 0, .slice none 0 0, .int .i64 0, .int .i64 0]) (by rfl) (by kernel_rfl) (by kernel_rfl) (by kernel_rfl) hB4 (by kernel_rfl) (by kernel_rfl), ?_⟩
  have hc : code s = 6 := by rw [hbo.1]; exact cd_sh (by assumption)
  have hr := rep_f (s := s) (by rw [hc]; decide)
  refine ⟨none, 0, [], by rw [hc, hr.1, hr.2.1, hr.2.2.1, hr.2.2.2.1]; rfl, TsW.nil_ _ _, hr.2.2.2.2.symm, TsB.nil_ _ _ _, hT0⟩
 ·
  replace hc24 : ¬ fe s = some shT := (of_decide_eq_false hc24)
  refine zQ ?_
  refine zS [(19, (evO (fe s))), (20, .iface 72 (.string (bsT ([111, 117, 116, 32, 111, 102, 32, 114, 97, 110, 103, 101]))))] ?_
  refine zC (isO_rg (fe s) _ hbo.2.1) ?_
  rintro _ w28 ⟨rfl, hT29⟩
  have hT0 := hT0.t0 hT29
  have hB4 := hB4.tch0 hT29
  have hTs := hTs.tch0 hT29
  have hzL := Nat.le_trans hzL hT29.size
  have hB16 := hB16.tch0 hT29
  refine zS [(18, .bool (decide (fe s = some rgT)))] ?_
  refine zO (decide (fe s = some rgT)) (fun hc30 => ?_) (fun hc30 => ?_)
  ·
   replace hc30 : fe s = some rgT := (of_decide_eq_true hc30)
   refine W_seq ?_
   refine zF [(0, .string (bsT s)), (2, .pointer (some ⟨w.heap.size, 0, none⟩)), (3, .int .i64 0), (4, .pointer (some ⟨w11.heap.size, 0, none⟩)), (5, (evO (fe s))), (13, .bool (decide (fe s = some shT))), (18, .bool (decide (fe s = some rgT)))] fun ρ => ?_
   refine zR ?_
   refine zS [(22, .agg #[.int .i64 0, .int .i64 0, .slice none 0 0, .int .i64 0, .int .i64 0])] ?_
   refine st (by rfl) (S_storeA (b := w.heap.size) (j := 0) (cs := [.int .i64 0, .int .i64 0, .slice none 0 0, .int .i64 0, .int .i64 0]) (by kernel_rfl) (by kernel_rfl) (by kernel_rfl) (by simp [oneV]) hB4 (by simp) fun w31 hT32 hs33 hB4' => ?_)
   have hT0 := (hT0).then hT32 (fun c e => by have : c = w.heap.size := e; omega)
   have hTs := hTs.tchB hTb hT32 (fun c h1 h2 e => by have e : c = w.heap.size := e; omega)
   have hzL := Nat.le_trans hzL hT32.size
   have hB16 := hB16.tch hT32 (fun e => by have : w11.heap.size = w.heap.size := e; omega)
   replace hB4 : Blk w31 w.heap.size 25 [.int .i64 0, .int .i64 0, .slice none 0 0, .int .i64 0, .int .i64 0] := hB4'
   refine zS [(3, .int .i64 4)] ?_
   refine op_nil ?_
   refine W_ret ?_
   refine ⟨_, Res_cell1 (b := w.heap.size) (cs := [.int .i64 0, .int .i64 0, .slice none 0 0, .int .i64 0, .int .i64 0]) (by rfl) (by kernel_rfl) (by kernel_rfl) (by kernel_rfl) hB4 (by kernel_rfl) (by kernel_rfl), ?_⟩
   have hc : code s = 4 := by rw [hbo.1]; exact cd_rg (by assumption)
   have hr := rep_f (s := s) (by rw [hc]; decide)
   refine ⟨none, 0, [], by rw [hc, hr.1, hr.2.1, hr.2.2.1, hr.2.2.2.1]; rfl, TsW.nil_ _ _, hr.2.2.2.2.symm, TsB.nil_ _ _ _, hT0⟩
  ·
   replace hc30 : ¬ fe s = some rgT := (of_decide_eq_false hc30)
   refine W_seq ?_
   refine zF [(0, .string (bsT s)), (2, .pointer (some ⟨w.heap.size, 0, none⟩)), (3, .int .i64 0), (4, .pointer (some ⟨w11.heap.size, 0, none⟩)), (5, (evO (fe s))), (13, .bool (decide (fe s = some shT))), (18, .bool (decide (fe s = some rgT)))] fun ρ => ?_
   refine zR ?_
   refine zS [(24, (evO (fe s))), (25, .iface 72 (.string (bsT ([98, 121, 116, 101, 115, 32, 108, 101, 102, 116]))))] ?_
   refine zC (isO_fm (fe s) _ hbo.2.1) ?_
   rintro _ w34 ⟨rfl, hT35⟩
   have hT0 := hT0.t0 hT35
   have hB4 := hB4.tch0 hT35
   have hTs := hTs.tch0 hT35
   have hzL := Nat.le_trans hzL hT35.size
   have hB16 := hB16.tch0 hT35
   refine zS [(23, .bool (decide (fe s = some fmT)))] ?_
   refine zO (decide (fe s = some fmT)) (fun hc36 => ?_) (fun hc36 => ?_)
   ·
    replace hc36 : fe s = some fmT := (of_decide_eq_true hc36)
    refine zQ ?_
    refine zS [(27, .agg #[.int .i64 0, .int .i64 0, .slice none 0 0, .int .i64 0, .int .i64 0])] ?_
    refine st (by rfl) (S_storeA (b := w.heap.size) (j := 0) (cs := [.int .i64 0, .int .i64 0, .slice none 0 0, .int .i64 0, .int .i64 0]) (by kernel_rfl) (by kernel_rfl) (by kernel_rfl) (by simp [oneV]) hB4 (by simp) fun w37 hT38 hs39 hB4' => ?_)
    have hT0 := (hT0).then hT38 (fun c e => by have : c = w.heap.size := e; omega)
    have hTs := hTs.tchB hTb hT38 (fun c h1 h2 e => by have e : c = w.heap.size := e; omega)
    have hzL := Nat.le_trans hzL hT38.size
    have hB16 := hB16.tch hT38 (fun e => by have : w11.heap.size = w.heap.size := e; omega)
    replace hB4 : Blk w37 w.heap.size 25 [.int .i64 0, .int .i64 0, .slice none 0 0, .int .i64 0, .int .i64 0] := hB4'
    refine zS [(3, .int .i64 5)] ?_
    refine op_nil ?_
    refine W_ret ?_
    refine ⟨_, Res_cell1 (b := w.heap.size) (cs := [.int .i64 0, .int .i64 0, .slice none 0 0, .int .i64 0, .int .i64 0]) (by rfl) (by kernel_rfl) (by kernel_rfl) (by kernel_rfl) hB4 (by kernel_rfl) (by kernel_rfl), ?_⟩
    have hc : code s = 5 := by rw [hbo.1]; exact cd_fm (by assumption)
    have hr := rep_f (s := s) (by rw [hc]; decide)
    refine ⟨none, 0, [], by rw [hc, hr.1, hr.2.1, hr.2.2.1, hr.2.2.2.1]; rfl, TsW.nil_ _ _, hr.2.2.2.2.symm, TsB.nil_ _ _ _, hT0⟩
   ·
    replace hc36 : ¬ fe s = some fmT := (of_decide_eq_false hc36)
    refine W_skip ?_
    refine zQ ?_
    refine st (by rfl) (S_val (v := .agg #[.int .i64 ((nu (a0 s) 1 : Nat) : Int), .int .i64 ((nu (a1 s) 1 : Nat) : Int), .slice A l.length c, .int .i64 ((nu (a2 s) 4 : Nat) : Int), .int .i64 ((nu (a3 s) 4 : Nat) : Int)]) (R_loadA [.int .i64 ((nu (a0 s) 1 : Nat) : Int), .int .i64 ((nu (a1 s) 1 : Nat) : Int), .slice A l.length c, .int .i64 ((nu (a2 s) 4 : Nat) : Int), .int .i64 ((nu (a3 s) 4 : Nat) : Int)] (by kernel_rfl) (by kernel_rfl) (by kernel_rfl) (fun k u hk => by rw [hB16.cell]; exact get_part _ 0 _ k u rfl hk)) ?_)
    refine st (by rfl) (S_storeA (b := w.heap.size) (j := 0) (cs := [.int .i64 ((nu (a0 s) 1 : Nat) : Int), .int .i64 ((nu (a1 s) 1 : Nat) : Int), .slice A l.length c, .int .i64 ((nu (a2 s) 4 : Nat) : Int), .int .i64 ((nu (a3 s) 4 : Nat) : Int)]) (by kernel_rfl) (by kernel_rfl) (by kernel_rfl) (by simp [oneV]) hB4 (by simp) fun w40 hT41 hs42 hB4' => ?_)
    have hT0 := (hT0).then hT41 (fun c e => by have : c = w.heap.size := e; omega)
    have hTs := hTs.tchB hTb hT41 (fun c h1 h2 e => by have e : c = w.heap.size := e; omega)
    have hzL := Nat.le_trans hzL hT41.size
    have hB16 := hB16.tch hT41 (fun e => by have : w11.heap.size = w.heap.size := e; omega)
    replace hB4 : Blk w40 w.heap.size 25 [.int .i64 ((nu (a0 s) 1 : Nat) : Int), .int .i64 ((nu (a1 s) 1 : Nat) : Int), .slice A l.length c, .int .i64 ((nu (a2 s) 4 : Nat) : Int), .int .i64 ((nu (a3 s) 4 : Nat) : Int)] := hB4'
    refine zS [(3, .int .i64 0)] ?_
    refine op_nil ?_
    refine W_ret ?_
    refine ⟨_, Res_cell1 (b := w.heap.size) (cs := [.int .i64 ((nu (a0 s) 1 : Nat) : Int), .int .i64 ((nu (a1 s) 1 : Nat) : Int), .slice A l.length c, .int .i64 ((nu (a2 s) 4 : Nat) : Int), .int .i64 ((nu (a3 s) 4 : Nat) : Int)]) (by rfl) (by kernel_rfl) (by kernel_rfl) (by kernel_rfl) hB4 (by kernel_rfl) (by kernel_rfl), ?_⟩
    have hno : fe s = none := cd_no hbo.2.1 (by assumption) (by assumption) (by assumption)
    have hc : code s = 0 := by rw [hbo.1, hno]; decide
    have hr := rep_t hc
    have hv := hbo.2.2 hno
    refine ⟨A, c, l, by rw [hc, hr.1, hr.2.1, hr.2.2.1, hr.2.2.2.1, ← hv.1, ← hv.2.1, ← hv.2.2.1, ← hv.2.2.2.1]; rfl, hTs, by rw [hcl hno, hr.2.2.2.2, hv.2.2.2.2], hTb.up (by omega) hzL, hT0⟩

end Go.Proofs.YtlkjhkennbdbnaaV

set_option linter.unusedVariables false
set_option linter.unusedSimpArgs false
namespace Go.Proofs.YtlkjhkennbdbnaaV
open Go Go.RowKit Go.Proofs
theorem p8 (k : Nat) : (2 : Nat) ^ (8 * k) = 256 ^ k := by rw [Nat.pow_mul]
theorem be_succ (k x : Nat) : be (k + 1) x = UInt8.ofNat (x / 256 ^ k) :: be k x := by
 show bt x k :: be k x = _
 unfold bt; rw [p8]
theorem of_mod {a b : Nat} (h : a % 256 = b % 256) : UInt8.ofNat a = UInt8.ofNat b := by
 apply UInt8.toNat_inj.1
 rw [UInt8.toNat_ofNat', UInt8.toNat_ofNat']
 exact h
theorem be_mod : ∀ (k x y : Nat), x % 256 ^ k = y % 256 ^ k → be k x = be k y
 | 0, _, _, _ => rfl
 | k + 1, x, y, h => by
  rw [be_succ, be_succ]
  rw [pow256] at h
  have h1 : x / 256 ^ k % 256 = y / 256 ^ k % 256 := by
   rw [← Nat.mod_mul_right_div_self, ← Nat.mod_mul_right_div_self, h]
  have h2 : x % 256 ^ k = y % 256 ^ k := by
   rw [← Nat.mod_mod_of_dvd x (Nat.dvd_mul_right (256 ^ k) 256), ← Nat.mod_mod_of_dvd y (Nat.dvd_mul_right (256 ^ k) 256), h]
  rw [of_mod h1, be_mod k x y h2]
theorem vl_be : ∀ (k x : Nat), vl (be k x) = x % 256 ^ k
 | 0, x => by show 0 = _; rw [Nat.pow_zero, Nat.mod_one]
 | k + 1, x => by
  rw [be_succ, vl_cons, be_length, vl_be k x, UInt8.toNat_ofNat', pow256, Nat.mod_mul, Nat.mul_comm]
  rw [show (2 : Nat) ^ 8 = 256 from rfl]; omega
theorem vl_beL {k x : Nat} (h : x < 256 ^ k) : vl (be k x) = x := by rw [vl_be, Nat.mod_eq_of_lt h]
theorem be_vl : ∀ (t : Tx), be t.length (vl t) = t
 | [] => rfl
 | b :: t => by
  have hl := vl_lt t
  rw [List.length_cons, be_succ, vl_cons]
  have h1 : (b.toNat * 256 ^ t.length + vl t) / 256 ^ t.length = b.toNat := by
   rw [Nat.mul_comm, Nat.mul_add_div (Nat.lt_of_le_of_lt (Nat.zero_le _) hl), Nat.div_eq_of_lt hl, Nat.add_zero]
  have h2 : be t.length (b.toNat * 256 ^ t.length + vl t) = be t.length (vl t) := be_mod _ _ _ (by rw [Nat.mul_comm, Nat.mul_add_mod])
  rw [h1, h2, be_vl t]
  congr 1
  apply UInt8.toNat_inj.1
  rw [UInt8.toNat_ofNat']
  have := b.toNat_lt
  omega
theorem cut {t : Tx} {k : Nat} (h : k ≤ t.length) : be k (vl (t.take k)) ++ t.drop k = t := by
 have := be_vl (t.take k)
 rw [List.length_take, Nat.min_eq_left h] at this
 rw [this, List.take_append_drop]
theorem dr {a b : Tx} {k : Nat} (h : a.length = k) : (a ++ b).drop k = b := by subst h; exact List.drop_left
theorem ta {a b : Tx} {k : Nat} (h : a.length = k) : (a ++ b).take k = a := by subst h; exact List.take_left
theorem drb {k x : Nat} {b : Tx} : (be k x ++ b).drop k = b := dr (be_length k x)
theorem vtb {k x : Nat} {b : Tx} (h : x < 256 ^ k) : vl ((be k x ++ b).take k) = x := by rw [ta (be_length k x), vl_beL h]
/-! ### one test -/
def encI (l : List Nat) : Tx := l.flatMap (be 8)
theorem encI_len (l : List Nat) : (encI l).length = 8 * l.length := flat8_length l
theorem im8_enc : ∀ (l : List Nat) (r : Tx) (i : Nat), i < l.length → (∀ x, x ∈ l → x < 18446744073709551616) → im8 (encI l ++ r) i = l.getD i 0
 | [], _, _, h, _ => by simp at h
 | x :: l, r, 0, _, hx => by
  unfold im8
  have e : encI (x :: l) ++ r = be 8 x ++ (encI l ++ r) := by unfold encI; rw [List.flatMap_cons, List.append_assoc]
  rw [e]
  show vl ((be 8 x ++ (encI l ++ r)).take 8) = x
  exact vtb (hx x (by simp))
 | x :: l, r, i + 1, h, hx => by
  have e : encI (x :: l) ++ r = be 8 x ++ (encI l ++ r) := by unfold encI; rw [List.flatMap_cons, List.append_assoc]
  have q := im8_enc l r i (by simpa using h) (fun y hy => hx y (by simp [hy]))
  unfold im8 at q ⊢
  rw [e, show 8 * (i + 1) = 8 + 8 * i by omega, ← List.drop_drop, drb, q]
  simp
theorem ims_enc {l : List Nat} {r : Tx} (hx : ∀ x, x ∈ l → x < 18446744073709551616) : ims (encI l ++ r) l.length = l := by
 refine List.ext_getElem (by rw [ims_len]) fun i h1 h2 => ?_
 have q := im8_enc l r i h2 hx
 have e : (ims (encI l ++ r) l.length)[i] = im8 (encI l ++ r) i := by simp [ims]
 rw [e, q, List.getD_eq_getElem?_getD, List.getElem?_eq_getElem h2]; rfl
theorem enc_ims (e : Tx) : ∀ n, 8 * n ≤ e.length → encI (ims e n) = e.take (8 * n)
 | 0, _ => by simp [ims, encI]
 | n + 1, h => by
  rw [ims_step]
  unfold encI
  rw [List.flatMap_append]
  have ih := enc_ims e n (by omega)
  unfold encI at ih
  rw [ih]
  have h8 : be 8 (im8 e n) = (e.drop (8 * n)).take 8 := by
   unfold im8
   have := be_vl ((e.drop (8 * n)).take 8)
   rw [List.length_take, List.length_drop, Nat.min_eq_left (by omega)] at this
   exact this
  rw [List.flatMap_cons, List.flatMap_nil, List.append_nil, h8, show 8 * (n + 1) = 8 * n + 8 by omega, List.take_add]
/-- What a test is made of, fit to be put. -/
theorem p1_enc {c : Co} (hm : mayC c = true) (hx : ∀ x, x ∈ c.2.2.2.1 → x < 18446744073709551616) (r : Tx) : p1b (encC c ++ r) = true ∧ p1c (encC c ++ r) = c ∧ p1r (encC c ++ r) = r := by
 obtain ⟨inp, pt, ms, img, kd, cd⟩ := c
 have hm := of_decide_eq_true hm
 simp only at hm hx
 obtain ⟨m1, m2, m3, m4, m5, m6⟩ := hm
 have hs : encC (inp, pt, ms, img, kd, cd) ++ r = be 1 inp.length ++ (inp ++ (be 2 pt.toNat ++ (be 2 ms.toNat ++ (be 2 cd.toNat ++ (be 1 kd.toNat ++ (be 1 img.length ++ (encI img ++ r))))))) := by
  unfold encC encI; simp only [List.append_assoc]
 rw [hs]
 generalize ht : be 1 inp.length ++ (inp ++ (be 2 pt.toNat ++ (be 2 ms.toNat ++ (be 2 cd.toNat ++ (be 1 kd.toNat ++ (be 1 img.length ++ (encI img ++ r))))))) = t
 have l1 : 1 ≤ t.length := by rw [← ht, List.length_append, be_length]; omega
 have hr := rn_t l1
 have ek : p1k t = inp.length := by unfold p1k; rw [hr.1, ← ht]; exact vtb (by omega)
 have ea : p1a t = inp ++ (be 2 pt.toNat ++ (be 2 ms.toNat ++ (be 2 cd.toNat ++ (be 1 kd.toNat ++ (be 1 img.length ++ (encI img ++ r)))))) := by unfold p1a; rw [hr.2, ← ht, drb]
 have ed : p1d t = be 2 pt.toNat ++ (be 2 ms.toNat ++ (be 2 cd.toNat ++ (be 1 kd.toNat ++ (be 1 img.length ++ (encI img ++ r))))) := by unfold p1d; rw [ea, ek, dr rfl]
 have d2 : (p1d t).drop 2 = be 2 ms.toNat ++ (be 2 cd.toNat ++ (be 1 kd.toNat ++ (be 1 img.length ++ (encI img ++ r)))) := by rw [ed, drb]
 have d4 : (p1d t).drop 4 = be 2 cd.toNat ++ (be 1 kd.toNat ++ (be 1 img.length ++ (encI img ++ r))) := by rw [show (4 : Nat) = 2 + 2 from rfl, ← List.drop_drop, d2, drb]
 have d6 : (p1d t).drop 6 = be 1 kd.toNat ++ (be 1 img.length ++ (encI img ++ r)) := by rw [show (6 : Nat) = 4 + 2 from rfl, ← List.drop_drop, d4, drb]
 have d7 : (p1d t).drop 7 = be 1 img.length ++ (encI img ++ r) := by rw [show (7 : Nat) = 6 + 1 from rfl, ← List.drop_drop, d6, drb]
 have ee : p1e t = encI img ++ r := by unfold p1e; rw [show (8 : Nat) = 7 + 1 from rfl, ← List.drop_drop, d7, drb]
 have l8 : 8 ≤ (p1d t).length := by rw [ed]; simp only [List.length_append, be_length]; omega
 have en : p1n t = img.length := by
  unfold p1n
  rw [← getD_drop, ← vl_one (by rw [List.length_drop]; omega), d7]
  exact vtb (by omega)
 have g6 : ((p1d t).getD 6 0).toNat = kd.toNat := by
  rw [← getD_drop, ← vl_one (by rw [List.length_drop]; omega), d6]
  exact vtb (by omega)
 have hb : p1b t = true := decide_eq_true ⟨l1, by rw [ek, ea, List.length_append]; omega, l8, by rw [en, ee, List.length_append, encI_len]; omega⟩
 refine ⟨hb, ?_, ?_⟩
 ·
  have e0 : (p1a t).take (p1k t) = inp := by rw [ek, ea, ta rfl]
  have e1 : vl ((p1d t).take 2) = pt.toNat := by rw [ed]; exact vtb (by omega)
  have e2 : vl (((p1d t).drop 2).take 2) = ms.toNat := by rw [d2]; exact vtb (by omega)
  have e4 : vl (((p1d t).drop 4).take 2) = cd.toNat := by rw [d4]; exact vtb (by omega)
  have e3 : ims (p1e t) (p1n t) = img := by rw [ee, en, ims_enc hx]
  have z1 : ((pt.toNat : Nat) : Int) = pt := by omega
  have z2 : ((ms.toNat : Nat) : Int) = ms := by omega
  have z3 : ((kd.toNat : Nat) : Int) = kd := by omega
  have z4 : ((cd.toNat : Nat) : Int) = cd := by omega
  unfold p1c
  rw [e0, e1, e2, e3, e4, g6, z1, z2, z3, z4]
 ·
  rw [p1_t hb, ee, en]
  exact dr (encI_len img)
theorem p1_dec {t : Tx} (h : p1b t = true) : encC (p1c t) ++ p1r t = t ∧ mayC (p1c t) = true ∧ ∀ x, x ∈ (p1c t).2.2.2.1 → x < 18446744073709551616 := by
 obtain ⟨h1, h2, h3, h4⟩ := of_decide_eq_true h
 have hr := rn_t h1
 have hk : p1k t < 256 := rn_1 t
 have hn : p1n t < 256 := UInt8.toNat_lt _
 have e6 : ((p1d t).getD 6 0).toNat = vl (((p1d t).drop 6).take 1) := by rw [← getD_drop, vl_one (by rw [List.length_drop]; omega)]
 have e7 : p1n t = vl (((p1d t).drop 7).take 1) := by unfold p1n; rw [← getD_drop, vl_one (by rw [List.length_drop]; omega)]
 have c1 : be 1 (p1k t) ++ p1a t = t := by unfold p1k p1a; rw [hr.1, hr.2]; exact cut h1
 have c2 : (p1a t).take (p1k t) ++ p1d t = p1a t := List.take_append_drop _ _
 have c3 : be 2 (vl ((p1d t).take 2)) ++ (p1d t).drop 2 = p1d t := cut (by omega)
 have c4 : be 2 (vl (((p1d t).drop 2).take 2)) ++ (p1d t).drop 4 = (p1d t).drop 2 := by
  have := cut (t := (p1d t).drop 2) (k := 2) (by rw [List.length_drop]; omega)
  rwa [List.drop_drop] at this
 have c5 : be 2 (vl (((p1d t).drop 4).take 2)) ++ (p1d t).drop 6 = (p1d t).drop 4 := by
  have := cut (t := (p1d t).drop 4) (k := 2) (by rw [List.length_drop]; omega)
  rwa [List.drop_drop] at this
 have c6 : be 1 (vl (((p1d t).drop 6).take 1)) ++ (p1d t).drop 7 = (p1d t).drop 6 := by
  have := cut (t := (p1d t).drop 6) (k := 1) (by rw [List.length_drop]; omega)
  rwa [List.drop_drop] at this
 have c7 : be 1 (vl (((p1d t).drop 7).take 1)) ++ p1e t = (p1d t).drop 7 := by
  have := cut (t := (p1d t).drop 7) (k := 1) (by rw [List.length_drop]; omega)
  rwa [List.drop_drop] at this
 have c8 : encI (ims (p1e t) (p1n t)) ++ p1r t = p1e t := by rw [p1_t h, enc_ims _ _ h4, List.take_append_drop]
 have li : ((p1a t).take (p1k t)).length = p1k t := by rw [List.length_take]; omega
 have lm := ims_len (p1e t) (p1n t)
 refine ⟨?_, ?_, fun x hx => ims_lt x hx⟩
 ·
  have hs : encC (p1c t) ++ p1r t = be 1 (p1k t) ++ ((p1a t).take (p1k t) ++ (be 2 (vl ((p1d t).take 2)) ++ (be 2 (vl (((p1d t).drop 2).take 2)) ++ (be 2 (vl (((p1d t).drop 4).take 2)) ++ (be 1 (vl (((p1d t).drop 6).take 1)) ++ (be 1 (vl (((p1d t).drop 7).take 1)) ++ (encI (ims (p1e t) (p1n t)) ++ p1r t))))))) := by
   unfold encC p1c encI
   simp only [List.append_assoc, li, Int.toNat_natCast, e6]
   rw [show (ims (p1e t) (p1n t)).length = vl (((p1d t).drop 7).take 1) by rw [lm, e7]]
  rw [hs, c8, c7, c6, c5, c4, c3, c2, c1]
 ·
  have v1 := vl_2 (p1d t)
  have v2 := vl_2 ((p1d t).drop 2)
  have v3 := vl_2 ((p1d t).drop 4)
  have v4 := vl_1 ((p1d t).drop 6)
  unfold mayC p1c
  refine decide_eq_true ?_
  simp only [li, lm, e6]
  omega
/-! ### a row of tests -/
def okC (l : List Co) : Prop := ∀ c, c ∈ l → mayC c = true ∧ ∀ x, x ∈ c.2.2.2.1 → x < 18446744073709551616
theorem pl_sh (t : Tx) : ∀ j, pl (j + 1) t = pl j (p1r t)
 | 0 => rfl
 | j + 1 => by
  show p1r (pl (j + 1) t) = p1r (pl j (p1r t))
  rw [pl_sh t j]
theorem rows_enc : ∀ (l : List Co) (r : Tx), okC l → (∀ i, i < l.length → p1b (pl i (l.flatMap encC ++ r)) = true) ∧ pl l.length (l.flatMap encC ++ r) = r ∧ pc l.length (l.flatMap encC ++ r) = l
 | [], r, _ => ⟨fun i h => by simp at h, rfl, rfl⟩
 | c :: l, r, h => by
  obtain ⟨i1, i2, i3⟩ := rows_enc l r (fun d hd => h d (by simp [hd]))
  have e : (c :: l).flatMap encC ++ r = encC c ++ (l.flatMap encC ++ r) := by rw [List.flatMap_cons, List.append_assoc]
  obtain ⟨j1, j2, j3⟩ := p1_enc (h c (by simp)).1 (h c (by simp)).2 (l.flatMap encC ++ r)
  rw [e]
  refine ⟨fun i hi => ?_, ?_, ?_⟩
  ·
   cases i with
   | zero => exact j1
   | succ i => rw [pl_sh, j3]; exact i1 i (by simpa using hi)
  ·
   rw [List.length_cons, pl_sh, j3, i2]
  ·
   rw [List.length_cons]
   have hp : pc (l.length + 1) (encC c ++ (l.flatMap encC ++ r)) = p1c (encC c ++ (l.flatMap encC ++ r)) :: pc l.length (l.flatMap encC ++ r) := by
    unfold pc
    rw [List.range_succ_eq_map, List.map_cons, List.map_map]
    congr 1
    refine List.map_congr_left fun i _ => ?_
    show p1c (pl (i + 1) _) = _
    rw [pl_sh, j3]
   rw [hp, j2, i3]
theorem rows_dec (t : Tx) : ∀ n, (∀ i, i < n → p1b (pl i t) = true) → (pc n t).flatMap encC ++ pl n t = t ∧ okC (pc n t) ∧ (pc n t).length = n
 | 0, _ => ⟨rfl, (show okC [] from fun c hc => by cases hc), rfl⟩
 | n + 1, h => by
  obtain ⟨i1, i2, i3⟩ := rows_dec t n (fun i hi => h i (by omega))
  obtain ⟨j1, j2, j3⟩ := p1_dec (h n (by omega))
  rw [pc_step]
  refine ⟨?_, ?_, by rw [List.length_append, i3]; rfl⟩
  ·
   rw [List.flatMap_append, List.append_assoc]
   show (pc n t).flatMap encC ++ (([p1c (pl n t)] : List Co).flatMap encC ++ p1r (pl n t)) = t
   rw [List.flatMap_cons, List.flatMap_nil, List.append_nil, j1, i1]
  ·
   intro c hc
   rcases List.mem_append.1 hc with q | q
   ·
    exact i2 c q
   ·
    rw [List.mem_singleton] at q; rw [q]; exact ⟨j2, j3⟩
/-! ### the whole -/
theorem hd12 {s : Tx} (h : 12 ≤ s.length) : hV s = vl (s.take 1) ∧ hE s = vl ((s.drop 1).take 1) ∧ hU s = vl ((s.drop 6).take 4) ∧ hR s = s.drop 10 ∧ hN s = vl ((s.drop 10).take 2) ∧ hT s = s.drop 12 := by
 have h6 : 4 ≤ (s.drop 6).length := by rw [List.length_drop]; omega
 have eR : hR s = s.drop 10 := by unfold hR; rw [(rn_t h6).2, List.drop_drop]
 have h2 : 2 ≤ (hR s).length := by rw [eR, List.length_drop]; omega
 refine ⟨(vl_one (by omega)).symm, ?_, (rn_t h6).1, eR, ?_, ?_⟩
 ·
  unfold hE; rw [← getD_drop, vl_one (by rw [List.length_drop]; omega)]
 ·
  unfold hN; rw [(rn_t h2).1, eR]
 ·
  unfold hT; rw [(rn_t h2).2, eR, List.drop_drop]
theorem code12 {s : Tx} (h : 12 ≤ s.length) (h1 : hV s ≤ 3) (h2 : hS s ≤ 1073741824) (h3 : hU s ≤ 1073741824) : code s = if okN (hN s) (hT s) = false then 6 else if 0 < (pl (hN s) (hT s)).length then 5 else 0 := by
 have hl : 2 ≤ (hR s).length := by rw [(hd12 h).2.2.2.1, List.length_drop]; omega
 unfold code
 rw [if_neg (by omega), if_neg (by omega), if_neg (by omega), if_neg (by omega), if_neg (by omega), if_neg (by omega)]
theorem enc_hd (V E S U : Int) (l : List Co) (x : Tx) (hm : mayR V E S U l = true) : 12 ≤ (encR V E S U l ++ x).length ∧ hV (encR V E S U l ++ x) = V.toNat ∧ hE (encR V E S U l ++ x) = E.toNat ∧ hS (encR V E S U l ++ x) = S.toNat ∧ hU (encR V E S U l ++ x) = U.toNat ∧ hN (encR V E S U l ++ x) = l.length ∧ hT (encR V E S U l ++ x) = l.flatMap encC ++ x := by
 unfold mayR at hm
 rw [Bool.and_eq_true] at hm
 have hm := of_decide_eq_true hm.1
 have hs : encR V E S U l ++ x = be 1 V.toNat ++ (be 1 E.toNat ++ (be 4 S.toNat ++ (be 4 U.toNat ++ (be 2 l.length ++ (l.flatMap encC ++ x))))) := by
  unfold encR; simp only [List.append_assoc]
 rw [hs]
 generalize ht : be 1 V.toNat ++ (be 1 E.toNat ++ (be 4 S.toNat ++ (be 4 U.toNat ++ (be 2 l.length ++ (l.flatMap encC ++ x))))) = s
 have hl : 12 ≤ s.length := by rw [← ht]; simp only [List.length_append, be_length]; omega
 obtain ⟨e1, e2, e4, e5, e6, e7⟩ := hd12 hl
 have d1 : s.drop 1 = be 1 E.toNat ++ (be 4 S.toNat ++ (be 4 U.toNat ++ (be 2 l.length ++ (l.flatMap encC ++ x)))) := by rw [← ht, drb]
 have d2 : s.drop 2 = be 4 S.toNat ++ (be 4 U.toNat ++ (be 2 l.length ++ (l.flatMap encC ++ x))) := by rw [show (2 : Nat) = 1 + 1 from rfl, ← List.drop_drop, d1, drb]
 have d6 : s.drop 6 = be 4 U.toNat ++ (be 2 l.length ++ (l.flatMap encC ++ x)) := by rw [show (6 : Nat) = 2 + 4 from rfl, ← List.drop_drop, d2, drb]
 have d10 : s.drop 10 = be 2 l.length ++ (l.flatMap encC ++ x) := by rw [show (10 : Nat) = 6 + 4 from rfl, ← List.drop_drop, d6, drb]
 have d12 : s.drop 12 = l.flatMap encC ++ x := by rw [show (12 : Nat) = 10 + 2 from rfl, ← List.drop_drop, d10, drb]
 refine ⟨hl, ?_, ?_, ?_, ?_, ?_, ?_⟩
 ·
  rw [e1, ← ht]; exact vtb (by omega)
 ·
  rw [e2, d1]; exact vtb (by omega)
 ·
  unfold hS; rw [d2]; exact vtb (by omega)
 ·
  rw [e4, d6]; exact vtb (by omega)
 ·
  rw [e6, d10]; exact vtb (by omega)
 ·
  rw [e7, d12]
theorem may_rows {V E S U : Int} {l : List Co} (hm : mayR V E S U l = true) (hx : ∀ c, c ∈ l → ∀ x, x ∈ c.2.2.2.1 → x < 18446744073709551616) : okC l := by
 unfold mayR at hm
 rw [Bool.and_eq_true] at hm
 exact fun c hc => ⟨List.all_eq_true.1 hm.2 c hc, hx c hc⟩
theorem may_nums {V E S U : Int} {l : List Co} (hm : mayR V E S U l = true) : (0 ≤ V ∧ V ≤ 3) ∧ (0 ≤ E ∧ E ≤ 255) ∧ (0 ≤ S ∧ S ≤ 1073741824) ∧ (0 ≤ U ∧ U ≤ 1073741824) ∧ l.length ≤ 65535 := by
 unfold mayR at hm
 rw [Bool.and_eq_true] at hm
 exact of_decide_eq_true hm.1
/-- What was put is read, and nothing may follow. -/
theorem enc_read {V E S U : Int} {l : List Co} (x : Tx) (hm : mayR V E S U l = true) (hx : ∀ c, c ∈ l → ∀ x, x ∈ c.2.2.2.1 → x < 18446744073709551616) : code (encR V E S U l ++ x) = (if 0 < x.length then 5 else 0) ∧ pc (hN (encR V E S U l ++ x)) (hT (encR V E S U l ++ x)) = l := by
 obtain ⟨hl, e1, e2, e3, e4, e5, e6⟩ := enc_hd V E S U l x hm
 have hn := may_nums hm
 obtain ⟨r1, r2, r3⟩ := rows_enc l x (may_rows hm hx)
 constructor
 ·
  rw [code12 hl (by omega) (by omega) (by omega), e5, e6, if_neg (okN_t r1), r2]
 ·
  rw [e5, e6, r3]
theorem enc_rep {V E S U : Int} {l : List Co} (hm : mayR V E S U l = true) (hx : ∀ c, c ∈ l → ∀ x, x ∈ c.2.2.2.1 → x < 18446744073709551616) : code (encR V E S U l) = 0 ∧ rV (encR V E S U l) = V ∧ rE (encR V E S U l) = E ∧ rS (encR V E S U l) = S ∧ rU (encR V E S U l) = U ∧ rL (encR V E S U l) = l := by
 have h1 := enc_read [] hm hx
 have h2 := enc_hd V E S U l [] hm
 have hn := may_nums hm
 rw [List.append_nil] at h1 h2
 have hc : code (encR V E S U l) = 0 := h1.1
 have hr := rep_t hc
 obtain ⟨_, e1, e2, e3, e4, _, _⟩ := h2
 exact ⟨hc, by rw [hr.1, e1]; omega, by rw [hr.2.1, e2]; omega, by rw [hr.2.2.1, e3]; omega, by rw [hr.2.2.2.1, e4]; omega, by rw [hr.2.2.2.2, h1.2]⟩
theorem enc_more {V E S U : Int} {l : List Co} (b : UInt8) (hm : mayR V E S U l = true) (hx : ∀ c, c ∈ l → ∀ x, x ∈ c.2.2.2.1 → x < 18446744073709551616) : code (encR V E S U l ++ [b]) = 5 := (enc_read [b] hm hx).1
theorem tk_dr (s : Tx) (m k j : Nat) (h : k + j ≤ m) : ((s.take m).drop k).take j = (s.drop k).take j := by
 rw [List.drop_take, List.take_take, Nat.min_eq_left (by omega)]
theorem hd_take {s : Tx} {m : Nat} (hm : 11 ≤ m) (hl : 12 ≤ s.length) : hV (s.take m) = hV s ∧ hS (s.take m) = hS s ∧ hU (s.take m) = hU s := by
 have h6 : 4 ≤ ((s.take m).drop 6).length := by rw [List.length_drop, List.length_take]; omega
 refine ⟨?_, ?_, ?_⟩
 ·
  have := tk_dr s m 0 1 (by omega)
  rw [List.drop_zero, List.drop_zero] at this
  rw [show hV (s.take m) = vl ((s.take m).take 1) from (vl_one (by rw [List.length_take]; omega)).symm, this, (hd12 hl).1]
 ·
  unfold hS; rw [tk_dr s m 2 4 (by omega)]
 ·
  rw [(hd12 hl).2.2.1]; unfold hU; rw [(rn_t h6).1, tk_dr s m 6 4 (by omega)]
/-- One byte less is short. -/
theorem enc_less {V E S U : Int} {l : List Co} (hm : mayR V E S U l = true) (hx : ∀ c, c ∈ l → ∀ x, x ∈ c.2.2.2.1 → x < 18446744073709551616) : code ((encR V E S U l).take ((encR V E S U l).length - 1)) = 6 := by
 have h2 := enc_hd V E S U l [] hm
 rw [List.append_nil] at h2
 obtain ⟨hl, e1, e2, e3, e4, e5, e6⟩ := h2
 rw [List.append_nil] at e6
 have hn := may_nums hm
 obtain ⟨r1, r2, r3⟩ := rows_enc l [] (may_rows hm hx)
 rw [List.append_nil] at r1 r2 r3
 generalize hs : encR V E S U l = s at hl e1 e2 e3 e4 e5 e6 ⊢
 have hlt : (s.take (s.length - 1)).length = s.length - 1 := by rw [List.length_take]; omega
 obtain ⟨k1, k2, k3⟩ := hd_take (s := s) (m := s.length - 1) (by omega) hl
 have eT : s.drop 12 = l.flatMap encC := by rw [← (hd12 hl).2.2.2.2.2, e6]
 rcases Nat.lt_or_ge (s.length - 1) 12 with c | c
 ·
  have hR1 : (hR (s.take (s.length - 1))).length < 2 := by
   unfold hR
   rw [(rn_t (by rw [List.length_drop, hlt]; omega)).2, List.drop_drop, List.length_drop, hlt]; omega
  unfold code
  rw [if_neg (by omega), if_neg (by omega), if_neg (by omega), if_neg (by omega), if_neg (by omega), if_pos hR1]
 ·
  have hl' : 12 ≤ (s.take (s.length - 1)).length := by rw [hlt]; exact c
  obtain ⟨_, _, _, _, f6, f7⟩ := hd12 hl'
  have g6 : hN (s.take (s.length - 1)) = l.length := by rw [f6, tk_dr s _ 10 2 (by omega), ← (hd12 hl).2.2.2.2.1, e5]
  rw [code12 hl' (by omega) (by omega) (by omega), g6]
  have hTl : (l.flatMap encC).length = s.length - 12 := by rw [← eT, List.length_drop]
  have g7 : hT (s.take (s.length - 1)) = (l.flatMap encC).take (s.length - 13) := by
   rw [f7, List.drop_take, eT, show s.length - 1 - 12 = s.length - 13 by omega]
  rw [g7]
  have hno : okN l.length ((l.flatMap encC).take (s.length - 13)) = false := by
   rcases first_bad (fun i => p1b (pl i ((l.flatMap encC).take (s.length - 13)))) l.length with hall | ⟨j, hj, hf, _⟩
   ·
    exfalso
    obtain ⟨i1, i2, i3⟩ := rows_dec _ l.length hall
    obtain ⟨_, j2, _⟩ := rows_enc (pc l.length ((l.flatMap encC).take (s.length - 13))) (pl l.length ((l.flatMap encC).take (s.length - 13)) ++ (l.flatMap encC).drop (s.length - 13)) i2
    rw [← List.append_assoc, i1, List.take_append_drop, i3, r2] at j2
    have q := congrArg List.length j2
    rw [List.length_append, List.length_drop, hTl] at q
    simp only [List.length_nil] at q
    omega
   ·
    exact okN_f hj hf
  rw [if_pos hno]
end Go.Proofs.YtlkjhkennbdbnaaV
