/- Walks of functions of the program and of the document's texts. The conditions stand with each theorem. -/
import Derived.Test.YtnlecdpiccgdpaaVx13
import Derived.Test.YtnlecdpiccgdpaaProg
import Derived.Test.YtnlecdpiccgdpaaVx4
import Derived.Test.YtnlecdpiccgdpaaX1
set_option linter.unusedVariables false
set_option linter.unusedSimpArgs false
namespace Go.Proofs.YtnlecdpiccgdpaaV
open Go Go.RowKit Go.Proofs

set_option maxRecDepth 100000 in
theorem move9_bad (p ma mb ca cb : Nat) (A B : Option Addr) (a b : List Int) (w : World) (hA : RdW w 1 ma A (ints .i64 a)) (hB : RdW w 1 mb B (ints .i64 b)) (hb : BadR ma a mb b) : Ret Try.prog 31 [.pointer (some ⟨p, 0, none⟩), .int .i64 9, .slice A ma ca, .slice B mb cb] w fun v w' => v = .slice none 0 0 ∧ Tch N0 w w' := by
  refine enter Try.func31 rfl rfl ?_
  refine W_seq ?_
  refine W_region (by kernel_rfl) ?_
  refine sg [(8, .slice none 0 0)] (by kernel_rfl) ?_
  refine op_nil ?_
  refine W_seq ?_
  refine W_seq ?_
  refine W_region (by kernel_rfl) ?_
  refine sg [(14, .int .i64 9), (15, .bool false), (16, .bool false), (17, undef), (18, undef), (19, .bool false), (20, .bool false), (21, undef), (22, undef), (23, .bool false), (24, .bool false), (25, .pointer (some ⟨p, 0, none⟩)), (26, .slice A ma ca), (27, .slice B mb cb)] (by kernel_rfl) ?_
  refine st (by kernel_rfl) (S_call (args := [.pointer (some ⟨p, 0, none⟩), .int .i64 0, .slice A ma ca, .slice B mb cb]) (by kernel_rfl) (itr_bad p ma mb ca cb A B a b 0 _ hA hB (.inr hb)) ?_)
  rintro _ w1 ⟨rfl, hT2⟩
  have hT0 := hT2
  refine sg [(29, .int .i64 0), (30, .bool true), (31, .bool true)] (by kernel_rfl) ?_
  refine op_nil ?_
  refine W_cond true (by kernel_rfl) (by kernel_rfl) (fun _ => ?_) (fun h => nomatch h)
  refine W_seq ?_
  refine W_fg [(0, .pointer (some ⟨p, 0, none⟩)), (1, .int .i64 9), (2, .slice A ma ca), (3, .slice B mb cb), (8, .slice none 0 0), (31, .bool true)] (by kernel_rfl) fun ρ => ?_
  refine W_region (by kernel_rfl) ?_
  refine sg [(8, .slice none 0 0)] (by kernel_rfl) ?_
  refine op_nil ?_
  refine W_ret ?_
  exact ⟨_, Res_of (v := .slice none 0 0) (by kernel_rfl), ⟨rfl, hT0⟩⟩

set_option maxRecDepth 100000 in
theorem move10_bad (p ma mb ca cb : Nat) (A B : Option Addr) (a b : List Int) (w : World) (hA : RdW w 1 ma A (ints .i64 a)) (hB : RdW w 1 mb B (ints .i64 b)) (hb : BadR ma a mb b) : Ret Try.prog 31 [.pointer (some ⟨p, 0, none⟩), .int .i64 10, .slice A ma ca, .slice B mb cb] w fun v w' => v = .slice none 0 0 ∧ Tch N0 w w' := by
  refine enter Try.func31 rfl rfl ?_
  refine W_seq ?_
  refine W_region (by kernel_rfl) ?_
  refine sg [(8, .slice none 0 0)] (by kernel_rfl) ?_
  refine op_nil ?_
  refine W_seq ?_
  refine W_seq ?_
  refine W_region (by kernel_rfl) ?_
  refine sg [(14, .int .i64 10), (15, .bool true), (16, .bool true), (17, .int .i64 10), (18, .bool false), (19, .bool false), (20, .bool false), (21, undef), (22, undef), (23, .bool false), (24, .bool false), (25, .pointer (some ⟨p, 0, none⟩)), (26, .slice A ma ca), (27, .slice B mb cb)] (by kernel_rfl) ?_
  refine st (by kernel_rfl) (S_call (args := [.pointer (some ⟨p, 0, none⟩), .int .i64 0, .slice A ma ca, .slice B mb cb]) (by kernel_rfl) (itr_bad p ma mb ca cb A B a b 0 _ hA hB (.inr hb)) ?_)
  rintro _ w1 ⟨rfl, hT2⟩
  have hT0 := hT2
  refine sg [(29, .int .i64 0), (30, .bool true), (31, .bool true)] (by kernel_rfl) ?_
  refine op_nil ?_
  refine W_cond true (by kernel_rfl) (by kernel_rfl) (fun _ => ?_) (fun h => nomatch h)
  refine W_seq ?_
  refine W_fg [(0, .pointer (some ⟨p, 0, none⟩)), (1, .int .i64 10), (2, .slice A ma ca), (3, .slice B mb cb), (8, .slice none 0 0), (31, .bool true)] (by kernel_rfl) fun ρ => ?_
  refine W_region (by kernel_rfl) ?_
  refine sg [(8, .slice none 0 0)] (by kernel_rfl) ?_
  refine op_nil ?_
  refine W_ret ?_
  exact ⟨_, Res_of (v := .slice none 0 0) (by kernel_rfl), ⟨rfl, hT0⟩⟩

set_option maxRecDepth 100000 in
theorem move11_bad (p ma mb ca cb : Nat) (A B : Option Addr) (a b : List Int) (w : World) (hA : RdW w 1 ma A (ints .i64 a)) (hB : RdW w 1 mb B (ints .i64 b)) (hb : BadR ma a mb b) : Ret Try.prog 31 [.pointer (some ⟨p, 0, none⟩), .int .i64 11, .slice A ma ca, .slice B mb cb] w fun v w' => v = .slice none 0 0 ∧ Tch N0 w w' := by
  refine enter Try.func31 rfl rfl ?_
  refine W_seq ?_
  refine W_region (by kernel_rfl) ?_
  refine sg [(8, .slice none 0 0)] (by kernel_rfl) ?_
  refine op_nil ?_
  refine W_seq ?_
  refine W_seq ?_
  refine W_region (by kernel_rfl) ?_
  refine sg [(14, .int .i64 11), (15, .bool true), (16, .bool true), (17, .int .i64 11), (18, .bool true), (19, .bool true), (20, .bool true), (21, .int .i64 11), (22, .bool false), (23, .bool false), (24, .bool false), (25, .pointer (some ⟨p, 0, none⟩)), (26, .slice A ma ca), (27, .slice B mb cb)] (by kernel_rfl) ?_
  refine st (by kernel_rfl) (S_call (args := [.pointer (some ⟨p, 0, none⟩), .int .i64 0, .slice A ma ca, .slice B mb cb]) (by kernel_rfl) (itr_bad p ma mb ca cb A B a b 0 _ hA hB (.inr hb)) ?_)
  rintro _ w1 ⟨rfl, hT2⟩
  have hT0 := hT2
  refine sg [(29, .int .i64 0), (30, .bool true), (31, .bool true)] (by kernel_rfl) ?_
  refine op_nil ?_
  refine W_cond true (by kernel_rfl) (by kernel_rfl) (fun _ => ?_) (fun h => nomatch h)
  refine W_seq ?_
  refine W_fg [(0, .pointer (some ⟨p, 0, none⟩)), (1, .int .i64 11), (2, .slice A ma ca), (3, .slice B mb cb), (8, .slice none 0 0), (31, .bool true)] (by kernel_rfl) fun ρ => ?_
  refine W_region (by kernel_rfl) ?_
  refine sg [(8, .slice none 0 0)] (by kernel_rfl) ?_
  refine op_nil ?_
  refine W_ret ?_
  exact ⟨_, Res_of (v := .slice none 0 0) (by kernel_rfl), ⟨rfl, hT0⟩⟩

set_option maxRecDepth 100000 in
theorem move_nil (ma mb ca cb : Nat) (A B : Option Addr) (w : World) : Ret Try.prog 31 [.pointer none, .int .i64 10, .slice A ma ca, .slice B mb cb] w fun v w' => v = .slice none 0 0 ∧ Tch N0 w w' := by
  refine enter Try.func31 rfl rfl ?_
  refine W_seq ?_
  refine W_region (by kernel_rfl) ?_
  refine sg [(8, .slice none 0 0)] (by kernel_rfl) ?_
  refine op_nil ?_
  refine W_seq ?_
  refine W_seq ?_
  refine W_region (by kernel_rfl) ?_
  refine sg [(14, .int .i64 10), (15, .bool true), (16, .bool true), (17, .int .i64 10), (18, .bool false), (19, .bool false), (20, .bool false), (21, undef), (22, undef), (23, .bool false), (24, .bool false), (25, .pointer none), (26, .slice A ma ca), (27, .slice B mb cb)] (by kernel_rfl) ?_
  refine st (by kernel_rfl) (S_call (args := [.pointer none, .int .i64 0, .slice A ma ca, .slice B mb cb]) (by kernel_rfl) (itr_nil ma mb ca cb A B 0 _) ?_)
  rintro _ w1 ⟨rfl, hT2⟩
  have hT0 := hT2
  refine sg [(29, .int .i64 0), (30, .bool true), (31, .bool true)] (by kernel_rfl) ?_
  refine op_nil ?_
  refine W_cond true (by kernel_rfl) (by kernel_rfl) (fun _ => ?_) (fun h => nomatch h)
  refine W_seq ?_
  refine W_fg [(0, .pointer none), (1, .int .i64 10), (2, .slice A ma ca), (3, .slice B mb cb), (8, .slice none 0 0), (31, .bool true)] (by kernel_rfl) fun ρ => ?_
  refine W_region (by kernel_rfl) ?_
  refine sg [(8, .slice none 0 0)] (by kernel_rfl) ?_
  refine op_nil ?_
  refine W_ret ?_
  exact ⟨_, Res_of (v := .slice none 0 0) (by kernel_rfl), ⟨rfl, hT0⟩⟩

set_option maxRecDepth 100000 in
theorem move_op (pv : Option Addr) (op : Int) (sa sb : Value) (w : World) (ho : op ≠ 9 ∧ op ≠ 10 ∧ op ≠ 11) : Ret Try.prog 31 [.pointer pv, .int .i64 op, sa, sb] w fun v w' => v = .slice none 0 0 ∧ Tch N0 w w' := by
  refine enter Try.func31 rfl rfl ?_
  refine W_seq ?_
  refine W_region (by kernel_rfl) ?_
  refine sg [(8, .slice none 0 0)] (by kernel_rfl) ?_
  refine op_nil ?_
  refine W_seq ?_
  refine W_seq ?_
  refine W_region (by kernel_rfl) ?_
  refine sg [(14, .int .i64 op), (15, .bool (op != 9)), (16, .bool (op != 9))] (by kernel_rfl) ?_
  cases hb1 : op != 9
  · replace hb1 : op = 9 := (bne_eq_false_iff_eq.1 hb1)
    exfalso; omega
  · replace hb1 : op ≠ 9 := (bne_iff_ne.1 hb1)
    refine sg [(17, .int .i64 op), (18, .bool (op != 10)), (19, .bool (op != 10)), (20, .bool (op != 10))] (by kernel_rfl) ?_
    cases hb2 : op != 10
    · replace hb2 : op = 10 := (bne_eq_false_iff_eq.1 hb2)
      exfalso; omega
    · replace hb2 : op ≠ 10 := (bne_iff_ne.1 hb2)
      refine sg [(21, .int .i64 op), (22, .bool (op != 11)), (23, .bool (op != 11)), (24, .bool (op != 11))] (by kernel_rfl) ?_
      cases hb3 : op != 11
      · replace hb3 : op = 11 := (bne_eq_false_iff_eq.1 hb3)
        exfalso; omega
      · replace hb3 : op ≠ 11 := (bne_iff_ne.1 hb3)
        refine sg [(25, undef), (26, undef), (27, undef), (28, undef), (29, undef), (30, undef), (31, .bool true)] (by kernel_rfl) ?_
        refine op_nil ?_
        refine W_cond true (by kernel_rfl) (by kernel_rfl) (fun _ => ?_) (fun h => nomatch h)
        refine W_seq ?_
        refine W_fg [(0, .pointer pv), (1, .int .i64 op), (2, sa), (3, sb), (8, .slice none 0 0), (31, .bool true)] (by kernel_rfl) fun ρ => ?_
        refine W_region (by kernel_rfl) ?_
        refine sg [(8, .slice none 0 0)] (by kernel_rfl) ?_
        refine op_nil ?_
        refine W_ret ?_
        exact ⟨_, Res_of (v := .slice none 0 0) (by kernel_rfl), ⟨rfl, Tch.refl _ _⟩⟩

end Go.Proofs.YtnlecdpiccgdpaaV
