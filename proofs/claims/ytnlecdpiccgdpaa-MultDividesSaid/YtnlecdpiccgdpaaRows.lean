/-
  No cell of these rows narrows 'for every input' (looked for: loops, veiled, ifaces, maps, wideKeys, modest, calm, conditions, laid).
  DERIVED. THE GIVEN ROWS OF THIS SEAT. 10 by the template 'for every input the law returns true; each argument reads behind the call as it read before'; 0 by the template 'total and deterministic' (their statements: YtnlecdpiccgdpaaTotals.lean).
  GIVEN WITH THE SEED: the statements are not yours to turn. If you find one false, say at which input.
  Laid BY PROGRAM, IN A SANDBOX (cutbox-rows.mjs): the forced cells as the released guide's own fill.sh prints them over the translation 324251d01884445a… (all of the seat's roots in one cut). By AI agents, Wed Nov 11 2026. No macro, syntax, notation, axiom, sorry.
-/
import Derived.Test.YtnlecdpiccgdpaaChecked
import GoSem.Claim
import GoSem.ClaimJoined
import GoSem.ClaimMapViews
import Derived.JoinedTies
import Derived.KernelRfl
namespace Go.Proofs.Ytnlecdpiccgdpaa
/- THE CELL 'sum', in the pinned program and in every row, IS THE sha256 OF THE DUMP (.gsa) THAT YtnlecdpiccgdpaaProg.lean LOADS. Nothing in Lean hashes anything: it is a label: what it is worth is what the hold of that sum in a sandbox is worth. -/
noncomputable def Try.pinned : Pinned := { name := "ytnlecdpiccgdpaa", sum := "324251d01884445a0a525be92094a6883f96088ccdd0629989964ce11b629611", checked := Try.checked }
namespace Rows
def none {H : Type} : Left H := { results := [], args := [] }

/-- 'breakwaterlaw19.GateMeans': WHATEVER THE INPUT: true; the input reads as it did. -/
def gateMeansSpec : ChangeSpec := { name := "gateMeans", fn := fun _ => fun
  | [d1, d2] => { results := [.lit (.bool true)], args := [d1, d2] }
  | _ => none }
def gateMeansRow : OpenClaim := { program := "ytnlecdpiccgdpaa", sum := "324251d01884445a0a525be92094a6883f96088ccdd0629989964ce11b629611", func := "breakwater/breakwaterlaw19.GateMeans", spec := "gateMeans", unfollowed := true, recurses := true, plainKeys := false, apart := false }
def GateMeansSaid : Prop := gateMeansRow.holds Try.pinned (OpenSpec.ofChange gateMeansSpec)

/-- ITS FALSE NEIGHBOUR: 'it returns false'. Refute it at one input. -/
def gateMeansWrong : ChangeSpec := { name := "gateMeans", fn := fun _ => fun
  | [d1, d2] => { results := [.lit (.bool false)], args := [d1, d2] }
  | _ => none }
def GateMeansWrongFalsely : Prop := gateMeansRow.holds Try.pinned (OpenSpec.ofChange gateMeansWrong)

/-- 'breakwaterlaw19.GateBad': WHATEVER THE INPUT: true; the input reads as it did. -/
def gateBadSpec : ChangeSpec := { name := "gateBad", fn := fun _ => fun
  | [d1, d2, d3] => { results := [.lit (.bool true)], args := [d1, d2, d3] }
  | _ => none }
def gateBadRow : OpenClaim := { program := "ytnlecdpiccgdpaa", sum := "324251d01884445a0a525be92094a6883f96088ccdd0629989964ce11b629611", func := "breakwater/breakwaterlaw19.GateBad", spec := "gateBad", unfollowed := true, recurses := true, plainKeys := false, apart := false }
def GateBadSaid : Prop := gateBadRow.holds Try.pinned (OpenSpec.ofChange gateBadSpec)

/-- ITS FALSE NEIGHBOUR: 'it returns false'. Refute it at one input. -/
def gateBadWrong : ChangeSpec := { name := "gateBad", fn := fun _ => fun
  | [d1, d2, d3] => { results := [.lit (.bool false)], args := [d1, d2, d3] }
  | _ => none }
def GateBadWrongFalsely : Prop := gateBadRow.holds Try.pinned (OpenSpec.ofChange gateBadWrong)

/-- 'breakwaterlaw19.GateNone': WHATEVER THE INPUT: true; the input reads as it did. -/
def gateNoneSpec : ChangeSpec := { name := "gateNone", fn := fun _ => fun
  | [d] => { results := [.lit (.bool true)], args := [d] }
  | _ => none }
def gateNoneRow : OpenClaim := { program := "ytnlecdpiccgdpaa", sum := "324251d01884445a0a525be92094a6883f96088ccdd0629989964ce11b629611", func := "breakwater/breakwaterlaw19.GateNone", spec := "gateNone", unfollowed := true, recurses := true, plainKeys := false, apart := false }
def GateNoneSaid : Prop := gateNoneRow.holds Try.pinned (OpenSpec.ofChange gateNoneSpec)

/-- ITS FALSE NEIGHBOUR: 'it returns false'. Refute it at one input. -/
def gateNoneWrong : ChangeSpec := { name := "gateNone", fn := fun _ => fun
  | [d] => { results := [.lit (.bool false)], args := [d] }
  | _ => none }
def GateNoneWrongFalsely : Prop := gateNoneRow.holds Try.pinned (OpenSpec.ofChange gateNoneWrong)

/-- 'breakwaterlaw22.ShiftMeans': WHATEVER THE INPUT: true; the input reads as it did. -/
def shiftMeansSpec : ChangeSpec := { name := "shiftMeans", fn := fun _ => fun
  | [d] => { results := [.lit (.bool true)], args := [d] }
  | _ => none }
def shiftMeansRow : OpenClaim := { program := "ytnlecdpiccgdpaa", sum := "324251d01884445a0a525be92094a6883f96088ccdd0629989964ce11b629611", func := "breakwater/breakwaterlaw22.ShiftMeans", spec := "shiftMeans", unfollowed := true, recurses := true, plainKeys := false, apart := false }
def ShiftMeansSaid : Prop := shiftMeansRow.holds Try.pinned (OpenSpec.ofChange shiftMeansSpec)

/-- ITS FALSE NEIGHBOUR: 'it returns false'. Refute it at one input. -/
def shiftMeansWrong : ChangeSpec := { name := "shiftMeans", fn := fun _ => fun
  | [d] => { results := [.lit (.bool false)], args := [d] }
  | _ => none }
def ShiftMeansWrongFalsely : Prop := shiftMeansRow.holds Try.pinned (OpenSpec.ofChange shiftMeansWrong)

/-- 'breakwaterlaw22.ShiftBad': WHATEVER THE INPUT: true; the input reads as it did. -/
def shiftBadSpec : ChangeSpec := { name := "shiftBad", fn := fun _ => fun
  | [d1, d2, d3] => { results := [.lit (.bool true)], args := [d1, d2, d3] }
  | _ => none }
def shiftBadRow : OpenClaim := { program := "ytnlecdpiccgdpaa", sum := "324251d01884445a0a525be92094a6883f96088ccdd0629989964ce11b629611", func := "breakwater/breakwaterlaw22.ShiftBad", spec := "shiftBad", unfollowed := true, recurses := true, plainKeys := false, apart := false }
def ShiftBadSaid : Prop := shiftBadRow.holds Try.pinned (OpenSpec.ofChange shiftBadSpec)

/-- ITS FALSE NEIGHBOUR: 'it returns false'. Refute it at one input. -/
def shiftBadWrong : ChangeSpec := { name := "shiftBad", fn := fun _ => fun
  | [d1, d2, d3] => { results := [.lit (.bool false)], args := [d1, d2, d3] }
  | _ => none }
def ShiftBadWrongFalsely : Prop := shiftBadRow.holds Try.pinned (OpenSpec.ofChange shiftBadWrong)

/-- 'breakwaterlaw21.MultMeans': WHATEVER THE INPUT: true; the input reads as it did. -/
def multMeansSpec : ChangeSpec := { name := "multMeans", fn := fun _ => fun
  | [d] => { results := [.lit (.bool true)], args := [d] }
  | _ => none }
def multMeansRow : OpenClaim := { program := "ytnlecdpiccgdpaa", sum := "324251d01884445a0a525be92094a6883f96088ccdd0629989964ce11b629611", func := "breakwater/breakwaterlaw21.MultMeans", spec := "multMeans", unfollowed := true, recurses := true, plainKeys := false, apart := false }
def MultMeansSaid : Prop := multMeansRow.holds Try.pinned (OpenSpec.ofChange multMeansSpec)

/-- ITS FALSE NEIGHBOUR: 'it returns false'. Refute it at one input. -/
def multMeansWrong : ChangeSpec := { name := "multMeans", fn := fun _ => fun
  | [d] => { results := [.lit (.bool false)], args := [d] }
  | _ => none }
def MultMeansWrongFalsely : Prop := multMeansRow.holds Try.pinned (OpenSpec.ofChange multMeansWrong)

/-- 'breakwaterlaw21.MultDivides': WHATEVER THE INPUT: true; the input reads as it did. -/
def multDividesSpec : ChangeSpec := { name := "multDivides", fn := fun _ => fun
  | [d] => { results := [.lit (.bool true)], args := [d] }
  | _ => none }
def multDividesRow : OpenClaim := { program := "ytnlecdpiccgdpaa", sum := "324251d01884445a0a525be92094a6883f96088ccdd0629989964ce11b629611", func := "breakwater/breakwaterlaw21.MultDivides", spec := "multDivides", unfollowed := true, recurses := true, plainKeys := false, apart := false }
def MultDividesSaid : Prop := multDividesRow.holds Try.pinned (OpenSpec.ofChange multDividesSpec)

/-- ITS FALSE NEIGHBOUR: 'it returns false'. Refute it at one input. -/
def multDividesWrong : ChangeSpec := { name := "multDivides", fn := fun _ => fun
  | [d] => { results := [.lit (.bool false)], args := [d] }
  | _ => none }
def MultDividesWrongFalsely : Prop := multDividesRow.holds Try.pinned (OpenSpec.ofChange multDividesWrong)

/-- 'breakwaterlaw21.MultBad': WHATEVER THE INPUT: true; the input reads as it did. -/
def multBadSpec : ChangeSpec := { name := "multBad", fn := fun _ => fun
  | [d1, d2] => { results := [.lit (.bool true)], args := [d1, d2] }
  | _ => none }
def multBadRow : OpenClaim := { program := "ytnlecdpiccgdpaa", sum := "324251d01884445a0a525be92094a6883f96088ccdd0629989964ce11b629611", func := "breakwater/breakwaterlaw21.MultBad", spec := "multBad", unfollowed := true, recurses := true, plainKeys := false, apart := false }
def MultBadSaid : Prop := multBadRow.holds Try.pinned (OpenSpec.ofChange multBadSpec)

/-- ITS FALSE NEIGHBOUR: 'it returns false'. Refute it at one input. -/
def multBadWrong : ChangeSpec := { name := "multBad", fn := fun _ => fun
  | [d1, d2] => { results := [.lit (.bool false)], args := [d1, d2] }
  | _ => none }
def MultBadWrongFalsely : Prop := multBadRow.holds Try.pinned (OpenSpec.ofChange multBadWrong)

/-- 'breakwaterlaw20.ArithMeans': WHATEVER THE INPUT: true; the input reads as it did. -/
def arithMeansSpec : ChangeSpec := { name := "arithMeans", fn := fun _ => fun
  | [d1, d2] => { results := [.lit (.bool true)], args := [d1, d2] }
  | _ => none }
def arithMeansRow : OpenClaim := { program := "ytnlecdpiccgdpaa", sum := "324251d01884445a0a525be92094a6883f96088ccdd0629989964ce11b629611", func := "breakwater/breakwaterlaw20.ArithMeans", spec := "arithMeans", unfollowed := true, recurses := true, plainKeys := false, apart := false }
def ArithMeansSaid : Prop := arithMeansRow.holds Try.pinned (OpenSpec.ofChange arithMeansSpec)

/-- ITS FALSE NEIGHBOUR: 'it returns false'. Refute it at one input. -/
def arithMeansWrong : ChangeSpec := { name := "arithMeans", fn := fun _ => fun
  | [d1, d2] => { results := [.lit (.bool false)], args := [d1, d2] }
  | _ => none }
def ArithMeansWrongFalsely : Prop := arithMeansRow.holds Try.pinned (OpenSpec.ofChange arithMeansWrong)

/-- 'breakwaterlaw20.ArithBad': WHATEVER THE INPUT: true; the input reads as it did. -/
def arithBadSpec : ChangeSpec := { name := "arithBad", fn := fun _ => fun
  | [d1, d2, d3] => { results := [.lit (.bool true)], args := [d1, d2, d3] }
  | _ => none }
def arithBadRow : OpenClaim := { program := "ytnlecdpiccgdpaa", sum := "324251d01884445a0a525be92094a6883f96088ccdd0629989964ce11b629611", func := "breakwater/breakwaterlaw20.ArithBad", spec := "arithBad", unfollowed := true, recurses := true, plainKeys := false, apart := false }
def ArithBadSaid : Prop := arithBadRow.holds Try.pinned (OpenSpec.ofChange arithBadSpec)

/-- ITS FALSE NEIGHBOUR: 'it returns false'. Refute it at one input. -/
def arithBadWrong : ChangeSpec := { name := "arithBad", fn := fun _ => fun
  | [d1, d2, d3] => { results := [.lit (.bool false)], args := [d1, d2, d3] }
  | _ => none }
def ArithBadWrongFalsely : Prop := arithBadRow.holds Try.pinned (OpenSpec.ofChange arithBadWrong)

/- THE SECOND FORM. 'bulk': how many values and letters a reading holds, each counted each time it is reached (what is shared counts as often as it is met; a slice's spare places count too). A statement '..UptoSaid' is the law's where the arguments, and the package variables that the reading takes, are together of bulk at most 1048576: NARROWER than '..Said'. Prove '..Said' where nothing that the law and all that it calls make is longer than what came in: it says more and counts as full. Else prove '..UptoSaid'. A law counts once. -/
mutual
def uptoBulk {H : Type} : DataW H → Nat
  | .lit (.string bytes) => bytes.length + 1
  | .lit _ => 1
  | .nil => 1
  | .ptr d => uptoBulk d + 1
  | .slice elems spare => uptoBulkAll elems + uptoBulkAll spare + 1
  | .agg parts => uptoBulkAll parts + 1
  | .iface _ d => uptoBulk d + 1
  | .map entries => uptoBulkEntries entries + 1
  | .held _ => 1
def uptoBulkAll {H : Type} : List (DataW H) → Nat
  | [] => 0
  | d :: r => uptoBulk d + uptoBulkAll r
def uptoBulkEntries {H : Type} : List (Lit × DataW H) → Nat
  | [] => 0
  | x :: r => uptoBulkEntry x + uptoBulkEntries r
def uptoBulkEntry {H : Type} : Lit × DataW H → Nat
  | (.string bytes, d) => bytes.length + uptoBulk d + 1
  | (_, d) => uptoBulk d + 1
 end
def uptoSmall : (H : Type) → List (DataW H) → Bool := fun _ ds => decide (uptoBulkAll ds ≤ 1048576)
def OpenSpec.upto (s : _root_.Go.ChangeSpec) : _root_.Go.OpenSpec := { _root_.Go.OpenSpec.ofChange s with cond := some uptoSmall }

/-- 'breakwaterlaw19.GateMeans', WHERE WHAT IT READS IS OF BULK AT MOST 1048576: true; the input reads as it did. -/
def gateMeansUptoRow : OpenClaim := { program := "ytnlecdpiccgdpaa", sum := "324251d01884445a0a525be92094a6883f96088ccdd0629989964ce11b629611", func := "breakwater/breakwaterlaw19.GateMeans", spec := "gateMeans", unfollowed := true, recurses := true, plainKeys := false, apart := false, narrowed := true }
def GateMeansUptoSaid : Prop := gateMeansUptoRow.holds Try.pinned (OpenSpec.upto gateMeansSpec)

/-- 'breakwaterlaw19.GateBad', WHERE WHAT IT READS IS OF BULK AT MOST 1048576: true; the input reads as it did. -/
def gateBadUptoRow : OpenClaim := { program := "ytnlecdpiccgdpaa", sum := "324251d01884445a0a525be92094a6883f96088ccdd0629989964ce11b629611", func := "breakwater/breakwaterlaw19.GateBad", spec := "gateBad", unfollowed := true, recurses := true, plainKeys := false, apart := false, narrowed := true }
def GateBadUptoSaid : Prop := gateBadUptoRow.holds Try.pinned (OpenSpec.upto gateBadSpec)

/-- 'breakwaterlaw19.GateNone', WHERE WHAT IT READS IS OF BULK AT MOST 1048576: true; the input reads as it did. -/
def gateNoneUptoRow : OpenClaim := { program := "ytnlecdpiccgdpaa", sum := "324251d01884445a0a525be92094a6883f96088ccdd0629989964ce11b629611", func := "breakwater/breakwaterlaw19.GateNone", spec := "gateNone", unfollowed := true, recurses := true, plainKeys := false, apart := false, narrowed := true }
def GateNoneUptoSaid : Prop := gateNoneUptoRow.holds Try.pinned (OpenSpec.upto gateNoneSpec)

/-- 'breakwaterlaw22.ShiftMeans', WHERE WHAT IT READS IS OF BULK AT MOST 1048576: true; the input reads as it did. -/
def shiftMeansUptoRow : OpenClaim := { program := "ytnlecdpiccgdpaa", sum := "324251d01884445a0a525be92094a6883f96088ccdd0629989964ce11b629611", func := "breakwater/breakwaterlaw22.ShiftMeans", spec := "shiftMeans", unfollowed := true, recurses := true, plainKeys := false, apart := false, narrowed := true }
def ShiftMeansUptoSaid : Prop := shiftMeansUptoRow.holds Try.pinned (OpenSpec.upto shiftMeansSpec)

/-- 'breakwaterlaw22.ShiftBad', WHERE WHAT IT READS IS OF BULK AT MOST 1048576: true; the input reads as it did. -/
def shiftBadUptoRow : OpenClaim := { program := "ytnlecdpiccgdpaa", sum := "324251d01884445a0a525be92094a6883f96088ccdd0629989964ce11b629611", func := "breakwater/breakwaterlaw22.ShiftBad", spec := "shiftBad", unfollowed := true, recurses := true, plainKeys := false, apart := false, narrowed := true }
def ShiftBadUptoSaid : Prop := shiftBadUptoRow.holds Try.pinned (OpenSpec.upto shiftBadSpec)

/-- 'breakwaterlaw21.MultMeans', WHERE WHAT IT READS IS OF BULK AT MOST 1048576: true; the input reads as it did. -/
def multMeansUptoRow : OpenClaim := { program := "ytnlecdpiccgdpaa", sum := "324251d01884445a0a525be92094a6883f96088ccdd0629989964ce11b629611", func := "breakwater/breakwaterlaw21.MultMeans", spec := "multMeans", unfollowed := true, recurses := true, plainKeys := false, apart := false, narrowed := true }
def MultMeansUptoSaid : Prop := multMeansUptoRow.holds Try.pinned (OpenSpec.upto multMeansSpec)

/-- 'breakwaterlaw21.MultDivides', WHERE WHAT IT READS IS OF BULK AT MOST 1048576: true; the input reads as it did. -/
def multDividesUptoRow : OpenClaim := { program := "ytnlecdpiccgdpaa", sum := "324251d01884445a0a525be92094a6883f96088ccdd0629989964ce11b629611", func := "breakwater/breakwaterlaw21.MultDivides", spec := "multDivides", unfollowed := true, recurses := true, plainKeys := false, apart := false, narrowed := true }
def MultDividesUptoSaid : Prop := multDividesUptoRow.holds Try.pinned (OpenSpec.upto multDividesSpec)

/-- 'breakwaterlaw21.MultBad', WHERE WHAT IT READS IS OF BULK AT MOST 1048576: true; the input reads as it did. -/
def multBadUptoRow : OpenClaim := { program := "ytnlecdpiccgdpaa", sum := "324251d01884445a0a525be92094a6883f96088ccdd0629989964ce11b629611", func := "breakwater/breakwaterlaw21.MultBad", spec := "multBad", unfollowed := true, recurses := true, plainKeys := false, apart := false, narrowed := true }
def MultBadUptoSaid : Prop := multBadUptoRow.holds Try.pinned (OpenSpec.upto multBadSpec)

/-- 'breakwaterlaw20.ArithMeans', WHERE WHAT IT READS IS OF BULK AT MOST 1048576: true; the input reads as it did. -/
def arithMeansUptoRow : OpenClaim := { program := "ytnlecdpiccgdpaa", sum := "324251d01884445a0a525be92094a6883f96088ccdd0629989964ce11b629611", func := "breakwater/breakwaterlaw20.ArithMeans", spec := "arithMeans", unfollowed := true, recurses := true, plainKeys := false, apart := false, narrowed := true }
def ArithMeansUptoSaid : Prop := arithMeansUptoRow.holds Try.pinned (OpenSpec.upto arithMeansSpec)

/-- 'breakwaterlaw20.ArithBad', WHERE WHAT IT READS IS OF BULK AT MOST 1048576: true; the input reads as it did. -/
def arithBadUptoRow : OpenClaim := { program := "ytnlecdpiccgdpaa", sum := "324251d01884445a0a525be92094a6883f96088ccdd0629989964ce11b629611", func := "breakwater/breakwaterlaw20.ArithBad", spec := "arithBad", unfollowed := true, recurses := true, plainKeys := false, apart := false, narrowed := true }
def ArithBadUptoSaid : Prop := arithBadUptoRow.holds Try.pinned (OpenSpec.upto arithBadSpec)

end Rows
end Go.Proofs.Ytnlecdpiccgdpaa
