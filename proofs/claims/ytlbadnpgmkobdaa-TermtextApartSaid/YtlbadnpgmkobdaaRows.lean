/-
  No cell of these rows narrows 'for every input' (looked for: loops, veiled, ifaces, maps, wideKeys, modest, calm, conditions, laid).
  DERIVED. THE GIVEN ROWS OF THIS SEAT. 9 by the template 'for every input the law returns true; each argument reads behind the call as it read before'; 0 by the template 'total and deterministic' (their statements: YtlbadnpgmkobdaaTotals.lean).
  GIVEN WITH THE SEED: the statements are not yours to turn. If you find one false, say at which input.
  Laid BY PROGRAM, IN A SANDBOX (cutbox-rows.mjs): the forced cells as the released guide's own fill.sh prints them over the translation 94659854f68591a8… (all of the seat's roots in one cut). By AI agents, Wed Nov 11 2026. No macro, syntax, notation, axiom, sorry.
-/
import Derived.Test.YtlbadnpgmkobdaaChecked
import GoSem.Claim
import GoSem.ClaimJoined
import GoSem.ClaimMapViews
import Derived.JoinedTies
import Derived.KernelRfl
namespace Go.Proofs.Ytlbadnpgmkobdaa
/- THE CELL 'sum', in the pinned program and in every row, IS THE sha256 OF THE DUMP (.gsa) THAT YtlbadnpgmkobdaaProg.lean LOADS. Nothing in Lean hashes anything: it is a label: what it is worth is what the hold of that sum in a sandbox is worth. -/
noncomputable def Try.pinned : Pinned := { name := "ytlbadnpgmkobdaa", sum := "94659854f68591a88f789ae17f739810ea0a649c7b1ccbd70c9105041db47694", checked := Try.checked }
namespace Rows
def none {H : Type} : Left H := { results := [], args := [] }

/-- 'breakwaterlaw15.TermPlays': WHATEVER THE INPUT: true; the input reads as it did. -/
def termPlaysSpec : ChangeSpec := { name := "termPlays", fn := fun _ => fun
  | [d1, d2, d3] => { results := [.lit (.bool true)], args := [d1, d2, d3] }
  | _ => none }
def termPlaysRow : OpenClaim := { program := "ytlbadnpgmkobdaa", sum := "94659854f68591a88f789ae17f739810ea0a649c7b1ccbd70c9105041db47694", func := "breakwater/breakwaterlaw15.TermPlays", spec := "termPlays", plainKeys := false, apart := false }
def TermPlaysSaid : Prop := termPlaysRow.holds Try.pinned (OpenSpec.ofChange termPlaysSpec)

/-- ITS FALSE NEIGHBOUR: 'it returns false'. Refute it at one input. -/
def termPlaysWrong : ChangeSpec := { name := "termPlays", fn := fun _ => fun
  | [d1, d2, d3] => { results := [.lit (.bool false)], args := [d1, d2, d3] }
  | _ => none }
def TermPlaysWrongFalsely : Prop := termPlaysRow.holds Try.pinned (OpenSpec.ofChange termPlaysWrong)

/-- 'breakwaterlaw15.TermOnce': WHATEVER THE INPUT: true; the input reads as it did. -/
def termOnceSpec : ChangeSpec := { name := "termOnce", fn := fun _ => fun
  | [d] => { results := [.lit (.bool true)], args := [d] }
  | _ => none }
def termOnceRow : OpenClaim := { program := "ytlbadnpgmkobdaa", sum := "94659854f68591a88f789ae17f739810ea0a649c7b1ccbd70c9105041db47694", func := "breakwater/breakwaterlaw15.TermOnce", spec := "termOnce", plainKeys := false, apart := false }
def TermOnceSaid : Prop := termOnceRow.holds Try.pinned (OpenSpec.ofChange termOnceSpec)

/-- ITS FALSE NEIGHBOUR: 'it returns false'. Refute it at one input. -/
def termOnceWrong : ChangeSpec := { name := "termOnce", fn := fun _ => fun
  | [d] => { results := [.lit (.bool false)], args := [d] }
  | _ => none }
def TermOnceWrongFalsely : Prop := termOnceRow.holds Try.pinned (OpenSpec.ofChange termOnceWrong)

/-- 'breakwaterlaw15.TermNone': WHATEVER THE INPUT: true; the input reads as it did. -/
def termNoneSpec : ChangeSpec := { name := "termNone", fn := fun _ => fun
  | [d] => { results := [.lit (.bool true)], args := [d] }
  | _ => none }
def termNoneRow : OpenClaim := { program := "ytlbadnpgmkobdaa", sum := "94659854f68591a88f789ae17f739810ea0a649c7b1ccbd70c9105041db47694", func := "breakwater/breakwaterlaw15.TermNone", spec := "termNone", plainKeys := false, apart := false }
def TermNoneSaid : Prop := termNoneRow.holds Try.pinned (OpenSpec.ofChange termNoneSpec)

/-- ITS FALSE NEIGHBOUR: 'it returns false'. Refute it at one input. -/
def termNoneWrong : ChangeSpec := { name := "termNone", fn := fun _ => fun
  | [d] => { results := [.lit (.bool false)], args := [d] }
  | _ => none }
def TermNoneWrongFalsely : Prop := termNoneRow.holds Try.pinned (OpenSpec.ofChange termNoneWrong)

/-- 'breakwaterlaw18.TermtextShows': WHATEVER THE INPUT: true; the input reads as it did. -/
def termtextShowsSpec : ChangeSpec := { name := "termtextShows", fn := fun _ => fun
  | [d1, d2, d3] => { results := [.lit (.bool true)], args := [d1, d2, d3] }
  | _ => none }
def termtextShowsRow : OpenClaim := { program := "ytlbadnpgmkobdaa", sum := "94659854f68591a88f789ae17f739810ea0a649c7b1ccbd70c9105041db47694", func := "breakwater/breakwaterlaw18.TermtextShows", spec := "termtextShows", inPlace := ["internal/abi.NoEscape", "internal/reflectlite.TypeOf"], unfollowed := true, recurses := true, plainKeys := false, apart := false }
def TermtextShowsSaid : Prop := termtextShowsRow.holds Try.pinned (OpenSpec.ofChange termtextShowsSpec)

/-- ITS FALSE NEIGHBOUR: 'it returns false'. Refute it at one input. -/
def termtextShowsWrong : ChangeSpec := { name := "termtextShows", fn := fun _ => fun
  | [d1, d2, d3] => { results := [.lit (.bool false)], args := [d1, d2, d3] }
  | _ => none }
def TermtextShowsWrongFalsely : Prop := termtextShowsRow.holds Try.pinned (OpenSpec.ofChange termtextShowsWrong)

/-- 'breakwaterlaw18.TermtextApart': WHATEVER THE INPUT: true; the input reads as it did. -/
def termtextApartSpec : ChangeSpec := { name := "termtextApart", fn := fun _ => fun
  | [d] => { results := [.lit (.bool true)], args := [d] }
  | _ => none }
def termtextApartRow : OpenClaim := { program := "ytlbadnpgmkobdaa", sum := "94659854f68591a88f789ae17f739810ea0a649c7b1ccbd70c9105041db47694", func := "breakwater/breakwaterlaw18.TermtextApart", spec := "termtextApart", inPlace := ["internal/abi.NoEscape", "internal/reflectlite.TypeOf"], unfollowed := true, recurses := true, plainKeys := false, apart := false }
def TermtextApartSaid : Prop := termtextApartRow.holds Try.pinned (OpenSpec.ofChange termtextApartSpec)

/-- ITS FALSE NEIGHBOUR: 'it returns false'. Refute it at one input. -/
def termtextApartWrong : ChangeSpec := { name := "termtextApart", fn := fun _ => fun
  | [d] => { results := [.lit (.bool false)], args := [d] }
  | _ => none }
def TermtextApartWrongFalsely : Prop := termtextApartRow.holds Try.pinned (OpenSpec.ofChange termtextApartWrong)

/-- 'breakwaterlaw53.KbitsLooks': WHATEVER THE INPUT: true; the input reads as it did. -/
def kbitsLooksSpec : ChangeSpec := { name := "kbitsLooks", fn := fun _ => fun
  | [d1, d2] => { results := [.lit (.bool true)], args := [d1, d2] }
  | _ => none }
def kbitsLooksRow : OpenClaim := { program := "ytlbadnpgmkobdaa", sum := "94659854f68591a88f789ae17f739810ea0a649c7b1ccbd70c9105041db47694", func := "breakwater/breakwaterlaw53.KbitsLooks", spec := "kbitsLooks", unfollowed := true, recurses := true, plainKeys := false, apart := false }
def KbitsLooksSaid : Prop := kbitsLooksRow.holds Try.pinned (OpenSpec.ofChange kbitsLooksSpec)

/-- ITS FALSE NEIGHBOUR: 'it returns false'. Refute it at one input. -/
def kbitsLooksWrong : ChangeSpec := { name := "kbitsLooks", fn := fun _ => fun
  | [d1, d2] => { results := [.lit (.bool false)], args := [d1, d2] }
  | _ => none }
def KbitsLooksWrongFalsely : Prop := kbitsLooksRow.holds Try.pinned (OpenSpec.ofChange kbitsLooksWrong)

/-- 'breakwaterlaw53.KbitsHold': WHATEVER THE INPUT: true; the input reads as it did. -/
def kbitsHoldSpec : ChangeSpec := { name := "kbitsHold", fn := fun _ => fun
  | [d1, d2] => { results := [.lit (.bool true)], args := [d1, d2] }
  | _ => none }
def kbitsHoldRow : OpenClaim := { program := "ytlbadnpgmkobdaa", sum := "94659854f68591a88f789ae17f739810ea0a649c7b1ccbd70c9105041db47694", func := "breakwater/breakwaterlaw53.KbitsHold", spec := "kbitsHold", unfollowed := true, recurses := true, plainKeys := false, apart := false }
def KbitsHoldSaid : Prop := kbitsHoldRow.holds Try.pinned (OpenSpec.ofChange kbitsHoldSpec)

/-- ITS FALSE NEIGHBOUR: 'it returns false'. Refute it at one input. -/
def kbitsHoldWrong : ChangeSpec := { name := "kbitsHold", fn := fun _ => fun
  | [d1, d2] => { results := [.lit (.bool false)], args := [d1, d2] }
  | _ => none }
def KbitsHoldWrongFalsely : Prop := kbitsHoldRow.holds Try.pinned (OpenSpec.ofChange kbitsHoldWrong)

/-- 'breakwaterlaw52.RangesLooks': WHATEVER THE INPUT: true; the input reads as it did. -/
def rangesLooksSpec : ChangeSpec := { name := "rangesLooks", fn := fun _ => fun
  | [d1, d2] => { results := [.lit (.bool true)], args := [d1, d2] }
  | _ => none }
def rangesLooksRow : OpenClaim := { program := "ytlbadnpgmkobdaa", sum := "94659854f68591a88f789ae17f739810ea0a649c7b1ccbd70c9105041db47694", func := "breakwater/breakwaterlaw52.RangesLooks", spec := "rangesLooks", unfollowed := true, recurses := true, plainKeys := false, apart := false }
def RangesLooksSaid : Prop := rangesLooksRow.holds Try.pinned (OpenSpec.ofChange rangesLooksSpec)

/-- ITS FALSE NEIGHBOUR: 'it returns false'. Refute it at one input. -/
def rangesLooksWrong : ChangeSpec := { name := "rangesLooks", fn := fun _ => fun
  | [d1, d2] => { results := [.lit (.bool false)], args := [d1, d2] }
  | _ => none }
def RangesLooksWrongFalsely : Prop := rangesLooksRow.holds Try.pinned (OpenSpec.ofChange rangesLooksWrong)

/-- 'breakwaterlaw52.RangesHold': WHATEVER THE INPUT: true; the input reads as it did. -/
def rangesHoldSpec : ChangeSpec := { name := "rangesHold", fn := fun _ => fun
  | [d1, d2] => { results := [.lit (.bool true)], args := [d1, d2] }
  | _ => none }
def rangesHoldRow : OpenClaim := { program := "ytlbadnpgmkobdaa", sum := "94659854f68591a88f789ae17f739810ea0a649c7b1ccbd70c9105041db47694", func := "breakwater/breakwaterlaw52.RangesHold", spec := "rangesHold", unfollowed := true, recurses := true, plainKeys := false, apart := false }
def RangesHoldSaid : Prop := rangesHoldRow.holds Try.pinned (OpenSpec.ofChange rangesHoldSpec)

/-- ITS FALSE NEIGHBOUR: 'it returns false'. Refute it at one input. -/
def rangesHoldWrong : ChangeSpec := { name := "rangesHold", fn := fun _ => fun
  | [d1, d2] => { results := [.lit (.bool false)], args := [d1, d2] }
  | _ => none }
def RangesHoldWrongFalsely : Prop := rangesHoldRow.holds Try.pinned (OpenSpec.ofChange rangesHoldWrong)

/- THE SECOND FORM. 'bulk': how many values and letters a reading holds, each counted each time it is reached (what is shared counts as often as it is met; a slice's spare places count too). A statement '..UptoSaid' is the law's where the arguments, and the package variables that the reading takes, are together of bulk at most 1048576: NARROWER than '..Said'. Prove '..Said' where nothing that the law and all that it calls make is longer than what came in: it says more and counts as full. Else prove '..UptoSaid'. A law counts once. -/
mutual
def uptoBulk {H : Type} : DataW H → Nat
  | .lit (.string bytes) => bytes.length + 1
  | .lit _ => 1
  | .nil => 1
  | .ptr d => uptoBulk d + 1
  | .slice elems spare => uptoBulkAll elems + uptoBulkAll spare + 1
  | .agg parts => uptoBulkAll parts + 1
  | .iface _ d => uptoBulk d + 1
  | .map entries => uptoBulkEntries entries + 1
  | .held _ => 1
def uptoBulkAll {H : Type} : List (DataW H) → Nat
  | [] => 0
  | d :: r => uptoBulk d + uptoBulkAll r
def uptoBulkEntries {H : Type} : List (Lit × DataW H) → Nat
  | [] => 0
  | x :: r => uptoBulkEntry x + uptoBulkEntries r
def uptoBulkEntry {H : Type} : Lit × DataW H → Nat
  | (.string bytes, d) => bytes.length + uptoBulk d + 1
  | (_, d) => uptoBulk d + 1
 end
def uptoSmall : (H : Type) → List (DataW H) → Bool := fun _ ds => decide (uptoBulkAll ds ≤ 1048576)
def OpenSpec.upto (s : _root_.Go.ChangeSpec) : _root_.Go.OpenSpec := { _root_.Go.OpenSpec.ofChange s with cond := some uptoSmall }

/-- 'breakwaterlaw15.TermPlays', WHERE WHAT IT READS IS OF BULK AT MOST 1048576: true; the input reads as it did. -/
def termPlaysUptoRow : OpenClaim := { program := "ytlbadnpgmkobdaa", sum := "94659854f68591a88f789ae17f739810ea0a649c7b1ccbd70c9105041db47694", func := "breakwater/breakwaterlaw15.TermPlays", spec := "termPlays", plainKeys := false, apart := false, narrowed := true }
def TermPlaysUptoSaid : Prop := termPlaysUptoRow.holds Try.pinned (OpenSpec.upto termPlaysSpec)

/-- 'breakwaterlaw15.TermOnce', WHERE WHAT IT READS IS OF BULK AT MOST 1048576: true; the input reads as it did. -/
def termOnceUptoRow : OpenClaim := { program := "ytlbadnpgmkobdaa", sum := "94659854f68591a88f789ae17f739810ea0a649c7b1ccbd70c9105041db47694", func := "breakwater/breakwaterlaw15.TermOnce", spec := "termOnce", plainKeys := false, apart := false, narrowed := true }
def TermOnceUptoSaid : Prop := termOnceUptoRow.holds Try.pinned (OpenSpec.upto termOnceSpec)

/-- 'breakwaterlaw15.TermNone', WHERE WHAT IT READS IS OF BULK AT MOST 1048576: true; the input reads as it did. -/
def termNoneUptoRow : OpenClaim := { program := "ytlbadnpgmkobdaa", sum := "94659854f68591a88f789ae17f739810ea0a649c7b1ccbd70c9105041db47694", func := "breakwater/breakwaterlaw15.TermNone", spec := "termNone", plainKeys := false, apart := false, narrowed := true }
def TermNoneUptoSaid : Prop := termNoneUptoRow.holds Try.pinned (OpenSpec.upto termNoneSpec)

/-- 'breakwaterlaw18.TermtextShows', WHERE WHAT IT READS IS OF BULK AT MOST 1048576: true; the input reads as it did. -/
def termtextShowsUptoRow : OpenClaim := { program := "ytlbadnpgmkobdaa", sum := "94659854f68591a88f789ae17f739810ea0a649c7b1ccbd70c9105041db47694", func := "breakwater/breakwaterlaw18.TermtextShows", spec := "termtextShows", inPlace := ["internal/abi.NoEscape", "internal/reflectlite.TypeOf"], unfollowed := true, recurses := true, plainKeys := false, apart := false, narrowed := true }
def TermtextShowsUptoSaid : Prop := termtextShowsUptoRow.holds Try.pinned (OpenSpec.upto termtextShowsSpec)

/-- 'breakwaterlaw18.TermtextApart', WHERE WHAT IT READS IS OF BULK AT MOST 1048576: true; the input reads as it did. -/
def termtextApartUptoRow : OpenClaim := { program := "ytlbadnpgmkobdaa", sum := "94659854f68591a88f789ae17f739810ea0a649c7b1ccbd70c9105041db47694", func := "breakwater/breakwaterlaw18.TermtextApart", spec := "termtextApart", inPlace := ["internal/abi.NoEscape", "internal/reflectlite.TypeOf"], unfollowed := true, recurses := true, plainKeys := false, apart := false, narrowed := true }
def TermtextApartUptoSaid : Prop := termtextApartUptoRow.holds Try.pinned (OpenSpec.upto termtextApartSpec)

/-- 'breakwaterlaw53.KbitsLooks', WHERE WHAT IT READS IS OF BULK AT MOST 1048576: true; the input reads as it did. -/
def kbitsLooksUptoRow : OpenClaim := { program := "ytlbadnpgmkobdaa", sum := "94659854f68591a88f789ae17f739810ea0a649c7b1ccbd70c9105041db47694", func := "breakwater/breakwaterlaw53.KbitsLooks", spec := "kbitsLooks", unfollowed := true, recurses := true, plainKeys := false, apart := false, narrowed := true }
def KbitsLooksUptoSaid : Prop := kbitsLooksUptoRow.holds Try.pinned (OpenSpec.upto kbitsLooksSpec)

/-- 'breakwaterlaw53.KbitsHold', WHERE WHAT IT READS IS OF BULK AT MOST 1048576: true; the input reads as it did. -/
def kbitsHoldUptoRow : OpenClaim := { program := "ytlbadnpgmkobdaa", sum := "94659854f68591a88f789ae17f739810ea0a649c7b1ccbd70c9105041db47694", func := "breakwater/breakwaterlaw53.KbitsHold", spec := "kbitsHold", unfollowed := true, recurses := true, plainKeys := false, apart := false, narrowed := true }
def KbitsHoldUptoSaid : Prop := kbitsHoldUptoRow.holds Try.pinned (OpenSpec.upto kbitsHoldSpec)

/-- 'breakwaterlaw52.RangesLooks', WHERE WHAT IT READS IS OF BULK AT MOST 1048576: true; the input reads as it did. -/
def rangesLooksUptoRow : OpenClaim := { program := "ytlbadnpgmkobdaa", sum := "94659854f68591a88f789ae17f739810ea0a649c7b1ccbd70c9105041db47694", func := "breakwater/breakwaterlaw52.RangesLooks", spec := "rangesLooks", unfollowed := true, recurses := true, plainKeys := false, apart := false, narrowed := true }
def RangesLooksUptoSaid : Prop := rangesLooksUptoRow.holds Try.pinned (OpenSpec.upto rangesLooksSpec)

/-- 'breakwaterlaw52.RangesHold', WHERE WHAT IT READS IS OF BULK AT MOST 1048576: true; the input reads as it did. -/
def rangesHoldUptoRow : OpenClaim := { program := "ytlbadnpgmkobdaa", sum := "94659854f68591a88f789ae17f739810ea0a649c7b1ccbd70c9105041db47694", func := "breakwater/breakwaterlaw52.RangesHold", spec := "rangesHold", unfollowed := true, recurses := true, plainKeys := false, apart := false, narrowed := true }
def RangesHoldUptoSaid : Prop := rangesHoldUptoRow.holds Try.pinned (OpenSpec.upto rangesHoldSpec)

end Rows
end Go.Proofs.Ytlbadnpgmkobdaa
