/-
  No cell of these rows narrows 'for every input' (looked for: loops, veiled, ifaces, maps, wideKeys, modest, calm, conditions, laid).
  DERIVED. THE GIVEN ROWS OF THIS SEAT. 6 by the template 'for every input the law returns true; each argument reads behind the call as it read before'; 0 by the template 'total and deterministic' (their statements: YthfjceemphhgcaaTotals.lean).
  GIVEN WITH THE SEED: the statements are not yours to turn. If you find one false, say at which input.
  Laid BY PROGRAM, IN A SANDBOX (cutbox-rows.mjs): the forced cells as the released guide's own fill.sh prints them over the translation 09a94f7de289a15f… (all of the seat's roots in one cut). By AI agents, Wed Nov 11 2026. No macro, syntax, notation, axiom, sorry.
-/
import Derived.Test.YthfjceemphhgcaaChecked
import GoSem.Claim
import GoSem.ClaimJoined
import GoSem.ClaimMapViews
import Derived.JoinedTies
import Derived.KernelRfl
namespace Go.Proofs.Ythfjceemphhgcaa
/- THE CELL 'sum', in the pinned program and in every row, IS THE sha256 OF THE DUMP (.gsa) THAT YthfjceemphhgcaaProg.lean LOADS. Nothing in Lean hashes anything: it is a label: what it is worth is what the hold of that sum in a sandbox is worth. -/
noncomputable def Try.pinned : Pinned := { name := "ythfjceemphhgcaa", sum := "09a94f7de289a15f1682dee6ca6da7f3f896e2acdfc8c18c6dd3221a7c859274", checked := Try.checked }
namespace Rows
def none {H : Type} : Left H := { results := [], args := [] }

/-- 'breakwaterlaw09.LubyTerms': WHATEVER THE INPUT: true; the input reads as it did. -/
def lubyTermsSpec : ChangeSpec := { name := "lubyTerms", fn := fun _ => fun
  | [d] => { results := [.lit (.bool true)], args := [d] }
  | _ => none }
def lubyTermsRow : OpenClaim := { program := "ythfjceemphhgcaa", sum := "09a94f7de289a15f1682dee6ca6da7f3f896e2acdfc8c18c6dd3221a7c859274", func := "breakwater/breakwaterlaw09.LubyTerms", spec := "lubyTerms", unfollowed := true, recurses := true, apart := false }
def LubyTermsSaid : Prop := lubyTermsRow.holds Try.pinned (OpenSpec.ofChange lubyTermsSpec)

/-- ITS FALSE NEIGHBOUR: 'it returns false'. Refute it at one input. -/
def lubyTermsWrong : ChangeSpec := { name := "lubyTerms", fn := fun _ => fun
  | [d] => { results := [.lit (.bool false)], args := [d] }
  | _ => none }
def LubyTermsWrongFalsely : Prop := lubyTermsRow.holds Try.pinned (OpenSpec.ofChange lubyTermsWrong)

/-- 'breakwaterlaw09.LubyRows': WHATEVER THE INPUT: true; the input reads as it did. -/
def lubyRowsSpec : ChangeSpec := { name := "lubyRows", fn := fun _ => fun
  | [d] => { results := [.lit (.bool true)], args := [d] }
  | _ => none }
def lubyRowsRow : OpenClaim := { program := "ythfjceemphhgcaa", sum := "09a94f7de289a15f1682dee6ca6da7f3f896e2acdfc8c18c6dd3221a7c859274", func := "breakwater/breakwaterlaw09.LubyRows", spec := "lubyRows", unfollowed := true, recurses := true, apart := false }
def LubyRowsSaid : Prop := lubyRowsRow.holds Try.pinned (OpenSpec.ofChange lubyRowsSpec)

/-- ITS FALSE NEIGHBOUR: 'it returns false'. Refute it at one input. -/
def lubyRowsWrong : ChangeSpec := { name := "lubyRows", fn := fun _ => fun
  | [d] => { results := [.lit (.bool false)], args := [d] }
  | _ => none }
def LubyRowsWrongFalsely : Prop := lubyRowsRow.holds Try.pinned (OpenSpec.ofChange lubyRowsWrong)

/-- 'breakwaterlaw09.LubyTwice': WHATEVER THE INPUT: true; the input reads as it did. -/
def lubyTwiceSpec : ChangeSpec := { name := "lubyTwice", fn := fun _ => fun
  | [d1, d2] => { results := [.lit (.bool true)], args := [d1, d2] }
  | _ => none }
def lubyTwiceRow : OpenClaim := { program := "ythfjceemphhgcaa", sum := "09a94f7de289a15f1682dee6ca6da7f3f896e2acdfc8c18c6dd3221a7c859274", func := "breakwater/breakwaterlaw09.LubyTwice", spec := "lubyTwice", unfollowed := true, recurses := true, apart := false }
def LubyTwiceSaid : Prop := lubyTwiceRow.holds Try.pinned (OpenSpec.ofChange lubyTwiceSpec)

/-- ITS FALSE NEIGHBOUR: 'it returns false'. Refute it at one input. -/
def lubyTwiceWrong : ChangeSpec := { name := "lubyTwice", fn := fun _ => fun
  | [d1, d2] => { results := [.lit (.bool false)], args := [d1, d2] }
  | _ => none }
def LubyTwiceWrongFalsely : Prop := lubyTwiceRow.holds Try.pinned (OpenSpec.ofChange lubyTwiceWrong)

/-- 'breakwaterlaw08.OrderPlays': WHATEVER THE INPUT: true; the input reads as it did. -/
def orderPlaysSpec : ChangeSpec := { name := "orderPlays", fn := fun _ => fun
  | [d1, d2] => { results := [.lit (.bool true)], args := [d1, d2] }
  | _ => none }
def orderPlaysRow : OpenClaim := { program := "ythfjceemphhgcaa", sum := "09a94f7de289a15f1682dee6ca6da7f3f896e2acdfc8c18c6dd3221a7c859274", func := "breakwater/breakwaterlaw08.OrderPlays", spec := "orderPlays", unfollowed := true, recurses := true, apart := false }
def OrderPlaysSaid : Prop := orderPlaysRow.holds Try.pinned (OpenSpec.ofChange orderPlaysSpec)

/-- ITS FALSE NEIGHBOUR: 'it returns false'. Refute it at one input. -/
def orderPlaysWrong : ChangeSpec := { name := "orderPlays", fn := fun _ => fun
  | [d1, d2] => { results := [.lit (.bool false)], args := [d1, d2] }
  | _ => none }
def OrderPlaysWrongFalsely : Prop := orderPlaysRow.holds Try.pinned (OpenSpec.ofChange orderPlaysWrong)

/-- 'breakwaterlaw08.OrderFalls': WHATEVER THE INPUT: true; the input reads as it did. -/
def orderFallsSpec : ChangeSpec := { name := "orderFalls", fn := fun _ => fun
  | [d1, d2] => { results := [.lit (.bool true)], args := [d1, d2] }
  | _ => none }
def orderFallsRow : OpenClaim := { program := "ythfjceemphhgcaa", sum := "09a94f7de289a15f1682dee6ca6da7f3f896e2acdfc8c18c6dd3221a7c859274", func := "breakwater/breakwaterlaw08.OrderFalls", spec := "orderFalls", unfollowed := true, recurses := true, apart := false }
def OrderFallsSaid : Prop := orderFallsRow.holds Try.pinned (OpenSpec.ofChange orderFallsSpec)

/-- ITS FALSE NEIGHBOUR: 'it returns false'. Refute it at one input. -/
def orderFallsWrong : ChangeSpec := { name := "orderFalls", fn := fun _ => fun
  | [d1, d2] => { results := [.lit (.bool false)], args := [d1, d2] }
  | _ => none }
def OrderFallsWrongFalsely : Prop := orderFallsRow.holds Try.pinned (OpenSpec.ofChange orderFallsWrong)

/-- 'breakwaterlaw08.OrderNone': WHATEVER THE INPUT: true; the input reads as it did. -/
def orderNoneSpec : ChangeSpec := { name := "orderNone", fn := fun _ => fun
  | [d] => { results := [.lit (.bool true)], args := [d] }
  | _ => none }
def orderNoneRow : OpenClaim := { program := "ythfjceemphhgcaa", sum := "09a94f7de289a15f1682dee6ca6da7f3f896e2acdfc8c18c6dd3221a7c859274", func := "breakwater/breakwaterlaw08.OrderNone", spec := "orderNone", unfollowed := true, recurses := true, apart := false }
def OrderNoneSaid : Prop := orderNoneRow.holds Try.pinned (OpenSpec.ofChange orderNoneSpec)

/-- ITS FALSE NEIGHBOUR: 'it returns false'. Refute it at one input. -/
def orderNoneWrong : ChangeSpec := { name := "orderNone", fn := fun _ => fun
  | [d] => { results := [.lit (.bool false)], args := [d] }
  | _ => none }
def OrderNoneWrongFalsely : Prop := orderNoneRow.holds Try.pinned (OpenSpec.ofChange orderNoneWrong)

/- THE SECOND FORM. 'bulk': how many values and letters a reading holds, each counted each time it is reached (what is shared counts as often as it is met; a slice's spare places count too). A statement '..UptoSaid' is the law's where the arguments, and the package variables that the reading takes, are together of bulk at most 1048576: NARROWER than '..Said'. Prove '..Said' where nothing that the law and all that it calls make is longer than what came in: it says more and counts as full. Else prove '..UptoSaid'. A law counts once. -/
mutual
def uptoBulk {H : Type} : DataW H → Nat
  | .lit (.string bytes) => bytes.length + 1
  | .lit _ => 1
  | .nil => 1
  | .ptr d => uptoBulk d + 1
  | .slice elems spare => uptoBulkAll elems + uptoBulkAll spare + 1
  | .agg parts => uptoBulkAll parts + 1
  | .iface _ d => uptoBulk d + 1
  | .map entries => uptoBulkEntries entries + 1
  | .held _ => 1
def uptoBulkAll {H : Type} : List (DataW H) → Nat
  | [] => 0
  | d :: r => uptoBulk d + uptoBulkAll r
def uptoBulkEntries {H : Type} : List (Lit × DataW H) → Nat
  | [] => 0
  | x :: r => uptoBulkEntry x + uptoBulkEntries r
def uptoBulkEntry {H : Type} : Lit × DataW H → Nat
  | (.string bytes, d) => bytes.length + uptoBulk d + 1
  | (_, d) => uptoBulk d + 1
 end
def uptoSmall : (H : Type) → List (DataW H) → Bool := fun _ ds => decide (uptoBulkAll ds ≤ 1048576)
def OpenSpec.upto (s : _root_.Go.ChangeSpec) : _root_.Go.OpenSpec := { _root_.Go.OpenSpec.ofChange s with cond := some uptoSmall }

/-- 'breakwaterlaw09.LubyTerms', WHERE WHAT IT READS IS OF BULK AT MOST 1048576: true; the input reads as it did. -/
def lubyTermsUptoRow : OpenClaim := { program := "ythfjceemphhgcaa", sum := "09a94f7de289a15f1682dee6ca6da7f3f896e2acdfc8c18c6dd3221a7c859274", func := "breakwater/breakwaterlaw09.LubyTerms", spec := "lubyTerms", unfollowed := true, recurses := true, apart := false, narrowed := true }
def LubyTermsUptoSaid : Prop := lubyTermsUptoRow.holds Try.pinned (OpenSpec.upto lubyTermsSpec)

/-- 'breakwaterlaw09.LubyRows', WHERE WHAT IT READS IS OF BULK AT MOST 1048576: true; the input reads as it did. -/
def lubyRowsUptoRow : OpenClaim := { program := "ythfjceemphhgcaa", sum := "09a94f7de289a15f1682dee6ca6da7f3f896e2acdfc8c18c6dd3221a7c859274", func := "breakwater/breakwaterlaw09.LubyRows", spec := "lubyRows", unfollowed := true, recurses := true, apart := false, narrowed := true }
def LubyRowsUptoSaid : Prop := lubyRowsUptoRow.holds Try.pinned (OpenSpec.upto lubyRowsSpec)

/-- 'breakwaterlaw09.LubyTwice', WHERE WHAT IT READS IS OF BULK AT MOST 1048576: true; the input reads as it did. -/
def lubyTwiceUptoRow : OpenClaim := { program := "ythfjceemphhgcaa", sum := "09a94f7de289a15f1682dee6ca6da7f3f896e2acdfc8c18c6dd3221a7c859274", func := "breakwater/breakwaterlaw09.LubyTwice", spec := "lubyTwice", unfollowed := true, recurses := true, apart := false, narrowed := true }
def LubyTwiceUptoSaid : Prop := lubyTwiceUptoRow.holds Try.pinned (OpenSpec.upto lubyTwiceSpec)

/-- 'breakwaterlaw08.OrderPlays', WHERE WHAT IT READS IS OF BULK AT MOST 1048576: true; the input reads as it did. -/
def orderPlaysUptoRow : OpenClaim := { program := "ythfjceemphhgcaa", sum := "09a94f7de289a15f1682dee6ca6da7f3f896e2acdfc8c18c6dd3221a7c859274", func := "breakwater/breakwaterlaw08.OrderPlays", spec := "orderPlays", unfollowed := true, recurses := true, apart := false, narrowed := true }
def OrderPlaysUptoSaid : Prop := orderPlaysUptoRow.holds Try.pinned (OpenSpec.upto orderPlaysSpec)

/-- 'breakwaterlaw08.OrderFalls', WHERE WHAT IT READS IS OF BULK AT MOST 1048576: true; the input reads as it did. -/
def orderFallsUptoRow : OpenClaim := { program := "ythfjceemphhgcaa", sum := "09a94f7de289a15f1682dee6ca6da7f3f896e2acdfc8c18c6dd3221a7c859274", func := "breakwater/breakwaterlaw08.OrderFalls", spec := "orderFalls", unfollowed := true, recurses := true, apart := false, narrowed := true }
def OrderFallsUptoSaid : Prop := orderFallsUptoRow.holds Try.pinned (OpenSpec.upto orderFallsSpec)

/-- 'breakwaterlaw08.OrderNone', WHERE WHAT IT READS IS OF BULK AT MOST 1048576: true; the input reads as it did. -/
def orderNoneUptoRow : OpenClaim := { program := "ythfjceemphhgcaa", sum := "09a94f7de289a15f1682dee6ca6da7f3f896e2acdfc8c18c6dd3221a7c859274", func := "breakwater/breakwaterlaw08.OrderNone", spec := "orderNone", unfollowed := true, recurses := true, apart := false, narrowed := true }
def OrderNoneUptoSaid : Prop := orderNoneUptoRow.holds Try.pinned (OpenSpec.upto orderNoneSpec)

end Rows
end Go.Proofs.Ythfjceemphhgcaa
