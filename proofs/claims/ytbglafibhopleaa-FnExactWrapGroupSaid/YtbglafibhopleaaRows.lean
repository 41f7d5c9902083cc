/-
  No cell of these rows narrows 'for every input' (looked for: loops, veiled, ifaces, maps, wideKeys, modest, calm, conditions, laid).
  DERIVED. THE GIVEN ROWS OF THIS SEAT. 3 by the template 'for every input the law returns true; each argument reads behind the call as it read before'; 0 by the template 'total and deterministic' (their statements: YtbglafibhopleaaTotals.lean).
  GIVEN WITH THE SEED: the statements are not yours to turn. If you find one false, say at which input.
  Laid BY PROGRAM, IN A SANDBOX (cutbox-rows.mjs): the forced cells as the released guide's own fill.sh prints them over the translation e05485ac602ed2d4… (all of the seat's roots in one cut). By AI agents, Wed Nov 11 2026. No macro, syntax, notation, axiom, sorry.
-/
import Derived.Test.YtbglafibhopleaaChecked
import GoSem.Claim
import GoSem.ClaimJoined
import GoSem.ClaimMapViews
import Derived.JoinedTies
import Derived.KernelRfl
namespace Go.Proofs.Ytbglafibhopleaa
/- THE CELL 'sum', in the pinned program and in every row, IS THE sha256 OF THE DUMP (.gsa) THAT YtbglafibhopleaaProg.lean LOADS. Nothing in Lean hashes anything: it is a label: what it is worth is what the hold of that sum in a sandbox is worth. -/
noncomputable def Try.pinned : Pinned := { name := "ytbglafibhopleaa", sum := "e05485ac602ed2d457cdf0ee4c04df85b926258f019fd9adf7ac32aef4649f56", checked := Try.checked }
namespace Rows
def none {H : Type} : Left H := { results := [], args := [] }

/-- 'laws.FnExactSimplifyGroup': WHATEVER THE INPUT: true; the input reads as it did. -/
def fnExactSimplifyGroupSpec : ChangeSpec := { name := "fnExactSimplifyGroup", fn := fun _ => fun
  | [d1, d2] => { results := [.lit (.bool true)], args := [d1, d2] }
  | _ => none }
def fnExactSimplifyGroupRow : OpenClaim := { program := "ytbglafibhopleaa", sum := "e05485ac602ed2d457cdf0ee4c04df85b926258f019fd9adf7ac32aef4649f56", func := "loop.example/faultcleanup/laws.FnExactSimplifyGroup", spec := "fnExactSimplifyGroup", unfollowed := true, recurses := true, apart := false }
def FnExactSimplifyGroupSaid : Prop := fnExactSimplifyGroupRow.holds Try.pinned (OpenSpec.ofChange fnExactSimplifyGroupSpec)

/-- ITS FALSE NEIGHBOUR: 'it returns false'. Refute it at one input. -/
def fnExactSimplifyGroupWrong : ChangeSpec := { name := "fnExactSimplifyGroup", fn := fun _ => fun
  | [d1, d2] => { results := [.lit (.bool false)], args := [d1, d2] }
  | _ => none }
def FnExactSimplifyGroupWrongFalsely : Prop := fnExactSimplifyGroupRow.holds Try.pinned (OpenSpec.ofChange fnExactSimplifyGroupWrong)

/-- 'laws.FnExactWrapGroup': WHATEVER THE INPUT: true; the input reads as it did. -/
def fnExactWrapGroupSpec : ChangeSpec := { name := "fnExactWrapGroup", fn := fun _ => fun
  | [d1, d2, d3] => { results := [.lit (.bool true)], args := [d1, d2, d3] }
  | _ => none }
def fnExactWrapGroupRow : OpenClaim := { program := "ytbglafibhopleaa", sum := "e05485ac602ed2d457cdf0ee4c04df85b926258f019fd9adf7ac32aef4649f56", func := "loop.example/faultcleanup/laws.FnExactWrapGroup", spec := "fnExactWrapGroup", unfollowed := true, recurses := true, apart := false }
def FnExactWrapGroupSaid : Prop := fnExactWrapGroupRow.holds Try.pinned (OpenSpec.ofChange fnExactWrapGroupSpec)

/-- ITS FALSE NEIGHBOUR: 'it returns false'. Refute it at one input. -/
def fnExactWrapGroupWrong : ChangeSpec := { name := "fnExactWrapGroup", fn := fun _ => fun
  | [d1, d2, d3] => { results := [.lit (.bool false)], args := [d1, d2, d3] }
  | _ => none }
def FnExactWrapGroupWrongFalsely : Prop := fnExactWrapGroupRow.holds Try.pinned (OpenSpec.ofChange fnExactWrapGroupWrong)

/-- 'laws.FnExactKidsOf': WHATEVER THE INPUT: true; the input reads as it did. -/
def fnExactKidsOfSpec : ChangeSpec := { name := "fnExactKidsOf", fn := fun _ => fun
  | [d1, d2] => { results := [.lit (.bool true)], args := [d1, d2] }
  | _ => none }
def fnExactKidsOfRow : OpenClaim := { program := "ytbglafibhopleaa", sum := "e05485ac602ed2d457cdf0ee4c04df85b926258f019fd9adf7ac32aef4649f56", func := "loop.example/faultcleanup/laws.FnExactKidsOf", spec := "fnExactKidsOf", unfollowed := true, recurses := true, apart := false }
def FnExactKidsOfSaid : Prop := fnExactKidsOfRow.holds Try.pinned (OpenSpec.ofChange fnExactKidsOfSpec)

/-- ITS FALSE NEIGHBOUR: 'it returns false'. Refute it at one input. -/
def fnExactKidsOfWrong : ChangeSpec := { name := "fnExactKidsOf", fn := fun _ => fun
  | [d1, d2] => { results := [.lit (.bool false)], args := [d1, d2] }
  | _ => none }
def FnExactKidsOfWrongFalsely : Prop := fnExactKidsOfRow.holds Try.pinned (OpenSpec.ofChange fnExactKidsOfWrong)

/- THE SECOND FORM. 'bulk': how many values and letters a reading holds, each counted each time it is reached (what is shared counts as often as it is met; a slice's spare places count too). A statement '..UptoSaid' is the law's where the arguments, and the package variables that the reading takes, are together of bulk at most 1048576: NARROWER than '..Said'. Prove '..Said' where nothing that the law and all that it calls make is longer than what came in: it says more and counts as full. Else prove '..UptoSaid'. A law counts once. -/
mutual
def uptoBulk {H : Type} : DataW H → Nat
  | .lit (.string bytes) => bytes.length + 1
  | .lit _ => 1
  | .nil => 1
  | .ptr d => uptoBulk d + 1
  | .slice elems spare => uptoBulkAll elems + uptoBulkAll spare + 1
  | .agg parts => uptoBulkAll parts + 1
  | .iface _ d => uptoBulk d + 1
  | .map entries => uptoBulkEntries entries + 1
  | .held _ => 1
def uptoBulkAll {H : Type} : List (DataW H) → Nat
  | [] => 0
  | d :: r => uptoBulk d + uptoBulkAll r
def uptoBulkEntries {H : Type} : List (Lit × DataW H) → Nat
  | [] => 0
  | x :: r => uptoBulkEntry x + uptoBulkEntries r
def uptoBulkEntry {H : Type} : Lit × DataW H → Nat
  | (.string bytes, d) => bytes.length + uptoBulk d + 1
  | (_, d) => uptoBulk d + 1
 end
def uptoSmall : (H : Type) → List (DataW H) → Bool := fun _ ds => decide (uptoBulkAll ds ≤ 1048576)
def OpenSpec.upto (s : _root_.Go.ChangeSpec) : _root_.Go.OpenSpec := { _root_.Go.OpenSpec.ofChange s with cond := some uptoSmall }

/-- 'laws.FnExactSimplifyGroup', WHERE WHAT IT READS IS OF BULK AT MOST 1048576: true; the input reads as it did. -/
def fnExactSimplifyGroupUptoRow : OpenClaim := { program := "ytbglafibhopleaa", sum := "e05485ac602ed2d457cdf0ee4c04df85b926258f019fd9adf7ac32aef4649f56", func := "loop.example/faultcleanup/laws.FnExactSimplifyGroup", spec := "fnExactSimplifyGroup", unfollowed := true, recurses := true, apart := false, narrowed := true }
def FnExactSimplifyGroupUptoSaid : Prop := fnExactSimplifyGroupUptoRow.holds Try.pinned (OpenSpec.upto fnExactSimplifyGroupSpec)

/-- 'laws.FnExactWrapGroup', WHERE WHAT IT READS IS OF BULK AT MOST 1048576: true; the input reads as it did. -/
def fnExactWrapGroupUptoRow : OpenClaim := { program := "ytbglafibhopleaa", sum := "e05485ac602ed2d457cdf0ee4c04df85b926258f019fd9adf7ac32aef4649f56", func := "loop.example/faultcleanup/laws.FnExactWrapGroup", spec := "fnExactWrapGroup", unfollowed := true, recurses := true, apart := false, narrowed := true }
def FnExactWrapGroupUptoSaid : Prop := fnExactWrapGroupUptoRow.holds Try.pinned (OpenSpec.upto fnExactWrapGroupSpec)

/-- 'laws.FnExactKidsOf', WHERE WHAT IT READS IS OF BULK AT MOST 1048576: true; the input reads as it did. -/
def fnExactKidsOfUptoRow : OpenClaim := { program := "ytbglafibhopleaa", sum := "e05485ac602ed2d457cdf0ee4c04df85b926258f019fd9adf7ac32aef4649f56", func := "loop.example/faultcleanup/laws.FnExactKidsOf", spec := "fnExactKidsOf", unfollowed := true, recurses := true, apart := false, narrowed := true }
def FnExactKidsOfUptoSaid : Prop := fnExactKidsOfUptoRow.holds Try.pinned (OpenSpec.upto fnExactKidsOfSpec)

end Rows
end Go.Proofs.Ytbglafibhopleaa
