/-
  No cell of these rows narrows 'for every input' (looked for: loops, veiled, ifaces, maps, wideKeys, modest, calm, conditions, laid).
  DERIVED. THE GIVEN ROWS OF THIS SEAT. 8 by the template 'for every input the law returns true; each argument reads behind the call as it read before'; 0 by the template 'total and deterministic' (their statements: YtfphcdbnnienhaaTotals.lean).
  GIVEN WITH THE SEED: the statements are not yours to turn. If you find one false, say at which input.
  Laid BY PROGRAM, IN A SANDBOX (cutbox-rows.mjs): the forced cells as the released guide's own fill.sh prints them over the translation 6471918a3a5f166b… (all of the seat's roots in one cut). By AI agents, Wed Nov 11 2026. No macro, syntax, notation, axiom, sorry.
-/
import Derived.Test.YtfphcdbnnienhaaChecked
import GoSem.Claim
import GoSem.ClaimJoined
import GoSem.ClaimMapViews
import Derived.JoinedTies
import Derived.KernelRfl
namespace Go.Proofs.Ytfphcdbnnienhaa
/- THE CELL 'sum', in the pinned program and in every row, IS THE sha256 OF THE DUMP (.gsa) THAT YtfphcdbnnienhaaProg.lean LOADS. Nothing in Lean hashes anything: it is a label: what it is worth is what the hold of that sum in a sandbox is worth. -/
noncomputable def Try.pinned : Pinned := { name := "ytfphcdbnnienhaa", sum := "6471918a3a5f166bc693cd3170ab711ea4f1a3f8ef84614e878d9365b73d05a3", checked := Try.checked }
namespace Rows
def none {H : Type} : Left H := { results := [], args := [] }

/-- 'laws.FnFlattenGroup': WHATEVER THE INPUT: true; the input reads as it did. -/
def fnFlattenGroupSpec : ChangeSpec := { name := "fnFlattenGroup", fn := fun _ => fun
  | [d] => { results := [.lit (.bool true)], args := [d] }
  | _ => none }
def fnFlattenGroupRow : OpenClaim := { program := "ytfphcdbnnienhaa", sum := "6471918a3a5f166bc693cd3170ab711ea4f1a3f8ef84614e878d9365b73d05a3", func := "loop.example/faultcleanup/laws.FnFlattenGroup", spec := "fnFlattenGroup", unfollowed := true, recurses := true, apart := false }
def FnFlattenGroupSaid : Prop := fnFlattenGroupRow.holds Try.pinned (OpenSpec.ofChange fnFlattenGroupSpec)

/-- ITS FALSE NEIGHBOUR: 'it returns false'. Refute it at one input. -/
def fnFlattenGroupWrong : ChangeSpec := { name := "fnFlattenGroup", fn := fun _ => fun
  | [d] => { results := [.lit (.bool false)], args := [d] }
  | _ => none }
def FnFlattenGroupWrongFalsely : Prop := fnFlattenGroupRow.holds Try.pinned (OpenSpec.ofChange fnFlattenGroupWrong)

/-- 'laws.FnHasClass': WHATEVER THE INPUT: true; the input reads as it did. -/
def fnHasClassSpec : ChangeSpec := { name := "fnHasClass", fn := fun _ => fun
  | [d] => { results := [.lit (.bool true)], args := [d] }
  | _ => none }
def fnHasClassRow : OpenClaim := { program := "ytfphcdbnnienhaa", sum := "6471918a3a5f166bc693cd3170ab711ea4f1a3f8ef84614e878d9365b73d05a3", func := "loop.example/faultcleanup/laws.FnHasClass", spec := "fnHasClass", unfollowed := true, recurses := true, apart := false }
def FnHasClassSaid : Prop := fnHasClassRow.holds Try.pinned (OpenSpec.ofChange fnHasClassSpec)

/-- ITS FALSE NEIGHBOUR: 'it returns false'. Refute it at one input. -/
def fnHasClassWrong : ChangeSpec := { name := "fnHasClass", fn := fun _ => fun
  | [d] => { results := [.lit (.bool false)], args := [d] }
  | _ => none }
def FnHasClassWrongFalsely : Prop := fnHasClassRow.holds Try.pinned (OpenSpec.ofChange fnHasClassWrong)

/-- 'laws.FnSplitGroupShape': WHATEVER THE INPUT: true; the input reads as it did. -/
def fnSplitGroupShapeSpec : ChangeSpec := { name := "fnSplitGroupShape", fn := fun _ => fun
  | [d] => { results := [.lit (.bool true)], args := [d] }
  | _ => none }
def fnSplitGroupShapeRow : OpenClaim := { program := "ytfphcdbnnienhaa", sum := "6471918a3a5f166bc693cd3170ab711ea4f1a3f8ef84614e878d9365b73d05a3", func := "loop.example/faultcleanup/laws.FnSplitGroupShape", spec := "fnSplitGroupShape", unfollowed := true, recurses := true, apart := false }
def FnSplitGroupShapeSaid : Prop := fnSplitGroupShapeRow.holds Try.pinned (OpenSpec.ofChange fnSplitGroupShapeSpec)

/-- ITS FALSE NEIGHBOUR: 'it returns false'. Refute it at one input. -/
def fnSplitGroupShapeWrong : ChangeSpec := { name := "fnSplitGroupShape", fn := fun _ => fun
  | [d] => { results := [.lit (.bool false)], args := [d] }
  | _ => none }
def FnSplitGroupShapeWrongFalsely : Prop := fnSplitGroupShapeRow.holds Try.pinned (OpenSpec.ofChange fnSplitGroupShapeWrong)

/-- 'laws.FnFlattenGroupSplit': WHATEVER THE INPUT: true; the input reads as it did. -/
def fnFlattenGroupSplitSpec : ChangeSpec := { name := "fnFlattenGroupSplit", fn := fun _ => fun
  | [d] => { results := [.lit (.bool true)], args := [d] }
  | _ => none }
def fnFlattenGroupSplitRow : OpenClaim := { program := "ytfphcdbnnienhaa", sum := "6471918a3a5f166bc693cd3170ab711ea4f1a3f8ef84614e878d9365b73d05a3", func := "loop.example/faultcleanup/laws.FnFlattenGroupSplit", spec := "fnFlattenGroupSplit", unfollowed := true, recurses := true, apart := false }
def FnFlattenGroupSplitSaid : Prop := fnFlattenGroupSplitRow.holds Try.pinned (OpenSpec.ofChange fnFlattenGroupSplitSpec)

/-- ITS FALSE NEIGHBOUR: 'it returns false'. Refute it at one input. -/
def fnFlattenGroupSplitWrong : ChangeSpec := { name := "fnFlattenGroupSplit", fn := fun _ => fun
  | [d] => { results := [.lit (.bool false)], args := [d] }
  | _ => none }
def FnFlattenGroupSplitWrongFalsely : Prop := fnFlattenGroupSplitRow.holds Try.pinned (OpenSpec.ofChange fnFlattenGroupSplitWrong)

/-- 'laws.FnSplitGroup': WHATEVER THE INPUT: true; the input reads as it did. -/
def fnSplitGroupSpec : ChangeSpec := { name := "fnSplitGroup", fn := fun _ => fun
  | [d] => { results := [.lit (.bool true)], args := [d] }
  | _ => none }
def fnSplitGroupRow : OpenClaim := { program := "ytfphcdbnnienhaa", sum := "6471918a3a5f166bc693cd3170ab711ea4f1a3f8ef84614e878d9365b73d05a3", func := "loop.example/faultcleanup/laws.FnSplitGroup", spec := "fnSplitGroup", unfollowed := true, recurses := true, apart := false }
def FnSplitGroupSaid : Prop := fnSplitGroupRow.holds Try.pinned (OpenSpec.ofChange fnSplitGroupSpec)

/-- ITS FALSE NEIGHBOUR: 'it returns false'. Refute it at one input. -/
def fnSplitGroupWrong : ChangeSpec := { name := "fnSplitGroup", fn := fun _ => fun
  | [d] => { results := [.lit (.bool false)], args := [d] }
  | _ => none }
def FnSplitGroupWrongFalsely : Prop := fnSplitGroupRow.holds Try.pinned (OpenSpec.ofChange fnSplitGroupWrong)

/-- 'laws.FnSplitGroupOrder': WHATEVER THE INPUT: true; the input reads as it did. -/
def fnSplitGroupOrderSpec : ChangeSpec := { name := "fnSplitGroupOrder", fn := fun _ => fun
  | [d] => { results := [.lit (.bool true)], args := [d] }
  | _ => none }
def fnSplitGroupOrderRow : OpenClaim := { program := "ytfphcdbnnienhaa", sum := "6471918a3a5f166bc693cd3170ab711ea4f1a3f8ef84614e878d9365b73d05a3", func := "loop.example/faultcleanup/laws.FnSplitGroupOrder", spec := "fnSplitGroupOrder", unfollowed := true, recurses := true, apart := false }
def FnSplitGroupOrderSaid : Prop := fnSplitGroupOrderRow.holds Try.pinned (OpenSpec.ofChange fnSplitGroupOrderSpec)

/-- ITS FALSE NEIGHBOUR: 'it returns false'. Refute it at one input. -/
def fnSplitGroupOrderWrong : ChangeSpec := { name := "fnSplitGroupOrder", fn := fun _ => fun
  | [d] => { results := [.lit (.bool false)], args := [d] }
  | _ => none }
def FnSplitGroupOrderWrongFalsely : Prop := fnSplitGroupOrderRow.holds Try.pinned (OpenSpec.ofChange fnSplitGroupOrderWrong)

/-- 'laws.FnHandleGroup': WHATEVER THE INPUT: true; the input reads as it did. -/
def fnHandleGroupSpec : ChangeSpec := { name := "fnHandleGroup", fn := fun _ => fun
  | [d] => { results := [.lit (.bool true)], args := [d] }
  | _ => none }
def fnHandleGroupRow : OpenClaim := { program := "ytfphcdbnnienhaa", sum := "6471918a3a5f166bc693cd3170ab711ea4f1a3f8ef84614e878d9365b73d05a3", func := "loop.example/faultcleanup/laws.FnHandleGroup", spec := "fnHandleGroup", unfollowed := true, recurses := true, apart := false }
def FnHandleGroupSaid : Prop := fnHandleGroupRow.holds Try.pinned (OpenSpec.ofChange fnHandleGroupSpec)

/-- ITS FALSE NEIGHBOUR: 'it returns false'. Refute it at one input. -/
def fnHandleGroupWrong : ChangeSpec := { name := "fnHandleGroup", fn := fun _ => fun
  | [d] => { results := [.lit (.bool false)], args := [d] }
  | _ => none }
def FnHandleGroupWrongFalsely : Prop := fnHandleGroupRow.holds Try.pinned (OpenSpec.ofChange fnHandleGroupWrong)

/-- 'laws.FnHandleGroupLeast': WHATEVER THE INPUT: true; the input reads as it did. -/
def fnHandleGroupLeastSpec : ChangeSpec := { name := "fnHandleGroupLeast", fn := fun _ => fun
  | [d] => { results := [.lit (.bool true)], args := [d] }
  | _ => none }
def fnHandleGroupLeastRow : OpenClaim := { program := "ytfphcdbnnienhaa", sum := "6471918a3a5f166bc693cd3170ab711ea4f1a3f8ef84614e878d9365b73d05a3", func := "loop.example/faultcleanup/laws.FnHandleGroupLeast", spec := "fnHandleGroupLeast", unfollowed := true, recurses := true, apart := false }
def FnHandleGroupLeastSaid : Prop := fnHandleGroupLeastRow.holds Try.pinned (OpenSpec.ofChange fnHandleGroupLeastSpec)

/-- ITS FALSE NEIGHBOUR: 'it returns false'. Refute it at one input. -/
def fnHandleGroupLeastWrong : ChangeSpec := { name := "fnHandleGroupLeast", fn := fun _ => fun
  | [d] => { results := [.lit (.bool false)], args := [d] }
  | _ => none }
def FnHandleGroupLeastWrongFalsely : Prop := fnHandleGroupLeastRow.holds Try.pinned (OpenSpec.ofChange fnHandleGroupLeastWrong)

/- THE SECOND FORM. 'bulk': how many values and letters a reading holds, each counted each time it is reached (what is shared counts as often as it is met; a slice's spare places count too). A statement '..UptoSaid' is the law's where the arguments, and the package variables that the reading takes, are together of bulk at most 1048576: NARROWER than '..Said'. Prove '..Said' where nothing that the law and all that it calls make is longer than what came in: it says more and counts as full. Else prove '..UptoSaid'. A law counts once. -/
mutual
def uptoBulk {H : Type} : DataW H → Nat
  | .lit (.string bytes) => bytes.length + 1
  | .lit _ => 1
  | .nil => 1
  | .ptr d => uptoBulk d + 1
  | .slice elems spare => uptoBulkAll elems + uptoBulkAll spare + 1
  | .agg parts => uptoBulkAll parts + 1
  | .iface _ d => uptoBulk d + 1
  | .map entries => uptoBulkEntries entries + 1
  | .held _ => 1
def uptoBulkAll {H : Type} : List (DataW H) → Nat
  | [] => 0
  | d :: r => uptoBulk d + uptoBulkAll r
def uptoBulkEntries {H : Type} : List (Lit × DataW H) → Nat
  | [] => 0
  | x :: r => uptoBulkEntry x + uptoBulkEntries r
def uptoBulkEntry {H : Type} : Lit × DataW H → Nat
  | (.string bytes, d) => bytes.length + uptoBulk d + 1
  | (_, d) => uptoBulk d + 1
 end
def uptoSmall : (H : Type) → List (DataW H) → Bool := fun _ ds => decide (uptoBulkAll ds ≤ 1048576)
def OpenSpec.upto (s : _root_.Go.ChangeSpec) : _root_.Go.OpenSpec := { _root_.Go.OpenSpec.ofChange s with cond := some uptoSmall }

/-- 'laws.FnFlattenGroup', WHERE WHAT IT READS IS OF BULK AT MOST 1048576: true; the input reads as it did. -/
def fnFlattenGroupUptoRow : OpenClaim := { program := "ytfphcdbnnienhaa", sum := "6471918a3a5f166bc693cd3170ab711ea4f1a3f8ef84614e878d9365b73d05a3", func := "loop.example/faultcleanup/laws.FnFlattenGroup", spec := "fnFlattenGroup", unfollowed := true, recurses := true, apart := false, narrowed := true }
def FnFlattenGroupUptoSaid : Prop := fnFlattenGroupUptoRow.holds Try.pinned (OpenSpec.upto fnFlattenGroupSpec)

/-- 'laws.FnHasClass', WHERE WHAT IT READS IS OF BULK AT MOST 1048576: true; the input reads as it did. -/
def fnHasClassUptoRow : OpenClaim := { program := "ytfphcdbnnienhaa", sum := "6471918a3a5f166bc693cd3170ab711ea4f1a3f8ef84614e878d9365b73d05a3", func := "loop.example/faultcleanup/laws.FnHasClass", spec := "fnHasClass", unfollowed := true, recurses := true, apart := false, narrowed := true }
def FnHasClassUptoSaid : Prop := fnHasClassUptoRow.holds Try.pinned (OpenSpec.upto fnHasClassSpec)

/-- 'laws.FnSplitGroupShape', WHERE WHAT IT READS IS OF BULK AT MOST 1048576: true; the input reads as it did. -/
def fnSplitGroupShapeUptoRow : OpenClaim := { program := "ytfphcdbnnienhaa", sum := "6471918a3a5f166bc693cd3170ab711ea4f1a3f8ef84614e878d9365b73d05a3", func := "loop.example/faultcleanup/laws.FnSplitGroupShape", spec := "fnSplitGroupShape", unfollowed := true, recurses := true, apart := false, narrowed := true }
def FnSplitGroupShapeUptoSaid : Prop := fnSplitGroupShapeUptoRow.holds Try.pinned (OpenSpec.upto fnSplitGroupShapeSpec)

/-- 'laws.FnFlattenGroupSplit', WHERE WHAT IT READS IS OF BULK AT MOST 1048576: true; the input reads as it did. -/
def fnFlattenGroupSplitUptoRow : OpenClaim := { program := "ytfphcdbnnienhaa", sum := "6471918a3a5f166bc693cd3170ab711ea4f1a3f8ef84614e878d9365b73d05a3", func := "loop.example/faultcleanup/laws.FnFlattenGroupSplit", spec := "fnFlattenGroupSplit", unfollowed := true, recurses := true, apart := false, narrowed := true }
def FnFlattenGroupSplitUptoSaid : Prop := fnFlattenGroupSplitUptoRow.holds Try.pinned (OpenSpec.upto fnFlattenGroupSplitSpec)

/-- 'laws.FnSplitGroup', WHERE WHAT IT READS IS OF BULK AT MOST 1048576: true; the input reads as it did. -/
def fnSplitGroupUptoRow : OpenClaim := { program := "ytfphcdbnnienhaa", sum := "6471918a3a5f166bc693cd3170ab711ea4f1a3f8ef84614e878d9365b73d05a3", func := "loop.example/faultcleanup/laws.FnSplitGroup", spec := "fnSplitGroup", unfollowed := true, recurses := true, apart := false, narrowed := true }
def FnSplitGroupUptoSaid : Prop := fnSplitGroupUptoRow.holds Try.pinned (OpenSpec.upto fnSplitGroupSpec)

/-- 'laws.FnSplitGroupOrder', WHERE WHAT IT READS IS OF BULK AT MOST 1048576: true; the input reads as it did. -/
def fnSplitGroupOrderUptoRow : OpenClaim := { program := "ytfphcdbnnienhaa", sum := "6471918a3a5f166bc693cd3170ab711ea4f1a3f8ef84614e878d9365b73d05a3", func := "loop.example/faultcleanup/laws.FnSplitGroupOrder", spec := "fnSplitGroupOrder", unfollowed := true, recurses := true, apart := false, narrowed := true }
def FnSplitGroupOrderUptoSaid : Prop := fnSplitGroupOrderUptoRow.holds Try.pinned (OpenSpec.upto fnSplitGroupOrderSpec)

/-- 'laws.FnHandleGroup', WHERE WHAT IT READS IS OF BULK AT MOST 1048576: true; the input reads as it did. -/
def fnHandleGroupUptoRow : OpenClaim := { program := "ytfphcdbnnienhaa", sum := "6471918a3a5f166bc693cd3170ab711ea4f1a3f8ef84614e878d9365b73d05a3", func := "loop.example/faultcleanup/laws.FnHandleGroup", spec := "fnHandleGroup", unfollowed := true, recurses := true, apart := false, narrowed := true }
def FnHandleGroupUptoSaid : Prop := fnHandleGroupUptoRow.holds Try.pinned (OpenSpec.upto fnHandleGroupSpec)

/-- 'laws.FnHandleGroupLeast', WHERE WHAT IT READS IS OF BULK AT MOST 1048576: true; the input reads as it did. -/
def fnHandleGroupLeastUptoRow : OpenClaim := { program := "ytfphcdbnnienhaa", sum := "6471918a3a5f166bc693cd3170ab711ea4f1a3f8ef84614e878d9365b73d05a3", func := "loop.example/faultcleanup/laws.FnHandleGroupLeast", spec := "fnHandleGroupLeast", unfollowed := true, recurses := true, apart := false, narrowed := true }
def FnHandleGroupLeastUptoSaid : Prop := fnHandleGroupLeastUptoRow.holds Try.pinned (OpenSpec.upto fnHandleGroupLeastSpec)

end Rows
end Go.Proofs.Ytfphcdbnnienhaa
