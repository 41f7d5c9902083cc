/-
  No cell of these rows narrows 'for every input' (looked for: loops, veiled, ifaces, maps, wideKeys, modest, calm, conditions, laid).
  DERIVED. THE GIVEN ROWS OF THIS SEAT. 3 by the template 'for every input the law returns true; each argument reads behind the call as it read before'; 0 by the template 'total and deterministic' (their statements: YtjdpaholpfpiiaaTotals.lean).
  GIVEN WITH THE SEED: the statements are not yours to turn. If you find one false, say at which input.
  Laid BY PROGRAM, IN A SANDBOX (cutbox-rows.mjs): the forced cells as the released guide's own fill.sh prints them over the translation 877e0dab7314e9a3… (all of the seat's roots in one cut). By AI agents, Wed Nov 11 2026. No macro, syntax, notation, axiom, sorry.
-/
import Derived.Test.YtjdpaholpfpiiaaChecked
import GoSem.Claim
import GoSem.ClaimJoined
import GoSem.ClaimMapViews
import Derived.JoinedTies
import Derived.KernelRfl
namespace Go.Proofs.Ytjdpaholpfpiiaa
/- THE CELL 'sum', in the pinned program and in every row, IS THE sha256 OF THE DUMP (.gsa) THAT YtjdpaholpfpiiaaProg.lean LOADS. Nothing in Lean hashes anything: it is a label: what it is worth is what the hold of that sum in a sandbox is worth. -/
noncomputable def Try.pinned : Pinned := { name := "ytjdpaholpfpiiaa", sum := "877e0dab7314e9a3c9cb0d19fcd2c882bdd59e09e4bcbbbbc284cba79f725f70", checked := Try.checked }
namespace Rows
def none {H : Type} : Left H := { results := [], args := [] }

/-- 'laws.FnKidsOf': WHATEVER THE INPUT: true; the input reads as it did. -/
def fnKidsOfSpec : ChangeSpec := { name := "fnKidsOf", fn := fun _ => fun
  | [d] => { results := [.lit (.bool true)], args := [d] }
  | _ => none }
def fnKidsOfRow : OpenClaim := { program := "ytjdpaholpfpiiaa", sum := "877e0dab7314e9a3c9cb0d19fcd2c882bdd59e09e4bcbbbbc284cba79f725f70", func := "loop.example/faultcleanup/laws.FnKidsOf", spec := "fnKidsOf", unfollowed := true, recurses := true, apart := false }
def FnKidsOfSaid : Prop := fnKidsOfRow.holds Try.pinned (OpenSpec.ofChange fnKidsOfSpec)

/-- ITS FALSE NEIGHBOUR: 'it returns false'. Refute it at one input. -/
def fnKidsOfWrong : ChangeSpec := { name := "fnKidsOf", fn := fun _ => fun
  | [d] => { results := [.lit (.bool false)], args := [d] }
  | _ => none }
def FnKidsOfWrongFalsely : Prop := fnKidsOfRow.holds Try.pinned (OpenSpec.ofChange fnKidsOfWrong)

/-- 'laws.FnWrapGroup': WHATEVER THE INPUT: true; the input reads as it did. -/
def fnWrapGroupSpec : ChangeSpec := { name := "fnWrapGroup", fn := fun _ => fun
  | [d] => { results := [.lit (.bool true)], args := [d] }
  | _ => none }
def fnWrapGroupRow : OpenClaim := { program := "ytjdpaholpfpiiaa", sum := "877e0dab7314e9a3c9cb0d19fcd2c882bdd59e09e4bcbbbbc284cba79f725f70", func := "loop.example/faultcleanup/laws.FnWrapGroup", spec := "fnWrapGroup", unfollowed := true, recurses := true, apart := false }
def FnWrapGroupSaid : Prop := fnWrapGroupRow.holds Try.pinned (OpenSpec.ofChange fnWrapGroupSpec)

/-- ITS FALSE NEIGHBOUR: 'it returns false'. Refute it at one input. -/
def fnWrapGroupWrong : ChangeSpec := { name := "fnWrapGroup", fn := fun _ => fun
  | [d] => { results := [.lit (.bool false)], args := [d] }
  | _ => none }
def FnWrapGroupWrongFalsely : Prop := fnWrapGroupRow.holds Try.pinned (OpenSpec.ofChange fnWrapGroupWrong)

/-- 'laws.FnSimplifyGroup': WHATEVER THE INPUT: true; the input reads as it did. -/
def fnSimplifyGroupSpec : ChangeSpec := { name := "fnSimplifyGroup", fn := fun _ => fun
  | [d] => { results := [.lit (.bool true)], args := [d] }
  | _ => none }
def fnSimplifyGroupRow : OpenClaim := { program := "ytjdpaholpfpiiaa", sum := "877e0dab7314e9a3c9cb0d19fcd2c882bdd59e09e4bcbbbbc284cba79f725f70", func := "loop.example/faultcleanup/laws.FnSimplifyGroup", spec := "fnSimplifyGroup", unfollowed := true, recurses := true, apart := false }
def FnSimplifyGroupSaid : Prop := fnSimplifyGroupRow.holds Try.pinned (OpenSpec.ofChange fnSimplifyGroupSpec)

/-- ITS FALSE NEIGHBOUR: 'it returns false'. Refute it at one input. -/
def fnSimplifyGroupWrong : ChangeSpec := { name := "fnSimplifyGroup", fn := fun _ => fun
  | [d] => { results := [.lit (.bool false)], args := [d] }
  | _ => none }
def FnSimplifyGroupWrongFalsely : Prop := fnSimplifyGroupRow.holds Try.pinned (OpenSpec.ofChange fnSimplifyGroupWrong)

/- THE SECOND FORM. 'bulk': how many values and letters a reading holds, each counted each time it is reached (what is shared counts as often as it is met; a slice's spare places count too). A statement '..UptoSaid' is the law's where the arguments, and the package variables that the reading takes, are together of bulk at most 1048576: NARROWER than '..Said'. Prove '..Said' where nothing that the law and all that it calls make is longer than what came in: it says more and counts as full. Else prove '..UptoSaid'. A law counts once. -/
mutual
def uptoBulk {H : Type} : DataW H → Nat
  | .lit (.string bytes) => bytes.length + 1
  | .lit _ => 1
  | .nil => 1
  | .ptr d => uptoBulk d + 1
  | .slice elems spare => uptoBulkAll elems + uptoBulkAll spare + 1
  | .agg parts => uptoBulkAll parts + 1
  | .iface _ d => uptoBulk d + 1
  | .map entries => uptoBulkEntries entries + 1
  | .held _ => 1
def uptoBulkAll {H : Type} : List (DataW H) → Nat
  | [] => 0
  | d :: r => uptoBulk d + uptoBulkAll r
def uptoBulkEntries {H : Type} : List (Lit × DataW H) → Nat
  | [] => 0
  | x :: r => uptoBulkEntry x + uptoBulkEntries r
def uptoBulkEntry {H : Type} : Lit × DataW H → Nat
  | (.string bytes, d) => bytes.length + uptoBulk d + 1
  | (_, d) => uptoBulk d + 1
 end
def uptoSmall : (H : Type) → List (DataW H) → Bool := fun _ ds => decide (uptoBulkAll ds ≤ 1048576)
def OpenSpec.upto (s : _root_.Go.ChangeSpec) : _root_.Go.OpenSpec := { _root_.Go.OpenSpec.ofChange s with cond := some uptoSmall }

/-- 'laws.FnKidsOf', WHERE WHAT IT READS IS OF BULK AT MOST 1048576: true; the input reads as it did. -/
def fnKidsOfUptoRow : OpenClaim := { program := "ytjdpaholpfpiiaa", sum := "877e0dab7314e9a3c9cb0d19fcd2c882bdd59e09e4bcbbbbc284cba79f725f70", func := "loop.example/faultcleanup/laws.FnKidsOf", spec := "fnKidsOf", unfollowed := true, recurses := true, apart := false, narrowed := true }
def FnKidsOfUptoSaid : Prop := fnKidsOfUptoRow.holds Try.pinned (OpenSpec.upto fnKidsOfSpec)

/-- 'laws.FnWrapGroup', WHERE WHAT IT READS IS OF BULK AT MOST 1048576: true; the input reads as it did. -/
def fnWrapGroupUptoRow : OpenClaim := { program := "ytjdpaholpfpiiaa", sum := "877e0dab7314e9a3c9cb0d19fcd2c882bdd59e09e4bcbbbbc284cba79f725f70", func := "loop.example/faultcleanup/laws.FnWrapGroup", spec := "fnWrapGroup", unfollowed := true, recurses := true, apart := false, narrowed := true }
def FnWrapGroupUptoSaid : Prop := fnWrapGroupUptoRow.holds Try.pinned (OpenSpec.upto fnWrapGroupSpec)

/-- 'laws.FnSimplifyGroup', WHERE WHAT IT READS IS OF BULK AT MOST 1048576: true; the input reads as it did. -/
def fnSimplifyGroupUptoRow : OpenClaim := { program := "ytjdpaholpfpiiaa", sum := "877e0dab7314e9a3c9cb0d19fcd2c882bdd59e09e4bcbbbbc284cba79f725f70", func := "loop.example/faultcleanup/laws.FnSimplifyGroup", spec := "fnSimplifyGroup", unfollowed := true, recurses := true, apart := false, narrowed := true }
def FnSimplifyGroupUptoSaid : Prop := fnSimplifyGroupUptoRow.holds Try.pinned (OpenSpec.upto fnSimplifyGroupSpec)

end Rows
end Go.Proofs.Ytjdpaholpfpiiaa
