/-
  No cell of these rows narrows 'for every input' (looked for: loops, veiled, ifaces, maps, wideKeys, modest, calm, conditions, laid).
  DERIVED. THE GIVEN ROWS OF THIS SEAT. 4 by the template 'for every input the law returns true; each argument reads behind the call as it read before'; 0 by the template 'total and deterministic' (their statements: YtjcodcimodnbjaaTotals.lean).
  GIVEN WITH THE SEED: the statements are not yours to turn. If you find one false, say at which input.
  Laid BY PROGRAM, IN A SANDBOX (cutbox-rows.mjs): the forced cells as the released guide's own fill.sh prints them over the translation 1aca0e943ddfc157… (all of the seat's roots in one cut). By AI agents, Wed Nov 11 2026. No macro, syntax, notation, axiom, sorry.
-/
import Derived.Test.YtjcodcimodnbjaaChecked
import GoSem.Claim
import GoSem.ClaimJoined
import GoSem.ClaimMapViews
import Derived.JoinedTies
import Derived.KernelRfl
namespace Go.Proofs.Ytjcodcimodnbjaa
/- THE CELL 'sum', in the pinned program and in every row, IS THE sha256 OF THE DUMP (.gsa) THAT YtjcodcimodnbjaaProg.lean LOADS. Nothing in Lean hashes anything: it is a label: what it is worth is what the hold of that sum in a sandbox is worth. -/
noncomputable def Try.pinned : Pinned := { name := "ytjcodcimodnbjaa", sum := "1aca0e943ddfc1578ed651b7971be005f0d0796fa83b59e2126bf997b1c515b1", checked := Try.checked }
namespace Rows
def none {H : Type} : Left H := { results := [], args := [] }

/-- 'laws.FnExactPushExit': WHATEVER THE INPUT: true; the input reads as it did. -/
def fnExactPushExitSpec : ChangeSpec := { name := "fnExactPushExit", fn := fun _ => fun
  | [d1, d2, d3] => { results := [.lit (.bool true)], args := [d1, d2, d3] }
  | _ => none }
def fnExactPushExitRow : OpenClaim := { program := "ytjcodcimodnbjaa", sum := "1aca0e943ddfc1578ed651b7971be005f0d0796fa83b59e2126bf997b1c515b1", func := "loop.example/faultcleanup/laws.FnExactPushExit", spec := "fnExactPushExit", unfollowed := true, recurses := true, apart := false }
def FnExactPushExitSaid : Prop := fnExactPushExitRow.holds Try.pinned (OpenSpec.ofChange fnExactPushExitSpec)

/-- ITS FALSE NEIGHBOUR: 'it returns false'. Refute it at one input. -/
def fnExactPushExitWrong : ChangeSpec := { name := "fnExactPushExit", fn := fun _ => fun
  | [d1, d2, d3] => { results := [.lit (.bool false)], args := [d1, d2, d3] }
  | _ => none }
def FnExactPushExitWrongFalsely : Prop := fnExactPushExitRow.holds Try.pinned (OpenSpec.ofChange fnExactPushExitWrong)

/-- 'laws.FnExactPopExit': WHATEVER THE INPUT: true; the input reads as it did. -/
def fnExactPopExitSpec : ChangeSpec := { name := "fnExactPopExit", fn := fun _ => fun
  | [d1, d2] => { results := [.lit (.bool true)], args := [d1, d2] }
  | _ => none }
def fnExactPopExitRow : OpenClaim := { program := "ytjcodcimodnbjaa", sum := "1aca0e943ddfc1578ed651b7971be005f0d0796fa83b59e2126bf997b1c515b1", func := "loop.example/faultcleanup/laws.FnExactPopExit", spec := "fnExactPopExit", unfollowed := true, recurses := true, apart := false }
def FnExactPopExitSaid : Prop := fnExactPopExitRow.holds Try.pinned (OpenSpec.ofChange fnExactPopExitSpec)

/-- ITS FALSE NEIGHBOUR: 'it returns false'. Refute it at one input. -/
def fnExactPopExitWrong : ChangeSpec := { name := "fnExactPopExit", fn := fun _ => fun
  | [d1, d2] => { results := [.lit (.bool false)], args := [d1, d2] }
  | _ => none }
def FnExactPopExitWrongFalsely : Prop := fnExactPopExitRow.holds Try.pinned (OpenSpec.ofChange fnExactPopExitWrong)

/-- 'laws.FnExactJoinExits': WHATEVER THE INPUT: true; the input reads as it did. -/
def fnExactJoinExitsSpec : ChangeSpec := { name := "fnExactJoinExits", fn := fun _ => fun
  | [d1, d2, d3] => { results := [.lit (.bool true)], args := [d1, d2, d3] }
  | _ => none }
def fnExactJoinExitsRow : OpenClaim := { program := "ytjcodcimodnbjaa", sum := "1aca0e943ddfc1578ed651b7971be005f0d0796fa83b59e2126bf997b1c515b1", func := "loop.example/faultcleanup/laws.FnExactJoinExits", spec := "fnExactJoinExits", unfollowed := true, recurses := true, apart := false }
def FnExactJoinExitsSaid : Prop := fnExactJoinExitsRow.holds Try.pinned (OpenSpec.ofChange fnExactJoinExitsSpec)

/-- ITS FALSE NEIGHBOUR: 'it returns false'. Refute it at one input. -/
def fnExactJoinExitsWrong : ChangeSpec := { name := "fnExactJoinExits", fn := fun _ => fun
  | [d1, d2, d3] => { results := [.lit (.bool false)], args := [d1, d2, d3] }
  | _ => none }
def FnExactJoinExitsWrongFalsely : Prop := fnExactJoinExitsRow.holds Try.pinned (OpenSpec.ofChange fnExactJoinExitsWrong)

/-- 'laws.FnExactEscapesOf': WHATEVER THE INPUT: true; the input reads as it did. -/
def fnExactEscapesOfSpec : ChangeSpec := { name := "fnExactEscapesOf", fn := fun _ => fun
  | [d1, d2] => { results := [.lit (.bool true)], args := [d1, d2] }
  | _ => none }
def fnExactEscapesOfRow : OpenClaim := { program := "ytjcodcimodnbjaa", sum := "1aca0e943ddfc1578ed651b7971be005f0d0796fa83b59e2126bf997b1c515b1", func := "loop.example/faultcleanup/laws.FnExactEscapesOf", spec := "fnExactEscapesOf", unfollowed := true, recurses := true, apart := false }
def FnExactEscapesOfSaid : Prop := fnExactEscapesOfRow.holds Try.pinned (OpenSpec.ofChange fnExactEscapesOfSpec)

/-- ITS FALSE NEIGHBOUR: 'it returns false'. Refute it at one input. -/
def fnExactEscapesOfWrong : ChangeSpec := { name := "fnExactEscapesOf", fn := fun _ => fun
  | [d1, d2] => { results := [.lit (.bool false)], args := [d1, d2] }
  | _ => none }
def FnExactEscapesOfWrongFalsely : Prop := fnExactEscapesOfRow.holds Try.pinned (OpenSpec.ofChange fnExactEscapesOfWrong)

/- THE SECOND FORM. 'bulk': how many values and letters a reading holds, each counted each time it is reached (what is shared counts as often as it is met; a slice's spare places count too). A statement '..UptoSaid' is the law's where the arguments, and the package variables that the reading takes, are together of bulk at most 1048576: NARROWER than '..Said'. Prove '..Said' where nothing that the law and all that it calls make is longer than what came in: it says more and counts as full. Else prove '..UptoSaid'. A law counts once. -/
mutual
def uptoBulk {H : Type} : DataW H → Nat
  | .lit (.string bytes) => bytes.length + 1
  | .lit _ => 1
  | .nil => 1
  | .ptr d => uptoBulk d + 1
  | .slice elems spare => uptoBulkAll elems + uptoBulkAll spare + 1
  | .agg parts => uptoBulkAll parts + 1
  | .iface _ d => uptoBulk d + 1
  | .map entries => uptoBulkEntries entries + 1
  | .held _ => 1
def uptoBulkAll {H : Type} : List (DataW H) → Nat
  | [] => 0
  | d :: r => uptoBulk d + uptoBulkAll r
def uptoBulkEntries {H : Type} : List (Lit × DataW H) → Nat
  | [] => 0
  | x :: r => uptoBulkEntry x + uptoBulkEntries r
def uptoBulkEntry {H : Type} : Lit × DataW H → Nat
  | (.string bytes, d) => bytes.length + uptoBulk d + 1
  | (_, d) => uptoBulk d + 1
 end
def uptoSmall : (H : Type) → List (DataW H) → Bool := fun _ ds => decide (uptoBulkAll ds ≤ 1048576)
def OpenSpec.upto (s : _root_.Go.ChangeSpec) : _root_.Go.OpenSpec := { _root_.Go.OpenSpec.ofChange s with cond := some uptoSmall }

/-- 'laws.FnExactPushExit', WHERE WHAT IT READS IS OF BULK AT MOST 1048576: true; the input reads as it did. -/
def fnExactPushExitUptoRow : OpenClaim := { program := "ytjcodcimodnbjaa", sum := "1aca0e943ddfc1578ed651b7971be005f0d0796fa83b59e2126bf997b1c515b1", func := "loop.example/faultcleanup/laws.FnExactPushExit", spec := "fnExactPushExit", unfollowed := true, recurses := true, apart := false, narrowed := true }
def FnExactPushExitUptoSaid : Prop := fnExactPushExitUptoRow.holds Try.pinned (OpenSpec.upto fnExactPushExitSpec)

/-- 'laws.FnExactPopExit', WHERE WHAT IT READS IS OF BULK AT MOST 1048576: true; the input reads as it did. -/
def fnExactPopExitUptoRow : OpenClaim := { program := "ytjcodcimodnbjaa", sum := "1aca0e943ddfc1578ed651b7971be005f0d0796fa83b59e2126bf997b1c515b1", func := "loop.example/faultcleanup/laws.FnExactPopExit", spec := "fnExactPopExit", unfollowed := true, recurses := true, apart := false, narrowed := true }
def FnExactPopExitUptoSaid : Prop := fnExactPopExitUptoRow.holds Try.pinned (OpenSpec.upto fnExactPopExitSpec)

/-- 'laws.FnExactJoinExits', WHERE WHAT IT READS IS OF BULK AT MOST 1048576: true; the input reads as it did. -/
def fnExactJoinExitsUptoRow : OpenClaim := { program := "ytjcodcimodnbjaa", sum := "1aca0e943ddfc1578ed651b7971be005f0d0796fa83b59e2126bf997b1c515b1", func := "loop.example/faultcleanup/laws.FnExactJoinExits", spec := "fnExactJoinExits", unfollowed := true, recurses := true, apart := false, narrowed := true }
def FnExactJoinExitsUptoSaid : Prop := fnExactJoinExitsUptoRow.holds Try.pinned (OpenSpec.upto fnExactJoinExitsSpec)

/-- 'laws.FnExactEscapesOf', WHERE WHAT IT READS IS OF BULK AT MOST 1048576: true; the input reads as it did. -/
def fnExactEscapesOfUptoRow : OpenClaim := { program := "ytjcodcimodnbjaa", sum := "1aca0e943ddfc1578ed651b7971be005f0d0796fa83b59e2126bf997b1c515b1", func := "loop.example/faultcleanup/laws.FnExactEscapesOf", spec := "fnExactEscapesOf", unfollowed := true, recurses := true, apart := false, narrowed := true }
def FnExactEscapesOfUptoSaid : Prop := fnExactEscapesOfUptoRow.holds Try.pinned (OpenSpec.upto fnExactEscapesOfSpec)

end Rows
end Go.Proofs.Ytjcodcimodnbjaa
