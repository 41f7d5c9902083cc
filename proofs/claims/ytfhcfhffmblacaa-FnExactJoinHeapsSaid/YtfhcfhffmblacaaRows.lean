/-
  No cell of these rows narrows 'for every input' (looked for: loops, veiled, ifaces, maps, wideKeys, modest, calm, conditions, laid).
  DERIVED. THE GIVEN ROWS OF THIS SEAT. 11 by the template 'for every input the law returns true; each argument reads behind the call as it read before'; 0 by the template 'total and deterministic' (their statements: YtfhcfhffmblacaaTotals.lean).
  GIVEN WITH THE SEED: the statements are not yours to turn. If you find one false, say at which input.
  Laid BY PROGRAM, IN A SANDBOX (cutbox-rows.mjs): the forced cells as the released guide's own fill.sh prints them over the translation 8dadf1166690c190… (all of the seat's roots in one cut). By AI agents, Wed Nov 11 2026. No macro, syntax, notation, axiom, sorry.
-/
import Derived.Test.YtfhcfhffmblacaaChecked
import GoSem.Claim
import GoSem.ClaimJoined
import GoSem.ClaimMapViews
import Derived.JoinedTies
import Derived.KernelRfl
namespace Go.Proofs.Ytfhcfhffmblacaa
/- THE CELL 'sum', in the pinned program and in every row, IS THE sha256 OF THE DUMP (.gsa) THAT YtfhcfhffmblacaaProg.lean LOADS. Nothing in Lean hashes anything: it is a label: what it is worth is what the hold of that sum in a sandbox is worth. -/
noncomputable def Try.pinned : Pinned := { name := "ytfhcfhffmblacaa", sum := "8dadf1166690c1903b939368c3b92edede28a6eed44db0cb0fd2a0f5c3f658cf", checked := Try.checked }
namespace Rows
def none {H : Type} : Left H := { results := [], args := [] }

/-- 'laws.FnExactValidHeap': WHATEVER THE INPUT: true; the input reads as it did. -/
def fnExactValidHeapSpec : ChangeSpec := { name := "fnExactValidHeap", fn := fun _ => fun
  | [d1, d2] => { results := [.lit (.bool true)], args := [d1, d2] }
  | _ => none }
def fnExactValidHeapRow : OpenClaim := { program := "ytfhcfhffmblacaa", sum := "8dadf1166690c1903b939368c3b92edede28a6eed44db0cb0fd2a0f5c3f658cf", func := "loop.example/faultcleanup/laws.FnExactValidHeap", spec := "fnExactValidHeap", unfollowed := true, recurses := true, apart := false }
def FnExactValidHeapSaid : Prop := fnExactValidHeapRow.holds Try.pinned (OpenSpec.ofChange fnExactValidHeapSpec)

/-- ITS FALSE NEIGHBOUR: 'it returns false'. Refute it at one input. -/
def fnExactValidHeapWrong : ChangeSpec := { name := "fnExactValidHeap", fn := fun _ => fun
  | [d1, d2] => { results := [.lit (.bool false)], args := [d1, d2] }
  | _ => none }
def FnExactValidHeapWrongFalsely : Prop := fnExactValidHeapRow.holds Try.pinned (OpenSpec.ofChange fnExactValidHeapWrong)

/-- 'laws.FnExactShownNext': WHATEVER THE INPUT: true; the input reads as it did. -/
def fnExactShownNextSpec : ChangeSpec := { name := "fnExactShownNext", fn := fun _ => fun
  | [d1, d2, d3] => { results := [.lit (.bool true)], args := [d1, d2, d3] }
  | _ => none }
def fnExactShownNextRow : OpenClaim := { program := "ytfhcfhffmblacaa", sum := "8dadf1166690c1903b939368c3b92edede28a6eed44db0cb0fd2a0f5c3f658cf", func := "loop.example/faultcleanup/laws.FnExactShownNext", spec := "fnExactShownNext", unfollowed := true, recurses := true, apart := false }
def FnExactShownNextSaid : Prop := fnExactShownNextRow.holds Try.pinned (OpenSpec.ofChange fnExactShownNextSpec)

/-- ITS FALSE NEIGHBOUR: 'it returns false'. Refute it at one input. -/
def fnExactShownNextWrong : ChangeSpec := { name := "fnExactShownNext", fn := fun _ => fun
  | [d1, d2, d3] => { results := [.lit (.bool false)], args := [d1, d2, d3] }
  | _ => none }
def FnExactShownNextWrongFalsely : Prop := fnExactShownNextRow.holds Try.pinned (OpenSpec.ofChange fnExactShownNextWrong)

/-- 'laws.FnExactOldestShown': WHATEVER THE INPUT: true; the input reads as it did. -/
def fnExactOldestShownSpec : ChangeSpec := { name := "fnExactOldestShown", fn := fun _ => fun
  | [d1, d2, d3] => { results := [.lit (.bool true)], args := [d1, d2, d3] }
  | _ => none }
def fnExactOldestShownRow : OpenClaim := { program := "ytfhcfhffmblacaa", sum := "8dadf1166690c1903b939368c3b92edede28a6eed44db0cb0fd2a0f5c3f658cf", func := "loop.example/faultcleanup/laws.FnExactOldestShown", spec := "fnExactOldestShown", unfollowed := true, recurses := true, apart := false }
def FnExactOldestShownSaid : Prop := fnExactOldestShownRow.holds Try.pinned (OpenSpec.ofChange fnExactOldestShownSpec)

/-- ITS FALSE NEIGHBOUR: 'it returns false'. Refute it at one input. -/
def fnExactOldestShownWrong : ChangeSpec := { name := "fnExactOldestShown", fn := fun _ => fun
  | [d1, d2, d3] => { results := [.lit (.bool false)], args := [d1, d2, d3] }
  | _ => none }
def FnExactOldestShownWrongFalsely : Prop := fnExactOldestShownRow.holds Try.pinned (OpenSpec.ofChange fnExactOldestShownWrong)

/-- 'laws.FnExactShownChain': WHATEVER THE INPUT: true; the input reads as it did. -/
def fnExactShownChainSpec : ChangeSpec := { name := "fnExactShownChain", fn := fun _ => fun
  | [d1, d2, d3] => { results := [.lit (.bool true)], args := [d1, d2, d3] }
  | _ => none }
def fnExactShownChainRow : OpenClaim := { program := "ytfhcfhffmblacaa", sum := "8dadf1166690c1903b939368c3b92edede28a6eed44db0cb0fd2a0f5c3f658cf", func := "loop.example/faultcleanup/laws.FnExactShownChain", spec := "fnExactShownChain", unfollowed := true, recurses := true, apart := false }
def FnExactShownChainSaid : Prop := fnExactShownChainRow.holds Try.pinned (OpenSpec.ofChange fnExactShownChainSpec)

/-- ITS FALSE NEIGHBOUR: 'it returns false'. Refute it at one input. -/
def fnExactShownChainWrong : ChangeSpec := { name := "fnExactShownChain", fn := fun _ => fun
  | [d1, d2, d3] => { results := [.lit (.bool false)], args := [d1, d2, d3] }
  | _ => none }
def FnExactShownChainWrongFalsely : Prop := fnExactShownChainRow.holds Try.pinned (OpenSpec.ofChange fnExactShownChainWrong)

/-- 'laws.FnExactContextChain': WHATEVER THE INPUT: true; the input reads as it did. -/
def fnExactContextChainSpec : ChangeSpec := { name := "fnExactContextChain", fn := fun _ => fun
  | [d1, d2, d3] => { results := [.lit (.bool true)], args := [d1, d2, d3] }
  | _ => none }
def fnExactContextChainRow : OpenClaim := { program := "ytfhcfhffmblacaa", sum := "8dadf1166690c1903b939368c3b92edede28a6eed44db0cb0fd2a0f5c3f658cf", func := "loop.example/faultcleanup/laws.FnExactContextChain", spec := "fnExactContextChain", unfollowed := true, recurses := true, apart := false }
def FnExactContextChainSaid : Prop := fnExactContextChainRow.holds Try.pinned (OpenSpec.ofChange fnExactContextChainSpec)

/-- ITS FALSE NEIGHBOUR: 'it returns false'. Refute it at one input. -/
def fnExactContextChainWrong : ChangeSpec := { name := "fnExactContextChain", fn := fun _ => fun
  | [d1, d2, d3] => { results := [.lit (.bool false)], args := [d1, d2, d3] }
  | _ => none }
def FnExactContextChainWrongFalsely : Prop := fnExactContextChainRow.holds Try.pinned (OpenSpec.ofChange fnExactContextChainWrong)

/-- 'laws.FnExactHideContext': WHATEVER THE INPUT: true; the input reads as it did. -/
def fnExactHideContextSpec : ChangeSpec := { name := "fnExactHideContext", fn := fun _ => fun
  | [d1, d2, d3, d4] => { results := [.lit (.bool true)], args := [d1, d2, d3, d4] }
  | _ => none }
def fnExactHideContextRow : OpenClaim := { program := "ytfhcfhffmblacaa", sum := "8dadf1166690c1903b939368c3b92edede28a6eed44db0cb0fd2a0f5c3f658cf", func := "loop.example/faultcleanup/laws.FnExactHideContext", spec := "fnExactHideContext", unfollowed := true, recurses := true, apart := false }
def FnExactHideContextSaid : Prop := fnExactHideContextRow.holds Try.pinned (OpenSpec.ofChange fnExactHideContextSpec)

/-- ITS FALSE NEIGHBOUR: 'it returns false'. Refute it at one input. -/
def fnExactHideContextWrong : ChangeSpec := { name := "fnExactHideContext", fn := fun _ => fun
  | [d1, d2, d3, d4] => { results := [.lit (.bool false)], args := [d1, d2, d3, d4] }
  | _ => none }
def FnExactHideContextWrongFalsely : Prop := fnExactHideContextRow.holds Try.pinned (OpenSpec.ofChange fnExactHideContextWrong)

/-- 'laws.FnExactSetCause': WHATEVER THE INPUT: true; the input reads as it did. -/
def fnExactSetCauseSpec : ChangeSpec := { name := "fnExactSetCause", fn := fun _ => fun
  | [d1, d2, d3, d4] => { results := [.lit (.bool true)], args := [d1, d2, d3, d4] }
  | _ => none }
def fnExactSetCauseRow : OpenClaim := { program := "ytfhcfhffmblacaa", sum := "8dadf1166690c1903b939368c3b92edede28a6eed44db0cb0fd2a0f5c3f658cf", func := "loop.example/faultcleanup/laws.FnExactSetCause", spec := "fnExactSetCause", unfollowed := true, recurses := true, apart := false }
def FnExactSetCauseSaid : Prop := fnExactSetCauseRow.holds Try.pinned (OpenSpec.ofChange fnExactSetCauseSpec)

/-- ITS FALSE NEIGHBOUR: 'it returns false'. Refute it at one input. -/
def fnExactSetCauseWrong : ChangeSpec := { name := "fnExactSetCause", fn := fun _ => fun
  | [d1, d2, d3, d4] => { results := [.lit (.bool false)], args := [d1, d2, d3, d4] }
  | _ => none }
def FnExactSetCauseWrongFalsely : Prop := fnExactSetCauseRow.holds Try.pinned (OpenSpec.ofChange fnExactSetCauseWrong)

/-- 'laws.FnExactNewFault': WHATEVER THE INPUT: true; the input reads as it did. -/
def fnExactNewFaultSpec : ChangeSpec := { name := "fnExactNewFault", fn := fun _ => fun
  | [d1, d2, d3, d4] => { results := [.lit (.bool true)], args := [d1, d2, d3, d4] }
  | _ => none }
def fnExactNewFaultRow : OpenClaim := { program := "ytfhcfhffmblacaa", sum := "8dadf1166690c1903b939368c3b92edede28a6eed44db0cb0fd2a0f5c3f658cf", func := "loop.example/faultcleanup/laws.FnExactNewFault", spec := "fnExactNewFault", unfollowed := true, recurses := true, apart := false }
def FnExactNewFaultSaid : Prop := fnExactNewFaultRow.holds Try.pinned (OpenSpec.ofChange fnExactNewFaultSpec)

/-- ITS FALSE NEIGHBOUR: 'it returns false'. Refute it at one input. -/
def fnExactNewFaultWrong : ChangeSpec := { name := "fnExactNewFault", fn := fun _ => fun
  | [d1, d2, d3, d4] => { results := [.lit (.bool false)], args := [d1, d2, d3, d4] }
  | _ => none }
def FnExactNewFaultWrongFalsely : Prop := fnExactNewFaultRow.holds Try.pinned (OpenSpec.ofChange fnExactNewFaultWrong)

/-- 'laws.FnExactRaiseWhile': WHATEVER THE INPUT: true; the input reads as it did. -/
def fnExactRaiseWhileSpec : ChangeSpec := { name := "fnExactRaiseWhile", fn := fun _ => fun
  | [d1, d2, d3, d4] => { results := [.lit (.bool true)], args := [d1, d2, d3, d4] }
  | _ => none }
def fnExactRaiseWhileRow : OpenClaim := { program := "ytfhcfhffmblacaa", sum := "8dadf1166690c1903b939368c3b92edede28a6eed44db0cb0fd2a0f5c3f658cf", func := "loop.example/faultcleanup/laws.FnExactRaiseWhile", spec := "fnExactRaiseWhile", unfollowed := true, recurses := true, apart := false }
def FnExactRaiseWhileSaid : Prop := fnExactRaiseWhileRow.holds Try.pinned (OpenSpec.ofChange fnExactRaiseWhileSpec)

/-- ITS FALSE NEIGHBOUR: 'it returns false'. Refute it at one input. -/
def fnExactRaiseWhileWrong : ChangeSpec := { name := "fnExactRaiseWhile", fn := fun _ => fun
  | [d1, d2, d3, d4] => { results := [.lit (.bool false)], args := [d1, d2, d3, d4] }
  | _ => none }
def FnExactRaiseWhileWrongFalsely : Prop := fnExactRaiseWhileRow.holds Try.pinned (OpenSpec.ofChange fnExactRaiseWhileWrong)

/-- 'laws.FnExactJoinHeaps': WHATEVER THE INPUT: true; the input reads as it did. -/
def fnExactJoinHeapsSpec : ChangeSpec := { name := "fnExactJoinHeaps", fn := fun _ => fun
  | [d1, d2, d3] => { results := [.lit (.bool true)], args := [d1, d2, d3] }
  | _ => none }
def fnExactJoinHeapsRow : OpenClaim := { program := "ytfhcfhffmblacaa", sum := "8dadf1166690c1903b939368c3b92edede28a6eed44db0cb0fd2a0f5c3f658cf", func := "loop.example/faultcleanup/laws.FnExactJoinHeaps", spec := "fnExactJoinHeaps", unfollowed := true, recurses := true, apart := false }
def FnExactJoinHeapsSaid : Prop := fnExactJoinHeapsRow.holds Try.pinned (OpenSpec.ofChange fnExactJoinHeapsSpec)

/-- ITS FALSE NEIGHBOUR: 'it returns false'. Refute it at one input. -/
def fnExactJoinHeapsWrong : ChangeSpec := { name := "fnExactJoinHeaps", fn := fun _ => fun
  | [d1, d2, d3] => { results := [.lit (.bool false)], args := [d1, d2, d3] }
  | _ => none }
def FnExactJoinHeapsWrongFalsely : Prop := fnExactJoinHeapsRow.holds Try.pinned (OpenSpec.ofChange fnExactJoinHeapsWrong)

/-- 'laws.FnExactStartOf': WHATEVER THE INPUT: true; the input reads as it did. -/
def fnExactStartOfSpec : ChangeSpec := { name := "fnExactStartOf", fn := fun _ => fun
  | [d1, d2] => { results := [.lit (.bool true)], args := [d1, d2] }
  | _ => none }
def fnExactStartOfRow : OpenClaim := { program := "ytfhcfhffmblacaa", sum := "8dadf1166690c1903b939368c3b92edede28a6eed44db0cb0fd2a0f5c3f658cf", func := "loop.example/faultcleanup/laws.FnExactStartOf", spec := "fnExactStartOf", unfollowed := true, recurses := true, apart := false }
def FnExactStartOfSaid : Prop := fnExactStartOfRow.holds Try.pinned (OpenSpec.ofChange fnExactStartOfSpec)

/-- ITS FALSE NEIGHBOUR: 'it returns false'. Refute it at one input. -/
def fnExactStartOfWrong : ChangeSpec := { name := "fnExactStartOf", fn := fun _ => fun
  | [d1, d2] => { results := [.lit (.bool false)], args := [d1, d2] }
  | _ => none }
def FnExactStartOfWrongFalsely : Prop := fnExactStartOfRow.holds Try.pinned (OpenSpec.ofChange fnExactStartOfWrong)

/- THE SECOND FORM. 'bulk': how many values and letters a reading holds, each counted each time it is reached (what is shared counts as often as it is met; a slice's spare places count too). A statement '..UptoSaid' is the law's where the arguments, and the package variables that the reading takes, are together of bulk at most 1048576: NARROWER than '..Said'. Prove '..Said' where nothing that the law and all that it calls make is longer than what came in: it says more and counts as full. Else prove '..UptoSaid'. A law counts once. -/
mutual
def uptoBulk {H : Type} : DataW H → Nat
  | .lit (.string bytes) => bytes.length + 1
  | .lit _ => 1
  | .nil => 1
  | .ptr d => uptoBulk d + 1
  | .slice elems spare => uptoBulkAll elems + uptoBulkAll spare + 1
  | .agg parts => uptoBulkAll parts + 1
  | .iface _ d => uptoBulk d + 1
  | .map entries => uptoBulkEntries entries + 1
  | .held _ => 1
def uptoBulkAll {H : Type} : List (DataW H) → Nat
  | [] => 0
  | d :: r => uptoBulk d + uptoBulkAll r
def uptoBulkEntries {H : Type} : List (Lit × DataW H) → Nat
  | [] => 0
  | x :: r => uptoBulkEntry x + uptoBulkEntries r
def uptoBulkEntry {H : Type} : Lit × DataW H → Nat
  | (.string bytes, d) => bytes.length + uptoBulk d + 1
  | (_, d) => uptoBulk d + 1
 end
def uptoSmall : (H : Type) → List (DataW H) → Bool := fun _ ds => decide (uptoBulkAll ds ≤ 1048576)
def OpenSpec.upto (s : _root_.Go.ChangeSpec) : _root_.Go.OpenSpec := { _root_.Go.OpenSpec.ofChange s with cond := some uptoSmall }

/-- 'laws.FnExactValidHeap', WHERE WHAT IT READS IS OF BULK AT MOST 1048576: true; the input reads as it did. -/
def fnExactValidHeapUptoRow : OpenClaim := { program := "ytfhcfhffmblacaa", sum := "8dadf1166690c1903b939368c3b92edede28a6eed44db0cb0fd2a0f5c3f658cf", func := "loop.example/faultcleanup/laws.FnExactValidHeap", spec := "fnExactValidHeap", unfollowed := true, recurses := true, apart := false, narrowed := true }
def FnExactValidHeapUptoSaid : Prop := fnExactValidHeapUptoRow.holds Try.pinned (OpenSpec.upto fnExactValidHeapSpec)

/-- 'laws.FnExactShownNext', WHERE WHAT IT READS IS OF BULK AT MOST 1048576: true; the input reads as it did. -/
def fnExactShownNextUptoRow : OpenClaim := { program := "ytfhcfhffmblacaa", sum := "8dadf1166690c1903b939368c3b92edede28a6eed44db0cb0fd2a0f5c3f658cf", func := "loop.example/faultcleanup/laws.FnExactShownNext", spec := "fnExactShownNext", unfollowed := true, recurses := true, apart := false, narrowed := true }
def FnExactShownNextUptoSaid : Prop := fnExactShownNextUptoRow.holds Try.pinned (OpenSpec.upto fnExactShownNextSpec)

/-- 'laws.FnExactOldestShown', WHERE WHAT IT READS IS OF BULK AT MOST 1048576: true; the input reads as it did. -/
def fnExactOldestShownUptoRow : OpenClaim := { program := "ytfhcfhffmblacaa", sum := "8dadf1166690c1903b939368c3b92edede28a6eed44db0cb0fd2a0f5c3f658cf", func := "loop.example/faultcleanup/laws.FnExactOldestShown", spec := "fnExactOldestShown", unfollowed := true, recurses := true, apart := false, narrowed := true }
def FnExactOldestShownUptoSaid : Prop := fnExactOldestShownUptoRow.holds Try.pinned (OpenSpec.upto fnExactOldestShownSpec)

/-- 'laws.FnExactShownChain', WHERE WHAT IT READS IS OF BULK AT MOST 1048576: true; the input reads as it did. -/
def fnExactShownChainUptoRow : OpenClaim := { program := "ytfhcfhffmblacaa", sum := "8dadf1166690c1903b939368c3b92edede28a6eed44db0cb0fd2a0f5c3f658cf", func := "loop.example/faultcleanup/laws.FnExactShownChain", spec := "fnExactShownChain", unfollowed := true, recurses := true, apart := false, narrowed := true }
def FnExactShownChainUptoSaid : Prop := fnExactShownChainUptoRow.holds Try.pinned (OpenSpec.upto fnExactShownChainSpec)

/-- 'laws.FnExactContextChain', WHERE WHAT IT READS IS OF BULK AT MOST 1048576: true; the input reads as it did. -/
def fnExactContextChainUptoRow : OpenClaim := { program := "ytfhcfhffmblacaa", sum := "8dadf1166690c1903b939368c3b92edede28a6eed44db0cb0fd2a0f5c3f658cf", func := "loop.example/faultcleanup/laws.FnExactContextChain", spec := "fnExactContextChain", unfollowed := true, recurses := true, apart := false, narrowed := true }
def FnExactContextChainUptoSaid : Prop := fnExactContextChainUptoRow.holds Try.pinned (OpenSpec.upto fnExactContextChainSpec)

/-- 'laws.FnExactHideContext', WHERE WHAT IT READS IS OF BULK AT MOST 1048576: true; the input reads as it did. -/
def fnExactHideContextUptoRow : OpenClaim := { program := "ytfhcfhffmblacaa", sum := "8dadf1166690c1903b939368c3b92edede28a6eed44db0cb0fd2a0f5c3f658cf", func := "loop.example/faultcleanup/laws.FnExactHideContext", spec := "fnExactHideContext", unfollowed := true, recurses := true, apart := false, narrowed := true }
def FnExactHideContextUptoSaid : Prop := fnExactHideContextUptoRow.holds Try.pinned (OpenSpec.upto fnExactHideContextSpec)

/-- 'laws.FnExactSetCause', WHERE WHAT IT READS IS OF BULK AT MOST 1048576: true; the input reads as it did. -/
def fnExactSetCauseUptoRow : OpenClaim := { program := "ytfhcfhffmblacaa", sum := "8dadf1166690c1903b939368c3b92edede28a6eed44db0cb0fd2a0f5c3f658cf", func := "loop.example/faultcleanup/laws.FnExactSetCause", spec := "fnExactSetCause", unfollowed := true, recurses := true, apart := false, narrowed := true }
def FnExactSetCauseUptoSaid : Prop := fnExactSetCauseUptoRow.holds Try.pinned (OpenSpec.upto fnExactSetCauseSpec)

/-- 'laws.FnExactNewFault', WHERE WHAT IT READS IS OF BULK AT MOST 1048576: true; the input reads as it did. -/
def fnExactNewFaultUptoRow : OpenClaim := { program := "ytfhcfhffmblacaa", sum := "8dadf1166690c1903b939368c3b92edede28a6eed44db0cb0fd2a0f5c3f658cf", func := "loop.example/faultcleanup/laws.FnExactNewFault", spec := "fnExactNewFault", unfollowed := true, recurses := true, apart := false, narrowed := true }
def FnExactNewFaultUptoSaid : Prop := fnExactNewFaultUptoRow.holds Try.pinned (OpenSpec.upto fnExactNewFaultSpec)

/-- 'laws.FnExactRaiseWhile', WHERE WHAT IT READS IS OF BULK AT MOST 1048576: true; the input reads as it did. -/
def fnExactRaiseWhileUptoRow : OpenClaim := { program := "ytfhcfhffmblacaa", sum := "8dadf1166690c1903b939368c3b92edede28a6eed44db0cb0fd2a0f5c3f658cf", func := "loop.example/faultcleanup/laws.FnExactRaiseWhile", spec := "fnExactRaiseWhile", unfollowed := true, recurses := true, apart := false, narrowed := true }
def FnExactRaiseWhileUptoSaid : Prop := fnExactRaiseWhileUptoRow.holds Try.pinned (OpenSpec.upto fnExactRaiseWhileSpec)

/-- 'laws.FnExactJoinHeaps', WHERE WHAT IT READS IS OF BULK AT MOST 1048576: true; the input reads as it did. -/
def fnExactJoinHeapsUptoRow : OpenClaim := { program := "ytfhcfhffmblacaa", sum := "8dadf1166690c1903b939368c3b92edede28a6eed44db0cb0fd2a0f5c3f658cf", func := "loop.example/faultcleanup/laws.FnExactJoinHeaps", spec := "fnExactJoinHeaps", unfollowed := true, recurses := true, apart := false, narrowed := true }
def FnExactJoinHeapsUptoSaid : Prop := fnExactJoinHeapsUptoRow.holds Try.pinned (OpenSpec.upto fnExactJoinHeapsSpec)

/-- 'laws.FnExactStartOf', WHERE WHAT IT READS IS OF BULK AT MOST 1048576: true; the input reads as it did. -/
def fnExactStartOfUptoRow : OpenClaim := { program := "ytfhcfhffmblacaa", sum := "8dadf1166690c1903b939368c3b92edede28a6eed44db0cb0fd2a0f5c3f658cf", func := "loop.example/faultcleanup/laws.FnExactStartOf", spec := "fnExactStartOf", unfollowed := true, recurses := true, apart := false, narrowed := true }
def FnExactStartOfUptoSaid : Prop := fnExactStartOfUptoRow.holds Try.pinned (OpenSpec.upto fnExactStartOfSpec)

end Rows
end Go.Proofs.Ytfhcfhffmblacaa
