/-
  No cell of these rows narrows 'for every input' (looked for: loops, veiled, ifaces, maps, wideKeys, modest, calm, conditions, laid).
  DERIVED. THE GIVEN ROWS OF THIS SEAT. 7 by the template 'for every input the law returns true; each argument reads behind the call as it read before'; 0 by the template 'total and deterministic' (their statements: YtmiholmfbjalfaaTotals.lean).
  GIVEN WITH THE SEED: the statements are not yours to turn. If you find one false, say at which input.
  Laid BY PROGRAM, IN A SANDBOX (cutbox-rows.mjs): the forced cells as the released guide's own fill.sh prints them over the translation af79408dde7db9c7… (all of the seat's roots in one cut). By AI agents, Wed Nov 11 2026. No macro, syntax, notation, axiom, sorry.
-/
import Derived.Test.YtmiholmfbjalfaaChecked
import GoSem.Claim
import GoSem.ClaimJoined
import GoSem.ClaimMapViews
import Derived.JoinedTies
import Derived.KernelRfl
namespace Go.Proofs.Ytmiholmfbjalfaa
/- THE CELL 'sum', in the pinned program and in every row, IS THE sha256 OF THE DUMP (.gsa) THAT YtmiholmfbjalfaaProg.lean LOADS. Nothing in Lean hashes anything: it is a label: what it is worth is what the hold of that sum in a sandbox is worth. -/
noncomputable def Try.pinned : Pinned := { name := "ytmiholmfbjalfaa", sum := "af79408dde7db9c771df8af766bf26c8e23aeeb9aff5c1f6929542b847458a50", checked := Try.checked }
namespace Rows
def none {H : Type} : Left H := { results := [], args := [] }

/-- 'laws.FnShownChain': WHATEVER THE INPUT: true; the input reads as it did. -/
def fnShownChainSpec : ChangeSpec := { name := "fnShownChain", fn := fun _ => fun
  | [d] => { results := [.lit (.bool true)], args := [d] }
  | _ => none }
def fnShownChainRow : OpenClaim := { program := "ytmiholmfbjalfaa", sum := "af79408dde7db9c771df8af766bf26c8e23aeeb9aff5c1f6929542b847458a50", func := "loop.example/faultcleanup/laws.FnShownChain", spec := "fnShownChain", unfollowed := true, recurses := true, apart := false }
def FnShownChainSaid : Prop := fnShownChainRow.holds Try.pinned (OpenSpec.ofChange fnShownChainSpec)

/-- ITS FALSE NEIGHBOUR: 'it returns false'. Refute it at one input. -/
def fnShownChainWrong : ChangeSpec := { name := "fnShownChain", fn := fun _ => fun
  | [d] => { results := [.lit (.bool false)], args := [d] }
  | _ => none }
def FnShownChainWrongFalsely : Prop := fnShownChainRow.holds Try.pinned (OpenSpec.ofChange fnShownChainWrong)

/-- 'laws.FnNewFault': WHATEVER THE INPUT: true; the input reads as it did. -/
def fnNewFaultSpec : ChangeSpec := { name := "fnNewFault", fn := fun _ => fun
  | [d] => { results := [.lit (.bool true)], args := [d] }
  | _ => none }
def fnNewFaultRow : OpenClaim := { program := "ytmiholmfbjalfaa", sum := "af79408dde7db9c771df8af766bf26c8e23aeeb9aff5c1f6929542b847458a50", func := "loop.example/faultcleanup/laws.FnNewFault", spec := "fnNewFault", unfollowed := true, recurses := true, apart := false }
def FnNewFaultSaid : Prop := fnNewFaultRow.holds Try.pinned (OpenSpec.ofChange fnNewFaultSpec)

/-- ITS FALSE NEIGHBOUR: 'it returns false'. Refute it at one input. -/
def fnNewFaultWrong : ChangeSpec := { name := "fnNewFault", fn := fun _ => fun
  | [d] => { results := [.lit (.bool false)], args := [d] }
  | _ => none }
def FnNewFaultWrongFalsely : Prop := fnNewFaultRow.holds Try.pinned (OpenSpec.ofChange fnNewFaultWrong)

/-- 'laws.FnHideContext': WHATEVER THE INPUT: true; the input reads as it did. -/
def fnHideContextSpec : ChangeSpec := { name := "fnHideContext", fn := fun _ => fun
  | [d] => { results := [.lit (.bool true)], args := [d] }
  | _ => none }
def fnHideContextRow : OpenClaim := { program := "ytmiholmfbjalfaa", sum := "af79408dde7db9c771df8af766bf26c8e23aeeb9aff5c1f6929542b847458a50", func := "loop.example/faultcleanup/laws.FnHideContext", spec := "fnHideContext", unfollowed := true, recurses := true, apart := false }
def FnHideContextSaid : Prop := fnHideContextRow.holds Try.pinned (OpenSpec.ofChange fnHideContextSpec)

/-- ITS FALSE NEIGHBOUR: 'it returns false'. Refute it at one input. -/
def fnHideContextWrong : ChangeSpec := { name := "fnHideContext", fn := fun _ => fun
  | [d] => { results := [.lit (.bool false)], args := [d] }
  | _ => none }
def FnHideContextWrongFalsely : Prop := fnHideContextRow.holds Try.pinned (OpenSpec.ofChange fnHideContextWrong)

/-- 'laws.FnSetCause': WHATEVER THE INPUT: true; the input reads as it did. -/
def fnSetCauseSpec : ChangeSpec := { name := "fnSetCause", fn := fun _ => fun
  | [d] => { results := [.lit (.bool true)], args := [d] }
  | _ => none }
def fnSetCauseRow : OpenClaim := { program := "ytmiholmfbjalfaa", sum := "af79408dde7db9c771df8af766bf26c8e23aeeb9aff5c1f6929542b847458a50", func := "loop.example/faultcleanup/laws.FnSetCause", spec := "fnSetCause", unfollowed := true, recurses := true, apart := false }
def FnSetCauseSaid : Prop := fnSetCauseRow.holds Try.pinned (OpenSpec.ofChange fnSetCauseSpec)

/-- ITS FALSE NEIGHBOUR: 'it returns false'. Refute it at one input. -/
def fnSetCauseWrong : ChangeSpec := { name := "fnSetCause", fn := fun _ => fun
  | [d] => { results := [.lit (.bool false)], args := [d] }
  | _ => none }
def FnSetCauseWrongFalsely : Prop := fnSetCauseRow.holds Try.pinned (OpenSpec.ofChange fnSetCauseWrong)

/-- 'laws.FnRaiseWhile': WHATEVER THE INPUT: true; the input reads as it did. -/
def fnRaiseWhileSpec : ChangeSpec := { name := "fnRaiseWhile", fn := fun _ => fun
  | [d] => { results := [.lit (.bool true)], args := [d] }
  | _ => none }
def fnRaiseWhileRow : OpenClaim := { program := "ytmiholmfbjalfaa", sum := "af79408dde7db9c771df8af766bf26c8e23aeeb9aff5c1f6929542b847458a50", func := "loop.example/faultcleanup/laws.FnRaiseWhile", spec := "fnRaiseWhile", unfollowed := true, recurses := true, apart := false }
def FnRaiseWhileSaid : Prop := fnRaiseWhileRow.holds Try.pinned (OpenSpec.ofChange fnRaiseWhileSpec)

/-- ITS FALSE NEIGHBOUR: 'it returns false'. Refute it at one input. -/
def fnRaiseWhileWrong : ChangeSpec := { name := "fnRaiseWhile", fn := fun _ => fun
  | [d] => { results := [.lit (.bool false)], args := [d] }
  | _ => none }
def FnRaiseWhileWrongFalsely : Prop := fnRaiseWhileRow.holds Try.pinned (OpenSpec.ofChange fnRaiseWhileWrong)

/-- 'laws.FnRaiseWhileChain': WHATEVER THE INPUT: true; the input reads as it did. -/
def fnRaiseWhileChainSpec : ChangeSpec := { name := "fnRaiseWhileChain", fn := fun _ => fun
  | [d] => { results := [.lit (.bool true)], args := [d] }
  | _ => none }
def fnRaiseWhileChainRow : OpenClaim := { program := "ytmiholmfbjalfaa", sum := "af79408dde7db9c771df8af766bf26c8e23aeeb9aff5c1f6929542b847458a50", func := "loop.example/faultcleanup/laws.FnRaiseWhileChain", spec := "fnRaiseWhileChain", unfollowed := true, recurses := true, apart := false }
def FnRaiseWhileChainSaid : Prop := fnRaiseWhileChainRow.holds Try.pinned (OpenSpec.ofChange fnRaiseWhileChainSpec)

/-- ITS FALSE NEIGHBOUR: 'it returns false'. Refute it at one input. -/
def fnRaiseWhileChainWrong : ChangeSpec := { name := "fnRaiseWhileChain", fn := fun _ => fun
  | [d] => { results := [.lit (.bool false)], args := [d] }
  | _ => none }
def FnRaiseWhileChainWrongFalsely : Prop := fnRaiseWhileChainRow.holds Try.pinned (OpenSpec.ofChange fnRaiseWhileChainWrong)

/-- 'laws.FnValidHeap': WHATEVER THE INPUT: true; the input reads as it did. -/
def fnValidHeapSpec : ChangeSpec := { name := "fnValidHeap", fn := fun _ => fun
  | [d] => { results := [.lit (.bool true)], args := [d] }
  | _ => none }
def fnValidHeapRow : OpenClaim := { program := "ytmiholmfbjalfaa", sum := "af79408dde7db9c771df8af766bf26c8e23aeeb9aff5c1f6929542b847458a50", func := "loop.example/faultcleanup/laws.FnValidHeap", spec := "fnValidHeap", unfollowed := true, recurses := true, apart := false }
def FnValidHeapSaid : Prop := fnValidHeapRow.holds Try.pinned (OpenSpec.ofChange fnValidHeapSpec)

/-- ITS FALSE NEIGHBOUR: 'it returns false'. Refute it at one input. -/
def fnValidHeapWrong : ChangeSpec := { name := "fnValidHeap", fn := fun _ => fun
  | [d] => { results := [.lit (.bool false)], args := [d] }
  | _ => none }
def FnValidHeapWrongFalsely : Prop := fnValidHeapRow.holds Try.pinned (OpenSpec.ofChange fnValidHeapWrong)

/- THE SECOND FORM. 'bulk': how many values and letters a reading holds, each counted each time it is reached (what is shared counts as often as it is met; a slice's spare places count too). A statement '..UptoSaid' is the law's where the arguments, and the package variables that the reading takes, are together of bulk at most 1048576: NARROWER than '..Said'. Prove '..Said' where nothing that the law and all that it calls make is longer than what came in: it says more and counts as full. Else prove '..UptoSaid'. A law counts once. -/
mutual
def uptoBulk {H : Type} : DataW H → Nat
  | .lit (.string bytes) => bytes.length + 1
  | .lit _ => 1
  | .nil => 1
  | .ptr d => uptoBulk d + 1
  | .slice elems spare => uptoBulkAll elems + uptoBulkAll spare + 1
  | .agg parts => uptoBulkAll parts + 1
  | .iface _ d => uptoBulk d + 1
  | .map entries => uptoBulkEntries entries + 1
  | .held _ => 1
def uptoBulkAll {H : Type} : List (DataW H) → Nat
  | [] => 0
  | d :: r => uptoBulk d + uptoBulkAll r
def uptoBulkEntries {H : Type} : List (Lit × DataW H) → Nat
  | [] => 0
  | x :: r => uptoBulkEntry x + uptoBulkEntries r
def uptoBulkEntry {H : Type} : Lit × DataW H → Nat
  | (.string bytes, d) => bytes.length + uptoBulk d + 1
  | (_, d) => uptoBulk d + 1
 end
def uptoSmall : (H : Type) → List (DataW H) → Bool := fun _ ds => decide (uptoBulkAll ds ≤ 1048576)
def OpenSpec.upto (s : _root_.Go.ChangeSpec) : _root_.Go.OpenSpec := { _root_.Go.OpenSpec.ofChange s with cond := some uptoSmall }

/-- 'laws.FnShownChain', WHERE WHAT IT READS IS OF BULK AT MOST 1048576: true; the input reads as it did. -/
def fnShownChainUptoRow : OpenClaim := { program := "ytmiholmfbjalfaa", sum := "af79408dde7db9c771df8af766bf26c8e23aeeb9aff5c1f6929542b847458a50", func := "loop.example/faultcleanup/laws.FnShownChain", spec := "fnShownChain", unfollowed := true, recurses := true, apart := false, narrowed := true }
def FnShownChainUptoSaid : Prop := fnShownChainUptoRow.holds Try.pinned (OpenSpec.upto fnShownChainSpec)

/-- 'laws.FnNewFault', WHERE WHAT IT READS IS OF BULK AT MOST 1048576: true; the input reads as it did. -/
def fnNewFaultUptoRow : OpenClaim := { program := "ytmiholmfbjalfaa", sum := "af79408dde7db9c771df8af766bf26c8e23aeeb9aff5c1f6929542b847458a50", func := "loop.example/faultcleanup/laws.FnNewFault", spec := "fnNewFault", unfollowed := true, recurses := true, apart := false, narrowed := true }
def FnNewFaultUptoSaid : Prop := fnNewFaultUptoRow.holds Try.pinned (OpenSpec.upto fnNewFaultSpec)

/-- 'laws.FnHideContext', WHERE WHAT IT READS IS OF BULK AT MOST 1048576: true; the input reads as it did. -/
def fnHideContextUptoRow : OpenClaim := { program := "ytmiholmfbjalfaa", sum := "af79408dde7db9c771df8af766bf26c8e23aeeb9aff5c1f6929542b847458a50", func := "loop.example/faultcleanup/laws.FnHideContext", spec := "fnHideContext", unfollowed := true, recurses := true, apart := false, narrowed := true }
def FnHideContextUptoSaid : Prop := fnHideContextUptoRow.holds Try.pinned (OpenSpec.upto fnHideContextSpec)

/-- 'laws.FnSetCause', WHERE WHAT IT READS IS OF BULK AT MOST 1048576: true; the input reads as it did. -/
def fnSetCauseUptoRow : OpenClaim := { program := "ytmiholmfbjalfaa", sum := "af79408dde7db9c771df8af766bf26c8e23aeeb9aff5c1f6929542b847458a50", func := "loop.example/faultcleanup/laws.FnSetCause", spec := "fnSetCause", unfollowed := true, recurses := true, apart := false, narrowed := true }
def FnSetCauseUptoSaid : Prop := fnSetCauseUptoRow.holds Try.pinned (OpenSpec.upto fnSetCauseSpec)

/-- 'laws.FnRaiseWhile', WHERE WHAT IT READS IS OF BULK AT MOST 1048576: true; the input reads as it did. -/
def fnRaiseWhileUptoRow : OpenClaim := { program := "ytmiholmfbjalfaa", sum := "af79408dde7db9c771df8af766bf26c8e23aeeb9aff5c1f6929542b847458a50", func := "loop.example/faultcleanup/laws.FnRaiseWhile", spec := "fnRaiseWhile", unfollowed := true, recurses := true, apart := false, narrowed := true }
def FnRaiseWhileUptoSaid : Prop := fnRaiseWhileUptoRow.holds Try.pinned (OpenSpec.upto fnRaiseWhileSpec)

/-- 'laws.FnRaiseWhileChain', WHERE WHAT IT READS IS OF BULK AT MOST 1048576: true; the input reads as it did. -/
def fnRaiseWhileChainUptoRow : OpenClaim := { program := "ytmiholmfbjalfaa", sum := "af79408dde7db9c771df8af766bf26c8e23aeeb9aff5c1f6929542b847458a50", func := "loop.example/faultcleanup/laws.FnRaiseWhileChain", spec := "fnRaiseWhileChain", unfollowed := true, recurses := true, apart := false, narrowed := true }
def FnRaiseWhileChainUptoSaid : Prop := fnRaiseWhileChainUptoRow.holds Try.pinned (OpenSpec.upto fnRaiseWhileChainSpec)

/-- 'laws.FnValidHeap', WHERE WHAT IT READS IS OF BULK AT MOST 1048576: true; the input reads as it did. -/
def fnValidHeapUptoRow : OpenClaim := { program := "ytmiholmfbjalfaa", sum := "af79408dde7db9c771df8af766bf26c8e23aeeb9aff5c1f6929542b847458a50", func := "loop.example/faultcleanup/laws.FnValidHeap", spec := "fnValidHeap", unfollowed := true, recurses := true, apart := false, narrowed := true }
def FnValidHeapUptoSaid : Prop := fnValidHeapUptoRow.holds Try.pinned (OpenSpec.upto fnValidHeapSpec)

end Rows
end Go.Proofs.Ytmiholmfbjalfaa
