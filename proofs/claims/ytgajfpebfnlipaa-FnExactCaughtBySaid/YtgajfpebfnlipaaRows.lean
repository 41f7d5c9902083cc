/-
  No cell of these rows narrows 'for every input' (looked for: loops, veiled, ifaces, maps, wideKeys, modest, calm, conditions, laid).
  DERIVED. THE GIVEN ROWS OF THIS SEAT. 12 by the template 'for every input the law returns true; each argument reads behind the call as it read before'; 0 by the template 'total and deterministic' (their statements: YtgajfpebfnlipaaTotals.lean).
  GIVEN WITH THE SEED: the statements are not yours to turn. If you find one false, say at which input.
  Laid BY PROGRAM, IN A SANDBOX (cutbox-rows.mjs): the forced cells as the released guide's own fill.sh prints them over the translation 525a9793f125b501… (all of the seat's roots in one cut). By AI agents, Wed Nov 11 2026. No macro, syntax, notation, axiom, sorry.
-/
import Derived.Test.YtgajfpebfnlipaaChecked
import GoSem.Claim
import GoSem.ClaimJoined
import GoSem.ClaimMapViews
import Derived.JoinedTies
import Derived.KernelRfl
namespace Go.Proofs.Ytgajfpebfnlipaa
/- THE CELL 'sum', in the pinned program and in every row, IS THE sha256 OF THE DUMP (.gsa) THAT YtgajfpebfnlipaaProg.lean LOADS. Nothing in Lean hashes anything: it is a label: what it is worth is what the hold of that sum in a sandbox is worth. -/
noncomputable def Try.pinned : Pinned := { name := "ytgajfpebfnlipaa", sum := "525a9793f125b501bab474bd66562e9fdbcf001421d0921b8c8517d9b6d98f51", checked := Try.checked }
namespace Rows
def none {H : Type} : Left H := { results := [], args := [] }

/-- 'laws.FnExactLookUp': WHATEVER THE INPUT: true; the input reads as it did. -/
def fnExactLookUpSpec : ChangeSpec := { name := "fnExactLookUp", fn := fun _ => fun
  | [d1, d2, d3, d4] => { results := [.lit (.bool true)], args := [d1, d2, d3, d4] }
  | _ => none }
def fnExactLookUpRow : OpenClaim := { program := "ytgajfpebfnlipaa", sum := "525a9793f125b501bab474bd66562e9fdbcf001421d0921b8c8517d9b6d98f51", func := "loop.example/faultcleanup/laws.FnExactLookUp", spec := "fnExactLookUp", unfollowed := true, recurses := true, apart := false }
def FnExactLookUpSaid : Prop := fnExactLookUpRow.holds Try.pinned (OpenSpec.ofChange fnExactLookUpSpec)

/-- ITS FALSE NEIGHBOUR: 'it returns false'. Refute it at one input. -/
def fnExactLookUpWrong : ChangeSpec := { name := "fnExactLookUp", fn := fun _ => fun
  | [d1, d2, d3, d4] => { results := [.lit (.bool false)], args := [d1, d2, d3, d4] }
  | _ => none }
def FnExactLookUpWrongFalsely : Prop := fnExactLookUpRow.holds Try.pinned (OpenSpec.ofChange fnExactLookUpWrong)

/-- 'laws.FnFlattenGroup': WHATEVER THE INPUT: true; the input reads as it did. -/
def fnFlattenGroupSpec : ChangeSpec := { name := "fnFlattenGroup", fn := fun _ => fun
  | [d] => { results := [.lit (.bool true)], args := [d] }
  | _ => none }
def fnFlattenGroupRow : OpenClaim := { program := "ytgajfpebfnlipaa", sum := "525a9793f125b501bab474bd66562e9fdbcf001421d0921b8c8517d9b6d98f51", func := "loop.example/faultcleanup/laws.FnFlattenGroup", spec := "fnFlattenGroup", unfollowed := true, recurses := true, apart := false }
def FnFlattenGroupSaid : Prop := fnFlattenGroupRow.holds Try.pinned (OpenSpec.ofChange fnFlattenGroupSpec)

/-- ITS FALSE NEIGHBOUR: 'it returns false'. Refute it at one input. -/
def fnFlattenGroupWrong : ChangeSpec := { name := "fnFlattenGroup", fn := fun _ => fun
  | [d] => { results := [.lit (.bool false)], args := [d] }
  | _ => none }
def FnFlattenGroupWrongFalsely : Prop := fnFlattenGroupRow.holds Try.pinned (OpenSpec.ofChange fnFlattenGroupWrong)

/-- 'laws.FnValidHeap': WHATEVER THE INPUT: true; the input reads as it did. -/
def fnValidHeapSpec : ChangeSpec := { name := "fnValidHeap", fn := fun _ => fun
  | [d] => { results := [.lit (.bool true)], args := [d] }
  | _ => none }
def fnValidHeapRow : OpenClaim := { program := "ytgajfpebfnlipaa", sum := "525a9793f125b501bab474bd66562e9fdbcf001421d0921b8c8517d9b6d98f51", func := "loop.example/faultcleanup/laws.FnValidHeap", spec := "fnValidHeap", unfollowed := true, recurses := true, apart := false }
def FnValidHeapSaid : Prop := fnValidHeapRow.holds Try.pinned (OpenSpec.ofChange fnValidHeapSpec)

/-- ITS FALSE NEIGHBOUR: 'it returns false'. Refute it at one input. -/
def fnValidHeapWrong : ChangeSpec := { name := "fnValidHeap", fn := fun _ => fun
  | [d] => { results := [.lit (.bool false)], args := [d] }
  | _ => none }
def FnValidHeapWrongFalsely : Prop := fnValidHeapRow.holds Try.pinned (OpenSpec.ofChange fnValidHeapWrong)

/-- 'laws.FnCaughtBy': WHATEVER THE INPUT: true; the input reads as it did. -/
def fnCaughtBySpec : ChangeSpec := { name := "fnCaughtBy", fn := fun _ => fun
  | [d] => { results := [.lit (.bool true)], args := [d] }
  | _ => none }
def fnCaughtByRow : OpenClaim := { program := "ytgajfpebfnlipaa", sum := "525a9793f125b501bab474bd66562e9fdbcf001421d0921b8c8517d9b6d98f51", func := "loop.example/faultcleanup/laws.FnCaughtBy", spec := "fnCaughtBy", unfollowed := true, recurses := true, apart := false }
def FnCaughtBySaid : Prop := fnCaughtByRow.holds Try.pinned (OpenSpec.ofChange fnCaughtBySpec)

/-- ITS FALSE NEIGHBOUR: 'it returns false'. Refute it at one input. -/
def fnCaughtByWrong : ChangeSpec := { name := "fnCaughtBy", fn := fun _ => fun
  | [d] => { results := [.lit (.bool false)], args := [d] }
  | _ => none }
def FnCaughtByWrongFalsely : Prop := fnCaughtByRow.holds Try.pinned (OpenSpec.ofChange fnCaughtByWrong)

/-- 'laws.FnKidsOf': WHATEVER THE INPUT: true; the input reads as it did. -/
def fnKidsOfSpec : ChangeSpec := { name := "fnKidsOf", fn := fun _ => fun
  | [d] => { results := [.lit (.bool true)], args := [d] }
  | _ => none }
def fnKidsOfRow : OpenClaim := { program := "ytgajfpebfnlipaa", sum := "525a9793f125b501bab474bd66562e9fdbcf001421d0921b8c8517d9b6d98f51", func := "loop.example/faultcleanup/laws.FnKidsOf", spec := "fnKidsOf", unfollowed := true, recurses := true, apart := false }
def FnKidsOfSaid : Prop := fnKidsOfRow.holds Try.pinned (OpenSpec.ofChange fnKidsOfSpec)

/-- ITS FALSE NEIGHBOUR: 'it returns false'. Refute it at one input. -/
def fnKidsOfWrong : ChangeSpec := { name := "fnKidsOf", fn := fun _ => fun
  | [d] => { results := [.lit (.bool false)], args := [d] }
  | _ => none }
def FnKidsOfWrongFalsely : Prop := fnKidsOfRow.holds Try.pinned (OpenSpec.ofChange fnKidsOfWrong)

/-- 'laws.FnExactLeastCatches': WHATEVER THE INPUT: true; the input reads as it did. -/
def fnExactLeastCatchesSpec : ChangeSpec := { name := "fnExactLeastCatches", fn := fun _ => fun
  | [d1, d2] => { results := [.lit (.bool true)], args := [d1, d2] }
  | _ => none }
def fnExactLeastCatchesRow : OpenClaim := { program := "ytgajfpebfnlipaa", sum := "525a9793f125b501bab474bd66562e9fdbcf001421d0921b8c8517d9b6d98f51", func := "loop.example/faultcleanup/laws.FnExactLeastCatches", spec := "fnExactLeastCatches", unfollowed := true, recurses := true, apart := false }
def FnExactLeastCatchesSaid : Prop := fnExactLeastCatchesRow.holds Try.pinned (OpenSpec.ofChange fnExactLeastCatchesSpec)

/-- ITS FALSE NEIGHBOUR: 'it returns false'. Refute it at one input. -/
def fnExactLeastCatchesWrong : ChangeSpec := { name := "fnExactLeastCatches", fn := fun _ => fun
  | [d1, d2] => { results := [.lit (.bool false)], args := [d1, d2] }
  | _ => none }
def FnExactLeastCatchesWrongFalsely : Prop := fnExactLeastCatchesRow.holds Try.pinned (OpenSpec.ofChange fnExactLeastCatchesWrong)

/-- 'laws.FnValidProgram': WHATEVER THE INPUT: true; the input reads as it did. -/
def fnValidProgramSpec : ChangeSpec := { name := "fnValidProgram", fn := fun _ => fun
  | [d] => { results := [.lit (.bool true)], args := [d] }
  | _ => none }
def fnValidProgramRow : OpenClaim := { program := "ytgajfpebfnlipaa", sum := "525a9793f125b501bab474bd66562e9fdbcf001421d0921b8c8517d9b6d98f51", func := "loop.example/faultcleanup/laws.FnValidProgram", spec := "fnValidProgram", unfollowed := true, recurses := true, apart := false }
def FnValidProgramSaid : Prop := fnValidProgramRow.holds Try.pinned (OpenSpec.ofChange fnValidProgramSpec)

/-- ITS FALSE NEIGHBOUR: 'it returns false'. Refute it at one input. -/
def fnValidProgramWrong : ChangeSpec := { name := "fnValidProgram", fn := fun _ => fun
  | [d] => { results := [.lit (.bool false)], args := [d] }
  | _ => none }
def FnValidProgramWrongFalsely : Prop := fnValidProgramRow.holds Try.pinned (OpenSpec.ofChange fnValidProgramWrong)

/-- 'laws.FnTopTree': WHATEVER THE INPUT: true; the input reads as it did. -/
def fnTopTreeSpec : ChangeSpec := { name := "fnTopTree", fn := fun _ => fun
  | [d] => { results := [.lit (.bool true)], args := [d] }
  | _ => none }
def fnTopTreeRow : OpenClaim := { program := "ytgajfpebfnlipaa", sum := "525a9793f125b501bab474bd66562e9fdbcf001421d0921b8c8517d9b6d98f51", func := "loop.example/faultcleanup/laws.FnTopTree", spec := "fnTopTree", inPlace := ["internal/bytealg.IndexByteString", "internal/bytealg.IndexString", "internal/abi.NoEscape"], unfollowed := true, recurses := true, named := ["internal/bytealg.MaxLen"], apart := false }
def FnTopTreeSaid : Prop := fnTopTreeRow.holds Try.pinned (OpenSpec.ofChange fnTopTreeSpec)

/-- ITS FALSE NEIGHBOUR: 'it returns false'. Refute it at one input. -/
def fnTopTreeWrong : ChangeSpec := { name := "fnTopTree", fn := fun _ => fun
  | [d] => { results := [.lit (.bool false)], args := [d] }
  | _ => none }
def FnTopTreeWrongFalsely : Prop := fnTopTreeRow.holds Try.pinned (OpenSpec.ofChange fnTopTreeWrong)

/-- 'laws.FnExactCaughtBy': WHATEVER THE INPUT: true; the input reads as it did. -/
def fnExactCaughtBySpec : ChangeSpec := { name := "fnExactCaughtBy", fn := fun _ => fun
  | [d1, d2] => { results := [.lit (.bool true)], args := [d1, d2] }
  | _ => none }
def fnExactCaughtByRow : OpenClaim := { program := "ytgajfpebfnlipaa", sum := "525a9793f125b501bab474bd66562e9fdbcf001421d0921b8c8517d9b6d98f51", func := "loop.example/faultcleanup/laws.FnExactCaughtBy", spec := "fnExactCaughtBy", unfollowed := true, recurses := true, apart := false }
def FnExactCaughtBySaid : Prop := fnExactCaughtByRow.holds Try.pinned (OpenSpec.ofChange fnExactCaughtBySpec)

/-- ITS FALSE NEIGHBOUR: 'it returns false'. Refute it at one input. -/
def fnExactCaughtByWrong : ChangeSpec := { name := "fnExactCaughtBy", fn := fun _ => fun
  | [d1, d2] => { results := [.lit (.bool false)], args := [d1, d2] }
  | _ => none }
def FnExactCaughtByWrongFalsely : Prop := fnExactCaughtByRow.holds Try.pinned (OpenSpec.ofChange fnExactCaughtByWrong)

/-- 'laws.FnExactDeadCatches': WHATEVER THE INPUT: true; the input reads as it did. -/
def fnExactDeadCatchesSpec : ChangeSpec := { name := "fnExactDeadCatches", fn := fun _ => fun
  | [d1, d2] => { results := [.lit (.bool true)], args := [d1, d2] }
  | _ => none }
def fnExactDeadCatchesRow : OpenClaim := { program := "ytgajfpebfnlipaa", sum := "525a9793f125b501bab474bd66562e9fdbcf001421d0921b8c8517d9b6d98f51", func := "loop.example/faultcleanup/laws.FnExactDeadCatches", spec := "fnExactDeadCatches", unfollowed := true, recurses := true, apart := false }
def FnExactDeadCatchesSaid : Prop := fnExactDeadCatchesRow.holds Try.pinned (OpenSpec.ofChange fnExactDeadCatchesSpec)

/-- ITS FALSE NEIGHBOUR: 'it returns false'. Refute it at one input. -/
def fnExactDeadCatchesWrong : ChangeSpec := { name := "fnExactDeadCatches", fn := fun _ => fun
  | [d1, d2] => { results := [.lit (.bool false)], args := [d1, d2] }
  | _ => none }
def FnExactDeadCatchesWrongFalsely : Prop := fnExactDeadCatchesRow.holds Try.pinned (OpenSpec.ofChange fnExactDeadCatchesWrong)

/-- 'laws.FnExactValidHeap': WHATEVER THE INPUT: true; the input reads as it did. -/
def fnExactValidHeapSpec : ChangeSpec := { name := "fnExactValidHeap", fn := fun _ => fun
  | [d1, d2] => { results := [.lit (.bool true)], args := [d1, d2] }
  | _ => none }
def fnExactValidHeapRow : OpenClaim := { program := "ytgajfpebfnlipaa", sum := "525a9793f125b501bab474bd66562e9fdbcf001421d0921b8c8517d9b6d98f51", func := "loop.example/faultcleanup/laws.FnExactValidHeap", spec := "fnExactValidHeap", unfollowed := true, recurses := true, apart := false }
def FnExactValidHeapSaid : Prop := fnExactValidHeapRow.holds Try.pinned (OpenSpec.ofChange fnExactValidHeapSpec)

/-- ITS FALSE NEIGHBOUR: 'it returns false'. Refute it at one input. -/
def fnExactValidHeapWrong : ChangeSpec := { name := "fnExactValidHeap", fn := fun _ => fun
  | [d1, d2] => { results := [.lit (.bool false)], args := [d1, d2] }
  | _ => none }
def FnExactValidHeapWrongFalsely : Prop := fnExactValidHeapRow.holds Try.pinned (OpenSpec.ofChange fnExactValidHeapWrong)

/-- 'laws.FnHasClass': WHATEVER THE INPUT: true; the input reads as it did. -/
def fnHasClassSpec : ChangeSpec := { name := "fnHasClass", fn := fun _ => fun
  | [d] => { results := [.lit (.bool true)], args := [d] }
  | _ => none }
def fnHasClassRow : OpenClaim := { program := "ytgajfpebfnlipaa", sum := "525a9793f125b501bab474bd66562e9fdbcf001421d0921b8c8517d9b6d98f51", func := "loop.example/faultcleanup/laws.FnHasClass", spec := "fnHasClass", unfollowed := true, recurses := true, apart := false }
def FnHasClassSaid : Prop := fnHasClassRow.holds Try.pinned (OpenSpec.ofChange fnHasClassSpec)

/-- ITS FALSE NEIGHBOUR: 'it returns false'. Refute it at one input. -/
def fnHasClassWrong : ChangeSpec := { name := "fnHasClass", fn := fun _ => fun
  | [d] => { results := [.lit (.bool false)], args := [d] }
  | _ => none }
def FnHasClassWrongFalsely : Prop := fnHasClassRow.holds Try.pinned (OpenSpec.ofChange fnHasClassWrong)

/- THE SECOND FORM. 'bulk': how many values and letters a reading holds, each counted each time it is reached (what is shared counts as often as it is met; a slice's spare places count too). A statement '..UptoSaid' is the law's where the arguments, and the package variables that the reading takes, are together of bulk at most 1048576: NARROWER than '..Said'. Prove '..Said' where nothing that the law and all that it calls make is longer than what came in: it says more and counts as full. Else prove '..UptoSaid'. A law counts once. -/
mutual
def uptoBulk {H : Type} : DataW H → Nat
  | .lit (.string bytes) => bytes.length + 1
  | .lit _ => 1
  | .nil => 1
  | .ptr d => uptoBulk d + 1
  | .slice elems spare => uptoBulkAll elems + uptoBulkAll spare + 1
  | .agg parts => uptoBulkAll parts + 1
  | .iface _ d => uptoBulk d + 1
  | .map entries => uptoBulkEntries entries + 1
  | .held _ => 1
def uptoBulkAll {H : Type} : List (DataW H) → Nat
  | [] => 0
  | d :: r => uptoBulk d + uptoBulkAll r
def uptoBulkEntries {H : Type} : List (Lit × DataW H) → Nat
  | [] => 0
  | x :: r => uptoBulkEntry x + uptoBulkEntries r
def uptoBulkEntry {H : Type} : Lit × DataW H → Nat
  | (.string bytes, d) => bytes.length + uptoBulk d + 1
  | (_, d) => uptoBulk d + 1
 end
def uptoSmall : (H : Type) → List (DataW H) → Bool := fun _ ds => decide (uptoBulkAll ds ≤ 1048576)
def OpenSpec.upto (s : _root_.Go.ChangeSpec) : _root_.Go.OpenSpec := { _root_.Go.OpenSpec.ofChange s with cond := some uptoSmall }

/-- 'laws.FnExactLookUp', WHERE WHAT IT READS IS OF BULK AT MOST 1048576: true; the input reads as it did. -/
def fnExactLookUpUptoRow : OpenClaim := { program := "ytgajfpebfnlipaa", sum := "525a9793f125b501bab474bd66562e9fdbcf001421d0921b8c8517d9b6d98f51", func := "loop.example/faultcleanup/laws.FnExactLookUp", spec := "fnExactLookUp", unfollowed := true, recurses := true, apart := false, narrowed := true }
def FnExactLookUpUptoSaid : Prop := fnExactLookUpUptoRow.holds Try.pinned (OpenSpec.upto fnExactLookUpSpec)

/-- 'laws.FnFlattenGroup', WHERE WHAT IT READS IS OF BULK AT MOST 1048576: true; the input reads as it did. -/
def fnFlattenGroupUptoRow : OpenClaim := { program := "ytgajfpebfnlipaa", sum := "525a9793f125b501bab474bd66562e9fdbcf001421d0921b8c8517d9b6d98f51", func := "loop.example/faultcleanup/laws.FnFlattenGroup", spec := "fnFlattenGroup", unfollowed := true, recurses := true, apart := false, narrowed := true }
def FnFlattenGroupUptoSaid : Prop := fnFlattenGroupUptoRow.holds Try.pinned (OpenSpec.upto fnFlattenGroupSpec)

/-- 'laws.FnValidHeap', WHERE WHAT IT READS IS OF BULK AT MOST 1048576: true; the input reads as it did. -/
def fnValidHeapUptoRow : OpenClaim := { program := "ytgajfpebfnlipaa", sum := "525a9793f125b501bab474bd66562e9fdbcf001421d0921b8c8517d9b6d98f51", func := "loop.example/faultcleanup/laws.FnValidHeap", spec := "fnValidHeap", unfollowed := true, recurses := true, apart := false, narrowed := true }
def FnValidHeapUptoSaid : Prop := fnValidHeapUptoRow.holds Try.pinned (OpenSpec.upto fnValidHeapSpec)

/-- 'laws.FnCaughtBy', WHERE WHAT IT READS IS OF BULK AT MOST 1048576: true; the input reads as it did. -/
def fnCaughtByUptoRow : OpenClaim := { program := "ytgajfpebfnlipaa", sum := "525a9793f125b501bab474bd66562e9fdbcf001421d0921b8c8517d9b6d98f51", func := "loop.example/faultcleanup/laws.FnCaughtBy", spec := "fnCaughtBy", unfollowed := true, recurses := true, apart := false, narrowed := true }
def FnCaughtByUptoSaid : Prop := fnCaughtByUptoRow.holds Try.pinned (OpenSpec.upto fnCaughtBySpec)

/-- 'laws.FnKidsOf', WHERE WHAT IT READS IS OF BULK AT MOST 1048576: true; the input reads as it did. -/
def fnKidsOfUptoRow : OpenClaim := { program := "ytgajfpebfnlipaa", sum := "525a9793f125b501bab474bd66562e9fdbcf001421d0921b8c8517d9b6d98f51", func := "loop.example/faultcleanup/laws.FnKidsOf", spec := "fnKidsOf", unfollowed := true, recurses := true, apart := false, narrowed := true }
def FnKidsOfUptoSaid : Prop := fnKidsOfUptoRow.holds Try.pinned (OpenSpec.upto fnKidsOfSpec)

/-- 'laws.FnExactLeastCatches', WHERE WHAT IT READS IS OF BULK AT MOST 1048576: true; the input reads as it did. -/
def fnExactLeastCatchesUptoRow : OpenClaim := { program := "ytgajfpebfnlipaa", sum := "525a9793f125b501bab474bd66562e9fdbcf001421d0921b8c8517d9b6d98f51", func := "loop.example/faultcleanup/laws.FnExactLeastCatches", spec := "fnExactLeastCatches", unfollowed := true, recurses := true, apart := false, narrowed := true }
def FnExactLeastCatchesUptoSaid : Prop := fnExactLeastCatchesUptoRow.holds Try.pinned (OpenSpec.upto fnExactLeastCatchesSpec)

/-- 'laws.FnValidProgram', WHERE WHAT IT READS IS OF BULK AT MOST 1048576: true; the input reads as it did. -/
def fnValidProgramUptoRow : OpenClaim := { program := "ytgajfpebfnlipaa", sum := "525a9793f125b501bab474bd66562e9fdbcf001421d0921b8c8517d9b6d98f51", func := "loop.example/faultcleanup/laws.FnValidProgram", spec := "fnValidProgram", unfollowed := true, recurses := true, apart := false, narrowed := true }
def FnValidProgramUptoSaid : Prop := fnValidProgramUptoRow.holds Try.pinned (OpenSpec.upto fnValidProgramSpec)

/-- 'laws.FnTopTree', WHERE WHAT IT READS IS OF BULK AT MOST 1048576: true; the input reads as it did. -/
def fnTopTreeUptoRow : OpenClaim := { program := "ytgajfpebfnlipaa", sum := "525a9793f125b501bab474bd66562e9fdbcf001421d0921b8c8517d9b6d98f51", func := "loop.example/faultcleanup/laws.FnTopTree", spec := "fnTopTree", inPlace := ["internal/bytealg.IndexByteString", "internal/bytealg.IndexString", "internal/abi.NoEscape"], unfollowed := true, recurses := true, named := ["internal/bytealg.MaxLen"], apart := false, narrowed := true }
def FnTopTreeUptoSaid : Prop := fnTopTreeUptoRow.holds Try.pinned (OpenSpec.upto fnTopTreeSpec)

/-- 'laws.FnExactCaughtBy', WHERE WHAT IT READS IS OF BULK AT MOST 1048576: true; the input reads as it did. -/
def fnExactCaughtByUptoRow : OpenClaim := { program := "ytgajfpebfnlipaa", sum := "525a9793f125b501bab474bd66562e9fdbcf001421d0921b8c8517d9b6d98f51", func := "loop.example/faultcleanup/laws.FnExactCaughtBy", spec := "fnExactCaughtBy", unfollowed := true, recurses := true, apart := false, narrowed := true }
def FnExactCaughtByUptoSaid : Prop := fnExactCaughtByUptoRow.holds Try.pinned (OpenSpec.upto fnExactCaughtBySpec)

/-- 'laws.FnExactDeadCatches', WHERE WHAT IT READS IS OF BULK AT MOST 1048576: true; the input reads as it did. -/
def fnExactDeadCatchesUptoRow : OpenClaim := { program := "ytgajfpebfnlipaa", sum := "525a9793f125b501bab474bd66562e9fdbcf001421d0921b8c8517d9b6d98f51", func := "loop.example/faultcleanup/laws.FnExactDeadCatches", spec := "fnExactDeadCatches", unfollowed := true, recurses := true, apart := false, narrowed := true }
def FnExactDeadCatchesUptoSaid : Prop := fnExactDeadCatchesUptoRow.holds Try.pinned (OpenSpec.upto fnExactDeadCatchesSpec)

/-- 'laws.FnExactValidHeap', WHERE WHAT IT READS IS OF BULK AT MOST 1048576: true; the input reads as it did. -/
def fnExactValidHeapUptoRow : OpenClaim := { program := "ytgajfpebfnlipaa", sum := "525a9793f125b501bab474bd66562e9fdbcf001421d0921b8c8517d9b6d98f51", func := "loop.example/faultcleanup/laws.FnExactValidHeap", spec := "fnExactValidHeap", unfollowed := true, recurses := true, apart := false, narrowed := true }
def FnExactValidHeapUptoSaid : Prop := fnExactValidHeapUptoRow.holds Try.pinned (OpenSpec.upto fnExactValidHeapSpec)

/-- 'laws.FnHasClass', WHERE WHAT IT READS IS OF BULK AT MOST 1048576: true; the input reads as it did. -/
def fnHasClassUptoRow : OpenClaim := { program := "ytgajfpebfnlipaa", sum := "525a9793f125b501bab474bd66562e9fdbcf001421d0921b8c8517d9b6d98f51", func := "loop.example/faultcleanup/laws.FnHasClass", spec := "fnHasClass", unfollowed := true, recurses := true, apart := false, narrowed := true }
def FnHasClassUptoSaid : Prop := fnHasClassUptoRow.holds Try.pinned (OpenSpec.upto fnHasClassSpec)

end Rows
end Go.Proofs.Ytgajfpebfnlipaa
