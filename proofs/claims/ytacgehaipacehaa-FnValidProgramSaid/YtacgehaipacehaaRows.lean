/-
  No cell of these rows narrows 'for every input' (looked for: loops, veiled, ifaces, maps, wideKeys, modest, calm, conditions, laid).
  DERIVED. THE GIVEN ROWS OF THIS SEAT. 9 by the template 'for every input the law returns true; each argument reads behind the call as it read before'; 0 by the template 'total and deterministic' (their statements: YtacgehaipacehaaTotals.lean).
  GIVEN WITH THE SEED: the statements are not yours to turn. If you find one false, say at which input.
  Laid BY PROGRAM, IN A SANDBOX (cutbox-rows.mjs): the forced cells as the released guide's own fill.sh prints them over the translation 3e2789ee45f2a295… (all of the seat's roots in one cut). By AI agents, Wed Nov 11 2026. No macro, syntax, notation, axiom, sorry.
-/
import Derived.Test.YtacgehaipacehaaChecked
import GoSem.Claim
import GoSem.ClaimJoined
import GoSem.ClaimMapViews
import Derived.JoinedTies
import Derived.KernelRfl
namespace Go.Proofs.Ytacgehaipacehaa
/- THE CELL 'sum', in the pinned program and in every row, IS THE sha256 OF THE DUMP (.gsa) THAT YtacgehaipacehaaProg.lean LOADS. Nothing in Lean hashes anything: it is a label: what it is worth is what the hold of that sum in a sandbox is worth. -/
noncomputable def Try.pinned : Pinned := { name := "ytacgehaipacehaa", sum := "3e2789ee45f2a2952761080c314d0fe11ddf7b1d22a718de291b7220a09cca2c", checked := Try.checked }
namespace Rows
def none {H : Type} : Left H := { results := [], args := [] }

/-- 'laws.FnCaughtBy': WHATEVER THE INPUT: true; the input reads as it did. -/
def fnCaughtBySpec : ChangeSpec := { name := "fnCaughtBy", fn := fun _ => fun
  | [d] => { results := [.lit (.bool true)], args := [d] }
  | _ => none }
def fnCaughtByRow : OpenClaim := { program := "ytacgehaipacehaa", sum := "3e2789ee45f2a2952761080c314d0fe11ddf7b1d22a718de291b7220a09cca2c", func := "loop.example/faultcleanup/laws.FnCaughtBy", spec := "fnCaughtBy", unfollowed := true, recurses := true, apart := false }
def FnCaughtBySaid : Prop := fnCaughtByRow.holds Try.pinned (OpenSpec.ofChange fnCaughtBySpec)

/-- ITS FALSE NEIGHBOUR: 'it returns false'. Refute it at one input. -/
def fnCaughtByWrong : ChangeSpec := { name := "fnCaughtBy", fn := fun _ => fun
  | [d] => { results := [.lit (.bool false)], args := [d] }
  | _ => none }
def FnCaughtByWrongFalsely : Prop := fnCaughtByRow.holds Try.pinned (OpenSpec.ofChange fnCaughtByWrong)

/-- 'laws.FnExactLookUp': WHATEVER THE INPUT: true; the input reads as it did. -/
def fnExactLookUpSpec : ChangeSpec := { name := "fnExactLookUp", fn := fun _ => fun
  | [d1, d2, d3, d4] => { results := [.lit (.bool true)], args := [d1, d2, d3, d4] }
  | _ => none }
def fnExactLookUpRow : OpenClaim := { program := "ytacgehaipacehaa", sum := "3e2789ee45f2a2952761080c314d0fe11ddf7b1d22a718de291b7220a09cca2c", func := "loop.example/faultcleanup/laws.FnExactLookUp", spec := "fnExactLookUp", unfollowed := true, recurses := true, apart := false }
def FnExactLookUpSaid : Prop := fnExactLookUpRow.holds Try.pinned (OpenSpec.ofChange fnExactLookUpSpec)

/-- ITS FALSE NEIGHBOUR: 'it returns false'. Refute it at one input. -/
def fnExactLookUpWrong : ChangeSpec := { name := "fnExactLookUp", fn := fun _ => fun
  | [d1, d2, d3, d4] => { results := [.lit (.bool false)], args := [d1, d2, d3, d4] }
  | _ => none }
def FnExactLookUpWrongFalsely : Prop := fnExactLookUpRow.holds Try.pinned (OpenSpec.ofChange fnExactLookUpWrong)

/-- 'laws.FnExactUnfoldTrace': WHATEVER THE INPUT: true; the input reads as it did. -/
def fnExactUnfoldTraceSpec : ChangeSpec := { name := "fnExactUnfoldTrace", fn := fun _ => fun
  | [d] => { results := [.lit (.bool true)], args := [d] }
  | _ => none }
def fnExactUnfoldTraceRow : OpenClaim := { program := "ytacgehaipacehaa", sum := "3e2789ee45f2a2952761080c314d0fe11ddf7b1d22a718de291b7220a09cca2c", func := "loop.example/faultcleanup/laws.FnExactUnfoldTrace", spec := "fnExactUnfoldTrace", unfollowed := true, recurses := true, apart := false }
def FnExactUnfoldTraceSaid : Prop := fnExactUnfoldTraceRow.holds Try.pinned (OpenSpec.ofChange fnExactUnfoldTraceSpec)

/-- ITS FALSE NEIGHBOUR: 'it returns false'. Refute it at one input. -/
def fnExactUnfoldTraceWrong : ChangeSpec := { name := "fnExactUnfoldTrace", fn := fun _ => fun
  | [d] => { results := [.lit (.bool false)], args := [d] }
  | _ => none }
def FnExactUnfoldTraceWrongFalsely : Prop := fnExactUnfoldTraceRow.holds Try.pinned (OpenSpec.ofChange fnExactUnfoldTraceWrong)

/-- 'laws.FnExactParseTree': WHATEVER THE INPUT: true; the input reads as it did. -/
def fnExactParseTreeSpec : ChangeSpec := { name := "fnExactParseTree", fn := fun _ => fun
  | [d] => { results := [.lit (.bool true)], args := [d] }
  | _ => none }
def fnExactParseTreeRow : OpenClaim := { program := "ytacgehaipacehaa", sum := "3e2789ee45f2a2952761080c314d0fe11ddf7b1d22a718de291b7220a09cca2c", func := "loop.example/faultcleanup/laws.FnExactParseTree", spec := "fnExactParseTree", inPlace := ["internal/bytealg.IndexByteString", "internal/bytealg.IndexString", "internal/abi.NoEscape"], unfollowed := true, recurses := true, named := ["internal/bytealg.MaxLen"], apart := false }
def FnExactParseTreeSaid : Prop := fnExactParseTreeRow.holds Try.pinned (OpenSpec.ofChange fnExactParseTreeSpec)

/-- ITS FALSE NEIGHBOUR: 'it returns false'. Refute it at one input. -/
def fnExactParseTreeWrong : ChangeSpec := { name := "fnExactParseTree", fn := fun _ => fun
  | [d] => { results := [.lit (.bool false)], args := [d] }
  | _ => none }
def FnExactParseTreeWrongFalsely : Prop := fnExactParseTreeRow.holds Try.pinned (OpenSpec.ofChange fnExactParseTreeWrong)

/-- 'laws.FnExactValidProgram': WHATEVER THE INPUT: true; the input reads as it did. -/
def fnExactValidProgramSpec : ChangeSpec := { name := "fnExactValidProgram", fn := fun _ => fun
  | [d1, d2] => { results := [.lit (.bool true)], args := [d1, d2] }
  | _ => none }
def fnExactValidProgramRow : OpenClaim := { program := "ytacgehaipacehaa", sum := "3e2789ee45f2a2952761080c314d0fe11ddf7b1d22a718de291b7220a09cca2c", func := "loop.example/faultcleanup/laws.FnExactValidProgram", spec := "fnExactValidProgram", unfollowed := true, recurses := true, apart := false }
def FnExactValidProgramSaid : Prop := fnExactValidProgramRow.holds Try.pinned (OpenSpec.ofChange fnExactValidProgramSpec)

/-- ITS FALSE NEIGHBOUR: 'it returns false'. Refute it at one input. -/
def fnExactValidProgramWrong : ChangeSpec := { name := "fnExactValidProgram", fn := fun _ => fun
  | [d1, d2] => { results := [.lit (.bool false)], args := [d1, d2] }
  | _ => none }
def FnExactValidProgramWrongFalsely : Prop := fnExactValidProgramRow.holds Try.pinned (OpenSpec.ofChange fnExactValidProgramWrong)

/-- 'laws.FnValidProgram': WHATEVER THE INPUT: true; the input reads as it did. -/
def fnValidProgramSpec : ChangeSpec := { name := "fnValidProgram", fn := fun _ => fun
  | [d] => { results := [.lit (.bool true)], args := [d] }
  | _ => none }
def fnValidProgramRow : OpenClaim := { program := "ytacgehaipacehaa", sum := "3e2789ee45f2a2952761080c314d0fe11ddf7b1d22a718de291b7220a09cca2c", func := "loop.example/faultcleanup/laws.FnValidProgram", spec := "fnValidProgram", unfollowed := true, recurses := true, apart := false }
def FnValidProgramSaid : Prop := fnValidProgramRow.holds Try.pinned (OpenSpec.ofChange fnValidProgramSpec)

/-- ITS FALSE NEIGHBOUR: 'it returns false'. Refute it at one input. -/
def fnValidProgramWrong : ChangeSpec := { name := "fnValidProgram", fn := fun _ => fun
  | [d] => { results := [.lit (.bool false)], args := [d] }
  | _ => none }
def FnValidProgramWrongFalsely : Prop := fnValidProgramRow.holds Try.pinned (OpenSpec.ofChange fnValidProgramWrong)

/-- 'laws.FnTreeText': WHATEVER THE INPUT: true; the input reads as it did. -/
def fnTreeTextSpec : ChangeSpec := { name := "fnTreeText", fn := fun _ => fun
  | [d] => { results := [.lit (.bool true)], args := [d] }
  | _ => none }
def fnTreeTextRow : OpenClaim := { program := "ytacgehaipacehaa", sum := "3e2789ee45f2a2952761080c314d0fe11ddf7b1d22a718de291b7220a09cca2c", func := "loop.example/faultcleanup/laws.FnTreeText", spec := "fnTreeText", inPlace := ["internal/abi.NoEscape", "internal/bytealg.IndexByteString", "internal/bytealg.IndexString"], unfollowed := true, recurses := true, named := ["internal/bytealg.MaxLen"], apart := false }
def FnTreeTextSaid : Prop := fnTreeTextRow.holds Try.pinned (OpenSpec.ofChange fnTreeTextSpec)

/-- ITS FALSE NEIGHBOUR: 'it returns false'. Refute it at one input. -/
def fnTreeTextWrong : ChangeSpec := { name := "fnTreeText", fn := fun _ => fun
  | [d] => { results := [.lit (.bool false)], args := [d] }
  | _ => none }
def FnTreeTextWrongFalsely : Prop := fnTreeTextRow.holds Try.pinned (OpenSpec.ofChange fnTreeTextWrong)

/-- 'laws.FnParseTree': WHATEVER THE INPUT: true; the input reads as it did. -/
def fnParseTreeSpec : ChangeSpec := { name := "fnParseTree", fn := fun _ => fun
  | [d] => { results := [.lit (.bool true)], args := [d] }
  | _ => none }
def fnParseTreeRow : OpenClaim := { program := "ytacgehaipacehaa", sum := "3e2789ee45f2a2952761080c314d0fe11ddf7b1d22a718de291b7220a09cca2c", func := "loop.example/faultcleanup/laws.FnParseTree", spec := "fnParseTree", inPlace := ["internal/bytealg.IndexByteString", "internal/bytealg.IndexString", "internal/abi.NoEscape"], unfollowed := true, recurses := true, named := ["internal/bytealg.MaxLen"], apart := false }
def FnParseTreeSaid : Prop := fnParseTreeRow.holds Try.pinned (OpenSpec.ofChange fnParseTreeSpec)

/-- ITS FALSE NEIGHBOUR: 'it returns false'. Refute it at one input. -/
def fnParseTreeWrong : ChangeSpec := { name := "fnParseTree", fn := fun _ => fun
  | [d] => { results := [.lit (.bool false)], args := [d] }
  | _ => none }
def FnParseTreeWrongFalsely : Prop := fnParseTreeRow.holds Try.pinned (OpenSpec.ofChange fnParseTreeWrong)

/-- 'laws.FnTopTree': WHATEVER THE INPUT: true; the input reads as it did. -/
def fnTopTreeSpec : ChangeSpec := { name := "fnTopTree", fn := fun _ => fun
  | [d] => { results := [.lit (.bool true)], args := [d] }
  | _ => none }
def fnTopTreeRow : OpenClaim := { program := "ytacgehaipacehaa", sum := "3e2789ee45f2a2952761080c314d0fe11ddf7b1d22a718de291b7220a09cca2c", func := "loop.example/faultcleanup/laws.FnTopTree", spec := "fnTopTree", inPlace := ["internal/bytealg.IndexByteString", "internal/bytealg.IndexString", "internal/abi.NoEscape"], unfollowed := true, recurses := true, named := ["internal/bytealg.MaxLen"], apart := false }
def FnTopTreeSaid : Prop := fnTopTreeRow.holds Try.pinned (OpenSpec.ofChange fnTopTreeSpec)

/-- ITS FALSE NEIGHBOUR: 'it returns false'. Refute it at one input. -/
def fnTopTreeWrong : ChangeSpec := { name := "fnTopTree", fn := fun _ => fun
  | [d] => { results := [.lit (.bool false)], args := [d] }
  | _ => none }
def FnTopTreeWrongFalsely : Prop := fnTopTreeRow.holds Try.pinned (OpenSpec.ofChange fnTopTreeWrong)

/- THE SECOND FORM. 'bulk': how many values and letters a reading holds, each counted each time it is reached (what is shared counts as often as it is met; a slice's spare places count too). A statement '..UptoSaid' is the law's where the arguments, and the package variables that the reading takes, are together of bulk at most 1048576: NARROWER than '..Said'. Prove '..Said' where nothing that the law and all that it calls make is longer than what came in: it says more and counts as full. Else prove '..UptoSaid'. A law counts once. -/
mutual
def uptoBulk {H : Type} : DataW H → Nat
  | .lit (.string bytes) => bytes.length + 1
  | .lit _ => 1
  | .nil => 1
  | .ptr d => uptoBulk d + 1
  | .slice elems spare => uptoBulkAll elems + uptoBulkAll spare + 1
  | .agg parts => uptoBulkAll parts + 1
  | .iface _ d => uptoBulk d + 1
  | .map entries => uptoBulkEntries entries + 1
  | .held _ => 1
def uptoBulkAll {H : Type} : List (DataW H) → Nat
  | [] => 0
  | d :: r => uptoBulk d + uptoBulkAll r
def uptoBulkEntries {H : Type} : List (Lit × DataW H) → Nat
  | [] => 0
  | x :: r => uptoBulkEntry x + uptoBulkEntries r
def uptoBulkEntry {H : Type} : Lit × DataW H → Nat
  | (.string bytes, d) => bytes.length + uptoBulk d + 1
  | (_, d) => uptoBulk d + 1
 end
def uptoSmall : (H : Type) → List (DataW H) → Bool := fun _ ds => decide (uptoBulkAll ds ≤ 1048576)
def OpenSpec.upto (s : _root_.Go.ChangeSpec) : _root_.Go.OpenSpec := { _root_.Go.OpenSpec.ofChange s with cond := some uptoSmall }

/-- 'laws.FnCaughtBy', WHERE WHAT IT READS IS OF BULK AT MOST 1048576: true; the input reads as it did. -/
def fnCaughtByUptoRow : OpenClaim := { program := "ytacgehaipacehaa", sum := "3e2789ee45f2a2952761080c314d0fe11ddf7b1d22a718de291b7220a09cca2c", func := "loop.example/faultcleanup/laws.FnCaughtBy", spec := "fnCaughtBy", unfollowed := true, recurses := true, apart := false, narrowed := true }
def FnCaughtByUptoSaid : Prop := fnCaughtByUptoRow.holds Try.pinned (OpenSpec.upto fnCaughtBySpec)

/-- 'laws.FnExactLookUp', WHERE WHAT IT READS IS OF BULK AT MOST 1048576: true; the input reads as it did. -/
def fnExactLookUpUptoRow : OpenClaim := { program := "ytacgehaipacehaa", sum := "3e2789ee45f2a2952761080c314d0fe11ddf7b1d22a718de291b7220a09cca2c", func := "loop.example/faultcleanup/laws.FnExactLookUp", spec := "fnExactLookUp", unfollowed := true, recurses := true, apart := false, narrowed := true }
def FnExactLookUpUptoSaid : Prop := fnExactLookUpUptoRow.holds Try.pinned (OpenSpec.upto fnExactLookUpSpec)

/-- 'laws.FnExactUnfoldTrace', WHERE WHAT IT READS IS OF BULK AT MOST 1048576: true; the input reads as it did. -/
def fnExactUnfoldTraceUptoRow : OpenClaim := { program := "ytacgehaipacehaa", sum := "3e2789ee45f2a2952761080c314d0fe11ddf7b1d22a718de291b7220a09cca2c", func := "loop.example/faultcleanup/laws.FnExactUnfoldTrace", spec := "fnExactUnfoldTrace", unfollowed := true, recurses := true, apart := false, narrowed := true }
def FnExactUnfoldTraceUptoSaid : Prop := fnExactUnfoldTraceUptoRow.holds Try.pinned (OpenSpec.upto fnExactUnfoldTraceSpec)

/-- 'laws.FnExactParseTree', WHERE WHAT IT READS IS OF BULK AT MOST 1048576: true; the input reads as it did. -/
def fnExactParseTreeUptoRow : OpenClaim := { program := "ytacgehaipacehaa", sum := "3e2789ee45f2a2952761080c314d0fe11ddf7b1d22a718de291b7220a09cca2c", func := "loop.example/faultcleanup/laws.FnExactParseTree", spec := "fnExactParseTree", inPlace := ["internal/bytealg.IndexByteString", "internal/bytealg.IndexString", "internal/abi.NoEscape"], unfollowed := true, recurses := true, named := ["internal/bytealg.MaxLen"], apart := false, narrowed := true }
def FnExactParseTreeUptoSaid : Prop := fnExactParseTreeUptoRow.holds Try.pinned (OpenSpec.upto fnExactParseTreeSpec)

/-- 'laws.FnExactValidProgram', WHERE WHAT IT READS IS OF BULK AT MOST 1048576: true; the input reads as it did. -/
def fnExactValidProgramUptoRow : OpenClaim := { program := "ytacgehaipacehaa", sum := "3e2789ee45f2a2952761080c314d0fe11ddf7b1d22a718de291b7220a09cca2c", func := "loop.example/faultcleanup/laws.FnExactValidProgram", spec := "fnExactValidProgram", unfollowed := true, recurses := true, apart := false, narrowed := true }
def FnExactValidProgramUptoSaid : Prop := fnExactValidProgramUptoRow.holds Try.pinned (OpenSpec.upto fnExactValidProgramSpec)

/-- 'laws.FnValidProgram', WHERE WHAT IT READS IS OF BULK AT MOST 1048576: true; the input reads as it did. -/
def fnValidProgramUptoRow : OpenClaim := { program := "ytacgehaipacehaa", sum := "3e2789ee45f2a2952761080c314d0fe11ddf7b1d22a718de291b7220a09cca2c", func := "loop.example/faultcleanup/laws.FnValidProgram", spec := "fnValidProgram", unfollowed := true, recurses := true, apart := false, narrowed := true }
def FnValidProgramUptoSaid : Prop := fnValidProgramUptoRow.holds Try.pinned (OpenSpec.upto fnValidProgramSpec)

/-- 'laws.FnTreeText', WHERE WHAT IT READS IS OF BULK AT MOST 1048576: true; the input reads as it did. -/
def fnTreeTextUptoRow : OpenClaim := { program := "ytacgehaipacehaa", sum := "3e2789ee45f2a2952761080c314d0fe11ddf7b1d22a718de291b7220a09cca2c", func := "loop.example/faultcleanup/laws.FnTreeText", spec := "fnTreeText", inPlace := ["internal/abi.NoEscape", "internal/bytealg.IndexByteString", "internal/bytealg.IndexString"], unfollowed := true, recurses := true, named := ["internal/bytealg.MaxLen"], apart := false, narrowed := true }
def FnTreeTextUptoSaid : Prop := fnTreeTextUptoRow.holds Try.pinned (OpenSpec.upto fnTreeTextSpec)

/-- 'laws.FnParseTree', WHERE WHAT IT READS IS OF BULK AT MOST 1048576: true; the input reads as it did. -/
def fnParseTreeUptoRow : OpenClaim := { program := "ytacgehaipacehaa", sum := "3e2789ee45f2a2952761080c314d0fe11ddf7b1d22a718de291b7220a09cca2c", func := "loop.example/faultcleanup/laws.FnParseTree", spec := "fnParseTree", inPlace := ["internal/bytealg.IndexByteString", "internal/bytealg.IndexString", "internal/abi.NoEscape"], unfollowed := true, recurses := true, named := ["internal/bytealg.MaxLen"], apart := false, narrowed := true }
def FnParseTreeUptoSaid : Prop := fnParseTreeUptoRow.holds Try.pinned (OpenSpec.upto fnParseTreeSpec)

/-- 'laws.FnTopTree', WHERE WHAT IT READS IS OF BULK AT MOST 1048576: true; the input reads as it did. -/
def fnTopTreeUptoRow : OpenClaim := { program := "ytacgehaipacehaa", sum := "3e2789ee45f2a2952761080c314d0fe11ddf7b1d22a718de291b7220a09cca2c", func := "loop.example/faultcleanup/laws.FnTopTree", spec := "fnTopTree", inPlace := ["internal/bytealg.IndexByteString", "internal/bytealg.IndexString", "internal/abi.NoEscape"], unfollowed := true, recurses := true, named := ["internal/bytealg.MaxLen"], apart := false, narrowed := true }
def FnTopTreeUptoSaid : Prop := fnTopTreeUptoRow.holds Try.pinned (OpenSpec.upto fnTopTreeSpec)

end Rows
end Go.Proofs.Ytacgehaipacehaa
