/-
  No cell of these rows narrows 'for every input' (looked for: loops, veiled, ifaces, maps, wideKeys, modest, calm, conditions, laid).
  DERIVED. THE GIVEN ROWS OF THIS SEAT. 15 by the template 'for every input the law returns true; each argument reads behind the call as it read before'; 0 by the template 'total and deterministic' (their statements: YthgnlljpjpklpaaTotals.lean).
  GIVEN WITH THE SEED: the statements are not yours to turn. If you find one false, say at which input.
  Laid BY PROGRAM, IN A SANDBOX (cutbox-rows.mjs): the forced cells as the released guide's own fill.sh prints them over the translation 8a8a66c53a6a2e40… (all of the seat's roots in one cut). By AI agents, Wed Nov 11 2026. No macro, syntax, notation, axiom, sorry.
-/
import Derived.Test.YthgnlljpjpklpaaChecked
import GoSem.Claim
import GoSem.ClaimJoined
import GoSem.ClaimMapViews
import Derived.JoinedTies
import Derived.KernelRfl
namespace Go.Proofs.Ythgnlljpjpklpaa
/- THE CELL 'sum', in the pinned program and in every row, IS THE sha256 OF THE DUMP (.gsa) THAT YthgnlljpjpklpaaProg.lean LOADS. Nothing in Lean hashes anything: it is a label: what it is worth is what the hold of that sum in a sandbox is worth. -/
noncomputable def Try.pinned : Pinned := { name := "ythgnlljpjpklpaa", sum := "8a8a66c53a6a2e405d266e28fed50aae216ed34f290a3211bb66fe5a0bea3106", checked := Try.checked }
namespace Rows
def none {H : Type} : Left H := { results := [], args := [] }

/-- 'laws.FnExactFileDrop': WHATEVER THE INPUT: true; the input reads as it did. -/
def fnExactFileDropSpec : ChangeSpec := { name := "fnExactFileDrop", fn := fun _ => fun
  | [d1, d2] => { results := [.lit (.bool true)], args := [d1, d2] }
  | _ => none }
def fnExactFileDropRow : OpenClaim := { program := "ythgnlljpjpklpaa", sum := "8a8a66c53a6a2e405d266e28fed50aae216ed34f290a3211bb66fe5a0bea3106", func := "loop.example/chainfiles/laws.FnExactFileDrop", spec := "fnExactFileDrop", recurses := true, apart := false }
def FnExactFileDropSaid : Prop := fnExactFileDropRow.holds Try.pinned (OpenSpec.ofChange fnExactFileDropSpec)

/-- ITS FALSE NEIGHBOUR: 'it returns false'. Refute it at one input. -/
def fnExactFileDropWrong : ChangeSpec := { name := "fnExactFileDrop", fn := fun _ => fun
  | [d1, d2] => { results := [.lit (.bool false)], args := [d1, d2] }
  | _ => none }
def FnExactFileDropWrongFalsely : Prop := fnExactFileDropRow.holds Try.pinned (OpenSpec.ofChange fnExactFileDropWrong)

/-- 'laws.FnExactFileMake': WHATEVER THE INPUT: true; the input reads as it did. -/
def fnExactFileMakeSpec : ChangeSpec := { name := "fnExactFileMake", fn := fun _ => fun
  | [d1, d2] => { results := [.lit (.bool true)], args := [d1, d2] }
  | _ => none }
def fnExactFileMakeRow : OpenClaim := { program := "ythgnlljpjpklpaa", sum := "8a8a66c53a6a2e405d266e28fed50aae216ed34f290a3211bb66fe5a0bea3106", func := "loop.example/chainfiles/laws.FnExactFileMake", spec := "fnExactFileMake", recurses := true, apart := false }
def FnExactFileMakeSaid : Prop := fnExactFileMakeRow.holds Try.pinned (OpenSpec.ofChange fnExactFileMakeSpec)

/-- ITS FALSE NEIGHBOUR: 'it returns false'. Refute it at one input. -/
def fnExactFileMakeWrong : ChangeSpec := { name := "fnExactFileMake", fn := fun _ => fun
  | [d1, d2] => { results := [.lit (.bool false)], args := [d1, d2] }
  | _ => none }
def FnExactFileMakeWrongFalsely : Prop := fnExactFileMakeRow.holds Try.pinned (OpenSpec.ofChange fnExactFileMakeWrong)

/-- 'laws.FnFilesPart': WHATEVER THE INPUT: true; the input reads as it did. -/
def fnFilesPartSpec : ChangeSpec := { name := "fnFilesPart", fn := fun _ => fun
  | [d1, d2] => { results := [.lit (.bool true)], args := [d1, d2] }
  | _ => none }
def fnFilesPartRow : OpenClaim := { program := "ythgnlljpjpklpaa", sum := "8a8a66c53a6a2e405d266e28fed50aae216ed34f290a3211bb66fe5a0bea3106", func := "loop.example/chainfiles/laws.FnFilesPart", spec := "fnFilesPart", recurses := true, apart := false }
def FnFilesPartSaid : Prop := fnFilesPartRow.holds Try.pinned (OpenSpec.ofChange fnFilesPartSpec)

/-- ITS FALSE NEIGHBOUR: 'it returns false'. Refute it at one input. -/
def fnFilesPartWrong : ChangeSpec := { name := "fnFilesPart", fn := fun _ => fun
  | [d1, d2] => { results := [.lit (.bool false)], args := [d1, d2] }
  | _ => none }
def FnFilesPartWrongFalsely : Prop := fnFilesPartRow.holds Try.pinned (OpenSpec.ofChange fnFilesPartWrong)

/-- 'laws.FnExactFileGrow': WHATEVER THE INPUT: true; the input reads as it did. -/
def fnExactFileGrowSpec : ChangeSpec := { name := "fnExactFileGrow", fn := fun _ => fun
  | [d1, d2] => { results := [.lit (.bool true)], args := [d1, d2] }
  | _ => none }
def fnExactFileGrowRow : OpenClaim := { program := "ythgnlljpjpklpaa", sum := "8a8a66c53a6a2e405d266e28fed50aae216ed34f290a3211bb66fe5a0bea3106", func := "loop.example/chainfiles/laws.FnExactFileGrow", spec := "fnExactFileGrow", recurses := true, apart := false }
def FnExactFileGrowSaid : Prop := fnExactFileGrowRow.holds Try.pinned (OpenSpec.ofChange fnExactFileGrowSpec)

/-- ITS FALSE NEIGHBOUR: 'it returns false'. Refute it at one input. -/
def fnExactFileGrowWrong : ChangeSpec := { name := "fnExactFileGrow", fn := fun _ => fun
  | [d1, d2] => { results := [.lit (.bool false)], args := [d1, d2] }
  | _ => none }
def FnExactFileGrowWrongFalsely : Prop := fnExactFileGrowRow.holds Try.pinned (OpenSpec.ofChange fnExactFileGrowWrong)

/-- 'laws.FnExactFilesValid': WHATEVER THE INPUT: true; the input reads as it did. -/
def fnExactFilesValidSpec : ChangeSpec := { name := "fnExactFilesValid", fn := fun _ => fun
  | [d] => { results := [.lit (.bool true)], args := [d] }
  | _ => none }
def fnExactFilesValidRow : OpenClaim := { program := "ythgnlljpjpklpaa", sum := "8a8a66c53a6a2e405d266e28fed50aae216ed34f290a3211bb66fe5a0bea3106", func := "loop.example/chainfiles/laws.FnExactFilesValid", spec := "fnExactFilesValid", recurses := true, apart := false }
def FnExactFilesValidSaid : Prop := fnExactFilesValidRow.holds Try.pinned (OpenSpec.ofChange fnExactFilesValidSpec)

/-- ITS FALSE NEIGHBOUR: 'it returns false'. Refute it at one input. -/
def fnExactFilesValidWrong : ChangeSpec := { name := "fnExactFilesValid", fn := fun _ => fun
  | [d] => { results := [.lit (.bool false)], args := [d] }
  | _ => none }
def FnExactFilesValidWrongFalsely : Prop := fnExactFilesValidRow.holds Try.pinned (OpenSpec.ofChange fnExactFilesValidWrong)

/-- 'laws.FnFileAt': WHATEVER THE INPUT: true; the input reads as it did. -/
def fnFileAtSpec : ChangeSpec := { name := "fnFileAt", fn := fun _ => fun
  | [d] => { results := [.lit (.bool true)], args := [d] }
  | _ => none }
def fnFileAtRow : OpenClaim := { program := "ythgnlljpjpklpaa", sum := "8a8a66c53a6a2e405d266e28fed50aae216ed34f290a3211bb66fe5a0bea3106", func := "loop.example/chainfiles/laws.FnFileAt", spec := "fnFileAt", recurses := true, apart := false }
def FnFileAtSaid : Prop := fnFileAtRow.holds Try.pinned (OpenSpec.ofChange fnFileAtSpec)

/-- ITS FALSE NEIGHBOUR: 'it returns false'. Refute it at one input. -/
def fnFileAtWrong : ChangeSpec := { name := "fnFileAt", fn := fun _ => fun
  | [d] => { results := [.lit (.bool false)], args := [d] }
  | _ => none }
def FnFileAtWrongFalsely : Prop := fnFileAtRow.holds Try.pinned (OpenSpec.ofChange fnFileAtWrong)

/-- 'laws.FnFileAtNext': WHATEVER THE INPUT: true; the input reads as it did. -/
def fnFileAtNextSpec : ChangeSpec := { name := "fnFileAtNext", fn := fun _ => fun
  | [d] => { results := [.lit (.bool true)], args := [d] }
  | _ => none }
def fnFileAtNextRow : OpenClaim := { program := "ythgnlljpjpklpaa", sum := "8a8a66c53a6a2e405d266e28fed50aae216ed34f290a3211bb66fe5a0bea3106", func := "loop.example/chainfiles/laws.FnFileAtNext", spec := "fnFileAtNext", recurses := true, apart := false }
def FnFileAtNextSaid : Prop := fnFileAtNextRow.holds Try.pinned (OpenSpec.ofChange fnFileAtNextSpec)

/-- ITS FALSE NEIGHBOUR: 'it returns false'. Refute it at one input. -/
def fnFileAtNextWrong : ChangeSpec := { name := "fnFileAtNext", fn := fun _ => fun
  | [d] => { results := [.lit (.bool false)], args := [d] }
  | _ => none }
def FnFileAtNextWrongFalsely : Prop := fnFileAtNextRow.holds Try.pinned (OpenSpec.ofChange fnFileAtNextWrong)

/-- 'laws.FnExactFileAt': WHATEVER THE INPUT: true; the input reads as it did. -/
def fnExactFileAtSpec : ChangeSpec := { name := "fnExactFileAt", fn := fun _ => fun
  | [d1, d2, d3] => { results := [.lit (.bool true)], args := [d1, d2, d3] }
  | _ => none }
def fnExactFileAtRow : OpenClaim := { program := "ythgnlljpjpklpaa", sum := "8a8a66c53a6a2e405d266e28fed50aae216ed34f290a3211bb66fe5a0bea3106", func := "loop.example/chainfiles/laws.FnExactFileAt", spec := "fnExactFileAt", recurses := true, apart := false }
def FnExactFileAtSaid : Prop := fnExactFileAtRow.holds Try.pinned (OpenSpec.ofChange fnExactFileAtSpec)

/-- ITS FALSE NEIGHBOUR: 'it returns false'. Refute it at one input. -/
def fnExactFileAtWrong : ChangeSpec := { name := "fnExactFileAt", fn := fun _ => fun
  | [d1, d2, d3] => { results := [.lit (.bool false)], args := [d1, d2, d3] }
  | _ => none }
def FnExactFileAtWrongFalsely : Prop := fnExactFileAtRow.holds Try.pinned (OpenSpec.ofChange fnExactFileAtWrong)

/-- 'laws.FnFileDrop': WHATEVER THE INPUT: true; the input reads as it did. -/
def fnFileDropSpec : ChangeSpec := { name := "fnFileDrop", fn := fun _ => fun
  | [d] => { results := [.lit (.bool true)], args := [d] }
  | _ => none }
def fnFileDropRow : OpenClaim := { program := "ythgnlljpjpklpaa", sum := "8a8a66c53a6a2e405d266e28fed50aae216ed34f290a3211bb66fe5a0bea3106", func := "loop.example/chainfiles/laws.FnFileDrop", spec := "fnFileDrop", recurses := true, apart := false }
def FnFileDropSaid : Prop := fnFileDropRow.holds Try.pinned (OpenSpec.ofChange fnFileDropSpec)

/-- ITS FALSE NEIGHBOUR: 'it returns false'. Refute it at one input. -/
def fnFileDropWrong : ChangeSpec := { name := "fnFileDrop", fn := fun _ => fun
  | [d] => { results := [.lit (.bool false)], args := [d] }
  | _ => none }
def FnFileDropWrongFalsely : Prop := fnFileDropRow.holds Try.pinned (OpenSpec.ofChange fnFileDropWrong)

/-- 'laws.FnFileDropMake': WHATEVER THE INPUT: true; the input reads as it did. -/
def fnFileDropMakeSpec : ChangeSpec := { name := "fnFileDropMake", fn := fun _ => fun
  | [d] => { results := [.lit (.bool true)], args := [d] }
  | _ => none }
def fnFileDropMakeRow : OpenClaim := { program := "ythgnlljpjpklpaa", sum := "8a8a66c53a6a2e405d266e28fed50aae216ed34f290a3211bb66fe5a0bea3106", func := "loop.example/chainfiles/laws.FnFileDropMake", spec := "fnFileDropMake", recurses := true, apart := false }
def FnFileDropMakeSaid : Prop := fnFileDropMakeRow.holds Try.pinned (OpenSpec.ofChange fnFileDropMakeSpec)

/-- ITS FALSE NEIGHBOUR: 'it returns false'. Refute it at one input. -/
def fnFileDropMakeWrong : ChangeSpec := { name := "fnFileDropMake", fn := fun _ => fun
  | [d] => { results := [.lit (.bool false)], args := [d] }
  | _ => none }
def FnFileDropMakeWrongFalsely : Prop := fnFileDropMakeRow.holds Try.pinned (OpenSpec.ofChange fnFileDropMakeWrong)

/-- 'laws.FnFileMake': WHATEVER THE INPUT: true; the input reads as it did. -/
def fnFileMakeSpec : ChangeSpec := { name := "fnFileMake", fn := fun _ => fun
  | [d] => { results := [.lit (.bool true)], args := [d] }
  | _ => none }
def fnFileMakeRow : OpenClaim := { program := "ythgnlljpjpklpaa", sum := "8a8a66c53a6a2e405d266e28fed50aae216ed34f290a3211bb66fe5a0bea3106", func := "loop.example/chainfiles/laws.FnFileMake", spec := "fnFileMake", recurses := true, apart := false }
def FnFileMakeSaid : Prop := fnFileMakeRow.holds Try.pinned (OpenSpec.ofChange fnFileMakeSpec)

/-- ITS FALSE NEIGHBOUR: 'it returns false'. Refute it at one input. -/
def fnFileMakeWrong : ChangeSpec := { name := "fnFileMake", fn := fun _ => fun
  | [d] => { results := [.lit (.bool false)], args := [d] }
  | _ => none }
def FnFileMakeWrongFalsely : Prop := fnFileMakeRow.holds Try.pinned (OpenSpec.ofChange fnFileMakeWrong)

/-- 'laws.FnFileGrow': WHATEVER THE INPUT: true; the input reads as it did. -/
def fnFileGrowSpec : ChangeSpec := { name := "fnFileGrow", fn := fun _ => fun
  | [d] => { results := [.lit (.bool true)], args := [d] }
  | _ => none }
def fnFileGrowRow : OpenClaim := { program := "ythgnlljpjpklpaa", sum := "8a8a66c53a6a2e405d266e28fed50aae216ed34f290a3211bb66fe5a0bea3106", func := "loop.example/chainfiles/laws.FnFileGrow", spec := "fnFileGrow", recurses := true, apart := false }
def FnFileGrowSaid : Prop := fnFileGrowRow.holds Try.pinned (OpenSpec.ofChange fnFileGrowSpec)

/-- ITS FALSE NEIGHBOUR: 'it returns false'. Refute it at one input. -/
def fnFileGrowWrong : ChangeSpec := { name := "fnFileGrow", fn := fun _ => fun
  | [d] => { results := [.lit (.bool false)], args := [d] }
  | _ => none }
def FnFileGrowWrongFalsely : Prop := fnFileGrowRow.holds Try.pinned (OpenSpec.ofChange fnFileGrowWrong)

/-- 'laws.FnFileMakeDrop': WHATEVER THE INPUT: true; the input reads as it did. -/
def fnFileMakeDropSpec : ChangeSpec := { name := "fnFileMakeDrop", fn := fun _ => fun
  | [d] => { results := [.lit (.bool true)], args := [d] }
  | _ => none }
def fnFileMakeDropRow : OpenClaim := { program := "ythgnlljpjpklpaa", sum := "8a8a66c53a6a2e405d266e28fed50aae216ed34f290a3211bb66fe5a0bea3106", func := "loop.example/chainfiles/laws.FnFileMakeDrop", spec := "fnFileMakeDrop", recurses := true, apart := false }
def FnFileMakeDropSaid : Prop := fnFileMakeDropRow.holds Try.pinned (OpenSpec.ofChange fnFileMakeDropSpec)

/-- ITS FALSE NEIGHBOUR: 'it returns false'. Refute it at one input. -/
def fnFileMakeDropWrong : ChangeSpec := { name := "fnFileMakeDrop", fn := fun _ => fun
  | [d] => { results := [.lit (.bool false)], args := [d] }
  | _ => none }
def FnFileMakeDropWrongFalsely : Prop := fnFileMakeDropRow.holds Try.pinned (OpenSpec.ofChange fnFileMakeDropWrong)

/-- 'laws.FnFileGrowNew': WHATEVER THE INPUT: true; the input reads as it did. -/
def fnFileGrowNewSpec : ChangeSpec := { name := "fnFileGrowNew", fn := fun _ => fun
  | [d] => { results := [.lit (.bool true)], args := [d] }
  | _ => none }
def fnFileGrowNewRow : OpenClaim := { program := "ythgnlljpjpklpaa", sum := "8a8a66c53a6a2e405d266e28fed50aae216ed34f290a3211bb66fe5a0bea3106", func := "loop.example/chainfiles/laws.FnFileGrowNew", spec := "fnFileGrowNew", recurses := true, apart := false }
def FnFileGrowNewSaid : Prop := fnFileGrowNewRow.holds Try.pinned (OpenSpec.ofChange fnFileGrowNewSpec)

/-- ITS FALSE NEIGHBOUR: 'it returns false'. Refute it at one input. -/
def fnFileGrowNewWrong : ChangeSpec := { name := "fnFileGrowNew", fn := fun _ => fun
  | [d] => { results := [.lit (.bool false)], args := [d] }
  | _ => none }
def FnFileGrowNewWrongFalsely : Prop := fnFileGrowNewRow.holds Try.pinned (OpenSpec.ofChange fnFileGrowNewWrong)

/-- 'laws.FnFileGrowAt': WHATEVER THE INPUT: true; the input reads as it did. -/
def fnFileGrowAtSpec : ChangeSpec := { name := "fnFileGrowAt", fn := fun _ => fun
  | [d] => { results := [.lit (.bool true)], args := [d] }
  | _ => none }
def fnFileGrowAtRow : OpenClaim := { program := "ythgnlljpjpklpaa", sum := "8a8a66c53a6a2e405d266e28fed50aae216ed34f290a3211bb66fe5a0bea3106", func := "loop.example/chainfiles/laws.FnFileGrowAt", spec := "fnFileGrowAt", recurses := true, apart := false }
def FnFileGrowAtSaid : Prop := fnFileGrowAtRow.holds Try.pinned (OpenSpec.ofChange fnFileGrowAtSpec)

/-- ITS FALSE NEIGHBOUR: 'it returns false'. Refute it at one input. -/
def fnFileGrowAtWrong : ChangeSpec := { name := "fnFileGrowAt", fn := fun _ => fun
  | [d] => { results := [.lit (.bool false)], args := [d] }
  | _ => none }
def FnFileGrowAtWrongFalsely : Prop := fnFileGrowAtRow.holds Try.pinned (OpenSpec.ofChange fnFileGrowAtWrong)

/- THE SECOND FORM. 'bulk': how many values and letters a reading holds, each counted each time it is reached (what is shared counts as often as it is met; a slice's spare places count too). A statement '..UptoSaid' is the law's where the arguments, and the package variables that the reading takes, are together of bulk at most 1048576: NARROWER than '..Said'. Prove '..Said' where nothing that the law and all that it calls make is longer than what came in: it says more and counts as full. Else prove '..UptoSaid'. A law counts once. -/
mutual
def uptoBulk {H : Type} : DataW H → Nat
  | .lit (.string bytes) => bytes.length + 1
  | .lit _ => 1
  | .nil => 1
  | .ptr d => uptoBulk d + 1
  | .slice elems spare => uptoBulkAll elems + uptoBulkAll spare + 1
  | .agg parts => uptoBulkAll parts + 1
  | .iface _ d => uptoBulk d + 1
  | .map entries => uptoBulkEntries entries + 1
  | .held _ => 1
def uptoBulkAll {H : Type} : List (DataW H) → Nat
  | [] => 0
  | d :: r => uptoBulk d + uptoBulkAll r
def uptoBulkEntries {H : Type} : List (Lit × DataW H) → Nat
  | [] => 0
  | x :: r => uptoBulkEntry x + uptoBulkEntries r
def uptoBulkEntry {H : Type} : Lit × DataW H → Nat
  | (.string bytes, d) => bytes.length + uptoBulk d + 1
  | (_, d) => uptoBulk d + 1
 end
def uptoSmall : (H : Type) → List (DataW H) → Bool := fun _ ds => decide (uptoBulkAll ds ≤ 1048576)
def OpenSpec.upto (s : _root_.Go.ChangeSpec) : _root_.Go.OpenSpec := { _root_.Go.OpenSpec.ofChange s with cond := some uptoSmall }

/-- 'laws.FnExactFileDrop', WHERE WHAT IT READS IS OF BULK AT MOST 1048576: true; the input reads as it did. -/
def fnExactFileDropUptoRow : OpenClaim := { program := "ythgnlljpjpklpaa", sum := "8a8a66c53a6a2e405d266e28fed50aae216ed34f290a3211bb66fe5a0bea3106", func := "loop.example/chainfiles/laws.FnExactFileDrop", spec := "fnExactFileDrop", recurses := true, apart := false, narrowed := true }
def FnExactFileDropUptoSaid : Prop := fnExactFileDropUptoRow.holds Try.pinned (OpenSpec.upto fnExactFileDropSpec)

/-- 'laws.FnExactFileMake', WHERE WHAT IT READS IS OF BULK AT MOST 1048576: true; the input reads as it did. -/
def fnExactFileMakeUptoRow : OpenClaim := { program := "ythgnlljpjpklpaa", sum := "8a8a66c53a6a2e405d266e28fed50aae216ed34f290a3211bb66fe5a0bea3106", func := "loop.example/chainfiles/laws.FnExactFileMake", spec := "fnExactFileMake", recurses := true, apart := false, narrowed := true }
def FnExactFileMakeUptoSaid : Prop := fnExactFileMakeUptoRow.holds Try.pinned (OpenSpec.upto fnExactFileMakeSpec)

/-- 'laws.FnFilesPart', WHERE WHAT IT READS IS OF BULK AT MOST 1048576: true; the input reads as it did. -/
def fnFilesPartUptoRow : OpenClaim := { program := "ythgnlljpjpklpaa", sum := "8a8a66c53a6a2e405d266e28fed50aae216ed34f290a3211bb66fe5a0bea3106", func := "loop.example/chainfiles/laws.FnFilesPart", spec := "fnFilesPart", recurses := true, apart := false, narrowed := true }
def FnFilesPartUptoSaid : Prop := fnFilesPartUptoRow.holds Try.pinned (OpenSpec.upto fnFilesPartSpec)

/-- 'laws.FnExactFileGrow', WHERE WHAT IT READS IS OF BULK AT MOST 1048576: true; the input reads as it did. -/
def fnExactFileGrowUptoRow : OpenClaim := { program := "ythgnlljpjpklpaa", sum := "8a8a66c53a6a2e405d266e28fed50aae216ed34f290a3211bb66fe5a0bea3106", func := "loop.example/chainfiles/laws.FnExactFileGrow", spec := "fnExactFileGrow", recurses := true, apart := false, narrowed := true }
def FnExactFileGrowUptoSaid : Prop := fnExactFileGrowUptoRow.holds Try.pinned (OpenSpec.upto fnExactFileGrowSpec)

/-- 'laws.FnExactFilesValid', WHERE WHAT IT READS IS OF BULK AT MOST 1048576: true; the input reads as it did. -/
def fnExactFilesValidUptoRow : OpenClaim := { program := "ythgnlljpjpklpaa", sum := "8a8a66c53a6a2e405d266e28fed50aae216ed34f290a3211bb66fe5a0bea3106", func := "loop.example/chainfiles/laws.FnExactFilesValid", spec := "fnExactFilesValid", recurses := true, apart := false, narrowed := true }
def FnExactFilesValidUptoSaid : Prop := fnExactFilesValidUptoRow.holds Try.pinned (OpenSpec.upto fnExactFilesValidSpec)

/-- 'laws.FnFileAt', WHERE WHAT IT READS IS OF BULK AT MOST 1048576: true; the input reads as it did. -/
def fnFileAtUptoRow : OpenClaim := { program := "ythgnlljpjpklpaa", sum := "8a8a66c53a6a2e405d266e28fed50aae216ed34f290a3211bb66fe5a0bea3106", func := "loop.example/chainfiles/laws.FnFileAt", spec := "fnFileAt", recurses := true, apart := false, narrowed := true }
def FnFileAtUptoSaid : Prop := fnFileAtUptoRow.holds Try.pinned (OpenSpec.upto fnFileAtSpec)

/-- 'laws.FnFileAtNext', WHERE WHAT IT READS IS OF BULK AT MOST 1048576: true; the input reads as it did. -/
def fnFileAtNextUptoRow : OpenClaim := { program := "ythgnlljpjpklpaa", sum := "8a8a66c53a6a2e405d266e28fed50aae216ed34f290a3211bb66fe5a0bea3106", func := "loop.example/chainfiles/laws.FnFileAtNext", spec := "fnFileAtNext", recurses := true, apart := false, narrowed := true }
def FnFileAtNextUptoSaid : Prop := fnFileAtNextUptoRow.holds Try.pinned (OpenSpec.upto fnFileAtNextSpec)

/-- 'laws.FnExactFileAt', WHERE WHAT IT READS IS OF BULK AT MOST 1048576: true; the input reads as it did. -/
def fnExactFileAtUptoRow : OpenClaim := { program := "ythgnlljpjpklpaa", sum := "8a8a66c53a6a2e405d266e28fed50aae216ed34f290a3211bb66fe5a0bea3106", func := "loop.example/chainfiles/laws.FnExactFileAt", spec := "fnExactFileAt", recurses := true, apart := false, narrowed := true }
def FnExactFileAtUptoSaid : Prop := fnExactFileAtUptoRow.holds Try.pinned (OpenSpec.upto fnExactFileAtSpec)

/-- 'laws.FnFileDrop', WHERE WHAT IT READS IS OF BULK AT MOST 1048576: true; the input reads as it did. -/
def fnFileDropUptoRow : OpenClaim := { program := "ythgnlljpjpklpaa", sum := "8a8a66c53a6a2e405d266e28fed50aae216ed34f290a3211bb66fe5a0bea3106", func := "loop.example/chainfiles/laws.FnFileDrop", spec := "fnFileDrop", recurses := true, apart := false, narrowed := true }
def FnFileDropUptoSaid : Prop := fnFileDropUptoRow.holds Try.pinned (OpenSpec.upto fnFileDropSpec)

/-- 'laws.FnFileDropMake', WHERE WHAT IT READS IS OF BULK AT MOST 1048576: true; the input reads as it did. -/
def fnFileDropMakeUptoRow : OpenClaim := { program := "ythgnlljpjpklpaa", sum := "8a8a66c53a6a2e405d266e28fed50aae216ed34f290a3211bb66fe5a0bea3106", func := "loop.example/chainfiles/laws.FnFileDropMake", spec := "fnFileDropMake", recurses := true, apart := false, narrowed := true }
def FnFileDropMakeUptoSaid : Prop := fnFileDropMakeUptoRow.holds Try.pinned (OpenSpec.upto fnFileDropMakeSpec)

/-- 'laws.FnFileMake', WHERE WHAT IT READS IS OF BULK AT MOST 1048576: true; the input reads as it did. -/
def fnFileMakeUptoRow : OpenClaim := { program := "ythgnlljpjpklpaa", sum := "8a8a66c53a6a2e405d266e28fed50aae216ed34f290a3211bb66fe5a0bea3106", func := "loop.example/chainfiles/laws.FnFileMake", spec := "fnFileMake", recurses := true, apart := false, narrowed := true }
def FnFileMakeUptoSaid : Prop := fnFileMakeUptoRow.holds Try.pinned (OpenSpec.upto fnFileMakeSpec)

/-- 'laws.FnFileGrow', WHERE WHAT IT READS IS OF BULK AT MOST 1048576: true; the input reads as it did. -/
def fnFileGrowUptoRow : OpenClaim := { program := "ythgnlljpjpklpaa", sum := "8a8a66c53a6a2e405d266e28fed50aae216ed34f290a3211bb66fe5a0bea3106", func := "loop.example/chainfiles/laws.FnFileGrow", spec := "fnFileGrow", recurses := true, apart := false, narrowed := true }
def FnFileGrowUptoSaid : Prop := fnFileGrowUptoRow.holds Try.pinned (OpenSpec.upto fnFileGrowSpec)

/-- 'laws.FnFileMakeDrop', WHERE WHAT IT READS IS OF BULK AT MOST 1048576: true; the input reads as it did. -/
def fnFileMakeDropUptoRow : OpenClaim := { program := "ythgnlljpjpklpaa", sum := "8a8a66c53a6a2e405d266e28fed50aae216ed34f290a3211bb66fe5a0bea3106", func := "loop.example/chainfiles/laws.FnFileMakeDrop", spec := "fnFileMakeDrop", recurses := true, apart := false, narrowed := true }
def FnFileMakeDropUptoSaid : Prop := fnFileMakeDropUptoRow.holds Try.pinned (OpenSpec.upto fnFileMakeDropSpec)

/-- 'laws.FnFileGrowNew', WHERE WHAT IT READS IS OF BULK AT MOST 1048576: true; the input reads as it did. -/
def fnFileGrowNewUptoRow : OpenClaim := { program := "ythgnlljpjpklpaa", sum := "8a8a66c53a6a2e405d266e28fed50aae216ed34f290a3211bb66fe5a0bea3106", func := "loop.example/chainfiles/laws.FnFileGrowNew", spec := "fnFileGrowNew", recurses := true, apart := false, narrowed := true }
def FnFileGrowNewUptoSaid : Prop := fnFileGrowNewUptoRow.holds Try.pinned (OpenSpec.upto fnFileGrowNewSpec)

/-- 'laws.FnFileGrowAt', WHERE WHAT IT READS IS OF BULK AT MOST 1048576: true; the input reads as it did. -/
def fnFileGrowAtUptoRow : OpenClaim := { program := "ythgnlljpjpklpaa", sum := "8a8a66c53a6a2e405d266e28fed50aae216ed34f290a3211bb66fe5a0bea3106", func := "loop.example/chainfiles/laws.FnFileGrowAt", spec := "fnFileGrowAt", recurses := true, apart := false, narrowed := true }
def FnFileGrowAtUptoSaid : Prop := fnFileGrowAtUptoRow.holds Try.pinned (OpenSpec.upto fnFileGrowAtSpec)

end Rows
end Go.Proofs.Ythgnlljpjpklpaa
