/-
  No cell of these rows narrows 'for every input' (looked for: loops, veiled, ifaces, maps, wideKeys, modest, calm, conditions, laid).
  DERIVED. THE GIVEN ROWS OF THIS SEAT. 14 by the template 'for every input the law returns true; each argument reads behind the call as it read before'; 0 by the template 'total and deterministic' (their statements: YthgnnpafieifmaaTotals.lean).
  GIVEN WITH THE SEED: the statements are not yours to turn. If you find one false, say at which input.
  Laid BY PROGRAM, IN A SANDBOX (cutbox-rows.mjs): the forced cells as the released guide's own fill.sh prints them over the translation 84ee610d2378b99f… (all of the seat's roots in one cut). By AI agents, Wed Nov 11 2026. No macro, syntax, notation, axiom, sorry.
-/
import Derived.Test.YthgnnpafieifmaaChecked
import GoSem.Claim
import GoSem.ClaimJoined
import GoSem.ClaimMapViews
import Derived.JoinedTies
import Derived.KernelRfl
namespace Go.Proofs.Ythgnnpafieifmaa
/- THE CELL 'sum', in the pinned program and in every row, IS THE sha256 OF THE DUMP (.gsa) THAT YthgnnpafieifmaaProg.lean LOADS. Nothing in Lean hashes anything: it is a label: what it is worth is what the hold of that sum in a sandbox is worth. -/
noncomputable def Try.pinned : Pinned := { name := "ythgnnpafieifmaa", sum := "84ee610d2378b99fc3ad0ade117c2e769d5e910c60872ad4f414ad4b7f45bb59", checked := Try.checked }
namespace Rows
def none {H : Type} : Left H := { results := [], args := [] }

/-- 'laws.FnExactBytesValid': WHATEVER THE INPUT: true; the input reads as it did. -/
def fnExactBytesValidSpec : ChangeSpec := { name := "fnExactBytesValid", fn := fun _ => fun
  | [d] => { results := [.lit (.bool true)], args := [d] }
  | _ => none }
def fnExactBytesValidRow : OpenClaim := { program := "ythgnnpafieifmaa", sum := "84ee610d2378b99fc3ad0ade117c2e769d5e910c60872ad4f414ad4b7f45bb59", func := "loop.example/chainfiles/laws.FnExactBytesValid", spec := "fnExactBytesValid", apart := false }
def FnExactBytesValidSaid : Prop := fnExactBytesValidRow.holds Try.pinned (OpenSpec.ofChange fnExactBytesValidSpec)

/-- ITS FALSE NEIGHBOUR: 'it returns false'. Refute it at one input. -/
def fnExactBytesValidWrong : ChangeSpec := { name := "fnExactBytesValid", fn := fun _ => fun
  | [d] => { results := [.lit (.bool false)], args := [d] }
  | _ => none }
def FnExactBytesValidWrongFalsely : Prop := fnExactBytesValidRow.holds Try.pinned (OpenSpec.ofChange fnExactBytesValidWrong)

/-- 'laws.FnBytesPart': WHATEVER THE INPUT: true; the input reads as it did. -/
def fnBytesPartSpec : ChangeSpec := { name := "fnBytesPart", fn := fun _ => fun
  | [d] => { results := [.lit (.bool true)], args := [d] }
  | _ => none }
def fnBytesPartRow : OpenClaim := { program := "ythgnnpafieifmaa", sum := "84ee610d2378b99fc3ad0ade117c2e769d5e910c60872ad4f414ad4b7f45bb59", func := "loop.example/chainfiles/laws.FnBytesPart", spec := "fnBytesPart", apart := false }
def FnBytesPartSaid : Prop := fnBytesPartRow.holds Try.pinned (OpenSpec.ofChange fnBytesPartSpec)

/-- ITS FALSE NEIGHBOUR: 'it returns false'. Refute it at one input. -/
def fnBytesPartWrong : ChangeSpec := { name := "fnBytesPart", fn := fun _ => fun
  | [d] => { results := [.lit (.bool false)], args := [d] }
  | _ => none }
def FnBytesPartWrongFalsely : Prop := fnBytesPartRow.holds Try.pinned (OpenSpec.ofChange fnBytesPartWrong)

/-- 'laws.FnExactSumsOf': WHATEVER THE INPUT: true; the input reads as it did. -/
def fnExactSumsOfSpec : ChangeSpec := { name := "fnExactSumsOf", fn := fun _ => fun
  | [d] => { results := [.lit (.bool true)], args := [d] }
  | _ => none }
def fnExactSumsOfRow : OpenClaim := { program := "ythgnnpafieifmaa", sum := "84ee610d2378b99fc3ad0ade117c2e769d5e910c60872ad4f414ad4b7f45bb59", func := "loop.example/chainfiles/laws.FnExactSumsOf", spec := "fnExactSumsOf", apart := false }
def FnExactSumsOfSaid : Prop := fnExactSumsOfRow.holds Try.pinned (OpenSpec.ofChange fnExactSumsOfSpec)

/-- ITS FALSE NEIGHBOUR: 'it returns false'. Refute it at one input. -/
def fnExactSumsOfWrong : ChangeSpec := { name := "fnExactSumsOf", fn := fun _ => fun
  | [d] => { results := [.lit (.bool false)], args := [d] }
  | _ => none }
def FnExactSumsOfWrongFalsely : Prop := fnExactSumsOfRow.holds Try.pinned (OpenSpec.ofChange fnExactSumsOfWrong)

/-- 'laws.FnSumsParts': WHATEVER THE INPUT: true; the input reads as it did. -/
def fnSumsPartsSpec : ChangeSpec := { name := "fnSumsParts", fn := fun _ => fun
  | [d] => { results := [.lit (.bool true)], args := [d] }
  | _ => none }
def fnSumsPartsRow : OpenClaim := { program := "ythgnnpafieifmaa", sum := "84ee610d2378b99fc3ad0ade117c2e769d5e910c60872ad4f414ad4b7f45bb59", func := "loop.example/chainfiles/laws.FnSumsParts", spec := "fnSumsParts", apart := false }
def FnSumsPartsSaid : Prop := fnSumsPartsRow.holds Try.pinned (OpenSpec.ofChange fnSumsPartsSpec)

/-- ITS FALSE NEIGHBOUR: 'it returns false'. Refute it at one input. -/
def fnSumsPartsWrong : ChangeSpec := { name := "fnSumsParts", fn := fun _ => fun
  | [d] => { results := [.lit (.bool false)], args := [d] }
  | _ => none }
def FnSumsPartsWrongFalsely : Prop := fnSumsPartsRow.holds Try.pinned (OpenSpec.ofChange fnSumsPartsWrong)

/-- 'laws.FnExactSumsBad': WHATEVER THE INPUT: true; the input reads as it did. -/
def fnExactSumsBadSpec : ChangeSpec := { name := "fnExactSumsBad", fn := fun _ => fun
  | [d1, d2] => { results := [.lit (.bool true)], args := [d1, d2] }
  | _ => none }
def fnExactSumsBadRow : OpenClaim := { program := "ythgnnpafieifmaa", sum := "84ee610d2378b99fc3ad0ade117c2e769d5e910c60872ad4f414ad4b7f45bb59", func := "loop.example/chainfiles/laws.FnExactSumsBad", spec := "fnExactSumsBad", apart := false }
def FnExactSumsBadSaid : Prop := fnExactSumsBadRow.holds Try.pinned (OpenSpec.ofChange fnExactSumsBadSpec)

/-- ITS FALSE NEIGHBOUR: 'it returns false'. Refute it at one input. -/
def fnExactSumsBadWrong : ChangeSpec := { name := "fnExactSumsBad", fn := fun _ => fun
  | [d1, d2] => { results := [.lit (.bool false)], args := [d1, d2] }
  | _ => none }
def FnExactSumsBadWrongFalsely : Prop := fnExactSumsBadRow.holds Try.pinned (OpenSpec.ofChange fnExactSumsBadWrong)

/-- 'laws.FnSums': WHATEVER THE INPUT: true; the input reads as it did. -/
def fnSumsSpec : ChangeSpec := { name := "fnSums", fn := fun _ => fun
  | [d] => { results := [.lit (.bool true)], args := [d] }
  | _ => none }
def fnSumsRow : OpenClaim := { program := "ythgnnpafieifmaa", sum := "84ee610d2378b99fc3ad0ade117c2e769d5e910c60872ad4f414ad4b7f45bb59", func := "loop.example/chainfiles/laws.FnSums", spec := "fnSums", apart := false }
def FnSumsSaid : Prop := fnSumsRow.holds Try.pinned (OpenSpec.ofChange fnSumsSpec)

/-- ITS FALSE NEIGHBOUR: 'it returns false'. Refute it at one input. -/
def fnSumsWrong : ChangeSpec := { name := "fnSums", fn := fun _ => fun
  | [d] => { results := [.lit (.bool false)], args := [d] }
  | _ => none }
def FnSumsWrongFalsely : Prop := fnSumsRow.holds Try.pinned (OpenSpec.ofChange fnSumsWrong)

/-- 'laws.FnSumsDamage': WHATEVER THE INPUT: true; the input reads as it did. -/
def fnSumsDamageSpec : ChangeSpec := { name := "fnSumsDamage", fn := fun _ => fun
  | [d1, d2] => { results := [.lit (.bool true)], args := [d1, d2] }
  | _ => none }
def fnSumsDamageRow : OpenClaim := { program := "ythgnnpafieifmaa", sum := "84ee610d2378b99fc3ad0ade117c2e769d5e910c60872ad4f414ad4b7f45bb59", func := "loop.example/chainfiles/laws.FnSumsDamage", spec := "fnSumsDamage", apart := false }
def FnSumsDamageSaid : Prop := fnSumsDamageRow.holds Try.pinned (OpenSpec.ofChange fnSumsDamageSpec)

/-- ITS FALSE NEIGHBOUR: 'it returns false'. Refute it at one input. -/
def fnSumsDamageWrong : ChangeSpec := { name := "fnSumsDamage", fn := fun _ => fun
  | [d1, d2] => { results := [.lit (.bool false)], args := [d1, d2] }
  | _ => none }
def FnSumsDamageWrongFalsely : Prop := fnSumsDamageRow.holds Try.pinned (OpenSpec.ofChange fnSumsDamageWrong)

/-- 'laws.FnExactSumsWrite': WHATEVER THE INPUT: true; the input reads as it did. -/
def fnExactSumsWriteSpec : ChangeSpec := { name := "fnExactSumsWrite", fn := fun _ => fun
  | [d1, d2, d3, d4] => { results := [.lit (.bool true)], args := [d1, d2, d3, d4] }
  | _ => none }
def fnExactSumsWriteRow : OpenClaim := { program := "ythgnnpafieifmaa", sum := "84ee610d2378b99fc3ad0ade117c2e769d5e910c60872ad4f414ad4b7f45bb59", func := "loop.example/chainfiles/laws.FnExactSumsWrite", spec := "fnExactSumsWrite", apart := false }
def FnExactSumsWriteSaid : Prop := fnExactSumsWriteRow.holds Try.pinned (OpenSpec.ofChange fnExactSumsWriteSpec)

/-- ITS FALSE NEIGHBOUR: 'it returns false'. Refute it at one input. -/
def fnExactSumsWriteWrong : ChangeSpec := { name := "fnExactSumsWrite", fn := fun _ => fun
  | [d1, d2, d3, d4] => { results := [.lit (.bool false)], args := [d1, d2, d3, d4] }
  | _ => none }
def FnExactSumsWriteWrongFalsely : Prop := fnExactSumsWriteRow.holds Try.pinned (OpenSpec.ofChange fnExactSumsWriteWrong)

/-- 'laws.FnBad': WHATEVER THE INPUT: true; the input reads as it did. -/
def fnBadSpec : ChangeSpec := { name := "fnBad", fn := fun _ => fun
  | [d] => { results := [.lit (.bool true)], args := [d] }
  | _ => none }
def fnBadRow : OpenClaim := { program := "ythgnnpafieifmaa", sum := "84ee610d2378b99fc3ad0ade117c2e769d5e910c60872ad4f414ad4b7f45bb59", func := "loop.example/chainfiles/laws.FnBad", spec := "fnBad", apart := false }
def FnBadSaid : Prop := fnBadRow.holds Try.pinned (OpenSpec.ofChange fnBadSpec)

/-- ITS FALSE NEIGHBOUR: 'it returns false'. Refute it at one input. -/
def fnBadWrong : ChangeSpec := { name := "fnBad", fn := fun _ => fun
  | [d] => { results := [.lit (.bool false)], args := [d] }
  | _ => none }
def FnBadWrongFalsely : Prop := fnBadRow.holds Try.pinned (OpenSpec.ofChange fnBadWrong)

/-- 'laws.FnBadNone': WHATEVER THE INPUT: true; the input reads as it did. -/
def fnBadNoneSpec : ChangeSpec := { name := "fnBadNone", fn := fun _ => fun
  | [d] => { results := [.lit (.bool true)], args := [d] }
  | _ => none }
def fnBadNoneRow : OpenClaim := { program := "ythgnnpafieifmaa", sum := "84ee610d2378b99fc3ad0ade117c2e769d5e910c60872ad4f414ad4b7f45bb59", func := "loop.example/chainfiles/laws.FnBadNone", spec := "fnBadNone", apart := false }
def FnBadNoneSaid : Prop := fnBadNoneRow.holds Try.pinned (OpenSpec.ofChange fnBadNoneSpec)

/-- ITS FALSE NEIGHBOUR: 'it returns false'. Refute it at one input. -/
def fnBadNoneWrong : ChangeSpec := { name := "fnBadNone", fn := fun _ => fun
  | [d] => { results := [.lit (.bool false)], args := [d] }
  | _ => none }
def FnBadNoneWrongFalsely : Prop := fnBadNoneRow.holds Try.pinned (OpenSpec.ofChange fnBadNoneWrong)

/-- 'laws.FnSumsWrite': WHATEVER THE INPUT: true; the input reads as it did. -/
def fnSumsWriteSpec : ChangeSpec := { name := "fnSumsWrite", fn := fun _ => fun
  | [d] => { results := [.lit (.bool true)], args := [d] }
  | _ => none }
def fnSumsWriteRow : OpenClaim := { program := "ythgnnpafieifmaa", sum := "84ee610d2378b99fc3ad0ade117c2e769d5e910c60872ad4f414ad4b7f45bb59", func := "loop.example/chainfiles/laws.FnSumsWrite", spec := "fnSumsWrite", apart := false }
def FnSumsWriteSaid : Prop := fnSumsWriteRow.holds Try.pinned (OpenSpec.ofChange fnSumsWriteSpec)

/-- ITS FALSE NEIGHBOUR: 'it returns false'. Refute it at one input. -/
def fnSumsWriteWrong : ChangeSpec := { name := "fnSumsWrite", fn := fun _ => fun
  | [d] => { results := [.lit (.bool false)], args := [d] }
  | _ => none }
def FnSumsWriteWrongFalsely : Prop := fnSumsWriteRow.holds Try.pinned (OpenSpec.ofChange fnSumsWriteWrong)

/-- 'laws.FnSumsWriteBack': WHATEVER THE INPUT: true; the input reads as it did. -/
def fnSumsWriteBackSpec : ChangeSpec := { name := "fnSumsWriteBack", fn := fun _ => fun
  | [d] => { results := [.lit (.bool true)], args := [d] }
  | _ => none }
def fnSumsWriteBackRow : OpenClaim := { program := "ythgnnpafieifmaa", sum := "84ee610d2378b99fc3ad0ade117c2e769d5e910c60872ad4f414ad4b7f45bb59", func := "loop.example/chainfiles/laws.FnSumsWriteBack", spec := "fnSumsWriteBack", apart := false }
def FnSumsWriteBackSaid : Prop := fnSumsWriteBackRow.holds Try.pinned (OpenSpec.ofChange fnSumsWriteBackSpec)

/-- ITS FALSE NEIGHBOUR: 'it returns false'. Refute it at one input. -/
def fnSumsWriteBackWrong : ChangeSpec := { name := "fnSumsWriteBack", fn := fun _ => fun
  | [d] => { results := [.lit (.bool false)], args := [d] }
  | _ => none }
def FnSumsWriteBackWrongFalsely : Prop := fnSumsWriteBackRow.holds Try.pinned (OpenSpec.ofChange fnSumsWriteBackWrong)

/-- 'laws.FnSumsWriteBad': WHATEVER THE INPUT: true; the input reads as it did. -/
def fnSumsWriteBadSpec : ChangeSpec := { name := "fnSumsWriteBad", fn := fun _ => fun
  | [d1, d2] => { results := [.lit (.bool true)], args := [d1, d2] }
  | _ => none }
def fnSumsWriteBadRow : OpenClaim := { program := "ythgnnpafieifmaa", sum := "84ee610d2378b99fc3ad0ade117c2e769d5e910c60872ad4f414ad4b7f45bb59", func := "loop.example/chainfiles/laws.FnSumsWriteBad", spec := "fnSumsWriteBad", apart := false }
def FnSumsWriteBadSaid : Prop := fnSumsWriteBadRow.holds Try.pinned (OpenSpec.ofChange fnSumsWriteBadSpec)

/-- ITS FALSE NEIGHBOUR: 'it returns false'. Refute it at one input. -/
def fnSumsWriteBadWrong : ChangeSpec := { name := "fnSumsWriteBad", fn := fun _ => fun
  | [d1, d2] => { results := [.lit (.bool false)], args := [d1, d2] }
  | _ => none }
def FnSumsWriteBadWrongFalsely : Prop := fnSumsWriteBadRow.holds Try.pinned (OpenSpec.ofChange fnSumsWriteBadWrong)

/-- 'laws.FnSumsWriteGood': WHATEVER THE INPUT: true; the input reads as it did. -/
def fnSumsWriteGoodSpec : ChangeSpec := { name := "fnSumsWriteGood", fn := fun _ => fun
  | [d] => { results := [.lit (.bool true)], args := [d] }
  | _ => none }
def fnSumsWriteGoodRow : OpenClaim := { program := "ythgnnpafieifmaa", sum := "84ee610d2378b99fc3ad0ade117c2e769d5e910c60872ad4f414ad4b7f45bb59", func := "loop.example/chainfiles/laws.FnSumsWriteGood", spec := "fnSumsWriteGood", apart := false }
def FnSumsWriteGoodSaid : Prop := fnSumsWriteGoodRow.holds Try.pinned (OpenSpec.ofChange fnSumsWriteGoodSpec)

/-- ITS FALSE NEIGHBOUR: 'it returns false'. Refute it at one input. -/
def fnSumsWriteGoodWrong : ChangeSpec := { name := "fnSumsWriteGood", fn := fun _ => fun
  | [d] => { results := [.lit (.bool false)], args := [d] }
  | _ => none }
def FnSumsWriteGoodWrongFalsely : Prop := fnSumsWriteGoodRow.holds Try.pinned (OpenSpec.ofChange fnSumsWriteGoodWrong)

/- THE SECOND FORM. 'bulk': how many values and letters a reading holds, each counted each time it is reached (what is shared counts as often as it is met; a slice's spare places count too). A statement '..UptoSaid' is the law's where the arguments, and the package variables that the reading takes, are together of bulk at most 1048576: NARROWER than '..Said'. Prove '..Said' where nothing that the law and all that it calls make is longer than what came in: it says more and counts as full. Else prove '..UptoSaid'. A law counts once. -/
mutual
def uptoBulk {H : Type} : DataW H → Nat
  | .lit (.string bytes) => bytes.length + 1
  | .lit _ => 1
  | .nil => 1
  | .ptr d => uptoBulk d + 1
  | .slice elems spare => uptoBulkAll elems + uptoBulkAll spare + 1
  | .agg parts => uptoBulkAll parts + 1
  | .iface _ d => uptoBulk d + 1
  | .map entries => uptoBulkEntries entries + 1
  | .held _ => 1
def uptoBulkAll {H : Type} : List (DataW H) → Nat
  | [] => 0
  | d :: r => uptoBulk d + uptoBulkAll r
def uptoBulkEntries {H : Type} : List (Lit × DataW H) → Nat
  | [] => 0
  | x :: r => uptoBulkEntry x + uptoBulkEntries r
def uptoBulkEntry {H : Type} : Lit × DataW H → Nat
  | (.string bytes, d) => bytes.length + uptoBulk d + 1
  | (_, d) => uptoBulk d + 1
 end
def uptoSmall : (H : Type) → List (DataW H) → Bool := fun _ ds => decide (uptoBulkAll ds ≤ 1048576)
def OpenSpec.upto (s : _root_.Go.ChangeSpec) : _root_.Go.OpenSpec := { _root_.Go.OpenSpec.ofChange s with cond := some uptoSmall }

/-- 'laws.FnExactBytesValid', WHERE WHAT IT READS IS OF BULK AT MOST 1048576: true; the input reads as it did. -/
def fnExactBytesValidUptoRow : OpenClaim := { program := "ythgnnpafieifmaa", sum := "84ee610d2378b99fc3ad0ade117c2e769d5e910c60872ad4f414ad4b7f45bb59", func := "loop.example/chainfiles/laws.FnExactBytesValid", spec := "fnExactBytesValid", apart := false, narrowed := true }
def FnExactBytesValidUptoSaid : Prop := fnExactBytesValidUptoRow.holds Try.pinned (OpenSpec.upto fnExactBytesValidSpec)

/-- 'laws.FnBytesPart', WHERE WHAT IT READS IS OF BULK AT MOST 1048576: true; the input reads as it did. -/
def fnBytesPartUptoRow : OpenClaim := { program := "ythgnnpafieifmaa", sum := "84ee610d2378b99fc3ad0ade117c2e769d5e910c60872ad4f414ad4b7f45bb59", func := "loop.example/chainfiles/laws.FnBytesPart", spec := "fnBytesPart", apart := false, narrowed := true }
def FnBytesPartUptoSaid : Prop := fnBytesPartUptoRow.holds Try.pinned (OpenSpec.upto fnBytesPartSpec)

/-- 'laws.FnExactSumsOf', WHERE WHAT IT READS IS OF BULK AT MOST 1048576: true; the input reads as it did. -/
def fnExactSumsOfUptoRow : OpenClaim := { program := "ythgnnpafieifmaa", sum := "84ee610d2378b99fc3ad0ade117c2e769d5e910c60872ad4f414ad4b7f45bb59", func := "loop.example/chainfiles/laws.FnExactSumsOf", spec := "fnExactSumsOf", apart := false, narrowed := true }
def FnExactSumsOfUptoSaid : Prop := fnExactSumsOfUptoRow.holds Try.pinned (OpenSpec.upto fnExactSumsOfSpec)

/-- 'laws.FnSumsParts', WHERE WHAT IT READS IS OF BULK AT MOST 1048576: true; the input reads as it did. -/
def fnSumsPartsUptoRow : OpenClaim := { program := "ythgnnpafieifmaa", sum := "84ee610d2378b99fc3ad0ade117c2e769d5e910c60872ad4f414ad4b7f45bb59", func := "loop.example/chainfiles/laws.FnSumsParts", spec := "fnSumsParts", apart := false, narrowed := true }
def FnSumsPartsUptoSaid : Prop := fnSumsPartsUptoRow.holds Try.pinned (OpenSpec.upto fnSumsPartsSpec)

/-- 'laws.FnExactSumsBad', WHERE WHAT IT READS IS OF BULK AT MOST 1048576: true; the input reads as it did. -/
def fnExactSumsBadUptoRow : OpenClaim := { program := "ythgnnpafieifmaa", sum := "84ee610d2378b99fc3ad0ade117c2e769d5e910c60872ad4f414ad4b7f45bb59", func := "loop.example/chainfiles/laws.FnExactSumsBad", spec := "fnExactSumsBad", apart := false, narrowed := true }
def FnExactSumsBadUptoSaid : Prop := fnExactSumsBadUptoRow.holds Try.pinned (OpenSpec.upto fnExactSumsBadSpec)

/-- 'laws.FnSums', WHERE WHAT IT READS IS OF BULK AT MOST 1048576: true; the input reads as it did. -/
def fnSumsUptoRow : OpenClaim := { program := "ythgnnpafieifmaa", sum := "84ee610d2378b99fc3ad0ade117c2e769d5e910c60872ad4f414ad4b7f45bb59", func := "loop.example/chainfiles/laws.FnSums", spec := "fnSums", apart := false, narrowed := true }
def FnSumsUptoSaid : Prop := fnSumsUptoRow.holds Try.pinned (OpenSpec.upto fnSumsSpec)

/-- 'laws.FnSumsDamage', WHERE WHAT IT READS IS OF BULK AT MOST 1048576: true; the input reads as it did. -/
def fnSumsDamageUptoRow : OpenClaim := { program := "ythgnnpafieifmaa", sum := "84ee610d2378b99fc3ad0ade117c2e769d5e910c60872ad4f414ad4b7f45bb59", func := "loop.example/chainfiles/laws.FnSumsDamage", spec := "fnSumsDamage", apart := false, narrowed := true }
def FnSumsDamageUptoSaid : Prop := fnSumsDamageUptoRow.holds Try.pinned (OpenSpec.upto fnSumsDamageSpec)

/-- 'laws.FnExactSumsWrite', WHERE WHAT IT READS IS OF BULK AT MOST 1048576: true; the input reads as it did. -/
def fnExactSumsWriteUptoRow : OpenClaim := { program := "ythgnnpafieifmaa", sum := "84ee610d2378b99fc3ad0ade117c2e769d5e910c60872ad4f414ad4b7f45bb59", func := "loop.example/chainfiles/laws.FnExactSumsWrite", spec := "fnExactSumsWrite", apart := false, narrowed := true }
def FnExactSumsWriteUptoSaid : Prop := fnExactSumsWriteUptoRow.holds Try.pinned (OpenSpec.upto fnExactSumsWriteSpec)

/-- 'laws.FnBad', WHERE WHAT IT READS IS OF BULK AT MOST 1048576: true; the input reads as it did. -/
def fnBadUptoRow : OpenClaim := { program := "ythgnnpafieifmaa", sum := "84ee610d2378b99fc3ad0ade117c2e769d5e910c60872ad4f414ad4b7f45bb59", func := "loop.example/chainfiles/laws.FnBad", spec := "fnBad", apart := false, narrowed := true }
def FnBadUptoSaid : Prop := fnBadUptoRow.holds Try.pinned (OpenSpec.upto fnBadSpec)

/-- 'laws.FnBadNone', WHERE WHAT IT READS IS OF BULK AT MOST 1048576: true; the input reads as it did. -/
def fnBadNoneUptoRow : OpenClaim := { program := "ythgnnpafieifmaa", sum := "84ee610d2378b99fc3ad0ade117c2e769d5e910c60872ad4f414ad4b7f45bb59", func := "loop.example/chainfiles/laws.FnBadNone", spec := "fnBadNone", apart := false, narrowed := true }
def FnBadNoneUptoSaid : Prop := fnBadNoneUptoRow.holds Try.pinned (OpenSpec.upto fnBadNoneSpec)

/-- 'laws.FnSumsWrite', WHERE WHAT IT READS IS OF BULK AT MOST 1048576: true; the input reads as it did. -/
def fnSumsWriteUptoRow : OpenClaim := { program := "ythgnnpafieifmaa", sum := "84ee610d2378b99fc3ad0ade117c2e769d5e910c60872ad4f414ad4b7f45bb59", func := "loop.example/chainfiles/laws.FnSumsWrite", spec := "fnSumsWrite", apart := false, narrowed := true }
def FnSumsWriteUptoSaid : Prop := fnSumsWriteUptoRow.holds Try.pinned (OpenSpec.upto fnSumsWriteSpec)

/-- 'laws.FnSumsWriteBack', WHERE WHAT IT READS IS OF BULK AT MOST 1048576: true; the input reads as it did. -/
def fnSumsWriteBackUptoRow : OpenClaim := { program := "ythgnnpafieifmaa", sum := "84ee610d2378b99fc3ad0ade117c2e769d5e910c60872ad4f414ad4b7f45bb59", func := "loop.example/chainfiles/laws.FnSumsWriteBack", spec := "fnSumsWriteBack", apart := false, narrowed := true }
def FnSumsWriteBackUptoSaid : Prop := fnSumsWriteBackUptoRow.holds Try.pinned (OpenSpec.upto fnSumsWriteBackSpec)

/-- 'laws.FnSumsWriteBad', WHERE WHAT IT READS IS OF BULK AT MOST 1048576: true; the input reads as it did. -/
def fnSumsWriteBadUptoRow : OpenClaim := { program := "ythgnnpafieifmaa", sum := "84ee610d2378b99fc3ad0ade117c2e769d5e910c60872ad4f414ad4b7f45bb59", func := "loop.example/chainfiles/laws.FnSumsWriteBad", spec := "fnSumsWriteBad", apart := false, narrowed := true }
def FnSumsWriteBadUptoSaid : Prop := fnSumsWriteBadUptoRow.holds Try.pinned (OpenSpec.upto fnSumsWriteBadSpec)

/-- 'laws.FnSumsWriteGood', WHERE WHAT IT READS IS OF BULK AT MOST 1048576: true; the input reads as it did. -/
def fnSumsWriteGoodUptoRow : OpenClaim := { program := "ythgnnpafieifmaa", sum := "84ee610d2378b99fc3ad0ade117c2e769d5e910c60872ad4f414ad4b7f45bb59", func := "loop.example/chainfiles/laws.FnSumsWriteGood", spec := "fnSumsWriteGood", apart := false, narrowed := true }
def FnSumsWriteGoodUptoSaid : Prop := fnSumsWriteGoodUptoRow.holds Try.pinned (OpenSpec.upto fnSumsWriteGoodSpec)

end Rows
end Go.Proofs.Ythgnnpafieifmaa
