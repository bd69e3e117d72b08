/-
  No cell of these rows narrows 'for every input' (looked for: loops, veiled, ifaces, maps, wideKeys, modest, calm, conditions, laid).
  DERIVED. THE GIVEN ROWS OF THIS SEAT. 10 by the template 'for every input the law returns true; each argument reads behind the call as it read before'; 0 by the template 'total and deterministic' (their statements: YtielahdnccocdaaTotals.lean).
  GIVEN WITH THE SEED: the statements are not yours to turn. If you find one false, say at which input.
  Laid BY PROGRAM, IN A SANDBOX (cutbox-rows.mjs): the forced cells as the released guide's own fill.sh prints them over the translation 52f92300f121d4f2… (all of the seat's roots in one cut). By AI agents, Wed Nov 11 2026. No macro, syntax, notation, axiom, sorry.
-/
import Derived.Test.YtielahdnccocdaaChecked
import GoSem.Claim
import GoSem.ClaimJoined
import GoSem.ClaimMapViews
import Derived.JoinedTies
import Derived.KernelRfl
namespace Go.Proofs.Ytielahdnccocdaa
/- THE CELL 'sum', in the pinned program and in every row, IS THE sha256 OF THE DUMP (.gsa) THAT YtielahdnccocdaaProg.lean LOADS. Nothing in Lean hashes anything: it is a label: what it is worth is what the hold of that sum in a sandbox is worth. -/
noncomputable def Try.pinned : Pinned := { name := "ytielahdnccocdaa", sum := "52f92300f121d4f2ff8dd6c3a9b9a66779102682db3aa8f66675108344395fa5", checked := Try.checked }
namespace Rows
def none {H : Type} : Left H := { results := [], args := [] }

/-- 'laws.FnExactPlaceScore': WHATEVER THE INPUT: true; the input reads as it did. -/
def fnExactPlaceScoreSpec : ChangeSpec := { name := "fnExactPlaceScore", fn := fun _ => fun
  | [d1, d2] => { results := [.lit (.bool true)], args := [d1, d2] }
  | _ => none }
def fnExactPlaceScoreRow : OpenClaim := { program := "ytielahdnccocdaa", sum := "52f92300f121d4f2ff8dd6c3a9b9a66779102682db3aa8f66675108344395fa5", func := "loop.example/chainfiles/laws.FnExactPlaceScore", spec := "fnExactPlaceScore", apart := false }
def FnExactPlaceScoreSaid : Prop := fnExactPlaceScoreRow.holds Try.pinned (OpenSpec.ofChange fnExactPlaceScoreSpec)

/-- ITS FALSE NEIGHBOUR: 'it returns false'. Refute it at one input. -/
def fnExactPlaceScoreWrong : ChangeSpec := { name := "fnExactPlaceScore", fn := fun _ => fun
  | [d1, d2] => { results := [.lit (.bool false)], args := [d1, d2] }
  | _ => none }
def FnExactPlaceScoreWrongFalsely : Prop := fnExactPlaceScoreRow.holds Try.pinned (OpenSpec.ofChange fnExactPlaceScoreWrong)

/-- 'laws.FnExactServersValid': WHATEVER THE INPUT: true; the input reads as it did. -/
def fnExactServersValidSpec : ChangeSpec := { name := "fnExactServersValid", fn := fun _ => fun
  | [d] => { results := [.lit (.bool true)], args := [d] }
  | _ => none }
def fnExactServersValidRow : OpenClaim := { program := "ytielahdnccocdaa", sum := "52f92300f121d4f2ff8dd6c3a9b9a66779102682db3aa8f66675108344395fa5", func := "loop.example/chainfiles/laws.FnExactServersValid", spec := "fnExactServersValid", apart := false }
def FnExactServersValidSaid : Prop := fnExactServersValidRow.holds Try.pinned (OpenSpec.ofChange fnExactServersValidSpec)

/-- ITS FALSE NEIGHBOUR: 'it returns false'. Refute it at one input. -/
def fnExactServersValidWrong : ChangeSpec := { name := "fnExactServersValid", fn := fun _ => fun
  | [d] => { results := [.lit (.bool false)], args := [d] }
  | _ => none }
def FnExactServersValidWrongFalsely : Prop := fnExactServersValidRow.holds Try.pinned (OpenSpec.ofChange fnExactServersValidWrong)

/-- 'laws.FnScore': WHATEVER THE INPUT: true; the input reads as it did. -/
def fnScoreSpec : ChangeSpec := { name := "fnScore", fn := fun _ => fun
  | [d] => { results := [.lit (.bool true)], args := [d] }
  | _ => none }
def fnScoreRow : OpenClaim := { program := "ytielahdnccocdaa", sum := "52f92300f121d4f2ff8dd6c3a9b9a66779102682db3aa8f66675108344395fa5", func := "loop.example/chainfiles/laws.FnScore", spec := "fnScore", apart := false }
def FnScoreSaid : Prop := fnScoreRow.holds Try.pinned (OpenSpec.ofChange fnScoreSpec)

/-- ITS FALSE NEIGHBOUR: 'it returns false'. Refute it at one input. -/
def fnScoreWrong : ChangeSpec := { name := "fnScore", fn := fun _ => fun
  | [d] => { results := [.lit (.bool false)], args := [d] }
  | _ => none }
def FnScoreWrongFalsely : Prop := fnScoreRow.holds Try.pinned (OpenSpec.ofChange fnScoreWrong)

/-- 'laws.FnServersPart': WHATEVER THE INPUT: true; the input reads as it did. -/
def fnServersPartSpec : ChangeSpec := { name := "fnServersPart", fn := fun _ => fun
  | [d1, d2] => { results := [.lit (.bool true)], args := [d1, d2] }
  | _ => none }
def fnServersPartRow : OpenClaim := { program := "ytielahdnccocdaa", sum := "52f92300f121d4f2ff8dd6c3a9b9a66779102682db3aa8f66675108344395fa5", func := "loop.example/chainfiles/laws.FnServersPart", spec := "fnServersPart", apart := false }
def FnServersPartSaid : Prop := fnServersPartRow.holds Try.pinned (OpenSpec.ofChange fnServersPartSpec)

/-- ITS FALSE NEIGHBOUR: 'it returns false'. Refute it at one input. -/
def fnServersPartWrong : ChangeSpec := { name := "fnServersPart", fn := fun _ => fun
  | [d1, d2] => { results := [.lit (.bool false)], args := [d1, d2] }
  | _ => none }
def FnServersPartWrongFalsely : Prop := fnServersPartRow.holds Try.pinned (OpenSpec.ofChange fnServersPartWrong)

/-- 'laws.FnExactPlaceOf': WHATEVER THE INPUT: true; the input reads as it did. -/
def fnExactPlaceOfSpec : ChangeSpec := { name := "fnExactPlaceOf", fn := fun _ => fun
  | [d1, d2, d3] => { results := [.lit (.bool true)], args := [d1, d2, d3] }
  | _ => none }
def fnExactPlaceOfRow : OpenClaim := { program := "ytielahdnccocdaa", sum := "52f92300f121d4f2ff8dd6c3a9b9a66779102682db3aa8f66675108344395fa5", func := "loop.example/chainfiles/laws.FnExactPlaceOf", spec := "fnExactPlaceOf", unfollowed := true, recurses := true, apart := false }
def FnExactPlaceOfSaid : Prop := fnExactPlaceOfRow.holds Try.pinned (OpenSpec.ofChange fnExactPlaceOfSpec)

/-- ITS FALSE NEIGHBOUR: 'it returns false'. Refute it at one input. -/
def fnExactPlaceOfWrong : ChangeSpec := { name := "fnExactPlaceOf", fn := fun _ => fun
  | [d1, d2, d3] => { results := [.lit (.bool false)], args := [d1, d2, d3] }
  | _ => none }
def FnExactPlaceOfWrongFalsely : Prop := fnExactPlaceOfRow.holds Try.pinned (OpenSpec.ofChange fnExactPlaceOfWrong)

/-- 'laws.FnPlaceMore': WHATEVER THE INPUT: true; the input reads as it did. -/
def fnPlaceMoreSpec : ChangeSpec := { name := "fnPlaceMore", fn := fun _ => fun
  | [d1, d2] => { results := [.lit (.bool true)], args := [d1, d2] }
  | _ => none }
def fnPlaceMoreRow : OpenClaim := { program := "ytielahdnccocdaa", sum := "52f92300f121d4f2ff8dd6c3a9b9a66779102682db3aa8f66675108344395fa5", func := "loop.example/chainfiles/laws.FnPlaceMore", spec := "fnPlaceMore", unfollowed := true, recurses := true, apart := false }
def FnPlaceMoreSaid : Prop := fnPlaceMoreRow.holds Try.pinned (OpenSpec.ofChange fnPlaceMoreSpec)

/-- ITS FALSE NEIGHBOUR: 'it returns false'. Refute it at one input. -/
def fnPlaceMoreWrong : ChangeSpec := { name := "fnPlaceMore", fn := fun _ => fun
  | [d1, d2] => { results := [.lit (.bool false)], args := [d1, d2] }
  | _ => none }
def FnPlaceMoreWrongFalsely : Prop := fnPlaceMoreRow.holds Try.pinned (OpenSpec.ofChange fnPlaceMoreWrong)

/-- 'laws.FnPlace': WHATEVER THE INPUT: true; the input reads as it did. -/
def fnPlaceSpec : ChangeSpec := { name := "fnPlace", fn := fun _ => fun
  | [d] => { results := [.lit (.bool true)], args := [d] }
  | _ => none }
def fnPlaceRow : OpenClaim := { program := "ytielahdnccocdaa", sum := "52f92300f121d4f2ff8dd6c3a9b9a66779102682db3aa8f66675108344395fa5", func := "loop.example/chainfiles/laws.FnPlace", spec := "fnPlace", unfollowed := true, recurses := true, apart := false }
def FnPlaceSaid : Prop := fnPlaceRow.holds Try.pinned (OpenSpec.ofChange fnPlaceSpec)

/-- ITS FALSE NEIGHBOUR: 'it returns false'. Refute it at one input. -/
def fnPlaceWrong : ChangeSpec := { name := "fnPlace", fn := fun _ => fun
  | [d] => { results := [.lit (.bool false)], args := [d] }
  | _ => none }
def FnPlaceWrongFalsely : Prop := fnPlaceRow.holds Try.pinned (OpenSpec.ofChange fnPlaceWrong)

/-- 'laws.FnPlaceBest': WHATEVER THE INPUT: true; the input reads as it did. -/
def fnPlaceBestSpec : ChangeSpec := { name := "fnPlaceBest", fn := fun _ => fun
  | [d] => { results := [.lit (.bool true)], args := [d] }
  | _ => none }
def fnPlaceBestRow : OpenClaim := { program := "ytielahdnccocdaa", sum := "52f92300f121d4f2ff8dd6c3a9b9a66779102682db3aa8f66675108344395fa5", func := "loop.example/chainfiles/laws.FnPlaceBest", spec := "fnPlaceBest", unfollowed := true, recurses := true, apart := false }
def FnPlaceBestSaid : Prop := fnPlaceBestRow.holds Try.pinned (OpenSpec.ofChange fnPlaceBestSpec)

/-- ITS FALSE NEIGHBOUR: 'it returns false'. Refute it at one input. -/
def fnPlaceBestWrong : ChangeSpec := { name := "fnPlaceBest", fn := fun _ => fun
  | [d] => { results := [.lit (.bool false)], args := [d] }
  | _ => none }
def FnPlaceBestWrongFalsely : Prop := fnPlaceBestRow.holds Try.pinned (OpenSpec.ofChange fnPlaceBestWrong)

/-- 'laws.FnPlaceGone': WHATEVER THE INPUT: true; the input reads as it did. -/
def fnPlaceGoneSpec : ChangeSpec := { name := "fnPlaceGone", fn := fun _ => fun
  | [d1, d2] => { results := [.lit (.bool true)], args := [d1, d2] }
  | _ => none }
def fnPlaceGoneRow : OpenClaim := { program := "ytielahdnccocdaa", sum := "52f92300f121d4f2ff8dd6c3a9b9a66779102682db3aa8f66675108344395fa5", func := "loop.example/chainfiles/laws.FnPlaceGone", spec := "fnPlaceGone", unfollowed := true, recurses := true, apart := false }
def FnPlaceGoneSaid : Prop := fnPlaceGoneRow.holds Try.pinned (OpenSpec.ofChange fnPlaceGoneSpec)

/-- ITS FALSE NEIGHBOUR: 'it returns false'. Refute it at one input. -/
def fnPlaceGoneWrong : ChangeSpec := { name := "fnPlaceGone", fn := fun _ => fun
  | [d1, d2] => { results := [.lit (.bool false)], args := [d1, d2] }
  | _ => none }
def FnPlaceGoneWrongFalsely : Prop := fnPlaceGoneRow.holds Try.pinned (OpenSpec.ofChange fnPlaceGoneWrong)

/-- 'laws.FnPlaceWithout': WHATEVER THE INPUT: true; the input reads as it did. -/
def fnPlaceWithoutSpec : ChangeSpec := { name := "fnPlaceWithout", fn := fun _ => fun
  | [d1, d2] => { results := [.lit (.bool true)], args := [d1, d2] }
  | _ => none }
def fnPlaceWithoutRow : OpenClaim := { program := "ytielahdnccocdaa", sum := "52f92300f121d4f2ff8dd6c3a9b9a66779102682db3aa8f66675108344395fa5", func := "loop.example/chainfiles/laws.FnPlaceWithout", spec := "fnPlaceWithout", unfollowed := true, recurses := true, apart := false }
def FnPlaceWithoutSaid : Prop := fnPlaceWithoutRow.holds Try.pinned (OpenSpec.ofChange fnPlaceWithoutSpec)

/-- ITS FALSE NEIGHBOUR: 'it returns false'. Refute it at one input. -/
def fnPlaceWithoutWrong : ChangeSpec := { name := "fnPlaceWithout", fn := fun _ => fun
  | [d1, d2] => { results := [.lit (.bool false)], args := [d1, d2] }
  | _ => none }
def FnPlaceWithoutWrongFalsely : Prop := fnPlaceWithoutRow.holds Try.pinned (OpenSpec.ofChange fnPlaceWithoutWrong)

/- THE SECOND FORM. 'bulk': how many values and letters a reading holds, each counted each time it is reached (what is shared counts as often as it is met; a slice's spare places count too). A statement '..UptoSaid' is the law's where the arguments, and the package variables that the reading takes, are together of bulk at most 1048576: NARROWER than '..Said'. Prove '..Said' where nothing that the law and all that it calls make is longer than what came in: it says more and counts as full. Else prove '..UptoSaid'. A law counts once. -/
mutual
def uptoBulk {H : Type} : DataW H → Nat
  | .lit (.string bytes) => bytes.length + 1
  | .lit _ => 1
  | .nil => 1
  | .ptr d => uptoBulk d + 1
  | .slice elems spare => uptoBulkAll elems + uptoBulkAll spare + 1
  | .agg parts => uptoBulkAll parts + 1
  | .iface _ d => uptoBulk d + 1
  | .map entries => uptoBulkEntries entries + 1
  | .held _ => 1
def uptoBulkAll {H : Type} : List (DataW H) → Nat
  | [] => 0
  | d :: r => uptoBulk d + uptoBulkAll r
def uptoBulkEntries {H : Type} : List (Lit × DataW H) → Nat
  | [] => 0
  | x :: r => uptoBulkEntry x + uptoBulkEntries r
def uptoBulkEntry {H : Type} : Lit × DataW H → Nat
  | (.string bytes, d) => bytes.length + uptoBulk d + 1
  | (_, d) => uptoBulk d + 1
 end
def uptoSmall : (H : Type) → List (DataW H) → Bool := fun _ ds => decide (uptoBulkAll ds ≤ 1048576)
def OpenSpec.upto (s : _root_.Go.ChangeSpec) : _root_.Go.OpenSpec := { _root_.Go.OpenSpec.ofChange s with cond := some uptoSmall }

/-- 'laws.FnExactPlaceScore', WHERE WHAT IT READS IS OF BULK AT MOST 1048576: true; the input reads as it did. -/
def fnExactPlaceScoreUptoRow : OpenClaim := { program := "ytielahdnccocdaa", sum := "52f92300f121d4f2ff8dd6c3a9b9a66779102682db3aa8f66675108344395fa5", func := "loop.example/chainfiles/laws.FnExactPlaceScore", spec := "fnExactPlaceScore", apart := false, narrowed := true }
def FnExactPlaceScoreUptoSaid : Prop := fnExactPlaceScoreUptoRow.holds Try.pinned (OpenSpec.upto fnExactPlaceScoreSpec)

/-- 'laws.FnExactServersValid', WHERE WHAT IT READS IS OF BULK AT MOST 1048576: true; the input reads as it did. -/
def fnExactServersValidUptoRow : OpenClaim := { program := "ytielahdnccocdaa", sum := "52f92300f121d4f2ff8dd6c3a9b9a66779102682db3aa8f66675108344395fa5", func := "loop.example/chainfiles/laws.FnExactServersValid", spec := "fnExactServersValid", apart := false, narrowed := true }
def FnExactServersValidUptoSaid : Prop := fnExactServersValidUptoRow.holds Try.pinned (OpenSpec.upto fnExactServersValidSpec)

/-- 'laws.FnScore', WHERE WHAT IT READS IS OF BULK AT MOST 1048576: true; the input reads as it did. -/
def fnScoreUptoRow : OpenClaim := { program := "ytielahdnccocdaa", sum := "52f92300f121d4f2ff8dd6c3a9b9a66779102682db3aa8f66675108344395fa5", func := "loop.example/chainfiles/laws.FnScore", spec := "fnScore", apart := false, narrowed := true }
def FnScoreUptoSaid : Prop := fnScoreUptoRow.holds Try.pinned (OpenSpec.upto fnScoreSpec)

/-- 'laws.FnServersPart', WHERE WHAT IT READS IS OF BULK AT MOST 1048576: true; the input reads as it did. -/
def fnServersPartUptoRow : OpenClaim := { program := "ytielahdnccocdaa", sum := "52f92300f121d4f2ff8dd6c3a9b9a66779102682db3aa8f66675108344395fa5", func := "loop.example/chainfiles/laws.FnServersPart", spec := "fnServersPart", apart := false, narrowed := true }
def FnServersPartUptoSaid : Prop := fnServersPartUptoRow.holds Try.pinned (OpenSpec.upto fnServersPartSpec)

/-- 'laws.FnExactPlaceOf', WHERE WHAT IT READS IS OF BULK AT MOST 1048576: true; the input reads as it did. -/
def fnExactPlaceOfUptoRow : OpenClaim := { program := "ytielahdnccocdaa", sum := "52f92300f121d4f2ff8dd6c3a9b9a66779102682db3aa8f66675108344395fa5", func := "loop.example/chainfiles/laws.FnExactPlaceOf", spec := "fnExactPlaceOf", unfollowed := true, recurses := true, apart := false, narrowed := true }
def FnExactPlaceOfUptoSaid : Prop := fnExactPlaceOfUptoRow.holds Try.pinned (OpenSpec.upto fnExactPlaceOfSpec)

/-- 'laws.FnPlaceMore', WHERE WHAT IT READS IS OF BULK AT MOST 1048576: true; the input reads as it did. -/
def fnPlaceMoreUptoRow : OpenClaim := { program := "ytielahdnccocdaa", sum := "52f92300f121d4f2ff8dd6c3a9b9a66779102682db3aa8f66675108344395fa5", func := "loop.example/chainfiles/laws.FnPlaceMore", spec := "fnPlaceMore", unfollowed := true, recurses := true, apart := false, narrowed := true }
def FnPlaceMoreUptoSaid : Prop := fnPlaceMoreUptoRow.holds Try.pinned (OpenSpec.upto fnPlaceMoreSpec)

/-- 'laws.FnPlace', WHERE WHAT IT READS IS OF BULK AT MOST 1048576: true; the input reads as it did. -/
def fnPlaceUptoRow : OpenClaim := { program := "ytielahdnccocdaa", sum := "52f92300f121d4f2ff8dd6c3a9b9a66779102682db3aa8f66675108344395fa5", func := "loop.example/chainfiles/laws.FnPlace", spec := "fnPlace", unfollowed := true, recurses := true, apart := false, narrowed := true }
def FnPlaceUptoSaid : Prop := fnPlaceUptoRow.holds Try.pinned (OpenSpec.upto fnPlaceSpec)

/-- 'laws.FnPlaceBest', WHERE WHAT IT READS IS OF BULK AT MOST 1048576: true; the input reads as it did. -/
def fnPlaceBestUptoRow : OpenClaim := { program := "ytielahdnccocdaa", sum := "52f92300f121d4f2ff8dd6c3a9b9a66779102682db3aa8f66675108344395fa5", func := "loop.example/chainfiles/laws.FnPlaceBest", spec := "fnPlaceBest", unfollowed := true, recurses := true, apart := false, narrowed := true }
def FnPlaceBestUptoSaid : Prop := fnPlaceBestUptoRow.holds Try.pinned (OpenSpec.upto fnPlaceBestSpec)

/-- 'laws.FnPlaceGone', WHERE WHAT IT READS IS OF BULK AT MOST 1048576: true; the input reads as it did. -/
def fnPlaceGoneUptoRow : OpenClaim := { program := "ytielahdnccocdaa", sum := "52f92300f121d4f2ff8dd6c3a9b9a66779102682db3aa8f66675108344395fa5", func := "loop.example/chainfiles/laws.FnPlaceGone", spec := "fnPlaceGone", unfollowed := true, recurses := true, apart := false, narrowed := true }
def FnPlaceGoneUptoSaid : Prop := fnPlaceGoneUptoRow.holds Try.pinned (OpenSpec.upto fnPlaceGoneSpec)

/-- 'laws.FnPlaceWithout', WHERE WHAT IT READS IS OF BULK AT MOST 1048576: true; the input reads as it did. -/
def fnPlaceWithoutUptoRow : OpenClaim := { program := "ytielahdnccocdaa", sum := "52f92300f121d4f2ff8dd6c3a9b9a66779102682db3aa8f66675108344395fa5", func := "loop.example/chainfiles/laws.FnPlaceWithout", spec := "fnPlaceWithout", unfollowed := true, recurses := true, apart := false, narrowed := true }
def FnPlaceWithoutUptoSaid : Prop := fnPlaceWithoutUptoRow.holds Try.pinned (OpenSpec.upto fnPlaceWithoutSpec)

end Rows
end Go.Proofs.Ytielahdnccocdaa
