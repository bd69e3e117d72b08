/-
  No cell of these rows narrows 'for every input' (looked for: loops, veiled, ifaces, maps, wideKeys, modest, calm, conditions, laid).
  DERIVED. THE GIVEN ROWS OF THIS SEAT. 5 by the template 'for every input the law returns true; each argument reads behind the call as it read before'; 0 by the template 'total and deterministic' (their statements: YtpnenfglogggmaaTotals.lean).
  GIVEN WITH THE SEED: the statements are not yours to turn. If you find one false, say at which input.
  Laid BY PROGRAM, IN A SANDBOX (cutbox-rows.mjs): the forced cells as the released guide's own fill.sh prints them over the translation 37a6d90bcb18549f… (all of the seat's roots in one cut). By AI agents, Wed Nov 11 2026. No macro, syntax, notation, axiom, sorry.
-/
import Derived.Test.YtpnenfglogggmaaChecked
import GoSem.Claim
import GoSem.ClaimJoined
import GoSem.ClaimMapViews
import Derived.JoinedTies
import Derived.KernelRfl
namespace Go.Proofs.Ytpnenfglogggmaa
/- THE CELL 'sum', in the pinned program and in every row, IS THE sha256 OF THE DUMP (.gsa) THAT YtpnenfglogggmaaProg.lean LOADS. Nothing in Lean hashes anything: it is a label: what it is worth is what the hold of that sum in a sandbox is worth. -/
noncomputable def Try.pinned : Pinned := { name := "ytpnenfglogggmaa", sum := "37a6d90bcb18549f01767988471e29e9bc3e4c6a4b621fe9f2ce74faad8dc495", checked := Try.checked }
namespace Rows
def none {H : Type} : Left H := { results := [], args := [] }

/-- 'laws.FnBasePart': WHATEVER THE INPUT: true; the input reads as it did. -/
def fnBasePartSpec : ChangeSpec := { name := "fnBasePart", fn := fun _ => fun
  | [d] => { results := [.lit (.bool true)], args := [d] }
  | _ => none }
def fnBasePartRow : OpenClaim := { program := "ytpnenfglogggmaa", sum := "37a6d90bcb18549f01767988471e29e9bc3e4c6a4b621fe9f2ce74faad8dc495", func := "loop.example/chainfiles/laws.FnBasePart", spec := "fnBasePart", apart := false }
def FnBasePartSaid : Prop := fnBasePartRow.holds Try.pinned (OpenSpec.ofChange fnBasePartSpec)

/-- ITS FALSE NEIGHBOUR: 'it returns false'. Refute it at one input. -/
def fnBasePartWrong : ChangeSpec := { name := "fnBasePart", fn := fun _ => fun
  | [d] => { results := [.lit (.bool false)], args := [d] }
  | _ => none }
def FnBasePartWrongFalsely : Prop := fnBasePartRow.holds Try.pinned (OpenSpec.ofChange fnBasePartWrong)

/-- 'laws.FnExactBaseValid': WHATEVER THE INPUT: true; the input reads as it did. -/
def fnExactBaseValidSpec : ChangeSpec := { name := "fnExactBaseValid", fn := fun _ => fun
  | [d] => { results := [.lit (.bool true)], args := [d] }
  | _ => none }
def fnExactBaseValidRow : OpenClaim := { program := "ytpnenfglogggmaa", sum := "37a6d90bcb18549f01767988471e29e9bc3e4c6a4b621fe9f2ce74faad8dc495", func := "loop.example/chainfiles/laws.FnExactBaseValid", spec := "fnExactBaseValid", apart := false }
def FnExactBaseValidSaid : Prop := fnExactBaseValidRow.holds Try.pinned (OpenSpec.ofChange fnExactBaseValidSpec)

/-- ITS FALSE NEIGHBOUR: 'it returns false'. Refute it at one input. -/
def fnExactBaseValidWrong : ChangeSpec := { name := "fnExactBaseValid", fn := fun _ => fun
  | [d] => { results := [.lit (.bool false)], args := [d] }
  | _ => none }
def FnExactBaseValidWrongFalsely : Prop := fnExactBaseValidRow.holds Try.pinned (OpenSpec.ofChange fnExactBaseValidWrong)

/-- 'laws.FnRun': WHATEVER THE INPUT: true; the input reads as it did. -/
def fnRunSpec : ChangeSpec := { name := "fnRun", fn := fun _ => fun
  | [d] => { results := [.lit (.bool true)], args := [d] }
  | _ => none }
def fnRunRow : OpenClaim := { program := "ytpnenfglogggmaa", sum := "37a6d90bcb18549f01767988471e29e9bc3e4c6a4b621fe9f2ce74faad8dc495", func := "loop.example/chainfiles/laws.FnRun", spec := "fnRun", unfollowed := true, recurses := true, apart := false }
def FnRunSaid : Prop := fnRunRow.holds Try.pinned (OpenSpec.ofChange fnRunSpec)

/-- ITS FALSE NEIGHBOUR: 'it returns false'. Refute it at one input. -/
def fnRunWrong : ChangeSpec := { name := "fnRun", fn := fun _ => fun
  | [d] => { results := [.lit (.bool false)], args := [d] }
  | _ => none }
def FnRunWrongFalsely : Prop := fnRunRow.holds Try.pinned (OpenSpec.ofChange fnRunWrong)

/-- 'laws.FnRunOn': WHATEVER THE INPUT: true; the input reads as it did. -/
def fnRunOnSpec : ChangeSpec := { name := "fnRunOn", fn := fun _ => fun
  | [d1, d2] => { results := [.lit (.bool true)], args := [d1, d2] }
  | _ => none }
def fnRunOnRow : OpenClaim := { program := "ytpnenfglogggmaa", sum := "37a6d90bcb18549f01767988471e29e9bc3e4c6a4b621fe9f2ce74faad8dc495", func := "loop.example/chainfiles/laws.FnRunOn", spec := "fnRunOn", unfollowed := true, recurses := true, apart := false }
def FnRunOnSaid : Prop := fnRunOnRow.holds Try.pinned (OpenSpec.ofChange fnRunOnSpec)

/-- ITS FALSE NEIGHBOUR: 'it returns false'. Refute it at one input. -/
def fnRunOnWrong : ChangeSpec := { name := "fnRunOn", fn := fun _ => fun
  | [d1, d2] => { results := [.lit (.bool false)], args := [d1, d2] }
  | _ => none }
def FnRunOnWrongFalsely : Prop := fnRunOnRow.holds Try.pinned (OpenSpec.ofChange fnRunOnWrong)

/-- 'laws.FnBase': WHATEVER THE INPUT: true; the input reads as it did. -/
def fnBaseSpec : ChangeSpec := { name := "fnBase", fn := fun _ => fun
  | [d] => { results := [.lit (.bool true)], args := [d] }
  | _ => none }
def fnBaseRow : OpenClaim := { program := "ytpnenfglogggmaa", sum := "37a6d90bcb18549f01767988471e29e9bc3e4c6a4b621fe9f2ce74faad8dc495", func := "loop.example/chainfiles/laws.FnBase", spec := "fnBase", apart := false }
def FnBaseSaid : Prop := fnBaseRow.holds Try.pinned (OpenSpec.ofChange fnBaseSpec)

/-- ITS FALSE NEIGHBOUR: 'it returns false'. Refute it at one input. -/
def fnBaseWrong : ChangeSpec := { name := "fnBase", fn := fun _ => fun
  | [d] => { results := [.lit (.bool false)], args := [d] }
  | _ => none }
def FnBaseWrongFalsely : Prop := fnBaseRow.holds Try.pinned (OpenSpec.ofChange fnBaseWrong)

/- THE SECOND FORM. 'bulk': how many values and letters a reading holds, each counted each time it is reached (what is shared counts as often as it is met; a slice's spare places count too). A statement '..UptoSaid' is the law's where the arguments, and the package variables that the reading takes, are together of bulk at most 1048576: NARROWER than '..Said'. Prove '..Said' where nothing that the law and all that it calls make is longer than what came in: it says more and counts as full. Else prove '..UptoSaid'. A law counts once. -/
mutual
def uptoBulk {H : Type} : DataW H → Nat
  | .lit (.string bytes) => bytes.length + 1
  | .lit _ => 1
  | .nil => 1
  | .ptr d => uptoBulk d + 1
  | .slice elems spare => uptoBulkAll elems + uptoBulkAll spare + 1
  | .agg parts => uptoBulkAll parts + 1
  | .iface _ d => uptoBulk d + 1
  | .map entries => uptoBulkEntries entries + 1
  | .held _ => 1
def uptoBulkAll {H : Type} : List (DataW H) → Nat
  | [] => 0
  | d :: r => uptoBulk d + uptoBulkAll r
def uptoBulkEntries {H : Type} : List (Lit × DataW H) → Nat
  | [] => 0
  | x :: r => uptoBulkEntry x + uptoBulkEntries r
def uptoBulkEntry {H : Type} : Lit × DataW H → Nat
  | (.string bytes, d) => bytes.length + uptoBulk d + 1
  | (_, d) => uptoBulk d + 1
 end
def uptoSmall : (H : Type) → List (DataW H) → Bool := fun _ ds => decide (uptoBulkAll ds ≤ 1048576)
def OpenSpec.upto (s : _root_.Go.ChangeSpec) : _root_.Go.OpenSpec := { _root_.Go.OpenSpec.ofChange s with cond := some uptoSmall }

/-- 'laws.FnBasePart', WHERE WHAT IT READS IS OF BULK AT MOST 1048576: true; the input reads as it did. -/
def fnBasePartUptoRow : OpenClaim := { program := "ytpnenfglogggmaa", sum := "37a6d90bcb18549f01767988471e29e9bc3e4c6a4b621fe9f2ce74faad8dc495", func := "loop.example/chainfiles/laws.FnBasePart", spec := "fnBasePart", apart := false, narrowed := true }
def FnBasePartUptoSaid : Prop := fnBasePartUptoRow.holds Try.pinned (OpenSpec.upto fnBasePartSpec)

/-- 'laws.FnExactBaseValid', WHERE WHAT IT READS IS OF BULK AT MOST 1048576: true; the input reads as it did. -/
def fnExactBaseValidUptoRow : OpenClaim := { program := "ytpnenfglogggmaa", sum := "37a6d90bcb18549f01767988471e29e9bc3e4c6a4b621fe9f2ce74faad8dc495", func := "loop.example/chainfiles/laws.FnExactBaseValid", spec := "fnExactBaseValid", apart := false, narrowed := true }
def FnExactBaseValidUptoSaid : Prop := fnExactBaseValidUptoRow.holds Try.pinned (OpenSpec.upto fnExactBaseValidSpec)

/-- 'laws.FnRun', WHERE WHAT IT READS IS OF BULK AT MOST 1048576: true; the input reads as it did. -/
def fnRunUptoRow : OpenClaim := { program := "ytpnenfglogggmaa", sum := "37a6d90bcb18549f01767988471e29e9bc3e4c6a4b621fe9f2ce74faad8dc495", func := "loop.example/chainfiles/laws.FnRun", spec := "fnRun", unfollowed := true, recurses := true, apart := false, narrowed := true }
def FnRunUptoSaid : Prop := fnRunUptoRow.holds Try.pinned (OpenSpec.upto fnRunSpec)

/-- 'laws.FnRunOn', WHERE WHAT IT READS IS OF BULK AT MOST 1048576: true; the input reads as it did. -/
def fnRunOnUptoRow : OpenClaim := { program := "ytpnenfglogggmaa", sum := "37a6d90bcb18549f01767988471e29e9bc3e4c6a4b621fe9f2ce74faad8dc495", func := "loop.example/chainfiles/laws.FnRunOn", spec := "fnRunOn", unfollowed := true, recurses := true, apart := false, narrowed := true }
def FnRunOnUptoSaid : Prop := fnRunOnUptoRow.holds Try.pinned (OpenSpec.upto fnRunOnSpec)

/-- 'laws.FnBase', WHERE WHAT IT READS IS OF BULK AT MOST 1048576: true; the input reads as it did. -/
def fnBaseUptoRow : OpenClaim := { program := "ytpnenfglogggmaa", sum := "37a6d90bcb18549f01767988471e29e9bc3e4c6a4b621fe9f2ce74faad8dc495", func := "loop.example/chainfiles/laws.FnBase", spec := "fnBase", apart := false, narrowed := true }
def FnBaseUptoSaid : Prop := fnBaseUptoRow.holds Try.pinned (OpenSpec.upto fnBaseSpec)

end Rows
end Go.Proofs.Ytpnenfglogggmaa
