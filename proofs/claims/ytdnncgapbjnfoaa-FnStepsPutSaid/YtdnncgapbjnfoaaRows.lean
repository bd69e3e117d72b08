/-
  No cell of these rows narrows 'for every input' (looked for: loops, veiled, ifaces, maps, wideKeys, modest, calm, conditions, laid).
  DERIVED. THE GIVEN ROWS OF THIS SEAT. 4 by the template 'for every input the law returns true; each argument reads behind the call as it read before'; 0 by the template 'total and deterministic' (their statements: YtdnncgapbjnfoaaTotals.lean).
  GIVEN WITH THE SEED: the statements are not yours to turn. If you find one false, say at which input.
  Laid BY PROGRAM, IN A SANDBOX (cutbox-rows.mjs): the forced cells as the released guide's own fill.sh prints them over the translation bb912c387a82e7c3… (all of the seat's roots in one cut). By AI agents, Wed Nov 11 2026. No macro, syntax, notation, axiom, sorry.
-/
import Derived.Test.YtdnncgapbjnfoaaChecked
import GoSem.Claim
import GoSem.ClaimJoined
import GoSem.ClaimMapViews
import Derived.JoinedTies
import Derived.KernelRfl
namespace Go.Proofs.Ytdnncgapbjnfoaa
/- THE CELL 'sum', in the pinned program and in every row, IS THE sha256 OF THE DUMP (.gsa) THAT YtdnncgapbjnfoaaProg.lean LOADS. Nothing in Lean hashes anything: it is a label: what it is worth is what the hold of that sum in a sandbox is worth. -/
noncomputable def Try.pinned : Pinned := { name := "ytdnncgapbjnfoaa", sum := "bb912c387a82e7c3188576f4f7fed55dc524441f5ac86b4564faa4928fc734f7", checked := Try.checked }
namespace Rows
def none {H : Type} : Left H := { results := [], args := [] }

/-- 'laws.FnStepsPut': WHATEVER THE INPUT: true; the input reads as it did. -/
def fnStepsPutSpec : ChangeSpec := { name := "fnStepsPut", fn := fun _ => fun
  | [d] => { results := [.lit (.bool true)], args := [d] }
  | _ => none }
def fnStepsPutRow : OpenClaim := { program := "ytdnncgapbjnfoaa", sum := "bb912c387a82e7c3188576f4f7fed55dc524441f5ac86b4564faa4928fc734f7", func := "loop.example/chainfiles/laws.FnStepsPut", spec := "fnStepsPut", unfollowed := true, recurses := true, apart := false }
def FnStepsPutSaid : Prop := fnStepsPutRow.holds Try.pinned (OpenSpec.ofChange fnStepsPutSpec)

/-- ITS FALSE NEIGHBOUR: 'it returns false'. Refute it at one input. -/
def fnStepsPutWrong : ChangeSpec := { name := "fnStepsPut", fn := fun _ => fun
  | [d] => { results := [.lit (.bool false)], args := [d] }
  | _ => none }
def FnStepsPutWrongFalsely : Prop := fnStepsPutRow.holds Try.pinned (OpenSpec.ofChange fnStepsPutWrong)

/-- 'laws.FnStepsLog': WHATEVER THE INPUT: true; the input reads as it did. -/
def fnStepsLogSpec : ChangeSpec := { name := "fnStepsLog", fn := fun _ => fun
  | [d] => { results := [.lit (.bool true)], args := [d] }
  | _ => none }
def fnStepsLogRow : OpenClaim := { program := "ytdnncgapbjnfoaa", sum := "bb912c387a82e7c3188576f4f7fed55dc524441f5ac86b4564faa4928fc734f7", func := "loop.example/chainfiles/laws.FnStepsLog", spec := "fnStepsLog", unfollowed := true, recurses := true, apart := false }
def FnStepsLogSaid : Prop := fnStepsLogRow.holds Try.pinned (OpenSpec.ofChange fnStepsLogSpec)

/-- ITS FALSE NEIGHBOUR: 'it returns false'. Refute it at one input. -/
def fnStepsLogWrong : ChangeSpec := { name := "fnStepsLog", fn := fun _ => fun
  | [d] => { results := [.lit (.bool false)], args := [d] }
  | _ => none }
def FnStepsLogWrongFalsely : Prop := fnStepsLogRow.holds Try.pinned (OpenSpec.ofChange fnStepsLogWrong)

/-- 'laws.FnExactStepsLog': WHATEVER THE INPUT: true; the input reads as it did. -/
def fnExactStepsLogSpec : ChangeSpec := { name := "fnExactStepsLog", fn := fun _ => fun
  | [d] => { results := [.lit (.bool true)], args := [d] }
  | _ => none }
def fnExactStepsLogRow : OpenClaim := { program := "ytdnncgapbjnfoaa", sum := "bb912c387a82e7c3188576f4f7fed55dc524441f5ac86b4564faa4928fc734f7", func := "loop.example/chainfiles/laws.FnExactStepsLog", spec := "fnExactStepsLog", unfollowed := true, recurses := true, apart := false }
def FnExactStepsLogSaid : Prop := fnExactStepsLogRow.holds Try.pinned (OpenSpec.ofChange fnExactStepsLogSpec)

/-- ITS FALSE NEIGHBOUR: 'it returns false'. Refute it at one input. -/
def fnExactStepsLogWrong : ChangeSpec := { name := "fnExactStepsLog", fn := fun _ => fun
  | [d] => { results := [.lit (.bool false)], args := [d] }
  | _ => none }
def FnExactStepsLogWrongFalsely : Prop := fnExactStepsLogRow.holds Try.pinned (OpenSpec.ofChange fnExactStepsLogWrong)

/-- 'laws.FnStepsRead': WHATEVER THE INPUT: true; the input reads as it did. -/
def fnStepsReadSpec : ChangeSpec := { name := "fnStepsRead", fn := fun _ => fun
  | [d] => { results := [.lit (.bool true)], args := [d] }
  | _ => none }
def fnStepsReadRow : OpenClaim := { program := "ytdnncgapbjnfoaa", sum := "bb912c387a82e7c3188576f4f7fed55dc524441f5ac86b4564faa4928fc734f7", func := "loop.example/chainfiles/laws.FnStepsRead", spec := "fnStepsRead", unfollowed := true, recurses := true, apart := false }
def FnStepsReadSaid : Prop := fnStepsReadRow.holds Try.pinned (OpenSpec.ofChange fnStepsReadSpec)

/-- ITS FALSE NEIGHBOUR: 'it returns false'. Refute it at one input. -/
def fnStepsReadWrong : ChangeSpec := { name := "fnStepsRead", fn := fun _ => fun
  | [d] => { results := [.lit (.bool false)], args := [d] }
  | _ => none }
def FnStepsReadWrongFalsely : Prop := fnStepsReadRow.holds Try.pinned (OpenSpec.ofChange fnStepsReadWrong)

/- THE SECOND FORM. 'bulk': how many values and letters a reading holds, each counted each time it is reached (what is shared counts as often as it is met; a slice's spare places count too). A statement '..UptoSaid' is the law's where the arguments, and the package variables that the reading takes, are together of bulk at most 1048576: NARROWER than '..Said'. Prove '..Said' where nothing that the law and all that it calls make is longer than what came in: it says more and counts as full. Else prove '..UptoSaid'. A law counts once. -/
mutual
def uptoBulk {H : Type} : DataW H → Nat
  | .lit (.string bytes) => bytes.length + 1
  | .lit _ => 1
  | .nil => 1
  | .ptr d => uptoBulk d + 1
  | .slice elems spare => uptoBulkAll elems + uptoBulkAll spare + 1
  | .agg parts => uptoBulkAll parts + 1
  | .iface _ d => uptoBulk d + 1
  | .map entries => uptoBulkEntries entries + 1
  | .held _ => 1
def uptoBulkAll {H : Type} : List (DataW H) → Nat
  | [] => 0
  | d :: r => uptoBulk d + uptoBulkAll r
def uptoBulkEntries {H : Type} : List (Lit × DataW H) → Nat
  | [] => 0
  | x :: r => uptoBulkEntry x + uptoBulkEntries r
def uptoBulkEntry {H : Type} : Lit × DataW H → Nat
  | (.string bytes, d) => bytes.length + uptoBulk d + 1
  | (_, d) => uptoBulk d + 1
 end
def uptoSmall : (H : Type) → List (DataW H) → Bool := fun _ ds => decide (uptoBulkAll ds ≤ 1048576)
def OpenSpec.upto (s : _root_.Go.ChangeSpec) : _root_.Go.OpenSpec := { _root_.Go.OpenSpec.ofChange s with cond := some uptoSmall }

/-- 'laws.FnStepsPut', WHERE WHAT IT READS IS OF BULK AT MOST 1048576: true; the input reads as it did. -/
def fnStepsPutUptoRow : OpenClaim := { program := "ytdnncgapbjnfoaa", sum := "bb912c387a82e7c3188576f4f7fed55dc524441f5ac86b4564faa4928fc734f7", func := "loop.example/chainfiles/laws.FnStepsPut", spec := "fnStepsPut", unfollowed := true, recurses := true, apart := false, narrowed := true }
def FnStepsPutUptoSaid : Prop := fnStepsPutUptoRow.holds Try.pinned (OpenSpec.upto fnStepsPutSpec)

/-- 'laws.FnStepsLog', WHERE WHAT IT READS IS OF BULK AT MOST 1048576: true; the input reads as it did. -/
def fnStepsLogUptoRow : OpenClaim := { program := "ytdnncgapbjnfoaa", sum := "bb912c387a82e7c3188576f4f7fed55dc524441f5ac86b4564faa4928fc734f7", func := "loop.example/chainfiles/laws.FnStepsLog", spec := "fnStepsLog", unfollowed := true, recurses := true, apart := false, narrowed := true }
def FnStepsLogUptoSaid : Prop := fnStepsLogUptoRow.holds Try.pinned (OpenSpec.upto fnStepsLogSpec)

/-- 'laws.FnExactStepsLog', WHERE WHAT IT READS IS OF BULK AT MOST 1048576: true; the input reads as it did. -/
def fnExactStepsLogUptoRow : OpenClaim := { program := "ytdnncgapbjnfoaa", sum := "bb912c387a82e7c3188576f4f7fed55dc524441f5ac86b4564faa4928fc734f7", func := "loop.example/chainfiles/laws.FnExactStepsLog", spec := "fnExactStepsLog", unfollowed := true, recurses := true, apart := false, narrowed := true }
def FnExactStepsLogUptoSaid : Prop := fnExactStepsLogUptoRow.holds Try.pinned (OpenSpec.upto fnExactStepsLogSpec)

/-- 'laws.FnStepsRead', WHERE WHAT IT READS IS OF BULK AT MOST 1048576: true; the input reads as it did. -/
def fnStepsReadUptoRow : OpenClaim := { program := "ytdnncgapbjnfoaa", sum := "bb912c387a82e7c3188576f4f7fed55dc524441f5ac86b4564faa4928fc734f7", func := "loop.example/chainfiles/laws.FnStepsRead", spec := "fnStepsRead", unfollowed := true, recurses := true, apart := false, narrowed := true }
def FnStepsReadUptoSaid : Prop := fnStepsReadUptoRow.holds Try.pinned (OpenSpec.upto fnStepsReadSpec)

end Rows
end Go.Proofs.Ytdnncgapbjnfoaa
