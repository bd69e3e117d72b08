/-
  No cell of these rows narrows 'for every input' (looked for: loops, veiled, ifaces, maps, wideKeys, modest, calm, conditions, laid).
  DERIVED. THE GIVEN ROWS OF THIS SEAT. 13 by the template 'for every input the law returns true; each argument reads behind the call as it read before'; 0 by the template 'total and deterministic' (their statements: YtnkjljjcionfiaaTotals.lean).
  GIVEN WITH THE SEED: the statements are not yours to turn. If you find one false, say at which input.
  Laid BY PROGRAM, IN A SANDBOX (cutbox-rows.mjs): the forced cells as the released guide's own fill.sh prints them over the translation 02f5226ec3083918… (all of the seat's roots in one cut). By AI agents, Wed Nov 11 2026. No macro, syntax, notation, axiom, sorry.
-/
import Derived.Test.YtnkjljjcionfiaaChecked
import GoSem.Claim
import GoSem.ClaimJoined
import GoSem.ClaimMapViews
import Derived.JoinedTies
import Derived.KernelRfl
namespace Go.Proofs.Ytnkjljjcionfiaa
/- THE CELL 'sum', in the pinned program and in every row, IS THE sha256 OF THE DUMP (.gsa) THAT YtnkjljjcionfiaaProg.lean LOADS. Nothing in Lean hashes anything: it is a label: what it is worth is what the hold of that sum in a sandbox is worth. -/
noncomputable def Try.pinned : Pinned := { name := "ytnkjljjcionfiaa", sum := "02f5226ec30839181de07ab3bf0d5bf92af5aed8d86e59eee999a6023433c1bb", checked := Try.checked }
namespace Rows
def none {H : Type} : Left H := { results := [], args := [] }

/-- 'laws.FnBeatsPart': WHATEVER THE INPUT: true; the input reads as it did. -/
def fnBeatsPartSpec : ChangeSpec := { name := "fnBeatsPart", fn := fun _ => fun
  | [d1, d2] => { results := [.lit (.bool true)], args := [d1, d2] }
  | _ => none }
def fnBeatsPartRow : OpenClaim := { program := "ytnkjljjcionfiaa", sum := "02f5226ec30839181de07ab3bf0d5bf92af5aed8d86e59eee999a6023433c1bb", func := "loop.example/chainfiles/laws.FnBeatsPart", spec := "fnBeatsPart", apart := false }
def FnBeatsPartSaid : Prop := fnBeatsPartRow.holds Try.pinned (OpenSpec.ofChange fnBeatsPartSpec)

/-- ITS FALSE NEIGHBOUR: 'it returns false'. Refute it at one input. -/
def fnBeatsPartWrong : ChangeSpec := { name := "fnBeatsPart", fn := fun _ => fun
  | [d1, d2] => { results := [.lit (.bool false)], args := [d1, d2] }
  | _ => none }
def FnBeatsPartWrongFalsely : Prop := fnBeatsPartRow.holds Try.pinned (OpenSpec.ofChange fnBeatsPartWrong)

/-- 'laws.FnExactBeatsValid': WHATEVER THE INPUT: true; the input reads as it did. -/
def fnExactBeatsValidSpec : ChangeSpec := { name := "fnExactBeatsValid", fn := fun _ => fun
  | [d] => { results := [.lit (.bool true)], args := [d] }
  | _ => none }
def fnExactBeatsValidRow : OpenClaim := { program := "ytnkjljjcionfiaa", sum := "02f5226ec30839181de07ab3bf0d5bf92af5aed8d86e59eee999a6023433c1bb", func := "loop.example/chainfiles/laws.FnExactBeatsValid", spec := "fnExactBeatsValid", apart := false }
def FnExactBeatsValidSaid : Prop := fnExactBeatsValidRow.holds Try.pinned (OpenSpec.ofChange fnExactBeatsValidSpec)

/-- ITS FALSE NEIGHBOUR: 'it returns false'. Refute it at one input. -/
def fnExactBeatsValidWrong : ChangeSpec := { name := "fnExactBeatsValid", fn := fun _ => fun
  | [d] => { results := [.lit (.bool false)], args := [d] }
  | _ => none }
def FnExactBeatsValidWrongFalsely : Prop := fnExactBeatsValidRow.holds Try.pinned (OpenSpec.ofChange fnExactBeatsValidWrong)

/-- 'laws.FnAlive': WHATEVER THE INPUT: true; the input reads as it did. -/
def fnAliveSpec : ChangeSpec := { name := "fnAlive", fn := fun _ => fun
  | [d] => { results := [.lit (.bool true)], args := [d] }
  | _ => none }
def fnAliveRow : OpenClaim := { program := "ytnkjljjcionfiaa", sum := "02f5226ec30839181de07ab3bf0d5bf92af5aed8d86e59eee999a6023433c1bb", func := "loop.example/chainfiles/laws.FnAlive", spec := "fnAlive", inPlace := ["(*internal/sync.Mutex).Lock", "internal/race.Disable", "sync/atomic.CompareAndSwapInt32", "internal/race.Enable", "internal/race.Acquire", "(*internal/sync.Mutex).lockSlow", "internal/sync.runtime_canSpin", "internal/sync.runtime_doSpin", "internal/sync.throw", "internal/sync.runtime_nanotime", "internal/sync.runtime_SemacquireMutex", "sync/atomic.AddInt32", "(*internal/sync.Mutex).Unlock", "internal/race.ReleaseMerge", "(*internal/sync.Mutex).unlockSlow", "internal/sync.fatal", "internal/sync.runtime_Semrelease"], apart := false }
def FnAliveSaid : Prop := fnAliveRow.holds Try.pinned (OpenSpec.ofChange fnAliveSpec)

/-- ITS FALSE NEIGHBOUR: 'it returns false'. Refute it at one input. -/
def fnAliveWrong : ChangeSpec := { name := "fnAlive", fn := fun _ => fun
  | [d] => { results := [.lit (.bool false)], args := [d] }
  | _ => none }
def FnAliveWrongFalsely : Prop := fnAliveRow.holds Try.pinned (OpenSpec.ofChange fnAliveWrong)

/-- 'laws.FnAliveLonger': WHATEVER THE INPUT: true; the input reads as it did. -/
def fnAliveLongerSpec : ChangeSpec := { name := "fnAliveLonger", fn := fun _ => fun
  | [d] => { results := [.lit (.bool true)], args := [d] }
  | _ => none }
def fnAliveLongerRow : OpenClaim := { program := "ytnkjljjcionfiaa", sum := "02f5226ec30839181de07ab3bf0d5bf92af5aed8d86e59eee999a6023433c1bb", func := "loop.example/chainfiles/laws.FnAliveLonger", spec := "fnAliveLonger", inPlace := ["(*internal/sync.Mutex).Lock", "internal/race.Disable", "sync/atomic.CompareAndSwapInt32", "internal/race.Enable", "internal/race.Acquire", "(*internal/sync.Mutex).lockSlow", "internal/sync.runtime_canSpin", "internal/sync.runtime_doSpin", "internal/sync.throw", "internal/sync.runtime_nanotime", "internal/sync.runtime_SemacquireMutex", "sync/atomic.AddInt32", "(*internal/sync.Mutex).Unlock", "internal/race.ReleaseMerge", "(*internal/sync.Mutex).unlockSlow", "internal/sync.fatal", "internal/sync.runtime_Semrelease"], apart := false }
def FnAliveLongerSaid : Prop := fnAliveLongerRow.holds Try.pinned (OpenSpec.ofChange fnAliveLongerSpec)

/-- ITS FALSE NEIGHBOUR: 'it returns false'. Refute it at one input. -/
def fnAliveLongerWrong : ChangeSpec := { name := "fnAliveLonger", fn := fun _ => fun
  | [d] => { results := [.lit (.bool false)], args := [d] }
  | _ => none }
def FnAliveLongerWrongFalsely : Prop := fnAliveLongerRow.holds Try.pinned (OpenSpec.ofChange fnAliveLongerWrong)

/-- 'laws.FnDeadLater': WHATEVER THE INPUT: true; the input reads as it did. -/
def fnDeadLaterSpec : ChangeSpec := { name := "fnDeadLater", fn := fun _ => fun
  | [d] => { results := [.lit (.bool true)], args := [d] }
  | _ => none }
def fnDeadLaterRow : OpenClaim := { program := "ytnkjljjcionfiaa", sum := "02f5226ec30839181de07ab3bf0d5bf92af5aed8d86e59eee999a6023433c1bb", func := "loop.example/chainfiles/laws.FnDeadLater", spec := "fnDeadLater", inPlace := ["(*internal/sync.Mutex).Lock", "internal/race.Disable", "sync/atomic.CompareAndSwapInt32", "internal/race.Enable", "internal/race.Acquire", "(*internal/sync.Mutex).lockSlow", "internal/sync.runtime_canSpin", "internal/sync.runtime_doSpin", "internal/sync.throw", "internal/sync.runtime_nanotime", "internal/sync.runtime_SemacquireMutex", "sync/atomic.AddInt32", "(*internal/sync.Mutex).Unlock", "internal/race.ReleaseMerge", "(*internal/sync.Mutex).unlockSlow", "internal/sync.fatal", "internal/sync.runtime_Semrelease"], apart := false }
def FnDeadLaterSaid : Prop := fnDeadLaterRow.holds Try.pinned (OpenSpec.ofChange fnDeadLaterSpec)

/-- ITS FALSE NEIGHBOUR: 'it returns false'. Refute it at one input. -/
def fnDeadLaterWrong : ChangeSpec := { name := "fnDeadLater", fn := fun _ => fun
  | [d] => { results := [.lit (.bool false)], args := [d] }
  | _ => none }
def FnDeadLaterWrongFalsely : Prop := fnDeadLaterRow.holds Try.pinned (OpenSpec.ofChange fnDeadLaterWrong)

/-- 'laws.FnAliveDead': WHATEVER THE INPUT: true; the input reads as it did. -/
def fnAliveDeadSpec : ChangeSpec := { name := "fnAliveDead", fn := fun _ => fun
  | [d] => { results := [.lit (.bool true)], args := [d] }
  | _ => none }
def fnAliveDeadRow : OpenClaim := { program := "ytnkjljjcionfiaa", sum := "02f5226ec30839181de07ab3bf0d5bf92af5aed8d86e59eee999a6023433c1bb", func := "loop.example/chainfiles/laws.FnAliveDead", spec := "fnAliveDead", inPlace := ["(*internal/sync.Mutex).Lock", "internal/race.Disable", "sync/atomic.CompareAndSwapInt32", "internal/race.Enable", "internal/race.Acquire", "(*internal/sync.Mutex).lockSlow", "internal/sync.runtime_canSpin", "internal/sync.runtime_doSpin", "internal/sync.throw", "internal/sync.runtime_nanotime", "internal/sync.runtime_SemacquireMutex", "sync/atomic.AddInt32", "(*internal/sync.Mutex).Unlock", "internal/race.ReleaseMerge", "(*internal/sync.Mutex).unlockSlow", "internal/sync.fatal", "internal/sync.runtime_Semrelease"], apart := false }
def FnAliveDeadSaid : Prop := fnAliveDeadRow.holds Try.pinned (OpenSpec.ofChange fnAliveDeadSpec)

/-- ITS FALSE NEIGHBOUR: 'it returns false'. Refute it at one input. -/
def fnAliveDeadWrong : ChangeSpec := { name := "fnAliveDead", fn := fun _ => fun
  | [d] => { results := [.lit (.bool false)], args := [d] }
  | _ => none }
def FnAliveDeadWrongFalsely : Prop := fnAliveDeadRow.holds Try.pinned (OpenSpec.ofChange fnAliveDeadWrong)

/-- 'laws.FnExactBeatsAlive': WHATEVER THE INPUT: true; the input reads as it did. -/
def fnExactBeatsAliveSpec : ChangeSpec := { name := "fnExactBeatsAlive", fn := fun _ => fun
  | [d1, d2, d3] => { results := [.lit (.bool true)], args := [d1, d2, d3] }
  | _ => none }
def fnExactBeatsAliveRow : OpenClaim := { program := "ytnkjljjcionfiaa", sum := "02f5226ec30839181de07ab3bf0d5bf92af5aed8d86e59eee999a6023433c1bb", func := "loop.example/chainfiles/laws.FnExactBeatsAlive", spec := "fnExactBeatsAlive", inPlace := ["(*internal/sync.Mutex).Lock", "internal/race.Disable", "sync/atomic.CompareAndSwapInt32", "internal/race.Enable", "internal/race.Acquire", "(*internal/sync.Mutex).lockSlow", "internal/sync.runtime_canSpin", "internal/sync.runtime_doSpin", "internal/sync.throw", "internal/sync.runtime_nanotime", "internal/sync.runtime_SemacquireMutex", "sync/atomic.AddInt32", "(*internal/sync.Mutex).Unlock", "internal/race.ReleaseMerge", "(*internal/sync.Mutex).unlockSlow", "internal/sync.fatal", "internal/sync.runtime_Semrelease"], apart := false }
def FnExactBeatsAliveSaid : Prop := fnExactBeatsAliveRow.holds Try.pinned (OpenSpec.ofChange fnExactBeatsAliveSpec)

/-- ITS FALSE NEIGHBOUR: 'it returns false'. Refute it at one input. -/
def fnExactBeatsAliveWrong : ChangeSpec := { name := "fnExactBeatsAlive", fn := fun _ => fun
  | [d1, d2, d3] => { results := [.lit (.bool false)], args := [d1, d2, d3] }
  | _ => none }
def FnExactBeatsAliveWrongFalsely : Prop := fnExactBeatsAliveRow.holds Try.pinned (OpenSpec.ofChange fnExactBeatsAliveWrong)

/-- 'laws.FnExactBeatsDead': WHATEVER THE INPUT: true; the input reads as it did. -/
def fnExactBeatsDeadSpec : ChangeSpec := { name := "fnExactBeatsDead", fn := fun _ => fun
  | [d1, d2, d3] => { results := [.lit (.bool true)], args := [d1, d2, d3] }
  | _ => none }
def fnExactBeatsDeadRow : OpenClaim := { program := "ytnkjljjcionfiaa", sum := "02f5226ec30839181de07ab3bf0d5bf92af5aed8d86e59eee999a6023433c1bb", func := "loop.example/chainfiles/laws.FnExactBeatsDead", spec := "fnExactBeatsDead", inPlace := ["(*internal/sync.Mutex).Lock", "internal/race.Disable", "sync/atomic.CompareAndSwapInt32", "internal/race.Enable", "internal/race.Acquire", "(*internal/sync.Mutex).lockSlow", "internal/sync.runtime_canSpin", "internal/sync.runtime_doSpin", "internal/sync.throw", "internal/sync.runtime_nanotime", "internal/sync.runtime_SemacquireMutex", "sync/atomic.AddInt32", "(*internal/sync.Mutex).Unlock", "internal/race.ReleaseMerge", "(*internal/sync.Mutex).unlockSlow", "internal/sync.fatal", "internal/sync.runtime_Semrelease"], apart := false }
def FnExactBeatsDeadSaid : Prop := fnExactBeatsDeadRow.holds Try.pinned (OpenSpec.ofChange fnExactBeatsDeadSpec)

/-- ITS FALSE NEIGHBOUR: 'it returns false'. Refute it at one input. -/
def fnExactBeatsDeadWrong : ChangeSpec := { name := "fnExactBeatsDead", fn := fun _ => fun
  | [d1, d2, d3] => { results := [.lit (.bool false)], args := [d1, d2, d3] }
  | _ => none }
def FnExactBeatsDeadWrongFalsely : Prop := fnExactBeatsDeadRow.holds Try.pinned (OpenSpec.ofChange fnExactBeatsDeadWrong)

/-- 'laws.FnHear': WHATEVER THE INPUT: true; the input reads as it did. -/
def fnHearSpec : ChangeSpec := { name := "fnHear", fn := fun _ => fun
  | [d] => { results := [.lit (.bool true)], args := [d] }
  | _ => none }
def fnHearRow : OpenClaim := { program := "ytnkjljjcionfiaa", sum := "02f5226ec30839181de07ab3bf0d5bf92af5aed8d86e59eee999a6023433c1bb", func := "loop.example/chainfiles/laws.FnHear", spec := "fnHear", inPlace := ["(*internal/sync.Mutex).Lock", "internal/race.Disable", "sync/atomic.CompareAndSwapInt32", "internal/race.Enable", "internal/race.Acquire", "(*internal/sync.Mutex).lockSlow", "internal/sync.runtime_canSpin", "internal/sync.runtime_doSpin", "internal/sync.throw", "internal/sync.runtime_nanotime", "internal/sync.runtime_SemacquireMutex", "sync/atomic.AddInt32", "(*internal/sync.Mutex).Unlock", "internal/race.ReleaseMerge", "(*internal/sync.Mutex).unlockSlow", "internal/sync.fatal", "internal/sync.runtime_Semrelease"], apart := false }
def FnHearSaid : Prop := fnHearRow.holds Try.pinned (OpenSpec.ofChange fnHearSpec)

/-- ITS FALSE NEIGHBOUR: 'it returns false'. Refute it at one input. -/
def fnHearWrong : ChangeSpec := { name := "fnHear", fn := fun _ => fun
  | [d] => { results := [.lit (.bool false)], args := [d] }
  | _ => none }
def FnHearWrongFalsely : Prop := fnHearRow.holds Try.pinned (OpenSpec.ofChange fnHearWrong)

/-- 'laws.FnHearOthers': WHATEVER THE INPUT: true; the input reads as it did. -/
def fnHearOthersSpec : ChangeSpec := { name := "fnHearOthers", fn := fun _ => fun
  | [d] => { results := [.lit (.bool true)], args := [d] }
  | _ => none }
def fnHearOthersRow : OpenClaim := { program := "ytnkjljjcionfiaa", sum := "02f5226ec30839181de07ab3bf0d5bf92af5aed8d86e59eee999a6023433c1bb", func := "loop.example/chainfiles/laws.FnHearOthers", spec := "fnHearOthers", inPlace := ["(*internal/sync.Mutex).Lock", "internal/race.Disable", "sync/atomic.CompareAndSwapInt32", "internal/race.Enable", "internal/race.Acquire", "(*internal/sync.Mutex).lockSlow", "internal/sync.runtime_canSpin", "internal/sync.runtime_doSpin", "internal/sync.throw", "internal/sync.runtime_nanotime", "internal/sync.runtime_SemacquireMutex", "sync/atomic.AddInt32", "(*internal/sync.Mutex).Unlock", "internal/race.ReleaseMerge", "(*internal/sync.Mutex).unlockSlow", "internal/sync.fatal", "internal/sync.runtime_Semrelease"], apart := false }
def FnHearOthersSaid : Prop := fnHearOthersRow.holds Try.pinned (OpenSpec.ofChange fnHearOthersSpec)

/-- ITS FALSE NEIGHBOUR: 'it returns false'. Refute it at one input. -/
def fnHearOthersWrong : ChangeSpec := { name := "fnHearOthers", fn := fun _ => fun
  | [d] => { results := [.lit (.bool false)], args := [d] }
  | _ => none }
def FnHearOthersWrongFalsely : Prop := fnHearOthersRow.holds Try.pinned (OpenSpec.ofChange fnHearOthersWrong)

/-- 'laws.FnExactBeatHear': WHATEVER THE INPUT: true; the input reads as it did. -/
def fnExactBeatHearSpec : ChangeSpec := { name := "fnExactBeatHear", fn := fun _ => fun
  | [d1, d2] => { results := [.lit (.bool true)], args := [d1, d2] }
  | _ => none }
def fnExactBeatHearRow : OpenClaim := { program := "ytnkjljjcionfiaa", sum := "02f5226ec30839181de07ab3bf0d5bf92af5aed8d86e59eee999a6023433c1bb", func := "loop.example/chainfiles/laws.FnExactBeatHear", spec := "fnExactBeatHear", inPlace := ["(*internal/sync.Mutex).Lock", "internal/race.Disable", "sync/atomic.CompareAndSwapInt32", "internal/race.Enable", "internal/race.Acquire", "(*internal/sync.Mutex).lockSlow", "internal/sync.runtime_canSpin", "internal/sync.runtime_doSpin", "internal/sync.throw", "internal/sync.runtime_nanotime", "internal/sync.runtime_SemacquireMutex", "sync/atomic.AddInt32", "(*internal/sync.Mutex).Unlock", "internal/race.ReleaseMerge", "(*internal/sync.Mutex).unlockSlow", "internal/sync.fatal", "internal/sync.runtime_Semrelease"], apart := false }
def FnExactBeatHearSaid : Prop := fnExactBeatHearRow.holds Try.pinned (OpenSpec.ofChange fnExactBeatHearSpec)

/-- ITS FALSE NEIGHBOUR: 'it returns false'. Refute it at one input. -/
def fnExactBeatHearWrong : ChangeSpec := { name := "fnExactBeatHear", fn := fun _ => fun
  | [d1, d2] => { results := [.lit (.bool false)], args := [d1, d2] }
  | _ => none }
def FnExactBeatHearWrongFalsely : Prop := fnExactBeatHearRow.holds Try.pinned (OpenSpec.ofChange fnExactBeatHearWrong)

/-- 'laws.FnDeadHear': WHATEVER THE INPUT: true; the input reads as it did. -/
def fnDeadHearSpec : ChangeSpec := { name := "fnDeadHear", fn := fun _ => fun
  | [d1, d2] => { results := [.lit (.bool true)], args := [d1, d2] }
  | _ => none }
def fnDeadHearRow : OpenClaim := { program := "ytnkjljjcionfiaa", sum := "02f5226ec30839181de07ab3bf0d5bf92af5aed8d86e59eee999a6023433c1bb", func := "loop.example/chainfiles/laws.FnDeadHear", spec := "fnDeadHear", inPlace := ["(*internal/sync.Mutex).Lock", "internal/race.Disable", "sync/atomic.CompareAndSwapInt32", "internal/race.Enable", "internal/race.Acquire", "(*internal/sync.Mutex).lockSlow", "internal/sync.runtime_canSpin", "internal/sync.runtime_doSpin", "internal/sync.throw", "internal/sync.runtime_nanotime", "internal/sync.runtime_SemacquireMutex", "sync/atomic.AddInt32", "(*internal/sync.Mutex).Unlock", "internal/race.ReleaseMerge", "(*internal/sync.Mutex).unlockSlow", "internal/sync.fatal", "internal/sync.runtime_Semrelease"], apart := false }
def FnDeadHearSaid : Prop := fnDeadHearRow.holds Try.pinned (OpenSpec.ofChange fnDeadHearSpec)

/-- ITS FALSE NEIGHBOUR: 'it returns false'. Refute it at one input. -/
def fnDeadHearWrong : ChangeSpec := { name := "fnDeadHear", fn := fun _ => fun
  | [d1, d2] => { results := [.lit (.bool false)], args := [d1, d2] }
  | _ => none }
def FnDeadHearWrongFalsely : Prop := fnDeadHearRow.holds Try.pinned (OpenSpec.ofChange fnDeadHearWrong)

/-- 'laws.FnHearAlive': WHATEVER THE INPUT: true; the input reads as it did. -/
def fnHearAliveSpec : ChangeSpec := { name := "fnHearAlive", fn := fun _ => fun
  | [d1, d2] => { results := [.lit (.bool true)], args := [d1, d2] }
  | _ => none }
def fnHearAliveRow : OpenClaim := { program := "ytnkjljjcionfiaa", sum := "02f5226ec30839181de07ab3bf0d5bf92af5aed8d86e59eee999a6023433c1bb", func := "loop.example/chainfiles/laws.FnHearAlive", spec := "fnHearAlive", inPlace := ["(*internal/sync.Mutex).Lock", "internal/race.Disable", "sync/atomic.CompareAndSwapInt32", "internal/race.Enable", "internal/race.Acquire", "(*internal/sync.Mutex).lockSlow", "internal/sync.runtime_canSpin", "internal/sync.runtime_doSpin", "internal/sync.throw", "internal/sync.runtime_nanotime", "internal/sync.runtime_SemacquireMutex", "sync/atomic.AddInt32", "(*internal/sync.Mutex).Unlock", "internal/race.ReleaseMerge", "(*internal/sync.Mutex).unlockSlow", "internal/sync.fatal", "internal/sync.runtime_Semrelease"], apart := false }
def FnHearAliveSaid : Prop := fnHearAliveRow.holds Try.pinned (OpenSpec.ofChange fnHearAliveSpec)

/-- ITS FALSE NEIGHBOUR: 'it returns false'. Refute it at one input. -/
def fnHearAliveWrong : ChangeSpec := { name := "fnHearAlive", fn := fun _ => fun
  | [d1, d2] => { results := [.lit (.bool false)], args := [d1, d2] }
  | _ => none }
def FnHearAliveWrongFalsely : Prop := fnHearAliveRow.holds Try.pinned (OpenSpec.ofChange fnHearAliveWrong)

/- THE SECOND FORM. 'bulk': how many values and letters a reading holds, each counted each time it is reached (what is shared counts as often as it is met; a slice's spare places count too). A statement '..UptoSaid' is the law's where the arguments, and the package variables that the reading takes, are together of bulk at most 1048576: NARROWER than '..Said'. Prove '..Said' where nothing that the law and all that it calls make is longer than what came in: it says more and counts as full. Else prove '..UptoSaid'. A law counts once. -/
mutual
def uptoBulk {H : Type} : DataW H → Nat
  | .lit (.string bytes) => bytes.length + 1
  | .lit _ => 1
  | .nil => 1
  | .ptr d => uptoBulk d + 1
  | .slice elems spare => uptoBulkAll elems + uptoBulkAll spare + 1
  | .agg parts => uptoBulkAll parts + 1
  | .iface _ d => uptoBulk d + 1
  | .map entries => uptoBulkEntries entries + 1
  | .held _ => 1
def uptoBulkAll {H : Type} : List (DataW H) → Nat
  | [] => 0
  | d :: r => uptoBulk d + uptoBulkAll r
def uptoBulkEntries {H : Type} : List (Lit × DataW H) → Nat
  | [] => 0
  | x :: r => uptoBulkEntry x + uptoBulkEntries r
def uptoBulkEntry {H : Type} : Lit × DataW H → Nat
  | (.string bytes, d) => bytes.length + uptoBulk d + 1
  | (_, d) => uptoBulk d + 1
 end
def uptoSmall : (H : Type) → List (DataW H) → Bool := fun _ ds => decide (uptoBulkAll ds ≤ 1048576)
def OpenSpec.upto (s : _root_.Go.ChangeSpec) : _root_.Go.OpenSpec := { _root_.Go.OpenSpec.ofChange s with cond := some uptoSmall }

/-- 'laws.FnBeatsPart', WHERE WHAT IT READS IS OF BULK AT MOST 1048576: true; the input reads as it did. -/
def fnBeatsPartUptoRow : OpenClaim := { program := "ytnkjljjcionfiaa", sum := "02f5226ec30839181de07ab3bf0d5bf92af5aed8d86e59eee999a6023433c1bb", func := "loop.example/chainfiles/laws.FnBeatsPart", spec := "fnBeatsPart", apart := false, narrowed := true }
def FnBeatsPartUptoSaid : Prop := fnBeatsPartUptoRow.holds Try.pinned (OpenSpec.upto fnBeatsPartSpec)

/-- 'laws.FnExactBeatsValid', WHERE WHAT IT READS IS OF BULK AT MOST 1048576: true; the input reads as it did. -/
def fnExactBeatsValidUptoRow : OpenClaim := { program := "ytnkjljjcionfiaa", sum := "02f5226ec30839181de07ab3bf0d5bf92af5aed8d86e59eee999a6023433c1bb", func := "loop.example/chainfiles/laws.FnExactBeatsValid", spec := "fnExactBeatsValid", apart := false, narrowed := true }
def FnExactBeatsValidUptoSaid : Prop := fnExactBeatsValidUptoRow.holds Try.pinned (OpenSpec.upto fnExactBeatsValidSpec)

/-- 'laws.FnAlive', WHERE WHAT IT READS IS OF BULK AT MOST 1048576: true; the input reads as it did. -/
def fnAliveUptoRow : OpenClaim := { program := "ytnkjljjcionfiaa", sum := "02f5226ec30839181de07ab3bf0d5bf92af5aed8d86e59eee999a6023433c1bb", func := "loop.example/chainfiles/laws.FnAlive", spec := "fnAlive", inPlace := ["(*internal/sync.Mutex).Lock", "internal/race.Disable", "sync/atomic.CompareAndSwapInt32", "internal/race.Enable", "internal/race.Acquire", "(*internal/sync.Mutex).lockSlow", "internal/sync.runtime_canSpin", "internal/sync.runtime_doSpin", "internal/sync.throw", "internal/sync.runtime_nanotime", "internal/sync.runtime_SemacquireMutex", "sync/atomic.AddInt32", "(*internal/sync.Mutex).Unlock", "internal/race.ReleaseMerge", "(*internal/sync.Mutex).unlockSlow", "internal/sync.fatal", "internal/sync.runtime_Semrelease"], apart := false, narrowed := true }
def FnAliveUptoSaid : Prop := fnAliveUptoRow.holds Try.pinned (OpenSpec.upto fnAliveSpec)

/-- 'laws.FnAliveLonger', WHERE WHAT IT READS IS OF BULK AT MOST 1048576: true; the input reads as it did. -/
def fnAliveLongerUptoRow : OpenClaim := { program := "ytnkjljjcionfiaa", sum := "02f5226ec30839181de07ab3bf0d5bf92af5aed8d86e59eee999a6023433c1bb", func := "loop.example/chainfiles/laws.FnAliveLonger", spec := "fnAliveLonger", inPlace := ["(*internal/sync.Mutex).Lock", "internal/race.Disable", "sync/atomic.CompareAndSwapInt32", "internal/race.Enable", "internal/race.Acquire", "(*internal/sync.Mutex).lockSlow", "internal/sync.runtime_canSpin", "internal/sync.runtime_doSpin", "internal/sync.throw", "internal/sync.runtime_nanotime", "internal/sync.runtime_SemacquireMutex", "sync/atomic.AddInt32", "(*internal/sync.Mutex).Unlock", "internal/race.ReleaseMerge", "(*internal/sync.Mutex).unlockSlow", "internal/sync.fatal", "internal/sync.runtime_Semrelease"], apart := false, narrowed := true }
def FnAliveLongerUptoSaid : Prop := fnAliveLongerUptoRow.holds Try.pinned (OpenSpec.upto fnAliveLongerSpec)

/-- 'laws.FnDeadLater', WHERE WHAT IT READS IS OF BULK AT MOST 1048576: true; the input reads as it did. -/
def fnDeadLaterUptoRow : OpenClaim := { program := "ytnkjljjcionfiaa", sum := "02f5226ec30839181de07ab3bf0d5bf92af5aed8d86e59eee999a6023433c1bb", func := "loop.example/chainfiles/laws.FnDeadLater", spec := "fnDeadLater", inPlace := ["(*internal/sync.Mutex).Lock", "internal/race.Disable", "sync/atomic.CompareAndSwapInt32", "internal/race.Enable", "internal/race.Acquire", "(*internal/sync.Mutex).lockSlow", "internal/sync.runtime_canSpin", "internal/sync.runtime_doSpin", "internal/sync.throw", "internal/sync.runtime_nanotime", "internal/sync.runtime_SemacquireMutex", "sync/atomic.AddInt32", "(*internal/sync.Mutex).Unlock", "internal/race.ReleaseMerge", "(*internal/sync.Mutex).unlockSlow", "internal/sync.fatal", "internal/sync.runtime_Semrelease"], apart := false, narrowed := true }
def FnDeadLaterUptoSaid : Prop := fnDeadLaterUptoRow.holds Try.pinned (OpenSpec.upto fnDeadLaterSpec)

/-- 'laws.FnAliveDead', WHERE WHAT IT READS IS OF BULK AT MOST 1048576: true; the input reads as it did. -/
def fnAliveDeadUptoRow : OpenClaim := { program := "ytnkjljjcionfiaa", sum := "02f5226ec30839181de07ab3bf0d5bf92af5aed8d86e59eee999a6023433c1bb", func := "loop.example/chainfiles/laws.FnAliveDead", spec := "fnAliveDead", inPlace := ["(*internal/sync.Mutex).Lock", "internal/race.Disable", "sync/atomic.CompareAndSwapInt32", "internal/race.Enable", "internal/race.Acquire", "(*internal/sync.Mutex).lockSlow", "internal/sync.runtime_canSpin", "internal/sync.runtime_doSpin", "internal/sync.throw", "internal/sync.runtime_nanotime", "internal/sync.runtime_SemacquireMutex", "sync/atomic.AddInt32", "(*internal/sync.Mutex).Unlock", "internal/race.ReleaseMerge", "(*internal/sync.Mutex).unlockSlow", "internal/sync.fatal", "internal/sync.runtime_Semrelease"], apart := false, narrowed := true }
def FnAliveDeadUptoSaid : Prop := fnAliveDeadUptoRow.holds Try.pinned (OpenSpec.upto fnAliveDeadSpec)

/-- 'laws.FnExactBeatsAlive', WHERE WHAT IT READS IS OF BULK AT MOST 1048576: true; the input reads as it did. -/
def fnExactBeatsAliveUptoRow : OpenClaim := { program := "ytnkjljjcionfiaa", sum := "02f5226ec30839181de07ab3bf0d5bf92af5aed8d86e59eee999a6023433c1bb", func := "loop.example/chainfiles/laws.FnExactBeatsAlive", spec := "fnExactBeatsAlive", inPlace := ["(*internal/sync.Mutex).Lock", "internal/race.Disable", "sync/atomic.CompareAndSwapInt32", "internal/race.Enable", "internal/race.Acquire", "(*internal/sync.Mutex).lockSlow", "internal/sync.runtime_canSpin", "internal/sync.runtime_doSpin", "internal/sync.throw", "internal/sync.runtime_nanotime", "internal/sync.runtime_SemacquireMutex", "sync/atomic.AddInt32", "(*internal/sync.Mutex).Unlock", "internal/race.ReleaseMerge", "(*internal/sync.Mutex).unlockSlow", "internal/sync.fatal", "internal/sync.runtime_Semrelease"], apart := false, narrowed := true }
def FnExactBeatsAliveUptoSaid : Prop := fnExactBeatsAliveUptoRow.holds Try.pinned (OpenSpec.upto fnExactBeatsAliveSpec)

/-- 'laws.FnExactBeatsDead', WHERE WHAT IT READS IS OF BULK AT MOST 1048576: true; the input reads as it did. -/
def fnExactBeatsDeadUptoRow : OpenClaim := { program := "ytnkjljjcionfiaa", sum := "02f5226ec30839181de07ab3bf0d5bf92af5aed8d86e59eee999a6023433c1bb", func := "loop.example/chainfiles/laws.FnExactBeatsDead", spec := "fnExactBeatsDead", inPlace := ["(*internal/sync.Mutex).Lock", "internal/race.Disable", "sync/atomic.CompareAndSwapInt32", "internal/race.Enable", "internal/race.Acquire", "(*internal/sync.Mutex).lockSlow", "internal/sync.runtime_canSpin", "internal/sync.runtime_doSpin", "internal/sync.throw", "internal/sync.runtime_nanotime", "internal/sync.runtime_SemacquireMutex", "sync/atomic.AddInt32", "(*internal/sync.Mutex).Unlock", "internal/race.ReleaseMerge", "(*internal/sync.Mutex).unlockSlow", "internal/sync.fatal", "internal/sync.runtime_Semrelease"], apart := false, narrowed := true }
def FnExactBeatsDeadUptoSaid : Prop := fnExactBeatsDeadUptoRow.holds Try.pinned (OpenSpec.upto fnExactBeatsDeadSpec)

/-- 'laws.FnHear', WHERE WHAT IT READS IS OF BULK AT MOST 1048576: true; the input reads as it did. -/
def fnHearUptoRow : OpenClaim := { program := "ytnkjljjcionfiaa", sum := "02f5226ec30839181de07ab3bf0d5bf92af5aed8d86e59eee999a6023433c1bb", func := "loop.example/chainfiles/laws.FnHear", spec := "fnHear", inPlace := ["(*internal/sync.Mutex).Lock", "internal/race.Disable", "sync/atomic.CompareAndSwapInt32", "internal/race.Enable", "internal/race.Acquire", "(*internal/sync.Mutex).lockSlow", "internal/sync.runtime_canSpin", "internal/sync.runtime_doSpin", "internal/sync.throw", "internal/sync.runtime_nanotime", "internal/sync.runtime_SemacquireMutex", "sync/atomic.AddInt32", "(*internal/sync.Mutex).Unlock", "internal/race.ReleaseMerge", "(*internal/sync.Mutex).unlockSlow", "internal/sync.fatal", "internal/sync.runtime_Semrelease"], apart := false, narrowed := true }
def FnHearUptoSaid : Prop := fnHearUptoRow.holds Try.pinned (OpenSpec.upto fnHearSpec)

/-- 'laws.FnHearOthers', WHERE WHAT IT READS IS OF BULK AT MOST 1048576: true; the input reads as it did. -/
def fnHearOthersUptoRow : OpenClaim := { program := "ytnkjljjcionfiaa", sum := "02f5226ec30839181de07ab3bf0d5bf92af5aed8d86e59eee999a6023433c1bb", func := "loop.example/chainfiles/laws.FnHearOthers", spec := "fnHearOthers", inPlace := ["(*internal/sync.Mutex).Lock", "internal/race.Disable", "sync/atomic.CompareAndSwapInt32", "internal/race.Enable", "internal/race.Acquire", "(*internal/sync.Mutex).lockSlow", "internal/sync.runtime_canSpin", "internal/sync.runtime_doSpin", "internal/sync.throw", "internal/sync.runtime_nanotime", "internal/sync.runtime_SemacquireMutex", "sync/atomic.AddInt32", "(*internal/sync.Mutex).Unlock", "internal/race.ReleaseMerge", "(*internal/sync.Mutex).unlockSlow", "internal/sync.fatal", "internal/sync.runtime_Semrelease"], apart := false, narrowed := true }
def FnHearOthersUptoSaid : Prop := fnHearOthersUptoRow.holds Try.pinned (OpenSpec.upto fnHearOthersSpec)

/-- 'laws.FnExactBeatHear', WHERE WHAT IT READS IS OF BULK AT MOST 1048576: true; the input reads as it did. -/
def fnExactBeatHearUptoRow : OpenClaim := { program := "ytnkjljjcionfiaa", sum := "02f5226ec30839181de07ab3bf0d5bf92af5aed8d86e59eee999a6023433c1bb", func := "loop.example/chainfiles/laws.FnExactBeatHear", spec := "fnExactBeatHear", inPlace := ["(*internal/sync.Mutex).Lock", "internal/race.Disable", "sync/atomic.CompareAndSwapInt32", "internal/race.Enable", "internal/race.Acquire", "(*internal/sync.Mutex).lockSlow", "internal/sync.runtime_canSpin", "internal/sync.runtime_doSpin", "internal/sync.throw", "internal/sync.runtime_nanotime", "internal/sync.runtime_SemacquireMutex", "sync/atomic.AddInt32", "(*internal/sync.Mutex).Unlock", "internal/race.ReleaseMerge", "(*internal/sync.Mutex).unlockSlow", "internal/sync.fatal", "internal/sync.runtime_Semrelease"], apart := false, narrowed := true }
def FnExactBeatHearUptoSaid : Prop := fnExactBeatHearUptoRow.holds Try.pinned (OpenSpec.upto fnExactBeatHearSpec)

/-- 'laws.FnDeadHear', WHERE WHAT IT READS IS OF BULK AT MOST 1048576: true; the input reads as it did. -/
def fnDeadHearUptoRow : OpenClaim := { program := "ytnkjljjcionfiaa", sum := "02f5226ec30839181de07ab3bf0d5bf92af5aed8d86e59eee999a6023433c1bb", func := "loop.example/chainfiles/laws.FnDeadHear", spec := "fnDeadHear", inPlace := ["(*internal/sync.Mutex).Lock", "internal/race.Disable", "sync/atomic.CompareAndSwapInt32", "internal/race.Enable", "internal/race.Acquire", "(*internal/sync.Mutex).lockSlow", "internal/sync.runtime_canSpin", "internal/sync.runtime_doSpin", "internal/sync.throw", "internal/sync.runtime_nanotime", "internal/sync.runtime_SemacquireMutex", "sync/atomic.AddInt32", "(*internal/sync.Mutex).Unlock", "internal/race.ReleaseMerge", "(*internal/sync.Mutex).unlockSlow", "internal/sync.fatal", "internal/sync.runtime_Semrelease"], apart := false, narrowed := true }
def FnDeadHearUptoSaid : Prop := fnDeadHearUptoRow.holds Try.pinned (OpenSpec.upto fnDeadHearSpec)

/-- 'laws.FnHearAlive', WHERE WHAT IT READS IS OF BULK AT MOST 1048576: true; the input reads as it did. -/
def fnHearAliveUptoRow : OpenClaim := { program := "ytnkjljjcionfiaa", sum := "02f5226ec30839181de07ab3bf0d5bf92af5aed8d86e59eee999a6023433c1bb", func := "loop.example/chainfiles/laws.FnHearAlive", spec := "fnHearAlive", inPlace := ["(*internal/sync.Mutex).Lock", "internal/race.Disable", "sync/atomic.CompareAndSwapInt32", "internal/race.Enable", "internal/race.Acquire", "(*internal/sync.Mutex).lockSlow", "internal/sync.runtime_canSpin", "internal/sync.runtime_doSpin", "internal/sync.throw", "internal/sync.runtime_nanotime", "internal/sync.runtime_SemacquireMutex", "sync/atomic.AddInt32", "(*internal/sync.Mutex).Unlock", "internal/race.ReleaseMerge", "(*internal/sync.Mutex).unlockSlow", "internal/sync.fatal", "internal/sync.runtime_Semrelease"], apart := false, narrowed := true }
def FnHearAliveUptoSaid : Prop := fnHearAliveUptoRow.holds Try.pinned (OpenSpec.upto fnHearAliveSpec)

end Rows
end Go.Proofs.Ytnkjljjcionfiaa
