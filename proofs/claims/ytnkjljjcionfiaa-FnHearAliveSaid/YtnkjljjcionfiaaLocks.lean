/-
  The numbers under which this dump holds the library's lock's functions and types, and that it holds them. No conditions.
-/
import Derived.Test.YtnkjljjcionfiaaProg
import Derived.Conc.MuLib
import Derived.KernelRfl
namespace Go.Proofs.Ytnkjljjcionfiaa
open Go
abbrev muLink : Go.Conc.Locks.MuLink := { lock := 55, unlock := 56, ilock := 57, iunlock := 58, lockSlow := 63, unlockSlow := 66, disable := 59, enable := 61, acquire := 62, relMerge := 64, cas32 := 60, add32 := 65, tMutex := 74, tIMutex := 72, tPMutex := 77, tPIMutex := 78, tPI32 := 80, tUP := 82, tNoCopy := 69, tU32 := 70 }
theorem muLib : Go.Conc.Locks.MuLib Try.prog muLink :=
  ⟨Try.func55, Try.func56, Try.func57, Try.func58, Try.func59, Try.func61, Try.func62, Try.func64, Try.func60, Try.func65, Try.underlying72, Try.runUnderlying72, Try.sizeOf72, Try.isAgg72, Try.zeroValue72, Try.underlying74, Try.runUnderlying74, Try.sizeOf74, Try.isAgg74, Try.zeroValue74, Try.underlying77, Try.runUnderlying77, Try.sizeOf77, Try.isAgg77, Try.zeroValue77, Try.underlying78, Try.runUnderlying78, Try.sizeOf78, Try.isAgg78, Try.zeroValue78, Try.underlying80, Try.runUnderlying80, Try.sizeOf80, Try.isAgg80, Try.zeroValue80, Try.underlying82, Try.runUnderlying82, Try.sizeOf82, Try.isAgg82, Try.zeroValue82, Try.underlying69, Try.runUnderlying69, Try.sizeOf69, Try.isAgg69, Try.zeroValue69, Try.underlying21, Try.runUnderlying21, Try.sizeOf21, Try.isAgg21, Try.zeroValue21, by kernel_rfl⟩
end Go.Proofs.Ytnkjljjcionfiaa
