/-
  From the readings of a statement's arguments to the words of the walks. No conditions.
-/
import Derived.Test.YtdnncgapbjnfoaaKinds
import Derived.Test.YtdnncgapbjnfoaaRows
import Derived.ProofKit
import Derived.OpenShut
import Derived.ChangeOld
namespace Go.Proofs.Ytdnncgapbjnfoaa
open Go Go.RowKit
set_option linter.unusedVariables false

theorem rs_u8 {w : World} {x : Addr} {len cap : Nat} {zs : List Int} (hl : len ≤ cap) (hz : zs.length = cap)
    (hcell : ∀ i, i < zs.length → w.cell? (x.add i) = some (.int .u8 (zs.getD i 0))) (hwf : ∀ n ∈ zs, (Lit.int .u8 n).wf = true) :
    RS encU 1 w w.heap.size (some x) len ((zs.take len).map fun z => UInt8.ofNat z.toNat) := by
  refine ⟨by simp; omega, fun k hk => ⟨rfl, ?_, fun j v hv => ?_⟩⟩
  · have := World.block_lt_of_cell? w _ (hcell k (by omega))
    rwa [add_block] at this
  · have hk2 : k < zs.length := by omega
    have hw := hwf zs[k] (List.getElem_mem hk2)
    have hb : 0 ≤ zs[k] ∧ zs[k] ≤ 255 := by simpa [Lit.wf, IntKind.min, IntKind.max, IntKind.signed, IntKind.bits] using hw
    have e1 : el ((zs.take len).map fun z => UInt8.ofNat z.toNat) k = UInt8.ofNat zs[k].toNat := by
      simp [el, List.getD, hk, hk2]
    have e2 : ((UInt8.ofNat zs[k].toNat).toNat : Int) = zs[k] := by
      rw [UInt8.toNat_ofNat']
      omega
    have hj : j = 0 := by
      have := (List.getElem?_eq_some_iff.1 hv).1
      simp [encU] at this
      omega
    subst hj
    rw [e1] at hv
    simp only [encU, e2] at hv
    have := hcell k hk2
    simp only [List.getD, List.getElem?_eq_getElem hk2, Option.getD_some] at this
    simp only [adr, Option.getD_some, Nat.mul_one, Nat.add_zero]
    rw [this]
    simpa using hv

theorem rs_i64 {w : World} {x : Addr} {len cap : Nat} {zs : List Int} (hl : len ≤ cap) (hz : zs.length = cap)
    (hcell : ∀ i, i < zs.length → w.cell? (x.add i) = some (.int .i64 (zs.getD i 0))) :
    RS encI 1 w w.heap.size (some x) len (zs.take len) := by
  refine ⟨by simp; omega, fun k hk => ⟨rfl, ?_, fun j v hv => ?_⟩⟩
  · have := World.block_lt_of_cell? w _ (hcell k (by omega))
    rwa [add_block] at this
  · have hk2 : k < zs.length := by omega
    have e1 : el (zs.take len) k = zs[k] := by simp [el, List.getD, hk, hk2]
    have hj : j = 0 := by
      have := (List.getElem?_eq_some_iff.1 hv).1
      simp [encI] at this
      omega
    subst hj
    rw [e1] at hv
    have := hcell k hk2
    simp only [List.getD, List.getElem?_eq_getElem hk2, Option.getD_some] at this
    simp only [adr, Option.getD_some, Nat.mul_one, Nat.add_zero]
    rw [this]
    simpa [encI] using hv
end Go.Proofs.Ytdnncgapbjnfoaa
