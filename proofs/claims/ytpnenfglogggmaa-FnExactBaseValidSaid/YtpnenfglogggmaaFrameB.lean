/-
  From the reading of an argument that is a slice of pairs of numbers, or one pair, to the words of the walks. No conditions.
-/
import Derived.Test.YtpnenfglogggmaaFrame
import Derived.Test.YtpnenfglogggmaaBeats
import Derived.Deep.SlicePairs
import Derived.Lib.SmallJoins
namespace Go.Proofs.Ytpnenfglogggmaa
open Go Go.RowKit Go.ChangeShapes Go.WideShapes
set_option linter.unusedVariables false

theorem open_beats {H : Type} {enc : TypeId × Value → H} {P : Program} {W : World} {base : Nat} {spare : Nat → Bool} {held : Bool} {t e : TypeId} {f0 f1 : Field} {fuel : Nat} {A : Option Addr} {n c : Nat} {x : DataW H × List MemPlace}
    (ht : P.underlying t = some (.slice e)) (he : P.underlying e = some (.struct #[f0, f1])) (ce : P.cellsOf e = 2) (o0 : f0.offset = 0) (o1 : f1.offset = 1) (c0 : P.cellsOf f0.type = 1) (c1 : P.cellsOf f1.type = 1)
    (u0 : P.underlying f0.type = some (.int .i64)) (u1 : P.underlying f1.type = some (.int .i64)) (h : DataW.trod enc P W base spare held fuel t [.slice A n c] = some x) :
    ∃ xs : List Bt, RS encB 2 W W.heap.size A n xs ∧ n ≤ c ∧ c ≤ maxLen := by
  rcases Go.Deep.open_slice_pairs ht he ce o0 o1 c0 c1 h with ⟨h0, _⟩ | ⟨a, len, cap, m, k, V0, V1, D0, D1, P0, P1, h0, hb, hl, hm, hmm, _, hx⟩
  · simp only [List.cons.injEq, Value.slice.injEq, and_true] at h0
    obtain ⟨rfl, rfl, rfl⟩ := h0
    exact ⟨[], RS.nil _ _ _ _ _, Nat.le_refl _, by decide⟩
  · simp only [List.cons.injEq, Value.slice.injEq, and_true] at h0
    obtain ⟨rfl, rfl, rfl⟩ := h0
    have hlm : n ≤ m := by rw [hmm]; split <;> omega
    have key : ∀ i, i < n → ∃ b : Bt, V0 i = .int .i64 b.s ∧ V1 i = .int .i64 b.a := fun i hi => by
      obtain ⟨_, _, h2, h3⟩ := hx i (by omega)
      obtain ⟨z0, e0, _⟩ := DataW.trod_int u0 h2
      obtain ⟨z1, e1, _⟩ := DataW.trod_int u1 h3
      exact ⟨⟨z0, z1⟩, by simpa using e0, by simpa using e1⟩
    refine ⟨(List.range n).map fun i => if hi : i < n then Classical.choose (key i hi) else default, ⟨by simp, fun i hi => ⟨rfl, ?_, fun j v hv => ?_⟩⟩, hl, hm⟩
    · have := World.block_lt_of_cell? W _ (hx i (by omega)).1
      rwa [add_block] at this
    · have e1 : el ((List.range n).map fun i => if hi : i < n then Classical.choose (key i hi) else default) i = Classical.choose (key i hi) := by
        simp [el, List.getD, hi]
      have hs := Classical.choose_spec (key i hi)
      rw [e1] at hv
      obtain ⟨q0, q1, _, _⟩ := hx i (by omega)
      simp only [adr, Option.getD_some]
      match j, hv with
      | 0, hv => rw [Nat.add_zero, q0, hs.1]; simpa [encB] using hv
      | 1, hv => rw [q1, hs.2]; simpa [encB] using hv
      | j + 2, hv => simp [encB] at hv
end Go.Proofs.Ytpnenfglogggmaa
