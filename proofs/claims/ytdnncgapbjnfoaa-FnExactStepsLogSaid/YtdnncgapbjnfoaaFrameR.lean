/-
  From the reading of an argument that is a slice of structs to the words of the walks: any kind of element whose cells can be told from its reading. No conditions.
-/
import Derived.Test.YtdnncgapbjnfoaaFrame
import Derived.Test.YtdnncgapbjnfoaaBeats
import Derived.Deep.SlicePairs
import Derived.Deep.Strs
import Derived.Lib.SmallJoins
namespace Go.Proofs.Ytdnncgapbjnfoaa
open Go Go.RowKit Go.ChangeShapes Go.WideShapes
set_option linter.unusedVariables false

section
variable {H : Type} {enc : TypeId × Value → H} {P : Program} {W : World} {base : Nat} {spare : Nat → Bool} {held : Bool}
theorem open_rows {α : Type} [Inhabited α] {enc' : α → List Value} {z : Nat} {t e : TypeId} {fuel : Nat} {A : Option Addr} {n c : Nat} {x : DataW H × List MemPlace}
    (ht : P.underlying t = some (.slice e)) (ce : P.cellsOf e = z) (hz0 : 0 < z) (hz : ∀ a, (enc' a).length = z) (hdec : ∀ (k : Nat) (cs : List Value) (y : DataW H × List MemPlace), DataW.trod enc P W base spare held k e cs = some y → ∃ a : α, enc' a = cs)
    (h : DataW.trod enc P W base spare held fuel t [.slice A n c] = some x) :
    ∃ xs : List α, RS enc' z W W.heap.size A n xs ∧ n ≤ c ∧ c ≤ maxLen := by
  rcases Go.Deep.open_slice ht h with ⟨h0, _⟩ | ⟨a, len, cap, m, k, D, Pl, h0, hb, hl, hm, hmm, _, hx⟩
  · simp only [List.cons.injEq, Value.slice.injEq, and_true] at h0
    obtain ⟨rfl, rfl, rfl⟩ := h0
    exact ⟨[], RS.nil _ _ _ _ _, Nat.le_refl _, by decide⟩
  · simp only [List.cons.injEq, Value.slice.injEq, and_true] at h0
    obtain ⟨rfl, rfl, rfl⟩ := h0
    have hlm : n ≤ m := by rw [hmm]; split <;> omega
    have key : ∀ i, i < n → ∃ b : α, ∀ j, j < z → W.cell? ((a.add (i * z)).add j) = (enc' b)[j]? := fun i hi => by
      obtain ⟨cs', h1, h2⟩ := hx i (by omega)
      obtain ⟨b, hb⟩ := hdec _ _ _ h2
      rw [ce] at h1
      obtain ⟨_, hlen, hcell⟩ := World.cells?_some h1
      refine ⟨b, fun j hj => ?_⟩
      rw [hb]
      have := hcell j (by omega)
      rw [this]
    refine ⟨(List.range n).map fun i => if hi : i < n then Classical.choose (key i hi) else default, ⟨by simp, fun i hi => ⟨rfl, ?_, fun j v hv => ?_⟩⟩, hl, hm⟩
    · have hs := Classical.choose_spec (key i hi) 0 hz0
      have hl2 := hz (Classical.choose (key i hi))
      rw [List.getElem?_eq_getElem (by omega)] at hs
      have := World.block_lt_of_cell? W _ hs
      simpa [add_block, adr] using this
    · have e1 : el ((List.range n).map fun i => if hi : i < n then Classical.choose (key i hi) else default) i = Classical.choose (key i hi) := by
        simp [el, List.getD, hi]
      rw [e1] at hv
      have hj : j < z := by
        have := (List.getElem?_eq_some_iff.1 hv).1
        rwa [hz] at this
      have hs := Classical.choose_spec (key i hi) j hj
      simp only [adr, Option.getD_some]
      rw [← add_add', hs]
      exact hv

theorem dec_moves {e : TypeId} {f0 f1 f2 : Field} (he : P.underlying e = some (.struct #[f0, f1, f2])) (ce : P.cellsOf e = 3) (o0 : f0.offset = 0) (o1 : f1.offset = 1) (o2 : f2.offset = 2) (c0 : P.cellsOf f0.type = 1) (c1 : P.cellsOf f1.type = 1) (c2 : P.cellsOf f2.type = 1)
    (u0 : P.underlying f0.type = some (.int .i64)) (u1 : P.underlying f1.type = some (.int .i64)) (u2 : P.underlying f2.type = some (.int .i64)) (k : Nat) (cs : List Value) (y : DataW H × List MemPlace) (h : DataW.trod enc P W base spare held k e cs = some y) : ∃ a : Mv, encM a = cs := by
  obtain ⟨xs, n, _, _, hl, hxl, hf⟩ := DataW.trod_struct he h
  rw [ce] at hl
  match cs, hl with
  | [v0, v1, v2], _ =>
    have g0 := hf 0 f0 rfl
    have g1 := hf 1 f1 rfl
    have g2 := hf 2 f2 rfl
    simp only [o0, o1, o2, c0, c1, c2, List.drop, List.take] at g0 g1 g2
    match xs, hxl with
    | [y0, y1, y2], _ =>
      obtain ⟨z0, e0, _⟩ := DataW.trod_int u0 g0
      obtain ⟨z1, e1, _⟩ := DataW.trod_int u1 g1
      obtain ⟨z2, e2, _⟩ := DataW.trod_int u2 g2
      simp only [List.cons.injEq, and_true] at e0 e1 e2
      exact ⟨⟨z0, z1, z2⟩, by rw [e0, e1, e2]; rfl⟩
end
end Go.Proofs.Ytdnncgapbjnfoaa
