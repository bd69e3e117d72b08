/-
  From the reading of an argument that is a slice of steps to the words of the walks. No conditions.
-/
import Derived.Test.YtdnncgapbjnfoaaFrameR
import Derived.Test.YtdnncgapbjnfoaaSteps
namespace Go.Proofs.Ytdnncgapbjnfoaa
open Go Go.RowKit Go.ChangeShapes Go.WideShapes
set_option linter.unusedVariables false

section
variable {H : Type} {enc : TypeId × Value → H} {P : Program} {W : World} {base : Nat} {spare : Nat → Bool} {held : Bool}
theorem dec_steps {e : TypeId} {f0 f1 f2 : Field} (he : P.underlying e = some (.struct #[f0, f1, f2])) (ce : P.cellsOf e = 3) (o0 : f0.offset = 0) (o1 : f1.offset = 1) (o2 : f2.offset = 2) (c0 : P.cellsOf f0.type = 1) (c1 : P.cellsOf f1.type = 1) (c2 : P.cellsOf f2.type = 1)
    (u0 : P.underlying f0.type = some .bool) (u1 : P.underlying f1.type = some (.int .i64)) (u2 : P.underlying f2.type = some (.int .i64)) (k : Nat) (cs : List Value) (y : DataW H × List MemPlace) (h : DataW.trod enc P W base spare held k e cs = some y) : ∃ a : Stp, encP a = cs := by
  obtain ⟨xs, n, _, _, hl, hxl, hf⟩ := DataW.trod_struct he h
  rw [ce] at hl
  match cs, hl with
  | [v0, v1, v2], _ =>
    have g0 := hf 0 f0 rfl
    have g1 := hf 1 f1 rfl
    have g2 := hf 2 f2 rfl
    simp only [o0, o1, o2, c0, c1, c2, List.drop, List.take] at g0 g1 g2
    match xs, hxl with
    | [y0, y1, y2], _ =>
      obtain ⟨z0, e0, _⟩ := DataW.trod_bool u0 g0
      obtain ⟨z1, e1, _⟩ := DataW.trod_int u1 g1
      obtain ⟨z2, e2, _⟩ := DataW.trod_int u2 g2
      simp only [List.cons.injEq, and_true] at e0 e1 e2
      exact ⟨⟨z0, z1, z2⟩, by rw [e0, e1, e2]; rfl⟩
end
end Go.Proofs.Ytdnncgapbjnfoaa
