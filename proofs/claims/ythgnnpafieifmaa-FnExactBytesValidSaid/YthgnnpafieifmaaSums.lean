/-
  Plain: bytes of a piece, sums of parts. No conditions; no program in sight.
-/
import Derived.Test.YthgnnpafieifmaaKinds
namespace Go.Proofs.Ythgnnpafieifmaa
open Go Go.RowKit
set_option linter.unusedVariables false

def BytesOK (xs : List Int) : Prop := xs.length ≤ 16 ∧ ∀ j, j < xs.length → 0 ≤ el xs j ∧ el xs j ≤ 255

def stepSum (s b : Int) : Int := (263 * s + b) % 997
def partSum (xs : List Int) : Int := xs.foldl stepSum 11

theorem partSum_snoc (xs : List Int) (b : Int) : partSum (xs ++ [b]) = (263 * partSum xs + b) % 997 := by
  simp [partSum, stepSum]
theorem foldl_hi (xs : List Int) : ∀ s : Int, s < 997 → xs.foldl stepSum s < 997 := by
  induction xs with
  | nil => intro s h; exact h
  | cons x r ih => intro s h; exact ih _ (by unfold stepSum; omega)
theorem foldl_lo (xs : List Int) : ∀ s : Int, 0 ≤ s → 0 ≤ xs.foldl stepSum s := by
  induction xs with
  | nil => intro s h; exact h
  | cons x r ih => intro s h; exact ih _ (by unfold stepSum; omega)
theorem partSum_hi (xs : List Int) : partSum xs < 997 := foldl_hi xs 11 (by omega)
theorem partSum_lo (xs : List Int) : 0 ≤ partSum xs := foldl_lo xs 11 (by omega)
end Go.Proofs.Ythgnnpafieifmaa
