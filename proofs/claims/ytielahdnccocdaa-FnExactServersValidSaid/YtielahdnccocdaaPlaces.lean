/-
  Plain: places and scores. No conditions; no program in sight.
-/
import Derived.Test.YtielahdnccocdaaKinds
namespace Go.Proofs.Ytielahdnccocdaa
open Go Go.RowKit
set_option linter.unusedVariables false

theorem sq_bd (x m : Int) (h0 : 0 ≤ x) (h1 : x ≤ m) : 0 ≤ x * x ∧ x * x ≤ m * m :=
  ⟨Int.mul_nonneg h0 h0, Int.mul_le_mul h1 h1 h0 (by omega)⟩

def mixP (a b : Int) : Int := ((131 * a + 17 * b + 7) * (131 * a + 17 * b + 7) + 3 * (131 * a + 17 * b + 7)) % 9973
theorem mixP_bd (a b : Int) : 0 ≤ mixP a b ∧ mixP a b < 9973 := by unfold mixP; omega
def scoreOf (a b : Int) : Int := if 1 ≤ a ∧ a ≤ 99 ∧ 1 ≤ b ∧ b ≤ 99 then mixP a b else -1
theorem scoreOf_bd (a b : Int) : -1 ≤ scoreOf a b ∧ scoreOf a b < 9973 := by
  unfold scoreOf
  have := mixP_bd a b
  split <;> omega
theorem scoreOf_yes {a b : Int} (h : 1 ≤ a ∧ a ≤ 99 ∧ 1 ≤ b ∧ b ≤ 99) : scoreOf a b = mixP a b := if_pos h
theorem scoreOf_no {a b : Int} (h : ¬(1 ≤ a ∧ a ≤ 99 ∧ 1 ≤ b ∧ b ≤ 99)) : scoreOf a b = -1 := if_neg h

/-- the elements are ids that ascend -/
def IdsOK (xs : List Int) : Prop := ∀ j, j < xs.length → (1 ≤ el xs j ∧ el xs j ≤ 99) ∧ (0 < j → el xs ((j : Int) - 1).toNat < el xs j)
def ServersOK (xs : List Int) : Prop := xs.length ≤ 8 ∧ IdsOK xs
end Go.Proofs.Ytielahdnccocdaa
