/-
  Plain: nodes, the states behind their updates. No conditions; no program in sight.
-/
import Derived.Test.YtdnncgapbjnfoaaBase
namespace Go.Proofs.Ytdnncgapbjnfoaa
open Go Go.RowKit
set_option linter.unusedVariables false

theorem empty5_len : empty5.length = 5 := rfl
def fillA (k : Nat) : List Int := List.replicate k (-1) ++ List.replicate (5 - k) 0
theorem fill_zero : fillA 0 = List.replicate 5 0 := rfl
theorem fill_all {k : Nat} (h : k = 5) : fillA k = empty5 := by subst h; rfl
theorem fill_step {k : Nat} (h : k < 5) : (fillA k).set k (-1) = fillA (k + 1) := by
  match k, h with
  | 0, _ => rfl
  | 1, _ => rfl
  | 2, _ => rfl
  | 3, _ => rfl
  | 4, _ => rfl
theorem neg_step (k : Nat) : List.replicate k (-1 : Int) ++ [-1] = List.replicate (k + 1) (-1) := by rw [List.replicate_succ']
theorem neg_all {k : Nat} (h : k = 5) : List.replicate k (-1 : Int) = empty5 := by subst h; rfl
def NodeOK (id : Int) (log : List Bt) (dn : Int) : Prop := (1 ≤ id ∧ id ≤ 99) ∧ LogOK log ∧ (0 ≤ dn ∧ dn ≤ log.length)
def AtOK (log : List Bt) (dn : Int) : Prop := LogOK log ∧ (0 ≤ dn ∧ dn ≤ log.length)
noncomputable def stateV (log : List Bt) (dn : Int) : List Int := bif dec (AtOK log dn) then runL empty5 (log.take dn.toNat) else []
noncomputable def baseM (id : Int) (log : List Bt) (dn : Int) : Int := bif dec (NodeOK id log dn) then dn else 0
noncomputable def baseV (id : Int) (log : List Bt) (dn : Int) : List Int := bif dec (NodeOK id log dn) then runL empty5 (log.take dn.toNat) else []
noncomputable def restV (id : Int) (log : List Bt) (dn : Int) : List Bt := bif dec (NodeOK id log dn) then log.drop dn.toNat else []
section
variable {id : Int} {log : List Bt} {dn : Int}
theorem stateV_yes (h : AtOK log dn) : stateV log dn = runL empty5 (log.take dn.toNat) := by unfold stateV; rw [dec_yes h]; rfl
theorem stateV_no (h : ¬AtOK log dn) : stateV log dn = [] := by unfold stateV; rw [dec_no h]; rfl
theorem stateV_le (log : List Bt) (dn : Int) : (stateV log dn).length ≤ 5 := by
  by_cases h : AtOK log dn
  · rw [stateV_yes h, runL_len]; decide
  · rw [stateV_no h]; simp
theorem baseM_yes (h : NodeOK id log dn) : baseM id log dn = dn := by unfold baseM; rw [dec_yes h]; rfl
theorem baseM_no (h : ¬NodeOK id log dn) : baseM id log dn = 0 := by unfold baseM; rw [dec_no h]; rfl
theorem baseV_yes (h : NodeOK id log dn) : baseV id log dn = runL empty5 (log.take dn.toNat) := by unfold baseV; rw [dec_yes h]; rfl
theorem baseV_no (h : ¬NodeOK id log dn) : baseV id log dn = [] := by unfold baseV; rw [dec_no h]; rfl
theorem restV_yes (h : NodeOK id log dn) : restV id log dn = log.drop dn.toNat := by unfold restV; rw [dec_yes h]; rfl
theorem restV_no (h : ¬NodeOK id log dn) : restV id log dn = [] := by unfold restV; rw [dec_no h]; rfl
theorem baseV_le (id : Int) (log : List Bt) (dn : Int) : (baseV id log dn).length ≤ 5 := by
  by_cases h : NodeOK id log dn
  · rw [baseV_yes h, runL_len]; decide
  · rw [baseV_no h]; simp
theorem restV_le (id : Int) (log : List Bt) (dn : Int) : (restV id log dn).length ≤ 12 := by
  by_cases h : NodeOK id log dn
  · rw [restV_yes h]; have := h.2.1.1; simp; omega
  · rw [restV_no h]; simp
theorem base_node (h : NodeOK id log dn) : BaseOK (baseM id log dn) (baseV id log dn) := by
  obtain ⟨_, h1, h2, h3⟩ := (show _ ∧ _ ∧ _ ∧ _ from h)
  rw [baseM_yes h, baseV_yes h]
  have := base_of h1 (k := dn.toNat) (by omega)
  rwa [Int.toNat_of_nonneg h2] at this
theorem base_state (h : NodeOK id log dn) : baseV id log dn = stateV log dn := by rw [baseV_yes h, stateV_yes h.2]
end
end Go.Proofs.Ytdnncgapbjnfoaa
