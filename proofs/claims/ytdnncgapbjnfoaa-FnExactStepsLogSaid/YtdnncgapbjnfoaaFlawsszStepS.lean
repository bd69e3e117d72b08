/-
  The walk of laws.szStepS, written by program: each line names the law of one operation. Conditions: those of the theorem.
-/
import Derived.Test.YtdnncgapbjnfoaaProg
import Derived.Test.YtdnncgapbjnfoaaSteps
import Derived.KernelRfl
namespace Go.Proofs.Ytdnncgapbjnfoaa
open Go Go.RowKit
set_option linter.unusedVariables false
set_option linter.unusedSimpArgs false
namespace szStepS_okF

end szStepS_okF
open szStepS_okF in
set_option maxHeartbeats 4000000 in
theorem szStepS_ok (A : Option Addr) (n c : Nat) (xs : List Stp) (m : Int) (w : World) (hR : RS encP 3 w w.heap.size A n xs) (hm0 : 0 ≤ m) (hm1 : m ≤ 1099511627776) (hn : n ≤ maxLen) :
    Fn Try.prog 17 [(.slice A n c), (.int .i64 m)] w fun v w' => ∃ r : Int, v = .int .i64 r ∧ (m - n < 0 → r = -1) ∧ (0 ≤ m - n → r = m - n) ∧ Ch [] w w' := by
  unfold maxLen at hn
  refine fn_of (n := 12) Try.func17 rfl rfl rfl rfl ?_
  have hc : Ch [] w w := Ch.refl _ _
  refine cw_seq fun K1 hK2 => ?_
  refine cw_region fun K3 hK4 => ?_
  refine rw_cons (op_pv (w0 rfl) rfl rfl (pv_assign (v := (.int .i64 0)) rfl rfl) ?_)
  refine rw_nil (hK4 _ _ ?_)
  refine hK2 _ _ ?_
  refine cw_seq fun K5 hK6 => ?_
  refine cw_region fun K7 hK8 => ?_
  refine rw_cons (op_pv (w0 rfl) rfl rfl (pv_move (v := (.int .i64 m)) rfl rfl) ?_)
  refine rw_cons (op_pv (w0 rfl) rfl rfl (pv_move (v := (.slice A n c)) rfl rfl) ?_)
  refine rw_cons (op_pv (w0 rfl) rfl rfl (pv_len Try.underlying35 rfl rfl) ?_)
  refine rw_cons (op_pv (w0 rfl) rfl rfl (pv_sub rfl rfl rfl (by omega) (by omega)) ?_)
  refine rw_cons (op_pv (w0 rfl) rfl rfl (pv_assign (v := (.int .i64 (m - (n : Int)))) rfl rfl) ?_)
  refine rw_nil (hK8 _ _ ?_)
  refine hK6 _ _ ?_
  refine cw_seq fun K9 hK10 => ?_
  refine cw_seq fun K11 hK12 => ?_
  refine cw_region fun K13 hK14 => ?_
  refine rw_cons (op_pv (w0 rfl) rfl rfl (pv_move (v := (.int .i64 (m - (n : Int)))) rfl rfl) ?_)
  refine rw_cons (op_pv (w0 rfl) rfl rfl (pv_lss rfl rfl rfl) ?_)
  refine rw_nil (hK14 _ _ ?_)
  refine hK12 _ _ ?_
  refine cw_cond rfl (fun h15 => ?_) (fun h15 => ?_)
  · -- then
    replace h15 := of_decide_eq_true h15
    refine cw_seq fun K16 hK17 => ?_
    refine cw_region fun K18 hK19 => ?_
    refine rw_cons (op_pv (w0 rfl) rfl rfl (pv_assign (v := (.int .i64 (-1))) rfl rfl) ?_)
    refine rw_nil (hK19 _ _ ?_)
    refine hK17 _ _ ?_
    refine cw_ret ?_
    refine fin1 rfl ?_
    exact ⟨_, rfl, by omega, by omega, hc⟩
  · -- else
    replace h15 := of_decide_eq_false h15
    refine cw_skip ?_
    refine hK10 _ _ ?_
    refine cw_seq fun K20 hK21 => ?_
    refine cw_region fun K22 hK23 => ?_
    refine rw_cons (op_pv (w0 rfl) rfl rfl (pv_move (v := (.int .i64 (m - (n : Int)))) rfl rfl) ?_)
    refine rw_cons (op_pv (w0 rfl) rfl rfl (pv_assign (v := (.int .i64 (m - (n : Int)))) rfl rfl) ?_)
    refine rw_nil (hK23 _ _ ?_)
    refine hK21 _ _ ?_
    refine cw_ret ?_
    refine fin1 rfl ?_
    exact ⟨_, rfl, by omega, by omega, hc⟩
end Go.Proofs.Ytdnncgapbjnfoaa
