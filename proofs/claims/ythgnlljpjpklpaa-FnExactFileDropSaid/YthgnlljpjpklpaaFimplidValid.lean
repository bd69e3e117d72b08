/-
  The walk of impl.idValid, written by program: each line names the law of one operation. Conditions: those of the theorem.
-/
import Derived.Test.YthgnlljpjpklpaaProg
import Derived.Test.YthgnlljpjpklpaaDeep
import Derived.KernelRfl
namespace Go.Proofs.Ythgnlljpjpklpaa
open Go Go.RowKit
set_option linter.unusedVariables false
set_option linter.unusedSimpArgs false
namespace idValid_okF

end idValid_okF
open idValid_okF in
set_option maxHeartbeats 4000000 in
theorem idValid_ok (a : Int) (w : World)  :
    Fn Try.prog 66 [(.int .i64 a)] w fun v w' => v = .bool (dec (1 ≤ a ∧ a ≤ 99)) ∧ Ch [] w w' := by
  refine fn_of (n := 9) Try.func66 rfl rfl rfl rfl ?_
  have hc : Ch [] w w := Ch.refl _ _
  refine cw_seq fun K1 hK2 => ?_
  refine cw_region fun K3 hK4 => ?_
  refine rw_cons (op_pv (w0 rfl) rfl rfl (pv_assign (v := (.bool false)) rfl rfl) ?_)
  refine rw_nil (hK4 _ _ ?_)
  refine hK2 _ _ ?_
  refine cw_seq fun K5 hK6 => ?_
  refine cw_region fun K7 hK8 => ?_
  refine rw_cons (op_pv (w0 rfl) rfl rfl (pv_move (v := (.int .i64 a)) rfl rfl) ?_)
  refine rw_cons (op_pv (w0 rfl) rfl rfl (pv_geq rfl rfl rfl) ?_)
  refine rw_cons (op_pv (w0 rfl) rfl rfl (pv_move (v := (.bool (decide (1 ≤ a)))) rfl rfl) ?_)
  refine rw_split 5 rfl (fun hb9 => ?_) (fun hb9 => ?_)
  · -- yes
    replace hb9 := of_decide_eq_true hb9
    refine rw_cons (op_pv (w1y rfl rfl rfl rfl) rfl rfl (pv_move (v := (.int .i64 a)) rfl rfl) ?_)
    refine rw_cons (op_pv (w1y rfl rfl rfl rfl) rfl rfl (pv_leq rfl rfl rfl) ?_)
    refine rw_cons (op_pv (w0 rfl) rfl rfl (pv_pickT (v := (.bool (decide (a ≤ 99)))) rfl rfl rfl) ?_)
    refine rw_cons (op_pv (w0 rfl) rfl rfl (pv_assign (v := (.bool (decide (a ≤ 99)))) rfl rfl) ?_)
    refine rw_nil (hK8 _ _ ?_)
    refine hK6 _ _ ?_
    refine cw_ret ?_
    refine fin1 rfl ?_
    exact ⟨(bv (by first | exact dec_dec (by omega) | exact (dec_no (by omega)).symm)), hc⟩
  · -- no
    replace hb9 := of_decide_eq_false hb9
    refine rw_cons (op_pass (w1n1 rfl rfl rfl rfl) rfl rfl ?_)
    refine rw_cons (op_pass (w1n1 rfl rfl rfl rfl) rfl rfl ?_)
    refine rw_cons (op_pv (w0 rfl) rfl rfl (pv_pickF (v := (.bool false)) rfl rfl rfl) ?_)
    refine rw_cons (op_pv (w0 rfl) rfl rfl (pv_assign (v := (.bool false)) rfl rfl) ?_)
    refine rw_nil (hK8 _ _ ?_)
    refine hK6 _ _ ?_
    refine cw_ret ?_
    refine fin1 rfl ?_
    exact ⟨(bv (by first | exact dec_dec (by omega) | exact (dec_no (by omega)).symm)), hc⟩
end Go.Proofs.Ythgnlljpjpklpaa
