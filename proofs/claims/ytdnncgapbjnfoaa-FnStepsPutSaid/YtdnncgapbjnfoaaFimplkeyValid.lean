/-
  The walk of impl.keyValid, written by program: each line names the law of one operation. Conditions: those of the theorem.
-/
import Derived.Test.YtdnncgapbjnfoaaProg
import Derived.Test.YtdnncgapbjnfoaaBase
import Derived.KernelRfl
namespace Go.Proofs.Ytdnncgapbjnfoaa
open Go Go.RowKit
set_option linter.unusedVariables false
set_option linter.unusedSimpArgs false
namespace keyValid_okF

end keyValid_okF
open keyValid_okF in
set_option maxHeartbeats 4000000 in
theorem keyValid_ok (a : Int) (w : World)  :
    Fn Try.prog 42 [(.int .i64 a)] w fun v w' => v = .bool (dec (0 ≤ a ∧ a < 5)) ∧ Ch [] w w' := by
  refine fn_of (n := 9) Try.func42 rfl rfl rfl rfl ?_
  have hc : Ch [] w w := Ch.refl _ _
  refine cw_seq fun K1 hK2 => ?_
  refine cw_region fun K3 hK4 => ?_
  refine rw_cons (op_pv (w0 rfl) rfl rfl (pv_assign (v := (.bool false)) rfl rfl) ?_)
  refine rw_nil (hK4 _ _ ?_)
  refine hK2 _ _ ?_
  refine cw_seq fun K5 hK6 => ?_
  refine cw_region fun K7 hK8 => ?_
  refine rw_cons (op_pv (w0 rfl) rfl rfl (pv_move (v := (.int .i64 a)) rfl rfl) ?_)
  refine rw_cons (op_pv (w0 rfl) rfl rfl (pv_geq rfl rfl rfl) ?_)
  refine rw_cons (op_pv (w0 rfl) rfl rfl (pv_move (v := (.bool (decide (0 ≤ a)))) rfl rfl) ?_)
  refine rw_split 5 rfl (fun hb9 => ?_) (fun hb9 => ?_)
  · -- yes
    replace hb9 := of_decide_eq_true hb9
    refine rw_cons (op_pv (w1y rfl rfl rfl rfl) rfl rfl (pv_move (v := (.int .i64 a)) rfl rfl) ?_)
    refine rw_cons (op_pv (w1y rfl rfl rfl rfl) rfl rfl (pv_lss rfl rfl rfl) ?_)
    refine rw_cons (op_pv (w0 rfl) rfl rfl (pv_pickT (v := (.bool (decide (a < 5)))) rfl rfl rfl) ?_)
    refine rw_cons (op_pv (w0 rfl) rfl rfl (pv_assign (v := (.bool (decide (a < 5)))) rfl rfl) ?_)
    refine rw_nil (hK8 _ _ ?_)
    refine hK6 _ _ ?_
    refine cw_ret ?_
    refine fin1 rfl ?_
    exact ⟨(bv (dec_dec (by omega))), hc⟩
  · -- no
    replace hb9 := of_decide_eq_false hb9
    refine rw_cons (op_pass (w1n1 rfl rfl rfl rfl) rfl rfl ?_)
    refine rw_cons (op_pass (w1n1 rfl rfl rfl rfl) rfl rfl ?_)
    refine rw_cons (op_pv (w0 rfl) rfl rfl (pv_pickF (v := (.bool false)) rfl rfl rfl) ?_)
    refine rw_cons (op_pv (w0 rfl) rfl rfl (pv_assign (v := (.bool false)) rfl rfl) ?_)
    refine rw_nil (hK8 _ _ ?_)
    refine hK6 _ _ ?_
    refine cw_ret ?_
    refine fin1 rfl ?_
    exact ⟨(bvf (fun h => by omega)), hc⟩
end Go.Proofs.Ytdnncgapbjnfoaa
