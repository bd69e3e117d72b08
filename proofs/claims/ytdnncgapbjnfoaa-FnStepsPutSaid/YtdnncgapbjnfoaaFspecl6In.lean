/-
  The walk of spec.l6In, written by program: each line names the law of one operation. Conditions: those of the theorem.
-/
import Derived.Test.YtdnncgapbjnfoaaProg
import Derived.Test.YtdnncgapbjnfoaaKinds
import Derived.KernelRfl
namespace Go.Proofs.Ytdnncgapbjnfoaa
open Go Go.RowKit
set_option linter.unusedVariables false
set_option linter.unusedSimpArgs false
namespace l6In_okF

end l6In_okF
open l6In_okF in
set_option maxHeartbeats 4000000 in
theorem l6In_ok (a lo hi : Int) (w : World) :
    Fn Try.prog 31 [(.int .i64 a), (.int .i64 lo), (.int .i64 hi)] w fun v w' => v = .bool (dec (lo ≤ a ∧ a ≤ hi)) ∧ Ch [] w w' := by
  refine fn_of (n := 15) Try.func31 rfl rfl rfl rfl ?_
  have hc : Ch [] w w := Ch.refl _ _
  refine cw_seq fun K1 hK2 => ?_
  refine cw_region fun K3 hK4 => ?_
  refine rw_cons (op_pv (w0 rfl) rfl rfl (pv_assign (v := (.bool false)) rfl rfl) ?_)
  refine rw_nil (hK4 _ _ ?_)
  refine hK2 _ _ ?_
  refine cw_seq fun K5 hK6 => ?_
  refine cw_region fun K7 hK8 => ?_
  refine rw_cons (op_pv (w0 rfl) rfl rfl (pv_move (v := (.int .i64 a)) rfl rfl) ?_)
  refine rw_cons (op_pv (w0 rfl) rfl rfl (pv_move (v := (.int .i64 lo)) rfl rfl) ?_)
  refine rw_cons (op_pv (w0 rfl) rfl rfl (pv_geq rfl rfl rfl) ?_)
  refine rw_cons (op_pv (w0 rfl) rfl rfl (pv_move (v := (.bool (decide (lo ≤ a)))) rfl rfl) ?_)
  refine rw_split 10 rfl (fun hb9 => ?_) (fun hb9 => ?_)
  · -- yes
    replace hb9 := of_decide_eq_true hb9
    refine rw_cons (op_pv (w1y rfl rfl rfl rfl) rfl rfl (pv_move (v := (.int .i64 a)) rfl rfl) ?_)
    refine rw_cons (op_pv (w1y rfl rfl rfl rfl) rfl rfl (pv_move (v := (.int .i64 hi)) rfl rfl) ?_)
    refine rw_cons (op_pv (w1y rfl rfl rfl rfl) rfl rfl (pv_leq rfl rfl rfl) ?_)
    refine rw_cons (op_pv (w0 rfl) rfl rfl (pv_pickT (v := (.bool (decide (a ≤ hi)))) rfl rfl rfl) ?_)
    refine rw_cons (op_pv (w0 rfl) rfl rfl (pv_assign (v := (.bool (decide (a ≤ hi)))) rfl rfl) ?_)
    refine rw_nil (hK8 _ _ ?_)
    refine hK6 _ _ ?_
    refine cw_ret ?_
    refine fin1 rfl ?_
    exact ⟨bv (dec_dec (by omega)), hc⟩
  · -- no
    replace hb9 := of_decide_eq_false hb9
    refine rw_cons (op_pass (w1n1 rfl rfl rfl rfl) rfl rfl ?_)
    refine rw_cons (op_pass (w1n1 rfl rfl rfl rfl) rfl rfl ?_)
    refine rw_cons (op_pass (w1n1 rfl rfl rfl rfl) rfl rfl ?_)
    refine rw_cons (op_pv (w0 rfl) rfl rfl (pv_pickF (v := (.bool false)) rfl rfl rfl) ?_)
    refine rw_cons (op_pv (w0 rfl) rfl rfl (pv_assign (v := (.bool false)) rfl rfl) ?_)
    refine rw_nil (hK8 _ _ ?_)
    refine hK6 _ _ ?_
    refine cw_ret ?_
    refine fin1 rfl ?_
    exact ⟨bvf (fun h => by omega), hc⟩
end Go.Proofs.Ytdnncgapbjnfoaa
