/-
  The walk of laws.szIntS, written by program: each line names the law of one operation. Conditions: those of the theorem.
-/
import Derived.Test.YthgnlljpjpklpaaProg
import Derived.Test.YthgnlljpjpklpaaDeep
import Derived.KernelRfl
namespace Go.Proofs.Ythgnlljpjpklpaa
open Go Go.RowKit
set_option linter.unusedVariables false
set_option linter.unusedSimpArgs false
namespace szIntS_okF

end szIntS_okF
open szIntS_okF in
set_option maxHeartbeats 4000000 in
theorem szIntS_ok (A : Option Addr) (n c : Nat) (m : Int) (w : World) (hm : 0 ≤ m ∧ m ≤ 1048576) (hn : n ≤ 9223372036854775807) :
    Fn Try.prog 64 [(.slice A n c), (.int .i64 m)] w fun v w' => ∃ r : Int, v = .int .i64 r ∧ (r < 0 ∨ (0 ≤ r ∧ r + n ≤ m)) ∧ Ch [] w w' := by
  refine fn_of (n := 12) Try.func64 rfl rfl rfl rfl ?_
  have hc : Ch [] w w := Ch.refl _ _
  refine cw_seq fun K1 hK2 => ?_
  refine cw_region fun K3 hK4 => ?_
  refine rw_cons (op_pv (w0 rfl) rfl rfl (pv_assign (v := (.int .i64 0)) rfl rfl) ?_)
  refine rw_nil (hK4 _ _ ?_)
  refine hK2 _ _ ?_
  refine cw_seq fun K5 hK6 => ?_
  refine cw_region fun K7 hK8 => ?_
  refine rw_cons (op_pv (w0 rfl) rfl rfl (pv_move (v := (.int .i64 m)) rfl rfl) ?_)
  refine rw_cons (op_pv (w0 rfl) rfl rfl (pv_move (v := (.slice A n c)) rfl rfl) ?_)
  refine rw_cons (op_pv (w0 rfl) rfl rfl (pv_len Try.underlying25 rfl rfl) ?_)
  refine rw_cons (op_pv (w0 rfl) rfl rfl (pv_sub rfl rfl rfl (by omega) (by omega)) ?_)
  refine rw_cons (op_pv (w0 rfl) rfl rfl (pv_assign (v := (.int .i64 (m - (n : Int)))) rfl rfl) ?_)
  refine rw_nil (hK8 _ _ ?_)
  refine hK6 _ _ ?_
  refine cw_seq fun K9 hK10 => ?_
  refine cw_seq fun K11 hK12 => ?_
  refine cw_region fun K13 hK14 => ?_
  refine rw_cons (op_pv (w0 rfl) rfl rfl (pv_move (v := (.int .i64 (m - (n : Int)))) rfl rfl) ?_)
  refine rw_cons (op_pv (w0 rfl) rfl rfl (pv_lss rfl rfl rfl) ?_)
  refine rw_nil (hK14 _ _ ?_)
  refine hK12 _ _ ?_
  refine cw_cond rfl (fun h15 => ?_) (fun h15 => ?_)
  · -- then
    replace h15 := of_decide_eq_true h15
    refine cw_seq fun K16 hK17 => ?_
    refine cw_region fun K18 hK19 => ?_
    refine rw_cons (op_pv (w0 rfl) rfl rfl (pv_assign (v := (.int .i64 (-1))) rfl rfl) ?_)
    refine rw_nil (hK19 _ _ ?_)
    refine hK17 _ _ ?_
    refine cw_ret ?_
    refine fin1 rfl ?_
    exact ⟨_, rfl, by omega, hc⟩
  · -- else
    replace h15 := of_decide_eq_false h15
    refine cw_skip ?_
    refine hK10 _ _ ?_
    refine cw_seq fun K20 hK21 => ?_
    refine cw_region fun K22 hK23 => ?_
    refine rw_cons (op_pv (w0 rfl) rfl rfl (pv_move (v := (.int .i64 (m - (n : Int)))) rfl rfl) ?_)
    refine rw_cons (op_pv (w0 rfl) rfl rfl (pv_assign (v := (.int .i64 (m - (n : Int)))) rfl rfl) ?_)
    refine rw_nil (hK23 _ _ ?_)
    refine hK21 _ _ ?_
    refine cw_ret ?_
    refine fin1 rfl ?_
    exact ⟨_, rfl, by omega, hc⟩
end Go.Proofs.Ythgnlljpjpklpaa
