/-
  The walk of impl.StateOf, written by program: each line names the law of one operation. Conditions: those of the theorem.
-/
import Derived.Test.YtdnncgapbjnfoaaProg
import Derived.Test.YtdnncgapbjnfoaaNode
import Derived.Test.YtdnncgapbjnfoaaFimplStateAt
import Derived.KernelRfl
namespace Go.Proofs.Ytdnncgapbjnfoaa
open Go Go.RowKit
set_option linter.unusedVariables false
set_option linter.unusedSimpArgs false
namespace StateOf_okF
theorem C36 : Callable Try.prog 36 := ⟨_, Try.func36, by kernel_rfl, by kernel_rfl⟩
end StateOf_okF
open StateOf_okF in
set_option maxHeartbeats 4000000 in
theorem StateOf_ok (Alog : Option Addr) (nlog clog : Nat) (log : List Bt) (w : World) (hRlog : RS encB 2 w w.heap.size Alog nlog log) (hnlog : nlog ≤ clog) (hNlog : nlog ≤ 1099511627776) :
    Fn Try.prog 24 [(.slice Alog nlog clog)] w fun v w' => ∃ A_0 c_0, v = .slice A_0 (stateV log log.length).length c_0 ∧ Own encI 1 w' w.heap.size 3 (.slice A_0 (stateV log log.length).length c_0) (stateV log log.length) ∧ Ch [] w w' := by
  have hlenlog := hRlog.len
  refine fn_of (n := 7) Try.func24 rfl rfl rfl rfl ?_
  have hc : Ch [] w w := Ch.refl _ _
  refine cw_seq fun K1 hK2 => ?_
  refine cw_region fun K3 hK4 => ?_
  refine rw_cons (op_pv (w0 rfl) rfl rfl (pv_assign (v := (.slice none 0 0)) rfl rfl) ?_)
  refine rw_nil (hK4 _ _ ?_)
  refine hK2 _ _ ?_
  refine cw_seq fun K5 hK6 => ?_
  refine cw_region fun K7 hK8 => ?_
  refine rw_cons (op_pv (w0 rfl) rfl rfl (pv_move (v := (.slice Alog nlog clog)) rfl rfl) ?_)
  refine rw_cons (op_pv (w0 rfl) rfl rfl (pv_move (v := (.slice Alog nlog clog)) rfl rfl) ?_)
  refine rw_cons (op_pv (w0 rfl) rfl rfl (pv_len Try.underlying29 rfl rfl) ?_)
  refine rw_cons (op_call (w0 rfl) rfl rfl (rc_call C36 rfl rfl) (StateAt_ok _ nlog _ log (nlog : Int) _ (hRlog.more (by omega)) (by omega) (by omega)) ?_)
  rintro _ w9 ⟨A11, c12, rfl, hO13, hch10⟩
  have hsz14 := hch10.size
  replace hRlog := hRlog.ch0 hch10
  replace hc := hc.step0 hch10
  have hub15 := hO13.lt
  have hcap16 : (stateV log (nlog : Int)).length ≤ c12 := by obtain ⟨_, _, hv, h1, _⟩ := hO13.form; injection hv with _ _ h3; omega
  have hnt17 := stateV_le log (nlog : Int)
  refine rw_cons (op_pv (w0 rfl) rfl rfl (pv_assign (v := (.slice A11 (stateV log (nlog : Int)).length c12)) rfl rfl) ?_)
  refine rw_nil (hK8 _ _ ?_)
  refine hK6 _ _ ?_
  refine cw_ret ?_
  refine fin1 rfl ?_
  have he_0 : (stateV log (nlog : Int)) = stateV log log.length := by rw [hlenlog]
  exact ⟨_, _, (sl_as hO13 he_0), own_as (hO13.less (by omega)) he_0, hc⟩
end Go.Proofs.Ytdnncgapbjnfoaa
