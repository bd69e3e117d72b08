/-
  The walk of impl.BeatsAlive, written by program: each line names the law of one operation. Conditions: those of the theorem.
-/
import Derived.Test.YtnkjljjcionfiaaProg
import Derived.Test.YtnkjljjcionfiaaBeats
import Derived.Test.YtnkjljjcionfiaaFimplbeatServers
import Derived.KernelRfl
namespace Go.Proofs.Ytnkjljjcionfiaa
open Go Go.RowKit
set_option linter.unusedVariables false
set_option linter.unusedSimpArgs false
namespace BeatsAlive_iF
theorem C46 : Callable Try.prog 46 := ⟨_, Try.func46, by kernel_rfl, by kernel_rfl⟩
end BeatsAlive_iF
open BeatsAlive_iF in
set_option maxHeartbeats 4000000 in
theorem BeatsAlive_i (Axs : Option Addr) (nxs cxs : Nat) (xs : List Bt) (now : Int) (wi : Int) (w : World) (hRxs : RS encB 2 w w.heap.size Axs nxs xs) (hNxs : nxs ≤ 1099511627776) :
    Fn Try.prog 23 [(.slice Axs nxs cxs), (.int .i64 now), (.int .i64 wi)] w fun v w' => ∃ A_0 c_0, v = .slice A_0 (srvV xs now wi true).length c_0 ∧ Own encI 1 w' w.heap.size 3 (.slice A_0 (srvV xs now wi true).length c_0) (srvV xs now wi true) ∧ Ch [] w w' := by
  have hlenxs := hRxs.len
  refine fn_of (n := 11) Try.func23 rfl rfl rfl rfl ?_
  have hc : Ch [] w w := Ch.refl _ _
  refine cw_seq fun K1 hK2 => ?_
  refine cw_region fun K3 hK4 => ?_
  refine rw_cons (op_pv (w0 rfl) rfl rfl (pv_assign (v := (.slice none 0 0)) rfl rfl) ?_)
  refine rw_nil (hK4 _ _ ?_)
  refine hK2 _ _ ?_
  refine cw_seq fun K5 hK6 => ?_
  refine cw_region fun K7 hK8 => ?_
  refine rw_cons (op_pv (w0 rfl) rfl rfl (pv_move (v := (.slice Axs nxs cxs)) rfl rfl) ?_)
  refine rw_cons (op_pv (w0 rfl) rfl rfl (pv_move (v := (.int .i64 now)) rfl rfl) ?_)
  refine rw_cons (op_pv (w0 rfl) rfl rfl (pv_move (v := (.int .i64 wi)) rfl rfl) ?_)
  refine rw_cons (op_call (w0 rfl) rfl rfl (rc_call C46 rfl rfl) (beatServers_ok _ nxs _ xs now wi true _ (hRxs.more (by omega)) (by omega)) ?_)
  rintro _ w9 ⟨A11, c12, rfl, hO13, hch10⟩
  have hsz14 := hch10.size
  replace hRxs := hRxs.ch0 hch10
  replace hc := hc.step0 hch10
  have hub15 := hO13.lt
  have hcap16 : (srvV xs now wi true).length ≤ c12 := by obtain ⟨_, _, hv, h1, _⟩ := hO13.form; injection hv with _ _ h3; omega
  have hnt17 := srvV_le xs now wi true
  refine rw_cons (op_pv (w0 rfl) rfl rfl (pv_assign (v := (.slice A11 (srvV xs now wi true).length c12)) rfl rfl) ?_)
  refine rw_nil (hK8 _ _ ?_)
  refine hK6 _ _ ?_
  refine cw_ret ?_
  refine fin1 rfl ?_
  have he_0 : (srvV xs now wi true) = srvV xs now wi true := rfl
  exact ⟨_, _, (sl_as hO13 he_0), own_as (hO13.less (by omega)) he_0, hc⟩
end Go.Proofs.Ytnkjljjcionfiaa
