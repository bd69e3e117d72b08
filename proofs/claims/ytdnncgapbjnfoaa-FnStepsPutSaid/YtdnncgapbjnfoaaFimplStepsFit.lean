/-
  The walk of impl.StepsFit, written by program: each line names the law of one operation. Conditions: those of the theorem.
-/
import Derived.Test.YtdnncgapbjnfoaaProg
import Derived.Test.YtdnncgapbjnfoaaFits
import Derived.Test.YtdnncgapbjnfoaaFimplStepsBad
import Derived.KernelRfl
namespace Go.Proofs.Ytdnncgapbjnfoaa
open Go Go.RowKit
set_option linter.unusedVariables false
set_option linter.unusedSimpArgs false
namespace StepsFit_iF
theorem C27 : Callable Try.prog 27 := ⟨_, Try.func27, by kernel_rfl, by kernel_rfl⟩
end StepsFit_iF
open StepsFit_iF in
set_option maxHeartbeats 4000000 in
theorem StepsFit_i (Ahs : Option Addr) (nhs chs : Nat) (hs : List Stp) (w : World) (hRhs : RS encP 3 w w.heap.size Ahs nhs hs) (hNhs : nhs ≤ 1099511627776) :
    Fn Try.prog 8 [(.slice Ahs nhs chs)] w fun v w' => v = .bool (dec (FitsOK hs)) ∧ Ch [] w w' := by
  have hlenhs := hRhs.len
  refine fn_of (n := 6) Try.func8 rfl rfl rfl rfl ?_
  have hc : Ch [] w w := Ch.refl _ _
  refine cw_seq fun K1 hK2 => ?_
  refine cw_region fun K3 hK4 => ?_
  refine rw_cons (op_pv (w0 rfl) rfl rfl (pv_assign (v := (.bool false)) rfl rfl) ?_)
  refine rw_nil (hK4 _ _ ?_)
  refine hK2 _ _ ?_
  refine cw_seq fun K5 hK6 => ?_
  refine cw_region fun K7 hK8 => ?_
  refine rw_cons (op_pv (w0 rfl) rfl rfl (pv_move (v := (.slice Ahs nhs chs)) rfl rfl) ?_)
  refine rw_cons (op_call (w0 rfl) rfl rfl (rc_call C27 rfl rfl) (StepsBad_i _ nhs _ hs _ (hRhs.more (by omega)) (by omega)) ?_)
  rintro _ w10 ⟨r9, rfl, hbr11, hch12⟩
  have hsz13 := hch12.size
  replace hRhs := hRhs.ch0 hch12
  replace hc := hc.step0 hch12
  refine rw_cons (op_pv (w0 rfl) rfl rfl (pv_eql rfl rfl rfl) ?_)
  refine rw_cons (op_pv (w0 rfl) rfl rfl (pv_assign (v := (.bool (decide ((r9 : Int) = (-1))))) rfl rfl) ?_)
  refine rw_nil (hK8 _ _ ?_)
  refine hK6 _ _ ?_
  refine cw_ret ?_
  refine fin1 rfl ?_
  exact ⟨(bv (dec_dec hbr11)), hc⟩
end Go.Proofs.Ytdnncgapbjnfoaa
