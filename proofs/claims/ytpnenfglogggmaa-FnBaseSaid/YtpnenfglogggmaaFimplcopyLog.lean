/-
  The walk of impl.copyLog, written by program: each line names the law of one operation. Conditions: those of the theorem.
-/
import Derived.Test.YtpnenfglogggmaaProg
import Derived.Test.YtpnenfglogggmaaNode
import Derived.KernelRfl
namespace Go.Proofs.Ytpnenfglogggmaa
open Go Go.RowKit
set_option linter.unusedVariables false
set_option linter.unusedSimpArgs false
namespace copyLog_okF
theorem T65 : TI Try.prog 65 true (.agg #[.int .i64 0, .int .i64 0]) 2 16 := TI.mk' Try.underlying65 rfl (by kernel_rfl)
end copyLog_okF
open copyLog_okF in
set_option maxHeartbeats 4000000 in
theorem copyLog_ok (Alog : Option Addr) (nlog clog : Nat) (log : List Bt) (w : World) (hRlog : RS encB 2 w w.heap.size Alog nlog log) (hNlog : nlog ≤ 1099511627776) :
    Fn Try.prog 47 [(.slice Alog nlog clog)] w fun v w' => ∃ A_0 c_0, v = .slice A_0 (log).length c_0 ∧ Own encB 2 w' w.heap.size 65 (.slice A_0 (log).length c_0) (log) ∧ Ch [] w w' := by
  have hlenlog := hRlog.len
  refine fn_of (n := 11) Try.func47 rfl rfl rfl rfl ?_
  have hc : Ch [] w w := Ch.refl _ _
  refine cw_seq fun K1 hK2 => ?_
  refine cw_region fun K3 hK4 => ?_
  refine rw_cons (op_pv (w0 rfl) rfl rfl (pv_assign (v := (.slice none 0 0)) rfl rfl) ?_)
  refine rw_nil (hK4 _ _ ?_)
  refine hK2 _ _ ?_
  refine cw_seq fun K5 hK6 => ?_
  refine cw_region fun K7 hK8 => ?_
  refine rw_cons (op_pv (w0 rfl) rfl rfl (pv_move (v := (.slice Alog nlog clog)) rfl rfl) ?_)
  refine rw_cons (op_pv (w0 rfl) rfl rfl (pv_len Try.underlying34 rfl rfl) ?_)
  refine rw_cons (op_make (enc := encB) nlog default Try.underlying34 T65 (fun _ => rfl) rfl (by decide) (w0 rfl) rfl rfl rfl rfl rfl (by omega) (by unfold maxLen; omega) ?_)
  rintro g10 w9 hg13 hg14 hO12 hch11
  have hsz15 := hch11.size
  replace hRlog := hRlog.ch0 hch11
  replace hc := hc.step0 hch11
  replace hO12 := hO12.less (b := w.heap.size) (by omega)
  have hub16 := hO12.lt
  refine rw_cons (op_pv (w0 rfl) rfl rfl (pv_assign (v := (.slice (some ⟨g10, 0, none⟩) nlog nlog)) rfl rfl) ?_)
  refine rw_nil (hK8 _ _ ?_)
  refine hK6 _ _ ?_
  refine cw_seq fun K17 hK18 => ?_
  refine cw_region fun K19 hK20 => ?_
  refine rw_cons (op_pv (w0 rfl) rfl rfl (pv_move (v := (.slice (some ⟨g10, 0, none⟩) nlog nlog)) rfl rfl) ?_)
  refine rw_cons (op_pv (w0 rfl) rfl rfl (pv_move (v := (.slice Alog nlog clog)) rfl rfl) ?_)
  have hle24 := hO12.le
  refine rw_cons (op_copy (k := 0) Try.underlying34 T65 (fun _ => rfl) (by decide) (fun _ => one_all rfl) (w0 rfl) rfl rfl rfl rfl rfl hO12 hRlog (fun h => by have := hO12.some' (by omega); simpa [add_zero'] using this) (by omega) ?_)
  rintro w21 hO22 hch23
  have hsz25 := hch23.size
  replace hRlog := hRlog.ch hch23 (hO12.off.le (by omega))
  replace hc := (hO12.off.le (by omega)).step hc hch23
  clear hO12; have hO12 := hO22; clear hO22
  refine rw_nil (hK20 _ _ ?_)
  refine hK18 _ _ ?_
  refine cw_seq fun K26 hK27 => ?_
  refine cw_region fun K28 hK29 => ?_
  refine rw_cons (op_pv (w0 rfl) rfl rfl (pv_move (v := (.slice (some ⟨g10, 0, none⟩) nlog nlog)) rfl rfl) ?_)
  refine rw_cons (op_pv (w0 rfl) rfl rfl (pv_assign (v := (.slice (some ⟨g10, 0, none⟩) nlog nlog)) rfl rfl) ?_)
  refine rw_nil (hK29 _ _ ?_)
  refine hK27 _ _ ?_
  refine cw_ret ?_
  refine fin1 rfl ?_
  have he_0 : ((List.replicate nlog default).take 0 ++ log.take (min nlog nlog) ++ (List.replicate nlog default).drop (0 + min nlog nlog)) = log := by simp [hlenlog, List.take_of_length_le]
  exact ⟨_, _, (sl_as hO12 he_0), own_as (hO12.less (by omega)) he_0, hc⟩
end Go.Proofs.Ytpnenfglogggmaa
