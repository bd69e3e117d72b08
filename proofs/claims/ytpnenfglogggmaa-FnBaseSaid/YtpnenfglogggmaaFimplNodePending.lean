/-
  The walk of impl.NodePending, written by program: each line names the law of one operation. Conditions: those of the theorem.
-/
import Derived.Test.YtpnenfglogggmaaProg
import Derived.Test.YtpnenfglogggmaaNode
import Derived.Test.YtpnenfglogggmaaFimplNodeValid
import Derived.Test.YtpnenfglogggmaaFimplcopyLog
import Derived.KernelRfl
namespace Go.Proofs.Ytpnenfglogggmaa
open Go Go.RowKit
set_option linter.unusedVariables false
set_option linter.unusedSimpArgs false
namespace NodePending_okF
theorem T3 : TI Try.prog 3 false (.int .i64 0) 1 8 := TI.mk' Try.underlying3 rfl (by kernel_rfl)
theorem T34 : TI Try.prog 34 false (.slice none 0 0) 1 24 := TI.mk' Try.underlying34 rfl (by kernel_rfl)
theorem T41 : TI Try.prog 41 true (.agg #[.int .i64 0, .slice none 0 0, .int .i64 0]) 3 40 := TI.mk' Try.underlying41 rfl (by kernel_rfl)
theorem T65 : TI Try.prog 65 true (.agg #[.int .i64 0, .int .i64 0]) 2 16 := TI.mk' Try.underlying65 rfl (by kernel_rfl)
theorem F41_1 : FldOK Try.prog 41 1 1 := ⟨_, _, 0, Try.underlying41, rfl, rfl, by kernel_rfl⟩
theorem F41_2 : FldOK Try.prog 41 2 2 := ⟨_, _, 0, Try.underlying41, rfl, rfl, by kernel_rfl⟩
theorem C43 : Callable Try.prog 43 := ⟨_, Try.func43, by kernel_rfl, by kernel_rfl⟩
theorem C47 : Callable Try.prog 47 := ⟨_, Try.func47, by kernel_rfl, by kernel_rfl⟩
end NodePending_okF
open NodePending_okF in
set_option maxHeartbeats 4000000 in
theorem NodePending_ok (id : Int) (Alog : Option Addr) (nlog clog : Nat) (log : List Bt) (dn : Int) (w : World) (hRlog : RS encB 2 w w.heap.size Alog nlog log) (hnlog : nlog ≤ clog) (hNlog : nlog ≤ 1099511627776) :
    Fn Try.prog 24 [(.agg #[(.int .i64 id), (.slice Alog nlog clog), (.int .i64 dn)])] w fun v w' => ∃ A_0 c_0, v = .slice A_0 (restV id log dn).length c_0 ∧ Own encB 2 w' w.heap.size 65 (.slice A_0 (restV id log dn).length c_0) (restV id log dn) ∧ Ch [] w w' := by
  have hlenlog := hRlog.len
  refine fn_of (n := 13) Try.func24 rfl rfl rfl rfl ?_
  have hc : Ch [] w w := Ch.refl _ _
  refine cw_seq fun K1 hK2 => ?_
  refine cw_region fun K3 hK4 => ?_
  refine rw_cons (op_box (w0 rfl) rfl rfl rfl rfl ?_)
  rintro g6 w5 hg9 hg10 hB8 hch7
  have hsz11 := hch7.size
  replace hRlog := hRlog.ch0 hch7
  replace hc := hc.step0 hch7
  replace hB8 : Blk w5 g6 41 [(.int .i64 id), (.slice Alog nlog clog), (.int .i64 dn)] := hB8
  refine rw_cons (op_pv (w0 rfl) rfl rfl (pv_assign (v := (.slice none 0 0)) rfl rfl) ?_)
  refine rw_nil (hK4 _ _ ?_)
  refine hK2 _ _ ?_
  refine cw_seq fun K12 hK13 => ?_
  refine cw_seq fun K14 hK15 => ?_
  refine cw_region fun K16 hK17 => ?_
  refine rw_cons (op_lv (w0 rfl) rfl rfl (lv_loadN T41 rfl rfl rfl (fun j v hv => hB8.cellA hv)) ?_)
  refine rw_cons (op_call (w0 rfl) rfl rfl (rc_call C43 rfl rfl) (NodeValid_i id _ nlog _ log dn _ (hRlog.more (by omega)) (by omega) (by omega)) ?_)
  rintro _ w18 ⟨rfl, hch19⟩
  have hsz20 := hch19.size
  replace hRlog := hRlog.ch0 hch19
  replace hB8 := hB8.ch0 hch19
  replace hc := hc.step0 hch19
  refine rw_cons (op_pv (w0 rfl) rfl rfl (pv_not rfl rfl) ?_)
  refine rw_nil (hK17 _ _ ?_)
  refine hK15 _ _ ?_
  refine cw_cond rfl (fun h21 => ?_) (fun h21 => ?_)
  · -- then
    replace h21 := not_t h21
    replace h21 := dec_f h21
    refine cw_seq fun K22 hK23 => ?_
    refine cw_region fun K24 hK25 => ?_
    refine rw_cons (op_bslice [] Try.underlying34 T65 (w0 rfl) rfl rfl rfl rfl rfl (by simp [Value.cells]) (by decide) ?_)
    intro g27 w26 hg30 hg31 hK29 hch28
    have hO32 : Own encB 2 w26 w18.heap.size 65 (.slice (some ⟨g27, 0, none⟩) 0 0) ([] : List Bt) := Blk.own (xs := ([] : List Bt)) hK29 (by omega) rfl (by decide) rfl
    have hsz33 := hch28.size
    replace hRlog := hRlog.ch0 hch28
    replace hB8 := hB8.ch0 hch28
    replace hc := hc.step0 hch28
    have hub34 := hO32.lt
    refine rw_cons (op_pv (w0 rfl) rfl rfl (pv_assign (v := (.slice (some ⟨g27, 0, none⟩) 0 0)) rfl rfl) ?_)
    refine rw_nil (hK25 _ _ ?_)
    refine hK23 _ _ ?_
    refine cw_ret ?_
    refine fin1 rfl ?_
    have he_0 : ([] : List Bt) = restV id log dn := (restV_no (by assumption)).symm
    exact ⟨_, _, (sl_as hO32 he_0), own_as (hO32.less (by omega)) he_0, hc⟩
  · -- else
    replace h21 := not_f h21
    replace h21 := dec_t h21
    refine cw_skip ?_
    refine hK13 _ _ ?_
    refine cw_seq fun K35 hK36 => ?_
    have hdn := (‹NodeOK id log dn›).2.2
    refine cw_region fun K37 hK38 => ?_
    refine rw_cons (op_pv (w0 rfl) rfl rfl (pv_fld F41_1 rfl rfl) ?_)
    refine rw_cons (op_lv (w0 rfl) rfl rfl (lv_load T34 rfl rfl (hB8.cellA (i := 1) rfl)) ?_)
    refine rw_cons (op_pv (w0 rfl) rfl rfl (pv_fld F41_2 rfl rfl) ?_)
    refine rw_cons (op_lv (w0 rfl) rfl rfl (lv_load T3 rfl rfl (hB8.cellA (i := 2) rfl)) ?_)
    refine rw_cons (op_pv (w0 rfl) rfl rfl (pv_from Try.underlying34 T65 rfl rfl rfl (by omega) (by omega)) ?_)
    have hR39 : RS encB 2 w18 w.heap.size (if clog = (dn).toNat then Alog else (Alog : Option Addr).map (·.add ((dn).toNat * 2))) (nlog - (dn).toNat) (log.drop (dn).toNat) := (hRlog).from (by omega) (by omega)
    refine rw_cons (op_call (w0 rfl) rfl rfl (rc_call C47 rfl rfl) (copyLog_ok _ (nlog - (dn).toNat) _ (log.drop (dn).toNat) _ (hR39.more (by omega)) (by omega)) ?_)
    rintro _ w40 ⟨A42, c43, rfl, hO44, hch41⟩
    have hsz45 := hch41.size
    replace hRlog := hRlog.ch0 hch41
    replace hB8 := hB8.ch0 hch41
    replace hR39 := hR39.ch0 hch41
    replace hc := hc.step0 hch41
    have hub46 := hO44.lt
    have hcap47 : ((log.drop (dn).toNat)).length ≤ c43 := by obtain ⟨_, _, hv, h1, _⟩ := hO44.form; injection hv with _ _ h3; omega
    refine rw_cons (op_pv (w0 rfl) rfl rfl (pv_assign (v := (.slice A42 ((log.drop (dn).toNat)).length c43)) rfl rfl) ?_)
    refine rw_nil (hK38 _ _ ?_)
    refine hK36 _ _ ?_
    refine cw_ret ?_
    refine fin1 rfl ?_
    have he_0 : ((log.drop (dn).toNat)) = restV id log dn := (restV_yes (by assumption)).symm
    exact ⟨_, _, (sl_as hO44 he_0), own_as (hO44.less (by omega)) he_0, hc⟩
end Go.Proofs.Ytpnenfglogggmaa
