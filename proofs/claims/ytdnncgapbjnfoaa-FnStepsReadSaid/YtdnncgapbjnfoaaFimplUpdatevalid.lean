/-
  The walk of (impl.Update).valid, written by program: each line names the law of one operation. Conditions: those of the theorem.
-/
import Derived.Test.YtdnncgapbjnfoaaProg
import Derived.Test.YtdnncgapbjnfoaaBase
import Derived.Test.YtdnncgapbjnfoaaFimplkeyValid
import Derived.KernelRfl
namespace Go.Proofs.Ytdnncgapbjnfoaa
open Go Go.RowKit
set_option linter.unusedVariables false
set_option linter.unusedSimpArgs false
namespace updateValid_iF
theorem T3 : TI Try.prog 3 false (.int .i64 0) 1 8 := TI.mk' Try.underlying3 rfl (by kernel_rfl)
theorem F33_0 : FldOK Try.prog 33 0 0 := ⟨_, _, 0, Try.underlying33, rfl, rfl, by kernel_rfl⟩
theorem F33_1 : FldOK Try.prog 33 1 1 := ⟨_, _, 0, Try.underlying33, rfl, rfl, by kernel_rfl⟩
theorem C42 : Callable Try.prog 42 := ⟨_, Try.func42, by kernel_rfl, by kernel_rfl⟩
end updateValid_iF
open updateValid_iF in
set_option maxHeartbeats 4000000 in
theorem updateValid_i (us : Int) (ua : Int) (w : World)  :
    Fn Try.prog 32 [(.agg #[(.int .i64 us), (.int .i64 ua)])] w fun v w' => v = .bool (dec ((0 ≤ us ∧ us ≤ 4) ∧ (0 ≤ ua ∧ ua ≤ 99))) ∧ Ch [] w w' := by
  refine fn_of (n := 16) Try.func32 rfl rfl rfl rfl ?_
  have hc : Ch [] w w := Ch.refl _ _
  refine cw_seq fun K1 hK2 => ?_
  refine cw_region fun K3 hK4 => ?_
  refine rw_cons (op_box (w0 rfl) rfl rfl rfl rfl ?_)
  rintro g6 w5 hg9 hg10 hB8 hch7
  have hsz11 := hch7.size
  replace hc := hc.step0 hch7
  replace hB8 : Blk w5 g6 33 [(.int .i64 us), (.int .i64 ua)] := hB8
  refine rw_cons (op_pv (w0 rfl) rfl rfl (pv_assign (v := (.bool false)) rfl rfl) ?_)
  refine rw_nil (hK4 _ _ ?_)
  refine hK2 _ _ ?_
  refine cw_seq fun K12 hK13 => ?_
  refine cw_region fun K14 hK15 => ?_
  refine rw_cons (op_pv (w0 rfl) rfl rfl (pv_fld F33_0 rfl rfl) ?_)
  refine rw_cons (op_lv (w0 rfl) rfl rfl (lv_load T3 rfl rfl (hB8.cellA (i := 0) rfl)) ?_)
  refine rw_cons (op_call (w0 rfl) rfl rfl (rc_call C42 rfl rfl) (keyValid_ok us _ ) ?_)
  rintro _ w16 ⟨rfl, hch17⟩
  have hsz18 := hch17.size
  replace hB8 := hB8.ch0 hch17
  replace hc := hc.step0 hch17
  refine rw_cons (op_pv (w0 rfl) rfl rfl (pv_move (v := (.bool (dec (0 ≤ us ∧ us < 5)))) rfl rfl) ?_)
  refine rw_split 6 rfl (fun hb19 => ?_) (fun hb19 => ?_)
  · -- yes
    replace hb19 := dec_t hb19
    refine rw_cons (op_pv (w1y rfl rfl rfl rfl) rfl rfl (pv_fld F33_1 rfl rfl) ?_)
    refine rw_cons (op_lv (w1y rfl rfl rfl rfl) rfl rfl (lv_load T3 rfl rfl (hB8.cellA (i := 1) rfl)) ?_)
    refine rw_cons (op_pv (w1y rfl rfl rfl rfl) rfl rfl (pv_geq rfl rfl rfl) ?_)
    refine rw_cons (op_pv (w0 rfl) rfl rfl (pv_pickT (v := (.bool (decide (0 ≤ ua)))) rfl rfl rfl) ?_)
    refine rw_cons (op_pv (w0 rfl) rfl rfl (pv_move (v := (.bool (decide (0 ≤ ua)))) rfl rfl) ?_)
    refine rw_split 11 rfl (fun hb20 => ?_) (fun hb20 => ?_)
    · -- yes
      replace hb20 := of_decide_eq_true hb20
      refine rw_cons (op_pv (w1y rfl rfl rfl rfl) rfl rfl (pv_fld F33_1 rfl rfl) ?_)
      refine rw_cons (op_lv (w1y rfl rfl rfl rfl) rfl rfl (lv_load T3 rfl rfl (hB8.cellA (i := 1) rfl)) ?_)
      refine rw_cons (op_pv (w1y rfl rfl rfl rfl) rfl rfl (pv_leq rfl rfl rfl) ?_)
      refine rw_cons (op_pv (w0 rfl) rfl rfl (pv_pickT (v := (.bool (decide (ua ≤ 99)))) rfl rfl rfl) ?_)
      refine rw_cons (op_pv (w0 rfl) rfl rfl (pv_assign (v := (.bool (decide (ua ≤ 99)))) rfl rfl) ?_)
      refine rw_nil (hK15 _ _ ?_)
      refine hK13 _ _ ?_
      refine cw_ret ?_
      refine fin1 rfl ?_
      exact ⟨(bv (dec_dec (by omega))), hc⟩
    · -- no
      replace hb20 := of_decide_eq_false hb20
      refine rw_cons (op_pass (w1n1 rfl rfl rfl rfl) rfl rfl ?_)
      refine rw_cons (op_pass (w1n1 rfl rfl rfl rfl) rfl rfl ?_)
      refine rw_cons (op_pass (w1n1 rfl rfl rfl rfl) rfl rfl ?_)
      refine rw_cons (op_pv (w0 rfl) rfl rfl (pv_pickF (v := (.bool false)) rfl rfl rfl) ?_)
      refine rw_cons (op_pv (w0 rfl) rfl rfl (pv_assign (v := (.bool false)) rfl rfl) ?_)
      refine rw_nil (hK15 _ _ ?_)
      refine hK13 _ _ ?_
      refine cw_ret ?_
      refine fin1 rfl ?_
      exact ⟨(bvf (fun h => by omega)), hc⟩
  · -- no
    replace hb19 := dec_f hb19
    refine rw_cons (op_pass (w1n1 rfl rfl rfl rfl) rfl rfl ?_)
    refine rw_cons (op_pass (w1n1 rfl rfl rfl rfl) rfl rfl ?_)
    refine rw_cons (op_pass (w1n1 rfl rfl rfl rfl) rfl rfl ?_)
    refine rw_cons (op_pv (w0 rfl) rfl rfl (pv_pickF (v := (.bool false)) rfl rfl rfl) ?_)
    refine rw_cons (op_pv (w0 rfl) rfl rfl (pv_move (v := (.bool false)) rfl rfl) ?_)
    refine rw_cons (op_pass (w1n1 rfl rfl rfl rfl) rfl rfl ?_)
    refine rw_cons (op_pass (w1n1 rfl rfl rfl rfl) rfl rfl ?_)
    refine rw_cons (op_pass (w1n1 rfl rfl rfl rfl) rfl rfl ?_)
    refine rw_cons (op_pv (w0 rfl) rfl rfl (pv_pickF (v := (.bool false)) rfl rfl rfl) ?_)
    refine rw_cons (op_pv (w0 rfl) rfl rfl (pv_assign (v := (.bool false)) rfl rfl) ?_)
    refine rw_nil (hK15 _ _ ?_)
    refine hK13 _ _ ?_
    refine cw_ret ?_
    refine fin1 rfl ?_
    exact ⟨(bvf (fun h => by omega)), hc⟩
end Go.Proofs.Ytdnncgapbjnfoaa
