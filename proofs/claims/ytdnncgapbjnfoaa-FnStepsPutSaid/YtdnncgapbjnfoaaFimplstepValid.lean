/-
  The walk of impl.stepValid, written by program: each line names the law of one operation. Conditions: those of the theorem.
-/
import Derived.Test.YtdnncgapbjnfoaaProg
import Derived.Test.YtdnncgapbjnfoaaSteps
import Derived.Test.YtdnncgapbjnfoaaFimplkeyValid
import Derived.KernelRfl
namespace Go.Proofs.Ytdnncgapbjnfoaa
open Go Go.RowKit
set_option linter.unusedVariables false
set_option linter.unusedSimpArgs false
namespace stepValid_iF
theorem T3 : TI Try.prog 3 false (.int .i64 0) 1 8 := TI.mk' Try.underlying3 rfl (by kernel_rfl)
theorem T4 : TI Try.prog 4 false (.bool false) 1 1 := TI.mk' Try.underlying4 rfl (by kernel_rfl)
theorem F27_0 : FldOK Try.prog 27 0 0 := ⟨_, _, 0, Try.underlying27, rfl, rfl, by kernel_rfl⟩
theorem F27_1 : FldOK Try.prog 27 1 1 := ⟨_, _, 0, Try.underlying27, rfl, rfl, by kernel_rfl⟩
theorem F27_2 : FldOK Try.prog 27 2 2 := ⟨_, _, 0, Try.underlying27, rfl, rfl, by kernel_rfl⟩
theorem C42 : Callable Try.prog 42 := ⟨_, Try.func42, by kernel_rfl, by kernel_rfl⟩
end stepValid_iF
open stepValid_iF in
set_option maxHeartbeats 4000000 in
theorem stepValid_i (sr : Bool) (sk : Int) (sv : Int) (w : World)  :
    Fn Try.prog 30 [(.agg #[(.bool sr), (.int .i64 sk), (.int .i64 sv)])] w fun v w' => v = .bool (dec (StepOK ⟨sr, sk, sv⟩)) ∧ Ch [] w w' := by
  refine fn_of (n := 20) Try.func30 rfl rfl rfl rfl ?_
  have hc : Ch [] w w := Ch.refl _ _
  refine cw_seq fun K1 hK2 => ?_
  refine cw_region fun K3 hK4 => ?_
  refine rw_cons (op_box (w0 rfl) rfl rfl rfl rfl ?_)
  rintro g6 w5 hg9 hg10 hB8 hch7
  have hsz11 := hch7.size
  replace hc := hc.step0 hch7
  replace hB8 : Blk w5 g6 27 [(.bool sr), (.int .i64 sk), (.int .i64 sv)] := hB8
  refine rw_cons (op_pv (w0 rfl) rfl rfl (pv_assign (v := (.bool false)) rfl rfl) ?_)
  refine rw_nil (hK4 _ _ ?_)
  refine hK2 _ _ ?_
  refine cw_seq fun K12 hK13 => ?_
  refine cw_region fun K14 hK15 => ?_
  refine rw_cons (op_pv (w0 rfl) rfl rfl (pv_assign (v := (.int .i64 0)) rfl rfl) ?_)
  refine rw_nil (hK15 _ _ ?_)
  refine hK13 _ _ ?_
  refine cw_seq fun K16 hK17 => ?_
  refine cw_seq fun K18 hK19 => ?_
  refine cw_region fun K20 hK21 => ?_
  refine rw_cons (op_pv (w0 rfl) rfl rfl (pv_fld F27_0 rfl rfl) ?_)
  refine rw_cons (op_lv (w0 rfl) rfl rfl (lv_load T4 rfl rfl (hB8.cellA (i := 0) rfl)) ?_)
  refine rw_nil (hK21 _ _ ?_)
  refine hK19 _ _ ?_
  refine cw_cond rfl (fun h22 => ?_) (fun h22 => ?_)
  · -- then
    refine cw_region fun K23 hK24 => ?_
    refine rw_cons (op_pv (w0 rfl) rfl rfl (pv_assign (v := (.int .i64 (-1))) rfl rfl) ?_)
    refine rw_nil (hK24 _ _ ?_)
    refine hK17 _ _ ?_
    refine cw_seq fun K25 hK26 => ?_
    refine cw_region fun K27 hK28 => ?_
    refine rw_cons (op_pv (w0 rfl) rfl rfl (pv_fld F27_1 rfl rfl) ?_)
    refine rw_cons (op_lv (w0 rfl) rfl rfl (lv_load T3 rfl rfl (hB8.cellA (i := 1) rfl)) ?_)
    refine rw_cons (op_call (w0 rfl) rfl rfl (rc_call C42 rfl rfl) (keyValid_ok sk _ ) ?_)
    rintro _ w29 ⟨rfl, hch30⟩
    have hsz31 := hch30.size
    replace hB8 := hB8.ch0 hch30
    replace hc := hc.step0 hch30
    refine rw_cons (op_pv (w0 rfl) rfl rfl (pv_move (v := (.bool (dec (0 ≤ sk ∧ sk < 5)))) rfl rfl) ?_)
    refine rw_split 9 rfl (fun hb32 => ?_) (fun hb32 => ?_)
    · -- yes
      replace hb32 := dec_t hb32
      refine rw_cons (op_pv (w1y rfl rfl rfl rfl) rfl rfl (pv_fld F27_2 rfl rfl) ?_)
      refine rw_cons (op_lv (w1y rfl rfl rfl rfl) rfl rfl (lv_load T3 rfl rfl (hB8.cellA (i := 2) rfl)) ?_)
      refine rw_cons (op_pv (w1y rfl rfl rfl rfl) rfl rfl (pv_move (v := (.int .i64 (-1))) rfl rfl) ?_)
      refine rw_cons (op_pv (w1y rfl rfl rfl rfl) rfl rfl (pv_geq rfl rfl rfl) ?_)
      refine rw_cons (op_pv (w0 rfl) rfl rfl (pv_pickT (v := (.bool (decide ((-1) ≤ sv)))) rfl rfl rfl) ?_)
      refine rw_cons (op_pv (w0 rfl) rfl rfl (pv_move (v := (.bool (decide ((-1) ≤ sv)))) rfl rfl) ?_)
      refine rw_split 15 rfl (fun hb33 => ?_) (fun hb33 => ?_)
      · -- yes
        replace hb33 := of_decide_eq_true hb33
        refine rw_cons (op_pv (w1y rfl rfl rfl rfl) rfl rfl (pv_fld F27_2 rfl rfl) ?_)
        refine rw_cons (op_lv (w1y rfl rfl rfl rfl) rfl rfl (lv_load T3 rfl rfl (hB8.cellA (i := 2) rfl)) ?_)
        refine rw_cons (op_pv (w1y rfl rfl rfl rfl) rfl rfl (pv_leq rfl rfl rfl) ?_)
        refine rw_cons (op_pv (w0 rfl) rfl rfl (pv_pickT (v := (.bool (decide (sv ≤ 99)))) rfl rfl rfl) ?_)
        refine rw_cons (op_pv (w0 rfl) rfl rfl (pv_assign (v := (.bool (decide (sv ≤ 99)))) rfl rfl) ?_)
        refine rw_nil (hK28 _ _ ?_)
        refine hK26 _ _ ?_
        refine cw_ret ?_
        refine fin1 rfl ?_
        exact ⟨(bv (dec_dec ⟨fun h => stepok_iff.2 ⟨by omega, fun e => (by first | omega | (exfalso; simp_all; done)), fun e => (by first | omega | (exfalso; simp_all; done)), by omega⟩, fun h => by obtain ⟨h1, h2, h3, h4⟩ := stepok_iff.1 h; first | omega | (have h5 := h2 (by assumption); omega) | (have h5 := h3 (by assumption); omega)⟩)), hc⟩
      · -- no
        replace hb33 := of_decide_eq_false hb33
        refine rw_cons (op_pass (w1n1 rfl rfl rfl rfl) rfl rfl ?_)
        refine rw_cons (op_pass (w1n1 rfl rfl rfl rfl) rfl rfl ?_)
        refine rw_cons (op_pass (w1n1 rfl rfl rfl rfl) rfl rfl ?_)
        refine rw_cons (op_pv (w0 rfl) rfl rfl (pv_pickF (v := (.bool false)) rfl rfl rfl) ?_)
        refine rw_cons (op_pv (w0 rfl) rfl rfl (pv_assign (v := (.bool false)) rfl rfl) ?_)
        refine rw_nil (hK28 _ _ ?_)
        refine hK26 _ _ ?_
        refine cw_ret ?_
        refine fin1 rfl ?_
        exact ⟨(bvf (fun h => by obtain ⟨h1, h2, h3, h4⟩ := stepok_iff.1 h; first | omega | (have h5 := h2 (by assumption); omega) | (have h5 := h3 (by assumption); omega))), hc⟩
    · -- no
      replace hb32 := dec_f hb32
      refine rw_cons (op_pass (w1n1 rfl rfl rfl rfl) rfl rfl ?_)
      refine rw_cons (op_pass (w1n1 rfl rfl rfl rfl) rfl rfl ?_)
      refine rw_cons (op_pass (w1n1 rfl rfl rfl rfl) rfl rfl ?_)
      refine rw_cons (op_pass (w1n1 rfl rfl rfl rfl) rfl rfl ?_)
      refine rw_cons (op_pv (w0 rfl) rfl rfl (pv_pickF (v := (.bool false)) rfl rfl rfl) ?_)
      refine rw_cons (op_pv (w0 rfl) rfl rfl (pv_move (v := (.bool false)) rfl rfl) ?_)
      refine rw_cons (op_pass (w1n1 rfl rfl rfl rfl) rfl rfl ?_)
      refine rw_cons (op_pass (w1n1 rfl rfl rfl rfl) rfl rfl ?_)
      refine rw_cons (op_pass (w1n1 rfl rfl rfl rfl) rfl rfl ?_)
      refine rw_cons (op_pv (w0 rfl) rfl rfl (pv_pickF (v := (.bool false)) rfl rfl rfl) ?_)
      refine rw_cons (op_pv (w0 rfl) rfl rfl (pv_assign (v := (.bool false)) rfl rfl) ?_)
      refine rw_nil (hK28 _ _ ?_)
      refine hK26 _ _ ?_
      refine cw_ret ?_
      refine fin1 rfl ?_
      exact ⟨(bvf (fun h => by obtain ⟨h1, h2, h3, h4⟩ := stepok_iff.1 h; first | omega | (have h5 := h2 (by assumption); omega) | (have h5 := h3 (by assumption); omega))), hc⟩
  · -- else
    refine cw_skip ?_
    refine hK17 _ _ ?_
    refine cw_seq fun K34 hK35 => ?_
    refine cw_region fun K36 hK37 => ?_
    refine rw_cons (op_pv (w0 rfl) rfl rfl (pv_fld F27_1 rfl rfl) ?_)
    refine rw_cons (op_lv (w0 rfl) rfl rfl (lv_load T3 rfl rfl (hB8.cellA (i := 1) rfl)) ?_)
    refine rw_cons (op_call (w0 rfl) rfl rfl (rc_call C42 rfl rfl) (keyValid_ok sk _ ) ?_)
    rintro _ w38 ⟨rfl, hch39⟩
    have hsz40 := hch39.size
    replace hB8 := hB8.ch0 hch39
    replace hc := hc.step0 hch39
    refine rw_cons (op_pv (w0 rfl) rfl rfl (pv_move (v := (.bool (dec (0 ≤ sk ∧ sk < 5)))) rfl rfl) ?_)
    refine rw_split 9 rfl (fun hb41 => ?_) (fun hb41 => ?_)
    · -- yes
      replace hb41 := dec_t hb41
      refine rw_cons (op_pv (w1y rfl rfl rfl rfl) rfl rfl (pv_fld F27_2 rfl rfl) ?_)
      refine rw_cons (op_lv (w1y rfl rfl rfl rfl) rfl rfl (lv_load T3 rfl rfl (hB8.cellA (i := 2) rfl)) ?_)
      refine rw_cons (op_pv (w1y rfl rfl rfl rfl) rfl rfl (pv_move (v := (.int .i64 0)) rfl rfl) ?_)
      refine rw_cons (op_pv (w1y rfl rfl rfl rfl) rfl rfl (pv_geq rfl rfl rfl) ?_)
      refine rw_cons (op_pv (w0 rfl) rfl rfl (pv_pickT (v := (.bool (decide (0 ≤ sv)))) rfl rfl rfl) ?_)
      refine rw_cons (op_pv (w0 rfl) rfl rfl (pv_move (v := (.bool (decide (0 ≤ sv)))) rfl rfl) ?_)
      refine rw_split 15 rfl (fun hb42 => ?_) (fun hb42 => ?_)
      · -- yes
        replace hb42 := of_decide_eq_true hb42
        refine rw_cons (op_pv (w1y rfl rfl rfl rfl) rfl rfl (pv_fld F27_2 rfl rfl) ?_)
        refine rw_cons (op_lv (w1y rfl rfl rfl rfl) rfl rfl (lv_load T3 rfl rfl (hB8.cellA (i := 2) rfl)) ?_)
        refine rw_cons (op_pv (w1y rfl rfl rfl rfl) rfl rfl (pv_leq rfl rfl rfl) ?_)
        refine rw_cons (op_pv (w0 rfl) rfl rfl (pv_pickT (v := (.bool (decide (sv ≤ 99)))) rfl rfl rfl) ?_)
        refine rw_cons (op_pv (w0 rfl) rfl rfl (pv_assign (v := (.bool (decide (sv ≤ 99)))) rfl rfl) ?_)
        refine rw_nil (hK37 _ _ ?_)
        refine hK35 _ _ ?_
        refine cw_ret ?_
        refine fin1 rfl ?_
        exact ⟨(bv (dec_dec ⟨fun h => stepok_iff.2 ⟨by omega, fun e => (by first | omega | (exfalso; simp_all; done)), fun e => (by first | omega | (exfalso; simp_all; done)), by omega⟩, fun h => by obtain ⟨h1, h2, h3, h4⟩ := stepok_iff.1 h; first | omega | (have h5 := h2 (by assumption); omega) | (have h5 := h3 (by assumption); omega)⟩)), hc⟩
      · -- no
        replace hb42 := of_decide_eq_false hb42
        refine rw_cons (op_pass (w1n1 rfl rfl rfl rfl) rfl rfl ?_)
        refine rw_cons (op_pass (w1n1 rfl rfl rfl rfl) rfl rfl ?_)
        refine rw_cons (op_pass (w1n1 rfl rfl rfl rfl) rfl rfl ?_)
        refine rw_cons (op_pv (w0 rfl) rfl rfl (pv_pickF (v := (.bool false)) rfl rfl rfl) ?_)
        refine rw_cons (op_pv (w0 rfl) rfl rfl (pv_assign (v := (.bool false)) rfl rfl) ?_)
        refine rw_nil (hK37 _ _ ?_)
        refine hK35 _ _ ?_
        refine cw_ret ?_
        refine fin1 rfl ?_
        exact ⟨(bvf (fun h => by obtain ⟨h1, h2, h3, h4⟩ := stepok_iff.1 h; first | omega | (have h5 := h2 (by assumption); omega) | (have h5 := h3 (by assumption); omega))), hc⟩
    · -- no
      replace hb41 := dec_f hb41
      refine rw_cons (op_pass (w1n1 rfl rfl rfl rfl) rfl rfl ?_)
      refine rw_cons (op_pass (w1n1 rfl rfl rfl rfl) rfl rfl ?_)
      refine rw_cons (op_pass (w1n1 rfl rfl rfl rfl) rfl rfl ?_)
      refine rw_cons (op_pass (w1n1 rfl rfl rfl rfl) rfl rfl ?_)
      refine rw_cons (op_pv (w0 rfl) rfl rfl (pv_pickF (v := (.bool false)) rfl rfl rfl) ?_)
      refine rw_cons (op_pv (w0 rfl) rfl rfl (pv_move (v := (.bool false)) rfl rfl) ?_)
      refine rw_cons (op_pass (w1n1 rfl rfl rfl rfl) rfl rfl ?_)
      refine rw_cons (op_pass (w1n1 rfl rfl rfl rfl) rfl rfl ?_)
      refine rw_cons (op_pass (w1n1 rfl rfl rfl rfl) rfl rfl ?_)
      refine rw_cons (op_pv (w0 rfl) rfl rfl (pv_pickF (v := (.bool false)) rfl rfl rfl) ?_)
      refine rw_cons (op_pv (w0 rfl) rfl rfl (pv_assign (v := (.bool false)) rfl rfl) ?_)
      refine rw_nil (hK37 _ _ ?_)
      refine hK35 _ _ ?_
      refine cw_ret ?_
      refine fin1 rfl ?_
      exact ⟨(bvf (fun h => by obtain ⟨h1, h2, h3, h4⟩ := stepok_iff.1 h; first | omega | (have h5 := h2 (by assumption); omega) | (have h5 := h3 (by assumption); omega))), hc⟩
end Go.Proofs.Ytdnncgapbjnfoaa
