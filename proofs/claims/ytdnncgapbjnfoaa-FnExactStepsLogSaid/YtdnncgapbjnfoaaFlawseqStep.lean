/-
  The walk of laws.eqStep, written by program: each line names the law of one operation. Conditions: those of the theorem.
-/
import Derived.Test.YtdnncgapbjnfoaaProg
import Derived.Test.YtdnncgapbjnfoaaSteps
import Derived.KernelRfl
namespace Go.Proofs.Ytdnncgapbjnfoaa
open Go Go.RowKit
set_option linter.unusedVariables false
set_option linter.unusedSimpArgs false
namespace eqStep_okF
theorem T3 : TI Try.prog 3 false (.int .i64 0) 1 8 := TI.mk' Try.underlying3 rfl (by kernel_rfl)
theorem T4 : TI Try.prog 4 false (.bool false) 1 1 := TI.mk' Try.underlying4 rfl (by kernel_rfl)
theorem F27_0 : FldOK Try.prog 27 0 0 := ⟨_, _, 0, Try.underlying27, rfl, rfl, by kernel_rfl⟩
theorem F27_1 : FldOK Try.prog 27 1 1 := ⟨_, _, 0, Try.underlying27, rfl, rfl, by kernel_rfl⟩
theorem F27_2 : FldOK Try.prog 27 2 2 := ⟨_, _, 0, Try.underlying27, rfl, rfl, by kernel_rfl⟩
end eqStep_okF
open eqStep_okF in
set_option maxHeartbeats 4000000 in
theorem eqStep_ok (xr : Bool) (xk : Int) (xv : Int) (yr : Bool) (yk : Int) (yv : Int) (w : World)  :
    Fn Try.prog 35 [(.agg #[(.bool xr), (.int .i64 xk), (.int .i64 xv)]), (.agg #[(.bool yr), (.int .i64 yk), (.int .i64 yv)])] w fun v w' => v = .bool (dec (xr = yr ∧ xk = yk ∧ xv = yv)) ∧ Ch [] w w' := by
  refine fn_of (n := 20) Try.func35 rfl rfl rfl rfl ?_
  have hc : Ch [] w w := Ch.refl _ _
  refine cw_seq fun K1 hK2 => ?_
  refine cw_region fun K3 hK4 => ?_
  refine rw_cons (op_box (w0 rfl) rfl rfl rfl rfl ?_)
  rintro g6 w5 hg9 hg10 hB8 hch7
  have hsz11 := hch7.size
  replace hc := hc.step0 hch7
  replace hB8 : Blk w5 g6 27 [(.bool xr), (.int .i64 xk), (.int .i64 xv)] := hB8
  refine rw_cons (op_box (w0 rfl) rfl rfl rfl rfl ?_)
  rintro g13 w12 hg16 hg17 hB15 hch14
  have hsz18 := hch14.size
  replace hB8 := hB8.ch0 hch14
  replace hc := hc.step0 hch14
  replace hB15 : Blk w12 g13 27 [(.bool yr), (.int .i64 yk), (.int .i64 yv)] := hB15
  refine rw_cons (op_pv (w0 rfl) rfl rfl (pv_assign (v := (.bool false)) rfl rfl) ?_)
  refine rw_nil (hK4 _ _ ?_)
  refine hK2 _ _ ?_
  refine cw_seq fun K19 hK20 => ?_
  refine cw_seq fun K21 hK22 => ?_
  refine cw_region fun K23 hK24 => ?_
  refine rw_cons (op_pv (w0 rfl) rfl rfl (pv_fld F27_0 rfl rfl) ?_)
  refine rw_cons (op_lv (w0 rfl) rfl rfl (lv_load T4 rfl rfl (hB8.cellA (i := 0) rfl)) ?_)
  refine rw_cons (op_pv (w0 rfl) rfl rfl (pv_fld F27_0 rfl rfl) ?_)
  refine rw_cons (op_lv (w0 rfl) rfl rfl (lv_load T4 rfl rfl (hB15.cellA (i := 0) rfl)) ?_)
  refine rw_cons (op_pv (w0 rfl) rfl rfl (pv_neqB Try.underlying4 rfl rfl rfl) ?_)
  refine rw_nil (hK24 _ _ ?_)
  refine hK22 _ _ ?_
  refine cw_cond rfl (fun h25 => ?_) (fun h25 => ?_)
  · -- then
    replace h25 := not_t h25
    replace h25 := ne_of_beq_false h25
    refine cw_seq fun K26 hK27 => ?_
    refine cw_region fun K28 hK29 => ?_
    refine rw_cons (op_pv (w0 rfl) rfl rfl (pv_assign (v := (.bool false)) rfl rfl) ?_)
    refine rw_nil (hK29 _ _ ?_)
    refine hK27 _ _ ?_
    refine cw_ret ?_
    refine fin1 rfl ?_
    exact ⟨(bvf (by rintro ⟨h1, h2, h3⟩; first | omega | exact absurd h1 (by assumption))), hc⟩
  · -- else
    replace h25 := not_f h25
    replace h25 := eq_of_beq h25
    refine cw_skip ?_
    refine hK20 _ _ ?_
    refine cw_seq fun K30 hK31 => ?_
    refine cw_seq fun K32 hK33 => ?_
    refine cw_region fun K34 hK35 => ?_
    refine rw_cons (op_pv (w0 rfl) rfl rfl (pv_fld F27_1 rfl rfl) ?_)
    refine rw_cons (op_lv (w0 rfl) rfl rfl (lv_load T3 rfl rfl (hB8.cellA (i := 1) rfl)) ?_)
    refine rw_cons (op_pv (w0 rfl) rfl rfl (pv_fld F27_1 rfl rfl) ?_)
    refine rw_cons (op_lv (w0 rfl) rfl rfl (lv_load T3 rfl rfl (hB15.cellA (i := 1) rfl)) ?_)
    refine rw_cons (op_pv (w0 rfl) rfl rfl (pv_neq rfl rfl rfl) ?_)
    refine rw_nil (hK35 _ _ ?_)
    refine hK33 _ _ ?_
    refine cw_cond rfl (fun h36 => ?_) (fun h36 => ?_)
    · -- then
      replace h36 := of_decide_eq_true h36
      refine cw_seq fun K37 hK38 => ?_
      refine cw_region fun K39 hK40 => ?_
      refine rw_cons (op_pv (w0 rfl) rfl rfl (pv_assign (v := (.bool false)) rfl rfl) ?_)
      refine rw_nil (hK40 _ _ ?_)
      refine hK38 _ _ ?_
      refine cw_ret ?_
      refine fin1 rfl ?_
      exact ⟨(bvf (by rintro ⟨h1, h2, h3⟩; first | omega | exact absurd h1 (by assumption))), hc⟩
    · -- else
      replace h36 := of_decide_eq_false h36
      refine cw_skip ?_
      refine hK31 _ _ ?_
      refine cw_seq fun K41 hK42 => ?_
      refine cw_seq fun K43 hK44 => ?_
      refine cw_region fun K45 hK46 => ?_
      refine rw_cons (op_pv (w0 rfl) rfl rfl (pv_fld F27_2 rfl rfl) ?_)
      refine rw_cons (op_lv (w0 rfl) rfl rfl (lv_load T3 rfl rfl (hB8.cellA (i := 2) rfl)) ?_)
      refine rw_cons (op_pv (w0 rfl) rfl rfl (pv_fld F27_2 rfl rfl) ?_)
      refine rw_cons (op_lv (w0 rfl) rfl rfl (lv_load T3 rfl rfl (hB15.cellA (i := 2) rfl)) ?_)
      refine rw_cons (op_pv (w0 rfl) rfl rfl (pv_neq rfl rfl rfl) ?_)
      refine rw_nil (hK46 _ _ ?_)
      refine hK44 _ _ ?_
      refine cw_cond rfl (fun h47 => ?_) (fun h47 => ?_)
      · -- then
        replace h47 := of_decide_eq_true h47
        refine cw_seq fun K48 hK49 => ?_
        refine cw_region fun K50 hK51 => ?_
        refine rw_cons (op_pv (w0 rfl) rfl rfl (pv_assign (v := (.bool false)) rfl rfl) ?_)
        refine rw_nil (hK51 _ _ ?_)
        refine hK49 _ _ ?_
        refine cw_ret ?_
        refine fin1 rfl ?_
        exact ⟨(bvf (by rintro ⟨h1, h2, h3⟩; first | omega | exact absurd h1 (by assumption))), hc⟩
      · -- else
        replace h47 := of_decide_eq_false h47
        refine cw_skip ?_
        refine hK42 _ _ ?_
        refine cw_seq fun K52 hK53 => ?_
        refine cw_region fun K54 hK55 => ?_
        refine rw_cons (op_pv (w0 rfl) rfl rfl (pv_assign (v := (.bool true)) rfl rfl) ?_)
        refine rw_nil (hK55 _ _ ?_)
        refine hK53 _ _ ?_
        refine cw_ret ?_
        refine fin1 rfl ?_
        exact ⟨(bvt ⟨by assumption, by omega, by omega⟩), hc⟩
end Go.Proofs.Ytdnncgapbjnfoaa
