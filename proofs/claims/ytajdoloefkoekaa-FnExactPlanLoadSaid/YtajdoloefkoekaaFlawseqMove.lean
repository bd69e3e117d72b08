/-
  The walk of laws.eqMove, written by program: each line names the law of one operation. Conditions: those of the theorem.
-/
import Derived.Test.YtajdoloefkoekaaProg
import Derived.Test.YtajdoloefkoekaaBeats
import Derived.KernelRfl
namespace Go.Proofs.Ytajdoloefkoekaa
open Go Go.RowKit
set_option linter.unusedVariables false
set_option linter.unusedSimpArgs false
namespace eqMove_okF
theorem T3 : TI Try.prog 3 false (.int .i64 0) 1 8 := TI.mk' Try.underlying3 rfl (by kernel_rfl)
theorem F37_0 : FldOK Try.prog 37 0 0 := ⟨_, _, 0, Try.underlying37, rfl, rfl, by kernel_rfl⟩
theorem F37_1 : FldOK Try.prog 37 1 1 := ⟨_, _, 0, Try.underlying37, rfl, rfl, by kernel_rfl⟩
theorem F37_2 : FldOK Try.prog 37 2 2 := ⟨_, _, 0, Try.underlying37, rfl, rfl, by kernel_rfl⟩
end eqMove_okF
open eqMove_okF in
set_option maxHeartbeats 4000000 in
theorem eqMove_ok (xp : Int) (xf : Int) (xt : Int) (yp : Int) (yf : Int) (yt : Int) (w : World)  :
    Fn Try.prog 14 [(.agg #[(.int .i64 xp), (.int .i64 xf), (.int .i64 xt)]), (.agg #[(.int .i64 yp), (.int .i64 yf), (.int .i64 yt)])] w fun v w' => v = .bool (dec (xp = yp ∧ xf = yf ∧ xt = yt)) ∧ Ch [] w w' := by
  refine fn_of (n := 20) Try.func14 rfl rfl rfl rfl ?_
  have hc : Ch [] w w := Ch.refl _ _
  refine cw_seq fun K1 hK2 => ?_
  refine cw_region fun K3 hK4 => ?_
  refine rw_cons (op_box (w0 rfl) rfl rfl rfl rfl ?_)
  rintro g6 w5 hg9 hg10 hB8 hch7
  have hsz11 := hch7.size
  replace hc := hc.step0 hch7
  replace hB8 : Blk w5 g6 37 [(.int .i64 xp), (.int .i64 xf), (.int .i64 xt)] := hB8
  refine rw_cons (op_box (w0 rfl) rfl rfl rfl rfl ?_)
  rintro g13 w12 hg16 hg17 hB15 hch14
  have hsz18 := hch14.size
  replace hB8 := hB8.ch0 hch14
  replace hc := hc.step0 hch14
  replace hB15 : Blk w12 g13 37 [(.int .i64 yp), (.int .i64 yf), (.int .i64 yt)] := hB15
  refine rw_cons (op_pv (w0 rfl) rfl rfl (pv_assign (v := (.bool false)) rfl rfl) ?_)
  refine rw_nil (hK4 _ _ ?_)
  refine hK2 _ _ ?_
  refine cw_seq fun K19 hK20 => ?_
  refine cw_seq fun K21 hK22 => ?_
  refine cw_region fun K23 hK24 => ?_
  refine rw_cons (op_pv (w0 rfl) rfl rfl (pv_fld F37_0 rfl rfl) ?_)
  refine rw_cons (op_lv (w0 rfl) rfl rfl (lv_load T3 rfl rfl (hB8.cellA (i := 0) rfl)) ?_)
  refine rw_cons (op_pv (w0 rfl) rfl rfl (pv_fld F37_0 rfl rfl) ?_)
  refine rw_cons (op_lv (w0 rfl) rfl rfl (lv_load T3 rfl rfl (hB15.cellA (i := 0) rfl)) ?_)
  refine rw_cons (op_pv (w0 rfl) rfl rfl (pv_neq rfl rfl rfl) ?_)
  refine rw_nil (hK24 _ _ ?_)
  refine hK22 _ _ ?_
  refine cw_cond rfl (fun h25 => ?_) (fun h25 => ?_)
  · -- then
    replace h25 := of_decide_eq_true h25
    refine cw_seq fun K26 hK27 => ?_
    refine cw_region fun K28 hK29 => ?_
    refine rw_cons (op_pv (w0 rfl) rfl rfl (pv_assign (v := (.bool false)) rfl rfl) ?_)
    refine rw_nil (hK29 _ _ ?_)
    refine hK27 _ _ ?_
    refine cw_ret ?_
    refine fin1 rfl ?_
    exact ⟨(bvf (fun h => by omega)), hc⟩
  · -- else
    replace h25 := of_decide_eq_false h25
    refine cw_skip ?_
    refine hK20 _ _ ?_
    refine cw_seq fun K30 hK31 => ?_
    refine cw_seq fun K32 hK33 => ?_
    refine cw_region fun K34 hK35 => ?_
    refine rw_cons (op_pv (w0 rfl) rfl rfl (pv_fld F37_1 rfl rfl) ?_)
    refine rw_cons (op_lv (w0 rfl) rfl rfl (lv_load T3 rfl rfl (hB8.cellA (i := 1) rfl)) ?_)
    refine rw_cons (op_pv (w0 rfl) rfl rfl (pv_fld F37_1 rfl rfl) ?_)
    refine rw_cons (op_lv (w0 rfl) rfl rfl (lv_load T3 rfl rfl (hB15.cellA (i := 1) rfl)) ?_)
    refine rw_cons (op_pv (w0 rfl) rfl rfl (pv_neq rfl rfl rfl) ?_)
    refine rw_nil (hK35 _ _ ?_)
    refine hK33 _ _ ?_
    refine cw_cond rfl (fun h36 => ?_) (fun h36 => ?_)
    · -- then
      replace h36 := of_decide_eq_true h36
      refine cw_seq fun K37 hK38 => ?_
      refine cw_region fun K39 hK40 => ?_
      refine rw_cons (op_pv (w0 rfl) rfl rfl (pv_assign (v := (.bool false)) rfl rfl) ?_)
      refine rw_nil (hK40 _ _ ?_)
      refine hK38 _ _ ?_
      refine cw_ret ?_
      refine fin1 rfl ?_
      exact ⟨(bvf (fun h => by omega)), hc⟩
    · -- else
      replace h36 := of_decide_eq_false h36
      refine cw_skip ?_
      refine hK31 _ _ ?_
      refine cw_seq fun K41 hK42 => ?_
      refine cw_seq fun K43 hK44 => ?_
      refine cw_region fun K45 hK46 => ?_
      refine rw_cons (op_pv (w0 rfl) rfl rfl (pv_fld F37_2 rfl rfl) ?_)
      refine rw_cons (op_lv (w0 rfl) rfl rfl (lv_load T3 rfl rfl (hB8.cellA (i := 2) rfl)) ?_)
      refine rw_cons (op_pv (w0 rfl) rfl rfl (pv_fld F37_2 rfl rfl) ?_)
      refine rw_cons (op_lv (w0 rfl) rfl rfl (lv_load T3 rfl rfl (hB15.cellA (i := 2) rfl)) ?_)
      refine rw_cons (op_pv (w0 rfl) rfl rfl (pv_neq rfl rfl rfl) ?_)
      refine rw_nil (hK46 _ _ ?_)
      refine hK44 _ _ ?_
      refine cw_cond rfl (fun h47 => ?_) (fun h47 => ?_)
      · -- then
        replace h47 := of_decide_eq_true h47
        refine cw_seq fun K48 hK49 => ?_
        refine cw_region fun K50 hK51 => ?_
        refine rw_cons (op_pv (w0 rfl) rfl rfl (pv_assign (v := (.bool false)) rfl rfl) ?_)
        refine rw_nil (hK51 _ _ ?_)
        refine hK49 _ _ ?_
        refine cw_ret ?_
        refine fin1 rfl ?_
        exact ⟨(bvf (fun h => by omega)), hc⟩
      · -- else
        replace h47 := of_decide_eq_false h47
        refine cw_skip ?_
        refine hK42 _ _ ?_
        refine cw_seq fun K52 hK53 => ?_
        refine cw_region fun K54 hK55 => ?_
        refine rw_cons (op_pv (w0 rfl) rfl rfl (pv_assign (v := (.bool true)) rfl rfl) ?_)
        refine rw_nil (hK55 _ _ ?_)
        refine hK53 _ _ ?_
        refine cw_ret ?_
        refine fin1 rfl ?_
        exact ⟨(bvt ⟨by omega, by omega, by omega⟩), hc⟩
end Go.Proofs.Ytajdoloefkoekaa
