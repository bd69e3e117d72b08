/-
  The walk of laws.eqUpdate, written by program: each line names the law of one operation. Conditions: those of the theorem.
-/
import Derived.Test.YtdnncgapbjnfoaaProg
import Derived.Test.YtdnncgapbjnfoaaBeats
import Derived.KernelRfl
namespace Go.Proofs.Ytdnncgapbjnfoaa
open Go Go.RowKit
set_option linter.unusedVariables false
set_option linter.unusedSimpArgs false
namespace eqUpdate_okF
theorem T3 : TI Try.prog 3 false (.int .i64 0) 1 8 := TI.mk' Try.underlying3 rfl (by kernel_rfl)
theorem F33_0 : FldOK Try.prog 33 0 0 := ⟨_, _, 0, Try.underlying33, rfl, rfl, by kernel_rfl⟩
theorem F33_1 : FldOK Try.prog 33 1 1 := ⟨_, _, 0, Try.underlying33, rfl, rfl, by kernel_rfl⟩
end eqUpdate_okF
open eqUpdate_okF in
set_option maxHeartbeats 4000000 in
theorem eqUpdate_ok (xs : Int) (xa : Int) (ys : Int) (ya : Int) (w : World)  :
    Fn Try.prog 34 [(.agg #[(.int .i64 xs), (.int .i64 xa)]), (.agg #[(.int .i64 ys), (.int .i64 ya)])] w fun v w' => v = .bool (dec (xs = ys ∧ xa = ya)) ∧ Ch [] w w' := by
  refine fn_of (n := 15) Try.func34 rfl rfl rfl rfl ?_
  have hc : Ch [] w w := Ch.refl _ _
  refine cw_seq fun K1 hK2 => ?_
  refine cw_region fun K3 hK4 => ?_
  refine rw_cons (op_box (w0 rfl) rfl rfl rfl rfl ?_)
  rintro g6 w5 hg9 hg10 hB8 hch7
  have hsz11 := hch7.size
  replace hc := hc.step0 hch7
  replace hB8 : Blk w5 g6 33 [(.int .i64 xs), (.int .i64 xa)] := hB8
  refine rw_cons (op_box (w0 rfl) rfl rfl rfl rfl ?_)
  rintro g13 w12 hg16 hg17 hB15 hch14
  have hsz18 := hch14.size
  replace hB8 := hB8.ch0 hch14
  replace hc := hc.step0 hch14
  replace hB15 : Blk w12 g13 33 [(.int .i64 ys), (.int .i64 ya)] := hB15
  refine rw_cons (op_pv (w0 rfl) rfl rfl (pv_assign (v := (.bool false)) rfl rfl) ?_)
  refine rw_nil (hK4 _ _ ?_)
  refine hK2 _ _ ?_
  refine cw_seq fun K19 hK20 => ?_
  refine cw_seq fun K21 hK22 => ?_
  refine cw_region fun K23 hK24 => ?_
  refine rw_cons (op_pv (w0 rfl) rfl rfl (pv_fld F33_0 rfl rfl) ?_)
  refine rw_cons (op_lv (w0 rfl) rfl rfl (lv_load T3 rfl rfl (hB8.cellA (i := 0) rfl)) ?_)
  refine rw_cons (op_pv (w0 rfl) rfl rfl (pv_fld F33_0 rfl rfl) ?_)
  refine rw_cons (op_lv (w0 rfl) rfl rfl (lv_load T3 rfl rfl (hB15.cellA (i := 0) rfl)) ?_)
  refine rw_cons (op_pv (w0 rfl) rfl rfl (pv_neq rfl rfl rfl) ?_)
  refine rw_nil (hK24 _ _ ?_)
  refine hK22 _ _ ?_
  refine cw_cond rfl (fun h25 => ?_) (fun h25 => ?_)
  · -- then
    replace h25 := of_decide_eq_true h25
    refine cw_seq fun K26 hK27 => ?_
    refine cw_region fun K28 hK29 => ?_
    refine rw_cons (op_pv (w0 rfl) rfl rfl (pv_assign (v := (.bool false)) rfl rfl) ?_)
    refine rw_nil (hK29 _ _ ?_)
    refine hK27 _ _ ?_
    refine cw_ret ?_
    refine fin1 rfl ?_
    exact ⟨(bvf (fun h => by omega)), hc⟩
  · -- else
    replace h25 := of_decide_eq_false h25
    refine cw_skip ?_
    refine hK20 _ _ ?_
    refine cw_seq fun K30 hK31 => ?_
    refine cw_seq fun K32 hK33 => ?_
    refine cw_region fun K34 hK35 => ?_
    refine rw_cons (op_pv (w0 rfl) rfl rfl (pv_fld F33_1 rfl rfl) ?_)
    refine rw_cons (op_lv (w0 rfl) rfl rfl (lv_load T3 rfl rfl (hB8.cellA (i := 1) rfl)) ?_)
    refine rw_cons (op_pv (w0 rfl) rfl rfl (pv_fld F33_1 rfl rfl) ?_)
    refine rw_cons (op_lv (w0 rfl) rfl rfl (lv_load T3 rfl rfl (hB15.cellA (i := 1) rfl)) ?_)
    refine rw_cons (op_pv (w0 rfl) rfl rfl (pv_neq rfl rfl rfl) ?_)
    refine rw_nil (hK35 _ _ ?_)
    refine hK33 _ _ ?_
    refine cw_cond rfl (fun h36 => ?_) (fun h36 => ?_)
    · -- then
      replace h36 := of_decide_eq_true h36
      refine cw_seq fun K37 hK38 => ?_
      refine cw_region fun K39 hK40 => ?_
      refine rw_cons (op_pv (w0 rfl) rfl rfl (pv_assign (v := (.bool false)) rfl rfl) ?_)
      refine rw_nil (hK40 _ _ ?_)
      refine hK38 _ _ ?_
      refine cw_ret ?_
      refine fin1 rfl ?_
      exact ⟨(bvf (fun h => by omega)), hc⟩
    · -- else
      replace h36 := of_decide_eq_false h36
      refine cw_skip ?_
      refine hK31 _ _ ?_
      refine cw_seq fun K41 hK42 => ?_
      refine cw_region fun K43 hK44 => ?_
      refine rw_cons (op_pv (w0 rfl) rfl rfl (pv_assign (v := (.bool true)) rfl rfl) ?_)
      refine rw_nil (hK44 _ _ ?_)
      refine hK42 _ _ ?_
      refine cw_ret ?_
      refine fin1 rfl ?_
      exact ⟨(bvt ⟨by omega, by omega⟩), hc⟩
end Go.Proofs.Ytdnncgapbjnfoaa
