/-
  The walk of laws.toStep, written by program: each line names the law of one operation. Conditions: those of the theorem.
-/
import Derived.Test.YtdnncgapbjnfoaaProg
import Derived.Test.YtdnncgapbjnfoaaSteps
import Derived.KernelRfl
namespace Go.Proofs.Ytdnncgapbjnfoaa
open Go Go.RowKit
set_option linter.unusedVariables false
set_option linter.unusedSimpArgs false
namespace toStep_okF
theorem T3 : TI Try.prog 3 false (.int .i64 0) 1 8 := TI.mk' Try.underlying3 rfl (by kernel_rfl)
theorem T4 : TI Try.prog 4 false (.bool false) 1 1 := TI.mk' Try.underlying4 rfl (by kernel_rfl)
theorem T27 : TI Try.prog 27 true (.agg #[.bool false, .int .i64 0, .int .i64 0]) 3 24 := TI.mk' Try.underlying27 rfl (by kernel_rfl)
theorem F27_0 : FldOK Try.prog 27 0 0 := ⟨_, _, 0, Try.underlying27, rfl, rfl, by kernel_rfl⟩
theorem F27_1 : FldOK Try.prog 27 1 1 := ⟨_, _, 0, Try.underlying27, rfl, rfl, by kernel_rfl⟩
theorem F27_2 : FldOK Try.prog 27 2 2 := ⟨_, _, 0, Try.underlying27, rfl, rfl, by kernel_rfl⟩
theorem F55_0 : FldOK Try.prog 55 0 0 := ⟨_, _, 0, Try.underlying55, rfl, rfl, by kernel_rfl⟩
theorem F55_1 : FldOK Try.prog 55 1 1 := ⟨_, _, 0, Try.underlying55, rfl, rfl, by kernel_rfl⟩
theorem F55_2 : FldOK Try.prog 55 2 2 := ⟨_, _, 0, Try.underlying55, rfl, rfl, by kernel_rfl⟩
end toStep_okF
open toStep_okF in
set_option maxHeartbeats 4000000 in
theorem toStep_ok (sr : Bool) (sk sv : Int) (w : World) :
    Fn Try.prog 33 [(.agg #[(.bool sr), (.int .i64 sk), (.int .i64 sv)])] w fun v w' => v = .agg #[.bool sr, .int .i64 sk, .int .i64 sv] ∧ Ch [] w w' := by
  refine fn_of (n := 14) Try.func33 rfl rfl rfl rfl ?_
  have hc : Ch [] w w := Ch.refl _ _
  refine cw_seq fun K1 hK2 => ?_
  refine cw_region fun K3 hK4 => ?_
  refine rw_cons (op_box (w0 rfl) rfl rfl rfl rfl ?_)
  rintro g6 w5 hg9 hg10 hB8 hch7
  have hsz11 := hch7.size
  replace hc := hc.step0 hch7
  replace hB8 : Blk w5 g6 55 [(.bool sr), (.int .i64 sk), (.int .i64 sv)] := hB8
  refine rw_cons (op_alloc T27 (w0 rfl) rfl rfl rfl ?_)
  rintro g13 w12 hg16 hg17 hB15 hch14
  have hsz18 := hch14.size
  replace hB8 := hB8.ch0 hch14
  replace hc := hc.step0 hch14
  replace hB15 : Blk w12 g13 27 [(.bool false), (.int .i64 0), (.int .i64 0)] := hB15
  refine rw_nil (hK4 _ _ ?_)
  refine hK2 _ _ ?_
  refine cw_seq fun K19 hK20 => ?_
  refine cw_region fun K21 hK22 => ?_
  refine rw_cons (op_alloc T27 (w0 rfl) rfl rfl rfl ?_)
  rintro g24 w23 hg27 hg28 hB26 hch25
  have hsz29 := hch25.size
  replace hB8 := hB8.ch0 hch25
  replace hB15 := hB15.ch0 hch25
  replace hc := hc.step0 hch25
  replace hB26 : Blk w23 g24 27 [(.bool false), (.int .i64 0), (.int .i64 0)] := hB26
  refine rw_nil (hK22 _ _ ?_)
  refine hK20 _ _ ?_
  refine cw_seq fun K30 hK31 => ?_
  refine cw_region fun K32 hK33 => ?_
  refine rw_cons (op_pv (w0 rfl) rfl rfl (pv_fld F55_0 rfl rfl) ?_)
  refine rw_cons (op_lv (w0 rfl) rfl rfl (lv_load T4 rfl rfl (hB8.cellA (i := 0) rfl)) ?_)
  refine rw_cons (op_pv (w0 rfl) rfl rfl (pv_fld F27_0 rfl rfl) ?_)
  refine rw_cons (op_store_blk T4 hB26 (w0 rfl) rfl rfl rfl rfl rfl (one_all rfl) (Nat.le_of_ble_eq_true rfl) ?_)
  rintro w34 hB36 hch35
  have hsz37 := hch35.size
  replace hB8 := hB8.ch hch35 (by simp; omega)
  replace hB15 := hB15.ch hch35 (by simp; omega)
  replace hc := (off1 (by omega)).step hc hch35
  replace hB26 : Blk w34 g24 27 [(.bool sr), (.int .i64 0), (.int .i64 0)] := hB36
  clear hB36
  refine rw_nil (hK33 _ _ ?_)
  refine hK31 _ _ ?_
  refine cw_seq fun K38 hK39 => ?_
  refine cw_region fun K40 hK41 => ?_
  refine rw_cons (op_pv (w0 rfl) rfl rfl (pv_fld F55_1 rfl rfl) ?_)
  refine rw_cons (op_lv (w0 rfl) rfl rfl (lv_load T3 rfl rfl (hB8.cellA (i := 1) rfl)) ?_)
  refine rw_cons (op_pv (w0 rfl) rfl rfl (pv_fld F27_1 rfl rfl) ?_)
  refine rw_cons (op_store_blk T3 hB26 (w0 rfl) rfl rfl rfl rfl rfl (one_all rfl) (Nat.le_of_ble_eq_true rfl) ?_)
  rintro w42 hB44 hch43
  have hsz45 := hch43.size
  replace hB8 := hB8.ch hch43 (by simp; omega)
  replace hB15 := hB15.ch hch43 (by simp; omega)
  replace hc := (off1 (by omega)).step hc hch43
  replace hB26 : Blk w42 g24 27 [(.bool sr), (.int .i64 sk), (.int .i64 0)] := hB44
  clear hB44
  refine rw_nil (hK41 _ _ ?_)
  refine hK39 _ _ ?_
  refine cw_seq fun K46 hK47 => ?_
  refine cw_region fun K48 hK49 => ?_
  refine rw_cons (op_pv (w0 rfl) rfl rfl (pv_fld F55_2 rfl rfl) ?_)
  refine rw_cons (op_lv (w0 rfl) rfl rfl (lv_load T3 rfl rfl (hB8.cellA (i := 2) rfl)) ?_)
  refine rw_cons (op_pv (w0 rfl) rfl rfl (pv_fld F27_2 rfl rfl) ?_)
  refine rw_cons (op_store_blk T3 hB26 (w0 rfl) rfl rfl rfl rfl rfl (one_all rfl) (Nat.le_of_ble_eq_true rfl) ?_)
  rintro w50 hB52 hch51
  have hsz53 := hch51.size
  replace hB8 := hB8.ch hch51 (by simp; omega)
  replace hB15 := hB15.ch hch51 (by simp; omega)
  replace hc := (off1 (by omega)).step hc hch51
  replace hB26 : Blk w50 g24 27 [(.bool sr), (.int .i64 sk), (.int .i64 sv)] := hB52
  clear hB52
  refine rw_nil (hK49 _ _ ?_)
  refine hK47 _ _ ?_
  refine cw_seq fun K54 hK55 => ?_
  refine cw_region fun K56 hK57 => ?_
  refine rw_cons (op_lv (w0 rfl) rfl rfl (lv_loadN T27 rfl rfl rfl (fun j v hv => hB26.cellA hv)) ?_)
  refine rw_cons (op_store_blk T27 hB15 (w0 rfl) rfl rfl rfl rfl rfl (one_all rfl) (Nat.le_of_ble_eq_true rfl) ?_)
  rintro w58 hB60 hch59
  have hsz61 := hch59.size
  replace hB8 := hB8.ch hch59 (by simp; omega)
  replace hB26 := hB26.ch hch59 (by simp; omega)
  replace hc := (off1 (by omega)).step hc hch59
  replace hB15 : Blk w58 g13 27 [(.bool sr), (.int .i64 sk), (.int .i64 sv)] := hB60
  clear hB60
  refine rw_nil (hK57 _ _ ?_)
  refine hK55 _ _ ?_
  refine cw_ret ?_
  refine finC T27 rfl rfl (fun j v hv => hB15.cellA hv) ?_
  exact ⟨rfl, hc⟩
end Go.Proofs.Ytdnncgapbjnfoaa
