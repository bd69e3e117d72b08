/-
  The walk of laws.toMove, written by program: each line names the law of one operation. Conditions: those of the theorem.
-/
import Derived.Test.YtajdoloefkoekaaProg
import Derived.Test.YtajdoloefkoekaaBeats
import Derived.KernelRfl
namespace Go.Proofs.Ytajdoloefkoekaa
open Go Go.RowKit
set_option linter.unusedVariables false
set_option linter.unusedSimpArgs false
namespace toMove_okF
theorem T3 : TI Try.prog 3 false (.int .i64 0) 1 8 := TI.mk' Try.underlying3 rfl (by kernel_rfl)
theorem T37 : TI Try.prog 37 true (.agg #[.int .i64 0, .int .i64 0, .int .i64 0]) 3 24 := TI.mk' Try.underlying37 rfl (by kernel_rfl)
theorem F37_0 : FldOK Try.prog 37 0 0 := ⟨_, _, 0, Try.underlying37, rfl, rfl, by kernel_rfl⟩
theorem F37_1 : FldOK Try.prog 37 1 1 := ⟨_, _, 0, Try.underlying37, rfl, rfl, by kernel_rfl⟩
theorem F37_2 : FldOK Try.prog 37 2 2 := ⟨_, _, 0, Try.underlying37, rfl, rfl, by kernel_rfl⟩
theorem F39_0 : FldOK Try.prog 39 0 0 := ⟨_, _, 0, Try.underlying39, rfl, rfl, by kernel_rfl⟩
theorem F39_1 : FldOK Try.prog 39 1 1 := ⟨_, _, 0, Try.underlying39, rfl, rfl, by kernel_rfl⟩
theorem F39_2 : FldOK Try.prog 39 2 2 := ⟨_, _, 0, Try.underlying39, rfl, rfl, by kernel_rfl⟩
end toMove_okF
open toMove_okF in
set_option maxHeartbeats 4000000 in
theorem toMove_ok (xp xf xt : Int) (w : World) :
    Fn Try.prog 13 [(.agg #[(.int .i64 xp), (.int .i64 xf), (.int .i64 xt)])] w fun v w' => v = .agg #[.int .i64 xp, .int .i64 xf, .int .i64 xt] ∧ Ch [] w w' := by
  refine fn_of (n := 14) Try.func13 rfl rfl rfl rfl ?_
  have hc : Ch [] w w := Ch.refl _ _
  refine cw_seq fun K1 hK2 => ?_
  refine cw_region fun K3 hK4 => ?_
  refine rw_cons (op_box (w0 rfl) rfl rfl rfl rfl ?_)
  rintro g6 w5 hg9 hg10 hB8 hch7
  have hsz11 := hch7.size
  replace hc := hc.step0 hch7
  replace hB8 : Blk w5 g6 39 [(.int .i64 xp), (.int .i64 xf), (.int .i64 xt)] := hB8
  refine rw_cons (op_alloc T37 (w0 rfl) rfl rfl rfl ?_)
  rintro g13 w12 hg16 hg17 hB15 hch14
  have hsz18 := hch14.size
  replace hB8 := hB8.ch0 hch14
  replace hc := hc.step0 hch14
  replace hB15 : Blk w12 g13 37 [(.int .i64 0), (.int .i64 0), (.int .i64 0)] := hB15
  refine rw_nil (hK4 _ _ ?_)
  refine hK2 _ _ ?_
  refine cw_seq fun K19 hK20 => ?_
  refine cw_region fun K21 hK22 => ?_
  refine rw_cons (op_alloc T37 (w0 rfl) rfl rfl rfl ?_)
  rintro g24 w23 hg27 hg28 hB26 hch25
  have hsz29 := hch25.size
  replace hB8 := hB8.ch0 hch25
  replace hB15 := hB15.ch0 hch25
  replace hc := hc.step0 hch25
  replace hB26 : Blk w23 g24 37 [(.int .i64 0), (.int .i64 0), (.int .i64 0)] := hB26
  refine rw_nil (hK22 _ _ ?_)
  refine hK20 _ _ ?_
  refine cw_seq fun K30 hK31 => ?_
  refine cw_region fun K32 hK33 => ?_
  refine rw_cons (op_pv (w0 rfl) rfl rfl (pv_fld F39_0 rfl rfl) ?_)
  refine rw_cons (op_lv (w0 rfl) rfl rfl (lv_load T3 rfl rfl (hB8.cellA (i := 0) rfl)) ?_)
  refine rw_cons (op_pv (w0 rfl) rfl rfl (pv_fld F37_0 rfl rfl) ?_)
  refine rw_cons (op_store_blk T3 hB26 (w0 rfl) rfl rfl rfl rfl rfl (one_all rfl) (Nat.le_of_ble_eq_true rfl) ?_)
  rintro w34 hB36 hch35
  have hsz37 := hch35.size
  replace hB8 := hB8.ch hch35 (by simp; omega)
  replace hB15 := hB15.ch hch35 (by simp; omega)
  replace hc := (off1 (by omega)).step hc hch35
  replace hB26 : Blk w34 g24 37 [(.int .i64 xp), (.int .i64 0), (.int .i64 0)] := hB36
  clear hB36
  refine rw_nil (hK33 _ _ ?_)
  refine hK31 _ _ ?_
  refine cw_seq fun K38 hK39 => ?_
  refine cw_region fun K40 hK41 => ?_
  refine rw_cons (op_pv (w0 rfl) rfl rfl (pv_fld F39_1 rfl rfl) ?_)
  refine rw_cons (op_lv (w0 rfl) rfl rfl (lv_load T3 rfl rfl (hB8.cellA (i := 1) rfl)) ?_)
  refine rw_cons (op_pv (w0 rfl) rfl rfl (pv_fld F37_1 rfl rfl) ?_)
  refine rw_cons (op_store_blk T3 hB26 (w0 rfl) rfl rfl rfl rfl rfl (one_all rfl) (Nat.le_of_ble_eq_true rfl) ?_)
  rintro w42 hB44 hch43
  have hsz45 := hch43.size
  replace hB8 := hB8.ch hch43 (by simp; omega)
  replace hB15 := hB15.ch hch43 (by simp; omega)
  replace hc := (off1 (by omega)).step hc hch43
  replace hB26 : Blk w42 g24 37 [(.int .i64 xp), (.int .i64 xf), (.int .i64 0)] := hB44
  clear hB44
  refine rw_nil (hK41 _ _ ?_)
  refine hK39 _ _ ?_
  refine cw_seq fun K46 hK47 => ?_
  refine cw_region fun K48 hK49 => ?_
  refine rw_cons (op_pv (w0 rfl) rfl rfl (pv_fld F39_2 rfl rfl) ?_)
  refine rw_cons (op_lv (w0 rfl) rfl rfl (lv_load T3 rfl rfl (hB8.cellA (i := 2) rfl)) ?_)
  refine rw_cons (op_pv (w0 rfl) rfl rfl (pv_fld F37_2 rfl rfl) ?_)
  refine rw_cons (op_store_blk T3 hB26 (w0 rfl) rfl rfl rfl rfl rfl (one_all rfl) (Nat.le_of_ble_eq_true rfl) ?_)
  rintro w50 hB52 hch51
  have hsz53 := hch51.size
  replace hB8 := hB8.ch hch51 (by simp; omega)
  replace hB15 := hB15.ch hch51 (by simp; omega)
  replace hc := (off1 (by omega)).step hc hch51
  replace hB26 : Blk w50 g24 37 [(.int .i64 xp), (.int .i64 xf), (.int .i64 xt)] := hB52
  clear hB52
  refine rw_nil (hK49 _ _ ?_)
  refine hK47 _ _ ?_
  refine cw_seq fun K54 hK55 => ?_
  refine cw_region fun K56 hK57 => ?_
  refine rw_cons (op_lv (w0 rfl) rfl rfl (lv_loadN T37 rfl rfl rfl (fun j v hv => hB26.cellA hv)) ?_)
  refine rw_cons (op_store_blk T37 hB15 (w0 rfl) rfl rfl rfl rfl rfl (one_all rfl) (Nat.le_of_ble_eq_true rfl) ?_)
  rintro w58 hB60 hch59
  have hsz61 := hch59.size
  replace hB8 := hB8.ch hch59 (by simp; omega)
  replace hB26 := hB26.ch hch59 (by simp; omega)
  replace hc := (off1 (by omega)).step hc hch59
  replace hB15 : Blk w58 g13 37 [(.int .i64 xp), (.int .i64 xf), (.int .i64 xt)] := hB60
  clear hB60
  refine rw_nil (hK57 _ _ ?_)
  refine hK55 _ _ ?_
  refine cw_ret ?_
  refine finC T37 rfl rfl (fun j v hv => hB15.cellA hv) ?_
  exact ⟨rfl, hc⟩
end Go.Proofs.Ytajdoloefkoekaa
