/-
  The walk of laws.toBase, written by program: each line names the law of one operation. Conditions: those of the theorem.
-/
import Derived.Test.YtpnenfglogggmaaProg
import Derived.Test.YtpnenfglogggmaaBase
import Derived.Test.YtpnenfglogggmaaFlawstoIntS
import Derived.KernelRfl
namespace Go.Proofs.Ytpnenfglogggmaa
open Go Go.RowKit
set_option linter.unusedVariables false
set_option linter.unusedSimpArgs false
namespace toBase_okF
theorem T3 : TI Try.prog 3 false (.int .i64 0) 1 8 := TI.mk' Try.underlying3 rfl (by kernel_rfl)
theorem T23 : TI Try.prog 23 false (.slice none 0 0) 1 24 := TI.mk' Try.underlying23 rfl (by kernel_rfl)
theorem T25 : TI Try.prog 25 true (.agg #[.int .i64 0, .slice none 0 0]) 2 32 := TI.mk' Try.underlying25 rfl (by kernel_rfl)
theorem F25_0 : FldOK Try.prog 25 0 0 := ⟨_, _, 0, Try.underlying25, rfl, rfl, by kernel_rfl⟩
theorem F25_1 : FldOK Try.prog 25 1 1 := ⟨_, _, 0, Try.underlying25, rfl, rfl, by kernel_rfl⟩
theorem F29_0 : FldOK Try.prog 29 0 0 := ⟨_, _, 0, Try.underlying29, rfl, rfl, by kernel_rfl⟩
theorem F29_1 : FldOK Try.prog 29 1 1 := ⟨_, _, 0, Try.underlying29, rfl, rfl, by kernel_rfl⟩
theorem C32 : Callable Try.prog 32 := ⟨_, Try.func32, by kernel_rfl, by kernel_rfl⟩
end toBase_okF
open toBase_okF in
set_option maxHeartbeats 4000000 in
theorem toBase_ok (m : Int) (Axs : Option Addr) (nxs cxs : Nat) (xs : List Int) (w : World) (hRxs : RS encI 1 w w.heap.size Axs nxs xs) (hNxs : nxs ≤ 1099511627776) :
    Fn Try.prog 12 [(.agg #[(.int .i64 m), (.slice Axs nxs cxs)])] w fun v w' => ∃ A_1 c_1, v = .agg #[.int .i64 m, .slice A_1 (xs).length c_1] ∧ Own encI 1 w' w.heap.size 3 (.slice A_1 (xs).length c_1) (xs) ∧ Ch [] w w' := by
  have hlenxs := hRxs.len
  refine fn_of (n := 12) Try.func12 rfl rfl rfl rfl ?_
  have hc : Ch [] w w := Ch.refl _ _
  refine cw_seq fun K1 hK2 => ?_
  refine cw_region fun K3 hK4 => ?_
  refine rw_cons (op_box (w0 rfl) rfl rfl rfl rfl ?_)
  rintro g6 w5 hg9 hg10 hB8 hch7
  have hsz11 := hch7.size
  replace hRxs := hRxs.ch0 hch7
  replace hc := hc.step0 hch7
  replace hB8 : Blk w5 g6 29 [(.int .i64 m), (.slice Axs nxs cxs)] := hB8
  refine rw_cons (op_alloc T25 (w0 rfl) rfl rfl rfl ?_)
  rintro g13 w12 hg16 hg17 hB15 hch14
  have hsz18 := hch14.size
  replace hRxs := hRxs.ch0 hch14
  replace hB8 := hB8.ch0 hch14
  replace hc := hc.step0 hch14
  replace hB15 : Blk w12 g13 25 [(.int .i64 0), (.slice none 0 0)] := hB15
  refine rw_nil (hK4 _ _ ?_)
  refine hK2 _ _ ?_
  refine cw_seq fun K19 hK20 => ?_
  refine cw_region fun K21 hK22 => ?_
  refine rw_cons (op_alloc T25 (w0 rfl) rfl rfl rfl ?_)
  rintro g24 w23 hg27 hg28 hB26 hch25
  have hsz29 := hch25.size
  replace hRxs := hRxs.ch0 hch25
  replace hB8 := hB8.ch0 hch25
  replace hB15 := hB15.ch0 hch25
  replace hc := hc.step0 hch25
  replace hB26 : Blk w23 g24 25 [(.int .i64 0), (.slice none 0 0)] := hB26
  refine rw_nil (hK22 _ _ ?_)
  refine hK20 _ _ ?_
  refine cw_seq fun K30 hK31 => ?_
  refine cw_region fun K32 hK33 => ?_
  refine rw_cons (op_pv (w0 rfl) rfl rfl (pv_fld F29_0 rfl rfl) ?_)
  refine rw_cons (op_lv (w0 rfl) rfl rfl (lv_load T3 rfl rfl (hB8.cellA (i := 0) rfl)) ?_)
  refine rw_cons (op_pv (w0 rfl) rfl rfl (pv_fld F25_0 rfl rfl) ?_)
  refine rw_cons (op_store_blk T3 hB26 (w0 rfl) rfl rfl rfl rfl rfl (one_all rfl) (Nat.le_of_ble_eq_true rfl) ?_)
  rintro w34 hB36 hch35
  have hsz37 := hch35.size
  replace hRxs := hRxs.ch hch35 (off1 (by omega))
  replace hB8 := hB8.ch hch35 (by simp; omega)
  replace hB15 := hB15.ch hch35 (by simp; omega)
  replace hc := (off1 (by omega)).step hc hch35
  replace hB26 : Blk w34 g24 25 [(.int .i64 m), (.slice none 0 0)] := hB36
  clear hB36
  refine rw_nil (hK33 _ _ ?_)
  refine hK31 _ _ ?_
  refine cw_seq fun K38 hK39 => ?_
  refine cw_region fun K40 hK41 => ?_
  refine rw_cons (op_pv (w0 rfl) rfl rfl (pv_fld F29_1 rfl rfl) ?_)
  refine rw_cons (op_lv (w0 rfl) rfl rfl (lv_load T23 rfl rfl (hB8.cellA (i := 1) rfl)) ?_)
  refine rw_cons (op_call (w0 rfl) rfl rfl (rc_call C32 rfl rfl) (toIntS_ok _ _ _ _ _ (hRxs.more (by omega)) (by omega)) ?_)
  rintro _ w42 ⟨v43, rfl, hO44, hch45⟩
  have hsz46 := hch45.size
  replace hRxs := hRxs.ch0 hch45
  replace hB8 := hB8.ch0 hch45
  replace hB15 := hB15.ch0 hch45
  replace hB26 := hB26.ch0 hch45
  replace hc := hc.step0 hch45
  obtain ⟨A47, c48, hv49, hle50, hmx51⟩ := hO44.form; subst hv49
  have hub52 := hO44.lt
  refine rw_cons (op_pv (w0 rfl) rfl rfl (pv_fld F25_1 rfl rfl) ?_)
  refine rw_cons (op_store_blk T23 hB26 (w0 rfl) rfl rfl rfl rfl rfl (one_all rfl) (Nat.le_of_ble_eq_true rfl) ?_)
  rintro w53 hB55 hch54
  have hsz56 := hch54.size
  replace hRxs := hRxs.ch hch54 (off1 (by omega))
  replace hB8 := hB8.ch hch54 (by simp; omega)
  replace hB15 := hB15.ch hch54 (by simp; omega)
  replace hO44 := hO44.ch hch54 (fun s hs => by first | (have := hO44.off s hs; simp; omega) | (have := hub52 s hs; simp; omega))
  replace hc := (off1 (by omega)).step hc hch54
  replace hB26 : Blk w53 g24 25 [(.int .i64 m), (.slice A47 xs.length c48)] := hB55
  clear hB55
  refine rw_nil (hK41 _ _ ?_)
  refine hK39 _ _ ?_
  refine cw_seq fun K57 hK58 => ?_
  refine cw_region fun K59 hK60 => ?_
  refine rw_cons (op_lv (w0 rfl) rfl rfl (lv_loadN T25 rfl rfl rfl (fun j v hv => hB26.cellA hv)) ?_)
  refine rw_cons (op_store_blk T25 hB15 (w0 rfl) rfl rfl rfl rfl rfl (one_all rfl) (Nat.le_of_ble_eq_true rfl) ?_)
  rintro w61 hB63 hch62
  have hsz64 := hch62.size
  replace hRxs := hRxs.ch hch62 (off1 (by omega))
  replace hB8 := hB8.ch hch62 (by simp; omega)
  replace hB26 := hB26.ch hch62 (by simp; omega)
  replace hO44 := hO44.ch hch62 (fun s hs => by first | (have := hO44.off s hs; simp; omega) | (have := hub52 s hs; simp; omega))
  replace hc := (off1 (by omega)).step hc hch62
  replace hB15 : Blk w61 g13 25 [(.int .i64 m), (.slice A47 xs.length c48)] := hB63
  clear hB63
  refine rw_nil (hK60 _ _ ?_)
  refine hK58 _ _ ?_
  refine cw_ret ?_
  refine finC T25 rfl rfl (fun j v hv => hB15.cellA hv) ?_
  have he_1 : xs = xs := rfl
  exact ⟨_, _, (agg2 rfl (sl_as hO44 he_1)), own_as (hO44.less (by omega)) he_1, hc⟩
end Go.Proofs.Ytpnenfglogggmaa
