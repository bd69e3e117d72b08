/-
  The walk of laws.toFile, written by program: each line names the law of one operation. Conditions: those of the theorem.
-/
import Derived.Test.YthgnlljpjpklpaaProg
import Derived.Test.YthgnlljpjpklpaaDeep
import Derived.Test.YthgnlljpjpklpaaFlawstoIntS
import Derived.KernelRfl
namespace Go.Proofs.Ythgnlljpjpklpaa
open Go Go.RowKit
set_option linter.unusedVariables false
set_option linter.unusedSimpArgs false
namespace toFile_okF
theorem T9 : TI Try.prog 9 false (.string { data := #[] }) 1 16 := TI.mk' Try.underlying9 rfl (by kernel_rfl)
theorem T25 : TI Try.prog 25 false (.slice none 0 0) 1 24 := TI.mk' Try.underlying25 rfl (by kernel_rfl)
theorem T48 : TI Try.prog 48 true (.agg #[.string { data := #[] }, .slice none 0 0]) 2 40 := TI.mk' Try.underlying48 rfl (by kernel_rfl)
theorem F48_0 : FldOK Try.prog 48 0 0 := ⟨_, _, 0, Try.underlying48, rfl, rfl, by kernel_rfl⟩
theorem F48_1 : FldOK Try.prog 48 1 1 := ⟨_, _, 0, Try.underlying48, rfl, rfl, by kernel_rfl⟩
theorem F56_0 : FldOK Try.prog 56 0 0 := ⟨_, _, 0, Try.underlying56, rfl, rfl, by kernel_rfl⟩
theorem F56_1 : FldOK Try.prog 56 1 1 := ⟨_, _, 0, Try.underlying56, rfl, rfl, by kernel_rfl⟩
theorem C65 : Callable Try.prog 65 := ⟨_, Try.func65, by kernel_rfl, by kernel_rfl⟩
end toFile_okF
open toFile_okF in
set_option maxHeartbeats 4000000 in
theorem toFile_ok (f : Fl) (w : World) (hRf : RS encI 1 w w.heap.size f.A f.n f.ps) (hNf : f.n ≤ 1099511627776) :
    Fn Try.prog 48 [(.agg #[(.string f.nm), (.slice f.A f.n f.c)])] w fun v w' => ∃ A c, v = .agg #[.string f.nm, .slice A f.ps.length c] ∧ Own encI 1 w' w.heap.size 3 (.slice A f.ps.length c) f.ps ∧ Ch [] w w' := by
  have hlnf := hRf.len
  refine fn_of (n := 12) Try.func48 rfl rfl rfl rfl ?_
  have hc : Ch [] w w := Ch.refl _ _
  refine cw_seq fun K1 hK2 => ?_
  refine cw_region fun K3 hK4 => ?_
  refine rw_cons (op_box (w0 rfl) rfl rfl rfl rfl ?_)
  rintro g6 w5 hg9 hg10 hB8 hch7
  have hsz11 := hch7.size
  replace hRf := hRf.ch0 hch7
  replace hc := hc.step0 hch7
  replace hB8 : Blk w5 g6 56 [(.string f.nm), (.slice f.A f.n f.c)] := hB8
  refine rw_cons (op_alloc T48 (w0 rfl) rfl rfl rfl ?_)
  rintro g13 w12 hg16 hg17 hB15 hch14
  have hsz18 := hch14.size
  replace hRf := hRf.ch0 hch14
  replace hB8 := hB8.ch0 hch14
  replace hc := hc.step0 hch14
  replace hB15 : Blk w12 g13 48 [(.string ByteArray.empty), (.slice none 0 0)] := hB15
  refine rw_nil (hK4 _ _ ?_)
  refine hK2 _ _ ?_
  refine cw_seq fun K19 hK20 => ?_
  refine cw_region fun K21 hK22 => ?_
  refine rw_cons (op_alloc T48 (w0 rfl) rfl rfl rfl ?_)
  rintro g24 w23 hg27 hg28 hB26 hch25
  have hsz29 := hch25.size
  replace hRf := hRf.ch0 hch25
  replace hB8 := hB8.ch0 hch25
  replace hB15 := hB15.ch0 hch25
  replace hc := hc.step0 hch25
  replace hB26 : Blk w23 g24 48 [(.string ByteArray.empty), (.slice none 0 0)] := hB26
  refine rw_nil (hK22 _ _ ?_)
  refine hK20 _ _ ?_
  refine cw_seq fun K30 hK31 => ?_
  refine cw_region fun K32 hK33 => ?_
  refine rw_cons (op_pv (w0 rfl) rfl rfl (pv_fld F56_0 rfl rfl) ?_)
  refine rw_cons (op_lv (w0 rfl) rfl rfl (lv_load T9 rfl rfl (hB8.cellA (i := 0) rfl)) ?_)
  refine rw_cons (op_pv (w0 rfl) rfl rfl (pv_fld F48_0 rfl rfl) ?_)
  refine rw_cons (op_store_blk T9 hB26 (w0 rfl) rfl rfl rfl rfl rfl (one_all rfl) (Nat.le_of_ble_eq_true rfl) ?_)
  rintro w34 hB36 hch35
  have hsz37 := hch35.size
  replace hRf := hRf.ch hch35 (off1 (by omega))
  replace hB8 := hB8.ch hch35 (by simp; omega)
  replace hB15 := hB15.ch hch35 (by simp; omega)
  replace hc := (off1 (by omega)).step hc hch35
  replace hB26 : Blk w34 g24 48 [(.string f.nm), (.slice none 0 0)] := hB36
  clear hB36
  refine rw_nil (hK33 _ _ ?_)
  refine hK31 _ _ ?_
  refine cw_seq fun K38 hK39 => ?_
  refine cw_region fun K40 hK41 => ?_
  refine rw_cons (op_pv (w0 rfl) rfl rfl (pv_fld F56_1 rfl rfl) ?_)
  refine rw_cons (op_lv (w0 rfl) rfl rfl (lv_load T25 rfl rfl (hB8.cellA (i := 1) rfl)) ?_)
  refine rw_cons (op_call (w0 rfl) rfl rfl (rc_call C65 rfl rfl) (toIntS_ok _ _ _ _ _ (hRf.more (by omega)) (by omega)) ?_)
  rintro _ w42 ⟨v43, rfl, hO44, hch45⟩
  have hsz46 := hch45.size
  replace hRf := hRf.ch0 hch45
  replace hB8 := hB8.ch0 hch45
  replace hB15 := hB15.ch0 hch45
  replace hB26 := hB26.ch0 hch45
  replace hc := hc.step0 hch45
  obtain ⟨A47, c48, hv49, hle50, hmx51⟩ := hO44.form; subst hv49
  have hub52 := hO44.lt
  refine rw_cons (op_pv (w0 rfl) rfl rfl (pv_fld F48_1 rfl rfl) ?_)
  refine rw_cons (op_store_blk T25 hB26 (w0 rfl) rfl rfl rfl rfl rfl (one_all rfl) (Nat.le_of_ble_eq_true rfl) ?_)
  rintro w53 hB55 hch54
  have hsz56 := hch54.size
  replace hRf := hRf.ch hch54 (off1 (by omega))
  replace hB8 := hB8.ch hch54 (by simp; omega)
  replace hB15 := hB15.ch hch54 (by simp; omega)
  replace hO44 := hO44.ch hch54 (fun s hs => by first | (have := hO44.off s hs; simp; omega) | (have := hub52 s hs; simp; omega))
  replace hc := (off1 (by omega)).step hc hch54
  replace hB26 : Blk w53 g24 48 [(.string f.nm), (.slice A47 f.ps.length c48)] := hB55
  clear hB55
  refine rw_nil (hK41 _ _ ?_)
  refine hK39 _ _ ?_
  refine cw_seq fun K57 hK58 => ?_
  refine cw_region fun K59 hK60 => ?_
  refine rw_cons (op_lv (w0 rfl) rfl rfl (lv_loadN T48 rfl rfl rfl (fun j v hv => hB26.cellA hv)) ?_)
  refine rw_cons (op_store_blk T48 hB15 (w0 rfl) rfl rfl rfl rfl rfl (one_all rfl) (Nat.le_of_ble_eq_true rfl) ?_)
  rintro w61 hB63 hch62
  have hsz64 := hch62.size
  replace hRf := hRf.ch hch62 (off1 (by omega))
  replace hB8 := hB8.ch hch62 (by simp; omega)
  replace hB26 := hB26.ch hch62 (by simp; omega)
  replace hO44 := hO44.ch hch62 (fun s hs => by first | (have := hO44.off s hs; simp; omega) | (have := hub52 s hs; simp; omega))
  replace hc := (off1 (by omega)).step hc hch62
  replace hB15 : Blk w61 g13 48 [(.string f.nm), (.slice A47 f.ps.length c48)] := hB63
  clear hB63
  refine rw_nil (hK60 _ _ ?_)
  refine hK58 _ _ ?_
  refine cw_ret ?_
  refine finC T48 rfl rfl (fun j v hv => hB15.cellA hv) ?_
  exact ⟨_, _, rfl, hO44.less (by omega), hc⟩
end Go.Proofs.Ythgnlljpjpklpaa
