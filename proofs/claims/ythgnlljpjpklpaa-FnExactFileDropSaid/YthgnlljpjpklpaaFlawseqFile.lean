/-
  The walk of laws.eqFile, written by program: each line names the law of one operation. Conditions: those of the theorem.
-/
import Derived.Test.YthgnlljpjpklpaaProg
import Derived.Test.YthgnlljpjpklpaaDeep
import Derived.Test.YthgnlljpjpklpaaFlawseqIntS
import Derived.KernelRfl
namespace Go.Proofs.Ythgnlljpjpklpaa
open Go Go.RowKit
set_option linter.unusedVariables false
set_option linter.unusedSimpArgs false
namespace eqFile_okF
theorem T9 : TI Try.prog 9 false (.string { data := #[] }) 1 16 := TI.mk' Try.underlying9 rfl (by kernel_rfl)
theorem T25 : TI Try.prog 25 false (.slice none 0 0) 1 24 := TI.mk' Try.underlying25 rfl (by kernel_rfl)
theorem F48_0 : FldOK Try.prog 48 0 0 := ⟨_, _, 0, Try.underlying48, rfl, rfl, by kernel_rfl⟩
theorem F48_1 : FldOK Try.prog 48 1 1 := ⟨_, _, 0, Try.underlying48, rfl, rfl, by kernel_rfl⟩
theorem C23 : Callable Try.prog 23 := ⟨_, Try.func23, by kernel_rfl, by kernel_rfl⟩
end eqFile_okF
open eqFile_okF in
set_option maxHeartbeats 4000000 in
theorem eqFile_ok (f : Fl) (h : Fl) (w : World) (hRf : RS encI 1 w w.heap.size f.A f.n f.ps) (hNf : f.n ≤ 1099511627776) (hRh : RS encI 1 w w.heap.size h.A h.n h.ps) (hNh : h.n ≤ 1099511627776) :
    Fn Try.prog 51 [(.agg #[(.string f.nm), (.slice f.A f.n f.c)]), (.agg #[(.string h.nm), (.slice h.A h.n h.c)])] w fun v w' => v = .bool (dec (fv f = fv h)) ∧ Ch [] w w' := by
  have hl1 := hRf.len
  have hl2 := hRh.len
  refine fn_of (n := 16) Try.func51 rfl rfl rfl rfl ?_
  have hc : Ch [] w w := Ch.refl _ _
  refine cw_seq fun K1 hK2 => ?_
  refine cw_region fun K3 hK4 => ?_
  refine rw_cons (op_box (w0 rfl) rfl rfl rfl rfl ?_)
  rintro g6 w5 hg9 hg10 hB8 hch7
  have hsz11 := hch7.size
  replace hRf := hRf.ch0 hch7
  replace hRh := hRh.ch0 hch7
  replace hc := hc.step0 hch7
  replace hB8 : Blk w5 g6 48 [(.string f.nm), (.slice f.A f.n f.c)] := hB8
  refine rw_cons (op_box (w0 rfl) rfl rfl rfl rfl ?_)
  rintro g13 w12 hg16 hg17 hB15 hch14
  have hsz18 := hch14.size
  replace hRf := hRf.ch0 hch14
  replace hRh := hRh.ch0 hch14
  replace hB8 := hB8.ch0 hch14
  replace hc := hc.step0 hch14
  replace hB15 : Blk w12 g13 48 [(.string h.nm), (.slice h.A h.n h.c)] := hB15
  refine rw_cons (op_pv (w0 rfl) rfl rfl (pv_assign (v := (.bool false)) rfl rfl) ?_)
  refine rw_nil (hK4 _ _ ?_)
  refine hK2 _ _ ?_
  refine cw_seq fun K19 hK20 => ?_
  refine cw_seq fun K21 hK22 => ?_
  refine cw_region fun K23 hK24 => ?_
  refine rw_cons (op_pv (w0 rfl) rfl rfl (pv_fld F48_0 rfl rfl) ?_)
  refine rw_cons (op_lv (w0 rfl) rfl rfl (lv_load T9 rfl rfl (hB8.cellA (i := 0) rfl)) ?_)
  refine rw_cons (op_pv (w0 rfl) rfl rfl (pv_fld F48_0 rfl rfl) ?_)
  refine rw_cons (op_lv (w0 rfl) rfl rfl (lv_load T9 rfl rfl (hB15.cellA (i := 0) rfl)) ?_)
  refine rw_cons (op_pv (w0 rfl) rfl rfl (pv_neS rfl rfl rfl) ?_)
  refine rw_nil (hK24 _ _ ?_)
  refine hK22 _ _ ?_
  refine cw_cond rfl (fun h25 => ?_) (fun h25 => ?_)
  · -- then
    replace h25 := not_t h25
    replace h25 := of_decide_eq_false h25
    refine cw_seq fun K26 hK27 => ?_
    refine cw_region fun K28 hK29 => ?_
    refine rw_cons (op_pv (w0 rfl) rfl rfl (pv_assign (v := (.bool false)) rfl rfl) ?_)
    refine rw_nil (hK29 _ _ ?_)
    refine hK27 _ _ ?_
    refine cw_ret ?_
    refine fin1 rfl ?_
    exact ⟨(bvf (fun h9 => by have h8 := congrArg Prod.fst h9; have h7 := congrArg Prod.snd h9; simp only [fv] at h8 h7; first | contradiction | (simp_all; done))), hc⟩
  · -- else
    replace h25 := not_f h25
    replace h25 := of_decide_eq_true h25
    refine cw_skip ?_
    refine hK20 _ _ ?_
    refine cw_seq fun K30 hK31 => ?_
    refine cw_seq fun K32 hK33 => ?_
    refine cw_region fun K34 hK35 => ?_
    refine rw_cons (op_pv (w0 rfl) rfl rfl (pv_fld F48_1 rfl rfl) ?_)
    refine rw_cons (op_lv (w0 rfl) rfl rfl (lv_load T25 rfl rfl (hB8.cellA (i := 1) rfl)) ?_)
    refine rw_cons (op_pv (w0 rfl) rfl rfl (pv_fld F48_1 rfl rfl) ?_)
    refine rw_cons (op_lv (w0 rfl) rfl rfl (lv_load T25 rfl rfl (hB15.cellA (i := 1) rfl)) ?_)
    refine rw_cons (op_call (w0 rfl) rfl rfl (rc_call C23 rfl rfl) (eqIntS_ok _ _ _ _ _ _ f.ps h.ps _ (hRf.more (by omega)) (hRh.more (by omega)) (by omega)) ?_)
    rintro _ w36 ⟨rfl, hch37⟩
    have hsz38 := hch37.size
    replace hRf := hRf.ch0 hch37
    replace hRh := hRh.ch0 hch37
    replace hB8 := hB8.ch0 hch37
    replace hB15 := hB15.ch0 hch37
    replace hc := hc.step0 hch37
    refine rw_cons (op_pv (w0 rfl) rfl rfl (pv_not rfl rfl) ?_)
    refine rw_nil (hK35 _ _ ?_)
    refine hK33 _ _ ?_
    refine cw_cond rfl (fun h39 => ?_) (fun h39 => ?_)
    · -- then
      replace h39 := not_t h39
      replace h39 := dec_f h39
      refine cw_seq fun K40 hK41 => ?_
      refine cw_region fun K42 hK43 => ?_
      refine rw_cons (op_pv (w0 rfl) rfl rfl (pv_assign (v := (.bool false)) rfl rfl) ?_)
      refine rw_nil (hK43 _ _ ?_)
      refine hK41 _ _ ?_
      refine cw_ret ?_
      refine fin1 rfl ?_
      exact ⟨(bvf (fun h9 => by have h8 := congrArg Prod.fst h9; have h7 := congrArg Prod.snd h9; simp only [fv] at h8 h7; first | contradiction | (simp_all; done))), hc⟩
    · -- else
      replace h39 := not_f h39
      replace h39 := dec_t h39
      refine cw_skip ?_
      refine hK31 _ _ ?_
      refine cw_seq fun K44 hK45 => ?_
      refine cw_region fun K46 hK47 => ?_
      refine rw_cons (op_pv (w0 rfl) rfl rfl (pv_assign (v := (.bool true)) rfl rfl) ?_)
      refine rw_nil (hK47 _ _ ?_)
      refine hK45 _ _ ?_
      refine cw_ret ?_
      refine fin1 rfl ?_
      exact ⟨(bvt (Prod.ext (by assumption) (by assumption))), hc⟩
end Go.Proofs.Ythgnlljpjpklpaa
