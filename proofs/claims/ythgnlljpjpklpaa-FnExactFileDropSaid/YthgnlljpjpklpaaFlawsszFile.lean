/-
  The walk of laws.szFile, written by program: each line names the law of one operation. Conditions: those of the theorem.
-/
import Derived.Test.YthgnlljpjpklpaaProg
import Derived.Test.YthgnlljpjpklpaaDeep
import Derived.Test.YthgnlljpjpklpaaFlawsszIntS
import Derived.KernelRfl
namespace Go.Proofs.Ythgnlljpjpklpaa
open Go Go.RowKit
set_option linter.unusedVariables false
set_option linter.unusedSimpArgs false
namespace szFile_okF
theorem T9 : TI Try.prog 9 false (.string { data := #[] }) 1 16 := TI.mk' Try.underlying9 rfl (by kernel_rfl)
theorem T25 : TI Try.prog 25 false (.slice none 0 0) 1 24 := TI.mk' Try.underlying25 rfl (by kernel_rfl)
theorem F56_0 : FldOK Try.prog 56 0 0 := ⟨_, _, 0, Try.underlying56, rfl, rfl, by kernel_rfl⟩
theorem F56_1 : FldOK Try.prog 56 1 1 := ⟨_, _, 0, Try.underlying56, rfl, rfl, by kernel_rfl⟩
theorem C64 : Callable Try.prog 64 := ⟨_, Try.func64, by kernel_rfl, by kernel_rfl⟩
end szFile_okF
open szFile_okF in
set_option maxHeartbeats 4000000 in
theorem szFile_ok (f : Fl) (m : Int) (w : World) (hm : 0 ≤ m ∧ m ≤ 1048576) (hz : f.nm.size ≤ 9223372036854775807 ∧ f.n ≤ 9223372036854775807) :
    Fn Try.prog 45 [(.agg #[(.string f.nm), (.slice f.A f.n f.c)]), (.int .i64 m)] w fun v w' => ∃ r : Int, v = .int .i64 r ∧ (r < 0 ∨ (0 ≤ r ∧ r + f.nm.size + f.n ≤ m)) ∧ Ch [] w w' := by
  refine fn_of (n := 19) Try.func45 rfl rfl rfl rfl ?_
  have hc : Ch [] w w := Ch.refl _ _
  refine cw_seq fun K1 hK2 => ?_
  refine cw_region fun K3 hK4 => ?_
  refine rw_cons (op_box (w0 rfl) rfl rfl rfl rfl ?_)
  rintro g6 w5 hg9 hg10 hB8 hch7
  have hsz11 := hch7.size
  replace hc := hc.step0 hch7
  replace hB8 : Blk w5 g6 56 [(.string f.nm), (.slice f.A f.n f.c)] := hB8
  refine rw_cons (op_pv (w0 rfl) rfl rfl (pv_assign (v := (.int .i64 0)) rfl rfl) ?_)
  refine rw_nil (hK4 _ _ ?_)
  refine hK2 _ _ ?_
  refine cw_seq fun K12 hK13 => ?_
  refine cw_region fun K14 hK15 => ?_
  refine rw_cons (op_pv (w0 rfl) rfl rfl (pv_move (v := (.int .i64 m)) rfl rfl) ?_)
  refine rw_cons (op_pv (w0 rfl) rfl rfl (pv_fld F56_0 rfl rfl) ?_)
  refine rw_cons (op_lv (w0 rfl) rfl rfl (lv_load T9 rfl rfl (hB8.cellA (i := 0) rfl)) ?_)
  refine rw_cons (op_pv (w0 rfl) rfl rfl (pv_lenS Try.underlying9 rfl rfl) ?_)
  refine rw_cons (op_pv (w0 rfl) rfl rfl (pv_sub rfl rfl rfl (by omega) (by omega)) ?_)
  refine rw_cons (op_pv (w0 rfl) rfl rfl (pv_assign (v := (.int .i64 (m - (f.nm.size : Int)))) rfl rfl) ?_)
  refine rw_nil (hK15 _ _ ?_)
  refine hK13 _ _ ?_
  refine cw_seq fun K16 hK17 => ?_
  refine cw_seq fun K18 hK19 => ?_
  refine cw_region fun K20 hK21 => ?_
  refine rw_cons (op_pv (w0 rfl) rfl rfl (pv_move (v := (.int .i64 (m - (f.nm.size : Int)))) rfl rfl) ?_)
  refine rw_cons (op_pv (w0 rfl) rfl rfl (pv_lss rfl rfl rfl) ?_)
  refine rw_nil (hK21 _ _ ?_)
  refine hK19 _ _ ?_
  refine cw_cond rfl (fun h22 => ?_) (fun h22 => ?_)
  · -- then
    replace h22 := of_decide_eq_true h22
    refine cw_seq fun K23 hK24 => ?_
    refine cw_region fun K25 hK26 => ?_
    refine rw_cons (op_pv (w0 rfl) rfl rfl (pv_assign (v := (.int .i64 (-1))) rfl rfl) ?_)
    refine rw_nil (hK26 _ _ ?_)
    refine hK24 _ _ ?_
    refine cw_ret ?_
    refine fin1 rfl ?_
    exact ⟨_, rfl, by omega, hc⟩
  · -- else
    replace h22 := of_decide_eq_false h22
    refine cw_skip ?_
    refine hK17 _ _ ?_
    refine cw_seq fun K27 hK28 => ?_
    refine cw_region fun K29 hK30 => ?_
    refine rw_cons (op_pv (w0 rfl) rfl rfl (pv_fld F56_1 rfl rfl) ?_)
    refine rw_cons (op_lv (w0 rfl) rfl rfl (lv_load T25 rfl rfl (hB8.cellA (i := 1) rfl)) ?_)
    refine rw_cons (op_pv (w0 rfl) rfl rfl (pv_move (v := (.int .i64 (m - (f.nm.size : Int)))) rfl rfl) ?_)
    refine rw_cons (op_call (w0 rfl) rfl rfl (rc_call C64 rfl rfl) (szIntS_ok _ f.n _ (m - (f.nm.size : Int)) _ (by omega) (by omega)) ?_)
    rintro _ w31 ⟨r32, rfl, hr33, hch34⟩
    have hsz35 := hch34.size
    replace hB8 := hB8.ch0 hch34
    replace hc := hc.step0 hch34
    refine rw_cons (op_pv (w0 rfl) rfl rfl (pv_assign (v := (.int .i64 r32)) rfl rfl) ?_)
    refine rw_nil (hK30 _ _ ?_)
    refine hK28 _ _ ?_
    refine cw_seq fun K36 hK37 => ?_
    refine cw_seq fun K38 hK39 => ?_
    refine cw_region fun K40 hK41 => ?_
    refine rw_cons (op_pv (w0 rfl) rfl rfl (pv_move (v := (.int .i64 r32)) rfl rfl) ?_)
    refine rw_cons (op_pv (w0 rfl) rfl rfl (pv_lss rfl rfl rfl) ?_)
    refine rw_nil (hK41 _ _ ?_)
    refine hK39 _ _ ?_
    refine cw_cond rfl (fun h42 => ?_) (fun h42 => ?_)
    · -- then
      replace h42 := of_decide_eq_true h42
      refine cw_seq fun K43 hK44 => ?_
      refine cw_region fun K45 hK46 => ?_
      refine rw_cons (op_pv (w0 rfl) rfl rfl (pv_assign (v := (.int .i64 (-1))) rfl rfl) ?_)
      refine rw_nil (hK46 _ _ ?_)
      refine hK44 _ _ ?_
      refine cw_ret ?_
      refine fin1 rfl ?_
      exact ⟨_, rfl, by omega, hc⟩
    · -- else
      replace h42 := of_decide_eq_false h42
      refine cw_skip ?_
      refine hK37 _ _ ?_
      refine cw_seq fun K47 hK48 => ?_
      refine cw_region fun K49 hK50 => ?_
      refine rw_cons (op_pv (w0 rfl) rfl rfl (pv_move (v := (.int .i64 r32)) rfl rfl) ?_)
      refine rw_cons (op_pv (w0 rfl) rfl rfl (pv_assign (v := (.int .i64 r32)) rfl rfl) ?_)
      refine rw_nil (hK50 _ _ ?_)
      refine hK48 _ _ ?_
      refine cw_ret ?_
      refine fin1 rfl ?_
      exact ⟨_, rfl, by omega, hc⟩
end Go.Proofs.Ythgnlljpjpklpaa
