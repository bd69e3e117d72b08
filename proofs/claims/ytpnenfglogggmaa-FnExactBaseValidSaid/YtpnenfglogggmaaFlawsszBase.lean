/-
  The walk of laws.szBase, written by program: each line names the law of one operation. Conditions: those of the theorem.
-/
import Derived.Test.YtpnenfglogggmaaProg
import Derived.Test.YtpnenfglogggmaaBase
import Derived.Test.YtpnenfglogggmaaFlawsszIntS
import Derived.KernelRfl
namespace Go.Proofs.Ytpnenfglogggmaa
open Go Go.RowKit
set_option linter.unusedVariables false
set_option linter.unusedSimpArgs false
namespace szBase_okF
theorem T23 : TI Try.prog 23 false (.slice none 0 0) 1 24 := TI.mk' Try.underlying23 rfl (by kernel_rfl)
theorem F29_1 : FldOK Try.prog 29 1 1 := ⟨_, _, 0, Try.underlying29, rfl, rfl, by kernel_rfl⟩
theorem C31 : Callable Try.prog 31 := ⟨_, Try.func31, by kernel_rfl, by kernel_rfl⟩
end szBase_okF
open szBase_okF in
set_option maxHeartbeats 4000000 in
theorem szBase_ok (z : Int) (A : Option Addr) (n c : Nat) (xs : List Int) (m : Int) (w : World) (hR : RS encI 1 w w.heap.size A n xs) (hm0 : 0 ≤ m) (hm1 : m ≤ 1099511627776) (hn : n ≤ maxLen) :
    Fn Try.prog 11 [(.agg #[(.int .i64 z), (.slice A n c)]), (.int .i64 m)] w fun v w' => ∃ r : Int, v = .int .i64 r ∧ (m - n < 0 → r = -1) ∧ (0 ≤ m - n → r = m - n) ∧ Ch [] w w' := by
  unfold maxLen at hn
  refine fn_of (n := 12) Try.func11 rfl rfl rfl rfl ?_
  have hc : Ch [] w w := Ch.refl _ _
  refine cw_seq fun K1 hK2 => ?_
  refine cw_region fun K3 hK4 => ?_
  refine rw_cons (op_box (w0 rfl) rfl rfl rfl rfl ?_)
  rintro g6 w5 hg9 hg10 hB8 hch7
  have hsz11 := hch7.size
  replace hR := hR.ch0 hch7
  replace hc := hc.step0 hch7
  replace hB8 : Blk w5 g6 29 [(.int .i64 z), (.slice A n c)] := hB8
  refine rw_cons (op_pv (w0 rfl) rfl rfl (pv_assign (v := (.int .i64 0)) rfl rfl) ?_)
  refine rw_nil (hK4 _ _ ?_)
  refine hK2 _ _ ?_
  refine cw_seq fun K12 hK13 => ?_
  refine cw_region fun K14 hK15 => ?_
  refine rw_cons (op_pv (w0 rfl) rfl rfl (pv_fld F29_1 rfl rfl) ?_)
  refine rw_cons (op_lv (w0 rfl) rfl rfl (lv_load T23 rfl rfl (hB8.cellA (i := 1) rfl)) ?_)
  refine rw_cons (op_pv (w0 rfl) rfl rfl (pv_move (v := (.int .i64 m)) rfl rfl) ?_)
  refine rw_cons (op_call (w0 rfl) rfl rfl (rc_call C31 rfl rfl) (szIntS_ok _ n _ _ m _ (hR.more (by omega)) (by omega) (by omega) (by unfold maxLen; omega)) ?_)
  rintro _ w17 ⟨r16, rfl, hsz18, hsz19, hch20⟩
  have hsz21 := hch20.size
  replace hR := hR.ch0 hch20
  replace hB8 := hB8.ch0 hch20
  replace hc := hc.step0 hch20
  refine rw_cons (op_pv (w0 rfl) rfl rfl (pv_assign (v := (.int .i64 r16)) rfl rfl) ?_)
  refine rw_nil (hK15 _ _ ?_)
  refine hK13 _ _ ?_
  refine cw_seq fun K22 hK23 => ?_
  refine cw_seq fun K24 hK25 => ?_
  refine cw_region fun K26 hK27 => ?_
  refine rw_cons (op_pv (w0 rfl) rfl rfl (pv_move (v := (.int .i64 r16)) rfl rfl) ?_)
  refine rw_cons (op_pv (w0 rfl) rfl rfl (pv_lss rfl rfl rfl) ?_)
  refine rw_nil (hK27 _ _ ?_)
  refine hK25 _ _ ?_
  refine cw_cond rfl (fun h28 => ?_) (fun h28 => ?_)
  · -- then
    replace h28 := of_decide_eq_true h28
    refine cw_seq fun K29 hK30 => ?_
    refine cw_region fun K31 hK32 => ?_
    refine rw_cons (op_pv (w0 rfl) rfl rfl (pv_assign (v := (.int .i64 (-1))) rfl rfl) ?_)
    refine rw_nil (hK32 _ _ ?_)
    refine hK30 _ _ ?_
    refine cw_ret ?_
    refine fin1 rfl ?_
    exact ⟨_, rfl, by omega, by omega, hc⟩
  · -- else
    replace h28 := of_decide_eq_false h28
    refine cw_skip ?_
    refine hK23 _ _ ?_
    refine cw_seq fun K33 hK34 => ?_
    refine cw_region fun K35 hK36 => ?_
    refine rw_cons (op_pv (w0 rfl) rfl rfl (pv_move (v := (.int .i64 r16)) rfl rfl) ?_)
    refine rw_cons (op_pv (w0 rfl) rfl rfl (pv_assign (v := (.int .i64 r16)) rfl rfl) ?_)
    refine rw_nil (hK36 _ _ ?_)
    refine hK34 _ _ ?_
    refine cw_ret ?_
    refine fin1 rfl ?_
    exact ⟨_, rfl, by omega, by omega, hc⟩
end Go.Proofs.Ytpnenfglogggmaa
