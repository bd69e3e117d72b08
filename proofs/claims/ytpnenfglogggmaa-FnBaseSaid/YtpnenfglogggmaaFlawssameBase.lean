/-
  The walk of laws.sameBase, written by program: each line names the law of one operation. Conditions: those of the theorem.
-/
import Derived.Test.YtpnenfglogggmaaProg
import Derived.Test.YtpnenfglogggmaaBase
import Derived.Test.YtpnenfglogggmaaFlawssameInts
import Derived.KernelRfl
namespace Go.Proofs.Ytpnenfglogggmaa
open Go Go.RowKit
set_option linter.unusedVariables false
set_option linter.unusedSimpArgs false
namespace sameBase_okF
theorem T3 : TI Try.prog 3 false (.int .i64 0) 1 8 := TI.mk' Try.underlying3 rfl (by kernel_rfl)
theorem T23 : TI Try.prog 23 false (.slice none 0 0) 1 24 := TI.mk' Try.underlying23 rfl (by kernel_rfl)
theorem F25_0 : FldOK Try.prog 25 0 0 := ⟨_, _, 0, Try.underlying25, rfl, rfl, by kernel_rfl⟩
theorem F25_1 : FldOK Try.prog 25 1 1 := ⟨_, _, 0, Try.underlying25, rfl, rfl, by kernel_rfl⟩
theorem C22 : Callable Try.prog 22 := ⟨_, Try.func22, by kernel_rfl, by kernel_rfl⟩
end sameBase_okF
open sameBase_okF in
set_option maxHeartbeats 4000000 in
theorem sameBase_ok (ma : Int) (Axs : Option Addr) (nxs cxs : Nat) (xs : List Int) (mb : Int) (Ays : Option Addr) (nys cys : Nat) (ys : List Int) (w : World) (hRxs : RS encI 1 w w.heap.size Axs nxs xs) (hNxs : nxs ≤ 1099511627776) (hRys : RS encI 1 w w.heap.size Ays nys ys) (hNys : nys ≤ 1099511627776) :
    Fn Try.prog 17 [(.agg #[(.int .i64 ma), (.slice Axs nxs cxs)]), (.agg #[(.int .i64 mb), (.slice Ays nys cys)])] w fun v w' => v = .bool (dec (ma = mb ∧ xs = ys)) ∧ Ch [] w w' := by
  have hlenxs := hRxs.len
  have hlenys := hRys.len
  refine fn_of (n := 17) Try.func17 rfl rfl rfl rfl ?_
  have hc : Ch [] w w := Ch.refl _ _
  refine cw_seq fun K1 hK2 => ?_
  refine cw_region fun K3 hK4 => ?_
  refine rw_cons (op_box (w0 rfl) rfl rfl rfl rfl ?_)
  rintro g6 w5 hg9 hg10 hB8 hch7
  have hsz11 := hch7.size
  replace hRxs := hRxs.ch0 hch7
  replace hRys := hRys.ch0 hch7
  replace hc := hc.step0 hch7
  replace hB8 : Blk w5 g6 25 [(.int .i64 ma), (.slice Axs nxs cxs)] := hB8
  refine rw_cons (op_box (w0 rfl) rfl rfl rfl rfl ?_)
  rintro g13 w12 hg16 hg17 hB15 hch14
  have hsz18 := hch14.size
  replace hRxs := hRxs.ch0 hch14
  replace hRys := hRys.ch0 hch14
  replace hB8 := hB8.ch0 hch14
  replace hc := hc.step0 hch14
  replace hB15 : Blk w12 g13 25 [(.int .i64 mb), (.slice Ays nys cys)] := hB15
  refine rw_cons (op_pv (w0 rfl) rfl rfl (pv_assign (v := (.bool false)) rfl rfl) ?_)
  refine rw_nil (hK4 _ _ ?_)
  refine hK2 _ _ ?_
  refine cw_seq fun K19 hK20 => ?_
  refine cw_region fun K21 hK22 => ?_
  refine rw_cons (op_pv (w0 rfl) rfl rfl (pv_fld F25_0 rfl rfl) ?_)
  refine rw_cons (op_lv (w0 rfl) rfl rfl (lv_load T3 rfl rfl (hB8.cellA (i := 0) rfl)) ?_)
  refine rw_cons (op_pv (w0 rfl) rfl rfl (pv_fld F25_0 rfl rfl) ?_)
  refine rw_cons (op_lv (w0 rfl) rfl rfl (lv_load T3 rfl rfl (hB15.cellA (i := 0) rfl)) ?_)
  refine rw_cons (op_pv (w0 rfl) rfl rfl (pv_eql rfl rfl rfl) ?_)
  refine rw_cons (op_pv (w0 rfl) rfl rfl (pv_move (v := (.bool (decide ((ma : Int) = mb)))) rfl rfl) ?_)
  refine rw_split 10 rfl (fun hb23 => ?_) (fun hb23 => ?_)
  · -- yes
    replace hb23 := of_decide_eq_true hb23
    refine rw_cons (op_pv (w1y rfl rfl rfl rfl) rfl rfl (pv_fld F25_1 rfl rfl) ?_)
    refine rw_cons (op_lv (w1y rfl rfl rfl rfl) rfl rfl (lv_load T23 rfl rfl (hB8.cellA (i := 1) rfl)) ?_)
    refine rw_cons (op_pv (w1y rfl rfl rfl rfl) rfl rfl (pv_fld F25_1 rfl rfl) ?_)
    refine rw_cons (op_lv (w1y rfl rfl rfl rfl) rfl rfl (lv_load T23 rfl rfl (hB15.cellA (i := 1) rfl)) ?_)
    refine rw_cons (op_call (w1y rfl rfl rfl rfl) rfl rfl (rc_call C22 rfl rfl) (sameInts_ok _ _ _ _ _ _ xs ys _ (hRxs.more (by omega)) (hRys.more (by omega)) (by omega)) ?_)
    rintro _ w24 ⟨rfl, hch25⟩
    have hsz26 := hch25.size
    replace hRxs := hRxs.ch0 hch25
    replace hRys := hRys.ch0 hch25
    replace hB8 := hB8.ch0 hch25
    replace hB15 := hB15.ch0 hch25
    replace hc := hc.step0 hch25
    refine rw_cons (op_pv (w0 rfl) rfl rfl (pv_pickT (v := (.bool (dec (xs = ys)))) rfl rfl rfl) ?_)
    refine rw_cons (op_pv (w0 rfl) rfl rfl (pv_assign (v := (.bool (dec (xs = ys)))) rfl rfl) ?_)
    refine rw_nil (hK22 _ _ ?_)
    refine hK20 _ _ ?_
    refine cw_ret ?_
    refine fin1 rfl ?_
    exact ⟨(bv (dec_congr ⟨fun h => ⟨by omega, h⟩, fun h => h.2⟩)), hc⟩
  · -- no
    replace hb23 := of_decide_eq_false hb23
    refine rw_cons (op_pass (w1n1 rfl rfl rfl rfl) rfl rfl ?_)
    refine rw_cons (op_pass (w1n1 rfl rfl rfl rfl) rfl rfl ?_)
    refine rw_cons (op_pass (w1n1 rfl rfl rfl rfl) rfl rfl ?_)
    refine rw_cons (op_pass (w1n1 rfl rfl rfl rfl) rfl rfl ?_)
    refine rw_cons (op_pass (w1n1 rfl rfl rfl rfl) rfl rfl ?_)
    refine rw_cons (op_pv (w0 rfl) rfl rfl (pv_pickF (v := (.bool false)) rfl rfl rfl) ?_)
    refine rw_cons (op_pv (w0 rfl) rfl rfl (pv_assign (v := (.bool false)) rfl rfl) ?_)
    refine rw_nil (hK22 _ _ ?_)
    refine hK20 _ _ ?_
    refine cw_ret ?_
    refine fin1 rfl ?_
    exact ⟨(bvf (fun h => by first | omega | exact absurd h.2 (by assumption))), hc⟩
end Go.Proofs.Ytpnenfglogggmaa
