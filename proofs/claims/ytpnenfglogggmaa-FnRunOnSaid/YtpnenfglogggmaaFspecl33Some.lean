/-
  The walk of spec.l33Some, written by program: each line names the law of one operation. Conditions: those of the theorem.
-/
import Derived.Test.YtpnenfglogggmaaProg
import Derived.Test.YtpnenfglogggmaaBase
import Derived.KernelRfl
namespace Go.Proofs.Ytpnenfglogggmaa
open Go Go.RowKit
set_option linter.unusedVariables false
set_option linter.unusedSimpArgs false
namespace l33Some_okF
theorem T3 : TI Try.prog 3 false (.int .i64 0) 1 8 := TI.mk' Try.underlying3 rfl (by kernel_rfl)
end l33Some_okF
open l33Some_okF in
set_option maxHeartbeats 4000000 in
theorem l33Some_ok (Axs : Option Addr) (nxs cxs : Nat) (xs : List Int) (w : World) (hRxs : RS encI 1 w w.heap.size Axs nxs xs) (hNxs : nxs ≤ 1099511627776) :
    Fn Try.prog 30 [(.slice Axs nxs cxs)] w fun v w' => v = .int .i64 (someL xs : Int) ∧ Ch [] w w' := by
  have hlenxs := hRxs.len
  refine fn_of (n := 19) Try.func30 rfl rfl rfl rfl ?_
  have hc : Ch [] w w := Ch.refl _ _
  refine cw_seq fun K1 hK2 => ?_
  refine cw_region fun K3 hK4 => ?_
  refine rw_cons (op_pv (w0 rfl) rfl rfl (pv_assign (v := (.int .i64 0)) rfl rfl) ?_)
  refine rw_nil (hK4 _ _ ?_)
  refine hK2 _ _ ?_
  refine cw_seq fun K5 hK6 => ?_
  refine cw_region fun K7 hK8 => ?_
  refine rw_cons (op_pv (w0 rfl) rfl rfl (pv_assign (v := (.int .i64 0)) rfl rfl) ?_)
  refine rw_nil (hK8 _ _ ?_)
  refine hK6 _ _ ?_
  refine cw_seq fun K9 hK10 => ?_
  refine cw_seq fun K11 hK12 => ?_
  refine cw_region fun K13 hK14 => ?_
  refine rw_cons (op_pv (w0 rfl) rfl rfl (pv_assign (v := (.int .i64 0)) rfl rfl) ?_)
  refine rw_nil (hK14 _ _ ?_)
  refine hK12 _ _ ?_
  refine cw_block ?_
  refine cw_loop (σ := Nat) (fun k => [(3, (.int .i64 (someL (xs.take k) : Int))), (4, (.int .i64 (k : Int))), (0, (.slice Axs nxs cxs)), (2, (.int .i64 0))]) (fun k W => (k ≤ nxs) ∧ RS encI 1 W w.heap.size Axs nxs xs ∧ Ch [] w W) (fun k => nxs - k) 0 ?_ ?_ ?_
  · exact ⟨rfl, rfl, rfl, rfl, trivial⟩
  · refine ⟨Nat.zero_le _, hRxs, hc⟩
  · rintro k J19 w15 ⟨hk, hRxs, hc⟩ K16 hK17
    have hsz21 := hc.size
    have hsl := someL_le (xs.take k); have htl : (xs.take k).length ≤ k := List.length_take_le _ _
    refine cw_seq fun K22 hK23 => ?_
    refine cw_seq fun K24 hK25 => ?_
    refine cw_region fun K26 hK27 => ?_
    refine rw_cons (op_pv (w0 rfl) rfl rfl (pv_move (v := (.int .i64 (k : Int))) rfl rfl) ?_)
    refine rw_cons (op_pv (w0 rfl) rfl rfl (pv_move (v := (.slice Axs nxs cxs)) rfl rfl) ?_)
    refine rw_cons (op_pv (w0 rfl) rfl rfl (pv_len Try.underlying23 rfl rfl) ?_)
    refine rw_cons (op_pv (w0 rfl) rfl rfl (pv_lss rfl rfl rfl) ?_)
    refine rw_nil (hK27 _ _ ?_)
    refine hK25 _ _ ?_
    refine cw_cond rfl (fun h28 => ?_) (fun h28 => ?_)
    · -- then
      replace h28 := of_decide_eq_true h28
      refine cw_skip ?_
      refine hK23 _ _ ?_
      refine cw_seq fun K29 hK30 => ?_
      refine cw_block ?_
      refine cw_seq fun K31 hK32 => ?_
      refine cw_region fun K33 hK34 => ?_
      refine rw_cons (op_pv (w0 rfl) rfl rfl (pv_move (v := (.slice Axs nxs cxs)) rfl rfl) ?_)
      refine rw_cons (op_pv (w0 rfl) rfl rfl (pv_move (v := (.int .i64 (k : Int))) rfl rfl) ?_)
      refine rw_cons (op_pv (w0 rfl) rfl rfl (pv_idx Try.underlying23 T3 rfl rfl rfl (hRxs.some (k := k) (by omega)) (by omega) (by omega)) ?_)
      refine rw_cons (op_lv (w0 rfl) rfl rfl (lv_load T3 rfl rfl (hRxs.cell0 (k := k) (by omega) rfl)) ?_)
      refine rw_cons (op_pv (w0 rfl) rfl rfl (pv_geq rfl rfl rfl) ?_)
      refine rw_nil (hK34 _ _ ?_)
      refine hK32 _ _ ?_
      refine cw_cond rfl (fun h35 => ?_) (fun h35 => ?_)
      · -- then
        replace h35 := of_decide_eq_true h35
        refine cw_region fun K36 hK37 => ?_
        refine rw_cons (op_pv (w0 rfl) rfl rfl (pv_move (v := (.int .i64 (someL (xs.take k) : Int))) rfl rfl) ?_)
        refine rw_cons (op_pv (w0 rfl) rfl rfl (pv_add rfl rfl rfl (by omega) (by omega)) ?_)
        refine rw_cons (op_pv (w0 rfl) rfl rfl (pv_assign (v := (.int .i64 ((someL (xs.take k) : Int) + 1))) rfl rfl) ?_)
        refine rw_nil (hK37 _ _ ?_)
        refine hK30 _ _ ?_
        refine cw_region fun K38 hK39 => ?_
        refine rw_cons (op_pv (w0 rfl) rfl rfl (pv_move (v := (.int .i64 (k : Int))) rfl rfl) ?_)
        refine rw_cons (op_pv (w0 rfl) rfl rfl (pv_add rfl rfl rfl (by omega) (by omega)) ?_)
        refine rw_cons (op_pv (w0 rfl) rfl rfl (pv_assign (v := (.int .i64 ((k : Int) + 1))) rfl rfl) ?_)
        refine rw_nil (hK39 _ _ ?_)
        refine hK17 _ _ (k + 1) ⟨(iv (by rw [someL_yes (xs := xs) (k := k) (by omega) (by omega)]; omega)), (iv (by omega)), rfl, rfl, trivial⟩ ⟨?_, hRxs, hc⟩ ?_
        · omega
        · (first | omega | (simp only []; omega))
      · -- else
        replace h35 := of_decide_eq_false h35
        refine cw_skip ?_
        refine hK30 _ _ ?_
        refine cw_region fun K40 hK41 => ?_
        refine rw_cons (op_pv (w0 rfl) rfl rfl (pv_move (v := (.int .i64 (k : Int))) rfl rfl) ?_)
        refine rw_cons (op_pv (w0 rfl) rfl rfl (pv_add rfl rfl rfl (by omega) (by omega)) ?_)
        refine rw_cons (op_pv (w0 rfl) rfl rfl (pv_assign (v := (.int .i64 ((k : Int) + 1))) rfl rfl) ?_)
        refine rw_nil (hK41 _ _ ?_)
        refine hK17 _ _ (k + 1) ⟨(iv (by rw [someL_no (xs := xs) (k := k) (by omega) (by omega)])), (iv (by omega)), rfl, rfl, trivial⟩ ⟨?_, hRxs, hc⟩ ?_
        · omega
        · (first | omega | (simp only []; omega))
    · -- else
      replace h28 := of_decide_eq_false h28
      refine cw_exit ?_
      refine hK10 _ _ ?_
      refine cw_seq fun K42 hK43 => ?_
      refine cw_region fun K44 hK45 => ?_
      refine rw_cons (op_pv (w0 rfl) rfl rfl (pv_move (v := (.int .i64 (someL (xs.take k) : Int))) rfl rfl) ?_)
      refine rw_cons (op_pv (w0 rfl) rfl rfl (pv_assign (v := (.int .i64 (someL (xs.take k) : Int))) rfl rfl) ?_)
      refine rw_nil (hK45 _ _ ?_)
      refine hK43 _ _ ?_
      refine cw_ret ?_
      refine fin1 rfl ?_
      exact ⟨(iv (by rw [el_take_all xs k (by omega)])), hc⟩
end Go.Proofs.Ytpnenfglogggmaa
