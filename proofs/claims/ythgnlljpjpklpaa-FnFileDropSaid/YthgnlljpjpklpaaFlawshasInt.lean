/-
  The walk of laws.hasInt, written by program: each line names the law of one operation. Conditions: those of the theorem.
-/
import Derived.Test.YthgnlljpjpklpaaProg
import Derived.Test.YthgnlljpjpklpaaBeats
import Derived.KernelRfl
namespace Go.Proofs.Ythgnlljpjpklpaa
open Go Go.RowKit
set_option linter.unusedVariables false
set_option linter.unusedSimpArgs false
namespace hasInt_okF
theorem T3 : TI Try.prog 3 false (.int .i64 0) 1 8 := TI.mk' Try.underlying3 rfl (by kernel_rfl)
end hasInt_okF
open hasInt_okF in
set_option maxHeartbeats 4000000 in
theorem hasInt_ok (Axs : Option Addr) (nxs cxs : Nat) (xs : List Int) (y : Int) (w : World) (hRxs : RS encI 1 w w.heap.size Axs nxs xs) (hNxs : nxs ≤ 1099511627776) :
    Fn Try.prog 41 [(.slice Axs nxs cxs), (.int .i64 y)] w fun v w' => v = .bool (dec (y ∈ xs)) ∧ Ch [] w w' := by
  have hlenxs := hRxs.len
  refine fn_of (n := 18) Try.func41 rfl rfl rfl rfl ?_
  have hc : Ch [] w w := Ch.refl _ _
  refine cw_seq fun K1 hK2 => ?_
  refine cw_region fun K3 hK4 => ?_
  refine rw_cons (op_pv (w0 rfl) rfl rfl (pv_assign (v := (.bool false)) rfl rfl) ?_)
  refine rw_nil (hK4 _ _ ?_)
  refine hK2 _ _ ?_
  refine cw_seq fun K5 hK6 => ?_
  refine cw_seq fun K7 hK8 => ?_
  refine cw_region fun K9 hK10 => ?_
  refine rw_cons (op_pv (w0 rfl) rfl rfl (pv_assign (v := (.int .i64 0)) rfl rfl) ?_)
  refine rw_nil (hK10 _ _ ?_)
  refine hK8 _ _ ?_
  refine cw_block ?_
  refine cw_loop (σ := Nat) (fun k => [(5, (.int .i64 (k : Int))), (0, (.slice Axs nxs cxs)), (1, (.int .i64 y))]) (fun k W => (k ≤ nxs ∧ ∀ j, j < k → el xs j ≠ y) ∧ RS encI 1 W w.heap.size Axs nxs xs ∧ Ch [] w W) (fun k => nxs - k) 0 ?_ ?_ ?_
  · exact ⟨rfl, rfl, rfl, trivial⟩
  · refine ⟨⟨Nat.zero_le _, fun j hj => by omega⟩, hRxs, hc⟩
  · rintro k J15 w11 ⟨⟨hk, hye⟩, hRxs, hc⟩ K12 hK13
    have hsz17 := hc.size
    refine cw_seq fun K18 hK19 => ?_
    refine cw_seq fun K20 hK21 => ?_
    refine cw_region fun K22 hK23 => ?_
    refine rw_cons (op_pv (w0 rfl) rfl rfl (pv_move (v := (.int .i64 (k : Int))) rfl rfl) ?_)
    refine rw_cons (op_pv (w0 rfl) rfl rfl (pv_move (v := (.slice Axs nxs cxs)) rfl rfl) ?_)
    refine rw_cons (op_pv (w0 rfl) rfl rfl (pv_len Try.underlying25 rfl rfl) ?_)
    refine rw_cons (op_pv (w0 rfl) rfl rfl (pv_lss rfl rfl rfl) ?_)
    refine rw_nil (hK23 _ _ ?_)
    refine hK21 _ _ ?_
    refine cw_cond rfl (fun h24 => ?_) (fun h24 => ?_)
    · -- then
      replace h24 := of_decide_eq_true h24
      refine cw_skip ?_
      refine hK19 _ _ ?_
      refine cw_seq fun K25 hK26 => ?_
      refine cw_block ?_
      refine cw_seq fun K27 hK28 => ?_
      refine cw_region fun K29 hK30 => ?_
      refine rw_cons (op_pv (w0 rfl) rfl rfl (pv_move (v := (.slice Axs nxs cxs)) rfl rfl) ?_)
      refine rw_cons (op_pv (w0 rfl) rfl rfl (pv_move (v := (.int .i64 (k : Int))) rfl rfl) ?_)
      refine rw_cons (op_pv (w0 rfl) rfl rfl (pv_idx Try.underlying25 T3 rfl rfl rfl (hRxs.some (k := k) (by omega)) (by omega) (by omega)) ?_)
      refine rw_cons (op_lv (w0 rfl) rfl rfl (lv_load T3 rfl rfl (hRxs.cell0 (k := k) (by omega) rfl)) ?_)
      refine rw_cons (op_pv (w0 rfl) rfl rfl (pv_move (v := (.int .i64 y)) rfl rfl) ?_)
      refine rw_cons (op_pv (w0 rfl) rfl rfl (pv_eql rfl rfl rfl) ?_)
      refine rw_nil (hK30 _ _ ?_)
      refine hK28 _ _ ?_
      refine cw_cond rfl (fun h31 => ?_) (fun h31 => ?_)
      · -- then
        replace h31 := of_decide_eq_true h31
        refine cw_seq fun K32 hK33 => ?_
        refine cw_region fun K34 hK35 => ?_
        refine rw_cons (op_pv (w0 rfl) rfl rfl (pv_assign (v := (.bool true)) rfl rfl) ?_)
        refine rw_nil (hK35 _ _ ?_)
        refine hK33 _ _ ?_
        refine cw_ret ?_
        refine fin1 rfl ?_
        exact ⟨(bvt (mem_el.2 ⟨k, by omega, by assumption⟩)), hc⟩
      · -- else
        replace h31 := of_decide_eq_false h31
        refine cw_skip ?_
        refine hK26 _ _ ?_
        refine cw_region fun K36 hK37 => ?_
        refine rw_cons (op_pv (w0 rfl) rfl rfl (pv_move (v := (.int .i64 (k : Int))) rfl rfl) ?_)
        refine rw_cons (op_pv (w0 rfl) rfl rfl (pv_add rfl rfl rfl (by omega) (by omega)) ?_)
        refine rw_cons (op_pv (w0 rfl) rfl rfl (pv_assign (v := (.int .i64 ((k : Int) + 1))) rfl rfl) ?_)
        refine rw_nil (hK37 _ _ ?_)
        refine hK13 _ _ (k + 1) ⟨(iv (by omega)), rfl, rfl, trivial⟩ ⟨?_, hRxs, hc⟩ ?_
        · refine ⟨by omega, fun j hj => ?_⟩
          by_cases hjk : j = k
          · subst hjk; assumption
          · exact hye j (by omega)
        · (first | omega | (simp only []; omega))
    · -- else
      replace h24 := of_decide_eq_false h24
      refine cw_exit ?_
      refine hK6 _ _ ?_
      refine cw_seq fun K38 hK39 => ?_
      refine cw_region fun K40 hK41 => ?_
      refine rw_cons (op_pv (w0 rfl) rfl rfl (pv_assign (v := (.bool false)) rfl rfl) ?_)
      refine rw_nil (hK41 _ _ ?_)
      refine hK39 _ _ ?_
      refine cw_ret ?_
      refine fin1 rfl ?_
      exact ⟨(bvf (fun h => by obtain ⟨j, hj, he⟩ := mem_el.1 h; exact hye j (by omega) he)), hc⟩
end Go.Proofs.Ythgnlljpjpklpaa
