/-
  The walk of impl.StateValid, written by program: each line names the law of one operation. Conditions: those of the theorem.
-/
import Derived.Test.YtpnenfglogggmaaProg
import Derived.Test.YtpnenfglogggmaaBase
import Derived.KernelRfl
namespace Go.Proofs.Ytpnenfglogggmaa
open Go Go.RowKit
set_option linter.unusedVariables false
set_option linter.unusedSimpArgs false
namespace StateValid_iF
theorem T3 : TI Try.prog 3 false (.int .i64 0) 1 8 := TI.mk' Try.underlying3 rfl (by kernel_rfl)
end StateValid_iF
open StateValid_iF in
set_option maxHeartbeats 4000000 in
theorem StateValid_i (A : Option Addr) (n c : Nat) (xs : List Int) (w : World) (hR : RS encI 1 w w.heap.size A n xs) (hn : n ≤ 1099511627776) :
    Fn Try.prog 27 [(.slice A n c)] w fun v w' => v = .bool (dec (StateOK xs)) ∧ Ch [] w w' := by
  have hlen := hR.len
  refine fn_of (n := 21) Try.func27 rfl rfl rfl rfl ?_
  have hc : Ch [] w w := Ch.refl _ _
  refine cw_seq fun K1 hK2 => ?_
  refine cw_region fun K3 hK4 => ?_
  refine rw_cons (op_pv (w0 rfl) rfl rfl (pv_assign (v := (.bool false)) rfl rfl) ?_)
  refine rw_nil (hK4 _ _ ?_)
  refine hK2 _ _ ?_
  refine cw_seq fun K5 hK6 => ?_
  refine cw_seq fun K7 hK8 => ?_
  refine cw_region fun K9 hK10 => ?_
  refine rw_cons (op_pv (w0 rfl) rfl rfl (pv_move (v := (.slice A n c)) rfl rfl) ?_)
  refine rw_cons (op_pv (w0 rfl) rfl rfl (pv_len Try.underlying23 rfl rfl) ?_)
  refine rw_cons (op_pv (w0 rfl) rfl rfl (pv_neq rfl rfl rfl) ?_)
  refine rw_nil (hK10 _ _ ?_)
  refine hK8 _ _ ?_
  refine cw_cond rfl (fun h11 => ?_) (fun h11 => ?_)
  · -- then
    replace h11 := of_decide_eq_true h11
    refine cw_seq fun K12 hK13 => ?_
    refine cw_region fun K14 hK15 => ?_
    refine rw_cons (op_pv (w0 rfl) rfl rfl (pv_assign (v := (.bool false)) rfl rfl) ?_)
    refine rw_nil (hK15 _ _ ?_)
    refine hK13 _ _ ?_
    refine cw_ret ?_
    refine fin1 rfl ?_
    exact ⟨bvf (fun h => by have := h.1; omega), hc⟩
  · -- else
    replace h11 := of_decide_eq_false h11
    refine cw_skip ?_
    refine hK6 _ _ ?_
    refine cw_seq fun K16 hK17 => ?_
    refine cw_seq fun K18 hK19 => ?_
    refine cw_region fun K20 hK21 => ?_
    refine rw_cons (op_pv (w0 rfl) rfl rfl (pv_move (v := (.slice A n c)) rfl rfl) ?_)
    refine rw_cons (op_pv (w0 rfl) rfl rfl (pv_len Try.underlying23 rfl rfl) ?_)
    refine rw_cons (op_pv (w0 rfl) rfl rfl (pv_move (v := (.int .i64 0)) rfl rfl) ?_)
    refine rw_nil (hK21 _ _ ?_)
    refine hK19 _ _ ?_
    refine cw_block ?_
    refine cw_loop (σ := Nat) (fun k => [(10, (.int .i64 (k : Int))), (8, (.slice A n c)), (9, (.int .i64 (n : Int)))]) (fun k W => (k ≤ n ∧ ∀ j, j < k → -1 ≤ el xs j ∧ el xs j ≤ 99) ∧ RS encI 1 W w.heap.size A n xs ∧ Ch [] w W) (fun k => n - k) 0 ?_ ?_ ?_
    · exact ⟨rfl, rfl, rfl, trivial⟩
    · refine ⟨⟨Nat.zero_le _, fun j hj => by omega⟩, hR, hc⟩
    · rintro k J26 w22 ⟨⟨hk, hye⟩, hR, hc⟩ K23 hK24
      have hsz28 := hc.size
      refine cw_seq fun K29 hK30 => ?_
      refine cw_region fun K31 hK32 => ?_
      refine rw_cons (op_pv (w0 rfl) rfl rfl (pv_lss rfl rfl rfl) ?_)
      refine rw_nil (hK32 _ _ ?_)
      refine hK30 _ _ ?_
      refine cw_seq fun K33 hK34 => ?_
      refine cw_cond rfl (fun h35 => ?_) (fun h35 => ?_)
      · -- then
        replace h35 := of_decide_eq_true h35
        refine cw_skip ?_
        refine hK34 _ _ ?_
        refine cw_seq fun K36 hK37 => ?_
        refine cw_block ?_
        refine cw_seq fun K38 hK39 => ?_
        refine cw_region fun K40 hK41 => ?_
        refine rw_cons (op_pv (w0 rfl) rfl rfl (pv_idx Try.underlying23 T3 rfl rfl rfl (hR.some (k := k) (by omega)) (by omega) (by omega)) ?_)
        refine rw_cons (op_lv (w0 rfl) rfl rfl (lv_load T3 rfl rfl (hR.cell0 (k := k) (by omega) rfl)) ?_)
        refine rw_cons (op_pv (w0 rfl) rfl rfl (pv_assign (v := (.int .i64 (el xs k))) rfl rfl) ?_)
        refine rw_nil (hK41 _ _ ?_)
        refine hK39 _ _ ?_
        refine cw_seq fun K42 hK43 => ?_
        refine cw_region fun K44 hK45 => ?_
        refine rw_cons (op_pv (w0 rfl) rfl rfl (pv_move (v := (.int .i64 (el xs k))) rfl rfl) ?_)
        refine rw_cons (op_pv (w0 rfl) rfl rfl (pv_lss rfl rfl rfl) ?_)
        refine rw_cons (op_pv (w0 rfl) rfl rfl (pv_move (v := (.bool (decide ((el xs k) < (-1))))) rfl rfl) ?_)
        refine rw_split 16 rfl (fun hb46 => ?_) (fun hb46 => ?_)
        · -- yes
          replace hb46 := of_decide_eq_true hb46
          refine rw_cons (op_pass (w1n2 rfl rfl rfl rfl) rfl rfl ?_)
          refine rw_cons (op_pass (w1n2 rfl rfl rfl rfl) rfl rfl ?_)
          refine rw_cons (op_pv (w0 rfl) rfl rfl (pv_pickT (v := (.bool true)) rfl rfl rfl) ?_)
          refine rw_nil (hK45 _ _ ?_)
          refine hK43 _ _ ?_
          refine cw_cond rfl (fun h47 => ?_) (fun h47 => ?_)
          · -- then
            clear h47
            refine cw_seq fun K48 hK49 => ?_
            refine cw_region fun K50 hK51 => ?_
            refine rw_cons (op_pv (w0 rfl) rfl rfl (pv_assign (v := (.bool false)) rfl rfl) ?_)
            refine rw_nil (hK51 _ _ ?_)
            refine hK49 _ _ ?_
            refine cw_ret ?_
            refine fin1 rfl ?_
            exact ⟨bvf (fun h => by have := h.2 k (by omega); omega), hc⟩
          · -- else
            cases h47
        · -- no
          replace hb46 := of_decide_eq_false hb46
          refine rw_cons (op_pv (w1y rfl rfl rfl rfl) rfl rfl (pv_move (v := (.int .i64 (el xs k))) rfl rfl) ?_)
          refine rw_cons (op_pv (w1y rfl rfl rfl rfl) rfl rfl (pv_gtr rfl rfl rfl) ?_)
          refine rw_cons (op_pv (w0 rfl) rfl rfl (pv_pickF (v := (.bool (decide (99 < (el xs k))))) rfl rfl rfl) ?_)
          refine rw_nil (hK45 _ _ ?_)
          refine hK43 _ _ ?_
          refine cw_cond rfl (fun h52 => ?_) (fun h52 => ?_)
          · -- then
            replace h52 := of_decide_eq_true h52
            refine cw_seq fun K53 hK54 => ?_
            refine cw_region fun K55 hK56 => ?_
            refine rw_cons (op_pv (w0 rfl) rfl rfl (pv_assign (v := (.bool false)) rfl rfl) ?_)
            refine rw_nil (hK56 _ _ ?_)
            refine hK54 _ _ ?_
            refine cw_ret ?_
            refine fin1 rfl ?_
            exact ⟨bvf (fun h => by have := h.2 k (by omega); omega), hc⟩
          · -- else
            replace h52 := of_decide_eq_false h52
            refine cw_skip ?_
            refine hK37 _ _ ?_
            refine cw_region fun K57 hK58 => ?_
            refine rw_cons (op_pv (w0 rfl) rfl rfl (pv_add rfl rfl rfl (by omega) (by omega)) ?_)
            refine rw_cons (op_pv (w0 rfl) rfl rfl (pv_move (v := (.int .i64 ((k : Int) + 1))) rfl rfl) ?_)
            refine rw_nil (hK58 _ _ ?_)
            refine hK24 _ _ (k + 1) ⟨(iv (by omega)), rfl, rfl, trivial⟩ ⟨?_, hR, hc⟩ ?_
            · refine ⟨by omega, fun j hj => ?_⟩
              by_cases hjk : j = k
              · subst hjk; first | omega | assumption
              · exact hye j (by omega)
            · (first | omega | (simp only []; omega))
      · -- else
        replace h35 := of_decide_eq_false h35
        refine cw_exit ?_
        refine hK17 _ _ ?_
        refine cw_seq fun K59 hK60 => ?_
        refine cw_region fun K61 hK62 => ?_
        refine rw_cons (op_pv (w0 rfl) rfl rfl (pv_assign (v := (.bool true)) rfl rfl) ?_)
        refine rw_nil (hK62 _ _ ?_)
        refine hK60 _ _ ?_
        refine cw_ret ?_
        refine fin1 rfl ?_
        exact ⟨bvt ⟨by omega, fun j hj => hye j (by omega)⟩, hc⟩
end Go.Proofs.Ytpnenfglogggmaa
