/-
  The walk of spec.LogValid, written by program: each line names the law of one operation. Conditions: those of the theorem.
-/
import Derived.Test.YtpnenfglogggmaaProg
import Derived.Test.YtpnenfglogggmaaBase
import Derived.Test.YtpnenfglogggmaaFspecUpdateValid
import Derived.KernelRfl
namespace Go.Proofs.Ytpnenfglogggmaa
open Go Go.RowKit
set_option linter.unusedVariables false
set_option linter.unusedSimpArgs false
namespace LogValid_sF
theorem T65 : TI Try.prog 65 true (.agg #[.int .i64 0, .int .i64 0]) 2 16 := TI.mk' Try.underlying65 rfl (by kernel_rfl)
theorem C52 : Callable Try.prog 52 := ⟨_, Try.func52, by kernel_rfl, by kernel_rfl⟩
end LogValid_sF
open LogValid_sF in
set_option maxHeartbeats 4000000 in
theorem LogValid_s (A : Option Addr) (n c : Nat) (xs : List Bt) (w : World) (hR : RS encB 2 w w.heap.size A n xs) (hn : n ≤ 1099511627776) :
    Fn Try.prog 41 [(.slice A n c)] w fun v w' => v = .bool (dec (LogOK xs)) ∧ Ch [] w w' := by
  have hlen := hR.len
  refine fn_of (n := 19) Try.func41 rfl rfl rfl rfl ?_
  have hc : Ch [] w w := Ch.refl _ _
  refine cw_seq fun K1 hK2 => ?_
  refine cw_region fun K3 hK4 => ?_
  refine rw_cons (op_pv (w0 rfl) rfl rfl (pv_assign (v := (.bool false)) rfl rfl) ?_)
  refine rw_nil (hK4 _ _ ?_)
  refine hK2 _ _ ?_
  refine cw_seq fun K5 hK6 => ?_
  refine cw_seq fun K7 hK8 => ?_
  refine cw_region fun K9 hK10 => ?_
  refine rw_cons (op_pv (w0 rfl) rfl rfl (pv_assign (v := (.int .i64 0)) rfl rfl) ?_)
  refine rw_nil (hK10 _ _ ?_)
  refine hK8 _ _ ?_
  refine cw_block ?_
  refine cw_loop (σ := Nat) (fun k => [(3, (.int .i64 (k : Int))), (0, (.slice A n c))]) (fun k W => (k ≤ n ∧ ∀ j, j < k → ((0 ≤ (el xs j).s ∧ (el xs j).s ≤ 4) ∧ (0 ≤ (el xs j).a ∧ (el xs j).a ≤ 99))) ∧ RS encB 2 W w.heap.size A n xs ∧ Ch [] w W) (fun k => n - k) 0 ?_ ?_ ?_
  · exact ⟨rfl, rfl, trivial⟩
  · refine ⟨⟨Nat.zero_le _, fun j hj => by omega⟩, hR, hc⟩
  · rintro k J15 w11 ⟨⟨hk, hye⟩, hR, hc⟩ K12 hK13
    have hsz17 := hc.size
    refine cw_seq fun K18 hK19 => ?_
    refine cw_seq fun K20 hK21 => ?_
    refine cw_region fun K22 hK23 => ?_
    refine rw_cons (op_pv (w0 rfl) rfl rfl (pv_move (v := (.int .i64 (k : Int))) rfl rfl) ?_)
    refine rw_cons (op_pv (w0 rfl) rfl rfl (pv_move (v := (.slice A n c)) rfl rfl) ?_)
    refine rw_cons (op_pv (w0 rfl) rfl rfl (pv_len Try.underlying34 rfl rfl) ?_)
    refine rw_cons (op_pv (w0 rfl) rfl rfl (pv_lss rfl rfl rfl) ?_)
    refine rw_nil (hK23 _ _ ?_)
    refine hK21 _ _ ?_
    refine cw_cond rfl (fun h24 => ?_) (fun h24 => ?_)
    · -- then
      replace h24 := of_decide_eq_true h24
      refine cw_skip ?_
      refine hK19 _ _ ?_
      refine cw_seq fun K25 hK26 => ?_
      refine cw_block ?_
      refine cw_seq fun K27 hK28 => ?_
      refine cw_region fun K29 hK30 => ?_
      refine rw_cons (op_pv (w0 rfl) rfl rfl (pv_move (v := (.slice A n c)) rfl rfl) ?_)
      refine rw_cons (op_pv (w0 rfl) rfl rfl (pv_move (v := (.int .i64 (k : Int))) rfl rfl) ?_)
      refine rw_cons (op_pv (w0 rfl) rfl rfl (pv_idx Try.underlying34 T65 rfl rfl rfl (hR.some (k := k) (by omega)) (by omega) (by omega)) ?_)
      refine rw_cons (op_lv (w0 rfl) rfl rfl (lv_loadN T65 rfl rfl rfl (fun j v hv => hR.cellE (k := k) (by omega) hv)) ?_)
      refine rw_cons (op_call (w0 rfl) rfl rfl (rc_call C52 rfl rfl) (updateValid_s (el xs k).s (el xs k).a _ ) ?_)
      rintro _ w31 ⟨rfl, hch32⟩
      have hsz33 := hch32.size
      replace hR := hR.ch0 hch32
      replace hc := hc.step0 hch32
      refine rw_cons (op_pv (w0 rfl) rfl rfl (pv_not rfl rfl) ?_)
      refine rw_nil (hK30 _ _ ?_)
      refine hK28 _ _ ?_
      refine cw_cond rfl (fun h34 => ?_) (fun h34 => ?_)
      · -- then
        replace h34 := not_t h34
        replace h34 := dec_f h34
        refine cw_seq fun K35 hK36 => ?_
        refine cw_region fun K37 hK38 => ?_
        refine rw_cons (op_pv (w0 rfl) rfl rfl (pv_assign (v := (.bool false)) rfl rfl) ?_)
        refine rw_nil (hK38 _ _ ?_)
        refine hK36 _ _ ?_
        refine cw_ret ?_
        refine fin1 rfl ?_
        exact ⟨bvf (fun h => by have := h.2 k (by omega); omega), hc⟩
      · -- else
        replace h34 := not_f h34
        replace h34 := dec_t h34
        refine cw_skip ?_
        refine hK26 _ _ ?_
        refine cw_region fun K39 hK40 => ?_
        refine rw_cons (op_pv (w0 rfl) rfl rfl (pv_move (v := (.int .i64 (k : Int))) rfl rfl) ?_)
        refine rw_cons (op_pv (w0 rfl) rfl rfl (pv_add rfl rfl rfl (by omega) (by omega)) ?_)
        refine rw_cons (op_pv (w0 rfl) rfl rfl (pv_assign (v := (.int .i64 ((k : Int) + 1))) rfl rfl) ?_)
        refine rw_nil (hK40 _ _ ?_)
        refine hK13 _ _ (k + 1) ⟨(iv (by omega)), rfl, trivial⟩ ⟨?_, hR, hc⟩ ?_
        · refine ⟨by omega, fun j hj => ?_⟩
          by_cases hjk : j = k
          · subst hjk; first | omega | assumption
          · exact hye j (by omega)
        · (first | omega | (simp only []; omega))
    · -- else
      replace h24 := of_decide_eq_false h24
      refine cw_exit ?_
      refine hK6 _ _ ?_
      refine cw_seq fun K41 hK42 => ?_
      refine cw_region fun K43 hK44 => ?_
      refine rw_cons (op_pv (w0 rfl) rfl rfl (pv_move (v := (.slice A n c)) rfl rfl) ?_)
      refine rw_cons (op_pv (w0 rfl) rfl rfl (pv_len Try.underlying34 rfl rfl) ?_)
      refine rw_cons (op_pv (w0 rfl) rfl rfl (pv_leq rfl rfl rfl) ?_)
      refine rw_cons (op_pv (w0 rfl) rfl rfl (pv_assign (v := (.bool (decide ((n : Int) ≤ 12)))) rfl rfl) ?_)
      refine rw_nil (hK44 _ _ ?_)
      refine hK42 _ _ ?_
      refine cw_ret ?_
      refine fin1 rfl ?_
      exact ⟨bv (dec_dec ⟨fun h => ⟨by omega, fun j hj => hye j (by omega)⟩, fun h => by have := h.1; omega⟩), hc⟩
end Go.Proofs.Ytpnenfglogggmaa
