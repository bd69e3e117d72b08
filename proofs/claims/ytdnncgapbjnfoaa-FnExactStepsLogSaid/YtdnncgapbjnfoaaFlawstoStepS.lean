/-
  The walk of laws.toStepS, written by program: each line names the law of one operation. Conditions: those of the theorem.
-/
import Derived.Test.YtdnncgapbjnfoaaProg
import Derived.Test.YtdnncgapbjnfoaaSteps
import Derived.Test.YtdnncgapbjnfoaaFlawstoStep
import Derived.KernelRfl
namespace Go.Proofs.Ytdnncgapbjnfoaa
open Go Go.RowKit
set_option linter.unusedVariables false
set_option linter.unusedSimpArgs false
namespace toStepS_okF
theorem T27 : TI Try.prog 27 true (.agg #[.bool false, .int .i64 0, .int .i64 0]) 3 24 := TI.mk' Try.underlying27 rfl (by kernel_rfl)
theorem T55 : TI Try.prog 55 true (.agg #[.bool false, .int .i64 0, .int .i64 0]) 3 24 := TI.mk' Try.underlying55 rfl (by kernel_rfl)
theorem C33 : Callable Try.prog 33 := ⟨_, Try.func33, by kernel_rfl, by kernel_rfl⟩
end toStepS_okF
open toStepS_okF in
set_option maxHeartbeats 4000000 in
theorem toStepS_ok (A : Option Addr) (n c : Nat) (xs : List Stp) (w : World) (hR : RS encP 3 w w.heap.size A n xs) (hn : n ≤ 1099511627776) :
    Fn Try.prog 18 [(.slice A n c)] w fun v w' => ∃ v1, v = v1 ∧ Own encP 3 w' w.heap.size 27 v1 xs ∧ Ch [] w w' := by
  have hlen := hR.len
  refine fn_of (n := 23) Try.func18 rfl rfl rfl rfl ?_
  have hc : Ch [] w w := Ch.refl _ _
  refine cw_seq fun K1 hK2 => ?_
  refine cw_region fun K3 hK4 => ?_
  refine rw_cons (op_pv (w0 rfl) rfl rfl (pv_assign (v := (.slice none 0 0)) rfl rfl) ?_)
  refine rw_nil (hK4 _ _ ?_)
  refine hK2 _ _ ?_
  refine cw_seq fun K5 hK6 => ?_
  refine cw_region fun K7 hK8 => ?_
  refine rw_cons (op_pv (w0 rfl) rfl rfl (pv_move (v := (.slice A n c)) rfl rfl) ?_)
  refine rw_cons (op_pv (w0 rfl) rfl rfl (pv_len Try.underlying35 rfl rfl) ?_)
  refine rw_cons (op_make (enc := encP) n default Try.underlying23 T27 (fun _ => rfl) rfl (by decide) (w0 rfl) rfl rfl rfl rfl rfl (by omega) (by unfold maxLen; omega) ?_)
  rintro g10 w9 hg13 hg14 hO12 hch11
  have hsz15 := hch11.size
  replace hR := hR.ch0 hch11
  replace hc := hc.step0 hch11
  replace hO12 := hO12.less (b := w.heap.size) (by omega)
  have hub16 := hO12.lt
  refine rw_cons (op_pv (w0 rfl) rfl rfl (pv_assign (v := (.slice (some ⟨g10, 0, none⟩) n n)) rfl rfl) ?_)
  refine rw_nil (hK8 _ _ ?_)
  refine hK6 _ _ ?_
  refine cw_seq fun K17 hK18 => ?_
  refine cw_seq fun K19 hK20 => ?_
  refine cw_region fun K21 hK22 => ?_
  refine rw_cons (op_pv (w0 rfl) rfl rfl (pv_assign (v := (.int .i64 0)) rfl rfl) ?_)
  refine rw_nil (hK22 _ _ ?_)
  refine hK20 _ _ ?_
  refine cw_block ?_
  refine cw_loop (σ := Nat × (List Stp)) (fun ⟨k, ys⟩ => [(4, (.int .i64 (k : Int))), (0, (.slice A n c)), (2, (.slice none 0 0)), (3, (.slice (some ⟨g10, 0, none⟩) n n))]) (fun ⟨k, ys⟩ W => (k ≤ n ∧ ys.length = n ∧ ∀ j, j < k → el ys j = el xs j) ∧ RS encP 3 W w.heap.size A n xs ∧ Own encP 3 W w.heap.size 27 (.slice (some ⟨g10, 0, none⟩) n n) ys ∧ Ch [] w W) (fun ⟨k, ys⟩ => n - k) (0, (List.replicate n default)) ?_ ?_ ?_
  · exact ⟨rfl, rfl, rfl, rfl, trivial⟩
  · refine ⟨⟨Nat.zero_le _, by simp, fun j hj => by omega⟩, hR, (hO12.less (by omega)), hc⟩
  · rintro ⟨k, ys⟩ J27 w23 ⟨⟨hk, hyl, hye⟩, hR, hOut, hc⟩ K24 hK25
    have hsz29 := hc.size
    have hubO := hOut.lt
    refine cw_seq fun K30 hK31 => ?_
    refine cw_seq fun K32 hK33 => ?_
    refine cw_region fun K34 hK35 => ?_
    refine rw_cons (op_pv (w0 rfl) rfl rfl (pv_move (v := (.int .i64 (k : Int))) rfl rfl) ?_)
    refine rw_cons (op_pv (w0 rfl) rfl rfl (pv_move (v := (.slice A n c)) rfl rfl) ?_)
    refine rw_cons (op_pv (w0 rfl) rfl rfl (pv_len Try.underlying35 rfl rfl) ?_)
    refine rw_cons (op_pv (w0 rfl) rfl rfl (pv_lss rfl rfl rfl) ?_)
    refine rw_nil (hK35 _ _ ?_)
    refine hK33 _ _ ?_
    refine cw_cond rfl (fun h36 => ?_) (fun h36 => ?_)
    · -- then
      replace h36 := of_decide_eq_true h36
      refine cw_skip ?_
      refine hK31 _ _ ?_
      refine cw_seq fun K37 hK38 => ?_
      refine cw_block ?_
      refine cw_region fun K39 hK40 => ?_
      refine rw_cons (op_pv (w0 rfl) rfl rfl (pv_move (v := (.slice (some ⟨g10, 0, none⟩) n n)) rfl rfl) ?_)
      refine rw_cons (op_pv (w0 rfl) rfl rfl (pv_move (v := (.int .i64 (k : Int))) rfl rfl) ?_)
      refine rw_cons (op_pv (w0 rfl) rfl rfl (pv_move (v := (.slice A n c)) rfl rfl) ?_)
      refine rw_cons (op_pv (w0 rfl) rfl rfl (pv_move (v := (.int .i64 (k : Int))) rfl rfl) ?_)
      refine rw_cons (op_pv (w0 rfl) rfl rfl (pv_idx Try.underlying35 T55 rfl rfl rfl (hR.some (k := k) (by omega)) (by omega) (by omega)) ?_)
      refine rw_cons (op_lv (w0 rfl) rfl rfl (lv_loadN T55 rfl rfl rfl (fun j v hv => hR.cellE (k := k) (by omega) hv)) ?_)
      refine rw_cons (op_call (w0 rfl) rfl rfl (rc_call C33 rfl rfl) (toStep_ok (el xs k).r (el xs k).k (el xs k).v _) ?_)
      rintro _ w41 ⟨rfl, hch42⟩
      have hsz43 := hch42.size
      replace hR := hR.ch0 hch42
      replace hOut := hOut.ch0 hch42
      replace hc := hc.step0 hch42
      refine rw_cons (op_pv (w0 rfl) rfl rfl (pv_idx Try.underlying23 T27 rfl rfl rfl ((hOut.rs (fun _ => rfl)).some (k := k) (by omega)) (by omega) (by omega)) ?_)
      refine rw_cons (op_store_ownA (k := k) (off := 0) (⟨(el xs k).r, (el xs k).k, (el xs k).v⟩) T27 hOut (fun _ => rfl) (w0 rfl) rfl rfl rfl rfl rfl (one_all rfl) (by omega) (Nat.le_of_ble_eq_true rfl) rfl ?_)
      rintro w44 hO46 hch45
      have hsz47 := hch45.size
      replace hR := hR.ch hch45 (hOut.off.le (by omega))
      replace hc := (hOut.off.le (by omega)).step hc hch45
      clear hOut; have hOut := hO46; clear hO46
      refine rw_nil (hK40 _ _ ?_)
      refine hK38 _ _ ?_
      refine cw_region fun K48 hK49 => ?_
      refine rw_cons (op_pv (w0 rfl) rfl rfl (pv_move (v := (.int .i64 (k : Int))) rfl rfl) ?_)
      refine rw_cons (op_pv (w0 rfl) rfl rfl (pv_add rfl rfl rfl (by omega) (by omega)) ?_)
      refine rw_cons (op_pv (w0 rfl) rfl rfl (pv_assign (v := (.int .i64 ((k : Int) + 1))) rfl rfl) ?_)
      refine rw_nil (hK49 _ _ ?_)
      refine hK25 _ _ (k + 1, (ys.set k (⟨(el xs k).r, (el xs k).k, (el xs k).v⟩))) ⟨(iv (by omega)), rfl, rfl, rfl, trivial⟩ ⟨?_, hR, hOut, hc⟩ ?_
      · refine ⟨by omega, by simp; omega, fun j hj => ?_⟩
        rw [el_set _ _ _ _ (by omega)]
        by_cases hjk : j = k
        · subst hjk; rw [if_pos rfl]
        · rw [if_neg hjk]; exact hye j (by omega)
      · (first | omega | (simp only []; omega))
    · -- else
      replace h36 := of_decide_eq_false h36
      refine cw_exit ?_
      refine hK18 _ _ ?_
      refine cw_seq fun K50 hK51 => ?_
      refine cw_region fun K52 hK53 => ?_
      refine rw_cons (op_pv (w0 rfl) rfl rfl (pv_move (v := (.slice (some ⟨g10, 0, none⟩) n n)) rfl rfl) ?_)
      refine rw_cons (op_pv (w0 rfl) rfl rfl (pv_assign (v := (.slice (some ⟨g10, 0, none⟩) n n)) rfl rfl) ?_)
      refine rw_nil (hK53 _ _ ?_)
      refine hK51 _ _ ?_
      refine cw_ret ?_
      refine fin1 rfl ?_
      have hxy : ys = xs := eq_of_el (by omega) (fun j hj => hye j (by omega))
      subst hxy
      exact ⟨_, rfl, hOut.less (by omega), hc⟩
end Go.Proofs.Ytdnncgapbjnfoaa
