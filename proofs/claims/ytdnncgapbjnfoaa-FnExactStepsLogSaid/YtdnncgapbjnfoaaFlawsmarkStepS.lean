/-
  The walk of laws.markStepS, written by program: each line names the law of one operation. Conditions: those of the theorem.
-/
import Derived.Test.YtdnncgapbjnfoaaProg
import Derived.Test.YtdnncgapbjnfoaaSteps
import Derived.KernelRfl
namespace Go.Proofs.Ytdnncgapbjnfoaa
open Go Go.RowKit
set_option linter.unusedVariables false
set_option linter.unusedSimpArgs false
namespace markStepS_okF
theorem T3 : TI Try.prog 3 false (.int .i64 0) 1 8 := TI.mk' Try.underlying3 rfl (by kernel_rfl)
theorem T4 : TI Try.prog 4 false (.bool false) 1 1 := TI.mk' Try.underlying4 rfl (by kernel_rfl)
theorem T27 : TI Try.prog 27 true (.agg #[.bool false, .int .i64 0, .int .i64 0]) 3 24 := TI.mk' Try.underlying27 rfl (by kernel_rfl)
theorem F27_0 : FldOK Try.prog 27 0 0 := ⟨_, _, 0, Try.underlying27, rfl, rfl, by kernel_rfl⟩
theorem F27_1 : FldOK Try.prog 27 1 1 := ⟨_, _, 0, Try.underlying27, rfl, rfl, by kernel_rfl⟩
theorem F27_2 : FldOK Try.prog 27 2 2 := ⟨_, _, 0, Try.underlying27, rfl, rfl, by kernel_rfl⟩
end markStepS_okF
open markStepS_okF in
set_option maxHeartbeats 4000000 in
theorem markStepS_ok (A : Option Addr) (n c base : Nat) (xs : List Stp) (m : Int) (w : World) (hO : Own encP 3 w base 27 (.slice A n c) xs) (hb : base ≤ w.heap.size) (hm0 : 0 ≤ m) (hm : m ≤ 1099511627776) (hn : n ≤ 1099511627776) :
    Fn Try.prog 21 [(.slice A n c), (.int .i64 m)] w fun v w' => ∃ ys : List Stp, ys.length = n ∧ v = .int .i64 (m + 3 * n) ∧ Own encP 3 w' base 27 (.slice A n c) ys ∧ Ch (obl (.slice A n c)) w w' := by
  have hub := hO.lt
  have hlen := hO.le.2.2
  refine fn_of (n := 36) Try.func21 rfl rfl rfl rfl ?_
  have hc : Ch (obl (.slice A n c)) w w := Ch.refl _ _
  refine cw_seq fun K1 hK2 => ?_
  refine cw_region fun K3 hK4 => ?_
  refine rw_cons (op_pv (w0 rfl) rfl rfl (pv_assign (v := (.int .i64 0)) rfl rfl) ?_)
  refine rw_nil (hK4 _ _ ?_)
  refine hK2 _ _ ?_
  refine cw_seq fun K5 hK6 => ?_
  refine cw_seq fun K7 hK8 => ?_
  refine cw_region fun K9 hK10 => ?_
  refine rw_cons (op_pv (w0 rfl) rfl rfl (pv_assign (v := (.int .i64 0)) rfl rfl) ?_)
  refine rw_nil (hK10 _ _ ?_)
  refine hK8 _ _ ?_
  refine cw_block ?_
  refine cw_loop (σ := Nat × (List Stp)) (fun ⟨k, ys⟩ => [(1, (.int .i64 (m + 3 * (k : Int)))), (5, (.int .i64 (k : Int))), (0, (.slice A n c)), (4, (.int .i64 0))]) (fun ⟨k, ys⟩ W => (k ≤ n ∧ ys.length = n) ∧ Own encP 3 W base 27 (.slice A n c) ys ∧ Ch (obl (.slice A n c)) w W) (fun ⟨k, ys⟩ => n - k) (0, xs) ?_ ?_ ?_
  · exact ⟨(iv (by omega)), rfl, rfl, rfl, trivial⟩
  · refine ⟨⟨Nat.zero_le _, by omega⟩, hO.less (by omega), hc⟩
  · rintro ⟨k, ys⟩ J15 w11 ⟨⟨hk, hyl⟩, hO, hc⟩ K12 hK13
    have hsz17 := hc.size
    have hub := hO.lt
    refine cw_seq fun K18 hK19 => ?_
    refine cw_seq fun K20 hK21 => ?_
    refine cw_region fun K22 hK23 => ?_
    refine rw_cons (op_pv (w0 rfl) rfl rfl (pv_move (v := (.int .i64 (k : Int))) rfl rfl) ?_)
    refine rw_cons (op_pv (w0 rfl) rfl rfl (pv_move (v := (.slice A n c)) rfl rfl) ?_)
    refine rw_cons (op_pv (w0 rfl) rfl rfl (pv_len Try.underlying23 rfl rfl) ?_)
    refine rw_cons (op_pv (w0 rfl) rfl rfl (pv_lss rfl rfl rfl) ?_)
    refine rw_nil (hK23 _ _ ?_)
    refine hK21 _ _ ?_
    refine cw_cond rfl (fun h24 => ?_) (fun h24 => ?_)
    · -- then
      replace h24 := of_decide_eq_true h24
      refine cw_skip ?_
      refine hK19 _ _ ?_
      refine cw_seq fun K25 hK26 => ?_
      refine cw_block ?_
      refine cw_seq fun K27 hK28 => ?_
      refine cw_region fun K29 hK30 => ?_
      refine rw_cons (op_pv (w0 rfl) rfl rfl (pv_move (v := (.slice A n c)) rfl rfl) ?_)
      refine rw_cons (op_pv (w0 rfl) rfl rfl (pv_move (v := (.int .i64 (k : Int))) rfl rfl) ?_)
      refine rw_cons (op_pv (w0 rfl) rfl rfl (pv_move (v := (.int .i64 (m + 3 * (k : Int)))) rfl rfl) ?_)
      refine rw_cons (op_pv (w0 rfl) rfl rfl (pv_rem rfl rfl rfl (by omega) (by omega)) ?_)
      refine rw_cons (op_pv (w0 rfl) rfl rfl (pv_eql rfl rfl rfl) ?_)
      refine rw_cons (op_pv (w0 rfl) rfl rfl (pv_idx Try.underlying23 T27 rfl rfl rfl ((hO.rs (fun _ => rfl)).some (k := k) (by omega)) (by omega) (by omega)) ?_)
      refine rw_cons (op_pv (w0 rfl) rfl rfl (pv_fld F27_0 rfl rfl) ?_)
      refine rw_cons (op_store_ownA (k := k) (off := 0) (⟨decide (((m + 3 * (k : Int)) % 3 : Int) = 0), (el ys k).k, (el ys k).v⟩) T4 hO (fun _ => rfl) (w0 rfl) rfl rfl rfl rfl rfl (one_all rfl) (by omega) (Nat.le_of_ble_eq_true rfl) rfl ?_)
      rintro w31 hO33 hch32
      have hsz34 := hch32.size
      replace hc := hc.step hch32 (fun s hs => .inl hs)
      clear hO; have hO := hO33; clear hO33
      refine rw_nil (hK30 _ _ ?_)
      refine hK28 _ _ ?_
      refine cw_seq fun K35 hK36 => ?_
      refine cw_region fun K37 hK38 => ?_
      refine rw_cons (op_pv (w0 rfl) rfl rfl (pv_move (v := (.int .i64 (m + 3 * (k : Int)))) rfl rfl) ?_)
      refine rw_cons (op_pv (w0 rfl) rfl rfl (pv_add rfl rfl rfl (by omega) (by omega)) ?_)
      refine rw_cons (op_pv (w0 rfl) rfl rfl (pv_assign (v := (.int .i64 ((m + 3 * (k : Int)) + 1))) rfl rfl) ?_)
      refine rw_nil (hK38 _ _ ?_)
      refine hK36 _ _ ?_
      refine cw_seq fun K39 hK40 => ?_
      refine cw_region fun K41 hK42 => ?_
      refine rw_cons (op_pv (w0 rfl) rfl rfl (pv_move (v := (.slice A n c)) rfl rfl) ?_)
      refine rw_cons (op_pv (w0 rfl) rfl rfl (pv_move (v := (.int .i64 (k : Int))) rfl rfl) ?_)
      refine rw_cons (op_pv (w0 rfl) rfl rfl (pv_move (v := (.int .i64 ((m + 3 * (k : Int)) + 1))) rfl rfl) ?_)
      refine rw_cons (op_pv (w0 rfl) rfl rfl (pv_idx Try.underlying23 T27 rfl rfl rfl ((hO.rs (fun _ => rfl)).some (k := k) (by omega)) (by omega) (by omega)) ?_)
      refine rw_cons (op_pv (w0 rfl) rfl rfl (pv_fld F27_1 rfl rfl) ?_)
      refine rw_cons (op_store_ownA (k := k) (off := 1) (⟨(el (ys.set k (⟨decide (((m + 3 * (k : Int)) % 3 : Int) = 0), (el ys k).k, (el ys k).v⟩)) k).r, (m + 3 * (k : Int)) + 1, (el (ys.set k (⟨decide (((m + 3 * (k : Int)) % 3 : Int) = 0), (el ys k).k, (el ys k).v⟩)) k).v⟩) T3 hO (fun _ => rfl) (w0 rfl) rfl rfl rfl rfl rfl (one_all rfl) (by omega) (Nat.le_of_ble_eq_true rfl) rfl ?_)
      rintro w43 hO45 hch44
      have hsz46 := hch44.size
      replace hc := hc.step hch44 (fun s hs => .inl hs)
      clear hO; have hO := hO45; clear hO45
      refine rw_nil (hK42 _ _ ?_)
      refine hK40 _ _ ?_
      refine cw_seq fun K47 hK48 => ?_
      refine cw_region fun K49 hK50 => ?_
      refine rw_cons (op_pv (w0 rfl) rfl rfl (pv_move (v := (.int .i64 ((m + 3 * (k : Int)) + 1))) rfl rfl) ?_)
      refine rw_cons (op_pv (w0 rfl) rfl rfl (pv_add rfl rfl rfl (by omega) (by omega)) ?_)
      refine rw_cons (op_pv (w0 rfl) rfl rfl (pv_assign (v := (.int .i64 (((m + 3 * (k : Int)) + 1) + 1))) rfl rfl) ?_)
      refine rw_nil (hK50 _ _ ?_)
      refine hK48 _ _ ?_
      refine cw_seq fun K51 hK52 => ?_
      refine cw_region fun K53 hK54 => ?_
      refine rw_cons (op_pv (w0 rfl) rfl rfl (pv_move (v := (.slice A n c)) rfl rfl) ?_)
      refine rw_cons (op_pv (w0 rfl) rfl rfl (pv_move (v := (.int .i64 (k : Int))) rfl rfl) ?_)
      refine rw_cons (op_pv (w0 rfl) rfl rfl (pv_move (v := (.int .i64 (((m + 3 * (k : Int)) + 1) + 1))) rfl rfl) ?_)
      refine rw_cons (op_pv (w0 rfl) rfl rfl (pv_idx Try.underlying23 T27 rfl rfl rfl ((hO.rs (fun _ => rfl)).some (k := k) (by omega)) (by omega) (by omega)) ?_)
      refine rw_cons (op_pv (w0 rfl) rfl rfl (pv_fld F27_2 rfl rfl) ?_)
      refine rw_cons (op_store_ownA (k := k) (off := 2) (⟨(el ((ys.set k (⟨decide (((m + 3 * (k : Int)) % 3 : Int) = 0), (el ys k).k, (el ys k).v⟩)).set k (⟨(el (ys.set k (⟨decide (((m + 3 * (k : Int)) % 3 : Int) = 0), (el ys k).k, (el ys k).v⟩)) k).r, (m + 3 * (k : Int)) + 1, (el (ys.set k (⟨decide (((m + 3 * (k : Int)) % 3 : Int) = 0), (el ys k).k, (el ys k).v⟩)) k).v⟩)) k).r, (el ((ys.set k (⟨decide (((m + 3 * (k : Int)) % 3 : Int) = 0), (el ys k).k, (el ys k).v⟩)).set k (⟨(el (ys.set k (⟨decide (((m + 3 * (k : Int)) % 3 : Int) = 0), (el ys k).k, (el ys k).v⟩)) k).r, (m + 3 * (k : Int)) + 1, (el (ys.set k (⟨decide (((m + 3 * (k : Int)) % 3 : Int) = 0), (el ys k).k, (el ys k).v⟩)) k).v⟩)) k).k, ((m + 3 * (k : Int)) + 1) + 1⟩) T3 hO (fun _ => rfl) (w0 rfl) rfl rfl rfl rfl rfl (one_all rfl) (by omega) (Nat.le_of_ble_eq_true rfl) rfl ?_)
      rintro w55 hO57 hch56
      have hsz58 := hch56.size
      replace hc := hc.step hch56 (fun s hs => .inl hs)
      clear hO; have hO := hO57; clear hO57
      refine rw_nil (hK54 _ _ ?_)
      refine hK52 _ _ ?_
      refine cw_region fun K59 hK60 => ?_
      refine rw_cons (op_pv (w0 rfl) rfl rfl (pv_move (v := (.int .i64 (((m + 3 * (k : Int)) + 1) + 1))) rfl rfl) ?_)
      refine rw_cons (op_pv (w0 rfl) rfl rfl (pv_add rfl rfl rfl (by omega) (by omega)) ?_)
      refine rw_cons (op_pv (w0 rfl) rfl rfl (pv_assign (v := (.int .i64 ((((m + 3 * (k : Int)) + 1) + 1) + 1))) rfl rfl) ?_)
      refine rw_nil (hK60 _ _ ?_)
      refine hK26 _ _ ?_
      refine cw_region fun K61 hK62 => ?_
      refine rw_cons (op_pv (w0 rfl) rfl rfl (pv_move (v := (.int .i64 (k : Int))) rfl rfl) ?_)
      refine rw_cons (op_pv (w0 rfl) rfl rfl (pv_add rfl rfl rfl (by omega) (by omega)) ?_)
      refine rw_cons (op_pv (w0 rfl) rfl rfl (pv_assign (v := (.int .i64 ((k : Int) + 1))) rfl rfl) ?_)
      refine rw_nil (hK62 _ _ ?_)
      refine hK13 _ _ (k + 1, (((ys.set k (⟨decide (((m + 3 * (k : Int)) % 3 : Int) = 0), (el ys k).k, (el ys k).v⟩)).set k (⟨(el (ys.set k (⟨decide (((m + 3 * (k : Int)) % 3 : Int) = 0), (el ys k).k, (el ys k).v⟩)) k).r, (m + 3 * (k : Int)) + 1, (el (ys.set k (⟨decide (((m + 3 * (k : Int)) % 3 : Int) = 0), (el ys k).k, (el ys k).v⟩)) k).v⟩)).set k (⟨(el ((ys.set k (⟨decide (((m + 3 * (k : Int)) % 3 : Int) = 0), (el ys k).k, (el ys k).v⟩)).set k (⟨(el (ys.set k (⟨decide (((m + 3 * (k : Int)) % 3 : Int) = 0), (el ys k).k, (el ys k).v⟩)) k).r, (m + 3 * (k : Int)) + 1, (el (ys.set k (⟨decide (((m + 3 * (k : Int)) % 3 : Int) = 0), (el ys k).k, (el ys k).v⟩)) k).v⟩)) k).r, (el ((ys.set k (⟨decide (((m + 3 * (k : Int)) % 3 : Int) = 0), (el ys k).k, (el ys k).v⟩)).set k (⟨(el (ys.set k (⟨decide (((m + 3 * (k : Int)) % 3 : Int) = 0), (el ys k).k, (el ys k).v⟩)) k).r, (m + 3 * (k : Int)) + 1, (el (ys.set k (⟨decide (((m + 3 * (k : Int)) % 3 : Int) = 0), (el ys k).k, (el ys k).v⟩)) k).v⟩)) k).k, ((m + 3 * (k : Int)) + 1) + 1⟩))) ⟨(iv (by omega)), (iv (by omega)), rfl, rfl, trivial⟩ ⟨?_, hO, hc⟩ ?_
      · refine ⟨by omega, by simp only [List.length_set]; omega⟩
      · (first | omega | (simp only []; omega))
    · -- else
      replace h24 := of_decide_eq_false h24
      refine cw_exit ?_
      refine hK6 _ _ ?_
      refine cw_seq fun K63 hK64 => ?_
      refine cw_region fun K65 hK66 => ?_
      refine rw_cons (op_pv (w0 rfl) rfl rfl (pv_move (v := (.int .i64 (m + 3 * (k : Int)))) rfl rfl) ?_)
      refine rw_cons (op_pv (w0 rfl) rfl rfl (pv_assign (v := (.int .i64 (m + 3 * (k : Int)))) rfl rfl) ?_)
      refine rw_nil (hK66 _ _ ?_)
      refine hK64 _ _ ?_
      refine cw_ret ?_
      refine fin1 rfl ?_
      exact ⟨ys, by omega, iv (by omega), hO, hc⟩
end Go.Proofs.Ytdnncgapbjnfoaa
