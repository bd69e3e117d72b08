/-
  The walk of laws.markUpdateS, written by program: each line names the law of one operation. Conditions: those of the theorem.
-/
import Derived.Test.YtdnncgapbjnfoaaProg
import Derived.Test.YtdnncgapbjnfoaaBeats
import Derived.KernelRfl
namespace Go.Proofs.Ytdnncgapbjnfoaa
open Go Go.RowKit
set_option linter.unusedVariables false
set_option linter.unusedSimpArgs false
namespace markUpdateS_okF
theorem T3 : TI Try.prog 3 false (.int .i64 0) 1 8 := TI.mk' Try.underlying3 rfl (by kernel_rfl)
theorem T33 : TI Try.prog 33 true (.agg #[.int .i64 0, .int .i64 0]) 2 16 := TI.mk' Try.underlying33 rfl (by kernel_rfl)
theorem F33_0 : FldOK Try.prog 33 0 0 := ⟨_, _, 0, Try.underlying33, rfl, rfl, by kernel_rfl⟩
theorem F33_1 : FldOK Try.prog 33 1 1 := ⟨_, _, 0, Try.underlying33, rfl, rfl, by kernel_rfl⟩
end markUpdateS_okF
open markUpdateS_okF in
set_option maxHeartbeats 4000000 in
theorem markUpdateS_ok (A : Option Addr) (n c base : Nat) (xs : List Bt) (m : Int) (w : World) (hO : Own encB 2 w base 33 (.slice A n c) xs) (hb : base ≤ w.heap.size) (hm0 : 0 ≤ m) (hm : m ≤ 1099511627776) (hn : n ≤ 1099511627776) :
    Fn Try.prog 22 [(.slice A n c), (.int .i64 m)] w fun v w' => ∃ ys : List Bt, ys.length = n ∧ (∀ j, j < n → el ys j = ⟨m + 2 * j, m + 2 * j + 1⟩) ∧ v = .int .i64 (m + 2 * n) ∧ Own encB 2 w' base 33 (.slice A n c) ys ∧ Ch (obl (.slice A n c)) w w' := by
  have hub := hO.lt
  have hlen := hO.le.2.2
  refine fn_of (n := 27) Try.func22 rfl rfl rfl rfl ?_
  have hc : Ch (obl (.slice A n c)) w w := Ch.refl _ _
  refine cw_seq fun K1 hK2 => ?_
  refine cw_region fun K3 hK4 => ?_
  refine rw_cons (op_pv (w0 rfl) rfl rfl (pv_assign (v := (.int .i64 0)) rfl rfl) ?_)
  refine rw_nil (hK4 _ _ ?_)
  refine hK2 _ _ ?_
  refine cw_seq fun K5 hK6 => ?_
  refine cw_seq fun K7 hK8 => ?_
  refine cw_region fun K9 hK10 => ?_
  refine rw_cons (op_pv (w0 rfl) rfl rfl (pv_assign (v := (.int .i64 0)) rfl rfl) ?_)
  refine rw_nil (hK10 _ _ ?_)
  refine hK8 _ _ ?_
  refine cw_block ?_
  refine cw_loop (σ := Nat × (List Bt)) (fun ⟨k, ys⟩ => [(1, (.int .i64 (m + 2 * (k : Int)))), (5, (.int .i64 (k : Int))), (0, (.slice A n c)), (4, (.int .i64 0))]) (fun ⟨k, ys⟩ W => (k ≤ n ∧ ys.length = n ∧ ∀ j, j < k → el ys j = ⟨m + 2 * j, m + 2 * j + 1⟩) ∧ Own encB 2 W base 33 (.slice A n c) ys ∧ Ch (obl (.slice A n c)) w W) (fun ⟨k, ys⟩ => n - k) (0, xs) ?_ ?_ ?_
  · exact ⟨(iv (by omega)), rfl, rfl, rfl, trivial⟩
  · refine ⟨⟨Nat.zero_le _, by omega, fun j hj => by omega⟩, hO.less (by omega), hc⟩
  · rintro ⟨k, ys⟩ J15 w11 ⟨⟨hk, hyl, hye⟩, hO, hc⟩ K12 hK13
    have hsz17 := hc.size
    have hub := hO.lt
    refine cw_seq fun K18 hK19 => ?_
    refine cw_seq fun K20 hK21 => ?_
    refine cw_region fun K22 hK23 => ?_
    refine rw_cons (op_pv (w0 rfl) rfl rfl (pv_move (v := (.int .i64 (k : Int))) rfl rfl) ?_)
    refine rw_cons (op_pv (w0 rfl) rfl rfl (pv_move (v := (.slice A n c)) rfl rfl) ?_)
    refine rw_cons (op_pv (w0 rfl) rfl rfl (pv_len Try.underlying29 rfl rfl) ?_)
    refine rw_cons (op_pv (w0 rfl) rfl rfl (pv_lss rfl rfl rfl) ?_)
    refine rw_nil (hK23 _ _ ?_)
    refine hK21 _ _ ?_
    refine cw_cond rfl (fun h24 => ?_) (fun h24 => ?_)
    · -- then
      replace h24 := of_decide_eq_true h24
      refine cw_skip ?_
      refine hK19 _ _ ?_
      refine cw_seq fun K25 hK26 => ?_
      refine cw_block ?_
      refine cw_seq fun K27 hK28 => ?_
      refine cw_region fun K29 hK30 => ?_
      refine rw_cons (op_pv (w0 rfl) rfl rfl (pv_move (v := (.slice A n c)) rfl rfl) ?_)
      refine rw_cons (op_pv (w0 rfl) rfl rfl (pv_move (v := (.int .i64 (k : Int))) rfl rfl) ?_)
      refine rw_cons (op_pv (w0 rfl) rfl rfl (pv_move (v := (.int .i64 (m + 2 * (k : Int)))) rfl rfl) ?_)
      refine rw_cons (op_pv (w0 rfl) rfl rfl (pv_idx Try.underlying29 T33 rfl rfl rfl ((hO.rs (fun _ => rfl)).some (k := k) (by omega)) (by omega) (by omega)) ?_)
      refine rw_cons (op_pv (w0 rfl) rfl rfl (pv_fld F33_0 rfl rfl) ?_)
      refine rw_cons (op_store_ownA (k := k) (off := 0) (⟨m + 2 * (k : Int), (el ys k).a⟩) T3 hO (fun _ => rfl) (w0 rfl) rfl rfl rfl rfl rfl (one_all rfl) (by omega) (Nat.le_of_ble_eq_true rfl) rfl ?_)
      rintro w31 hO33 hch32
      have hsz34 := hch32.size
      replace hc := hc.step hch32 (fun s hs => .inl hs)
      clear hO; have hO := hO33; clear hO33
      refine rw_nil (hK30 _ _ ?_)
      refine hK28 _ _ ?_
      refine cw_seq fun K35 hK36 => ?_
      refine cw_region fun K37 hK38 => ?_
      refine rw_cons (op_pv (w0 rfl) rfl rfl (pv_move (v := (.int .i64 (m + 2 * (k : Int)))) rfl rfl) ?_)
      refine rw_cons (op_pv (w0 rfl) rfl rfl (pv_add rfl rfl rfl (by omega) (by omega)) ?_)
      refine rw_cons (op_pv (w0 rfl) rfl rfl (pv_assign (v := (.int .i64 ((m + 2 * (k : Int)) + 1))) rfl rfl) ?_)
      refine rw_nil (hK38 _ _ ?_)
      refine hK36 _ _ ?_
      refine cw_seq fun K39 hK40 => ?_
      refine cw_region fun K41 hK42 => ?_
      refine rw_cons (op_pv (w0 rfl) rfl rfl (pv_move (v := (.slice A n c)) rfl rfl) ?_)
      refine rw_cons (op_pv (w0 rfl) rfl rfl (pv_move (v := (.int .i64 (k : Int))) rfl rfl) ?_)
      refine rw_cons (op_pv (w0 rfl) rfl rfl (pv_move (v := (.int .i64 ((m + 2 * (k : Int)) + 1))) rfl rfl) ?_)
      refine rw_cons (op_pv (w0 rfl) rfl rfl (pv_idx Try.underlying29 T33 rfl rfl rfl ((hO.rs (fun _ => rfl)).some (k := k) (by omega)) (by omega) (by omega)) ?_)
      refine rw_cons (op_pv (w0 rfl) rfl rfl (pv_fld F33_1 rfl rfl) ?_)
      refine rw_cons (op_store_ownA (k := k) (off := 1) (⟨(el (ys.set k (⟨m + 2 * (k : Int), (el ys k).a⟩)) k).s, (m + 2 * (k : Int)) + 1⟩) T3 hO (fun _ => rfl) (w0 rfl) rfl rfl rfl rfl rfl (one_all rfl) (by omega) (Nat.le_of_ble_eq_true rfl) rfl ?_)
      rintro w43 hO45 hch44
      have hsz46 := hch44.size
      replace hc := hc.step hch44 (fun s hs => .inl hs)
      clear hO; have hO := hO45; clear hO45
      refine rw_nil (hK42 _ _ ?_)
      refine hK40 _ _ ?_
      refine cw_region fun K47 hK48 => ?_
      refine rw_cons (op_pv (w0 rfl) rfl rfl (pv_move (v := (.int .i64 ((m + 2 * (k : Int)) + 1))) rfl rfl) ?_)
      refine rw_cons (op_pv (w0 rfl) rfl rfl (pv_add rfl rfl rfl (by omega) (by omega)) ?_)
      refine rw_cons (op_pv (w0 rfl) rfl rfl (pv_assign (v := (.int .i64 (((m + 2 * (k : Int)) + 1) + 1))) rfl rfl) ?_)
      refine rw_nil (hK48 _ _ ?_)
      refine hK26 _ _ ?_
      refine cw_region fun K49 hK50 => ?_
      refine rw_cons (op_pv (w0 rfl) rfl rfl (pv_move (v := (.int .i64 (k : Int))) rfl rfl) ?_)
      refine rw_cons (op_pv (w0 rfl) rfl rfl (pv_add rfl rfl rfl (by omega) (by omega)) ?_)
      refine rw_cons (op_pv (w0 rfl) rfl rfl (pv_assign (v := (.int .i64 ((k : Int) + 1))) rfl rfl) ?_)
      refine rw_nil (hK50 _ _ ?_)
      refine hK13 _ _ (k + 1, ((ys.set k (⟨m + 2 * (k : Int), (el ys k).a⟩)).set k (⟨(el (ys.set k (⟨m + 2 * (k : Int), (el ys k).a⟩)) k).s, (m + 2 * (k : Int)) + 1⟩))) ⟨(iv (by omega)), (iv (by omega)), rfl, rfl, trivial⟩ ⟨?_, hO, hc⟩ ?_
      · refine ⟨by omega, by simp; omega, fun j hj => ?_⟩
        by_cases hjk : j = k
        · subst hjk; rw [el_set _ _ _ _ (by simp; omega), if_pos rfl, el_set _ _ _ _ (by omega), if_pos rfl]; all_goals exact bt_ext (by first | rfl | (dsimp only; omega)) (by first | rfl | (dsimp only; omega))
        · rw [el_set _ _ _ _ (by simp; omega), if_neg hjk, el_set _ _ _ _ (by omega), if_neg hjk]; exact hye j (by omega)
      · (first | omega | (simp only []; omega))
    · -- else
      replace h24 := of_decide_eq_false h24
      refine cw_exit ?_
      refine hK6 _ _ ?_
      refine cw_seq fun K51 hK52 => ?_
      refine cw_region fun K53 hK54 => ?_
      refine rw_cons (op_pv (w0 rfl) rfl rfl (pv_move (v := (.int .i64 (m + 2 * (k : Int)))) rfl rfl) ?_)
      refine rw_cons (op_pv (w0 rfl) rfl rfl (pv_assign (v := (.int .i64 (m + 2 * (k : Int)))) rfl rfl) ?_)
      refine rw_nil (hK54 _ _ ?_)
      refine hK52 _ _ ?_
      refine cw_ret ?_
      refine fin1 rfl ?_
      exact ⟨ys, by omega, fun j hj => hye j (by omega), iv (by omega), hO, hc⟩
end Go.Proofs.Ytdnncgapbjnfoaa
