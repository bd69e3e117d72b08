/-
  The walk of laws.markIntS, written by program: each line names the law of one operation. Conditions: those of the theorem.
-/
import Derived.Test.YthgnlljpjpklpaaProg
import Derived.Test.YthgnlljpjpklpaaKinds
import Derived.KernelRfl
namespace Go.Proofs.Ythgnlljpjpklpaa
open Go Go.RowKit
set_option linter.unusedVariables false
set_option linter.unusedSimpArgs false
namespace markIntS_okF
theorem T3 : TI Try.prog 3 false (.int .i64 0) 1 8 := TI.mk' Try.underlying3 rfl (by kernel_rfl)
end markIntS_okF
open markIntS_okF in
set_option maxHeartbeats 4000000 in
theorem markIntS_ok (A : Option Addr) (n c base : Nat) (xs : List Int) (m : Int) (w : World) (hO : Own encI 1 w base 3 (.slice A n c) xs) (hb : base ≤ w.heap.size) (hm0 : 0 ≤ m) (hm : m ≤ 4611686018427387904) (hn : n ≤ 1099511627776) :
    Fn Try.prog 25 [(.slice A n c), (.int .i64 m)] w fun v w' => ∃ ys : List Int, ys.length = n ∧ (∀ j, j < n → el ys j = m + j) ∧ v = .int .i64 (m + n) ∧ Own encI 1 w' base 3 (.slice A n c) ys ∧ Ch (obl (.slice A n c)) w w' := by
  have hub := hO.lt
  have hlen := hO.le.2.2
  refine fn_of (n := 19) Try.func25 rfl rfl rfl rfl ?_
  have hc : Ch (obl (.slice A n c)) w w := Ch.refl _ _
  refine cw_seq fun K1 hK2 => ?_
  refine cw_region fun K3 hK4 => ?_
  refine rw_cons (op_pv (w0 rfl) rfl rfl (pv_assign (v := (.int .i64 0)) rfl rfl) ?_)
  refine rw_nil (hK4 _ _ ?_)
  refine hK2 _ _ ?_
  refine cw_seq fun K5 hK6 => ?_
  refine cw_seq fun K7 hK8 => ?_
  refine cw_region fun K9 hK10 => ?_
  refine rw_cons (op_pv (w0 rfl) rfl rfl (pv_assign (v := (.int .i64 0)) rfl rfl) ?_)
  refine rw_nil (hK10 _ _ ?_)
  refine hK8 _ _ ?_
  refine cw_block ?_
  refine cw_loop (σ := Nat × (List Int)) (fun ⟨k, ys⟩ => [(1, (.int .i64 (m + (k : Int)))), (5, (.int .i64 (k : Int))), (0, (.slice A n c)), (4, (.int .i64 0))]) (fun ⟨k, ys⟩ W => (k ≤ n ∧ ys.length = n ∧ ∀ j, j < k → el ys j = m + j) ∧ Own encI 1 W base 3 (.slice A n c) ys ∧ Ch (obl (.slice A n c)) w W) (fun ⟨k, ys⟩ => n - k) (0, xs) ?_ ?_ ?_
  · exact ⟨(iv (by omega)), rfl, rfl, rfl, trivial⟩
  · refine ⟨⟨Nat.zero_le _, by omega, fun j hj => by omega⟩, hO.less (by omega), hc⟩
  · rintro ⟨k, ys⟩ J15 w11 ⟨⟨hk, hyl, hye⟩, hO, hc⟩ K12 hK13
    have hsz17 := hc.size
    have hub := hO.lt
    refine cw_seq fun K18 hK19 => ?_
    refine cw_seq fun K20 hK21 => ?_
    refine cw_region fun K22 hK23 => ?_
    refine rw_cons (op_pv (w0 rfl) rfl rfl (pv_move (v := (.int .i64 (k : Int))) rfl rfl) ?_)
    refine rw_cons (op_pv (w0 rfl) rfl rfl (pv_move (v := (.slice A n c)) rfl rfl) ?_)
    refine rw_cons (op_pv (w0 rfl) rfl rfl (pv_len Try.underlying25 rfl rfl) ?_)
    refine rw_cons (op_pv (w0 rfl) rfl rfl (pv_lss rfl rfl rfl) ?_)
    refine rw_nil (hK23 _ _ ?_)
    refine hK21 _ _ ?_
    refine cw_cond rfl (fun h24 => ?_) (fun h24 => ?_)
    · -- then
      replace h24 := of_decide_eq_true h24
      refine cw_skip ?_
      refine hK19 _ _ ?_
      refine cw_seq fun K25 hK26 => ?_
      refine cw_block ?_
      refine cw_seq fun K27 hK28 => ?_
      refine cw_region fun K29 hK30 => ?_
      refine rw_cons (op_pv (w0 rfl) rfl rfl (pv_move (v := (.slice A n c)) rfl rfl) ?_)
      refine rw_cons (op_pv (w0 rfl) rfl rfl (pv_move (v := (.int .i64 (k : Int))) rfl rfl) ?_)
      refine rw_cons (op_pv (w0 rfl) rfl rfl (pv_move (v := (.int .i64 (m + (k : Int)))) rfl rfl) ?_)
      refine rw_cons (op_pv (w0 rfl) rfl rfl (pv_idx Try.underlying25 T3 rfl rfl rfl ((hO.rs (fun _ => rfl)).some (k := k) (by omega)) (by omega) (by omega)) ?_)
      refine rw_cons (op_store_ownA (k := k) (off := 0) (m + (k : Int)) T3 hO (fun _ => rfl) (w0 rfl) rfl rfl rfl rfl rfl (one_all rfl) (by omega) (Nat.le_of_ble_eq_true rfl) rfl ?_)
      rintro w31 hO33 hch32
      have hsz34 := hch32.size
      replace hc := hc.step hch32 (fun s hs => .inl hs)
      clear hO; have hO := hO33; clear hO33
      refine rw_nil (hK30 _ _ ?_)
      refine hK28 _ _ ?_
      refine cw_region fun K35 hK36 => ?_
      refine rw_cons (op_pv (w0 rfl) rfl rfl (pv_move (v := (.int .i64 (m + (k : Int)))) rfl rfl) ?_)
      refine rw_cons (op_pv (w0 rfl) rfl rfl (pv_add rfl rfl rfl (by omega) (by omega)) ?_)
      refine rw_cons (op_pv (w0 rfl) rfl rfl (pv_assign (v := (.int .i64 ((m + (k : Int)) + 1))) rfl rfl) ?_)
      refine rw_nil (hK36 _ _ ?_)
      refine hK26 _ _ ?_
      refine cw_region fun K37 hK38 => ?_
      refine rw_cons (op_pv (w0 rfl) rfl rfl (pv_move (v := (.int .i64 (k : Int))) rfl rfl) ?_)
      refine rw_cons (op_pv (w0 rfl) rfl rfl (pv_add rfl rfl rfl (by omega) (by omega)) ?_)
      refine rw_cons (op_pv (w0 rfl) rfl rfl (pv_assign (v := (.int .i64 ((k : Int) + 1))) rfl rfl) ?_)
      refine rw_nil (hK38 _ _ ?_)
      refine hK13 _ _ (k + 1, (ys.set k (m + (k : Int)))) ⟨(iv (by omega)), (iv (by omega)), rfl, rfl, trivial⟩ ⟨?_, hO, hc⟩ ?_
      · refine ⟨by omega, by simp; omega, fun j hj => ?_⟩
        rw [el_set _ _ _ _ (by omega)]
        by_cases hjk : j = k
        · subst hjk; simp
        · rw [if_neg hjk]; exact hye j (by omega)
      · (first | omega | (simp only []; omega))
    · -- else
      replace h24 := of_decide_eq_false h24
      refine cw_exit ?_
      refine hK6 _ _ ?_
      refine cw_seq fun K39 hK40 => ?_
      refine cw_region fun K41 hK42 => ?_
      refine rw_cons (op_pv (w0 rfl) rfl rfl (pv_move (v := (.int .i64 (m + (k : Int)))) rfl rfl) ?_)
      refine rw_cons (op_pv (w0 rfl) rfl rfl (pv_assign (v := (.int .i64 (m + (k : Int)))) rfl rfl) ?_)
      refine rw_nil (hK42 _ _ ?_)
      refine hK40 _ _ ?_
      refine cw_ret ?_
      refine fin1 rfl ?_
      exact ⟨ys, by omega, fun j hj => hye j (by omega), iv (by omega), hO, hc⟩
end Go.Proofs.Ythgnlljpjpklpaa
