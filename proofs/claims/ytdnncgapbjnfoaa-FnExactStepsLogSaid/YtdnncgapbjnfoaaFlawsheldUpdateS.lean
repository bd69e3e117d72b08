/-
  The walk of laws.heldUpdateS, written by program: each line names the law of one operation. Conditions: those of the theorem.
-/
import Derived.Test.YtdnncgapbjnfoaaProg
import Derived.Test.YtdnncgapbjnfoaaBeats
import Derived.KernelRfl
namespace Go.Proofs.Ytdnncgapbjnfoaa
open Go Go.RowKit
set_option linter.unusedVariables false
set_option linter.unusedSimpArgs false
namespace heldUpdateS_okF
theorem T3 : TI Try.prog 3 false (.int .i64 0) 1 8 := TI.mk' Try.underlying3 rfl (by kernel_rfl)
theorem T33 : TI Try.prog 33 true (.agg #[.int .i64 0, .int .i64 0]) 2 16 := TI.mk' Try.underlying33 rfl (by kernel_rfl)
theorem F33_0 : FldOK Try.prog 33 0 0 := ⟨_, _, 0, Try.underlying33, rfl, rfl, by kernel_rfl⟩
theorem F33_1 : FldOK Try.prog 33 1 1 := ⟨_, _, 0, Try.underlying33, rfl, rfl, by kernel_rfl⟩
end heldUpdateS_okF
open heldUpdateS_okF in
set_option maxHeartbeats 4000000 in
theorem heldUpdateS_ok (A : Option Addr) (n c : Nat) (xs : List Bt) (m : Int) (w : World) (hR : RS encB 2 w w.heap.size A n xs) (hm0 : 0 ≤ m) (hm : m ≤ 1099511627776) (hn : n ≤ 1099511627776) (hE : ∀ j, j < n → el xs j = ⟨m + 2 * j, m + 2 * j + 1⟩) :
    Fn Try.prog 23 [(.slice A n c), (.int .i64 m)] w fun v w' => v = .int .i64 (m + 2 * n) ∧ Ch [] w w' := by
  have hlen := hR.len
  refine fn_of (n := 31) Try.func23 rfl rfl rfl rfl ?_
  have hc : Ch [] w w := Ch.refl _ _
  refine cw_seq fun K1 hK2 => ?_
  refine cw_region fun K3 hK4 => ?_
  refine rw_cons (op_pv (w0 rfl) rfl rfl (pv_assign (v := (.int .i64 0)) rfl rfl) ?_)
  refine rw_nil (hK4 _ _ ?_)
  refine hK2 _ _ ?_
  refine cw_seq fun K5 hK6 => ?_
  refine cw_seq fun K7 hK8 => ?_
  refine cw_region fun K9 hK10 => ?_
  refine rw_cons (op_pv (w0 rfl) rfl rfl (pv_assign (v := (.int .i64 0)) rfl rfl) ?_)
  refine rw_nil (hK10 _ _ ?_)
  refine hK8 _ _ ?_
  refine cw_block ?_
  refine cw_loop (σ := Nat) (fun k => [(1, (.int .i64 (m + 2 * (k : Int)))), (5, (.int .i64 (k : Int))), (0, (.slice A n c))]) (fun k W => k ≤ n ∧ RS encB 2 W w.heap.size A n xs ∧ Ch [] w W) (fun k => n - k) 0 ?_ ?_ ?_
  · exact ⟨(iv (by omega)), rfl, rfl, trivial⟩
  · refine ⟨Nat.zero_le _, hR, hc⟩
  · rintro k J15 w11 ⟨hk, hR, hc⟩ K12 hK13
    have hsz17 := hc.size
    have hek1 : k < n → (el xs k).s = m + 2 * k := fun h => by rw [hE k h]
    have hek2 : k < n → (el xs k).a = m + 2 * k + 1 := fun h => by rw [hE k h]
    refine cw_seq fun K18 hK19 => ?_
    refine cw_seq fun K20 hK21 => ?_
    refine cw_region fun K22 hK23 => ?_
    refine rw_cons (op_pv (w0 rfl) rfl rfl (pv_move (v := (.int .i64 (k : Int))) rfl rfl) ?_)
    refine rw_cons (op_pv (w0 rfl) rfl rfl (pv_move (v := (.slice A n c)) rfl rfl) ?_)
    refine rw_cons (op_pv (w0 rfl) rfl rfl (pv_len Try.underlying29 rfl rfl) ?_)
    refine rw_cons (op_pv (w0 rfl) rfl rfl (pv_lss rfl rfl rfl) ?_)
    refine rw_nil (hK23 _ _ ?_)
    refine hK21 _ _ ?_
    refine cw_cond rfl (fun h24 => ?_) (fun h24 => ?_)
    · -- then
      replace h24 := of_decide_eq_true h24
      refine cw_skip ?_
      refine hK19 _ _ ?_
      refine cw_seq fun K25 hK26 => ?_
      refine cw_block ?_
      refine cw_seq fun K27 hK28 => ?_
      refine cw_seq fun K29 hK30 => ?_
      refine cw_region fun K31 hK32 => ?_
      refine rw_cons (op_pv (w0 rfl) rfl rfl (pv_move (v := (.slice A n c)) rfl rfl) ?_)
      refine rw_cons (op_pv (w0 rfl) rfl rfl (pv_move (v := (.int .i64 (k : Int))) rfl rfl) ?_)
      refine rw_cons (op_pv (w0 rfl) rfl rfl (pv_idx Try.underlying29 T33 rfl rfl rfl (hR.some (k := k) (by omega)) (by omega) (by omega)) ?_)
      refine rw_cons (op_pv (w0 rfl) rfl rfl (pv_fld F33_0 rfl rfl) ?_)
      refine rw_cons (op_lv (w0 rfl) rfl rfl (lv_load T3 rfl rfl (hR.cellE (k := k) (j := 0) (by omega) rfl)) ?_)
      refine rw_cons (op_pv (w0 rfl) rfl rfl (pv_move (v := (.int .i64 (m + 2 * (k : Int)))) rfl rfl) ?_)
      refine rw_cons (op_pv (w0 rfl) rfl rfl (pv_neq rfl rfl rfl) ?_)
      refine rw_nil (hK32 _ _ ?_)
      refine hK30 _ _ ?_
      refine cw_cond rfl (fun h33 => ?_) (fun h33 => ?_)
      · -- then
        replace h33 := of_decide_eq_true h33
        refine cw_seq fun K34 hK35 => ?_
        refine cw_region fun K36 hK37 => ?_
        refine rw_cons (op_pv (w0 rfl) rfl rfl (pv_assign (v := (.int .i64 (-1))) rfl rfl) ?_)
        refine rw_nil (hK37 _ _ ?_)
        refine hK35 _ _ ?_
        refine cw_ret ?_
        refine fin1 rfl ?_
        exfalso; have := hek1 (by omega); have := hek2 (by omega); omega
      · -- else
        replace h33 := of_decide_eq_false h33
        refine cw_skip ?_
        refine hK28 _ _ ?_
        refine cw_seq fun K38 hK39 => ?_
        refine cw_region fun K40 hK41 => ?_
        refine rw_cons (op_pv (w0 rfl) rfl rfl (pv_move (v := (.int .i64 (m + 2 * (k : Int)))) rfl rfl) ?_)
        refine rw_cons (op_pv (w0 rfl) rfl rfl (pv_add rfl rfl rfl (by omega) (by omega)) ?_)
        refine rw_cons (op_pv (w0 rfl) rfl rfl (pv_assign (v := (.int .i64 ((m + 2 * (k : Int)) + 1))) rfl rfl) ?_)
        refine rw_nil (hK41 _ _ ?_)
        refine hK39 _ _ ?_
        refine cw_seq fun K42 hK43 => ?_
        refine cw_seq fun K44 hK45 => ?_
        refine cw_region fun K46 hK47 => ?_
        refine rw_cons (op_pv (w0 rfl) rfl rfl (pv_move (v := (.slice A n c)) rfl rfl) ?_)
        refine rw_cons (op_pv (w0 rfl) rfl rfl (pv_move (v := (.int .i64 (k : Int))) rfl rfl) ?_)
        refine rw_cons (op_pv (w0 rfl) rfl rfl (pv_idx Try.underlying29 T33 rfl rfl rfl (hR.some (k := k) (by omega)) (by omega) (by omega)) ?_)
        refine rw_cons (op_pv (w0 rfl) rfl rfl (pv_fld F33_1 rfl rfl) ?_)
        refine rw_cons (op_lv (w0 rfl) rfl rfl (lv_load T3 rfl rfl (hR.cellE (k := k) (j := 1) (by omega) rfl)) ?_)
        refine rw_cons (op_pv (w0 rfl) rfl rfl (pv_move (v := (.int .i64 ((m + 2 * (k : Int)) + 1))) rfl rfl) ?_)
        refine rw_cons (op_pv (w0 rfl) rfl rfl (pv_neq rfl rfl rfl) ?_)
        refine rw_nil (hK47 _ _ ?_)
        refine hK45 _ _ ?_
        refine cw_cond rfl (fun h48 => ?_) (fun h48 => ?_)
        · -- then
          replace h48 := of_decide_eq_true h48
          refine cw_seq fun K49 hK50 => ?_
          refine cw_region fun K51 hK52 => ?_
          refine rw_cons (op_pv (w0 rfl) rfl rfl (pv_assign (v := (.int .i64 (-1))) rfl rfl) ?_)
          refine rw_nil (hK52 _ _ ?_)
          refine hK50 _ _ ?_
          refine cw_ret ?_
          refine fin1 rfl ?_
          exfalso; have := hek1 (by omega); have := hek2 (by omega); omega
        · -- else
          replace h48 := of_decide_eq_false h48
          refine cw_skip ?_
          refine hK43 _ _ ?_
          refine cw_region fun K53 hK54 => ?_
          refine rw_cons (op_pv (w0 rfl) rfl rfl (pv_move (v := (.int .i64 ((m + 2 * (k : Int)) + 1))) rfl rfl) ?_)
          refine rw_cons (op_pv (w0 rfl) rfl rfl (pv_add rfl rfl rfl (by omega) (by omega)) ?_)
          refine rw_cons (op_pv (w0 rfl) rfl rfl (pv_assign (v := (.int .i64 (((m + 2 * (k : Int)) + 1) + 1))) rfl rfl) ?_)
          refine rw_nil (hK54 _ _ ?_)
          refine hK26 _ _ ?_
          refine cw_region fun K55 hK56 => ?_
          refine rw_cons (op_pv (w0 rfl) rfl rfl (pv_move (v := (.int .i64 (k : Int))) rfl rfl) ?_)
          refine rw_cons (op_pv (w0 rfl) rfl rfl (pv_add rfl rfl rfl (by omega) (by omega)) ?_)
          refine rw_cons (op_pv (w0 rfl) rfl rfl (pv_assign (v := (.int .i64 ((k : Int) + 1))) rfl rfl) ?_)
          refine rw_nil (hK56 _ _ ?_)
          refine hK13 _ _ (k + 1) ⟨(iv (by omega)), (iv (by omega)), rfl, trivial⟩ ⟨?_, hR, hc⟩ ?_
          · omega
          · (first | omega | (simp only []; omega))
    · -- else
      replace h24 := of_decide_eq_false h24
      refine cw_exit ?_
      refine hK6 _ _ ?_
      refine cw_seq fun K57 hK58 => ?_
      refine cw_region fun K59 hK60 => ?_
      refine rw_cons (op_pv (w0 rfl) rfl rfl (pv_move (v := (.int .i64 (m + 2 * (k : Int)))) rfl rfl) ?_)
      refine rw_cons (op_pv (w0 rfl) rfl rfl (pv_assign (v := (.int .i64 (m + 2 * (k : Int)))) rfl rfl) ?_)
      refine rw_nil (hK60 _ _ ?_)
      refine hK58 _ _ ?_
      refine cw_ret ?_
      refine fin1 rfl ?_
      exact ⟨iv (by omega), hc⟩
end Go.Proofs.Ytdnncgapbjnfoaa
