/-
  The walk of laws.toIntS, written by program: each line names the law of one operation. Conditions: those of the theorem.
-/
import Derived.Test.YthgnlljpjpklpaaProg
import Derived.Test.YthgnlljpjpklpaaKinds
import Derived.KernelRfl
namespace Go.Proofs.Ythgnlljpjpklpaa
open Go Go.RowKit
set_option linter.unusedVariables false
set_option linter.unusedSimpArgs false
namespace toIntS_okF
theorem T3 : TI Try.prog 3 false (.int .i64 0) 1 8 := TI.mk' Try.underlying3 rfl (by kernel_rfl)
end toIntS_okF
open toIntS_okF in
set_option maxHeartbeats 4000000 in
theorem toIntS_ok (A : Option Addr) (n c : Nat) (xs : List Int) (w : World) (hR : RS encI 1 w w.heap.size A n xs) (hn : n ≤ 1099511627776) :
    Fn Try.prog 65 [(.slice A n c)] w fun v w' => ∃ v1, v = v1 ∧ Own encI 1 w' w.heap.size 3 v1 xs ∧ Ch [] w w' := by
  have hlen := hR.len
  refine fn_of (n := 22) Try.func65 rfl rfl rfl rfl ?_
  have hc : Ch [] w w := Ch.refl _ _
  refine cw_seq fun K1 hK2 => ?_
  refine cw_region fun K3 hK4 => ?_
  refine rw_cons (op_pv (w0 rfl) rfl rfl (pv_assign (v := (.slice none 0 0)) rfl rfl) ?_)
  refine rw_nil (hK4 _ _ ?_)
  refine hK2 _ _ ?_
  refine cw_seq fun K5 hK6 => ?_
  refine cw_region fun K7 hK8 => ?_
  refine rw_cons (op_pv (w0 rfl) rfl rfl (pv_move (v := (.slice A n c)) rfl rfl) ?_)
  refine rw_cons (op_pv (w0 rfl) rfl rfl (pv_len Try.underlying25 rfl rfl) ?_)
  refine rw_cons (op_make (enc := encI) n default Try.underlying25 T3 (fun _ => rfl) rfl (by decide) (w0 rfl) rfl rfl rfl rfl rfl (by omega) (by unfold maxLen; omega) ?_)
  rintro g10 w9 hg13 hg14 hO12 hch11
  have hsz15 := hch11.size
  replace hR := hR.ch0 hch11
  replace hc := hc.step0 hch11
  replace hO12 := hO12.less (b := w.heap.size) (by omega)
  have hub16 := hO12.lt
  refine rw_cons (op_pv (w0 rfl) rfl rfl (pv_assign (v := (.slice (some ⟨g10, 0, none⟩) n n)) rfl rfl) ?_)
  refine rw_nil (hK8 _ _ ?_)
  refine hK6 _ _ ?_
  refine cw_seq fun K17 hK18 => ?_
  refine cw_seq fun K19 hK20 => ?_
  refine cw_region fun K21 hK22 => ?_
  refine rw_cons (op_pv (w0 rfl) rfl rfl (pv_assign (v := (.int .i64 0)) rfl rfl) ?_)
  refine rw_nil (hK22 _ _ ?_)
  refine hK20 _ _ ?_
  refine cw_block ?_
  refine cw_loop (σ := Nat × (List Int)) (fun ⟨k, ys⟩ => [(4, (.int .i64 (k : Int))), (0, (.slice A n c)), (2, (.slice none 0 0)), (3, (.slice (some ⟨g10, 0, none⟩) n n))]) (fun ⟨k, ys⟩ W => (k ≤ n ∧ ys.length = n ∧ ∀ j, j < k → el ys j = el xs j) ∧ RS encI 1 W w.heap.size A n xs ∧ Own encI 1 W w.heap.size 3 (.slice (some ⟨g10, 0, none⟩) n n) ys ∧ Ch [] w W) (fun ⟨k, ys⟩ => n - k) (0, (List.replicate n default)) ?_ ?_ ?_
  · exact ⟨rfl, rfl, rfl, rfl, trivial⟩
  · refine ⟨⟨Nat.zero_le _, by simp, fun j hj => by omega⟩, hR, hO12.less (by omega), hc⟩
  · rintro ⟨k, ys⟩ J27 w23 ⟨⟨hk, hyl, hye⟩, hR, hO12, hc⟩ K24 hK25
    have hsz29 := hc.size
    have hub16 := hO12.lt
    refine cw_seq fun K30 hK31 => ?_
    refine cw_seq fun K32 hK33 => ?_
    refine cw_region fun K34 hK35 => ?_
    refine rw_cons (op_pv (w0 rfl) rfl rfl (pv_move (v := (.int .i64 (k : Int))) rfl rfl) ?_)
    refine rw_cons (op_pv (w0 rfl) rfl rfl (pv_move (v := (.slice A n c)) rfl rfl) ?_)
    refine rw_cons (op_pv (w0 rfl) rfl rfl (pv_len Try.underlying25 rfl rfl) ?_)
    refine rw_cons (op_pv (w0 rfl) rfl rfl (pv_lss rfl rfl rfl) ?_)
    refine rw_nil (hK35 _ _ ?_)
    refine hK33 _ _ ?_
    refine cw_cond rfl (fun h36 => ?_) (fun h36 => ?_)
    · -- then
      replace h36 := of_decide_eq_true h36
      refine cw_skip ?_
      refine hK31 _ _ ?_
      refine cw_seq fun K37 hK38 => ?_
      refine cw_block ?_
      refine cw_region fun K39 hK40 => ?_
      refine rw_cons (op_pv (w0 rfl) rfl rfl (pv_move (v := (.slice (some ⟨g10, 0, none⟩) n n)) rfl rfl) ?_)
      refine rw_cons (op_pv (w0 rfl) rfl rfl (pv_move (v := (.int .i64 (k : Int))) rfl rfl) ?_)
      refine rw_cons (op_pv (w0 rfl) rfl rfl (pv_move (v := (.slice A n c)) rfl rfl) ?_)
      refine rw_cons (op_pv (w0 rfl) rfl rfl (pv_move (v := (.int .i64 (k : Int))) rfl rfl) ?_)
      refine rw_cons (op_pv (w0 rfl) rfl rfl (pv_idx Try.underlying25 T3 rfl rfl rfl (hR.some (k := k) (by omega)) (by omega) (by omega)) ?_)
      refine rw_cons (op_lv (w0 rfl) rfl rfl (lv_load T3 rfl rfl (hR.cell0 (k := k) (by omega) rfl)) ?_)
      refine rw_cons (op_pv (w0 rfl) rfl rfl (pv_idx Try.underlying25 T3 rfl rfl rfl ((hO12.rs (fun _ => rfl)).some (k := k) (by omega)) (by omega) (by omega)) ?_)
      refine rw_cons (op_store_ownA (k := k) (off := 0) (el xs k) T3 hO12 (fun _ => rfl) (w0 rfl) rfl rfl rfl rfl rfl (one_all rfl) (by omega) (Nat.le_of_ble_eq_true rfl) rfl ?_)
      rintro w41 hO43 hch42
      have hsz44 := hch42.size
      replace hR := hR.ch hch42 (hO12.off.le (by omega))
      replace hc := (hO12.off.le (by omega)).step hc hch42
      clear hO12; have hO12 := hO43; clear hO43
      refine rw_nil (hK40 _ _ ?_)
      refine hK38 _ _ ?_
      refine cw_region fun K45 hK46 => ?_
      refine rw_cons (op_pv (w0 rfl) rfl rfl (pv_move (v := (.int .i64 (k : Int))) rfl rfl) ?_)
      refine rw_cons (op_pv (w0 rfl) rfl rfl (pv_add rfl rfl rfl (by omega) (by omega)) ?_)
      refine rw_cons (op_pv (w0 rfl) rfl rfl (pv_assign (v := (.int .i64 ((k : Int) + 1))) rfl rfl) ?_)
      refine rw_nil (hK46 _ _ ?_)
      refine hK25 _ _ (k + 1, (ys.set k (el xs k))) ⟨(iv (by omega)), rfl, rfl, rfl, trivial⟩ ⟨?_, hR, hO12, hc⟩ ?_
      · refine ⟨by omega, by simp; omega, fun j hj => ?_⟩
        rw [el_set _ _ _ _ (by omega)]
        by_cases hjk : j = k
        · subst hjk; simp
        · rw [if_neg hjk]; exact hye j (by omega)
      · (first | omega | (simp only []; omega))
    · -- else
      replace h36 := of_decide_eq_false h36
      refine cw_exit ?_
      refine hK18 _ _ ?_
      refine cw_seq fun K47 hK48 => ?_
      refine cw_region fun K49 hK50 => ?_
      refine rw_cons (op_pv (w0 rfl) rfl rfl (pv_move (v := (.slice (some ⟨g10, 0, none⟩) n n)) rfl rfl) ?_)
      refine rw_cons (op_pv (w0 rfl) rfl rfl (pv_assign (v := (.slice (some ⟨g10, 0, none⟩) n n)) rfl rfl) ?_)
      refine rw_nil (hK50 _ _ ?_)
      refine hK48 _ _ ?_
      refine cw_ret ?_
      refine fin1 rfl ?_
      have hxy : ys = xs := eq_of_el (by omega) (fun j hj => hye j (by omega))
      subst hxy
      exact ⟨_, rfl, hO12.less (by omega), hc⟩
end Go.Proofs.Ythgnlljpjpklpaa
