/-
  The walk of laws.szFileS, written by program: each line names the law of one operation. Conditions: those of the theorem.
-/
import Derived.Test.YthgnlljpjpklpaaProg
import Derived.Test.YthgnlljpjpklpaaDeep
import Derived.Test.YthgnlljpjpklpaaFlawsszFile
import Derived.KernelRfl
namespace Go.Proofs.Ythgnlljpjpklpaa
open Go Go.RowKit
set_option linter.unusedVariables false
set_option linter.unusedSimpArgs false
namespace szFileS_okF
theorem T56 : TI Try.prog 56 true (.agg #[.string { data := #[] }, .slice none 0 0]) 2 40 := TI.mk' Try.underlying56 rfl (by kernel_rfl)
theorem C45 : Callable Try.prog 45 := ⟨_, Try.func45, by kernel_rfl, by kernel_rfl⟩
end szFileS_okF
open szFileS_okF in
set_option maxHeartbeats 4000000 in
theorem szFileS_ok (A : Option Addr) (n c : Nat) (hs : List Fl) (m : Int) (w : World) (hR : RS encF 2 w w.heap.size A n hs) (hD : DX 0 w.heap.size [] w hs) (hm : 0 ≤ m ∧ m ≤ 1048576) (hn : n ≤ 9223372036854775807) (hz : ∀ k, k < hs.length → (el hs k).nm.size ≤ 9223372036854775807 ∧ (el hs k).n ≤ 9223372036854775807) :
    Fn Try.prog 18 [(.slice A n c), (.int .i64 m)] w fun v w' => ∃ r : Int, v = .int .i64 r ∧ (r < 0 ∨ (0 ≤ r ∧ n ≤ 1048576 ∧ SzOK hs)) ∧ Ch [] w w' := by
  have hlen := hR.len
  refine fn_of (n := 27) Try.func18 rfl rfl rfl rfl ?_
  have hc : Ch [] w w := Ch.refl _ _
  refine cw_seq fun K1 hK2 => ?_
  refine cw_region fun K3 hK4 => ?_
  refine rw_cons (op_pv (w0 rfl) rfl rfl (pv_assign (v := (.int .i64 0)) rfl rfl) ?_)
  refine rw_nil (hK4 _ _ ?_)
  refine hK2 _ _ ?_
  refine cw_seq fun K5 hK6 => ?_
  refine cw_region fun K7 hK8 => ?_
  refine rw_cons (op_pv (w0 rfl) rfl rfl (pv_move (v := (.int .i64 m)) rfl rfl) ?_)
  refine rw_cons (op_pv (w0 rfl) rfl rfl (pv_move (v := (.slice A n c)) rfl rfl) ?_)
  refine rw_cons (op_pv (w0 rfl) rfl rfl (pv_len Try.underlying22 rfl rfl) ?_)
  refine rw_cons (op_pv (w0 rfl) rfl rfl (pv_sub rfl rfl rfl (by omega) (by omega)) ?_)
  refine rw_cons (op_pv (w0 rfl) rfl rfl (pv_assign (v := (.int .i64 (m - (n : Int)))) rfl rfl) ?_)
  refine rw_nil (hK8 _ _ ?_)
  refine hK6 _ _ ?_
  refine cw_seq fun K9 hK10 => ?_
  refine cw_seq fun K11 hK12 => ?_
  refine cw_region fun K13 hK14 => ?_
  refine rw_cons (op_pv (w0 rfl) rfl rfl (pv_move (v := (.int .i64 (m - (n : Int)))) rfl rfl) ?_)
  refine rw_cons (op_pv (w0 rfl) rfl rfl (pv_lss rfl rfl rfl) ?_)
  refine rw_nil (hK14 _ _ ?_)
  refine hK12 _ _ ?_
  refine cw_cond rfl (fun h15 => ?_) (fun h15 => ?_)
  · -- then
    replace h15 := of_decide_eq_true h15
    refine cw_seq fun K16 hK17 => ?_
    refine cw_region fun K18 hK19 => ?_
    refine rw_cons (op_pv (w0 rfl) rfl rfl (pv_assign (v := (.int .i64 (-1))) rfl rfl) ?_)
    refine rw_nil (hK19 _ _ ?_)
    refine hK17 _ _ ?_
    refine cw_ret ?_
    refine fin1 rfl ?_
    exact ⟨_, rfl, .inl (by omega), hc⟩
  · -- else
    replace h15 := of_decide_eq_false h15
    refine cw_skip ?_
    refine hK10 _ _ ?_
    refine cw_seq fun K20 hK21 => ?_
    refine cw_seq fun K22 hK23 => ?_
    refine cw_region fun K24 hK25 => ?_
    refine rw_cons (op_pv (w0 rfl) rfl rfl (pv_assign (v := (.int .i64 0)) rfl rfl) ?_)
    refine rw_nil (hK25 _ _ ?_)
    refine hK23 _ _ ?_
    refine cw_block ?_
    refine cw_loop (σ := Nat × Int) (fun ⟨k, r⟩ => [(1, (.int .i64 r)), (5, (.int .i64 (k : Int))), (0, (.slice A n c))]) (fun ⟨k, r⟩ W => (k ≤ n ∧ 0 ≤ r ∧ r + n ≤ m ∧ ∀ j, j < k → (el hs j).nm.size ≤ 1048576 ∧ (el hs j).n ≤ 1048576) ∧ RS encF 2 W w.heap.size A n hs ∧ DX 0 w.heap.size ([]) W hs ∧ Ch [] w W) (fun ⟨k, r⟩ => n - k) (0, m - (n : Int)) ?_ ?_ ?_
    · exact ⟨rfl, rfl, rfl, trivial⟩
    · refine ⟨⟨Nat.zero_le _, by omega, by omega, fun j hj => by omega⟩, hR, hD, hc⟩
    · rintro ⟨k, r⟩ J30 w26 ⟨⟨hk, hr0, hrm, hye⟩, hR, hD, hc⟩ K27 hK28
      have hsz32 := hc.size
      have hzk := hz k
      refine cw_seq fun K33 hK34 => ?_
      refine cw_seq fun K35 hK36 => ?_
      refine cw_region fun K37 hK38 => ?_
      refine rw_cons (op_pv (w0 rfl) rfl rfl (pv_move (v := (.int .i64 (k : Int))) rfl rfl) ?_)
      refine rw_cons (op_pv (w0 rfl) rfl rfl (pv_move (v := (.slice A n c)) rfl rfl) ?_)
      refine rw_cons (op_pv (w0 rfl) rfl rfl (pv_len Try.underlying22 rfl rfl) ?_)
      refine rw_cons (op_pv (w0 rfl) rfl rfl (pv_lss rfl rfl rfl) ?_)
      refine rw_nil (hK38 _ _ ?_)
      refine hK36 _ _ ?_
      refine cw_cond rfl (fun h39 => ?_) (fun h39 => ?_)
      · -- then
        replace h39 := of_decide_eq_true h39
        refine cw_skip ?_
        refine hK34 _ _ ?_
        refine cw_seq fun K40 hK41 => ?_
        refine cw_block ?_
        refine cw_seq fun K42 hK43 => ?_
        have hzk2 := hzk (by omega)
        refine cw_region fun K44 hK45 => ?_
        refine rw_cons (op_pv (w0 rfl) rfl rfl (pv_move (v := (.slice A n c)) rfl rfl) ?_)
        refine rw_cons (op_pv (w0 rfl) rfl rfl (pv_move (v := (.int .i64 (k : Int))) rfl rfl) ?_)
        refine rw_cons (op_pv (w0 rfl) rfl rfl (pv_idx Try.underlying22 T56 rfl rfl rfl (hR.some (k := k) (by omega)) (by omega) (by omega)) ?_)
        have hR46 : RS encI 1 w26 w.heap.size (el hs k).A (el hs k).n (el hs k).ps := hD.rs (k := k) (by omega)
        have hln47 := hR46.len
        refine rw_cons (op_lv (w0 rfl) rfl rfl (lv_loadN T56 rfl rfl rfl (fun j v hv => hR.cellE (k := k) (by omega) hv)) ?_)
        refine rw_cons (op_pv (w0 rfl) rfl rfl (pv_move (v := (.int .i64 r)) rfl rfl) ?_)
        refine rw_cons (op_call (w0 rfl) rfl rfl (rc_call C45 rfl rfl) (szFile_ok (⟨(el hs k).nm, (el hs k).A, (el hs k).n, (el hs k).c, (el hs k).ps⟩ : Fl) r _ (by omega) (by dsimp only; omega)) ?_)
        rintro _ w48 ⟨r49, rfl, hr50, hch51⟩
        dsimp only at hr50
        have hsz52 := hch51.size
        replace hR := hR.ch0 hch51
        replace hD := hD.ch0 hch51
        replace hR46 := hR46.ch0 hch51
        replace hc := hc.step0 hch51
        refine rw_cons (op_pv (w0 rfl) rfl rfl (pv_assign (v := (.int .i64 r49)) rfl rfl) ?_)
        refine rw_nil (hK45 _ _ ?_)
        refine hK43 _ _ ?_
        refine cw_seq fun K53 hK54 => ?_
        refine cw_region fun K55 hK56 => ?_
        refine rw_cons (op_pv (w0 rfl) rfl rfl (pv_move (v := (.int .i64 r49)) rfl rfl) ?_)
        refine rw_cons (op_pv (w0 rfl) rfl rfl (pv_lss rfl rfl rfl) ?_)
        refine rw_nil (hK56 _ _ ?_)
        refine hK54 _ _ ?_
        refine cw_cond rfl (fun h57 => ?_) (fun h57 => ?_)
        · -- then
          replace h57 := of_decide_eq_true h57
          refine cw_seq fun K58 hK59 => ?_
          refine cw_region fun K60 hK61 => ?_
          refine rw_cons (op_pv (w0 rfl) rfl rfl (pv_assign (v := (.int .i64 (-1))) rfl rfl) ?_)
          refine rw_nil (hK61 _ _ ?_)
          refine hK59 _ _ ?_
          refine cw_ret ?_
          refine fin1 rfl ?_
          exact ⟨_, rfl, .inl (by omega), hc⟩
        · -- else
          replace h57 := of_decide_eq_false h57
          refine cw_skip ?_
          refine hK41 _ _ ?_
          refine cw_region fun K62 hK63 => ?_
          refine rw_cons (op_pv (w0 rfl) rfl rfl (pv_move (v := (.int .i64 (k : Int))) rfl rfl) ?_)
          refine rw_cons (op_pv (w0 rfl) rfl rfl (pv_add rfl rfl rfl (by omega) (by omega)) ?_)
          refine rw_cons (op_pv (w0 rfl) rfl rfl (pv_assign (v := (.int .i64 ((k : Int) + 1))) rfl rfl) ?_)
          refine rw_nil (hK63 _ _ ?_)
          refine hK28 _ _ (k + 1, r49) ⟨(iv (by omega)), (iv (by omega)), rfl, trivial⟩ ⟨?_, hR, hD, hc⟩ ?_
          · refine ⟨by omega, by omega, by omega, fun j hj => ?_⟩
            by_cases e : j = k
            · subst e; exact ⟨by omega, by omega⟩
            · exact hye j (by omega)
          · (first | omega | (simp only []; omega))
      · -- else
        replace h39 := of_decide_eq_false h39
        refine cw_exit ?_
        refine hK21 _ _ ?_
        refine cw_seq fun K64 hK65 => ?_
        refine cw_region fun K66 hK67 => ?_
        refine rw_cons (op_pv (w0 rfl) rfl rfl (pv_move (v := (.int .i64 r)) rfl rfl) ?_)
        refine rw_cons (op_pv (w0 rfl) rfl rfl (pv_assign (v := (.int .i64 r)) rfl rfl) ?_)
        refine rw_nil (hK67 _ _ ?_)
        refine hK65 _ _ ?_
        refine cw_ret ?_
        refine fin1 rfl ?_
        exact ⟨_, rfl, .inr ⟨by omega, by omega, fun j hj => by have := hye j (by omega); omega⟩, hc⟩
end Go.Proofs.Ythgnlljpjpklpaa
