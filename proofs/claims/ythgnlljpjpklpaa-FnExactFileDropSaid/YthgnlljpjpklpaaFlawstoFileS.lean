/-
  The walk of laws.toFileS, written by program: each line names the law of one operation. Conditions: those of the theorem.
-/
import Derived.Test.YthgnlljpjpklpaaProg
import Derived.Test.YthgnlljpjpklpaaDeep
import Derived.Test.YthgnlljpjpklpaaFlawstoFile
import Derived.KernelRfl
namespace Go.Proofs.Ythgnlljpjpklpaa
open Go Go.RowKit
set_option linter.unusedVariables false
set_option linter.unusedSimpArgs false
namespace toFileS_okF
theorem T48 : TI Try.prog 48 true (.agg #[.string { data := #[] }, .slice none 0 0]) 2 40 := TI.mk' Try.underlying48 rfl (by kernel_rfl)
theorem T56 : TI Try.prog 56 true (.agg #[.string { data := #[] }, .slice none 0 0]) 2 40 := TI.mk' Try.underlying56 rfl (by kernel_rfl)
theorem C48 : Callable Try.prog 48 := ⟨_, Try.func48, by kernel_rfl, by kernel_rfl⟩
end toFileS_okF
open toFileS_okF in
set_option maxHeartbeats 4000000 in
theorem toFileS_ok (A : Option Addr) (n c : Nat) (hs : List Fl) (w : World) (hR : RS encF 2 w w.heap.size A n hs) (hD : DX 0 w.heap.size [] w hs) (hZ : SzOK hs) (hN : n ≤ 1099511627776) :
    Fn Try.prog 20 [(.slice A n c)] w fun v w' => ∃ A c h, v = .slice A h.length c ∧ Own encF 2 w' w.heap.size 48 (.slice A h.length c) h ∧ DOw w.heap.size w'.heap.size (obl (.slice A h.length c)) 3 w' h ∧ fvs h = fvs hs ∧ SzOK h ∧ Ch [] w w' := by
  have hlen := hR.len
  refine fn_of (n := 23) Try.func20 rfl rfl rfl rfl ?_
  have hc : Ch [] w w := Ch.refl _ _
  refine cw_seq fun K1 hK2 => ?_
  refine cw_region fun K3 hK4 => ?_
  refine rw_cons (op_pv (w0 rfl) rfl rfl (pv_assign (v := (.slice none 0 0)) rfl rfl) ?_)
  refine rw_nil (hK4 _ _ ?_)
  refine hK2 _ _ ?_
  refine cw_seq fun K5 hK6 => ?_
  refine cw_region fun K7 hK8 => ?_
  refine rw_cons (op_pv (w0 rfl) rfl rfl (pv_move (v := (.slice A n c)) rfl rfl) ?_)
  refine rw_cons (op_pv (w0 rfl) rfl rfl (pv_len Try.underlying22 rfl rfl) ?_)
  refine rw_cons (op_make (enc := encF) n default Try.underlying24 T48 (fun _ => rfl) rfl (by decide) (w0 rfl) rfl rfl rfl rfl rfl (by omega) (by unfold maxLen; omega) ?_)
  rintro g10 w9 hg13 hg14 hO12 hch11
  have hsz15 := hch11.size
  replace hR := hR.ch0 hch11
  replace hD := hD.ch0 hch11
  replace hc := hc.step0 hch11
  replace hO12 := hO12.less (b := w.heap.size) (by omega)
  have hub16 := hO12.lt
  refine rw_cons (op_pv (w0 rfl) rfl rfl (pv_assign (v := (.slice (some ⟨g10, 0, none⟩) n n)) rfl rfl) ?_)
  refine rw_nil (hK8 _ _ ?_)
  refine hK6 _ _ ?_
  refine cw_seq fun K17 hK18 => ?_
  refine cw_seq fun K19 hK20 => ?_
  refine cw_region fun K21 hK22 => ?_
  refine rw_cons (op_pv (w0 rfl) rfl rfl (pv_assign (v := (.int .i64 0)) rfl rfl) ?_)
  refine rw_nil (hK22 _ _ ?_)
  refine hK20 _ _ ?_
  refine cw_block ?_
  refine cw_loop (σ := Nat × (List Fl)) (fun ⟨k, ys⟩ => [(4, (.int .i64 (k : Int))), (0, (.slice A n c)), (2, (.slice none 0 0)), (3, (.slice (some ⟨g10, 0, none⟩) n n))]) (fun ⟨k, ys⟩ W => (k ≤ n ∧ ys.length = n ∧ SzOK ys ∧ ∀ j, j < k → fv (el ys j) = fv (el hs j)) ∧ RS encF 2 W w.heap.size A n hs ∧ DX 0 w.heap.size ([]) W hs ∧ Own encF 2 W w.heap.size 48 (.slice (some ⟨g10, 0, none⟩) n n) ys ∧ DOo w.heap.size (obl (.slice (some ⟨g10, 0, none⟩) n n)) 3 W ys ∧ Ch [] w W) (fun ⟨k, ys⟩ => n - k) (0, (List.replicate n default)) ?_ ?_ ?_
  · exact ⟨rfl, rfl, rfl, rfl, trivial⟩
  · refine ⟨⟨Nat.zero_le _, by simp, SzOK.zero _, fun j hj => by omega⟩, hR, hD, hO12.less (by omega), ⟨0, by omega, DOw.zero _⟩, hc⟩
  · rintro ⟨k, ys⟩ J27 w23 ⟨⟨hk, hyl, hZy, hye⟩, hR, hD, hO12, hDO, hc⟩ K24 hK25
    have hsz29 := hc.size
    obtain ⟨B1_30, hB131, hDO⟩ := hDO
    have hub16 := hO12.lt
    refine cw_seq fun K32 hK33 => ?_
    refine cw_seq fun K34 hK35 => ?_
    refine cw_region fun K36 hK37 => ?_
    refine rw_cons (op_pv (w0 rfl) rfl rfl (pv_move (v := (.int .i64 (k : Int))) rfl rfl) ?_)
    refine rw_cons (op_pv (w0 rfl) rfl rfl (pv_move (v := (.slice A n c)) rfl rfl) ?_)
    refine rw_cons (op_pv (w0 rfl) rfl rfl (pv_len Try.underlying22 rfl rfl) ?_)
    refine rw_cons (op_pv (w0 rfl) rfl rfl (pv_lss rfl rfl rfl) ?_)
    refine rw_nil (hK37 _ _ ?_)
    refine hK35 _ _ ?_
    refine cw_cond rfl (fun h38 => ?_) (fun h38 => ?_)
    · -- then
      replace h38 := of_decide_eq_true h38
      refine cw_skip ?_
      refine hK33 _ _ ?_
      refine cw_seq fun K39 hK40 => ?_
      refine cw_block ?_
      have hzk := hZ k (by omega)
      refine cw_region fun K41 hK42 => ?_
      refine rw_cons (op_pv (w0 rfl) rfl rfl (pv_move (v := (.slice (some ⟨g10, 0, none⟩) n n)) rfl rfl) ?_)
      refine rw_cons (op_pv (w0 rfl) rfl rfl (pv_move (v := (.int .i64 (k : Int))) rfl rfl) ?_)
      refine rw_cons (op_pv (w0 rfl) rfl rfl (pv_move (v := (.slice A n c)) rfl rfl) ?_)
      refine rw_cons (op_pv (w0 rfl) rfl rfl (pv_move (v := (.int .i64 (k : Int))) rfl rfl) ?_)
      refine rw_cons (op_pv (w0 rfl) rfl rfl (pv_idx Try.underlying22 T56 rfl rfl rfl (hR.some (k := k) (by omega)) (by omega) (by omega)) ?_)
      have hR43 : RS encI 1 w23 w.heap.size (el hs k).A (el hs k).n (el hs k).ps := hD.rs (k := k) (by omega)
      have hln44 := hR43.len
      refine rw_cons (op_lv (w0 rfl) rfl rfl (lv_loadN T56 rfl rfl rfl (fun j v hv => hR.cellE (k := k) (by omega) hv)) ?_)
      refine rw_cons (op_call (w0 rfl) rfl rfl (rc_call C48 rfl rfl) (toFile_ok (⟨(el hs k).nm, (el hs k).A, (el hs k).n, (el hs k).c, (el hs k).ps⟩ : Fl) _ (hR43.more (by omega)) (by dsimp only; omega)) ?_)
      rintro _ w45 ⟨A46, c47, rfl, hO48, hch49⟩
      have hsz50 := hch49.size
      replace hR := hR.ch0 hch49
      replace hD := hD.ch0 hch49
      replace hO12 := hO12.ch0 hch49
      replace hDO := hDO.ch0 hch49
      replace hR43 := hR43.ch0 hch49
      replace hc := hc.step0 hch49
      replace hO48 : Own encI 1 w45 w23.heap.size 3 (.slice A46 (el hs k).ps.length c47) (el hs k).ps := hO48
      have hub51 := hO48.lt
      have hdj52 : ∀ s ∈ obl (.slice (some ⟨g10, 0, none⟩) n n), s ∉ obl (.slice A46 (el hs k).ps.length c47) := fun s hs hs2 => by first | (have h1 := hub16 s hs; have h2 := hO48.off s hs2; omega) | (simp [obl, Value.ownBlock] at hs; done) | (simp [obl, Value.ownBlock] at hs2; done) | (have h1 := hub16 s hs; simp [obl, Value.ownBlock] at hs2; omega)
      refine rw_cons (op_pv (w0 rfl) rfl rfl (pv_idx Try.underlying24 T48 rfl rfl rfl ((hO12.rs (fun _ => rfl)).some (k := k) (by omega)) (by omega) (by omega)) ?_)
      refine rw_cons (op_store_ownA (k := k) (off := 0) (⟨(el hs k).nm, A46, (el hs k).ps.length, c47, (el hs k).ps⟩) T48 hO12 (fun _ => rfl) (w0 rfl) rfl rfl rfl rfl rfl (one_all rfl) (by omega) (Nat.le_of_ble_eq_true rfl) rfl ?_)
      rintro w53 hO55 hch54
      have hsz56 := hch54.size
      replace hR := hR.ch hch54 (hO12.off.le (by omega))
      replace hD := hD.ch hch54 (fun s hs => by first | exact .inr (.inl hs) | exact .inr (.inl (obl_any hs)) | exact .inr (.inr (Nat.le_trans (by omega) (hO12.off s hs))) | exact .inl (Nat.lt_of_lt_of_le (hub16 s hs) (by omega)))
      replace hDO := hDO.ch hch54 (fun s hs => by first | exact .inr (.inl hs) | exact .inr (.inl (obl_any hs)) | exact .inr (.inr (Nat.le_trans (by omega) (hO12.off s hs))) | exact .inl (Nat.lt_of_lt_of_le (hub16 s hs) (by omega)))
      replace hR43 := hR43.ch hch54 (hO12.off.le (by omega))
      replace hO48 := hO48.ch hch54 (dj_sw hdj52)
      replace hc := (hO12.off.le (by omega)).step hc hch54
      clear hO12; have hO12 := hO55; clear hO55
      refine rw_nil (hK42 _ _ ?_)
      refine hK40 _ _ ?_
      refine cw_region fun K57 hK58 => ?_
      refine rw_cons (op_pv (w0 rfl) rfl rfl (pv_move (v := (.int .i64 (k : Int))) rfl rfl) ?_)
      refine rw_cons (op_pv (w0 rfl) rfl rfl (pv_add rfl rfl rfl (by omega) (by omega)) ?_)
      refine rw_cons (op_pv (w0 rfl) rfl rfl (pv_assign (v := (.int .i64 ((k : Int) + 1))) rfl rfl) ?_)
      refine rw_nil (hK58 _ _ ?_)
      have hDO9 : DOo w.heap.size (obl (.slice (some ⟨g10, 0, none⟩) n n)) 3 w53 (ys.set k (⟨(el hs k).nm, A46, (el hs k).ps.length, c47, (el hs k).ps⟩)) := ⟨w53.heap.size, Nat.le_refl _, hDO.setN (by omega) _ hO48 (by omega) (by omega) (by omega) (by omega) (dj_sw hdj52)⟩
      refine hK25 _ _ (k + 1, (ys.set k (⟨(el hs k).nm, A46, (el hs k).ps.length, c47, (el hs k).ps⟩))) ⟨(iv (by omega)), rfl, rfl, rfl, trivial⟩ ⟨?_, hR, hD, hO12, hDO9, hc⟩ ?_
      · refine ⟨by omega, by simp; omega, hZy.set _ hzk.1 (by dsimp only; omega), fun j hj => ?_⟩
        rw [el_setF _ _ _ _ (by omega)]
        by_cases hjk : j = k
        · subst hjk; rw [if_pos rfl]; rfl
        · rw [if_neg hjk]; exact hye j (by omega)
      · (first | omega | (simp only []; omega))
    · -- else
      replace h38 := of_decide_eq_false h38
      refine cw_exit ?_
      refine hK18 _ _ ?_
      refine cw_seq fun K59 hK60 => ?_
      refine cw_region fun K61 hK62 => ?_
      refine rw_cons (op_pv (w0 rfl) rfl rfl (pv_move (v := (.slice (some ⟨g10, 0, none⟩) n n)) rfl rfl) ?_)
      refine rw_cons (op_pv (w0 rfl) rfl rfl (pv_assign (v := (.slice (some ⟨g10, 0, none⟩) n n)) rfl rfl) ?_)
      refine rw_nil (hK62 _ _ ?_)
      refine hK60 _ _ ?_
      refine cw_ret ?_
      refine fin1 rfl ?_
      exact ⟨_, _, ys, sl_as hO12 rfl, own_as (hO12.less (by omega)) rfl, hDO.as (by omega) (by omega), fvs_eq (by omega) (fun j hj => hye j (by omega)), hZy, hc⟩
end Go.Proofs.Ythgnlljpjpklpaa
