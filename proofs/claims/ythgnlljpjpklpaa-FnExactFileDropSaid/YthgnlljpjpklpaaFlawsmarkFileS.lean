/-
  The walk of laws.markFileS, written by program: each line names the law of one operation. Conditions: those of the theorem.
-/
import Derived.Test.YthgnlljpjpklpaaProg
import Derived.Test.YthgnlljpjpklpaaDeep
import Derived.Test.YthgnlljpjpklpaaMark
import Derived.Test.YthgnlljpjpklpaaFlawsmarkText
import Derived.Test.YthgnlljpjpklpaaFlawsmarkIntS
import Derived.KernelRfl
namespace Go.Proofs.Ythgnlljpjpklpaa
open Go Go.RowKit
set_option linter.unusedVariables false
set_option linter.unusedSimpArgs false
namespace markFileS_okF
theorem T9 : TI Try.prog 9 false (.string { data := #[] }) 1 16 := TI.mk' Try.underlying9 rfl (by kernel_rfl)
theorem T25 : TI Try.prog 25 false (.slice none 0 0) 1 24 := TI.mk' Try.underlying25 rfl (by kernel_rfl)
theorem T48 : TI Try.prog 48 true (.agg #[.string { data := #[] }, .slice none 0 0]) 2 40 := TI.mk' Try.underlying48 rfl (by kernel_rfl)
theorem F48_0 : FldOK Try.prog 48 0 0 := ⟨_, _, 0, Try.underlying48, rfl, rfl, by kernel_rfl⟩
theorem F48_1 : FldOK Try.prog 48 1 1 := ⟨_, _, 0, Try.underlying48, rfl, rfl, by kernel_rfl⟩
theorem C25 : Callable Try.prog 25 := ⟨_, Try.func25, by kernel_rfl, by kernel_rfl⟩
theorem C52 : Callable Try.prog 52 := ⟨_, Try.func52, by kernel_rfl, by kernel_rfl⟩
end markFileS_okF
open markFileS_okF in
set_option maxHeartbeats 4000000 in
theorem markFileS_ok (A : Option Addr) (n c base B : Nat) (hs : List Fl) (m : Int) (w : World) (hO : Own encF 2 w base 48 (.slice A n c) hs) (hDO : DOw base B (obl (.slice A n c)) 3 w hs) (hZ : SzOK hs) (hB : ∀ s ∈ obl (.slice A n c), s < B) (hbw : B ≤ w.heap.size) (hbs : base ≤ B) (hm0 : 0 ≤ m) (hm : m ≤ 1099511627776) (hn : n ≤ 1048576) :
    Fn Try.prog 24 [(.slice A n c), (.int .i64 m)] w fun v w' => ∃ ys, v = .int .i64 (m + ((offs hs n : Nat) : Int)) ∧ Shape hs ys ∧ Marked m ys ∧ Own encF 2 w' base 48 (.slice A n c) ys ∧ DOw base B (obl (.slice A n c)) 3 w' ys ∧ Ch (List.range' base (B - base)) w w' := by
  have hub := hO.lt
  have hlen := hO.le.2.2
  refine fn_of (n := 28) Try.func24 rfl rfl rfl rfl ?_
  have hc : Ch (List.range' base (B - base)) w w := Ch.refl _ _
  refine cw_seq fun K1 hK2 => ?_
  refine cw_region fun K3 hK4 => ?_
  refine rw_cons (op_pv (w0 rfl) rfl rfl (pv_assign (v := (.int .i64 0)) rfl rfl) ?_)
  refine rw_nil (hK4 _ _ ?_)
  refine hK2 _ _ ?_
  refine cw_seq fun K5 hK6 => ?_
  refine cw_seq fun K7 hK8 => ?_
  refine cw_region fun K9 hK10 => ?_
  refine rw_cons (op_pv (w0 rfl) rfl rfl (pv_assign (v := (.int .i64 0)) rfl rfl) ?_)
  refine rw_nil (hK10 _ _ ?_)
  refine hK8 _ _ ?_
  refine cw_block ?_
  refine cw_loop (σ := Nat × (List Fl)) (fun ⟨i, ys⟩ => [(1, (.int .i64 (m + ((offs hs i : Nat) : Int)))), (5, (.int .i64 (i : Int))), (0, (.slice A n c)), (4, (.int .i64 0))]) (fun ⟨i, ys⟩ W => (i ≤ n ∧ Shape hs ys ∧ ∀ k, k < i → Marked1 (m + offs hs k) (el ys k)) ∧ Own encF 2 W base 48 (.slice A n c) ys ∧ DOw base B (obl (.slice A n c)) 3 W ys ∧ Ch (List.range' base (B - base)) w W) (fun ⟨i, ys⟩ => n - i) (0, hs) ?_ ?_ ?_
  · exact ⟨(iv (by simp [offs])), rfl, rfl, rfl, trivial⟩
  · refine ⟨⟨Nat.zero_le _, Shape.refl _, fun k hk => by omega⟩, hO.less (by omega), hDO, hc⟩
  · rintro ⟨i, ys⟩ J15 w11 ⟨⟨hi, hsh, hmk⟩, hO, hDO, hc⟩ K12 hK13
    have hsz17 := hc.size
    have hub := hO.lt
    have hyl := hsh.1
    have hob := offs_bd hZ.nok i (by omega)
    have hsi := hsh.2 i
    have hzi := fun h => hZ i h
    refine cw_seq fun K18 hK19 => ?_
    refine cw_seq fun K20 hK21 => ?_
    refine cw_region fun K22 hK23 => ?_
    refine rw_cons (op_pv (w0 rfl) rfl rfl (pv_move (v := (.int .i64 (i : Int))) rfl rfl) ?_)
    refine rw_cons (op_pv (w0 rfl) rfl rfl (pv_move (v := (.slice A n c)) rfl rfl) ?_)
    refine rw_cons (op_pv (w0 rfl) rfl rfl (pv_len Try.underlying24 rfl rfl) ?_)
    refine rw_cons (op_pv (w0 rfl) rfl rfl (pv_lss rfl rfl rfl) ?_)
    refine rw_nil (hK23 _ _ ?_)
    refine hK21 _ _ ?_
    refine cw_cond rfl (fun h24 => ?_) (fun h24 => ?_)
    · -- then
      replace h24 := of_decide_eq_true h24
      refine cw_skip ?_
      refine hK19 _ _ ?_
      refine cw_seq fun K25 hK26 => ?_
      refine cw_block ?_
      refine cw_seq fun K27 hK28 => ?_
      have hzi4 := hzi (by omega)
      refine cw_region fun K29 hK30 => ?_
      refine rw_cons (op_pv (w0 rfl) rfl rfl (pv_move (v := (.slice A n c)) rfl rfl) ?_)
      refine rw_cons (op_pv (w0 rfl) rfl rfl (pv_move (v := (.int .i64 (i : Int))) rfl rfl) ?_)
      refine rw_cons (op_pv (w0 rfl) rfl rfl (pv_move (v := (.int .i64 (m + ((offs hs i : Nat) : Int)))) rfl rfl) ?_)
      refine rw_cons (op_call (w0 rfl) rfl rfl (rc_call C52 rfl rfl) (markText_ok (m + ((offs hs i : Nat) : Int)) _ (by omega)) ?_)
      rintro _ w31 ⟨rfl, hch32⟩
      have hsz33 := hch32.size
      replace hO := hO.ch0 hch32
      replace hDO := hDO.ch0 hch32
      replace hc := hc.step0 hch32
      refine rw_cons (op_pv (w0 rfl) rfl rfl (pv_idx Try.underlying24 T48 rfl rfl rfl ((hO.rs (fun _ => rfl)).some (k := i) (by omega)) (by omega) (by omega)) ?_)
      refine rw_cons (op_pv (w0 rfl) rfl rfl (pv_fld F48_0 rfl rfl) ?_)
      refine rw_cons (op_store_ownA (k := i) (off := 0) (⟨(mtx (m + ((offs hs i : Nat) : Int))), (el ys i).A, (el ys i).n, (el ys i).c, (el ys i).ps⟩) T9 hO (fun _ => rfl) (w0 rfl) rfl rfl rfl rfl rfl (one_all rfl) (by omega) (Nat.le_of_ble_eq_true rfl) rfl ?_)
      rintro w34 hO36 hch35
      have hsz37 := hch35.size
      replace hDO := hDO.ch hch35 (fun s hs => by first | exact .inr (.inl hs) | exact .inr (.inl (obl_any hs)) | exact .inr (.inr (Nat.le_trans (by omega) (hO.off s hs))) | exact .inl (Nat.lt_of_lt_of_le (hub s hs) (by omega)))
      replace hc := hc.step hch35 (fun s hs => .inl (range_mem (hO.off s hs) (hB s hs)))
      clear hO; have hO := hO36; clear hO36
      refine rw_nil (hK30 _ _ ?_)
      refine hK28 _ _ ?_
      refine cw_seq fun K38 hK39 => ?_
      obtain ⟨zs, hzq⟩ : ∃ z, z = (ys.set i (⟨(mtx (m + ((offs hs i : Nat) : Int))), (el ys i).A, (el ys i).n, (el ys i).c, (el ys i).ps⟩)) := ⟨_, rfl⟩
      have hze : ∀ k, k ≠ i → el zs k = el ys k := fun k hk => by rw [hzq, el_setF _ _ _ _ (by omega), if_neg hk]
      have hzi2 : el zs i = ⟨mtx (m + ((offs hs i : Nat) : Int)), (el ys i).A, (el ys i).n, (el ys i).c, (el ys i).ps⟩ := by rw [hzq, el_setF _ _ _ _ (by omega), if_pos rfl]
      have hzn : (el zs i).nm = mtx (m + ((offs hs i : Nat) : Int)) := by rw [hzi2]
      have hzs : Shape hs zs := by rw [hzq]; exact hsh.set (by omega) rfl rfl rfl
      have hzl := hzs.1
      have hzsi := hzs.2 i
      replace hDO : DOw base B (obl (.slice A n c)) 3 w34 zs := by rw [hzq]; exact hDO.name (by omega) _
      rw [← hzq] at hO
      have hzi3 := hzi (by omega)
      refine cw_region fun K40 hK41 => ?_
      refine rw_cons (op_pv (w0 rfl) rfl rfl (pv_move (v := (.int .i64 (m + ((offs hs i : Nat) : Int)))) rfl rfl) ?_)
      refine rw_cons (op_pv (w0 rfl) rfl rfl (pv_add rfl rfl rfl (by omega) (by omega)) ?_)
      refine rw_cons (op_pv (w0 rfl) rfl rfl (pv_assign (v := (.int .i64 ((m + ((offs hs i : Nat) : Int)) + 1))) rfl rfl) ?_)
      refine rw_nil (hK41 _ _ ?_)
      refine hK39 _ _ ?_
      refine cw_region fun K42 hK43 => ?_
      refine rw_cons (op_pv (w0 rfl) rfl rfl (pv_move (v := (.slice A n c)) rfl rfl) ?_)
      refine rw_cons (op_pv (w0 rfl) rfl rfl (pv_move (v := (.int .i64 (i : Int))) rfl rfl) ?_)
      refine rw_cons (op_pv (w0 rfl) rfl rfl (pv_idx Try.underlying24 T48 rfl rfl rfl ((hO.rs (fun _ => rfl)).some (k := i) (by omega)) (by omega) (by omega)) ?_)
      refine rw_cons (op_pv (w0 rfl) rfl rfl (pv_fld F48_1 rfl rfl) ?_)
      have hR44 : RS encI 1 w34 B (el zs i).A (el zs i).n (el zs i).ps := hDO.rs (k := i) (by omega)
      have hln45 := hR44.len
      refine rw_cons (op_lv (w0 rfl) rfl rfl (lv_load T25 rfl rfl ((hO.rs (fun _ => rfl)).cellE (k := i) (j := 1) (by omega) rfl)) ?_)
      clear hR44
      have hP := hDO.own i (by omega)
      have hubP := hP.lt
      have hPo := hDO.off i (by omega)
      have hdjP : ∀ s ∈ obl (.slice A n c), s ∉ obl (.slice (el zs i).A (el zs i).n (el zs i).c) := fun s h1 h2 => (hPo s h2).1 h1
      refine rw_cons (op_pv (w0 rfl) rfl rfl (pv_move (v := (.int .i64 ((m + ((offs hs i : Nat) : Int)) + 1))) rfl rfl) ?_)
      refine rw_cons (op_call (w0 rfl) rfl rfl (rc_call C25 rfl rfl) (markIntS_ok _ (el zs i).n _ _ _ ((m + ((offs hs i : Nat) : Int)) + 1) _ hP (by omega) (by omega) (by omega) (by omega)) ?_)
      rintro _ w46 ⟨ys47, hyl48, hye49, rfl, hO50, hch51⟩
      have hsz52 := hch51.size
      replace hO := hO.ch hch51 (dj_as hdjP)
      replace hc := hc.step hch51 (fun s hs => .inl (range_mem (hP.off s hs) (hPo s hs).2))
      clear hP; have hP := hO50; clear hO50
      have hyl53 := hyl48
      have hDOn := hDO.put (i := i) (by omega) (mtx (m + ((offs hs i : Nat) : Int))) hch51 hP
      refine rw_cons (op_pv (w0 rfl) rfl rfl (pv_assign (v := (.int .i64 (((m + ((offs hs i : Nat) : Int)) + 1) + (((el zs i).n) : Int)))) rfl rfl) ?_)
      refine rw_nil (hK43 _ _ ?_)
      refine hK26 _ _ ?_
      refine cw_region fun K54 hK55 => ?_
      refine rw_cons (op_pv (w0 rfl) rfl rfl (pv_move (v := (.int .i64 (i : Int))) rfl rfl) ?_)
      refine rw_cons (op_pv (w0 rfl) rfl rfl (pv_add rfl rfl rfl (by omega) (by omega)) ?_)
      refine rw_cons (op_pv (w0 rfl) rfl rfl (pv_assign (v := (.int .i64 ((i : Int) + 1))) rfl rfl) ?_)
      refine rw_nil (hK55 _ _ ?_)
      refine hK13 _ _ (i + 1, zs.set i ⟨mtx (m + ((offs hs i : Nat) : Int)), (el zs i).A, (el zs i).n, (el zs i).c, ys47⟩) ⟨(iv (by simp only [offs]; omega)), (iv (by omega)), rfl, rfl, trivial⟩ ⟨?_, (hO.ghost (i := i) (by omega) (show encF (⟨mtx (m + ((offs hs i : Nat) : Int)), (el zs i).A, (el zs i).n, (el zs i).c, ys47⟩ : Fl) = encF (el zs i) by unfold encF; dsimp only; rw [hzn])), hDOn, hc⟩ ?_
      · refine ⟨by omega, hzs.set (by omega) rfl rfl rfl, fun k hk => ?_⟩
        rw [el_setF _ _ _ _ (by omega)]
        by_cases e : k = i
        · subst e; rw [if_pos rfl]; exact ⟨rfl, hyl48, fun j hj => hye49 j hj⟩
        · rw [if_neg e, hze k e]; exact hmk k (by omega)
      · (first | omega | (simp only []; omega))
    · -- else
      replace h24 := of_decide_eq_false h24
      refine cw_exit ?_
      refine hK6 _ _ ?_
      refine cw_seq fun K56 hK57 => ?_
      refine cw_region fun K58 hK59 => ?_
      refine rw_cons (op_pv (w0 rfl) rfl rfl (pv_move (v := (.int .i64 (m + ((offs hs i : Nat) : Int)))) rfl rfl) ?_)
      refine rw_cons (op_pv (w0 rfl) rfl rfl (pv_assign (v := (.int .i64 (m + ((offs hs i : Nat) : Int)))) rfl rfl) ?_)
      refine rw_nil (hK59 _ _ ?_)
      refine hK57 _ _ ?_
      refine cw_ret ?_
      refine fin1 rfl ?_
      obtain rfl : i = n := by omega
      exact ⟨ys, rfl, hsh, fun k hk => by rw [offs_same (fun k => (hsh.2 k).2.1)]; exact hmk k (by omega), hO, hDO, hc⟩
end Go.Proofs.Ythgnlljpjpklpaa
