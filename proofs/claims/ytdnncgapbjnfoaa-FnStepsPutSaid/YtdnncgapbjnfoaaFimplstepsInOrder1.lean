/-
  The walk of impl.stepsInOrder$1, written by program: each line names the law of one operation. Conditions: those of the theorem.
-/
import Derived.Test.YtdnncgapbjnfoaaProg
import Derived.Test.YtdnncgapbjnfoaaSteps
import Derived.KernelRfl
namespace Go.Proofs.Ytdnncgapbjnfoaa
open Go Go.RowKit
set_option linter.unusedVariables false
set_option linter.unusedSimpArgs false
namespace steps_itF
theorem T23 : TI Try.prog 23 false (.slice none 0 0) 1 24 := TI.mk' Try.underlying23 rfl (by kernel_rfl)
theorem T27 : TI Try.prog 27 true (.agg #[.bool false, .int .i64 0, .int .i64 0]) 3 24 := TI.mk' Try.underlying27 rfl (by kernel_rfl)
end steps_itF
open steps_itF in
set_option maxHeartbeats 4000000 in
theorem steps_it (l : Nat) (A : Option Addr) (n c g1 b0 : Nat) (hs : List Stp) (J Jx : List It → World → Prop) (w : World) (hJa : AbidesFrom w.heap.size J) (hY : ∀ pre x W1, J pre W1 → pre.length < hs.length → x = (pre.length, el hs pre.length) → YieldAt (FR none) 0 Try.prog l #[.int .i64 (x.1 : Int), aggP x.2] W1 fun e W' => (e = .returned (.bool true) ∧ J (pre ++ [x]) W' ∧ Kp g1 b0 W1 W') ∨ (e = .returned (.bool false) ∧ Jx (pre ++ [x]) W')) (h0 : J [] w) (hB : Blk w g1 23 [.slice A n c]) (hR : RS encP 3 w b0 A n hs) (hb0 : b0 ≤ w.heap.size) (hn : n ≤ 1099511627776) :
    CallsIn Fence.wide 1 Try.prog 41 #[.func (.yield l) #[] #[], .pointer (some ⟨g1, 0, none⟩)] w fun e W' => (∃ v, e = .returned v) ∧ ((∃ xs, xs = items hs ∧ J xs W') ∨ ∃ pre, pre <+: items hs ∧ Jx pre W') := by
  have hlen := hR.len
  have hBl := hB.lt
  refine callsIn_own (n := 18) (args := [.func (.yield l) #[] #[], .pointer (some ⟨g1, 0, none⟩)]) Try.func41 rfl rfl rfl rfl ?_
  refine cr_seq fun K1 hK2 => ?_
  refine cr_region fun K3 hK4 => ?_
  refine rr_cons rfl (op_lv (w0 rfl) rfl rfl (lv_load T23 rfl rfl (hB.cell (i := 0) rfl)) ?_)
  refine rr_cons rfl (op_pv (w0 rfl) rfl rfl (pv_len Try.underlying23 rfl rfl) ?_)
  refine rr_cons rfl (op_pv (w0 rfl) rfl rfl (pv_move (v := (.int .i64 0)) rfl rfl) ?_)
  refine rr_nil (hK4 _ _ ?_)
  refine hK2 _ _ ?_
  refine cr_block ?_
  refine cr_loop (σ := Nat) (fun k => [(7, (.int .i64 (k : Int))), (0, (.func (.yield l) #[] #[])), (5, (.slice A n c)), (6, (.int .i64 (n : Int)))]) (fun k W => (k ≤ n ∧ b0 ≤ W.heap.size) ∧ Blk W g1 23 [.slice A n c] ∧ RS encP 3 W b0 A n hs ∧ J ((items hs).take k) W ∧ Ch [] W W) (fun k => n - k) 0 ?_ ?_ ?_
  · exact ⟨rfl, rfl, rfl, rfl, trivial⟩
  · refine ⟨⟨Nat.zero_le _, hb0⟩, hB, hR, h0, Ch.refl _ _⟩
  · rintro k J9 w5 ⟨⟨hk, hbW⟩, hB, hR, hJ, hcI⟩ K6 hK7
    have hbl11 := hB.lt
    refine cr_seq fun K12 hK13 => ?_
    refine cr_region fun K14 hK15 => ?_
    refine rr_cons rfl (op_pv (w0 rfl) rfl rfl (pv_lss rfl rfl rfl) ?_)
    refine rr_nil (hK15 _ _ ?_)
    refine hK13 _ _ ?_
    refine cr_seq fun K16 hK17 => ?_
    refine cr_cond rfl (fun h18 => ?_) (fun h18 => ?_)
    · -- then
      replace h18 := of_decide_eq_true h18
      refine cr_skip ?_
      refine hK17 _ _ ?_
      refine cr_seq fun K19 hK20 => ?_
      refine cr_block ?_
      refine cr_seq fun K21 hK22 => ?_
      refine cr_region fun K23 hK24 => ?_
      refine rr_cons rfl (op_pv (w0 rfl) rfl rfl (pv_move (v := (.int .i64 (k : Int))) rfl rfl) ?_)
      refine rr_cons rfl (op_pv (w0 rfl) rfl rfl (pv_idx Try.underlying23 T27 rfl rfl rfl (hR.some (k := k) (by omega)) (by omega) (by omega)) ?_)
      refine rr_cons rfl (op_lv (w0 rfl) rfl rfl (lv_loadN T27 rfl rfl rfl (fun j v hv => hR.cellE (k := k) (by omega) hv)) ?_)
      refine rr_cons rfl (op_alloc T27 (w0 rfl) rfl rfl rfl ?_)
      rintro g26 w25 hg29 hg30 hB28 hch27
      have hsz31 := hch27.size
      replace hB := hB.ch0 hch27
      replace hR := hR.ch0 hch27
      skip
      replace hcI := hcI.step0 hch27
      replace hB28 : Blk w25 g26 27 [(.bool false), (.int .i64 0), (.int .i64 0)] := hB28
      refine rr_cons rfl (op_pv (w0 rfl) rfl rfl (pv_assign (v := (.int .i64 (k : Int))) rfl rfl) ?_)
      refine rr_cons rfl (op_store_blk T27 hB28 (w0 rfl) rfl rfl rfl rfl rfl (one_all rfl) (Nat.le_of_ble_eq_true rfl) ?_)
      rintro w32 hB34 hch33
      have hsz35 := hch33.size
      replace hB := hB.ch hch33 (by simp; omega)
      replace hR := hR.ch hch33 (off1 (by omega))
      skip
      replace hcI := (off1 (by omega)).step hcI hch33
      replace hB28 : Blk w32 g26 27 [(.bool (el hs k).r), (.int .i64 (el hs k).k), (.int .i64 (el hs k).v)] := hB34
      clear hB34
      refine rr_nil (hK24 _ _ ?_)
      refine hK22 _ _ ?_
      refine cr_seq fun K36 hK37 => ?_
      refine cr_region fun K38 hK39 => ?_
      refine rr_cons rfl (op_pv (w0 rfl) rfl rfl (pv_move (v := (.func (.yield l) #[] #[])) rfl rfl) ?_)
      refine rr_cons rfl (op_pv (w0 rfl) rfl rfl (pv_move (v := (.int .i64 (k : Int))) rfl rfl) ?_)
      refine rr_cons rfl (op_lv (w0 rfl) rfl rfl (lv_loadN T27 rfl rfl rfl (fun j v hv => hB28.cellA hv)) ?_)
      refine rr_yield (A := fun W' => J ((items hs).take k ++ [(k, el hs k)]) W' ∧ Kp g1 b0 w32 W') (B := fun W' => Jx ((items hs).take k ++ [(k, el hs k)]) W') rfl rfl rfl rfl rfl rfl (hY _ (k, el hs k) _ (abide hJa hJ hcI) (by rw [List.length_take, items_len]; omega) (by rw [List.length_take, items_len, Nat.min_eq_left (by omega)])) ?_ ?_
      · rintro w40 ⟨hJ41, hk42⟩
        replace hR := hk42.rs hR; replace hB := hk42.blk hB; have hsz43 := hk42.size
        refine rr_cons rfl (op_pv (w0 rfl) rfl rfl (pv_not rfl rfl) ?_)
        refine rr_nil (hK39 _ _ ?_)
        refine hK37 _ _ ?_
        refine cr_cond rfl (fun h44 => ?_) (fun h44 => ?_)
        · -- then
          cases h44
        · -- else
          clear h44
          refine cr_skip ?_
          refine hK20 _ _ ?_
          refine cr_region fun K45 hK46 => ?_
          refine rr_cons rfl (op_pv (w0 rfl) rfl rfl (pv_add rfl rfl rfl (by omega) (by omega)) ?_)
          refine rr_cons rfl (op_pv (w0 rfl) rfl rfl (pv_move (v := (.int .i64 ((k : Int) + 1))) rfl rfl) ?_)
          refine rr_nil (hK46 _ _ ?_)
          refine hK7 _ _ (k + 1) ⟨(iv (by omega)), rfl, rfl, rfl, trivial⟩ ⟨?_, hB, hR, (by rw [items_take (by omega)]; exact hJ41), (Ch.refl _ _)⟩ ?_
          · exact ⟨by omega, by omega⟩
          · (first | omega | (simp only []; omega))
      · intro w47 hJ48
        refine rr_cons rfl (op_pv (w0 rfl) rfl rfl (pv_not rfl rfl) ?_)
        refine rr_nil (hK39 _ _ ?_)
        refine hK37 _ _ ?_
        refine cr_cond rfl (fun h49 => ?_) (fun h49 => ?_)
        · -- then
          clear h49
          refine cr_ret ?_
          exact ⟨.inr rfl, .inr ⟨_, by rw [← items_take (by omega)]; exact List.take_prefix _ _, hJ48⟩⟩
        · -- else
          cases h49
    · -- else
      replace h18 := of_decide_eq_false h18
      refine cr_exit ?_
      dsimp only [thenQ, blockQ, Nat.beq, cond]
      have e : (items hs).take k = items hs := List.take_of_length_le (by rw [items_len]; omega)
      rw [e] at hJ
      exact ⟨.inl rfl, .inl ⟨_, rfl, abide hJa hJ hcI⟩⟩

theorem steps_seq {A : Option Addr} {n c g1 b0 : Nat} {hs : List Stp} {w : World} (hB : Blk w g1 23 [.slice A n c]) (hR : RS encP 3 w b0 A n hs) (hb0 : b0 ≤ w.heap.size) (hn : n ≤ 1099511627776) :
    SeqStopsK Fence.wide 1 Try.prog 41 #[.pointer (some ⟨g1, 0, none⟩)] (fun x : It => #[.int .i64 (x.1 : Int), aggP x.2]) (Kp g1 b0) (fun xs => xs = items hs) (fun pre => pre <+: items hs) hs.length w := by
  intro l J Jx W hW hJ hJx hY h0
  have hc : Ch [] w W := Ch.of_below hW
  exact steps_it l A n c g1 b0 hs J Jx W hJ (fun pre x W1 hj hl _ => hY pre x W1 hj hl) h0 (hB.ch0 hc) (hR.ch0 hc) (by have := hc.size; omega) hn
theorem steps_seq2 {A : Option Addr} {n c g1 b0 : Nat} {hs : List Stp} {w : World} (hB : Blk w g1 23 [.slice A n c]) (hR : RS encP 3 w b0 A n hs) (hb0 : b0 ≤ w.heap.size) (hn : n ≤ 1099511627776) :
    SeqStopsK Fence.wide 1 Try.prog 41 #[.pointer (some ⟨g1, 0, none⟩)] (fun x : Itm hs => #[.int .i64 (x.1.1 : Int), aggP x.1.2]) (Kp g1 b0) (fun xs => xs.map Subtype.val = items hs) (fun pre => pre.map Subtype.val <+: items hs) hs.length w := by
  intro l J Jx W hW hJ hJx hY h0
  have hc : Ch [] w W := Ch.of_below hW
  refine CallsIn.mono (steps_it l A n c g1 b0 hs (fun xs W => ∃ pre : List (Itm hs), pre.map Subtype.val = xs ∧ J pre W) (fun xs W => ∃ pre : List (Itm hs), pre.map Subtype.val = xs ∧ Jx pre W) W ?_ ?_ ⟨[], rfl, h0⟩ (hB.ch0 hc) (hR.ch0 hc) (by have := hc.size; omega) hn) ?_
  · rintro s X Y row ⟨pre, e, hj⟩ hg hr
    exact ⟨pre, e, hJ pre X Y row hj hg hr⟩
  · rintro xs x W1 ⟨pre, rfl, hj⟩ hl hx
    rw [List.length_map] at hl
    have hy := hY pre ⟨x, pre.length, hl, by rw [hx, List.length_map]⟩ W1 hj hl
    obtain ⟨fn, tmps, assign, body, h1, h2⟩ := hy
    refine ⟨fn, tmps, assign, body, h1, RoundIn.mono h2 ?_⟩
    rintro e W' (⟨h3, h4, h5⟩ | ⟨h3, h4⟩)
    · exact .inl ⟨h3, ⟨_, by simp, h4⟩, h5⟩
    · exact .inr ⟨h3, ⟨_, by simp, h4⟩⟩
  · rintro e W' ⟨h1, (⟨_, hx, pre, e2, hj⟩ | ⟨_, hx, pre, e2, hj⟩)⟩
    · exact ⟨h1, .inl ⟨pre, e2.trans hx, hj⟩⟩
    · exact ⟨h1, .inr ⟨pre, (show pre.map Subtype.val <+: items hs by rw [e2]; exact hx), hj⟩⟩
end Go.Proofs.Ytdnncgapbjnfoaa
