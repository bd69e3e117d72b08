/-
  The walk of (*impl.beatBook).hear, written by program: each line names the law of one operation. Conditions: those of the theorem.
-/
import Derived.Test.YtnkjljjcionfiaaProg
import Derived.Test.YtnkjljjcionfiaaBeats
import Derived.Test.YtnkjljjcionfiaaDefer
import Derived.Test.YtnkjljjcionfiaaLocks
import Derived.KernelRfl
namespace Go.Proofs.Ytnkjljjcionfiaa
open Go Go.RowKit
set_option linter.unusedVariables false
set_option linter.unusedSimpArgs false
namespace hear_okF
theorem T3 : TI Try.prog 3 false (.int .i64 0) 1 8 := TI.mk' Try.underlying3 rfl (by kernel_rfl)
theorem T23 : TI Try.prog 23 false (.slice none 0 0) 1 24 := TI.mk' Try.underlying23 rfl (by kernel_rfl)
theorem T39 : TI Try.prog 39 true (.agg #[.int .i64 0, .int .i64 0]) 2 16 := TI.mk' Try.underlying39 rfl (by kernel_rfl)
theorem F39_0 : FldOK Try.prog 39 0 0 := ⟨_, _, 0, Try.underlying39, rfl, rfl, by kernel_rfl⟩
theorem F39_1 : FldOK Try.prog 39 1 1 := ⟨_, _, 0, Try.underlying39, rfl, rfl, by kernel_rfl⟩
theorem F76_0 : FldOK Try.prog 76 0 0 := ⟨_, _, 1, Try.underlying76, rfl, rfl, by kernel_rfl⟩
theorem F76_1 : FldOK Try.prog 76 1 2 := ⟨_, _, 0, Try.underlying76, rfl, rfl, by kernel_rfl⟩
theorem C55 : Callable Try.prog 55 := ⟨_, Try.func55, by kernel_rfl, by kernel_rfl⟩
theorem C56 : Callable Try.prog 56 := ⟨_, Try.func56, by kernel_rfl, by kernel_rfl⟩
theorem B39  (u : World) : (Instr.build 39 #[]).run Try.prog u = .ok (.agg #[.int .i64 0, .int .i64 0]) u := by kernel_rfl
end hear_okF
open hear_okF in
set_option maxHeartbeats 4000000 in
theorem hear_ok (g base : Nat) (xs : List Bt) (xS xA : Int) (w : World) (hbk : BookIs 76 39 w base g xs) (hbase : base ≤ w.heap.size) (hn : xs.length ≤ 1000) :
    Fn Try.prog 50 [(.pointer (some (⟨g, 0, none⟩))), (.agg #[(.int .i64 xS), (.int .i64 xA)])] w fun v w' => v = .tuple #[] ∧ BookIs 76 39 w' base g (hearL xs ⟨xS, xA⟩) ∧ Below base w w' := by
  obtain ⟨A, c, hB, hO, hgb, hgo⟩ := hbk
  have hub := hO.lt
  have hcap := hO.le.1
  have hglt := hB.lt
  refine fn_ofD (n := 103) (g := 56) (dargs := [.pointer (some ⟨g, 0, none⟩)]) Try.func50 rfl rfl rfl rfl C56 ?_
  have hc : Below base w w := Below.refl _ _
  refine cwd_seq_r fun K1 hK2 => ?_
  refine cw_region fun K3 hK4 => ?_
  refine rw_cons (op_box (w0 rfl) rfl rfl rfl rfl ?_)
  rintro g6 w5 hg9 hg10 hB8 hch7
  have hsz11 := hch7.size
  replace hB := hB.ch0 hch7
  replace hO := hO.ch0 hch7
  replace hc := belowC hc (by omega) off0 hch7
  replace hB8 : Blk w5 g6 39 [(.int .i64 xS), (.int .i64 xA)] := hB8
  have hdj12 : ∀ s ∈ obl (.slice A xs.length c), s ≠ g6 := fun s hs => by have := hub s hs; omega
  refine rw_nil (hK4 _ _ ?_)
  refine hK2 _ _ ?_
  refine cwd_seq_r fun K13 hK14 => ?_
  refine cw_region fun K15 hK16 => ?_
  refine rw_cons (op_pv (w0 rfl) rfl rfl (pv_move (v := (.pointer (some (⟨g, 0, none⟩)))) rfl rfl) ?_)
  refine rw_cons (op_pv (w0 rfl) rfl rfl (pv_nil rfl rfl) ?_)
  refine rw_cons (op_pv (w0 rfl) rfl rfl (pv_fld F76_0 rfl rfl) ?_)
  refine rw_cons (op_call (w0 rfl) rfl rfl (rc_call C55 rfl rfl) (lock_fn muLib hB) ?_)
  rintro _ w17 ⟨rfl, hB18, hch19⟩
  have hsz20 := hch19.size
  replace hO := hO.ch hch19 (fun s hs => by have := dj_asg hgo s hs; simpa using this)
  replace hB8 := hB8.ch hch19 (by simp; omega)
  replace hc := belowC hc (by omega) (off1 (by omega)) hch19
  replace hB : Blk w17 g 76 [(.int .i32 1), (.int .u32 0), (.slice A xs.length c)] := hB18
  clear hB18
  refine rw_nil (hK16 _ _ ?_)
  refine hK14 _ _ ?_
  refine cwd_seq_l fun K21 hK22 => ?_
  refine cwd_region fun K23 hK24 => ?_
  refine rwd_cons (op_pv (w0 rfl) rfl rfl (pv_move (v := (.pointer (some (⟨g, 0, none⟩)))) rfl rfl) ?_)
  refine rwd_cons (op_pv (w0 rfl) rfl rfl (pv_nil rfl rfl) ?_)
  refine rwd_cons (op_pv (w0 rfl) rfl rfl (pv_fld F76_0 rfl rfl) ?_)
  refine rwd_defer (w0 rfl) rfl (rd_defer rfl rfl) (hK24 _ _ ?_)
  refine hK22 _ _ ?_
  refine cw_seq fun K25 hK26 => ?_
  refine cw_region fun K27 hK28 => ?_
  refine rw_cons (op_pv (w0 rfl) rfl rfl (pv_assign (v := (.int .i64 0)) rfl rfl) ?_)
  refine rw_nil (hK28 _ _ ?_)
  refine hK26 _ _ ?_
  refine cw_seq fun K29 hK30 => ?_
  refine cw_block ?_
  refine cw_loop (σ := Nat) (fun k => [(4, (.int .i64 (k : Int))), (0, (.pointer (some (⟨g, 0, none⟩)))), (3, (.pointer (some (⟨g6, 0, none⟩))))]) (fun k W => (k ≤ xs.length ∧ ∀ j, j < k → (el xs j).s < xS) ∧ Blk W g 76 [(.int .i32 1), (.int .u32 0), (.slice A xs.length c)] ∧ Own encB 2 W base 39 (.slice A xs.length c) xs ∧ Blk W g6 39 [(.int .i64 xS), (.int .i64 xA)] ∧ Below base w W) (fun k => xs.length - k) 0 ?_ ?_ ?_
  · exact ⟨rfl, rfl, rfl, trivial⟩
  · refine ⟨⟨Nat.zero_le _, fun j hj => by omega⟩, hB, hO, hB8, hc⟩
  · rintro k J35 w31 ⟨⟨hk, hlt⟩, hB, hO, hB8, hc⟩ K32 hK33
    have hsz37 := hc.size
    have hub38 := hO.lt
    refine cw_seq fun K39 hK40 => ?_
    refine cw_seq fun K41 hK42 => ?_
    refine cw_drawn (fun u => Ch [] w31 u) (.free 0 (.free 1 (.free 2 (.free 3 (.free 4 (.free 5 (.free 6 (.free 7 (.free 8 (.free 9 (.free 10 (.free 11 (.free 12 (.free 13 (.free 14 (.free 15 (.free 16 (.free 17 (.free 18 (.free 19 (.done))))))))))))))))))))) (by kernel_rfl) (by kernel_rfl) (Ch.refl _ _).drew fun K46 hK47 => ?_
    obtain ⟨w43, hw_, hch44, hsz45⟩ : ∃ w1 : World, w1 = w31.drew ∧ Ch [] w31 w1 ∧ w1.heap.size = w31.heap.size := ⟨_, rfl, (Ch.refl _ _).drew, rfl⟩
    rw [← hw_]; clear hw_
    have hr48 : Ch [] w31 w43 := hch44.sub (fun s hs => by cases hs)
    have hB_r := hB
    have hO_r := hO
    have hB8_r := hB8
    have hsz49 := hch44.size
    replace hB := hB.ch0 hch44
    replace hO := hO.ch0 hch44
    replace hB8 := hB8.ch0 hch44
    replace hc := belowC hc (by omega) off0 hch44
    refine tw_free rfl (w0 rfl) rfl rfl (fun u hu => (pv_move (v := (.int .i64 (k : Int))) rfl rfl : PV _ _ _ _) u) ?_
    refine tw_free rfl (w0 rfl) rfl rfl (fun u hu => (pv_move (v := (.pointer (some (⟨g, 0, none⟩)))) rfl rfl : PV _ _ _ _) u) ?_
    refine tw_free rfl (w0 rfl) rfl rfl (fun u hu => (pv_nil rfl rfl : PV _ _ _ _) u) ?_
    refine tw_free rfl (w0 rfl) rfl rfl (fun u hu => (pv_fld F76_1 rfl rfl : PV _ _ _ _) u) ?_
    refine tw_free rfl (w0 rfl) rfl rfl (fun u hu => lv_load T23 rfl rfl ((hB_r.ch hu (by simp)).cellA (i := 2) rfl)) ?_
    refine tw_free rfl (w0 rfl) rfl rfl (fun u hu => (pv_len Try.underlying23 rfl rfl : PV _ _ _ _) u) ?_
    refine tw_free rfl (w0 rfl) rfl rfl (fun u hu => (pv_lss rfl rfl rfl : PV _ _ _ _) u) ?_
    refine tw_free rfl (w0 rfl) rfl rfl (fun u hu => (pv_move (v := (.bool (decide ((k : Int) < (xs.length : Int))))) rfl rfl : PV _ _ _ _) u) ?_
    refine tw_split 19 rfl (fun hb50 => ?_) (fun hb50 => ?_)
    · -- yes
      replace hb50 := of_decide_eq_true hb50
      refine tw_free rfl (w1y rfl rfl rfl rfl) rfl rfl (fun u hu => (pv_move (v := (.pointer (some (⟨g, 0, none⟩)))) rfl rfl : PV _ _ _ _) u) ?_
      refine tw_free rfl (w1y rfl rfl rfl rfl) rfl rfl (fun u hu => (pv_nil rfl rfl : PV _ _ _ _) u) ?_
      refine tw_free rfl (w1y rfl rfl rfl rfl) rfl rfl (fun u hu => (pv_fld F76_1 rfl rfl : PV _ _ _ _) u) ?_
      refine tw_free rfl (w1y rfl rfl rfl rfl) rfl rfl (fun u hu => lv_load T23 rfl rfl ((hB_r.ch hu (by simp)).cellA (i := 2) rfl)) ?_
      refine tw_free rfl (w1y rfl rfl rfl rfl) rfl rfl (fun u hu => (pv_move (v := (.int .i64 (k : Int))) rfl rfl : PV _ _ _ _) u) ?_
      refine tw_free rfl (w1y rfl rfl rfl rfl) rfl rfl (fun u hu => (pv_idx Try.underlying23 T39 rfl rfl rfl ((hO.rs (fun _ => rfl)).some (k := k) (by omega)) (by omega) (by omega) : PV _ _ _ _) u) ?_
      refine tw_free rfl (w1y rfl rfl rfl rfl) rfl rfl (fun u hu => (pv_fld F39_0 rfl rfl : PV _ _ _ _) u) ?_
      refine tw_free rfl (w1y rfl rfl rfl rfl) rfl rfl (fun u hu => lv_load T3 rfl rfl (((hO_r.ch0 hu).rs (fun _ => rfl)).cellE (k := k) (j := 0) (by omega) rfl)) ?_
      refine tw_free rfl (w1y rfl rfl rfl rfl) rfl rfl (fun u hu => (pv_fld F39_0 rfl rfl : PV _ _ _ _) u) ?_
      refine tw_free rfl (w1y rfl rfl rfl rfl) rfl rfl (fun u hu => lv_load T3 rfl rfl ((hB8_r.ch hu (by simp)).cellA (i := 0) rfl)) ?_
      refine tw_free rfl (w1y rfl rfl rfl rfl) rfl rfl (fun u hu => (pv_lss rfl rfl rfl : PV _ _ _ _) u) ?_
      refine tw_free rfl (w0 rfl) rfl rfl (fun u hu => (pv_pickT (v := (.bool (decide ((el xs k).s < xS)))) rfl rfl rfl : PV _ _ _ _) u) ?_
      clear hB_r
      clear hB8_r
      clear hO_r
      refine tw_done (hK47 _ _ ?_)
      refine hK42 _ _ ?_
      refine cw_cond rfl (fun h51 => ?_) (fun h51 => ?_)
      · -- then
        replace h51 := of_decide_eq_true h51
        refine cw_skip ?_
        refine hK40 _ _ ?_
        refine cw_block ?_
        refine cw_region fun K52 hK53 => ?_
        refine rw_cons (op_pv (w0 rfl) rfl rfl (pv_move (v := (.int .i64 (k : Int))) rfl rfl) ?_)
        refine rw_cons (op_pv (w0 rfl) rfl rfl (pv_add rfl rfl rfl (by omega) (by omega)) ?_)
        refine rw_cons (op_pv (w0 rfl) rfl rfl (pv_assign (v := (.int .i64 ((k : Int) + 1))) rfl rfl) ?_)
        refine rw_nil (hK53 _ _ ?_)
        refine hK33 _ _ (k + 1) ⟨(iv (by omega)), rfl, rfl, trivial⟩ ⟨?_, hB, hO, hB8, hc⟩ ?_
        · refine ⟨by omega, fun j hj => ?_⟩
          by_cases hjk : j = k
          · subst hjk; omega
          · exact hlt j (by omega)
        · (first | omega | (simp only []; omega))
      · -- else
        replace h51 := of_decide_eq_false h51
        refine cw_exit ?_
        refine hK30 _ _ ?_
        refine cw_seq fun K54 hK55 => ?_
        refine cw_seq fun K56 hK57 => ?_
        refine cw_drawn (fun u => Ch [] w43 u) (.free 0 (.free 1 (.free 2 (.free 3 (.free 4 (.free 5 (.free 6 (.free 7 (.free 8 (.free 9 (.free 10 (.free 11 (.free 12 (.free 13 (.free 14 (.free 15 (.free 16 (.free 17 (.free 18 (.free 19 (.done))))))))))))))))))))) (by kernel_rfl) (by kernel_rfl) (Ch.refl _ _).drew fun K61 hK62 => ?_
        obtain ⟨w58, hw_, hch59, hsz60⟩ : ∃ w1 : World, w1 = w43.drew ∧ Ch [] w43 w1 ∧ w1.heap.size = w43.heap.size := ⟨_, rfl, (Ch.refl _ _).drew, rfl⟩
        rw [← hw_]; clear hw_
        have hr63 : Ch [] w43 w58 := hch59.sub (fun s hs => by cases hs)
        have hB_r := hB
        have hO_r := hO
        have hB8_r := hB8
        have hsz64 := hch59.size
        replace hB := hB.ch0 hch59
        replace hO := hO.ch0 hch59
        replace hB8 := hB8.ch0 hch59
        replace hc := belowC hc (by omega) off0 hch59
        refine tw_free rfl (w0 rfl) rfl rfl (fun u hu => (pv_move (v := (.int .i64 (k : Int))) rfl rfl : PV _ _ _ _) u) ?_
        refine tw_free rfl (w0 rfl) rfl rfl (fun u hu => (pv_move (v := (.pointer (some (⟨g, 0, none⟩)))) rfl rfl : PV _ _ _ _) u) ?_
        refine tw_free rfl (w0 rfl) rfl rfl (fun u hu => (pv_nil rfl rfl : PV _ _ _ _) u) ?_
        refine tw_free rfl (w0 rfl) rfl rfl (fun u hu => (pv_fld F76_1 rfl rfl : PV _ _ _ _) u) ?_
        refine tw_free rfl (w0 rfl) rfl rfl (fun u hu => lv_load T23 rfl rfl ((hB_r.ch hu (by simp)).cellA (i := 2) rfl)) ?_
        refine tw_free rfl (w0 rfl) rfl rfl (fun u hu => (pv_len Try.underlying23 rfl rfl : PV _ _ _ _) u) ?_
        refine tw_free rfl (w0 rfl) rfl rfl (fun u hu => (pv_lss rfl rfl rfl : PV _ _ _ _) u) ?_
        refine tw_free rfl (w0 rfl) rfl rfl (fun u hu => (pv_move (v := (.bool (decide ((k : Int) < (xs.length : Int))))) rfl rfl : PV _ _ _ _) u) ?_
        refine tw_split 41 rfl (fun hb65 => ?_) (fun hb65 => ?_)
        · -- yes
          replace hb65 := of_decide_eq_true hb65
          refine tw_free rfl (w1y rfl rfl rfl rfl) rfl rfl (fun u hu => (pv_move (v := (.pointer (some (⟨g, 0, none⟩)))) rfl rfl : PV _ _ _ _) u) ?_
          refine tw_free rfl (w1y rfl rfl rfl rfl) rfl rfl (fun u hu => (pv_nil rfl rfl : PV _ _ _ _) u) ?_
          refine tw_free rfl (w1y rfl rfl rfl rfl) rfl rfl (fun u hu => (pv_fld F76_1 rfl rfl : PV _ _ _ _) u) ?_
          refine tw_free rfl (w1y rfl rfl rfl rfl) rfl rfl (fun u hu => lv_load T23 rfl rfl ((hB_r.ch hu (by simp)).cellA (i := 2) rfl)) ?_
          refine tw_free rfl (w1y rfl rfl rfl rfl) rfl rfl (fun u hu => (pv_move (v := (.int .i64 (k : Int))) rfl rfl : PV _ _ _ _) u) ?_
          refine tw_free rfl (w1y rfl rfl rfl rfl) rfl rfl (fun u hu => (pv_idx Try.underlying23 T39 rfl rfl rfl ((hO.rs (fun _ => rfl)).some (k := k) (by omega)) (by omega) (by omega) : PV _ _ _ _) u) ?_
          refine tw_free rfl (w1y rfl rfl rfl rfl) rfl rfl (fun u hu => (pv_fld F39_0 rfl rfl : PV _ _ _ _) u) ?_
          refine tw_free rfl (w1y rfl rfl rfl rfl) rfl rfl (fun u hu => lv_load T3 rfl rfl (((hO_r.ch0 hu).rs (fun _ => rfl)).cellE (k := k) (j := 0) (by omega) rfl)) ?_
          refine tw_free rfl (w1y rfl rfl rfl rfl) rfl rfl (fun u hu => (pv_fld F39_0 rfl rfl : PV _ _ _ _) u) ?_
          refine tw_free rfl (w1y rfl rfl rfl rfl) rfl rfl (fun u hu => lv_load T3 rfl rfl ((hB8_r.ch hu (by simp)).cellA (i := 0) rfl)) ?_
          refine tw_free rfl (w1y rfl rfl rfl rfl) rfl rfl (fun u hu => (pv_eql rfl rfl rfl : PV _ _ _ _) u) ?_
          refine tw_free rfl (w0 rfl) rfl rfl (fun u hu => (pv_pickT (v := (.bool (decide (((el xs k).s : Int) = xS)))) rfl rfl rfl : PV _ _ _ _) u) ?_
          clear hB_r
          clear hB8_r
          clear hO_r
          refine tw_done (hK62 _ _ ?_)
          refine hK57 _ _ ?_
          refine cw_cond rfl (fun h66 => ?_) (fun h66 => ?_)
          · -- then
            replace h66 := of_decide_eq_true h66
            refine cw_seq fun K67 hK68 => ?_
            refine cw_drawn (fun u => Ch [] w58 u) (.free 0 (.free 1 (.free 2 (.free 3 (.free 4 (.free 5 (.free 6 (.free 7 (.free 8 (.free 9 (.free 10 (.free 11 (.free 12 (.free 13 (.free 14 (.free 15 (.free 16 (.free 17 (.one 18 false (.done)))))))))))))))))))) (by kernel_rfl) (by kernel_rfl) (Ch.refl _ _).drew fun K72 hK73 => ?_
            obtain ⟨w69, hw_, hch70, hsz71⟩ : ∃ w1 : World, w1 = w58.drew ∧ Ch [] w58 w1 ∧ w1.heap.size = w58.heap.size := ⟨_, rfl, (Ch.refl _ _).drew, rfl⟩
            rw [← hw_]; clear hw_
            have hr74 : Ch [] w58 w69 := hch70.sub (fun s hs => by cases hs)
            have hB_r := hB
            have hO_r := hO
            have hB8_r := hB8
            have hsz75 := hch70.size
            replace hB := hB.ch0 hch70
            replace hO := hO.ch0 hch70
            replace hB8 := hB8.ch0 hch70
            replace hc := belowC hc (by omega) off0 hch70
            refine tw_free rfl (w0 rfl) rfl rfl (fun u hu => (pv_move (v := (.pointer (some (⟨g, 0, none⟩)))) rfl rfl : PV _ _ _ _) u) ?_
            refine tw_free rfl (w0 rfl) rfl rfl (fun u hu => (pv_nil rfl rfl : PV _ _ _ _) u) ?_
            refine tw_free rfl (w0 rfl) rfl rfl (fun u hu => (pv_fld F76_1 rfl rfl : PV _ _ _ _) u) ?_
            refine tw_free rfl (w0 rfl) rfl rfl (fun u hu => lv_load T23 rfl rfl ((hB_r.ch hu (by simp)).cellA (i := 2) rfl)) ?_
            refine tw_free rfl (w0 rfl) rfl rfl (fun u hu => (pv_move (v := (.int .i64 (k : Int))) rfl rfl : PV _ _ _ _) u) ?_
            refine tw_free rfl (w0 rfl) rfl rfl (fun u hu => (pv_move (v := (.pointer (some (⟨g, 0, none⟩)))) rfl rfl : PV _ _ _ _) u) ?_
            refine tw_free rfl (w0 rfl) rfl rfl (fun u hu => (pv_nil rfl rfl : PV _ _ _ _) u) ?_
            refine tw_free rfl (w0 rfl) rfl rfl (fun u hu => (pv_fld F76_1 rfl rfl : PV _ _ _ _) u) ?_
            refine tw_free rfl (w0 rfl) rfl rfl (fun u hu => lv_load T23 rfl rfl ((hB_r.ch hu (by simp)).cellA (i := 2) rfl)) ?_
            refine tw_free rfl (w0 rfl) rfl rfl (fun u hu => (pv_move (v := (.int .i64 (k : Int))) rfl rfl : PV _ _ _ _) u) ?_
            refine tw_free rfl (w0 rfl) rfl rfl (fun u hu => (pv_idx Try.underlying23 T39 rfl rfl rfl ((hO.rs (fun _ => rfl)).some (k := k) (by omega)) (by omega) (by omega) : PV _ _ _ _) u) ?_
            refine tw_free rfl (w0 rfl) rfl rfl (fun u hu => (pv_fld F39_1 rfl rfl : PV _ _ _ _) u) ?_
            refine tw_free rfl (w0 rfl) rfl rfl (fun u hu => lv_load T3 rfl rfl (((hO_r.ch0 hu).rs (fun _ => rfl)).cellE (k := k) (j := 1) (by omega) rfl)) ?_
            refine tw_free rfl (w0 rfl) rfl rfl (fun u hu => (pv_fld F39_1 rfl rfl : PV _ _ _ _) u) ?_
            refine tw_free rfl (w0 rfl) rfl rfl (fun u hu => lv_load T3 rfl rfl ((hB8_r.ch hu (by simp)).cellA (i := 1) rfl)) ?_
            refine tw_free rfl (w0 rfl) rfl rfl (fun u hu => (pv_max rfl rfl rfl : PV _ _ _ _) u) ?_
            refine tw_free rfl (w0 rfl) rfl rfl (fun u hu => (pv_idx Try.underlying23 T39 rfl rfl rfl ((hO.rs (fun _ => rfl)).some (k := k) (by omega)) (by omega) (by omega) : PV _ _ _ _) u) ?_
            refine tw_free rfl (w0 rfl) rfl rfl (fun u hu => (pv_fld F39_1 rfl rfl : PV _ _ _ _) u) ?_
            refine tw_one rfl (op_store_ownA (k := k) (off := 1) (⟨(el xs k).s, max (el xs k).a xA⟩) T3 hO (fun _ => rfl) (w0 rfl) rfl rfl rfl rfl rfl (one_all rfl) (by omega) (Nat.le_of_ble_eq_true rfl) rfl ?_)
            rintro w76 hO78 hch77
            have hsz79 := hch77.size
            replace hB := hB.ch hch77 (fun hs => dj_asg hgo _ hs rfl)
            replace hB8 := hB8.ch hch77 (fun hs => dj_asg hdj12 _ hs rfl)
            replace hc := belowC hc (by omega) (hO.off.le (by omega)) hch77
            clear hr74
            clear hO; have hO := hO78; clear hO78
            refine ⟨fun h => (by cases h), ?_⟩
            clear hB_r
            clear hB8_r
            clear hO_r
            refine tw_done (hK73 _ _ ?_)
            refine hK68 _ _ ?_
            refine cw_ret ?_
            refine finD0 ?_
            refine unlock_door muLib hB ?_
            intro w80 hB81 hch82
            have hsz83 := hch82.size
            replace hO := hO.ch hch82 (fun s hs => by have := dj_asg hgo s hs; simpa using this)
            replace hB8 := hB8.ch hch82 (by simp; omega)
            replace hc := belowC hc (by omega) (off1 (by omega)) hch82
            replace hB : Blk w80 g 76 [(.int .i32 0), (.int .u32 0), (.slice A xs.length c)] := hB81
            clear hB81
            have hpl : IsPlace xs ⟨xS, xA⟩ k := ⟨hk, hlt, fun h9 h8 => by have h7 : (el xs k).s < xS := h8; omega⟩
            exact ⟨rfl, book_as hB hO (hearL_at xs k hpl (by omega) (by show (el xs k).s = xS; omega)).symm (by omega) (dj_asg hgo), hc⟩
          · -- else
            replace h66 := of_decide_eq_false h66
            refine cw_skip ?_
            refine hK55 _ _ ?_
            refine cw_seq fun K84 hK85 => ?_
            refine cw_region fun K86 hK87 => ?_
            refine rw_cons (op_pv (w0 rfl) rfl rfl (pv_move (v := (.pointer (some (⟨g, 0, none⟩)))) rfl rfl) ?_)
            refine rw_cons (op_pv (w0 rfl) rfl rfl (pv_move (v := (.pointer (some (⟨g, 0, none⟩)))) rfl rfl) ?_)
            refine rw_cons (op_pv (w0 rfl) rfl rfl (pv_nil rfl rfl) ?_)
            refine rw_cons (op_pv (w0 rfl) rfl rfl (pv_fld F76_1 rfl rfl) ?_)
            refine rw_cons (op_lv (w0 rfl) rfl rfl (lv_load T23 rfl rfl (hB.cellA (i := 2) rfl)) ?_)
            refine rw_cons (op_pv (w0 rfl) rfl rfl (pv_build rfl rfl (B39 )) ?_)
            refine rw_cons (op_bslice [(.agg #[(.int .i64 0), (.int .i64 0)])] Try.underlying23 T39 (w0 rfl) rfl rfl rfl rfl rfl (by simp [Value.cells]) (by decide) ?_)
            intro g89 w88 hg92 hg93 hK91 hch90
            have hO94 : Own encB 2 w88 w58.heap.size 39 (.slice (some ⟨g89, 0, none⟩) 1 1) ([⟨0, 0⟩] : List Bt) := Blk.own (xs := ([⟨0, 0⟩] : List Bt)) hK91 (by omega) rfl (by decide) rfl
            have hsz95 := hch90.size
            replace hB := hB.ch0 hch90
            replace hO := hO.ch0 hch90
            replace hB8 := hB8.ch0 hch90
            replace hc := belowC hc (by omega) off0 hch90
            have hub96 := hO94.lt
            refine rw_cons (op_append Try.underlying23 T39 (fun _ => rfl) rfl (by decide) (fun _ => one_all rfl) (w0 rfl) rfl rfl rfl rfl rfl hO (hO94.rs (fun _ => rfl)) (by unfold maxLen; first | omega | (simp; omega)) (by first | omega | (simp; omega)) (by omega) ?_)
            rintro v97 w98 hO99 hch100 hs101
            have hl102 : (xs ++ ([⟨0, 0⟩] : List Bt)).length = xs.length + 1 := by first | (have hl0 := (hO94.rs (fun _ => rfl)).len; omega) | (have hl0 := (hO94.rs (fun _ => rfl)).len; simp only [List.length_append, List.length_cons, List.length_nil] at hl0 ⊢; omega) | simp | rfl
            clear hO94
            have hgl104 := hB.lt
            have hgl106 := hB8.lt
            have hsz107 := hch100.size
            replace hB := hB.ch hch100 (fun hs => dj_asg hgo _ hs rfl)
            replace hB8 := hB8.ch hch100 (fun hs => dj_asg hdj12 _ hs rfl)
            replace hc := belowC hc (by omega) (hO.off.le (by omega)) hch100
            have hub108 := hO99.lt
            obtain ⟨A109, c110, hv111, hcap112, hcap113⟩ := hO99.form; subst hv111
            have hdj103 : ∀ s ∈ obl (.slice A109 (xs ++ ([⟨0, 0⟩] : List Bt)).length c110), s ≠ g := dj_newg hs101 (dj_asg hgo) (by omega)
            have hdj105 : ∀ s ∈ obl (.slice A109 (xs ++ ([⟨0, 0⟩] : List Bt)).length c110), s ≠ g6 := dj_newg hs101 (dj_asg hdj12) (by omega)
            refine rw_cons (op_pv (w0 rfl) rfl rfl (pv_nil rfl rfl) ?_)
            refine rw_cons (op_pv (w0 rfl) rfl rfl (pv_fld F76_1 rfl rfl) ?_)
            refine rw_cons (op_store_blk T23 hB (w0 rfl) rfl rfl rfl rfl rfl (one_all rfl) (Nat.le_of_ble_eq_true rfl) ?_)
            rintro w114 hB116 hch115
            have hsz117 := hch115.size
            replace hB8 := hB8.ch hch115 (by simp; omega)
            replace hO99 := hO99.ch hch115 (fun s hs => by have := dj_asg hdj103 s hs; simpa using this)
            replace hc := belowC hc (by omega) (off1 (by omega)) hch115
            replace hB : Blk w114 g 76 [(.int .i32 1), (.int .u32 0), (.slice A109 (xs ++ ([⟨0, 0⟩] : List Bt)).length c110)] := hB116
            clear hB116
            refine rw_nil (hK87 _ _ ?_)
            refine hK85 _ _ ?_
            refine cw_seq fun K118 hK119 => ?_
            refine cw_drawn (fun u => Ch [] w114 u) (.free 0 (.free 1 (.free 2 (.free 3 (.free 4 (.free 5 (.free 6 (.free 7 (.free 8 (.free 9 (.free 10 (.free 11 (.free 12 (.one 13 false (.done))))))))))))))) (by kernel_rfl) (by kernel_rfl) (Ch.refl _ _).drew fun K123 hK124 => ?_
            obtain ⟨w120, hw_, hch121, hsz122⟩ : ∃ w1 : World, w1 = w114.drew ∧ Ch [] w114 w1 ∧ w1.heap.size = w114.heap.size := ⟨_, rfl, (Ch.refl _ _).drew, rfl⟩
            rw [← hw_]; clear hw_
            have hr125 : Ch [] w114 w120 := hch121.sub (fun s hs => by cases hs)
            have hB_r := hB
            have hB8_r := hB8
            have hO99_r := hO99
            have hsz126 := hch121.size
            replace hB := hB.ch0 hch121
            replace hB8 := hB8.ch0 hch121
            replace hO99 := hO99.ch0 hch121
            replace hc := belowC hc (by omega) off0 hch121
            refine tw_free rfl (w0 rfl) rfl rfl (fun u hu => (pv_move (v := (.pointer (some (⟨g, 0, none⟩)))) rfl rfl : PV _ _ _ _) u) ?_
            refine tw_free rfl (w0 rfl) rfl rfl (fun u hu => (pv_nil rfl rfl : PV _ _ _ _) u) ?_
            refine tw_free rfl (w0 rfl) rfl rfl (fun u hu => (pv_fld F76_1 rfl rfl : PV _ _ _ _) u) ?_
            refine tw_free rfl (w0 rfl) rfl rfl (fun u hu => lv_load T23 rfl rfl ((hB_r.ch hu (by simp)).cellA (i := 2) rfl)) ?_
            refine tw_free rfl (w0 rfl) rfl rfl (fun u hu => (pv_move (v := (.int .i64 (k : Int))) rfl rfl : PV _ _ _ _) u) ?_
            refine tw_free rfl (w0 rfl) rfl rfl (fun u hu => (pv_add rfl rfl rfl (by omega) (by omega) : PV _ _ _ _) u) ?_
            refine tw_free rfl (w0 rfl) rfl rfl (fun u hu => (pv_from Try.underlying23 T39 rfl rfl rfl (by omega) (by omega) : PV _ _ _ _) u) ?_
            have hR127 : RS encB 2 w120 w120.heap.size (if c110 = (k + 1) then A109 else (A109 : Option Addr).map (·.add ((k + 1) * 2))) ((xs ++ ([⟨0, 0⟩] : List Bt)).length - (k + 1)) ((xs ++ ([⟨0, 0⟩] : List Bt)).drop (k + 1)) := ((hO99.rs (fun _ => rfl))).from (by omega) (by omega)
            refine tw_free rfl (w0 rfl) rfl rfl (fun u hu => (pv_move (v := (.pointer (some (⟨g, 0, none⟩)))) rfl rfl : PV _ _ _ _) u) ?_
            refine tw_free rfl (w0 rfl) rfl rfl (fun u hu => (pv_nil rfl rfl : PV _ _ _ _) u) ?_
            refine tw_free rfl (w0 rfl) rfl rfl (fun u hu => (pv_fld F76_1 rfl rfl : PV _ _ _ _) u) ?_
            refine tw_free rfl (w0 rfl) rfl rfl (fun u hu => lv_load T23 rfl rfl ((hB_r.ch hu (by simp)).cellA (i := 2) rfl)) ?_
            refine tw_free rfl (w0 rfl) rfl rfl (fun u hu => (pv_move (v := (.int .i64 (k : Int))) rfl rfl : PV _ _ _ _) u) ?_
            refine tw_free rfl (w0 rfl) rfl rfl (fun u hu => (pv_from Try.underlying23 T39 rfl rfl rfl (by omega) (by omega) : PV _ _ _ _) u) ?_
            have hR128 : RS encB 2 w120 w120.heap.size (if c110 = k then A109 else (A109 : Option Addr).map (·.add (k * 2))) ((xs ++ ([⟨0, 0⟩] : List Bt)).length - k) ((xs ++ ([⟨0, 0⟩] : List Bt)).drop k) := ((hO99.rs (fun _ => rfl))).from (by omega) (by omega)
            have hle132 := hO99.le
            refine tw_one rfl (op_copy (k := (k + 1)) Try.underlying23 T39 (fun _ => rfl) (by decide) (fun _ => one_all rfl) (w0 rfl) rfl rfl rfl rfl rfl hO99 hR128 (fun h => hO99.from_some h) (by omega) ?_)
            rintro w129 hO130 hch131
            have hsz133 := hch131.size
            replace hB := hB.ch hch131 (fun hs => dj_asg hdj103 _ hs rfl)
            replace hB8 := hB8.ch hch131 (fun hs => dj_asg hdj105 _ hs rfl)
            clear hR127
            clear hR128
            replace hc := belowC hc (by omega) (hO99.off.le (by omega)) hch131
            clear hr125
            clear hO99; have hO99 := hO130; clear hO130
            refine ⟨fun h => (by cases h), ?_⟩
            clear hB_r
            clear hB8_r
            clear hO99_r
            refine tw_done (hK124 _ _ ?_)
            refine hK119 _ _ ?_
            refine cw_drawn (fun u => Ch [] w129 u) (.free 0 (.free 1 (.free 2 (.free 3 (.free 4 (.free 5 (.free 6 (.one 7 false (.done))))))))) (by kernel_rfl) (by kernel_rfl) (Ch.refl _ _).drew fun K137 hK138 => ?_
            obtain ⟨w134, hw_, hch135, hsz136⟩ : ∃ w1 : World, w1 = w129.drew ∧ Ch [] w129 w1 ∧ w1.heap.size = w129.heap.size := ⟨_, rfl, (Ch.refl _ _).drew, rfl⟩
            rw [← hw_]; clear hw_
            have hr139 : Ch [] w129 w134 := hch135.sub (fun s hs => by cases hs)
            have hB_r := hB
            have hB8_r := hB8
            have hO99_r := hO99
            have hsz140 := hch135.size
            replace hB := hB.ch0 hch135
            replace hB8 := hB8.ch0 hch135
            replace hO99 := hO99.ch0 hch135
            replace hc := belowC hc (by omega) off0 hch135
            refine tw_free rfl (w0 rfl) rfl rfl (fun u hu => (pv_move (v := (.pointer (some (⟨g, 0, none⟩)))) rfl rfl : PV _ _ _ _) u) ?_
            refine tw_free rfl (w0 rfl) rfl rfl (fun u hu => (pv_nil rfl rfl : PV _ _ _ _) u) ?_
            refine tw_free rfl (w0 rfl) rfl rfl (fun u hu => (pv_fld F76_1 rfl rfl : PV _ _ _ _) u) ?_
            refine tw_free rfl (w0 rfl) rfl rfl (fun u hu => lv_load T23 rfl rfl ((hB_r.ch hu (by simp)).cellA (i := 2) rfl)) ?_
            refine tw_free rfl (w0 rfl) rfl rfl (fun u hu => (pv_move (v := (.int .i64 (k : Int))) rfl rfl : PV _ _ _ _) u) ?_
            refine tw_free rfl (w0 rfl) rfl rfl (fun u hu => lv_loadN T39 rfl rfl rfl (fun j v hv => (hB8_r.ch hu (by simp)).cellA hv)) ?_
            refine tw_free rfl (w0 rfl) rfl rfl (fun u hu => (pv_idx Try.underlying23 T39 rfl rfl rfl ((hO99.rs (fun _ => rfl)).some (k := k) (by omega)) (by omega) (by omega) : PV _ _ _ _) u) ?_
            refine tw_one rfl (op_store_ownA (k := k) (off := 0) (⟨xS, xA⟩) T39 hO99 (fun _ => rfl) (w0 rfl) rfl rfl rfl rfl rfl (one_all rfl) (by omega) (Nat.le_of_ble_eq_true rfl) rfl ?_)
            rintro w141 hO143 hch142
            have hsz144 := hch142.size
            replace hB := hB.ch hch142 (fun hs => dj_asg hdj103 _ hs rfl)
            replace hB8 := hB8.ch hch142 (fun hs => dj_asg hdj105 _ hs rfl)
            replace hc := belowC hc (by omega) (hO99.off.le (by omega)) hch142
            clear hr139
            clear hO99; have hO99 := hO143; clear hO143
            refine ⟨fun h => (by cases h), ?_⟩
            clear hB_r
            clear hB8_r
            clear hO99_r
            refine tw_done (hK138 _ _ ?_)
            refine finD0n ?_
            refine unlock_door muLib hB ?_
            intro w145 hB146 hch147
            have hsz148 := hch147.size
            replace hB8 := hB8.ch hch147 (by simp; omega)
            replace hO99 := hO99.ch hch147 (fun s hs => by have := dj_asg hdj103 s hs; simpa using this)
            replace hc := belowC hc (by omega) (off1 (by omega)) hch147
            replace hB : Blk w145 g 76 [(.int .i32 0), (.int .u32 0), (.slice A109 (xs ++ ([⟨0, 0⟩] : List Bt)).length c110)] := hB146
            clear hB146
            have hpl : IsPlace xs ⟨xS, xA⟩ k := ⟨hk, hlt, fun h9 h8 => by have h7 : (el xs k).s < xS := h8; omega⟩
            exact ⟨rfl, book_as hB hO99 ((shifted (by omega) (by omega)).trans (hearL_new xs k hpl (by intro h9; have h7 : (el xs k).s = xS := h9.2; omega)).symm) (by omega) (dj_asg hdj103), hc⟩
        · -- no
          replace hb65 := of_decide_eq_false hb65
          refine tw_pass rfl (w1n1 rfl rfl rfl rfl) rfl rfl ?_
          refine tw_pass rfl (w1n1 rfl rfl rfl rfl) rfl rfl ?_
          refine tw_pass rfl (w1n1 rfl rfl rfl rfl) rfl rfl ?_
          refine tw_pass rfl (w1n1 rfl rfl rfl rfl) rfl rfl ?_
          refine tw_pass rfl (w1n1 rfl rfl rfl rfl) rfl rfl ?_
          refine tw_pass rfl (w1n1 rfl rfl rfl rfl) rfl rfl ?_
          refine tw_pass rfl (w1n1 rfl rfl rfl rfl) rfl rfl ?_
          refine tw_pass rfl (w1n1 rfl rfl rfl rfl) rfl rfl ?_
          refine tw_pass rfl (w1n1 rfl rfl rfl rfl) rfl rfl ?_
          refine tw_pass rfl (w1n1 rfl rfl rfl rfl) rfl rfl ?_
          refine tw_pass rfl (w1n1 rfl rfl rfl rfl) rfl rfl ?_
          refine tw_free rfl (w0 rfl) rfl rfl (fun u hu => (pv_pickF (v := (.bool false)) rfl rfl rfl : PV _ _ _ _) u) ?_
          clear hB_r
          clear hB8_r
          clear hO_r
          refine tw_done (hK62 _ _ ?_)
          refine hK57 _ _ ?_
          refine cw_cond rfl (fun h149 => ?_) (fun h149 => ?_)
          · -- then
            cases h149
          · -- else
            clear h149
            refine cw_skip ?_
            refine hK55 _ _ ?_
            refine cw_seq fun K150 hK151 => ?_
            refine cw_region fun K152 hK153 => ?_
            refine rw_cons (op_pv (w0 rfl) rfl rfl (pv_move (v := (.pointer (some (⟨g, 0, none⟩)))) rfl rfl) ?_)
            refine rw_cons (op_pv (w0 rfl) rfl rfl (pv_move (v := (.pointer (some (⟨g, 0, none⟩)))) rfl rfl) ?_)
            refine rw_cons (op_pv (w0 rfl) rfl rfl (pv_nil rfl rfl) ?_)
            refine rw_cons (op_pv (w0 rfl) rfl rfl (pv_fld F76_1 rfl rfl) ?_)
            refine rw_cons (op_lv (w0 rfl) rfl rfl (lv_load T23 rfl rfl (hB.cellA (i := 2) rfl)) ?_)
            refine rw_cons (op_pv (w0 rfl) rfl rfl (pv_build rfl rfl (B39 )) ?_)
            refine rw_cons (op_bslice [(.agg #[(.int .i64 0), (.int .i64 0)])] Try.underlying23 T39 (w0 rfl) rfl rfl rfl rfl rfl (by simp [Value.cells]) (by decide) ?_)
            intro g155 w154 hg158 hg159 hK157 hch156
            have hO160 : Own encB 2 w154 w58.heap.size 39 (.slice (some ⟨g155, 0, none⟩) 1 1) ([⟨0, 0⟩] : List Bt) := Blk.own (xs := ([⟨0, 0⟩] : List Bt)) hK157 (by omega) rfl (by decide) rfl
            have hsz161 := hch156.size
            replace hB := hB.ch0 hch156
            replace hO := hO.ch0 hch156
            replace hB8 := hB8.ch0 hch156
            replace hc := belowC hc (by omega) off0 hch156
            have hub162 := hO160.lt
            refine rw_cons (op_append Try.underlying23 T39 (fun _ => rfl) rfl (by decide) (fun _ => one_all rfl) (w0 rfl) rfl rfl rfl rfl rfl hO (hO160.rs (fun _ => rfl)) (by unfold maxLen; first | omega | (simp; omega)) (by first | omega | (simp; omega)) (by omega) ?_)
            rintro v163 w164 hO165 hch166 hs167
            have hl168 : (xs ++ ([⟨0, 0⟩] : List Bt)).length = xs.length + 1 := by first | (have hl0 := (hO160.rs (fun _ => rfl)).len; omega) | (have hl0 := (hO160.rs (fun _ => rfl)).len; simp only [List.length_append, List.length_cons, List.length_nil] at hl0 ⊢; omega) | simp | rfl
            clear hO160
            have hgl170 := hB.lt
            have hgl172 := hB8.lt
            have hsz173 := hch166.size
            replace hB := hB.ch hch166 (fun hs => dj_asg hgo _ hs rfl)
            replace hB8 := hB8.ch hch166 (fun hs => dj_asg hdj12 _ hs rfl)
            replace hc := belowC hc (by omega) (hO.off.le (by omega)) hch166
            have hub174 := hO165.lt
            obtain ⟨A175, c176, hv177, hcap178, hcap179⟩ := hO165.form; subst hv177
            have hdj169 : ∀ s ∈ obl (.slice A175 (xs ++ ([⟨0, 0⟩] : List Bt)).length c176), s ≠ g := dj_newg hs167 (dj_asg hgo) (by omega)
            have hdj171 : ∀ s ∈ obl (.slice A175 (xs ++ ([⟨0, 0⟩] : List Bt)).length c176), s ≠ g6 := dj_newg hs167 (dj_asg hdj12) (by omega)
            refine rw_cons (op_pv (w0 rfl) rfl rfl (pv_nil rfl rfl) ?_)
            refine rw_cons (op_pv (w0 rfl) rfl rfl (pv_fld F76_1 rfl rfl) ?_)
            refine rw_cons (op_store_blk T23 hB (w0 rfl) rfl rfl rfl rfl rfl (one_all rfl) (Nat.le_of_ble_eq_true rfl) ?_)
            rintro w180 hB182 hch181
            have hsz183 := hch181.size
            replace hB8 := hB8.ch hch181 (by simp; omega)
            replace hO165 := hO165.ch hch181 (fun s hs => by have := dj_asg hdj169 s hs; simpa using this)
            replace hc := belowC hc (by omega) (off1 (by omega)) hch181
            replace hB : Blk w180 g 76 [(.int .i32 1), (.int .u32 0), (.slice A175 (xs ++ ([⟨0, 0⟩] : List Bt)).length c176)] := hB182
            clear hB182
            refine rw_nil (hK153 _ _ ?_)
            refine hK151 _ _ ?_
            refine cw_seq fun K184 hK185 => ?_
            refine cw_drawn (fun u => Ch [] w180 u) (.free 0 (.free 1 (.free 2 (.free 3 (.free 4 (.free 5 (.free 6 (.free 7 (.free 8 (.free 9 (.free 10 (.free 11 (.free 12 (.one 13 false (.done))))))))))))))) (by kernel_rfl) (by kernel_rfl) (Ch.refl _ _).drew fun K189 hK190 => ?_
            obtain ⟨w186, hw_, hch187, hsz188⟩ : ∃ w1 : World, w1 = w180.drew ∧ Ch [] w180 w1 ∧ w1.heap.size = w180.heap.size := ⟨_, rfl, (Ch.refl _ _).drew, rfl⟩
            rw [← hw_]; clear hw_
            have hr191 : Ch [] w180 w186 := hch187.sub (fun s hs => by cases hs)
            have hB_r := hB
            have hB8_r := hB8
            have hO165_r := hO165
            have hsz192 := hch187.size
            replace hB := hB.ch0 hch187
            replace hB8 := hB8.ch0 hch187
            replace hO165 := hO165.ch0 hch187
            replace hc := belowC hc (by omega) off0 hch187
            refine tw_free rfl (w0 rfl) rfl rfl (fun u hu => (pv_move (v := (.pointer (some (⟨g, 0, none⟩)))) rfl rfl : PV _ _ _ _) u) ?_
            refine tw_free rfl (w0 rfl) rfl rfl (fun u hu => (pv_nil rfl rfl : PV _ _ _ _) u) ?_
            refine tw_free rfl (w0 rfl) rfl rfl (fun u hu => (pv_fld F76_1 rfl rfl : PV _ _ _ _) u) ?_
            refine tw_free rfl (w0 rfl) rfl rfl (fun u hu => lv_load T23 rfl rfl ((hB_r.ch hu (by simp)).cellA (i := 2) rfl)) ?_
            refine tw_free rfl (w0 rfl) rfl rfl (fun u hu => (pv_move (v := (.int .i64 (k : Int))) rfl rfl : PV _ _ _ _) u) ?_
            refine tw_free rfl (w0 rfl) rfl rfl (fun u hu => (pv_add rfl rfl rfl (by omega) (by omega) : PV _ _ _ _) u) ?_
            refine tw_free rfl (w0 rfl) rfl rfl (fun u hu => (pv_from Try.underlying23 T39 rfl rfl rfl (by omega) (by omega) : PV _ _ _ _) u) ?_
            have hR193 : RS encB 2 w186 w186.heap.size (if c176 = (k + 1) then A175 else (A175 : Option Addr).map (·.add ((k + 1) * 2))) ((xs ++ ([⟨0, 0⟩] : List Bt)).length - (k + 1)) ((xs ++ ([⟨0, 0⟩] : List Bt)).drop (k + 1)) := ((hO165.rs (fun _ => rfl))).from (by omega) (by omega)
            refine tw_free rfl (w0 rfl) rfl rfl (fun u hu => (pv_move (v := (.pointer (some (⟨g, 0, none⟩)))) rfl rfl : PV _ _ _ _) u) ?_
            refine tw_free rfl (w0 rfl) rfl rfl (fun u hu => (pv_nil rfl rfl : PV _ _ _ _) u) ?_
            refine tw_free rfl (w0 rfl) rfl rfl (fun u hu => (pv_fld F76_1 rfl rfl : PV _ _ _ _) u) ?_
            refine tw_free rfl (w0 rfl) rfl rfl (fun u hu => lv_load T23 rfl rfl ((hB_r.ch hu (by simp)).cellA (i := 2) rfl)) ?_
            refine tw_free rfl (w0 rfl) rfl rfl (fun u hu => (pv_move (v := (.int .i64 (k : Int))) rfl rfl : PV _ _ _ _) u) ?_
            refine tw_free rfl (w0 rfl) rfl rfl (fun u hu => (pv_from Try.underlying23 T39 rfl rfl rfl (by omega) (by omega) : PV _ _ _ _) u) ?_
            have hR194 : RS encB 2 w186 w186.heap.size (if c176 = k then A175 else (A175 : Option Addr).map (·.add (k * 2))) ((xs ++ ([⟨0, 0⟩] : List Bt)).length - k) ((xs ++ ([⟨0, 0⟩] : List Bt)).drop k) := ((hO165.rs (fun _ => rfl))).from (by omega) (by omega)
            have hle198 := hO165.le
            refine tw_one rfl (op_copy (k := (k + 1)) Try.underlying23 T39 (fun _ => rfl) (by decide) (fun _ => one_all rfl) (w0 rfl) rfl rfl rfl rfl rfl hO165 hR194 (fun h => hO165.from_some h) (by omega) ?_)
            rintro w195 hO196 hch197
            have hsz199 := hch197.size
            replace hB := hB.ch hch197 (fun hs => dj_asg hdj169 _ hs rfl)
            replace hB8 := hB8.ch hch197 (fun hs => dj_asg hdj171 _ hs rfl)
            clear hR193
            clear hR194
            replace hc := belowC hc (by omega) (hO165.off.le (by omega)) hch197
            clear hr191
            clear hO165; have hO165 := hO196; clear hO196
            refine ⟨fun h => (by cases h), ?_⟩
            clear hB_r
            clear hB8_r
            clear hO165_r
            refine tw_done (hK190 _ _ ?_)
            refine hK185 _ _ ?_
            refine cw_drawn (fun u => Ch [] w195 u) (.free 0 (.free 1 (.free 2 (.free 3 (.free 4 (.free 5 (.free 6 (.one 7 false (.done))))))))) (by kernel_rfl) (by kernel_rfl) (Ch.refl _ _).drew fun K203 hK204 => ?_
            obtain ⟨w200, hw_, hch201, hsz202⟩ : ∃ w1 : World, w1 = w195.drew ∧ Ch [] w195 w1 ∧ w1.heap.size = w195.heap.size := ⟨_, rfl, (Ch.refl _ _).drew, rfl⟩
            rw [← hw_]; clear hw_
            have hr205 : Ch [] w195 w200 := hch201.sub (fun s hs => by cases hs)
            have hB_r := hB
            have hB8_r := hB8
            have hO165_r := hO165
            have hsz206 := hch201.size
            replace hB := hB.ch0 hch201
            replace hB8 := hB8.ch0 hch201
            replace hO165 := hO165.ch0 hch201
            replace hc := belowC hc (by omega) off0 hch201
            refine tw_free rfl (w0 rfl) rfl rfl (fun u hu => (pv_move (v := (.pointer (some (⟨g, 0, none⟩)))) rfl rfl : PV _ _ _ _) u) ?_
            refine tw_free rfl (w0 rfl) rfl rfl (fun u hu => (pv_nil rfl rfl : PV _ _ _ _) u) ?_
            refine tw_free rfl (w0 rfl) rfl rfl (fun u hu => (pv_fld F76_1 rfl rfl : PV _ _ _ _) u) ?_
            refine tw_free rfl (w0 rfl) rfl rfl (fun u hu => lv_load T23 rfl rfl ((hB_r.ch hu (by simp)).cellA (i := 2) rfl)) ?_
            refine tw_free rfl (w0 rfl) rfl rfl (fun u hu => (pv_move (v := (.int .i64 (k : Int))) rfl rfl : PV _ _ _ _) u) ?_
            refine tw_free rfl (w0 rfl) rfl rfl (fun u hu => lv_loadN T39 rfl rfl rfl (fun j v hv => (hB8_r.ch hu (by simp)).cellA hv)) ?_
            refine tw_free rfl (w0 rfl) rfl rfl (fun u hu => (pv_idx Try.underlying23 T39 rfl rfl rfl ((hO165.rs (fun _ => rfl)).some (k := k) (by omega)) (by omega) (by omega) : PV _ _ _ _) u) ?_
            refine tw_one rfl (op_store_ownA (k := k) (off := 0) (⟨xS, xA⟩) T39 hO165 (fun _ => rfl) (w0 rfl) rfl rfl rfl rfl rfl (one_all rfl) (by omega) (Nat.le_of_ble_eq_true rfl) rfl ?_)
            rintro w207 hO209 hch208
            have hsz210 := hch208.size
            replace hB := hB.ch hch208 (fun hs => dj_asg hdj169 _ hs rfl)
            replace hB8 := hB8.ch hch208 (fun hs => dj_asg hdj171 _ hs rfl)
            replace hc := belowC hc (by omega) (hO165.off.le (by omega)) hch208
            clear hr205
            clear hO165; have hO165 := hO209; clear hO209
            refine ⟨fun h => (by cases h), ?_⟩
            clear hB_r
            clear hB8_r
            clear hO165_r
            refine tw_done (hK204 _ _ ?_)
            refine finD0n ?_
            refine unlock_door muLib hB ?_
            intro w211 hB212 hch213
            have hsz214 := hch213.size
            replace hB8 := hB8.ch hch213 (by simp; omega)
            replace hO165 := hO165.ch hch213 (fun s hs => by have := dj_asg hdj169 s hs; simpa using this)
            replace hc := belowC hc (by omega) (off1 (by omega)) hch213
            replace hB : Blk w211 g 76 [(.int .i32 0), (.int .u32 0), (.slice A175 (xs ++ ([⟨0, 0⟩] : List Bt)).length c176)] := hB212
            clear hB212
            have hpl : IsPlace xs ⟨xS, xA⟩ k := ⟨hk, hlt, fun h9 h8 => by have h7 : (el xs k).s < xS := h8; omega⟩
            exact ⟨rfl, book_as hB hO165 ((shifted (by omega) (by omega)).trans (hearL_new xs k hpl (by intro h9; have h7 : (el xs k).s = xS := h9.2; omega)).symm) (by omega) (dj_asg hdj169), hc⟩
    · -- no
      replace hb50 := of_decide_eq_false hb50
      refine tw_pass rfl (w1n1 rfl rfl rfl rfl) rfl rfl ?_
      refine tw_pass rfl (w1n1 rfl rfl rfl rfl) rfl rfl ?_
      refine tw_pass rfl (w1n1 rfl rfl rfl rfl) rfl rfl ?_
      refine tw_pass rfl (w1n1 rfl rfl rfl rfl) rfl rfl ?_
      refine tw_pass rfl (w1n1 rfl rfl rfl rfl) rfl rfl ?_
      refine tw_pass rfl (w1n1 rfl rfl rfl rfl) rfl rfl ?_
      refine tw_pass rfl (w1n1 rfl rfl rfl rfl) rfl rfl ?_
      refine tw_pass rfl (w1n1 rfl rfl rfl rfl) rfl rfl ?_
      refine tw_pass rfl (w1n1 rfl rfl rfl rfl) rfl rfl ?_
      refine tw_pass rfl (w1n1 rfl rfl rfl rfl) rfl rfl ?_
      refine tw_pass rfl (w1n1 rfl rfl rfl rfl) rfl rfl ?_
      refine tw_free rfl (w0 rfl) rfl rfl (fun u hu => (pv_pickF (v := (.bool false)) rfl rfl rfl : PV _ _ _ _) u) ?_
      clear hB_r
      clear hB8_r
      clear hO_r
      refine tw_done (hK47 _ _ ?_)
      refine hK42 _ _ ?_
      refine cw_cond rfl (fun h215 => ?_) (fun h215 => ?_)
      · -- then
        cases h215
      · -- else
        clear h215
        refine cw_exit ?_
        refine hK30 _ _ ?_
        refine cw_seq fun K216 hK217 => ?_
        refine cw_seq fun K218 hK219 => ?_
        refine cw_drawn (fun u => Ch [] w43 u) (.free 0 (.free 1 (.free 2 (.free 3 (.free 4 (.free 5 (.free 6 (.free 7 (.free 8 (.free 9 (.free 10 (.free 11 (.free 12 (.free 13 (.free 14 (.free 15 (.free 16 (.free 17 (.free 18 (.free 19 (.done))))))))))))))))))))) (by kernel_rfl) (by kernel_rfl) (Ch.refl _ _).drew fun K223 hK224 => ?_
        obtain ⟨w220, hw_, hch221, hsz222⟩ : ∃ w1 : World, w1 = w43.drew ∧ Ch [] w43 w1 ∧ w1.heap.size = w43.heap.size := ⟨_, rfl, (Ch.refl _ _).drew, rfl⟩
        rw [← hw_]; clear hw_
        have hr225 : Ch [] w43 w220 := hch221.sub (fun s hs => by cases hs)
        have hB_r := hB
        have hO_r := hO
        have hB8_r := hB8
        have hsz226 := hch221.size
        replace hB := hB.ch0 hch221
        replace hO := hO.ch0 hch221
        replace hB8 := hB8.ch0 hch221
        replace hc := belowC hc (by omega) off0 hch221
        refine tw_free rfl (w0 rfl) rfl rfl (fun u hu => (pv_move (v := (.int .i64 (k : Int))) rfl rfl : PV _ _ _ _) u) ?_
        refine tw_free rfl (w0 rfl) rfl rfl (fun u hu => (pv_move (v := (.pointer (some (⟨g, 0, none⟩)))) rfl rfl : PV _ _ _ _) u) ?_
        refine tw_free rfl (w0 rfl) rfl rfl (fun u hu => (pv_nil rfl rfl : PV _ _ _ _) u) ?_
        refine tw_free rfl (w0 rfl) rfl rfl (fun u hu => (pv_fld F76_1 rfl rfl : PV _ _ _ _) u) ?_
        refine tw_free rfl (w0 rfl) rfl rfl (fun u hu => lv_load T23 rfl rfl ((hB_r.ch hu (by simp)).cellA (i := 2) rfl)) ?_
        refine tw_free rfl (w0 rfl) rfl rfl (fun u hu => (pv_len Try.underlying23 rfl rfl : PV _ _ _ _) u) ?_
        refine tw_free rfl (w0 rfl) rfl rfl (fun u hu => (pv_lss rfl rfl rfl : PV _ _ _ _) u) ?_
        refine tw_free rfl (w0 rfl) rfl rfl (fun u hu => (pv_move (v := (.bool (decide ((k : Int) < (xs.length : Int))))) rfl rfl : PV _ _ _ _) u) ?_
        refine tw_split 41 rfl (fun hb227 => ?_) (fun hb227 => ?_)
        · -- yes
          replace hb227 := of_decide_eq_true hb227
          refine tw_free rfl (w1y rfl rfl rfl rfl) rfl rfl (fun u hu => (pv_move (v := (.pointer (some (⟨g, 0, none⟩)))) rfl rfl : PV _ _ _ _) u) ?_
          refine tw_free rfl (w1y rfl rfl rfl rfl) rfl rfl (fun u hu => (pv_nil rfl rfl : PV _ _ _ _) u) ?_
          refine tw_free rfl (w1y rfl rfl rfl rfl) rfl rfl (fun u hu => (pv_fld F76_1 rfl rfl : PV _ _ _ _) u) ?_
          refine tw_free rfl (w1y rfl rfl rfl rfl) rfl rfl (fun u hu => lv_load T23 rfl rfl ((hB_r.ch hu (by simp)).cellA (i := 2) rfl)) ?_
          refine tw_free rfl (w1y rfl rfl rfl rfl) rfl rfl (fun u hu => (pv_move (v := (.int .i64 (k : Int))) rfl rfl : PV _ _ _ _) u) ?_
          refine tw_free rfl (w1y rfl rfl rfl rfl) rfl rfl (fun u hu => (pv_idx Try.underlying23 T39 rfl rfl rfl ((hO.rs (fun _ => rfl)).some (k := k) (by omega)) (by omega) (by omega) : PV _ _ _ _) u) ?_
          refine tw_free rfl (w1y rfl rfl rfl rfl) rfl rfl (fun u hu => (pv_fld F39_0 rfl rfl : PV _ _ _ _) u) ?_
          refine tw_free rfl (w1y rfl rfl rfl rfl) rfl rfl (fun u hu => lv_load T3 rfl rfl (((hO_r.ch0 hu).rs (fun _ => rfl)).cellE (k := k) (j := 0) (by omega) rfl)) ?_
          refine tw_free rfl (w1y rfl rfl rfl rfl) rfl rfl (fun u hu => (pv_fld F39_0 rfl rfl : PV _ _ _ _) u) ?_
          refine tw_free rfl (w1y rfl rfl rfl rfl) rfl rfl (fun u hu => lv_load T3 rfl rfl ((hB8_r.ch hu (by simp)).cellA (i := 0) rfl)) ?_
          refine tw_free rfl (w1y rfl rfl rfl rfl) rfl rfl (fun u hu => (pv_eql rfl rfl rfl : PV _ _ _ _) u) ?_
          refine tw_free rfl (w0 rfl) rfl rfl (fun u hu => (pv_pickT (v := (.bool (decide (((el xs k).s : Int) = xS)))) rfl rfl rfl : PV _ _ _ _) u) ?_
          clear hB_r
          clear hB8_r
          clear hO_r
          refine tw_done (hK224 _ _ ?_)
          refine hK219 _ _ ?_
          refine cw_cond rfl (fun h228 => ?_) (fun h228 => ?_)
          · -- then
            replace h228 := of_decide_eq_true h228
            refine cw_seq fun K229 hK230 => ?_
            refine cw_drawn (fun u => Ch [] w220 u) (.free 0 (.free 1 (.free 2 (.free 3 (.free 4 (.free 5 (.free 6 (.free 7 (.free 8 (.free 9 (.free 10 (.free 11 (.free 12 (.free 13 (.free 14 (.free 15 (.free 16 (.free 17 (.one 18 false (.done)))))))))))))))))))) (by kernel_rfl) (by kernel_rfl) (Ch.refl _ _).drew fun K234 hK235 => ?_
            obtain ⟨w231, hw_, hch232, hsz233⟩ : ∃ w1 : World, w1 = w220.drew ∧ Ch [] w220 w1 ∧ w1.heap.size = w220.heap.size := ⟨_, rfl, (Ch.refl _ _).drew, rfl⟩
            rw [← hw_]; clear hw_
            have hr236 : Ch [] w220 w231 := hch232.sub (fun s hs => by cases hs)
            have hB_r := hB
            have hO_r := hO
            have hB8_r := hB8
            have hsz237 := hch232.size
            replace hB := hB.ch0 hch232
            replace hO := hO.ch0 hch232
            replace hB8 := hB8.ch0 hch232
            replace hc := belowC hc (by omega) off0 hch232
            refine tw_free rfl (w0 rfl) rfl rfl (fun u hu => (pv_move (v := (.pointer (some (⟨g, 0, none⟩)))) rfl rfl : PV _ _ _ _) u) ?_
            refine tw_free rfl (w0 rfl) rfl rfl (fun u hu => (pv_nil rfl rfl : PV _ _ _ _) u) ?_
            refine tw_free rfl (w0 rfl) rfl rfl (fun u hu => (pv_fld F76_1 rfl rfl : PV _ _ _ _) u) ?_
            refine tw_free rfl (w0 rfl) rfl rfl (fun u hu => lv_load T23 rfl rfl ((hB_r.ch hu (by simp)).cellA (i := 2) rfl)) ?_
            refine tw_free rfl (w0 rfl) rfl rfl (fun u hu => (pv_move (v := (.int .i64 (k : Int))) rfl rfl : PV _ _ _ _) u) ?_
            refine tw_free rfl (w0 rfl) rfl rfl (fun u hu => (pv_move (v := (.pointer (some (⟨g, 0, none⟩)))) rfl rfl : PV _ _ _ _) u) ?_
            refine tw_free rfl (w0 rfl) rfl rfl (fun u hu => (pv_nil rfl rfl : PV _ _ _ _) u) ?_
            refine tw_free rfl (w0 rfl) rfl rfl (fun u hu => (pv_fld F76_1 rfl rfl : PV _ _ _ _) u) ?_
            refine tw_free rfl (w0 rfl) rfl rfl (fun u hu => lv_load T23 rfl rfl ((hB_r.ch hu (by simp)).cellA (i := 2) rfl)) ?_
            refine tw_free rfl (w0 rfl) rfl rfl (fun u hu => (pv_move (v := (.int .i64 (k : Int))) rfl rfl : PV _ _ _ _) u) ?_
            refine tw_free rfl (w0 rfl) rfl rfl (fun u hu => (pv_idx Try.underlying23 T39 rfl rfl rfl ((hO.rs (fun _ => rfl)).some (k := k) (by omega)) (by omega) (by omega) : PV _ _ _ _) u) ?_
            refine tw_free rfl (w0 rfl) rfl rfl (fun u hu => (pv_fld F39_1 rfl rfl : PV _ _ _ _) u) ?_
            refine tw_free rfl (w0 rfl) rfl rfl (fun u hu => lv_load T3 rfl rfl (((hO_r.ch0 hu).rs (fun _ => rfl)).cellE (k := k) (j := 1) (by omega) rfl)) ?_
            refine tw_free rfl (w0 rfl) rfl rfl (fun u hu => (pv_fld F39_1 rfl rfl : PV _ _ _ _) u) ?_
            refine tw_free rfl (w0 rfl) rfl rfl (fun u hu => lv_load T3 rfl rfl ((hB8_r.ch hu (by simp)).cellA (i := 1) rfl)) ?_
            refine tw_free rfl (w0 rfl) rfl rfl (fun u hu => (pv_max rfl rfl rfl : PV _ _ _ _) u) ?_
            refine tw_free rfl (w0 rfl) rfl rfl (fun u hu => (pv_idx Try.underlying23 T39 rfl rfl rfl ((hO.rs (fun _ => rfl)).some (k := k) (by omega)) (by omega) (by omega) : PV _ _ _ _) u) ?_
            refine tw_free rfl (w0 rfl) rfl rfl (fun u hu => (pv_fld F39_1 rfl rfl : PV _ _ _ _) u) ?_
            refine tw_one rfl (op_store_ownA (k := k) (off := 1) (⟨(el xs k).s, max (el xs k).a xA⟩) T3 hO (fun _ => rfl) (w0 rfl) rfl rfl rfl rfl rfl (one_all rfl) (by omega) (Nat.le_of_ble_eq_true rfl) rfl ?_)
            rintro w238 hO240 hch239
            have hsz241 := hch239.size
            replace hB := hB.ch hch239 (fun hs => dj_asg hgo _ hs rfl)
            replace hB8 := hB8.ch hch239 (fun hs => dj_asg hdj12 _ hs rfl)
            replace hc := belowC hc (by omega) (hO.off.le (by omega)) hch239
            clear hr236
            clear hO; have hO := hO240; clear hO240
            refine ⟨fun h => (by cases h), ?_⟩
            clear hB_r
            clear hB8_r
            clear hO_r
            refine tw_done (hK235 _ _ ?_)
            refine hK230 _ _ ?_
            refine cw_ret ?_
            refine finD0 ?_
            refine unlock_door muLib hB ?_
            intro w242 hB243 hch244
            have hsz245 := hch244.size
            replace hO := hO.ch hch244 (fun s hs => by have := dj_asg hgo s hs; simpa using this)
            replace hB8 := hB8.ch hch244 (by simp; omega)
            replace hc := belowC hc (by omega) (off1 (by omega)) hch244
            replace hB : Blk w242 g 76 [(.int .i32 0), (.int .u32 0), (.slice A xs.length c)] := hB243
            clear hB243
            have hpl : IsPlace xs ⟨xS, xA⟩ k := ⟨hk, hlt, fun h9 h8 => by have h7 : (el xs k).s < xS := h8; omega⟩
            exact ⟨rfl, book_as hB hO (hearL_at xs k hpl (by omega) (by show (el xs k).s = xS; omega)).symm (by omega) (dj_asg hgo), hc⟩
          · -- else
            replace h228 := of_decide_eq_false h228
            refine cw_skip ?_
            refine hK217 _ _ ?_
            refine cw_seq fun K246 hK247 => ?_
            refine cw_region fun K248 hK249 => ?_
            refine rw_cons (op_pv (w0 rfl) rfl rfl (pv_move (v := (.pointer (some (⟨g, 0, none⟩)))) rfl rfl) ?_)
            refine rw_cons (op_pv (w0 rfl) rfl rfl (pv_move (v := (.pointer (some (⟨g, 0, none⟩)))) rfl rfl) ?_)
            refine rw_cons (op_pv (w0 rfl) rfl rfl (pv_nil rfl rfl) ?_)
            refine rw_cons (op_pv (w0 rfl) rfl rfl (pv_fld F76_1 rfl rfl) ?_)
            refine rw_cons (op_lv (w0 rfl) rfl rfl (lv_load T23 rfl rfl (hB.cellA (i := 2) rfl)) ?_)
            refine rw_cons (op_pv (w0 rfl) rfl rfl (pv_build rfl rfl (B39 )) ?_)
            refine rw_cons (op_bslice [(.agg #[(.int .i64 0), (.int .i64 0)])] Try.underlying23 T39 (w0 rfl) rfl rfl rfl rfl rfl (by simp [Value.cells]) (by decide) ?_)
            intro g251 w250 hg254 hg255 hK253 hch252
            have hO256 : Own encB 2 w250 w220.heap.size 39 (.slice (some ⟨g251, 0, none⟩) 1 1) ([⟨0, 0⟩] : List Bt) := Blk.own (xs := ([⟨0, 0⟩] : List Bt)) hK253 (by omega) rfl (by decide) rfl
            have hsz257 := hch252.size
            replace hB := hB.ch0 hch252
            replace hO := hO.ch0 hch252
            replace hB8 := hB8.ch0 hch252
            replace hc := belowC hc (by omega) off0 hch252
            have hub258 := hO256.lt
            refine rw_cons (op_append Try.underlying23 T39 (fun _ => rfl) rfl (by decide) (fun _ => one_all rfl) (w0 rfl) rfl rfl rfl rfl rfl hO (hO256.rs (fun _ => rfl)) (by unfold maxLen; first | omega | (simp; omega)) (by first | omega | (simp; omega)) (by omega) ?_)
            rintro v259 w260 hO261 hch262 hs263
            have hl264 : (xs ++ ([⟨0, 0⟩] : List Bt)).length = xs.length + 1 := by first | (have hl0 := (hO256.rs (fun _ => rfl)).len; omega) | (have hl0 := (hO256.rs (fun _ => rfl)).len; simp only [List.length_append, List.length_cons, List.length_nil] at hl0 ⊢; omega) | simp | rfl
            clear hO256
            have hgl266 := hB.lt
            have hgl268 := hB8.lt
            have hsz269 := hch262.size
            replace hB := hB.ch hch262 (fun hs => dj_asg hgo _ hs rfl)
            replace hB8 := hB8.ch hch262 (fun hs => dj_asg hdj12 _ hs rfl)
            replace hc := belowC hc (by omega) (hO.off.le (by omega)) hch262
            have hub270 := hO261.lt
            obtain ⟨A271, c272, hv273, hcap274, hcap275⟩ := hO261.form; subst hv273
            have hdj265 : ∀ s ∈ obl (.slice A271 (xs ++ ([⟨0, 0⟩] : List Bt)).length c272), s ≠ g := dj_newg hs263 (dj_asg hgo) (by omega)
            have hdj267 : ∀ s ∈ obl (.slice A271 (xs ++ ([⟨0, 0⟩] : List Bt)).length c272), s ≠ g6 := dj_newg hs263 (dj_asg hdj12) (by omega)
            refine rw_cons (op_pv (w0 rfl) rfl rfl (pv_nil rfl rfl) ?_)
            refine rw_cons (op_pv (w0 rfl) rfl rfl (pv_fld F76_1 rfl rfl) ?_)
            refine rw_cons (op_store_blk T23 hB (w0 rfl) rfl rfl rfl rfl rfl (one_all rfl) (Nat.le_of_ble_eq_true rfl) ?_)
            rintro w276 hB278 hch277
            have hsz279 := hch277.size
            replace hB8 := hB8.ch hch277 (by simp; omega)
            replace hO261 := hO261.ch hch277 (fun s hs => by have := dj_asg hdj265 s hs; simpa using this)
            replace hc := belowC hc (by omega) (off1 (by omega)) hch277
            replace hB : Blk w276 g 76 [(.int .i32 1), (.int .u32 0), (.slice A271 (xs ++ ([⟨0, 0⟩] : List Bt)).length c272)] := hB278
            clear hB278
            refine rw_nil (hK249 _ _ ?_)
            refine hK247 _ _ ?_
            refine cw_seq fun K280 hK281 => ?_
            refine cw_drawn (fun u => Ch [] w276 u) (.free 0 (.free 1 (.free 2 (.free 3 (.free 4 (.free 5 (.free 6 (.free 7 (.free 8 (.free 9 (.free 10 (.free 11 (.free 12 (.one 13 false (.done))))))))))))))) (by kernel_rfl) (by kernel_rfl) (Ch.refl _ _).drew fun K285 hK286 => ?_
            obtain ⟨w282, hw_, hch283, hsz284⟩ : ∃ w1 : World, w1 = w276.drew ∧ Ch [] w276 w1 ∧ w1.heap.size = w276.heap.size := ⟨_, rfl, (Ch.refl _ _).drew, rfl⟩
            rw [← hw_]; clear hw_
            have hr287 : Ch [] w276 w282 := hch283.sub (fun s hs => by cases hs)
            have hB_r := hB
            have hB8_r := hB8
            have hO261_r := hO261
            have hsz288 := hch283.size
            replace hB := hB.ch0 hch283
            replace hB8 := hB8.ch0 hch283
            replace hO261 := hO261.ch0 hch283
            replace hc := belowC hc (by omega) off0 hch283
            refine tw_free rfl (w0 rfl) rfl rfl (fun u hu => (pv_move (v := (.pointer (some (⟨g, 0, none⟩)))) rfl rfl : PV _ _ _ _) u) ?_
            refine tw_free rfl (w0 rfl) rfl rfl (fun u hu => (pv_nil rfl rfl : PV _ _ _ _) u) ?_
            refine tw_free rfl (w0 rfl) rfl rfl (fun u hu => (pv_fld F76_1 rfl rfl : PV _ _ _ _) u) ?_
            refine tw_free rfl (w0 rfl) rfl rfl (fun u hu => lv_load T23 rfl rfl ((hB_r.ch hu (by simp)).cellA (i := 2) rfl)) ?_
            refine tw_free rfl (w0 rfl) rfl rfl (fun u hu => (pv_move (v := (.int .i64 (k : Int))) rfl rfl : PV _ _ _ _) u) ?_
            refine tw_free rfl (w0 rfl) rfl rfl (fun u hu => (pv_add rfl rfl rfl (by omega) (by omega) : PV _ _ _ _) u) ?_
            refine tw_free rfl (w0 rfl) rfl rfl (fun u hu => (pv_from Try.underlying23 T39 rfl rfl rfl (by omega) (by omega) : PV _ _ _ _) u) ?_
            have hR289 : RS encB 2 w282 w282.heap.size (if c272 = (k + 1) then A271 else (A271 : Option Addr).map (·.add ((k + 1) * 2))) ((xs ++ ([⟨0, 0⟩] : List Bt)).length - (k + 1)) ((xs ++ ([⟨0, 0⟩] : List Bt)).drop (k + 1)) := ((hO261.rs (fun _ => rfl))).from (by omega) (by omega)
            refine tw_free rfl (w0 rfl) rfl rfl (fun u hu => (pv_move (v := (.pointer (some (⟨g, 0, none⟩)))) rfl rfl : PV _ _ _ _) u) ?_
            refine tw_free rfl (w0 rfl) rfl rfl (fun u hu => (pv_nil rfl rfl : PV _ _ _ _) u) ?_
            refine tw_free rfl (w0 rfl) rfl rfl (fun u hu => (pv_fld F76_1 rfl rfl : PV _ _ _ _) u) ?_
            refine tw_free rfl (w0 rfl) rfl rfl (fun u hu => lv_load T23 rfl rfl ((hB_r.ch hu (by simp)).cellA (i := 2) rfl)) ?_
            refine tw_free rfl (w0 rfl) rfl rfl (fun u hu => (pv_move (v := (.int .i64 (k : Int))) rfl rfl : PV _ _ _ _) u) ?_
            refine tw_free rfl (w0 rfl) rfl rfl (fun u hu => (pv_from Try.underlying23 T39 rfl rfl rfl (by omega) (by omega) : PV _ _ _ _) u) ?_
            have hR290 : RS encB 2 w282 w282.heap.size (if c272 = k then A271 else (A271 : Option Addr).map (·.add (k * 2))) ((xs ++ ([⟨0, 0⟩] : List Bt)).length - k) ((xs ++ ([⟨0, 0⟩] : List Bt)).drop k) := ((hO261.rs (fun _ => rfl))).from (by omega) (by omega)
            have hle294 := hO261.le
            refine tw_one rfl (op_copy (k := (k + 1)) Try.underlying23 T39 (fun _ => rfl) (by decide) (fun _ => one_all rfl) (w0 rfl) rfl rfl rfl rfl rfl hO261 hR290 (fun h => hO261.from_some h) (by omega) ?_)
            rintro w291 hO292 hch293
            have hsz295 := hch293.size
            replace hB := hB.ch hch293 (fun hs => dj_asg hdj265 _ hs rfl)
            replace hB8 := hB8.ch hch293 (fun hs => dj_asg hdj267 _ hs rfl)
            clear hR289
            clear hR290
            replace hc := belowC hc (by omega) (hO261.off.le (by omega)) hch293
            clear hr287
            clear hO261; have hO261 := hO292; clear hO292
            refine ⟨fun h => (by cases h), ?_⟩
            clear hB_r
            clear hB8_r
            clear hO261_r
            refine tw_done (hK286 _ _ ?_)
            refine hK281 _ _ ?_
            refine cw_drawn (fun u => Ch [] w291 u) (.free 0 (.free 1 (.free 2 (.free 3 (.free 4 (.free 5 (.free 6 (.one 7 false (.done))))))))) (by kernel_rfl) (by kernel_rfl) (Ch.refl _ _).drew fun K299 hK300 => ?_
            obtain ⟨w296, hw_, hch297, hsz298⟩ : ∃ w1 : World, w1 = w291.drew ∧ Ch [] w291 w1 ∧ w1.heap.size = w291.heap.size := ⟨_, rfl, (Ch.refl _ _).drew, rfl⟩
            rw [← hw_]; clear hw_
            have hr301 : Ch [] w291 w296 := hch297.sub (fun s hs => by cases hs)
            have hB_r := hB
            have hB8_r := hB8
            have hO261_r := hO261
            have hsz302 := hch297.size
            replace hB := hB.ch0 hch297
            replace hB8 := hB8.ch0 hch297
            replace hO261 := hO261.ch0 hch297
            replace hc := belowC hc (by omega) off0 hch297
            refine tw_free rfl (w0 rfl) rfl rfl (fun u hu => (pv_move (v := (.pointer (some (⟨g, 0, none⟩)))) rfl rfl : PV _ _ _ _) u) ?_
            refine tw_free rfl (w0 rfl) rfl rfl (fun u hu => (pv_nil rfl rfl : PV _ _ _ _) u) ?_
            refine tw_free rfl (w0 rfl) rfl rfl (fun u hu => (pv_fld F76_1 rfl rfl : PV _ _ _ _) u) ?_
            refine tw_free rfl (w0 rfl) rfl rfl (fun u hu => lv_load T23 rfl rfl ((hB_r.ch hu (by simp)).cellA (i := 2) rfl)) ?_
            refine tw_free rfl (w0 rfl) rfl rfl (fun u hu => (pv_move (v := (.int .i64 (k : Int))) rfl rfl : PV _ _ _ _) u) ?_
            refine tw_free rfl (w0 rfl) rfl rfl (fun u hu => lv_loadN T39 rfl rfl rfl (fun j v hv => (hB8_r.ch hu (by simp)).cellA hv)) ?_
            refine tw_free rfl (w0 rfl) rfl rfl (fun u hu => (pv_idx Try.underlying23 T39 rfl rfl rfl ((hO261.rs (fun _ => rfl)).some (k := k) (by omega)) (by omega) (by omega) : PV _ _ _ _) u) ?_
            refine tw_one rfl (op_store_ownA (k := k) (off := 0) (⟨xS, xA⟩) T39 hO261 (fun _ => rfl) (w0 rfl) rfl rfl rfl rfl rfl (one_all rfl) (by omega) (Nat.le_of_ble_eq_true rfl) rfl ?_)
            rintro w303 hO305 hch304
            have hsz306 := hch304.size
            replace hB := hB.ch hch304 (fun hs => dj_asg hdj265 _ hs rfl)
            replace hB8 := hB8.ch hch304 (fun hs => dj_asg hdj267 _ hs rfl)
            replace hc := belowC hc (by omega) (hO261.off.le (by omega)) hch304
            clear hr301
            clear hO261; have hO261 := hO305; clear hO305
            refine ⟨fun h => (by cases h), ?_⟩
            clear hB_r
            clear hB8_r
            clear hO261_r
            refine tw_done (hK300 _ _ ?_)
            refine finD0n ?_
            refine unlock_door muLib hB ?_
            intro w307 hB308 hch309
            have hsz310 := hch309.size
            replace hB8 := hB8.ch hch309 (by simp; omega)
            replace hO261 := hO261.ch hch309 (fun s hs => by have := dj_asg hdj265 s hs; simpa using this)
            replace hc := belowC hc (by omega) (off1 (by omega)) hch309
            replace hB : Blk w307 g 76 [(.int .i32 0), (.int .u32 0), (.slice A271 (xs ++ ([⟨0, 0⟩] : List Bt)).length c272)] := hB308
            clear hB308
            have hpl : IsPlace xs ⟨xS, xA⟩ k := ⟨hk, hlt, fun h9 h8 => by have h7 : (el xs k).s < xS := h8; omega⟩
            exact ⟨rfl, book_as hB hO261 ((shifted (by omega) (by omega)).trans (hearL_new xs k hpl (by intro h9; have h7 : (el xs k).s = xS := h9.2; omega)).symm) (by omega) (dj_asg hdj265), hc⟩
        · -- no
          replace hb227 := of_decide_eq_false hb227
          refine tw_pass rfl (w1n1 rfl rfl rfl rfl) rfl rfl ?_
          refine tw_pass rfl (w1n1 rfl rfl rfl rfl) rfl rfl ?_
          refine tw_pass rfl (w1n1 rfl rfl rfl rfl) rfl rfl ?_
          refine tw_pass rfl (w1n1 rfl rfl rfl rfl) rfl rfl ?_
          refine tw_pass rfl (w1n1 rfl rfl rfl rfl) rfl rfl ?_
          refine tw_pass rfl (w1n1 rfl rfl rfl rfl) rfl rfl ?_
          refine tw_pass rfl (w1n1 rfl rfl rfl rfl) rfl rfl ?_
          refine tw_pass rfl (w1n1 rfl rfl rfl rfl) rfl rfl ?_
          refine tw_pass rfl (w1n1 rfl rfl rfl rfl) rfl rfl ?_
          refine tw_pass rfl (w1n1 rfl rfl rfl rfl) rfl rfl ?_
          refine tw_pass rfl (w1n1 rfl rfl rfl rfl) rfl rfl ?_
          refine tw_free rfl (w0 rfl) rfl rfl (fun u hu => (pv_pickF (v := (.bool false)) rfl rfl rfl : PV _ _ _ _) u) ?_
          clear hB_r
          clear hB8_r
          clear hO_r
          refine tw_done (hK224 _ _ ?_)
          refine hK219 _ _ ?_
          refine cw_cond rfl (fun h311 => ?_) (fun h311 => ?_)
          · -- then
            cases h311
          · -- else
            clear h311
            refine cw_skip ?_
            refine hK217 _ _ ?_
            refine cw_seq fun K312 hK313 => ?_
            refine cw_region fun K314 hK315 => ?_
            refine rw_cons (op_pv (w0 rfl) rfl rfl (pv_move (v := (.pointer (some (⟨g, 0, none⟩)))) rfl rfl) ?_)
            refine rw_cons (op_pv (w0 rfl) rfl rfl (pv_move (v := (.pointer (some (⟨g, 0, none⟩)))) rfl rfl) ?_)
            refine rw_cons (op_pv (w0 rfl) rfl rfl (pv_nil rfl rfl) ?_)
            refine rw_cons (op_pv (w0 rfl) rfl rfl (pv_fld F76_1 rfl rfl) ?_)
            refine rw_cons (op_lv (w0 rfl) rfl rfl (lv_load T23 rfl rfl (hB.cellA (i := 2) rfl)) ?_)
            refine rw_cons (op_pv (w0 rfl) rfl rfl (pv_build rfl rfl (B39 )) ?_)
            refine rw_cons (op_bslice [(.agg #[(.int .i64 0), (.int .i64 0)])] Try.underlying23 T39 (w0 rfl) rfl rfl rfl rfl rfl (by simp [Value.cells]) (by decide) ?_)
            intro g317 w316 hg320 hg321 hK319 hch318
            have hO322 : Own encB 2 w316 w220.heap.size 39 (.slice (some ⟨g317, 0, none⟩) 1 1) ([⟨0, 0⟩] : List Bt) := Blk.own (xs := ([⟨0, 0⟩] : List Bt)) hK319 (by omega) rfl (by decide) rfl
            have hsz323 := hch318.size
            replace hB := hB.ch0 hch318
            replace hO := hO.ch0 hch318
            replace hB8 := hB8.ch0 hch318
            replace hc := belowC hc (by omega) off0 hch318
            have hub324 := hO322.lt
            refine rw_cons (op_append Try.underlying23 T39 (fun _ => rfl) rfl (by decide) (fun _ => one_all rfl) (w0 rfl) rfl rfl rfl rfl rfl hO (hO322.rs (fun _ => rfl)) (by unfold maxLen; first | omega | (simp; omega)) (by first | omega | (simp; omega)) (by omega) ?_)
            rintro v325 w326 hO327 hch328 hs329
            have hl330 : (xs ++ ([⟨0, 0⟩] : List Bt)).length = xs.length + 1 := by first | (have hl0 := (hO322.rs (fun _ => rfl)).len; omega) | (have hl0 := (hO322.rs (fun _ => rfl)).len; simp only [List.length_append, List.length_cons, List.length_nil] at hl0 ⊢; omega) | simp | rfl
            clear hO322
            have hgl332 := hB.lt
            have hgl334 := hB8.lt
            have hsz335 := hch328.size
            replace hB := hB.ch hch328 (fun hs => dj_asg hgo _ hs rfl)
            replace hB8 := hB8.ch hch328 (fun hs => dj_asg hdj12 _ hs rfl)
            replace hc := belowC hc (by omega) (hO.off.le (by omega)) hch328
            have hub336 := hO327.lt
            obtain ⟨A337, c338, hv339, hcap340, hcap341⟩ := hO327.form; subst hv339
            have hdj331 : ∀ s ∈ obl (.slice A337 (xs ++ ([⟨0, 0⟩] : List Bt)).length c338), s ≠ g := dj_newg hs329 (dj_asg hgo) (by omega)
            have hdj333 : ∀ s ∈ obl (.slice A337 (xs ++ ([⟨0, 0⟩] : List Bt)).length c338), s ≠ g6 := dj_newg hs329 (dj_asg hdj12) (by omega)
            refine rw_cons (op_pv (w0 rfl) rfl rfl (pv_nil rfl rfl) ?_)
            refine rw_cons (op_pv (w0 rfl) rfl rfl (pv_fld F76_1 rfl rfl) ?_)
            refine rw_cons (op_store_blk T23 hB (w0 rfl) rfl rfl rfl rfl rfl (one_all rfl) (Nat.le_of_ble_eq_true rfl) ?_)
            rintro w342 hB344 hch343
            have hsz345 := hch343.size
            replace hB8 := hB8.ch hch343 (by simp; omega)
            replace hO327 := hO327.ch hch343 (fun s hs => by have := dj_asg hdj331 s hs; simpa using this)
            replace hc := belowC hc (by omega) (off1 (by omega)) hch343
            replace hB : Blk w342 g 76 [(.int .i32 1), (.int .u32 0), (.slice A337 (xs ++ ([⟨0, 0⟩] : List Bt)).length c338)] := hB344
            clear hB344
            refine rw_nil (hK315 _ _ ?_)
            refine hK313 _ _ ?_
            refine cw_seq fun K346 hK347 => ?_
            refine cw_drawn (fun u => Ch [] w342 u) (.free 0 (.free 1 (.free 2 (.free 3 (.free 4 (.free 5 (.free 6 (.free 7 (.free 8 (.free 9 (.free 10 (.free 11 (.free 12 (.one 13 false (.done))))))))))))))) (by kernel_rfl) (by kernel_rfl) (Ch.refl _ _).drew fun K351 hK352 => ?_
            obtain ⟨w348, hw_, hch349, hsz350⟩ : ∃ w1 : World, w1 = w342.drew ∧ Ch [] w342 w1 ∧ w1.heap.size = w342.heap.size := ⟨_, rfl, (Ch.refl _ _).drew, rfl⟩
            rw [← hw_]; clear hw_
            have hr353 : Ch [] w342 w348 := hch349.sub (fun s hs => by cases hs)
            have hB_r := hB
            have hB8_r := hB8
            have hO327_r := hO327
            have hsz354 := hch349.size
            replace hB := hB.ch0 hch349
            replace hB8 := hB8.ch0 hch349
            replace hO327 := hO327.ch0 hch349
            replace hc := belowC hc (by omega) off0 hch349
            refine tw_free rfl (w0 rfl) rfl rfl (fun u hu => (pv_move (v := (.pointer (some (⟨g, 0, none⟩)))) rfl rfl : PV _ _ _ _) u) ?_
            refine tw_free rfl (w0 rfl) rfl rfl (fun u hu => (pv_nil rfl rfl : PV _ _ _ _) u) ?_
            refine tw_free rfl (w0 rfl) rfl rfl (fun u hu => (pv_fld F76_1 rfl rfl : PV _ _ _ _) u) ?_
            refine tw_free rfl (w0 rfl) rfl rfl (fun u hu => lv_load T23 rfl rfl ((hB_r.ch hu (by simp)).cellA (i := 2) rfl)) ?_
            refine tw_free rfl (w0 rfl) rfl rfl (fun u hu => (pv_move (v := (.int .i64 (k : Int))) rfl rfl : PV _ _ _ _) u) ?_
            refine tw_free rfl (w0 rfl) rfl rfl (fun u hu => (pv_add rfl rfl rfl (by omega) (by omega) : PV _ _ _ _) u) ?_
            refine tw_free rfl (w0 rfl) rfl rfl (fun u hu => (pv_from Try.underlying23 T39 rfl rfl rfl (by omega) (by omega) : PV _ _ _ _) u) ?_
            have hR355 : RS encB 2 w348 w348.heap.size (if c338 = (k + 1) then A337 else (A337 : Option Addr).map (·.add ((k + 1) * 2))) ((xs ++ ([⟨0, 0⟩] : List Bt)).length - (k + 1)) ((xs ++ ([⟨0, 0⟩] : List Bt)).drop (k + 1)) := ((hO327.rs (fun _ => rfl))).from (by omega) (by omega)
            refine tw_free rfl (w0 rfl) rfl rfl (fun u hu => (pv_move (v := (.pointer (some (⟨g, 0, none⟩)))) rfl rfl : PV _ _ _ _) u) ?_
            refine tw_free rfl (w0 rfl) rfl rfl (fun u hu => (pv_nil rfl rfl : PV _ _ _ _) u) ?_
            refine tw_free rfl (w0 rfl) rfl rfl (fun u hu => (pv_fld F76_1 rfl rfl : PV _ _ _ _) u) ?_
            refine tw_free rfl (w0 rfl) rfl rfl (fun u hu => lv_load T23 rfl rfl ((hB_r.ch hu (by simp)).cellA (i := 2) rfl)) ?_
            refine tw_free rfl (w0 rfl) rfl rfl (fun u hu => (pv_move (v := (.int .i64 (k : Int))) rfl rfl : PV _ _ _ _) u) ?_
            refine tw_free rfl (w0 rfl) rfl rfl (fun u hu => (pv_from Try.underlying23 T39 rfl rfl rfl (by omega) (by omega) : PV _ _ _ _) u) ?_
            have hR356 : RS encB 2 w348 w348.heap.size (if c338 = k then A337 else (A337 : Option Addr).map (·.add (k * 2))) ((xs ++ ([⟨0, 0⟩] : List Bt)).length - k) ((xs ++ ([⟨0, 0⟩] : List Bt)).drop k) := ((hO327.rs (fun _ => rfl))).from (by omega) (by omega)
            have hle360 := hO327.le
            refine tw_one rfl (op_copy (k := (k + 1)) Try.underlying23 T39 (fun _ => rfl) (by decide) (fun _ => one_all rfl) (w0 rfl) rfl rfl rfl rfl rfl hO327 hR356 (fun h => hO327.from_some h) (by omega) ?_)
            rintro w357 hO358 hch359
            have hsz361 := hch359.size
            replace hB := hB.ch hch359 (fun hs => dj_asg hdj331 _ hs rfl)
            replace hB8 := hB8.ch hch359 (fun hs => dj_asg hdj333 _ hs rfl)
            clear hR355
            clear hR356
            replace hc := belowC hc (by omega) (hO327.off.le (by omega)) hch359
            clear hr353
            clear hO327; have hO327 := hO358; clear hO358
            refine ⟨fun h => (by cases h), ?_⟩
            clear hB_r
            clear hB8_r
            clear hO327_r
            refine tw_done (hK352 _ _ ?_)
            refine hK347 _ _ ?_
            refine cw_drawn (fun u => Ch [] w357 u) (.free 0 (.free 1 (.free 2 (.free 3 (.free 4 (.free 5 (.free 6 (.one 7 false (.done))))))))) (by kernel_rfl) (by kernel_rfl) (Ch.refl _ _).drew fun K365 hK366 => ?_
            obtain ⟨w362, hw_, hch363, hsz364⟩ : ∃ w1 : World, w1 = w357.drew ∧ Ch [] w357 w1 ∧ w1.heap.size = w357.heap.size := ⟨_, rfl, (Ch.refl _ _).drew, rfl⟩
            rw [← hw_]; clear hw_
            have hr367 : Ch [] w357 w362 := hch363.sub (fun s hs => by cases hs)
            have hB_r := hB
            have hB8_r := hB8
            have hO327_r := hO327
            have hsz368 := hch363.size
            replace hB := hB.ch0 hch363
            replace hB8 := hB8.ch0 hch363
            replace hO327 := hO327.ch0 hch363
            replace hc := belowC hc (by omega) off0 hch363
            refine tw_free rfl (w0 rfl) rfl rfl (fun u hu => (pv_move (v := (.pointer (some (⟨g, 0, none⟩)))) rfl rfl : PV _ _ _ _) u) ?_
            refine tw_free rfl (w0 rfl) rfl rfl (fun u hu => (pv_nil rfl rfl : PV _ _ _ _) u) ?_
            refine tw_free rfl (w0 rfl) rfl rfl (fun u hu => (pv_fld F76_1 rfl rfl : PV _ _ _ _) u) ?_
            refine tw_free rfl (w0 rfl) rfl rfl (fun u hu => lv_load T23 rfl rfl ((hB_r.ch hu (by simp)).cellA (i := 2) rfl)) ?_
            refine tw_free rfl (w0 rfl) rfl rfl (fun u hu => (pv_move (v := (.int .i64 (k : Int))) rfl rfl : PV _ _ _ _) u) ?_
            refine tw_free rfl (w0 rfl) rfl rfl (fun u hu => lv_loadN T39 rfl rfl rfl (fun j v hv => (hB8_r.ch hu (by simp)).cellA hv)) ?_
            refine tw_free rfl (w0 rfl) rfl rfl (fun u hu => (pv_idx Try.underlying23 T39 rfl rfl rfl ((hO327.rs (fun _ => rfl)).some (k := k) (by omega)) (by omega) (by omega) : PV _ _ _ _) u) ?_
            refine tw_one rfl (op_store_ownA (k := k) (off := 0) (⟨xS, xA⟩) T39 hO327 (fun _ => rfl) (w0 rfl) rfl rfl rfl rfl rfl (one_all rfl) (by omega) (Nat.le_of_ble_eq_true rfl) rfl ?_)
            rintro w369 hO371 hch370
            have hsz372 := hch370.size
            replace hB := hB.ch hch370 (fun hs => dj_asg hdj331 _ hs rfl)
            replace hB8 := hB8.ch hch370 (fun hs => dj_asg hdj333 _ hs rfl)
            replace hc := belowC hc (by omega) (hO327.off.le (by omega)) hch370
            clear hr367
            clear hO327; have hO327 := hO371; clear hO371
            refine ⟨fun h => (by cases h), ?_⟩
            clear hB_r
            clear hB8_r
            clear hO327_r
            refine tw_done (hK366 _ _ ?_)
            refine finD0n ?_
            refine unlock_door muLib hB ?_
            intro w373 hB374 hch375
            have hsz376 := hch375.size
            replace hB8 := hB8.ch hch375 (by simp; omega)
            replace hO327 := hO327.ch hch375 (fun s hs => by have := dj_asg hdj331 s hs; simpa using this)
            replace hc := belowC hc (by omega) (off1 (by omega)) hch375
            replace hB : Blk w373 g 76 [(.int .i32 0), (.int .u32 0), (.slice A337 (xs ++ ([⟨0, 0⟩] : List Bt)).length c338)] := hB374
            clear hB374
            have hpl : IsPlace xs ⟨xS, xA⟩ k := ⟨hk, hlt, fun h9 h8 => by have h7 : (el xs k).s < xS := h8; omega⟩
            exact ⟨rfl, book_as hB hO327 ((shifted (by omega) (by omega)).trans (hearL_new xs k hpl (by intro h9; have h7 : (el xs k).s = xS := h9.2; omega)).symm) (by omega) (dj_asg hdj331), hc⟩
end Go.Proofs.Ytnkjljjcionfiaa
