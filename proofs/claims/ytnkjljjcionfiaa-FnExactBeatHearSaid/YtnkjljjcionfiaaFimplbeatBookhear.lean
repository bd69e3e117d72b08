/-
  The walk of (*impl.beatBook).hear, written by program: each line names the law of one operation. Conditions: those of the theorem.
-/
import Derived.Test.YtnkjljjcionfiaaProg
import Derived.Test.YtnkjljjcionfiaaBeats
import Derived.Test.YtnkjljjcionfiaaDefer
import Derived.Test.YtnkjljjcionfiaaLocks
import Derived.KernelRfl
namespace Go.Proofs.Ytnkjljjcionfiaa
open Go Go.RowKit
set_option linter.unusedVariables false
set_option linter.unusedSimpArgs false
namespace hear_okF
theorem T3 : TI Try.prog 3 false (.int .i64 0) 1 8 := TI.mk' Try.underlying3 rfl (by kernel_rfl)
theorem T23 : TI Try.prog 23 false (.slice none 0 0) 1 24 := TI.mk' Try.underlying23 rfl (by kernel_rfl)
theorem T39 : TI Try.prog 39 true (.agg #[.int .i64 0, .int .i64 0]) 2 16 := TI.mk' Try.underlying39 rfl (by kernel_rfl)
theorem F39_0 : FldOK Try.prog 39 0 0 := ⟨_, _, 0, Try.underlying39, rfl, rfl, by kernel_rfl⟩
theorem F39_1 : FldOK Try.prog 39 1 1 := ⟨_, _, 0, Try.underlying39, rfl, rfl, by kernel_rfl⟩
theorem F76_0 : FldOK Try.prog 76 0 0 := ⟨_, _, 1, Try.underlying76, rfl, rfl, by kernel_rfl⟩
theorem F76_1 : FldOK Try.prog 76 1 2 := ⟨_, _, 0, Try.underlying76, rfl, rfl, by kernel_rfl⟩
theorem C55 : Callable Try.prog 55 := ⟨_, Try.func55, by kernel_rfl, by kernel_rfl⟩
theorem C56 : Callable Try.prog 56 := ⟨_, Try.func56, by kernel_rfl, by kernel_rfl⟩
theorem B39  (u : World) : (Instr.build 39 #[]).run Try.prog u = .ok (.agg #[.int .i64 0, .int .i64 0]) u := by kernel_rfl
end hear_okF
open hear_okF in
set_option maxHeartbeats 4000000 in
theorem hear_ok (g base : Nat) (xs : List Bt) (xS xA : Int) (w : World) (hbk : BookIs 76 39 w base g xs) (hbase : base ≤ w.heap.size) (hn : xs.length ≤ 1000) :
    Fn Try.prog 50 [(.pointer (some (⟨g, 0, none⟩))), (.agg #[(.int .i64 xS), (.int .i64 xA)])] w fun v w' => v = .tuple #[] ∧ BookIs 76 39 w' base g (hearL xs ⟨xS, xA⟩) ∧ Below base w w' := by
  obtain ⟨A, c, hB, hO, hgb, hgo⟩ := hbk
  have hub := hO.lt
  have hcap := hO.le.1
  have hglt := hB.lt
  refine fn_ofD (n := 103) (g := 56) (dargs := [.pointer (some ⟨g, 0, none⟩)]) Try.func50 rfl rfl rfl rfl C56 ?_
  have hc : Below base w w := Below.refl _ _
  refine cwd_seq_r fun K1 hK2 => ?_
  refine cw_region fun K3 hK4 => ?_
  refine rw_cons (op_box (w0 rfl) rfl rfl rfl rfl ?_)
  rintro g6 w5 hg9 hg10 hB8 hch7
  have hsz11 := hch7.size
  replace hB := hB.ch0 hch7
  replace hO := hO.ch0 hch7
  replace hc := belowC hc (by omega) off0 hch7
  replace hB8 : Blk w5 g6 39 [(.int .i64 xS), (.int .i64 xA)] := hB8
  have hdj12 : ∀ s ∈ obl (.slice A xs.length c), s ≠ g6 := fun s hs => by have := hub s hs; omega
  refine rw_nil (hK4 _ _ ?_)
  refine hK2 _ _ ?_
  refine cwd_seq_r fun K13 hK14 => ?_
  refine cw_region fun K15 hK16 => ?_
  refine rw_cons (op_pv (w0 rfl) rfl rfl (pv_move (v := (.pointer (some (⟨g, 0, none⟩)))) rfl rfl) ?_)
  refine rw_cons (op_pv (w0 rfl) rfl rfl (pv_nil rfl rfl) ?_)
  refine rw_cons (op_pv (w0 rfl) rfl rfl (pv_fld F76_0 rfl rfl) ?_)
  refine rw_cons (op_call (w0 rfl) rfl rfl (rc_call C55 rfl rfl) (lock_fn muLib hB) ?_)
  rintro _ w17 ⟨rfl, hB18, hch19⟩
  have hsz20 := hch19.size
  replace hO := hO.ch hch19 (fun s hs => by have := dj_asg hgo s hs; simpa using this)
  replace hB8 := hB8.ch hch19 (by simp; omega)
  replace hc := belowC hc (by omega) (off1 (by omega)) hch19
  replace hB : Blk w17 g 76 [(.int .i32 1), (.int .u32 0), (.slice A xs.length c)] := hB18
  clear hB18
  refine rw_nil (hK16 _ _ ?_)
  refine hK14 _ _ ?_
  refine cwd_seq_l fun K21 hK22 => ?_
  refine cwd_region fun K23 hK24 => ?_
  refine rwd_cons (op_pv (w0 rfl) rfl rfl (pv_move (v := (.pointer (some (⟨g, 0, none⟩)))) rfl rfl) ?_)
  refine rwd_cons (op_pv (w0 rfl) rfl rfl (pv_nil rfl rfl) ?_)
  refine rwd_cons (op_pv (w0 rfl) rfl rfl (pv_fld F76_0 rfl rfl) ?_)
  refine rwd_defer (w0 rfl) rfl (rd_defer rfl rfl) (hK24 _ _ ?_)
  refine hK22 _ _ ?_
  refine cw_seq fun K25 hK26 => ?_
  refine cw_region fun K27 hK28 => ?_
  refine rw_cons (op_pv (w0 rfl) rfl rfl (pv_assign (v := (.int .i64 0)) rfl rfl) ?_)
  refine rw_nil (hK28 _ _ ?_)
  refine hK26 _ _ ?_
  refine cw_seq fun K29 hK30 => ?_
  refine cw_block ?_
  refine cw_loop (σ := Nat) (fun k => [(4, (.int .i64 (k : Int))), (0, (.pointer (some (⟨g, 0, none⟩)))), (3, (.pointer (some (⟨g6, 0, none⟩))))]) (fun k W => (k ≤ xs.length ∧ ∀ j, j < k → (el xs j).s < xS) ∧ Blk W g 76 [(.int .i32 1), (.int .u32 0), (.slice A xs.length c)] ∧ Own encB 2 W base 39 (.slice A xs.length c) xs ∧ Blk W g6 39 [(.int .i64 xS), (.int .i64 xA)] ∧ Below base w W) (fun k => xs.length - k) 0 ?_ ?_ ?_
  · exact ⟨rfl, rfl, rfl, trivial⟩
  · refine ⟨⟨Nat.zero_le _, fun j hj => by omega⟩, hB, hO, hB8, hc⟩
  · rintro k J35 w31 ⟨⟨hk, hlt⟩, hB, hO, hB8, hc⟩ K32 hK33
    have hsz37 := hc.size
    have hub := hO.lt
    refine cw_seq fun K38 hK39 => ?_
    refine cw_seq fun K40 hK41 => ?_
    refine cw_drawn (fun u => Ch [] w31 u) (.free 0 (.free 1 (.free 2 (.free 3 (.free 4 (.free 5 (.free 6 (.free 7 (.free 8 (.free 9 (.free 10 (.free 11 (.free 12 (.free 13 (.free 14 (.free 15 (.free 16 (.free 17 (.free 18 (.free 19 (.done))))))))))))))))))))) (by kernel_rfl) (by kernel_rfl) (Ch.refl _ _).drew fun K45 hK46 => ?_
    obtain ⟨w42, hw_, hch43, hsz44⟩ : ∃ w1 : World, w1 = w31.drew ∧ Ch [] w31 w1 ∧ w1.heap.size = w31.heap.size := ⟨_, rfl, (Ch.refl _ _).drew, rfl⟩
    rw [← hw_]; clear hw_
    have hr47 : Ch [] w31 w42 := hch43.sub (fun s hs => by cases hs)
    have hB_r := hB
    have hO_r := hO
    have hB8_r := hB8
    have hsz48 := hch43.size
    replace hB := hB.ch0 hch43
    replace hO := hO.ch0 hch43
    replace hB8 := hB8.ch0 hch43
    replace hc := belowC hc (by omega) off0 hch43
    refine tw_free rfl (w0 rfl) rfl rfl (fun u hu => (pv_move (v := (.int .i64 (k : Int))) rfl rfl : PV _ _ _ _) u) ?_
    refine tw_free rfl (w0 rfl) rfl rfl (fun u hu => (pv_move (v := (.pointer (some (⟨g, 0, none⟩)))) rfl rfl : PV _ _ _ _) u) ?_
    refine tw_free rfl (w0 rfl) rfl rfl (fun u hu => (pv_nil rfl rfl : PV _ _ _ _) u) ?_
    refine tw_free rfl (w0 rfl) rfl rfl (fun u hu => (pv_fld F76_1 rfl rfl : PV _ _ _ _) u) ?_
    refine tw_free rfl (w0 rfl) rfl rfl (fun u hu => lv_load T23 rfl rfl ((hB_r.ch hu (by simp)).cellA (i := 2) rfl)) ?_
    refine tw_free rfl (w0 rfl) rfl rfl (fun u hu => (pv_len Try.underlying23 rfl rfl : PV _ _ _ _) u) ?_
    refine tw_free rfl (w0 rfl) rfl rfl (fun u hu => (pv_lss rfl rfl rfl : PV _ _ _ _) u) ?_
    refine tw_free rfl (w0 rfl) rfl rfl (fun u hu => (pv_move (v := (.bool (decide ((k : Int) < (xs.length : Int))))) rfl rfl : PV _ _ _ _) u) ?_
    refine tw_split 19 rfl (fun hb49 => ?_) (fun hb49 => ?_)
    · -- yes
      replace hb49 := of_decide_eq_true hb49
      refine tw_free rfl (w1y rfl rfl rfl rfl) rfl rfl (fun u hu => (pv_move (v := (.pointer (some (⟨g, 0, none⟩)))) rfl rfl : PV _ _ _ _) u) ?_
      refine tw_free rfl (w1y rfl rfl rfl rfl) rfl rfl (fun u hu => (pv_nil rfl rfl : PV _ _ _ _) u) ?_
      refine tw_free rfl (w1y rfl rfl rfl rfl) rfl rfl (fun u hu => (pv_fld F76_1 rfl rfl : PV _ _ _ _) u) ?_
      refine tw_free rfl (w1y rfl rfl rfl rfl) rfl rfl (fun u hu => lv_load T23 rfl rfl ((hB_r.ch hu (by simp)).cellA (i := 2) rfl)) ?_
      refine tw_free rfl (w1y rfl rfl rfl rfl) rfl rfl (fun u hu => (pv_move (v := (.int .i64 (k : Int))) rfl rfl : PV _ _ _ _) u) ?_
      refine tw_free rfl (w1y rfl rfl rfl rfl) rfl rfl (fun u hu => (pv_idx Try.underlying23 T39 rfl rfl rfl ((hO.rs (fun _ => rfl)).some (k := k) (by omega)) (by omega) (by omega) : PV _ _ _ _) u) ?_
      refine tw_free rfl (w1y rfl rfl rfl rfl) rfl rfl (fun u hu => (pv_fld F39_0 rfl rfl : PV _ _ _ _) u) ?_
      refine tw_free rfl (w1y rfl rfl rfl rfl) rfl rfl (fun u hu => lv_load T3 rfl rfl (((hO_r.ch0 hu).rs (fun _ => rfl)).cellE (k := k) (j := 0) (by omega) rfl)) ?_
      refine tw_free rfl (w1y rfl rfl rfl rfl) rfl rfl (fun u hu => (pv_fld F39_0 rfl rfl : PV _ _ _ _) u) ?_
      refine tw_free rfl (w1y rfl rfl rfl rfl) rfl rfl (fun u hu => lv_load T3 rfl rfl ((hB8_r.ch hu (by simp)).cellA (i := 0) rfl)) ?_
      refine tw_free rfl (w1y rfl rfl rfl rfl) rfl rfl (fun u hu => (pv_lss rfl rfl rfl : PV _ _ _ _) u) ?_
      refine tw_free rfl (w0 rfl) rfl rfl (fun u hu => (pv_pickT (v := (.bool (decide ((el xs k).s < xS)))) rfl rfl rfl : PV _ _ _ _) u) ?_
      clear hB_r
      clear hB8_r
      clear hO_r
      refine tw_done (hK46 _ _ ?_)
      refine hK41 _ _ ?_
      refine cw_cond rfl (fun h50 => ?_) (fun h50 => ?_)
      · -- then
        replace h50 := of_decide_eq_true h50
        refine cw_skip ?_
        refine hK39 _ _ ?_
        refine cw_block ?_
        refine cw_region fun K51 hK52 => ?_
        refine rw_cons (op_pv (w0 rfl) rfl rfl (pv_move (v := (.int .i64 (k : Int))) rfl rfl) ?_)
        refine rw_cons (op_pv (w0 rfl) rfl rfl (pv_add rfl rfl rfl (by omega) (by omega)) ?_)
        refine rw_cons (op_pv (w0 rfl) rfl rfl (pv_assign (v := (.int .i64 ((k : Int) + 1))) rfl rfl) ?_)
        refine rw_nil (hK52 _ _ ?_)
        refine hK33 _ _ (k + 1) ⟨(iv (by omega)), rfl, rfl, trivial⟩ ⟨?_, hB, hO, hB8, hc⟩ ?_
        · refine ⟨by omega, fun j hj => ?_⟩
          by_cases hjk : j = k
          · subst hjk; omega
          · exact hlt j (by omega)
        · (first | omega | (simp only []; omega))
      · -- else
        replace h50 := of_decide_eq_false h50
        refine cw_exit ?_
        refine hK30 _ _ ?_
        refine cw_seq fun K53 hK54 => ?_
        refine cw_seq fun K55 hK56 => ?_
        refine cw_drawn (fun u => Ch [] w42 u) (.free 0 (.free 1 (.free 2 (.free 3 (.free 4 (.free 5 (.free 6 (.free 7 (.free 8 (.free 9 (.free 10 (.free 11 (.free 12 (.free 13 (.free 14 (.free 15 (.free 16 (.free 17 (.free 18 (.free 19 (.done))))))))))))))))))))) (by kernel_rfl) (by kernel_rfl) (Ch.refl _ _).drew fun K60 hK61 => ?_
        obtain ⟨w57, hw_, hch58, hsz59⟩ : ∃ w1 : World, w1 = w42.drew ∧ Ch [] w42 w1 ∧ w1.heap.size = w42.heap.size := ⟨_, rfl, (Ch.refl _ _).drew, rfl⟩
        rw [← hw_]; clear hw_
        have hr62 : Ch [] w42 w57 := hch58.sub (fun s hs => by cases hs)
        have hB_r := hB
        have hO_r := hO
        have hB8_r := hB8
        have hsz63 := hch58.size
        replace hB := hB.ch0 hch58
        replace hO := hO.ch0 hch58
        replace hB8 := hB8.ch0 hch58
        replace hc := belowC hc (by omega) off0 hch58
        refine tw_free rfl (w0 rfl) rfl rfl (fun u hu => (pv_move (v := (.int .i64 (k : Int))) rfl rfl : PV _ _ _ _) u) ?_
        refine tw_free rfl (w0 rfl) rfl rfl (fun u hu => (pv_move (v := (.pointer (some (⟨g, 0, none⟩)))) rfl rfl : PV _ _ _ _) u) ?_
        refine tw_free rfl (w0 rfl) rfl rfl (fun u hu => (pv_nil rfl rfl : PV _ _ _ _) u) ?_
        refine tw_free rfl (w0 rfl) rfl rfl (fun u hu => (pv_fld F76_1 rfl rfl : PV _ _ _ _) u) ?_
        refine tw_free rfl (w0 rfl) rfl rfl (fun u hu => lv_load T23 rfl rfl ((hB_r.ch hu (by simp)).cellA (i := 2) rfl)) ?_
        refine tw_free rfl (w0 rfl) rfl rfl (fun u hu => (pv_len Try.underlying23 rfl rfl : PV _ _ _ _) u) ?_
        refine tw_free rfl (w0 rfl) rfl rfl (fun u hu => (pv_lss rfl rfl rfl : PV _ _ _ _) u) ?_
        refine tw_free rfl (w0 rfl) rfl rfl (fun u hu => (pv_move (v := (.bool (decide ((k : Int) < (xs.length : Int))))) rfl rfl : PV _ _ _ _) u) ?_
        refine tw_split 41 rfl (fun hb64 => ?_) (fun hb64 => ?_)
        · -- yes
          replace hb64 := of_decide_eq_true hb64
          refine tw_free rfl (w1y rfl rfl rfl rfl) rfl rfl (fun u hu => (pv_move (v := (.pointer (some (⟨g, 0, none⟩)))) rfl rfl : PV _ _ _ _) u) ?_
          refine tw_free rfl (w1y rfl rfl rfl rfl) rfl rfl (fun u hu => (pv_nil rfl rfl : PV _ _ _ _) u) ?_
          refine tw_free rfl (w1y rfl rfl rfl rfl) rfl rfl (fun u hu => (pv_fld F76_1 rfl rfl : PV _ _ _ _) u) ?_
          refine tw_free rfl (w1y rfl rfl rfl rfl) rfl rfl (fun u hu => lv_load T23 rfl rfl ((hB_r.ch hu (by simp)).cellA (i := 2) rfl)) ?_
          refine tw_free rfl (w1y rfl rfl rfl rfl) rfl rfl (fun u hu => (pv_move (v := (.int .i64 (k : Int))) rfl rfl : PV _ _ _ _) u) ?_
          refine tw_free rfl (w1y rfl rfl rfl rfl) rfl rfl (fun u hu => (pv_idx Try.underlying23 T39 rfl rfl rfl ((hO.rs (fun _ => rfl)).some (k := k) (by omega)) (by omega) (by omega) : PV _ _ _ _) u) ?_
          refine tw_free rfl (w1y rfl rfl rfl rfl) rfl rfl (fun u hu => (pv_fld F39_0 rfl rfl : PV _ _ _ _) u) ?_
          refine tw_free rfl (w1y rfl rfl rfl rfl) rfl rfl (fun u hu => lv_load T3 rfl rfl (((hO_r.ch0 hu).rs (fun _ => rfl)).cellE (k := k) (j := 0) (by omega) rfl)) ?_
          refine tw_free rfl (w1y rfl rfl rfl rfl) rfl rfl (fun u hu => (pv_fld F39_0 rfl rfl : PV _ _ _ _) u) ?_
          refine tw_free rfl (w1y rfl rfl rfl rfl) rfl rfl (fun u hu => lv_load T3 rfl rfl ((hB8_r.ch hu (by simp)).cellA (i := 0) rfl)) ?_
          refine tw_free rfl (w1y rfl rfl rfl rfl) rfl rfl (fun u hu => (pv_eql rfl rfl rfl : PV _ _ _ _) u) ?_
          refine tw_free rfl (w0 rfl) rfl rfl (fun u hu => (pv_pickT (v := (.bool (decide (((el xs k).s : Int) = xS)))) rfl rfl rfl : PV _ _ _ _) u) ?_
          clear hB_r
          clear hB8_r
          clear hO_r
          refine tw_done (hK61 _ _ ?_)
          refine hK56 _ _ ?_
          refine cw_cond rfl (fun h65 => ?_) (fun h65 => ?_)
          · -- then
            replace h65 := of_decide_eq_true h65
            refine cw_seq fun K66 hK67 => ?_
            refine cw_drawn (fun u => Ch [] w57 u) (.free 0 (.free 1 (.free 2 (.free 3 (.free 4 (.free 5 (.free 6 (.free 7 (.free 8 (.free 9 (.free 10 (.free 11 (.free 12 (.free 13 (.free 14 (.free 15 (.free 16 (.free 17 (.one 18 false (.done)))))))))))))))))))) (by kernel_rfl) (by kernel_rfl) (Ch.refl _ _).drew fun K71 hK72 => ?_
            obtain ⟨w68, hw_, hch69, hsz70⟩ : ∃ w1 : World, w1 = w57.drew ∧ Ch [] w57 w1 ∧ w1.heap.size = w57.heap.size := ⟨_, rfl, (Ch.refl _ _).drew, rfl⟩
            rw [← hw_]; clear hw_
            have hr73 : Ch [] w57 w68 := hch69.sub (fun s hs => by cases hs)
            have hB_r := hB
            have hO_r := hO
            have hB8_r := hB8
            have hsz74 := hch69.size
            replace hB := hB.ch0 hch69
            replace hO := hO.ch0 hch69
            replace hB8 := hB8.ch0 hch69
            replace hc := belowC hc (by omega) off0 hch69
            refine tw_free rfl (w0 rfl) rfl rfl (fun u hu => (pv_move (v := (.pointer (some (⟨g, 0, none⟩)))) rfl rfl : PV _ _ _ _) u) ?_
            refine tw_free rfl (w0 rfl) rfl rfl (fun u hu => (pv_nil rfl rfl : PV _ _ _ _) u) ?_
            refine tw_free rfl (w0 rfl) rfl rfl (fun u hu => (pv_fld F76_1 rfl rfl : PV _ _ _ _) u) ?_
            refine tw_free rfl (w0 rfl) rfl rfl (fun u hu => lv_load T23 rfl rfl ((hB_r.ch hu (by simp)).cellA (i := 2) rfl)) ?_
            refine tw_free rfl (w0 rfl) rfl rfl (fun u hu => (pv_move (v := (.int .i64 (k : Int))) rfl rfl : PV _ _ _ _) u) ?_
            refine tw_free rfl (w0 rfl) rfl rfl (fun u hu => (pv_move (v := (.pointer (some (⟨g, 0, none⟩)))) rfl rfl : PV _ _ _ _) u) ?_
            refine tw_free rfl (w0 rfl) rfl rfl (fun u hu => (pv_nil rfl rfl : PV _ _ _ _) u) ?_
            refine tw_free rfl (w0 rfl) rfl rfl (fun u hu => (pv_fld F76_1 rfl rfl : PV _ _ _ _) u) ?_
            refine tw_free rfl (w0 rfl) rfl rfl (fun u hu => lv_load T23 rfl rfl ((hB_r.ch hu (by simp)).cellA (i := 2) rfl)) ?_
            refine tw_free rfl (w0 rfl) rfl rfl (fun u hu => (pv_move (v := (.int .i64 (k : Int))) rfl rfl : PV _ _ _ _) u) ?_
            refine tw_free rfl (w0 rfl) rfl rfl (fun u hu => (pv_idx Try.underlying23 T39 rfl rfl rfl ((hO.rs (fun _ => rfl)).some (k := k) (by omega)) (by omega) (by omega) : PV _ _ _ _) u) ?_
            refine tw_free rfl (w0 rfl) rfl rfl (fun u hu => (pv_fld F39_1 rfl rfl : PV _ _ _ _) u) ?_
            refine tw_free rfl (w0 rfl) rfl rfl (fun u hu => lv_load T3 rfl rfl (((hO_r.ch0 hu).rs (fun _ => rfl)).cellE (k := k) (j := 1) (by omega) rfl)) ?_
            refine tw_free rfl (w0 rfl) rfl rfl (fun u hu => (pv_fld F39_1 rfl rfl : PV _ _ _ _) u) ?_
            refine tw_free rfl (w0 rfl) rfl rfl (fun u hu => lv_load T3 rfl rfl ((hB8_r.ch hu (by simp)).cellA (i := 1) rfl)) ?_
            refine tw_free rfl (w0 rfl) rfl rfl (fun u hu => (pv_max rfl rfl rfl : PV _ _ _ _) u) ?_
            refine tw_free rfl (w0 rfl) rfl rfl (fun u hu => (pv_idx Try.underlying23 T39 rfl rfl rfl ((hO.rs (fun _ => rfl)).some (k := k) (by omega)) (by omega) (by omega) : PV _ _ _ _) u) ?_
            refine tw_free rfl (w0 rfl) rfl rfl (fun u hu => (pv_fld F39_1 rfl rfl : PV _ _ _ _) u) ?_
            refine tw_one rfl (op_store_ownA (k := k) (off := 1) (⟨(el xs k).s, max (el xs k).a xA⟩) T3 hO (fun _ => rfl) (w0 rfl) rfl rfl rfl rfl rfl (one_all rfl) (by omega) (Nat.le_of_ble_eq_true rfl) rfl ?_)
            rintro w75 hO77 hch76
            have hsz78 := hch76.size
            replace hB := hB.ch hch76 (fun hs => dj_asg hgo _ hs rfl)
            replace hB8 := hB8.ch hch76 (fun hs => dj_asg hdj12 _ hs rfl)
            replace hc := belowC hc (by omega) (hO.off.le (by omega)) hch76
            clear hr73
            clear hO; have hO := hO77; clear hO77
            refine ⟨fun h => (by cases h), ?_⟩
            clear hB_r
            clear hB8_r
            clear hO_r
            refine tw_done (hK72 _ _ ?_)
            refine hK67 _ _ ?_
            refine cw_ret ?_
            refine finD0 ?_
            refine unlock_door muLib hB ?_
            intro w79 hB80 hch81
            have hsz82 := hch81.size
            replace hO := hO.ch hch81 (fun s hs => by have := dj_asg hgo s hs; simpa using this)
            replace hB8 := hB8.ch hch81 (by simp; omega)
            replace hc := belowC hc (by omega) (off1 (by omega)) hch81
            replace hB : Blk w79 g 76 [(.int .i32 0), (.int .u32 0), (.slice A xs.length c)] := hB80
            clear hB80
            have hpl : IsPlace xs ⟨xS, xA⟩ k := ⟨hk, hlt, fun h9 h8 => by have h7 : (el xs k).s < xS := h8; omega⟩
            exact ⟨rfl, book_as hB hO (hearL_at xs k hpl (by omega) (by show (el xs k).s = xS; omega)).symm (by omega) (dj_asg hgo), hc⟩
          · -- else
            replace h65 := of_decide_eq_false h65
            refine cw_skip ?_
            refine hK54 _ _ ?_
            refine cw_seq fun K83 hK84 => ?_
            refine cw_region fun K85 hK86 => ?_
            refine rw_cons (op_pv (w0 rfl) rfl rfl (pv_move (v := (.pointer (some (⟨g, 0, none⟩)))) rfl rfl) ?_)
            refine rw_cons (op_pv (w0 rfl) rfl rfl (pv_move (v := (.pointer (some (⟨g, 0, none⟩)))) rfl rfl) ?_)
            refine rw_cons (op_pv (w0 rfl) rfl rfl (pv_nil rfl rfl) ?_)
            refine rw_cons (op_pv (w0 rfl) rfl rfl (pv_fld F76_1 rfl rfl) ?_)
            refine rw_cons (op_lv (w0 rfl) rfl rfl (lv_load T23 rfl rfl (hB.cellA (i := 2) rfl)) ?_)
            refine rw_cons (op_pv (w0 rfl) rfl rfl (pv_build rfl rfl (B39 )) ?_)
            refine rw_cons (op_bslice [(.agg #[(.int .i64 0), (.int .i64 0)])] Try.underlying23 T39 (w0 rfl) rfl rfl rfl rfl rfl (by simp [Value.cells]) (by decide) ?_)
            intro g88 w87 hg91 hg92 hK90 hch89
            have hO93 : Own encB 2 w87 w57.heap.size 39 (.slice (some ⟨g88, 0, none⟩) 1 1) ([⟨0, 0⟩] : List Bt) := Blk.own (xs := ([⟨0, 0⟩] : List Bt)) hK90 (by omega) rfl (by decide) rfl
            have hsz94 := hch89.size
            replace hB := hB.ch0 hch89
            replace hO := hO.ch0 hch89
            replace hB8 := hB8.ch0 hch89
            replace hc := belowC hc (by omega) off0 hch89
            have hub95 := hO93.lt
            refine rw_cons (op_append Try.underlying23 T39 (fun _ => rfl) rfl (by decide) (fun _ => one_all rfl) (w0 rfl) rfl rfl rfl rfl rfl hO (hO93.rs (fun _ => rfl)) (by unfold maxLen; first | omega | (simp; omega)) (by first | omega | (simp; omega)) (by omega) ?_)
            rintro v96 w97 hO98 hch99 hs100
            have hl101 : (xs ++ ([⟨0, 0⟩] : List Bt)).length = xs.length + 1 := by first | (have hl0 := (hO93.rs (fun _ => rfl)).len; omega) | (have hl0 := (hO93.rs (fun _ => rfl)).len; simp only [List.length_append, List.length_cons, List.length_nil] at hl0 ⊢; omega) | simp | rfl
            clear hO93
            have hgl103 := hB.lt
            have hgl105 := hB8.lt
            have hsz106 := hch99.size
            replace hB := hB.ch hch99 (fun hs => dj_asg hgo _ hs rfl)
            replace hB8 := hB8.ch hch99 (fun hs => dj_asg hdj12 _ hs rfl)
            replace hc := belowC hc (by omega) (hO.off.le (by omega)) hch99
            have hub107 := hO98.lt
            obtain ⟨A108, c109, hv110, hcap111, hcap112⟩ := hO98.form; subst hv110
            have hdj102 : ∀ s ∈ obl (.slice A108 (xs ++ ([⟨0, 0⟩] : List Bt)).length c109), s ≠ g := dj_newg hs100 (dj_asg hgo) (by omega)
            have hdj104 : ∀ s ∈ obl (.slice A108 (xs ++ ([⟨0, 0⟩] : List Bt)).length c109), s ≠ g6 := dj_newg hs100 (dj_asg hdj12) (by omega)
            refine rw_cons (op_pv (w0 rfl) rfl rfl (pv_nil rfl rfl) ?_)
            refine rw_cons (op_pv (w0 rfl) rfl rfl (pv_fld F76_1 rfl rfl) ?_)
            refine rw_cons (op_store_blk T23 hB (w0 rfl) rfl rfl rfl rfl rfl (one_all rfl) (Nat.le_of_ble_eq_true rfl) ?_)
            rintro w113 hB115 hch114
            have hsz116 := hch114.size
            replace hB8 := hB8.ch hch114 (by simp; omega)
            replace hO98 := hO98.ch hch114 (fun s hs => by have := dj_asg hdj102 s hs; simpa using this)
            replace hc := belowC hc (by omega) (off1 (by omega)) hch114
            replace hB : Blk w113 g 76 [(.int .i32 1), (.int .u32 0), (.slice A108 (xs ++ ([⟨0, 0⟩] : List Bt)).length c109)] := hB115
            clear hB115
            refine rw_nil (hK86 _ _ ?_)
            refine hK84 _ _ ?_
            refine cw_seq fun K117 hK118 => ?_
            refine cw_drawn (fun u => Ch [] w113 u) (.free 0 (.free 1 (.free 2 (.free 3 (.free 4 (.free 5 (.free 6 (.free 7 (.free 8 (.free 9 (.free 10 (.free 11 (.free 12 (.one 13 false (.done))))))))))))))) (by kernel_rfl) (by kernel_rfl) (Ch.refl _ _).drew fun K122 hK123 => ?_
            obtain ⟨w119, hw_, hch120, hsz121⟩ : ∃ w1 : World, w1 = w113.drew ∧ Ch [] w113 w1 ∧ w1.heap.size = w113.heap.size := ⟨_, rfl, (Ch.refl _ _).drew, rfl⟩
            rw [← hw_]; clear hw_
            have hr124 : Ch [] w113 w119 := hch120.sub (fun s hs => by cases hs)
            have hB_r := hB
            have hB8_r := hB8
            have hO98_r := hO98
            have hsz125 := hch120.size
            replace hB := hB.ch0 hch120
            replace hB8 := hB8.ch0 hch120
            replace hO98 := hO98.ch0 hch120
            replace hc := belowC hc (by omega) off0 hch120
            refine tw_free rfl (w0 rfl) rfl rfl (fun u hu => (pv_move (v := (.pointer (some (⟨g, 0, none⟩)))) rfl rfl : PV _ _ _ _) u) ?_
            refine tw_free rfl (w0 rfl) rfl rfl (fun u hu => (pv_nil rfl rfl : PV _ _ _ _) u) ?_
            refine tw_free rfl (w0 rfl) rfl rfl (fun u hu => (pv_fld F76_1 rfl rfl : PV _ _ _ _) u) ?_
            refine tw_free rfl (w0 rfl) rfl rfl (fun u hu => lv_load T23 rfl rfl ((hB_r.ch hu (by simp)).cellA (i := 2) rfl)) ?_
            refine tw_free rfl (w0 rfl) rfl rfl (fun u hu => (pv_move (v := (.int .i64 (k : Int))) rfl rfl : PV _ _ _ _) u) ?_
            refine tw_free rfl (w0 rfl) rfl rfl (fun u hu => (pv_add rfl rfl rfl (by omega) (by omega) : PV _ _ _ _) u) ?_
            refine tw_free rfl (w0 rfl) rfl rfl (fun u hu => (pv_from Try.underlying23 T39 rfl rfl rfl (by omega) (by omega) : PV _ _ _ _) u) ?_
            have hR126 : RS encB 2 w119 w119.heap.size (if c109 = (k + 1) then A108 else (A108 : Option Addr).map (·.add ((k + 1) * 2))) ((xs ++ ([⟨0, 0⟩] : List Bt)).length - (k + 1)) ((xs ++ ([⟨0, 0⟩] : List Bt)).drop (k + 1)) := ((hO98.rs (fun _ => rfl))).from (by omega) (by omega)
            refine tw_free rfl (w0 rfl) rfl rfl (fun u hu => (pv_move (v := (.pointer (some (⟨g, 0, none⟩)))) rfl rfl : PV _ _ _ _) u) ?_
            refine tw_free rfl (w0 rfl) rfl rfl (fun u hu => (pv_nil rfl rfl : PV _ _ _ _) u) ?_
            refine tw_free rfl (w0 rfl) rfl rfl (fun u hu => (pv_fld F76_1 rfl rfl : PV _ _ _ _) u) ?_
            refine tw_free rfl (w0 rfl) rfl rfl (fun u hu => lv_load T23 rfl rfl ((hB_r.ch hu (by simp)).cellA (i := 2) rfl)) ?_
            refine tw_free rfl (w0 rfl) rfl rfl (fun u hu => (pv_move (v := (.int .i64 (k : Int))) rfl rfl : PV _ _ _ _) u) ?_
            refine tw_free rfl (w0 rfl) rfl rfl (fun u hu => (pv_from Try.underlying23 T39 rfl rfl rfl (by omega) (by omega) : PV _ _ _ _) u) ?_
            have hR127 : RS encB 2 w119 w119.heap.size (if c109 = k then A108 else (A108 : Option Addr).map (·.add (k * 2))) ((xs ++ ([⟨0, 0⟩] : List Bt)).length - k) ((xs ++ ([⟨0, 0⟩] : List Bt)).drop k) := ((hO98.rs (fun _ => rfl))).from (by omega) (by omega)
            have hle131 := hO98.le
            refine tw_one rfl (op_copy (k := (k + 1)) Try.underlying23 T39 (fun _ => rfl) (by decide) (fun _ => one_all rfl) (w0 rfl) rfl rfl rfl rfl rfl hO98 hR127 (fun h => hO98.from_some h) (by omega) ?_)
            rintro w128 hO129 hch130
            have hsz132 := hch130.size
            replace hB := hB.ch hch130 (fun hs => dj_asg hdj102 _ hs rfl)
            replace hB8 := hB8.ch hch130 (fun hs => dj_asg hdj104 _ hs rfl)
            clear hR126
            clear hR127
            replace hc := belowC hc (by omega) (hO98.off.le (by omega)) hch130
            clear hr124
            clear hO98; have hO98 := hO129; clear hO129
            refine ⟨fun h => (by cases h), ?_⟩
            clear hB_r
            clear hB8_r
            clear hO98_r
            refine tw_done (hK123 _ _ ?_)
            refine hK118 _ _ ?_
            refine cw_drawn (fun u => Ch [] w128 u) (.free 0 (.free 1 (.free 2 (.free 3 (.free 4 (.free 5 (.free 6 (.one 7 false (.done))))))))) (by kernel_rfl) (by kernel_rfl) (Ch.refl _ _).drew fun K136 hK137 => ?_
            obtain ⟨w133, hw_, hch134, hsz135⟩ : ∃ w1 : World, w1 = w128.drew ∧ Ch [] w128 w1 ∧ w1.heap.size = w128.heap.size := ⟨_, rfl, (Ch.refl _ _).drew, rfl⟩
            rw [← hw_]; clear hw_
            have hr138 : Ch [] w128 w133 := hch134.sub (fun s hs => by cases hs)
            have hB_r := hB
            have hB8_r := hB8
            have hO98_r := hO98
            have hsz139 := hch134.size
            replace hB := hB.ch0 hch134
            replace hB8 := hB8.ch0 hch134
            replace hO98 := hO98.ch0 hch134
            replace hc := belowC hc (by omega) off0 hch134
            refine tw_free rfl (w0 rfl) rfl rfl (fun u hu => (pv_move (v := (.pointer (some (⟨g, 0, none⟩)))) rfl rfl : PV _ _ _ _) u) ?_
            refine tw_free rfl (w0 rfl) rfl rfl (fun u hu => (pv_nil rfl rfl : PV _ _ _ _) u) ?_
            refine tw_free rfl (w0 rfl) rfl rfl (fun u hu => (pv_fld F76_1 rfl rfl : PV _ _ _ _) u) ?_
            refine tw_free rfl (w0 rfl) rfl rfl (fun u hu => lv_load T23 rfl rfl ((hB_r.ch hu (by simp)).cellA (i := 2) rfl)) ?_
            refine tw_free rfl (w0 rfl) rfl rfl (fun u hu => (pv_move (v := (.int .i64 (k : Int))) rfl rfl : PV _ _ _ _) u) ?_
            refine tw_free rfl (w0 rfl) rfl rfl (fun u hu => lv_loadN T39 rfl rfl rfl (fun j v hv => (hB8_r.ch hu (by simp)).cellA hv)) ?_
            refine tw_free rfl (w0 rfl) rfl rfl (fun u hu => (pv_idx Try.underlying23 T39 rfl rfl rfl ((hO98.rs (fun _ => rfl)).some (k := k) (by omega)) (by omega) (by omega) : PV _ _ _ _) u) ?_
            refine tw_one rfl (op_store_ownA (k := k) (off := 0) (⟨xS, xA⟩) T39 hO98 (fun _ => rfl) (w0 rfl) rfl rfl rfl rfl rfl (one_all rfl) (by omega) (Nat.le_of_ble_eq_true rfl) rfl ?_)
            rintro w140 hO142 hch141
            have hsz143 := hch141.size
            replace hB := hB.ch hch141 (fun hs => dj_asg hdj102 _ hs rfl)
            replace hB8 := hB8.ch hch141 (fun hs => dj_asg hdj104 _ hs rfl)
            replace hc := belowC hc (by omega) (hO98.off.le (by omega)) hch141
            clear hr138
            clear hO98; have hO98 := hO142; clear hO142
            refine ⟨fun h => (by cases h), ?_⟩
            clear hB_r
            clear hB8_r
            clear hO98_r
            refine tw_done (hK137 _ _ ?_)
            refine finD0n ?_
            refine unlock_door muLib hB ?_
            intro w144 hB145 hch146
            have hsz147 := hch146.size
            replace hB8 := hB8.ch hch146 (by simp; omega)
            replace hO98 := hO98.ch hch146 (fun s hs => by have := dj_asg hdj102 s hs; simpa using this)
            replace hc := belowC hc (by omega) (off1 (by omega)) hch146
            replace hB : Blk w144 g 76 [(.int .i32 0), (.int .u32 0), (.slice A108 (xs ++ ([⟨0, 0⟩] : List Bt)).length c109)] := hB145
            clear hB145
            have hpl : IsPlace xs ⟨xS, xA⟩ k := ⟨hk, hlt, fun h9 h8 => by have h7 : (el xs k).s < xS := h8; omega⟩
            exact ⟨rfl, book_as hB hO98 ((shifted (by omega) (by omega)).trans (hearL_new xs k hpl (by intro h9; have h7 : (el xs k).s = xS := h9.2; omega)).symm) (by omega) (dj_asg hdj102), hc⟩
        · -- no
          replace hb64 := of_decide_eq_false hb64
          refine tw_pass rfl (w1n1 rfl rfl rfl rfl) rfl rfl ?_
          refine tw_pass rfl (w1n1 rfl rfl rfl rfl) rfl rfl ?_
          refine tw_pass rfl (w1n1 rfl rfl rfl rfl) rfl rfl ?_
          refine tw_pass rfl (w1n1 rfl rfl rfl rfl) rfl rfl ?_
          refine tw_pass rfl (w1n1 rfl rfl rfl rfl) rfl rfl ?_
          refine tw_pass rfl (w1n1 rfl rfl rfl rfl) rfl rfl ?_
          refine tw_pass rfl (w1n1 rfl rfl rfl rfl) rfl rfl ?_
          refine tw_pass rfl (w1n1 rfl rfl rfl rfl) rfl rfl ?_
          refine tw_pass rfl (w1n1 rfl rfl rfl rfl) rfl rfl ?_
          refine tw_pass rfl (w1n1 rfl rfl rfl rfl) rfl rfl ?_
          refine tw_pass rfl (w1n1 rfl rfl rfl rfl) rfl rfl ?_
          refine tw_free rfl (w0 rfl) rfl rfl (fun u hu => (pv_pickF (v := (.bool false)) rfl rfl rfl : PV _ _ _ _) u) ?_
          clear hB_r
          clear hB8_r
          clear hO_r
          refine tw_done (hK61 _ _ ?_)
          refine hK56 _ _ ?_
          refine cw_cond rfl (fun h148 => ?_) (fun h148 => ?_)
          · -- then
            cases h148
          · -- else
            clear h148
            refine cw_skip ?_
            refine hK54 _ _ ?_
            refine cw_seq fun K149 hK150 => ?_
            refine cw_region fun K151 hK152 => ?_
            refine rw_cons (op_pv (w0 rfl) rfl rfl (pv_move (v := (.pointer (some (⟨g, 0, none⟩)))) rfl rfl) ?_)
            refine rw_cons (op_pv (w0 rfl) rfl rfl (pv_move (v := (.pointer (some (⟨g, 0, none⟩)))) rfl rfl) ?_)
            refine rw_cons (op_pv (w0 rfl) rfl rfl (pv_nil rfl rfl) ?_)
            refine rw_cons (op_pv (w0 rfl) rfl rfl (pv_fld F76_1 rfl rfl) ?_)
            refine rw_cons (op_lv (w0 rfl) rfl rfl (lv_load T23 rfl rfl (hB.cellA (i := 2) rfl)) ?_)
            refine rw_cons (op_pv (w0 rfl) rfl rfl (pv_build rfl rfl (B39 )) ?_)
            refine rw_cons (op_bslice [(.agg #[(.int .i64 0), (.int .i64 0)])] Try.underlying23 T39 (w0 rfl) rfl rfl rfl rfl rfl (by simp [Value.cells]) (by decide) ?_)
            intro g154 w153 hg157 hg158 hK156 hch155
            have hO159 : Own encB 2 w153 w57.heap.size 39 (.slice (some ⟨g154, 0, none⟩) 1 1) ([⟨0, 0⟩] : List Bt) := Blk.own (xs := ([⟨0, 0⟩] : List Bt)) hK156 (by omega) rfl (by decide) rfl
            have hsz160 := hch155.size
            replace hB := hB.ch0 hch155
            replace hO := hO.ch0 hch155
            replace hB8 := hB8.ch0 hch155
            replace hc := belowC hc (by omega) off0 hch155
            have hub161 := hO159.lt
            refine rw_cons (op_append Try.underlying23 T39 (fun _ => rfl) rfl (by decide) (fun _ => one_all rfl) (w0 rfl) rfl rfl rfl rfl rfl hO (hO159.rs (fun _ => rfl)) (by unfold maxLen; first | omega | (simp; omega)) (by first | omega | (simp; omega)) (by omega) ?_)
            rintro v162 w163 hO164 hch165 hs166
            have hl167 : (xs ++ ([⟨0, 0⟩] : List Bt)).length = xs.length + 1 := by first | (have hl0 := (hO159.rs (fun _ => rfl)).len; omega) | (have hl0 := (hO159.rs (fun _ => rfl)).len; simp only [List.length_append, List.length_cons, List.length_nil] at hl0 ⊢; omega) | simp | rfl
            clear hO159
            have hgl169 := hB.lt
            have hgl171 := hB8.lt
            have hsz172 := hch165.size
            replace hB := hB.ch hch165 (fun hs => dj_asg hgo _ hs rfl)
            replace hB8 := hB8.ch hch165 (fun hs => dj_asg hdj12 _ hs rfl)
            replace hc := belowC hc (by omega) (hO.off.le (by omega)) hch165
            have hub173 := hO164.lt
            obtain ⟨A174, c175, hv176, hcap177, hcap178⟩ := hO164.form; subst hv176
            have hdj168 : ∀ s ∈ obl (.slice A174 (xs ++ ([⟨0, 0⟩] : List Bt)).length c175), s ≠ g := dj_newg hs166 (dj_asg hgo) (by omega)
            have hdj170 : ∀ s ∈ obl (.slice A174 (xs ++ ([⟨0, 0⟩] : List Bt)).length c175), s ≠ g6 := dj_newg hs166 (dj_asg hdj12) (by omega)
            refine rw_cons (op_pv (w0 rfl) rfl rfl (pv_nil rfl rfl) ?_)
            refine rw_cons (op_pv (w0 rfl) rfl rfl (pv_fld F76_1 rfl rfl) ?_)
            refine rw_cons (op_store_blk T23 hB (w0 rfl) rfl rfl rfl rfl rfl (one_all rfl) (Nat.le_of_ble_eq_true rfl) ?_)
            rintro w179 hB181 hch180
            have hsz182 := hch180.size
            replace hB8 := hB8.ch hch180 (by simp; omega)
            replace hO164 := hO164.ch hch180 (fun s hs => by have := dj_asg hdj168 s hs; simpa using this)
            replace hc := belowC hc (by omega) (off1 (by omega)) hch180
            replace hB : Blk w179 g 76 [(.int .i32 1), (.int .u32 0), (.slice A174 (xs ++ ([⟨0, 0⟩] : List Bt)).length c175)] := hB181
            clear hB181
            refine rw_nil (hK152 _ _ ?_)
            refine hK150 _ _ ?_
            refine cw_seq fun K183 hK184 => ?_
            refine cw_drawn (fun u => Ch [] w179 u) (.free 0 (.free 1 (.free 2 (.free 3 (.free 4 (.free 5 (.free 6 (.free 7 (.free 8 (.free 9 (.free 10 (.free 11 (.free 12 (.one 13 false (.done))))))))))))))) (by kernel_rfl) (by kernel_rfl) (Ch.refl _ _).drew fun K188 hK189 => ?_
            obtain ⟨w185, hw_, hch186, hsz187⟩ : ∃ w1 : World, w1 = w179.drew ∧ Ch [] w179 w1 ∧ w1.heap.size = w179.heap.size := ⟨_, rfl, (Ch.refl _ _).drew, rfl⟩
            rw [← hw_]; clear hw_
            have hr190 : Ch [] w179 w185 := hch186.sub (fun s hs => by cases hs)
            have hB_r := hB
            have hB8_r := hB8
            have hO164_r := hO164
            have hsz191 := hch186.size
            replace hB := hB.ch0 hch186
            replace hB8 := hB8.ch0 hch186
            replace hO164 := hO164.ch0 hch186
            replace hc := belowC hc (by omega) off0 hch186
            refine tw_free rfl (w0 rfl) rfl rfl (fun u hu => (pv_move (v := (.pointer (some (⟨g, 0, none⟩)))) rfl rfl : PV _ _ _ _) u) ?_
            refine tw_free rfl (w0 rfl) rfl rfl (fun u hu => (pv_nil rfl rfl : PV _ _ _ _) u) ?_
            refine tw_free rfl (w0 rfl) rfl rfl (fun u hu => (pv_fld F76_1 rfl rfl : PV _ _ _ _) u) ?_
            refine tw_free rfl (w0 rfl) rfl rfl (fun u hu => lv_load T23 rfl rfl ((hB_r.ch hu (by simp)).cellA (i := 2) rfl)) ?_
            refine tw_free rfl (w0 rfl) rfl rfl (fun u hu => (pv_move (v := (.int .i64 (k : Int))) rfl rfl : PV _ _ _ _) u) ?_
            refine tw_free rfl (w0 rfl) rfl rfl (fun u hu => (pv_add rfl rfl rfl (by omega) (by omega) : PV _ _ _ _) u) ?_
            refine tw_free rfl (w0 rfl) rfl rfl (fun u hu => (pv_from Try.underlying23 T39 rfl rfl rfl (by omega) (by omega) : PV _ _ _ _) u) ?_
            have hR192 : RS encB 2 w185 w185.heap.size (if c175 = (k + 1) then A174 else (A174 : Option Addr).map (·.add ((k + 1) * 2))) ((xs ++ ([⟨0, 0⟩] : List Bt)).length - (k + 1)) ((xs ++ ([⟨0, 0⟩] : List Bt)).drop (k + 1)) := ((hO164.rs (fun _ => rfl))).from (by omega) (by omega)
            refine tw_free rfl (w0 rfl) rfl rfl (fun u hu => (pv_move (v := (.pointer (some (⟨g, 0, none⟩)))) rfl rfl : PV _ _ _ _) u) ?_
            refine tw_free rfl (w0 rfl) rfl rfl (fun u hu => (pv_nil rfl rfl : PV _ _ _ _) u) ?_
            refine tw_free rfl (w0 rfl) rfl rfl (fun u hu => (pv_fld F76_1 rfl rfl : PV _ _ _ _) u) ?_
            refine tw_free rfl (w0 rfl) rfl rfl (fun u hu => lv_load T23 rfl rfl ((hB_r.ch hu (by simp)).cellA (i := 2) rfl)) ?_
            refine tw_free rfl (w0 rfl) rfl rfl (fun u hu => (pv_move (v := (.int .i64 (k : Int))) rfl rfl : PV _ _ _ _) u) ?_
            refine tw_free rfl (w0 rfl) rfl rfl (fun u hu => (pv_from Try.underlying23 T39 rfl rfl rfl (by omega) (by omega) : PV _ _ _ _) u) ?_
            have hR193 : RS encB 2 w185 w185.heap.size (if c175 = k then A174 else (A174 : Option Addr).map (·.add (k * 2))) ((xs ++ ([⟨0, 0⟩] : List Bt)).length - k) ((xs ++ ([⟨0, 0⟩] : List Bt)).drop k) := ((hO164.rs (fun _ => rfl))).from (by omega) (by omega)
            have hle197 := hO164.le
            refine tw_one rfl (op_copy (k := (k + 1)) Try.underlying23 T39 (fun _ => rfl) (by decide) (fun _ => one_all rfl) (w0 rfl) rfl rfl rfl rfl rfl hO164 hR193 (fun h => hO164.from_some h) (by omega) ?_)
            rintro w194 hO195 hch196
            have hsz198 := hch196.size
            replace hB := hB.ch hch196 (fun hs => dj_asg hdj168 _ hs rfl)
            replace hB8 := hB8.ch hch196 (fun hs => dj_asg hdj170 _ hs rfl)
            clear hR192
            clear hR193
            replace hc := belowC hc (by omega) (hO164.off.le (by omega)) hch196
            clear hr190
            clear hO164; have hO164 := hO195; clear hO195
            refine ⟨fun h => (by cases h), ?_⟩
            clear hB_r
            clear hB8_r
            clear hO164_r
            refine tw_done (hK189 _ _ ?_)
            refine hK184 _ _ ?_
            refine cw_drawn (fun u => Ch [] w194 u) (.free 0 (.free 1 (.free 2 (.free 3 (.free 4 (.free 5 (.free 6 (.one 7 false (.done))))))))) (by kernel_rfl) (by kernel_rfl) (Ch.refl _ _).drew fun K202 hK203 => ?_
            obtain ⟨w199, hw_, hch200, hsz201⟩ : ∃ w1 : World, w1 = w194.drew ∧ Ch [] w194 w1 ∧ w1.heap.size = w194.heap.size := ⟨_, rfl, (Ch.refl _ _).drew, rfl⟩
            rw [← hw_]; clear hw_
            have hr204 : Ch [] w194 w199 := hch200.sub (fun s hs => by cases hs)
            have hB_r := hB
            have hB8_r := hB8
            have hO164_r := hO164
            have hsz205 := hch200.size
            replace hB := hB.ch0 hch200
            replace hB8 := hB8.ch0 hch200
            replace hO164 := hO164.ch0 hch200
            replace hc := belowC hc (by omega) off0 hch200
            refine tw_free rfl (w0 rfl) rfl rfl (fun u hu => (pv_move (v := (.pointer (some (⟨g, 0, none⟩)))) rfl rfl : PV _ _ _ _) u) ?_
            refine tw_free rfl (w0 rfl) rfl rfl (fun u hu => (pv_nil rfl rfl : PV _ _ _ _) u) ?_
            refine tw_free rfl (w0 rfl) rfl rfl (fun u hu => (pv_fld F76_1 rfl rfl : PV _ _ _ _) u) ?_
            refine tw_free rfl (w0 rfl) rfl rfl (fun u hu => lv_load T23 rfl rfl ((hB_r.ch hu (by simp)).cellA (i := 2) rfl)) ?_
            refine tw_free rfl (w0 rfl) rfl rfl (fun u hu => (pv_move (v := (.int .i64 (k : Int))) rfl rfl : PV _ _ _ _) u) ?_
            refine tw_free rfl (w0 rfl) rfl rfl (fun u hu => lv_loadN T39 rfl rfl rfl (fun j v hv => (hB8_r.ch hu (by simp)).cellA hv)) ?_
            refine tw_free rfl (w0 rfl) rfl rfl (fun u hu => (pv_idx Try.underlying23 T39 rfl rfl rfl ((hO164.rs (fun _ => rfl)).some (k := k) (by omega)) (by omega) (by omega) : PV _ _ _ _) u) ?_
            refine tw_one rfl (op_store_ownA (k := k) (off := 0) (⟨xS, xA⟩) T39 hO164 (fun _ => rfl) (w0 rfl) rfl rfl rfl rfl rfl (one_all rfl) (by omega) (Nat.le_of_ble_eq_true rfl) rfl ?_)
            rintro w206 hO208 hch207
            have hsz209 := hch207.size
            replace hB := hB.ch hch207 (fun hs => dj_asg hdj168 _ hs rfl)
            replace hB8 := hB8.ch hch207 (fun hs => dj_asg hdj170 _ hs rfl)
            replace hc := belowC hc (by omega) (hO164.off.le (by omega)) hch207
            clear hr204
            clear hO164; have hO164 := hO208; clear hO208
            refine ⟨fun h => (by cases h), ?_⟩
            clear hB_r
            clear hB8_r
            clear hO164_r
            refine tw_done (hK203 _ _ ?_)
            refine finD0n ?_
            refine unlock_door muLib hB ?_
            intro w210 hB211 hch212
            have hsz213 := hch212.size
            replace hB8 := hB8.ch hch212 (by simp; omega)
            replace hO164 := hO164.ch hch212 (fun s hs => by have := dj_asg hdj168 s hs; simpa using this)
            replace hc := belowC hc (by omega) (off1 (by omega)) hch212
            replace hB : Blk w210 g 76 [(.int .i32 0), (.int .u32 0), (.slice A174 (xs ++ ([⟨0, 0⟩] : List Bt)).length c175)] := hB211
            clear hB211
            have hpl : IsPlace xs ⟨xS, xA⟩ k := ⟨hk, hlt, fun h9 h8 => by have h7 : (el xs k).s < xS := h8; omega⟩
            exact ⟨rfl, book_as hB hO164 ((shifted (by omega) (by omega)).trans (hearL_new xs k hpl (by intro h9; have h7 : (el xs k).s = xS := h9.2; omega)).symm) (by omega) (dj_asg hdj168), hc⟩
    · -- no
      replace hb49 := of_decide_eq_false hb49
      refine tw_pass rfl (w1n1 rfl rfl rfl rfl) rfl rfl ?_
      refine tw_pass rfl (w1n1 rfl rfl rfl rfl) rfl rfl ?_
      refine tw_pass rfl (w1n1 rfl rfl rfl rfl) rfl rfl ?_
      refine tw_pass rfl (w1n1 rfl rfl rfl rfl) rfl rfl ?_
      refine tw_pass rfl (w1n1 rfl rfl rfl rfl) rfl rfl ?_
      refine tw_pass rfl (w1n1 rfl rfl rfl rfl) rfl rfl ?_
      refine tw_pass rfl (w1n1 rfl rfl rfl rfl) rfl rfl ?_
      refine tw_pass rfl (w1n1 rfl rfl rfl rfl) rfl rfl ?_
      refine tw_pass rfl (w1n1 rfl rfl rfl rfl) rfl rfl ?_
      refine tw_pass rfl (w1n1 rfl rfl rfl rfl) rfl rfl ?_
      refine tw_pass rfl (w1n1 rfl rfl rfl rfl) rfl rfl ?_
      refine tw_free rfl (w0 rfl) rfl rfl (fun u hu => (pv_pickF (v := (.bool false)) rfl rfl rfl : PV _ _ _ _) u) ?_
      clear hB_r
      clear hB8_r
      clear hO_r
      refine tw_done (hK46 _ _ ?_)
      refine hK41 _ _ ?_
      refine cw_cond rfl (fun h214 => ?_) (fun h214 => ?_)
      · -- then
        cases h214
      · -- else
        clear h214
        refine cw_exit ?_
        refine hK30 _ _ ?_
        refine cw_seq fun K215 hK216 => ?_
        refine cw_seq fun K217 hK218 => ?_
        refine cw_drawn (fun u => Ch [] w42 u) (.free 0 (.free 1 (.free 2 (.free 3 (.free 4 (.free 5 (.free 6 (.free 7 (.free 8 (.free 9 (.free 10 (.free 11 (.free 12 (.free 13 (.free 14 (.free 15 (.free 16 (.free 17 (.free 18 (.free 19 (.done))))))))))))))))))))) (by kernel_rfl) (by kernel_rfl) (Ch.refl _ _).drew fun K222 hK223 => ?_
        obtain ⟨w219, hw_, hch220, hsz221⟩ : ∃ w1 : World, w1 = w42.drew ∧ Ch [] w42 w1 ∧ w1.heap.size = w42.heap.size := ⟨_, rfl, (Ch.refl _ _).drew, rfl⟩
        rw [← hw_]; clear hw_
        have hr224 : Ch [] w42 w219 := hch220.sub (fun s hs => by cases hs)
        have hB_r := hB
        have hO_r := hO
        have hB8_r := hB8
        have hsz225 := hch220.size
        replace hB := hB.ch0 hch220
        replace hO := hO.ch0 hch220
        replace hB8 := hB8.ch0 hch220
        replace hc := belowC hc (by omega) off0 hch220
        refine tw_free rfl (w0 rfl) rfl rfl (fun u hu => (pv_move (v := (.int .i64 (k : Int))) rfl rfl : PV _ _ _ _) u) ?_
        refine tw_free rfl (w0 rfl) rfl rfl (fun u hu => (pv_move (v := (.pointer (some (⟨g, 0, none⟩)))) rfl rfl : PV _ _ _ _) u) ?_
        refine tw_free rfl (w0 rfl) rfl rfl (fun u hu => (pv_nil rfl rfl : PV _ _ _ _) u) ?_
        refine tw_free rfl (w0 rfl) rfl rfl (fun u hu => (pv_fld F76_1 rfl rfl : PV _ _ _ _) u) ?_
        refine tw_free rfl (w0 rfl) rfl rfl (fun u hu => lv_load T23 rfl rfl ((hB_r.ch hu (by simp)).cellA (i := 2) rfl)) ?_
        refine tw_free rfl (w0 rfl) rfl rfl (fun u hu => (pv_len Try.underlying23 rfl rfl : PV _ _ _ _) u) ?_
        refine tw_free rfl (w0 rfl) rfl rfl (fun u hu => (pv_lss rfl rfl rfl : PV _ _ _ _) u) ?_
        refine tw_free rfl (w0 rfl) rfl rfl (fun u hu => (pv_move (v := (.bool (decide ((k : Int) < (xs.length : Int))))) rfl rfl : PV _ _ _ _) u) ?_
        refine tw_split 41 rfl (fun hb226 => ?_) (fun hb226 => ?_)
        · -- yes
          replace hb226 := of_decide_eq_true hb226
          refine tw_free rfl (w1y rfl rfl rfl rfl) rfl rfl (fun u hu => (pv_move (v := (.pointer (some (⟨g, 0, none⟩)))) rfl rfl : PV _ _ _ _) u) ?_
          refine tw_free rfl (w1y rfl rfl rfl rfl) rfl rfl (fun u hu => (pv_nil rfl rfl : PV _ _ _ _) u) ?_
          refine tw_free rfl (w1y rfl rfl rfl rfl) rfl rfl (fun u hu => (pv_fld F76_1 rfl rfl : PV _ _ _ _) u) ?_
          refine tw_free rfl (w1y rfl rfl rfl rfl) rfl rfl (fun u hu => lv_load T23 rfl rfl ((hB_r.ch hu (by simp)).cellA (i := 2) rfl)) ?_
          refine tw_free rfl (w1y rfl rfl rfl rfl) rfl rfl (fun u hu => (pv_move (v := (.int .i64 (k : Int))) rfl rfl : PV _ _ _ _) u) ?_
          refine tw_free rfl (w1y rfl rfl rfl rfl) rfl rfl (fun u hu => (pv_idx Try.underlying23 T39 rfl rfl rfl ((hO.rs (fun _ => rfl)).some (k := k) (by omega)) (by omega) (by omega) : PV _ _ _ _) u) ?_
          refine tw_free rfl (w1y rfl rfl rfl rfl) rfl rfl (fun u hu => (pv_fld F39_0 rfl rfl : PV _ _ _ _) u) ?_
          refine tw_free rfl (w1y rfl rfl rfl rfl) rfl rfl (fun u hu => lv_load T3 rfl rfl (((hO_r.ch0 hu).rs (fun _ => rfl)).cellE (k := k) (j := 0) (by omega) rfl)) ?_
          refine tw_free rfl (w1y rfl rfl rfl rfl) rfl rfl (fun u hu => (pv_fld F39_0 rfl rfl : PV _ _ _ _) u) ?_
          refine tw_free rfl (w1y rfl rfl rfl rfl) rfl rfl (fun u hu => lv_load T3 rfl rfl ((hB8_r.ch hu (by simp)).cellA (i := 0) rfl)) ?_
          refine tw_free rfl (w1y rfl rfl rfl rfl) rfl rfl (fun u hu => (pv_eql rfl rfl rfl : PV _ _ _ _) u) ?_
          refine tw_free rfl (w0 rfl) rfl rfl (fun u hu => (pv_pickT (v := (.bool (decide (((el xs k).s : Int) = xS)))) rfl rfl rfl : PV _ _ _ _) u) ?_
          clear hB_r
          clear hB8_r
          clear hO_r
          refine tw_done (hK223 _ _ ?_)
          refine hK218 _ _ ?_
          refine cw_cond rfl (fun h227 => ?_) (fun h227 => ?_)
          · -- then
            replace h227 := of_decide_eq_true h227
            refine cw_seq fun K228 hK229 => ?_
            refine cw_drawn (fun u => Ch [] w219 u) (.free 0 (.free 1 (.free 2 (.free 3 (.free 4 (.free 5 (.free 6 (.free 7 (.free 8 (.free 9 (.free 10 (.free 11 (.free 12 (.free 13 (.free 14 (.free 15 (.free 16 (.free 17 (.one 18 false (.done)))))))))))))))))))) (by kernel_rfl) (by kernel_rfl) (Ch.refl _ _).drew fun K233 hK234 => ?_
            obtain ⟨w230, hw_, hch231, hsz232⟩ : ∃ w1 : World, w1 = w219.drew ∧ Ch [] w219 w1 ∧ w1.heap.size = w219.heap.size := ⟨_, rfl, (Ch.refl _ _).drew, rfl⟩
            rw [← hw_]; clear hw_
            have hr235 : Ch [] w219 w230 := hch231.sub (fun s hs => by cases hs)
            have hB_r := hB
            have hO_r := hO
            have hB8_r := hB8
            have hsz236 := hch231.size
            replace hB := hB.ch0 hch231
            replace hO := hO.ch0 hch231
            replace hB8 := hB8.ch0 hch231
            replace hc := belowC hc (by omega) off0 hch231
            refine tw_free rfl (w0 rfl) rfl rfl (fun u hu => (pv_move (v := (.pointer (some (⟨g, 0, none⟩)))) rfl rfl : PV _ _ _ _) u) ?_
            refine tw_free rfl (w0 rfl) rfl rfl (fun u hu => (pv_nil rfl rfl : PV _ _ _ _) u) ?_
            refine tw_free rfl (w0 rfl) rfl rfl (fun u hu => (pv_fld F76_1 rfl rfl : PV _ _ _ _) u) ?_
            refine tw_free rfl (w0 rfl) rfl rfl (fun u hu => lv_load T23 rfl rfl ((hB_r.ch hu (by simp)).cellA (i := 2) rfl)) ?_
            refine tw_free rfl (w0 rfl) rfl rfl (fun u hu => (pv_move (v := (.int .i64 (k : Int))) rfl rfl : PV _ _ _ _) u) ?_
            refine tw_free rfl (w0 rfl) rfl rfl (fun u hu => (pv_move (v := (.pointer (some (⟨g, 0, none⟩)))) rfl rfl : PV _ _ _ _) u) ?_
            refine tw_free rfl (w0 rfl) rfl rfl (fun u hu => (pv_nil rfl rfl : PV _ _ _ _) u) ?_
            refine tw_free rfl (w0 rfl) rfl rfl (fun u hu => (pv_fld F76_1 rfl rfl : PV _ _ _ _) u) ?_
            refine tw_free rfl (w0 rfl) rfl rfl (fun u hu => lv_load T23 rfl rfl ((hB_r.ch hu (by simp)).cellA (i := 2) rfl)) ?_
            refine tw_free rfl (w0 rfl) rfl rfl (fun u hu => (pv_move (v := (.int .i64 (k : Int))) rfl rfl : PV _ _ _ _) u) ?_
            refine tw_free rfl (w0 rfl) rfl rfl (fun u hu => (pv_idx Try.underlying23 T39 rfl rfl rfl ((hO.rs (fun _ => rfl)).some (k := k) (by omega)) (by omega) (by omega) : PV _ _ _ _) u) ?_
            refine tw_free rfl (w0 rfl) rfl rfl (fun u hu => (pv_fld F39_1 rfl rfl : PV _ _ _ _) u) ?_
            refine tw_free rfl (w0 rfl) rfl rfl (fun u hu => lv_load T3 rfl rfl (((hO_r.ch0 hu).rs (fun _ => rfl)).cellE (k := k) (j := 1) (by omega) rfl)) ?_
            refine tw_free rfl (w0 rfl) rfl rfl (fun u hu => (pv_fld F39_1 rfl rfl : PV _ _ _ _) u) ?_
            refine tw_free rfl (w0 rfl) rfl rfl (fun u hu => lv_load T3 rfl rfl ((hB8_r.ch hu (by simp)).cellA (i := 1) rfl)) ?_
            refine tw_free rfl (w0 rfl) rfl rfl (fun u hu => (pv_max rfl rfl rfl : PV _ _ _ _) u) ?_
            refine tw_free rfl (w0 rfl) rfl rfl (fun u hu => (pv_idx Try.underlying23 T39 rfl rfl rfl ((hO.rs (fun _ => rfl)).some (k := k) (by omega)) (by omega) (by omega) : PV _ _ _ _) u) ?_
            refine tw_free rfl (w0 rfl) rfl rfl (fun u hu => (pv_fld F39_1 rfl rfl : PV _ _ _ _) u) ?_
            refine tw_one rfl (op_store_ownA (k := k) (off := 1) (⟨(el xs k).s, max (el xs k).a xA⟩) T3 hO (fun _ => rfl) (w0 rfl) rfl rfl rfl rfl rfl (one_all rfl) (by omega) (Nat.le_of_ble_eq_true rfl) rfl ?_)
            rintro w237 hO239 hch238
            have hsz240 := hch238.size
            replace hB := hB.ch hch238 (fun hs => dj_asg hgo _ hs rfl)
            replace hB8 := hB8.ch hch238 (fun hs => dj_asg hdj12 _ hs rfl)
            replace hc := belowC hc (by omega) (hO.off.le (by omega)) hch238
            clear hr235
            clear hO; have hO := hO239; clear hO239
            refine ⟨fun h => (by cases h), ?_⟩
            clear hB_r
            clear hB8_r
            clear hO_r
            refine tw_done (hK234 _ _ ?_)
            refine hK229 _ _ ?_
            refine cw_ret ?_
            refine finD0 ?_
            refine unlock_door muLib hB ?_
            intro w241 hB242 hch243
            have hsz244 := hch243.size
            replace hO := hO.ch hch243 (fun s hs => by have := dj_asg hgo s hs; simpa using this)
            replace hB8 := hB8.ch hch243 (by simp; omega)
            replace hc := belowC hc (by omega) (off1 (by omega)) hch243
            replace hB : Blk w241 g 76 [(.int .i32 0), (.int .u32 0), (.slice A xs.length c)] := hB242
            clear hB242
            have hpl : IsPlace xs ⟨xS, xA⟩ k := ⟨hk, hlt, fun h9 h8 => by have h7 : (el xs k).s < xS := h8; omega⟩
            exact ⟨rfl, book_as hB hO (hearL_at xs k hpl (by omega) (by show (el xs k).s = xS; omega)).symm (by omega) (dj_asg hgo), hc⟩
          · -- else
            replace h227 := of_decide_eq_false h227
            refine cw_skip ?_
            refine hK216 _ _ ?_
            refine cw_seq fun K245 hK246 => ?_
            refine cw_region fun K247 hK248 => ?_
            refine rw_cons (op_pv (w0 rfl) rfl rfl (pv_move (v := (.pointer (some (⟨g, 0, none⟩)))) rfl rfl) ?_)
            refine rw_cons (op_pv (w0 rfl) rfl rfl (pv_move (v := (.pointer (some (⟨g, 0, none⟩)))) rfl rfl) ?_)
            refine rw_cons (op_pv (w0 rfl) rfl rfl (pv_nil rfl rfl) ?_)
            refine rw_cons (op_pv (w0 rfl) rfl rfl (pv_fld F76_1 rfl rfl) ?_)
            refine rw_cons (op_lv (w0 rfl) rfl rfl (lv_load T23 rfl rfl (hB.cellA (i := 2) rfl)) ?_)
            refine rw_cons (op_pv (w0 rfl) rfl rfl (pv_build rfl rfl (B39 )) ?_)
            refine rw_cons (op_bslice [(.agg #[(.int .i64 0), (.int .i64 0)])] Try.underlying23 T39 (w0 rfl) rfl rfl rfl rfl rfl (by simp [Value.cells]) (by decide) ?_)
            intro g250 w249 hg253 hg254 hK252 hch251
            have hO255 : Own encB 2 w249 w219.heap.size 39 (.slice (some ⟨g250, 0, none⟩) 1 1) ([⟨0, 0⟩] : List Bt) := Blk.own (xs := ([⟨0, 0⟩] : List Bt)) hK252 (by omega) rfl (by decide) rfl
            have hsz256 := hch251.size
            replace hB := hB.ch0 hch251
            replace hO := hO.ch0 hch251
            replace hB8 := hB8.ch0 hch251
            replace hc := belowC hc (by omega) off0 hch251
            have hub257 := hO255.lt
            refine rw_cons (op_append Try.underlying23 T39 (fun _ => rfl) rfl (by decide) (fun _ => one_all rfl) (w0 rfl) rfl rfl rfl rfl rfl hO (hO255.rs (fun _ => rfl)) (by unfold maxLen; first | omega | (simp; omega)) (by first | omega | (simp; omega)) (by omega) ?_)
            rintro v258 w259 hO260 hch261 hs262
            have hl263 : (xs ++ ([⟨0, 0⟩] : List Bt)).length = xs.length + 1 := by first | (have hl0 := (hO255.rs (fun _ => rfl)).len; omega) | (have hl0 := (hO255.rs (fun _ => rfl)).len; simp only [List.length_append, List.length_cons, List.length_nil] at hl0 ⊢; omega) | simp | rfl
            clear hO255
            have hgl265 := hB.lt
            have hgl267 := hB8.lt
            have hsz268 := hch261.size
            replace hB := hB.ch hch261 (fun hs => dj_asg hgo _ hs rfl)
            replace hB8 := hB8.ch hch261 (fun hs => dj_asg hdj12 _ hs rfl)
            replace hc := belowC hc (by omega) (hO.off.le (by omega)) hch261
            have hub269 := hO260.lt
            obtain ⟨A270, c271, hv272, hcap273, hcap274⟩ := hO260.form; subst hv272
            have hdj264 : ∀ s ∈ obl (.slice A270 (xs ++ ([⟨0, 0⟩] : List Bt)).length c271), s ≠ g := dj_newg hs262 (dj_asg hgo) (by omega)
            have hdj266 : ∀ s ∈ obl (.slice A270 (xs ++ ([⟨0, 0⟩] : List Bt)).length c271), s ≠ g6 := dj_newg hs262 (dj_asg hdj12) (by omega)
            refine rw_cons (op_pv (w0 rfl) rfl rfl (pv_nil rfl rfl) ?_)
            refine rw_cons (op_pv (w0 rfl) rfl rfl (pv_fld F76_1 rfl rfl) ?_)
            refine rw_cons (op_store_blk T23 hB (w0 rfl) rfl rfl rfl rfl rfl (one_all rfl) (Nat.le_of_ble_eq_true rfl) ?_)
            rintro w275 hB277 hch276
            have hsz278 := hch276.size
            replace hB8 := hB8.ch hch276 (by simp; omega)
            replace hO260 := hO260.ch hch276 (fun s hs => by have := dj_asg hdj264 s hs; simpa using this)
            replace hc := belowC hc (by omega) (off1 (by omega)) hch276
            replace hB : Blk w275 g 76 [(.int .i32 1), (.int .u32 0), (.slice A270 (xs ++ ([⟨0, 0⟩] : List Bt)).length c271)] := hB277
            clear hB277
            refine rw_nil (hK248 _ _ ?_)
            refine hK246 _ _ ?_
            refine cw_seq fun K279 hK280 => ?_
            refine cw_drawn (fun u => Ch [] w275 u) (.free 0 (.free 1 (.free 2 (.free 3 (.free 4 (.free 5 (.free 6 (.free 7 (.free 8 (.free 9 (.free 10 (.free 11 (.free 12 (.one 13 false (.done))))))))))))))) (by kernel_rfl) (by kernel_rfl) (Ch.refl _ _).drew fun K284 hK285 => ?_
            obtain ⟨w281, hw_, hch282, hsz283⟩ : ∃ w1 : World, w1 = w275.drew ∧ Ch [] w275 w1 ∧ w1.heap.size = w275.heap.size := ⟨_, rfl, (Ch.refl _ _).drew, rfl⟩
            rw [← hw_]; clear hw_
            have hr286 : Ch [] w275 w281 := hch282.sub (fun s hs => by cases hs)
            have hB_r := hB
            have hB8_r := hB8
            have hO260_r := hO260
            have hsz287 := hch282.size
            replace hB := hB.ch0 hch282
            replace hB8 := hB8.ch0 hch282
            replace hO260 := hO260.ch0 hch282
            replace hc := belowC hc (by omega) off0 hch282
            refine tw_free rfl (w0 rfl) rfl rfl (fun u hu => (pv_move (v := (.pointer (some (⟨g, 0, none⟩)))) rfl rfl : PV _ _ _ _) u) ?_
            refine tw_free rfl (w0 rfl) rfl rfl (fun u hu => (pv_nil rfl rfl : PV _ _ _ _) u) ?_
            refine tw_free rfl (w0 rfl) rfl rfl (fun u hu => (pv_fld F76_1 rfl rfl : PV _ _ _ _) u) ?_
            refine tw_free rfl (w0 rfl) rfl rfl (fun u hu => lv_load T23 rfl rfl ((hB_r.ch hu (by simp)).cellA (i := 2) rfl)) ?_
            refine tw_free rfl (w0 rfl) rfl rfl (fun u hu => (pv_move (v := (.int .i64 (k : Int))) rfl rfl : PV _ _ _ _) u) ?_
            refine tw_free rfl (w0 rfl) rfl rfl (fun u hu => (pv_add rfl rfl rfl (by omega) (by omega) : PV _ _ _ _) u) ?_
            refine tw_free rfl (w0 rfl) rfl rfl (fun u hu => (pv_from Try.underlying23 T39 rfl rfl rfl (by omega) (by omega) : PV _ _ _ _) u) ?_
            have hR288 : RS encB 2 w281 w281.heap.size (if c271 = (k + 1) then A270 else (A270 : Option Addr).map (·.add ((k + 1) * 2))) ((xs ++ ([⟨0, 0⟩] : List Bt)).length - (k + 1)) ((xs ++ ([⟨0, 0⟩] : List Bt)).drop (k + 1)) := ((hO260.rs (fun _ => rfl))).from (by omega) (by omega)
            refine tw_free rfl (w0 rfl) rfl rfl (fun u hu => (pv_move (v := (.pointer (some (⟨g, 0, none⟩)))) rfl rfl : PV _ _ _ _) u) ?_
            refine tw_free rfl (w0 rfl) rfl rfl (fun u hu => (pv_nil rfl rfl : PV _ _ _ _) u) ?_
            refine tw_free rfl (w0 rfl) rfl rfl (fun u hu => (pv_fld F76_1 rfl rfl : PV _ _ _ _) u) ?_
            refine tw_free rfl (w0 rfl) rfl rfl (fun u hu => lv_load T23 rfl rfl ((hB_r.ch hu (by simp)).cellA (i := 2) rfl)) ?_
            refine tw_free rfl (w0 rfl) rfl rfl (fun u hu => (pv_move (v := (.int .i64 (k : Int))) rfl rfl : PV _ _ _ _) u) ?_
            refine tw_free rfl (w0 rfl) rfl rfl (fun u hu => (pv_from Try.underlying23 T39 rfl rfl rfl (by omega) (by omega) : PV _ _ _ _) u) ?_
            have hR289 : RS encB 2 w281 w281.heap.size (if c271 = k then A270 else (A270 : Option Addr).map (·.add (k * 2))) ((xs ++ ([⟨0, 0⟩] : List Bt)).length - k) ((xs ++ ([⟨0, 0⟩] : List Bt)).drop k) := ((hO260.rs (fun _ => rfl))).from (by omega) (by omega)
            have hle293 := hO260.le
            refine tw_one rfl (op_copy (k := (k + 1)) Try.underlying23 T39 (fun _ => rfl) (by decide) (fun _ => one_all rfl) (w0 rfl) rfl rfl rfl rfl rfl hO260 hR289 (fun h => hO260.from_some h) (by omega) ?_)
            rintro w290 hO291 hch292
            have hsz294 := hch292.size
            replace hB := hB.ch hch292 (fun hs => dj_asg hdj264 _ hs rfl)
            replace hB8 := hB8.ch hch292 (fun hs => dj_asg hdj266 _ hs rfl)
            clear hR288
            clear hR289
            replace hc := belowC hc (by omega) (hO260.off.le (by omega)) hch292
            clear hr286
            clear hO260; have hO260 := hO291; clear hO291
            refine ⟨fun h => (by cases h), ?_⟩
            clear hB_r
            clear hB8_r
            clear hO260_r
            refine tw_done (hK285 _ _ ?_)
            refine hK280 _ _ ?_
            refine cw_drawn (fun u => Ch [] w290 u) (.free 0 (.free 1 (.free 2 (.free 3 (.free 4 (.free 5 (.free 6 (.one 7 false (.done))))))))) (by kernel_rfl) (by kernel_rfl) (Ch.refl _ _).drew fun K298 hK299 => ?_
            obtain ⟨w295, hw_, hch296, hsz297⟩ : ∃ w1 : World, w1 = w290.drew ∧ Ch [] w290 w1 ∧ w1.heap.size = w290.heap.size := ⟨_, rfl, (Ch.refl _ _).drew, rfl⟩
            rw [← hw_]; clear hw_
            have hr300 : Ch [] w290 w295 := hch296.sub (fun s hs => by cases hs)
            have hB_r := hB
            have hB8_r := hB8
            have hO260_r := hO260
            have hsz301 := hch296.size
            replace hB := hB.ch0 hch296
            replace hB8 := hB8.ch0 hch296
            replace hO260 := hO260.ch0 hch296
            replace hc := belowC hc (by omega) off0 hch296
            refine tw_free rfl (w0 rfl) rfl rfl (fun u hu => (pv_move (v := (.pointer (some (⟨g, 0, none⟩)))) rfl rfl : PV _ _ _ _) u) ?_
            refine tw_free rfl (w0 rfl) rfl rfl (fun u hu => (pv_nil rfl rfl : PV _ _ _ _) u) ?_
            refine tw_free rfl (w0 rfl) rfl rfl (fun u hu => (pv_fld F76_1 rfl rfl : PV _ _ _ _) u) ?_
            refine tw_free rfl (w0 rfl) rfl rfl (fun u hu => lv_load T23 rfl rfl ((hB_r.ch hu (by simp)).cellA (i := 2) rfl)) ?_
            refine tw_free rfl (w0 rfl) rfl rfl (fun u hu => (pv_move (v := (.int .i64 (k : Int))) rfl rfl : PV _ _ _ _) u) ?_
            refine tw_free rfl (w0 rfl) rfl rfl (fun u hu => lv_loadN T39 rfl rfl rfl (fun j v hv => (hB8_r.ch hu (by simp)).cellA hv)) ?_
            refine tw_free rfl (w0 rfl) rfl rfl (fun u hu => (pv_idx Try.underlying23 T39 rfl rfl rfl ((hO260.rs (fun _ => rfl)).some (k := k) (by omega)) (by omega) (by omega) : PV _ _ _ _) u) ?_
            refine tw_one rfl (op_store_ownA (k := k) (off := 0) (⟨xS, xA⟩) T39 hO260 (fun _ => rfl) (w0 rfl) rfl rfl rfl rfl rfl (one_all rfl) (by omega) (Nat.le_of_ble_eq_true rfl) rfl ?_)
            rintro w302 hO304 hch303
            have hsz305 := hch303.size
            replace hB := hB.ch hch303 (fun hs => dj_asg hdj264 _ hs rfl)
            replace hB8 := hB8.ch hch303 (fun hs => dj_asg hdj266 _ hs rfl)
            replace hc := belowC hc (by omega) (hO260.off.le (by omega)) hch303
            clear hr300
            clear hO260; have hO260 := hO304; clear hO304
            refine ⟨fun h => (by cases h), ?_⟩
            clear hB_r
            clear hB8_r
            clear hO260_r
            refine tw_done (hK299 _ _ ?_)
            refine finD0n ?_
            refine unlock_door muLib hB ?_
            intro w306 hB307 hch308
            have hsz309 := hch308.size
            replace hB8 := hB8.ch hch308 (by simp; omega)
            replace hO260 := hO260.ch hch308 (fun s hs => by have := dj_asg hdj264 s hs; simpa using this)
            replace hc := belowC hc (by omega) (off1 (by omega)) hch308
            replace hB : Blk w306 g 76 [(.int .i32 0), (.int .u32 0), (.slice A270 (xs ++ ([⟨0, 0⟩] : List Bt)).length c271)] := hB307
            clear hB307
            have hpl : IsPlace xs ⟨xS, xA⟩ k := ⟨hk, hlt, fun h9 h8 => by have h7 : (el xs k).s < xS := h8; omega⟩
            exact ⟨rfl, book_as hB hO260 ((shifted (by omega) (by omega)).trans (hearL_new xs k hpl (by intro h9; have h7 : (el xs k).s = xS := h9.2; omega)).symm) (by omega) (dj_asg hdj264), hc⟩
        · -- no
          replace hb226 := of_decide_eq_false hb226
          refine tw_pass rfl (w1n1 rfl rfl rfl rfl) rfl rfl ?_
          refine tw_pass rfl (w1n1 rfl rfl rfl rfl) rfl rfl ?_
          refine tw_pass rfl (w1n1 rfl rfl rfl rfl) rfl rfl ?_
          refine tw_pass rfl (w1n1 rfl rfl rfl rfl) rfl rfl ?_
          refine tw_pass rfl (w1n1 rfl rfl rfl rfl) rfl rfl ?_
          refine tw_pass rfl (w1n1 rfl rfl rfl rfl) rfl rfl ?_
          refine tw_pass rfl (w1n1 rfl rfl rfl rfl) rfl rfl ?_
          refine tw_pass rfl (w1n1 rfl rfl rfl rfl) rfl rfl ?_
          refine tw_pass rfl (w1n1 rfl rfl rfl rfl) rfl rfl ?_
          refine tw_pass rfl (w1n1 rfl rfl rfl rfl) rfl rfl ?_
          refine tw_pass rfl (w1n1 rfl rfl rfl rfl) rfl rfl ?_
          refine tw_free rfl (w0 rfl) rfl rfl (fun u hu => (pv_pickF (v := (.bool false)) rfl rfl rfl : PV _ _ _ _) u) ?_
          clear hB_r
          clear hB8_r
          clear hO_r
          refine tw_done (hK223 _ _ ?_)
          refine hK218 _ _ ?_
          refine cw_cond rfl (fun h310 => ?_) (fun h310 => ?_)
          · -- then
            cases h310
          · -- else
            clear h310
            refine cw_skip ?_
            refine hK216 _ _ ?_
            refine cw_seq fun K311 hK312 => ?_
            refine cw_region fun K313 hK314 => ?_
            refine rw_cons (op_pv (w0 rfl) rfl rfl (pv_move (v := (.pointer (some (⟨g, 0, none⟩)))) rfl rfl) ?_)
            refine rw_cons (op_pv (w0 rfl) rfl rfl (pv_move (v := (.pointer (some (⟨g, 0, none⟩)))) rfl rfl) ?_)
            refine rw_cons (op_pv (w0 rfl) rfl rfl (pv_nil rfl rfl) ?_)
            refine rw_cons (op_pv (w0 rfl) rfl rfl (pv_fld F76_1 rfl rfl) ?_)
            refine rw_cons (op_lv (w0 rfl) rfl rfl (lv_load T23 rfl rfl (hB.cellA (i := 2) rfl)) ?_)
            refine rw_cons (op_pv (w0 rfl) rfl rfl (pv_build rfl rfl (B39 )) ?_)
            refine rw_cons (op_bslice [(.agg #[(.int .i64 0), (.int .i64 0)])] Try.underlying23 T39 (w0 rfl) rfl rfl rfl rfl rfl (by simp [Value.cells]) (by decide) ?_)
            intro g316 w315 hg319 hg320 hK318 hch317
            have hO321 : Own encB 2 w315 w219.heap.size 39 (.slice (some ⟨g316, 0, none⟩) 1 1) ([⟨0, 0⟩] : List Bt) := Blk.own (xs := ([⟨0, 0⟩] : List Bt)) hK318 (by omega) rfl (by decide) rfl
            have hsz322 := hch317.size
            replace hB := hB.ch0 hch317
            replace hO := hO.ch0 hch317
            replace hB8 := hB8.ch0 hch317
            replace hc := belowC hc (by omega) off0 hch317
            have hub323 := hO321.lt
            refine rw_cons (op_append Try.underlying23 T39 (fun _ => rfl) rfl (by decide) (fun _ => one_all rfl) (w0 rfl) rfl rfl rfl rfl rfl hO (hO321.rs (fun _ => rfl)) (by unfold maxLen; first | omega | (simp; omega)) (by first | omega | (simp; omega)) (by omega) ?_)
            rintro v324 w325 hO326 hch327 hs328
            have hl329 : (xs ++ ([⟨0, 0⟩] : List Bt)).length = xs.length + 1 := by first | (have hl0 := (hO321.rs (fun _ => rfl)).len; omega) | (have hl0 := (hO321.rs (fun _ => rfl)).len; simp only [List.length_append, List.length_cons, List.length_nil] at hl0 ⊢; omega) | simp | rfl
            clear hO321
            have hgl331 := hB.lt
            have hgl333 := hB8.lt
            have hsz334 := hch327.size
            replace hB := hB.ch hch327 (fun hs => dj_asg hgo _ hs rfl)
            replace hB8 := hB8.ch hch327 (fun hs => dj_asg hdj12 _ hs rfl)
            replace hc := belowC hc (by omega) (hO.off.le (by omega)) hch327
            have hub335 := hO326.lt
            obtain ⟨A336, c337, hv338, hcap339, hcap340⟩ := hO326.form; subst hv338
            have hdj330 : ∀ s ∈ obl (.slice A336 (xs ++ ([⟨0, 0⟩] : List Bt)).length c337), s ≠ g := dj_newg hs328 (dj_asg hgo) (by omega)
            have hdj332 : ∀ s ∈ obl (.slice A336 (xs ++ ([⟨0, 0⟩] : List Bt)).length c337), s ≠ g6 := dj_newg hs328 (dj_asg hdj12) (by omega)
            refine rw_cons (op_pv (w0 rfl) rfl rfl (pv_nil rfl rfl) ?_)
            refine rw_cons (op_pv (w0 rfl) rfl rfl (pv_fld F76_1 rfl rfl) ?_)
            refine rw_cons (op_store_blk T23 hB (w0 rfl) rfl rfl rfl rfl rfl (one_all rfl) (Nat.le_of_ble_eq_true rfl) ?_)
            rintro w341 hB343 hch342
            have hsz344 := hch342.size
            replace hB8 := hB8.ch hch342 (by simp; omega)
            replace hO326 := hO326.ch hch342 (fun s hs => by have := dj_asg hdj330 s hs; simpa using this)
            replace hc := belowC hc (by omega) (off1 (by omega)) hch342
            replace hB : Blk w341 g 76 [(.int .i32 1), (.int .u32 0), (.slice A336 (xs ++ ([⟨0, 0⟩] : List Bt)).length c337)] := hB343
            clear hB343
            refine rw_nil (hK314 _ _ ?_)
            refine hK312 _ _ ?_
            refine cw_seq fun K345 hK346 => ?_
            refine cw_drawn (fun u => Ch [] w341 u) (.free 0 (.free 1 (.free 2 (.free 3 (.free 4 (.free 5 (.free 6 (.free 7 (.free 8 (.free 9 (.free 10 (.free 11 (.free 12 (.one 13 false (.done))))))))))))))) (by kernel_rfl) (by kernel_rfl) (Ch.refl _ _).drew fun K350 hK351 => ?_
            obtain ⟨w347, hw_, hch348, hsz349⟩ : ∃ w1 : World, w1 = w341.drew ∧ Ch [] w341 w1 ∧ w1.heap.size = w341.heap.size := ⟨_, rfl, (Ch.refl _ _).drew, rfl⟩
            rw [← hw_]; clear hw_
            have hr352 : Ch [] w341 w347 := hch348.sub (fun s hs => by cases hs)
            have hB_r := hB
            have hB8_r := hB8
            have hO326_r := hO326
            have hsz353 := hch348.size
            replace hB := hB.ch0 hch348
            replace hB8 := hB8.ch0 hch348
            replace hO326 := hO326.ch0 hch348
            replace hc := belowC hc (by omega) off0 hch348
            refine tw_free rfl (w0 rfl) rfl rfl (fun u hu => (pv_move (v := (.pointer (some (⟨g, 0, none⟩)))) rfl rfl : PV _ _ _ _) u) ?_
            refine tw_free rfl (w0 rfl) rfl rfl (fun u hu => (pv_nil rfl rfl : PV _ _ _ _) u) ?_
            refine tw_free rfl (w0 rfl) rfl rfl (fun u hu => (pv_fld F76_1 rfl rfl : PV _ _ _ _) u) ?_
            refine tw_free rfl (w0 rfl) rfl rfl (fun u hu => lv_load T23 rfl rfl ((hB_r.ch hu (by simp)).cellA (i := 2) rfl)) ?_
            refine tw_free rfl (w0 rfl) rfl rfl (fun u hu => (pv_move (v := (.int .i64 (k : Int))) rfl rfl : PV _ _ _ _) u) ?_
            refine tw_free rfl (w0 rfl) rfl rfl (fun u hu => (pv_add rfl rfl rfl (by omega) (by omega) : PV _ _ _ _) u) ?_
            refine tw_free rfl (w0 rfl) rfl rfl (fun u hu => (pv_from Try.underlying23 T39 rfl rfl rfl (by omega) (by omega) : PV _ _ _ _) u) ?_
            have hR354 : RS encB 2 w347 w347.heap.size (if c337 = (k + 1) then A336 else (A336 : Option Addr).map (·.add ((k + 1) * 2))) ((xs ++ ([⟨0, 0⟩] : List Bt)).length - (k + 1)) ((xs ++ ([⟨0, 0⟩] : List Bt)).drop (k + 1)) := ((hO326.rs (fun _ => rfl))).from (by omega) (by omega)
            refine tw_free rfl (w0 rfl) rfl rfl (fun u hu => (pv_move (v := (.pointer (some (⟨g, 0, none⟩)))) rfl rfl : PV _ _ _ _) u) ?_
            refine tw_free rfl (w0 rfl) rfl rfl (fun u hu => (pv_nil rfl rfl : PV _ _ _ _) u) ?_
            refine tw_free rfl (w0 rfl) rfl rfl (fun u hu => (pv_fld F76_1 rfl rfl : PV _ _ _ _) u) ?_
            refine tw_free rfl (w0 rfl) rfl rfl (fun u hu => lv_load T23 rfl rfl ((hB_r.ch hu (by simp)).cellA (i := 2) rfl)) ?_
            refine tw_free rfl (w0 rfl) rfl rfl (fun u hu => (pv_move (v := (.int .i64 (k : Int))) rfl rfl : PV _ _ _ _) u) ?_
            refine tw_free rfl (w0 rfl) rfl rfl (fun u hu => (pv_from Try.underlying23 T39 rfl rfl rfl (by omega) (by omega) : PV _ _ _ _) u) ?_
            have hR355 : RS encB 2 w347 w347.heap.size (if c337 = k then A336 else (A336 : Option Addr).map (·.add (k * 2))) ((xs ++ ([⟨0, 0⟩] : List Bt)).length - k) ((xs ++ ([⟨0, 0⟩] : List Bt)).drop k) := ((hO326.rs (fun _ => rfl))).from (by omega) (by omega)
            have hle359 := hO326.le
            refine tw_one rfl (op_copy (k := (k + 1)) Try.underlying23 T39 (fun _ => rfl) (by decide) (fun _ => one_all rfl) (w0 rfl) rfl rfl rfl rfl rfl hO326 hR355 (fun h => hO326.from_some h) (by omega) ?_)
            rintro w356 hO357 hch358
            have hsz360 := hch358.size
            replace hB := hB.ch hch358 (fun hs => dj_asg hdj330 _ hs rfl)
            replace hB8 := hB8.ch hch358 (fun hs => dj_asg hdj332 _ hs rfl)
            clear hR354
            clear hR355
            replace hc := belowC hc (by omega) (hO326.off.le (by omega)) hch358
            clear hr352
            clear hO326; have hO326 := hO357; clear hO357
            refine ⟨fun h => (by cases h), ?_⟩
            clear hB_r
            clear hB8_r
            clear hO326_r
            refine tw_done (hK351 _ _ ?_)
            refine hK346 _ _ ?_
            refine cw_drawn (fun u => Ch [] w356 u) (.free 0 (.free 1 (.free 2 (.free 3 (.free 4 (.free 5 (.free 6 (.one 7 false (.done))))))))) (by kernel_rfl) (by kernel_rfl) (Ch.refl _ _).drew fun K364 hK365 => ?_
            obtain ⟨w361, hw_, hch362, hsz363⟩ : ∃ w1 : World, w1 = w356.drew ∧ Ch [] w356 w1 ∧ w1.heap.size = w356.heap.size := ⟨_, rfl, (Ch.refl _ _).drew, rfl⟩
            rw [← hw_]; clear hw_
            have hr366 : Ch [] w356 w361 := hch362.sub (fun s hs => by cases hs)
            have hB_r := hB
            have hB8_r := hB8
            have hO326_r := hO326
            have hsz367 := hch362.size
            replace hB := hB.ch0 hch362
            replace hB8 := hB8.ch0 hch362
            replace hO326 := hO326.ch0 hch362
            replace hc := belowC hc (by omega) off0 hch362
            refine tw_free rfl (w0 rfl) rfl rfl (fun u hu => (pv_move (v := (.pointer (some (⟨g, 0, none⟩)))) rfl rfl : PV _ _ _ _) u) ?_
            refine tw_free rfl (w0 rfl) rfl rfl (fun u hu => (pv_nil rfl rfl : PV _ _ _ _) u) ?_
            refine tw_free rfl (w0 rfl) rfl rfl (fun u hu => (pv_fld F76_1 rfl rfl : PV _ _ _ _) u) ?_
            refine tw_free rfl (w0 rfl) rfl rfl (fun u hu => lv_load T23 rfl rfl ((hB_r.ch hu (by simp)).cellA (i := 2) rfl)) ?_
            refine tw_free rfl (w0 rfl) rfl rfl (fun u hu => (pv_move (v := (.int .i64 (k : Int))) rfl rfl : PV _ _ _ _) u) ?_
            refine tw_free rfl (w0 rfl) rfl rfl (fun u hu => lv_loadN T39 rfl rfl rfl (fun j v hv => (hB8_r.ch hu (by simp)).cellA hv)) ?_
            refine tw_free rfl (w0 rfl) rfl rfl (fun u hu => (pv_idx Try.underlying23 T39 rfl rfl rfl ((hO326.rs (fun _ => rfl)).some (k := k) (by omega)) (by omega) (by omega) : PV _ _ _ _) u) ?_
            refine tw_one rfl (op_store_ownA (k := k) (off := 0) (⟨xS, xA⟩) T39 hO326 (fun _ => rfl) (w0 rfl) rfl rfl rfl rfl rfl (one_all rfl) (by omega) (Nat.le_of_ble_eq_true rfl) rfl ?_)
            rintro w368 hO370 hch369
            have hsz371 := hch369.size
            replace hB := hB.ch hch369 (fun hs => dj_asg hdj330 _ hs rfl)
            replace hB8 := hB8.ch hch369 (fun hs => dj_asg hdj332 _ hs rfl)
            replace hc := belowC hc (by omega) (hO326.off.le (by omega)) hch369
            clear hr366
            clear hO326; have hO326 := hO370; clear hO370
            refine ⟨fun h => (by cases h), ?_⟩
            clear hB_r
            clear hB8_r
            clear hO326_r
            refine tw_done (hK365 _ _ ?_)
            refine finD0n ?_
            refine unlock_door muLib hB ?_
            intro w372 hB373 hch374
            have hsz375 := hch374.size
            replace hB8 := hB8.ch hch374 (by simp; omega)
            replace hO326 := hO326.ch hch374 (fun s hs => by have := dj_asg hdj330 s hs; simpa using this)
            replace hc := belowC hc (by omega) (off1 (by omega)) hch374
            replace hB : Blk w372 g 76 [(.int .i32 0), (.int .u32 0), (.slice A336 (xs ++ ([⟨0, 0⟩] : List Bt)).length c337)] := hB373
            clear hB373
            have hpl : IsPlace xs ⟨xS, xA⟩ k := ⟨hk, hlt, fun h9 h8 => by have h7 : (el xs k).s < xS := h8; omega⟩
            exact ⟨rfl, book_as hB hO326 ((shifted (by omega) (by omega)).trans (hearL_new xs k hpl (by intro h9; have h7 : (el xs k).s = xS := h9.2; omega)).symm) (by omega) (dj_asg hdj330), hc⟩
end Go.Proofs.Ytnkjljjcionfiaa
