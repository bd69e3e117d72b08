/-
  The walk of spec.BeatsValid, written by program: each line names the law of one operation. Conditions: those of the theorem.
-/
import Derived.Test.YtnkjljjcionfiaaProg
import Derived.Test.YtnkjljjcionfiaaBeats
import Derived.Test.YtnkjljjcionfiaaFspecl6In
import Derived.KernelRfl
namespace Go.Proofs.Ytnkjljjcionfiaa
open Go Go.RowKit
set_option linter.unusedVariables false
set_option linter.unusedSimpArgs false
namespace BeatsValid_sF
theorem T3 : TI Try.prog 3 false (.int .i64 0) 1 8 := TI.mk' Try.underlying3 rfl (by kernel_rfl)
theorem T39 : TI Try.prog 39 true (.agg #[.int .i64 0, .int .i64 0]) 2 16 := TI.mk' Try.underlying39 rfl (by kernel_rfl)
theorem F39_0 : FldOK Try.prog 39 0 0 := ⟨_, _, 0, Try.underlying39, rfl, rfl, by kernel_rfl⟩
theorem F39_1 : FldOK Try.prog 39 1 1 := ⟨_, _, 0, Try.underlying39, rfl, rfl, by kernel_rfl⟩
theorem C43 : Callable Try.prog 43 := ⟨_, Try.func43, by kernel_rfl, by kernel_rfl⟩
end BeatsValid_sF
open BeatsValid_sF in
set_option maxHeartbeats 4000000 in
theorem BeatsValid_s (A : Option Addr) (n c : Nat) (xs : List Bt) (w : World) (hR : RS encB 2 w w.heap.size A n xs) (hn : n ≤ 1099511627776) :
    Fn Try.prog 18 [(.slice A n c)] w fun v w' => v = .bool (dec (BeatsOK xs)) ∧ Ch [] w w' := by
  have hlen := hR.len
  refine fn_of (n := 47) Try.func18 rfl rfl rfl rfl ?_
  have hc : Ch [] w w := Ch.refl _ _
  refine cw_seq fun K1 hK2 => ?_
  refine cw_region fun K3 hK4 => ?_
  refine rw_cons (op_pv (w0 rfl) rfl rfl (pv_assign (v := (.bool false)) rfl rfl) ?_)
  refine rw_nil (hK4 _ _ ?_)
  refine hK2 _ _ ?_
  refine cw_seq fun K5 hK6 => ?_
  refine cw_seq fun K7 hK8 => ?_
  refine cw_region fun K9 hK10 => ?_
  refine rw_cons (op_pv (w0 rfl) rfl rfl (pv_assign (v := (.int .i64 0)) rfl rfl) ?_)
  refine rw_nil (hK10 _ _ ?_)
  refine hK8 _ _ ?_
  refine cw_block ?_
  refine cw_loop (σ := Nat) (fun k => [(3, (.int .i64 (k : Int))), (0, (.slice A n c))]) (fun k W => (k ≤ n ∧ ∀ j, j < k → (((1 ≤ (el xs j).s ∧ (el xs j).s ≤ 99) ∧ (0 ≤ (el xs j).a ∧ (el xs j).a ≤ 9999)) ∧ (0 < j → (el xs ((j : Int) - 1).toNat).s < (el xs j).s))) ∧ RS encB 2 W w.heap.size A n xs ∧ Ch [] w W) (fun k => n - k) 0 ?_ ?_ ?_
  · exact ⟨rfl, rfl, trivial⟩
  · refine ⟨⟨Nat.zero_le _, fun j hj => by omega⟩, hR, hc⟩
  · rintro k J15 w11 ⟨⟨hk, hye⟩, hR, hc⟩ K12 hK13
    have hsz17 := hc.size
    refine cw_seq fun K18 hK19 => ?_
    refine cw_seq fun K20 hK21 => ?_
    refine cw_region fun K22 hK23 => ?_
    refine rw_cons (op_pv (w0 rfl) rfl rfl (pv_move (v := (.int .i64 (k : Int))) rfl rfl) ?_)
    refine rw_cons (op_pv (w0 rfl) rfl rfl (pv_move (v := (.slice A n c)) rfl rfl) ?_)
    refine rw_cons (op_pv (w0 rfl) rfl rfl (pv_len Try.underlying23 rfl rfl) ?_)
    refine rw_cons (op_pv (w0 rfl) rfl rfl (pv_lss rfl rfl rfl) ?_)
    refine rw_nil (hK23 _ _ ?_)
    refine hK21 _ _ ?_
    refine cw_cond rfl (fun h24 => ?_) (fun h24 => ?_)
    · -- then
      replace h24 := of_decide_eq_true h24
      refine cw_skip ?_
      refine hK19 _ _ ?_
      refine cw_seq fun K25 hK26 => ?_
      refine cw_block ?_
      refine cw_seq fun K27 hK28 => ?_
      refine cw_drawn (fun u => Ch [] w11 u) (.free 0 (.free 1 (.free 2 (.free 3 (.free 4 (.one 5 true (.free 6 (.free 7 (.free 8 (.free 9 (.free 10 (.free 11 (.free 12 (.one 13 true (.free 14 (.free 15 (.free 16 (.free 17 (.free 18 (.free 19 (.free 20 (.free 21 (.free 22 (.free 23 (.free 24 (.free 25 (.free 26 (.free 27 (.free 28 (.free 29 (.free 30 (.free 31 (.free 32 (.free 33 (.done))))))))))))))))))))))))))))))))))) (by kernel_rfl) (by kernel_rfl) (Ch.refl _ _).drew fun K32 hK33 => ?_
      obtain ⟨w29, hw_, hch30, hsz31⟩ : ∃ w1 : World, w1 = w11.drew ∧ Ch [] w11 w1 ∧ w1.heap.size = w11.heap.size := ⟨_, rfl, (Ch.refl _ _).drew, rfl⟩
      rw [← hw_]; clear hw_
      have hr34 : Ch [] w11 w29 := hch30.sub (fun s hs => by cases hs)
      have hR_r := hR
      have hsz35 := hch30.size
      replace hR := hR.ch0 hch30
      replace hc := hc.step0 hch30
      refine tw_free rfl (w0 rfl) rfl rfl (fun u hu => (pv_move (v := (.slice A n c)) rfl rfl : PV _ _ _ _) u) ?_
      refine tw_free rfl (w0 rfl) rfl rfl (fun u hu => (pv_move (v := (.int .i64 (k : Int))) rfl rfl : PV _ _ _ _) u) ?_
      refine tw_free rfl (w0 rfl) rfl rfl (fun u hu => (pv_idx Try.underlying23 T39 rfl rfl rfl (hR.some (k := k) (by omega)) (by omega) (by omega) : PV _ _ _ _) u) ?_
      refine tw_free rfl (w0 rfl) rfl rfl (fun u hu => (pv_fld F39_0 rfl rfl : PV _ _ _ _) u) ?_
      refine tw_free rfl (w0 rfl) rfl rfl (fun u hu => lv_load T3 rfl rfl ((hR_r.ch0 hu).cellE (k := k) (j := 0) (by omega) rfl)) ?_
      refine tw_one rfl (op_call (w0 rfl) rfl rfl (rc_call C43 rfl rfl) (l6In_ok (el xs k).s 1 99 _  ) ?_)
      rintro _ w36 ⟨rfl, hch37⟩
      have hsz38 := hch37.size
      replace hR := hR.ch0 hch37
      replace hc := hc.step0 hch37
      replace hr34 := hr34.step0 hch37
      refine ⟨fun _ => hr34, ?_⟩
      refine tw_free rfl (w0 rfl) rfl rfl (fun u hu => (pv_not rfl rfl : PV _ _ _ _) u) ?_
      refine tw_free rfl (w0 rfl) rfl rfl (fun u hu => (pv_move (v := (.bool (!(dec (1 ≤ (el xs k).s ∧ (el xs k).s ≤ 99))))) rfl rfl : PV _ _ _ _) u) ?_
      refine tw_split 17 rfl (fun hb39 => ?_) (fun hb39 => ?_)
      · -- yes
        replace hb39 := not_t hb39
        replace hb39 := dec_f hb39
        refine tw_pass rfl (w1n2 rfl rfl rfl rfl) rfl rfl ?_
        refine tw_pass rfl (w1n2 rfl rfl rfl rfl) rfl rfl ?_
        refine tw_pass rfl (w1n2 rfl rfl rfl rfl) rfl rfl ?_
        refine tw_pass rfl (w1n2 rfl rfl rfl rfl) rfl rfl ?_
        refine tw_pass rfl (w1n2 rfl rfl rfl rfl) rfl rfl ?_
        refine tw_one rfl (op_pass (w1n2 rfl rfl rfl rfl) rfl rfl ?_)
        refine ⟨fun _ => hr34, ?_⟩
        refine tw_pass rfl (w1n2 rfl rfl rfl rfl) rfl rfl ?_
        refine tw_free rfl (w0 rfl) rfl rfl (fun u hu => (pv_pickT (v := (.bool true)) rfl rfl rfl : PV _ _ _ _) u) ?_
        refine tw_free rfl (w0 rfl) rfl rfl (fun u hu => (pv_move (v := (.bool true)) rfl rfl : PV _ _ _ _) u) ?_
        refine tw_pass rfl (w1n2 rfl rfl rfl rfl) rfl rfl ?_
        refine tw_pass rfl (w1n2 rfl rfl rfl rfl) rfl rfl ?_
        refine tw_pass rfl (w1n2 rfl rfl rfl rfl) rfl rfl ?_
        refine tw_pass rfl (w1u rfl rfl rfl) rfl rfl ?_
        refine tw_pass rfl (w1u rfl rfl rfl) rfl rfl ?_
        refine tw_pass rfl (w1u rfl rfl rfl) rfl rfl ?_
        refine tw_pass rfl (w1u rfl rfl rfl) rfl rfl ?_
        refine tw_pass rfl (w1u rfl rfl rfl) rfl rfl ?_
        refine tw_pass rfl (w1u rfl rfl rfl) rfl rfl ?_
        refine tw_pass rfl (w1u rfl rfl rfl) rfl rfl ?_
        refine tw_pass rfl (w1u rfl rfl rfl) rfl rfl ?_
        refine tw_pass rfl (w1u rfl rfl rfl) rfl rfl ?_
        refine tw_pass rfl (w1u rfl rfl rfl) rfl rfl ?_
        refine tw_pass rfl (w1u rfl rfl rfl) rfl rfl ?_
        refine tw_pass rfl (w1u rfl rfl rfl) rfl rfl ?_
        refine tw_pass rfl (w1n2 rfl rfl rfl rfl) rfl rfl ?_
        refine tw_free rfl (w0 rfl) rfl rfl (fun u hu => (pv_pickT (v := (.bool true)) rfl rfl rfl : PV _ _ _ _) u) ?_
        clear hR_r
        refine tw_done (hK33 _ _ ?_)
        refine hK28 _ _ ?_
        refine cw_cond rfl (fun h40 => ?_) (fun h40 => ?_)
        · -- then
          clear h40
          refine cw_seq fun K41 hK42 => ?_
          refine cw_region fun K43 hK44 => ?_
          refine rw_cons (op_pv (w0 rfl) rfl rfl (pv_assign (v := (.bool false)) rfl rfl) ?_)
          refine rw_nil (hK44 _ _ ?_)
          refine hK42 _ _ ?_
          refine cw_ret ?_
          refine fin1 rfl ?_
          exact ⟨bvf (fun h => by have := h.2 k (by omega); omega), hc⟩
        · -- else
          cases h40
      · -- no
        replace hb39 := not_f hb39
        replace hb39 := dec_t hb39
        refine tw_free rfl (w1y rfl rfl rfl rfl) rfl rfl (fun u hu => (pv_move (v := (.slice A n c)) rfl rfl : PV _ _ _ _) u) ?_
        refine tw_free rfl (w1y rfl rfl rfl rfl) rfl rfl (fun u hu => (pv_move (v := (.int .i64 (k : Int))) rfl rfl : PV _ _ _ _) u) ?_
        refine tw_free rfl (w1y rfl rfl rfl rfl) rfl rfl (fun u hu => (pv_idx Try.underlying23 T39 rfl rfl rfl (hR.some (k := k) (by omega)) (by omega) (by omega) : PV _ _ _ _) u) ?_
        refine tw_free rfl (w1y rfl rfl rfl rfl) rfl rfl (fun u hu => (pv_fld F39_1 rfl rfl : PV _ _ _ _) u) ?_
        refine tw_free rfl (w1y rfl rfl rfl rfl) rfl rfl (fun u hu => lv_load T3 rfl rfl ((hR_r.ch0 hu).cellE (k := k) (j := 1) (by omega) rfl)) ?_
        refine tw_one rfl (op_call (w1y rfl rfl rfl rfl) rfl rfl (rc_call C43 rfl rfl) (l6In_ok (el xs k).a 0 9999 _  ) ?_)
        rintro _ w45 ⟨rfl, hch46⟩
        have hsz47 := hch46.size
        replace hR := hR.ch0 hch46
        replace hc := hc.step0 hch46
        replace hr34 := hr34.step0 hch46
        refine ⟨fun _ => hr34, ?_⟩
        refine tw_free rfl (w1y rfl rfl rfl rfl) rfl rfl (fun u hu => (pv_not rfl rfl : PV _ _ _ _) u) ?_
        refine tw_free rfl (w0 rfl) rfl rfl (fun u hu => (pv_pickF (v := (.bool (!(dec (0 ≤ (el xs k).a ∧ (el xs k).a ≤ 9999))))) rfl rfl rfl : PV _ _ _ _) u) ?_
        refine tw_free rfl (w0 rfl) rfl rfl (fun u hu => (pv_move (v := (.bool (!(dec (0 ≤ (el xs k).a ∧ (el xs k).a ≤ 9999))))) rfl rfl : PV _ _ _ _) u) ?_
        refine tw_split 26 rfl (fun hb48 => ?_) (fun hb48 => ?_)
        · -- yes
          replace hb48 := not_t hb48
          replace hb48 := dec_f hb48
          refine tw_pass rfl (w1n2 rfl rfl rfl rfl) rfl rfl ?_
          refine tw_pass rfl (w1n2 rfl rfl rfl rfl) rfl rfl ?_
          refine tw_pass rfl (w1n2 rfl rfl rfl rfl) rfl rfl ?_
          refine tw_pass rfl (w1u rfl rfl rfl) rfl rfl ?_
          refine tw_pass rfl (w1u rfl rfl rfl) rfl rfl ?_
          refine tw_pass rfl (w1u rfl rfl rfl) rfl rfl ?_
          refine tw_pass rfl (w1u rfl rfl rfl) rfl rfl ?_
          refine tw_pass rfl (w1u rfl rfl rfl) rfl rfl ?_
          refine tw_pass rfl (w1u rfl rfl rfl) rfl rfl ?_
          refine tw_pass rfl (w1u rfl rfl rfl) rfl rfl ?_
          refine tw_pass rfl (w1u rfl rfl rfl) rfl rfl ?_
          refine tw_pass rfl (w1u rfl rfl rfl) rfl rfl ?_
          refine tw_pass rfl (w1u rfl rfl rfl) rfl rfl ?_
          refine tw_pass rfl (w1u rfl rfl rfl) rfl rfl ?_
          refine tw_pass rfl (w1u rfl rfl rfl) rfl rfl ?_
          refine tw_pass rfl (w1n2 rfl rfl rfl rfl) rfl rfl ?_
          refine tw_free rfl (w0 rfl) rfl rfl (fun u hu => (pv_pickT (v := (.bool true)) rfl rfl rfl : PV _ _ _ _) u) ?_
          clear hR_r
          refine tw_done (hK33 _ _ ?_)
          refine hK28 _ _ ?_
          refine cw_cond rfl (fun h49 => ?_) (fun h49 => ?_)
          · -- then
            clear h49
            refine cw_seq fun K50 hK51 => ?_
            refine cw_region fun K52 hK53 => ?_
            refine rw_cons (op_pv (w0 rfl) rfl rfl (pv_assign (v := (.bool false)) rfl rfl) ?_)
            refine rw_nil (hK53 _ _ ?_)
            refine hK51 _ _ ?_
            refine cw_ret ?_
            refine fin1 rfl ?_
            exact ⟨bvf (fun h => by have := h.2 k (by omega); omega), hc⟩
          · -- else
            cases h49
        · -- no
          replace hb48 := not_f hb48
          replace hb48 := dec_t hb48
          refine tw_free rfl (w1y rfl rfl rfl rfl) rfl rfl (fun u hu => (pv_move (v := (.int .i64 (k : Int))) rfl rfl : PV _ _ _ _) u) ?_
          refine tw_free rfl (w1y rfl rfl rfl rfl) rfl rfl (fun u hu => (pv_gtr rfl rfl rfl : PV _ _ _ _) u) ?_
          refine tw_free rfl (w1y rfl rfl rfl rfl) rfl rfl (fun u hu => (pv_move (v := (.bool (decide (0 < (k : Int))))) rfl rfl : PV _ _ _ _) u) ?_
          refine tw_split 29 rfl (fun hb54 => ?_) (fun hb54 => ?_)
          · -- yes
            replace hb54 := of_decide_eq_true hb54
            refine tw_free rfl (w1y rfl rfl rfl rfl) rfl rfl (fun u hu => (pv_move (v := (.slice A n c)) rfl rfl : PV _ _ _ _) u) ?_
            refine tw_free rfl (w1y rfl rfl rfl rfl) rfl rfl (fun u hu => (pv_move (v := (.int .i64 (k : Int))) rfl rfl : PV _ _ _ _) u) ?_
            refine tw_free rfl (w1y rfl rfl rfl rfl) rfl rfl (fun u hu => (pv_sub rfl rfl rfl (by omega) (by omega) : PV _ _ _ _) u) ?_
            refine tw_free rfl (w1y rfl rfl rfl rfl) rfl rfl (fun u hu => (pv_idx Try.underlying23 T39 rfl rfl rfl (hR.some (k := ((k : Int) - 1).toNat) (by omega)) (by omega) (by omega) : PV _ _ _ _) u) ?_
            refine tw_free rfl (w1y rfl rfl rfl rfl) rfl rfl (fun u hu => (pv_fld F39_0 rfl rfl : PV _ _ _ _) u) ?_
            refine tw_free rfl (w1y rfl rfl rfl rfl) rfl rfl (fun u hu => lv_load T3 rfl rfl ((hR_r.ch0 hu).cellE (k := ((k : Int) - 1).toNat) (j := 0) (by omega) rfl)) ?_
            refine tw_free rfl (w1y rfl rfl rfl rfl) rfl rfl (fun u hu => (pv_move (v := (.slice A n c)) rfl rfl : PV _ _ _ _) u) ?_
            refine tw_free rfl (w1y rfl rfl rfl rfl) rfl rfl (fun u hu => (pv_move (v := (.int .i64 (k : Int))) rfl rfl : PV _ _ _ _) u) ?_
            refine tw_free rfl (w1y rfl rfl rfl rfl) rfl rfl (fun u hu => (pv_idx Try.underlying23 T39 rfl rfl rfl (hR.some (k := k) (by omega)) (by omega) (by omega) : PV _ _ _ _) u) ?_
            refine tw_free rfl (w1y rfl rfl rfl rfl) rfl rfl (fun u hu => (pv_fld F39_0 rfl rfl : PV _ _ _ _) u) ?_
            refine tw_free rfl (w1y rfl rfl rfl rfl) rfl rfl (fun u hu => lv_load T3 rfl rfl ((hR_r.ch0 hu).cellE (k := k) (j := 0) (by omega) rfl)) ?_
            refine tw_free rfl (w1y rfl rfl rfl rfl) rfl rfl (fun u hu => (pv_geq rfl rfl rfl : PV _ _ _ _) u) ?_
            refine tw_free rfl (w1y rfl rfl rfl rfl) rfl rfl (fun u hu => (pv_pickT (v := (.bool (decide ((el xs k).s ≤ (el xs ((k : Int) - 1).toNat).s)))) rfl rfl rfl : PV _ _ _ _) u) ?_
            refine tw_free rfl (w0 rfl) rfl rfl (fun u hu => (pv_pickF (v := (.bool (decide ((el xs k).s ≤ (el xs ((k : Int) - 1).toNat).s)))) rfl rfl rfl : PV _ _ _ _) u) ?_
            clear hR_r
            refine tw_done (hK33 _ _ ?_)
            refine hK28 _ _ ?_
            refine cw_cond rfl (fun h55 => ?_) (fun h55 => ?_)
            · -- then
              replace h55 := of_decide_eq_true h55
              refine cw_seq fun K56 hK57 => ?_
              refine cw_region fun K58 hK59 => ?_
              refine rw_cons (op_pv (w0 rfl) rfl rfl (pv_assign (v := (.bool false)) rfl rfl) ?_)
              refine rw_nil (hK59 _ _ ?_)
              refine hK57 _ _ ?_
              refine cw_ret ?_
              refine fin1 rfl ?_
              exact ⟨bvf (fun h => by have := h.2 k (by omega); omega), hc⟩
            · -- else
              replace h55 := of_decide_eq_false h55
              refine cw_skip ?_
              refine hK26 _ _ ?_
              refine cw_region fun K60 hK61 => ?_
              refine rw_cons (op_pv (w0 rfl) rfl rfl (pv_move (v := (.int .i64 (k : Int))) rfl rfl) ?_)
              refine rw_cons (op_pv (w0 rfl) rfl rfl (pv_add rfl rfl rfl (by omega) (by omega)) ?_)
              refine rw_cons (op_pv (w0 rfl) rfl rfl (pv_assign (v := (.int .i64 ((k : Int) + 1))) rfl rfl) ?_)
              refine rw_nil (hK61 _ _ ?_)
              refine hK13 _ _ (k + 1) ⟨(iv (by omega)), rfl, trivial⟩ ⟨?_, hR, hc⟩ ?_
              · refine ⟨by omega, fun j hj => ?_⟩
                by_cases hjk : j = k
                · subst hjk; first | omega | assumption
                · exact hye j (by omega)
              · (first | omega | (simp only []; omega))
          · -- no
            replace hb54 := of_decide_eq_false hb54
            refine tw_pass rfl (w1n1 rfl rfl rfl rfl) rfl rfl ?_
            refine tw_pass rfl (w1n1 rfl rfl rfl rfl) rfl rfl ?_
            refine tw_pass rfl (w1n1 rfl rfl rfl rfl) rfl rfl ?_
            refine tw_pass rfl (w1n1 rfl rfl rfl rfl) rfl rfl ?_
            refine tw_pass rfl (w1n1 rfl rfl rfl rfl) rfl rfl ?_
            refine tw_pass rfl (w1n1 rfl rfl rfl rfl) rfl rfl ?_
            refine tw_pass rfl (w1n1 rfl rfl rfl rfl) rfl rfl ?_
            refine tw_pass rfl (w1n1 rfl rfl rfl rfl) rfl rfl ?_
            refine tw_pass rfl (w1n1 rfl rfl rfl rfl) rfl rfl ?_
            refine tw_pass rfl (w1n1 rfl rfl rfl rfl) rfl rfl ?_
            refine tw_pass rfl (w1n1 rfl rfl rfl rfl) rfl rfl ?_
            refine tw_pass rfl (w1n1 rfl rfl rfl rfl) rfl rfl ?_
            refine tw_free rfl (w1y rfl rfl rfl rfl) rfl rfl (fun u hu => (pv_pickF (v := (.bool false)) rfl rfl rfl : PV _ _ _ _) u) ?_
            refine tw_free rfl (w0 rfl) rfl rfl (fun u hu => (pv_pickF (v := (.bool false)) rfl rfl rfl : PV _ _ _ _) u) ?_
            clear hR_r
            refine tw_done (hK33 _ _ ?_)
            refine hK28 _ _ ?_
            refine cw_cond rfl (fun h62 => ?_) (fun h62 => ?_)
            · -- then
              cases h62
            · -- else
              clear h62
              refine cw_skip ?_
              refine hK26 _ _ ?_
              refine cw_region fun K63 hK64 => ?_
              refine rw_cons (op_pv (w0 rfl) rfl rfl (pv_move (v := (.int .i64 (k : Int))) rfl rfl) ?_)
              refine rw_cons (op_pv (w0 rfl) rfl rfl (pv_add rfl rfl rfl (by omega) (by omega)) ?_)
              refine rw_cons (op_pv (w0 rfl) rfl rfl (pv_assign (v := (.int .i64 ((k : Int) + 1))) rfl rfl) ?_)
              refine rw_nil (hK64 _ _ ?_)
              refine hK13 _ _ (k + 1) ⟨(iv (by omega)), rfl, trivial⟩ ⟨?_, hR, hc⟩ ?_
              · refine ⟨by omega, fun j hj => ?_⟩
                by_cases hjk : j = k
                · subst hjk; first | omega | assumption
                · exact hye j (by omega)
              · (first | omega | (simp only []; omega))
    · -- else
      replace h24 := of_decide_eq_false h24
      refine cw_exit ?_
      refine hK6 _ _ ?_
      refine cw_seq fun K65 hK66 => ?_
      refine cw_region fun K67 hK68 => ?_
      refine rw_cons (op_pv (w0 rfl) rfl rfl (pv_move (v := (.slice A n c)) rfl rfl) ?_)
      refine rw_cons (op_pv (w0 rfl) rfl rfl (pv_len Try.underlying23 rfl rfl) ?_)
      refine rw_cons (op_pv (w0 rfl) rfl rfl (pv_leq rfl rfl rfl) ?_)
      refine rw_cons (op_pv (w0 rfl) rfl rfl (pv_assign (v := (.bool (decide ((n : Int) ≤ 8)))) rfl rfl) ?_)
      refine rw_nil (hK68 _ _ ?_)
      refine hK66 _ _ ?_
      refine cw_ret ?_
      refine fin1 rfl ?_
      exact ⟨bv (dec_dec ⟨fun h => ⟨by omega, fun j hj => hye j (by omega)⟩, fun h => by have := h.1; omega⟩), hc⟩
end Go.Proofs.Ytnkjljjcionfiaa
