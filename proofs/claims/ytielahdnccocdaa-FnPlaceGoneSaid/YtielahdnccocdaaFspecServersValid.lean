/-
  The walk of spec.ServersValid, written by program: each line names the law of one operation. Conditions: those of the theorem.
-/
import Derived.Test.YtielahdnccocdaaProg
import Derived.Test.YtielahdnccocdaaPlaces
import Derived.Test.YtielahdnccocdaaFspecl6In
import Derived.KernelRfl
namespace Go.Proofs.Ytielahdnccocdaa
open Go Go.RowKit
set_option linter.unusedVariables false
set_option linter.unusedSimpArgs false
namespace ServersValid_sF
theorem T3 : TI Try.prog 3 false (.int .i64 0) 1 8 := TI.mk' Try.underlying3 rfl (by kernel_rfl)
theorem C28 : Callable Try.prog 28 := ⟨_, Try.func28, by kernel_rfl, by kernel_rfl⟩
end ServersValid_sF
open ServersValid_sF in
set_option maxHeartbeats 4000000 in
theorem ServersValid_s (A : Option Addr) (n c : Nat) (xs : List Int) (w : World) (hR : RS encI 1 w w.heap.size A n xs) (hn : n ≤ 1099511627776) :
    Fn Try.prog 15 [(.slice A n c)] w fun v w' => v = .bool (dec (ServersOK xs)) ∧ Ch [] w w' := by
  have hlen := hR.len
  refine fn_of (n := 35) Try.func15 rfl rfl rfl rfl ?_
  have hc : Ch [] w w := Ch.refl _ _
  refine cw_seq fun K1 hK2 => ?_
  refine cw_region fun K3 hK4 => ?_
  refine rw_cons (op_pv (w0 rfl) rfl rfl (pv_assign (v := (.bool false)) rfl rfl) ?_)
  refine rw_nil (hK4 _ _ ?_)
  refine hK2 _ _ ?_
  refine cw_seq fun K5 hK6 => ?_
  refine cw_seq fun K7 hK8 => ?_
  refine cw_region fun K9 hK10 => ?_
  refine rw_cons (op_pv (w0 rfl) rfl rfl (pv_assign (v := (.int .i64 0)) rfl rfl) ?_)
  refine rw_nil (hK10 _ _ ?_)
  refine hK8 _ _ ?_
  refine cw_block ?_
  refine cw_loop (σ := Nat) (fun k => [(3, (.int .i64 (k : Int))), (0, (.slice A n c))]) (fun k W => (k ≤ n ∧ ∀ j, j < k → ((1 ≤ el xs j ∧ el xs j ≤ 99) ∧ (0 < j → el xs ((j : Int) - 1).toNat < el xs j))) ∧ RS encI 1 W w.heap.size A n xs ∧ Ch [] w W) (fun k => n - k) 0 ?_ ?_ ?_
  · exact ⟨rfl, rfl, trivial⟩
  · refine ⟨⟨Nat.zero_le _, fun j hj => by omega⟩, hR, hc⟩
  · rintro k J15 w11 ⟨⟨hk, hye⟩, hR, hc⟩ K12 hK13
    have hsz17 := hc.size
    refine cw_seq fun K18 hK19 => ?_
    refine cw_seq fun K20 hK21 => ?_
    refine cw_region fun K22 hK23 => ?_
    refine rw_cons (op_pv (w0 rfl) rfl rfl (pv_move (v := (.int .i64 (k : Int))) rfl rfl) ?_)
    refine rw_cons (op_pv (w0 rfl) rfl rfl (pv_move (v := (.slice A n c)) rfl rfl) ?_)
    refine rw_cons (op_pv (w0 rfl) rfl rfl (pv_len Try.underlying24 rfl rfl) ?_)
    refine rw_cons (op_pv (w0 rfl) rfl rfl (pv_lss rfl rfl rfl) ?_)
    refine rw_nil (hK23 _ _ ?_)
    refine hK21 _ _ ?_
    refine cw_cond rfl (fun h24 => ?_) (fun h24 => ?_)
    · -- then
      replace h24 := of_decide_eq_true h24
      refine cw_skip ?_
      refine hK19 _ _ ?_
      refine cw_seq fun K25 hK26 => ?_
      refine cw_block ?_
      refine cw_seq fun K27 hK28 => ?_
      refine cw_drawn (fun u => Ch [] w11 u) (.free 0 (.free 1 (.free 2 (.free 3 (.one 4 true (.free 5 (.free 6 (.free 7 (.free 8 (.free 9 (.free 10 (.free 11 (.free 12 (.free 13 (.free 14 (.free 15 (.free 16 (.free 17 (.free 18 (.free 19 (.free 20 (.free 21 (.done))))))))))))))))))))))) (by kernel_rfl) (by kernel_rfl) (Ch.refl _ _).drew fun K32 hK33 => ?_
      obtain ⟨w29, hw_, hch30, hsz31⟩ : ∃ w1 : World, w1 = w11.drew ∧ Ch [] w11 w1 ∧ w1.heap.size = w11.heap.size := ⟨_, rfl, (Ch.refl _ _).drew, rfl⟩
      rw [← hw_]; clear hw_
      have hr34 : Ch [] w11 w29 := hch30.sub (fun s hs => by cases hs)
      have hR_r := hR
      have hsz35 := hch30.size
      replace hR := hR.ch0 hch30
      replace hc := hc.step0 hch30
      refine tw_free rfl (w0 rfl) rfl rfl (fun u hu => (pv_move (v := (.slice A n c)) rfl rfl : PV _ _ _ _) u) ?_
      refine tw_free rfl (w0 rfl) rfl rfl (fun u hu => (pv_move (v := (.int .i64 (k : Int))) rfl rfl : PV _ _ _ _) u) ?_
      refine tw_free rfl (w0 rfl) rfl rfl (fun u hu => (pv_idx Try.underlying24 T3 rfl rfl rfl (hR.some (k := k) (by omega)) (by omega) (by omega) : PV _ _ _ _) u) ?_
      refine tw_free rfl (w0 rfl) rfl rfl (fun u hu => lv_load T3 rfl rfl ((hR_r.ch0 hu).cell0 (k := k) (by omega) rfl)) ?_
      refine tw_one rfl (op_call (w0 rfl) rfl rfl (rc_call C28 rfl rfl) (l6In_ok (el xs k) 1 99 _  ) ?_)
      rintro _ w36 ⟨rfl, hch37⟩
      have hsz38 := hch37.size
      replace hR := hR.ch0 hch37
      replace hc := hc.step0 hch37
      replace hr34 := hr34.step0 hch37
      refine ⟨fun _ => hr34, ?_⟩
      refine tw_free rfl (w0 rfl) rfl rfl (fun u hu => (pv_not rfl rfl : PV _ _ _ _) u) ?_
      refine tw_free rfl (w0 rfl) rfl rfl (fun u hu => (pv_move (v := (.bool (!(dec (1 ≤ (el xs k) ∧ (el xs k) ≤ 99))))) rfl rfl : PV _ _ _ _) u) ?_
      refine tw_split 16 rfl (fun hb39 => ?_) (fun hb39 => ?_)
      · -- yes
        replace hb39 := not_t hb39
        replace hb39 := dec_f hb39
        refine tw_pass rfl (w1n2 rfl rfl rfl rfl) rfl rfl ?_
        refine tw_pass rfl (w1n2 rfl rfl rfl rfl) rfl rfl ?_
        refine tw_pass rfl (w1n2 rfl rfl rfl rfl) rfl rfl ?_
        refine tw_pass rfl (w1u rfl rfl rfl) rfl rfl ?_
        refine tw_pass rfl (w1u rfl rfl rfl) rfl rfl ?_
        refine tw_pass rfl (w1u rfl rfl rfl) rfl rfl ?_
        refine tw_pass rfl (w1u rfl rfl rfl) rfl rfl ?_
        refine tw_pass rfl (w1u rfl rfl rfl) rfl rfl ?_
        refine tw_pass rfl (w1u rfl rfl rfl) rfl rfl ?_
        refine tw_pass rfl (w1u rfl rfl rfl) rfl rfl ?_
        refine tw_pass rfl (w1u rfl rfl rfl) rfl rfl ?_
        refine tw_pass rfl (w1u rfl rfl rfl) rfl rfl ?_
        refine tw_pass rfl (w1u rfl rfl rfl) rfl rfl ?_
        refine tw_pass rfl (w1n2 rfl rfl rfl rfl) rfl rfl ?_
        refine tw_free rfl (w0 rfl) rfl rfl (fun u hu => (pv_pickT (v := (.bool true)) rfl rfl rfl : PV _ _ _ _) u) ?_
        clear hR_r
        refine tw_done (hK33 _ _ ?_)
        refine hK28 _ _ ?_
        refine cw_cond rfl (fun h40 => ?_) (fun h40 => ?_)
        · -- then
          clear h40
          refine cw_seq fun K41 hK42 => ?_
          refine cw_region fun K43 hK44 => ?_
          refine rw_cons (op_pv (w0 rfl) rfl rfl (pv_assign (v := (.bool false)) rfl rfl) ?_)
          refine rw_nil (hK44 _ _ ?_)
          refine hK42 _ _ ?_
          refine cw_ret ?_
          refine fin1 rfl ?_
          exact ⟨bvf (fun h => by have := h.2 k (by omega); omega), hc⟩
        · -- else
          cases h40
      · -- no
        replace hb39 := not_f hb39
        replace hb39 := dec_t hb39
        refine tw_free rfl (w1y rfl rfl rfl rfl) rfl rfl (fun u hu => (pv_move (v := (.int .i64 (k : Int))) rfl rfl : PV _ _ _ _) u) ?_
        refine tw_free rfl (w1y rfl rfl rfl rfl) rfl rfl (fun u hu => (pv_gtr rfl rfl rfl : PV _ _ _ _) u) ?_
        refine tw_free rfl (w1y rfl rfl rfl rfl) rfl rfl (fun u hu => (pv_move (v := (.bool (decide (0 < (k : Int))))) rfl rfl : PV _ _ _ _) u) ?_
        refine tw_split 19 rfl (fun hb45 => ?_) (fun hb45 => ?_)
        · -- yes
          replace hb45 := of_decide_eq_true hb45
          refine tw_free rfl (w1y rfl rfl rfl rfl) rfl rfl (fun u hu => (pv_move (v := (.slice A n c)) rfl rfl : PV _ _ _ _) u) ?_
          refine tw_free rfl (w1y rfl rfl rfl rfl) rfl rfl (fun u hu => (pv_move (v := (.int .i64 (k : Int))) rfl rfl : PV _ _ _ _) u) ?_
          refine tw_free rfl (w1y rfl rfl rfl rfl) rfl rfl (fun u hu => (pv_sub rfl rfl rfl (by omega) (by omega) : PV _ _ _ _) u) ?_
          refine tw_free rfl (w1y rfl rfl rfl rfl) rfl rfl (fun u hu => (pv_idx Try.underlying24 T3 rfl rfl rfl (hR.some (k := ((k : Int) - 1).toNat) (by omega)) (by omega) (by omega) : PV _ _ _ _) u) ?_
          refine tw_free rfl (w1y rfl rfl rfl rfl) rfl rfl (fun u hu => lv_load T3 rfl rfl ((hR_r.ch0 hu).cell0 (k := ((k : Int) - 1).toNat) (by omega) rfl)) ?_
          refine tw_free rfl (w1y rfl rfl rfl rfl) rfl rfl (fun u hu => (pv_move (v := (.slice A n c)) rfl rfl : PV _ _ _ _) u) ?_
          refine tw_free rfl (w1y rfl rfl rfl rfl) rfl rfl (fun u hu => (pv_move (v := (.int .i64 (k : Int))) rfl rfl : PV _ _ _ _) u) ?_
          refine tw_free rfl (w1y rfl rfl rfl rfl) rfl rfl (fun u hu => (pv_idx Try.underlying24 T3 rfl rfl rfl (hR.some (k := k) (by omega)) (by omega) (by omega) : PV _ _ _ _) u) ?_
          refine tw_free rfl (w1y rfl rfl rfl rfl) rfl rfl (fun u hu => lv_load T3 rfl rfl ((hR_r.ch0 hu).cell0 (k := k) (by omega) rfl)) ?_
          refine tw_free rfl (w1y rfl rfl rfl rfl) rfl rfl (fun u hu => (pv_geq rfl rfl rfl : PV _ _ _ _) u) ?_
          refine tw_free rfl (w1y rfl rfl rfl rfl) rfl rfl (fun u hu => (pv_pickT (v := (.bool (decide ((el xs k) ≤ (el xs ((k : Int) - 1).toNat))))) rfl rfl rfl : PV _ _ _ _) u) ?_
          refine tw_free rfl (w0 rfl) rfl rfl (fun u hu => (pv_pickF (v := (.bool (decide ((el xs k) ≤ (el xs ((k : Int) - 1).toNat))))) rfl rfl rfl : PV _ _ _ _) u) ?_
          clear hR_r
          refine tw_done (hK33 _ _ ?_)
          refine hK28 _ _ ?_
          refine cw_cond rfl (fun h46 => ?_) (fun h46 => ?_)
          · -- then
            replace h46 := of_decide_eq_true h46
            refine cw_seq fun K47 hK48 => ?_
            refine cw_region fun K49 hK50 => ?_
            refine rw_cons (op_pv (w0 rfl) rfl rfl (pv_assign (v := (.bool false)) rfl rfl) ?_)
            refine rw_nil (hK50 _ _ ?_)
            refine hK48 _ _ ?_
            refine cw_ret ?_
            refine fin1 rfl ?_
            exact ⟨bvf (fun h => by have := h.2 k (by omega); omega), hc⟩
          · -- else
            replace h46 := of_decide_eq_false h46
            refine cw_skip ?_
            refine hK26 _ _ ?_
            refine cw_region fun K51 hK52 => ?_
            refine rw_cons (op_pv (w0 rfl) rfl rfl (pv_move (v := (.int .i64 (k : Int))) rfl rfl) ?_)
            refine rw_cons (op_pv (w0 rfl) rfl rfl (pv_add rfl rfl rfl (by omega) (by omega)) ?_)
            refine rw_cons (op_pv (w0 rfl) rfl rfl (pv_assign (v := (.int .i64 ((k : Int) + 1))) rfl rfl) ?_)
            refine rw_nil (hK52 _ _ ?_)
            refine hK13 _ _ (k + 1) ⟨(iv (by omega)), rfl, trivial⟩ ⟨?_, hR, hc⟩ ?_
            · refine ⟨by omega, fun j hj => ?_⟩
              by_cases hjk : j = k
              · subst hjk; first | omega | assumption
              · exact hye j (by omega)
            · (first | omega | (simp only []; omega))
        · -- no
          replace hb45 := of_decide_eq_false hb45
          refine tw_pass rfl (w1n1 rfl rfl rfl rfl) rfl rfl ?_
          refine tw_pass rfl (w1n1 rfl rfl rfl rfl) rfl rfl ?_
          refine tw_pass rfl (w1n1 rfl rfl rfl rfl) rfl rfl ?_
          refine tw_pass rfl (w1n1 rfl rfl rfl rfl) rfl rfl ?_
          refine tw_pass rfl (w1n1 rfl rfl rfl rfl) rfl rfl ?_
          refine tw_pass rfl (w1n1 rfl rfl rfl rfl) rfl rfl ?_
          refine tw_pass rfl (w1n1 rfl rfl rfl rfl) rfl rfl ?_
          refine tw_pass rfl (w1n1 rfl rfl rfl rfl) rfl rfl ?_
          refine tw_pass rfl (w1n1 rfl rfl rfl rfl) rfl rfl ?_
          refine tw_pass rfl (w1n1 rfl rfl rfl rfl) rfl rfl ?_
          refine tw_free rfl (w1y rfl rfl rfl rfl) rfl rfl (fun u hu => (pv_pickF (v := (.bool false)) rfl rfl rfl : PV _ _ _ _) u) ?_
          refine tw_free rfl (w0 rfl) rfl rfl (fun u hu => (pv_pickF (v := (.bool false)) rfl rfl rfl : PV _ _ _ _) u) ?_
          clear hR_r
          refine tw_done (hK33 _ _ ?_)
          refine hK28 _ _ ?_
          refine cw_cond rfl (fun h53 => ?_) (fun h53 => ?_)
          · -- then
            cases h53
          · -- else
            clear h53
            refine cw_skip ?_
            refine hK26 _ _ ?_
            refine cw_region fun K54 hK55 => ?_
            refine rw_cons (op_pv (w0 rfl) rfl rfl (pv_move (v := (.int .i64 (k : Int))) rfl rfl) ?_)
            refine rw_cons (op_pv (w0 rfl) rfl rfl (pv_add rfl rfl rfl (by omega) (by omega)) ?_)
            refine rw_cons (op_pv (w0 rfl) rfl rfl (pv_assign (v := (.int .i64 ((k : Int) + 1))) rfl rfl) ?_)
            refine rw_nil (hK55 _ _ ?_)
            refine hK13 _ _ (k + 1) ⟨(iv (by omega)), rfl, trivial⟩ ⟨?_, hR, hc⟩ ?_
            · refine ⟨by omega, fun j hj => ?_⟩
              by_cases hjk : j = k
              · subst hjk; first | omega | assumption
              · exact hye j (by omega)
            · (first | omega | (simp only []; omega))
    · -- else
      replace h24 := of_decide_eq_false h24
      refine cw_exit ?_
      refine hK6 _ _ ?_
      refine cw_seq fun K56 hK57 => ?_
      refine cw_region fun K58 hK59 => ?_
      refine rw_cons (op_pv (w0 rfl) rfl rfl (pv_move (v := (.slice A n c)) rfl rfl) ?_)
      refine rw_cons (op_pv (w0 rfl) rfl rfl (pv_len Try.underlying24 rfl rfl) ?_)
      refine rw_cons (op_pv (w0 rfl) rfl rfl (pv_leq rfl rfl rfl) ?_)
      refine rw_cons (op_pv (w0 rfl) rfl rfl (pv_assign (v := (.bool (decide ((n : Int) ≤ 8)))) rfl rfl) ?_)
      refine rw_nil (hK59 _ _ ?_)
      refine hK57 _ _ ?_
      refine cw_ret ?_
      refine fin1 rfl ?_
      exact ⟨bv (dec_dec ⟨fun h => ⟨by omega, fun j hj => hye j (by omega)⟩, fun h => by have := h.1; omega⟩), hc⟩
end Go.Proofs.Ytielahdnccocdaa
