/-
  The walk of impl.BeatsValid, written by program: each line names the law of one operation. Conditions: those of the theorem.
-/
import Derived.Test.YtnkjljjcionfiaaProg
import Derived.Test.YtnkjljjcionfiaaBeats
import Derived.Test.YtnkjljjcionfiaaFimplbeatValid
import Derived.KernelRfl
namespace Go.Proofs.Ytnkjljjcionfiaa
open Go Go.RowKit
set_option linter.unusedVariables false
set_option linter.unusedSimpArgs false
namespace BeatsValid_iF
theorem T3 : TI Try.prog 3 false (.int .i64 0) 1 8 := TI.mk' Try.underlying3 rfl (by kernel_rfl)
theorem T39 : TI Try.prog 39 true (.agg #[.int .i64 0, .int .i64 0]) 2 16 := TI.mk' Try.underlying39 rfl (by kernel_rfl)
theorem F39_0 : FldOK Try.prog 39 0 0 := ⟨_, _, 0, Try.underlying39, rfl, rfl, by kernel_rfl⟩
theorem C42 : Callable Try.prog 42 := ⟨_, Try.func42, by kernel_rfl, by kernel_rfl⟩
end BeatsValid_iF
open BeatsValid_iF in
set_option maxHeartbeats 4000000 in
theorem BeatsValid_i (A : Option Addr) (n c : Nat) (xs : List Bt) (w : World) (hR : RS encB 2 w w.heap.size A n xs) (hn : n ≤ 1099511627776) :
    Fn Try.prog 17 [(.slice A n c)] w fun v w' => v = .bool (dec (BeatsOK xs)) ∧ Ch [] w w' := by
  have hlen := hR.len
  refine fn_of (n := 34) Try.func17 rfl rfl rfl rfl ?_
  have hc : Ch [] w w := Ch.refl _ _
  refine cw_seq fun K1 hK2 => ?_
  refine cw_region fun K3 hK4 => ?_
  refine rw_cons (op_pv (w0 rfl) rfl rfl (pv_assign (v := (.bool false)) rfl rfl) ?_)
  refine rw_nil (hK4 _ _ ?_)
  refine hK2 _ _ ?_
  refine cw_seq fun K5 hK6 => ?_
  refine cw_seq fun K7 hK8 => ?_
  refine cw_region fun K9 hK10 => ?_
  refine rw_cons (op_pv (w0 rfl) rfl rfl (pv_move (v := (.slice A n c)) rfl rfl) ?_)
  refine rw_cons (op_pv (w0 rfl) rfl rfl (pv_len Try.underlying23 rfl rfl) ?_)
  refine rw_cons (op_pv (w0 rfl) rfl rfl (pv_gtr rfl rfl rfl) ?_)
  refine rw_nil (hK10 _ _ ?_)
  refine hK8 _ _ ?_
  refine cw_cond rfl (fun h11 => ?_) (fun h11 => ?_)
  · -- then
    replace h11 := of_decide_eq_true h11
    refine cw_seq fun K12 hK13 => ?_
    refine cw_region fun K14 hK15 => ?_
    refine rw_cons (op_pv (w0 rfl) rfl rfl (pv_assign (v := (.bool false)) rfl rfl) ?_)
    refine rw_nil (hK15 _ _ ?_)
    refine hK13 _ _ ?_
    refine cw_ret ?_
    refine fin1 rfl ?_
    exact ⟨bvf (fun h => by have := h.1; omega), hc⟩
  · -- else
    replace h11 := of_decide_eq_false h11
    refine cw_skip ?_
    refine hK6 _ _ ?_
    refine cw_seq fun K16 hK17 => ?_
    refine cw_seq fun K18 hK19 => ?_
    refine cw_region fun K20 hK21 => ?_
    refine rw_cons (op_pv (w0 rfl) rfl rfl (pv_move (v := (.slice A n c)) rfl rfl) ?_)
    refine rw_cons (op_pv (w0 rfl) rfl rfl (pv_len Try.underlying23 rfl rfl) ?_)
    refine rw_cons (op_pv (w0 rfl) rfl rfl (pv_move (v := (.int .i64 0)) rfl rfl) ?_)
    refine rw_nil (hK21 _ _ ?_)
    refine hK19 _ _ ?_
    refine cw_block ?_
    refine cw_loop (σ := Nat) (fun k => [(10, (.int .i64 (k : Int))), (0, (.slice A n c)), (8, (.slice A n c)), (9, (.int .i64 (n : Int)))]) (fun k W => (k ≤ n ∧ ∀ j, j < k → (((1 ≤ (el xs j).s ∧ (el xs j).s ≤ 99) ∧ (0 ≤ (el xs j).a ∧ (el xs j).a ≤ 9999)) ∧ (0 < j → (el xs ((j : Int) - 1).toNat).s < (el xs j).s))) ∧ RS encB 2 W w.heap.size A n xs ∧ Ch [] w W) (fun k => n - k) 0 ?_ ?_ ?_
    · exact ⟨rfl, rfl, rfl, rfl, trivial⟩
    · refine ⟨⟨Nat.zero_le _, fun j hj => by omega⟩, hR, hc⟩
    · rintro k J26 w22 ⟨⟨hk, hye⟩, hR, hc⟩ K23 hK24
      have hsz28 := hc.size
      refine cw_seq fun K29 hK30 => ?_
      refine cw_region fun K31 hK32 => ?_
      refine rw_cons (op_pv (w0 rfl) rfl rfl (pv_lss rfl rfl rfl) ?_)
      refine rw_nil (hK32 _ _ ?_)
      refine hK30 _ _ ?_
      refine cw_seq fun K33 hK34 => ?_
      refine cw_cond rfl (fun h35 => ?_) (fun h35 => ?_)
      · -- then
        replace h35 := of_decide_eq_true h35
        refine cw_skip ?_
        refine hK34 _ _ ?_
        refine cw_seq fun K36 hK37 => ?_
        refine cw_block ?_
        refine cw_seq fun K38 hK39 => ?_
        refine cw_region fun K40 hK41 => ?_
        refine rw_cons (op_pv (w0 rfl) rfl rfl (pv_move (v := (.int .i64 (k : Int))) rfl rfl) ?_)
        refine rw_cons (op_pv (w0 rfl) rfl rfl (pv_idx Try.underlying23 T39 rfl rfl rfl (hR.some (k := k) (by omega)) (by omega) (by omega)) ?_)
        refine rw_cons (op_lv (w0 rfl) rfl rfl (lv_loadN T39 rfl rfl rfl (fun j v hv => hR.cellE (k := k) (by omega) hv)) ?_)
        refine rw_cons (op_alloc T39 (w0 rfl) rfl rfl rfl ?_)
        rintro g43 w42 hg46 hg47 hB45 hch44
        have hsz48 := hch44.size
        replace hR := hR.ch0 hch44
        replace hc := hc.step0 hch44
        replace hB45 : Blk w42 g43 39 [(.int .i64 0), (.int .i64 0)] := hB45
        refine rw_cons (op_pv (w0 rfl) rfl rfl (pv_assign (v := (.int .i64 (k : Int))) rfl rfl) ?_)
        refine rw_cons (op_store_blk T39 hB45 (w0 rfl) rfl rfl rfl rfl rfl (one_all rfl) (Nat.le_of_ble_eq_true rfl) ?_)
        rintro w49 hB51 hch50
        have hsz52 := hch50.size
        replace hR := hR.ch hch50 (off1 (by omega))
        replace hc := (off1 (by omega)).step hc hch50
        replace hB45 : Blk w49 g43 39 [(.int .i64 (el xs k).s), (.int .i64 (el xs k).a)] := hB51
        clear hB51
        refine rw_nil (hK41 _ _ ?_)
        refine hK39 _ _ ?_
        refine cw_seq fun K53 hK54 => ?_
        refine cw_drawn (fun u => Ch [] w49 u) (.free 0 (.one 1 true (.free 2 (.free 3 (.free 4 (.free 5 (.free 6 (.free 7 (.free 8 (.free 9 (.free 10 (.free 11 (.free 12 (.free 13 (.free 14 (.free 15 (.free 16 (.free 17 (.done))))))))))))))))))) (by kernel_rfl) (by kernel_rfl) (Ch.refl _ _).drew fun K58 hK59 => ?_
        obtain ⟨w55, hw_, hch56, hsz57⟩ : ∃ w1 : World, w1 = w49.drew ∧ Ch [] w49 w1 ∧ w1.heap.size = w49.heap.size := ⟨_, rfl, (Ch.refl _ _).drew, rfl⟩
        rw [← hw_]; clear hw_
        have hr60 : Ch [] w49 w55 := hch56.sub (fun s hs => by cases hs)
        have hR_r := hR
        have hB45_r := hB45
        have hsz61 := hch56.size
        replace hR := hR.ch0 hch56
        replace hB45 := hB45.ch0 hch56
        replace hc := hc.step0 hch56
        refine tw_free rfl (w0 rfl) rfl rfl (fun u hu => lv_loadN T39 rfl rfl rfl (fun j v hv => (hB45_r.ch hu (by simp)).cellA hv)) ?_
        refine tw_one rfl (op_call (w0 rfl) rfl rfl (rc_call C42 rfl rfl) (beatValid_ok (el xs k).s (el xs k).a _ ) ?_)
        rintro _ w62 ⟨rfl, hch63⟩
        have hsz64 := hch63.size
        replace hR := hR.ch0 hch63
        replace hB45 := hB45.ch0 hch63
        replace hc := hc.step0 hch63
        replace hr60 := hr60.step0 hch63
        refine ⟨fun _ => hr60, ?_⟩
        refine tw_free rfl (w0 rfl) rfl rfl (fun u hu => (pv_not rfl rfl : PV _ _ _ _) u) ?_
        refine tw_free rfl (w0 rfl) rfl rfl (fun u hu => (pv_move (v := (.bool (!(dec ((1 ≤ (el xs k).s ∧ (el xs k).s ≤ 99) ∧ (0 ≤ (el xs k).a ∧ (el xs k).a ≤ 9999)))))) rfl rfl : PV _ _ _ _) u) ?_
        refine tw_split 18 rfl (fun hb65 => ?_) (fun hb65 => ?_)
        · -- yes
          replace hb65 := not_t hb65
          replace hb65 := dec_f hb65
          refine tw_pass rfl (w1n2 rfl rfl rfl rfl) rfl rfl ?_
          refine tw_pass rfl (w1n2 rfl rfl rfl rfl) rfl rfl ?_
          refine tw_pass rfl (w1n2 rfl rfl rfl rfl) rfl rfl ?_
          refine tw_pass rfl (w1u rfl rfl rfl) rfl rfl ?_
          refine tw_pass rfl (w1u rfl rfl rfl) rfl rfl ?_
          refine tw_pass rfl (w1u rfl rfl rfl) rfl rfl ?_
          refine tw_pass rfl (w1u rfl rfl rfl) rfl rfl ?_
          refine tw_pass rfl (w1u rfl rfl rfl) rfl rfl ?_
          refine tw_pass rfl (w1u rfl rfl rfl) rfl rfl ?_
          refine tw_pass rfl (w1u rfl rfl rfl) rfl rfl ?_
          refine tw_pass rfl (w1u rfl rfl rfl) rfl rfl ?_
          refine tw_pass rfl (w1u rfl rfl rfl) rfl rfl ?_
          refine tw_pass rfl (w1n2 rfl rfl rfl rfl) rfl rfl ?_
          refine tw_free rfl (w0 rfl) rfl rfl (fun u hu => (pv_pickT (v := (.bool true)) rfl rfl rfl : PV _ _ _ _) u) ?_
          clear hB45_r
          clear hR_r
          refine tw_done (hK59 _ _ ?_)
          refine hK54 _ _ ?_
          refine cw_cond rfl (fun h66 => ?_) (fun h66 => ?_)
          · -- then
            clear h66
            refine cw_seq fun K67 hK68 => ?_
            refine cw_region fun K69 hK70 => ?_
            refine rw_cons (op_pv (w0 rfl) rfl rfl (pv_assign (v := (.bool false)) rfl rfl) ?_)
            refine rw_nil (hK70 _ _ ?_)
            refine hK68 _ _ ?_
            refine cw_ret ?_
            refine fin1 rfl ?_
            exact ⟨bvf (fun h => by have := h.2 k (by omega); omega), hc⟩
          · -- else
            cases h66
        · -- no
          replace hb65 := not_f hb65
          replace hb65 := dec_t hb65
          refine tw_free rfl (w1y rfl rfl rfl rfl) rfl rfl (fun u hu => (pv_move (v := (.int .i64 (k : Int))) rfl rfl : PV _ _ _ _) u) ?_
          refine tw_free rfl (w1y rfl rfl rfl rfl) rfl rfl (fun u hu => (pv_gtr rfl rfl rfl : PV _ _ _ _) u) ?_
          refine tw_free rfl (w1y rfl rfl rfl rfl) rfl rfl (fun u hu => (pv_move (v := (.bool (decide (0 < (k : Int))))) rfl rfl : PV _ _ _ _) u) ?_
          refine tw_split 21 rfl (fun hb71 => ?_) (fun hb71 => ?_)
          · -- yes
            replace hb71 := of_decide_eq_true hb71
            refine tw_free rfl (w1y rfl rfl rfl rfl) rfl rfl (fun u hu => (pv_move (v := (.slice A n c)) rfl rfl : PV _ _ _ _) u) ?_
            refine tw_free rfl (w1y rfl rfl rfl rfl) rfl rfl (fun u hu => (pv_move (v := (.int .i64 (k : Int))) rfl rfl : PV _ _ _ _) u) ?_
            refine tw_free rfl (w1y rfl rfl rfl rfl) rfl rfl (fun u hu => (pv_sub rfl rfl rfl (by omega) (by omega) : PV _ _ _ _) u) ?_
            refine tw_free rfl (w1y rfl rfl rfl rfl) rfl rfl (fun u hu => (pv_idx Try.underlying23 T39 rfl rfl rfl (hR.some (k := ((k : Int) - 1).toNat) (by omega)) (by omega) (by omega) : PV _ _ _ _) u) ?_
            refine tw_free rfl (w1y rfl rfl rfl rfl) rfl rfl (fun u hu => (pv_fld F39_0 rfl rfl : PV _ _ _ _) u) ?_
            refine tw_free rfl (w1y rfl rfl rfl rfl) rfl rfl (fun u hu => lv_load T3 rfl rfl ((hR_r.ch0 hu).cellE (k := ((k : Int) - 1).toNat) (j := 0) (by omega) rfl)) ?_
            refine tw_free rfl (w1y rfl rfl rfl rfl) rfl rfl (fun u hu => (pv_fld F39_0 rfl rfl : PV _ _ _ _) u) ?_
            refine tw_free rfl (w1y rfl rfl rfl rfl) rfl rfl (fun u hu => lv_load T3 rfl rfl ((hB45_r.ch hu (by simp)).cellA (i := 0) rfl)) ?_
            refine tw_free rfl (w1y rfl rfl rfl rfl) rfl rfl (fun u hu => (pv_geq rfl rfl rfl : PV _ _ _ _) u) ?_
            refine tw_free rfl (w1y rfl rfl rfl rfl) rfl rfl (fun u hu => (pv_pickT (v := (.bool (decide ((el xs k).s ≤ (el xs ((k : Int) - 1).toNat).s)))) rfl rfl rfl : PV _ _ _ _) u) ?_
            refine tw_free rfl (w0 rfl) rfl rfl (fun u hu => (pv_pickF (v := (.bool (decide ((el xs k).s ≤ (el xs ((k : Int) - 1).toNat).s)))) rfl rfl rfl : PV _ _ _ _) u) ?_
            clear hB45_r
            clear hR_r
            refine tw_done (hK59 _ _ ?_)
            refine hK54 _ _ ?_
            refine cw_cond rfl (fun h72 => ?_) (fun h72 => ?_)
            · -- then
              replace h72 := of_decide_eq_true h72
              refine cw_seq fun K73 hK74 => ?_
              refine cw_region fun K75 hK76 => ?_
              refine rw_cons (op_pv (w0 rfl) rfl rfl (pv_assign (v := (.bool false)) rfl rfl) ?_)
              refine rw_nil (hK76 _ _ ?_)
              refine hK74 _ _ ?_
              refine cw_ret ?_
              refine fin1 rfl ?_
              exact ⟨bvf (fun h => by have := h.2 k (by omega); omega), hc⟩
            · -- else
              replace h72 := of_decide_eq_false h72
              refine cw_skip ?_
              refine hK37 _ _ ?_
              refine cw_region fun K77 hK78 => ?_
              refine rw_cons (op_pv (w0 rfl) rfl rfl (pv_add rfl rfl rfl (by omega) (by omega)) ?_)
              refine rw_cons (op_pv (w0 rfl) rfl rfl (pv_move (v := (.int .i64 ((k : Int) + 1))) rfl rfl) ?_)
              refine rw_nil (hK78 _ _ ?_)
              refine hK24 _ _ (k + 1) ⟨(iv (by omega)), rfl, rfl, rfl, trivial⟩ ⟨?_, hR, hc⟩ ?_
              · refine ⟨by omega, fun j hj => ?_⟩
                by_cases hjk : j = k
                · subst hjk; first | omega | assumption
                · exact hye j (by omega)
              · (first | omega | (simp only []; omega))
          · -- no
            replace hb71 := of_decide_eq_false hb71
            refine tw_pass rfl (w1n1 rfl rfl rfl rfl) rfl rfl ?_
            refine tw_pass rfl (w1n1 rfl rfl rfl rfl) rfl rfl ?_
            refine tw_pass rfl (w1n1 rfl rfl rfl rfl) rfl rfl ?_
            refine tw_pass rfl (w1n1 rfl rfl rfl rfl) rfl rfl ?_
            refine tw_pass rfl (w1n1 rfl rfl rfl rfl) rfl rfl ?_
            refine tw_pass rfl (w1n1 rfl rfl rfl rfl) rfl rfl ?_
            refine tw_pass rfl (w1n1 rfl rfl rfl rfl) rfl rfl ?_
            refine tw_pass rfl (w1n1 rfl rfl rfl rfl) rfl rfl ?_
            refine tw_pass rfl (w1n1 rfl rfl rfl rfl) rfl rfl ?_
            refine tw_free rfl (w1y rfl rfl rfl rfl) rfl rfl (fun u hu => (pv_pickF (v := (.bool false)) rfl rfl rfl : PV _ _ _ _) u) ?_
            refine tw_free rfl (w0 rfl) rfl rfl (fun u hu => (pv_pickF (v := (.bool false)) rfl rfl rfl : PV _ _ _ _) u) ?_
            clear hB45_r
            clear hR_r
            refine tw_done (hK59 _ _ ?_)
            refine hK54 _ _ ?_
            refine cw_cond rfl (fun h79 => ?_) (fun h79 => ?_)
            · -- then
              cases h79
            · -- else
              clear h79
              refine cw_skip ?_
              refine hK37 _ _ ?_
              refine cw_region fun K80 hK81 => ?_
              refine rw_cons (op_pv (w0 rfl) rfl rfl (pv_add rfl rfl rfl (by omega) (by omega)) ?_)
              refine rw_cons (op_pv (w0 rfl) rfl rfl (pv_move (v := (.int .i64 ((k : Int) + 1))) rfl rfl) ?_)
              refine rw_nil (hK81 _ _ ?_)
              refine hK24 _ _ (k + 1) ⟨(iv (by omega)), rfl, rfl, rfl, trivial⟩ ⟨?_, hR, hc⟩ ?_
              · refine ⟨by omega, fun j hj => ?_⟩
                by_cases hjk : j = k
                · subst hjk; first | omega | assumption
                · exact hye j (by omega)
              · (first | omega | (simp only []; omega))
      · -- else
        replace h35 := of_decide_eq_false h35
        refine cw_exit ?_
        refine hK17 _ _ ?_
        refine cw_seq fun K82 hK83 => ?_
        refine cw_region fun K84 hK85 => ?_
        refine rw_cons (op_pv (w0 rfl) rfl rfl (pv_assign (v := (.bool true)) rfl rfl) ?_)
        refine rw_nil (hK85 _ _ ?_)
        refine hK83 _ _ ?_
        refine cw_ret ?_
        refine fin1 rfl ?_
        exact ⟨bvt ⟨by omega, fun j hj => hye j (by omega)⟩, hc⟩
end Go.Proofs.Ytnkjljjcionfiaa
