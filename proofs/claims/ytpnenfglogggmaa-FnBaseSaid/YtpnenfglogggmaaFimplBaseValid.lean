/-
  The walk of impl.BaseValid, written by program: each line names the law of one operation. Conditions: those of the theorem.
-/
import Derived.Test.YtpnenfglogggmaaProg
import Derived.Test.YtpnenfglogggmaaBase
import Derived.Test.YtpnenfglogggmaaFimplStateValid
import Derived.KernelRfl
namespace Go.Proofs.Ytpnenfglogggmaa
open Go Go.RowKit
set_option linter.unusedVariables false
set_option linter.unusedSimpArgs false
namespace BaseValid_iF
theorem T3 : TI Try.prog 3 false (.int .i64 0) 1 8 := TI.mk' Try.underlying3 rfl (by kernel_rfl)
theorem T23 : TI Try.prog 23 false (.slice none 0 0) 1 24 := TI.mk' Try.underlying23 rfl (by kernel_rfl)
theorem F25_0 : FldOK Try.prog 25 0 0 := ⟨_, _, 0, Try.underlying25, rfl, rfl, by kernel_rfl⟩
theorem F25_1 : FldOK Try.prog 25 1 1 := ⟨_, _, 0, Try.underlying25, rfl, rfl, by kernel_rfl⟩
theorem C27 : Callable Try.prog 27 := ⟨_, Try.func27, by kernel_rfl, by kernel_rfl⟩
end BaseValid_iF
open BaseValid_iF in
set_option maxHeartbeats 4000000 in
theorem BaseValid_i (m : Int) (Axs : Option Addr) (nxs cxs : Nat) (xs : List Int) (w : World) (hRxs : RS encI 1 w w.heap.size Axs nxs xs) (hNxs : nxs ≤ 1099511627776) :
    Fn Try.prog 9 [(.agg #[(.int .i64 m), (.slice Axs nxs cxs)])] w fun v w' => v = .bool (dec (BaseOK m xs)) ∧ Ch [] w w' := by
  have hlenxs := hRxs.len
  refine fn_of (n := 44) Try.func9 rfl rfl rfl rfl ?_
  have hc : Ch [] w w := Ch.refl _ _
  refine cw_seq fun K1 hK2 => ?_
  refine cw_region fun K3 hK4 => ?_
  refine rw_cons (op_box (w0 rfl) rfl rfl rfl rfl ?_)
  rintro g6 w5 hg9 hg10 hB8 hch7
  have hsz11 := hch7.size
  replace hRxs := hRxs.ch0 hch7
  replace hc := hc.step0 hch7
  replace hB8 : Blk w5 g6 25 [(.int .i64 m), (.slice Axs nxs cxs)] := hB8
  refine rw_cons (op_pv (w0 rfl) rfl rfl (pv_assign (v := (.bool false)) rfl rfl) ?_)
  refine rw_nil (hK4 _ _ ?_)
  refine hK2 _ _ ?_
  refine cw_seq fun K12 hK13 => ?_
  refine cw_seq fun K14 hK15 => ?_
  refine cw_region fun K16 hK17 => ?_
  refine rw_cons (op_pv (w0 rfl) rfl rfl (pv_fld F25_0 rfl rfl) ?_)
  refine rw_cons (op_lv (w0 rfl) rfl rfl (lv_load T3 rfl rfl (hB8.cellA (i := 0) rfl)) ?_)
  refine rw_cons (op_pv (w0 rfl) rfl rfl (pv_lss rfl rfl rfl) ?_)
  refine rw_cons (op_pv (w0 rfl) rfl rfl (pv_move (v := (.bool (decide (m < 0)))) rfl rfl) ?_)
  refine rw_split 9 rfl (fun hb18 => ?_) (fun hb18 => ?_)
  · -- yes
    replace hb18 := of_decide_eq_true hb18
    refine rw_cons (op_pass (w1n2 rfl rfl rfl rfl) rfl rfl ?_)
    refine rw_cons (op_pass (w1n2 rfl rfl rfl rfl) rfl rfl ?_)
    refine rw_cons (op_pass (w1n2 rfl rfl rfl rfl) rfl rfl ?_)
    refine rw_cons (op_pv (w0 rfl) rfl rfl (pv_pickT (v := (.bool true)) rfl rfl rfl) ?_)
    refine rw_cons (op_pv (w0 rfl) rfl rfl (pv_move (v := (.bool true)) rfl rfl) ?_)
    refine rw_cons (op_pass (w1n2 rfl rfl rfl rfl) rfl rfl ?_)
    refine rw_cons (op_pass (w1n2 rfl rfl rfl rfl) rfl rfl ?_)
    refine rw_cons (op_pass (w1n2 rfl rfl rfl rfl) rfl rfl ?_)
    refine rw_cons (op_pass (w1n2 rfl rfl rfl rfl) rfl rfl ?_)
    refine rw_cons (op_pv (w0 rfl) rfl rfl (pv_pickT (v := (.bool true)) rfl rfl rfl) ?_)
    refine rw_nil (hK17 _ _ ?_)
    refine hK15 _ _ ?_
    refine cw_cond rfl (fun h19 => ?_) (fun h19 => ?_)
    · -- then
      clear h19
      refine cw_seq fun K20 hK21 => ?_
      refine cw_region fun K22 hK23 => ?_
      refine rw_cons (op_pv (w0 rfl) rfl rfl (pv_assign (v := (.bool false)) rfl rfl) ?_)
      refine rw_nil (hK23 _ _ ?_)
      refine hK21 _ _ ?_
      refine cw_ret ?_
      refine fin1 rfl ?_
      exact ⟨(bvf (by rintro ⟨h1, h2, h3, h4⟩; first | contradiction | omega)), hc⟩
    · -- else
      cases h19
  · -- no
    replace hb18 := of_decide_eq_false hb18
    refine rw_cons (op_pv (w1y rfl rfl rfl rfl) rfl rfl (pv_fld F25_0 rfl rfl) ?_)
    refine rw_cons (op_lv (w1y rfl rfl rfl rfl) rfl rfl (lv_load T3 rfl rfl (hB8.cellA (i := 0) rfl)) ?_)
    refine rw_cons (op_pv (w1y rfl rfl rfl rfl) rfl rfl (pv_gtr rfl rfl rfl) ?_)
    refine rw_cons (op_pv (w0 rfl) rfl rfl (pv_pickF (v := (.bool (decide (999 < m)))) rfl rfl rfl) ?_)
    refine rw_cons (op_pv (w0 rfl) rfl rfl (pv_move (v := (.bool (decide (999 < m)))) rfl rfl) ?_)
    refine rw_split 14 rfl (fun hb24 => ?_) (fun hb24 => ?_)
    · -- yes
      replace hb24 := of_decide_eq_true hb24
      refine rw_cons (op_pass (w1n2 rfl rfl rfl rfl) rfl rfl ?_)
      refine rw_cons (op_pass (w1n2 rfl rfl rfl rfl) rfl rfl ?_)
      refine rw_cons (op_pass (w1n2 rfl rfl rfl rfl) rfl rfl ?_)
      refine rw_cons (op_pass (w1n2 rfl rfl rfl rfl) rfl rfl ?_)
      refine rw_cons (op_pv (w0 rfl) rfl rfl (pv_pickT (v := (.bool true)) rfl rfl rfl) ?_)
      refine rw_nil (hK17 _ _ ?_)
      refine hK15 _ _ ?_
      refine cw_cond rfl (fun h25 => ?_) (fun h25 => ?_)
      · -- then
        clear h25
        refine cw_seq fun K26 hK27 => ?_
        refine cw_region fun K28 hK29 => ?_
        refine rw_cons (op_pv (w0 rfl) rfl rfl (pv_assign (v := (.bool false)) rfl rfl) ?_)
        refine rw_nil (hK29 _ _ ?_)
        refine hK27 _ _ ?_
        refine cw_ret ?_
        refine fin1 rfl ?_
        exact ⟨(bvf (by rintro ⟨h1, h2, h3, h4⟩; first | contradiction | omega)), hc⟩
      · -- else
        cases h25
    · -- no
      replace hb24 := of_decide_eq_false hb24
      refine rw_cons (op_pv (w1y rfl rfl rfl rfl) rfl rfl (pv_fld F25_1 rfl rfl) ?_)
      refine rw_cons (op_lv (w1y rfl rfl rfl rfl) rfl rfl (lv_load T23 rfl rfl (hB8.cellA (i := 1) rfl)) ?_)
      refine rw_cons (op_call (w1y rfl rfl rfl rfl) rfl rfl (rc_call C27 rfl rfl) (StateValid_i _ _ _ xs _ (hRxs.more (by omega)) (by omega)) ?_)
      rintro _ w30 ⟨rfl, hch31⟩
      have hsz32 := hch31.size
      replace hRxs := hRxs.ch0 hch31
      replace hB8 := hB8.ch0 hch31
      replace hc := hc.step0 hch31
      refine rw_cons (op_pv (w1y rfl rfl rfl rfl) rfl rfl (pv_not rfl rfl) ?_)
      refine rw_cons (op_pv (w0 rfl) rfl rfl (pv_pickF (v := (.bool (!(dec (StateOK xs))))) rfl rfl rfl) ?_)
      refine rw_nil (hK17 _ _ ?_)
      refine hK15 _ _ ?_
      refine cw_cond rfl (fun h33 => ?_) (fun h33 => ?_)
      · -- then
        replace h33 := not_t h33
        replace h33 := dec_f h33
        refine cw_seq fun K34 hK35 => ?_
        refine cw_region fun K36 hK37 => ?_
        refine rw_cons (op_pv (w0 rfl) rfl rfl (pv_assign (v := (.bool false)) rfl rfl) ?_)
        refine rw_nil (hK37 _ _ ?_)
        refine hK35 _ _ ?_
        refine cw_ret ?_
        refine fin1 rfl ?_
        exact ⟨(bvf (by rintro ⟨h1, h2, h3, h4⟩; first | contradiction | omega)), hc⟩
      · -- else
        replace h33 := not_f h33
        replace h33 := dec_t h33
        refine cw_skip ?_
        refine hK13 _ _ ?_
        refine cw_seq fun K38 hK39 => ?_
        refine cw_region fun K40 hK41 => ?_
        refine rw_cons (op_pv (w0 rfl) rfl rfl (pv_assign (v := (.int .i64 0)) rfl rfl) ?_)
        refine rw_nil (hK41 _ _ ?_)
        refine hK39 _ _ ?_
        refine cw_seq fun K42 hK43 => ?_
        refine cw_seq fun K44 hK45 => ?_
        refine cw_region fun K46 hK47 => ?_
        refine rw_cons (op_pv (w0 rfl) rfl rfl (pv_fld F25_1 rfl rfl) ?_)
        refine rw_cons (op_lv (w0 rfl) rfl rfl (lv_load T23 rfl rfl (hB8.cellA (i := 1) rfl)) ?_)
        refine rw_cons (op_pv (w0 rfl) rfl rfl (pv_len Try.underlying23 rfl rfl) ?_)
        refine rw_cons (op_pv (w0 rfl) rfl rfl (pv_move (v := (.int .i64 0)) rfl rfl) ?_)
        refine rw_nil (hK47 _ _ ?_)
        refine hK45 _ _ ?_
        refine cw_block ?_
        refine cw_loop (σ := Nat) (fun k => [(3, (.int .i64 (someL (xs.take k) : Int))), (23, (.int .i64 (k : Int))), (1, (.pointer (some (⟨g6, 0, none⟩)))), (2, (.bool false)), (21, (.slice Axs nxs cxs)), (22, (.int .i64 (nxs : Int)))]) (fun k W => (k ≤ nxs) ∧ RS encI 1 W w.heap.size Axs nxs xs ∧ Blk W g6 25 [(.int .i64 m), (.slice Axs nxs cxs)] ∧ Ch [] w W) (fun k => nxs - k) 0 ?_ ?_ ?_
        · exact ⟨rfl, rfl, rfl, rfl, rfl, rfl, trivial⟩
        · refine ⟨Nat.zero_le _, hRxs, hB8, hc⟩
        · rintro k J52 w48 ⟨hk, hRxs, hB8, hc⟩ K49 hK50
          have hsz54 := hc.size
          have hsl := someL_le (xs.take k); have htl : (xs.take k).length ≤ k := List.length_take_le _ _
          refine cw_seq fun K55 hK56 => ?_
          refine cw_region fun K57 hK58 => ?_
          refine rw_cons (op_pv (w0 rfl) rfl rfl (pv_lss rfl rfl rfl) ?_)
          refine rw_nil (hK58 _ _ ?_)
          refine hK56 _ _ ?_
          refine cw_seq fun K59 hK60 => ?_
          refine cw_cond rfl (fun h61 => ?_) (fun h61 => ?_)
          · -- then
            replace h61 := of_decide_eq_true h61
            refine cw_skip ?_
            refine hK60 _ _ ?_
            refine cw_seq fun K62 hK63 => ?_
            refine cw_block ?_
            refine cw_seq fun K64 hK65 => ?_
            refine cw_region fun K66 hK67 => ?_
            refine rw_cons (op_pv (w0 rfl) rfl rfl (pv_idx Try.underlying23 T3 rfl rfl rfl (hRxs.some (k := k) (by omega)) (by omega) (by omega)) ?_)
            refine rw_cons (op_lv (w0 rfl) rfl rfl (lv_load T3 rfl rfl (hRxs.cell0 (k := k) (by omega) rfl)) ?_)
            refine rw_cons (op_pv (w0 rfl) rfl rfl (pv_assign (v := (.int .i64 (el xs k))) rfl rfl) ?_)
            refine rw_nil (hK67 _ _ ?_)
            refine hK65 _ _ ?_
            refine cw_seq fun K68 hK69 => ?_
            refine cw_region fun K70 hK71 => ?_
            refine rw_cons (op_pv (w0 rfl) rfl rfl (pv_move (v := (.int .i64 (el xs k))) rfl rfl) ?_)
            refine rw_cons (op_pv (w0 rfl) rfl rfl (pv_geq rfl rfl rfl) ?_)
            refine rw_nil (hK71 _ _ ?_)
            refine hK69 _ _ ?_
            refine cw_cond rfl (fun h72 => ?_) (fun h72 => ?_)
            · -- then
              replace h72 := of_decide_eq_true h72
              refine cw_region fun K73 hK74 => ?_
              refine rw_cons (op_pv (w0 rfl) rfl rfl (pv_move (v := (.int .i64 (someL (xs.take k) : Int))) rfl rfl) ?_)
              refine rw_cons (op_pv (w0 rfl) rfl rfl (pv_add rfl rfl rfl (by omega) (by omega)) ?_)
              refine rw_cons (op_pv (w0 rfl) rfl rfl (pv_assign (v := (.int .i64 ((someL (xs.take k) : Int) + 1))) rfl rfl) ?_)
              refine rw_nil (hK74 _ _ ?_)
              refine hK63 _ _ ?_
              refine cw_region fun K75 hK76 => ?_
              refine rw_cons (op_pv (w0 rfl) rfl rfl (pv_add rfl rfl rfl (by omega) (by omega)) ?_)
              refine rw_cons (op_pv (w0 rfl) rfl rfl (pv_move (v := (.int .i64 ((k : Int) + 1))) rfl rfl) ?_)
              refine rw_nil (hK76 _ _ ?_)
              refine hK50 _ _ (k + 1) ⟨(iv (by rw [someL_yes (xs := xs) (k := k) (by omega) (by omega)]; omega)), (iv (by omega)), rfl, rfl, rfl, rfl, trivial⟩ ⟨?_, hRxs, hB8, hc⟩ ?_
              · omega
              · (first | omega | (simp only []; omega))
            · -- else
              replace h72 := of_decide_eq_false h72
              refine cw_skip ?_
              refine hK63 _ _ ?_
              refine cw_region fun K77 hK78 => ?_
              refine rw_cons (op_pv (w0 rfl) rfl rfl (pv_add rfl rfl rfl (by omega) (by omega)) ?_)
              refine rw_cons (op_pv (w0 rfl) rfl rfl (pv_move (v := (.int .i64 ((k : Int) + 1))) rfl rfl) ?_)
              refine rw_nil (hK78 _ _ ?_)
              refine hK50 _ _ (k + 1) ⟨(iv (by rw [someL_no (xs := xs) (k := k) (by omega) (by omega)])), (iv (by omega)), rfl, rfl, rfl, rfl, trivial⟩ ⟨?_, hRxs, hB8, hc⟩ ?_
              · omega
              · (first | omega | (simp only []; omega))
          · -- else
            replace h61 := of_decide_eq_false h61
            refine cw_exit ?_
            refine hK43 _ _ ?_
            refine cw_seq fun K79 hK80 => ?_
            have hsa : someL (xs.take k) = someL xs := by rw [el_take_all xs k (by omega)]
            refine cw_region fun K81 hK82 => ?_
            refine rw_cons (op_pv (w0 rfl) rfl rfl (pv_move (v := (.int .i64 (someL (xs.take k) : Int))) rfl rfl) ?_)
            refine rw_cons (op_pv (w0 rfl) rfl rfl (pv_fld F25_0 rfl rfl) ?_)
            refine rw_cons (op_lv (w0 rfl) rfl rfl (lv_load T3 rfl rfl (hB8.cellA (i := 0) rfl)) ?_)
            refine rw_cons (op_pv (w0 rfl) rfl rfl (pv_leq rfl rfl rfl) ?_)
            refine rw_cons (op_pv (w0 rfl) rfl rfl (pv_move (v := (.bool (decide ((someL (xs.take k) : Int) ≤ m)))) rfl rfl) ?_)
            refine rw_split 36 rfl (fun hb83 => ?_) (fun hb83 => ?_)
            · -- yes
              replace hb83 := of_decide_eq_true hb83
              refine rw_cons (op_pv (w1y rfl rfl rfl rfl) rfl rfl (pv_move (v := (.int .i64 (someL (xs.take k) : Int))) rfl rfl) ?_)
              refine rw_cons (op_pv (w1y rfl rfl rfl rfl) rfl rfl (pv_gtr rfl rfl rfl) ?_)
              refine rw_cons (op_pv (w1y rfl rfl rfl rfl) rfl rfl (pv_fld F25_0 rfl rfl) ?_)
              refine rw_cons (op_lv (w1y rfl rfl rfl rfl) rfl rfl (lv_load T3 rfl rfl (hB8.cellA (i := 0) rfl)) ?_)
              refine rw_cons (op_pv (w1y rfl rfl rfl rfl) rfl rfl (pv_gtr rfl rfl rfl) ?_)
              refine rw_cons (op_pv (w1y rfl rfl rfl rfl) rfl rfl (pv_eqlB Try.underlying4 rfl rfl rfl) ?_)
              refine rw_cons (op_pv (w0 rfl) rfl rfl (pv_pickT (v := (.bool ((decide (0 < (someL (xs.take k) : Int))) == (decide (0 < m))))) rfl rfl rfl) ?_)
              refine rw_cons (op_pv (w0 rfl) rfl rfl (pv_assign (v := (.bool ((decide (0 < (someL (xs.take k) : Int))) == (decide (0 < m))))) rfl rfl) ?_)
              refine rw_nil (hK82 _ _ ?_)
              refine hK80 _ _ ?_
              refine cw_ret ?_
              refine fin1 rfl ?_
              exact ⟨(bv (beq_dec ⟨fun h => ⟨by omega, by assumption, by omega, by omega⟩, fun h => by have := h.2.2.2; omega⟩)), hc⟩
            · -- no
              replace hb83 := of_decide_eq_false hb83
              refine rw_cons (op_pass (w1n1 rfl rfl rfl rfl) rfl rfl ?_)
              refine rw_cons (op_pass (w1n1 rfl rfl rfl rfl) rfl rfl ?_)
              refine rw_cons (op_pass (w1n1 rfl rfl rfl rfl) rfl rfl ?_)
              refine rw_cons (op_pass (w1n1 rfl rfl rfl rfl) rfl rfl ?_)
              refine rw_cons (op_pass (w1n1 rfl rfl rfl rfl) rfl rfl ?_)
              refine rw_cons (op_pass (w1n1 rfl rfl rfl rfl) rfl rfl ?_)
              refine rw_cons (op_pv (w0 rfl) rfl rfl (pv_pickF (v := (.bool false)) rfl rfl rfl) ?_)
              refine rw_cons (op_pv (w0 rfl) rfl rfl (pv_assign (v := (.bool false)) rfl rfl) ?_)
              refine rw_nil (hK82 _ _ ?_)
              refine hK80 _ _ ?_
              refine cw_ret ?_
              refine fin1 rfl ?_
              exact ⟨(bvf (by rintro ⟨h1, h2, h3, h4⟩; first | contradiction | omega)), hc⟩
end Go.Proofs.Ytpnenfglogggmaa
