/-
  The walk of spec.BaseValid, written by program: each line names the law of one operation. Conditions: those of the theorem.
-/
import Derived.Test.YtpnenfglogggmaaProg
import Derived.Test.YtpnenfglogggmaaBase
import Derived.Test.YtpnenfglogggmaaFspecStateValid
import Derived.Test.YtpnenfglogggmaaFspecl6In
import Derived.Test.YtpnenfglogggmaaFspecl33Some
import Derived.KernelRfl
namespace Go.Proofs.Ytpnenfglogggmaa
open Go Go.RowKit
set_option linter.unusedVariables false
set_option linter.unusedSimpArgs false
namespace BaseValid_sF
theorem T3 : TI Try.prog 3 false (.int .i64 0) 1 8 := TI.mk' Try.underlying3 rfl (by kernel_rfl)
theorem T23 : TI Try.prog 23 false (.slice none 0 0) 1 24 := TI.mk' Try.underlying23 rfl (by kernel_rfl)
theorem F25_0 : FldOK Try.prog 25 0 0 := ⟨_, _, 0, Try.underlying25, rfl, rfl, by kernel_rfl⟩
theorem F25_1 : FldOK Try.prog 25 1 1 := ⟨_, _, 0, Try.underlying25, rfl, rfl, by kernel_rfl⟩
theorem C28 : Callable Try.prog 28 := ⟨_, Try.func28, by kernel_rfl, by kernel_rfl⟩
theorem C29 : Callable Try.prog 29 := ⟨_, Try.func29, by kernel_rfl, by kernel_rfl⟩
theorem C30 : Callable Try.prog 30 := ⟨_, Try.func30, by kernel_rfl, by kernel_rfl⟩
end BaseValid_sF
open BaseValid_sF in
set_option maxHeartbeats 4000000 in
theorem BaseValid_s (m : Int) (Axs : Option Addr) (nxs cxs : Nat) (xs : List Int) (w : World) (hRxs : RS encI 1 w w.heap.size Axs nxs xs) (hNxs : nxs ≤ 1099511627776) :
    Fn Try.prog 10 [(.agg #[(.int .i64 m), (.slice Axs nxs cxs)])] w fun v w' => v = .bool (dec (BaseOK m xs)) ∧ Ch [] w w' := by
  have hlenxs := hRxs.len
  refine fn_of (n := 29) Try.func10 rfl rfl rfl rfl ?_
  have hc : Ch [] w w := Ch.refl _ _
  refine cw_seq fun K1 hK2 => ?_
  refine cw_region fun K3 hK4 => ?_
  refine rw_cons (op_box (w0 rfl) rfl rfl rfl rfl ?_)
  rintro g6 w5 hg9 hg10 hB8 hch7
  have hsz11 := hch7.size
  replace hRxs := hRxs.ch0 hch7
  replace hc := hc.step0 hch7
  replace hB8 : Blk w5 g6 25 [(.int .i64 m), (.slice Axs nxs cxs)] := hB8
  refine rw_cons (op_pv (w0 rfl) rfl rfl (pv_assign (v := (.bool false)) rfl rfl) ?_)
  refine rw_nil (hK4 _ _ ?_)
  refine hK2 _ _ ?_
  refine cw_seq fun K12 hK13 => ?_
  refine cw_drawn (fun u => Ch [] w5 u) (.free 0 (.free 1 (.one 2 true (.free 3 (.free 4 (.free 5 (.one 6 true (.free 7 (.free 8 (.free 9 (.free 10 (.free 12 (.free 13 (.one 11 true (.free 14 (.free 15 (.free 16 (.free 17 (.free 18 (.free 21 (.free 22 (.free 23 (.one 19 true (.free 20 (.free 24 (.free 25 (.free 26 (.done)))))))))))))))))))))))))))) (by kernel_rfl) (by kernel_rfl) (Ch.refl _ _).drew fun K17 hK18 => ?_
  obtain ⟨w14, hw_, hch15, hsz16⟩ : ∃ w1 : World, w1 = w5.drew ∧ Ch [] w5 w1 ∧ w1.heap.size = w5.heap.size := ⟨_, rfl, (Ch.refl _ _).drew, rfl⟩
  rw [← hw_]; clear hw_
  have hr19 : Ch [] w5 w14 := hch15.sub (fun s hs => by cases hs)
  have hRxs_r := hRxs
  have hB8_r := hB8
  have hsz20 := hch15.size
  replace hRxs := hRxs.ch0 hch15
  replace hB8 := hB8.ch0 hch15
  replace hc := hc.step0 hch15
  refine tw_free rfl (w0 rfl) rfl rfl (fun u hu => (pv_fld F25_0 rfl rfl : PV _ _ _ _) u) ?_
  refine tw_free rfl (w0 rfl) rfl rfl (fun u hu => lv_load T3 rfl rfl ((hB8_r.ch hu (by simp)).cellA (i := 0) rfl)) ?_
  refine tw_one rfl (op_call (w0 rfl) rfl rfl (rc_call C28 rfl rfl) (l6In_ok m 0 999 _  ) ?_)
  rintro _ w21 ⟨rfl, hch22⟩
  have hsz23 := hch22.size
  replace hRxs := hRxs.ch0 hch22
  replace hB8 := hB8.ch0 hch22
  replace hc := hc.step0 hch22
  replace hr19 := hr19.step0 hch22
  refine ⟨fun _ => hr19, ?_⟩
  refine tw_free rfl (w0 rfl) rfl rfl (fun u hu => (pv_move (v := (.bool (dec (0 ≤ m ∧ m ≤ 999)))) rfl rfl : PV _ _ _ _) u) ?_
  refine tw_split 6 rfl (fun hb24 => ?_) (fun hb24 => ?_)
  · -- yes
    replace hb24 := dec_t hb24
    refine tw_free rfl (w1y rfl rfl rfl rfl) rfl rfl (fun u hu => (pv_fld F25_1 rfl rfl : PV _ _ _ _) u) ?_
    refine tw_free rfl (w1y rfl rfl rfl rfl) rfl rfl (fun u hu => lv_load T23 rfl rfl ((hB8_r.ch hu (by simp)).cellA (i := 1) rfl)) ?_
    refine tw_one rfl (op_call (w1y rfl rfl rfl rfl) rfl rfl (rc_call C29 rfl rfl) (StateValid_s _ _ _ xs _ (hRxs.more (by omega)) (by omega)) ?_)
    rintro _ w25 ⟨rfl, hch26⟩
    have hsz27 := hch26.size
    replace hRxs := hRxs.ch0 hch26
    replace hB8 := hB8.ch0 hch26
    replace hc := hc.step0 hch26
    replace hr19 := hr19.step0 hch26
    refine ⟨fun _ => hr19, ?_⟩
    refine tw_free rfl (w0 rfl) rfl rfl (fun u hu => (pv_pickT (v := (.bool (dec (StateOK xs)))) rfl rfl rfl : PV _ _ _ _) u) ?_
    refine tw_free rfl (w0 rfl) rfl rfl (fun u hu => (pv_move (v := (.bool (dec (StateOK xs)))) rfl rfl : PV _ _ _ _) u) ?_
    refine tw_split 11 rfl (fun hb28 => ?_) (fun hb28 => ?_)
    · -- yes
      replace hb28 := dec_t hb28
      refine tw_free rfl (w1y rfl rfl rfl rfl) rfl rfl (fun u hu => (pv_fld F25_1 rfl rfl : PV _ _ _ _) u) ?_
      refine tw_free rfl (w1y rfl rfl rfl rfl) rfl rfl (fun u hu => lv_load T23 rfl rfl ((hB8_r.ch hu (by simp)).cellA (i := 1) rfl)) ?_
      refine tw_free rfl (w1y rfl rfl rfl rfl) rfl rfl (fun u hu => (pv_fld F25_0 rfl rfl : PV _ _ _ _) u) ?_
      refine tw_free rfl (w1y rfl rfl rfl rfl) rfl rfl (fun u hu => lv_load T3 rfl rfl ((hB8_r.ch hu (by simp)).cellA (i := 0) rfl)) ?_
      refine tw_one rfl (op_call (w1y rfl rfl rfl rfl) rfl rfl (rc_call C30 rfl rfl) (l33Some_ok _ nxs _ xs _ (hRxs.more (by omega)) (by omega)) ?_)
      rintro _ w29 ⟨rfl, hch30⟩
      have hsz31 := hch30.size
      replace hRxs := hRxs.ch0 hch30
      replace hB8 := hB8.ch0 hch30
      replace hc := hc.step0 hch30
      replace hr19 := hr19.step0 hch30
      have hnt32 := someL_le xs
      refine ⟨fun _ => hr19, ?_⟩
      refine tw_free rfl (w1y rfl rfl rfl rfl) rfl rfl (fun u hu => (pv_leq rfl rfl rfl : PV _ _ _ _) u) ?_
      refine tw_free rfl (w0 rfl) rfl rfl (fun u hu => (pv_pickT (v := (.bool (decide ((someL xs : Int) ≤ m)))) rfl rfl rfl : PV _ _ _ _) u) ?_
      refine tw_free rfl (w0 rfl) rfl rfl (fun u hu => (pv_move (v := (.bool (decide ((someL xs : Int) ≤ m)))) rfl rfl : PV _ _ _ _) u) ?_
      refine tw_split 19 rfl (fun hb33 => ?_) (fun hb33 => ?_)
      · -- yes
        replace hb33 := of_decide_eq_true hb33
        refine tw_free rfl (w1y rfl rfl rfl rfl) rfl rfl (fun u hu => (pv_fld F25_1 rfl rfl : PV _ _ _ _) u) ?_
        refine tw_free rfl (w1y rfl rfl rfl rfl) rfl rfl (fun u hu => lv_load T23 rfl rfl ((hB8_r.ch hu (by simp)).cellA (i := 1) rfl)) ?_
        refine tw_free rfl (w1y rfl rfl rfl rfl) rfl rfl (fun u hu => (pv_fld F25_0 rfl rfl : PV _ _ _ _) u) ?_
        refine tw_free rfl (w1y rfl rfl rfl rfl) rfl rfl (fun u hu => lv_load T3 rfl rfl ((hB8_r.ch hu (by simp)).cellA (i := 0) rfl)) ?_
        refine tw_free rfl (w1y rfl rfl rfl rfl) rfl rfl (fun u hu => (pv_gtr rfl rfl rfl : PV _ _ _ _) u) ?_
        refine tw_one rfl (op_call (w1y rfl rfl rfl rfl) rfl rfl (rc_call C30 rfl rfl) (l33Some_ok _ nxs _ xs _ (hRxs.more (by omega)) (by omega)) ?_)
        rintro _ w34 ⟨rfl, hch35⟩
        have hsz36 := hch35.size
        replace hRxs := hRxs.ch0 hch35
        replace hB8 := hB8.ch0 hch35
        replace hc := hc.step0 hch35
        replace hr19 := hr19.step0 hch35
        have hnt37 := someL_le xs
        refine ⟨fun _ => hr19, ?_⟩
        refine tw_free rfl (w1y rfl rfl rfl rfl) rfl rfl (fun u hu => (pv_gtr rfl rfl rfl : PV _ _ _ _) u) ?_
        refine tw_free rfl (w1y rfl rfl rfl rfl) rfl rfl (fun u hu => (pv_eqlB Try.underlying4 rfl rfl rfl : PV _ _ _ _) u) ?_
        refine tw_free rfl (w0 rfl) rfl rfl (fun u hu => (pv_pickT (v := (.bool ((decide (0 < (someL xs : Int))) == (decide (0 < m))))) rfl rfl rfl : PV _ _ _ _) u) ?_
        refine tw_free rfl (w0 rfl) rfl rfl (fun u hu => (pv_assign (v := (.bool ((decide (0 < (someL xs : Int))) == (decide (0 < m))))) rfl rfl : PV _ _ _ _) u) ?_
        clear hB8_r
        clear hRxs_r
        refine tw_done (hK18 _ _ ?_)
        refine hK13 _ _ ?_
        refine cw_ret ?_
        refine fin1 rfl ?_
        exact ⟨(bv (beq_dec ⟨fun h => ⟨by omega, by assumption, by omega, by omega⟩, fun h => by have := h.2.2.2; omega⟩)), hc⟩
      · -- no
        replace hb33 := of_decide_eq_false hb33
        refine tw_pass rfl (w1n1 rfl rfl rfl rfl) rfl rfl ?_
        refine tw_pass rfl (w1n1 rfl rfl rfl rfl) rfl rfl ?_
        refine tw_pass rfl (w1n1 rfl rfl rfl rfl) rfl rfl ?_
        refine tw_pass rfl (w1n1 rfl rfl rfl rfl) rfl rfl ?_
        refine tw_pass rfl (w1n1 rfl rfl rfl rfl) rfl rfl ?_
        refine tw_one rfl (op_pass (w1n1 rfl rfl rfl rfl) rfl rfl ?_)
        refine ⟨fun _ => hr19, ?_⟩
        refine tw_pass rfl (w1n1 rfl rfl rfl rfl) rfl rfl ?_
        refine tw_pass rfl (w1n1 rfl rfl rfl rfl) rfl rfl ?_
        refine tw_free rfl (w0 rfl) rfl rfl (fun u hu => (pv_pickF (v := (.bool false)) rfl rfl rfl : PV _ _ _ _) u) ?_
        refine tw_free rfl (w0 rfl) rfl rfl (fun u hu => (pv_assign (v := (.bool false)) rfl rfl : PV _ _ _ _) u) ?_
        clear hB8_r
        clear hRxs_r
        refine tw_done (hK18 _ _ ?_)
        refine hK13 _ _ ?_
        refine cw_ret ?_
        refine fin1 rfl ?_
        exact ⟨(bvf (by rintro ⟨h1, h2, h3, h4⟩; first | contradiction | omega)), hc⟩
    · -- no
      replace hb28 := dec_f hb28
      refine tw_pass rfl (w1n1 rfl rfl rfl rfl) rfl rfl ?_
      refine tw_pass rfl (w1n1 rfl rfl rfl rfl) rfl rfl ?_
      refine tw_pass rfl (w1n1 rfl rfl rfl rfl) rfl rfl ?_
      refine tw_pass rfl (w1n1 rfl rfl rfl rfl) rfl rfl ?_
      refine tw_one rfl (op_pass (w1n1 rfl rfl rfl rfl) rfl rfl ?_)
      refine ⟨fun _ => hr19, ?_⟩
      refine tw_pass rfl (w1n1 rfl rfl rfl rfl) rfl rfl ?_
      refine tw_free rfl (w0 rfl) rfl rfl (fun u hu => (pv_pickF (v := (.bool false)) rfl rfl rfl : PV _ _ _ _) u) ?_
      refine tw_free rfl (w0 rfl) rfl rfl (fun u hu => (pv_move (v := (.bool false)) rfl rfl : PV _ _ _ _) u) ?_
      refine tw_pass rfl (w1n1 rfl rfl rfl rfl) rfl rfl ?_
      refine tw_pass rfl (w1n1 rfl rfl rfl rfl) rfl rfl ?_
      refine tw_pass rfl (w1n1 rfl rfl rfl rfl) rfl rfl ?_
      refine tw_pass rfl (w1n1 rfl rfl rfl rfl) rfl rfl ?_
      refine tw_pass rfl (w1n1 rfl rfl rfl rfl) rfl rfl ?_
      refine tw_one rfl (op_pass (w1n1 rfl rfl rfl rfl) rfl rfl ?_)
      refine ⟨fun _ => hr19, ?_⟩
      refine tw_pass rfl (w1n1 rfl rfl rfl rfl) rfl rfl ?_
      refine tw_pass rfl (w1n1 rfl rfl rfl rfl) rfl rfl ?_
      refine tw_free rfl (w0 rfl) rfl rfl (fun u hu => (pv_pickF (v := (.bool false)) rfl rfl rfl : PV _ _ _ _) u) ?_
      refine tw_free rfl (w0 rfl) rfl rfl (fun u hu => (pv_assign (v := (.bool false)) rfl rfl : PV _ _ _ _) u) ?_
      clear hB8_r
      clear hRxs_r
      refine tw_done (hK18 _ _ ?_)
      refine hK13 _ _ ?_
      refine cw_ret ?_
      refine fin1 rfl ?_
      exact ⟨(bvf (by rintro ⟨h1, h2, h3, h4⟩; first | contradiction | omega)), hc⟩
  · -- no
    replace hb24 := dec_f hb24
    refine tw_pass rfl (w1n1 rfl rfl rfl rfl) rfl rfl ?_
    refine tw_pass rfl (w1n1 rfl rfl rfl rfl) rfl rfl ?_
    refine tw_one rfl (op_pass (w1n1 rfl rfl rfl rfl) rfl rfl ?_)
    refine ⟨fun _ => hr19, ?_⟩
    refine tw_free rfl (w0 rfl) rfl rfl (fun u hu => (pv_pickF (v := (.bool false)) rfl rfl rfl : PV _ _ _ _) u) ?_
    refine tw_free rfl (w0 rfl) rfl rfl (fun u hu => (pv_move (v := (.bool false)) rfl rfl : PV _ _ _ _) u) ?_
    refine tw_pass rfl (w1n1 rfl rfl rfl rfl) rfl rfl ?_
    refine tw_pass rfl (w1n1 rfl rfl rfl rfl) rfl rfl ?_
    refine tw_pass rfl (w1n1 rfl rfl rfl rfl) rfl rfl ?_
    refine tw_pass rfl (w1n1 rfl rfl rfl rfl) rfl rfl ?_
    refine tw_one rfl (op_pass (w1n1 rfl rfl rfl rfl) rfl rfl ?_)
    refine ⟨fun _ => hr19, ?_⟩
    refine tw_pass rfl (w1n1 rfl rfl rfl rfl) rfl rfl ?_
    refine tw_free rfl (w0 rfl) rfl rfl (fun u hu => (pv_pickF (v := (.bool false)) rfl rfl rfl : PV _ _ _ _) u) ?_
    refine tw_free rfl (w0 rfl) rfl rfl (fun u hu => (pv_move (v := (.bool false)) rfl rfl : PV _ _ _ _) u) ?_
    refine tw_pass rfl (w1n1 rfl rfl rfl rfl) rfl rfl ?_
    refine tw_pass rfl (w1n1 rfl rfl rfl rfl) rfl rfl ?_
    refine tw_pass rfl (w1n1 rfl rfl rfl rfl) rfl rfl ?_
    refine tw_pass rfl (w1n1 rfl rfl rfl rfl) rfl rfl ?_
    refine tw_pass rfl (w1n1 rfl rfl rfl rfl) rfl rfl ?_
    refine tw_one rfl (op_pass (w1n1 rfl rfl rfl rfl) rfl rfl ?_)
    refine ⟨fun _ => hr19, ?_⟩
    refine tw_pass rfl (w1n1 rfl rfl rfl rfl) rfl rfl ?_
    refine tw_pass rfl (w1n1 rfl rfl rfl rfl) rfl rfl ?_
    refine tw_free rfl (w0 rfl) rfl rfl (fun u hu => (pv_pickF (v := (.bool false)) rfl rfl rfl : PV _ _ _ _) u) ?_
    refine tw_free rfl (w0 rfl) rfl rfl (fun u hu => (pv_assign (v := (.bool false)) rfl rfl : PV _ _ _ _) u) ?_
    clear hB8_r
    clear hRxs_r
    refine tw_done (hK18 _ _ ?_)
    refine hK13 _ _ ?_
    refine cw_ret ?_
    refine fin1 rfl ?_
    exact ⟨(bvf (by rintro ⟨h1, h2, h3, h4⟩; first | contradiction | omega)), hc⟩
end Go.Proofs.Ytpnenfglogggmaa
