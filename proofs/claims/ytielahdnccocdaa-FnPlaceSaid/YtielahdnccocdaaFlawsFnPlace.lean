/-
  The walk of laws.FnPlace, written by program: each line names the law of one operation. Conditions: those of the theorem.
-/
import Derived.Test.YtielahdnccocdaaProg
import Derived.Test.YtielahdnccocdaaRank
import Derived.Test.YtielahdnccocdaaRank2
import Derived.Test.YtielahdnccocdaaIface
import Derived.Test.YtielahdnccocdaaFspecDrawPlaceOf
import Derived.Test.YtielahdnccocdaaFimplPlaceOf
import Derived.Test.YtielahdnccocdaaFspecPlaceOf
import Derived.Test.YtielahdnccocdaaFlawssameInts
import Derived.Test.YtielahdnccocdaaFlawshasInt
import Derived.KernelRfl
namespace Go.Proofs.Ytielahdnccocdaa
open Go Go.RowKit
set_option linter.unusedVariables false
set_option linter.unusedSimpArgs false
namespace FnPlace_okF
theorem T3 : TI Try.prog 3 false (.int .i64 0) 1 8 := TI.mk' Try.underlying3 rfl (by kernel_rfl)
theorem C21 : Callable Try.prog 21 := ⟨_, Try.func21, by kernel_rfl, by kernel_rfl⟩
theorem C22 : Callable Try.prog 22 := ⟨_, Try.func22, by kernel_rfl, by kernel_rfl⟩
theorem C25 : Callable Try.prog 25 := ⟨_, Try.func25, by kernel_rfl, by kernel_rfl⟩
theorem C26 : Callable Try.prog 26 := ⟨_, Try.func26, by kernel_rfl, by kernel_rfl⟩
theorem C27 : Callable Try.prog 27 := ⟨_, Try.func27, by kernel_rfl, by kernel_rfl⟩
end FnPlace_okF
open FnPlace_okF in
set_option maxHeartbeats 4000000 in
theorem FnPlace_ok (A0 : Option Addr) (n0 c0 : Nat) (xs0 : List UInt8) (w : World) (hR0 : RS encU 1 w w.heap.size A0 n0 xs0) (hn0 : n0 ≤ c0) :
    Fn Try.prog 9 [(.slice A0 n0 c0)] w fun v w' => v = .bool true ∧ Ch [] w w' := by
  have hlen0 := hR0.len
  refine fn_of (n := 82) Try.func9 rfl rfl rfl rfl ?_
  have hc : Ch [] w w := Ch.refl _ _
  refine cw_seq fun K1 hK2 => ?_
  refine cw_region fun K3 hK4 => ?_
  refine rw_cons (op_pv (w0 rfl) rfl rfl (pv_assign (v := (.bool false)) rfl rfl) ?_)
  refine rw_nil (hK4 _ _ ?_)
  refine hK2 _ _ ?_
  refine cw_seq fun K5 hK6 => ?_
  refine cw_seq fun K7 hK8 => ?_
  refine cw_region fun K9 hK10 => ?_
  refine rw_cons (op_pv (w0 rfl) rfl rfl (pv_move (v := (.slice A0 n0 c0)) rfl rfl) ?_)
  refine rw_cons (op_pv (w0 rfl) rfl rfl (pv_len Try.underlying28 rfl rfl) ?_)
  refine rw_cons (op_pv (w0 rfl) rfl rfl (pv_gtr rfl rfl rfl) ?_)
  refine rw_nil (hK10 _ _ ?_)
  refine hK8 _ _ ?_
  refine cw_cond rfl (fun h11 => ?_) (fun h11 => ?_)
  · -- then
    replace h11 := of_decide_eq_true h11
    refine cw_seq fun K12 hK13 => ?_
    refine cw_region fun K14 hK15 => ?_
    refine rw_cons (op_pv (w0 rfl) rfl rfl (pv_assign (v := (.bool true)) rfl rfl) ?_)
    refine rw_nil (hK15 _ _ ?_)
    refine hK13 _ _ ?_
    refine cw_ret ?_
    refine fin1 rfl ?_
    exact ⟨rfl, hc⟩
  · -- else
    replace h11 := of_decide_eq_false h11
    refine cw_skip ?_
    refine hK6 _ _ ?_
    refine cw_seq fun K16 hK17 => ?_
    refine cw_region fun K18 hK19 => ?_
    refine rw_cons (op_pv (w0 rfl) rfl rfl (pv_move (v := (.slice A0 n0 c0)) rfl rfl) ?_)
    refine rw_cons (op_call (w0 rfl) rfl rfl (rc_call C25 rfl rfl) (DrawPlaceOf_ok _ _ _ _ _ (hR0.more (by omega)) (by omega)) ?_)
    rintro _ w20 ⟨p22, A25, c26, xs23, m24, rfl, hO27, hl29, hch21⟩
    have hsz30 := hch21.size
    replace hR0 := hR0.ch0 hch21
    replace hc := hc.step0 hch21
    have hub28 := hO27.lt
    have hcap31 : xs23.length ≤ c26 := by obtain ⟨_, _, hv, h1, _⟩ := hO27.form; injection hv with _ _ h3; omega
    refine rw_cons (op_pv (w0 rfl) rfl rfl (pv_move (v := (.tuple #[(.int .i64 p22), (.slice A25 xs23.length c26), (.int .i64 m24)])) rfl rfl) ?_)
    refine rw_cons (op_pv (w0 rfl) rfl rfl (pv_ext (v := (.int .i64 p22)) rfl rfl rfl) ?_)
    refine rw_cons (op_pv (w0 rfl) rfl rfl (pv_ext (v := (.slice A25 xs23.length c26)) rfl rfl rfl) ?_)
    refine rw_cons (op_pv (w0 rfl) rfl rfl (pv_ext (v := (.int .i64 m24)) rfl rfl rfl) ?_)
    refine rw_cons (op_pv (w0 rfl) rfl rfl (pv_assign (v := (.int .i64 p22)) rfl rfl) ?_)
    refine rw_cons (op_pv (w0 rfl) rfl rfl (pv_assign (v := (.slice A25 xs23.length c26)) rfl rfl) ?_)
    refine rw_cons (op_pv (w0 rfl) rfl rfl (pv_assign (v := (.int .i64 m24)) rfl rfl) ?_)
    refine rw_nil (hK19 _ _ ?_)
    refine hK17 _ _ ?_
    refine cw_seq fun K32 hK33 => ?_
    refine cw_region fun K34 hK35 => ?_
    refine rw_cons (op_pv (w0 rfl) rfl rfl (pv_move (v := (.int .i64 p22)) rfl rfl) ?_)
    refine rw_cons (op_pv (w0 rfl) rfl rfl (pv_move (v := (.slice A25 xs23.length c26)) rfl rfl) ?_)
    refine rw_cons (op_pv (w0 rfl) rfl rfl (pv_move (v := (.int .i64 m24)) rfl rfl) ?_)
    refine rw_cons (op_call (w0 rfl) rfl rfl (rc_call C22 rfl rfl) (PlaceOf_i p22 _ xs23.length _ xs23 m24 _ (hO27.rs (fun _ => rfl)) (by omega)) ?_)
    rintro _ w36 ⟨A38, c39, rfl, hO40, hch37⟩
    have hsz41 := hch37.size
    replace hR0 := hR0.ch0 hch37
    replace hO27 := hO27.ch0 hch37
    replace hc := hc.step0 hch37
    have hub42 := hO40.lt
    have hcap43 : (placeV p22 xs23 m24).length ≤ c39 := by obtain ⟨_, _, hv, h1, _⟩ := hO40.form; injection hv with _ _ h3; omega
    have hnt44 := placeV_le p22 xs23 m24
    refine rw_cons (op_pv (w0 rfl) rfl rfl (pv_move (v := (.tuple #[(.slice A38 (placeV p22 xs23 m24).length c39), (.bool (dec (PlaceOK p22 xs23 m24)))])) rfl rfl) ?_)
    refine rw_cons (op_pv (w0 rfl) rfl rfl (pv_ext (v := (.slice A38 (placeV p22 xs23 m24).length c39)) rfl rfl rfl) ?_)
    refine rw_cons (op_pv (w0 rfl) rfl rfl (pv_ext (v := (.bool (dec (PlaceOK p22 xs23 m24)))) rfl rfl rfl) ?_)
    refine rw_cons (op_pv (w0 rfl) rfl rfl (pv_assign (v := (.slice A38 (placeV p22 xs23 m24).length c39)) rfl rfl) ?_)
    refine rw_cons (op_pv (w0 rfl) rfl rfl (pv_assign (v := (.bool (dec (PlaceOK p22 xs23 m24)))) rfl rfl) ?_)
    refine rw_nil (hK35 _ _ ?_)
    refine hK33 _ _ ?_
    refine cw_seq fun K45 hK46 => ?_
    refine cw_region fun K47 hK48 => ?_
    refine rw_cons (op_pv (w0 rfl) rfl rfl (pv_move (v := (.int .i64 p22)) rfl rfl) ?_)
    refine rw_cons (op_pv (w0 rfl) rfl rfl (pv_move (v := (.slice A25 xs23.length c26)) rfl rfl) ?_)
    refine rw_cons (op_pv (w0 rfl) rfl rfl (pv_move (v := (.int .i64 m24)) rfl rfl) ?_)
    refine rw_cons (op_call (w0 rfl) rfl rfl (rc_call C21 rfl rfl) (PlaceOf_s p22 _ xs23.length _ xs23 m24 _ (hO27.rs (fun _ => rfl)) (by omega)) ?_)
    rintro _ w49 ⟨A51, c52, rfl, hO53, hch50⟩
    have hsz54 := hch50.size
    replace hR0 := hR0.ch0 hch50
    replace hO27 := hO27.ch0 hch50
    replace hO40 := hO40.ch0 hch50
    replace hc := hc.step0 hch50
    have hub55 := hO53.lt
    have hcap56 : (placeV p22 xs23 m24).length ≤ c52 := by obtain ⟨_, _, hv, h1, _⟩ := hO53.form; injection hv with _ _ h3; omega
    have hnt57 := placeV_le p22 xs23 m24
    refine rw_cons (op_pv (w0 rfl) rfl rfl (pv_move (v := (.tuple #[(.slice A51 (placeV p22 xs23 m24).length c52), (.bool (dec (PlaceOK p22 xs23 m24)))])) rfl rfl) ?_)
    refine rw_cons (op_pv (w0 rfl) rfl rfl (pv_ext (v := (.slice A51 (placeV p22 xs23 m24).length c52)) rfl rfl rfl) ?_)
    refine rw_cons (op_pv (w0 rfl) rfl rfl (pv_ext (v := (.bool (dec (PlaceOK p22 xs23 m24)))) rfl rfl rfl) ?_)
    refine rw_cons (op_pv (w0 rfl) rfl rfl (pv_assign (v := (.slice A51 (placeV p22 xs23 m24).length c52)) rfl rfl) ?_)
    refine rw_cons (op_pv (w0 rfl) rfl rfl (pv_assign (v := (.bool (dec (PlaceOK p22 xs23 m24)))) rfl rfl) ?_)
    refine rw_nil (hK48 _ _ ?_)
    refine hK46 _ _ ?_
    refine cw_seq fun K58 hK59 => ?_
    refine cw_seq fun K60 hK61 => ?_
    refine cw_region fun K62 hK63 => ?_
    refine rw_cons (op_pv (w0 rfl) rfl rfl (pv_move (v := (.bool (dec (PlaceOK p22 xs23 m24)))) rfl rfl) ?_)
    refine rw_cons (op_pv (w0 rfl) rfl rfl (pv_move (v := (.bool (dec (PlaceOK p22 xs23 m24)))) rfl rfl) ?_)
    refine rw_cons (op_pv (w0 rfl) rfl rfl (pv_neBs Try.underlying4 rfl rfl rfl) ?_)
    refine rw_cons (op_pv (w0 rfl) rfl rfl (pv_move (v := (.bool false)) rfl rfl) ?_)
    refine rw_cons (op_pv (w1y rfl rfl rfl rfl) rfl rfl (pv_move (v := (.slice A38 (placeV p22 xs23 m24).length c39)) rfl rfl) ?_)
    refine rw_cons (op_pv (w1y rfl rfl rfl rfl) rfl rfl (pv_move (v := (.slice A51 (placeV p22 xs23 m24).length c52)) rfl rfl) ?_)
    refine rw_cons (op_call (w1y rfl rfl rfl rfl) rfl rfl (rc_call C26 rfl rfl) (sameInts_same _ _ _ _ _ _ (placeV p22 xs23 m24) _ (hO40.rs (fun _ => rfl)) (hO53.rs (fun _ => rfl)) (by omega)) ?_)
    rintro _ w64 ⟨rfl, hch65⟩
    have hsz66 := hch65.size
    replace hR0 := hR0.ch0 hch65
    replace hO27 := hO27.ch0 hch65
    replace hO40 := hO40.ch0 hch65
    replace hO53 := hO53.ch0 hch65
    replace hc := hc.step0 hch65
    refine rw_cons (op_pv (w1y rfl rfl rfl rfl) rfl rfl (pv_not rfl rfl) ?_)
    refine rw_cons (op_pv (w0 rfl) rfl rfl (pv_pickF (v := (.bool (!true))) rfl rfl rfl) ?_)
    refine rw_cons (op_pv (w0 rfl) rfl rfl (pv_move (v := (.bool (!true))) rfl rfl) ?_)
    refine rw_cons (op_pv (w1y rfl rfl rfl rfl) rfl rfl (pv_move (v := (.bool (dec (PlaceOK p22 xs23 m24)))) rfl rfl) ?_)
    refine rw_cons (op_pv (w1y rfl rfl rfl rfl) rfl rfl (pv_not rfl rfl) ?_)
    refine rw_cons (op_pv (w0 rfl) rfl rfl (pv_pickF (v := (.bool (!(dec (PlaceOK p22 xs23 m24))))) rfl rfl rfl) ?_)
    refine rw_nil (hK63 _ _ ?_)
    refine hK61 _ _ ?_
    refine cw_cond rfl (fun h67 => ?_) (fun h67 => ?_)
    · -- then
      replace h67 := not_t h67
      replace h67 := dec_f h67
      refine cw_seq fun K68 hK69 => ?_
      refine cw_region fun K70 hK71 => ?_
      refine rw_cons (op_pv (w0 rfl) rfl rfl (pv_move (v := (.bool (dec (PlaceOK p22 xs23 m24)))) rfl rfl) ?_)
      refine rw_cons (op_pv (w0 rfl) rfl rfl (pv_move (v := (.bool (dec (PlaceOK p22 xs23 m24)))) rfl rfl) ?_)
      refine rw_cons (op_pv (w0 rfl) rfl rfl (pv_eqBs Try.underlying4 rfl rfl rfl) ?_)
      refine rw_cons (op_pv (w0 rfl) rfl rfl (pv_move (v := (.bool true)) rfl rfl) ?_)
      refine rw_cons (op_pv (w1y rfl rfl rfl rfl) rfl rfl (pv_move (v := (.slice A38 (placeV p22 xs23 m24).length c39)) rfl rfl) ?_)
      refine rw_cons (op_pv (w1y rfl rfl rfl rfl) rfl rfl (pv_move (v := (.slice A51 (placeV p22 xs23 m24).length c52)) rfl rfl) ?_)
      refine rw_cons (op_call (w1y rfl rfl rfl rfl) rfl rfl (rc_call C26 rfl rfl) (sameInts_same _ _ _ _ _ _ (placeV p22 xs23 m24) _ (hO40.rs (fun _ => rfl)) (hO53.rs (fun _ => rfl)) (by omega)) ?_)
      rintro _ w72 ⟨rfl, hch73⟩
      have hsz74 := hch73.size
      replace hR0 := hR0.ch0 hch73
      replace hO27 := hO27.ch0 hch73
      replace hO40 := hO40.ch0 hch73
      replace hO53 := hO53.ch0 hch73
      replace hc := hc.step0 hch73
      refine rw_cons (op_pv (w0 rfl) rfl rfl (pv_pickT (v := (.bool true)) rfl rfl rfl) ?_)
      refine rw_cons (op_pv (w0 rfl) rfl rfl (pv_assign (v := (.bool true)) rfl rfl) ?_)
      refine rw_nil (hK71 _ _ ?_)
      refine hK69 _ _ ?_
      refine cw_ret ?_
      refine fin1 rfl ?_
      first
        | exact ⟨rfl, hc⟩
        | exact absurd rfl ‹¬(placeV p22 xs23 m24 = placeV p22 xs23 m24)›
        | exact ⟨congrArg Value.bool (dec_yes rfl), hc⟩
    · -- else
      replace h67 := not_f h67
      replace h67 := dec_t h67
      refine cw_skip ?_
      refine hK59 _ _ ?_
      refine cw_seq fun K75 hK76 => ?_
      refine cw_seq fun K77 hK78 => ?_
      have hok : PlaceOK p22 xs23 m24 := by assumption
      have hpl := place_len hok
      have hp1 := hok.1
      have hm1 := hok.2.2
      have hx8 := hok.2.1.1
      refine cw_region fun K79 hK80 => ?_
      refine rw_cons (op_pv (w0 rfl) rfl rfl (pv_assign (v := (.int .i64 0)) rfl rfl) ?_)
      refine rw_nil (hK80 _ _ ?_)
      refine hK78 _ _ ?_
      refine cw_block ?_
      refine cw_loop (σ := Nat) (fun k => [(10, (.int .i64 (k : Int))), (4, (.slice A25 xs23.length c26)), (5, (.int .i64 m24)), (6, (.slice A38 (placeV p22 xs23 m24).length c39))]) (fun k W => (k ≤ (placeV p22 xs23 m24).length) ∧ RS encU 1 W w.heap.size A0 n0 xs0 ∧ Own encI 1 W w.heap.size 3 (.slice A25 xs23.length c26) xs23 ∧ Own encI 1 W w20.heap.size 3 (.slice A38 (placeV p22 xs23 m24).length c39) (placeV p22 xs23 m24) ∧ Own encI 1 W w36.heap.size 3 (.slice A51 (placeV p22 xs23 m24).length c52) (placeV p22 xs23 m24) ∧ Ch [] w W ∧ w20.heap.size ≤ W.heap.size ∧ w36.heap.size ≤ W.heap.size) (fun k => (placeV p22 xs23 m24).length - k) 0 ?_ ?_ ?_
      · exact ⟨rfl, rfl, rfl, rfl, trivial⟩
      · refine ⟨Nat.zero_le _, hR0, hO27, hO40, hO53, hc, (by omega), (by omega)⟩
      · rintro k J87 w81 ⟨hk, hR0, hO27, hO40, hO53, hc, hmono82, hmono83⟩ K84 hK85
        have hsz89 := hc.size
        have hub90 := hO27.lt
        have hub91 := hO40.lt
        have hub92 := hO53.lt
        refine cw_seq fun K93 hK94 => ?_
        refine cw_seq fun K95 hK96 => ?_
        refine cw_region fun K97 hK98 => ?_
        refine rw_cons (op_pv (w0 rfl) rfl rfl (pv_move (v := (.int .i64 (k : Int))) rfl rfl) ?_)
        refine rw_cons (op_pv (w0 rfl) rfl rfl (pv_move (v := (.slice A38 (placeV p22 xs23 m24).length c39)) rfl rfl) ?_)
        refine rw_cons (op_pv (w0 rfl) rfl rfl (pv_len Try.underlying24 rfl rfl) ?_)
        refine rw_cons (op_pv (w0 rfl) rfl rfl (pv_lss rfl rfl rfl) ?_)
        refine rw_nil (hK98 _ _ ?_)
        refine hK96 _ _ ?_
        refine cw_cond rfl (fun h99 => ?_) (fun h99 => ?_)
        · -- then
          replace h99 := of_decide_eq_true h99
          refine cw_skip ?_
          refine hK94 _ _ ?_
          refine cw_seq fun K100 hK101 => ?_
          refine cw_block ?_
          refine cw_seq fun K102 hK103 => ?_
          refine cw_drawn (fun u => Ch [] w81 u) (.free 0 (.free 1 (.free 2 (.free 3 (.free 4 (.one 5 true (.free 6 (.free 7 (.free 8 (.free 9 (.free 10 (.free 11 (.free 12 (.free 13 (.free 14 (.one 15 true (.free 16 (.done)))))))))))))))))) (by kernel_rfl) (by kernel_rfl) (Ch.refl _ _).drew fun K107 hK108 => ?_
          obtain ⟨w104, hw_, hch105, hsz106⟩ : ∃ w1 : World, w1 = w81.drew ∧ Ch [] w81 w1 ∧ w1.heap.size = w81.heap.size := ⟨_, rfl, (Ch.refl _ _).drew, rfl⟩
          rw [← hw_]; clear hw_
          have hr109 : Ch [] w81 w104 := hch105.sub (fun s hs => by cases hs)
          have hR0_r := hR0
          have hO27_r := hO27
          have hO40_r := hO40
          have hO53_r := hO53
          have hsz110 := hch105.size
          replace hR0 := hR0.ch0 hch105
          replace hO27 := hO27.ch0 hch105
          replace hO40 := hO40.ch0 hch105
          replace hO53 := hO53.ch0 hch105
          replace hc := hc.step0 hch105
          refine tw_free rfl (w0 rfl) rfl rfl (fun u hu => (pv_move (v := (.slice A25 xs23.length c26)) rfl rfl : PV _ _ _ _) u) ?_
          refine tw_free rfl (w0 rfl) rfl rfl (fun u hu => (pv_move (v := (.slice A38 (placeV p22 xs23 m24).length c39)) rfl rfl : PV _ _ _ _) u) ?_
          refine tw_free rfl (w0 rfl) rfl rfl (fun u hu => (pv_move (v := (.int .i64 (k : Int))) rfl rfl : PV _ _ _ _) u) ?_
          refine tw_free rfl (w0 rfl) rfl rfl (fun u hu => (pv_idx Try.underlying24 T3 rfl rfl rfl ((hO40.rs (fun _ => rfl)).some (k := k) (by omega)) (by omega) (by omega) : PV _ _ _ _) u) ?_
          refine tw_free rfl (w0 rfl) rfl rfl (fun u hu => lv_load T3 rfl rfl (((hO40_r.ch0 hu).rs (fun _ => rfl)).cell0 (k := k) (by omega) rfl)) ?_
          refine tw_one rfl (op_call (w0 rfl) rfl rfl (rc_call C27 rfl rfl) (hasInt_ok _ xs23.length _ xs23 (el (placeV p22 xs23 m24) k) _ (hO27.rs (fun _ => rfl)) (by omega)) ?_)
          rintro _ w111 ⟨rfl, hch112⟩
          have hsz113 := hch112.size
          replace hR0 := hR0.ch0 hch112
          replace hO27 := hO27.ch0 hch112
          replace hO40 := hO40.ch0 hch112
          replace hO53 := hO53.ch0 hch112
          replace hc := hc.step0 hch112
          replace hr109 := hr109.step0 hch112
          refine ⟨fun _ => hr109, ?_⟩
          refine tw_free rfl (w0 rfl) rfl rfl (fun u hu => (pv_not rfl rfl : PV _ _ _ _) u) ?_
          refine tw_free rfl (w0 rfl) rfl rfl (fun u hu => (pv_move (v := (.bool (!(dec ((el (placeV p22 xs23 m24) k) ∈ xs23))))) rfl rfl : PV _ _ _ _) u) ?_
          refine tw_split 68 rfl (fun hb114 => ?_) (fun hb114 => ?_)
          · -- yes
            replace hb114 := not_t hb114
            replace hb114 := dec_f hb114
            refine tw_pass rfl (w1n2 rfl rfl rfl rfl) rfl rfl ?_
            refine tw_pass rfl (w1n2 rfl rfl rfl rfl) rfl rfl ?_
            refine tw_pass rfl (w1n2 rfl rfl rfl rfl) rfl rfl ?_
            refine tw_pass rfl (w1n2 rfl rfl rfl rfl) rfl rfl ?_
            refine tw_pass rfl (w1n2 rfl rfl rfl rfl) rfl rfl ?_
            refine tw_pass rfl (w1n2 rfl rfl rfl rfl) rfl rfl ?_
            refine tw_pass rfl (w1n2 rfl rfl rfl rfl) rfl rfl ?_
            refine tw_one rfl (op_pass (w1n2 rfl rfl rfl rfl) rfl rfl ?_)
            refine ⟨fun _ => hr109, ?_⟩
            refine tw_free rfl (w0 rfl) rfl rfl (fun u hu => (pv_pickT (v := (.bool true)) rfl rfl rfl : PV _ _ _ _) u) ?_
            clear hO27_r
            clear hO40_r
            clear hO53_r
            clear hR0_r
            refine tw_done (hK108 _ _ ?_)
            refine hK103 _ _ ?_
            refine cw_cond rfl (fun h115 => ?_) (fun h115 => ?_)
            · -- then
              clear h115
              refine cw_seq fun K116 hK117 => ?_
              refine cw_region fun K118 hK119 => ?_
              refine rw_cons (op_pv (w0 rfl) rfl rfl (pv_assign (v := (.bool false)) rfl rfl) ?_)
              refine rw_nil (hK119 _ _ ?_)
              refine hK117 _ _ ?_
              refine cw_ret ?_
              refine fin1 rfl ?_
              exfalso
              have hat := place_at hok (i := k) (by omega)
              first
                | exact absurd hat.1 (by assumption)
                | exact absurd (by assumption) hat.2.1
            · -- else
              cases h115
          · -- no
            replace hb114 := not_f hb114
            replace hb114 := dec_t hb114
            refine tw_free rfl (w1y rfl rfl rfl rfl) rfl rfl (fun u hu => (pv_move (v := (.slice A38 (placeV p22 xs23 m24).length c39)) rfl rfl : PV _ _ _ _) u) ?_
            refine tw_free rfl (w1y rfl rfl rfl rfl) rfl rfl (fun u hu => (pv_move (v := (.int .i64 (k : Int))) rfl rfl : PV _ _ _ _) u) ?_
            refine tw_free rfl (w1y rfl rfl rfl rfl) rfl rfl (fun u hu => (pv_upto Try.underlying24 T3 rfl rfl rfl (by omega) (by omega) : PV _ _ _ _) u) ?_
            have hR120 : RS encI 1 w111 w111.heap.size A38 k ((placeV p22 xs23 m24).take k) := ((hO40.rs (fun _ => rfl))).upto (by omega)
            refine tw_free rfl (w1y rfl rfl rfl rfl) rfl rfl (fun u hu => (pv_move (v := (.slice A38 (placeV p22 xs23 m24).length c39)) rfl rfl : PV _ _ _ _) u) ?_
            refine tw_free rfl (w1y rfl rfl rfl rfl) rfl rfl (fun u hu => (pv_move (v := (.int .i64 (k : Int))) rfl rfl : PV _ _ _ _) u) ?_
            refine tw_free rfl (w1y rfl rfl rfl rfl) rfl rfl (fun u hu => (pv_idx Try.underlying24 T3 rfl rfl rfl ((hO40.rs (fun _ => rfl)).some (k := k) (by omega)) (by omega) (by omega) : PV _ _ _ _) u) ?_
            refine tw_free rfl (w1y rfl rfl rfl rfl) rfl rfl (fun u hu => lv_load T3 rfl rfl (((hO40_r.ch0 hu).rs (fun _ => rfl)).cell0 (k := k) (by omega) rfl)) ?_
            refine tw_one rfl (op_call (w1y rfl rfl rfl rfl) rfl rfl (rc_call C27 rfl rfl) (hasInt_ok _ k _ ((placeV p22 xs23 m24).take k) (el (placeV p22 xs23 m24) k) _ (hR120.more (by omega)) (by omega)) ?_)
            rintro _ w121 ⟨rfl, hch122⟩
            have hsz123 := hch122.size
            replace hR0 := hR0.ch0 hch122
            replace hO27 := hO27.ch0 hch122
            replace hO40 := hO40.ch0 hch122
            replace hO53 := hO53.ch0 hch122
            replace hR120 := hR120.ch0 hch122
            replace hc := hc.step0 hch122
            replace hr109 := hr109.step0 hch122
            refine ⟨fun _ => hr109, ?_⟩
            refine tw_free rfl (w0 rfl) rfl rfl (fun u hu => (pv_pickF (v := (.bool (dec ((el (placeV p22 xs23 m24) k) ∈ ((placeV p22 xs23 m24).take k))))) rfl rfl rfl : PV _ _ _ _) u) ?_
            clear hO27_r
            clear hO40_r
            clear hO53_r
            clear hR0_r
            refine tw_done (hK108 _ _ ?_)
            refine hK103 _ _ ?_
            refine cw_cond rfl (fun h124 => ?_) (fun h124 => ?_)
            · -- then
              replace h124 := dec_t h124
              refine cw_seq fun K125 hK126 => ?_
              refine cw_region fun K127 hK128 => ?_
              refine rw_cons (op_pv (w0 rfl) rfl rfl (pv_assign (v := (.bool false)) rfl rfl) ?_)
              refine rw_nil (hK128 _ _ ?_)
              refine hK126 _ _ ?_
              refine cw_ret ?_
              refine fin1 rfl ?_
              exfalso
              have hat := place_at hok (i := k) (by omega)
              first
                | exact absurd hat.1 (by assumption)
                | exact absurd (by assumption) hat.2.1
            · -- else
              replace h124 := dec_f h124
              refine cw_skip ?_
              refine hK101 _ _ ?_
              refine cw_region fun K129 hK130 => ?_
              refine rw_cons (op_pv (w0 rfl) rfl rfl (pv_move (v := (.int .i64 (k : Int))) rfl rfl) ?_)
              refine rw_cons (op_pv (w0 rfl) rfl rfl (pv_add rfl rfl rfl (by omega) (by omega)) ?_)
              refine rw_cons (op_pv (w0 rfl) rfl rfl (pv_assign (v := (.int .i64 ((k : Int) + 1))) rfl rfl) ?_)
              refine rw_nil (hK130 _ _ ?_)
              refine hK85 _ _ (k + 1) ⟨(iv (by omega)), rfl, rfl, rfl, trivial⟩ ⟨?_, hR0, hO27, hO40, hO53, hc, (by omega), (by omega)⟩ ?_
              · omega
              · (first | omega | (simp only []; omega))
        · -- else
          replace h99 := of_decide_eq_false h99
          refine cw_exit ?_
          refine hK76 _ _ ?_
          refine cw_seq fun K131 hK132 => ?_
          refine cw_region fun K133 hK134 => ?_
          refine rw_cons (op_pv (w0 rfl) rfl rfl (pv_move (v := (.slice A38 (placeV p22 xs23 m24).length c39)) rfl rfl) ?_)
          refine rw_cons (op_pv (w0 rfl) rfl rfl (pv_len Try.underlying24 rfl rfl) ?_)
          refine rw_cons (op_pv (w0 rfl) rfl rfl (pv_move (v := (.int .i64 m24)) rfl rfl) ?_)
          refine rw_cons (op_pv (w0 rfl) rfl rfl (pv_eql rfl rfl rfl) ?_)
          refine rw_cons (op_pv (w0 rfl) rfl rfl (pv_assign (v := (.bool (decide ((((placeV p22 xs23 m24).length : Int) : Int) = m24)))) rfl rfl) ?_)
          refine rw_nil (hK134 _ _ ?_)
          refine hK132 _ _ ?_
          refine cw_ret ?_
          refine fin1 rfl ?_
          first
            | exact ⟨rfl, hc⟩
            | exact ⟨congrArg Value.bool (decide_eq_true (by omega)), hc⟩
end Go.Proofs.Ytielahdnccocdaa
