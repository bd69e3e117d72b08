/-
  The walk of laws.FnPlaceBest, written by program: each line names the law of one operation. Conditions: those of the theorem.
-/
import Derived.Test.YtielahdnccocdaaProg
import Derived.Test.YtielahdnccocdaaRank
import Derived.Test.YtielahdnccocdaaRank2
import Derived.Test.YtielahdnccocdaaIface
import Derived.Test.YtielahdnccocdaaFspecDrawPlaceOf
import Derived.Test.YtielahdnccocdaaFimplPlaceOf
import Derived.Test.YtielahdnccocdaaFspecPlaceOf
import Derived.Test.YtielahdnccocdaaFlawssameInts
import Derived.Test.YtielahdnccocdaaRank3
import Derived.Test.YtielahdnccocdaaFlawshasInt
import Derived.Test.YtielahdnccocdaaFimplPlaceScore
import Derived.KernelRfl
namespace Go.Proofs.Ytielahdnccocdaa
open Go Go.RowKit
set_option linter.unusedVariables false
set_option linter.unusedSimpArgs false
namespace FnPlaceBest_okF
theorem T3 : TI Try.prog 3 false (.int .i64 0) 1 8 := TI.mk' Try.underlying3 rfl (by kernel_rfl)
theorem C14 : Callable Try.prog 14 := ⟨_, Try.func14, by kernel_rfl, by kernel_rfl⟩
theorem C21 : Callable Try.prog 21 := ⟨_, Try.func21, by kernel_rfl, by kernel_rfl⟩
theorem C22 : Callable Try.prog 22 := ⟨_, Try.func22, by kernel_rfl, by kernel_rfl⟩
theorem C25 : Callable Try.prog 25 := ⟨_, Try.func25, by kernel_rfl, by kernel_rfl⟩
theorem C26 : Callable Try.prog 26 := ⟨_, Try.func26, by kernel_rfl, by kernel_rfl⟩
theorem C27 : Callable Try.prog 27 := ⟨_, Try.func27, by kernel_rfl, by kernel_rfl⟩
end FnPlaceBest_okF
open FnPlaceBest_okF in
set_option maxHeartbeats 4000000 in
theorem FnPlaceBest_ok (A0 : Option Addr) (n0 c0 : Nat) (xs0 : List UInt8) (w : World) (hR0 : RS encU 1 w w.heap.size A0 n0 xs0) (hn0 : n0 ≤ c0) :
    Fn Try.prog 10 [(.slice A0 n0 c0)] w fun v w' => v = .bool true ∧ Ch [] w w' := by
  have hlen0 := hR0.len
  refine fn_of (n := 108) Try.func10 rfl rfl rfl rfl ?_
  have hc : Ch [] w w := Ch.refl _ _
  refine cw_seq fun K1 hK2 => ?_
  refine cw_region fun K3 hK4 => ?_
  refine rw_cons (op_pv (w0 rfl) rfl rfl (pv_assign (v := (.bool false)) rfl rfl) ?_)
  refine rw_nil (hK4 _ _ ?_)
  refine hK2 _ _ ?_
  refine cw_seq fun K5 hK6 => ?_
  refine cw_seq fun K7 hK8 => ?_
  refine cw_region fun K9 hK10 => ?_
  refine rw_cons (op_pv (w0 rfl) rfl rfl (pv_move (v := (.slice A0 n0 c0)) rfl rfl) ?_)
  refine rw_cons (op_pv (w0 rfl) rfl rfl (pv_len Try.underlying28 rfl rfl) ?_)
  refine rw_cons (op_pv (w0 rfl) rfl rfl (pv_gtr rfl rfl rfl) ?_)
  refine rw_nil (hK10 _ _ ?_)
  refine hK8 _ _ ?_
  refine cw_cond rfl (fun h11 => ?_) (fun h11 => ?_)
  · -- then
    replace h11 := of_decide_eq_true h11
    refine cw_seq fun K12 hK13 => ?_
    refine cw_region fun K14 hK15 => ?_
    refine rw_cons (op_pv (w0 rfl) rfl rfl (pv_assign (v := (.bool true)) rfl rfl) ?_)
    refine rw_nil (hK15 _ _ ?_)
    refine hK13 _ _ ?_
    refine cw_ret ?_
    refine fin1 rfl ?_
    exact ⟨rfl, hc⟩
  · -- else
    replace h11 := of_decide_eq_false h11
    refine cw_skip ?_
    refine hK6 _ _ ?_
    refine cw_seq fun K16 hK17 => ?_
    refine cw_region fun K18 hK19 => ?_
    refine rw_cons (op_pv (w0 rfl) rfl rfl (pv_move (v := (.slice A0 n0 c0)) rfl rfl) ?_)
    refine rw_cons (op_call (w0 rfl) rfl rfl (rc_call C25 rfl rfl) (DrawPlaceOf_ok _ _ _ _ _ (hR0.more (by omega)) (by omega)) ?_)
    rintro _ w20 ⟨p22, A25, c26, xs23, m24, rfl, hO27, hl29, hch21⟩
    have hsz30 := hch21.size
    replace hR0 := hR0.ch0 hch21
    replace hc := hc.step0 hch21
    have hub28 := hO27.lt
    have hcap31 : xs23.length ≤ c26 := by obtain ⟨_, _, hv, h1, _⟩ := hO27.form; injection hv with _ _ h3; omega
    refine rw_cons (op_pv (w0 rfl) rfl rfl (pv_move (v := (.tuple #[(.int .i64 p22), (.slice A25 xs23.length c26), (.int .i64 m24)])) rfl rfl) ?_)
    refine rw_cons (op_pv (w0 rfl) rfl rfl (pv_ext (v := (.int .i64 p22)) rfl rfl rfl) ?_)
    refine rw_cons (op_pv (w0 rfl) rfl rfl (pv_ext (v := (.slice A25 xs23.length c26)) rfl rfl rfl) ?_)
    refine rw_cons (op_pv (w0 rfl) rfl rfl (pv_ext (v := (.int .i64 m24)) rfl rfl rfl) ?_)
    refine rw_cons (op_pv (w0 rfl) rfl rfl (pv_assign (v := (.int .i64 p22)) rfl rfl) ?_)
    refine rw_cons (op_pv (w0 rfl) rfl rfl (pv_assign (v := (.slice A25 xs23.length c26)) rfl rfl) ?_)
    refine rw_cons (op_pv (w0 rfl) rfl rfl (pv_assign (v := (.int .i64 m24)) rfl rfl) ?_)
    refine rw_nil (hK19 _ _ ?_)
    refine hK17 _ _ ?_
    refine cw_seq fun K32 hK33 => ?_
    refine cw_region fun K34 hK35 => ?_
    refine rw_cons (op_pv (w0 rfl) rfl rfl (pv_move (v := (.int .i64 p22)) rfl rfl) ?_)
    refine rw_cons (op_pv (w0 rfl) rfl rfl (pv_move (v := (.slice A25 xs23.length c26)) rfl rfl) ?_)
    refine rw_cons (op_pv (w0 rfl) rfl rfl (pv_move (v := (.int .i64 m24)) rfl rfl) ?_)
    refine rw_cons (op_call (w0 rfl) rfl rfl (rc_call C22 rfl rfl) (PlaceOf_i p22 _ xs23.length _ xs23 m24 _ (hO27.rs (fun _ => rfl)) (by omega)) ?_)
    rintro _ w36 ⟨A38, c39, rfl, hO40, hch37⟩
    have hsz41 := hch37.size
    replace hR0 := hR0.ch0 hch37
    replace hO27 := hO27.ch0 hch37
    replace hc := hc.step0 hch37
    have hub42 := hO40.lt
    have hcap43 : (placeV p22 xs23 m24).length ≤ c39 := by obtain ⟨_, _, hv, h1, _⟩ := hO40.form; injection hv with _ _ h3; omega
    have hnt44 := placeV_le p22 xs23 m24
    refine rw_cons (op_pv (w0 rfl) rfl rfl (pv_move (v := (.tuple #[(.slice A38 (placeV p22 xs23 m24).length c39), (.bool (dec (PlaceOK p22 xs23 m24)))])) rfl rfl) ?_)
    refine rw_cons (op_pv (w0 rfl) rfl rfl (pv_ext (v := (.slice A38 (placeV p22 xs23 m24).length c39)) rfl rfl rfl) ?_)
    refine rw_cons (op_pv (w0 rfl) rfl rfl (pv_ext (v := (.bool (dec (PlaceOK p22 xs23 m24)))) rfl rfl rfl) ?_)
    refine rw_cons (op_pv (w0 rfl) rfl rfl (pv_assign (v := (.slice A38 (placeV p22 xs23 m24).length c39)) rfl rfl) ?_)
    refine rw_cons (op_pv (w0 rfl) rfl rfl (pv_assign (v := (.bool (dec (PlaceOK p22 xs23 m24)))) rfl rfl) ?_)
    refine rw_nil (hK35 _ _ ?_)
    refine hK33 _ _ ?_
    refine cw_seq fun K45 hK46 => ?_
    refine cw_region fun K47 hK48 => ?_
    refine rw_cons (op_pv (w0 rfl) rfl rfl (pv_move (v := (.int .i64 p22)) rfl rfl) ?_)
    refine rw_cons (op_pv (w0 rfl) rfl rfl (pv_move (v := (.slice A25 xs23.length c26)) rfl rfl) ?_)
    refine rw_cons (op_pv (w0 rfl) rfl rfl (pv_move (v := (.int .i64 m24)) rfl rfl) ?_)
    refine rw_cons (op_call (w0 rfl) rfl rfl (rc_call C21 rfl rfl) (PlaceOf_s p22 _ xs23.length _ xs23 m24 _ (hO27.rs (fun _ => rfl)) (by omega)) ?_)
    rintro _ w49 ⟨A51, c52, rfl, hO53, hch50⟩
    have hsz54 := hch50.size
    replace hR0 := hR0.ch0 hch50
    replace hO27 := hO27.ch0 hch50
    replace hO40 := hO40.ch0 hch50
    replace hc := hc.step0 hch50
    have hub55 := hO53.lt
    have hcap56 : (placeV p22 xs23 m24).length ≤ c52 := by obtain ⟨_, _, hv, h1, _⟩ := hO53.form; injection hv with _ _ h3; omega
    have hnt57 := placeV_le p22 xs23 m24
    refine rw_cons (op_pv (w0 rfl) rfl rfl (pv_move (v := (.tuple #[(.slice A51 (placeV p22 xs23 m24).length c52), (.bool (dec (PlaceOK p22 xs23 m24)))])) rfl rfl) ?_)
    refine rw_cons (op_pv (w0 rfl) rfl rfl (pv_ext (v := (.slice A51 (placeV p22 xs23 m24).length c52)) rfl rfl rfl) ?_)
    refine rw_cons (op_pv (w0 rfl) rfl rfl (pv_ext (v := (.bool (dec (PlaceOK p22 xs23 m24)))) rfl rfl rfl) ?_)
    refine rw_cons (op_pv (w0 rfl) rfl rfl (pv_assign (v := (.slice A51 (placeV p22 xs23 m24).length c52)) rfl rfl) ?_)
    refine rw_cons (op_pv (w0 rfl) rfl rfl (pv_assign (v := (.bool (dec (PlaceOK p22 xs23 m24)))) rfl rfl) ?_)
    refine rw_nil (hK48 _ _ ?_)
    refine hK46 _ _ ?_
    refine cw_seq fun K58 hK59 => ?_
    refine cw_seq fun K60 hK61 => ?_
    refine cw_region fun K62 hK63 => ?_
    refine rw_cons (op_pv (w0 rfl) rfl rfl (pv_move (v := (.bool (dec (PlaceOK p22 xs23 m24)))) rfl rfl) ?_)
    refine rw_cons (op_pv (w0 rfl) rfl rfl (pv_move (v := (.bool (dec (PlaceOK p22 xs23 m24)))) rfl rfl) ?_)
    refine rw_cons (op_pv (w0 rfl) rfl rfl (pv_neBs Try.underlying4 rfl rfl rfl) ?_)
    refine rw_cons (op_pv (w0 rfl) rfl rfl (pv_move (v := (.bool false)) rfl rfl) ?_)
    refine rw_cons (op_pv (w1y rfl rfl rfl rfl) rfl rfl (pv_move (v := (.slice A38 (placeV p22 xs23 m24).length c39)) rfl rfl) ?_)
    refine rw_cons (op_pv (w1y rfl rfl rfl rfl) rfl rfl (pv_move (v := (.slice A51 (placeV p22 xs23 m24).length c52)) rfl rfl) ?_)
    refine rw_cons (op_call (w1y rfl rfl rfl rfl) rfl rfl (rc_call C26 rfl rfl) (sameInts_same _ _ _ _ _ _ (placeV p22 xs23 m24) _ (hO40.rs (fun _ => rfl)) (hO53.rs (fun _ => rfl)) (by omega)) ?_)
    rintro _ w64 ⟨rfl, hch65⟩
    have hsz66 := hch65.size
    replace hR0 := hR0.ch0 hch65
    replace hO27 := hO27.ch0 hch65
    replace hO40 := hO40.ch0 hch65
    replace hO53 := hO53.ch0 hch65
    replace hc := hc.step0 hch65
    refine rw_cons (op_pv (w1y rfl rfl rfl rfl) rfl rfl (pv_not rfl rfl) ?_)
    refine rw_cons (op_pv (w0 rfl) rfl rfl (pv_pickF (v := (.bool (!true))) rfl rfl rfl) ?_)
    refine rw_cons (op_pv (w0 rfl) rfl rfl (pv_move (v := (.bool (!true))) rfl rfl) ?_)
    refine rw_cons (op_pv (w1y rfl rfl rfl rfl) rfl rfl (pv_move (v := (.bool (dec (PlaceOK p22 xs23 m24)))) rfl rfl) ?_)
    refine rw_cons (op_pv (w1y rfl rfl rfl rfl) rfl rfl (pv_not rfl rfl) ?_)
    refine rw_cons (op_pv (w0 rfl) rfl rfl (pv_pickF (v := (.bool (!(dec (PlaceOK p22 xs23 m24))))) rfl rfl rfl) ?_)
    refine rw_nil (hK63 _ _ ?_)
    refine hK61 _ _ ?_
    refine cw_cond rfl (fun h67 => ?_) (fun h67 => ?_)
    · -- then
      replace h67 := not_t h67
      replace h67 := dec_f h67
      refine cw_seq fun K68 hK69 => ?_
      refine cw_region fun K70 hK71 => ?_
      refine rw_cons (op_pv (w0 rfl) rfl rfl (pv_move (v := (.bool (dec (PlaceOK p22 xs23 m24)))) rfl rfl) ?_)
      refine rw_cons (op_pv (w0 rfl) rfl rfl (pv_move (v := (.bool (dec (PlaceOK p22 xs23 m24)))) rfl rfl) ?_)
      refine rw_cons (op_pv (w0 rfl) rfl rfl (pv_eqBs Try.underlying4 rfl rfl rfl) ?_)
      refine rw_cons (op_pv (w0 rfl) rfl rfl (pv_move (v := (.bool true)) rfl rfl) ?_)
      refine rw_cons (op_pv (w1y rfl rfl rfl rfl) rfl rfl (pv_move (v := (.slice A38 (placeV p22 xs23 m24).length c39)) rfl rfl) ?_)
      refine rw_cons (op_pv (w1y rfl rfl rfl rfl) rfl rfl (pv_move (v := (.slice A51 (placeV p22 xs23 m24).length c52)) rfl rfl) ?_)
      refine rw_cons (op_call (w1y rfl rfl rfl rfl) rfl rfl (rc_call C26 rfl rfl) (sameInts_same _ _ _ _ _ _ (placeV p22 xs23 m24) _ (hO40.rs (fun _ => rfl)) (hO53.rs (fun _ => rfl)) (by omega)) ?_)
      rintro _ w72 ⟨rfl, hch73⟩
      have hsz74 := hch73.size
      replace hR0 := hR0.ch0 hch73
      replace hO27 := hO27.ch0 hch73
      replace hO40 := hO40.ch0 hch73
      replace hO53 := hO53.ch0 hch73
      replace hc := hc.step0 hch73
      refine rw_cons (op_pv (w0 rfl) rfl rfl (pv_pickT (v := (.bool true)) rfl rfl rfl) ?_)
      refine rw_cons (op_pv (w0 rfl) rfl rfl (pv_assign (v := (.bool true)) rfl rfl) ?_)
      refine rw_nil (hK71 _ _ ?_)
      refine hK69 _ _ ?_
      refine cw_ret ?_
      refine fin1 rfl ?_
      first
        | exact ⟨rfl, hc⟩
        | exact absurd rfl ‹¬(placeV p22 xs23 m24 = placeV p22 xs23 m24)›
        | exact ⟨congrArg Value.bool (dec_yes rfl), hc⟩
    · -- else
      replace h67 := not_f h67
      replace h67 := dec_t h67
      refine cw_skip ?_
      refine hK59 _ _ ?_
      refine cw_seq fun K75 hK76 => ?_
      refine cw_seq fun K77 hK78 => ?_
      have hok : PlaceOK p22 xs23 m24 := by assumption
      have hpl := place_len hok
      have hp1 := hok.1
      have hm1 := hok.2.2
      have hx8 := hok.2.1.1
      refine cw_region fun K79 hK80 => ?_
      refine rw_cons (op_pv (w0 rfl) rfl rfl (pv_assign (v := (.int .i64 0)) rfl rfl) ?_)
      refine rw_nil (hK80 _ _ ?_)
      refine hK78 _ _ ?_
      refine cw_block ?_
      refine cw_loop (σ := Nat) (fun k => [(10, (.int .i64 (k : Int))), (3, (.int .i64 p22)), (4, (.slice A25 xs23.length c26)), (6, (.slice A38 (placeV p22 xs23 m24).length c39))]) (fun k W => (k ≤ (placeV p22 xs23 m24).length) ∧ RS encU 1 W w.heap.size A0 n0 xs0 ∧ Own encI 1 W w.heap.size 3 (.slice A25 xs23.length c26) xs23 ∧ Own encI 1 W w20.heap.size 3 (.slice A38 (placeV p22 xs23 m24).length c39) (placeV p22 xs23 m24) ∧ Own encI 1 W w36.heap.size 3 (.slice A51 (placeV p22 xs23 m24).length c52) (placeV p22 xs23 m24) ∧ Ch [] w W ∧ w20.heap.size ≤ W.heap.size ∧ w36.heap.size ≤ W.heap.size) (fun k => (placeV p22 xs23 m24).length - k) 0 ?_ ?_ ?_
      · exact ⟨rfl, rfl, rfl, rfl, trivial⟩
      · refine ⟨Nat.zero_le _, hR0, hO27, hO40, hO53, hc, (by omega), (by omega)⟩
      · rintro k J87 w81 ⟨hk, hR0, hO27, hO40, hO53, hc, hmono82, hmono83⟩ K84 hK85
        have hsz89 := hc.size
        have hub90 := hO27.lt
        have hub91 := hO40.lt
        have hub92 := hO53.lt
        refine cw_seq fun K93 hK94 => ?_
        refine cw_seq fun K95 hK96 => ?_
        refine cw_region fun K97 hK98 => ?_
        refine rw_cons (op_pv (w0 rfl) rfl rfl (pv_move (v := (.int .i64 (k : Int))) rfl rfl) ?_)
        refine rw_cons (op_pv (w0 rfl) rfl rfl (pv_move (v := (.slice A38 (placeV p22 xs23 m24).length c39)) rfl rfl) ?_)
        refine rw_cons (op_pv (w0 rfl) rfl rfl (pv_len Try.underlying24 rfl rfl) ?_)
        refine rw_cons (op_pv (w0 rfl) rfl rfl (pv_lss rfl rfl rfl) ?_)
        refine rw_nil (hK98 _ _ ?_)
        refine hK96 _ _ ?_
        refine cw_cond rfl (fun h99 => ?_) (fun h99 => ?_)
        · -- then
          replace h99 := of_decide_eq_true h99
          refine cw_skip ?_
          refine hK94 _ _ ?_
          refine cw_seq fun K100 hK101 => ?_
          refine cw_block ?_
          refine cw_seq fun K102 hK103 => ?_
          refine cw_seq fun K104 hK105 => ?_
          refine cw_drawn (fun u => Ch [] w81 u) (.free 0 (.free 1 (.free 2 (.free 3 (.free 4 (.free 5 (.free 6 (.free 7 (.free 8 (.free 10 (.free 11 (.free 12 (.free 13 (.free 14 (.one 9 true (.one 15 true (.free 16 (.free 17 (.done))))))))))))))))))) (by kernel_rfl) (by kernel_rfl) (Ch.refl _ _).drew fun K109 hK110 => ?_
          obtain ⟨w106, hw_, hch107, hsz108⟩ : ∃ w1 : World, w1 = w81.drew ∧ Ch [] w81 w1 ∧ w1.heap.size = w81.heap.size := ⟨_, rfl, (Ch.refl _ _).drew, rfl⟩
          rw [← hw_]; clear hw_
          have hr111 : Ch [] w81 w106 := hch107.sub (fun s hs => by cases hs)
          have hR0_r := hR0
          have hO27_r := hO27
          have hO40_r := hO40
          have hO53_r := hO53
          have hsz112 := hch107.size
          replace hR0 := hR0.ch0 hch107
          replace hO27 := hO27.ch0 hch107
          replace hO40 := hO40.ch0 hch107
          replace hO53 := hO53.ch0 hch107
          replace hc := hc.step0 hch107
          refine tw_free rfl (w0 rfl) rfl rfl (fun u hu => (pv_move (v := (.int .i64 (k : Int))) rfl rfl : PV _ _ _ _) u) ?_
          refine tw_free rfl (w0 rfl) rfl rfl (fun u hu => (pv_gtr rfl rfl rfl : PV _ _ _ _) u) ?_
          refine tw_free rfl (w0 rfl) rfl rfl (fun u hu => (pv_move (v := (.bool (decide (0 < (k : Int))))) rfl rfl : PV _ _ _ _) u) ?_
          refine tw_split 64 rfl (fun hb113 => ?_) (fun hb113 => ?_)
          · -- yes
            replace hb113 := of_decide_eq_true hb113
            refine tw_free rfl (w1y rfl rfl rfl rfl) rfl rfl (fun u hu => (pv_move (v := (.int .i64 p22)) rfl rfl : PV _ _ _ _) u) ?_
            refine tw_free rfl (w1y rfl rfl rfl rfl) rfl rfl (fun u hu => (pv_move (v := (.slice A38 (placeV p22 xs23 m24).length c39)) rfl rfl : PV _ _ _ _) u) ?_
            refine tw_free rfl (w1y rfl rfl rfl rfl) rfl rfl (fun u hu => (pv_move (v := (.int .i64 (k : Int))) rfl rfl : PV _ _ _ _) u) ?_
            refine tw_free rfl (w1y rfl rfl rfl rfl) rfl rfl (fun u hu => (pv_sub rfl rfl rfl (by omega) (by omega) : PV _ _ _ _) u) ?_
            refine tw_free rfl (w1y rfl rfl rfl rfl) rfl rfl (fun u hu => (pv_idx Try.underlying24 T3 rfl rfl rfl ((hO40.rs (fun _ => rfl)).some (k := ((k : Int) - 1).toNat) (by omega)) (by omega) (by omega) : PV _ _ _ _) u) ?_
            refine tw_free rfl (w1y rfl rfl rfl rfl) rfl rfl (fun u hu => lv_load T3 rfl rfl (((hO40_r.ch0 hu).rs (fun _ => rfl)).cell0 (k := ((k : Int) - 1).toNat) (by omega) rfl)) ?_
            refine tw_free rfl (w1y rfl rfl rfl rfl) rfl rfl (fun u hu => (pv_move (v := (.int .i64 p22)) rfl rfl : PV _ _ _ _) u) ?_
            refine tw_free rfl (w1y rfl rfl rfl rfl) rfl rfl (fun u hu => (pv_move (v := (.slice A38 (placeV p22 xs23 m24).length c39)) rfl rfl : PV _ _ _ _) u) ?_
            refine tw_free rfl (w1y rfl rfl rfl rfl) rfl rfl (fun u hu => (pv_move (v := (.int .i64 (k : Int))) rfl rfl : PV _ _ _ _) u) ?_
            refine tw_free rfl (w1y rfl rfl rfl rfl) rfl rfl (fun u hu => (pv_idx Try.underlying24 T3 rfl rfl rfl ((hO40.rs (fun _ => rfl)).some (k := k) (by omega)) (by omega) (by omega) : PV _ _ _ _) u) ?_
            refine tw_free rfl (w1y rfl rfl rfl rfl) rfl rfl (fun u hu => lv_load T3 rfl rfl (((hO40_r.ch0 hu).rs (fun _ => rfl)).cell0 (k := k) (by omega) rfl)) ?_
            refine tw_one rfl (op_call (w1y rfl rfl rfl rfl) rfl rfl (rc_call C14 rfl rfl) (PlaceScore_i p22 (el (placeV p22 xs23 m24) ((k : Int) - 1).toNat) _  ) ?_)
            rintro _ w114 ⟨rfl, hch115⟩
            have hsz116 := hch115.size
            replace hR0 := hR0.ch0 hch115
            replace hO27 := hO27.ch0 hch115
            replace hO40 := hO40.ch0 hch115
            replace hO53 := hO53.ch0 hch115
            replace hc := hc.step0 hch115
            replace hr111 := hr111.step0 hch115
            have hsb117 := scoreOf_bd p22 (el (placeV p22 xs23 m24) ((k : Int) - 1).toNat)
            refine ⟨fun _ => hr111, ?_⟩
            refine tw_one rfl (op_call (w1y rfl rfl rfl rfl) rfl rfl (rc_call C14 rfl rfl) (PlaceScore_i p22 (el (placeV p22 xs23 m24) k) _  ) ?_)
            rintro _ w118 ⟨rfl, hch119⟩
            have hsz120 := hch119.size
            replace hR0 := hR0.ch0 hch119
            replace hO27 := hO27.ch0 hch119
            replace hO40 := hO40.ch0 hch119
            replace hO53 := hO53.ch0 hch119
            replace hc := hc.step0 hch119
            replace hr111 := hr111.step0 hch119
            have hsb121 := scoreOf_bd p22 (el (placeV p22 xs23 m24) k)
            refine ⟨fun _ => hr111, ?_⟩
            refine tw_free rfl (w1y rfl rfl rfl rfl) rfl rfl (fun u hu => (pv_lss rfl rfl rfl : PV _ _ _ _) u) ?_
            refine tw_free rfl (w0 rfl) rfl rfl (fun u hu => (pv_pickT (v := (.bool (decide ((scoreOf p22 (el (placeV p22 xs23 m24) ((k : Int) - 1).toNat)) < (scoreOf p22 (el (placeV p22 xs23 m24) k)))))) rfl rfl rfl : PV _ _ _ _) u) ?_
            clear hO27_r
            clear hO40_r
            clear hO53_r
            clear hR0_r
            refine tw_done (hK110 _ _ ?_)
            refine hK105 _ _ ?_
            refine cw_cond rfl (fun h122 => ?_) (fun h122 => ?_)
            · -- then
              replace h122 := of_decide_eq_true h122
              refine cw_seq fun K123 hK124 => ?_
              refine cw_region fun K125 hK126 => ?_
              refine rw_cons (op_pv (w0 rfl) rfl rfl (pv_assign (v := (.bool false)) rfl rfl) ?_)
              refine rw_nil (hK126 _ _ ?_)
              refine hK124 _ _ ?_
              refine cw_ret ?_
              refine fin1 rfl ?_
              exfalso
              first
                | exact best_step hok (i := k) (j := ((k : Int) - 1).toNat) (by omega) (by omega) (by assumption)
                | exact best_other hok (i := k) (j := j) (by omega) (by omega) (by assumption) (by assumption)
            · -- else
              replace h122 := of_decide_eq_false h122
              refine cw_skip ?_
              refine hK103 _ _ ?_
              refine cw_seq fun K127 hK128 => ?_
              refine cw_region fun K129 hK130 => ?_
              refine rw_cons (op_pv (w0 rfl) rfl rfl (pv_assign (v := (.int .i64 0)) rfl rfl) ?_)
              refine rw_nil (hK130 _ _ ?_)
              refine hK128 _ _ ?_
              refine cw_block ?_
              refine cw_loop (σ := Nat) (fun j => [(11, (.int .i64 (j : Int))), (3, (.int .i64 p22)), (4, (.slice A25 xs23.length c26)), (6, (.slice A38 (placeV p22 xs23 m24).length c39)), (10, (.int .i64 (k : Int))), (56, (.int .i64 (k : Int))), (57, (.slice A38 (placeV p22 xs23 m24).length c39)), (58, (.int .i64 ((placeV p22 xs23 m24).length : Int))), (59, (.bool (decide ((k : Int) < ((placeV p22 xs23 m24).length : Int))))), (62, (.int .i64 (k : Int))), (63, (.bool (decide (0 < (k : Int))))), (64, (.bool true)), (65, (.int .i64 p22)), (66, (.slice A38 (placeV p22 xs23 m24).length c39)), (67, (.int .i64 (k : Int))), (68, (.int .i64 ((k : Int) - 1))), (69, (.pointer (some ((adr A38).add (((k : Int) - 1).toNat * 1))))), (70, (.int .i64 (el (placeV p22 xs23 m24) ((k : Int) - 1).toNat))), (71, (.int .i64 (scoreOf p22 (el (placeV p22 xs23 m24) ((k : Int) - 1).toNat)))), (72, (.int .i64 p22)), (73, (.slice A38 (placeV p22 xs23 m24).length c39)), (74, (.int .i64 (k : Int))), (75, (.pointer (some ((adr A38).add (k * 1))))), (76, (.int .i64 (el (placeV p22 xs23 m24) k))), (77, (.int .i64 (scoreOf p22 (el (placeV p22 xs23 m24) k)))), (78, (.bool (decide ((scoreOf p22 (el (placeV p22 xs23 m24) ((k : Int) - 1).toNat)) < (scoreOf p22 (el (placeV p22 xs23 m24) k)))))), (79, (.bool (decide ((scoreOf p22 (el (placeV p22 xs23 m24) ((k : Int) - 1).toNat)) < (scoreOf p22 (el (placeV p22 xs23 m24) k))))))]) (fun j W => (j ≤ xs23.length) ∧ RS encU 1 W w.heap.size A0 n0 xs0 ∧ Own encI 1 W w.heap.size 3 (.slice A25 xs23.length c26) xs23 ∧ Own encI 1 W w20.heap.size 3 (.slice A38 (placeV p22 xs23 m24).length c39) (placeV p22 xs23 m24) ∧ Own encI 1 W w36.heap.size 3 (.slice A51 (placeV p22 xs23 m24).length c52) (placeV p22 xs23 m24) ∧ Ch [] w W ∧ w20.heap.size ≤ W.heap.size ∧ w36.heap.size ≤ W.heap.size) (fun j => xs23.length - j) 0 ?_ ?_ ?_
              · exact ⟨rfl, rfl, rfl, rfl, rfl, rfl, rfl, rfl, rfl, rfl, rfl, rfl, rfl, rfl, rfl, rfl, rfl, rfl, rfl, rfl, rfl, rfl, rfl, rfl, rfl, rfl, rfl, trivial⟩
              · refine ⟨Nat.zero_le _, hR0, hO27, hO40, hO53, hc, (by omega), (by omega)⟩
              · rintro j J137 w131 ⟨hj, hR0, hO27, hO40, hO53, hc, hmono132, hmono133⟩ K134 hK135
                have hsz139 := hc.size
                have hub140 := hO27.lt
                have hub141 := hO40.lt
                have hub142 := hO53.lt
                refine cw_seq fun K143 hK144 => ?_
                refine cw_seq fun K145 hK146 => ?_
                refine cw_region fun K147 hK148 => ?_
                refine rw_cons (op_pv (w0 rfl) rfl rfl (pv_move (v := (.int .i64 (j : Int))) rfl rfl) ?_)
                refine rw_cons (op_pv (w0 rfl) rfl rfl (pv_move (v := (.slice A25 xs23.length c26)) rfl rfl) ?_)
                refine rw_cons (op_pv (w0 rfl) rfl rfl (pv_len Try.underlying24 rfl rfl) ?_)
                refine rw_cons (op_pv (w0 rfl) rfl rfl (pv_lss rfl rfl rfl) ?_)
                refine rw_nil (hK148 _ _ ?_)
                refine hK146 _ _ ?_
                refine cw_cond rfl (fun h149 => ?_) (fun h149 => ?_)
                · -- then
                  replace h149 := of_decide_eq_true h149
                  refine cw_skip ?_
                  refine hK144 _ _ ?_
                  refine cw_seq fun K150 hK151 => ?_
                  refine cw_block ?_
                  refine cw_seq fun K152 hK153 => ?_
                  refine cw_drawn (fun u => Ch [] w131 u) (.free 0 (.free 1 (.free 2 (.free 3 (.free 4 (.one 5 true (.free 6 (.free 7 (.free 8 (.free 9 (.free 10 (.free 11 (.free 12 (.free 14 (.free 15 (.free 16 (.free 17 (.free 18 (.one 13 true (.one 19 true (.free 20 (.free 21 (.done))))))))))))))))))))))) (by kernel_rfl) (by kernel_rfl) (Ch.refl _ _).drew fun K157 hK158 => ?_
                  obtain ⟨w154, hw_, hch155, hsz156⟩ : ∃ w1 : World, w1 = w131.drew ∧ Ch [] w131 w1 ∧ w1.heap.size = w131.heap.size := ⟨_, rfl, (Ch.refl _ _).drew, rfl⟩
                  rw [← hw_]; clear hw_
                  have hr159 : Ch [] w131 w154 := hch155.sub (fun s hs => by cases hs)
                  have hR0_r := hR0
                  have hO27_r := hO27
                  have hO40_r := hO40
                  have hO53_r := hO53
                  have hsz160 := hch155.size
                  replace hR0 := hR0.ch0 hch155
                  replace hO27 := hO27.ch0 hch155
                  replace hO40 := hO40.ch0 hch155
                  replace hO53 := hO53.ch0 hch155
                  replace hc := hc.step0 hch155
                  refine tw_free rfl (w0 rfl) rfl rfl (fun u hu => (pv_move (v := (.slice A38 (placeV p22 xs23 m24).length c39)) rfl rfl : PV _ _ _ _) u) ?_
                  refine tw_free rfl (w0 rfl) rfl rfl (fun u hu => (pv_move (v := (.slice A25 xs23.length c26)) rfl rfl : PV _ _ _ _) u) ?_
                  refine tw_free rfl (w0 rfl) rfl rfl (fun u hu => (pv_move (v := (.int .i64 (j : Int))) rfl rfl : PV _ _ _ _) u) ?_
                  refine tw_free rfl (w0 rfl) rfl rfl (fun u hu => (pv_idx Try.underlying24 T3 rfl rfl rfl ((hO27.rs (fun _ => rfl)).some (k := j) (by omega)) (by omega) (by omega) : PV _ _ _ _) u) ?_
                  refine tw_free rfl (w0 rfl) rfl rfl (fun u hu => lv_load T3 rfl rfl (((hO27_r.ch0 hu).rs (fun _ => rfl)).cell0 (k := j) (by omega) rfl)) ?_
                  refine tw_one rfl (op_call (w0 rfl) rfl rfl (rc_call C27 rfl rfl) (hasInt_ok _ (placeV p22 xs23 m24).length _ (placeV p22 xs23 m24) (el xs23 j) _ (hO40.rs (fun _ => rfl)) (by omega)) ?_)
                  rintro _ w161 ⟨rfl, hch162⟩
                  have hsz163 := hch162.size
                  replace hR0 := hR0.ch0 hch162
                  replace hO27 := hO27.ch0 hch162
                  replace hO40 := hO40.ch0 hch162
                  replace hO53 := hO53.ch0 hch162
                  replace hc := hc.step0 hch162
                  replace hr159 := hr159.step0 hch162
                  refine ⟨fun _ => hr159, ?_⟩
                  refine tw_free rfl (w0 rfl) rfl rfl (fun u hu => (pv_not rfl rfl : PV _ _ _ _) u) ?_
                  refine tw_free rfl (w0 rfl) rfl rfl (fun u hu => (pv_move (v := (.bool (!(dec ((el xs23 j) ∈ (placeV p22 xs23 m24)))))) rfl rfl : PV _ _ _ _) u) ?_
                  refine tw_split 93 rfl (fun hb164 => ?_) (fun hb164 => ?_)
                  · -- yes
                    replace hb164 := not_t hb164
                    replace hb164 := dec_f hb164
                    refine tw_free rfl (w1y rfl rfl rfl rfl) rfl rfl (fun u hu => (pv_move (v := (.int .i64 p22)) rfl rfl : PV _ _ _ _) u) ?_
                    refine tw_free rfl (w1y rfl rfl rfl rfl) rfl rfl (fun u hu => (pv_move (v := (.slice A25 xs23.length c26)) rfl rfl : PV _ _ _ _) u) ?_
                    refine tw_free rfl (w1y rfl rfl rfl rfl) rfl rfl (fun u hu => (pv_move (v := (.int .i64 (j : Int))) rfl rfl : PV _ _ _ _) u) ?_
                    refine tw_free rfl (w1y rfl rfl rfl rfl) rfl rfl (fun u hu => (pv_idx Try.underlying24 T3 rfl rfl rfl ((hO27.rs (fun _ => rfl)).some (k := j) (by omega)) (by omega) (by omega) : PV _ _ _ _) u) ?_
                    refine tw_free rfl (w1y rfl rfl rfl rfl) rfl rfl (fun u hu => lv_load T3 rfl rfl (((hO27_r.ch0 hu).rs (fun _ => rfl)).cell0 (k := j) (by omega) rfl)) ?_
                    refine tw_free rfl (w1y rfl rfl rfl rfl) rfl rfl (fun u hu => (pv_move (v := (.int .i64 p22)) rfl rfl : PV _ _ _ _) u) ?_
                    refine tw_free rfl (w1y rfl rfl rfl rfl) rfl rfl (fun u hu => (pv_move (v := (.slice A38 (placeV p22 xs23 m24).length c39)) rfl rfl : PV _ _ _ _) u) ?_
                    refine tw_free rfl (w1y rfl rfl rfl rfl) rfl rfl (fun u hu => (pv_move (v := (.int .i64 (k : Int))) rfl rfl : PV _ _ _ _) u) ?_
                    refine tw_free rfl (w1y rfl rfl rfl rfl) rfl rfl (fun u hu => (pv_idx Try.underlying24 T3 rfl rfl rfl ((hO40.rs (fun _ => rfl)).some (k := k) (by omega)) (by omega) (by omega) : PV _ _ _ _) u) ?_
                    refine tw_free rfl (w1y rfl rfl rfl rfl) rfl rfl (fun u hu => lv_load T3 rfl rfl (((hO40_r.ch0 hu).rs (fun _ => rfl)).cell0 (k := k) (by omega) rfl)) ?_
                    refine tw_one rfl (op_call (w1y rfl rfl rfl rfl) rfl rfl (rc_call C14 rfl rfl) (PlaceScore_i p22 (el xs23 j) _  ) ?_)
                    rintro _ w165 ⟨rfl, hch166⟩
                    have hsz167 := hch166.size
                    replace hR0 := hR0.ch0 hch166
                    replace hO27 := hO27.ch0 hch166
                    replace hO40 := hO40.ch0 hch166
                    replace hO53 := hO53.ch0 hch166
                    replace hc := hc.step0 hch166
                    replace hr159 := hr159.step0 hch166
                    have hsb168 := scoreOf_bd p22 (el xs23 j)
                    refine ⟨fun _ => hr159, ?_⟩
                    refine tw_one rfl (op_call (w1y rfl rfl rfl rfl) rfl rfl (rc_call C14 rfl rfl) (PlaceScore_i p22 (el (placeV p22 xs23 m24) k) _  ) ?_)
                    rintro _ w169 ⟨rfl, hch170⟩
                    have hsz171 := hch170.size
                    replace hR0 := hR0.ch0 hch170
                    replace hO27 := hO27.ch0 hch170
                    replace hO40 := hO40.ch0 hch170
                    replace hO53 := hO53.ch0 hch170
                    replace hc := hc.step0 hch170
                    replace hr159 := hr159.step0 hch170
                    have hsb172 := scoreOf_bd p22 (el (placeV p22 xs23 m24) k)
                    refine ⟨fun _ => hr159, ?_⟩
                    refine tw_free rfl (w1y rfl rfl rfl rfl) rfl rfl (fun u hu => (pv_gtr rfl rfl rfl : PV _ _ _ _) u) ?_
                    refine tw_free rfl (w0 rfl) rfl rfl (fun u hu => (pv_pickT (v := (.bool (decide ((scoreOf p22 (el (placeV p22 xs23 m24) k)) < (scoreOf p22 (el xs23 j)))))) rfl rfl rfl : PV _ _ _ _) u) ?_
                    clear hO27_r
                    clear hO40_r
                    clear hO53_r
                    clear hR0_r
                    refine tw_done (hK158 _ _ ?_)
                    refine hK153 _ _ ?_
                    refine cw_cond rfl (fun h173 => ?_) (fun h173 => ?_)
                    · -- then
                      replace h173 := of_decide_eq_true h173
                      refine cw_seq fun K174 hK175 => ?_
                      refine cw_region fun K176 hK177 => ?_
                      refine rw_cons (op_pv (w0 rfl) rfl rfl (pv_assign (v := (.bool false)) rfl rfl) ?_)
                      refine rw_nil (hK177 _ _ ?_)
                      refine hK175 _ _ ?_
                      refine cw_ret ?_
                      refine fin1 rfl ?_
                      exfalso
                      first
                        | exact best_step hok (i := k) (j := ((k : Int) - 1).toNat) (by omega) (by omega) (by assumption)
                        | exact best_other hok (i := k) (j := j) (by omega) (by omega) (by assumption) (by assumption)
                    · -- else
                      replace h173 := of_decide_eq_false h173
                      refine cw_skip ?_
                      refine hK151 _ _ ?_
                      refine cw_region fun K178 hK179 => ?_
                      refine rw_cons (op_pv (w0 rfl) rfl rfl (pv_move (v := (.int .i64 (j : Int))) rfl rfl) ?_)
                      refine rw_cons (op_pv (w0 rfl) rfl rfl (pv_add rfl rfl rfl (by omega) (by omega)) ?_)
                      refine rw_cons (op_pv (w0 rfl) rfl rfl (pv_assign (v := (.int .i64 ((j : Int) + 1))) rfl rfl) ?_)
                      refine rw_nil (hK179 _ _ ?_)
                      refine hK135 _ _ (j + 1) ⟨(iv (by omega)), rfl, rfl, rfl, rfl, rfl, rfl, rfl, rfl, rfl, rfl, rfl, rfl, rfl, rfl, rfl, rfl, rfl, rfl, rfl, rfl, rfl, rfl, rfl, rfl, rfl, rfl, trivial⟩ ⟨?_, hR0, hO27, hO40, hO53, hc, (by omega), (by omega)⟩ ?_
                      · omega
                      · (first | omega | (simp only []; omega))
                  · -- no
                    replace hb164 := not_f hb164
                    replace hb164 := dec_t hb164
                    refine tw_pass rfl (w1n1 rfl rfl rfl rfl) rfl rfl ?_
                    refine tw_pass rfl (w1n1 rfl rfl rfl rfl) rfl rfl ?_
                    refine tw_pass rfl (w1n1 rfl rfl rfl rfl) rfl rfl ?_
                    refine tw_pass rfl (w1n1 rfl rfl rfl rfl) rfl rfl ?_
                    refine tw_pass rfl (w1n1 rfl rfl rfl rfl) rfl rfl ?_
                    refine tw_pass rfl (w1n1 rfl rfl rfl rfl) rfl rfl ?_
                    refine tw_pass rfl (w1n1 rfl rfl rfl rfl) rfl rfl ?_
                    refine tw_pass rfl (w1n1 rfl rfl rfl rfl) rfl rfl ?_
                    refine tw_pass rfl (w1n1 rfl rfl rfl rfl) rfl rfl ?_
                    refine tw_pass rfl (w1n1 rfl rfl rfl rfl) rfl rfl ?_
                    refine tw_one rfl (op_pass (w1n1 rfl rfl rfl rfl) rfl rfl ?_)
                    refine ⟨fun _ => hr159, ?_⟩
                    refine tw_one rfl (op_pass (w1n1 rfl rfl rfl rfl) rfl rfl ?_)
                    refine ⟨fun _ => hr159, ?_⟩
                    refine tw_pass rfl (w1n1 rfl rfl rfl rfl) rfl rfl ?_
                    refine tw_free rfl (w0 rfl) rfl rfl (fun u hu => (pv_pickF (v := (.bool false)) rfl rfl rfl : PV _ _ _ _) u) ?_
                    clear hO27_r
                    clear hO40_r
                    clear hO53_r
                    clear hR0_r
                    refine tw_done (hK158 _ _ ?_)
                    refine hK153 _ _ ?_
                    refine cw_cond rfl (fun h180 => ?_) (fun h180 => ?_)
                    · -- then
                      cases h180
                    · -- else
                      clear h180
                      refine cw_skip ?_
                      refine hK151 _ _ ?_
                      refine cw_region fun K181 hK182 => ?_
                      refine rw_cons (op_pv (w0 rfl) rfl rfl (pv_move (v := (.int .i64 (j : Int))) rfl rfl) ?_)
                      refine rw_cons (op_pv (w0 rfl) rfl rfl (pv_add rfl rfl rfl (by omega) (by omega)) ?_)
                      refine rw_cons (op_pv (w0 rfl) rfl rfl (pv_assign (v := (.int .i64 ((j : Int) + 1))) rfl rfl) ?_)
                      refine rw_nil (hK182 _ _ ?_)
                      refine hK135 _ _ (j + 1) ⟨(iv (by omega)), rfl, rfl, rfl, rfl, rfl, rfl, rfl, rfl, rfl, rfl, rfl, rfl, rfl, rfl, rfl, rfl, rfl, rfl, rfl, rfl, rfl, rfl, rfl, rfl, rfl, rfl, trivial⟩ ⟨?_, hR0, hO27, hO40, hO53, hc, (by omega), (by omega)⟩ ?_
                      · omega
                      · (first | omega | (simp only []; omega))
                · -- else
                  replace h149 := of_decide_eq_false h149
                  refine cw_exit ?_
                  refine hK101 _ _ ?_
                  refine cw_region fun K183 hK184 => ?_
                  refine rw_cons (op_pv (w0 rfl) rfl rfl (pv_move (v := (.int .i64 (k : Int))) rfl rfl) ?_)
                  refine rw_cons (op_pv (w0 rfl) rfl rfl (pv_add rfl rfl rfl (by omega) (by omega)) ?_)
                  refine rw_cons (op_pv (w0 rfl) rfl rfl (pv_assign (v := (.int .i64 ((k : Int) + 1))) rfl rfl) ?_)
                  refine rw_nil (hK184 _ _ ?_)
                  refine hK85 _ _ (k + 1) ⟨(iv (by omega)), rfl, rfl, rfl, trivial⟩ ⟨?_, hR0, hO27, hO40, hO53, hc, (by omega), (by omega)⟩ ?_
                  · omega
                  · (first | omega | (simp only []; omega))
          · -- no
            replace hb113 := of_decide_eq_false hb113
            refine tw_pass rfl (w1n1 rfl rfl rfl rfl) rfl rfl ?_
            refine tw_pass rfl (w1n1 rfl rfl rfl rfl) rfl rfl ?_
            refine tw_pass rfl (w1n1 rfl rfl rfl rfl) rfl rfl ?_
            refine tw_pass rfl (w1n1 rfl rfl rfl rfl) rfl rfl ?_
            refine tw_pass rfl (w1n1 rfl rfl rfl rfl) rfl rfl ?_
            refine tw_pass rfl (w1n1 rfl rfl rfl rfl) rfl rfl ?_
            refine tw_pass rfl (w1n1 rfl rfl rfl rfl) rfl rfl ?_
            refine tw_pass rfl (w1n1 rfl rfl rfl rfl) rfl rfl ?_
            refine tw_pass rfl (w1n1 rfl rfl rfl rfl) rfl rfl ?_
            refine tw_pass rfl (w1n1 rfl rfl rfl rfl) rfl rfl ?_
            refine tw_pass rfl (w1n1 rfl rfl rfl rfl) rfl rfl ?_
            refine tw_one rfl (op_pass (w1n1 rfl rfl rfl rfl) rfl rfl ?_)
            refine ⟨fun _ => hr111, ?_⟩
            refine tw_one rfl (op_pass (w1n1 rfl rfl rfl rfl) rfl rfl ?_)
            refine ⟨fun _ => hr111, ?_⟩
            refine tw_pass rfl (w1n1 rfl rfl rfl rfl) rfl rfl ?_
            refine tw_free rfl (w0 rfl) rfl rfl (fun u hu => (pv_pickF (v := (.bool false)) rfl rfl rfl : PV _ _ _ _) u) ?_
            clear hO27_r
            clear hO40_r
            clear hO53_r
            clear hR0_r
            refine tw_done (hK110 _ _ ?_)
            refine hK105 _ _ ?_
            refine cw_cond rfl (fun h185 => ?_) (fun h185 => ?_)
            · -- then
              cases h185
            · -- else
              clear h185
              refine cw_skip ?_
              refine hK103 _ _ ?_
              refine cw_seq fun K186 hK187 => ?_
              refine cw_region fun K188 hK189 => ?_
              refine rw_cons (op_pv (w0 rfl) rfl rfl (pv_assign (v := (.int .i64 0)) rfl rfl) ?_)
              refine rw_nil (hK189 _ _ ?_)
              refine hK187 _ _ ?_
              refine cw_block ?_
              refine cw_loop (σ := Nat) (fun j => [(11, (.int .i64 (j : Int))), (3, (.int .i64 p22)), (4, (.slice A25 xs23.length c26)), (6, (.slice A38 (placeV p22 xs23 m24).length c39)), (10, (.int .i64 (k : Int))), (56, (.int .i64 (k : Int))), (57, (.slice A38 (placeV p22 xs23 m24).length c39)), (58, (.int .i64 ((placeV p22 xs23 m24).length : Int))), (59, (.bool (decide ((k : Int) < ((placeV p22 xs23 m24).length : Int))))), (62, (.int .i64 (k : Int))), (63, (.bool (decide (0 < (k : Int))))), (64, (.bool false)), (79, (.bool false))]) (fun j W => (j ≤ xs23.length) ∧ RS encU 1 W w.heap.size A0 n0 xs0 ∧ Own encI 1 W w.heap.size 3 (.slice A25 xs23.length c26) xs23 ∧ Own encI 1 W w20.heap.size 3 (.slice A38 (placeV p22 xs23 m24).length c39) (placeV p22 xs23 m24) ∧ Own encI 1 W w36.heap.size 3 (.slice A51 (placeV p22 xs23 m24).length c52) (placeV p22 xs23 m24) ∧ Ch [] w W ∧ w20.heap.size ≤ W.heap.size ∧ w36.heap.size ≤ W.heap.size) (fun j => xs23.length - j) 0 ?_ ?_ ?_
              · exact ⟨rfl, rfl, rfl, rfl, rfl, rfl, rfl, rfl, rfl, rfl, rfl, rfl, rfl, trivial⟩
              · refine ⟨Nat.zero_le _, hR0, hO27, hO40, hO53, hc, (by omega), (by omega)⟩
              · rintro j J196 w190 ⟨hj, hR0, hO27, hO40, hO53, hc, hmono191, hmono192⟩ K193 hK194
                have hsz198 := hc.size
                have hub199 := hO27.lt
                have hub200 := hO40.lt
                have hub201 := hO53.lt
                refine cw_seq fun K202 hK203 => ?_
                refine cw_seq fun K204 hK205 => ?_
                refine cw_region fun K206 hK207 => ?_
                refine rw_cons (op_pv (w0 rfl) rfl rfl (pv_move (v := (.int .i64 (j : Int))) rfl rfl) ?_)
                refine rw_cons (op_pv (w0 rfl) rfl rfl (pv_move (v := (.slice A25 xs23.length c26)) rfl rfl) ?_)
                refine rw_cons (op_pv (w0 rfl) rfl rfl (pv_len Try.underlying24 rfl rfl) ?_)
                refine rw_cons (op_pv (w0 rfl) rfl rfl (pv_lss rfl rfl rfl) ?_)
                refine rw_nil (hK207 _ _ ?_)
                refine hK205 _ _ ?_
                refine cw_cond rfl (fun h208 => ?_) (fun h208 => ?_)
                · -- then
                  replace h208 := of_decide_eq_true h208
                  refine cw_skip ?_
                  refine hK203 _ _ ?_
                  refine cw_seq fun K209 hK210 => ?_
                  refine cw_block ?_
                  refine cw_seq fun K211 hK212 => ?_
                  refine cw_drawn (fun u => Ch [] w190 u) (.free 0 (.free 1 (.free 2 (.free 3 (.free 4 (.one 5 true (.free 6 (.free 7 (.free 8 (.free 9 (.free 10 (.free 11 (.free 12 (.free 14 (.free 15 (.free 16 (.free 17 (.free 18 (.one 13 true (.one 19 true (.free 20 (.free 21 (.done))))))))))))))))))))))) (by kernel_rfl) (by kernel_rfl) (Ch.refl _ _).drew fun K216 hK217 => ?_
                  obtain ⟨w213, hw_, hch214, hsz215⟩ : ∃ w1 : World, w1 = w190.drew ∧ Ch [] w190 w1 ∧ w1.heap.size = w190.heap.size := ⟨_, rfl, (Ch.refl _ _).drew, rfl⟩
                  rw [← hw_]; clear hw_
                  have hr218 : Ch [] w190 w213 := hch214.sub (fun s hs => by cases hs)
                  have hR0_r := hR0
                  have hO27_r := hO27
                  have hO40_r := hO40
                  have hO53_r := hO53
                  have hsz219 := hch214.size
                  replace hR0 := hR0.ch0 hch214
                  replace hO27 := hO27.ch0 hch214
                  replace hO40 := hO40.ch0 hch214
                  replace hO53 := hO53.ch0 hch214
                  replace hc := hc.step0 hch214
                  refine tw_free rfl (w0 rfl) rfl rfl (fun u hu => (pv_move (v := (.slice A38 (placeV p22 xs23 m24).length c39)) rfl rfl : PV _ _ _ _) u) ?_
                  refine tw_free rfl (w0 rfl) rfl rfl (fun u hu => (pv_move (v := (.slice A25 xs23.length c26)) rfl rfl : PV _ _ _ _) u) ?_
                  refine tw_free rfl (w0 rfl) rfl rfl (fun u hu => (pv_move (v := (.int .i64 (j : Int))) rfl rfl : PV _ _ _ _) u) ?_
                  refine tw_free rfl (w0 rfl) rfl rfl (fun u hu => (pv_idx Try.underlying24 T3 rfl rfl rfl ((hO27.rs (fun _ => rfl)).some (k := j) (by omega)) (by omega) (by omega) : PV _ _ _ _) u) ?_
                  refine tw_free rfl (w0 rfl) rfl rfl (fun u hu => lv_load T3 rfl rfl (((hO27_r.ch0 hu).rs (fun _ => rfl)).cell0 (k := j) (by omega) rfl)) ?_
                  refine tw_one rfl (op_call (w0 rfl) rfl rfl (rc_call C27 rfl rfl) (hasInt_ok _ (placeV p22 xs23 m24).length _ (placeV p22 xs23 m24) (el xs23 j) _ (hO40.rs (fun _ => rfl)) (by omega)) ?_)
                  rintro _ w220 ⟨rfl, hch221⟩
                  have hsz222 := hch221.size
                  replace hR0 := hR0.ch0 hch221
                  replace hO27 := hO27.ch0 hch221
                  replace hO40 := hO40.ch0 hch221
                  replace hO53 := hO53.ch0 hch221
                  replace hc := hc.step0 hch221
                  replace hr218 := hr218.step0 hch221
                  refine ⟨fun _ => hr218, ?_⟩
                  refine tw_free rfl (w0 rfl) rfl rfl (fun u hu => (pv_not rfl rfl : PV _ _ _ _) u) ?_
                  refine tw_free rfl (w0 rfl) rfl rfl (fun u hu => (pv_move (v := (.bool (!(dec ((el xs23 j) ∈ (placeV p22 xs23 m24)))))) rfl rfl : PV _ _ _ _) u) ?_
                  refine tw_split 93 rfl (fun hb223 => ?_) (fun hb223 => ?_)
                  · -- yes
                    replace hb223 := not_t hb223
                    replace hb223 := dec_f hb223
                    refine tw_free rfl (w1y rfl rfl rfl rfl) rfl rfl (fun u hu => (pv_move (v := (.int .i64 p22)) rfl rfl : PV _ _ _ _) u) ?_
                    refine tw_free rfl (w1y rfl rfl rfl rfl) rfl rfl (fun u hu => (pv_move (v := (.slice A25 xs23.length c26)) rfl rfl : PV _ _ _ _) u) ?_
                    refine tw_free rfl (w1y rfl rfl rfl rfl) rfl rfl (fun u hu => (pv_move (v := (.int .i64 (j : Int))) rfl rfl : PV _ _ _ _) u) ?_
                    refine tw_free rfl (w1y rfl rfl rfl rfl) rfl rfl (fun u hu => (pv_idx Try.underlying24 T3 rfl rfl rfl ((hO27.rs (fun _ => rfl)).some (k := j) (by omega)) (by omega) (by omega) : PV _ _ _ _) u) ?_
                    refine tw_free rfl (w1y rfl rfl rfl rfl) rfl rfl (fun u hu => lv_load T3 rfl rfl (((hO27_r.ch0 hu).rs (fun _ => rfl)).cell0 (k := j) (by omega) rfl)) ?_
                    refine tw_free rfl (w1y rfl rfl rfl rfl) rfl rfl (fun u hu => (pv_move (v := (.int .i64 p22)) rfl rfl : PV _ _ _ _) u) ?_
                    refine tw_free rfl (w1y rfl rfl rfl rfl) rfl rfl (fun u hu => (pv_move (v := (.slice A38 (placeV p22 xs23 m24).length c39)) rfl rfl : PV _ _ _ _) u) ?_
                    refine tw_free rfl (w1y rfl rfl rfl rfl) rfl rfl (fun u hu => (pv_move (v := (.int .i64 (k : Int))) rfl rfl : PV _ _ _ _) u) ?_
                    refine tw_free rfl (w1y rfl rfl rfl rfl) rfl rfl (fun u hu => (pv_idx Try.underlying24 T3 rfl rfl rfl ((hO40.rs (fun _ => rfl)).some (k := k) (by omega)) (by omega) (by omega) : PV _ _ _ _) u) ?_
                    refine tw_free rfl (w1y rfl rfl rfl rfl) rfl rfl (fun u hu => lv_load T3 rfl rfl (((hO40_r.ch0 hu).rs (fun _ => rfl)).cell0 (k := k) (by omega) rfl)) ?_
                    refine tw_one rfl (op_call (w1y rfl rfl rfl rfl) rfl rfl (rc_call C14 rfl rfl) (PlaceScore_i p22 (el xs23 j) _  ) ?_)
                    rintro _ w224 ⟨rfl, hch225⟩
                    have hsz226 := hch225.size
                    replace hR0 := hR0.ch0 hch225
                    replace hO27 := hO27.ch0 hch225
                    replace hO40 := hO40.ch0 hch225
                    replace hO53 := hO53.ch0 hch225
                    replace hc := hc.step0 hch225
                    replace hr218 := hr218.step0 hch225
                    have hsb227 := scoreOf_bd p22 (el xs23 j)
                    refine ⟨fun _ => hr218, ?_⟩
                    refine tw_one rfl (op_call (w1y rfl rfl rfl rfl) rfl rfl (rc_call C14 rfl rfl) (PlaceScore_i p22 (el (placeV p22 xs23 m24) k) _  ) ?_)
                    rintro _ w228 ⟨rfl, hch229⟩
                    have hsz230 := hch229.size
                    replace hR0 := hR0.ch0 hch229
                    replace hO27 := hO27.ch0 hch229
                    replace hO40 := hO40.ch0 hch229
                    replace hO53 := hO53.ch0 hch229
                    replace hc := hc.step0 hch229
                    replace hr218 := hr218.step0 hch229
                    have hsb231 := scoreOf_bd p22 (el (placeV p22 xs23 m24) k)
                    refine ⟨fun _ => hr218, ?_⟩
                    refine tw_free rfl (w1y rfl rfl rfl rfl) rfl rfl (fun u hu => (pv_gtr rfl rfl rfl : PV _ _ _ _) u) ?_
                    refine tw_free rfl (w0 rfl) rfl rfl (fun u hu => (pv_pickT (v := (.bool (decide ((scoreOf p22 (el (placeV p22 xs23 m24) k)) < (scoreOf p22 (el xs23 j)))))) rfl rfl rfl : PV _ _ _ _) u) ?_
                    clear hO27_r
                    clear hO40_r
                    clear hO53_r
                    clear hR0_r
                    refine tw_done (hK217 _ _ ?_)
                    refine hK212 _ _ ?_
                    refine cw_cond rfl (fun h232 => ?_) (fun h232 => ?_)
                    · -- then
                      replace h232 := of_decide_eq_true h232
                      refine cw_seq fun K233 hK234 => ?_
                      refine cw_region fun K235 hK236 => ?_
                      refine rw_cons (op_pv (w0 rfl) rfl rfl (pv_assign (v := (.bool false)) rfl rfl) ?_)
                      refine rw_nil (hK236 _ _ ?_)
                      refine hK234 _ _ ?_
                      refine cw_ret ?_
                      refine fin1 rfl ?_
                      exfalso
                      first
                        | exact best_step hok (i := k) (j := ((k : Int) - 1).toNat) (by omega) (by omega) (by assumption)
                        | exact best_other hok (i := k) (j := j) (by omega) (by omega) (by assumption) (by assumption)
                    · -- else
                      replace h232 := of_decide_eq_false h232
                      refine cw_skip ?_
                      refine hK210 _ _ ?_
                      refine cw_region fun K237 hK238 => ?_
                      refine rw_cons (op_pv (w0 rfl) rfl rfl (pv_move (v := (.int .i64 (j : Int))) rfl rfl) ?_)
                      refine rw_cons (op_pv (w0 rfl) rfl rfl (pv_add rfl rfl rfl (by omega) (by omega)) ?_)
                      refine rw_cons (op_pv (w0 rfl) rfl rfl (pv_assign (v := (.int .i64 ((j : Int) + 1))) rfl rfl) ?_)
                      refine rw_nil (hK238 _ _ ?_)
                      refine hK194 _ _ (j + 1) ⟨(iv (by omega)), rfl, rfl, rfl, rfl, rfl, rfl, rfl, rfl, rfl, rfl, rfl, rfl, trivial⟩ ⟨?_, hR0, hO27, hO40, hO53, hc, (by omega), (by omega)⟩ ?_
                      · omega
                      · (first | omega | (simp only []; omega))
                  · -- no
                    replace hb223 := not_f hb223
                    replace hb223 := dec_t hb223
                    refine tw_pass rfl (w1n1 rfl rfl rfl rfl) rfl rfl ?_
                    refine tw_pass rfl (w1n1 rfl rfl rfl rfl) rfl rfl ?_
                    refine tw_pass rfl (w1n1 rfl rfl rfl rfl) rfl rfl ?_
                    refine tw_pass rfl (w1n1 rfl rfl rfl rfl) rfl rfl ?_
                    refine tw_pass rfl (w1n1 rfl rfl rfl rfl) rfl rfl ?_
                    refine tw_pass rfl (w1n1 rfl rfl rfl rfl) rfl rfl ?_
                    refine tw_pass rfl (w1n1 rfl rfl rfl rfl) rfl rfl ?_
                    refine tw_pass rfl (w1n1 rfl rfl rfl rfl) rfl rfl ?_
                    refine tw_pass rfl (w1n1 rfl rfl rfl rfl) rfl rfl ?_
                    refine tw_pass rfl (w1n1 rfl rfl rfl rfl) rfl rfl ?_
                    refine tw_one rfl (op_pass (w1n1 rfl rfl rfl rfl) rfl rfl ?_)
                    refine ⟨fun _ => hr218, ?_⟩
                    refine tw_one rfl (op_pass (w1n1 rfl rfl rfl rfl) rfl rfl ?_)
                    refine ⟨fun _ => hr218, ?_⟩
                    refine tw_pass rfl (w1n1 rfl rfl rfl rfl) rfl rfl ?_
                    refine tw_free rfl (w0 rfl) rfl rfl (fun u hu => (pv_pickF (v := (.bool false)) rfl rfl rfl : PV _ _ _ _) u) ?_
                    clear hO27_r
                    clear hO40_r
                    clear hO53_r
                    clear hR0_r
                    refine tw_done (hK217 _ _ ?_)
                    refine hK212 _ _ ?_
                    refine cw_cond rfl (fun h239 => ?_) (fun h239 => ?_)
                    · -- then
                      cases h239
                    · -- else
                      clear h239
                      refine cw_skip ?_
                      refine hK210 _ _ ?_
                      refine cw_region fun K240 hK241 => ?_
                      refine rw_cons (op_pv (w0 rfl) rfl rfl (pv_move (v := (.int .i64 (j : Int))) rfl rfl) ?_)
                      refine rw_cons (op_pv (w0 rfl) rfl rfl (pv_add rfl rfl rfl (by omega) (by omega)) ?_)
                      refine rw_cons (op_pv (w0 rfl) rfl rfl (pv_assign (v := (.int .i64 ((j : Int) + 1))) rfl rfl) ?_)
                      refine rw_nil (hK241 _ _ ?_)
                      refine hK194 _ _ (j + 1) ⟨(iv (by omega)), rfl, rfl, rfl, rfl, rfl, rfl, rfl, rfl, rfl, rfl, rfl, rfl, trivial⟩ ⟨?_, hR0, hO27, hO40, hO53, hc, (by omega), (by omega)⟩ ?_
                      · omega
                      · (first | omega | (simp only []; omega))
                · -- else
                  replace h208 := of_decide_eq_false h208
                  refine cw_exit ?_
                  refine hK101 _ _ ?_
                  refine cw_region fun K242 hK243 => ?_
                  refine rw_cons (op_pv (w0 rfl) rfl rfl (pv_move (v := (.int .i64 (k : Int))) rfl rfl) ?_)
                  refine rw_cons (op_pv (w0 rfl) rfl rfl (pv_add rfl rfl rfl (by omega) (by omega)) ?_)
                  refine rw_cons (op_pv (w0 rfl) rfl rfl (pv_assign (v := (.int .i64 ((k : Int) + 1))) rfl rfl) ?_)
                  refine rw_nil (hK243 _ _ ?_)
                  refine hK85 _ _ (k + 1) ⟨(iv (by omega)), rfl, rfl, rfl, trivial⟩ ⟨?_, hR0, hO27, hO40, hO53, hc, (by omega), (by omega)⟩ ?_
                  · omega
                  · (first | omega | (simp only []; omega))
        · -- else
          replace h99 := of_decide_eq_false h99
          refine cw_exit ?_
          refine hK76 _ _ ?_
          refine cw_seq fun K244 hK245 => ?_
          refine cw_region fun K246 hK247 => ?_
          refine rw_cons (op_pv (w0 rfl) rfl rfl (pv_assign (v := (.bool true)) rfl rfl) ?_)
          refine rw_nil (hK247 _ _ ?_)
          refine hK245 _ _ ?_
          refine cw_ret ?_
          refine fin1 rfl ?_
          exact ⟨rfl, hc⟩
end Go.Proofs.Ytielahdnccocdaa
