/-
  The walk of laws.FnPlanLoad, written by program: each line names the law of one operation. Conditions: those of the theorem.
-/
import Derived.Test.YtajdoloefkoekaaProg
import Derived.Test.YtajdoloefkoekaaFspecDrawPlanLoad
import Derived.Test.YtajdoloefkoekaaFimplPlanLoad
import Derived.Test.YtajdoloefkoekaaFspecPlanLoad
import Derived.KernelRfl
namespace Go.Proofs.Ytajdoloefkoekaa
open Go Go.RowKit
set_option linter.unusedVariables false
namespace FnPlanLoad_okF
theorem T37 : TI Try.prog 37 true (.agg #[.int .i64 0, .int .i64 0, .int .i64 0]) 3 24 := TI.mk' Try.underlying37 rfl (by kernel_rfl)
theorem C5 : Callable Try.prog 5 := ⟨_, Try.func5, by kernel_rfl, by kernel_rfl⟩
theorem C6 : Callable Try.prog 6 := ⟨_, Try.func6, by kernel_rfl, by kernel_rfl⟩
theorem C7 : Callable Try.prog 7 := ⟨_, Try.func7, by kernel_rfl, by kernel_rfl⟩
end FnPlanLoad_okF
open FnPlanLoad_okF in
set_option maxHeartbeats 4000000 in
theorem FnPlanLoad_ok (A0 : Option Addr) (n0 c0 : Nat) (bs0 : List UInt8) (A1 : Option Addr) (n1 c1 : Nat) (bs1 : List UInt8) (w : World) (hR0 : RS encU 1 w w.heap.size A0 n0 bs0) (hn0 : n0 ≤ c0) (hR1 : RS encU 1 w w.heap.size A1 n1 bs1) (hn1 : n1 ≤ c1) :
    Fn Try.prog 3 [(.slice A0 n0 c0), (.slice A1 n1 c1)] w fun v w' => v = .bool true ∧ Ch [] w w' := by
  refine fn_of (n := 64) Try.func3 rfl rfl rfl rfl ?_
  have hc : Ch [] w w := Ch.refl _ _
  refine cw_seq fun K1 hK2 => ?_
  refine cw_region fun K3 hK4 => ?_
  refine rw_cons (op_pv (w0 rfl) rfl rfl (pv_assign rfl rfl) ?_)
  refine rw_nil (hK4 _ _ ?_)
  refine hK2 _ _ ?_
  refine cw_seq fun K5 hK6 => ?_
  refine cw_seq fun K7 hK8 => ?_
  refine cw_region fun K9 hK10 => ?_
  refine rw_cons (op_pv (w0 rfl) rfl rfl (pv_move rfl rfl) ?_)
  refine rw_cons (op_pv (w0 rfl) rfl rfl (pv_len Try.underlying22 rfl rfl) ?_)
  refine rw_cons (op_pv (w0 rfl) rfl rfl (pv_gtr rfl rfl rfl) ?_)
  refine rw_cons (op_pv (w0 rfl) rfl rfl (pv_move rfl rfl) ?_)
  refine rw_split 13 rfl (fun hb11 => ?_) (fun hb11 => ?_)
  · -- yes
    replace hb11 := of_decide_eq_true hb11
    refine rw_cons (op_pass (w1n2 rfl rfl rfl rfl) rfl rfl ?_)
    refine rw_cons (op_pass (w1n2 rfl rfl rfl rfl) rfl rfl ?_)
    refine rw_cons (op_pass (w1n2 rfl rfl rfl rfl) rfl rfl ?_)
    refine rw_cons (op_pv (w0 rfl) rfl rfl (pv_pickT rfl rfl rfl) ?_)
    refine rw_nil (hK10 _ _ ?_)
    refine hK8 _ _ ?_
    refine cw_cond rfl (fun h12 => ?_) (fun h12 => ?_)
    · -- then
      clear h12
      refine cw_seq fun K13 hK14 => ?_
      refine cw_region fun K15 hK16 => ?_
      refine rw_cons (op_pv (w0 rfl) rfl rfl (pv_assign rfl rfl) ?_)
      refine rw_nil (hK16 _ _ ?_)
      refine hK14 _ _ ?_
      refine cw_ret ?_
      refine fin1 rfl ?_
      first
        | exact ⟨rfl, hc⟩
        | (exfalso; omega)
        | exact ⟨congrArg Value.bool (decide_eq_true (by omega)), hc⟩
    · -- else
      cases h12
  · -- no
    replace hb11 := of_decide_eq_false hb11
    refine rw_cons (op_pv (w1y rfl rfl rfl rfl) rfl rfl (pv_move rfl rfl) ?_)
    refine rw_cons (op_pv (w1y rfl rfl rfl rfl) rfl rfl (pv_len Try.underlying22 rfl rfl) ?_)
    refine rw_cons (op_pv (w1y rfl rfl rfl rfl) rfl rfl (pv_gtr rfl rfl rfl) ?_)
    refine rw_cons (op_pv (w0 rfl) rfl rfl (pv_pickF rfl rfl rfl) ?_)
    refine rw_nil (hK10 _ _ ?_)
    refine hK8 _ _ ?_
    refine cw_cond rfl (fun h17 => ?_) (fun h17 => ?_)
    · -- then
      replace h17 := of_decide_eq_true h17
      refine cw_seq fun K18 hK19 => ?_
      refine cw_region fun K20 hK21 => ?_
      refine rw_cons (op_pv (w0 rfl) rfl rfl (pv_assign rfl rfl) ?_)
      refine rw_nil (hK21 _ _ ?_)
      refine hK19 _ _ ?_
      refine cw_ret ?_
      refine fin1 rfl ?_
      first
        | exact ⟨rfl, hc⟩
        | (exfalso; omega)
        | exact ⟨congrArg Value.bool (decide_eq_true (by omega)), hc⟩
    · -- else
      replace h17 := of_decide_eq_false h17
      refine cw_skip ?_
      refine hK6 _ _ ?_
      refine cw_seq fun K22 hK23 => ?_
      refine cw_region fun K24 hK25 => ?_
      refine rw_cons (op_pv (w0 rfl) rfl rfl (pv_move rfl rfl) ?_)
      refine rw_cons (op_call (w0 rfl) rfl rfl (rc_call C5 rfl rfl) (DrawPlanLoad_ok _ _ _ _ _ (hR0.more (by omega)) (by omega)) ?_)
      rintro _ w28 ⟨v26, s38, xs27, rfl, hO29, hl30, hch31⟩
      have hsz39 := hch31.size
      replace hR0 := hR0.ch0 hch31
      replace hR1 := hR1.ch0 hch31
      replace hc := hc.step0 hch31
      obtain ⟨A32, c33, hv34, hle35, hmx36⟩ := hO29.form; subst hv34
      have hR37 := hO29.rs (fun _ => rfl)
      refine rw_cons (op_pv (w0 rfl) rfl rfl (pv_move rfl rfl) ?_)
      refine rw_cons (op_pv (w0 rfl) rfl rfl (pv_ext rfl rfl rfl) ?_)
      refine rw_cons (op_pv (w0 rfl) rfl rfl (pv_ext rfl rfl rfl) ?_)
      refine rw_cons (op_pv (w0 rfl) rfl rfl (pv_assign rfl rfl) ?_)
      refine rw_cons (op_pv (w0 rfl) rfl rfl (pv_assign rfl rfl) ?_)
      refine rw_nil (hK25 _ _ ?_)
      refine hK23 _ _ ?_
      refine cw_seq fun K40 hK41 => ?_
      refine cw_region fun K42 hK43 => ?_
      refine rw_cons (op_pv (w0 rfl) rfl rfl (pv_move rfl rfl) ?_)
      refine rw_cons (op_pv (w0 rfl) rfl rfl (pv_move rfl rfl) ?_)
      refine rw_cons (op_call (w0 rfl) rfl rfl (rc_call C6 rfl rfl) (PlanLoad_i _ _ _ xs27 _ _ (hR37.more (by omega)) (by omega)) ?_)
      rintro _ w44 ⟨rfl, hch45⟩
      have hsz46 := hch45.size
      replace hR0 := hR0.ch0 hch45
      replace hR1 := hR1.ch0 hch45
      replace hR37 := hR37.ch0 hch45
      replace hc := hc.step0 hch45
      have hl47 := Nat.le_trans (mvLoad_le xs27 s38) (Nat.le_of_eq hR37.len)
      refine rw_cons (op_pv (w0 rfl) rfl rfl (pv_assign rfl rfl) ?_)
      refine rw_nil (hK43 _ _ ?_)
      refine hK41 _ _ ?_
      refine cw_seq fun K48 hK49 => ?_
      refine cw_region fun K50 hK51 => ?_
      refine rw_cons (op_pv (w0 rfl) rfl rfl (pv_move rfl rfl) ?_)
      refine rw_cons (op_pv (w0 rfl) rfl rfl (pv_move rfl rfl) ?_)
      refine rw_cons (op_call (w0 rfl) rfl rfl (rc_call C7 rfl rfl) (PlanLoad_s _ _ _ xs27 _ _ (hR37.more (by omega)) (by omega)) ?_)
      rintro _ w52 ⟨rfl, hch53⟩
      have hsz54 := hch53.size
      replace hR0 := hR0.ch0 hch53
      replace hR1 := hR1.ch0 hch53
      replace hR37 := hR37.ch0 hch53
      replace hc := hc.step0 hch53
      have hl55 := Nat.le_trans (mvLoad_le xs27 s38) (Nat.le_of_eq hR37.len)
      refine rw_cons (op_pv (w0 rfl) rfl rfl (pv_assign rfl rfl) ?_)
      refine rw_nil (hK51 _ _ ?_)
      refine hK49 _ _ ?_
      refine cw_seq fun K56 hK57 => ?_
      refine cw_seq fun K58 hK59 => ?_
      refine cw_region fun K60 hK61 => ?_
      refine rw_cons (op_pv (w0 rfl) rfl rfl (pv_move rfl rfl) ?_)
      refine rw_cons (op_pv (w0 rfl) rfl rfl (pv_move rfl rfl) ?_)
      refine rw_cons (op_pv (w0 rfl) rfl rfl (pv_neq rfl rfl rfl) ?_)
      refine rw_nil (hK61 _ _ ?_)
      refine hK59 _ _ ?_
      refine cw_cond rfl (fun h62 => ?_) (fun h62 => ?_)
      · -- then
        replace h62 := of_decide_eq_true h62
        refine cw_seq fun K63 hK64 => ?_
        refine cw_region fun K65 hK66 => ?_
        refine rw_cons (op_pv (w0 rfl) rfl rfl (pv_move rfl rfl) ?_)
        refine rw_cons (op_pv (w0 rfl) rfl rfl (pv_move rfl rfl) ?_)
        refine rw_cons (op_pv (w0 rfl) rfl rfl (pv_eql rfl rfl rfl) ?_)
        refine rw_cons (op_pv (w0 rfl) rfl rfl (pv_assign rfl rfl) ?_)
        refine rw_nil (hK66 _ _ ?_)
        refine hK64 _ _ ?_
        refine cw_ret ?_
        refine fin1 rfl ?_
        first
          | exact ⟨rfl, hc⟩
          | (exfalso; omega)
          | exact ⟨congrArg Value.bool (decide_eq_true (by omega)), hc⟩
      · -- else
        replace h62 := of_decide_eq_false h62
        refine cw_skip ?_
        refine hK57 _ _ ?_
        refine cw_seq fun K67 hK68 => ?_
        refine cw_region fun K69 hK70 => ?_
        refine rw_cons (op_pv (w0 rfl) rfl rfl (pv_move rfl rfl) ?_)
        refine rw_cons (op_pv (w0 rfl) rfl rfl (pv_len Try.underlying22 rfl rfl) ?_)
        refine rw_cons (op_pv (w0 rfl) rfl rfl (pv_move rfl rfl) ?_)
        refine rw_cons (op_pv (w0 rfl) rfl rfl (pv_len Try.underlying23 rfl rfl) ?_)
        refine rw_cons (op_pv (w0 rfl) rfl rfl (pv_add rfl rfl rfl (by omega) (by omega)) ?_)
        refine rw_cons (op_pv (w0 rfl) rfl rfl (pv_rem rfl rfl rfl (by omega) (by omega)) ?_)
        have hq71 := Int.emod_nonneg ((n1 : Int)) (b := (((xs27.length : Int)) + 1)) (by omega); have hq72 := Int.emod_lt_of_pos ((n1 : Int)) (b := (((xs27.length : Int)) + 1)) (by omega)
        refine rw_cons (op_pv (w0 rfl) rfl rfl (pv_assign rfl rfl) ?_)
        refine rw_nil (hK70 _ _ ?_)
        refine hK68 _ _ ?_
        refine cw_seq fun K73 hK74 => ?_
        refine cw_drawn (fun u => Ch [] w52 u) (.free 0 (.free 1 (.free 2 (.free 3 (.free 5 (.free 6 (.free 7 (.free 8 (.free 11 (.one 4 true (.one 9 true (.free 10 (.free 12 (.free 13 (.free 14 (.free 15 (.free 16 (.free 17 (.free 18 (.free 19 (.free 20 (.free 21 (.free 22 (.free 23 (.done))))))))))))))))))))))))) (by kernel_rfl) (by kernel_rfl) (Ch.refl _ _).drew fun K78 hK79 => ?_
        obtain ⟨w75, hw_, hch76, hsz77⟩ : ∃ w1 : World, w1 = w52.drew ∧ Ch [] w52 w1 ∧ w1.heap.size = w52.heap.size := ⟨_, rfl, (Ch.refl _ _).drew, rfl⟩
        rw [← hw_]; clear hw_
        have hr80 : Ch [] w52 w75 := hch76.sub (fun s hs => by cases hs)
        have hR0_r := hR0
        have hR1_r := hR1
        have hR37_r := hR37
        have hsz81 := hch76.size
        replace hR0 := hR0.ch0 hch76
        replace hR1 := hR1.ch0 hch76
        replace hR37 := hR37.ch0 hch76
        replace hc := hc.step0 hch76
        refine tw_free rfl (w0 rfl) rfl rfl (fun u hu => (pv_move rfl rfl : PV _ _ _ _) u) ?_
        refine tw_free rfl (w0 rfl) rfl rfl (fun u hu => (pv_move rfl rfl : PV _ _ _ _) u) ?_
        refine tw_free rfl (w0 rfl) rfl rfl (fun u hu => (pv_upto Try.underlying23 T37 rfl rfl rfl (by omega) (by omega) : PV _ _ _ _) u) ?_
        have hR82 : RS encM 3 w75 w28.heap.size A32 (((n1 : Int)) % (((xs27.length : Int)) + 1)).toNat (xs27.take (((n1 : Int)) % (((xs27.length : Int)) + 1)).toNat) := (hR37).upto (by omega)
        refine tw_free rfl (w0 rfl) rfl rfl (fun u hu => (pv_move rfl rfl : PV _ _ _ _) u) ?_
        refine tw_free rfl (w0 rfl) rfl rfl (fun u hu => (pv_move rfl rfl : PV _ _ _ _) u) ?_
        refine tw_free rfl (w0 rfl) rfl rfl (fun u hu => (pv_move rfl rfl : PV _ _ _ _) u) ?_
        refine tw_free rfl (w0 rfl) rfl rfl (fun u hu => (pv_from Try.underlying23 T37 rfl rfl rfl (by omega) (by omega) : PV _ _ _ _) u) ?_
        have hR83 : RS encM 3 w75 w28.heap.size ((if c33 = (((n1 : Int)) % (((xs27.length : Int)) + 1)).toNat then A32 else (A32).map (·.add ((((n1 : Int)) % (((xs27.length : Int)) + 1)).toNat * 3)))) (xs27.length - (((n1 : Int)) % (((xs27.length : Int)) + 1)).toNat) (xs27.drop (((n1 : Int)) % (((xs27.length : Int)) + 1)).toNat) := (hR37).from (by omega) (by omega)
        refine tw_free rfl (w0 rfl) rfl rfl (fun u hu => (pv_move rfl rfl : PV _ _ _ _) u) ?_
        refine tw_free rfl (w0 rfl) rfl rfl (fun u hu => (pv_move rfl rfl : PV _ _ _ _) u) ?_
        refine tw_one rfl (op_call (w0 rfl) rfl rfl (rc_call C6 rfl rfl) (PlanLoad_i _ _ _ ((xs27.take (((n1 : Int)) % (((xs27.length : Int)) + 1)).toNat)) _ _ (hR82.more (by omega)) (by omega)) ?_)
        rintro _ w84 ⟨rfl, hch85⟩
        have hsz86 := hch85.size
        replace hR0 := hR0.ch0 hch85
        replace hR1 := hR1.ch0 hch85
        replace hR37 := hR37.ch0 hch85
        replace hR82 := hR82.ch0 hch85
        replace hR83 := hR83.ch0 hch85
        replace hc := hc.step0 hch85
        replace hr80 := hr80.step0 hch85
        have hl87 := Nat.le_trans (mvLoad_le ((xs27.take (((n1 : Int)) % (((xs27.length : Int)) + 1)).toNat)) s38) (Nat.le_of_eq hR82.len)
        refine ⟨fun _ => hr80, ?_⟩
        refine tw_one rfl (op_call (w0 rfl) rfl rfl (rc_call C6 rfl rfl) (PlanLoad_i _ _ _ ((xs27.drop (((n1 : Int)) % (((xs27.length : Int)) + 1)).toNat)) _ _ (hR83.more (by omega)) (by omega)) ?_)
        rintro _ w88 ⟨rfl, hch89⟩
        have hsz90 := hch89.size
        replace hR0 := hR0.ch0 hch89
        replace hR1 := hR1.ch0 hch89
        replace hR37 := hR37.ch0 hch89
        replace hR82 := hR82.ch0 hch89
        replace hR83 := hR83.ch0 hch89
        replace hc := hc.step0 hch89
        replace hr80 := hr80.step0 hch89
        have hl91 := Nat.le_trans (mvLoad_le ((xs27.drop (((n1 : Int)) % (((xs27.length : Int)) + 1)).toNat)) s38) (Nat.le_of_eq hR83.len)
        refine ⟨fun _ => hr80, ?_⟩
        refine tw_free rfl (w0 rfl) rfl rfl (fun u hu => (pv_add rfl rfl rfl (by omega) (by omega) : PV _ _ _ _) u) ?_
        refine tw_free rfl (w0 rfl) rfl rfl (fun u hu => (pv_eql rfl rfl rfl : PV _ _ _ _) u) ?_
        refine tw_free rfl (w0 rfl) rfl rfl (fun u hu => (pv_move rfl rfl : PV _ _ _ _) u) ?_
        refine tw_split 54 rfl (fun hb92 => ?_) (fun hb92 => ?_)
        · -- yes
          replace hb92 := of_decide_eq_true hb92
          refine tw_free rfl (w1y rfl rfl rfl rfl) rfl rfl (fun u hu => (pv_move rfl rfl : PV _ _ _ _) u) ?_
          refine tw_free rfl (w1y rfl rfl rfl rfl) rfl rfl (fun u hu => (pv_geq rfl rfl rfl : PV _ _ _ _) u) ?_
          refine tw_free rfl (w0 rfl) rfl rfl (fun u hu => (pv_pickT rfl rfl rfl : PV _ _ _ _) u) ?_
          refine tw_free rfl (w0 rfl) rfl rfl (fun u hu => (pv_move rfl rfl : PV _ _ _ _) u) ?_
          refine tw_split 58 rfl (fun hb93 => ?_) (fun hb93 => ?_)
          · -- yes
            replace hb93 := of_decide_eq_true hb93
            refine tw_free rfl (w1y rfl rfl rfl rfl) rfl rfl (fun u hu => (pv_move rfl rfl : PV _ _ _ _) u) ?_
            refine tw_free rfl (w1y rfl rfl rfl rfl) rfl rfl (fun u hu => (pv_move rfl rfl : PV _ _ _ _) u) ?_
            refine tw_free rfl (w1y rfl rfl rfl rfl) rfl rfl (fun u hu => (pv_len Try.underlying23 rfl rfl : PV _ _ _ _) u) ?_
            refine tw_free rfl (w1y rfl rfl rfl rfl) rfl rfl (fun u hu => (pv_leq rfl rfl rfl : PV _ _ _ _) u) ?_
            refine tw_free rfl (w0 rfl) rfl rfl (fun u hu => (pv_pickT rfl rfl rfl : PV _ _ _ _) u) ?_
            refine tw_free rfl (w0 rfl) rfl rfl (fun u hu => (pv_assign rfl rfl : PV _ _ _ _) u) ?_
            clear hR1_r
            clear hR0_r
            clear hR37_r
            refine tw_done (hK79 _ _ ?_)
            refine hK74 _ _ ?_
            refine cw_ret ?_
            refine fin1 rfl ?_
            have hsp := mvLoad_split xs27 s38 (((n1 : Int)) % (((xs27.length : Int)) + 1)).toNat; have hle_ := mvLoad_le xs27 s38
            first
              | exact ⟨rfl, hc⟩
              | (exfalso; omega)
              | exact ⟨congrArg Value.bool (decide_eq_true (by omega)), hc⟩
          · -- no
            replace hb93 := of_decide_eq_false hb93
            refine tw_pass rfl (w1n1 rfl rfl rfl rfl) rfl rfl ?_
            refine tw_pass rfl (w1n1 rfl rfl rfl rfl) rfl rfl ?_
            refine tw_pass rfl (w1n1 rfl rfl rfl rfl) rfl rfl ?_
            refine tw_pass rfl (w1n1 rfl rfl rfl rfl) rfl rfl ?_
            refine tw_free rfl (w0 rfl) rfl rfl (fun u hu => (pv_pickF rfl rfl rfl : PV _ _ _ _) u) ?_
            refine tw_free rfl (w0 rfl) rfl rfl (fun u hu => (pv_assign rfl rfl : PV _ _ _ _) u) ?_
            clear hR1_r
            clear hR0_r
            clear hR37_r
            refine tw_done (hK79 _ _ ?_)
            refine hK74 _ _ ?_
            refine cw_ret ?_
            refine fin1 rfl ?_
            have hsp := mvLoad_split xs27 s38 (((n1 : Int)) % (((xs27.length : Int)) + 1)).toNat; have hle_ := mvLoad_le xs27 s38
            first
              | exact ⟨rfl, hc⟩
              | (exfalso; omega)
              | exact ⟨congrArg Value.bool (decide_eq_true (by omega)), hc⟩
        · -- no
          replace hb92 := of_decide_eq_false hb92
          refine tw_pass rfl (w1n1 rfl rfl rfl rfl) rfl rfl ?_
          refine tw_pass rfl (w1n1 rfl rfl rfl rfl) rfl rfl ?_
          refine tw_free rfl (w0 rfl) rfl rfl (fun u hu => (pv_pickF rfl rfl rfl : PV _ _ _ _) u) ?_
          refine tw_free rfl (w0 rfl) rfl rfl (fun u hu => (pv_move rfl rfl : PV _ _ _ _) u) ?_
          refine tw_pass rfl (w1n1 rfl rfl rfl rfl) rfl rfl ?_
          refine tw_pass rfl (w1n1 rfl rfl rfl rfl) rfl rfl ?_
          refine tw_pass rfl (w1n1 rfl rfl rfl rfl) rfl rfl ?_
          refine tw_pass rfl (w1n1 rfl rfl rfl rfl) rfl rfl ?_
          refine tw_free rfl (w0 rfl) rfl rfl (fun u hu => (pv_pickF rfl rfl rfl : PV _ _ _ _) u) ?_
          refine tw_free rfl (w0 rfl) rfl rfl (fun u hu => (pv_assign rfl rfl : PV _ _ _ _) u) ?_
          clear hR1_r
          clear hR0_r
          clear hR37_r
          refine tw_done (hK79 _ _ ?_)
          refine hK74 _ _ ?_
          refine cw_ret ?_
          refine fin1 rfl ?_
          have hsp := mvLoad_split xs27 s38 (((n1 : Int)) % (((xs27.length : Int)) + 1)).toNat; have hle_ := mvLoad_le xs27 s38
          first
            | exact ⟨rfl, hc⟩
            | (exfalso; omega)
            | exact ⟨congrArg Value.bool (decide_eq_true (by omega)), hc⟩
end Go.Proofs.Ytajdoloefkoekaa
