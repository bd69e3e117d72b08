/-
  The walk of laws.FnAlive, written by program: each line names the law of one operation. Conditions: those of the theorem.
-/
import Derived.Test.YtnkjljjcionfiaaProg
import Derived.Test.YtnkjljjcionfiaaBeats2
import Derived.Test.YtnkjljjcionfiaaFspecDrawBeatsAlive
import Derived.Test.YtnkjljjcionfiaaFimplBeatsAlive
import Derived.Test.YtnkjljjcionfiaaFspecBeatsAlive
import Derived.Test.YtnkjljjcionfiaaFlawssameInts
import Derived.Test.YtnkjljjcionfiaaFlawshasInt
import Derived.KernelRfl
namespace Go.Proofs.Ytnkjljjcionfiaa
open Go Go.RowKit
set_option linter.unusedVariables false
set_option linter.unusedSimpArgs false
namespace FnAlive_okF
theorem T3 : TI Try.prog 3 false (.int .i64 0) 1 8 := TI.mk' Try.underlying3 rfl (by kernel_rfl)
theorem T39 : TI Try.prog 39 true (.agg #[.int .i64 0, .int .i64 0]) 2 16 := TI.mk' Try.underlying39 rfl (by kernel_rfl)
theorem F39_0 : FldOK Try.prog 39 0 0 := ⟨_, _, 0, Try.underlying39, rfl, rfl, by kernel_rfl⟩
theorem F39_1 : FldOK Try.prog 39 1 1 := ⟨_, _, 0, Try.underlying39, rfl, rfl, by kernel_rfl⟩
theorem C22 : Callable Try.prog 22 := ⟨_, Try.func22, by kernel_rfl, by kernel_rfl⟩
theorem C23 : Callable Try.prog 23 := ⟨_, Try.func23, by kernel_rfl, by kernel_rfl⟩
theorem C24 : Callable Try.prog 24 := ⟨_, Try.func24, by kernel_rfl, by kernel_rfl⟩
theorem C25 : Callable Try.prog 25 := ⟨_, Try.func25, by kernel_rfl, by kernel_rfl⟩
theorem C26 : Callable Try.prog 26 := ⟨_, Try.func26, by kernel_rfl, by kernel_rfl⟩
end FnAlive_okF
open FnAlive_okF in
set_option maxHeartbeats 4000000 in
theorem FnAlive_ok (A0 : Option Addr) (n0 c0 : Nat) (xs0 : List UInt8) (w : World) (hR0 : RS encU 1 w w.heap.size A0 n0 xs0) (hn0 : n0 ≤ c0) :
    Fn Try.prog 5 [(.slice A0 n0 c0)] w fun v w' => v = .bool true ∧ Ch [] w w' := by
  have hlen0 := hR0.len
  refine fn_of (n := 61) Try.func5 rfl rfl rfl rfl ?_
  have hc : Ch [] w w := Ch.refl _ _
  refine cw_seq fun K1 hK2 => ?_
  refine cw_region fun K3 hK4 => ?_
  refine rw_cons (op_pv (w0 rfl) rfl rfl (pv_assign (v := (.bool false)) rfl rfl) ?_)
  refine rw_nil (hK4 _ _ ?_)
  refine hK2 _ _ ?_
  refine cw_seq fun K5 hK6 => ?_
  refine cw_seq fun K7 hK8 => ?_
  refine cw_region fun K9 hK10 => ?_
  refine rw_cons (op_pv (w0 rfl) rfl rfl (pv_move (v := (.slice A0 n0 c0)) rfl rfl) ?_)
  refine rw_cons (op_pv (w0 rfl) rfl rfl (pv_len Try.underlying22 rfl rfl) ?_)
  refine rw_cons (op_pv (w0 rfl) rfl rfl (pv_gtr rfl rfl rfl) ?_)
  refine rw_nil (hK10 _ _ ?_)
  refine hK8 _ _ ?_
  refine cw_cond rfl (fun h11 => ?_) (fun h11 => ?_)
  · -- then
    replace h11 := of_decide_eq_true h11
    refine cw_seq fun K12 hK13 => ?_
    refine cw_region fun K14 hK15 => ?_
    refine rw_cons (op_pv (w0 rfl) rfl rfl (pv_assign (v := (.bool true)) rfl rfl) ?_)
    refine rw_nil (hK15 _ _ ?_)
    refine hK13 _ _ ?_
    refine cw_ret ?_
    refine fin1 rfl ?_
    exact ⟨rfl, hc⟩
  · -- else
    replace h11 := of_decide_eq_false h11
    refine cw_skip ?_
    refine hK6 _ _ ?_
    refine cw_seq fun K16 hK17 => ?_
    refine cw_region fun K18 hK19 => ?_
    refine rw_cons (op_pv (w0 rfl) rfl rfl (pv_move (v := (.slice A0 n0 c0)) rfl rfl) ?_)
    refine rw_cons (op_call (w0 rfl) rfl rfl (rc_call C22 rfl rfl) (DrawBeatsAlive_ok _ _ _ _ _ (hR0.more (by omega)) (by omega)) ?_)
    rintro _ w20 ⟨A29, c30, xs31, a21, b22, rfl, hO32, hx24, hx25, hx26, hx27, hx28, hch23⟩
    have hsz34 := hch23.size
    replace hR0 := hR0.ch0 hch23
    replace hc := hc.step0 hch23
    have hub33 := hO32.lt
    have hcap35 : xs31.length ≤ c30 := by obtain ⟨_, _, hv, h1, _⟩ := hO32.form; injection hv with _ _ h3; omega
    refine rw_cons (op_pv (w0 rfl) rfl rfl (pv_move (v := (.tuple #[(.slice A29 xs31.length c30), (.int .i64 a21), (.int .i64 b22)])) rfl rfl) ?_)
    refine rw_cons (op_pv (w0 rfl) rfl rfl (pv_ext (v := (.slice A29 xs31.length c30)) rfl rfl rfl) ?_)
    refine rw_cons (op_pv (w0 rfl) rfl rfl (pv_ext (v := (.int .i64 a21)) rfl rfl rfl) ?_)
    refine rw_cons (op_pv (w0 rfl) rfl rfl (pv_ext (v := (.int .i64 b22)) rfl rfl rfl) ?_)
    refine rw_cons (op_pv (w0 rfl) rfl rfl (pv_assign (v := (.slice A29 xs31.length c30)) rfl rfl) ?_)
    refine rw_cons (op_pv (w0 rfl) rfl rfl (pv_assign (v := (.int .i64 a21)) rfl rfl) ?_)
    refine rw_cons (op_pv (w0 rfl) rfl rfl (pv_assign (v := (.int .i64 b22)) rfl rfl) ?_)
    refine rw_nil (hK19 _ _ ?_)
    refine hK17 _ _ ?_
    refine cw_seq fun K36 hK37 => ?_
    refine cw_region fun K38 hK39 => ?_
    refine rw_cons (op_pv (w0 rfl) rfl rfl (pv_move (v := (.slice A29 xs31.length c30)) rfl rfl) ?_)
    refine rw_cons (op_pv (w0 rfl) rfl rfl (pv_move (v := (.int .i64 a21)) rfl rfl) ?_)
    refine rw_cons (op_pv (w0 rfl) rfl rfl (pv_move (v := (.int .i64 b22)) rfl rfl) ?_)
    refine rw_cons (op_call (w0 rfl) rfl rfl (rc_call C23 rfl rfl) (BeatsAlive_i _ xs31.length _ xs31 a21 b22 _ (hO32.rs (fun _ => rfl)) (by omega)) ?_)
    rintro _ w40 ⟨A42, c43, rfl, hO44, hch41⟩
    have hsz45 := hch41.size
    replace hR0 := hR0.ch0 hch41
    replace hO32 := hO32.ch0 hch41
    replace hc := hc.step0 hch41
    have hub46 := hO44.lt
    have hcap47 : (srvV xs31 a21 b22 true).length ≤ c43 := by obtain ⟨_, _, hv, h1, _⟩ := hO44.form; injection hv with _ _ h3; omega
    have hnt48 := srvV_le xs31 a21 b22 true
    refine rw_cons (op_pv (w0 rfl) rfl rfl (pv_assign (v := (.slice A42 (srvV xs31 a21 b22 true).length c43)) rfl rfl) ?_)
    refine rw_nil (hK39 _ _ ?_)
    refine hK37 _ _ ?_
    refine cw_seq fun K49 hK50 => ?_
    refine cw_region fun K51 hK52 => ?_
    refine rw_cons (op_pv (w0 rfl) rfl rfl (pv_move (v := (.slice A29 xs31.length c30)) rfl rfl) ?_)
    refine rw_cons (op_pv (w0 rfl) rfl rfl (pv_move (v := (.int .i64 a21)) rfl rfl) ?_)
    refine rw_cons (op_pv (w0 rfl) rfl rfl (pv_move (v := (.int .i64 b22)) rfl rfl) ?_)
    refine rw_cons (op_call (w0 rfl) rfl rfl (rc_call C24 rfl rfl) (BeatsAlive_s _ xs31.length _ xs31 a21 b22 _ (hO32.rs (fun _ => rfl)) (by omega)) ?_)
    rintro _ w53 ⟨A55, c56, rfl, hO57, hch54⟩
    have hsz58 := hch54.size
    replace hR0 := hR0.ch0 hch54
    replace hO32 := hO32.ch0 hch54
    replace hO44 := hO44.ch0 hch54
    replace hc := hc.step0 hch54
    have hub59 := hO57.lt
    have hcap60 : (srvV xs31 a21 b22 true).length ≤ c56 := by obtain ⟨_, _, hv, h1, _⟩ := hO57.form; injection hv with _ _ h3; omega
    have hnt61 := srvV_le xs31 a21 b22 true
    refine rw_cons (op_pv (w0 rfl) rfl rfl (pv_assign (v := (.slice A55 (srvV xs31 a21 b22 true).length c56)) rfl rfl) ?_)
    refine rw_nil (hK52 _ _ ?_)
    refine hK50 _ _ ?_
    refine cw_seq fun K62 hK63 => ?_
    refine cw_seq fun K64 hK65 => ?_
    refine cw_region fun K66 hK67 => ?_
    refine rw_cons (op_pv (w0 rfl) rfl rfl (pv_move (v := (.slice A42 (srvV xs31 a21 b22 true).length c43)) rfl rfl) ?_)
    refine rw_cons (op_pv (w0 rfl) rfl rfl (pv_move (v := (.slice A55 (srvV xs31 a21 b22 true).length c56)) rfl rfl) ?_)
    refine rw_cons (op_call (w0 rfl) rfl rfl (rc_call C25 rfl rfl) (sameInts_same _ _ _ _ _ _ (srvV xs31 a21 b22 true) _ (hO44.rs (fun _ => rfl)) (hO57.rs (fun _ => rfl)) (by omega)) ?_)
    rintro _ w68 ⟨rfl, hch69⟩
    have hsz70 := hch69.size
    replace hR0 := hR0.ch0 hch69
    replace hO32 := hO32.ch0 hch69
    replace hO44 := hO44.ch0 hch69
    replace hO57 := hO57.ch0 hch69
    replace hc := hc.step0 hch69
    refine rw_cons (op_pv (w0 rfl) rfl rfl (pv_not rfl rfl) ?_)
    refine rw_cons (op_pv (w0 rfl) rfl rfl (pv_move (v := (.bool (!true))) rfl rfl) ?_)
    refine rw_cons (op_pv (w1y rfl rfl rfl rfl) rfl rfl (pv_move (v := (.slice A55 (srvV xs31 a21 b22 true).length c56)) rfl rfl) ?_)
    refine rw_cons (op_pv (w1y rfl rfl rfl rfl) rfl rfl (pv_len Try.underlying34 rfl rfl) ?_)
    refine rw_cons (op_pv (w1y rfl rfl rfl rfl) rfl rfl (pv_eql rfl rfl rfl) ?_)
    refine rw_cons (op_pv (w0 rfl) rfl rfl (pv_pickF (v := (.bool (decide ((((srvV xs31 a21 b22 true).length : Int) : Int) = 0)))) rfl rfl rfl) ?_)
    refine rw_nil (hK67 _ _ ?_)
    refine hK65 _ _ ?_
    refine cw_cond rfl (fun h71 => ?_) (fun h71 => ?_)
    · -- then
      replace h71 := of_decide_eq_true h71
      refine cw_seq fun K72 hK73 => ?_
      refine cw_region fun K74 hK75 => ?_
      refine rw_cons (op_pv (w0 rfl) rfl rfl (pv_move (v := (.slice A42 (srvV xs31 a21 b22 true).length c43)) rfl rfl) ?_)
      refine rw_cons (op_pv (w0 rfl) rfl rfl (pv_move (v := (.slice A55 (srvV xs31 a21 b22 true).length c56)) rfl rfl) ?_)
      refine rw_cons (op_call (w0 rfl) rfl rfl (rc_call C25 rfl rfl) (sameInts_same _ _ _ _ _ _ (srvV xs31 a21 b22 true) _ (hO44.rs (fun _ => rfl)) (hO57.rs (fun _ => rfl)) (by omega)) ?_)
      rintro _ w76 ⟨rfl, hch77⟩
      have hsz78 := hch77.size
      replace hR0 := hR0.ch0 hch77
      replace hO32 := hO32.ch0 hch77
      replace hO44 := hO44.ch0 hch77
      replace hO57 := hO57.ch0 hch77
      replace hc := hc.step0 hch77
      refine rw_cons (op_pv (w0 rfl) rfl rfl (pv_assign (v := (.bool true)) rfl rfl) ?_)
      refine rw_nil (hK75 _ _ ?_)
      refine hK73 _ _ ?_
      refine cw_ret ?_
      refine fin1 rfl ?_
      exact ⟨rfl, hc⟩
    · -- else
      replace h71 := of_decide_eq_false h71
      refine cw_skip ?_
      refine hK63 _ _ ?_
      refine cw_seq fun K79 hK80 => ?_
      refine cw_seq fun K81 hK82 => ?_
      have hok : SrvOK xs31 a21 b22 := srvV_some (xs := xs31) (now := a21) (within := b22) (al := true) (by omega)
      refine cw_region fun K83 hK84 => ?_
      refine rw_cons (op_pv (w0 rfl) rfl rfl (pv_assign (v := (.int .i64 0)) rfl rfl) ?_)
      refine rw_nil (hK84 _ _ ?_)
      refine hK82 _ _ ?_
      refine cw_block ?_
      refine cw_loop (σ := Nat) (fun k => [(8, (.int .i64 (k : Int))), (3, (.slice A29 xs31.length c30)), (4, (.int .i64 a21)), (5, (.int .i64 b22)), (6, (.slice A42 (srvV xs31 a21 b22 true).length c43))]) (fun k W => (k ≤ xs31.length) ∧ RS encU 1 W w.heap.size A0 n0 xs0 ∧ Own encB 2 W w.heap.size 39 (.slice A29 xs31.length c30) xs31 ∧ Own encI 1 W w20.heap.size 3 (.slice A42 (srvV xs31 a21 b22 true).length c43) (srvV xs31 a21 b22 true) ∧ Own encI 1 W w40.heap.size 3 (.slice A55 (srvV xs31 a21 b22 true).length c56) (srvV xs31 a21 b22 true) ∧ Ch [] w W ∧ w20.heap.size ≤ W.heap.size ∧ w40.heap.size ≤ W.heap.size) (fun k => xs31.length - k) 0 ?_ ?_ ?_
      · exact ⟨rfl, rfl, rfl, rfl, rfl, trivial⟩
      · refine ⟨Nat.zero_le _, hR0, hO32, hO44, hO57, hc, (by omega), (by omega)⟩
      · rintro k J91 w85 ⟨hk, hR0, hO32, hO44, hO57, hc, hmono86, hmono87⟩ K88 hK89
        have hsz93 := hc.size
        have hub94 := hO32.lt
        have hub95 := hO44.lt
        have hub96 := hO57.lt
        refine cw_seq fun K97 hK98 => ?_
        refine cw_seq fun K99 hK100 => ?_
        refine cw_region fun K101 hK102 => ?_
        refine rw_cons (op_pv (w0 rfl) rfl rfl (pv_move (v := (.int .i64 (k : Int))) rfl rfl) ?_)
        refine rw_cons (op_pv (w0 rfl) rfl rfl (pv_move (v := (.slice A29 xs31.length c30)) rfl rfl) ?_)
        refine rw_cons (op_pv (w0 rfl) rfl rfl (pv_len Try.underlying23 rfl rfl) ?_)
        refine rw_cons (op_pv (w0 rfl) rfl rfl (pv_lss rfl rfl rfl) ?_)
        refine rw_nil (hK102 _ _ ?_)
        refine hK100 _ _ ?_
        refine cw_cond rfl (fun h103 => ?_) (fun h103 => ?_)
        · -- then
          replace h103 := of_decide_eq_true h103
          refine cw_skip ?_
          refine hK98 _ _ ?_
          refine cw_seq fun K104 hK105 => ?_
          refine cw_block ?_
          refine cw_seq fun K106 hK107 => ?_
          have hbk := (hok.1.ok (j := k) (by omega)).2
          refine cw_drawn (fun u => Ch [] w85 u) (.free 0 (.free 1 (.free 2 (.free 3 (.free 4 (.free 5 (.free 7 (.free 8 (.free 9 (.free 10 (.free 11 (.free 12 (.free 13 (.free 14 (.free 15 (.one 6 true (.free 16 (.done)))))))))))))))))) (by kernel_rfl) (by kernel_rfl) (Ch.refl _ _).drew fun K111 hK112 => ?_
          obtain ⟨w108, hw_, hch109, hsz110⟩ : ∃ w1 : World, w1 = w85.drew ∧ Ch [] w85 w1 ∧ w1.heap.size = w85.heap.size := ⟨_, rfl, (Ch.refl _ _).drew, rfl⟩
          rw [← hw_]; clear hw_
          have hr113 : Ch [] w85 w108 := hch109.sub (fun s hs => by cases hs)
          have hR0_r := hR0
          have hO32_r := hO32
          have hO44_r := hO44
          have hO57_r := hO57
          have hsz114 := hch109.size
          replace hR0 := hR0.ch0 hch109
          replace hO32 := hO32.ch0 hch109
          replace hO44 := hO44.ch0 hch109
          replace hO57 := hO57.ch0 hch109
          replace hc := hc.step0 hch109
          refine tw_free rfl (w0 rfl) rfl rfl (fun u hu => (pv_move (v := (.slice A42 (srvV xs31 a21 b22 true).length c43)) rfl rfl : PV _ _ _ _) u) ?_
          refine tw_free rfl (w0 rfl) rfl rfl (fun u hu => (pv_move (v := (.slice A29 xs31.length c30)) rfl rfl : PV _ _ _ _) u) ?_
          refine tw_free rfl (w0 rfl) rfl rfl (fun u hu => (pv_move (v := (.int .i64 (k : Int))) rfl rfl : PV _ _ _ _) u) ?_
          refine tw_free rfl (w0 rfl) rfl rfl (fun u hu => (pv_idx Try.underlying23 T39 rfl rfl rfl ((hO32.rs (fun _ => rfl)).some (k := k) (by omega)) (by omega) (by omega) : PV _ _ _ _) u) ?_
          refine tw_free rfl (w0 rfl) rfl rfl (fun u hu => (pv_fld F39_0 rfl rfl : PV _ _ _ _) u) ?_
          refine tw_free rfl (w0 rfl) rfl rfl (fun u hu => lv_load T3 rfl rfl (((hO32_r.ch0 hu).rs (fun _ => rfl)).cellE (k := k) (j := 0) (by omega) rfl)) ?_
          refine tw_free rfl (w0 rfl) rfl rfl (fun u hu => (pv_move (v := (.slice A29 xs31.length c30)) rfl rfl : PV _ _ _ _) u) ?_
          refine tw_free rfl (w0 rfl) rfl rfl (fun u hu => (pv_move (v := (.int .i64 (k : Int))) rfl rfl : PV _ _ _ _) u) ?_
          refine tw_free rfl (w0 rfl) rfl rfl (fun u hu => (pv_idx Try.underlying23 T39 rfl rfl rfl ((hO32.rs (fun _ => rfl)).some (k := k) (by omega)) (by omega) (by omega) : PV _ _ _ _) u) ?_
          refine tw_free rfl (w0 rfl) rfl rfl (fun u hu => (pv_fld F39_1 rfl rfl : PV _ _ _ _) u) ?_
          refine tw_free rfl (w0 rfl) rfl rfl (fun u hu => lv_load T3 rfl rfl (((hO32_r.ch0 hu).rs (fun _ => rfl)).cellE (k := k) (j := 1) (by omega) rfl)) ?_
          refine tw_free rfl (w0 rfl) rfl rfl (fun u hu => (pv_move (v := (.int .i64 b22)) rfl rfl : PV _ _ _ _) u) ?_
          refine tw_free rfl (w0 rfl) rfl rfl (fun u hu => (pv_add rfl rfl rfl (by omega) (by omega) : PV _ _ _ _) u) ?_
          refine tw_free rfl (w0 rfl) rfl rfl (fun u hu => (pv_move (v := (.int .i64 a21)) rfl rfl : PV _ _ _ _) u) ?_
          refine tw_free rfl (w0 rfl) rfl rfl (fun u hu => (pv_gtr rfl rfl rfl : PV _ _ _ _) u) ?_
          refine tw_one rfl (op_call (w0 rfl) rfl rfl (rc_call C26 rfl rfl) (hasInt_ok _ (srvV xs31 a21 b22 true).length _ (srvV xs31 a21 b22 true) (el xs31 k).s _ (hO44.rs (fun _ => rfl)) (by omega)) ?_)
          rintro _ w115 ⟨rfl, hch116⟩
          have hsz117 := hch116.size
          replace hR0 := hR0.ch0 hch116
          replace hO32 := hO32.ch0 hch116
          replace hO44 := hO44.ch0 hch116
          replace hO57 := hO57.ch0 hch116
          replace hc := hc.step0 hch116
          replace hr113 := hr113.step0 hch116
          refine ⟨fun _ => hr113, ?_⟩
          refine tw_free rfl (w0 rfl) rfl rfl (fun u hu => (pv_neqB Try.underlying4 rfl rfl rfl : PV _ _ _ _) u) ?_
          clear hO32_r
          clear hO44_r
          clear hO57_r
          clear hR0_r
          refine tw_done (hK112 _ _ ?_)
          refine hK107 _ _ ?_
          refine cw_cond rfl (fun h118 => ?_) (fun h118 => ?_)
          · -- then
            replace h118 := not_t h118
            replace h118 := ne_of_beq_false h118
            refine cw_seq fun K119 hK120 => ?_
            refine cw_region fun K121 hK122 => ?_
            refine rw_cons (op_pv (w0 rfl) rfl rfl (pv_assign (v := (.bool false)) rfl rfl) ?_)
            refine rw_nil (hK122 _ _ ?_)
            refine hK120 _ _ ?_
            refine cw_ret ?_
            refine fin1 rfl ?_
            exact absurd (dec_dec (alive_at hok (i := k) (by omega))).symm (by assumption)
          · -- else
            replace h118 := not_f h118
            replace h118 := eq_of_beq h118
            refine cw_skip ?_
            refine hK105 _ _ ?_
            refine cw_region fun K123 hK124 => ?_
            refine rw_cons (op_pv (w0 rfl) rfl rfl (pv_move (v := (.int .i64 (k : Int))) rfl rfl) ?_)
            refine rw_cons (op_pv (w0 rfl) rfl rfl (pv_add rfl rfl rfl (by omega) (by omega)) ?_)
            refine rw_cons (op_pv (w0 rfl) rfl rfl (pv_assign (v := (.int .i64 ((k : Int) + 1))) rfl rfl) ?_)
            refine rw_nil (hK124 _ _ ?_)
            refine hK89 _ _ (k + 1) ⟨(iv (by omega)), rfl, rfl, rfl, rfl, trivial⟩ ⟨?_, hR0, hO32, hO44, hO57, hc, (by omega), (by omega)⟩ ?_
            · omega
            · (first | omega | (simp only []; omega))
        · -- else
          replace h103 := of_decide_eq_false h103
          refine cw_exit ?_
          refine hK80 _ _ ?_
          refine cw_seq fun K125 hK126 => ?_
          refine cw_region fun K127 hK128 => ?_
          refine rw_cons (op_pv (w0 rfl) rfl rfl (pv_assign (v := (.bool true)) rfl rfl) ?_)
          refine rw_nil (hK128 _ _ ?_)
          refine hK126 _ _ ?_
          refine cw_ret ?_
          refine fin1 rfl ?_
          exact ⟨rfl, hc⟩
end Go.Proofs.Ytnkjljjcionfiaa
