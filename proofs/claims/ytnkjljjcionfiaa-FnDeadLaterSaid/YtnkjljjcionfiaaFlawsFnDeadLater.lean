/-
  The walk of laws.FnDeadLater, written by program: each line names the law of one operation. Conditions: those of the theorem.
-/
import Derived.Test.YtnkjljjcionfiaaProg
import Derived.Test.YtnkjljjcionfiaaBeats2
import Derived.Test.YtnkjljjcionfiaaFspecDrawBeatsDead
import Derived.Test.YtnkjljjcionfiaaFimplBeatsDead
import Derived.Test.YtnkjljjcionfiaaFspecBeatsDead
import Derived.Test.YtnkjljjcionfiaaFlawssameInts
import Derived.Test.YtnkjljjcionfiaaFlawshasInt
import Derived.KernelRfl
namespace Go.Proofs.Ytnkjljjcionfiaa
open Go Go.RowKit
set_option linter.unusedVariables false
set_option linter.unusedSimpArgs false
namespace FnDeadLater_okF
theorem T3 : TI Try.prog 3 false (.int .i64 0) 1 8 := TI.mk' Try.underlying3 rfl (by kernel_rfl)
theorem C25 : Callable Try.prog 25 := ⟨_, Try.func25, by kernel_rfl, by kernel_rfl⟩
theorem C26 : Callable Try.prog 26 := ⟨_, Try.func26, by kernel_rfl, by kernel_rfl⟩
theorem C27 : Callable Try.prog 27 := ⟨_, Try.func27, by kernel_rfl, by kernel_rfl⟩
theorem C28 : Callable Try.prog 28 := ⟨_, Try.func28, by kernel_rfl, by kernel_rfl⟩
theorem C29 : Callable Try.prog 29 := ⟨_, Try.func29, by kernel_rfl, by kernel_rfl⟩
end FnDeadLater_okF
open FnDeadLater_okF in
set_option maxHeartbeats 4000000 in
theorem FnDeadLater_ok (A0 : Option Addr) (n0 c0 : Nat) (xs0 : List UInt8) (w : World) (hR0 : RS encU 1 w w.heap.size A0 n0 xs0) (hn0 : n0 ≤ c0) :
    Fn Try.prog 7 [(.slice A0 n0 c0)] w fun v w' => v = .bool true ∧ Ch [] w w' := by
  have hlen0 := hR0.len
  refine fn_of (n := 61) Try.func7 rfl rfl rfl rfl ?_
  have hc : Ch [] w w := Ch.refl _ _
  refine cw_seq fun K1 hK2 => ?_
  refine cw_region fun K3 hK4 => ?_
  refine rw_cons (op_pv (w0 rfl) rfl rfl (pv_assign (v := (.bool false)) rfl rfl) ?_)
  refine rw_nil (hK4 _ _ ?_)
  refine hK2 _ _ ?_
  refine cw_seq fun K5 hK6 => ?_
  refine cw_seq fun K7 hK8 => ?_
  refine cw_region fun K9 hK10 => ?_
  refine rw_cons (op_pv (w0 rfl) rfl rfl (pv_move (v := (.slice A0 n0 c0)) rfl rfl) ?_)
  refine rw_cons (op_pv (w0 rfl) rfl rfl (pv_len Try.underlying22 rfl rfl) ?_)
  refine rw_cons (op_pv (w0 rfl) rfl rfl (pv_gtr rfl rfl rfl) ?_)
  refine rw_nil (hK10 _ _ ?_)
  refine hK8 _ _ ?_
  refine cw_cond rfl (fun h11 => ?_) (fun h11 => ?_)
  · -- then
    replace h11 := of_decide_eq_true h11
    refine cw_seq fun K12 hK13 => ?_
    refine cw_region fun K14 hK15 => ?_
    refine rw_cons (op_pv (w0 rfl) rfl rfl (pv_assign (v := (.bool true)) rfl rfl) ?_)
    refine rw_nil (hK15 _ _ ?_)
    refine hK13 _ _ ?_
    refine cw_ret ?_
    refine fin1 rfl ?_
    exact ⟨rfl, hc⟩
  · -- else
    replace h11 := of_decide_eq_false h11
    refine cw_skip ?_
    refine hK6 _ _ ?_
    refine cw_seq fun K16 hK17 => ?_
    refine cw_region fun K18 hK19 => ?_
    refine rw_cons (op_pv (w0 rfl) rfl rfl (pv_move (v := (.slice A0 n0 c0)) rfl rfl) ?_)
    refine rw_cons (op_call (w0 rfl) rfl rfl (rc_call C27 rfl rfl) (DrawBeatsDead_ok _ _ _ _ _ (hR0.more (by omega)) (by omega)) ?_)
    rintro _ w20 ⟨A29, c30, xs31, a21, b22, rfl, hO32, hx24, hx25, hx26, hx27, hx28, hch23⟩
    have hsz34 := hch23.size
    replace hR0 := hR0.ch0 hch23
    replace hc := hc.step0 hch23
    have hub33 := hO32.lt
    have hcap35 : xs31.length ≤ c30 := by obtain ⟨_, _, hv, h1, _⟩ := hO32.form; injection hv with _ _ h3; omega
    refine rw_cons (op_pv (w0 rfl) rfl rfl (pv_move (v := (.tuple #[(.slice A29 xs31.length c30), (.int .i64 a21), (.int .i64 b22)])) rfl rfl) ?_)
    refine rw_cons (op_pv (w0 rfl) rfl rfl (pv_ext (v := (.slice A29 xs31.length c30)) rfl rfl rfl) ?_)
    refine rw_cons (op_pv (w0 rfl) rfl rfl (pv_ext (v := (.int .i64 a21)) rfl rfl rfl) ?_)
    refine rw_cons (op_pv (w0 rfl) rfl rfl (pv_ext (v := (.int .i64 b22)) rfl rfl rfl) ?_)
    refine rw_cons (op_pv (w0 rfl) rfl rfl (pv_assign (v := (.slice A29 xs31.length c30)) rfl rfl) ?_)
    refine rw_cons (op_pv (w0 rfl) rfl rfl (pv_assign (v := (.int .i64 a21)) rfl rfl) ?_)
    refine rw_cons (op_pv (w0 rfl) rfl rfl (pv_assign (v := (.int .i64 b22)) rfl rfl) ?_)
    refine rw_nil (hK19 _ _ ?_)
    refine hK17 _ _ ?_
    refine cw_seq fun K36 hK37 => ?_
    refine cw_region fun K38 hK39 => ?_
    refine rw_cons (op_pv (w0 rfl) rfl rfl (pv_move (v := (.slice A29 xs31.length c30)) rfl rfl) ?_)
    refine rw_cons (op_pv (w0 rfl) rfl rfl (pv_move (v := (.int .i64 a21)) rfl rfl) ?_)
    refine rw_cons (op_pv (w0 rfl) rfl rfl (pv_move (v := (.int .i64 b22)) rfl rfl) ?_)
    refine rw_cons (op_call (w0 rfl) rfl rfl (rc_call C28 rfl rfl) (BeatsDead_i _ xs31.length _ xs31 a21 b22 _ (hO32.rs (fun _ => rfl)) (by omega)) ?_)
    rintro _ w40 ⟨A42, c43, rfl, hO44, hch41⟩
    have hsz45 := hch41.size
    replace hR0 := hR0.ch0 hch41
    replace hO32 := hO32.ch0 hch41
    replace hc := hc.step0 hch41
    have hub46 := hO44.lt
    have hcap47 : (srvV xs31 a21 b22 false).length ≤ c43 := by obtain ⟨_, _, hv, h1, _⟩ := hO44.form; injection hv with _ _ h3; omega
    have hnt48 := srvV_le xs31 a21 b22 false
    refine rw_cons (op_pv (w0 rfl) rfl rfl (pv_assign (v := (.slice A42 (srvV xs31 a21 b22 false).length c43)) rfl rfl) ?_)
    refine rw_nil (hK39 _ _ ?_)
    refine hK37 _ _ ?_
    refine cw_seq fun K49 hK50 => ?_
    refine cw_region fun K51 hK52 => ?_
    refine rw_cons (op_pv (w0 rfl) rfl rfl (pv_move (v := (.slice A29 xs31.length c30)) rfl rfl) ?_)
    refine rw_cons (op_pv (w0 rfl) rfl rfl (pv_move (v := (.int .i64 a21)) rfl rfl) ?_)
    refine rw_cons (op_pv (w0 rfl) rfl rfl (pv_move (v := (.int .i64 b22)) rfl rfl) ?_)
    refine rw_cons (op_call (w0 rfl) rfl rfl (rc_call C29 rfl rfl) (BeatsDead_s _ xs31.length _ xs31 a21 b22 _ (hO32.rs (fun _ => rfl)) (by omega)) ?_)
    rintro _ w53 ⟨A55, c56, rfl, hO57, hch54⟩
    have hsz58 := hch54.size
    replace hR0 := hR0.ch0 hch54
    replace hO32 := hO32.ch0 hch54
    replace hO44 := hO44.ch0 hch54
    replace hc := hc.step0 hch54
    have hub59 := hO57.lt
    have hcap60 : (srvV xs31 a21 b22 false).length ≤ c56 := by obtain ⟨_, _, hv, h1, _⟩ := hO57.form; injection hv with _ _ h3; omega
    have hnt61 := srvV_le xs31 a21 b22 false
    refine rw_cons (op_pv (w0 rfl) rfl rfl (pv_assign (v := (.slice A55 (srvV xs31 a21 b22 false).length c56)) rfl rfl) ?_)
    refine rw_nil (hK52 _ _ ?_)
    refine hK50 _ _ ?_
    refine cw_seq fun K62 hK63 => ?_
    refine cw_seq fun K64 hK65 => ?_
    refine cw_region fun K66 hK67 => ?_
    refine rw_cons (op_pv (w0 rfl) rfl rfl (pv_move (v := (.slice A42 (srvV xs31 a21 b22 false).length c43)) rfl rfl) ?_)
    refine rw_cons (op_pv (w0 rfl) rfl rfl (pv_move (v := (.slice A55 (srvV xs31 a21 b22 false).length c56)) rfl rfl) ?_)
    refine rw_cons (op_call (w0 rfl) rfl rfl (rc_call C25 rfl rfl) (sameInts_same _ _ _ _ _ _ (srvV xs31 a21 b22 false) _ (hO44.rs (fun _ => rfl)) (hO57.rs (fun _ => rfl)) (by omega)) ?_)
    rintro _ w68 ⟨rfl, hch69⟩
    have hsz70 := hch69.size
    replace hR0 := hR0.ch0 hch69
    replace hO32 := hO32.ch0 hch69
    replace hO44 := hO44.ch0 hch69
    replace hO57 := hO57.ch0 hch69
    replace hc := hc.step0 hch69
    refine rw_cons (op_pv (w0 rfl) rfl rfl (pv_not rfl rfl) ?_)
    refine rw_cons (op_pv (w0 rfl) rfl rfl (pv_move (v := (.bool (!true))) rfl rfl) ?_)
    refine rw_cons (op_pv (w1y rfl rfl rfl rfl) rfl rfl (pv_move (v := (.slice A55 (srvV xs31 a21 b22 false).length c56)) rfl rfl) ?_)
    refine rw_cons (op_pv (w1y rfl rfl rfl rfl) rfl rfl (pv_len Try.underlying34 rfl rfl) ?_)
    refine rw_cons (op_pv (w1y rfl rfl rfl rfl) rfl rfl (pv_eql rfl rfl rfl) ?_)
    refine rw_cons (op_pv (w0 rfl) rfl rfl (pv_pickF (v := (.bool (decide ((((srvV xs31 a21 b22 false).length : Int) : Int) = 0)))) rfl rfl rfl) ?_)
    refine rw_cons (op_pv (w0 rfl) rfl rfl (pv_move (v := (.bool (decide ((((srvV xs31 a21 b22 false).length : Int) : Int) = 0)))) rfl rfl) ?_)
    refine rw_split 36 rfl (fun hb71 => ?_) (fun hb71 => ?_)
    · -- yes
      replace hb71 := of_decide_eq_true hb71
      refine rw_cons (op_pass (w1n2 rfl rfl rfl rfl) rfl rfl ?_)
      refine rw_cons (op_pass (w1n2 rfl rfl rfl rfl) rfl rfl ?_)
      refine rw_cons (op_pv (w0 rfl) rfl rfl (pv_pickT (v := (.bool true)) rfl rfl rfl) ?_)
      refine rw_nil (hK67 _ _ ?_)
      refine hK65 _ _ ?_
      refine cw_cond rfl (fun h72 => ?_) (fun h72 => ?_)
      · -- then
        clear h72
        refine cw_seq fun K73 hK74 => ?_
        refine cw_region fun K75 hK76 => ?_
        refine rw_cons (op_pv (w0 rfl) rfl rfl (pv_move (v := (.slice A42 (srvV xs31 a21 b22 false).length c43)) rfl rfl) ?_)
        refine rw_cons (op_pv (w0 rfl) rfl rfl (pv_move (v := (.slice A55 (srvV xs31 a21 b22 false).length c56)) rfl rfl) ?_)
        refine rw_cons (op_call (w0 rfl) rfl rfl (rc_call C25 rfl rfl) (sameInts_same _ _ _ _ _ _ (srvV xs31 a21 b22 false) _ (hO44.rs (fun _ => rfl)) (hO57.rs (fun _ => rfl)) (by omega)) ?_)
        rintro _ w77 ⟨rfl, hch78⟩
        have hsz79 := hch78.size
        replace hR0 := hR0.ch0 hch78
        replace hO32 := hO32.ch0 hch78
        replace hO44 := hO44.ch0 hch78
        replace hO57 := hO57.ch0 hch78
        replace hc := hc.step0 hch78
        refine rw_cons (op_pv (w0 rfl) rfl rfl (pv_assign (v := (.bool true)) rfl rfl) ?_)
        refine rw_nil (hK76 _ _ ?_)
        refine hK74 _ _ ?_
        refine cw_ret ?_
        refine fin1 rfl ?_
        exact ⟨rfl, hc⟩
      · -- else
        cases h72
    · -- no
      replace hb71 := of_decide_eq_false hb71
      refine rw_cons (op_pv (w1y rfl rfl rfl rfl) rfl rfl (pv_move (v := (.int .i64 a21)) rfl rfl) ?_)
      refine rw_cons (op_pv (w1y rfl rfl rfl rfl) rfl rfl (pv_eql rfl rfl rfl) ?_)
      refine rw_cons (op_pv (w0 rfl) rfl rfl (pv_pickF (v := (.bool (decide ((a21 : Int) = 9999)))) rfl rfl rfl) ?_)
      refine rw_nil (hK67 _ _ ?_)
      refine hK65 _ _ ?_
      refine cw_cond rfl (fun h80 => ?_) (fun h80 => ?_)
      · -- then
        replace h80 := of_decide_eq_true h80
        refine cw_seq fun K81 hK82 => ?_
        refine cw_region fun K83 hK84 => ?_
        refine rw_cons (op_pv (w0 rfl) rfl rfl (pv_move (v := (.slice A42 (srvV xs31 a21 b22 false).length c43)) rfl rfl) ?_)
        refine rw_cons (op_pv (w0 rfl) rfl rfl (pv_move (v := (.slice A55 (srvV xs31 a21 b22 false).length c56)) rfl rfl) ?_)
        refine rw_cons (op_call (w0 rfl) rfl rfl (rc_call C25 rfl rfl) (sameInts_same _ _ _ _ _ _ (srvV xs31 a21 b22 false) _ (hO44.rs (fun _ => rfl)) (hO57.rs (fun _ => rfl)) (by omega)) ?_)
        rintro _ w85 ⟨rfl, hch86⟩
        have hsz87 := hch86.size
        replace hR0 := hR0.ch0 hch86
        replace hO32 := hO32.ch0 hch86
        replace hO44 := hO44.ch0 hch86
        replace hO57 := hO57.ch0 hch86
        replace hc := hc.step0 hch86
        refine rw_cons (op_pv (w0 rfl) rfl rfl (pv_assign (v := (.bool true)) rfl rfl) ?_)
        refine rw_nil (hK84 _ _ ?_)
        refine hK82 _ _ ?_
        refine cw_ret ?_
        refine fin1 rfl ?_
        exact ⟨rfl, hc⟩
      · -- else
        replace h80 := of_decide_eq_false h80
        refine cw_skip ?_
        refine hK63 _ _ ?_
        refine cw_seq fun K88 hK89 => ?_
        have hok : SrvOK xs31 a21 b22 := srvV_some (xs := xs31) (now := a21) (within := b22) (al := false) (by omega)
        refine cw_region fun K90 hK91 => ?_
        refine rw_cons (op_pv (w0 rfl) rfl rfl (pv_move (v := (.slice A29 xs31.length c30)) rfl rfl) ?_)
        refine rw_cons (op_pv (w0 rfl) rfl rfl (pv_move (v := (.int .i64 a21)) rfl rfl) ?_)
        refine rw_cons (op_pv (w0 rfl) rfl rfl (pv_add rfl rfl rfl (by omega) (by omega)) ?_)
        refine rw_cons (op_pv (w0 rfl) rfl rfl (pv_move (v := (.int .i64 b22)) rfl rfl) ?_)
        refine rw_cons (op_call (w0 rfl) rfl rfl (rc_call C28 rfl rfl) (BeatsDead_i _ xs31.length _ xs31 (a21 + 1) b22 _ (hO32.rs (fun _ => rfl)) (by omega)) ?_)
        rintro _ w92 ⟨A94, c95, rfl, hO96, hch93⟩
        have hsz97 := hch93.size
        replace hR0 := hR0.ch0 hch93
        replace hO32 := hO32.ch0 hch93
        replace hO44 := hO44.ch0 hch93
        replace hO57 := hO57.ch0 hch93
        replace hc := hc.step0 hch93
        have hub98 := hO96.lt
        have hcap99 : (srvV xs31 (a21 + 1) b22 false).length ≤ c95 := by obtain ⟨_, _, hv, h1, _⟩ := hO96.form; injection hv with _ _ h3; omega
        have hnt100 := srvV_le xs31 (a21 + 1) b22 false
        refine rw_cons (op_pv (w0 rfl) rfl rfl (pv_assign (v := (.slice A94 (srvV xs31 (a21 + 1) b22 false).length c95)) rfl rfl) ?_)
        refine rw_nil (hK91 _ _ ?_)
        refine hK89 _ _ ?_
        refine cw_seq fun K101 hK102 => ?_
        refine cw_seq fun K103 hK104 => ?_
        refine cw_region fun K105 hK106 => ?_
        refine rw_cons (op_pv (w0 rfl) rfl rfl (pv_assign (v := (.int .i64 0)) rfl rfl) ?_)
        refine rw_nil (hK106 _ _ ?_)
        refine hK104 _ _ ?_
        refine cw_block ?_
        refine cw_loop (σ := Nat) (fun k => [(9, (.int .i64 (k : Int))), (6, (.slice A42 (srvV xs31 a21 b22 false).length c43)), (8, (.slice A94 (srvV xs31 (a21 + 1) b22 false).length c95))]) (fun k W => (k ≤ (srvV xs31 a21 b22 false).length) ∧ RS encU 1 W w.heap.size A0 n0 xs0 ∧ Own encB 2 W w.heap.size 39 (.slice A29 xs31.length c30) xs31 ∧ Own encI 1 W w20.heap.size 3 (.slice A42 (srvV xs31 a21 b22 false).length c43) (srvV xs31 a21 b22 false) ∧ Own encI 1 W w40.heap.size 3 (.slice A55 (srvV xs31 a21 b22 false).length c56) (srvV xs31 a21 b22 false) ∧ Own encI 1 W w68.heap.size 3 (.slice A94 (srvV xs31 (a21 + 1) b22 false).length c95) (srvV xs31 (a21 + 1) b22 false) ∧ Ch [] w W ∧ w20.heap.size ≤ W.heap.size ∧ w40.heap.size ≤ W.heap.size ∧ w68.heap.size ≤ W.heap.size) (fun k => (srvV xs31 a21 b22 false).length - k) 0 ?_ ?_ ?_
        · exact ⟨rfl, rfl, rfl, trivial⟩
        · refine ⟨Nat.zero_le _, hR0, hO32, hO44, hO57, hO96, hc, (by omega), (by omega), (by omega)⟩
        · rintro k J114 w107 ⟨hk, hR0, hO32, hO44, hO57, hO96, hc, hmono108, hmono109, hmono110⟩ K111 hK112
          have hsz116 := hc.size
          have hub117 := hO32.lt
          have hub118 := hO44.lt
          have hub119 := hO57.lt
          have hub120 := hO96.lt
          refine cw_seq fun K121 hK122 => ?_
          refine cw_seq fun K123 hK124 => ?_
          refine cw_region fun K125 hK126 => ?_
          refine rw_cons (op_pv (w0 rfl) rfl rfl (pv_move (v := (.int .i64 (k : Int))) rfl rfl) ?_)
          refine rw_cons (op_pv (w0 rfl) rfl rfl (pv_move (v := (.slice A42 (srvV xs31 a21 b22 false).length c43)) rfl rfl) ?_)
          refine rw_cons (op_pv (w0 rfl) rfl rfl (pv_len Try.underlying34 rfl rfl) ?_)
          refine rw_cons (op_pv (w0 rfl) rfl rfl (pv_lss rfl rfl rfl) ?_)
          refine rw_nil (hK126 _ _ ?_)
          refine hK124 _ _ ?_
          refine cw_cond rfl (fun h127 => ?_) (fun h127 => ?_)
          · -- then
            replace h127 := of_decide_eq_true h127
            refine cw_skip ?_
            refine hK122 _ _ ?_
            refine cw_seq fun K128 hK129 => ?_
            refine cw_block ?_
            refine cw_seq fun K130 hK131 => ?_
            refine cw_region fun K132 hK133 => ?_
            refine rw_cons (op_pv (w0 rfl) rfl rfl (pv_move (v := (.slice A94 (srvV xs31 (a21 + 1) b22 false).length c95)) rfl rfl) ?_)
            refine rw_cons (op_pv (w0 rfl) rfl rfl (pv_move (v := (.slice A42 (srvV xs31 a21 b22 false).length c43)) rfl rfl) ?_)
            refine rw_cons (op_pv (w0 rfl) rfl rfl (pv_move (v := (.int .i64 (k : Int))) rfl rfl) ?_)
            refine rw_cons (op_pv (w0 rfl) rfl rfl (pv_idx Try.underlying34 T3 rfl rfl rfl ((hO44.rs (fun _ => rfl)).some (k := k) (by omega)) (by omega) (by omega)) ?_)
            refine rw_cons (op_lv (w0 rfl) rfl rfl (lv_load T3 rfl rfl ((hO44.rs (fun _ => rfl)).cell0 (k := k) (by omega) rfl)) ?_)
            refine rw_cons (op_call (w0 rfl) rfl rfl (rc_call C26 rfl rfl) (hasInt_ok _ (srvV xs31 (a21 + 1) b22 false).length _ (srvV xs31 (a21 + 1) b22 false) (el (srvV xs31 a21 b22 false) k) _ (hO96.rs (fun _ => rfl)) (by omega)) ?_)
            rintro _ w134 ⟨rfl, hch135⟩
            have hsz136 := hch135.size
            replace hR0 := hR0.ch0 hch135
            replace hO32 := hO32.ch0 hch135
            replace hO44 := hO44.ch0 hch135
            replace hO57 := hO57.ch0 hch135
            replace hO96 := hO96.ch0 hch135
            replace hc := hc.step0 hch135
            refine rw_cons (op_pv (w0 rfl) rfl rfl (pv_not rfl rfl) ?_)
            refine rw_nil (hK133 _ _ ?_)
            refine hK131 _ _ ?_
            refine cw_cond rfl (fun h137 => ?_) (fun h137 => ?_)
            · -- then
              replace h137 := not_t h137
              replace h137 := dec_f h137
              refine cw_seq fun K138 hK139 => ?_
              refine cw_region fun K140 hK141 => ?_
              refine rw_cons (op_pv (w0 rfl) rfl rfl (pv_assign (v := (.bool false)) rfl rfl) ?_)
              refine rw_nil (hK141 _ _ ?_)
              refine hK139 _ _ ?_
              refine cw_ret ?_
              refine fin1 rfl ?_
              exact absurd (dead_later hok (by omega) (el_mem (j := k) (by omega))) (by assumption)
            · -- else
              replace h137 := not_f h137
              replace h137 := dec_t h137
              refine cw_skip ?_
              refine hK129 _ _ ?_
              refine cw_region fun K142 hK143 => ?_
              refine rw_cons (op_pv (w0 rfl) rfl rfl (pv_move (v := (.int .i64 (k : Int))) rfl rfl) ?_)
              refine rw_cons (op_pv (w0 rfl) rfl rfl (pv_add rfl rfl rfl (by omega) (by omega)) ?_)
              refine rw_cons (op_pv (w0 rfl) rfl rfl (pv_assign (v := (.int .i64 ((k : Int) + 1))) rfl rfl) ?_)
              refine rw_nil (hK143 _ _ ?_)
              refine hK112 _ _ (k + 1) ⟨(iv (by omega)), rfl, rfl, trivial⟩ ⟨?_, hR0, hO32, hO44, hO57, hO96, hc, (by omega), (by omega), (by omega)⟩ ?_
              · omega
              · (first | omega | (simp only []; omega))
          · -- else
            replace h127 := of_decide_eq_false h127
            refine cw_exit ?_
            refine hK102 _ _ ?_
            refine cw_seq fun K144 hK145 => ?_
            refine cw_region fun K146 hK147 => ?_
            refine rw_cons (op_pv (w0 rfl) rfl rfl (pv_assign (v := (.bool true)) rfl rfl) ?_)
            refine rw_nil (hK147 _ _ ?_)
            refine hK145 _ _ ?_
            refine cw_ret ?_
            refine fin1 rfl ?_
            exact ⟨rfl, hc⟩
end Go.Proofs.Ytnkjljjcionfiaa
