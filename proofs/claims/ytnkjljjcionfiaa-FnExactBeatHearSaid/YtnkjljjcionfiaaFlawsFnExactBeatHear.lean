/-
  The walk of laws.FnExactBeatHear, written by program: each line names the law of one operation. Conditions: those of the theorem.
-/
import Derived.Test.YtnkjljjcionfiaaProg
import Derived.Test.YtnkjljjcionfiaaFlawsszBeatS
import Derived.Test.YtnkjljjcionfiaaFlawstoBeatS
import Derived.Test.YtnkjljjcionfiaaFlawseqBeatS
import Derived.Test.YtnkjljjcionfiaaFlawsmarkBeatS
import Derived.Test.YtnkjljjcionfiaaFlawsheldBeatS
import Derived.Test.YtnkjljjcionfiaaFlawstoBeat
import Derived.Test.YtnkjljjcionfiaaFimplBeatHear
import Derived.Test.YtnkjljjcionfiaaFspecBeatHear
import Derived.KernelRfl
namespace Go.Proofs.Ytnkjljjcionfiaa
open Go Go.RowKit
set_option linter.unusedVariables false
set_option linter.unusedSimpArgs false
namespace FnExactBeatHear_okF
theorem T48 : TI Try.prog 48 true (.agg #[.int .i64 0, .int .i64 0]) 2 16 := TI.mk' Try.underlying48 rfl (by kernel_rfl)
theorem C19 : Callable Try.prog 19 := ⟨_, Try.func19, by kernel_rfl, by kernel_rfl⟩
theorem C20 : Callable Try.prog 20 := ⟨_, Try.func20, by kernel_rfl, by kernel_rfl⟩
theorem C21 : Callable Try.prog 21 := ⟨_, Try.func21, by kernel_rfl, by kernel_rfl⟩
theorem C31 : Callable Try.prog 31 := ⟨_, Try.func31, by kernel_rfl, by kernel_rfl⟩
theorem C35 : Callable Try.prog 35 := ⟨_, Try.func35, by kernel_rfl, by kernel_rfl⟩
theorem C36 : Callable Try.prog 36 := ⟨_, Try.func36, by kernel_rfl, by kernel_rfl⟩
theorem C38 : Callable Try.prog 38 := ⟨_, Try.func38, by kernel_rfl, by kernel_rfl⟩
theorem C39 : Callable Try.prog 39 := ⟨_, Try.func39, by kernel_rfl, by kernel_rfl⟩
end FnExactBeatHear_okF
open FnExactBeatHear_okF in
set_option maxHeartbeats 4000000 in
theorem FnExactBeatHear_ok (A0 : Option Addr) (n0 c0 : Nat) (xs0 : List Bt) (a1 b1 : Int) (w : World) (hR0 : RS encB 2 w w.heap.size A0 n0 xs0) (hn0 : n0 ≤ c0) (hm0 : c0 ≤ maxLen) :
    Fn Try.prog 13 [(.slice A0 n0 c0), (.agg #[(.int .i64 a1), (.int .i64 b1)])] w fun v w' => v = .bool true ∧ Ch [] w w' := by
  have hlen0 := hR0.len
  refine fn_of (n := 104) Try.func13 rfl rfl rfl rfl ?_
  have hc : Ch [] w w := Ch.refl _ _
  refine cw_seq fun K1 hK2 => ?_
  refine cw_region fun K3 hK4 => ?_
  refine rw_cons (op_box (w0 rfl) rfl rfl rfl rfl ?_)
  rintro g6 w5 hg9 hg10 hB8 hch7
  have hsz11 := hch7.size
  replace hR0 := hR0.ch0 hch7
  replace hc := hc.step0 hch7
  replace hB8 : Blk w5 g6 48 [(.int .i64 a1), (.int .i64 b1)] := hB8
  refine rw_cons (op_pv (w0 rfl) rfl rfl (pv_assign (v := (.bool false)) rfl rfl) ?_)
  refine rw_nil (hK4 _ _ ?_)
  refine hK2 _ _ ?_
  refine cw_seq fun K12 hK13 => ?_
  refine cw_region fun K14 hK15 => ?_
  refine rw_cons (op_pv (w0 rfl) rfl rfl (pv_assign (v := (.int .i64 1048576)) rfl rfl) ?_)
  refine rw_nil (hK15 _ _ ?_)
  refine hK13 _ _ ?_
  refine cw_seq fun K16 hK17 => ?_
  refine cw_region fun K18 hK19 => ?_
  refine rw_cons (op_pv (w0 rfl) rfl rfl (pv_move (v := (.slice A0 n0 c0)) rfl rfl) ?_)
  refine rw_cons (op_pv (w0 rfl) rfl rfl (pv_move (v := (.int .i64 1048576)) rfl rfl) ?_)
  refine rw_cons (op_call (w0 rfl) rfl rfl (rc_call C19 rfl rfl) (szBeatS_ok _ n0 _ _ 1048576 _ (hR0.more (by omega)) (by omega) (by omega) (by omega)) ?_)
  rintro _ w21 ⟨r20, rfl, hsz22, hsz23, hch24⟩
  have hsz25 := hch24.size
  replace hR0 := hR0.ch0 hch24
  replace hB8 := hB8.ch0 hch24
  replace hc := hc.step0 hch24
  refine rw_cons (op_pv (w0 rfl) rfl rfl (pv_assign (v := (.int .i64 r20)) rfl rfl) ?_)
  refine rw_nil (hK19 _ _ ?_)
  refine hK17 _ _ ?_
  refine cw_seq fun K26 hK27 => ?_
  refine cw_seq fun K28 hK29 => ?_
  refine cw_region fun K30 hK31 => ?_
  refine rw_cons (op_pv (w0 rfl) rfl rfl (pv_move (v := (.int .i64 r20)) rfl rfl) ?_)
  refine rw_cons (op_pv (w0 rfl) rfl rfl (pv_lss rfl rfl rfl) ?_)
  refine rw_nil (hK31 _ _ ?_)
  refine hK29 _ _ ?_
  refine cw_cond rfl (fun h32 => ?_) (fun h32 => ?_)
  · -- then
    replace h32 := of_decide_eq_true h32
    refine cw_seq fun K33 hK34 => ?_
    refine cw_region fun K35 hK36 => ?_
    refine rw_cons (op_pv (w0 rfl) rfl rfl (pv_assign (v := (.bool true)) rfl rfl) ?_)
    refine rw_nil (hK36 _ _ ?_)
    refine hK34 _ _ ?_
    refine cw_ret ?_
    refine fin1 rfl ?_
    first
      | exact ⟨rfl, hc⟩
      | (exfalso; omega)
      | exact ⟨congrArg Value.bool (decide_eq_true (by omega)), hc⟩
      | exact absurd rfl ‹_ ≠ _›
      | (exfalso; simp_all; done)
  · -- else
    replace h32 := of_decide_eq_false h32
    refine cw_skip ?_
    refine hK27 _ _ ?_
    refine cw_seq fun K37 hK38 => ?_
    refine cw_drawn (fun u => Ch [] w21 u) (.free 0 (.free 2 (.one 1 true (.one 3 true (.one 4 true (.free 5 (.free 6 (.free 7 (.free 8 (.free 9 (.done))))))))))) (by kernel_rfl) (by kernel_rfl) (Ch.refl _ _).drew fun K42 hK43 => ?_
    obtain ⟨w39, hw_, hch40, hsz41⟩ : ∃ w1 : World, w1 = w21.drew ∧ Ch [] w21 w1 ∧ w1.heap.size = w21.heap.size := ⟨_, rfl, (Ch.refl _ _).drew, rfl⟩
    rw [← hw_]; clear hw_
    have hr44 : Ch [] w21 w39 := hch40.sub (fun s hs => by cases hs)
    have hR0_r := hR0
    have hB8_r := hB8
    have hsz45 := hch40.size
    replace hR0 := hR0.ch0 hch40
    replace hB8 := hB8.ch0 hch40
    replace hc := hc.step0 hch40
    refine tw_free rfl (w0 rfl) rfl rfl (fun u hu => (pv_move (v := (.slice A0 n0 c0)) rfl rfl : PV _ _ _ _) u) ?_
    refine tw_free rfl (w0 rfl) rfl rfl (fun u hu => lv_loadN T48 rfl rfl rfl (fun j v hv => (hB8_r.ch hu (by simp)).cellA hv)) ?_
    refine tw_one rfl (op_call (w0 rfl) rfl rfl (rc_call C20 rfl rfl) (toBeatS_ok _ _ _ _ _ (hR0.more (by omega)) (by omega)) ?_)
    rintro _ w46 ⟨v47, rfl, hO48, hch49⟩
    have hsz50 := hch49.size
    replace hR0 := hR0.ch0 hch49
    replace hB8 := hB8.ch0 hch49
    replace hc := hc.step0 hch49
    replace hr44 := hr44.step0 hch49
    obtain ⟨A51, c52, hv53, hle54, hmx55⟩ := hO48.form; subst hv53
    have hub56 := hO48.lt
    refine ⟨fun _ => hr44, ?_⟩
    refine tw_one rfl (op_call (w0 rfl) rfl rfl (rc_call C38 rfl rfl) (toBeat_ok a1 b1 _) ?_)
    rintro _ w57 ⟨rfl, hch58⟩
    have hsz59 := hch58.size
    replace hR0 := hR0.ch0 hch58
    replace hB8 := hB8.ch0 hch58
    replace hO48 := hO48.ch0 hch58
    replace hc := hc.step0 hch58
    replace hr44 := hr44.step0 hch58
    refine ⟨fun _ => hr44, ?_⟩
    refine tw_one rfl (op_call (w0 rfl) rfl rfl (rc_call C36 rfl rfl) (BeatHear_s _ xs0.length _ xs0 a1 b1 _ (hO48.rs (fun _ => rfl)) (by omega)) ?_)
    rintro _ w60 ⟨A62, c63, rfl, hO64, hch61⟩
    have hsz65 := hch61.size
    replace hR0 := hR0.ch0 hch61
    replace hB8 := hB8.ch0 hch61
    replace hO48 := hO48.ch0 hch61
    replace hc := hc.step0 hch61
    replace hr44 := hr44.step0 hch61
    have hub66 := hO64.lt
    have hcap67 : (hearV xs0 ⟨a1, b1⟩).length ≤ c63 := by obtain ⟨_, _, hv, h1, _⟩ := hO64.form; injection hv with _ _ h3; omega
    have hnt68 := hearV_le xs0 ⟨a1, b1⟩
    refine ⟨fun _ => hr44, ?_⟩
    refine tw_free rfl (w0 rfl) rfl rfl (fun u hu => (pv_move (v := (.tuple #[(.slice A62 (hearV xs0 ⟨a1, b1⟩).length c63), (.bool (dec (HearOK xs0 ⟨a1, b1⟩)))])) rfl rfl : PV _ _ _ _) u) ?_
    refine tw_free rfl (w0 rfl) rfl rfl (fun u hu => (pv_ext (v := (.slice A62 (hearV xs0 ⟨a1, b1⟩).length c63)) rfl rfl rfl : PV _ _ _ _) u) ?_
    refine tw_free rfl (w0 rfl) rfl rfl (fun u hu => (pv_ext (v := (.bool (dec (HearOK xs0 ⟨a1, b1⟩)))) rfl rfl rfl : PV _ _ _ _) u) ?_
    refine tw_free rfl (w0 rfl) rfl rfl (fun u hu => (pv_assign (v := (.slice A62 (hearV xs0 ⟨a1, b1⟩).length c63)) rfl rfl : PV _ _ _ _) u) ?_
    refine tw_free rfl (w0 rfl) rfl rfl (fun u hu => (pv_assign (v := (.bool (dec (HearOK xs0 ⟨a1, b1⟩)))) rfl rfl : PV _ _ _ _) u) ?_
    clear hB8_r
    clear hR0_r
    refine tw_done (hK43 _ _ ?_)
    refine hK38 _ _ ?_
    refine cw_seq fun K69 hK70 => ?_
    refine cw_region fun K71 hK72 => ?_
    refine rw_cons (op_pv (w0 rfl) rfl rfl (pv_move (v := (.slice A0 n0 c0)) rfl rfl) ?_)
    refine rw_cons (op_call (w0 rfl) rfl rfl (rc_call C20 rfl rfl) (toBeatS_ok _ _ _ _ _ (hR0.more (by omega)) (by omega)) ?_)
    rintro _ w73 ⟨v74, rfl, hO75, hch76⟩
    have hsz77 := hch76.size
    replace hR0 := hR0.ch0 hch76
    replace hB8 := hB8.ch0 hch76
    replace hO48 := hO48.ch0 hch76
    replace hO64 := hO64.ch0 hch76
    replace hc := hc.step0 hch76
    obtain ⟨A78, c79, hv80, hle81, hmx82⟩ := hO75.form; subst hv80
    have hub83 := hO75.lt
    refine rw_cons (op_pv (w0 rfl) rfl rfl (pv_assign (v := (.slice A78 xs0.length c79)) rfl rfl) ?_)
    refine rw_nil (hK72 _ _ ?_)
    refine hK70 _ _ ?_
    refine cw_seq fun K84 hK85 => ?_
    refine cw_region fun K86 hK87 => ?_
    refine rw_cons (op_pv (w0 rfl) rfl rfl (pv_move (v := (.slice A78 xs0.length c79)) rfl rfl) ?_)
    refine rw_cons (op_lv (w0 rfl) rfl rfl (lv_loadN T48 rfl rfl rfl (fun j v hv => hB8.cellA hv)) ?_)
    refine rw_cons (op_call (w0 rfl) rfl rfl (rc_call C38 rfl rfl) (toBeat_ok a1 b1 _) ?_)
    rintro _ w88 ⟨rfl, hch89⟩
    have hsz90 := hch89.size
    replace hR0 := hR0.ch0 hch89
    replace hB8 := hB8.ch0 hch89
    replace hO48 := hO48.ch0 hch89
    replace hO64 := hO64.ch0 hch89
    replace hO75 := hO75.ch0 hch89
    replace hc := hc.step0 hch89
    refine rw_cons (op_call (w0 rfl) rfl rfl (rc_call C35 rfl rfl) (BeatHear_i _ xs0.length _ xs0 a1 b1 _ (hO75.rs (fun _ => rfl)) (by omega)) ?_)
    rintro _ w91 ⟨A93, c94, rfl, hO95, hch92⟩
    have hsz96 := hch92.size
    replace hR0 := hR0.ch0 hch92
    replace hB8 := hB8.ch0 hch92
    replace hO48 := hO48.ch0 hch92
    replace hO64 := hO64.ch0 hch92
    replace hO75 := hO75.ch0 hch92
    replace hc := hc.step0 hch92
    have hub97 := hO95.lt
    have hcap98 : (hearV xs0 ⟨a1, b1⟩).length ≤ c94 := by obtain ⟨_, _, hv, h1, _⟩ := hO95.form; injection hv with _ _ h3; omega
    have hnt99 := hearV_le xs0 ⟨a1, b1⟩
    refine rw_cons (op_pv (w0 rfl) rfl rfl (pv_move (v := (.tuple #[(.slice A93 (hearV xs0 ⟨a1, b1⟩).length c94), (.bool (dec (HearOK xs0 ⟨a1, b1⟩)))])) rfl rfl) ?_)
    refine rw_cons (op_pv (w0 rfl) rfl rfl (pv_ext (v := (.slice A93 (hearV xs0 ⟨a1, b1⟩).length c94)) rfl rfl rfl) ?_)
    refine rw_cons (op_pv (w0 rfl) rfl rfl (pv_ext (v := (.bool (dec (HearOK xs0 ⟨a1, b1⟩)))) rfl rfl rfl) ?_)
    refine rw_cons (op_pv (w0 rfl) rfl rfl (pv_assign (v := (.slice A93 (hearV xs0 ⟨a1, b1⟩).length c94)) rfl rfl) ?_)
    refine rw_cons (op_pv (w0 rfl) rfl rfl (pv_assign (v := (.bool (dec (HearOK xs0 ⟨a1, b1⟩)))) rfl rfl) ?_)
    refine rw_nil (hK87 _ _ ?_)
    refine hK85 _ _ ?_
    refine cw_seq fun K100 hK101 => ?_
    refine cw_seq fun K102 hK103 => ?_
    refine cw_region fun K104 hK105 => ?_
    refine rw_cons (op_pv (w0 rfl) rfl rfl (pv_move (v := (.slice A93 (hearV xs0 ⟨a1, b1⟩).length c94)) rfl rfl) ?_)
    refine rw_cons (op_pv (w0 rfl) rfl rfl (pv_move (v := (.slice A62 (hearV xs0 ⟨a1, b1⟩).length c63)) rfl rfl) ?_)
    refine rw_cons (op_call (w0 rfl) rfl rfl (rc_call C21 rfl rfl) (eqBeatS_same _ _ _ _ _ _ (hearV xs0 ⟨a1, b1⟩) _ (hO95.rs (fun _ => rfl)) (hO64.rs (fun _ => rfl)) (by omega)) ?_)
    rintro _ w106 ⟨rfl, hch107⟩
    have hsz108 := hch107.size
    replace hR0 := hR0.ch0 hch107
    replace hB8 := hB8.ch0 hch107
    replace hO48 := hO48.ch0 hch107
    replace hO64 := hO64.ch0 hch107
    replace hO75 := hO75.ch0 hch107
    replace hO95 := hO95.ch0 hch107
    replace hc := hc.step0 hch107
    refine rw_cons (op_pv (w0 rfl) rfl rfl (pv_not rfl rfl) ?_)
    refine rw_cons (op_pv (w0 rfl) rfl rfl (pv_move (v := (.bool (!true))) rfl rfl) ?_)
    refine rw_cons (op_pv (w1y rfl rfl rfl rfl) rfl rfl (pv_move (v := (.bool (dec (HearOK xs0 ⟨a1, b1⟩)))) rfl rfl) ?_)
    refine rw_cons (op_pv (w1y rfl rfl rfl rfl) rfl rfl (pv_move (v := (.bool (dec (HearOK xs0 ⟨a1, b1⟩)))) rfl rfl) ?_)
    refine rw_cons (op_pv (w1y rfl rfl rfl rfl) rfl rfl (pv_neBs Try.underlying4 rfl rfl rfl) ?_)
    refine rw_cons (op_pv (w0 rfl) rfl rfl (pv_pickF (v := (.bool false)) rfl rfl rfl) ?_)
    refine rw_nil (hK105 _ _ ?_)
    refine hK103 _ _ ?_
    refine cw_cond rfl (fun h109 => ?_) (fun h109 => ?_)
    · -- then
      cases h109
    · -- else
      clear h109
      refine cw_skip ?_
      refine hK101 _ _ ?_
      refine cw_seq fun K110 hK111 => ?_
      refine cw_seq fun K112 hK113 => ?_
      refine cw_region fun K114 hK115 => ?_
      refine rw_cons (op_pv (w0 rfl) rfl rfl (pv_move (v := (.slice A78 xs0.length c79)) rfl rfl) ?_)
      refine rw_cons (op_pv (w0 rfl) rfl rfl (pv_move (v := (.slice A0 n0 c0)) rfl rfl) ?_)
      refine rw_cons (op_call (w0 rfl) rfl rfl (rc_call C20 rfl rfl) (toBeatS_ok _ _ _ _ _ (hR0.more (by omega)) (by omega)) ?_)
      rintro _ w116 ⟨v117, rfl, hO118, hch119⟩
      have hsz120 := hch119.size
      replace hR0 := hR0.ch0 hch119
      replace hB8 := hB8.ch0 hch119
      replace hO48 := hO48.ch0 hch119
      replace hO64 := hO64.ch0 hch119
      replace hO75 := hO75.ch0 hch119
      replace hO95 := hO95.ch0 hch119
      replace hc := hc.step0 hch119
      obtain ⟨A121, c122, hv123, hle124, hmx125⟩ := hO118.form; subst hv123
      have hub126 := hO118.lt
      refine rw_cons (op_call (w0 rfl) rfl rfl (rc_call C21 rfl rfl) (eqBeatS_same _ _ _ _ _ _ xs0 _ (hO75.rs (fun _ => rfl)) (hO118.rs (fun _ => rfl)) (by omega)) ?_)
      rintro _ w127 ⟨rfl, hch128⟩
      have hsz129 := hch128.size
      replace hR0 := hR0.ch0 hch128
      replace hB8 := hB8.ch0 hch128
      replace hO48 := hO48.ch0 hch128
      replace hO64 := hO64.ch0 hch128
      replace hO75 := hO75.ch0 hch128
      replace hO95 := hO95.ch0 hch128
      replace hO118 := hO118.ch0 hch128
      replace hc := hc.step0 hch128
      refine rw_cons (op_pv (w0 rfl) rfl rfl (pv_not rfl rfl) ?_)
      refine rw_nil (hK115 _ _ ?_)
      refine hK113 _ _ ?_
      refine cw_cond rfl (fun h130 => ?_) (fun h130 => ?_)
      · -- then
        cases h130
      · -- else
        clear h130
        refine cw_skip ?_
        refine hK111 _ _ ?_
        refine cw_seq fun K131 hK132 => ?_
        refine cw_region fun K133 hK134 => ?_
        refine rw_cons (op_pv (w0 rfl) rfl rfl (pv_assign (v := (.int .i64 1)) rfl rfl) ?_)
        refine rw_nil (hK134 _ _ ?_)
        refine hK132 _ _ ?_
        refine cw_seq fun K135 hK136 => ?_
        refine cw_region fun K137 hK138 => ?_
        refine rw_cons (op_pv (w0 rfl) rfl rfl (pv_move (v := (.slice A78 xs0.length c79)) rfl rfl) ?_)
        refine rw_cons (op_pv (w0 rfl) rfl rfl (pv_move (v := (.int .i64 1)) rfl rfl) ?_)
        refine rw_cons (op_call (w0 rfl) rfl rfl (rc_call C31 rfl rfl) (markBeatS_ok _ xs0.length _ _ _ 1 _ hO75 (by omega) (by omega) (by omega) (by omega)) ?_)
        rintro _ w139 ⟨ys140, hyl141, hye142, rfl, hO143, hch144⟩
        have hsz145 := hch144.size
        replace hR0 := hR0.ch hch144 (hO75.off.le (by omega))
        replace hB8 := hB8.ch hch144 (by first | (refine hO75.off.not ?_; omega) | (intro hs; have := hub83 _ hs; omega))
        replace hO48 := hO48.ch hch144 (fun s hs hs2 => by first | (have h1 := hO48.off s hs; have h2 := hub83 s hs2; omega) | (have h1 := hub56 s hs; have h2 := hO75.off s hs2; omega) | (have h2 := hub83 s hs2; simp [obl, Value.ownBlock] at hs; omega) | (have h1 := hub56 s hs; simp [obl, Value.ownBlock] at hs2; omega))
        replace hO64 := hO64.ch hch144 (fun s hs hs2 => by first | (have h1 := hO64.off s hs; have h2 := hub83 s hs2; omega) | (have h1 := hub66 s hs; have h2 := hO75.off s hs2; omega) | (have h2 := hub83 s hs2; simp [obl, Value.ownBlock] at hs; omega) | (have h1 := hub66 s hs; simp [obl, Value.ownBlock] at hs2; omega))
        replace hO95 := hO95.ch hch144 (fun s hs hs2 => by first | (have h1 := hO95.off s hs; have h2 := hub83 s hs2; omega) | (have h1 := hub97 s hs; have h2 := hO75.off s hs2; omega) | (have h2 := hub83 s hs2; simp [obl, Value.ownBlock] at hs; omega) | (have h1 := hub97 s hs; simp [obl, Value.ownBlock] at hs2; omega))
        replace hO118 := hO118.ch hch144 (fun s hs hs2 => by first | (have h1 := hO118.off s hs; have h2 := hub83 s hs2; omega) | (have h1 := hub126 s hs; have h2 := hO75.off s hs2; omega) | (have h2 := hub83 s hs2; simp [obl, Value.ownBlock] at hs; omega) | (have h1 := hub126 s hs; simp [obl, Value.ownBlock] at hs2; omega))
        replace hc := (hO75.off.le (by omega)).step hc hch144
        clear hO75; have hO75 := hO143; clear hO143
        refine rw_cons (op_pv (w0 rfl) rfl rfl (pv_assign (v := (.int .i64 (1 + 2 * ((xs0.length) : Int)))) rfl rfl) ?_)
        refine rw_nil (hK138 _ _ ?_)
        refine hK136 _ _ ?_
        refine cw_seq fun K146 hK147 => ?_
        refine cw_seq fun K148 hK149 => ?_
        refine cw_region fun K150 hK151 => ?_
        refine rw_cons (op_pv (w0 rfl) rfl rfl (pv_move (v := (.int .i64 (1 + 2 * ((xs0.length) : Int)))) rfl rfl) ?_)
        refine rw_cons (op_pv (w0 rfl) rfl rfl (pv_lss rfl rfl rfl) ?_)
        refine rw_cons (op_pv (w0 rfl) rfl rfl (pv_move (v := (.bool (decide ((1 + 2 * ((xs0.length) : Int)) < 0)))) rfl rfl) ?_)
        refine rw_split 57 rfl (fun hb152 => ?_) (fun hb152 => ?_)
        · -- yes
          replace hb152 := of_decide_eq_true hb152
          refine rw_cons (op_pass (w1n2 rfl rfl rfl rfl) rfl rfl ?_)
          refine rw_cons (op_pass (w1n2 rfl rfl rfl rfl) rfl rfl ?_)
          refine rw_cons (op_pass (w1n2 rfl rfl rfl rfl) rfl rfl ?_)
          refine rw_cons (op_pass (w1n2 rfl rfl rfl rfl) rfl rfl ?_)
          refine rw_cons (op_pv (w0 rfl) rfl rfl (pv_pickT (v := (.bool true)) rfl rfl rfl) ?_)
          refine rw_cons (op_pv (w0 rfl) rfl rfl (pv_move (v := (.bool true)) rfl rfl) ?_)
          refine rw_cons (op_pass (w1n2 rfl rfl rfl rfl) rfl rfl ?_)
          refine rw_cons (op_pass (w1n2 rfl rfl rfl rfl) rfl rfl ?_)
          refine rw_cons (op_pass (w1n2 rfl rfl rfl rfl) rfl rfl ?_)
          refine rw_cons (op_pv (w0 rfl) rfl rfl (pv_pickT (v := (.bool true)) rfl rfl rfl) ?_)
          refine rw_nil (hK151 _ _ ?_)
          refine hK149 _ _ ?_
          refine cw_cond rfl (fun h153 => ?_) (fun h153 => ?_)
          · -- then
            clear h153
            refine cw_seq fun K154 hK155 => ?_
            refine cw_region fun K156 hK157 => ?_
            refine rw_cons (op_pv (w0 rfl) rfl rfl (pv_assign (v := (.bool false)) rfl rfl) ?_)
            refine rw_nil (hK157 _ _ ?_)
            refine hK155 _ _ ?_
            refine cw_ret ?_
            refine fin1 rfl ?_
            first
              | exact ⟨rfl, hc⟩
              | (exfalso; omega)
              | exact ⟨congrArg Value.bool (decide_eq_true (by omega)), hc⟩
              | exact absurd rfl ‹_ ≠ _›
              | (exfalso; simp_all; done)
          · -- else
            cases h153
        · -- no
          replace hb152 := of_decide_eq_false hb152
          refine rw_cons (op_pv (w1y rfl rfl rfl rfl) rfl rfl (pv_move (v := (.slice A93 (hearV xs0 ⟨a1, b1⟩).length c94)) rfl rfl) ?_)
          refine rw_cons (op_pv (w1y rfl rfl rfl rfl) rfl rfl (pv_move (v := (.slice A62 (hearV xs0 ⟨a1, b1⟩).length c63)) rfl rfl) ?_)
          refine rw_cons (op_call (w1y rfl rfl rfl rfl) rfl rfl (rc_call C21 rfl rfl) (eqBeatS_same _ _ _ _ _ _ (hearV xs0 ⟨a1, b1⟩) _ (hO95.rs (fun _ => rfl)) (hO64.rs (fun _ => rfl)) (by omega)) ?_)
          rintro _ w158 ⟨rfl, hch159⟩
          have hsz160 := hch159.size
          replace hR0 := hR0.ch0 hch159
          replace hB8 := hB8.ch0 hch159
          replace hO48 := hO48.ch0 hch159
          replace hO64 := hO64.ch0 hch159
          replace hO75 := hO75.ch0 hch159
          replace hO95 := hO95.ch0 hch159
          replace hO118 := hO118.ch0 hch159
          replace hc := hc.step0 hch159
          refine rw_cons (op_pv (w1y rfl rfl rfl rfl) rfl rfl (pv_not rfl rfl) ?_)
          refine rw_cons (op_pv (w0 rfl) rfl rfl (pv_pickF (v := (.bool (!true))) rfl rfl rfl) ?_)
          refine rw_cons (op_pv (w0 rfl) rfl rfl (pv_move (v := (.bool (!true))) rfl rfl) ?_)
          refine rw_cons (op_pv (w1y rfl rfl rfl rfl) rfl rfl (pv_move (v := (.bool (dec (HearOK xs0 ⟨a1, b1⟩)))) rfl rfl) ?_)
          refine rw_cons (op_pv (w1y rfl rfl rfl rfl) rfl rfl (pv_move (v := (.bool (dec (HearOK xs0 ⟨a1, b1⟩)))) rfl rfl) ?_)
          refine rw_cons (op_pv (w1y rfl rfl rfl rfl) rfl rfl (pv_neBs Try.underlying4 rfl rfl rfl) ?_)
          refine rw_cons (op_pv (w0 rfl) rfl rfl (pv_pickF (v := (.bool false)) rfl rfl rfl) ?_)
          refine rw_nil (hK151 _ _ ?_)
          refine hK149 _ _ ?_
          refine cw_cond rfl (fun h161 => ?_) (fun h161 => ?_)
          · -- then
            cases h161
          · -- else
            clear h161
            refine cw_skip ?_
            refine hK147 _ _ ?_
            refine cw_seq fun K162 hK163 => ?_
            refine cw_region fun K164 hK165 => ?_
            refine rw_cons (op_pv (w0 rfl) rfl rfl (pv_assign (v := (.int .i64 1)) rfl rfl) ?_)
            refine rw_nil (hK165 _ _ ?_)
            refine hK163 _ _ ?_
            refine cw_seq fun K166 hK167 => ?_
            refine cw_region fun K168 hK169 => ?_
            refine rw_cons (op_pv (w0 rfl) rfl rfl (pv_move (v := (.slice A93 (hearV xs0 ⟨a1, b1⟩).length c94)) rfl rfl) ?_)
            refine rw_cons (op_pv (w0 rfl) rfl rfl (pv_move (v := (.int .i64 1)) rfl rfl) ?_)
            refine rw_cons (op_call (w0 rfl) rfl rfl (rc_call C31 rfl rfl) (markBeatS_ok _ (hearV xs0 ⟨a1, b1⟩).length _ _ _ 1 _ hO95 (by omega) (by omega) (by omega) (by omega)) ?_)
            rintro _ w170 ⟨ys171, hyl172, hye173, rfl, hO174, hch175⟩
            have hsz176 := hch175.size
            replace hR0 := hR0.ch hch175 (hO95.off.le (by omega))
            replace hB8 := hB8.ch hch175 (by first | (refine hO95.off.not ?_; omega) | (intro hs; have := hub97 _ hs; omega))
            replace hO48 := hO48.ch hch175 (fun s hs hs2 => by first | (have h1 := hO48.off s hs; have h2 := hub97 s hs2; omega) | (have h1 := hub56 s hs; have h2 := hO95.off s hs2; omega) | (have h2 := hub97 s hs2; simp [obl, Value.ownBlock] at hs; omega) | (have h1 := hub56 s hs; simp [obl, Value.ownBlock] at hs2; omega))
            replace hO64 := hO64.ch hch175 (fun s hs hs2 => by first | (have h1 := hO64.off s hs; have h2 := hub97 s hs2; omega) | (have h1 := hub66 s hs; have h2 := hO95.off s hs2; omega) | (have h2 := hub97 s hs2; simp [obl, Value.ownBlock] at hs; omega) | (have h1 := hub66 s hs; simp [obl, Value.ownBlock] at hs2; omega))
            replace hO75 := hO75.ch hch175 (fun s hs hs2 => by first | (have h1 := hO75.off s hs; have h2 := hub97 s hs2; omega) | (have h1 := hub83 s hs; have h2 := hO95.off s hs2; omega) | (have h2 := hub97 s hs2; simp [obl, Value.ownBlock] at hs; omega) | (have h1 := hub83 s hs; simp [obl, Value.ownBlock] at hs2; omega))
            replace hO118 := hO118.ch hch175 (fun s hs hs2 => by first | (have h1 := hO118.off s hs; have h2 := hub97 s hs2; omega) | (have h1 := hub126 s hs; have h2 := hO95.off s hs2; omega) | (have h2 := hub97 s hs2; simp [obl, Value.ownBlock] at hs; omega) | (have h1 := hub126 s hs; simp [obl, Value.ownBlock] at hs2; omega))
            replace hc := (hO95.off.le (by omega)).step hc hch175
            clear hO95; have hO95 := hO174; clear hO174
            refine rw_cons (op_pv (w0 rfl) rfl rfl (pv_assign (v := (.int .i64 (1 + 2 * (((hearV xs0 ⟨a1, b1⟩).length) : Int)))) rfl rfl) ?_)
            refine rw_nil (hK169 _ _ ?_)
            refine hK167 _ _ ?_
            refine cw_seq fun K177 hK178 => ?_
            refine cw_region fun K179 hK180 => ?_
            refine rw_cons (op_pv (w0 rfl) rfl rfl (pv_assign (v := (.int .i64 1)) rfl rfl) ?_)
            refine rw_nil (hK180 _ _ ?_)
            refine hK178 _ _ ?_
            refine cw_seq fun K181 hK182 => ?_
            refine cw_region fun K183 hK184 => ?_
            refine rw_cons (op_pv (w0 rfl) rfl rfl (pv_move (v := (.slice A93 (hearV xs0 ⟨a1, b1⟩).length c94)) rfl rfl) ?_)
            refine rw_cons (op_pv (w0 rfl) rfl rfl (pv_move (v := (.int .i64 1)) rfl rfl) ?_)
            refine rw_cons (op_call (w0 rfl) rfl rfl (rc_call C39 rfl rfl) (heldBeatS_ok _ (hearV xs0 ⟨a1, b1⟩).length _ ys171 1 _ (hO95.rs (fun _ => rfl)) (by omega) (by omega) (by omega) hye173) ?_)
            rintro _ w185 ⟨rfl, hch186⟩
            have hsz187 := hch186.size
            replace hR0 := hR0.ch0 hch186
            replace hB8 := hB8.ch0 hch186
            replace hO48 := hO48.ch0 hch186
            replace hO64 := hO64.ch0 hch186
            replace hO75 := hO75.ch0 hch186
            replace hO95 := hO95.ch0 hch186
            replace hO118 := hO118.ch0 hch186
            replace hc := hc.step0 hch186
            refine rw_cons (op_pv (w0 rfl) rfl rfl (pv_assign (v := (.int .i64 (1 + 2 * (((hearV xs0 ⟨a1, b1⟩).length) : Int)))) rfl rfl) ?_)
            refine rw_nil (hK184 _ _ ?_)
            refine hK182 _ _ ?_
            refine cw_seq fun K188 hK189 => ?_
            refine cw_seq fun K190 hK191 => ?_
            refine cw_region fun K192 hK193 => ?_
            refine rw_cons (op_pv (w0 rfl) rfl rfl (pv_move (v := (.int .i64 (1 + 2 * (((hearV xs0 ⟨a1, b1⟩).length) : Int)))) rfl rfl) ?_)
            refine rw_cons (op_pv (w0 rfl) rfl rfl (pv_lss rfl rfl rfl) ?_)
            refine rw_nil (hK193 _ _ ?_)
            refine hK191 _ _ ?_
            refine cw_cond rfl (fun h194 => ?_) (fun h194 => ?_)
            · -- then
              replace h194 := of_decide_eq_true h194
              refine cw_seq fun K195 hK196 => ?_
              refine cw_region fun K197 hK198 => ?_
              refine rw_cons (op_pv (w0 rfl) rfl rfl (pv_assign (v := (.bool false)) rfl rfl) ?_)
              refine rw_nil (hK198 _ _ ?_)
              refine hK196 _ _ ?_
              refine cw_ret ?_
              refine fin1 rfl ?_
              first
                | exact ⟨rfl, hc⟩
                | (exfalso; omega)
                | exact ⟨congrArg Value.bool (decide_eq_true (by omega)), hc⟩
                | exact absurd rfl ‹_ ≠ _›
                | (exfalso; simp_all; done)
            · -- else
              replace h194 := of_decide_eq_false h194
              refine cw_skip ?_
              refine hK189 _ _ ?_
              refine cw_seq fun K199 hK200 => ?_
              refine cw_seq fun K201 hK202 => ?_
              refine cw_region fun K203 hK204 => ?_
              refine rw_cons (op_pv (w0 rfl) rfl rfl (pv_move (v := (.int .i64 (1 + 2 * (((hearV xs0 ⟨a1, b1⟩).length) : Int)))) rfl rfl) ?_)
              refine rw_cons (op_pv (w0 rfl) rfl rfl (pv_move (v := (.int .i64 (1 + 2 * (((hearV xs0 ⟨a1, b1⟩).length) : Int)))) rfl rfl) ?_)
              refine rw_cons (op_pv (w0 rfl) rfl rfl (pv_nes rfl rfl rfl) ?_)
              refine rw_nil (hK204 _ _ ?_)
              refine hK202 _ _ ?_
              refine cw_cond rfl (fun h205 => ?_) (fun h205 => ?_)
              · -- then
                cases h205
              · -- else
                clear h205
                refine cw_skip ?_
                refine hK200 _ _ ?_
                refine cw_seq fun K206 hK207 => ?_
                refine cw_drawn (fun u => Ch [] w185 u) (.free 0 (.free 2 (.one 1 true (.one 3 true (.one 4 true (.free 5 (.free 6 (.free 7 (.free 8 (.free 9 (.done))))))))))) (by kernel_rfl) (by kernel_rfl) (Ch.refl _ _).drew fun K211 hK212 => ?_
                obtain ⟨w208, hw_, hch209, hsz210⟩ : ∃ w1 : World, w1 = w185.drew ∧ Ch [] w185 w1 ∧ w1.heap.size = w185.heap.size := ⟨_, rfl, (Ch.refl _ _).drew, rfl⟩
                rw [← hw_]; clear hw_
                have hr213 : Ch [] w185 w208 := hch209.sub (fun s hs => by cases hs)
                have hR0_r := hR0
                have hB8_r := hB8
                have hO48_r := hO48
                have hO64_r := hO64
                have hO75_r := hO75
                have hO95_r := hO95
                have hO118_r := hO118
                have hsz214 := hch209.size
                replace hR0 := hR0.ch0 hch209
                replace hB8 := hB8.ch0 hch209
                replace hO48 := hO48.ch0 hch209
                replace hO64 := hO64.ch0 hch209
                replace hO75 := hO75.ch0 hch209
                replace hO95 := hO95.ch0 hch209
                replace hO118 := hO118.ch0 hch209
                replace hc := hc.step0 hch209
                refine tw_free rfl (w0 rfl) rfl rfl (fun u hu => (pv_move (v := (.slice A0 n0 c0)) rfl rfl : PV _ _ _ _) u) ?_
                refine tw_free rfl (w0 rfl) rfl rfl (fun u hu => lv_loadN T48 rfl rfl rfl (fun j v hv => (hB8_r.ch hu (by simp)).cellA hv)) ?_
                refine tw_one rfl (op_call (w0 rfl) rfl rfl (rc_call C20 rfl rfl) (toBeatS_ok _ _ _ _ _ (hR0.more (by omega)) (by omega)) ?_)
                rintro _ w215 ⟨v216, rfl, hO217, hch218⟩
                have hsz219 := hch218.size
                replace hR0 := hR0.ch0 hch218
                replace hB8 := hB8.ch0 hch218
                replace hO48 := hO48.ch0 hch218
                replace hO64 := hO64.ch0 hch218
                replace hO75 := hO75.ch0 hch218
                replace hO95 := hO95.ch0 hch218
                replace hO118 := hO118.ch0 hch218
                replace hc := hc.step0 hch218
                replace hr213 := hr213.step0 hch218
                obtain ⟨A220, c221, hv222, hle223, hmx224⟩ := hO217.form; subst hv222
                have hub225 := hO217.lt
                refine ⟨fun _ => hr213, ?_⟩
                refine tw_one rfl (op_call (w0 rfl) rfl rfl (rc_call C38 rfl rfl) (toBeat_ok a1 b1 _) ?_)
                rintro _ w226 ⟨rfl, hch227⟩
                have hsz228 := hch227.size
                replace hR0 := hR0.ch0 hch227
                replace hB8 := hB8.ch0 hch227
                replace hO48 := hO48.ch0 hch227
                replace hO64 := hO64.ch0 hch227
                replace hO75 := hO75.ch0 hch227
                replace hO95 := hO95.ch0 hch227
                replace hO118 := hO118.ch0 hch227
                replace hO217 := hO217.ch0 hch227
                replace hc := hc.step0 hch227
                replace hr213 := hr213.step0 hch227
                refine ⟨fun _ => hr213, ?_⟩
                refine tw_one rfl (op_call (w0 rfl) rfl rfl (rc_call C35 rfl rfl) (BeatHear_i _ xs0.length _ xs0 a1 b1 _ (hO217.rs (fun _ => rfl)) (by omega)) ?_)
                rintro _ w229 ⟨A231, c232, rfl, hO233, hch230⟩
                have hsz234 := hch230.size
                replace hR0 := hR0.ch0 hch230
                replace hB8 := hB8.ch0 hch230
                replace hO48 := hO48.ch0 hch230
                replace hO64 := hO64.ch0 hch230
                replace hO75 := hO75.ch0 hch230
                replace hO95 := hO95.ch0 hch230
                replace hO118 := hO118.ch0 hch230
                replace hO217 := hO217.ch0 hch230
                replace hc := hc.step0 hch230
                replace hr213 := hr213.step0 hch230
                have hub235 := hO233.lt
                have hcap236 : (hearV xs0 ⟨a1, b1⟩).length ≤ c232 := by obtain ⟨_, _, hv, h1, _⟩ := hO233.form; injection hv with _ _ h3; omega
                have hnt237 := hearV_le xs0 ⟨a1, b1⟩
                refine ⟨fun _ => hr213, ?_⟩
                refine tw_free rfl (w0 rfl) rfl rfl (fun u hu => (pv_move (v := (.tuple #[(.slice A231 (hearV xs0 ⟨a1, b1⟩).length c232), (.bool (dec (HearOK xs0 ⟨a1, b1⟩)))])) rfl rfl : PV _ _ _ _) u) ?_
                refine tw_free rfl (w0 rfl) rfl rfl (fun u hu => (pv_ext (v := (.slice A231 (hearV xs0 ⟨a1, b1⟩).length c232)) rfl rfl rfl : PV _ _ _ _) u) ?_
                refine tw_free rfl (w0 rfl) rfl rfl (fun u hu => (pv_ext (v := (.bool (dec (HearOK xs0 ⟨a1, b1⟩)))) rfl rfl rfl : PV _ _ _ _) u) ?_
                refine tw_free rfl (w0 rfl) rfl rfl (fun u hu => (pv_assign (v := (.slice A231 (hearV xs0 ⟨a1, b1⟩).length c232)) rfl rfl : PV _ _ _ _) u) ?_
                refine tw_free rfl (w0 rfl) rfl rfl (fun u hu => (pv_assign (v := (.bool (dec (HearOK xs0 ⟨a1, b1⟩)))) rfl rfl : PV _ _ _ _) u) ?_
                clear hB8_r
                clear hO118_r
                clear hO48_r
                clear hO64_r
                clear hO75_r
                clear hO95_r
                clear hR0_r
                refine tw_done (hK212 _ _ ?_)
                refine hK207 _ _ ?_
                refine cw_seq fun K238 hK239 => ?_
                refine cw_seq fun K240 hK241 => ?_
                refine cw_region fun K242 hK243 => ?_
                refine rw_cons (op_pv (w0 rfl) rfl rfl (pv_move (v := (.slice A231 (hearV xs0 ⟨a1, b1⟩).length c232)) rfl rfl) ?_)
                refine rw_cons (op_pv (w0 rfl) rfl rfl (pv_move (v := (.slice A62 (hearV xs0 ⟨a1, b1⟩).length c63)) rfl rfl) ?_)
                refine rw_cons (op_call (w0 rfl) rfl rfl (rc_call C21 rfl rfl) (eqBeatS_same _ _ _ _ _ _ (hearV xs0 ⟨a1, b1⟩) _ (hO233.rs (fun _ => rfl)) (hO64.rs (fun _ => rfl)) (by omega)) ?_)
                rintro _ w244 ⟨rfl, hch245⟩
                have hsz246 := hch245.size
                replace hR0 := hR0.ch0 hch245
                replace hB8 := hB8.ch0 hch245
                replace hO48 := hO48.ch0 hch245
                replace hO64 := hO64.ch0 hch245
                replace hO75 := hO75.ch0 hch245
                replace hO95 := hO95.ch0 hch245
                replace hO118 := hO118.ch0 hch245
                replace hO217 := hO217.ch0 hch245
                replace hO233 := hO233.ch0 hch245
                replace hc := hc.step0 hch245
                refine rw_cons (op_pv (w0 rfl) rfl rfl (pv_not rfl rfl) ?_)
                refine rw_cons (op_pv (w0 rfl) rfl rfl (pv_move (v := (.bool (!true))) rfl rfl) ?_)
                refine rw_cons (op_pv (w1y rfl rfl rfl rfl) rfl rfl (pv_move (v := (.bool (dec (HearOK xs0 ⟨a1, b1⟩)))) rfl rfl) ?_)
                refine rw_cons (op_pv (w1y rfl rfl rfl rfl) rfl rfl (pv_move (v := (.bool (dec (HearOK xs0 ⟨a1, b1⟩)))) rfl rfl) ?_)
                refine rw_cons (op_pv (w1y rfl rfl rfl rfl) rfl rfl (pv_neBs Try.underlying4 rfl rfl rfl) ?_)
                refine rw_cons (op_pv (w0 rfl) rfl rfl (pv_pickF (v := (.bool false)) rfl rfl rfl) ?_)
                refine rw_nil (hK243 _ _ ?_)
                refine hK241 _ _ ?_
                refine cw_cond rfl (fun h247 => ?_) (fun h247 => ?_)
                · -- then
                  cases h247
                · -- else
                  clear h247
                  refine cw_skip ?_
                  refine hK239 _ _ ?_
                  refine cw_seq fun K248 hK249 => ?_
                  refine cw_region fun K250 hK251 => ?_
                  refine rw_cons (op_pv (w0 rfl) rfl rfl (pv_assign (v := (.int .i64 1)) rfl rfl) ?_)
                  refine rw_nil (hK251 _ _ ?_)
                  refine hK249 _ _ ?_
                  refine cw_seq fun K252 hK253 => ?_
                  refine cw_region fun K254 hK255 => ?_
                  refine rw_cons (op_pv (w0 rfl) rfl rfl (pv_move (v := (.slice A93 (hearV xs0 ⟨a1, b1⟩).length c94)) rfl rfl) ?_)
                  refine rw_cons (op_pv (w0 rfl) rfl rfl (pv_move (v := (.int .i64 1)) rfl rfl) ?_)
                  refine rw_cons (op_call (w0 rfl) rfl rfl (rc_call C39 rfl rfl) (heldBeatS_ok _ (hearV xs0 ⟨a1, b1⟩).length _ ys171 1 _ (hO95.rs (fun _ => rfl)) (by omega) (by omega) (by omega) hye173) ?_)
                  rintro _ w256 ⟨rfl, hch257⟩
                  have hsz258 := hch257.size
                  replace hR0 := hR0.ch0 hch257
                  replace hB8 := hB8.ch0 hch257
                  replace hO48 := hO48.ch0 hch257
                  replace hO64 := hO64.ch0 hch257
                  replace hO75 := hO75.ch0 hch257
                  replace hO95 := hO95.ch0 hch257
                  replace hO118 := hO118.ch0 hch257
                  replace hO217 := hO217.ch0 hch257
                  replace hO233 := hO233.ch0 hch257
                  replace hc := hc.step0 hch257
                  refine rw_cons (op_pv (w0 rfl) rfl rfl (pv_assign (v := (.int .i64 (1 + 2 * (((hearV xs0 ⟨a1, b1⟩).length) : Int)))) rfl rfl) ?_)
                  refine rw_nil (hK255 _ _ ?_)
                  refine hK253 _ _ ?_
                  refine cw_seq fun K259 hK260 => ?_
                  refine cw_seq fun K261 hK262 => ?_
                  refine cw_region fun K263 hK264 => ?_
                  refine rw_cons (op_pv (w0 rfl) rfl rfl (pv_move (v := (.int .i64 (1 + 2 * (((hearV xs0 ⟨a1, b1⟩).length) : Int)))) rfl rfl) ?_)
                  refine rw_cons (op_pv (w0 rfl) rfl rfl (pv_lss rfl rfl rfl) ?_)
                  refine rw_nil (hK264 _ _ ?_)
                  refine hK262 _ _ ?_
                  refine cw_cond rfl (fun h265 => ?_) (fun h265 => ?_)
                  · -- then
                    replace h265 := of_decide_eq_true h265
                    refine cw_seq fun K266 hK267 => ?_
                    refine cw_region fun K268 hK269 => ?_
                    refine rw_cons (op_pv (w0 rfl) rfl rfl (pv_assign (v := (.bool false)) rfl rfl) ?_)
                    refine rw_nil (hK269 _ _ ?_)
                    refine hK267 _ _ ?_
                    refine cw_ret ?_
                    refine fin1 rfl ?_
                    first
                      | exact ⟨rfl, hc⟩
                      | (exfalso; omega)
                      | exact ⟨congrArg Value.bool (decide_eq_true (by omega)), hc⟩
                      | exact absurd rfl ‹_ ≠ _›
                      | (exfalso; simp_all; done)
                  · -- else
                    replace h265 := of_decide_eq_false h265
                    refine cw_skip ?_
                    refine hK260 _ _ ?_
                    refine cw_seq fun K270 hK271 => ?_
                    refine cw_seq fun K272 hK273 => ?_
                    refine cw_region fun K274 hK275 => ?_
                    refine rw_cons (op_pv (w0 rfl) rfl rfl (pv_move (v := (.int .i64 (1 + 2 * (((hearV xs0 ⟨a1, b1⟩).length) : Int)))) rfl rfl) ?_)
                    refine rw_cons (op_pv (w0 rfl) rfl rfl (pv_move (v := (.int .i64 (1 + 2 * (((hearV xs0 ⟨a1, b1⟩).length) : Int)))) rfl rfl) ?_)
                    refine rw_cons (op_pv (w0 rfl) rfl rfl (pv_nes rfl rfl rfl) ?_)
                    refine rw_nil (hK275 _ _ ?_)
                    refine hK273 _ _ ?_
                    refine cw_cond rfl (fun h276 => ?_) (fun h276 => ?_)
                    · -- then
                      cases h276
                    · -- else
                      clear h276
                      refine cw_skip ?_
                      refine hK271 _ _ ?_
                      refine cw_seq fun K277 hK278 => ?_
                      refine cw_region fun K279 hK280 => ?_
                      refine rw_cons (op_pv (w0 rfl) rfl rfl (pv_assign (v := (.bool true)) rfl rfl) ?_)
                      refine rw_nil (hK280 _ _ ?_)
                      refine hK278 _ _ ?_
                      refine cw_ret ?_
                      refine fin1 rfl ?_
                      first
                        | exact ⟨rfl, hc⟩
                        | (exfalso; omega)
                        | exact ⟨congrArg Value.bool (decide_eq_true (by omega)), hc⟩
                        | exact absurd rfl ‹_ ≠ _›
                        | (exfalso; simp_all; done)
end Go.Proofs.Ytnkjljjcionfiaa
