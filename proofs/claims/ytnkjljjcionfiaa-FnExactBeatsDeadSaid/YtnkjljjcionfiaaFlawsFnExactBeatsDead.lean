/-
  The walk of laws.FnExactBeatsDead, written by program: each line names the law of one operation. Conditions: those of the theorem.
-/
import Derived.Test.YtnkjljjcionfiaaProg
import Derived.Test.YtnkjljjcionfiaaFlawsszBeatS
import Derived.Test.YtnkjljjcionfiaaFlawstoBeatS
import Derived.Test.YtnkjljjcionfiaaFlawseqBeatS
import Derived.Test.YtnkjljjcionfiaaFlawsmarkBeatS
import Derived.Test.YtnkjljjcionfiaaFlawseqIntS
import Derived.Test.YtnkjljjcionfiaaFlawsmarkIntS
import Derived.Test.YtnkjljjcionfiaaFlawsheldIntS
import Derived.Test.YtnkjljjcionfiaaFimplBeatsDead
import Derived.Test.YtnkjljjcionfiaaFspecBeatsDead
import Derived.KernelRfl
namespace Go.Proofs.Ytnkjljjcionfiaa
open Go Go.RowKit
set_option linter.unusedVariables false
set_option linter.unusedSimpArgs false
namespace FnExactBeatsDead_okF
theorem C19 : Callable Try.prog 19 := ⟨_, Try.func19, by kernel_rfl, by kernel_rfl⟩
theorem C20 : Callable Try.prog 20 := ⟨_, Try.func20, by kernel_rfl, by kernel_rfl⟩
theorem C21 : Callable Try.prog 21 := ⟨_, Try.func21, by kernel_rfl, by kernel_rfl⟩
theorem C28 : Callable Try.prog 28 := ⟨_, Try.func28, by kernel_rfl, by kernel_rfl⟩
theorem C29 : Callable Try.prog 29 := ⟨_, Try.func29, by kernel_rfl, by kernel_rfl⟩
theorem C30 : Callable Try.prog 30 := ⟨_, Try.func30, by kernel_rfl, by kernel_rfl⟩
theorem C31 : Callable Try.prog 31 := ⟨_, Try.func31, by kernel_rfl, by kernel_rfl⟩
theorem C32 : Callable Try.prog 32 := ⟨_, Try.func32, by kernel_rfl, by kernel_rfl⟩
theorem C33 : Callable Try.prog 33 := ⟨_, Try.func33, by kernel_rfl, by kernel_rfl⟩
end FnExactBeatsDead_okF
open FnExactBeatsDead_okF in
set_option maxHeartbeats 4000000 in
theorem FnExactBeatsDead_ok (A0 : Option Addr) (n0 c0 : Nat) (xs0 : List Bt) (a1 : Int) (a2 : Int) (w : World) (hR0 : RS encB 2 w w.heap.size A0 n0 xs0) (hn0 : n0 ≤ c0) (hm0 : c0 ≤ maxLen) (ha1 : -9223372036854775808 ≤ a1) (hb1 : a1 ≤ 9223372036854775807) (ha2 : -9223372036854775808 ≤ a2) (hb2 : a2 ≤ 9223372036854775807) :
    Fn Try.prog 10 [(.slice A0 n0 c0), (.int .i64 a1), (.int .i64 a2)] w fun v w' => v = .bool true ∧ Ch [] w w' := by
  have hlen0 := hR0.len
  refine fn_of (n := 79) Try.func10 rfl rfl rfl rfl ?_
  have hc : Ch [] w w := Ch.refl _ _
  refine cw_seq fun K1 hK2 => ?_
  refine cw_region fun K3 hK4 => ?_
  refine rw_cons (op_pv (w0 rfl) rfl rfl (pv_assign (v := (.bool false)) rfl rfl) ?_)
  refine rw_nil (hK4 _ _ ?_)
  refine hK2 _ _ ?_
  refine cw_seq fun K5 hK6 => ?_
  refine cw_region fun K7 hK8 => ?_
  refine rw_cons (op_pv (w0 rfl) rfl rfl (pv_assign (v := (.int .i64 1048576)) rfl rfl) ?_)
  refine rw_nil (hK8 _ _ ?_)
  refine hK6 _ _ ?_
  refine cw_seq fun K9 hK10 => ?_
  refine cw_region fun K11 hK12 => ?_
  refine rw_cons (op_pv (w0 rfl) rfl rfl (pv_move (v := (.slice A0 n0 c0)) rfl rfl) ?_)
  refine rw_cons (op_pv (w0 rfl) rfl rfl (pv_move (v := (.int .i64 1048576)) rfl rfl) ?_)
  refine rw_cons (op_call (w0 rfl) rfl rfl (rc_call C19 rfl rfl) (szBeatS_ok _ n0 _ _ 1048576 _ (hR0.more (by omega)) (by omega) (by omega) (by omega)) ?_)
  rintro _ w14 ⟨r13, rfl, hsz15, hsz16, hch17⟩
  have hsz18 := hch17.size
  replace hR0 := hR0.ch0 hch17
  replace hc := hc.step0 hch17
  refine rw_cons (op_pv (w0 rfl) rfl rfl (pv_assign (v := (.int .i64 r13)) rfl rfl) ?_)
  refine rw_nil (hK12 _ _ ?_)
  refine hK10 _ _ ?_
  refine cw_seq fun K19 hK20 => ?_
  refine cw_seq fun K21 hK22 => ?_
  refine cw_region fun K23 hK24 => ?_
  refine rw_cons (op_pv (w0 rfl) rfl rfl (pv_move (v := (.int .i64 r13)) rfl rfl) ?_)
  refine rw_cons (op_pv (w0 rfl) rfl rfl (pv_lss rfl rfl rfl) ?_)
  refine rw_nil (hK24 _ _ ?_)
  refine hK22 _ _ ?_
  refine cw_cond rfl (fun h25 => ?_) (fun h25 => ?_)
  · -- then
    replace h25 := of_decide_eq_true h25
    refine cw_seq fun K26 hK27 => ?_
    refine cw_region fun K28 hK29 => ?_
    refine rw_cons (op_pv (w0 rfl) rfl rfl (pv_assign (v := (.bool true)) rfl rfl) ?_)
    refine rw_nil (hK29 _ _ ?_)
    refine hK27 _ _ ?_
    refine cw_ret ?_
    refine fin1 rfl ?_
    first
      | exact ⟨rfl, hc⟩
      | (exfalso; omega)
      | exact ⟨congrArg Value.bool (decide_eq_true (by omega)), hc⟩
      | exact absurd rfl ‹_ ≠ _›
      | (exfalso; simp_all; done)
  · -- else
    replace h25 := of_decide_eq_false h25
    refine cw_skip ?_
    refine hK20 _ _ ?_
    refine cw_seq fun K30 hK31 => ?_
    refine cw_region fun K32 hK33 => ?_
    refine rw_cons (op_pv (w0 rfl) rfl rfl (pv_move (v := (.slice A0 n0 c0)) rfl rfl) ?_)
    refine rw_cons (op_call (w0 rfl) rfl rfl (rc_call C20 rfl rfl) (toBeatS_ok _ _ _ _ _ (hR0.more (by omega)) (by omega)) ?_)
    rintro _ w34 ⟨v35, rfl, hO36, hch37⟩
    have hsz38 := hch37.size
    replace hR0 := hR0.ch0 hch37
    replace hc := hc.step0 hch37
    obtain ⟨A39, c40, hv41, hle42, hmx43⟩ := hO36.form; subst hv41
    have hub44 := hO36.lt
    refine rw_cons (op_pv (w0 rfl) rfl rfl (pv_move (v := (.int .i64 a1)) rfl rfl) ?_)
    refine rw_cons (op_pv (w0 rfl) rfl rfl (pv_move (v := (.int .i64 a2)) rfl rfl) ?_)
    refine rw_cons (op_call (w0 rfl) rfl rfl (rc_call C29 rfl rfl) (BeatsDead_s _ xs0.length _ xs0 a1 a2 _ (hO36.rs (fun _ => rfl)) (by omega)) ?_)
    rintro _ w45 ⟨A47, c48, rfl, hO49, hch46⟩
    have hsz50 := hch46.size
    replace hR0 := hR0.ch0 hch46
    replace hO36 := hO36.ch0 hch46
    replace hc := hc.step0 hch46
    have hub51 := hO49.lt
    have hcap52 : (srvV xs0 a1 a2 false).length ≤ c48 := by obtain ⟨_, _, hv, h1, _⟩ := hO49.form; injection hv with _ _ h3; omega
    have hnt53 := srvV_le xs0 a1 a2 false
    refine rw_cons (op_pv (w0 rfl) rfl rfl (pv_assign (v := (.slice A47 (srvV xs0 a1 a2 false).length c48)) rfl rfl) ?_)
    refine rw_nil (hK33 _ _ ?_)
    refine hK31 _ _ ?_
    refine cw_seq fun K54 hK55 => ?_
    refine cw_region fun K56 hK57 => ?_
    refine rw_cons (op_pv (w0 rfl) rfl rfl (pv_move (v := (.slice A0 n0 c0)) rfl rfl) ?_)
    refine rw_cons (op_call (w0 rfl) rfl rfl (rc_call C20 rfl rfl) (toBeatS_ok _ _ _ _ _ (hR0.more (by omega)) (by omega)) ?_)
    rintro _ w58 ⟨v59, rfl, hO60, hch61⟩
    have hsz62 := hch61.size
    replace hR0 := hR0.ch0 hch61
    replace hO36 := hO36.ch0 hch61
    replace hO49 := hO49.ch0 hch61
    replace hc := hc.step0 hch61
    obtain ⟨A63, c64, hv65, hle66, hmx67⟩ := hO60.form; subst hv65
    have hub68 := hO60.lt
    refine rw_cons (op_pv (w0 rfl) rfl rfl (pv_assign (v := (.slice A63 xs0.length c64)) rfl rfl) ?_)
    refine rw_nil (hK57 _ _ ?_)
    refine hK55 _ _ ?_
    refine cw_seq fun K69 hK70 => ?_
    refine cw_region fun K71 hK72 => ?_
    refine rw_cons (op_pv (w0 rfl) rfl rfl (pv_move (v := (.slice A63 xs0.length c64)) rfl rfl) ?_)
    refine rw_cons (op_pv (w0 rfl) rfl rfl (pv_move (v := (.int .i64 a1)) rfl rfl) ?_)
    refine rw_cons (op_pv (w0 rfl) rfl rfl (pv_move (v := (.int .i64 a2)) rfl rfl) ?_)
    refine rw_cons (op_call (w0 rfl) rfl rfl (rc_call C28 rfl rfl) (BeatsDead_i _ xs0.length _ xs0 a1 a2 _ (hO60.rs (fun _ => rfl)) (by omega)) ?_)
    rintro _ w73 ⟨A75, c76, rfl, hO77, hch74⟩
    have hsz78 := hch74.size
    replace hR0 := hR0.ch0 hch74
    replace hO36 := hO36.ch0 hch74
    replace hO49 := hO49.ch0 hch74
    replace hO60 := hO60.ch0 hch74
    replace hc := hc.step0 hch74
    have hub79 := hO77.lt
    have hcap80 : (srvV xs0 a1 a2 false).length ≤ c76 := by obtain ⟨_, _, hv, h1, _⟩ := hO77.form; injection hv with _ _ h3; omega
    have hnt81 := srvV_le xs0 a1 a2 false
    refine rw_cons (op_pv (w0 rfl) rfl rfl (pv_assign (v := (.slice A75 (srvV xs0 a1 a2 false).length c76)) rfl rfl) ?_)
    refine rw_nil (hK72 _ _ ?_)
    refine hK70 _ _ ?_
    refine cw_seq fun K82 hK83 => ?_
    refine cw_seq fun K84 hK85 => ?_
    refine cw_region fun K86 hK87 => ?_
    refine rw_cons (op_pv (w0 rfl) rfl rfl (pv_move (v := (.slice A75 (srvV xs0 a1 a2 false).length c76)) rfl rfl) ?_)
    refine rw_cons (op_pv (w0 rfl) rfl rfl (pv_move (v := (.slice A47 (srvV xs0 a1 a2 false).length c48)) rfl rfl) ?_)
    refine rw_cons (op_call (w0 rfl) rfl rfl (rc_call C30 rfl rfl) (eqIntS_same _ _ _ _ _ _ (srvV xs0 a1 a2 false) _ (hO77.rs (fun _ => rfl)) (hO49.rs (fun _ => rfl)) (by omega)) ?_)
    rintro _ w88 ⟨rfl, hch89⟩
    have hsz90 := hch89.size
    replace hR0 := hR0.ch0 hch89
    replace hO36 := hO36.ch0 hch89
    replace hO49 := hO49.ch0 hch89
    replace hO60 := hO60.ch0 hch89
    replace hO77 := hO77.ch0 hch89
    replace hc := hc.step0 hch89
    refine rw_cons (op_pv (w0 rfl) rfl rfl (pv_not rfl rfl) ?_)
    refine rw_nil (hK87 _ _ ?_)
    refine hK85 _ _ ?_
    refine cw_cond rfl (fun h91 => ?_) (fun h91 => ?_)
    · -- then
      cases h91
    · -- else
      clear h91
      refine cw_skip ?_
      refine hK83 _ _ ?_
      refine cw_seq fun K92 hK93 => ?_
      refine cw_seq fun K94 hK95 => ?_
      refine cw_region fun K96 hK97 => ?_
      refine rw_cons (op_pv (w0 rfl) rfl rfl (pv_move (v := (.slice A63 xs0.length c64)) rfl rfl) ?_)
      refine rw_cons (op_pv (w0 rfl) rfl rfl (pv_move (v := (.slice A0 n0 c0)) rfl rfl) ?_)
      refine rw_cons (op_call (w0 rfl) rfl rfl (rc_call C20 rfl rfl) (toBeatS_ok _ _ _ _ _ (hR0.more (by omega)) (by omega)) ?_)
      rintro _ w98 ⟨v99, rfl, hO100, hch101⟩
      have hsz102 := hch101.size
      replace hR0 := hR0.ch0 hch101
      replace hO36 := hO36.ch0 hch101
      replace hO49 := hO49.ch0 hch101
      replace hO60 := hO60.ch0 hch101
      replace hO77 := hO77.ch0 hch101
      replace hc := hc.step0 hch101
      obtain ⟨A103, c104, hv105, hle106, hmx107⟩ := hO100.form; subst hv105
      have hub108 := hO100.lt
      refine rw_cons (op_call (w0 rfl) rfl rfl (rc_call C21 rfl rfl) (eqBeatS_same _ _ _ _ _ _ xs0 _ (hO60.rs (fun _ => rfl)) (hO100.rs (fun _ => rfl)) (by omega)) ?_)
      rintro _ w109 ⟨rfl, hch110⟩
      have hsz111 := hch110.size
      replace hR0 := hR0.ch0 hch110
      replace hO36 := hO36.ch0 hch110
      replace hO49 := hO49.ch0 hch110
      replace hO60 := hO60.ch0 hch110
      replace hO77 := hO77.ch0 hch110
      replace hO100 := hO100.ch0 hch110
      replace hc := hc.step0 hch110
      refine rw_cons (op_pv (w0 rfl) rfl rfl (pv_not rfl rfl) ?_)
      refine rw_nil (hK97 _ _ ?_)
      refine hK95 _ _ ?_
      refine cw_cond rfl (fun h112 => ?_) (fun h112 => ?_)
      · -- then
        cases h112
      · -- else
        clear h112
        refine cw_skip ?_
        refine hK93 _ _ ?_
        refine cw_seq fun K113 hK114 => ?_
        refine cw_region fun K115 hK116 => ?_
        refine rw_cons (op_pv (w0 rfl) rfl rfl (pv_assign (v := (.int .i64 1)) rfl rfl) ?_)
        refine rw_nil (hK116 _ _ ?_)
        refine hK114 _ _ ?_
        refine cw_seq fun K117 hK118 => ?_
        refine cw_region fun K119 hK120 => ?_
        refine rw_cons (op_pv (w0 rfl) rfl rfl (pv_move (v := (.slice A63 xs0.length c64)) rfl rfl) ?_)
        refine rw_cons (op_pv (w0 rfl) rfl rfl (pv_move (v := (.int .i64 1)) rfl rfl) ?_)
        refine rw_cons (op_call (w0 rfl) rfl rfl (rc_call C31 rfl rfl) (markBeatS_ok _ xs0.length _ _ _ 1 _ hO60 (by omega) (by omega) (by omega) (by omega)) ?_)
        rintro _ w121 ⟨ys122, hyl123, hye124, rfl, hO125, hch126⟩
        have hsz127 := hch126.size
        replace hR0 := hR0.ch hch126 (hO60.off.le (by omega))
        replace hO36 := hO36.ch hch126 (fun s hs hs2 => by first | (have h1 := hO36.off s hs; have h2 := hub68 s hs2; omega) | (have h1 := hub44 s hs; have h2 := hO60.off s hs2; omega) | (have h2 := hub68 s hs2; simp [obl, Value.ownBlock] at hs; omega) | (have h1 := hub44 s hs; simp [obl, Value.ownBlock] at hs2; omega))
        replace hO49 := hO49.ch hch126 (fun s hs hs2 => by first | (have h1 := hO49.off s hs; have h2 := hub68 s hs2; omega) | (have h1 := hub51 s hs; have h2 := hO60.off s hs2; omega) | (have h2 := hub68 s hs2; simp [obl, Value.ownBlock] at hs; omega) | (have h1 := hub51 s hs; simp [obl, Value.ownBlock] at hs2; omega))
        replace hO77 := hO77.ch hch126 (fun s hs hs2 => by first | (have h1 := hO77.off s hs; have h2 := hub68 s hs2; omega) | (have h1 := hub79 s hs; have h2 := hO60.off s hs2; omega) | (have h2 := hub68 s hs2; simp [obl, Value.ownBlock] at hs; omega) | (have h1 := hub79 s hs; simp [obl, Value.ownBlock] at hs2; omega))
        replace hO100 := hO100.ch hch126 (fun s hs hs2 => by first | (have h1 := hO100.off s hs; have h2 := hub68 s hs2; omega) | (have h1 := hub108 s hs; have h2 := hO60.off s hs2; omega) | (have h2 := hub68 s hs2; simp [obl, Value.ownBlock] at hs; omega) | (have h1 := hub108 s hs; simp [obl, Value.ownBlock] at hs2; omega))
        replace hc := (hO60.off.le (by omega)).step hc hch126
        clear hO60; have hO60 := hO125; clear hO125
        refine rw_cons (op_pv (w0 rfl) rfl rfl (pv_assign (v := (.int .i64 (1 + 2 * ((xs0.length) : Int)))) rfl rfl) ?_)
        refine rw_nil (hK120 _ _ ?_)
        refine hK118 _ _ ?_
        refine cw_seq fun K128 hK129 => ?_
        refine cw_seq fun K130 hK131 => ?_
        refine cw_region fun K132 hK133 => ?_
        refine rw_cons (op_pv (w0 rfl) rfl rfl (pv_move (v := (.int .i64 (1 + 2 * ((xs0.length) : Int)))) rfl rfl) ?_)
        refine rw_cons (op_pv (w0 rfl) rfl rfl (pv_lss rfl rfl rfl) ?_)
        refine rw_cons (op_pv (w0 rfl) rfl rfl (pv_move (v := (.bool (decide ((1 + 2 * ((xs0.length) : Int)) < 0)))) rfl rfl) ?_)
        refine rw_split 45 rfl (fun hb134 => ?_) (fun hb134 => ?_)
        · -- yes
          replace hb134 := of_decide_eq_true hb134
          refine rw_cons (op_pass (w1n2 rfl rfl rfl rfl) rfl rfl ?_)
          refine rw_cons (op_pass (w1n2 rfl rfl rfl rfl) rfl rfl ?_)
          refine rw_cons (op_pass (w1n2 rfl rfl rfl rfl) rfl rfl ?_)
          refine rw_cons (op_pass (w1n2 rfl rfl rfl rfl) rfl rfl ?_)
          refine rw_cons (op_pv (w0 rfl) rfl rfl (pv_pickT (v := (.bool true)) rfl rfl rfl) ?_)
          refine rw_nil (hK133 _ _ ?_)
          refine hK131 _ _ ?_
          refine cw_cond rfl (fun h135 => ?_) (fun h135 => ?_)
          · -- then
            clear h135
            refine cw_seq fun K136 hK137 => ?_
            refine cw_region fun K138 hK139 => ?_
            refine rw_cons (op_pv (w0 rfl) rfl rfl (pv_assign (v := (.bool false)) rfl rfl) ?_)
            refine rw_nil (hK139 _ _ ?_)
            refine hK137 _ _ ?_
            refine cw_ret ?_
            refine fin1 rfl ?_
            first
              | exact ⟨rfl, hc⟩
              | (exfalso; omega)
              | exact ⟨congrArg Value.bool (decide_eq_true (by omega)), hc⟩
              | exact absurd rfl ‹_ ≠ _›
              | (exfalso; simp_all; done)
          · -- else
            cases h135
        · -- no
          replace hb134 := of_decide_eq_false hb134
          refine rw_cons (op_pv (w1y rfl rfl rfl rfl) rfl rfl (pv_move (v := (.slice A75 (srvV xs0 a1 a2 false).length c76)) rfl rfl) ?_)
          refine rw_cons (op_pv (w1y rfl rfl rfl rfl) rfl rfl (pv_move (v := (.slice A47 (srvV xs0 a1 a2 false).length c48)) rfl rfl) ?_)
          refine rw_cons (op_call (w1y rfl rfl rfl rfl) rfl rfl (rc_call C30 rfl rfl) (eqIntS_same _ _ _ _ _ _ (srvV xs0 a1 a2 false) _ (hO77.rs (fun _ => rfl)) (hO49.rs (fun _ => rfl)) (by omega)) ?_)
          rintro _ w140 ⟨rfl, hch141⟩
          have hsz142 := hch141.size
          replace hR0 := hR0.ch0 hch141
          replace hO36 := hO36.ch0 hch141
          replace hO49 := hO49.ch0 hch141
          replace hO60 := hO60.ch0 hch141
          replace hO77 := hO77.ch0 hch141
          replace hO100 := hO100.ch0 hch141
          replace hc := hc.step0 hch141
          refine rw_cons (op_pv (w1y rfl rfl rfl rfl) rfl rfl (pv_not rfl rfl) ?_)
          refine rw_cons (op_pv (w0 rfl) rfl rfl (pv_pickF (v := (.bool (!true))) rfl rfl rfl) ?_)
          refine rw_nil (hK133 _ _ ?_)
          refine hK131 _ _ ?_
          refine cw_cond rfl (fun h143 => ?_) (fun h143 => ?_)
          · -- then
            cases h143
          · -- else
            clear h143
            refine cw_skip ?_
            refine hK129 _ _ ?_
            refine cw_seq fun K144 hK145 => ?_
            refine cw_region fun K146 hK147 => ?_
            refine rw_cons (op_pv (w0 rfl) rfl rfl (pv_assign (v := (.int .i64 1)) rfl rfl) ?_)
            refine rw_nil (hK147 _ _ ?_)
            refine hK145 _ _ ?_
            refine cw_seq fun K148 hK149 => ?_
            refine cw_region fun K150 hK151 => ?_
            refine rw_cons (op_pv (w0 rfl) rfl rfl (pv_move (v := (.slice A75 (srvV xs0 a1 a2 false).length c76)) rfl rfl) ?_)
            refine rw_cons (op_pv (w0 rfl) rfl rfl (pv_move (v := (.int .i64 1)) rfl rfl) ?_)
            refine rw_cons (op_call (w0 rfl) rfl rfl (rc_call C32 rfl rfl) (markIntS_ok _ (srvV xs0 a1 a2 false).length _ _ _ 1 _ hO77 (by omega) (by omega) (by omega) (by omega)) ?_)
            rintro _ w152 ⟨ys153, hyl154, hye155, rfl, hO156, hch157⟩
            have hsz158 := hch157.size
            replace hR0 := hR0.ch hch157 (hO77.off.le (by omega))
            replace hO36 := hO36.ch hch157 (fun s hs hs2 => by first | (have h1 := hO36.off s hs; have h2 := hub79 s hs2; omega) | (have h1 := hub44 s hs; have h2 := hO77.off s hs2; omega) | (have h2 := hub79 s hs2; simp [obl, Value.ownBlock] at hs; omega) | (have h1 := hub44 s hs; simp [obl, Value.ownBlock] at hs2; omega))
            replace hO49 := hO49.ch hch157 (fun s hs hs2 => by first | (have h1 := hO49.off s hs; have h2 := hub79 s hs2; omega) | (have h1 := hub51 s hs; have h2 := hO77.off s hs2; omega) | (have h2 := hub79 s hs2; simp [obl, Value.ownBlock] at hs; omega) | (have h1 := hub51 s hs; simp [obl, Value.ownBlock] at hs2; omega))
            replace hO60 := hO60.ch hch157 (fun s hs hs2 => by first | (have h1 := hO60.off s hs; have h2 := hub79 s hs2; omega) | (have h1 := hub68 s hs; have h2 := hO77.off s hs2; omega) | (have h2 := hub79 s hs2; simp [obl, Value.ownBlock] at hs; omega) | (have h1 := hub68 s hs; simp [obl, Value.ownBlock] at hs2; omega))
            replace hO100 := hO100.ch hch157 (fun s hs hs2 => by first | (have h1 := hO100.off s hs; have h2 := hub79 s hs2; omega) | (have h1 := hub108 s hs; have h2 := hO77.off s hs2; omega) | (have h2 := hub79 s hs2; simp [obl, Value.ownBlock] at hs; omega) | (have h1 := hub108 s hs; simp [obl, Value.ownBlock] at hs2; omega))
            replace hc := (hO77.off.le (by omega)).step hc hch157
            clear hO77; have hO77 := hO156; clear hO156
            have hyl159 := hyl154
            refine rw_cons (op_pv (w0 rfl) rfl rfl (pv_assign (v := (.int .i64 (1 + (((srvV xs0 a1 a2 false).length) : Int)))) rfl rfl) ?_)
            refine rw_nil (hK151 _ _ ?_)
            refine hK149 _ _ ?_
            refine cw_seq fun K160 hK161 => ?_
            refine cw_region fun K162 hK163 => ?_
            refine rw_cons (op_pv (w0 rfl) rfl rfl (pv_assign (v := (.int .i64 1)) rfl rfl) ?_)
            refine rw_nil (hK163 _ _ ?_)
            refine hK161 _ _ ?_
            refine cw_seq fun K164 hK165 => ?_
            refine cw_region fun K166 hK167 => ?_
            refine rw_cons (op_pv (w0 rfl) rfl rfl (pv_move (v := (.slice A75 (srvV xs0 a1 a2 false).length c76)) rfl rfl) ?_)
            refine rw_cons (op_pv (w0 rfl) rfl rfl (pv_move (v := (.int .i64 1)) rfl rfl) ?_)
            refine rw_cons (op_call (w0 rfl) rfl rfl (rc_call C33 rfl rfl) (heldIntS_ok _ (srvV xs0 a1 a2 false).length _ ys153 1 _ (hO77.rs (fun _ => rfl)) (by omega) (by omega) (by omega) hye155) ?_)
            rintro _ w168 ⟨rfl, hch169⟩
            have hsz170 := hch169.size
            replace hR0 := hR0.ch0 hch169
            replace hO36 := hO36.ch0 hch169
            replace hO49 := hO49.ch0 hch169
            replace hO60 := hO60.ch0 hch169
            replace hO77 := hO77.ch0 hch169
            replace hO100 := hO100.ch0 hch169
            replace hc := hc.step0 hch169
            refine rw_cons (op_pv (w0 rfl) rfl rfl (pv_assign (v := (.int .i64 (1 + (((srvV xs0 a1 a2 false).length) : Int)))) rfl rfl) ?_)
            refine rw_nil (hK167 _ _ ?_)
            refine hK165 _ _ ?_
            refine cw_seq fun K171 hK172 => ?_
            refine cw_seq fun K173 hK174 => ?_
            refine cw_region fun K175 hK176 => ?_
            refine rw_cons (op_pv (w0 rfl) rfl rfl (pv_move (v := (.int .i64 (1 + (((srvV xs0 a1 a2 false).length) : Int)))) rfl rfl) ?_)
            refine rw_cons (op_pv (w0 rfl) rfl rfl (pv_lss rfl rfl rfl) ?_)
            refine rw_nil (hK176 _ _ ?_)
            refine hK174 _ _ ?_
            refine cw_cond rfl (fun h177 => ?_) (fun h177 => ?_)
            · -- then
              replace h177 := of_decide_eq_true h177
              refine cw_seq fun K178 hK179 => ?_
              refine cw_region fun K180 hK181 => ?_
              refine rw_cons (op_pv (w0 rfl) rfl rfl (pv_assign (v := (.bool false)) rfl rfl) ?_)
              refine rw_nil (hK181 _ _ ?_)
              refine hK179 _ _ ?_
              refine cw_ret ?_
              refine fin1 rfl ?_
              first
                | exact ⟨rfl, hc⟩
                | (exfalso; omega)
                | exact ⟨congrArg Value.bool (decide_eq_true (by omega)), hc⟩
                | exact absurd rfl ‹_ ≠ _›
                | (exfalso; simp_all; done)
            · -- else
              replace h177 := of_decide_eq_false h177
              refine cw_skip ?_
              refine hK172 _ _ ?_
              refine cw_seq fun K182 hK183 => ?_
              refine cw_seq fun K184 hK185 => ?_
              refine cw_region fun K186 hK187 => ?_
              refine rw_cons (op_pv (w0 rfl) rfl rfl (pv_move (v := (.int .i64 (1 + (((srvV xs0 a1 a2 false).length) : Int)))) rfl rfl) ?_)
              refine rw_cons (op_pv (w0 rfl) rfl rfl (pv_move (v := (.int .i64 (1 + (((srvV xs0 a1 a2 false).length) : Int)))) rfl rfl) ?_)
              refine rw_cons (op_pv (w0 rfl) rfl rfl (pv_nes rfl rfl rfl) ?_)
              refine rw_nil (hK187 _ _ ?_)
              refine hK185 _ _ ?_
              refine cw_cond rfl (fun h188 => ?_) (fun h188 => ?_)
              · -- then
                cases h188
              · -- else
                clear h188
                refine cw_skip ?_
                refine hK183 _ _ ?_
                refine cw_seq fun K189 hK190 => ?_
                refine cw_region fun K191 hK192 => ?_
                refine rw_cons (op_pv (w0 rfl) rfl rfl (pv_move (v := (.slice A0 n0 c0)) rfl rfl) ?_)
                refine rw_cons (op_call (w0 rfl) rfl rfl (rc_call C20 rfl rfl) (toBeatS_ok _ _ _ _ _ (hR0.more (by omega)) (by omega)) ?_)
                rintro _ w193 ⟨v194, rfl, hO195, hch196⟩
                have hsz197 := hch196.size
                replace hR0 := hR0.ch0 hch196
                replace hO36 := hO36.ch0 hch196
                replace hO49 := hO49.ch0 hch196
                replace hO60 := hO60.ch0 hch196
                replace hO77 := hO77.ch0 hch196
                replace hO100 := hO100.ch0 hch196
                replace hc := hc.step0 hch196
                obtain ⟨A198, c199, hv200, hle201, hmx202⟩ := hO195.form; subst hv200
                have hub203 := hO195.lt
                refine rw_cons (op_pv (w0 rfl) rfl rfl (pv_move (v := (.int .i64 a1)) rfl rfl) ?_)
                refine rw_cons (op_pv (w0 rfl) rfl rfl (pv_move (v := (.int .i64 a2)) rfl rfl) ?_)
                refine rw_cons (op_call (w0 rfl) rfl rfl (rc_call C28 rfl rfl) (BeatsDead_i _ xs0.length _ xs0 a1 a2 _ (hO195.rs (fun _ => rfl)) (by omega)) ?_)
                rintro _ w204 ⟨A206, c207, rfl, hO208, hch205⟩
                have hsz209 := hch205.size
                replace hR0 := hR0.ch0 hch205
                replace hO36 := hO36.ch0 hch205
                replace hO49 := hO49.ch0 hch205
                replace hO60 := hO60.ch0 hch205
                replace hO77 := hO77.ch0 hch205
                replace hO100 := hO100.ch0 hch205
                replace hO195 := hO195.ch0 hch205
                replace hc := hc.step0 hch205
                have hub210 := hO208.lt
                have hcap211 : (srvV xs0 a1 a2 false).length ≤ c207 := by obtain ⟨_, _, hv, h1, _⟩ := hO208.form; injection hv with _ _ h3; omega
                have hnt212 := srvV_le xs0 a1 a2 false
                refine rw_cons (op_pv (w0 rfl) rfl rfl (pv_assign (v := (.slice A206 (srvV xs0 a1 a2 false).length c207)) rfl rfl) ?_)
                refine rw_nil (hK192 _ _ ?_)
                refine hK190 _ _ ?_
                refine cw_seq fun K213 hK214 => ?_
                refine cw_seq fun K215 hK216 => ?_
                refine cw_region fun K217 hK218 => ?_
                refine rw_cons (op_pv (w0 rfl) rfl rfl (pv_move (v := (.slice A206 (srvV xs0 a1 a2 false).length c207)) rfl rfl) ?_)
                refine rw_cons (op_pv (w0 rfl) rfl rfl (pv_move (v := (.slice A47 (srvV xs0 a1 a2 false).length c48)) rfl rfl) ?_)
                refine rw_cons (op_call (w0 rfl) rfl rfl (rc_call C30 rfl rfl) (eqIntS_same _ _ _ _ _ _ (srvV xs0 a1 a2 false) _ (hO208.rs (fun _ => rfl)) (hO49.rs (fun _ => rfl)) (by omega)) ?_)
                rintro _ w219 ⟨rfl, hch220⟩
                have hsz221 := hch220.size
                replace hR0 := hR0.ch0 hch220
                replace hO36 := hO36.ch0 hch220
                replace hO49 := hO49.ch0 hch220
                replace hO60 := hO60.ch0 hch220
                replace hO77 := hO77.ch0 hch220
                replace hO100 := hO100.ch0 hch220
                replace hO195 := hO195.ch0 hch220
                replace hO208 := hO208.ch0 hch220
                replace hc := hc.step0 hch220
                refine rw_cons (op_pv (w0 rfl) rfl rfl (pv_not rfl rfl) ?_)
                refine rw_nil (hK218 _ _ ?_)
                refine hK216 _ _ ?_
                refine cw_cond rfl (fun h222 => ?_) (fun h222 => ?_)
                · -- then
                  cases h222
                · -- else
                  clear h222
                  refine cw_skip ?_
                  refine hK214 _ _ ?_
                  refine cw_seq fun K223 hK224 => ?_
                  refine cw_region fun K225 hK226 => ?_
                  refine rw_cons (op_pv (w0 rfl) rfl rfl (pv_assign (v := (.int .i64 1)) rfl rfl) ?_)
                  refine rw_nil (hK226 _ _ ?_)
                  refine hK224 _ _ ?_
                  refine cw_seq fun K227 hK228 => ?_
                  refine cw_region fun K229 hK230 => ?_
                  refine rw_cons (op_pv (w0 rfl) rfl rfl (pv_move (v := (.slice A75 (srvV xs0 a1 a2 false).length c76)) rfl rfl) ?_)
                  refine rw_cons (op_pv (w0 rfl) rfl rfl (pv_move (v := (.int .i64 1)) rfl rfl) ?_)
                  refine rw_cons (op_call (w0 rfl) rfl rfl (rc_call C33 rfl rfl) (heldIntS_ok _ (srvV xs0 a1 a2 false).length _ ys153 1 _ (hO77.rs (fun _ => rfl)) (by omega) (by omega) (by omega) hye155) ?_)
                  rintro _ w231 ⟨rfl, hch232⟩
                  have hsz233 := hch232.size
                  replace hR0 := hR0.ch0 hch232
                  replace hO36 := hO36.ch0 hch232
                  replace hO49 := hO49.ch0 hch232
                  replace hO60 := hO60.ch0 hch232
                  replace hO77 := hO77.ch0 hch232
                  replace hO100 := hO100.ch0 hch232
                  replace hO195 := hO195.ch0 hch232
                  replace hO208 := hO208.ch0 hch232
                  replace hc := hc.step0 hch232
                  refine rw_cons (op_pv (w0 rfl) rfl rfl (pv_assign (v := (.int .i64 (1 + (((srvV xs0 a1 a2 false).length) : Int)))) rfl rfl) ?_)
                  refine rw_nil (hK230 _ _ ?_)
                  refine hK228 _ _ ?_
                  refine cw_seq fun K234 hK235 => ?_
                  refine cw_seq fun K236 hK237 => ?_
                  refine cw_region fun K238 hK239 => ?_
                  refine rw_cons (op_pv (w0 rfl) rfl rfl (pv_move (v := (.int .i64 (1 + (((srvV xs0 a1 a2 false).length) : Int)))) rfl rfl) ?_)
                  refine rw_cons (op_pv (w0 rfl) rfl rfl (pv_lss rfl rfl rfl) ?_)
                  refine rw_nil (hK239 _ _ ?_)
                  refine hK237 _ _ ?_
                  refine cw_cond rfl (fun h240 => ?_) (fun h240 => ?_)
                  · -- then
                    replace h240 := of_decide_eq_true h240
                    refine cw_seq fun K241 hK242 => ?_
                    refine cw_region fun K243 hK244 => ?_
                    refine rw_cons (op_pv (w0 rfl) rfl rfl (pv_assign (v := (.bool false)) rfl rfl) ?_)
                    refine rw_nil (hK244 _ _ ?_)
                    refine hK242 _ _ ?_
                    refine cw_ret ?_
                    refine fin1 rfl ?_
                    first
                      | exact ⟨rfl, hc⟩
                      | (exfalso; omega)
                      | exact ⟨congrArg Value.bool (decide_eq_true (by omega)), hc⟩
                      | exact absurd rfl ‹_ ≠ _›
                      | (exfalso; simp_all; done)
                  · -- else
                    replace h240 := of_decide_eq_false h240
                    refine cw_skip ?_
                    refine hK235 _ _ ?_
                    refine cw_seq fun K245 hK246 => ?_
                    refine cw_seq fun K247 hK248 => ?_
                    refine cw_region fun K249 hK250 => ?_
                    refine rw_cons (op_pv (w0 rfl) rfl rfl (pv_move (v := (.int .i64 (1 + (((srvV xs0 a1 a2 false).length) : Int)))) rfl rfl) ?_)
                    refine rw_cons (op_pv (w0 rfl) rfl rfl (pv_move (v := (.int .i64 (1 + (((srvV xs0 a1 a2 false).length) : Int)))) rfl rfl) ?_)
                    refine rw_cons (op_pv (w0 rfl) rfl rfl (pv_nes rfl rfl rfl) ?_)
                    refine rw_nil (hK250 _ _ ?_)
                    refine hK248 _ _ ?_
                    refine cw_cond rfl (fun h251 => ?_) (fun h251 => ?_)
                    · -- then
                      cases h251
                    · -- else
                      clear h251
                      refine cw_skip ?_
                      refine hK246 _ _ ?_
                      refine cw_seq fun K252 hK253 => ?_
                      refine cw_region fun K254 hK255 => ?_
                      refine rw_cons (op_pv (w0 rfl) rfl rfl (pv_assign (v := (.bool true)) rfl rfl) ?_)
                      refine rw_nil (hK255 _ _ ?_)
                      refine hK253 _ _ ?_
                      refine cw_ret ?_
                      refine fin1 rfl ?_
                      first
                        | exact ⟨rfl, hc⟩
                        | (exfalso; omega)
                        | exact ⟨congrArg Value.bool (decide_eq_true (by omega)), hc⟩
                        | exact absurd rfl ‹_ ≠ _›
                        | (exfalso; simp_all; done)
end Go.Proofs.Ytnkjljjcionfiaa
