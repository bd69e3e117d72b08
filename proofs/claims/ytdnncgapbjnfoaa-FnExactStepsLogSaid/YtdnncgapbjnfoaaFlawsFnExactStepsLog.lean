/-
  The walk of laws.FnExactStepsLog, written by program: each line names the law of one operation. Conditions: those of the theorem.
-/
import Derived.Test.YtdnncgapbjnfoaaProg
import Derived.Test.YtdnncgapbjnfoaaSteps
import Derived.Test.YtdnncgapbjnfoaaFlawsszStepS
import Derived.Test.YtdnncgapbjnfoaaFlawstoStepS
import Derived.Test.YtdnncgapbjnfoaaFlawseqStepS
import Derived.Test.YtdnncgapbjnfoaaFlawseqUpdateS
import Derived.Test.YtdnncgapbjnfoaaFlawsmarkStepS
import Derived.Test.YtdnncgapbjnfoaaFlawsmarkUpdateS
import Derived.Test.YtdnncgapbjnfoaaFlawsheldUpdateS
import Derived.Test.YtdnncgapbjnfoaaFimplStepsLog
import Derived.Test.YtdnncgapbjnfoaaFspecStepsLog
import Derived.KernelRfl
namespace Go.Proofs.Ytdnncgapbjnfoaa
open Go Go.RowKit
set_option linter.unusedVariables false
set_option linter.unusedSimpArgs false
namespace FnExactStepsLog_okF
theorem C12 : Callable Try.prog 12 := ⟨_, Try.func12, by kernel_rfl, by kernel_rfl⟩
theorem C13 : Callable Try.prog 13 := ⟨_, Try.func13, by kernel_rfl, by kernel_rfl⟩
theorem C17 : Callable Try.prog 17 := ⟨_, Try.func17, by kernel_rfl, by kernel_rfl⟩
theorem C18 : Callable Try.prog 18 := ⟨_, Try.func18, by kernel_rfl, by kernel_rfl⟩
theorem C19 : Callable Try.prog 19 := ⟨_, Try.func19, by kernel_rfl, by kernel_rfl⟩
theorem C20 : Callable Try.prog 20 := ⟨_, Try.func20, by kernel_rfl, by kernel_rfl⟩
theorem C21 : Callable Try.prog 21 := ⟨_, Try.func21, by kernel_rfl, by kernel_rfl⟩
theorem C22 : Callable Try.prog 22 := ⟨_, Try.func22, by kernel_rfl, by kernel_rfl⟩
theorem C23 : Callable Try.prog 23 := ⟨_, Try.func23, by kernel_rfl, by kernel_rfl⟩
end FnExactStepsLog_okF
open FnExactStepsLog_okF in
set_option maxHeartbeats 4000000 in
theorem FnExactStepsLog_ok (A0 : Option Addr) (n0 c0 : Nat) (xs0 : List Stp) (w : World) (hR0 : RS encP 3 w w.heap.size A0 n0 xs0) (hn0 : n0 ≤ c0) (hm0 : c0 ≤ maxLen) :
    Fn Try.prog 5 [(.slice A0 n0 c0)] w fun v w' => v = .bool true ∧ Ch [] w w' := by
  have hlen0 := hR0.len
  refine fn_of (n := 69) Try.func5 rfl rfl rfl rfl ?_
  have hc : Ch [] w w := Ch.refl _ _
  refine cw_seq fun K1 hK2 => ?_
  refine cw_region fun K3 hK4 => ?_
  refine rw_cons (op_pv (w0 rfl) rfl rfl (pv_assign (v := (.bool false)) rfl rfl) ?_)
  refine rw_nil (hK4 _ _ ?_)
  refine hK2 _ _ ?_
  refine cw_seq fun K5 hK6 => ?_
  refine cw_region fun K7 hK8 => ?_
  refine rw_cons (op_pv (w0 rfl) rfl rfl (pv_assign (v := (.int .i64 1048576)) rfl rfl) ?_)
  refine rw_nil (hK8 _ _ ?_)
  refine hK6 _ _ ?_
  refine cw_seq fun K9 hK10 => ?_
  refine cw_region fun K11 hK12 => ?_
  refine rw_cons (op_pv (w0 rfl) rfl rfl (pv_move (v := (.slice A0 n0 c0)) rfl rfl) ?_)
  refine rw_cons (op_pv (w0 rfl) rfl rfl (pv_move (v := (.int .i64 1048576)) rfl rfl) ?_)
  refine rw_cons (op_call (w0 rfl) rfl rfl (rc_call C17 rfl rfl) (szStepS_ok _ n0 _ _ 1048576 _ (hR0.more (by omega)) (by omega) (by omega) (by first | omega | (unfold maxLen; omega))) ?_)
  rintro _ w14 ⟨r13, rfl, hsz15, hsz16, hch17⟩
  have hsz18 := hch17.size
  replace hR0 := hR0.ch0 hch17
  replace hc := hc.step0 hch17
  refine rw_cons (op_pv (w0 rfl) rfl rfl (pv_assign (v := (.int .i64 r13)) rfl rfl) ?_)
  refine rw_nil (hK12 _ _ ?_)
  refine hK10 _ _ ?_
  refine cw_seq fun K19 hK20 => ?_
  refine cw_seq fun K21 hK22 => ?_
  refine cw_region fun K23 hK24 => ?_
  refine rw_cons (op_pv (w0 rfl) rfl rfl (pv_move (v := (.int .i64 r13)) rfl rfl) ?_)
  refine rw_cons (op_pv (w0 rfl) rfl rfl (pv_lss rfl rfl rfl) ?_)
  refine rw_nil (hK24 _ _ ?_)
  refine hK22 _ _ ?_
  refine cw_cond rfl (fun h25 => ?_) (fun h25 => ?_)
  · -- then
    replace h25 := of_decide_eq_true h25
    refine cw_seq fun K26 hK27 => ?_
    refine cw_region fun K28 hK29 => ?_
    refine rw_cons (op_pv (w0 rfl) rfl rfl (pv_assign (v := (.bool true)) rfl rfl) ?_)
    refine rw_nil (hK29 _ _ ?_)
    refine hK27 _ _ ?_
    refine cw_ret ?_
    refine fin1 rfl ?_
    first
      | exact ⟨rfl, hc⟩
      | (exfalso; omega)
      | exact ⟨congrArg Value.bool (decide_eq_true (by omega)), hc⟩
      | exact absurd rfl ‹_ ≠ _›
      | (exfalso; simp_all; done)
  · -- else
    replace h25 := of_decide_eq_false h25
    refine cw_skip ?_
    refine hK20 _ _ ?_
    refine cw_seq fun K30 hK31 => ?_
    refine cw_region fun K32 hK33 => ?_
    refine rw_cons (op_pv (w0 rfl) rfl rfl (pv_move (v := (.slice A0 n0 c0)) rfl rfl) ?_)
    refine rw_cons (op_call (w0 rfl) rfl rfl (rc_call C18 rfl rfl) (toStepS_ok _ _ _ _ _ (hR0.more (by omega)) (by omega)) ?_)
    rintro _ w34 ⟨v35, rfl, hO36, hch37⟩
    have hsz38 := hch37.size
    replace hR0 := hR0.ch0 hch37
    replace hc := hc.step0 hch37
    obtain ⟨A39, c40, hv41, hle42, hmx43⟩ := hO36.form; subst hv41
    have hub44 := hO36.lt
    refine rw_cons (op_call (w0 rfl) rfl rfl (rc_call C13 rfl rfl) (StepsLog_s _ xs0.length _ xs0 _ (hO36.rs (fun _ => rfl)) (by omega)) ?_)
    rintro _ w45 ⟨A47, c48, rfl, hO49, hch46⟩
    have hsz50 := hch46.size
    replace hR0 := hR0.ch0 hch46
    replace hO36 := hO36.ch0 hch46
    replace hc := hc.step0 hch46
    have hub51 := hO49.lt
    have hcap52 : (logV xs0).length ≤ c48 := by obtain ⟨_, _, hv, h1, _⟩ := hO49.form; injection hv with _ _ h3; omega
    have hnt53 := logV_le xs0
    refine rw_cons (op_pv (w0 rfl) rfl rfl (pv_assign (v := (.slice A47 (logV xs0).length c48)) rfl rfl) ?_)
    refine rw_nil (hK33 _ _ ?_)
    refine hK31 _ _ ?_
    refine cw_seq fun K54 hK55 => ?_
    refine cw_region fun K56 hK57 => ?_
    refine rw_cons (op_pv (w0 rfl) rfl rfl (pv_move (v := (.slice A0 n0 c0)) rfl rfl) ?_)
    refine rw_cons (op_call (w0 rfl) rfl rfl (rc_call C18 rfl rfl) (toStepS_ok _ _ _ _ _ (hR0.more (by omega)) (by omega)) ?_)
    rintro _ w58 ⟨v59, rfl, hO60, hch61⟩
    have hsz62 := hch61.size
    replace hR0 := hR0.ch0 hch61
    replace hO36 := hO36.ch0 hch61
    replace hO49 := hO49.ch0 hch61
    replace hc := hc.step0 hch61
    obtain ⟨A63, c64, hv65, hle66, hmx67⟩ := hO60.form; subst hv65
    have hub68 := hO60.lt
    refine rw_cons (op_pv (w0 rfl) rfl rfl (pv_assign (v := (.slice A63 xs0.length c64)) rfl rfl) ?_)
    refine rw_nil (hK57 _ _ ?_)
    refine hK55 _ _ ?_
    refine cw_seq fun K69 hK70 => ?_
    refine cw_region fun K71 hK72 => ?_
    refine rw_cons (op_pv (w0 rfl) rfl rfl (pv_move (v := (.slice A63 xs0.length c64)) rfl rfl) ?_)
    refine rw_cons (op_call (w0 rfl) rfl rfl (rc_call C12 rfl rfl) (StepsLog_i _ xs0.length _ xs0 _ (hO60.rs (fun _ => rfl)) (by omega)) ?_)
    rintro _ w73 ⟨A75, c76, rfl, hO77, hch74⟩
    have hsz78 := hch74.size
    replace hR0 := hR0.ch0 hch74
    replace hO36 := hO36.ch0 hch74
    replace hO49 := hO49.ch0 hch74
    replace hO60 := hO60.ch0 hch74
    replace hc := hc.step0 hch74
    have hub79 := hO77.lt
    have hcap80 : (logV xs0).length ≤ c76 := by obtain ⟨_, _, hv, h1, _⟩ := hO77.form; injection hv with _ _ h3; omega
    have hnt81 := logV_le xs0
    refine rw_cons (op_pv (w0 rfl) rfl rfl (pv_assign (v := (.slice A75 (logV xs0).length c76)) rfl rfl) ?_)
    refine rw_nil (hK72 _ _ ?_)
    refine hK70 _ _ ?_
    refine cw_seq fun K82 hK83 => ?_
    refine cw_seq fun K84 hK85 => ?_
    refine cw_region fun K86 hK87 => ?_
    refine rw_cons (op_pv (w0 rfl) rfl rfl (pv_move (v := (.slice A75 (logV xs0).length c76)) rfl rfl) ?_)
    refine rw_cons (op_pv (w0 rfl) rfl rfl (pv_move (v := (.slice A47 (logV xs0).length c48)) rfl rfl) ?_)
    refine rw_cons (op_call (w0 rfl) rfl rfl (rc_call C19 rfl rfl) (eqUpdateS_same _ _ _ _ _ _ (logV xs0) _ (hO77.rs (fun _ => rfl)) (hO49.rs (fun _ => rfl)) (by omega)) ?_)
    rintro _ w88 ⟨rfl, hch89⟩
    have hsz90 := hch89.size
    replace hR0 := hR0.ch0 hch89
    replace hO36 := hO36.ch0 hch89
    replace hO49 := hO49.ch0 hch89
    replace hO60 := hO60.ch0 hch89
    replace hO77 := hO77.ch0 hch89
    replace hc := hc.step0 hch89
    refine rw_cons (op_pv (w0 rfl) rfl rfl (pv_not rfl rfl) ?_)
    refine rw_nil (hK87 _ _ ?_)
    refine hK85 _ _ ?_
    refine cw_cond rfl (fun h91 => ?_) (fun h91 => ?_)
    · -- then
      cases h91
    · -- else
      clear h91
      refine cw_skip ?_
      refine hK83 _ _ ?_
      refine cw_seq fun K92 hK93 => ?_
      refine cw_seq fun K94 hK95 => ?_
      refine cw_region fun K96 hK97 => ?_
      refine rw_cons (op_pv (w0 rfl) rfl rfl (pv_move (v := (.slice A63 xs0.length c64)) rfl rfl) ?_)
      refine rw_cons (op_pv (w0 rfl) rfl rfl (pv_move (v := (.slice A0 n0 c0)) rfl rfl) ?_)
      refine rw_cons (op_call (w0 rfl) rfl rfl (rc_call C18 rfl rfl) (toStepS_ok _ _ _ _ _ (hR0.more (by omega)) (by omega)) ?_)
      rintro _ w98 ⟨v99, rfl, hO100, hch101⟩
      have hsz102 := hch101.size
      replace hR0 := hR0.ch0 hch101
      replace hO36 := hO36.ch0 hch101
      replace hO49 := hO49.ch0 hch101
      replace hO60 := hO60.ch0 hch101
      replace hO77 := hO77.ch0 hch101
      replace hc := hc.step0 hch101
      obtain ⟨A103, c104, hv105, hle106, hmx107⟩ := hO100.form; subst hv105
      have hub108 := hO100.lt
      refine rw_cons (op_call (w0 rfl) rfl rfl (rc_call C20 rfl rfl) (eqStepS_ok _ _ _ _ _ _ xs0 xs0 _ (hO60.rs (fun _ => rfl)) (hO100.rs (fun _ => rfl)) (by omega)) ?_)
      rintro _ w109 ⟨rfl, hch110⟩
      have hsz111 := hch110.size
      replace hR0 := hR0.ch0 hch110
      replace hO36 := hO36.ch0 hch110
      replace hO49 := hO49.ch0 hch110
      replace hO60 := hO60.ch0 hch110
      replace hO77 := hO77.ch0 hch110
      replace hO100 := hO100.ch0 hch110
      replace hc := hc.step0 hch110
      refine rw_cons (op_pv (w0 rfl) rfl rfl (pv_not rfl rfl) ?_)
      refine rw_nil (hK97 _ _ ?_)
      refine hK95 _ _ ?_
      refine cw_cond rfl (fun h112 => ?_) (fun h112 => ?_)
      · -- then
        replace h112 := not_t h112
        replace h112 := dec_f h112
        refine cw_seq fun K113 hK114 => ?_
        refine cw_region fun K115 hK116 => ?_
        refine rw_cons (op_pv (w0 rfl) rfl rfl (pv_assign (v := (.bool false)) rfl rfl) ?_)
        refine rw_nil (hK116 _ _ ?_)
        refine hK114 _ _ ?_
        refine cw_ret ?_
        refine fin1 rfl ?_
        first
          | exact ⟨rfl, hc⟩
          | (exfalso; omega)
          | exact ⟨congrArg Value.bool (decide_eq_true (by omega)), hc⟩
          | exact absurd rfl ‹_ ≠ _›
          | (exfalso; simp_all; done)
      · -- else
        replace h112 := not_f h112
        replace h112 := dec_t h112
        refine cw_skip ?_
        refine hK93 _ _ ?_
        refine cw_seq fun K117 hK118 => ?_
        refine cw_region fun K119 hK120 => ?_
        refine rw_cons (op_pv (w0 rfl) rfl rfl (pv_assign (v := (.int .i64 1)) rfl rfl) ?_)
        refine rw_nil (hK120 _ _ ?_)
        refine hK118 _ _ ?_
        refine cw_seq fun K121 hK122 => ?_
        refine cw_region fun K123 hK124 => ?_
        refine rw_cons (op_pv (w0 rfl) rfl rfl (pv_move (v := (.slice A63 xs0.length c64)) rfl rfl) ?_)
        refine rw_cons (op_pv (w0 rfl) rfl rfl (pv_move (v := (.int .i64 1)) rfl rfl) ?_)
        refine rw_cons (op_call (w0 rfl) rfl rfl (rc_call C21 rfl rfl) (markStepS_ok _ xs0.length _ _ _ 1 _ hO60 (by omega) (by omega) (by omega) (by omega)) ?_)
        rintro _ w125 ⟨ys126, hyl127, rfl, hO128, hch129⟩
        have hsz130 := hch129.size
        replace hR0 := hR0.ch hch129 (hO60.off.le (by omega))
        replace hO36 := hO36.ch hch129 (fun s hs hs2 => by first | (have h1 := hO36.off s hs; have h2 := hub68 s hs2; omega) | (have h1 := hub44 s hs; have h2 := hO60.off s hs2; omega) | (have h2 := hub68 s hs2; simp [obl, Value.ownBlock] at hs; omega) | (have h1 := hub44 s hs; simp [obl, Value.ownBlock] at hs2; omega))
        replace hO49 := hO49.ch hch129 (fun s hs hs2 => by first | (have h1 := hO49.off s hs; have h2 := hub68 s hs2; omega) | (have h1 := hub51 s hs; have h2 := hO60.off s hs2; omega) | (have h2 := hub68 s hs2; simp [obl, Value.ownBlock] at hs; omega) | (have h1 := hub51 s hs; simp [obl, Value.ownBlock] at hs2; omega))
        replace hO77 := hO77.ch hch129 (fun s hs hs2 => by first | (have h1 := hO77.off s hs; have h2 := hub68 s hs2; omega) | (have h1 := hub79 s hs; have h2 := hO60.off s hs2; omega) | (have h2 := hub68 s hs2; simp [obl, Value.ownBlock] at hs; omega) | (have h1 := hub79 s hs; simp [obl, Value.ownBlock] at hs2; omega))
        replace hO100 := hO100.ch hch129 (fun s hs hs2 => by first | (have h1 := hO100.off s hs; have h2 := hub68 s hs2; omega) | (have h1 := hub108 s hs; have h2 := hO60.off s hs2; omega) | (have h2 := hub68 s hs2; simp [obl, Value.ownBlock] at hs; omega) | (have h1 := hub108 s hs; simp [obl, Value.ownBlock] at hs2; omega))
        replace hc := (hO60.off.le (by omega)).step hc hch129
        clear hO60; have hO60 := hO128; clear hO128
        refine rw_cons (op_pv (w0 rfl) rfl rfl (pv_assign (v := (.int .i64 (1 + 3 * ((xs0.length) : Int)))) rfl rfl) ?_)
        refine rw_nil (hK124 _ _ ?_)
        refine hK122 _ _ ?_
        refine cw_seq fun K131 hK132 => ?_
        refine cw_seq fun K133 hK134 => ?_
        refine cw_region fun K135 hK136 => ?_
        refine rw_cons (op_pv (w0 rfl) rfl rfl (pv_move (v := (.int .i64 (1 + 3 * ((xs0.length) : Int)))) rfl rfl) ?_)
        refine rw_cons (op_pv (w0 rfl) rfl rfl (pv_lss rfl rfl rfl) ?_)
        refine rw_cons (op_pv (w0 rfl) rfl rfl (pv_move (v := (.bool (decide ((1 + 3 * ((xs0.length) : Int)) < 0)))) rfl rfl) ?_)
        refine rw_split 37 rfl (fun hb137 => ?_) (fun hb137 => ?_)
        · -- yes
          replace hb137 := of_decide_eq_true hb137
          refine rw_cons (op_pass (w1n2 rfl rfl rfl rfl) rfl rfl ?_)
          refine rw_cons (op_pass (w1n2 rfl rfl rfl rfl) rfl rfl ?_)
          refine rw_cons (op_pass (w1n2 rfl rfl rfl rfl) rfl rfl ?_)
          refine rw_cons (op_pass (w1n2 rfl rfl rfl rfl) rfl rfl ?_)
          refine rw_cons (op_pv (w0 rfl) rfl rfl (pv_pickT (v := (.bool true)) rfl rfl rfl) ?_)
          refine rw_nil (hK136 _ _ ?_)
          refine hK134 _ _ ?_
          refine cw_cond rfl (fun h138 => ?_) (fun h138 => ?_)
          · -- then
            clear h138
            refine cw_seq fun K139 hK140 => ?_
            refine cw_region fun K141 hK142 => ?_
            refine rw_cons (op_pv (w0 rfl) rfl rfl (pv_assign (v := (.bool false)) rfl rfl) ?_)
            refine rw_nil (hK142 _ _ ?_)
            refine hK140 _ _ ?_
            refine cw_ret ?_
            refine fin1 rfl ?_
            first
              | exact ⟨rfl, hc⟩
              | (exfalso; omega)
              | exact ⟨congrArg Value.bool (decide_eq_true (by omega)), hc⟩
              | exact absurd rfl ‹_ ≠ _›
              | (exfalso; simp_all; done)
          · -- else
            cases h138
        · -- no
          replace hb137 := of_decide_eq_false hb137
          refine rw_cons (op_pv (w1y rfl rfl rfl rfl) rfl rfl (pv_move (v := (.slice A75 (logV xs0).length c76)) rfl rfl) ?_)
          refine rw_cons (op_pv (w1y rfl rfl rfl rfl) rfl rfl (pv_move (v := (.slice A47 (logV xs0).length c48)) rfl rfl) ?_)
          refine rw_cons (op_call (w1y rfl rfl rfl rfl) rfl rfl (rc_call C19 rfl rfl) (eqUpdateS_same _ _ _ _ _ _ (logV xs0) _ (hO77.rs (fun _ => rfl)) (hO49.rs (fun _ => rfl)) (by omega)) ?_)
          rintro _ w143 ⟨rfl, hch144⟩
          have hsz145 := hch144.size
          replace hR0 := hR0.ch0 hch144
          replace hO36 := hO36.ch0 hch144
          replace hO49 := hO49.ch0 hch144
          replace hO60 := hO60.ch0 hch144
          replace hO77 := hO77.ch0 hch144
          replace hO100 := hO100.ch0 hch144
          replace hc := hc.step0 hch144
          refine rw_cons (op_pv (w1y rfl rfl rfl rfl) rfl rfl (pv_not rfl rfl) ?_)
          refine rw_cons (op_pv (w0 rfl) rfl rfl (pv_pickF (v := (.bool (!true))) rfl rfl rfl) ?_)
          refine rw_nil (hK136 _ _ ?_)
          refine hK134 _ _ ?_
          refine cw_cond rfl (fun h146 => ?_) (fun h146 => ?_)
          · -- then
            cases h146
          · -- else
            clear h146
            refine cw_skip ?_
            refine hK132 _ _ ?_
            refine cw_seq fun K147 hK148 => ?_
            refine cw_region fun K149 hK150 => ?_
            refine rw_cons (op_pv (w0 rfl) rfl rfl (pv_assign (v := (.int .i64 1)) rfl rfl) ?_)
            refine rw_nil (hK150 _ _ ?_)
            refine hK148 _ _ ?_
            refine cw_seq fun K151 hK152 => ?_
            refine cw_region fun K153 hK154 => ?_
            refine rw_cons (op_pv (w0 rfl) rfl rfl (pv_move (v := (.slice A75 (logV xs0).length c76)) rfl rfl) ?_)
            refine rw_cons (op_pv (w0 rfl) rfl rfl (pv_move (v := (.int .i64 1)) rfl rfl) ?_)
            refine rw_cons (op_call (w0 rfl) rfl rfl (rc_call C22 rfl rfl) (markUpdateS_ok _ (logV xs0).length _ _ _ 1 _ hO77 (by omega) (by omega) (by omega) (by omega)) ?_)
            rintro _ w155 ⟨ys156, hyl157, hye158, rfl, hO159, hch160⟩
            have hsz161 := hch160.size
            replace hR0 := hR0.ch hch160 (hO77.off.le (by omega))
            replace hO36 := hO36.ch hch160 (fun s hs hs2 => by first | (have h1 := hO36.off s hs; have h2 := hub79 s hs2; omega) | (have h1 := hub44 s hs; have h2 := hO77.off s hs2; omega) | (have h2 := hub79 s hs2; simp [obl, Value.ownBlock] at hs; omega) | (have h1 := hub44 s hs; simp [obl, Value.ownBlock] at hs2; omega))
            replace hO49 := hO49.ch hch160 (fun s hs hs2 => by first | (have h1 := hO49.off s hs; have h2 := hub79 s hs2; omega) | (have h1 := hub51 s hs; have h2 := hO77.off s hs2; omega) | (have h2 := hub79 s hs2; simp [obl, Value.ownBlock] at hs; omega) | (have h1 := hub51 s hs; simp [obl, Value.ownBlock] at hs2; omega))
            replace hO60 := hO60.ch hch160 (fun s hs hs2 => by first | (have h1 := hO60.off s hs; have h2 := hub79 s hs2; omega) | (have h1 := hub68 s hs; have h2 := hO77.off s hs2; omega) | (have h2 := hub79 s hs2; simp [obl, Value.ownBlock] at hs; omega) | (have h1 := hub68 s hs; simp [obl, Value.ownBlock] at hs2; omega))
            replace hO100 := hO100.ch hch160 (fun s hs hs2 => by first | (have h1 := hO100.off s hs; have h2 := hub79 s hs2; omega) | (have h1 := hub108 s hs; have h2 := hO77.off s hs2; omega) | (have h2 := hub79 s hs2; simp [obl, Value.ownBlock] at hs; omega) | (have h1 := hub108 s hs; simp [obl, Value.ownBlock] at hs2; omega))
            replace hc := (hO77.off.le (by omega)).step hc hch160
            clear hO77; have hO77 := hO159; clear hO159
            refine rw_cons (op_pv (w0 rfl) rfl rfl (pv_assign (v := (.int .i64 (1 + 2 * (((logV xs0).length) : Int)))) rfl rfl) ?_)
            refine rw_nil (hK154 _ _ ?_)
            refine hK152 _ _ ?_
            refine cw_seq fun K162 hK163 => ?_
            refine cw_region fun K164 hK165 => ?_
            refine rw_cons (op_pv (w0 rfl) rfl rfl (pv_assign (v := (.int .i64 1)) rfl rfl) ?_)
            refine rw_nil (hK165 _ _ ?_)
            refine hK163 _ _ ?_
            refine cw_seq fun K166 hK167 => ?_
            refine cw_region fun K168 hK169 => ?_
            refine rw_cons (op_pv (w0 rfl) rfl rfl (pv_move (v := (.slice A75 (logV xs0).length c76)) rfl rfl) ?_)
            refine rw_cons (op_pv (w0 rfl) rfl rfl (pv_move (v := (.int .i64 1)) rfl rfl) ?_)
            refine rw_cons (op_call (w0 rfl) rfl rfl (rc_call C23 rfl rfl) (heldUpdateS_ok _ (logV xs0).length _ ys156 1 _ (hO77.rs (fun _ => rfl)) (by omega) (by omega) (by omega) hye158) ?_)
            rintro _ w170 ⟨rfl, hch171⟩
            have hsz172 := hch171.size
            replace hR0 := hR0.ch0 hch171
            replace hO36 := hO36.ch0 hch171
            replace hO49 := hO49.ch0 hch171
            replace hO60 := hO60.ch0 hch171
            replace hO77 := hO77.ch0 hch171
            replace hO100 := hO100.ch0 hch171
            replace hc := hc.step0 hch171
            refine rw_cons (op_pv (w0 rfl) rfl rfl (pv_assign (v := (.int .i64 (1 + 2 * (((logV xs0).length) : Int)))) rfl rfl) ?_)
            refine rw_nil (hK169 _ _ ?_)
            refine hK167 _ _ ?_
            refine cw_seq fun K173 hK174 => ?_
            refine cw_seq fun K175 hK176 => ?_
            refine cw_region fun K177 hK178 => ?_
            refine rw_cons (op_pv (w0 rfl) rfl rfl (pv_move (v := (.int .i64 (1 + 2 * (((logV xs0).length) : Int)))) rfl rfl) ?_)
            refine rw_cons (op_pv (w0 rfl) rfl rfl (pv_lss rfl rfl rfl) ?_)
            refine rw_nil (hK178 _ _ ?_)
            refine hK176 _ _ ?_
            refine cw_cond rfl (fun h179 => ?_) (fun h179 => ?_)
            · -- then
              replace h179 := of_decide_eq_true h179
              refine cw_seq fun K180 hK181 => ?_
              refine cw_region fun K182 hK183 => ?_
              refine rw_cons (op_pv (w0 rfl) rfl rfl (pv_assign (v := (.bool false)) rfl rfl) ?_)
              refine rw_nil (hK183 _ _ ?_)
              refine hK181 _ _ ?_
              refine cw_ret ?_
              refine fin1 rfl ?_
              first
                | exact ⟨rfl, hc⟩
                | (exfalso; omega)
                | exact ⟨congrArg Value.bool (decide_eq_true (by omega)), hc⟩
                | exact absurd rfl ‹_ ≠ _›
                | (exfalso; simp_all; done)
            · -- else
              replace h179 := of_decide_eq_false h179
              refine cw_skip ?_
              refine hK174 _ _ ?_
              refine cw_seq fun K184 hK185 => ?_
              refine cw_seq fun K186 hK187 => ?_
              refine cw_region fun K188 hK189 => ?_
              refine rw_cons (op_pv (w0 rfl) rfl rfl (pv_move (v := (.int .i64 (1 + 2 * (((logV xs0).length) : Int)))) rfl rfl) ?_)
              refine rw_cons (op_pv (w0 rfl) rfl rfl (pv_move (v := (.int .i64 (1 + 2 * (((logV xs0).length) : Int)))) rfl rfl) ?_)
              refine rw_cons (op_pv (w0 rfl) rfl rfl (pv_nes rfl rfl rfl) ?_)
              refine rw_nil (hK189 _ _ ?_)
              refine hK187 _ _ ?_
              refine cw_cond rfl (fun h190 => ?_) (fun h190 => ?_)
              · -- then
                cases h190
              · -- else
                clear h190
                refine cw_skip ?_
                refine hK185 _ _ ?_
                refine cw_seq fun K191 hK192 => ?_
                refine cw_region fun K193 hK194 => ?_
                refine rw_cons (op_pv (w0 rfl) rfl rfl (pv_move (v := (.slice A0 n0 c0)) rfl rfl) ?_)
                refine rw_cons (op_call (w0 rfl) rfl rfl (rc_call C18 rfl rfl) (toStepS_ok _ _ _ _ _ (hR0.more (by omega)) (by omega)) ?_)
                rintro _ w195 ⟨v196, rfl, hO197, hch198⟩
                have hsz199 := hch198.size
                replace hR0 := hR0.ch0 hch198
                replace hO36 := hO36.ch0 hch198
                replace hO49 := hO49.ch0 hch198
                replace hO60 := hO60.ch0 hch198
                replace hO77 := hO77.ch0 hch198
                replace hO100 := hO100.ch0 hch198
                replace hc := hc.step0 hch198
                obtain ⟨A200, c201, hv202, hle203, hmx204⟩ := hO197.form; subst hv202
                have hub205 := hO197.lt
                refine rw_cons (op_call (w0 rfl) rfl rfl (rc_call C12 rfl rfl) (StepsLog_i _ xs0.length _ xs0 _ (hO197.rs (fun _ => rfl)) (by omega)) ?_)
                rintro _ w206 ⟨A208, c209, rfl, hO210, hch207⟩
                have hsz211 := hch207.size
                replace hR0 := hR0.ch0 hch207
                replace hO36 := hO36.ch0 hch207
                replace hO49 := hO49.ch0 hch207
                replace hO60 := hO60.ch0 hch207
                replace hO77 := hO77.ch0 hch207
                replace hO100 := hO100.ch0 hch207
                replace hO197 := hO197.ch0 hch207
                replace hc := hc.step0 hch207
                have hub212 := hO210.lt
                have hcap213 : (logV xs0).length ≤ c209 := by obtain ⟨_, _, hv, h1, _⟩ := hO210.form; injection hv with _ _ h3; omega
                have hnt214 := logV_le xs0
                refine rw_cons (op_pv (w0 rfl) rfl rfl (pv_assign (v := (.slice A208 (logV xs0).length c209)) rfl rfl) ?_)
                refine rw_nil (hK194 _ _ ?_)
                refine hK192 _ _ ?_
                refine cw_seq fun K215 hK216 => ?_
                refine cw_seq fun K217 hK218 => ?_
                refine cw_region fun K219 hK220 => ?_
                refine rw_cons (op_pv (w0 rfl) rfl rfl (pv_move (v := (.slice A208 (logV xs0).length c209)) rfl rfl) ?_)
                refine rw_cons (op_pv (w0 rfl) rfl rfl (pv_move (v := (.slice A47 (logV xs0).length c48)) rfl rfl) ?_)
                refine rw_cons (op_call (w0 rfl) rfl rfl (rc_call C19 rfl rfl) (eqUpdateS_same _ _ _ _ _ _ (logV xs0) _ (hO210.rs (fun _ => rfl)) (hO49.rs (fun _ => rfl)) (by omega)) ?_)
                rintro _ w221 ⟨rfl, hch222⟩
                have hsz223 := hch222.size
                replace hR0 := hR0.ch0 hch222
                replace hO36 := hO36.ch0 hch222
                replace hO49 := hO49.ch0 hch222
                replace hO60 := hO60.ch0 hch222
                replace hO77 := hO77.ch0 hch222
                replace hO100 := hO100.ch0 hch222
                replace hO197 := hO197.ch0 hch222
                replace hO210 := hO210.ch0 hch222
                replace hc := hc.step0 hch222
                refine rw_cons (op_pv (w0 rfl) rfl rfl (pv_not rfl rfl) ?_)
                refine rw_nil (hK220 _ _ ?_)
                refine hK218 _ _ ?_
                refine cw_cond rfl (fun h224 => ?_) (fun h224 => ?_)
                · -- then
                  cases h224
                · -- else
                  clear h224
                  refine cw_skip ?_
                  refine hK216 _ _ ?_
                  refine cw_seq fun K225 hK226 => ?_
                  refine cw_region fun K227 hK228 => ?_
                  refine rw_cons (op_pv (w0 rfl) rfl rfl (pv_assign (v := (.int .i64 1)) rfl rfl) ?_)
                  refine rw_nil (hK228 _ _ ?_)
                  refine hK226 _ _ ?_
                  refine cw_seq fun K229 hK230 => ?_
                  refine cw_region fun K231 hK232 => ?_
                  refine rw_cons (op_pv (w0 rfl) rfl rfl (pv_move (v := (.slice A75 (logV xs0).length c76)) rfl rfl) ?_)
                  refine rw_cons (op_pv (w0 rfl) rfl rfl (pv_move (v := (.int .i64 1)) rfl rfl) ?_)
                  refine rw_cons (op_call (w0 rfl) rfl rfl (rc_call C23 rfl rfl) (heldUpdateS_ok _ (logV xs0).length _ ys156 1 _ (hO77.rs (fun _ => rfl)) (by omega) (by omega) (by omega) hye158) ?_)
                  rintro _ w233 ⟨rfl, hch234⟩
                  have hsz235 := hch234.size
                  replace hR0 := hR0.ch0 hch234
                  replace hO36 := hO36.ch0 hch234
                  replace hO49 := hO49.ch0 hch234
                  replace hO60 := hO60.ch0 hch234
                  replace hO77 := hO77.ch0 hch234
                  replace hO100 := hO100.ch0 hch234
                  replace hO197 := hO197.ch0 hch234
                  replace hO210 := hO210.ch0 hch234
                  replace hc := hc.step0 hch234
                  refine rw_cons (op_pv (w0 rfl) rfl rfl (pv_assign (v := (.int .i64 (1 + 2 * (((logV xs0).length) : Int)))) rfl rfl) ?_)
                  refine rw_nil (hK232 _ _ ?_)
                  refine hK230 _ _ ?_
                  refine cw_seq fun K236 hK237 => ?_
                  refine cw_seq fun K238 hK239 => ?_
                  refine cw_region fun K240 hK241 => ?_
                  refine rw_cons (op_pv (w0 rfl) rfl rfl (pv_move (v := (.int .i64 (1 + 2 * (((logV xs0).length) : Int)))) rfl rfl) ?_)
                  refine rw_cons (op_pv (w0 rfl) rfl rfl (pv_lss rfl rfl rfl) ?_)
                  refine rw_nil (hK241 _ _ ?_)
                  refine hK239 _ _ ?_
                  refine cw_cond rfl (fun h242 => ?_) (fun h242 => ?_)
                  · -- then
                    replace h242 := of_decide_eq_true h242
                    refine cw_seq fun K243 hK244 => ?_
                    refine cw_region fun K245 hK246 => ?_
                    refine rw_cons (op_pv (w0 rfl) rfl rfl (pv_assign (v := (.bool false)) rfl rfl) ?_)
                    refine rw_nil (hK246 _ _ ?_)
                    refine hK244 _ _ ?_
                    refine cw_ret ?_
                    refine fin1 rfl ?_
                    first
                      | exact ⟨rfl, hc⟩
                      | (exfalso; omega)
                      | exact ⟨congrArg Value.bool (decide_eq_true (by omega)), hc⟩
                      | exact absurd rfl ‹_ ≠ _›
                      | (exfalso; simp_all; done)
                  · -- else
                    replace h242 := of_decide_eq_false h242
                    refine cw_skip ?_
                    refine hK237 _ _ ?_
                    refine cw_seq fun K247 hK248 => ?_
                    refine cw_seq fun K249 hK250 => ?_
                    refine cw_region fun K251 hK252 => ?_
                    refine rw_cons (op_pv (w0 rfl) rfl rfl (pv_move (v := (.int .i64 (1 + 2 * (((logV xs0).length) : Int)))) rfl rfl) ?_)
                    refine rw_cons (op_pv (w0 rfl) rfl rfl (pv_move (v := (.int .i64 (1 + 2 * (((logV xs0).length) : Int)))) rfl rfl) ?_)
                    refine rw_cons (op_pv (w0 rfl) rfl rfl (pv_nes rfl rfl rfl) ?_)
                    refine rw_nil (hK252 _ _ ?_)
                    refine hK250 _ _ ?_
                    refine cw_cond rfl (fun h253 => ?_) (fun h253 => ?_)
                    · -- then
                      cases h253
                    · -- else
                      clear h253
                      refine cw_skip ?_
                      refine hK248 _ _ ?_
                      refine cw_seq fun K254 hK255 => ?_
                      refine cw_region fun K256 hK257 => ?_
                      refine rw_cons (op_pv (w0 rfl) rfl rfl (pv_assign (v := (.bool true)) rfl rfl) ?_)
                      refine rw_nil (hK257 _ _ ?_)
                      refine hK255 _ _ ?_
                      refine cw_ret ?_
                      refine fin1 rfl ?_
                      first
                        | exact ⟨rfl, hc⟩
                        | (exfalso; omega)
                        | exact ⟨congrArg Value.bool (decide_eq_true (by omega)), hc⟩
                        | exact absurd rfl ‹_ ≠ _›
                        | (exfalso; simp_all; done)
end Go.Proofs.Ytdnncgapbjnfoaa
