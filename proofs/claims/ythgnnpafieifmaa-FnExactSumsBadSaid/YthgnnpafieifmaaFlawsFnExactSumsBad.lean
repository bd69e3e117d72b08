/-
  The walk of laws.FnExactSumsBad, written by program: each line names the law of one operation. Conditions: those of the theorem.
-/
import Derived.Test.YthgnnpafieifmaaProg
import Derived.Test.YthgnnpafieifmaaFlawstoIntS
import Derived.Test.YthgnnpafieifmaaFlawseqIntS
import Derived.Test.YthgnnpafieifmaaFlawsmarkIntS
import Derived.Test.YthgnnpafieifmaaFlawsheldIntS
import Derived.Test.YthgnnpafieifmaaFimplSumsBad
import Derived.Test.YthgnnpafieifmaaFspecSumsBad
import Derived.KernelRfl
namespace Go.Proofs.Ythgnnpafieifmaa
open Go Go.RowKit
set_option linter.unusedVariables false
set_option linter.unusedSimpArgs false
namespace FnExactSumsBad_okF
theorem C18 : Callable Try.prog 18 := ⟨_, Try.func18, by kernel_rfl, by kernel_rfl⟩
theorem C20 : Callable Try.prog 20 := ⟨_, Try.func20, by kernel_rfl, by kernel_rfl⟩
theorem C24 : Callable Try.prog 24 := ⟨_, Try.func24, by kernel_rfl, by kernel_rfl⟩
theorem C25 : Callable Try.prog 25 := ⟨_, Try.func25, by kernel_rfl, by kernel_rfl⟩
theorem C28 : Callable Try.prog 28 := ⟨_, Try.func28, by kernel_rfl, by kernel_rfl⟩
theorem C29 : Callable Try.prog 29 := ⟨_, Try.func29, by kernel_rfl, by kernel_rfl⟩
end FnExactSumsBad_okF
open FnExactSumsBad_okF in
set_option maxHeartbeats 4000000 in
theorem FnExactSumsBad_ok (A0 : Option Addr) (n0 c0 : Nat) (xs0 : List Int) (A1 : Option Addr) (n1 c1 : Nat) (xs1 : List Int) (w : World) (hR0 : RS encI 1 w w.heap.size A0 n0 xs0) (hn0 : n0 ≤ c0) (hR1 : RS encI 1 w w.heap.size A1 n1 xs1) (hn1 : n1 ≤ c1) :
    Fn Try.prog 7 [(.slice A0 n0 c0), (.slice A1 n1 c1)] w fun v w' => v = .bool true ∧ Ch [] w w' := by
  have hlen0 := hR0.len
  have hlen1 := hR1.len
  refine fn_of (n := 87) Try.func7 rfl rfl rfl rfl ?_
  have hc : Ch [] w w := Ch.refl _ _
  refine cw_seq fun K1 hK2 => ?_
  refine cw_region fun K3 hK4 => ?_
  refine rw_cons (op_pv (w0 rfl) rfl rfl (pv_assign (v := (.bool false)) rfl rfl) ?_)
  refine rw_nil (hK4 _ _ ?_)
  refine hK2 _ _ ?_
  refine cw_seq fun K5 hK6 => ?_
  refine cw_seq fun K7 hK8 => ?_
  refine cw_region fun K9 hK10 => ?_
  refine rw_cons (op_pv (w0 rfl) rfl rfl (pv_move (v := (.slice A0 n0 c0)) rfl rfl) ?_)
  refine rw_cons (op_pv (w0 rfl) rfl rfl (pv_len Try.underlying22 rfl rfl) ?_)
  refine rw_cons (op_pv (w0 rfl) rfl rfl (pv_gtr rfl rfl rfl) ?_)
  refine rw_nil (hK10 _ _ ?_)
  refine hK8 _ _ ?_
  refine cw_cond rfl (fun h11 => ?_) (fun h11 => ?_)
  · -- then
    replace h11 := of_decide_eq_true h11
    refine cw_seq fun K12 hK13 => ?_
    refine cw_region fun K14 hK15 => ?_
    refine rw_cons (op_pv (w0 rfl) rfl rfl (pv_assign (v := (.bool true)) rfl rfl) ?_)
    refine rw_nil (hK15 _ _ ?_)
    refine hK13 _ _ ?_
    refine cw_ret ?_
    refine fin1 rfl ?_
    first
      | exact ⟨rfl, hc⟩
      | (exfalso; omega)
      | exact ⟨congrArg Value.bool (decide_eq_true (by omega)), hc⟩
      | exact absurd rfl ‹_ ≠ _›
      | (exfalso; simp_all; done)
  · -- else
    replace h11 := of_decide_eq_false h11
    refine cw_skip ?_
    refine hK6 _ _ ?_
    refine cw_seq fun K16 hK17 => ?_
    refine cw_seq fun K18 hK19 => ?_
    refine cw_region fun K20 hK21 => ?_
    refine rw_cons (op_pv (w0 rfl) rfl rfl (pv_move (v := (.slice A1 n1 c1)) rfl rfl) ?_)
    refine rw_cons (op_pv (w0 rfl) rfl rfl (pv_len Try.underlying22 rfl rfl) ?_)
    refine rw_cons (op_pv (w0 rfl) rfl rfl (pv_gtr rfl rfl rfl) ?_)
    refine rw_nil (hK21 _ _ ?_)
    refine hK19 _ _ ?_
    refine cw_cond rfl (fun h22 => ?_) (fun h22 => ?_)
    · -- then
      replace h22 := of_decide_eq_true h22
      refine cw_seq fun K23 hK24 => ?_
      refine cw_region fun K25 hK26 => ?_
      refine rw_cons (op_pv (w0 rfl) rfl rfl (pv_assign (v := (.bool true)) rfl rfl) ?_)
      refine rw_nil (hK26 _ _ ?_)
      refine hK24 _ _ ?_
      refine cw_ret ?_
      refine fin1 rfl ?_
      first
        | exact ⟨rfl, hc⟩
        | (exfalso; omega)
        | exact ⟨congrArg Value.bool (decide_eq_true (by omega)), hc⟩
        | exact absurd rfl ‹_ ≠ _›
        | (exfalso; simp_all; done)
    · -- else
      replace h22 := of_decide_eq_false h22
      refine cw_skip ?_
      refine hK17 _ _ ?_
      refine cw_seq fun K27 hK28 => ?_
      refine cw_region fun K29 hK30 => ?_
      refine rw_cons (op_pv (w0 rfl) rfl rfl (pv_move (v := (.slice A0 n0 c0)) rfl rfl) ?_)
      refine rw_cons (op_call (w0 rfl) rfl rfl (rc_call C18 rfl rfl) (toIntS_ok _ _ _ _ _ (hR0.more (by omega)) (by omega)) ?_)
      rintro _ w31 ⟨v32, rfl, hO33, hch34⟩
      have hsz35 := hch34.size
      replace hR0 := hR0.ch0 hch34
      replace hR1 := hR1.ch0 hch34
      replace hc := hc.step0 hch34
      obtain ⟨A36, c37, hv38, hle39, hmx40⟩ := hO33.form; subst hv38
      have hub41 := hO33.lt
      refine rw_cons (op_pv (w0 rfl) rfl rfl (pv_move (v := (.slice A1 n1 c1)) rfl rfl) ?_)
      refine rw_cons (op_call (w0 rfl) rfl rfl (rc_call C18 rfl rfl) (toIntS_ok _ _ _ _ _ (hR1.more (by omega)) (by omega)) ?_)
      rintro _ w42 ⟨v43, rfl, hO44, hch45⟩
      have hsz46 := hch45.size
      replace hR0 := hR0.ch0 hch45
      replace hR1 := hR1.ch0 hch45
      replace hO33 := hO33.ch0 hch45
      replace hc := hc.step0 hch45
      obtain ⟨A47, c48, hv49, hle50, hmx51⟩ := hO44.form; subst hv49
      have hub52 := hO44.lt
      refine rw_cons (op_call (w0 rfl) rfl rfl (rc_call C28 rfl rfl) (SumsBad_s _ xs0.length _ xs0 _ xs1.length _ xs1 _ (hO33.rs (fun _ => rfl)) (by omega) (by omega) (hO44.rs (fun _ => rfl)) (by omega)) ?_)
      rintro _ w53 ⟨A55, c56, rfl, hO57, hch54⟩
      have hsz58 := hch54.size
      replace hR0 := hR0.ch0 hch54
      replace hR1 := hR1.ch0 hch54
      replace hO33 := hO33.ch0 hch54
      replace hO44 := hO44.ch0 hch54
      replace hc := hc.step0 hch54
      have hub59 := hO57.lt
      have hcap60 : (badV xs0 xs1).length ≤ c56 := by obtain ⟨_, _, hv, h1, _⟩ := hO57.form; injection hv with _ _ h3; omega
      have hnt61 := badV_le xs0 xs1
      refine rw_cons (op_pv (w0 rfl) rfl rfl (pv_assign (v := (.slice A55 (badV xs0 xs1).length c56)) rfl rfl) ?_)
      refine rw_nil (hK30 _ _ ?_)
      refine hK28 _ _ ?_
      refine cw_seq fun K62 hK63 => ?_
      refine cw_region fun K64 hK65 => ?_
      refine rw_cons (op_pv (w0 rfl) rfl rfl (pv_move (v := (.slice A0 n0 c0)) rfl rfl) ?_)
      refine rw_cons (op_call (w0 rfl) rfl rfl (rc_call C18 rfl rfl) (toIntS_ok _ _ _ _ _ (hR0.more (by omega)) (by omega)) ?_)
      rintro _ w66 ⟨v67, rfl, hO68, hch69⟩
      have hsz70 := hch69.size
      replace hR0 := hR0.ch0 hch69
      replace hR1 := hR1.ch0 hch69
      replace hO33 := hO33.ch0 hch69
      replace hO44 := hO44.ch0 hch69
      replace hO57 := hO57.ch0 hch69
      replace hc := hc.step0 hch69
      obtain ⟨A71, c72, hv73, hle74, hmx75⟩ := hO68.form; subst hv73
      have hub76 := hO68.lt
      refine rw_cons (op_pv (w0 rfl) rfl rfl (pv_assign (v := (.slice A71 xs0.length c72)) rfl rfl) ?_)
      refine rw_nil (hK65 _ _ ?_)
      refine hK63 _ _ ?_
      refine cw_seq fun K77 hK78 => ?_
      refine cw_region fun K79 hK80 => ?_
      refine rw_cons (op_pv (w0 rfl) rfl rfl (pv_move (v := (.slice A1 n1 c1)) rfl rfl) ?_)
      refine rw_cons (op_call (w0 rfl) rfl rfl (rc_call C18 rfl rfl) (toIntS_ok _ _ _ _ _ (hR1.more (by omega)) (by omega)) ?_)
      rintro _ w81 ⟨v82, rfl, hO83, hch84⟩
      have hsz85 := hch84.size
      replace hR0 := hR0.ch0 hch84
      replace hR1 := hR1.ch0 hch84
      replace hO33 := hO33.ch0 hch84
      replace hO44 := hO44.ch0 hch84
      replace hO57 := hO57.ch0 hch84
      replace hO68 := hO68.ch0 hch84
      replace hc := hc.step0 hch84
      obtain ⟨A86, c87, hv88, hle89, hmx90⟩ := hO83.form; subst hv88
      have hub91 := hO83.lt
      refine rw_cons (op_pv (w0 rfl) rfl rfl (pv_assign (v := (.slice A86 xs1.length c87)) rfl rfl) ?_)
      refine rw_nil (hK80 _ _ ?_)
      refine hK78 _ _ ?_
      refine cw_seq fun K92 hK93 => ?_
      refine cw_region fun K94 hK95 => ?_
      refine rw_cons (op_pv (w0 rfl) rfl rfl (pv_move (v := (.slice A71 xs0.length c72)) rfl rfl) ?_)
      refine rw_cons (op_pv (w0 rfl) rfl rfl (pv_move (v := (.slice A86 xs1.length c87)) rfl rfl) ?_)
      refine rw_cons (op_call (w0 rfl) rfl rfl (rc_call C29 rfl rfl) (SumsBad_i _ xs0.length _ xs0 _ xs1.length _ xs1 _ (hO68.rs (fun _ => rfl)) (by omega) (by omega) (hO83.rs (fun _ => rfl)) (by omega)) ?_)
      rintro _ w96 ⟨A98, c99, rfl, hO100, hch97⟩
      have hsz101 := hch97.size
      replace hR0 := hR0.ch0 hch97
      replace hR1 := hR1.ch0 hch97
      replace hO33 := hO33.ch0 hch97
      replace hO44 := hO44.ch0 hch97
      replace hO57 := hO57.ch0 hch97
      replace hO68 := hO68.ch0 hch97
      replace hO83 := hO83.ch0 hch97
      replace hc := hc.step0 hch97
      have hub102 := hO100.lt
      have hcap103 : (badV xs0 xs1).length ≤ c99 := by obtain ⟨_, _, hv, h1, _⟩ := hO100.form; injection hv with _ _ h3; omega
      have hnt104 := badV_le xs0 xs1
      refine rw_cons (op_pv (w0 rfl) rfl rfl (pv_assign (v := (.slice A98 (badV xs0 xs1).length c99)) rfl rfl) ?_)
      refine rw_nil (hK95 _ _ ?_)
      refine hK93 _ _ ?_
      refine cw_seq fun K105 hK106 => ?_
      refine cw_seq fun K107 hK108 => ?_
      refine cw_region fun K109 hK110 => ?_
      refine rw_cons (op_pv (w0 rfl) rfl rfl (pv_move (v := (.slice A98 (badV xs0 xs1).length c99)) rfl rfl) ?_)
      refine rw_cons (op_pv (w0 rfl) rfl rfl (pv_move (v := (.slice A55 (badV xs0 xs1).length c56)) rfl rfl) ?_)
      refine rw_cons (op_call (w0 rfl) rfl rfl (rc_call C20 rfl rfl) (eqIntS_same _ _ _ _ _ _ (badV xs0 xs1) _ (hO100.rs (fun _ => rfl)) (hO57.rs (fun _ => rfl)) (by omega)) ?_)
      rintro _ w111 ⟨rfl, hch112⟩
      have hsz113 := hch112.size
      replace hR0 := hR0.ch0 hch112
      replace hR1 := hR1.ch0 hch112
      replace hO33 := hO33.ch0 hch112
      replace hO44 := hO44.ch0 hch112
      replace hO57 := hO57.ch0 hch112
      replace hO68 := hO68.ch0 hch112
      replace hO83 := hO83.ch0 hch112
      replace hO100 := hO100.ch0 hch112
      replace hc := hc.step0 hch112
      refine rw_cons (op_pv (w0 rfl) rfl rfl (pv_not rfl rfl) ?_)
      refine rw_nil (hK110 _ _ ?_)
      refine hK108 _ _ ?_
      refine cw_cond rfl (fun h114 => ?_) (fun h114 => ?_)
      · -- then
        cases h114
      · -- else
        clear h114
        refine cw_skip ?_
        refine hK106 _ _ ?_
        refine cw_seq fun K115 hK116 => ?_
        refine cw_seq fun K117 hK118 => ?_
        refine cw_region fun K119 hK120 => ?_
        refine rw_cons (op_pv (w0 rfl) rfl rfl (pv_move (v := (.slice A71 xs0.length c72)) rfl rfl) ?_)
        refine rw_cons (op_pv (w0 rfl) rfl rfl (pv_move (v := (.slice A0 n0 c0)) rfl rfl) ?_)
        refine rw_cons (op_call (w0 rfl) rfl rfl (rc_call C18 rfl rfl) (toIntS_ok _ _ _ _ _ (hR0.more (by omega)) (by omega)) ?_)
        rintro _ w121 ⟨v122, rfl, hO123, hch124⟩
        have hsz125 := hch124.size
        replace hR0 := hR0.ch0 hch124
        replace hR1 := hR1.ch0 hch124
        replace hO33 := hO33.ch0 hch124
        replace hO44 := hO44.ch0 hch124
        replace hO57 := hO57.ch0 hch124
        replace hO68 := hO68.ch0 hch124
        replace hO83 := hO83.ch0 hch124
        replace hO100 := hO100.ch0 hch124
        replace hc := hc.step0 hch124
        obtain ⟨A126, c127, hv128, hle129, hmx130⟩ := hO123.form; subst hv128
        have hub131 := hO123.lt
        refine rw_cons (op_call (w0 rfl) rfl rfl (rc_call C20 rfl rfl) (eqIntS_same _ _ _ _ _ _ xs0 _ (hO68.rs (fun _ => rfl)) (hO123.rs (fun _ => rfl)) (by omega)) ?_)
        rintro _ w132 ⟨rfl, hch133⟩
        have hsz134 := hch133.size
        replace hR0 := hR0.ch0 hch133
        replace hR1 := hR1.ch0 hch133
        replace hO33 := hO33.ch0 hch133
        replace hO44 := hO44.ch0 hch133
        replace hO57 := hO57.ch0 hch133
        replace hO68 := hO68.ch0 hch133
        replace hO83 := hO83.ch0 hch133
        replace hO100 := hO100.ch0 hch133
        replace hO123 := hO123.ch0 hch133
        replace hc := hc.step0 hch133
        refine rw_cons (op_pv (w0 rfl) rfl rfl (pv_not rfl rfl) ?_)
        refine rw_nil (hK120 _ _ ?_)
        refine hK118 _ _ ?_
        refine cw_cond rfl (fun h135 => ?_) (fun h135 => ?_)
        · -- then
          cases h135
        · -- else
          clear h135
          refine cw_skip ?_
          refine hK116 _ _ ?_
          refine cw_seq fun K136 hK137 => ?_
          refine cw_seq fun K138 hK139 => ?_
          refine cw_region fun K140 hK141 => ?_
          refine rw_cons (op_pv (w0 rfl) rfl rfl (pv_move (v := (.slice A86 xs1.length c87)) rfl rfl) ?_)
          refine rw_cons (op_pv (w0 rfl) rfl rfl (pv_move (v := (.slice A1 n1 c1)) rfl rfl) ?_)
          refine rw_cons (op_call (w0 rfl) rfl rfl (rc_call C18 rfl rfl) (toIntS_ok _ _ _ _ _ (hR1.more (by omega)) (by omega)) ?_)
          rintro _ w142 ⟨v143, rfl, hO144, hch145⟩
          have hsz146 := hch145.size
          replace hR0 := hR0.ch0 hch145
          replace hR1 := hR1.ch0 hch145
          replace hO33 := hO33.ch0 hch145
          replace hO44 := hO44.ch0 hch145
          replace hO57 := hO57.ch0 hch145
          replace hO68 := hO68.ch0 hch145
          replace hO83 := hO83.ch0 hch145
          replace hO100 := hO100.ch0 hch145
          replace hO123 := hO123.ch0 hch145
          replace hc := hc.step0 hch145
          obtain ⟨A147, c148, hv149, hle150, hmx151⟩ := hO144.form; subst hv149
          have hub152 := hO144.lt
          refine rw_cons (op_call (w0 rfl) rfl rfl (rc_call C20 rfl rfl) (eqIntS_same _ _ _ _ _ _ xs1 _ (hO83.rs (fun _ => rfl)) (hO144.rs (fun _ => rfl)) (by omega)) ?_)
          rintro _ w153 ⟨rfl, hch154⟩
          have hsz155 := hch154.size
          replace hR0 := hR0.ch0 hch154
          replace hR1 := hR1.ch0 hch154
          replace hO33 := hO33.ch0 hch154
          replace hO44 := hO44.ch0 hch154
          replace hO57 := hO57.ch0 hch154
          replace hO68 := hO68.ch0 hch154
          replace hO83 := hO83.ch0 hch154
          replace hO100 := hO100.ch0 hch154
          replace hO123 := hO123.ch0 hch154
          replace hO144 := hO144.ch0 hch154
          replace hc := hc.step0 hch154
          refine rw_cons (op_pv (w0 rfl) rfl rfl (pv_not rfl rfl) ?_)
          refine rw_nil (hK141 _ _ ?_)
          refine hK139 _ _ ?_
          refine cw_cond rfl (fun h156 => ?_) (fun h156 => ?_)
          · -- then
            cases h156
          · -- else
            clear h156
            refine cw_skip ?_
            refine hK137 _ _ ?_
            refine cw_seq fun K157 hK158 => ?_
            refine cw_region fun K159 hK160 => ?_
            refine rw_cons (op_pv (w0 rfl) rfl rfl (pv_assign (v := (.int .i64 1)) rfl rfl) ?_)
            refine rw_nil (hK160 _ _ ?_)
            refine hK158 _ _ ?_
            refine cw_seq fun K161 hK162 => ?_
            refine cw_region fun K163 hK164 => ?_
            refine rw_cons (op_pv (w0 rfl) rfl rfl (pv_move (v := (.slice A71 xs0.length c72)) rfl rfl) ?_)
            refine rw_cons (op_pv (w0 rfl) rfl rfl (pv_move (v := (.int .i64 1)) rfl rfl) ?_)
            refine rw_cons (op_call (w0 rfl) rfl rfl (rc_call C24 rfl rfl) (markIntS_ok _ xs0.length _ _ _ 1 _ hO68 (by omega) (by omega) (by omega) (by omega)) ?_)
            rintro _ w165 ⟨ys166, hyl167, hye168, rfl, hO169, hch170⟩
            have hsz171 := hch170.size
            replace hR0 := hR0.ch hch170 (hO68.off.le (by omega))
            replace hR1 := hR1.ch hch170 (hO68.off.le (by omega))
            replace hO33 := hO33.ch hch170 (fun s hs hs2 => by first | (have h1 := hO33.off s hs; have h2 := hub76 s hs2; omega) | (have h1 := hub41 s hs; have h2 := hO68.off s hs2; omega) | (have h2 := hub76 s hs2; simp [obl, Value.ownBlock] at hs; omega) | (have h1 := hub41 s hs; simp [obl, Value.ownBlock] at hs2; omega))
            replace hO44 := hO44.ch hch170 (fun s hs hs2 => by first | (have h1 := hO44.off s hs; have h2 := hub76 s hs2; omega) | (have h1 := hub52 s hs; have h2 := hO68.off s hs2; omega) | (have h2 := hub76 s hs2; simp [obl, Value.ownBlock] at hs; omega) | (have h1 := hub52 s hs; simp [obl, Value.ownBlock] at hs2; omega))
            replace hO57 := hO57.ch hch170 (fun s hs hs2 => by first | (have h1 := hO57.off s hs; have h2 := hub76 s hs2; omega) | (have h1 := hub59 s hs; have h2 := hO68.off s hs2; omega) | (have h2 := hub76 s hs2; simp [obl, Value.ownBlock] at hs; omega) | (have h1 := hub59 s hs; simp [obl, Value.ownBlock] at hs2; omega))
            replace hO83 := hO83.ch hch170 (fun s hs hs2 => by first | (have h1 := hO83.off s hs; have h2 := hub76 s hs2; omega) | (have h1 := hub91 s hs; have h2 := hO68.off s hs2; omega) | (have h2 := hub76 s hs2; simp [obl, Value.ownBlock] at hs; omega) | (have h1 := hub91 s hs; simp [obl, Value.ownBlock] at hs2; omega))
            replace hO100 := hO100.ch hch170 (fun s hs hs2 => by first | (have h1 := hO100.off s hs; have h2 := hub76 s hs2; omega) | (have h1 := hub102 s hs; have h2 := hO68.off s hs2; omega) | (have h2 := hub76 s hs2; simp [obl, Value.ownBlock] at hs; omega) | (have h1 := hub102 s hs; simp [obl, Value.ownBlock] at hs2; omega))
            replace hO123 := hO123.ch hch170 (fun s hs hs2 => by first | (have h1 := hO123.off s hs; have h2 := hub76 s hs2; omega) | (have h1 := hub131 s hs; have h2 := hO68.off s hs2; omega) | (have h2 := hub76 s hs2; simp [obl, Value.ownBlock] at hs; omega) | (have h1 := hub131 s hs; simp [obl, Value.ownBlock] at hs2; omega))
            replace hO144 := hO144.ch hch170 (fun s hs hs2 => by first | (have h1 := hO144.off s hs; have h2 := hub76 s hs2; omega) | (have h1 := hub152 s hs; have h2 := hO68.off s hs2; omega) | (have h2 := hub76 s hs2; simp [obl, Value.ownBlock] at hs; omega) | (have h1 := hub152 s hs; simp [obl, Value.ownBlock] at hs2; omega))
            replace hc := (hO68.off.le (by omega)).step hc hch170
            clear hO68; have hO68 := hO169; clear hO169
            have hyl172 := hyl167
            refine rw_cons (op_pv (w0 rfl) rfl rfl (pv_assign (v := (.int .i64 (1 + ((xs0.length) : Int)))) rfl rfl) ?_)
            refine rw_nil (hK164 _ _ ?_)
            refine hK162 _ _ ?_
            refine cw_seq fun K173 hK174 => ?_
            refine cw_region fun K175 hK176 => ?_
            refine rw_cons (op_pv (w0 rfl) rfl rfl (pv_move (v := (.slice A86 xs1.length c87)) rfl rfl) ?_)
            refine rw_cons (op_pv (w0 rfl) rfl rfl (pv_move (v := (.int .i64 (1 + ((xs0.length) : Int)))) rfl rfl) ?_)
            refine rw_cons (op_call (w0 rfl) rfl rfl (rc_call C24 rfl rfl) (markIntS_ok _ xs1.length _ _ _ (1 + ((xs0.length) : Int)) _ hO83 (by omega) (by omega) (by omega) (by omega)) ?_)
            rintro _ w177 ⟨ys178, hyl179, hye180, rfl, hO181, hch182⟩
            have hsz183 := hch182.size
            replace hR0 := hR0.ch hch182 (hO83.off.le (by omega))
            replace hR1 := hR1.ch hch182 (hO83.off.le (by omega))
            replace hO33 := hO33.ch hch182 (fun s hs hs2 => by first | (have h1 := hO33.off s hs; have h2 := hub91 s hs2; omega) | (have h1 := hub41 s hs; have h2 := hO83.off s hs2; omega) | (have h2 := hub91 s hs2; simp [obl, Value.ownBlock] at hs; omega) | (have h1 := hub41 s hs; simp [obl, Value.ownBlock] at hs2; omega))
            replace hO44 := hO44.ch hch182 (fun s hs hs2 => by first | (have h1 := hO44.off s hs; have h2 := hub91 s hs2; omega) | (have h1 := hub52 s hs; have h2 := hO83.off s hs2; omega) | (have h2 := hub91 s hs2; simp [obl, Value.ownBlock] at hs; omega) | (have h1 := hub52 s hs; simp [obl, Value.ownBlock] at hs2; omega))
            replace hO57 := hO57.ch hch182 (fun s hs hs2 => by first | (have h1 := hO57.off s hs; have h2 := hub91 s hs2; omega) | (have h1 := hub59 s hs; have h2 := hO83.off s hs2; omega) | (have h2 := hub91 s hs2; simp [obl, Value.ownBlock] at hs; omega) | (have h1 := hub59 s hs; simp [obl, Value.ownBlock] at hs2; omega))
            replace hO68 := hO68.ch hch182 (fun s hs hs2 => by first | (have h1 := hO68.off s hs; have h2 := hub91 s hs2; omega) | (have h1 := hub76 s hs; have h2 := hO83.off s hs2; omega) | (have h2 := hub91 s hs2; simp [obl, Value.ownBlock] at hs; omega) | (have h1 := hub76 s hs; simp [obl, Value.ownBlock] at hs2; omega))
            replace hO100 := hO100.ch hch182 (fun s hs hs2 => by first | (have h1 := hO100.off s hs; have h2 := hub91 s hs2; omega) | (have h1 := hub102 s hs; have h2 := hO83.off s hs2; omega) | (have h2 := hub91 s hs2; simp [obl, Value.ownBlock] at hs; omega) | (have h1 := hub102 s hs; simp [obl, Value.ownBlock] at hs2; omega))
            replace hO123 := hO123.ch hch182 (fun s hs hs2 => by first | (have h1 := hO123.off s hs; have h2 := hub91 s hs2; omega) | (have h1 := hub131 s hs; have h2 := hO83.off s hs2; omega) | (have h2 := hub91 s hs2; simp [obl, Value.ownBlock] at hs; omega) | (have h1 := hub131 s hs; simp [obl, Value.ownBlock] at hs2; omega))
            replace hO144 := hO144.ch hch182 (fun s hs hs2 => by first | (have h1 := hO144.off s hs; have h2 := hub91 s hs2; omega) | (have h1 := hub152 s hs; have h2 := hO83.off s hs2; omega) | (have h2 := hub91 s hs2; simp [obl, Value.ownBlock] at hs; omega) | (have h1 := hub152 s hs; simp [obl, Value.ownBlock] at hs2; omega))
            replace hc := (hO83.off.le (by omega)).step hc hch182
            clear hO83; have hO83 := hO181; clear hO181
            have hyl184 := hyl179
            refine rw_cons (op_pv (w0 rfl) rfl rfl (pv_assign (v := (.int .i64 ((1 + ((xs0.length) : Int)) + ((xs1.length) : Int)))) rfl rfl) ?_)
            refine rw_nil (hK176 _ _ ?_)
            refine hK174 _ _ ?_
            refine cw_seq fun K185 hK186 => ?_
            refine cw_seq fun K187 hK188 => ?_
            refine cw_region fun K189 hK190 => ?_
            refine rw_cons (op_pv (w0 rfl) rfl rfl (pv_move (v := (.int .i64 ((1 + ((xs0.length) : Int)) + ((xs1.length) : Int)))) rfl rfl) ?_)
            refine rw_cons (op_pv (w0 rfl) rfl rfl (pv_lss rfl rfl rfl) ?_)
            refine rw_cons (op_pv (w0 rfl) rfl rfl (pv_move (v := (.bool (decide (((1 + ((xs0.length) : Int)) + ((xs1.length) : Int)) < 0)))) rfl rfl) ?_)
            refine rw_split 53 rfl (fun hb191 => ?_) (fun hb191 => ?_)
            · -- yes
              replace hb191 := of_decide_eq_true hb191
              refine rw_cons (op_pass (w1n2 rfl rfl rfl rfl) rfl rfl ?_)
              refine rw_cons (op_pass (w1n2 rfl rfl rfl rfl) rfl rfl ?_)
              refine rw_cons (op_pass (w1n2 rfl rfl rfl rfl) rfl rfl ?_)
              refine rw_cons (op_pass (w1n2 rfl rfl rfl rfl) rfl rfl ?_)
              refine rw_cons (op_pv (w0 rfl) rfl rfl (pv_pickT (v := (.bool true)) rfl rfl rfl) ?_)
              refine rw_nil (hK190 _ _ ?_)
              refine hK188 _ _ ?_
              refine cw_cond rfl (fun h192 => ?_) (fun h192 => ?_)
              · -- then
                clear h192
                refine cw_seq fun K193 hK194 => ?_
                refine cw_region fun K195 hK196 => ?_
                refine rw_cons (op_pv (w0 rfl) rfl rfl (pv_assign (v := (.bool false)) rfl rfl) ?_)
                refine rw_nil (hK196 _ _ ?_)
                refine hK194 _ _ ?_
                refine cw_ret ?_
                refine fin1 rfl ?_
                first
                  | exact ⟨rfl, hc⟩
                  | (exfalso; omega)
                  | exact ⟨congrArg Value.bool (decide_eq_true (by omega)), hc⟩
                  | exact absurd rfl ‹_ ≠ _›
                  | (exfalso; simp_all; done)
              · -- else
                cases h192
            · -- no
              replace hb191 := of_decide_eq_false hb191
              refine rw_cons (op_pv (w1y rfl rfl rfl rfl) rfl rfl (pv_move (v := (.slice A98 (badV xs0 xs1).length c99)) rfl rfl) ?_)
              refine rw_cons (op_pv (w1y rfl rfl rfl rfl) rfl rfl (pv_move (v := (.slice A55 (badV xs0 xs1).length c56)) rfl rfl) ?_)
              refine rw_cons (op_call (w1y rfl rfl rfl rfl) rfl rfl (rc_call C20 rfl rfl) (eqIntS_same _ _ _ _ _ _ (badV xs0 xs1) _ (hO100.rs (fun _ => rfl)) (hO57.rs (fun _ => rfl)) (by omega)) ?_)
              rintro _ w197 ⟨rfl, hch198⟩
              have hsz199 := hch198.size
              replace hR0 := hR0.ch0 hch198
              replace hR1 := hR1.ch0 hch198
              replace hO33 := hO33.ch0 hch198
              replace hO44 := hO44.ch0 hch198
              replace hO57 := hO57.ch0 hch198
              replace hO68 := hO68.ch0 hch198
              replace hO83 := hO83.ch0 hch198
              replace hO100 := hO100.ch0 hch198
              replace hO123 := hO123.ch0 hch198
              replace hO144 := hO144.ch0 hch198
              replace hc := hc.step0 hch198
              refine rw_cons (op_pv (w1y rfl rfl rfl rfl) rfl rfl (pv_not rfl rfl) ?_)
              refine rw_cons (op_pv (w0 rfl) rfl rfl (pv_pickF (v := (.bool (!true))) rfl rfl rfl) ?_)
              refine rw_nil (hK190 _ _ ?_)
              refine hK188 _ _ ?_
              refine cw_cond rfl (fun h200 => ?_) (fun h200 => ?_)
              · -- then
                cases h200
              · -- else
                clear h200
                refine cw_skip ?_
                refine hK186 _ _ ?_
                refine cw_seq fun K201 hK202 => ?_
                refine cw_region fun K203 hK204 => ?_
                refine rw_cons (op_pv (w0 rfl) rfl rfl (pv_assign (v := (.int .i64 1)) rfl rfl) ?_)
                refine rw_nil (hK204 _ _ ?_)
                refine hK202 _ _ ?_
                refine cw_seq fun K205 hK206 => ?_
                refine cw_region fun K207 hK208 => ?_
                refine rw_cons (op_pv (w0 rfl) rfl rfl (pv_move (v := (.slice A98 (badV xs0 xs1).length c99)) rfl rfl) ?_)
                refine rw_cons (op_pv (w0 rfl) rfl rfl (pv_move (v := (.int .i64 1)) rfl rfl) ?_)
                refine rw_cons (op_call (w0 rfl) rfl rfl (rc_call C24 rfl rfl) (markIntS_ok _ (badV xs0 xs1).length _ _ _ 1 _ hO100 (by omega) (by omega) (by omega) (by omega)) ?_)
                rintro _ w209 ⟨ys210, hyl211, hye212, rfl, hO213, hch214⟩
                have hsz215 := hch214.size
                replace hR0 := hR0.ch hch214 (hO100.off.le (by omega))
                replace hR1 := hR1.ch hch214 (hO100.off.le (by omega))
                replace hO33 := hO33.ch hch214 (fun s hs hs2 => by first | (have h1 := hO33.off s hs; have h2 := hub102 s hs2; omega) | (have h1 := hub41 s hs; have h2 := hO100.off s hs2; omega) | (have h2 := hub102 s hs2; simp [obl, Value.ownBlock] at hs; omega) | (have h1 := hub41 s hs; simp [obl, Value.ownBlock] at hs2; omega))
                replace hO44 := hO44.ch hch214 (fun s hs hs2 => by first | (have h1 := hO44.off s hs; have h2 := hub102 s hs2; omega) | (have h1 := hub52 s hs; have h2 := hO100.off s hs2; omega) | (have h2 := hub102 s hs2; simp [obl, Value.ownBlock] at hs; omega) | (have h1 := hub52 s hs; simp [obl, Value.ownBlock] at hs2; omega))
                replace hO57 := hO57.ch hch214 (fun s hs hs2 => by first | (have h1 := hO57.off s hs; have h2 := hub102 s hs2; omega) | (have h1 := hub59 s hs; have h2 := hO100.off s hs2; omega) | (have h2 := hub102 s hs2; simp [obl, Value.ownBlock] at hs; omega) | (have h1 := hub59 s hs; simp [obl, Value.ownBlock] at hs2; omega))
                replace hO68 := hO68.ch hch214 (fun s hs hs2 => by first | (have h1 := hO68.off s hs; have h2 := hub102 s hs2; omega) | (have h1 := hub76 s hs; have h2 := hO100.off s hs2; omega) | (have h2 := hub102 s hs2; simp [obl, Value.ownBlock] at hs; omega) | (have h1 := hub76 s hs; simp [obl, Value.ownBlock] at hs2; omega))
                replace hO83 := hO83.ch hch214 (fun s hs hs2 => by first | (have h1 := hO83.off s hs; have h2 := hub102 s hs2; omega) | (have h1 := hub91 s hs; have h2 := hO100.off s hs2; omega) | (have h2 := hub102 s hs2; simp [obl, Value.ownBlock] at hs; omega) | (have h1 := hub91 s hs; simp [obl, Value.ownBlock] at hs2; omega))
                replace hO123 := hO123.ch hch214 (fun s hs hs2 => by first | (have h1 := hO123.off s hs; have h2 := hub102 s hs2; omega) | (have h1 := hub131 s hs; have h2 := hO100.off s hs2; omega) | (have h2 := hub102 s hs2; simp [obl, Value.ownBlock] at hs; omega) | (have h1 := hub131 s hs; simp [obl, Value.ownBlock] at hs2; omega))
                replace hO144 := hO144.ch hch214 (fun s hs hs2 => by first | (have h1 := hO144.off s hs; have h2 := hub102 s hs2; omega) | (have h1 := hub152 s hs; have h2 := hO100.off s hs2; omega) | (have h2 := hub102 s hs2; simp [obl, Value.ownBlock] at hs; omega) | (have h1 := hub152 s hs; simp [obl, Value.ownBlock] at hs2; omega))
                replace hc := (hO100.off.le (by omega)).step hc hch214
                clear hO100; have hO100 := hO213; clear hO213
                have hyl216 := hyl211
                refine rw_cons (op_pv (w0 rfl) rfl rfl (pv_assign (v := (.int .i64 (1 + (((badV xs0 xs1).length) : Int)))) rfl rfl) ?_)
                refine rw_nil (hK208 _ _ ?_)
                refine hK206 _ _ ?_
                refine cw_seq fun K217 hK218 => ?_
                refine cw_region fun K219 hK220 => ?_
                refine rw_cons (op_pv (w0 rfl) rfl rfl (pv_assign (v := (.int .i64 1)) rfl rfl) ?_)
                refine rw_nil (hK220 _ _ ?_)
                refine hK218 _ _ ?_
                refine cw_seq fun K221 hK222 => ?_
                refine cw_region fun K223 hK224 => ?_
                refine rw_cons (op_pv (w0 rfl) rfl rfl (pv_move (v := (.slice A98 (badV xs0 xs1).length c99)) rfl rfl) ?_)
                refine rw_cons (op_pv (w0 rfl) rfl rfl (pv_move (v := (.int .i64 1)) rfl rfl) ?_)
                refine rw_cons (op_call (w0 rfl) rfl rfl (rc_call C25 rfl rfl) (heldIntS_ok _ (badV xs0 xs1).length _ ys210 1 _ (hO100.rs (fun _ => rfl)) (by omega) (by omega) (by omega) hye212) ?_)
                rintro _ w225 ⟨rfl, hch226⟩
                have hsz227 := hch226.size
                replace hR0 := hR0.ch0 hch226
                replace hR1 := hR1.ch0 hch226
                replace hO33 := hO33.ch0 hch226
                replace hO44 := hO44.ch0 hch226
                replace hO57 := hO57.ch0 hch226
                replace hO68 := hO68.ch0 hch226
                replace hO83 := hO83.ch0 hch226
                replace hO100 := hO100.ch0 hch226
                replace hO123 := hO123.ch0 hch226
                replace hO144 := hO144.ch0 hch226
                replace hc := hc.step0 hch226
                refine rw_cons (op_pv (w0 rfl) rfl rfl (pv_assign (v := (.int .i64 (1 + (((badV xs0 xs1).length) : Int)))) rfl rfl) ?_)
                refine rw_nil (hK224 _ _ ?_)
                refine hK222 _ _ ?_
                refine cw_seq fun K228 hK229 => ?_
                refine cw_seq fun K230 hK231 => ?_
                refine cw_region fun K232 hK233 => ?_
                refine rw_cons (op_pv (w0 rfl) rfl rfl (pv_move (v := (.int .i64 (1 + (((badV xs0 xs1).length) : Int)))) rfl rfl) ?_)
                refine rw_cons (op_pv (w0 rfl) rfl rfl (pv_lss rfl rfl rfl) ?_)
                refine rw_nil (hK233 _ _ ?_)
                refine hK231 _ _ ?_
                refine cw_cond rfl (fun h234 => ?_) (fun h234 => ?_)
                · -- then
                  replace h234 := of_decide_eq_true h234
                  refine cw_seq fun K235 hK236 => ?_
                  refine cw_region fun K237 hK238 => ?_
                  refine rw_cons (op_pv (w0 rfl) rfl rfl (pv_assign (v := (.bool false)) rfl rfl) ?_)
                  refine rw_nil (hK238 _ _ ?_)
                  refine hK236 _ _ ?_
                  refine cw_ret ?_
                  refine fin1 rfl ?_
                  first
                    | exact ⟨rfl, hc⟩
                    | (exfalso; omega)
                    | exact ⟨congrArg Value.bool (decide_eq_true (by omega)), hc⟩
                    | exact absurd rfl ‹_ ≠ _›
                    | (exfalso; simp_all; done)
                · -- else
                  replace h234 := of_decide_eq_false h234
                  refine cw_skip ?_
                  refine hK229 _ _ ?_
                  refine cw_seq fun K239 hK240 => ?_
                  refine cw_seq fun K241 hK242 => ?_
                  refine cw_region fun K243 hK244 => ?_
                  refine rw_cons (op_pv (w0 rfl) rfl rfl (pv_move (v := (.int .i64 (1 + (((badV xs0 xs1).length) : Int)))) rfl rfl) ?_)
                  refine rw_cons (op_pv (w0 rfl) rfl rfl (pv_move (v := (.int .i64 (1 + (((badV xs0 xs1).length) : Int)))) rfl rfl) ?_)
                  refine rw_cons (op_pv (w0 rfl) rfl rfl (pv_nes rfl rfl rfl) ?_)
                  refine rw_nil (hK244 _ _ ?_)
                  refine hK242 _ _ ?_
                  refine cw_cond rfl (fun h245 => ?_) (fun h245 => ?_)
                  · -- then
                    cases h245
                  · -- else
                    clear h245
                    refine cw_skip ?_
                    refine hK240 _ _ ?_
                    refine cw_seq fun K246 hK247 => ?_
                    refine cw_region fun K248 hK249 => ?_
                    refine rw_cons (op_pv (w0 rfl) rfl rfl (pv_move (v := (.slice A0 n0 c0)) rfl rfl) ?_)
                    refine rw_cons (op_call (w0 rfl) rfl rfl (rc_call C18 rfl rfl) (toIntS_ok _ _ _ _ _ (hR0.more (by omega)) (by omega)) ?_)
                    rintro _ w250 ⟨v251, rfl, hO252, hch253⟩
                    have hsz254 := hch253.size
                    replace hR0 := hR0.ch0 hch253
                    replace hR1 := hR1.ch0 hch253
                    replace hO33 := hO33.ch0 hch253
                    replace hO44 := hO44.ch0 hch253
                    replace hO57 := hO57.ch0 hch253
                    replace hO68 := hO68.ch0 hch253
                    replace hO83 := hO83.ch0 hch253
                    replace hO100 := hO100.ch0 hch253
                    replace hO123 := hO123.ch0 hch253
                    replace hO144 := hO144.ch0 hch253
                    replace hc := hc.step0 hch253
                    obtain ⟨A255, c256, hv257, hle258, hmx259⟩ := hO252.form; subst hv257
                    have hub260 := hO252.lt
                    refine rw_cons (op_pv (w0 rfl) rfl rfl (pv_move (v := (.slice A1 n1 c1)) rfl rfl) ?_)
                    refine rw_cons (op_call (w0 rfl) rfl rfl (rc_call C18 rfl rfl) (toIntS_ok _ _ _ _ _ (hR1.more (by omega)) (by omega)) ?_)
                    rintro _ w261 ⟨v262, rfl, hO263, hch264⟩
                    have hsz265 := hch264.size
                    replace hR0 := hR0.ch0 hch264
                    replace hR1 := hR1.ch0 hch264
                    replace hO33 := hO33.ch0 hch264
                    replace hO44 := hO44.ch0 hch264
                    replace hO57 := hO57.ch0 hch264
                    replace hO68 := hO68.ch0 hch264
                    replace hO83 := hO83.ch0 hch264
                    replace hO100 := hO100.ch0 hch264
                    replace hO123 := hO123.ch0 hch264
                    replace hO144 := hO144.ch0 hch264
                    replace hO252 := hO252.ch0 hch264
                    replace hc := hc.step0 hch264
                    obtain ⟨A266, c267, hv268, hle269, hmx270⟩ := hO263.form; subst hv268
                    have hub271 := hO263.lt
                    refine rw_cons (op_call (w0 rfl) rfl rfl (rc_call C29 rfl rfl) (SumsBad_i _ xs0.length _ xs0 _ xs1.length _ xs1 _ (hO252.rs (fun _ => rfl)) (by omega) (by omega) (hO263.rs (fun _ => rfl)) (by omega)) ?_)
                    rintro _ w272 ⟨A274, c275, rfl, hO276, hch273⟩
                    have hsz277 := hch273.size
                    replace hR0 := hR0.ch0 hch273
                    replace hR1 := hR1.ch0 hch273
                    replace hO33 := hO33.ch0 hch273
                    replace hO44 := hO44.ch0 hch273
                    replace hO57 := hO57.ch0 hch273
                    replace hO68 := hO68.ch0 hch273
                    replace hO83 := hO83.ch0 hch273
                    replace hO100 := hO100.ch0 hch273
                    replace hO123 := hO123.ch0 hch273
                    replace hO144 := hO144.ch0 hch273
                    replace hO252 := hO252.ch0 hch273
                    replace hO263 := hO263.ch0 hch273
                    replace hc := hc.step0 hch273
                    have hub278 := hO276.lt
                    have hcap279 : (badV xs0 xs1).length ≤ c275 := by obtain ⟨_, _, hv, h1, _⟩ := hO276.form; injection hv with _ _ h3; omega
                    have hnt280 := badV_le xs0 xs1
                    refine rw_cons (op_pv (w0 rfl) rfl rfl (pv_assign (v := (.slice A274 (badV xs0 xs1).length c275)) rfl rfl) ?_)
                    refine rw_nil (hK249 _ _ ?_)
                    refine hK247 _ _ ?_
                    refine cw_seq fun K281 hK282 => ?_
                    refine cw_seq fun K283 hK284 => ?_
                    refine cw_region fun K285 hK286 => ?_
                    refine rw_cons (op_pv (w0 rfl) rfl rfl (pv_move (v := (.slice A274 (badV xs0 xs1).length c275)) rfl rfl) ?_)
                    refine rw_cons (op_pv (w0 rfl) rfl rfl (pv_move (v := (.slice A55 (badV xs0 xs1).length c56)) rfl rfl) ?_)
                    refine rw_cons (op_call (w0 rfl) rfl rfl (rc_call C20 rfl rfl) (eqIntS_same _ _ _ _ _ _ (badV xs0 xs1) _ (hO276.rs (fun _ => rfl)) (hO57.rs (fun _ => rfl)) (by omega)) ?_)
                    rintro _ w287 ⟨rfl, hch288⟩
                    have hsz289 := hch288.size
                    replace hR0 := hR0.ch0 hch288
                    replace hR1 := hR1.ch0 hch288
                    replace hO33 := hO33.ch0 hch288
                    replace hO44 := hO44.ch0 hch288
                    replace hO57 := hO57.ch0 hch288
                    replace hO68 := hO68.ch0 hch288
                    replace hO83 := hO83.ch0 hch288
                    replace hO100 := hO100.ch0 hch288
                    replace hO123 := hO123.ch0 hch288
                    replace hO144 := hO144.ch0 hch288
                    replace hO252 := hO252.ch0 hch288
                    replace hO263 := hO263.ch0 hch288
                    replace hO276 := hO276.ch0 hch288
                    replace hc := hc.step0 hch288
                    refine rw_cons (op_pv (w0 rfl) rfl rfl (pv_not rfl rfl) ?_)
                    refine rw_nil (hK286 _ _ ?_)
                    refine hK284 _ _ ?_
                    refine cw_cond rfl (fun h290 => ?_) (fun h290 => ?_)
                    · -- then
                      cases h290
                    · -- else
                      clear h290
                      refine cw_skip ?_
                      refine hK282 _ _ ?_
                      refine cw_seq fun K291 hK292 => ?_
                      refine cw_region fun K293 hK294 => ?_
                      refine rw_cons (op_pv (w0 rfl) rfl rfl (pv_assign (v := (.int .i64 1)) rfl rfl) ?_)
                      refine rw_nil (hK294 _ _ ?_)
                      refine hK292 _ _ ?_
                      refine cw_seq fun K295 hK296 => ?_
                      refine cw_region fun K297 hK298 => ?_
                      refine rw_cons (op_pv (w0 rfl) rfl rfl (pv_move (v := (.slice A98 (badV xs0 xs1).length c99)) rfl rfl) ?_)
                      refine rw_cons (op_pv (w0 rfl) rfl rfl (pv_move (v := (.int .i64 1)) rfl rfl) ?_)
                      refine rw_cons (op_call (w0 rfl) rfl rfl (rc_call C25 rfl rfl) (heldIntS_ok _ (badV xs0 xs1).length _ ys210 1 _ (hO100.rs (fun _ => rfl)) (by omega) (by omega) (by omega) hye212) ?_)
                      rintro _ w299 ⟨rfl, hch300⟩
                      have hsz301 := hch300.size
                      replace hR0 := hR0.ch0 hch300
                      replace hR1 := hR1.ch0 hch300
                      replace hO33 := hO33.ch0 hch300
                      replace hO44 := hO44.ch0 hch300
                      replace hO57 := hO57.ch0 hch300
                      replace hO68 := hO68.ch0 hch300
                      replace hO83 := hO83.ch0 hch300
                      replace hO100 := hO100.ch0 hch300
                      replace hO123 := hO123.ch0 hch300
                      replace hO144 := hO144.ch0 hch300
                      replace hO252 := hO252.ch0 hch300
                      replace hO263 := hO263.ch0 hch300
                      replace hO276 := hO276.ch0 hch300
                      replace hc := hc.step0 hch300
                      refine rw_cons (op_pv (w0 rfl) rfl rfl (pv_assign (v := (.int .i64 (1 + (((badV xs0 xs1).length) : Int)))) rfl rfl) ?_)
                      refine rw_nil (hK298 _ _ ?_)
                      refine hK296 _ _ ?_
                      refine cw_seq fun K302 hK303 => ?_
                      refine cw_seq fun K304 hK305 => ?_
                      refine cw_region fun K306 hK307 => ?_
                      refine rw_cons (op_pv (w0 rfl) rfl rfl (pv_move (v := (.int .i64 (1 + (((badV xs0 xs1).length) : Int)))) rfl rfl) ?_)
                      refine rw_cons (op_pv (w0 rfl) rfl rfl (pv_lss rfl rfl rfl) ?_)
                      refine rw_nil (hK307 _ _ ?_)
                      refine hK305 _ _ ?_
                      refine cw_cond rfl (fun h308 => ?_) (fun h308 => ?_)
                      · -- then
                        replace h308 := of_decide_eq_true h308
                        refine cw_seq fun K309 hK310 => ?_
                        refine cw_region fun K311 hK312 => ?_
                        refine rw_cons (op_pv (w0 rfl) rfl rfl (pv_assign (v := (.bool false)) rfl rfl) ?_)
                        refine rw_nil (hK312 _ _ ?_)
                        refine hK310 _ _ ?_
                        refine cw_ret ?_
                        refine fin1 rfl ?_
                        first
                          | exact ⟨rfl, hc⟩
                          | (exfalso; omega)
                          | exact ⟨congrArg Value.bool (decide_eq_true (by omega)), hc⟩
                          | exact absurd rfl ‹_ ≠ _›
                          | (exfalso; simp_all; done)
                      · -- else
                        replace h308 := of_decide_eq_false h308
                        refine cw_skip ?_
                        refine hK303 _ _ ?_
                        refine cw_seq fun K313 hK314 => ?_
                        refine cw_seq fun K315 hK316 => ?_
                        refine cw_region fun K317 hK318 => ?_
                        refine rw_cons (op_pv (w0 rfl) rfl rfl (pv_move (v := (.int .i64 (1 + (((badV xs0 xs1).length) : Int)))) rfl rfl) ?_)
                        refine rw_cons (op_pv (w0 rfl) rfl rfl (pv_move (v := (.int .i64 (1 + (((badV xs0 xs1).length) : Int)))) rfl rfl) ?_)
                        refine rw_cons (op_pv (w0 rfl) rfl rfl (pv_nes rfl rfl rfl) ?_)
                        refine rw_nil (hK318 _ _ ?_)
                        refine hK316 _ _ ?_
                        refine cw_cond rfl (fun h319 => ?_) (fun h319 => ?_)
                        · -- then
                          cases h319
                        · -- else
                          clear h319
                          refine cw_skip ?_
                          refine hK314 _ _ ?_
                          refine cw_seq fun K320 hK321 => ?_
                          refine cw_region fun K322 hK323 => ?_
                          refine rw_cons (op_pv (w0 rfl) rfl rfl (pv_assign (v := (.bool true)) rfl rfl) ?_)
                          refine rw_nil (hK323 _ _ ?_)
                          refine hK321 _ _ ?_
                          refine cw_ret ?_
                          refine fin1 rfl ?_
                          first
                            | exact ⟨rfl, hc⟩
                            | (exfalso; omega)
                            | exact ⟨congrArg Value.bool (decide_eq_true (by omega)), hc⟩
                            | exact absurd rfl ‹_ ≠ _›
                            | (exfalso; simp_all; done)
end Go.Proofs.Ythgnnpafieifmaa
