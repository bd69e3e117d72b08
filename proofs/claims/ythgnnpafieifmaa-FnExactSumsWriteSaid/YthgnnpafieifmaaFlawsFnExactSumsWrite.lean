/-
  The walk of laws.FnExactSumsWrite, written by program: each line names the law of one operation. Conditions: those of the theorem.
-/
import Derived.Test.YthgnnpafieifmaaProg
import Derived.Test.YthgnnpafieifmaaFlawstoIntS
import Derived.Test.YthgnnpafieifmaaFlawseqIntS
import Derived.Test.YthgnnpafieifmaaFlawsmarkIntS
import Derived.Test.YthgnnpafieifmaaFlawsheldIntS
import Derived.Test.YthgnnpafieifmaaFimplSumsWrite
import Derived.Test.YthgnnpafieifmaaFspecSumsWrite
import Derived.KernelRfl
namespace Go.Proofs.Ythgnnpafieifmaa
open Go Go.RowKit
set_option linter.unusedVariables false
set_option linter.unusedSimpArgs false
namespace FnExactSumsWrite_okF
theorem C18 : Callable Try.prog 18 := ⟨_, Try.func18, by kernel_rfl, by kernel_rfl⟩
theorem C20 : Callable Try.prog 20 := ⟨_, Try.func20, by kernel_rfl, by kernel_rfl⟩
theorem C24 : Callable Try.prog 24 := ⟨_, Try.func24, by kernel_rfl, by kernel_rfl⟩
theorem C25 : Callable Try.prog 25 := ⟨_, Try.func25, by kernel_rfl, by kernel_rfl⟩
theorem C30 : Callable Try.prog 30 := ⟨_, Try.func30, by kernel_rfl, by kernel_rfl⟩
theorem C31 : Callable Try.prog 31 := ⟨_, Try.func31, by kernel_rfl, by kernel_rfl⟩
end FnExactSumsWrite_okF
open FnExactSumsWrite_okF in
set_option maxHeartbeats 4000000 in
theorem FnExactSumsWrite_ok (A0 : Option Addr) (n0 c0 : Nat) (xs0 : List Int) (A1 : Option Addr) (n1 c1 : Nat) (xs1 : List Int) (a2 : Int) (A3 : Option Addr) (n3 c3 : Nat) (xs3 : List Int) (w : World) (hR0 : RS encI 1 w w.heap.size A0 n0 xs0) (hn0 : n0 ≤ c0) (hR1 : RS encI 1 w w.heap.size A1 n1 xs1) (hn1 : n1 ≤ c1) (ha2 : -9223372036854775808 ≤ a2) (hb2 : a2 ≤ 9223372036854775807) (hR3 : RS encI 1 w w.heap.size A3 n3 xs3) (hn3 : n3 ≤ c3) :
    Fn Try.prog 10 [(.slice A0 n0 c0), (.slice A1 n1 c1), (.int .i64 a2), (.slice A3 n3 c3)] w fun v w' => v = .bool true ∧ Ch [] w w' := by
  have hlen0 := hR0.len
  have hlen1 := hR1.len
  have hlen3 := hR3.len
  refine fn_of (n := 177) Try.func10 rfl rfl rfl rfl ?_
  have hc : Ch [] w w := Ch.refl _ _
  refine cw_seq fun K1 hK2 => ?_
  refine cw_region fun K3 hK4 => ?_
  refine rw_cons (op_pv (w0 rfl) rfl rfl (pv_assign (v := (.bool false)) rfl rfl) ?_)
  refine rw_nil (hK4 _ _ ?_)
  refine hK2 _ _ ?_
  refine cw_seq fun K5 hK6 => ?_
  refine cw_seq fun K7 hK8 => ?_
  refine cw_region fun K9 hK10 => ?_
  refine rw_cons (op_pv (w0 rfl) rfl rfl (pv_move (v := (.slice A0 n0 c0)) rfl rfl) ?_)
  refine rw_cons (op_pv (w0 rfl) rfl rfl (pv_len Try.underlying22 rfl rfl) ?_)
  refine rw_cons (op_pv (w0 rfl) rfl rfl (pv_gtr rfl rfl rfl) ?_)
  refine rw_nil (hK10 _ _ ?_)
  refine hK8 _ _ ?_
  refine cw_cond rfl (fun h11 => ?_) (fun h11 => ?_)
  · -- then
    replace h11 := of_decide_eq_true h11
    refine cw_seq fun K12 hK13 => ?_
    refine cw_region fun K14 hK15 => ?_
    refine rw_cons (op_pv (w0 rfl) rfl rfl (pv_assign (v := (.bool true)) rfl rfl) ?_)
    refine rw_nil (hK15 _ _ ?_)
    refine hK13 _ _ ?_
    refine cw_ret ?_
    refine fin1 rfl ?_
    first
      | exact ⟨rfl, hc⟩
      | (exfalso; omega)
      | exact ⟨congrArg Value.bool (decide_eq_true (by omega)), hc⟩
      | exact absurd rfl ‹_ ≠ _›
      | (exfalso; simp_all; done)
  · -- else
    replace h11 := of_decide_eq_false h11
    refine cw_skip ?_
    refine hK6 _ _ ?_
    refine cw_seq fun K16 hK17 => ?_
    refine cw_seq fun K18 hK19 => ?_
    refine cw_region fun K20 hK21 => ?_
    refine rw_cons (op_pv (w0 rfl) rfl rfl (pv_move (v := (.slice A1 n1 c1)) rfl rfl) ?_)
    refine rw_cons (op_pv (w0 rfl) rfl rfl (pv_len Try.underlying22 rfl rfl) ?_)
    refine rw_cons (op_pv (w0 rfl) rfl rfl (pv_gtr rfl rfl rfl) ?_)
    refine rw_nil (hK21 _ _ ?_)
    refine hK19 _ _ ?_
    refine cw_cond rfl (fun h22 => ?_) (fun h22 => ?_)
    · -- then
      replace h22 := of_decide_eq_true h22
      refine cw_seq fun K23 hK24 => ?_
      refine cw_region fun K25 hK26 => ?_
      refine rw_cons (op_pv (w0 rfl) rfl rfl (pv_assign (v := (.bool true)) rfl rfl) ?_)
      refine rw_nil (hK26 _ _ ?_)
      refine hK24 _ _ ?_
      refine cw_ret ?_
      refine fin1 rfl ?_
      first
        | exact ⟨rfl, hc⟩
        | (exfalso; omega)
        | exact ⟨congrArg Value.bool (decide_eq_true (by omega)), hc⟩
        | exact absurd rfl ‹_ ≠ _›
        | (exfalso; simp_all; done)
    · -- else
      replace h22 := of_decide_eq_false h22
      refine cw_skip ?_
      refine hK17 _ _ ?_
      refine cw_seq fun K27 hK28 => ?_
      refine cw_seq fun K29 hK30 => ?_
      refine cw_region fun K31 hK32 => ?_
      refine rw_cons (op_pv (w0 rfl) rfl rfl (pv_move (v := (.slice A3 n3 c3)) rfl rfl) ?_)
      refine rw_cons (op_pv (w0 rfl) rfl rfl (pv_len Try.underlying22 rfl rfl) ?_)
      refine rw_cons (op_pv (w0 rfl) rfl rfl (pv_gtr rfl rfl rfl) ?_)
      refine rw_nil (hK32 _ _ ?_)
      refine hK30 _ _ ?_
      refine cw_cond rfl (fun h33 => ?_) (fun h33 => ?_)
      · -- then
        replace h33 := of_decide_eq_true h33
        refine cw_seq fun K34 hK35 => ?_
        refine cw_region fun K36 hK37 => ?_
        refine rw_cons (op_pv (w0 rfl) rfl rfl (pv_assign (v := (.bool true)) rfl rfl) ?_)
        refine rw_nil (hK37 _ _ ?_)
        refine hK35 _ _ ?_
        refine cw_ret ?_
        refine fin1 rfl ?_
        first
          | exact ⟨rfl, hc⟩
          | (exfalso; omega)
          | exact ⟨congrArg Value.bool (decide_eq_true (by omega)), hc⟩
          | exact absurd rfl ‹_ ≠ _›
          | (exfalso; simp_all; done)
      · -- else
        replace h33 := of_decide_eq_false h33
        refine cw_skip ?_
        refine hK28 _ _ ?_
        refine cw_seq fun K38 hK39 => ?_
        refine cw_region fun K40 hK41 => ?_
        refine rw_cons (op_pv (w0 rfl) rfl rfl (pv_move (v := (.slice A0 n0 c0)) rfl rfl) ?_)
        refine rw_cons (op_call (w0 rfl) rfl rfl (rc_call C18 rfl rfl) (toIntS_ok _ _ _ _ _ (hR0.more (by omega)) (by omega)) ?_)
        rintro _ w42 ⟨v43, rfl, hO44, hch45⟩
        have hsz46 := hch45.size
        replace hR0 := hR0.ch0 hch45
        replace hR1 := hR1.ch0 hch45
        replace hR3 := hR3.ch0 hch45
        replace hc := hc.step0 hch45
        obtain ⟨A47, c48, hv49, hle50, hmx51⟩ := hO44.form; subst hv49
        have hub52 := hO44.lt
        refine rw_cons (op_pv (w0 rfl) rfl rfl (pv_move (v := (.slice A1 n1 c1)) rfl rfl) ?_)
        refine rw_cons (op_call (w0 rfl) rfl rfl (rc_call C18 rfl rfl) (toIntS_ok _ _ _ _ _ (hR1.more (by omega)) (by omega)) ?_)
        rintro _ w53 ⟨v54, rfl, hO55, hch56⟩
        have hsz57 := hch56.size
        replace hR0 := hR0.ch0 hch56
        replace hR1 := hR1.ch0 hch56
        replace hR3 := hR3.ch0 hch56
        replace hO44 := hO44.ch0 hch56
        replace hc := hc.step0 hch56
        obtain ⟨A58, c59, hv60, hle61, hmx62⟩ := hO55.form; subst hv60
        have hub63 := hO55.lt
        refine rw_cons (op_pv (w0 rfl) rfl rfl (pv_move (v := (.int .i64 a2)) rfl rfl) ?_)
        refine rw_cons (op_pv (w0 rfl) rfl rfl (pv_move (v := (.slice A3 n3 c3)) rfl rfl) ?_)
        refine rw_cons (op_call (w0 rfl) rfl rfl (rc_call C18 rfl rfl) (toIntS_ok _ _ _ _ _ (hR3.more (by omega)) (by omega)) ?_)
        rintro _ w64 ⟨v65, rfl, hO66, hch67⟩
        have hsz68 := hch67.size
        replace hR0 := hR0.ch0 hch67
        replace hR1 := hR1.ch0 hch67
        replace hR3 := hR3.ch0 hch67
        replace hO44 := hO44.ch0 hch67
        replace hO55 := hO55.ch0 hch67
        replace hc := hc.step0 hch67
        obtain ⟨A69, c70, hv71, hle72, hmx73⟩ := hO66.form; subst hv71
        have hub74 := hO66.lt
        refine rw_cons (op_call (w0 rfl) rfl rfl (rc_call C30 rfl rfl) (SumsWrite_s _ xs0.length _ xs0 _ xs1.length _ xs1 a2 _ xs3.length _ xs3 _ (hO44.rs (fun _ => rfl)) (by omega) (by omega) (hO55.rs (fun _ => rfl)) (by omega) (hO66.rs (fun _ => rfl)) (by omega)) ?_)
        rintro _ w75 ⟨A77, c78, A80, c81, rfl, hO79, hO82, hdj83, hch76⟩
        have hsz84 := hch76.size
        replace hR0 := hR0.ch0 hch76
        replace hR1 := hR1.ch0 hch76
        replace hR3 := hR3.ch0 hch76
        replace hO44 := hO44.ch0 hch76
        replace hO55 := hO55.ch0 hch76
        replace hO66 := hO66.ch0 hch76
        replace hc := hc.step0 hch76
        have hub85 := hO79.lt
        have hcap86 : (writeV xs0 xs1 a2 xs3).length ≤ c78 := by obtain ⟨_, _, hv, h1, _⟩ := hO79.form; injection hv with _ _ h3; omega
        have hub87 := hO82.lt
        have hcap88 : (writeS xs0 xs1 a2 xs3).length ≤ c81 := by obtain ⟨_, _, hv, h1, _⟩ := hO82.form; injection hv with _ _ h3; omega
        have hnt89 := writeV_le xs0 xs1 a2 xs3
        have hnt90 := writeS_le xs0 xs1 a2 xs3
        refine rw_cons (op_pv (w0 rfl) rfl rfl (pv_move (v := (.tuple #[(.slice A77 (writeV xs0 xs1 a2 xs3).length c78), (.slice A80 (writeS xs0 xs1 a2 xs3).length c81), (.bool (dec (WriteOK xs0 xs1 a2 xs3)))])) rfl rfl) ?_)
        refine rw_cons (op_pv (w0 rfl) rfl rfl (pv_ext (v := (.slice A77 (writeV xs0 xs1 a2 xs3).length c78)) rfl rfl rfl) ?_)
        refine rw_cons (op_pv (w0 rfl) rfl rfl (pv_ext (v := (.slice A80 (writeS xs0 xs1 a2 xs3).length c81)) rfl rfl rfl) ?_)
        refine rw_cons (op_pv (w0 rfl) rfl rfl (pv_ext (v := (.bool (dec (WriteOK xs0 xs1 a2 xs3)))) rfl rfl rfl) ?_)
        refine rw_cons (op_pv (w0 rfl) rfl rfl (pv_assign (v := (.slice A77 (writeV xs0 xs1 a2 xs3).length c78)) rfl rfl) ?_)
        refine rw_cons (op_pv (w0 rfl) rfl rfl (pv_assign (v := (.slice A80 (writeS xs0 xs1 a2 xs3).length c81)) rfl rfl) ?_)
        refine rw_cons (op_pv (w0 rfl) rfl rfl (pv_assign (v := (.bool (dec (WriteOK xs0 xs1 a2 xs3)))) rfl rfl) ?_)
        refine rw_nil (hK41 _ _ ?_)
        refine hK39 _ _ ?_
        refine cw_seq fun K91 hK92 => ?_
        refine cw_region fun K93 hK94 => ?_
        refine rw_cons (op_pv (w0 rfl) rfl rfl (pv_move (v := (.slice A0 n0 c0)) rfl rfl) ?_)
        refine rw_cons (op_call (w0 rfl) rfl rfl (rc_call C18 rfl rfl) (toIntS_ok _ _ _ _ _ (hR0.more (by omega)) (by omega)) ?_)
        rintro _ w95 ⟨v96, rfl, hO97, hch98⟩
        have hsz99 := hch98.size
        replace hR0 := hR0.ch0 hch98
        replace hR1 := hR1.ch0 hch98
        replace hR3 := hR3.ch0 hch98
        replace hO44 := hO44.ch0 hch98
        replace hO55 := hO55.ch0 hch98
        replace hO66 := hO66.ch0 hch98
        replace hO79 := hO79.ch0 hch98
        replace hO82 := hO82.ch0 hch98
        replace hc := hc.step0 hch98
        obtain ⟨A100, c101, hv102, hle103, hmx104⟩ := hO97.form; subst hv102
        have hub105 := hO97.lt
        refine rw_cons (op_pv (w0 rfl) rfl rfl (pv_assign (v := (.slice A100 xs0.length c101)) rfl rfl) ?_)
        refine rw_nil (hK94 _ _ ?_)
        refine hK92 _ _ ?_
        refine cw_seq fun K106 hK107 => ?_
        refine cw_region fun K108 hK109 => ?_
        refine rw_cons (op_pv (w0 rfl) rfl rfl (pv_move (v := (.slice A1 n1 c1)) rfl rfl) ?_)
        refine rw_cons (op_call (w0 rfl) rfl rfl (rc_call C18 rfl rfl) (toIntS_ok _ _ _ _ _ (hR1.more (by omega)) (by omega)) ?_)
        rintro _ w110 ⟨v111, rfl, hO112, hch113⟩
        have hsz114 := hch113.size
        replace hR0 := hR0.ch0 hch113
        replace hR1 := hR1.ch0 hch113
        replace hR3 := hR3.ch0 hch113
        replace hO44 := hO44.ch0 hch113
        replace hO55 := hO55.ch0 hch113
        replace hO66 := hO66.ch0 hch113
        replace hO79 := hO79.ch0 hch113
        replace hO82 := hO82.ch0 hch113
        replace hO97 := hO97.ch0 hch113
        replace hc := hc.step0 hch113
        obtain ⟨A115, c116, hv117, hle118, hmx119⟩ := hO112.form; subst hv117
        have hub120 := hO112.lt
        refine rw_cons (op_pv (w0 rfl) rfl rfl (pv_assign (v := (.slice A115 xs1.length c116)) rfl rfl) ?_)
        refine rw_nil (hK109 _ _ ?_)
        refine hK107 _ _ ?_
        refine cw_seq fun K121 hK122 => ?_
        refine cw_region fun K123 hK124 => ?_
        refine rw_cons (op_pv (w0 rfl) rfl rfl (pv_move (v := (.slice A3 n3 c3)) rfl rfl) ?_)
        refine rw_cons (op_call (w0 rfl) rfl rfl (rc_call C18 rfl rfl) (toIntS_ok _ _ _ _ _ (hR3.more (by omega)) (by omega)) ?_)
        rintro _ w125 ⟨v126, rfl, hO127, hch128⟩
        have hsz129 := hch128.size
        replace hR0 := hR0.ch0 hch128
        replace hR1 := hR1.ch0 hch128
        replace hR3 := hR3.ch0 hch128
        replace hO44 := hO44.ch0 hch128
        replace hO55 := hO55.ch0 hch128
        replace hO66 := hO66.ch0 hch128
        replace hO79 := hO79.ch0 hch128
        replace hO82 := hO82.ch0 hch128
        replace hO97 := hO97.ch0 hch128
        replace hO112 := hO112.ch0 hch128
        replace hc := hc.step0 hch128
        obtain ⟨A130, c131, hv132, hle133, hmx134⟩ := hO127.form; subst hv132
        have hub135 := hO127.lt
        refine rw_cons (op_pv (w0 rfl) rfl rfl (pv_assign (v := (.slice A130 xs3.length c131)) rfl rfl) ?_)
        refine rw_nil (hK124 _ _ ?_)
        refine hK122 _ _ ?_
        refine cw_seq fun K136 hK137 => ?_
        refine cw_region fun K138 hK139 => ?_
        refine rw_cons (op_pv (w0 rfl) rfl rfl (pv_move (v := (.slice A100 xs0.length c101)) rfl rfl) ?_)
        refine rw_cons (op_pv (w0 rfl) rfl rfl (pv_move (v := (.slice A115 xs1.length c116)) rfl rfl) ?_)
        refine rw_cons (op_pv (w0 rfl) rfl rfl (pv_move (v := (.int .i64 a2)) rfl rfl) ?_)
        refine rw_cons (op_pv (w0 rfl) rfl rfl (pv_move (v := (.slice A130 xs3.length c131)) rfl rfl) ?_)
        refine rw_cons (op_call (w0 rfl) rfl rfl (rc_call C31 rfl rfl) (SumsWrite_i _ xs0.length _ xs0 _ xs1.length _ xs1 a2 _ xs3.length _ xs3 _ (hO97.rs (fun _ => rfl)) (by omega) (by omega) (hO112.rs (fun _ => rfl)) (by omega) (hO127.rs (fun _ => rfl)) (by omega)) ?_)
        rintro _ w140 ⟨A142, c143, A145, c146, rfl, hO144, hO147, hdj148, hch141⟩
        have hsz149 := hch141.size
        replace hR0 := hR0.ch0 hch141
        replace hR1 := hR1.ch0 hch141
        replace hR3 := hR3.ch0 hch141
        replace hO44 := hO44.ch0 hch141
        replace hO55 := hO55.ch0 hch141
        replace hO66 := hO66.ch0 hch141
        replace hO79 := hO79.ch0 hch141
        replace hO82 := hO82.ch0 hch141
        replace hO97 := hO97.ch0 hch141
        replace hO112 := hO112.ch0 hch141
        replace hO127 := hO127.ch0 hch141
        replace hc := hc.step0 hch141
        have hub150 := hO144.lt
        have hcap151 : (writeV xs0 xs1 a2 xs3).length ≤ c143 := by obtain ⟨_, _, hv, h1, _⟩ := hO144.form; injection hv with _ _ h3; omega
        have hub152 := hO147.lt
        have hcap153 : (writeS xs0 xs1 a2 xs3).length ≤ c146 := by obtain ⟨_, _, hv, h1, _⟩ := hO147.form; injection hv with _ _ h3; omega
        have hnt154 := writeV_le xs0 xs1 a2 xs3
        have hnt155 := writeS_le xs0 xs1 a2 xs3
        refine rw_cons (op_pv (w0 rfl) rfl rfl (pv_move (v := (.tuple #[(.slice A142 (writeV xs0 xs1 a2 xs3).length c143), (.slice A145 (writeS xs0 xs1 a2 xs3).length c146), (.bool (dec (WriteOK xs0 xs1 a2 xs3)))])) rfl rfl) ?_)
        refine rw_cons (op_pv (w0 rfl) rfl rfl (pv_ext (v := (.slice A142 (writeV xs0 xs1 a2 xs3).length c143)) rfl rfl rfl) ?_)
        refine rw_cons (op_pv (w0 rfl) rfl rfl (pv_ext (v := (.slice A145 (writeS xs0 xs1 a2 xs3).length c146)) rfl rfl rfl) ?_)
        refine rw_cons (op_pv (w0 rfl) rfl rfl (pv_ext (v := (.bool (dec (WriteOK xs0 xs1 a2 xs3)))) rfl rfl rfl) ?_)
        refine rw_cons (op_pv (w0 rfl) rfl rfl (pv_assign (v := (.slice A142 (writeV xs0 xs1 a2 xs3).length c143)) rfl rfl) ?_)
        refine rw_cons (op_pv (w0 rfl) rfl rfl (pv_assign (v := (.slice A145 (writeS xs0 xs1 a2 xs3).length c146)) rfl rfl) ?_)
        refine rw_cons (op_pv (w0 rfl) rfl rfl (pv_assign (v := (.bool (dec (WriteOK xs0 xs1 a2 xs3)))) rfl rfl) ?_)
        refine rw_nil (hK139 _ _ ?_)
        refine hK137 _ _ ?_
        refine cw_seq fun K156 hK157 => ?_
        refine cw_seq fun K158 hK159 => ?_
        refine cw_region fun K160 hK161 => ?_
        refine rw_cons (op_pv (w0 rfl) rfl rfl (pv_move (v := (.slice A142 (writeV xs0 xs1 a2 xs3).length c143)) rfl rfl) ?_)
        refine rw_cons (op_pv (w0 rfl) rfl rfl (pv_move (v := (.slice A77 (writeV xs0 xs1 a2 xs3).length c78)) rfl rfl) ?_)
        refine rw_cons (op_call (w0 rfl) rfl rfl (rc_call C20 rfl rfl) (eqIntS_same _ _ _ _ _ _ (writeV xs0 xs1 a2 xs3) _ (hO144.rs (fun _ => rfl)) (hO79.rs (fun _ => rfl)) (by omega)) ?_)
        rintro _ w162 ⟨rfl, hch163⟩
        have hsz164 := hch163.size
        replace hR0 := hR0.ch0 hch163
        replace hR1 := hR1.ch0 hch163
        replace hR3 := hR3.ch0 hch163
        replace hO44 := hO44.ch0 hch163
        replace hO55 := hO55.ch0 hch163
        replace hO66 := hO66.ch0 hch163
        replace hO79 := hO79.ch0 hch163
        replace hO82 := hO82.ch0 hch163
        replace hO97 := hO97.ch0 hch163
        replace hO112 := hO112.ch0 hch163
        replace hO127 := hO127.ch0 hch163
        replace hO144 := hO144.ch0 hch163
        replace hO147 := hO147.ch0 hch163
        replace hc := hc.step0 hch163
        refine rw_cons (op_pv (w0 rfl) rfl rfl (pv_not rfl rfl) ?_)
        refine rw_cons (op_pv (w0 rfl) rfl rfl (pv_move (v := (.bool (!true))) rfl rfl) ?_)
        refine rw_cons (op_pv (w1y rfl rfl rfl rfl) rfl rfl (pv_move (v := (.slice A145 (writeS xs0 xs1 a2 xs3).length c146)) rfl rfl) ?_)
        refine rw_cons (op_pv (w1y rfl rfl rfl rfl) rfl rfl (pv_move (v := (.slice A80 (writeS xs0 xs1 a2 xs3).length c81)) rfl rfl) ?_)
        refine rw_cons (op_call (w1y rfl rfl rfl rfl) rfl rfl (rc_call C20 rfl rfl) (eqIntS_same _ _ _ _ _ _ (writeS xs0 xs1 a2 xs3) _ (hO147.rs (fun _ => rfl)) (hO82.rs (fun _ => rfl)) (by omega)) ?_)
        rintro _ w165 ⟨rfl, hch166⟩
        have hsz167 := hch166.size
        replace hR0 := hR0.ch0 hch166
        replace hR1 := hR1.ch0 hch166
        replace hR3 := hR3.ch0 hch166
        replace hO44 := hO44.ch0 hch166
        replace hO55 := hO55.ch0 hch166
        replace hO66 := hO66.ch0 hch166
        replace hO79 := hO79.ch0 hch166
        replace hO82 := hO82.ch0 hch166
        replace hO97 := hO97.ch0 hch166
        replace hO112 := hO112.ch0 hch166
        replace hO127 := hO127.ch0 hch166
        replace hO144 := hO144.ch0 hch166
        replace hO147 := hO147.ch0 hch166
        replace hc := hc.step0 hch166
        refine rw_cons (op_pv (w1y rfl rfl rfl rfl) rfl rfl (pv_not rfl rfl) ?_)
        refine rw_cons (op_pv (w0 rfl) rfl rfl (pv_pickF (v := (.bool (!true))) rfl rfl rfl) ?_)
        refine rw_cons (op_pv (w0 rfl) rfl rfl (pv_move (v := (.bool (!true))) rfl rfl) ?_)
        refine rw_cons (op_pv (w1y rfl rfl rfl rfl) rfl rfl (pv_move (v := (.bool (dec (WriteOK xs0 xs1 a2 xs3)))) rfl rfl) ?_)
        refine rw_cons (op_pv (w1y rfl rfl rfl rfl) rfl rfl (pv_move (v := (.bool (dec (WriteOK xs0 xs1 a2 xs3)))) rfl rfl) ?_)
        refine rw_cons (op_pv (w1y rfl rfl rfl rfl) rfl rfl (pv_neBs Try.underlying4 rfl rfl rfl) ?_)
        refine rw_cons (op_pv (w0 rfl) rfl rfl (pv_pickF (v := (.bool false)) rfl rfl rfl) ?_)
        refine rw_nil (hK161 _ _ ?_)
        refine hK159 _ _ ?_
        refine cw_cond rfl (fun h168 => ?_) (fun h168 => ?_)
        · -- then
          cases h168
        · -- else
          clear h168
          refine cw_skip ?_
          refine hK157 _ _ ?_
          refine cw_seq fun K169 hK170 => ?_
          refine cw_seq fun K171 hK172 => ?_
          refine cw_region fun K173 hK174 => ?_
          refine rw_cons (op_pv (w0 rfl) rfl rfl (pv_move (v := (.slice A100 xs0.length c101)) rfl rfl) ?_)
          refine rw_cons (op_pv (w0 rfl) rfl rfl (pv_move (v := (.slice A0 n0 c0)) rfl rfl) ?_)
          refine rw_cons (op_call (w0 rfl) rfl rfl (rc_call C18 rfl rfl) (toIntS_ok _ _ _ _ _ (hR0.more (by omega)) (by omega)) ?_)
          rintro _ w175 ⟨v176, rfl, hO177, hch178⟩
          have hsz179 := hch178.size
          replace hR0 := hR0.ch0 hch178
          replace hR1 := hR1.ch0 hch178
          replace hR3 := hR3.ch0 hch178
          replace hO44 := hO44.ch0 hch178
          replace hO55 := hO55.ch0 hch178
          replace hO66 := hO66.ch0 hch178
          replace hO79 := hO79.ch0 hch178
          replace hO82 := hO82.ch0 hch178
          replace hO97 := hO97.ch0 hch178
          replace hO112 := hO112.ch0 hch178
          replace hO127 := hO127.ch0 hch178
          replace hO144 := hO144.ch0 hch178
          replace hO147 := hO147.ch0 hch178
          replace hc := hc.step0 hch178
          obtain ⟨A180, c181, hv182, hle183, hmx184⟩ := hO177.form; subst hv182
          have hub185 := hO177.lt
          refine rw_cons (op_call (w0 rfl) rfl rfl (rc_call C20 rfl rfl) (eqIntS_same _ _ _ _ _ _ xs0 _ (hO97.rs (fun _ => rfl)) (hO177.rs (fun _ => rfl)) (by omega)) ?_)
          rintro _ w186 ⟨rfl, hch187⟩
          have hsz188 := hch187.size
          replace hR0 := hR0.ch0 hch187
          replace hR1 := hR1.ch0 hch187
          replace hR3 := hR3.ch0 hch187
          replace hO44 := hO44.ch0 hch187
          replace hO55 := hO55.ch0 hch187
          replace hO66 := hO66.ch0 hch187
          replace hO79 := hO79.ch0 hch187
          replace hO82 := hO82.ch0 hch187
          replace hO97 := hO97.ch0 hch187
          replace hO112 := hO112.ch0 hch187
          replace hO127 := hO127.ch0 hch187
          replace hO144 := hO144.ch0 hch187
          replace hO147 := hO147.ch0 hch187
          replace hO177 := hO177.ch0 hch187
          replace hc := hc.step0 hch187
          refine rw_cons (op_pv (w0 rfl) rfl rfl (pv_not rfl rfl) ?_)
          refine rw_nil (hK174 _ _ ?_)
          refine hK172 _ _ ?_
          refine cw_cond rfl (fun h189 => ?_) (fun h189 => ?_)
          · -- then
            cases h189
          · -- else
            clear h189
            refine cw_skip ?_
            refine hK170 _ _ ?_
            refine cw_seq fun K190 hK191 => ?_
            refine cw_seq fun K192 hK193 => ?_
            refine cw_region fun K194 hK195 => ?_
            refine rw_cons (op_pv (w0 rfl) rfl rfl (pv_move (v := (.slice A115 xs1.length c116)) rfl rfl) ?_)
            refine rw_cons (op_pv (w0 rfl) rfl rfl (pv_move (v := (.slice A1 n1 c1)) rfl rfl) ?_)
            refine rw_cons (op_call (w0 rfl) rfl rfl (rc_call C18 rfl rfl) (toIntS_ok _ _ _ _ _ (hR1.more (by omega)) (by omega)) ?_)
            rintro _ w196 ⟨v197, rfl, hO198, hch199⟩
            have hsz200 := hch199.size
            replace hR0 := hR0.ch0 hch199
            replace hR1 := hR1.ch0 hch199
            replace hR3 := hR3.ch0 hch199
            replace hO44 := hO44.ch0 hch199
            replace hO55 := hO55.ch0 hch199
            replace hO66 := hO66.ch0 hch199
            replace hO79 := hO79.ch0 hch199
            replace hO82 := hO82.ch0 hch199
            replace hO97 := hO97.ch0 hch199
            replace hO112 := hO112.ch0 hch199
            replace hO127 := hO127.ch0 hch199
            replace hO144 := hO144.ch0 hch199
            replace hO147 := hO147.ch0 hch199
            replace hO177 := hO177.ch0 hch199
            replace hc := hc.step0 hch199
            obtain ⟨A201, c202, hv203, hle204, hmx205⟩ := hO198.form; subst hv203
            have hub206 := hO198.lt
            refine rw_cons (op_call (w0 rfl) rfl rfl (rc_call C20 rfl rfl) (eqIntS_same _ _ _ _ _ _ xs1 _ (hO112.rs (fun _ => rfl)) (hO198.rs (fun _ => rfl)) (by omega)) ?_)
            rintro _ w207 ⟨rfl, hch208⟩
            have hsz209 := hch208.size
            replace hR0 := hR0.ch0 hch208
            replace hR1 := hR1.ch0 hch208
            replace hR3 := hR3.ch0 hch208
            replace hO44 := hO44.ch0 hch208
            replace hO55 := hO55.ch0 hch208
            replace hO66 := hO66.ch0 hch208
            replace hO79 := hO79.ch0 hch208
            replace hO82 := hO82.ch0 hch208
            replace hO97 := hO97.ch0 hch208
            replace hO112 := hO112.ch0 hch208
            replace hO127 := hO127.ch0 hch208
            replace hO144 := hO144.ch0 hch208
            replace hO147 := hO147.ch0 hch208
            replace hO177 := hO177.ch0 hch208
            replace hO198 := hO198.ch0 hch208
            replace hc := hc.step0 hch208
            refine rw_cons (op_pv (w0 rfl) rfl rfl (pv_not rfl rfl) ?_)
            refine rw_nil (hK195 _ _ ?_)
            refine hK193 _ _ ?_
            refine cw_cond rfl (fun h210 => ?_) (fun h210 => ?_)
            · -- then
              cases h210
            · -- else
              clear h210
              refine cw_skip ?_
              refine hK191 _ _ ?_
              refine cw_seq fun K211 hK212 => ?_
              refine cw_seq fun K213 hK214 => ?_
              refine cw_region fun K215 hK216 => ?_
              refine rw_cons (op_pv (w0 rfl) rfl rfl (pv_move (v := (.slice A130 xs3.length c131)) rfl rfl) ?_)
              refine rw_cons (op_pv (w0 rfl) rfl rfl (pv_move (v := (.slice A3 n3 c3)) rfl rfl) ?_)
              refine rw_cons (op_call (w0 rfl) rfl rfl (rc_call C18 rfl rfl) (toIntS_ok _ _ _ _ _ (hR3.more (by omega)) (by omega)) ?_)
              rintro _ w217 ⟨v218, rfl, hO219, hch220⟩
              have hsz221 := hch220.size
              replace hR0 := hR0.ch0 hch220
              replace hR1 := hR1.ch0 hch220
              replace hR3 := hR3.ch0 hch220
              replace hO44 := hO44.ch0 hch220
              replace hO55 := hO55.ch0 hch220
              replace hO66 := hO66.ch0 hch220
              replace hO79 := hO79.ch0 hch220
              replace hO82 := hO82.ch0 hch220
              replace hO97 := hO97.ch0 hch220
              replace hO112 := hO112.ch0 hch220
              replace hO127 := hO127.ch0 hch220
              replace hO144 := hO144.ch0 hch220
              replace hO147 := hO147.ch0 hch220
              replace hO177 := hO177.ch0 hch220
              replace hO198 := hO198.ch0 hch220
              replace hc := hc.step0 hch220
              obtain ⟨A222, c223, hv224, hle225, hmx226⟩ := hO219.form; subst hv224
              have hub227 := hO219.lt
              refine rw_cons (op_call (w0 rfl) rfl rfl (rc_call C20 rfl rfl) (eqIntS_same _ _ _ _ _ _ xs3 _ (hO127.rs (fun _ => rfl)) (hO219.rs (fun _ => rfl)) (by omega)) ?_)
              rintro _ w228 ⟨rfl, hch229⟩
              have hsz230 := hch229.size
              replace hR0 := hR0.ch0 hch229
              replace hR1 := hR1.ch0 hch229
              replace hR3 := hR3.ch0 hch229
              replace hO44 := hO44.ch0 hch229
              replace hO55 := hO55.ch0 hch229
              replace hO66 := hO66.ch0 hch229
              replace hO79 := hO79.ch0 hch229
              replace hO82 := hO82.ch0 hch229
              replace hO97 := hO97.ch0 hch229
              replace hO112 := hO112.ch0 hch229
              replace hO127 := hO127.ch0 hch229
              replace hO144 := hO144.ch0 hch229
              replace hO147 := hO147.ch0 hch229
              replace hO177 := hO177.ch0 hch229
              replace hO198 := hO198.ch0 hch229
              replace hO219 := hO219.ch0 hch229
              replace hc := hc.step0 hch229
              refine rw_cons (op_pv (w0 rfl) rfl rfl (pv_not rfl rfl) ?_)
              refine rw_nil (hK216 _ _ ?_)
              refine hK214 _ _ ?_
              refine cw_cond rfl (fun h231 => ?_) (fun h231 => ?_)
              · -- then
                cases h231
              · -- else
                clear h231
                refine cw_skip ?_
                refine hK212 _ _ ?_
                refine cw_seq fun K232 hK233 => ?_
                refine cw_region fun K234 hK235 => ?_
                refine rw_cons (op_pv (w0 rfl) rfl rfl (pv_assign (v := (.int .i64 1)) rfl rfl) ?_)
                refine rw_nil (hK235 _ _ ?_)
                refine hK233 _ _ ?_
                refine cw_seq fun K236 hK237 => ?_
                refine cw_region fun K238 hK239 => ?_
                refine rw_cons (op_pv (w0 rfl) rfl rfl (pv_move (v := (.slice A100 xs0.length c101)) rfl rfl) ?_)
                refine rw_cons (op_pv (w0 rfl) rfl rfl (pv_move (v := (.int .i64 1)) rfl rfl) ?_)
                refine rw_cons (op_call (w0 rfl) rfl rfl (rc_call C24 rfl rfl) (markIntS_ok _ xs0.length _ _ _ 1 _ hO97 (by omega) (by omega) (by omega) (by omega)) ?_)
                rintro _ w240 ⟨ys241, hyl242, hye243, rfl, hO244, hch245⟩
                have hsz246 := hch245.size
                replace hR0 := hR0.ch hch245 (hO97.off.le (by omega))
                replace hR1 := hR1.ch hch245 (hO97.off.le (by omega))
                replace hR3 := hR3.ch hch245 (hO97.off.le (by omega))
                replace hO44 := hO44.ch hch245 (fun s hs hs2 => by first | (have h1 := hO44.off s hs; have h2 := hub105 s hs2; omega) | (have h1 := hub52 s hs; have h2 := hO97.off s hs2; omega) | (have h2 := hub105 s hs2; simp [obl, Value.ownBlock] at hs; omega) | (have h1 := hub52 s hs; simp [obl, Value.ownBlock] at hs2; omega))
                replace hO55 := hO55.ch hch245 (fun s hs hs2 => by first | (have h1 := hO55.off s hs; have h2 := hub105 s hs2; omega) | (have h1 := hub63 s hs; have h2 := hO97.off s hs2; omega) | (have h2 := hub105 s hs2; simp [obl, Value.ownBlock] at hs; omega) | (have h1 := hub63 s hs; simp [obl, Value.ownBlock] at hs2; omega))
                replace hO66 := hO66.ch hch245 (fun s hs hs2 => by first | (have h1 := hO66.off s hs; have h2 := hub105 s hs2; omega) | (have h1 := hub74 s hs; have h2 := hO97.off s hs2; omega) | (have h2 := hub105 s hs2; simp [obl, Value.ownBlock] at hs; omega) | (have h1 := hub74 s hs; simp [obl, Value.ownBlock] at hs2; omega))
                replace hO79 := hO79.ch hch245 (fun s hs hs2 => by first | (have h1 := hO79.off s hs; have h2 := hub105 s hs2; omega) | (have h1 := hub85 s hs; have h2 := hO97.off s hs2; omega) | (have h2 := hub105 s hs2; simp [obl, Value.ownBlock] at hs; omega) | (have h1 := hub85 s hs; simp [obl, Value.ownBlock] at hs2; omega))
                replace hO82 := hO82.ch hch245 (fun s hs hs2 => by first | (have h1 := hO82.off s hs; have h2 := hub105 s hs2; omega) | (have h1 := hub87 s hs; have h2 := hO97.off s hs2; omega) | (have h2 := hub105 s hs2; simp [obl, Value.ownBlock] at hs; omega) | (have h1 := hub87 s hs; simp [obl, Value.ownBlock] at hs2; omega))
                replace hO112 := hO112.ch hch245 (fun s hs hs2 => by first | (have h1 := hO112.off s hs; have h2 := hub105 s hs2; omega) | (have h1 := hub120 s hs; have h2 := hO97.off s hs2; omega) | (have h2 := hub105 s hs2; simp [obl, Value.ownBlock] at hs; omega) | (have h1 := hub120 s hs; simp [obl, Value.ownBlock] at hs2; omega))
                replace hO127 := hO127.ch hch245 (fun s hs hs2 => by first | (have h1 := hO127.off s hs; have h2 := hub105 s hs2; omega) | (have h1 := hub135 s hs; have h2 := hO97.off s hs2; omega) | (have h2 := hub105 s hs2; simp [obl, Value.ownBlock] at hs; omega) | (have h1 := hub135 s hs; simp [obl, Value.ownBlock] at hs2; omega))
                replace hO144 := hO144.ch hch245 (fun s hs hs2 => by first | (have h1 := hO144.off s hs; have h2 := hub105 s hs2; omega) | (have h1 := hub150 s hs; have h2 := hO97.off s hs2; omega) | (have h2 := hub105 s hs2; simp [obl, Value.ownBlock] at hs; omega) | (have h1 := hub150 s hs; simp [obl, Value.ownBlock] at hs2; omega))
                replace hO147 := hO147.ch hch245 (fun s hs hs2 => by first | (have h1 := hO147.off s hs; have h2 := hub105 s hs2; omega) | (have h1 := hub152 s hs; have h2 := hO97.off s hs2; omega) | (have h2 := hub105 s hs2; simp [obl, Value.ownBlock] at hs; omega) | (have h1 := hub152 s hs; simp [obl, Value.ownBlock] at hs2; omega))
                replace hO177 := hO177.ch hch245 (fun s hs hs2 => by first | (have h1 := hO177.off s hs; have h2 := hub105 s hs2; omega) | (have h1 := hub185 s hs; have h2 := hO97.off s hs2; omega) | (have h2 := hub105 s hs2; simp [obl, Value.ownBlock] at hs; omega) | (have h1 := hub185 s hs; simp [obl, Value.ownBlock] at hs2; omega))
                replace hO198 := hO198.ch hch245 (fun s hs hs2 => by first | (have h1 := hO198.off s hs; have h2 := hub105 s hs2; omega) | (have h1 := hub206 s hs; have h2 := hO97.off s hs2; omega) | (have h2 := hub105 s hs2; simp [obl, Value.ownBlock] at hs; omega) | (have h1 := hub206 s hs; simp [obl, Value.ownBlock] at hs2; omega))
                replace hO219 := hO219.ch hch245 (fun s hs hs2 => by first | (have h1 := hO219.off s hs; have h2 := hub105 s hs2; omega) | (have h1 := hub227 s hs; have h2 := hO97.off s hs2; omega) | (have h2 := hub105 s hs2; simp [obl, Value.ownBlock] at hs; omega) | (have h1 := hub227 s hs; simp [obl, Value.ownBlock] at hs2; omega))
                replace hc := (hO97.off.le (by omega)).step hc hch245
                clear hO97; have hO97 := hO244; clear hO244
                have hyl247 := hyl242
                refine rw_cons (op_pv (w0 rfl) rfl rfl (pv_assign (v := (.int .i64 (1 + ((xs0.length) : Int)))) rfl rfl) ?_)
                refine rw_nil (hK239 _ _ ?_)
                refine hK237 _ _ ?_
                refine cw_seq fun K248 hK249 => ?_
                refine cw_region fun K250 hK251 => ?_
                refine rw_cons (op_pv (w0 rfl) rfl rfl (pv_move (v := (.slice A115 xs1.length c116)) rfl rfl) ?_)
                refine rw_cons (op_pv (w0 rfl) rfl rfl (pv_move (v := (.int .i64 (1 + ((xs0.length) : Int)))) rfl rfl) ?_)
                refine rw_cons (op_call (w0 rfl) rfl rfl (rc_call C24 rfl rfl) (markIntS_ok _ xs1.length _ _ _ (1 + ((xs0.length) : Int)) _ hO112 (by omega) (by omega) (by omega) (by omega)) ?_)
                rintro _ w252 ⟨ys253, hyl254, hye255, rfl, hO256, hch257⟩
                have hsz258 := hch257.size
                replace hR0 := hR0.ch hch257 (hO112.off.le (by omega))
                replace hR1 := hR1.ch hch257 (hO112.off.le (by omega))
                replace hR3 := hR3.ch hch257 (hO112.off.le (by omega))
                replace hO44 := hO44.ch hch257 (fun s hs hs2 => by first | (have h1 := hO44.off s hs; have h2 := hub120 s hs2; omega) | (have h1 := hub52 s hs; have h2 := hO112.off s hs2; omega) | (have h2 := hub120 s hs2; simp [obl, Value.ownBlock] at hs; omega) | (have h1 := hub52 s hs; simp [obl, Value.ownBlock] at hs2; omega))
                replace hO55 := hO55.ch hch257 (fun s hs hs2 => by first | (have h1 := hO55.off s hs; have h2 := hub120 s hs2; omega) | (have h1 := hub63 s hs; have h2 := hO112.off s hs2; omega) | (have h2 := hub120 s hs2; simp [obl, Value.ownBlock] at hs; omega) | (have h1 := hub63 s hs; simp [obl, Value.ownBlock] at hs2; omega))
                replace hO66 := hO66.ch hch257 (fun s hs hs2 => by first | (have h1 := hO66.off s hs; have h2 := hub120 s hs2; omega) | (have h1 := hub74 s hs; have h2 := hO112.off s hs2; omega) | (have h2 := hub120 s hs2; simp [obl, Value.ownBlock] at hs; omega) | (have h1 := hub74 s hs; simp [obl, Value.ownBlock] at hs2; omega))
                replace hO79 := hO79.ch hch257 (fun s hs hs2 => by first | (have h1 := hO79.off s hs; have h2 := hub120 s hs2; omega) | (have h1 := hub85 s hs; have h2 := hO112.off s hs2; omega) | (have h2 := hub120 s hs2; simp [obl, Value.ownBlock] at hs; omega) | (have h1 := hub85 s hs; simp [obl, Value.ownBlock] at hs2; omega))
                replace hO82 := hO82.ch hch257 (fun s hs hs2 => by first | (have h1 := hO82.off s hs; have h2 := hub120 s hs2; omega) | (have h1 := hub87 s hs; have h2 := hO112.off s hs2; omega) | (have h2 := hub120 s hs2; simp [obl, Value.ownBlock] at hs; omega) | (have h1 := hub87 s hs; simp [obl, Value.ownBlock] at hs2; omega))
                replace hO97 := hO97.ch hch257 (fun s hs hs2 => by first | (have h1 := hO97.off s hs; have h2 := hub120 s hs2; omega) | (have h1 := hub105 s hs; have h2 := hO112.off s hs2; omega) | (have h2 := hub120 s hs2; simp [obl, Value.ownBlock] at hs; omega) | (have h1 := hub105 s hs; simp [obl, Value.ownBlock] at hs2; omega))
                replace hO127 := hO127.ch hch257 (fun s hs hs2 => by first | (have h1 := hO127.off s hs; have h2 := hub120 s hs2; omega) | (have h1 := hub135 s hs; have h2 := hO112.off s hs2; omega) | (have h2 := hub120 s hs2; simp [obl, Value.ownBlock] at hs; omega) | (have h1 := hub135 s hs; simp [obl, Value.ownBlock] at hs2; omega))
                replace hO144 := hO144.ch hch257 (fun s hs hs2 => by first | (have h1 := hO144.off s hs; have h2 := hub120 s hs2; omega) | (have h1 := hub150 s hs; have h2 := hO112.off s hs2; omega) | (have h2 := hub120 s hs2; simp [obl, Value.ownBlock] at hs; omega) | (have h1 := hub150 s hs; simp [obl, Value.ownBlock] at hs2; omega))
                replace hO147 := hO147.ch hch257 (fun s hs hs2 => by first | (have h1 := hO147.off s hs; have h2 := hub120 s hs2; omega) | (have h1 := hub152 s hs; have h2 := hO112.off s hs2; omega) | (have h2 := hub120 s hs2; simp [obl, Value.ownBlock] at hs; omega) | (have h1 := hub152 s hs; simp [obl, Value.ownBlock] at hs2; omega))
                replace hO177 := hO177.ch hch257 (fun s hs hs2 => by first | (have h1 := hO177.off s hs; have h2 := hub120 s hs2; omega) | (have h1 := hub185 s hs; have h2 := hO112.off s hs2; omega) | (have h2 := hub120 s hs2; simp [obl, Value.ownBlock] at hs; omega) | (have h1 := hub185 s hs; simp [obl, Value.ownBlock] at hs2; omega))
                replace hO198 := hO198.ch hch257 (fun s hs hs2 => by first | (have h1 := hO198.off s hs; have h2 := hub120 s hs2; omega) | (have h1 := hub206 s hs; have h2 := hO112.off s hs2; omega) | (have h2 := hub120 s hs2; simp [obl, Value.ownBlock] at hs; omega) | (have h1 := hub206 s hs; simp [obl, Value.ownBlock] at hs2; omega))
                replace hO219 := hO219.ch hch257 (fun s hs hs2 => by first | (have h1 := hO219.off s hs; have h2 := hub120 s hs2; omega) | (have h1 := hub227 s hs; have h2 := hO112.off s hs2; omega) | (have h2 := hub120 s hs2; simp [obl, Value.ownBlock] at hs; omega) | (have h1 := hub227 s hs; simp [obl, Value.ownBlock] at hs2; omega))
                replace hc := (hO112.off.le (by omega)).step hc hch257
                clear hO112; have hO112 := hO256; clear hO256
                have hyl259 := hyl254
                refine rw_cons (op_pv (w0 rfl) rfl rfl (pv_assign (v := (.int .i64 ((1 + ((xs0.length) : Int)) + ((xs1.length) : Int)))) rfl rfl) ?_)
                refine rw_nil (hK251 _ _ ?_)
                refine hK249 _ _ ?_
                refine cw_seq fun K260 hK261 => ?_
                refine cw_region fun K262 hK263 => ?_
                refine rw_cons (op_pv (w0 rfl) rfl rfl (pv_move (v := (.slice A130 xs3.length c131)) rfl rfl) ?_)
                refine rw_cons (op_pv (w0 rfl) rfl rfl (pv_move (v := (.int .i64 ((1 + ((xs0.length) : Int)) + ((xs1.length) : Int)))) rfl rfl) ?_)
                refine rw_cons (op_call (w0 rfl) rfl rfl (rc_call C24 rfl rfl) (markIntS_ok _ xs3.length _ _ _ ((1 + ((xs0.length) : Int)) + ((xs1.length) : Int)) _ hO127 (by omega) (by omega) (by omega) (by omega)) ?_)
                rintro _ w264 ⟨ys265, hyl266, hye267, rfl, hO268, hch269⟩
                have hsz270 := hch269.size
                replace hR0 := hR0.ch hch269 (hO127.off.le (by omega))
                replace hR1 := hR1.ch hch269 (hO127.off.le (by omega))
                replace hR3 := hR3.ch hch269 (hO127.off.le (by omega))
                replace hO44 := hO44.ch hch269 (fun s hs hs2 => by first | (have h1 := hO44.off s hs; have h2 := hub135 s hs2; omega) | (have h1 := hub52 s hs; have h2 := hO127.off s hs2; omega) | (have h2 := hub135 s hs2; simp [obl, Value.ownBlock] at hs; omega) | (have h1 := hub52 s hs; simp [obl, Value.ownBlock] at hs2; omega))
                replace hO55 := hO55.ch hch269 (fun s hs hs2 => by first | (have h1 := hO55.off s hs; have h2 := hub135 s hs2; omega) | (have h1 := hub63 s hs; have h2 := hO127.off s hs2; omega) | (have h2 := hub135 s hs2; simp [obl, Value.ownBlock] at hs; omega) | (have h1 := hub63 s hs; simp [obl, Value.ownBlock] at hs2; omega))
                replace hO66 := hO66.ch hch269 (fun s hs hs2 => by first | (have h1 := hO66.off s hs; have h2 := hub135 s hs2; omega) | (have h1 := hub74 s hs; have h2 := hO127.off s hs2; omega) | (have h2 := hub135 s hs2; simp [obl, Value.ownBlock] at hs; omega) | (have h1 := hub74 s hs; simp [obl, Value.ownBlock] at hs2; omega))
                replace hO79 := hO79.ch hch269 (fun s hs hs2 => by first | (have h1 := hO79.off s hs; have h2 := hub135 s hs2; omega) | (have h1 := hub85 s hs; have h2 := hO127.off s hs2; omega) | (have h2 := hub135 s hs2; simp [obl, Value.ownBlock] at hs; omega) | (have h1 := hub85 s hs; simp [obl, Value.ownBlock] at hs2; omega))
                replace hO82 := hO82.ch hch269 (fun s hs hs2 => by first | (have h1 := hO82.off s hs; have h2 := hub135 s hs2; omega) | (have h1 := hub87 s hs; have h2 := hO127.off s hs2; omega) | (have h2 := hub135 s hs2; simp [obl, Value.ownBlock] at hs; omega) | (have h1 := hub87 s hs; simp [obl, Value.ownBlock] at hs2; omega))
                replace hO97 := hO97.ch hch269 (fun s hs hs2 => by first | (have h1 := hO97.off s hs; have h2 := hub135 s hs2; omega) | (have h1 := hub105 s hs; have h2 := hO127.off s hs2; omega) | (have h2 := hub135 s hs2; simp [obl, Value.ownBlock] at hs; omega) | (have h1 := hub105 s hs; simp [obl, Value.ownBlock] at hs2; omega))
                replace hO112 := hO112.ch hch269 (fun s hs hs2 => by first | (have h1 := hO112.off s hs; have h2 := hub135 s hs2; omega) | (have h1 := hub120 s hs; have h2 := hO127.off s hs2; omega) | (have h2 := hub135 s hs2; simp [obl, Value.ownBlock] at hs; omega) | (have h1 := hub120 s hs; simp [obl, Value.ownBlock] at hs2; omega))
                replace hO144 := hO144.ch hch269 (fun s hs hs2 => by first | (have h1 := hO144.off s hs; have h2 := hub135 s hs2; omega) | (have h1 := hub150 s hs; have h2 := hO127.off s hs2; omega) | (have h2 := hub135 s hs2; simp [obl, Value.ownBlock] at hs; omega) | (have h1 := hub150 s hs; simp [obl, Value.ownBlock] at hs2; omega))
                replace hO147 := hO147.ch hch269 (fun s hs hs2 => by first | (have h1 := hO147.off s hs; have h2 := hub135 s hs2; omega) | (have h1 := hub152 s hs; have h2 := hO127.off s hs2; omega) | (have h2 := hub135 s hs2; simp [obl, Value.ownBlock] at hs; omega) | (have h1 := hub152 s hs; simp [obl, Value.ownBlock] at hs2; omega))
                replace hO177 := hO177.ch hch269 (fun s hs hs2 => by first | (have h1 := hO177.off s hs; have h2 := hub135 s hs2; omega) | (have h1 := hub185 s hs; have h2 := hO127.off s hs2; omega) | (have h2 := hub135 s hs2; simp [obl, Value.ownBlock] at hs; omega) | (have h1 := hub185 s hs; simp [obl, Value.ownBlock] at hs2; omega))
                replace hO198 := hO198.ch hch269 (fun s hs hs2 => by first | (have h1 := hO198.off s hs; have h2 := hub135 s hs2; omega) | (have h1 := hub206 s hs; have h2 := hO127.off s hs2; omega) | (have h2 := hub135 s hs2; simp [obl, Value.ownBlock] at hs; omega) | (have h1 := hub206 s hs; simp [obl, Value.ownBlock] at hs2; omega))
                replace hO219 := hO219.ch hch269 (fun s hs hs2 => by first | (have h1 := hO219.off s hs; have h2 := hub135 s hs2; omega) | (have h1 := hub227 s hs; have h2 := hO127.off s hs2; omega) | (have h2 := hub135 s hs2; simp [obl, Value.ownBlock] at hs; omega) | (have h1 := hub227 s hs; simp [obl, Value.ownBlock] at hs2; omega))
                replace hc := (hO127.off.le (by omega)).step hc hch269
                clear hO127; have hO127 := hO268; clear hO268
                have hyl271 := hyl266
                refine rw_cons (op_pv (w0 rfl) rfl rfl (pv_assign (v := (.int .i64 (((1 + ((xs0.length) : Int)) + ((xs1.length) : Int)) + ((xs3.length) : Int)))) rfl rfl) ?_)
                refine rw_nil (hK263 _ _ ?_)
                refine hK261 _ _ ?_
                refine cw_seq fun K272 hK273 => ?_
                refine cw_seq fun K274 hK275 => ?_
                refine cw_region fun K276 hK277 => ?_
                refine rw_cons (op_pv (w0 rfl) rfl rfl (pv_move (v := (.int .i64 (((1 + ((xs0.length) : Int)) + ((xs1.length) : Int)) + ((xs3.length) : Int)))) rfl rfl) ?_)
                refine rw_cons (op_pv (w0 rfl) rfl rfl (pv_lss rfl rfl rfl) ?_)
                refine rw_cons (op_pv (w0 rfl) rfl rfl (pv_move (v := (.bool (decide ((((1 + ((xs0.length) : Int)) + ((xs1.length) : Int)) + ((xs3.length) : Int)) < 0)))) rfl rfl) ?_)
                refine rw_split 101 rfl (fun hb278 => ?_) (fun hb278 => ?_)
                · -- yes
                  replace hb278 := of_decide_eq_true hb278
                  refine rw_cons (op_pass (w1n2 rfl rfl rfl rfl) rfl rfl ?_)
                  refine rw_cons (op_pass (w1n2 rfl rfl rfl rfl) rfl rfl ?_)
                  refine rw_cons (op_pass (w1n2 rfl rfl rfl rfl) rfl rfl ?_)
                  refine rw_cons (op_pass (w1n2 rfl rfl rfl rfl) rfl rfl ?_)
                  refine rw_cons (op_pv (w0 rfl) rfl rfl (pv_pickT (v := (.bool true)) rfl rfl rfl) ?_)
                  refine rw_cons (op_pv (w0 rfl) rfl rfl (pv_move (v := (.bool true)) rfl rfl) ?_)
                  refine rw_cons (op_pass (w1n2 rfl rfl rfl rfl) rfl rfl ?_)
                  refine rw_cons (op_pass (w1n2 rfl rfl rfl rfl) rfl rfl ?_)
                  refine rw_cons (op_pass (w1n2 rfl rfl rfl rfl) rfl rfl ?_)
                  refine rw_cons (op_pass (w1n2 rfl rfl rfl rfl) rfl rfl ?_)
                  refine rw_cons (op_pv (w0 rfl) rfl rfl (pv_pickT (v := (.bool true)) rfl rfl rfl) ?_)
                  refine rw_cons (op_pv (w0 rfl) rfl rfl (pv_move (v := (.bool true)) rfl rfl) ?_)
                  refine rw_cons (op_pass (w1n2 rfl rfl rfl rfl) rfl rfl ?_)
                  refine rw_cons (op_pass (w1n2 rfl rfl rfl rfl) rfl rfl ?_)
                  refine rw_cons (op_pass (w1n2 rfl rfl rfl rfl) rfl rfl ?_)
                  refine rw_cons (op_pv (w0 rfl) rfl rfl (pv_pickT (v := (.bool true)) rfl rfl rfl) ?_)
                  refine rw_nil (hK277 _ _ ?_)
                  refine hK275 _ _ ?_
                  refine cw_cond rfl (fun h279 => ?_) (fun h279 => ?_)
                  · -- then
                    clear h279
                    refine cw_seq fun K280 hK281 => ?_
                    refine cw_region fun K282 hK283 => ?_
                    refine rw_cons (op_pv (w0 rfl) rfl rfl (pv_assign (v := (.bool false)) rfl rfl) ?_)
                    refine rw_nil (hK283 _ _ ?_)
                    refine hK281 _ _ ?_
                    refine cw_ret ?_
                    refine fin1 rfl ?_
                    first
                      | exact ⟨rfl, hc⟩
                      | (exfalso; omega)
                      | exact ⟨congrArg Value.bool (decide_eq_true (by omega)), hc⟩
                      | exact absurd rfl ‹_ ≠ _›
                      | (exfalso; simp_all; done)
                  · -- else
                    cases h279
                · -- no
                  replace hb278 := of_decide_eq_false hb278
                  refine rw_cons (op_pv (w1y rfl rfl rfl rfl) rfl rfl (pv_move (v := (.slice A142 (writeV xs0 xs1 a2 xs3).length c143)) rfl rfl) ?_)
                  refine rw_cons (op_pv (w1y rfl rfl rfl rfl) rfl rfl (pv_move (v := (.slice A77 (writeV xs0 xs1 a2 xs3).length c78)) rfl rfl) ?_)
                  refine rw_cons (op_call (w1y rfl rfl rfl rfl) rfl rfl (rc_call C20 rfl rfl) (eqIntS_same _ _ _ _ _ _ (writeV xs0 xs1 a2 xs3) _ (hO144.rs (fun _ => rfl)) (hO79.rs (fun _ => rfl)) (by omega)) ?_)
                  rintro _ w284 ⟨rfl, hch285⟩
                  have hsz286 := hch285.size
                  replace hR0 := hR0.ch0 hch285
                  replace hR1 := hR1.ch0 hch285
                  replace hR3 := hR3.ch0 hch285
                  replace hO44 := hO44.ch0 hch285
                  replace hO55 := hO55.ch0 hch285
                  replace hO66 := hO66.ch0 hch285
                  replace hO79 := hO79.ch0 hch285
                  replace hO82 := hO82.ch0 hch285
                  replace hO97 := hO97.ch0 hch285
                  replace hO112 := hO112.ch0 hch285
                  replace hO127 := hO127.ch0 hch285
                  replace hO144 := hO144.ch0 hch285
                  replace hO147 := hO147.ch0 hch285
                  replace hO177 := hO177.ch0 hch285
                  replace hO198 := hO198.ch0 hch285
                  replace hO219 := hO219.ch0 hch285
                  replace hc := hc.step0 hch285
                  refine rw_cons (op_pv (w1y rfl rfl rfl rfl) rfl rfl (pv_not rfl rfl) ?_)
                  refine rw_cons (op_pv (w0 rfl) rfl rfl (pv_pickF (v := (.bool (!true))) rfl rfl rfl) ?_)
                  refine rw_cons (op_pv (w0 rfl) rfl rfl (pv_move (v := (.bool (!true))) rfl rfl) ?_)
                  refine rw_cons (op_pv (w1y rfl rfl rfl rfl) rfl rfl (pv_move (v := (.slice A145 (writeS xs0 xs1 a2 xs3).length c146)) rfl rfl) ?_)
                  refine rw_cons (op_pv (w1y rfl rfl rfl rfl) rfl rfl (pv_move (v := (.slice A80 (writeS xs0 xs1 a2 xs3).length c81)) rfl rfl) ?_)
                  refine rw_cons (op_call (w1y rfl rfl rfl rfl) rfl rfl (rc_call C20 rfl rfl) (eqIntS_same _ _ _ _ _ _ (writeS xs0 xs1 a2 xs3) _ (hO147.rs (fun _ => rfl)) (hO82.rs (fun _ => rfl)) (by omega)) ?_)
                  rintro _ w287 ⟨rfl, hch288⟩
                  have hsz289 := hch288.size
                  replace hR0 := hR0.ch0 hch288
                  replace hR1 := hR1.ch0 hch288
                  replace hR3 := hR3.ch0 hch288
                  replace hO44 := hO44.ch0 hch288
                  replace hO55 := hO55.ch0 hch288
                  replace hO66 := hO66.ch0 hch288
                  replace hO79 := hO79.ch0 hch288
                  replace hO82 := hO82.ch0 hch288
                  replace hO97 := hO97.ch0 hch288
                  replace hO112 := hO112.ch0 hch288
                  replace hO127 := hO127.ch0 hch288
                  replace hO144 := hO144.ch0 hch288
                  replace hO147 := hO147.ch0 hch288
                  replace hO177 := hO177.ch0 hch288
                  replace hO198 := hO198.ch0 hch288
                  replace hO219 := hO219.ch0 hch288
                  replace hc := hc.step0 hch288
                  refine rw_cons (op_pv (w1y rfl rfl rfl rfl) rfl rfl (pv_not rfl rfl) ?_)
                  refine rw_cons (op_pv (w0 rfl) rfl rfl (pv_pickF (v := (.bool (!true))) rfl rfl rfl) ?_)
                  refine rw_cons (op_pv (w0 rfl) rfl rfl (pv_move (v := (.bool (!true))) rfl rfl) ?_)
                  refine rw_cons (op_pv (w1y rfl rfl rfl rfl) rfl rfl (pv_move (v := (.bool (dec (WriteOK xs0 xs1 a2 xs3)))) rfl rfl) ?_)
                  refine rw_cons (op_pv (w1y rfl rfl rfl rfl) rfl rfl (pv_move (v := (.bool (dec (WriteOK xs0 xs1 a2 xs3)))) rfl rfl) ?_)
                  refine rw_cons (op_pv (w1y rfl rfl rfl rfl) rfl rfl (pv_neBs Try.underlying4 rfl rfl rfl) ?_)
                  refine rw_cons (op_pv (w0 rfl) rfl rfl (pv_pickF (v := (.bool false)) rfl rfl rfl) ?_)
                  refine rw_nil (hK277 _ _ ?_)
                  refine hK275 _ _ ?_
                  refine cw_cond rfl (fun h290 => ?_) (fun h290 => ?_)
                  · -- then
                    cases h290
                  · -- else
                    clear h290
                    refine cw_skip ?_
                    refine hK273 _ _ ?_
                    refine cw_seq fun K291 hK292 => ?_
                    refine cw_region fun K293 hK294 => ?_
                    refine rw_cons (op_pv (w0 rfl) rfl rfl (pv_assign (v := (.int .i64 1)) rfl rfl) ?_)
                    refine rw_nil (hK294 _ _ ?_)
                    refine hK292 _ _ ?_
                    refine cw_seq fun K295 hK296 => ?_
                    refine cw_region fun K297 hK298 => ?_
                    refine rw_cons (op_pv (w0 rfl) rfl rfl (pv_move (v := (.slice A142 (writeV xs0 xs1 a2 xs3).length c143)) rfl rfl) ?_)
                    refine rw_cons (op_pv (w0 rfl) rfl rfl (pv_move (v := (.int .i64 1)) rfl rfl) ?_)
                    refine rw_cons (op_call (w0 rfl) rfl rfl (rc_call C24 rfl rfl) (markIntS_ok _ (writeV xs0 xs1 a2 xs3).length _ _ _ 1 _ hO144 (by omega) (by omega) (by omega) (by omega)) ?_)
                    rintro _ w299 ⟨ys300, hyl301, hye302, rfl, hO303, hch304⟩
                    have hsz305 := hch304.size
                    replace hR0 := hR0.ch hch304 (hO144.off.le (by omega))
                    replace hR1 := hR1.ch hch304 (hO144.off.le (by omega))
                    replace hR3 := hR3.ch hch304 (hO144.off.le (by omega))
                    replace hO44 := hO44.ch hch304 (fun s hs hs2 => by first | (have h1 := hO44.off s hs; have h2 := hub150 s hs2; omega) | (have h1 := hub52 s hs; have h2 := hO144.off s hs2; omega) | (have h2 := hub150 s hs2; simp [obl, Value.ownBlock] at hs; omega) | (have h1 := hub52 s hs; simp [obl, Value.ownBlock] at hs2; omega))
                    replace hO55 := hO55.ch hch304 (fun s hs hs2 => by first | (have h1 := hO55.off s hs; have h2 := hub150 s hs2; omega) | (have h1 := hub63 s hs; have h2 := hO144.off s hs2; omega) | (have h2 := hub150 s hs2; simp [obl, Value.ownBlock] at hs; omega) | (have h1 := hub63 s hs; simp [obl, Value.ownBlock] at hs2; omega))
                    replace hO66 := hO66.ch hch304 (fun s hs hs2 => by first | (have h1 := hO66.off s hs; have h2 := hub150 s hs2; omega) | (have h1 := hub74 s hs; have h2 := hO144.off s hs2; omega) | (have h2 := hub150 s hs2; simp [obl, Value.ownBlock] at hs; omega) | (have h1 := hub74 s hs; simp [obl, Value.ownBlock] at hs2; omega))
                    replace hO79 := hO79.ch hch304 (fun s hs hs2 => by first | (have h1 := hO79.off s hs; have h2 := hub150 s hs2; omega) | (have h1 := hub85 s hs; have h2 := hO144.off s hs2; omega) | (have h2 := hub150 s hs2; simp [obl, Value.ownBlock] at hs; omega) | (have h1 := hub85 s hs; simp [obl, Value.ownBlock] at hs2; omega))
                    replace hO82 := hO82.ch hch304 (fun s hs hs2 => by first | (have h1 := hO82.off s hs; have h2 := hub150 s hs2; omega) | (have h1 := hub87 s hs; have h2 := hO144.off s hs2; omega) | (have h2 := hub150 s hs2; simp [obl, Value.ownBlock] at hs; omega) | (have h1 := hub87 s hs; simp [obl, Value.ownBlock] at hs2; omega))
                    replace hO97 := hO97.ch hch304 (fun s hs hs2 => by first | (have h1 := hO97.off s hs; have h2 := hub150 s hs2; omega) | (have h1 := hub105 s hs; have h2 := hO144.off s hs2; omega) | (have h2 := hub150 s hs2; simp [obl, Value.ownBlock] at hs; omega) | (have h1 := hub105 s hs; simp [obl, Value.ownBlock] at hs2; omega))
                    replace hO112 := hO112.ch hch304 (fun s hs hs2 => by first | (have h1 := hO112.off s hs; have h2 := hub150 s hs2; omega) | (have h1 := hub120 s hs; have h2 := hO144.off s hs2; omega) | (have h2 := hub150 s hs2; simp [obl, Value.ownBlock] at hs; omega) | (have h1 := hub120 s hs; simp [obl, Value.ownBlock] at hs2; omega))
                    replace hO127 := hO127.ch hch304 (fun s hs hs2 => by first | (have h1 := hO127.off s hs; have h2 := hub150 s hs2; omega) | (have h1 := hub135 s hs; have h2 := hO144.off s hs2; omega) | (have h2 := hub150 s hs2; simp [obl, Value.ownBlock] at hs; omega) | (have h1 := hub135 s hs; simp [obl, Value.ownBlock] at hs2; omega))
                    replace hO147 := hO147.ch hch304 (dj_sw hdj148)
                    replace hO177 := hO177.ch hch304 (fun s hs hs2 => by first | (have h1 := hO177.off s hs; have h2 := hub150 s hs2; omega) | (have h1 := hub185 s hs; have h2 := hO144.off s hs2; omega) | (have h2 := hub150 s hs2; simp [obl, Value.ownBlock] at hs; omega) | (have h1 := hub185 s hs; simp [obl, Value.ownBlock] at hs2; omega))
                    replace hO198 := hO198.ch hch304 (fun s hs hs2 => by first | (have h1 := hO198.off s hs; have h2 := hub150 s hs2; omega) | (have h1 := hub206 s hs; have h2 := hO144.off s hs2; omega) | (have h2 := hub150 s hs2; simp [obl, Value.ownBlock] at hs; omega) | (have h1 := hub206 s hs; simp [obl, Value.ownBlock] at hs2; omega))
                    replace hO219 := hO219.ch hch304 (fun s hs hs2 => by first | (have h1 := hO219.off s hs; have h2 := hub150 s hs2; omega) | (have h1 := hub227 s hs; have h2 := hO144.off s hs2; omega) | (have h2 := hub150 s hs2; simp [obl, Value.ownBlock] at hs; omega) | (have h1 := hub227 s hs; simp [obl, Value.ownBlock] at hs2; omega))
                    replace hc := (hO144.off.le (by omega)).step hc hch304
                    clear hO144; have hO144 := hO303; clear hO303
                    have hyl306 := hyl301
                    refine rw_cons (op_pv (w0 rfl) rfl rfl (pv_assign (v := (.int .i64 (1 + (((writeV xs0 xs1 a2 xs3).length) : Int)))) rfl rfl) ?_)
                    refine rw_nil (hK298 _ _ ?_)
                    refine hK296 _ _ ?_
                    refine cw_seq fun K307 hK308 => ?_
                    refine cw_region fun K309 hK310 => ?_
                    refine rw_cons (op_pv (w0 rfl) rfl rfl (pv_move (v := (.slice A145 (writeS xs0 xs1 a2 xs3).length c146)) rfl rfl) ?_)
                    refine rw_cons (op_pv (w0 rfl) rfl rfl (pv_move (v := (.int .i64 (1 + (((writeV xs0 xs1 a2 xs3).length) : Int)))) rfl rfl) ?_)
                    refine rw_cons (op_call (w0 rfl) rfl rfl (rc_call C24 rfl rfl) (markIntS_ok _ (writeS xs0 xs1 a2 xs3).length _ _ _ (1 + (((writeV xs0 xs1 a2 xs3).length) : Int)) _ hO147 (by omega) (by omega) (by omega) (by omega)) ?_)
                    rintro _ w311 ⟨ys312, hyl313, hye314, rfl, hO315, hch316⟩
                    have hsz317 := hch316.size
                    replace hR0 := hR0.ch hch316 (hO147.off.le (by omega))
                    replace hR1 := hR1.ch hch316 (hO147.off.le (by omega))
                    replace hR3 := hR3.ch hch316 (hO147.off.le (by omega))
                    replace hO44 := hO44.ch hch316 (fun s hs hs2 => by first | (have h1 := hO44.off s hs; have h2 := hub152 s hs2; omega) | (have h1 := hub52 s hs; have h2 := hO147.off s hs2; omega) | (have h2 := hub152 s hs2; simp [obl, Value.ownBlock] at hs; omega) | (have h1 := hub52 s hs; simp [obl, Value.ownBlock] at hs2; omega))
                    replace hO55 := hO55.ch hch316 (fun s hs hs2 => by first | (have h1 := hO55.off s hs; have h2 := hub152 s hs2; omega) | (have h1 := hub63 s hs; have h2 := hO147.off s hs2; omega) | (have h2 := hub152 s hs2; simp [obl, Value.ownBlock] at hs; omega) | (have h1 := hub63 s hs; simp [obl, Value.ownBlock] at hs2; omega))
                    replace hO66 := hO66.ch hch316 (fun s hs hs2 => by first | (have h1 := hO66.off s hs; have h2 := hub152 s hs2; omega) | (have h1 := hub74 s hs; have h2 := hO147.off s hs2; omega) | (have h2 := hub152 s hs2; simp [obl, Value.ownBlock] at hs; omega) | (have h1 := hub74 s hs; simp [obl, Value.ownBlock] at hs2; omega))
                    replace hO79 := hO79.ch hch316 (fun s hs hs2 => by first | (have h1 := hO79.off s hs; have h2 := hub152 s hs2; omega) | (have h1 := hub85 s hs; have h2 := hO147.off s hs2; omega) | (have h2 := hub152 s hs2; simp [obl, Value.ownBlock] at hs; omega) | (have h1 := hub85 s hs; simp [obl, Value.ownBlock] at hs2; omega))
                    replace hO82 := hO82.ch hch316 (fun s hs hs2 => by first | (have h1 := hO82.off s hs; have h2 := hub152 s hs2; omega) | (have h1 := hub87 s hs; have h2 := hO147.off s hs2; omega) | (have h2 := hub152 s hs2; simp [obl, Value.ownBlock] at hs; omega) | (have h1 := hub87 s hs; simp [obl, Value.ownBlock] at hs2; omega))
                    replace hO97 := hO97.ch hch316 (fun s hs hs2 => by first | (have h1 := hO97.off s hs; have h2 := hub152 s hs2; omega) | (have h1 := hub105 s hs; have h2 := hO147.off s hs2; omega) | (have h2 := hub152 s hs2; simp [obl, Value.ownBlock] at hs; omega) | (have h1 := hub105 s hs; simp [obl, Value.ownBlock] at hs2; omega))
                    replace hO112 := hO112.ch hch316 (fun s hs hs2 => by first | (have h1 := hO112.off s hs; have h2 := hub152 s hs2; omega) | (have h1 := hub120 s hs; have h2 := hO147.off s hs2; omega) | (have h2 := hub152 s hs2; simp [obl, Value.ownBlock] at hs; omega) | (have h1 := hub120 s hs; simp [obl, Value.ownBlock] at hs2; omega))
                    replace hO127 := hO127.ch hch316 (fun s hs hs2 => by first | (have h1 := hO127.off s hs; have h2 := hub152 s hs2; omega) | (have h1 := hub135 s hs; have h2 := hO147.off s hs2; omega) | (have h2 := hub152 s hs2; simp [obl, Value.ownBlock] at hs; omega) | (have h1 := hub135 s hs; simp [obl, Value.ownBlock] at hs2; omega))
                    replace hO144 := hO144.ch hch316 (dj_as hdj148)
                    replace hO177 := hO177.ch hch316 (fun s hs hs2 => by first | (have h1 := hO177.off s hs; have h2 := hub152 s hs2; omega) | (have h1 := hub185 s hs; have h2 := hO147.off s hs2; omega) | (have h2 := hub152 s hs2; simp [obl, Value.ownBlock] at hs; omega) | (have h1 := hub185 s hs; simp [obl, Value.ownBlock] at hs2; omega))
                    replace hO198 := hO198.ch hch316 (fun s hs hs2 => by first | (have h1 := hO198.off s hs; have h2 := hub152 s hs2; omega) | (have h1 := hub206 s hs; have h2 := hO147.off s hs2; omega) | (have h2 := hub152 s hs2; simp [obl, Value.ownBlock] at hs; omega) | (have h1 := hub206 s hs; simp [obl, Value.ownBlock] at hs2; omega))
                    replace hO219 := hO219.ch hch316 (fun s hs hs2 => by first | (have h1 := hO219.off s hs; have h2 := hub152 s hs2; omega) | (have h1 := hub227 s hs; have h2 := hO147.off s hs2; omega) | (have h2 := hub152 s hs2; simp [obl, Value.ownBlock] at hs; omega) | (have h1 := hub227 s hs; simp [obl, Value.ownBlock] at hs2; omega))
                    replace hc := (hO147.off.le (by omega)).step hc hch316
                    clear hO147; have hO147 := hO315; clear hO315
                    have hyl318 := hyl313
                    refine rw_cons (op_pv (w0 rfl) rfl rfl (pv_assign (v := (.int .i64 ((1 + (((writeV xs0 xs1 a2 xs3).length) : Int)) + (((writeS xs0 xs1 a2 xs3).length) : Int)))) rfl rfl) ?_)
                    refine rw_nil (hK310 _ _ ?_)
                    refine hK308 _ _ ?_
                    refine cw_seq fun K319 hK320 => ?_
                    refine cw_region fun K321 hK322 => ?_
                    refine rw_cons (op_pv (w0 rfl) rfl rfl (pv_assign (v := (.int .i64 1)) rfl rfl) ?_)
                    refine rw_nil (hK322 _ _ ?_)
                    refine hK320 _ _ ?_
                    refine cw_seq fun K323 hK324 => ?_
                    refine cw_region fun K325 hK326 => ?_
                    refine rw_cons (op_pv (w0 rfl) rfl rfl (pv_move (v := (.slice A142 (writeV xs0 xs1 a2 xs3).length c143)) rfl rfl) ?_)
                    refine rw_cons (op_pv (w0 rfl) rfl rfl (pv_move (v := (.int .i64 1)) rfl rfl) ?_)
                    refine rw_cons (op_call (w0 rfl) rfl rfl (rc_call C25 rfl rfl) (heldIntS_ok _ (writeV xs0 xs1 a2 xs3).length _ ys300 1 _ (hO144.rs (fun _ => rfl)) (by omega) (by omega) (by omega) hye302) ?_)
                    rintro _ w327 ⟨rfl, hch328⟩
                    have hsz329 := hch328.size
                    replace hR0 := hR0.ch0 hch328
                    replace hR1 := hR1.ch0 hch328
                    replace hR3 := hR3.ch0 hch328
                    replace hO44 := hO44.ch0 hch328
                    replace hO55 := hO55.ch0 hch328
                    replace hO66 := hO66.ch0 hch328
                    replace hO79 := hO79.ch0 hch328
                    replace hO82 := hO82.ch0 hch328
                    replace hO97 := hO97.ch0 hch328
                    replace hO112 := hO112.ch0 hch328
                    replace hO127 := hO127.ch0 hch328
                    replace hO144 := hO144.ch0 hch328
                    replace hO147 := hO147.ch0 hch328
                    replace hO177 := hO177.ch0 hch328
                    replace hO198 := hO198.ch0 hch328
                    replace hO219 := hO219.ch0 hch328
                    replace hc := hc.step0 hch328
                    refine rw_cons (op_pv (w0 rfl) rfl rfl (pv_assign (v := (.int .i64 (1 + (((writeV xs0 xs1 a2 xs3).length) : Int)))) rfl rfl) ?_)
                    refine rw_nil (hK326 _ _ ?_)
                    refine hK324 _ _ ?_
                    refine cw_seq fun K330 hK331 => ?_
                    refine cw_seq fun K332 hK333 => ?_
                    refine cw_region fun K334 hK335 => ?_
                    refine rw_cons (op_pv (w0 rfl) rfl rfl (pv_move (v := (.int .i64 (1 + (((writeV xs0 xs1 a2 xs3).length) : Int)))) rfl rfl) ?_)
                    refine rw_cons (op_pv (w0 rfl) rfl rfl (pv_lss rfl rfl rfl) ?_)
                    refine rw_nil (hK335 _ _ ?_)
                    refine hK333 _ _ ?_
                    refine cw_cond rfl (fun h336 => ?_) (fun h336 => ?_)
                    · -- then
                      replace h336 := of_decide_eq_true h336
                      refine cw_seq fun K337 hK338 => ?_
                      refine cw_region fun K339 hK340 => ?_
                      refine rw_cons (op_pv (w0 rfl) rfl rfl (pv_assign (v := (.bool false)) rfl rfl) ?_)
                      refine rw_nil (hK340 _ _ ?_)
                      refine hK338 _ _ ?_
                      refine cw_ret ?_
                      refine fin1 rfl ?_
                      first
                        | exact ⟨rfl, hc⟩
                        | (exfalso; omega)
                        | exact ⟨congrArg Value.bool (decide_eq_true (by omega)), hc⟩
                        | exact absurd rfl ‹_ ≠ _›
                        | (exfalso; simp_all; done)
                    · -- else
                      replace h336 := of_decide_eq_false h336
                      refine cw_skip ?_
                      refine hK331 _ _ ?_
                      refine cw_seq fun K341 hK342 => ?_
                      refine cw_region fun K343 hK344 => ?_
                      refine rw_cons (op_pv (w0 rfl) rfl rfl (pv_move (v := (.slice A145 (writeS xs0 xs1 a2 xs3).length c146)) rfl rfl) ?_)
                      refine rw_cons (op_pv (w0 rfl) rfl rfl (pv_move (v := (.int .i64 (1 + (((writeV xs0 xs1 a2 xs3).length) : Int)))) rfl rfl) ?_)
                      refine rw_cons (op_call (w0 rfl) rfl rfl (rc_call C25 rfl rfl) (heldIntS_ok _ (writeS xs0 xs1 a2 xs3).length _ ys312 (1 + (((writeV xs0 xs1 a2 xs3).length) : Int)) _ (hO147.rs (fun _ => rfl)) (by omega) (by omega) (by omega) hye314) ?_)
                      rintro _ w345 ⟨rfl, hch346⟩
                      have hsz347 := hch346.size
                      replace hR0 := hR0.ch0 hch346
                      replace hR1 := hR1.ch0 hch346
                      replace hR3 := hR3.ch0 hch346
                      replace hO44 := hO44.ch0 hch346
                      replace hO55 := hO55.ch0 hch346
                      replace hO66 := hO66.ch0 hch346
                      replace hO79 := hO79.ch0 hch346
                      replace hO82 := hO82.ch0 hch346
                      replace hO97 := hO97.ch0 hch346
                      replace hO112 := hO112.ch0 hch346
                      replace hO127 := hO127.ch0 hch346
                      replace hO144 := hO144.ch0 hch346
                      replace hO147 := hO147.ch0 hch346
                      replace hO177 := hO177.ch0 hch346
                      replace hO198 := hO198.ch0 hch346
                      replace hO219 := hO219.ch0 hch346
                      replace hc := hc.step0 hch346
                      refine rw_cons (op_pv (w0 rfl) rfl rfl (pv_assign (v := (.int .i64 ((1 + (((writeV xs0 xs1 a2 xs3).length) : Int)) + (((writeS xs0 xs1 a2 xs3).length) : Int)))) rfl rfl) ?_)
                      refine rw_nil (hK344 _ _ ?_)
                      refine hK342 _ _ ?_
                      refine cw_seq fun K348 hK349 => ?_
                      refine cw_seq fun K350 hK351 => ?_
                      refine cw_region fun K352 hK353 => ?_
                      refine rw_cons (op_pv (w0 rfl) rfl rfl (pv_move (v := (.int .i64 ((1 + (((writeV xs0 xs1 a2 xs3).length) : Int)) + (((writeS xs0 xs1 a2 xs3).length) : Int)))) rfl rfl) ?_)
                      refine rw_cons (op_pv (w0 rfl) rfl rfl (pv_lss rfl rfl rfl) ?_)
                      refine rw_nil (hK353 _ _ ?_)
                      refine hK351 _ _ ?_
                      refine cw_cond rfl (fun h354 => ?_) (fun h354 => ?_)
                      · -- then
                        replace h354 := of_decide_eq_true h354
                        refine cw_seq fun K355 hK356 => ?_
                        refine cw_region fun K357 hK358 => ?_
                        refine rw_cons (op_pv (w0 rfl) rfl rfl (pv_assign (v := (.bool false)) rfl rfl) ?_)
                        refine rw_nil (hK358 _ _ ?_)
                        refine hK356 _ _ ?_
                        refine cw_ret ?_
                        refine fin1 rfl ?_
                        first
                          | exact ⟨rfl, hc⟩
                          | (exfalso; omega)
                          | exact ⟨congrArg Value.bool (decide_eq_true (by omega)), hc⟩
                          | exact absurd rfl ‹_ ≠ _›
                          | (exfalso; simp_all; done)
                      · -- else
                        replace h354 := of_decide_eq_false h354
                        refine cw_skip ?_
                        refine hK349 _ _ ?_
                        refine cw_seq fun K359 hK360 => ?_
                        refine cw_seq fun K361 hK362 => ?_
                        refine cw_region fun K363 hK364 => ?_
                        refine rw_cons (op_pv (w0 rfl) rfl rfl (pv_move (v := (.int .i64 ((1 + (((writeV xs0 xs1 a2 xs3).length) : Int)) + (((writeS xs0 xs1 a2 xs3).length) : Int)))) rfl rfl) ?_)
                        refine rw_cons (op_pv (w0 rfl) rfl rfl (pv_move (v := (.int .i64 ((1 + (((writeV xs0 xs1 a2 xs3).length) : Int)) + (((writeS xs0 xs1 a2 xs3).length) : Int)))) rfl rfl) ?_)
                        refine rw_cons (op_pv (w0 rfl) rfl rfl (pv_nes rfl rfl rfl) ?_)
                        refine rw_nil (hK364 _ _ ?_)
                        refine hK362 _ _ ?_
                        refine cw_cond rfl (fun h365 => ?_) (fun h365 => ?_)
                        · -- then
                          cases h365
                        · -- else
                          clear h365
                          refine cw_skip ?_
                          refine hK360 _ _ ?_
                          refine cw_seq fun K366 hK367 => ?_
                          refine cw_region fun K368 hK369 => ?_
                          refine rw_cons (op_pv (w0 rfl) rfl rfl (pv_move (v := (.slice A0 n0 c0)) rfl rfl) ?_)
                          refine rw_cons (op_call (w0 rfl) rfl rfl (rc_call C18 rfl rfl) (toIntS_ok _ _ _ _ _ (hR0.more (by omega)) (by omega)) ?_)
                          rintro _ w370 ⟨v371, rfl, hO372, hch373⟩
                          have hsz374 := hch373.size
                          replace hR0 := hR0.ch0 hch373
                          replace hR1 := hR1.ch0 hch373
                          replace hR3 := hR3.ch0 hch373
                          replace hO44 := hO44.ch0 hch373
                          replace hO55 := hO55.ch0 hch373
                          replace hO66 := hO66.ch0 hch373
                          replace hO79 := hO79.ch0 hch373
                          replace hO82 := hO82.ch0 hch373
                          replace hO97 := hO97.ch0 hch373
                          replace hO112 := hO112.ch0 hch373
                          replace hO127 := hO127.ch0 hch373
                          replace hO144 := hO144.ch0 hch373
                          replace hO147 := hO147.ch0 hch373
                          replace hO177 := hO177.ch0 hch373
                          replace hO198 := hO198.ch0 hch373
                          replace hO219 := hO219.ch0 hch373
                          replace hc := hc.step0 hch373
                          obtain ⟨A375, c376, hv377, hle378, hmx379⟩ := hO372.form; subst hv377
                          have hub380 := hO372.lt
                          refine rw_cons (op_pv (w0 rfl) rfl rfl (pv_move (v := (.slice A1 n1 c1)) rfl rfl) ?_)
                          refine rw_cons (op_call (w0 rfl) rfl rfl (rc_call C18 rfl rfl) (toIntS_ok _ _ _ _ _ (hR1.more (by omega)) (by omega)) ?_)
                          rintro _ w381 ⟨v382, rfl, hO383, hch384⟩
                          have hsz385 := hch384.size
                          replace hR0 := hR0.ch0 hch384
                          replace hR1 := hR1.ch0 hch384
                          replace hR3 := hR3.ch0 hch384
                          replace hO44 := hO44.ch0 hch384
                          replace hO55 := hO55.ch0 hch384
                          replace hO66 := hO66.ch0 hch384
                          replace hO79 := hO79.ch0 hch384
                          replace hO82 := hO82.ch0 hch384
                          replace hO97 := hO97.ch0 hch384
                          replace hO112 := hO112.ch0 hch384
                          replace hO127 := hO127.ch0 hch384
                          replace hO144 := hO144.ch0 hch384
                          replace hO147 := hO147.ch0 hch384
                          replace hO177 := hO177.ch0 hch384
                          replace hO198 := hO198.ch0 hch384
                          replace hO219 := hO219.ch0 hch384
                          replace hO372 := hO372.ch0 hch384
                          replace hc := hc.step0 hch384
                          obtain ⟨A386, c387, hv388, hle389, hmx390⟩ := hO383.form; subst hv388
                          have hub391 := hO383.lt
                          refine rw_cons (op_pv (w0 rfl) rfl rfl (pv_move (v := (.int .i64 a2)) rfl rfl) ?_)
                          refine rw_cons (op_pv (w0 rfl) rfl rfl (pv_move (v := (.slice A3 n3 c3)) rfl rfl) ?_)
                          refine rw_cons (op_call (w0 rfl) rfl rfl (rc_call C18 rfl rfl) (toIntS_ok _ _ _ _ _ (hR3.more (by omega)) (by omega)) ?_)
                          rintro _ w392 ⟨v393, rfl, hO394, hch395⟩
                          have hsz396 := hch395.size
                          replace hR0 := hR0.ch0 hch395
                          replace hR1 := hR1.ch0 hch395
                          replace hR3 := hR3.ch0 hch395
                          replace hO44 := hO44.ch0 hch395
                          replace hO55 := hO55.ch0 hch395
                          replace hO66 := hO66.ch0 hch395
                          replace hO79 := hO79.ch0 hch395
                          replace hO82 := hO82.ch0 hch395
                          replace hO97 := hO97.ch0 hch395
                          replace hO112 := hO112.ch0 hch395
                          replace hO127 := hO127.ch0 hch395
                          replace hO144 := hO144.ch0 hch395
                          replace hO147 := hO147.ch0 hch395
                          replace hO177 := hO177.ch0 hch395
                          replace hO198 := hO198.ch0 hch395
                          replace hO219 := hO219.ch0 hch395
                          replace hO372 := hO372.ch0 hch395
                          replace hO383 := hO383.ch0 hch395
                          replace hc := hc.step0 hch395
                          obtain ⟨A397, c398, hv399, hle400, hmx401⟩ := hO394.form; subst hv399
                          have hub402 := hO394.lt
                          refine rw_cons (op_call (w0 rfl) rfl rfl (rc_call C31 rfl rfl) (SumsWrite_i _ xs0.length _ xs0 _ xs1.length _ xs1 a2 _ xs3.length _ xs3 _ (hO372.rs (fun _ => rfl)) (by omega) (by omega) (hO383.rs (fun _ => rfl)) (by omega) (hO394.rs (fun _ => rfl)) (by omega)) ?_)
                          rintro _ w403 ⟨A405, c406, A408, c409, rfl, hO407, hO410, hdj411, hch404⟩
                          have hsz412 := hch404.size
                          replace hR0 := hR0.ch0 hch404
                          replace hR1 := hR1.ch0 hch404
                          replace hR3 := hR3.ch0 hch404
                          replace hO44 := hO44.ch0 hch404
                          replace hO55 := hO55.ch0 hch404
                          replace hO66 := hO66.ch0 hch404
                          replace hO79 := hO79.ch0 hch404
                          replace hO82 := hO82.ch0 hch404
                          replace hO97 := hO97.ch0 hch404
                          replace hO112 := hO112.ch0 hch404
                          replace hO127 := hO127.ch0 hch404
                          replace hO144 := hO144.ch0 hch404
                          replace hO147 := hO147.ch0 hch404
                          replace hO177 := hO177.ch0 hch404
                          replace hO198 := hO198.ch0 hch404
                          replace hO219 := hO219.ch0 hch404
                          replace hO372 := hO372.ch0 hch404
                          replace hO383 := hO383.ch0 hch404
                          replace hO394 := hO394.ch0 hch404
                          replace hc := hc.step0 hch404
                          have hub413 := hO407.lt
                          have hcap414 : (writeV xs0 xs1 a2 xs3).length ≤ c406 := by obtain ⟨_, _, hv, h1, _⟩ := hO407.form; injection hv with _ _ h3; omega
                          have hub415 := hO410.lt
                          have hcap416 : (writeS xs0 xs1 a2 xs3).length ≤ c409 := by obtain ⟨_, _, hv, h1, _⟩ := hO410.form; injection hv with _ _ h3; omega
                          have hnt417 := writeV_le xs0 xs1 a2 xs3
                          have hnt418 := writeS_le xs0 xs1 a2 xs3
                          refine rw_cons (op_pv (w0 rfl) rfl rfl (pv_move (v := (.tuple #[(.slice A405 (writeV xs0 xs1 a2 xs3).length c406), (.slice A408 (writeS xs0 xs1 a2 xs3).length c409), (.bool (dec (WriteOK xs0 xs1 a2 xs3)))])) rfl rfl) ?_)
                          refine rw_cons (op_pv (w0 rfl) rfl rfl (pv_ext (v := (.slice A405 (writeV xs0 xs1 a2 xs3).length c406)) rfl rfl rfl) ?_)
                          refine rw_cons (op_pv (w0 rfl) rfl rfl (pv_ext (v := (.slice A408 (writeS xs0 xs1 a2 xs3).length c409)) rfl rfl rfl) ?_)
                          refine rw_cons (op_pv (w0 rfl) rfl rfl (pv_ext (v := (.bool (dec (WriteOK xs0 xs1 a2 xs3)))) rfl rfl rfl) ?_)
                          refine rw_cons (op_pv (w0 rfl) rfl rfl (pv_assign (v := (.slice A405 (writeV xs0 xs1 a2 xs3).length c406)) rfl rfl) ?_)
                          refine rw_cons (op_pv (w0 rfl) rfl rfl (pv_assign (v := (.slice A408 (writeS xs0 xs1 a2 xs3).length c409)) rfl rfl) ?_)
                          refine rw_cons (op_pv (w0 rfl) rfl rfl (pv_assign (v := (.bool (dec (WriteOK xs0 xs1 a2 xs3)))) rfl rfl) ?_)
                          refine rw_nil (hK369 _ _ ?_)
                          refine hK367 _ _ ?_
                          refine cw_seq fun K419 hK420 => ?_
                          refine cw_seq fun K421 hK422 => ?_
                          refine cw_region fun K423 hK424 => ?_
                          refine rw_cons (op_pv (w0 rfl) rfl rfl (pv_move (v := (.slice A405 (writeV xs0 xs1 a2 xs3).length c406)) rfl rfl) ?_)
                          refine rw_cons (op_pv (w0 rfl) rfl rfl (pv_move (v := (.slice A77 (writeV xs0 xs1 a2 xs3).length c78)) rfl rfl) ?_)
                          refine rw_cons (op_call (w0 rfl) rfl rfl (rc_call C20 rfl rfl) (eqIntS_same _ _ _ _ _ _ (writeV xs0 xs1 a2 xs3) _ (hO407.rs (fun _ => rfl)) (hO79.rs (fun _ => rfl)) (by omega)) ?_)
                          rintro _ w425 ⟨rfl, hch426⟩
                          have hsz427 := hch426.size
                          replace hR0 := hR0.ch0 hch426
                          replace hR1 := hR1.ch0 hch426
                          replace hR3 := hR3.ch0 hch426
                          replace hO44 := hO44.ch0 hch426
                          replace hO55 := hO55.ch0 hch426
                          replace hO66 := hO66.ch0 hch426
                          replace hO79 := hO79.ch0 hch426
                          replace hO82 := hO82.ch0 hch426
                          replace hO97 := hO97.ch0 hch426
                          replace hO112 := hO112.ch0 hch426
                          replace hO127 := hO127.ch0 hch426
                          replace hO144 := hO144.ch0 hch426
                          replace hO147 := hO147.ch0 hch426
                          replace hO177 := hO177.ch0 hch426
                          replace hO198 := hO198.ch0 hch426
                          replace hO219 := hO219.ch0 hch426
                          replace hO372 := hO372.ch0 hch426
                          replace hO383 := hO383.ch0 hch426
                          replace hO394 := hO394.ch0 hch426
                          replace hO407 := hO407.ch0 hch426
                          replace hO410 := hO410.ch0 hch426
                          replace hc := hc.step0 hch426
                          refine rw_cons (op_pv (w0 rfl) rfl rfl (pv_not rfl rfl) ?_)
                          refine rw_cons (op_pv (w0 rfl) rfl rfl (pv_move (v := (.bool (!true))) rfl rfl) ?_)
                          refine rw_cons (op_pv (w1y rfl rfl rfl rfl) rfl rfl (pv_move (v := (.slice A408 (writeS xs0 xs1 a2 xs3).length c409)) rfl rfl) ?_)
                          refine rw_cons (op_pv (w1y rfl rfl rfl rfl) rfl rfl (pv_move (v := (.slice A80 (writeS xs0 xs1 a2 xs3).length c81)) rfl rfl) ?_)
                          refine rw_cons (op_call (w1y rfl rfl rfl rfl) rfl rfl (rc_call C20 rfl rfl) (eqIntS_same _ _ _ _ _ _ (writeS xs0 xs1 a2 xs3) _ (hO410.rs (fun _ => rfl)) (hO82.rs (fun _ => rfl)) (by omega)) ?_)
                          rintro _ w428 ⟨rfl, hch429⟩
                          have hsz430 := hch429.size
                          replace hR0 := hR0.ch0 hch429
                          replace hR1 := hR1.ch0 hch429
                          replace hR3 := hR3.ch0 hch429
                          replace hO44 := hO44.ch0 hch429
                          replace hO55 := hO55.ch0 hch429
                          replace hO66 := hO66.ch0 hch429
                          replace hO79 := hO79.ch0 hch429
                          replace hO82 := hO82.ch0 hch429
                          replace hO97 := hO97.ch0 hch429
                          replace hO112 := hO112.ch0 hch429
                          replace hO127 := hO127.ch0 hch429
                          replace hO144 := hO144.ch0 hch429
                          replace hO147 := hO147.ch0 hch429
                          replace hO177 := hO177.ch0 hch429
                          replace hO198 := hO198.ch0 hch429
                          replace hO219 := hO219.ch0 hch429
                          replace hO372 := hO372.ch0 hch429
                          replace hO383 := hO383.ch0 hch429
                          replace hO394 := hO394.ch0 hch429
                          replace hO407 := hO407.ch0 hch429
                          replace hO410 := hO410.ch0 hch429
                          replace hc := hc.step0 hch429
                          refine rw_cons (op_pv (w1y rfl rfl rfl rfl) rfl rfl (pv_not rfl rfl) ?_)
                          refine rw_cons (op_pv (w0 rfl) rfl rfl (pv_pickF (v := (.bool (!true))) rfl rfl rfl) ?_)
                          refine rw_cons (op_pv (w0 rfl) rfl rfl (pv_move (v := (.bool (!true))) rfl rfl) ?_)
                          refine rw_cons (op_pv (w1y rfl rfl rfl rfl) rfl rfl (pv_move (v := (.bool (dec (WriteOK xs0 xs1 a2 xs3)))) rfl rfl) ?_)
                          refine rw_cons (op_pv (w1y rfl rfl rfl rfl) rfl rfl (pv_move (v := (.bool (dec (WriteOK xs0 xs1 a2 xs3)))) rfl rfl) ?_)
                          refine rw_cons (op_pv (w1y rfl rfl rfl rfl) rfl rfl (pv_neBs Try.underlying4 rfl rfl rfl) ?_)
                          refine rw_cons (op_pv (w0 rfl) rfl rfl (pv_pickF (v := (.bool false)) rfl rfl rfl) ?_)
                          refine rw_nil (hK424 _ _ ?_)
                          refine hK422 _ _ ?_
                          refine cw_cond rfl (fun h431 => ?_) (fun h431 => ?_)
                          · -- then
                            cases h431
                          · -- else
                            clear h431
                            refine cw_skip ?_
                            refine hK420 _ _ ?_
                            refine cw_seq fun K432 hK433 => ?_
                            refine cw_region fun K434 hK435 => ?_
                            refine rw_cons (op_pv (w0 rfl) rfl rfl (pv_assign (v := (.int .i64 1)) rfl rfl) ?_)
                            refine rw_nil (hK435 _ _ ?_)
                            refine hK433 _ _ ?_
                            refine cw_seq fun K436 hK437 => ?_
                            refine cw_region fun K438 hK439 => ?_
                            refine rw_cons (op_pv (w0 rfl) rfl rfl (pv_move (v := (.slice A142 (writeV xs0 xs1 a2 xs3).length c143)) rfl rfl) ?_)
                            refine rw_cons (op_pv (w0 rfl) rfl rfl (pv_move (v := (.int .i64 1)) rfl rfl) ?_)
                            refine rw_cons (op_call (w0 rfl) rfl rfl (rc_call C25 rfl rfl) (heldIntS_ok _ (writeV xs0 xs1 a2 xs3).length _ ys300 1 _ (hO144.rs (fun _ => rfl)) (by omega) (by omega) (by omega) hye302) ?_)
                            rintro _ w440 ⟨rfl, hch441⟩
                            have hsz442 := hch441.size
                            replace hR0 := hR0.ch0 hch441
                            replace hR1 := hR1.ch0 hch441
                            replace hR3 := hR3.ch0 hch441
                            replace hO44 := hO44.ch0 hch441
                            replace hO55 := hO55.ch0 hch441
                            replace hO66 := hO66.ch0 hch441
                            replace hO79 := hO79.ch0 hch441
                            replace hO82 := hO82.ch0 hch441
                            replace hO97 := hO97.ch0 hch441
                            replace hO112 := hO112.ch0 hch441
                            replace hO127 := hO127.ch0 hch441
                            replace hO144 := hO144.ch0 hch441
                            replace hO147 := hO147.ch0 hch441
                            replace hO177 := hO177.ch0 hch441
                            replace hO198 := hO198.ch0 hch441
                            replace hO219 := hO219.ch0 hch441
                            replace hO372 := hO372.ch0 hch441
                            replace hO383 := hO383.ch0 hch441
                            replace hO394 := hO394.ch0 hch441
                            replace hO407 := hO407.ch0 hch441
                            replace hO410 := hO410.ch0 hch441
                            replace hc := hc.step0 hch441
                            refine rw_cons (op_pv (w0 rfl) rfl rfl (pv_assign (v := (.int .i64 (1 + (((writeV xs0 xs1 a2 xs3).length) : Int)))) rfl rfl) ?_)
                            refine rw_nil (hK439 _ _ ?_)
                            refine hK437 _ _ ?_
                            refine cw_seq fun K443 hK444 => ?_
                            refine cw_seq fun K445 hK446 => ?_
                            refine cw_region fun K447 hK448 => ?_
                            refine rw_cons (op_pv (w0 rfl) rfl rfl (pv_move (v := (.int .i64 (1 + (((writeV xs0 xs1 a2 xs3).length) : Int)))) rfl rfl) ?_)
                            refine rw_cons (op_pv (w0 rfl) rfl rfl (pv_lss rfl rfl rfl) ?_)
                            refine rw_nil (hK448 _ _ ?_)
                            refine hK446 _ _ ?_
                            refine cw_cond rfl (fun h449 => ?_) (fun h449 => ?_)
                            · -- then
                              replace h449 := of_decide_eq_true h449
                              refine cw_seq fun K450 hK451 => ?_
                              refine cw_region fun K452 hK453 => ?_
                              refine rw_cons (op_pv (w0 rfl) rfl rfl (pv_assign (v := (.bool false)) rfl rfl) ?_)
                              refine rw_nil (hK453 _ _ ?_)
                              refine hK451 _ _ ?_
                              refine cw_ret ?_
                              refine fin1 rfl ?_
                              first
                                | exact ⟨rfl, hc⟩
                                | (exfalso; omega)
                                | exact ⟨congrArg Value.bool (decide_eq_true (by omega)), hc⟩
                                | exact absurd rfl ‹_ ≠ _›
                                | (exfalso; simp_all; done)
                            · -- else
                              replace h449 := of_decide_eq_false h449
                              refine cw_skip ?_
                              refine hK444 _ _ ?_
                              refine cw_seq fun K454 hK455 => ?_
                              refine cw_region fun K456 hK457 => ?_
                              refine rw_cons (op_pv (w0 rfl) rfl rfl (pv_move (v := (.slice A145 (writeS xs0 xs1 a2 xs3).length c146)) rfl rfl) ?_)
                              refine rw_cons (op_pv (w0 rfl) rfl rfl (pv_move (v := (.int .i64 (1 + (((writeV xs0 xs1 a2 xs3).length) : Int)))) rfl rfl) ?_)
                              refine rw_cons (op_call (w0 rfl) rfl rfl (rc_call C25 rfl rfl) (heldIntS_ok _ (writeS xs0 xs1 a2 xs3).length _ ys312 (1 + (((writeV xs0 xs1 a2 xs3).length) : Int)) _ (hO147.rs (fun _ => rfl)) (by omega) (by omega) (by omega) hye314) ?_)
                              rintro _ w458 ⟨rfl, hch459⟩
                              have hsz460 := hch459.size
                              replace hR0 := hR0.ch0 hch459
                              replace hR1 := hR1.ch0 hch459
                              replace hR3 := hR3.ch0 hch459
                              replace hO44 := hO44.ch0 hch459
                              replace hO55 := hO55.ch0 hch459
                              replace hO66 := hO66.ch0 hch459
                              replace hO79 := hO79.ch0 hch459
                              replace hO82 := hO82.ch0 hch459
                              replace hO97 := hO97.ch0 hch459
                              replace hO112 := hO112.ch0 hch459
                              replace hO127 := hO127.ch0 hch459
                              replace hO144 := hO144.ch0 hch459
                              replace hO147 := hO147.ch0 hch459
                              replace hO177 := hO177.ch0 hch459
                              replace hO198 := hO198.ch0 hch459
                              replace hO219 := hO219.ch0 hch459
                              replace hO372 := hO372.ch0 hch459
                              replace hO383 := hO383.ch0 hch459
                              replace hO394 := hO394.ch0 hch459
                              replace hO407 := hO407.ch0 hch459
                              replace hO410 := hO410.ch0 hch459
                              replace hc := hc.step0 hch459
                              refine rw_cons (op_pv (w0 rfl) rfl rfl (pv_assign (v := (.int .i64 ((1 + (((writeV xs0 xs1 a2 xs3).length) : Int)) + (((writeS xs0 xs1 a2 xs3).length) : Int)))) rfl rfl) ?_)
                              refine rw_nil (hK457 _ _ ?_)
                              refine hK455 _ _ ?_
                              refine cw_seq fun K461 hK462 => ?_
                              refine cw_seq fun K463 hK464 => ?_
                              refine cw_region fun K465 hK466 => ?_
                              refine rw_cons (op_pv (w0 rfl) rfl rfl (pv_move (v := (.int .i64 ((1 + (((writeV xs0 xs1 a2 xs3).length) : Int)) + (((writeS xs0 xs1 a2 xs3).length) : Int)))) rfl rfl) ?_)
                              refine rw_cons (op_pv (w0 rfl) rfl rfl (pv_lss rfl rfl rfl) ?_)
                              refine rw_nil (hK466 _ _ ?_)
                              refine hK464 _ _ ?_
                              refine cw_cond rfl (fun h467 => ?_) (fun h467 => ?_)
                              · -- then
                                replace h467 := of_decide_eq_true h467
                                refine cw_seq fun K468 hK469 => ?_
                                refine cw_region fun K470 hK471 => ?_
                                refine rw_cons (op_pv (w0 rfl) rfl rfl (pv_assign (v := (.bool false)) rfl rfl) ?_)
                                refine rw_nil (hK471 _ _ ?_)
                                refine hK469 _ _ ?_
                                refine cw_ret ?_
                                refine fin1 rfl ?_
                                first
                                  | exact ⟨rfl, hc⟩
                                  | (exfalso; omega)
                                  | exact ⟨congrArg Value.bool (decide_eq_true (by omega)), hc⟩
                                  | exact absurd rfl ‹_ ≠ _›
                                  | (exfalso; simp_all; done)
                              · -- else
                                replace h467 := of_decide_eq_false h467
                                refine cw_skip ?_
                                refine hK462 _ _ ?_
                                refine cw_seq fun K472 hK473 => ?_
                                refine cw_seq fun K474 hK475 => ?_
                                refine cw_region fun K476 hK477 => ?_
                                refine rw_cons (op_pv (w0 rfl) rfl rfl (pv_move (v := (.int .i64 ((1 + (((writeV xs0 xs1 a2 xs3).length) : Int)) + (((writeS xs0 xs1 a2 xs3).length) : Int)))) rfl rfl) ?_)
                                refine rw_cons (op_pv (w0 rfl) rfl rfl (pv_move (v := (.int .i64 ((1 + (((writeV xs0 xs1 a2 xs3).length) : Int)) + (((writeS xs0 xs1 a2 xs3).length) : Int)))) rfl rfl) ?_)
                                refine rw_cons (op_pv (w0 rfl) rfl rfl (pv_nes rfl rfl rfl) ?_)
                                refine rw_nil (hK477 _ _ ?_)
                                refine hK475 _ _ ?_
                                refine cw_cond rfl (fun h478 => ?_) (fun h478 => ?_)
                                · -- then
                                  cases h478
                                · -- else
                                  clear h478
                                  refine cw_skip ?_
                                  refine hK473 _ _ ?_
                                  refine cw_seq fun K479 hK480 => ?_
                                  refine cw_region fun K481 hK482 => ?_
                                  refine rw_cons (op_pv (w0 rfl) rfl rfl (pv_assign (v := (.bool true)) rfl rfl) ?_)
                                  refine rw_nil (hK482 _ _ ?_)
                                  refine hK480 _ _ ?_
                                  refine cw_ret ?_
                                  refine fin1 rfl ?_
                                  first
                                    | exact ⟨rfl, hc⟩
                                    | (exfalso; omega)
                                    | exact ⟨congrArg Value.bool (decide_eq_true (by omega)), hc⟩
                                    | exact absurd rfl ‹_ ≠ _›
                                    | (exfalso; simp_all; done)
end Go.Proofs.Ythgnnpafieifmaa
