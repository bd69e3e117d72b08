/-
  The walk of laws.FnExactFileAt, written by program: each line names the law of one operation. Conditions: those of the theorem.
-/
import Derived.Test.YthgnlljpjpklpaaProg
import Derived.Test.YthgnlljpjpklpaaDeep
import Derived.Test.YthgnlljpjpklpaaFlawsszFileS
import Derived.Test.YthgnlljpjpklpaaFlawstoFileS
import Derived.Test.YthgnlljpjpklpaaFlawseqFileS
import Derived.Test.YthgnlljpjpklpaaFimplFileAt
import Derived.Test.YthgnlljpjpklpaaFspecFileAt
import Derived.KernelRfl
namespace Go.Proofs.Ythgnlljpjpklpaa
open Go Go.RowKit
set_option linter.unusedVariables false
set_option linter.unusedSimpArgs false
namespace FnExactFileAt_okF
theorem C18 : Callable Try.prog 18 := ⟨_, Try.func18, by kernel_rfl, by kernel_rfl⟩
theorem C20 : Callable Try.prog 20 := ⟨_, Try.func20, by kernel_rfl, by kernel_rfl⟩
theorem C22 : Callable Try.prog 22 := ⟨_, Try.func22, by kernel_rfl, by kernel_rfl⟩
theorem C36 : Callable Try.prog 36 := ⟨_, Try.func36, by kernel_rfl, by kernel_rfl⟩
theorem C37 : Callable Try.prog 37 := ⟨_, Try.func37, by kernel_rfl, by kernel_rfl⟩
end FnExactFileAt_okF
open FnExactFileAt_okF in
set_option maxHeartbeats 4000000 in
theorem FnExactFileAt_ok (A0 : Option Addr) (n0 c0 : Nat) (xs0 : List Fl) (s1 : ByteArray) (a2 : Int) (w : World) (hR0 : RS encF 2 w w.heap.size A0 n0 xs0) (hn0 : n0 ≤ c0) (hm0 : c0 ≤ maxLen) (hD0 : DX 0 w.heap.size [] w xs0) (hz0 : ∀ k, k < xs0.length → (el xs0 k).nm.size ≤ maxLen ∧ (el xs0 k).n ≤ maxLen) (hs1 : s1.size ≤ maxLen) (ha2 : -9223372036854775808 ≤ a2) (hb2 : a2 ≤ 9223372036854775807) :
    Fn Try.prog 10 [(.slice A0 n0 c0), (.string s1), (.int .i64 a2)] w fun v w' => v = .bool true ∧ Ch [] w w' := by
  have hlen0 := hR0.len
  unfold maxLen at *
  refine fn_of (n := 60) Try.func10 rfl rfl rfl rfl ?_
  have hc : Ch [] w w := Ch.refl _ _
  refine cw_seq fun K1 hK2 => ?_
  refine cw_region fun K3 hK4 => ?_
  refine rw_cons (op_pv (w0 rfl) rfl rfl (pv_assign (v := (.bool false)) rfl rfl) ?_)
  refine rw_nil (hK4 _ _ ?_)
  refine hK2 _ _ ?_
  refine cw_seq fun K5 hK6 => ?_
  refine cw_seq fun K7 hK8 => ?_
  refine cw_region fun K9 hK10 => ?_
  refine rw_cons (op_pv (w0 rfl) rfl rfl (pv_move (v := (.string s1)) rfl rfl) ?_)
  refine rw_cons (op_pv (w0 rfl) rfl rfl (pv_lenS Try.underlying9 rfl rfl) ?_)
  refine rw_cons (op_pv (w0 rfl) rfl rfl (pv_gtr rfl rfl rfl) ?_)
  refine rw_nil (hK10 _ _ ?_)
  refine hK8 _ _ ?_
  refine cw_cond rfl (fun h11 => ?_) (fun h11 => ?_)
  · -- then
    replace h11 := of_decide_eq_true h11
    refine cw_seq fun K12 hK13 => ?_
    refine cw_region fun K14 hK15 => ?_
    refine rw_cons (op_pv (w0 rfl) rfl rfl (pv_assign (v := (.bool true)) rfl rfl) ?_)
    refine rw_nil (hK15 _ _ ?_)
    refine hK13 _ _ ?_
    refine cw_ret ?_
    refine fin1 rfl ?_
    first
      | exact ⟨rfl, hc⟩
      | (exfalso; omega)
      | exact absurd rfl (by assumption)
      | exact absurd (by simp only [*]) (by assumption)
  · -- else
    replace h11 := of_decide_eq_false h11
    refine cw_skip ?_
    refine hK6 _ _ ?_
    refine cw_seq fun K16 hK17 => ?_
    refine cw_region fun K18 hK19 => ?_
    refine rw_cons (op_pv (w0 rfl) rfl rfl (pv_assign (v := (.int .i64 1048576)) rfl rfl) ?_)
    refine rw_nil (hK19 _ _ ?_)
    refine hK17 _ _ ?_
    refine cw_seq fun K20 hK21 => ?_
    refine cw_region fun K22 hK23 => ?_
    refine rw_cons (op_pv (w0 rfl) rfl rfl (pv_move (v := (.slice A0 n0 c0)) rfl rfl) ?_)
    refine rw_cons (op_pv (w0 rfl) rfl rfl (pv_move (v := (.int .i64 1048576)) rfl rfl) ?_)
    refine rw_cons (op_call (w0 rfl) rfl rfl (rc_call C18 rfl rfl) (szFileS_ok _ n0 _ xs0 1048576 _ (hR0.more (by omega)) (hD0.any (by omega)) (by omega) (by omega) (by assumption)) ?_)
    rintro _ w24 ⟨r25, rfl, hr26, hch27⟩
    have hsz28 := hch27.size
    replace hR0 := hR0.ch0 hch27
    replace hD0 := hD0.ch0 hch27
    replace hc := hc.step0 hch27
    refine rw_cons (op_pv (w0 rfl) rfl rfl (pv_assign (v := (.int .i64 r25)) rfl rfl) ?_)
    refine rw_nil (hK23 _ _ ?_)
    refine hK21 _ _ ?_
    refine cw_seq fun K29 hK30 => ?_
    refine cw_seq fun K31 hK32 => ?_
    refine cw_region fun K33 hK34 => ?_
    refine rw_cons (op_pv (w0 rfl) rfl rfl (pv_move (v := (.int .i64 r25)) rfl rfl) ?_)
    refine rw_cons (op_pv (w0 rfl) rfl rfl (pv_lss rfl rfl rfl) ?_)
    refine rw_nil (hK34 _ _ ?_)
    refine hK32 _ _ ?_
    refine cw_cond rfl (fun h35 => ?_) (fun h35 => ?_)
    · -- then
      replace h35 := of_decide_eq_true h35
      refine cw_seq fun K36 hK37 => ?_
      refine cw_region fun K38 hK39 => ?_
      refine rw_cons (op_pv (w0 rfl) rfl rfl (pv_assign (v := (.bool true)) rfl rfl) ?_)
      refine rw_nil (hK39 _ _ ?_)
      refine hK37 _ _ ?_
      refine cw_ret ?_
      refine fin1 rfl ?_
      first
        | exact ⟨rfl, hc⟩
        | (exfalso; omega)
        | exact absurd rfl (by assumption)
        | exact absurd (by simp only [*]) (by assumption)
    · -- else
      replace h35 := of_decide_eq_false h35
      refine cw_skip ?_
      refine hK30 _ _ ?_
      refine cw_seq fun K40 hK41 => ?_
      have hZsz : SzOK xs0 := by rcases hr26 with h9 | h9 <;> first | omega | exact h9.2.2
      have hn20 : n0 ≤ 1048576 := by omega
      refine cw_region fun K42 hK43 => ?_
      refine rw_cons (op_pv (w0 rfl) rfl rfl (pv_move (v := (.slice A0 n0 c0)) rfl rfl) ?_)
      refine rw_cons (op_call (w0 rfl) rfl rfl (rc_call C20 rfl rfl) (toFileS_ok _ n0 _ xs0 _ (hR0.more (by omega)) (hD0.any (by omega)) (by first | assumption | omega) (by omega)) ?_)
      rintro _ w44 ⟨A46, c47, hs48, rfl, hO49, hDO50, hfe51, hZ52, hch45⟩
      have hsz53 := hch45.size
      replace hR0 := hR0.ch0 hch45
      replace hD0 := hD0.ch0 hch45
      replace hc := hc.step0 hch45
      have hub54 := hO49.lt
      have hcap55 : hs48.length ≤ c47 := by obtain ⟨_, _, hv, h1, _⟩ := hO49.form; injection hv with _ _ h3; omega
      have hfl56 : hs48.length = (fvs xs0).length := by rw [← hfe51, fvs_len]
      try rw [fvs_len] at hfl56
      refine rw_cons (op_pv (w0 rfl) rfl rfl (pv_move (v := (.string s1)) rfl rfl) ?_)
      refine rw_cons (op_pv (w0 rfl) rfl rfl (pv_move (v := (.int .i64 a2)) rfl rfl) ?_)
      refine rw_cons (op_call (w0 rfl) rfl rfl (rc_call C37 rfl rfl) (FileAt_s _ hs48.length _ hs48 s1 a2 _ (hO49.rs (fun _ => rfl)) (hDO50.any (by omega)) (by first | assumption | exact SzOK.nil) (by omega) (by omega) (by omega)) ?_)
      rintro _ w57 ⟨rfl, hch58⟩
      try rw [hfe51]
      have hsz59 := hch58.size
      replace hR0 := hR0.ch0 hch58
      replace hD0 := hD0.ch0 hch58
      replace hO49 := hO49.ch0 hch58
      replace hDO50 := hDO50.ch0 hch58
      replace hc := hc.step0 hch58
      refine rw_cons (op_pv (w0 rfl) rfl rfl (pv_move (v := (.tuple #[(.int .i64 (atN (fvs xs0) s1 a2)), (.int .i64 (atK (fvs xs0) s1 a2)), (.bool (dec (AtOK (fvs xs0) s1 a2)))])) rfl rfl) ?_)
      refine rw_cons (op_pv (w0 rfl) rfl rfl (pv_ext (v := (.int .i64 (atN (fvs xs0) s1 a2))) rfl rfl rfl) ?_)
      refine rw_cons (op_pv (w0 rfl) rfl rfl (pv_ext (v := (.int .i64 (atK (fvs xs0) s1 a2))) rfl rfl rfl) ?_)
      refine rw_cons (op_pv (w0 rfl) rfl rfl (pv_ext (v := (.bool (dec (AtOK (fvs xs0) s1 a2)))) rfl rfl rfl) ?_)
      refine rw_cons (op_pv (w0 rfl) rfl rfl (pv_assign (v := (.int .i64 (atN (fvs xs0) s1 a2))) rfl rfl) ?_)
      refine rw_cons (op_pv (w0 rfl) rfl rfl (pv_assign (v := (.int .i64 (atK (fvs xs0) s1 a2))) rfl rfl) ?_)
      refine rw_cons (op_pv (w0 rfl) rfl rfl (pv_assign (v := (.bool (dec (AtOK (fvs xs0) s1 a2)))) rfl rfl) ?_)
      refine rw_nil (hK43 _ _ ?_)
      refine hK41 _ _ ?_
      refine cw_seq fun K60 hK61 => ?_
      refine cw_region fun K62 hK63 => ?_
      refine rw_cons (op_pv (w0 rfl) rfl rfl (pv_move (v := (.slice A0 n0 c0)) rfl rfl) ?_)
      refine rw_cons (op_call (w0 rfl) rfl rfl (rc_call C20 rfl rfl) (toFileS_ok _ n0 _ xs0 _ (hR0.more (by omega)) (hD0.any (by omega)) (by first | assumption | omega) (by omega)) ?_)
      rintro _ w64 ⟨A66, c67, hs68, rfl, hO69, hDO70, hfe71, hZ72, hch65⟩
      have hsz73 := hch65.size
      replace hR0 := hR0.ch0 hch65
      replace hD0 := hD0.ch0 hch65
      replace hO49 := hO49.ch0 hch65
      replace hDO50 := hDO50.ch0 hch65
      replace hc := hc.step0 hch65
      have hub74 := hO69.lt
      have hcap75 : hs68.length ≤ c67 := by obtain ⟨_, _, hv, h1, _⟩ := hO69.form; injection hv with _ _ h3; omega
      have hfl76 : hs68.length = (fvs xs0).length := by rw [← hfe71, fvs_len]
      try rw [fvs_len] at hfl76
      refine rw_cons (op_pv (w0 rfl) rfl rfl (pv_assign (v := (.slice A66 hs68.length c67)) rfl rfl) ?_)
      refine rw_nil (hK63 _ _ ?_)
      refine hK61 _ _ ?_
      refine cw_seq fun K77 hK78 => ?_
      refine cw_region fun K79 hK80 => ?_
      refine rw_cons (op_pv (w0 rfl) rfl rfl (pv_move (v := (.slice A66 hs68.length c67)) rfl rfl) ?_)
      refine rw_cons (op_pv (w0 rfl) rfl rfl (pv_move (v := (.string s1)) rfl rfl) ?_)
      refine rw_cons (op_pv (w0 rfl) rfl rfl (pv_move (v := (.int .i64 a2)) rfl rfl) ?_)
      refine rw_cons (op_call (w0 rfl) rfl rfl (rc_call C36 rfl rfl) (FileAt_i _ hs68.length _ hs68 s1 a2 _ (hO69.rs (fun _ => rfl)) (hDO70.any (by omega)) (by first | assumption | exact SzOK.nil) (by omega) (by omega)) ?_)
      rintro _ w81 ⟨rfl, hch82⟩
      try rw [hfe71]
      have hsz83 := hch82.size
      replace hR0 := hR0.ch0 hch82
      replace hD0 := hD0.ch0 hch82
      replace hO49 := hO49.ch0 hch82
      replace hDO50 := hDO50.ch0 hch82
      replace hO69 := hO69.ch0 hch82
      replace hDO70 := hDO70.ch0 hch82
      replace hc := hc.step0 hch82
      refine rw_cons (op_pv (w0 rfl) rfl rfl (pv_move (v := (.tuple #[(.int .i64 (atN (fvs xs0) s1 a2)), (.int .i64 (atK (fvs xs0) s1 a2)), (.bool (dec (AtOK (fvs xs0) s1 a2)))])) rfl rfl) ?_)
      refine rw_cons (op_pv (w0 rfl) rfl rfl (pv_ext (v := (.int .i64 (atN (fvs xs0) s1 a2))) rfl rfl rfl) ?_)
      refine rw_cons (op_pv (w0 rfl) rfl rfl (pv_ext (v := (.int .i64 (atK (fvs xs0) s1 a2))) rfl rfl rfl) ?_)
      refine rw_cons (op_pv (w0 rfl) rfl rfl (pv_ext (v := (.bool (dec (AtOK (fvs xs0) s1 a2)))) rfl rfl rfl) ?_)
      refine rw_cons (op_pv (w0 rfl) rfl rfl (pv_assign (v := (.int .i64 (atN (fvs xs0) s1 a2))) rfl rfl) ?_)
      refine rw_cons (op_pv (w0 rfl) rfl rfl (pv_assign (v := (.int .i64 (atK (fvs xs0) s1 a2))) rfl rfl) ?_)
      refine rw_cons (op_pv (w0 rfl) rfl rfl (pv_assign (v := (.bool (dec (AtOK (fvs xs0) s1 a2)))) rfl rfl) ?_)
      refine rw_nil (hK80 _ _ ?_)
      refine hK78 _ _ ?_
      refine cw_seq fun K84 hK85 => ?_
      refine cw_seq fun K86 hK87 => ?_
      refine cw_region fun K88 hK89 => ?_
      refine rw_cons (op_pv (w0 rfl) rfl rfl (pv_move (v := (.int .i64 (atN (fvs xs0) s1 a2))) rfl rfl) ?_)
      refine rw_cons (op_pv (w0 rfl) rfl rfl (pv_move (v := (.int .i64 (atN (fvs xs0) s1 a2))) rfl rfl) ?_)
      refine rw_cons (op_pv (w0 rfl) rfl rfl (pv_nes rfl rfl rfl) ?_)
      refine rw_cons (op_pv (w0 rfl) rfl rfl (pv_move (v := (.bool false)) rfl rfl) ?_)
      refine rw_cons (op_pv (w1y rfl rfl rfl rfl) rfl rfl (pv_move (v := (.int .i64 (atK (fvs xs0) s1 a2))) rfl rfl) ?_)
      refine rw_cons (op_pv (w1y rfl rfl rfl rfl) rfl rfl (pv_move (v := (.int .i64 (atK (fvs xs0) s1 a2))) rfl rfl) ?_)
      refine rw_cons (op_pv (w1y rfl rfl rfl rfl) rfl rfl (pv_nes rfl rfl rfl) ?_)
      refine rw_cons (op_pv (w0 rfl) rfl rfl (pv_pickF (v := (.bool false)) rfl rfl rfl) ?_)
      refine rw_cons (op_pv (w0 rfl) rfl rfl (pv_move (v := (.bool false)) rfl rfl) ?_)
      refine rw_cons (op_pv (w1y rfl rfl rfl rfl) rfl rfl (pv_move (v := (.bool (dec (AtOK (fvs xs0) s1 a2)))) rfl rfl) ?_)
      refine rw_cons (op_pv (w1y rfl rfl rfl rfl) rfl rfl (pv_move (v := (.bool (dec (AtOK (fvs xs0) s1 a2)))) rfl rfl) ?_)
      refine rw_cons (op_pv (w1y rfl rfl rfl rfl) rfl rfl (pv_neBs Try.underlying4 rfl rfl rfl) ?_)
      refine rw_cons (op_pv (w0 rfl) rfl rfl (pv_pickF (v := (.bool false)) rfl rfl rfl) ?_)
      refine rw_nil (hK89 _ _ ?_)
      refine hK87 _ _ ?_
      refine cw_cond rfl (fun h90 => ?_) (fun h90 => ?_)
      · -- then
        cases h90
      · -- else
        clear h90
        refine cw_skip ?_
        refine hK85 _ _ ?_
        refine cw_seq fun K91 hK92 => ?_
        refine cw_seq fun K93 hK94 => ?_
        refine cw_region fun K95 hK96 => ?_
        refine rw_cons (op_pv (w0 rfl) rfl rfl (pv_move (v := (.slice A66 hs68.length c67)) rfl rfl) ?_)
        refine rw_cons (op_pv (w0 rfl) rfl rfl (pv_move (v := (.slice A0 n0 c0)) rfl rfl) ?_)
        refine rw_cons (op_call (w0 rfl) rfl rfl (rc_call C20 rfl rfl) (toFileS_ok _ n0 _ xs0 _ (hR0.more (by omega)) (hD0.any (by omega)) (by first | assumption | omega) (by omega)) ?_)
        rintro _ w97 ⟨A99, c100, hs101, rfl, hO102, hDO103, hfe104, hZ105, hch98⟩
        have hsz106 := hch98.size
        replace hR0 := hR0.ch0 hch98
        replace hD0 := hD0.ch0 hch98
        replace hO49 := hO49.ch0 hch98
        replace hDO50 := hDO50.ch0 hch98
        replace hO69 := hO69.ch0 hch98
        replace hDO70 := hDO70.ch0 hch98
        replace hc := hc.step0 hch98
        have hub107 := hO102.lt
        have hcap108 : hs101.length ≤ c100 := by obtain ⟨_, _, hv, h1, _⟩ := hO102.form; injection hv with _ _ h3; omega
        have hfl109 : hs101.length = (fvs xs0).length := by rw [← hfe104, fvs_len]
        try rw [fvs_len] at hfl109
        refine rw_cons (op_call (w0 rfl) rfl rfl (rc_call C22 rfl rfl) (eqFileS_ok _ hs68.length _ hs68 _ hs101.length _ hs101 _ (hO69.rs (fun _ => rfl)) (hDO70.any (by omega)) (by first | assumption | exact SzOK.nil) (by omega) (hO102.rs (fun _ => rfl)) (hDO103.any (by omega)) (by first | assumption | exact SzOK.nil) (by omega)) ?_)
        rintro _ w110 ⟨rfl, hch111⟩
        try rw [hfe71]
        try rw [hfe104]
        have hsz112 := hch111.size
        replace hR0 := hR0.ch0 hch111
        replace hD0 := hD0.ch0 hch111
        replace hO49 := hO49.ch0 hch111
        replace hDO50 := hDO50.ch0 hch111
        replace hO69 := hO69.ch0 hch111
        replace hDO70 := hDO70.ch0 hch111
        replace hO102 := hO102.ch0 hch111
        replace hDO103 := hDO103.ch0 hch111
        replace hc := hc.step0 hch111
        refine rw_cons (op_pv (w0 rfl) rfl rfl (pv_not rfl rfl) ?_)
        refine rw_nil (hK96 _ _ ?_)
        refine hK94 _ _ ?_
        refine cw_cond rfl (fun h113 => ?_) (fun h113 => ?_)
        · -- then
          replace h113 := not_t h113
          replace h113 := dec_f h113
          refine cw_seq fun K114 hK115 => ?_
          refine cw_region fun K116 hK117 => ?_
          refine rw_cons (op_pv (w0 rfl) rfl rfl (pv_assign (v := (.bool false)) rfl rfl) ?_)
          refine rw_nil (hK117 _ _ ?_)
          refine hK115 _ _ ?_
          refine cw_ret ?_
          refine fin1 rfl ?_
          first
            | exact ⟨rfl, hc⟩
            | (exfalso; omega)
            | exact absurd rfl (by assumption)
            | exact absurd (by simp only [*]) (by assumption)
        · -- else
          replace h113 := not_f h113
          replace h113 := dec_t h113
          refine cw_skip ?_
          refine hK92 _ _ ?_
          refine cw_seq fun K118 hK119 => ?_
          refine cw_region fun K120 hK121 => ?_
          refine rw_cons (op_pv (w0 rfl) rfl rfl (pv_assign (v := (.bool true)) rfl rfl) ?_)
          refine rw_nil (hK121 _ _ ?_)
          refine hK119 _ _ ?_
          refine cw_ret ?_
          refine fin1 rfl ?_
          first
            | exact ⟨rfl, hc⟩
            | (exfalso; omega)
            | exact absurd rfl (by assumption)
            | exact absurd (by simp only [*]) (by assumption)
end Go.Proofs.Ythgnlljpjpklpaa
