/-
  The walk of laws.FnExactFileGrow, written by program: each line names the law of one operation. Conditions: those of the theorem.
-/
import Derived.Test.YthgnlljpjpklpaaProg
import Derived.Test.YthgnlljpjpklpaaDeep
import Derived.Test.YthgnlljpjpklpaaFlawsszFileS
import Derived.Test.YthgnlljpjpklpaaFlawstoFileS
import Derived.Test.YthgnlljpjpklpaaFlawseqFileS
import Derived.Test.YthgnlljpjpklpaaMark
import Derived.Test.YthgnlljpjpklpaaFlawsmarkFileS
import Derived.Test.YthgnlljpjpklpaaFlawsheldFileS
import Derived.Test.YthgnlljpjpklpaaFimplFileGrow
import Derived.Test.YthgnlljpjpklpaaFspecFileGrow
import Derived.KernelRfl
namespace Go.Proofs.Ythgnlljpjpklpaa
open Go Go.RowKit
set_option linter.unusedVariables false
set_option linter.unusedSimpArgs false
namespace FnExactFileGrow_okF
theorem C18 : Callable Try.prog 18 := ⟨_, Try.func18, by kernel_rfl, by kernel_rfl⟩
theorem C20 : Callable Try.prog 20 := ⟨_, Try.func20, by kernel_rfl, by kernel_rfl⟩
theorem C22 : Callable Try.prog 22 := ⟨_, Try.func22, by kernel_rfl, by kernel_rfl⟩
theorem C24 : Callable Try.prog 24 := ⟨_, Try.func24, by kernel_rfl, by kernel_rfl⟩
theorem C26 : Callable Try.prog 26 := ⟨_, Try.func26, by kernel_rfl, by kernel_rfl⟩
theorem C33 : Callable Try.prog 33 := ⟨_, Try.func33, by kernel_rfl, by kernel_rfl⟩
theorem C34 : Callable Try.prog 34 := ⟨_, Try.func34, by kernel_rfl, by kernel_rfl⟩
end FnExactFileGrow_okF
open FnExactFileGrow_okF in
set_option maxHeartbeats 4000000 in
theorem FnExactFileGrow_ok (A0 : Option Addr) (n0 c0 : Nat) (xs0 : List Fl) (s1 : ByteArray) (w : World) (hR0 : RS encF 2 w w.heap.size A0 n0 xs0) (hn0 : n0 ≤ c0) (hm0 : c0 ≤ maxLen) (hD0 : DX 0 w.heap.size [] w xs0) (hz0 : ∀ k, k < xs0.length → (el xs0 k).nm.size ≤ maxLen ∧ (el xs0 k).n ≤ maxLen) (hs1 : s1.size ≤ maxLen) :
    Fn Try.prog 6 [(.slice A0 n0 c0), (.string s1)] w fun v w' => v = .bool true ∧ Ch [] w w' := by
  have hlen0 := hR0.len
  unfold maxLen at *
  refine fn_of (n := 125) Try.func6 rfl rfl rfl rfl ?_
  have hc : Ch [] w w := Ch.refl _ _
  refine cw_seq fun K1 hK2 => ?_
  refine cw_region fun K3 hK4 => ?_
  refine rw_cons (op_pv (w0 rfl) rfl rfl (pv_assign (v := (.bool false)) rfl rfl) ?_)
  refine rw_nil (hK4 _ _ ?_)
  refine hK2 _ _ ?_
  refine cw_seq fun K5 hK6 => ?_
  refine cw_seq fun K7 hK8 => ?_
  refine cw_region fun K9 hK10 => ?_
  refine rw_cons (op_pv (w0 rfl) rfl rfl (pv_move (v := (.string s1)) rfl rfl) ?_)
  refine rw_cons (op_pv (w0 rfl) rfl rfl (pv_lenS Try.underlying9 rfl rfl) ?_)
  refine rw_cons (op_pv (w0 rfl) rfl rfl (pv_gtr rfl rfl rfl) ?_)
  refine rw_nil (hK10 _ _ ?_)
  refine hK8 _ _ ?_
  refine cw_cond rfl (fun h11 => ?_) (fun h11 => ?_)
  · -- then
    replace h11 := of_decide_eq_true h11
    refine cw_seq fun K12 hK13 => ?_
    refine cw_region fun K14 hK15 => ?_
    refine rw_cons (op_pv (w0 rfl) rfl rfl (pv_assign (v := (.bool true)) rfl rfl) ?_)
    refine rw_nil (hK15 _ _ ?_)
    refine hK13 _ _ ?_
    refine cw_ret ?_
    refine fin1 rfl ?_
    first
      | exact ⟨rfl, hc⟩
      | (exfalso; omega)
      | exact absurd rfl (by assumption)
      | exact absurd (by simp only [*]) (by assumption)
  · -- else
    replace h11 := of_decide_eq_false h11
    refine cw_skip ?_
    refine hK6 _ _ ?_
    refine cw_seq fun K16 hK17 => ?_
    refine cw_region fun K18 hK19 => ?_
    refine rw_cons (op_pv (w0 rfl) rfl rfl (pv_assign (v := (.int .i64 1048576)) rfl rfl) ?_)
    refine rw_nil (hK19 _ _ ?_)
    refine hK17 _ _ ?_
    refine cw_seq fun K20 hK21 => ?_
    refine cw_region fun K22 hK23 => ?_
    refine rw_cons (op_pv (w0 rfl) rfl rfl (pv_move (v := (.slice A0 n0 c0)) rfl rfl) ?_)
    refine rw_cons (op_pv (w0 rfl) rfl rfl (pv_move (v := (.int .i64 1048576)) rfl rfl) ?_)
    refine rw_cons (op_call (w0 rfl) rfl rfl (rc_call C18 rfl rfl) (szFileS_ok _ n0 _ xs0 1048576 _ (hR0.more (by omega)) (hD0.any (by omega)) (by omega) (by omega) (by assumption)) ?_)
    rintro _ w24 ⟨r25, rfl, hr26, hch27⟩
    have hsz28 := hch27.size
    replace hR0 := hR0.ch0 hch27
    replace hD0 := hD0.ch0 hch27
    replace hc := hc.step0 hch27
    refine rw_cons (op_pv (w0 rfl) rfl rfl (pv_assign (v := (.int .i64 r25)) rfl rfl) ?_)
    refine rw_nil (hK23 _ _ ?_)
    refine hK21 _ _ ?_
    refine cw_seq fun K29 hK30 => ?_
    refine cw_seq fun K31 hK32 => ?_
    refine cw_region fun K33 hK34 => ?_
    refine rw_cons (op_pv (w0 rfl) rfl rfl (pv_move (v := (.int .i64 r25)) rfl rfl) ?_)
    refine rw_cons (op_pv (w0 rfl) rfl rfl (pv_lss rfl rfl rfl) ?_)
    refine rw_nil (hK34 _ _ ?_)
    refine hK32 _ _ ?_
    refine cw_cond rfl (fun h35 => ?_) (fun h35 => ?_)
    · -- then
      replace h35 := of_decide_eq_true h35
      refine cw_seq fun K36 hK37 => ?_
      refine cw_region fun K38 hK39 => ?_
      refine rw_cons (op_pv (w0 rfl) rfl rfl (pv_assign (v := (.bool true)) rfl rfl) ?_)
      refine rw_nil (hK39 _ _ ?_)
      refine hK37 _ _ ?_
      refine cw_ret ?_
      refine fin1 rfl ?_
      first
        | exact ⟨rfl, hc⟩
        | (exfalso; omega)
        | exact absurd rfl (by assumption)
        | exact absurd (by simp only [*]) (by assumption)
    · -- else
      replace h35 := of_decide_eq_false h35
      refine cw_skip ?_
      refine hK30 _ _ ?_
      refine cw_seq fun K40 hK41 => ?_
      have hZsz : SzOK xs0 := by rcases hr26 with h9 | h9 <;> first | omega | exact h9.2.2
      have hn20 : n0 ≤ 1048576 := by omega
      refine cw_region fun K42 hK43 => ?_
      refine rw_cons (op_pv (w0 rfl) rfl rfl (pv_move (v := (.slice A0 n0 c0)) rfl rfl) ?_)
      refine rw_cons (op_call (w0 rfl) rfl rfl (rc_call C20 rfl rfl) (toFileS_ok _ n0 _ xs0 _ (hR0.more (by omega)) (hD0.any (by omega)) (by first | assumption | omega) (by omega)) ?_)
      rintro _ w44 ⟨A46, c47, hs48, rfl, hO49, hDO50, hfe51, hZ52, hch45⟩
      have hsz53 := hch45.size
      replace hR0 := hR0.ch0 hch45
      replace hD0 := hD0.ch0 hch45
      replace hc := hc.step0 hch45
      have hub54 := hO49.lt
      have hcap55 : hs48.length ≤ c47 := by obtain ⟨_, _, hv, h1, _⟩ := hO49.form; injection hv with _ _ h3; omega
      have hfl56 : hs48.length = (fvs xs0).length := by rw [← hfe51, fvs_len]
      try rw [fvs_len] at hfl56
      refine rw_cons (op_pv (w0 rfl) rfl rfl (pv_move (v := (.string s1)) rfl rfl) ?_)
      refine rw_cons (op_call (w0 rfl) rfl rfl (rc_call C33 rfl rfl) (FileGrow_s _ hs48.length _ hs48 s1 _ (hO49.rs (fun _ => rfl)) (hDO50.any (by omega)) (by first | assumption | exact SzOK.nil) (by omega) (by omega)) ?_)
      rintro _ w57 ⟨A59, c60, hs61, rfl, hO62, hDO63, hfe64, hZ65, hch58⟩
      try rw [hfe51]
      try rw [hfe51] at hfe64
      have hsz66 := hch58.size
      replace hR0 := hR0.ch0 hch58
      replace hD0 := hD0.ch0 hch58
      replace hO49 := hO49.ch0 hch58
      replace hDO50 := hDO50.ch0 hch58
      replace hc := hc.step0 hch58
      have hub67 := hO62.lt
      have hcap68 : hs61.length ≤ c60 := by obtain ⟨_, _, hv, h1, _⟩ := hO62.form; injection hv with _ _ h3; omega
      have hfl69 : hs61.length = (growV (fvs xs0) s1).length := by rw [← hfe64, fvs_len]
      try simp only [fvs_len, List.length_take, List.length_drop] at hfl69
      have hnt70 := growV_le (fvs xs0) s1
      have hnt71 := growN_bd (fvs xs0) s1
      refine rw_cons (op_pv (w0 rfl) rfl rfl (pv_move (v := (.tuple #[(.slice A59 hs61.length c60), (.int .i64 (growN (fvs xs0) s1)), (.bool (dec (GrowOK (fvs xs0) s1)))])) rfl rfl) ?_)
      refine rw_cons (op_pv (w0 rfl) rfl rfl (pv_ext (v := (.slice A59 hs61.length c60)) rfl rfl rfl) ?_)
      refine rw_cons (op_pv (w0 rfl) rfl rfl (pv_ext (v := (.int .i64 (growN (fvs xs0) s1))) rfl rfl rfl) ?_)
      refine rw_cons (op_pv (w0 rfl) rfl rfl (pv_ext (v := (.bool (dec (GrowOK (fvs xs0) s1)))) rfl rfl rfl) ?_)
      refine rw_cons (op_pv (w0 rfl) rfl rfl (pv_assign (v := (.slice A59 hs61.length c60)) rfl rfl) ?_)
      refine rw_cons (op_pv (w0 rfl) rfl rfl (pv_assign (v := (.int .i64 (growN (fvs xs0) s1))) rfl rfl) ?_)
      refine rw_cons (op_pv (w0 rfl) rfl rfl (pv_assign (v := (.bool (dec (GrowOK (fvs xs0) s1)))) rfl rfl) ?_)
      refine rw_nil (hK43 _ _ ?_)
      refine hK41 _ _ ?_
      refine cw_seq fun K72 hK73 => ?_
      refine cw_region fun K74 hK75 => ?_
      refine rw_cons (op_pv (w0 rfl) rfl rfl (pv_move (v := (.slice A0 n0 c0)) rfl rfl) ?_)
      refine rw_cons (op_call (w0 rfl) rfl rfl (rc_call C20 rfl rfl) (toFileS_ok _ n0 _ xs0 _ (hR0.more (by omega)) (hD0.any (by omega)) (by first | assumption | omega) (by omega)) ?_)
      rintro _ w76 ⟨A78, c79, hs80, rfl, hO81, hDO82, hfe83, hZ84, hch77⟩
      have hsz85 := hch77.size
      replace hR0 := hR0.ch0 hch77
      replace hD0 := hD0.ch0 hch77
      replace hO49 := hO49.ch0 hch77
      replace hDO50 := hDO50.ch0 hch77
      replace hO62 := hO62.ch0 hch77
      replace hDO63 := hDO63.ch0 hch77
      replace hc := hc.step0 hch77
      have hub86 := hO81.lt
      have hcap87 : hs80.length ≤ c79 := by obtain ⟨_, _, hv, h1, _⟩ := hO81.form; injection hv with _ _ h3; omega
      have hfl88 : hs80.length = (fvs xs0).length := by rw [← hfe83, fvs_len]
      try rw [fvs_len] at hfl88
      refine rw_cons (op_pv (w0 rfl) rfl rfl (pv_assign (v := (.slice A78 hs80.length c79)) rfl rfl) ?_)
      refine rw_nil (hK75 _ _ ?_)
      refine hK73 _ _ ?_
      refine cw_seq fun K89 hK90 => ?_
      refine cw_region fun K91 hK92 => ?_
      refine rw_cons (op_pv (w0 rfl) rfl rfl (pv_move (v := (.slice A78 hs80.length c79)) rfl rfl) ?_)
      refine rw_cons (op_pv (w0 rfl) rfl rfl (pv_move (v := (.string s1)) rfl rfl) ?_)
      refine rw_cons (op_call (w0 rfl) rfl rfl (rc_call C34 rfl rfl) (FileGrow_i _ hs80.length _ hs80 s1 _ (hO81.rs (fun _ => rfl)) (hDO82.any (by omega)) (by first | assumption | exact SzOK.nil) (by omega)) ?_)
      rintro _ w93 ⟨A95, c96, hs97, rfl, hO98, hDO99, hfe100, hZ101, hch94⟩
      try rw [hfe83]
      try rw [hfe83] at hfe100
      have hsz102 := hch94.size
      replace hR0 := hR0.ch0 hch94
      replace hD0 := hD0.ch0 hch94
      replace hO49 := hO49.ch0 hch94
      replace hDO50 := hDO50.ch0 hch94
      replace hO62 := hO62.ch0 hch94
      replace hDO63 := hDO63.ch0 hch94
      replace hO81 := hO81.ch0 hch94
      replace hDO82 := hDO82.ch0 hch94
      replace hc := hc.step0 hch94
      have hub103 := hO98.lt
      have hcap104 : hs97.length ≤ c96 := by obtain ⟨_, _, hv, h1, _⟩ := hO98.form; injection hv with _ _ h3; omega
      have hfl105 : hs97.length = (growV (fvs xs0) s1).length := by rw [← hfe100, fvs_len]
      try simp only [fvs_len, List.length_take, List.length_drop] at hfl105
      have hnt106 := growV_le (fvs xs0) s1
      have hnt107 := growN_bd (fvs xs0) s1
      refine rw_cons (op_pv (w0 rfl) rfl rfl (pv_move (v := (.tuple #[(.slice A95 hs97.length c96), (.int .i64 (growN (fvs xs0) s1)), (.bool (dec (GrowOK (fvs xs0) s1)))])) rfl rfl) ?_)
      refine rw_cons (op_pv (w0 rfl) rfl rfl (pv_ext (v := (.slice A95 hs97.length c96)) rfl rfl rfl) ?_)
      refine rw_cons (op_pv (w0 rfl) rfl rfl (pv_ext (v := (.int .i64 (growN (fvs xs0) s1))) rfl rfl rfl) ?_)
      refine rw_cons (op_pv (w0 rfl) rfl rfl (pv_ext (v := (.bool (dec (GrowOK (fvs xs0) s1)))) rfl rfl rfl) ?_)
      refine rw_cons (op_pv (w0 rfl) rfl rfl (pv_assign (v := (.slice A95 hs97.length c96)) rfl rfl) ?_)
      refine rw_cons (op_pv (w0 rfl) rfl rfl (pv_assign (v := (.int .i64 (growN (fvs xs0) s1))) rfl rfl) ?_)
      refine rw_cons (op_pv (w0 rfl) rfl rfl (pv_assign (v := (.bool (dec (GrowOK (fvs xs0) s1)))) rfl rfl) ?_)
      refine rw_nil (hK92 _ _ ?_)
      refine hK90 _ _ ?_
      refine cw_seq fun K108 hK109 => ?_
      refine cw_seq fun K110 hK111 => ?_
      refine cw_region fun K112 hK113 => ?_
      refine rw_cons (op_pv (w0 rfl) rfl rfl (pv_move (v := (.slice A95 hs97.length c96)) rfl rfl) ?_)
      refine rw_cons (op_pv (w0 rfl) rfl rfl (pv_move (v := (.slice A59 hs61.length c60)) rfl rfl) ?_)
      refine rw_cons (op_call (w0 rfl) rfl rfl (rc_call C22 rfl rfl) (eqFileS_ok _ hs97.length _ hs97 _ hs61.length _ hs61 _ (hO98.rs (fun _ => rfl)) (hDO99.any (by omega)) (by first | assumption | exact SzOK.nil) (by omega) (hO62.rs (fun _ => rfl)) (hDO63.any (by omega)) (by first | assumption | exact SzOK.nil) (by omega)) ?_)
      rintro _ w114 ⟨rfl, hch115⟩
      try rw [hfe100]
      try rw [hfe64]
      have hsz116 := hch115.size
      replace hR0 := hR0.ch0 hch115
      replace hD0 := hD0.ch0 hch115
      replace hO49 := hO49.ch0 hch115
      replace hDO50 := hDO50.ch0 hch115
      replace hO62 := hO62.ch0 hch115
      replace hDO63 := hDO63.ch0 hch115
      replace hO81 := hO81.ch0 hch115
      replace hDO82 := hDO82.ch0 hch115
      replace hO98 := hO98.ch0 hch115
      replace hDO99 := hDO99.ch0 hch115
      replace hc := hc.step0 hch115
      refine rw_cons (op_pv (w0 rfl) rfl rfl (pv_not rfl rfl) ?_)
      refine rw_cons (op_pv (w0 rfl) rfl rfl (pv_move (v := (.bool (!(dec (growV (fvs xs0) s1 = growV (fvs xs0) s1))))) rfl rfl) ?_)
      refine rw_split 48 rfl (fun hb117 => ?_) (fun hb117 => ?_)
      · -- yes
        replace hb117 := not_t hb117
        replace hb117 := dec_f hb117
        refine rw_cons (op_pass (w1n2 rfl rfl rfl rfl) rfl rfl ?_)
        refine rw_cons (op_pass (w1n2 rfl rfl rfl rfl) rfl rfl ?_)
        refine rw_cons (op_pass (w1n2 rfl rfl rfl rfl) rfl rfl ?_)
        refine rw_cons (op_pv (w0 rfl) rfl rfl (pv_pickT (v := (.bool true)) rfl rfl rfl) ?_)
        refine rw_cons (op_pv (w0 rfl) rfl rfl (pv_move (v := (.bool true)) rfl rfl) ?_)
        refine rw_cons (op_pass (w1n2 rfl rfl rfl rfl) rfl rfl ?_)
        refine rw_cons (op_pass (w1n2 rfl rfl rfl rfl) rfl rfl ?_)
        refine rw_cons (op_pass (w1n2 rfl rfl rfl rfl) rfl rfl ?_)
        refine rw_cons (op_pv (w0 rfl) rfl rfl (pv_pickT (v := (.bool true)) rfl rfl rfl) ?_)
        refine rw_nil (hK113 _ _ ?_)
        refine hK111 _ _ ?_
        refine cw_cond rfl (fun h118 => ?_) (fun h118 => ?_)
        · -- then
          clear h118
          refine cw_seq fun K119 hK120 => ?_
          refine cw_region fun K121 hK122 => ?_
          refine rw_cons (op_pv (w0 rfl) rfl rfl (pv_assign (v := (.bool false)) rfl rfl) ?_)
          refine rw_nil (hK122 _ _ ?_)
          refine hK120 _ _ ?_
          refine cw_ret ?_
          refine fin1 rfl ?_
          first
            | exact ⟨rfl, hc⟩
            | (exfalso; omega)
            | exact absurd rfl (by assumption)
            | exact absurd (by simp only [*]) (by assumption)
        · -- else
          cases h118
      · -- no
        replace hb117 := not_f hb117
        replace hb117 := dec_t hb117
        refine rw_cons (op_pv (w1y rfl rfl rfl rfl) rfl rfl (pv_move (v := (.int .i64 (growN (fvs xs0) s1))) rfl rfl) ?_)
        refine rw_cons (op_pv (w1y rfl rfl rfl rfl) rfl rfl (pv_move (v := (.int .i64 (growN (fvs xs0) s1))) rfl rfl) ?_)
        refine rw_cons (op_pv (w1y rfl rfl rfl rfl) rfl rfl (pv_nes rfl rfl rfl) ?_)
        refine rw_cons (op_pv (w0 rfl) rfl rfl (pv_pickF (v := (.bool false)) rfl rfl rfl) ?_)
        refine rw_cons (op_pv (w0 rfl) rfl rfl (pv_move (v := (.bool false)) rfl rfl) ?_)
        refine rw_cons (op_pv (w1y rfl rfl rfl rfl) rfl rfl (pv_move (v := (.bool (dec (GrowOK (fvs xs0) s1)))) rfl rfl) ?_)
        refine rw_cons (op_pv (w1y rfl rfl rfl rfl) rfl rfl (pv_move (v := (.bool (dec (GrowOK (fvs xs0) s1)))) rfl rfl) ?_)
        refine rw_cons (op_pv (w1y rfl rfl rfl rfl) rfl rfl (pv_neBs Try.underlying4 rfl rfl rfl) ?_)
        refine rw_cons (op_pv (w0 rfl) rfl rfl (pv_pickF (v := (.bool false)) rfl rfl rfl) ?_)
        refine rw_nil (hK113 _ _ ?_)
        refine hK111 _ _ ?_
        refine cw_cond rfl (fun h123 => ?_) (fun h123 => ?_)
        · -- then
          cases h123
        · -- else
          clear h123
          refine cw_skip ?_
          refine hK109 _ _ ?_
          refine cw_seq fun K124 hK125 => ?_
          refine cw_seq fun K126 hK127 => ?_
          refine cw_region fun K128 hK129 => ?_
          refine rw_cons (op_pv (w0 rfl) rfl rfl (pv_move (v := (.slice A78 hs80.length c79)) rfl rfl) ?_)
          refine rw_cons (op_pv (w0 rfl) rfl rfl (pv_move (v := (.slice A0 n0 c0)) rfl rfl) ?_)
          refine rw_cons (op_call (w0 rfl) rfl rfl (rc_call C20 rfl rfl) (toFileS_ok _ n0 _ xs0 _ (hR0.more (by omega)) (hD0.any (by omega)) (by first | assumption | omega) (by omega)) ?_)
          rintro _ w130 ⟨A132, c133, hs134, rfl, hO135, hDO136, hfe137, hZ138, hch131⟩
          have hsz139 := hch131.size
          replace hR0 := hR0.ch0 hch131
          replace hD0 := hD0.ch0 hch131
          replace hO49 := hO49.ch0 hch131
          replace hDO50 := hDO50.ch0 hch131
          replace hO62 := hO62.ch0 hch131
          replace hDO63 := hDO63.ch0 hch131
          replace hO81 := hO81.ch0 hch131
          replace hDO82 := hDO82.ch0 hch131
          replace hO98 := hO98.ch0 hch131
          replace hDO99 := hDO99.ch0 hch131
          replace hc := hc.step0 hch131
          have hub140 := hO135.lt
          have hcap141 : hs134.length ≤ c133 := by obtain ⟨_, _, hv, h1, _⟩ := hO135.form; injection hv with _ _ h3; omega
          have hfl142 : hs134.length = (fvs xs0).length := by rw [← hfe137, fvs_len]
          try rw [fvs_len] at hfl142
          refine rw_cons (op_call (w0 rfl) rfl rfl (rc_call C22 rfl rfl) (eqFileS_ok _ hs80.length _ hs80 _ hs134.length _ hs134 _ (hO81.rs (fun _ => rfl)) (hDO82.any (by omega)) (by first | assumption | exact SzOK.nil) (by omega) (hO135.rs (fun _ => rfl)) (hDO136.any (by omega)) (by first | assumption | exact SzOK.nil) (by omega)) ?_)
          rintro _ w143 ⟨rfl, hch144⟩
          try rw [hfe83]
          try rw [hfe137]
          have hsz145 := hch144.size
          replace hR0 := hR0.ch0 hch144
          replace hD0 := hD0.ch0 hch144
          replace hO49 := hO49.ch0 hch144
          replace hDO50 := hDO50.ch0 hch144
          replace hO62 := hO62.ch0 hch144
          replace hDO63 := hDO63.ch0 hch144
          replace hO81 := hO81.ch0 hch144
          replace hDO82 := hDO82.ch0 hch144
          replace hO98 := hO98.ch0 hch144
          replace hDO99 := hDO99.ch0 hch144
          replace hO135 := hO135.ch0 hch144
          replace hDO136 := hDO136.ch0 hch144
          replace hc := hc.step0 hch144
          refine rw_cons (op_pv (w0 rfl) rfl rfl (pv_not rfl rfl) ?_)
          refine rw_nil (hK129 _ _ ?_)
          refine hK127 _ _ ?_
          refine cw_cond rfl (fun h146 => ?_) (fun h146 => ?_)
          · -- then
            replace h146 := not_t h146
            replace h146 := dec_f h146
            refine cw_seq fun K147 hK148 => ?_
            refine cw_region fun K149 hK150 => ?_
            refine rw_cons (op_pv (w0 rfl) rfl rfl (pv_assign (v := (.bool false)) rfl rfl) ?_)
            refine rw_nil (hK150 _ _ ?_)
            refine hK148 _ _ ?_
            refine cw_ret ?_
            refine fin1 rfl ?_
            first
              | exact ⟨rfl, hc⟩
              | (exfalso; omega)
              | exact absurd rfl (by assumption)
              | exact absurd (by simp only [*]) (by assumption)
          · -- else
            replace h146 := not_f h146
            replace h146 := dec_t h146
            refine cw_skip ?_
            refine hK125 _ _ ?_
            refine cw_seq fun K151 hK152 => ?_
            refine cw_region fun K153 hK154 => ?_
            refine rw_cons (op_pv (w0 rfl) rfl rfl (pv_assign (v := (.int .i64 1)) rfl rfl) ?_)
            refine rw_nil (hK154 _ _ ?_)
            refine hK152 _ _ ?_
            refine cw_seq fun K155 hK156 => ?_
            refine cw_region fun K157 hK158 => ?_
            refine rw_cons (op_pv (w0 rfl) rfl rfl (pv_move (v := (.slice A78 hs80.length c79)) rfl rfl) ?_)
            refine rw_cons (op_pv (w0 rfl) rfl rfl (pv_move (v := (.int .i64 1)) rfl rfl) ?_)
            have hZm166 : SzOK hs80 := by assumption
            refine rw_cons (op_call (w0 rfl) rfl rfl (rc_call C24 rfl rfl) (markFileS_ok _ hs80.length _ w57.heap.size w76.heap.size hs80 1 _ hO81 hDO82 hZm166 (fun s h => Nat.lt_of_lt_of_le (hub86 s h) (by omega)) (by omega) (by omega) (by omega) (by omega) (by omega)) ?_)
            rintro _ w159 ⟨ys160, rfl, hsh161, hmk162, hO163, hDO164, hch165⟩
            have hsz167 := hch165.size
            replace hR0 := hR0.ch hch165 (fun s hs => by have := range_lim hs; omega)
            replace hD0 := hD0.ch hch165 (fun s hs => by have h9 := range_lim hs; first | (left; omega) | (right; right; omega))
            replace hO49 := hO49.ch hch165 (fun s hs hs2 => by have h9 := range_lim hs2; first | (have := hub54 s hs; omega) | (have := hO49.off s hs; omega))
            replace hDO50 := hDO50.ch hch165 (fun s hs => by have h9 := range_lim hs; first | (left; omega) | (right; right; omega))
            replace hO62 := hO62.ch hch165 (fun s hs hs2 => by have h9 := range_lim hs2; first | (have := hub67 s hs; omega) | (have := hO62.off s hs; omega))
            replace hDO63 := hDO63.ch hch165 (fun s hs => by have h9 := range_lim hs; first | (left; omega) | (right; right; omega))
            replace hO98 := hO98.ch hch165 (fun s hs hs2 => by have h9 := range_lim hs2; first | (have := hub103 s hs; omega) | (have := hO98.off s hs; omega))
            replace hDO99 := hDO99.ch hch165 (fun s hs => by have h9 := range_lim hs; first | (left; omega) | (right; right; omega))
            replace hO135 := hO135.ch hch165 (fun s hs hs2 => by have h9 := range_lim hs2; first | (have := hub140 s hs; omega) | (have := hO135.off s hs; omega))
            replace hDO136 := hDO136.ch hch165 (fun s hs => by have h9 := range_lim hs; first | (left; omega) | (right; right; omega))
            replace hc := hc.step hch165 (fun s hs => by right; have := range_lim hs; omega)
            clear hO81 hDO82; have hO81 := hO163; have hDO82 := hDO164; clear hO163 hDO164
            have hob168 := offs_bd hZm166.nok hs80.length (by omega)
            refine rw_cons (op_pv (w0 rfl) rfl rfl (pv_assign (v := (.int .i64 (1 + ((offs hs80 hs80.length : Nat) : Int)))) rfl rfl) ?_)
            refine rw_nil (hK158 _ _ ?_)
            refine hK156 _ _ ?_
            refine cw_seq fun K169 hK170 => ?_
            refine cw_seq fun K171 hK172 => ?_
            refine cw_region fun K173 hK174 => ?_
            refine rw_cons (op_pv (w0 rfl) rfl rfl (pv_move (v := (.int .i64 (1 + ((offs hs80 hs80.length : Nat) : Int)))) rfl rfl) ?_)
            refine rw_cons (op_pv (w0 rfl) rfl rfl (pv_lss rfl rfl rfl) ?_)
            refine rw_cons (op_pv (w0 rfl) rfl rfl (pv_move (v := (.bool (decide ((1 + ((offs hs80 hs80.length : Nat) : Int)) < 0)))) rfl rfl) ?_)
            refine rw_split 68 rfl (fun hb175 => ?_) (fun hb175 => ?_)
            · -- yes
              replace hb175 := of_decide_eq_true hb175
              refine rw_cons (op_pass (w1n2 rfl rfl rfl rfl) rfl rfl ?_)
              refine rw_cons (op_pass (w1n2 rfl rfl rfl rfl) rfl rfl ?_)
              refine rw_cons (op_pass (w1n2 rfl rfl rfl rfl) rfl rfl ?_)
              refine rw_cons (op_pass (w1n2 rfl rfl rfl rfl) rfl rfl ?_)
              refine rw_cons (op_pv (w0 rfl) rfl rfl (pv_pickT (v := (.bool true)) rfl rfl rfl) ?_)
              refine rw_cons (op_pv (w0 rfl) rfl rfl (pv_move (v := (.bool true)) rfl rfl) ?_)
              refine rw_cons (op_pass (w1n2 rfl rfl rfl rfl) rfl rfl ?_)
              refine rw_cons (op_pass (w1n2 rfl rfl rfl rfl) rfl rfl ?_)
              refine rw_cons (op_pass (w1n2 rfl rfl rfl rfl) rfl rfl ?_)
              refine rw_cons (op_pv (w0 rfl) rfl rfl (pv_pickT (v := (.bool true)) rfl rfl rfl) ?_)
              refine rw_cons (op_pv (w0 rfl) rfl rfl (pv_move (v := (.bool true)) rfl rfl) ?_)
              refine rw_cons (op_pass (w1n2 rfl rfl rfl rfl) rfl rfl ?_)
              refine rw_cons (op_pass (w1n2 rfl rfl rfl rfl) rfl rfl ?_)
              refine rw_cons (op_pass (w1n2 rfl rfl rfl rfl) rfl rfl ?_)
              refine rw_cons (op_pv (w0 rfl) rfl rfl (pv_pickT (v := (.bool true)) rfl rfl rfl) ?_)
              refine rw_nil (hK174 _ _ ?_)
              refine hK172 _ _ ?_
              refine cw_cond rfl (fun h176 => ?_) (fun h176 => ?_)
              · -- then
                clear h176
                refine cw_seq fun K177 hK178 => ?_
                refine cw_region fun K179 hK180 => ?_
                refine rw_cons (op_pv (w0 rfl) rfl rfl (pv_assign (v := (.bool false)) rfl rfl) ?_)
                refine rw_nil (hK180 _ _ ?_)
                refine hK178 _ _ ?_
                refine cw_ret ?_
                refine fin1 rfl ?_
                first
                  | exact ⟨rfl, hc⟩
                  | (exfalso; omega)
                  | exact absurd rfl (by assumption)
                  | exact absurd (by simp only [*]) (by assumption)
              · -- else
                cases h176
            · -- no
              replace hb175 := of_decide_eq_false hb175
              refine rw_cons (op_pv (w1y rfl rfl rfl rfl) rfl rfl (pv_move (v := (.slice A95 hs97.length c96)) rfl rfl) ?_)
              refine rw_cons (op_pv (w1y rfl rfl rfl rfl) rfl rfl (pv_move (v := (.slice A59 hs61.length c60)) rfl rfl) ?_)
              refine rw_cons (op_call (w1y rfl rfl rfl rfl) rfl rfl (rc_call C22 rfl rfl) (eqFileS_ok _ hs97.length _ hs97 _ hs61.length _ hs61 _ (hO98.rs (fun _ => rfl)) (hDO99.any (by omega)) (by first | assumption | exact SzOK.nil) (by omega) (hO62.rs (fun _ => rfl)) (hDO63.any (by omega)) (by first | assumption | exact SzOK.nil) (by omega)) ?_)
              rintro _ w181 ⟨rfl, hch182⟩
              try rw [hfe100]
              try rw [hfe64]
              have hsz183 := hch182.size
              replace hR0 := hR0.ch0 hch182
              replace hD0 := hD0.ch0 hch182
              replace hO49 := hO49.ch0 hch182
              replace hDO50 := hDO50.ch0 hch182
              replace hO62 := hO62.ch0 hch182
              replace hDO63 := hDO63.ch0 hch182
              replace hO81 := hO81.ch0 hch182
              replace hDO82 := hDO82.ch0 hch182
              replace hO98 := hO98.ch0 hch182
              replace hDO99 := hDO99.ch0 hch182
              replace hO135 := hO135.ch0 hch182
              replace hDO136 := hDO136.ch0 hch182
              replace hc := hc.step0 hch182
              refine rw_cons (op_pv (w1y rfl rfl rfl rfl) rfl rfl (pv_not rfl rfl) ?_)
              refine rw_cons (op_pv (w0 rfl) rfl rfl (pv_pickF (v := (.bool (!(dec (growV (fvs xs0) s1 = growV (fvs xs0) s1))))) rfl rfl rfl) ?_)
              refine rw_cons (op_pv (w0 rfl) rfl rfl (pv_move (v := (.bool (!(dec (growV (fvs xs0) s1 = growV (fvs xs0) s1))))) rfl rfl) ?_)
              refine rw_split 74 rfl (fun hb184 => ?_) (fun hb184 => ?_)
              · -- yes
                replace hb184 := not_t hb184
                replace hb184 := dec_f hb184
                refine rw_cons (op_pass (w1n2 rfl rfl rfl rfl) rfl rfl ?_)
                refine rw_cons (op_pass (w1n2 rfl rfl rfl rfl) rfl rfl ?_)
                refine rw_cons (op_pass (w1n2 rfl rfl rfl rfl) rfl rfl ?_)
                refine rw_cons (op_pv (w0 rfl) rfl rfl (pv_pickT (v := (.bool true)) rfl rfl rfl) ?_)
                refine rw_cons (op_pv (w0 rfl) rfl rfl (pv_move (v := (.bool true)) rfl rfl) ?_)
                refine rw_cons (op_pass (w1n2 rfl rfl rfl rfl) rfl rfl ?_)
                refine rw_cons (op_pass (w1n2 rfl rfl rfl rfl) rfl rfl ?_)
                refine rw_cons (op_pass (w1n2 rfl rfl rfl rfl) rfl rfl ?_)
                refine rw_cons (op_pv (w0 rfl) rfl rfl (pv_pickT (v := (.bool true)) rfl rfl rfl) ?_)
                refine rw_nil (hK174 _ _ ?_)
                refine hK172 _ _ ?_
                refine cw_cond rfl (fun h185 => ?_) (fun h185 => ?_)
                · -- then
                  clear h185
                  refine cw_seq fun K186 hK187 => ?_
                  refine cw_region fun K188 hK189 => ?_
                  refine rw_cons (op_pv (w0 rfl) rfl rfl (pv_assign (v := (.bool false)) rfl rfl) ?_)
                  refine rw_nil (hK189 _ _ ?_)
                  refine hK187 _ _ ?_
                  refine cw_ret ?_
                  refine fin1 rfl ?_
                  first
                    | exact ⟨rfl, hc⟩
                    | (exfalso; omega)
                    | exact absurd rfl (by assumption)
                    | exact absurd (by simp only [*]) (by assumption)
                · -- else
                  cases h185
              · -- no
                replace hb184 := not_f hb184
                replace hb184 := dec_t hb184
                refine rw_cons (op_pv (w1y rfl rfl rfl rfl) rfl rfl (pv_move (v := (.int .i64 (growN (fvs xs0) s1))) rfl rfl) ?_)
                refine rw_cons (op_pv (w1y rfl rfl rfl rfl) rfl rfl (pv_move (v := (.int .i64 (growN (fvs xs0) s1))) rfl rfl) ?_)
                refine rw_cons (op_pv (w1y rfl rfl rfl rfl) rfl rfl (pv_nes rfl rfl rfl) ?_)
                refine rw_cons (op_pv (w0 rfl) rfl rfl (pv_pickF (v := (.bool false)) rfl rfl rfl) ?_)
                refine rw_cons (op_pv (w0 rfl) rfl rfl (pv_move (v := (.bool false)) rfl rfl) ?_)
                refine rw_cons (op_pv (w1y rfl rfl rfl rfl) rfl rfl (pv_move (v := (.bool (dec (GrowOK (fvs xs0) s1)))) rfl rfl) ?_)
                refine rw_cons (op_pv (w1y rfl rfl rfl rfl) rfl rfl (pv_move (v := (.bool (dec (GrowOK (fvs xs0) s1)))) rfl rfl) ?_)
                refine rw_cons (op_pv (w1y rfl rfl rfl rfl) rfl rfl (pv_neBs Try.underlying4 rfl rfl rfl) ?_)
                refine rw_cons (op_pv (w0 rfl) rfl rfl (pv_pickF (v := (.bool false)) rfl rfl rfl) ?_)
                refine rw_nil (hK174 _ _ ?_)
                refine hK172 _ _ ?_
                refine cw_cond rfl (fun h190 => ?_) (fun h190 => ?_)
                · -- then
                  cases h190
                · -- else
                  clear h190
                  refine cw_skip ?_
                  refine hK170 _ _ ?_
                  refine cw_seq fun K191 hK192 => ?_
                  refine cw_region fun K193 hK194 => ?_
                  refine rw_cons (op_pv (w0 rfl) rfl rfl (pv_assign (v := (.int .i64 1)) rfl rfl) ?_)
                  refine rw_nil (hK194 _ _ ?_)
                  refine hK192 _ _ ?_
                  refine cw_seq fun K195 hK196 => ?_
                  refine cw_region fun K197 hK198 => ?_
                  refine rw_cons (op_pv (w0 rfl) rfl rfl (pv_move (v := (.slice A95 hs97.length c96)) rfl rfl) ?_)
                  refine rw_cons (op_pv (w0 rfl) rfl rfl (pv_move (v := (.int .i64 1)) rfl rfl) ?_)
                  have hZm206 : SzOK hs97 := by assumption
                  refine rw_cons (op_call (w0 rfl) rfl rfl (rc_call C24 rfl rfl) (markFileS_ok _ hs97.length _ w76.heap.size w93.heap.size hs97 1 _ hO98 hDO99 hZm206 (fun s h => Nat.lt_of_lt_of_le (hub103 s h) (by omega)) (by omega) (by omega) (by omega) (by omega) (by omega)) ?_)
                  rintro _ w199 ⟨ys200, rfl, hsh201, hmk202, hO203, hDO204, hch205⟩
                  have hsz207 := hch205.size
                  replace hR0 := hR0.ch hch205 (fun s hs => by have := range_lim hs; omega)
                  replace hD0 := hD0.ch hch205 (fun s hs => by have h9 := range_lim hs; first | (left; omega) | (right; right; omega))
                  replace hO49 := hO49.ch hch205 (fun s hs hs2 => by have h9 := range_lim hs2; first | (have := hub54 s hs; omega) | (have := hO49.off s hs; omega))
                  replace hDO50 := hDO50.ch hch205 (fun s hs => by have h9 := range_lim hs; first | (left; omega) | (right; right; omega))
                  replace hO62 := hO62.ch hch205 (fun s hs hs2 => by have h9 := range_lim hs2; first | (have := hub67 s hs; omega) | (have := hO62.off s hs; omega))
                  replace hDO63 := hDO63.ch hch205 (fun s hs => by have h9 := range_lim hs; first | (left; omega) | (right; right; omega))
                  replace hO81 := hO81.ch hch205 (fun s hs hs2 => by have h9 := range_lim hs2; first | (have := hub86 s hs; omega) | (have := hO81.off s hs; omega))
                  replace hDO82 := hDO82.ch hch205 (fun s hs => by have h9 := range_lim hs; first | (left; omega) | (right; right; omega))
                  replace hO135 := hO135.ch hch205 (fun s hs hs2 => by have h9 := range_lim hs2; first | (have := hub140 s hs; omega) | (have := hO135.off s hs; omega))
                  replace hDO136 := hDO136.ch hch205 (fun s hs => by have h9 := range_lim hs; first | (left; omega) | (right; right; omega))
                  replace hc := hc.step hch205 (fun s hs => by right; have := range_lim hs; omega)
                  clear hO98 hDO99; have hO98 := hO203; have hDO99 := hDO204; clear hO203 hDO204
                  have hob208 := offs_bd hZm206.nok hs97.length (by omega)
                  refine rw_cons (op_pv (w0 rfl) rfl rfl (pv_assign (v := (.int .i64 (1 + ((offs hs97 hs97.length : Nat) : Int)))) rfl rfl) ?_)
                  refine rw_nil (hK198 _ _ ?_)
                  refine hK196 _ _ ?_
                  refine cw_seq fun K209 hK210 => ?_
                  refine cw_region fun K211 hK212 => ?_
                  refine rw_cons (op_pv (w0 rfl) rfl rfl (pv_assign (v := (.int .i64 1)) rfl rfl) ?_)
                  refine rw_nil (hK212 _ _ ?_)
                  refine hK210 _ _ ?_
                  refine cw_seq fun K213 hK214 => ?_
                  refine cw_region fun K215 hK216 => ?_
                  refine rw_cons (op_pv (w0 rfl) rfl rfl (pv_move (v := (.slice A95 hs97.length c96)) rfl rfl) ?_)
                  refine rw_cons (op_pv (w0 rfl) rfl rfl (pv_move (v := (.int .i64 1)) rfl rfl) ?_)
                  refine rw_cons (op_call (w0 rfl) rfl rfl (rc_call C26 rfl rfl) (heldFileS_ok _ hs97.length _ ys200 1 _ (hO98.rs (fun _ => rfl)) (hDO99.any (by omega)) (Shape.nok hsh201 hZm206.nok) hmk202 (by omega) (by omega) (by omega)) ?_)
                  rintro _ w217 ⟨rfl, hch218⟩
                  rw [offs_same (hs := hs97) (ys := ys200) (fun k => (hsh201.2 k).2.1)]
                  have hsz219 := hch218.size
                  replace hR0 := hR0.ch0 hch218
                  replace hD0 := hD0.ch0 hch218
                  replace hO49 := hO49.ch0 hch218
                  replace hDO50 := hDO50.ch0 hch218
                  replace hO62 := hO62.ch0 hch218
                  replace hDO63 := hDO63.ch0 hch218
                  replace hO81 := hO81.ch0 hch218
                  replace hDO82 := hDO82.ch0 hch218
                  replace hO98 := hO98.ch0 hch218
                  replace hDO99 := hDO99.ch0 hch218
                  replace hO135 := hO135.ch0 hch218
                  replace hDO136 := hDO136.ch0 hch218
                  replace hc := hc.step0 hch218
                  refine rw_cons (op_pv (w0 rfl) rfl rfl (pv_assign (v := (.int .i64 (1 + ((offs hs97 hs97.length : Nat) : Int)))) rfl rfl) ?_)
                  refine rw_nil (hK216 _ _ ?_)
                  refine hK214 _ _ ?_
                  refine cw_seq fun K220 hK221 => ?_
                  refine cw_seq fun K222 hK223 => ?_
                  refine cw_region fun K224 hK225 => ?_
                  refine rw_cons (op_pv (w0 rfl) rfl rfl (pv_move (v := (.int .i64 (1 + ((offs hs97 hs97.length : Nat) : Int)))) rfl rfl) ?_)
                  refine rw_cons (op_pv (w0 rfl) rfl rfl (pv_lss rfl rfl rfl) ?_)
                  refine rw_nil (hK225 _ _ ?_)
                  refine hK223 _ _ ?_
                  refine cw_cond rfl (fun h226 => ?_) (fun h226 => ?_)
                  · -- then
                    replace h226 := of_decide_eq_true h226
                    refine cw_seq fun K227 hK228 => ?_
                    refine cw_region fun K229 hK230 => ?_
                    refine rw_cons (op_pv (w0 rfl) rfl rfl (pv_assign (v := (.bool false)) rfl rfl) ?_)
                    refine rw_nil (hK230 _ _ ?_)
                    refine hK228 _ _ ?_
                    refine cw_ret ?_
                    refine fin1 rfl ?_
                    first
                      | exact ⟨rfl, hc⟩
                      | (exfalso; omega)
                      | exact absurd rfl (by assumption)
                      | exact absurd (by simp only [*]) (by assumption)
                  · -- else
                    replace h226 := of_decide_eq_false h226
                    refine cw_skip ?_
                    refine hK221 _ _ ?_
                    refine cw_seq fun K231 hK232 => ?_
                    refine cw_seq fun K233 hK234 => ?_
                    refine cw_region fun K235 hK236 => ?_
                    refine rw_cons (op_pv (w0 rfl) rfl rfl (pv_move (v := (.int .i64 (1 + ((offs hs97 hs97.length : Nat) : Int)))) rfl rfl) ?_)
                    refine rw_cons (op_pv (w0 rfl) rfl rfl (pv_move (v := (.int .i64 (1 + ((offs hs97 hs97.length : Nat) : Int)))) rfl rfl) ?_)
                    refine rw_cons (op_pv (w0 rfl) rfl rfl (pv_nes rfl rfl rfl) ?_)
                    refine rw_nil (hK236 _ _ ?_)
                    refine hK234 _ _ ?_
                    refine cw_cond rfl (fun h237 => ?_) (fun h237 => ?_)
                    · -- then
                      cases h237
                    · -- else
                      clear h237
                      refine cw_skip ?_
                      refine hK232 _ _ ?_
                      refine cw_seq fun K238 hK239 => ?_
                      refine cw_region fun K240 hK241 => ?_
                      refine rw_cons (op_pv (w0 rfl) rfl rfl (pv_move (v := (.slice A0 n0 c0)) rfl rfl) ?_)
                      refine rw_cons (op_call (w0 rfl) rfl rfl (rc_call C20 rfl rfl) (toFileS_ok _ n0 _ xs0 _ (hR0.more (by omega)) (hD0.any (by omega)) (by first | assumption | omega) (by omega)) ?_)
                      rintro _ w242 ⟨A244, c245, hs246, rfl, hO247, hDO248, hfe249, hZ250, hch243⟩
                      have hsz251 := hch243.size
                      replace hR0 := hR0.ch0 hch243
                      replace hD0 := hD0.ch0 hch243
                      replace hO49 := hO49.ch0 hch243
                      replace hDO50 := hDO50.ch0 hch243
                      replace hO62 := hO62.ch0 hch243
                      replace hDO63 := hDO63.ch0 hch243
                      replace hO81 := hO81.ch0 hch243
                      replace hDO82 := hDO82.ch0 hch243
                      replace hO98 := hO98.ch0 hch243
                      replace hDO99 := hDO99.ch0 hch243
                      replace hO135 := hO135.ch0 hch243
                      replace hDO136 := hDO136.ch0 hch243
                      replace hc := hc.step0 hch243
                      have hub252 := hO247.lt
                      have hcap253 : hs246.length ≤ c245 := by obtain ⟨_, _, hv, h1, _⟩ := hO247.form; injection hv with _ _ h3; omega
                      have hfl254 : hs246.length = (fvs xs0).length := by rw [← hfe249, fvs_len]
                      try rw [fvs_len] at hfl254
                      refine rw_cons (op_pv (w0 rfl) rfl rfl (pv_move (v := (.string s1)) rfl rfl) ?_)
                      refine rw_cons (op_call (w0 rfl) rfl rfl (rc_call C34 rfl rfl) (FileGrow_i _ hs246.length _ hs246 s1 _ (hO247.rs (fun _ => rfl)) (hDO248.any (by omega)) (by first | assumption | exact SzOK.nil) (by omega)) ?_)
                      rintro _ w255 ⟨A257, c258, hs259, rfl, hO260, hDO261, hfe262, hZ263, hch256⟩
                      try rw [hfe249]
                      try rw [hfe249] at hfe262
                      have hsz264 := hch256.size
                      replace hR0 := hR0.ch0 hch256
                      replace hD0 := hD0.ch0 hch256
                      replace hO49 := hO49.ch0 hch256
                      replace hDO50 := hDO50.ch0 hch256
                      replace hO62 := hO62.ch0 hch256
                      replace hDO63 := hDO63.ch0 hch256
                      replace hO81 := hO81.ch0 hch256
                      replace hDO82 := hDO82.ch0 hch256
                      replace hO98 := hO98.ch0 hch256
                      replace hDO99 := hDO99.ch0 hch256
                      replace hO135 := hO135.ch0 hch256
                      replace hDO136 := hDO136.ch0 hch256
                      replace hO247 := hO247.ch0 hch256
                      replace hDO248 := hDO248.ch0 hch256
                      replace hc := hc.step0 hch256
                      have hub265 := hO260.lt
                      have hcap266 : hs259.length ≤ c258 := by obtain ⟨_, _, hv, h1, _⟩ := hO260.form; injection hv with _ _ h3; omega
                      have hfl267 : hs259.length = (growV (fvs xs0) s1).length := by rw [← hfe262, fvs_len]
                      try simp only [fvs_len, List.length_take, List.length_drop] at hfl267
                      have hnt268 := growV_le (fvs xs0) s1
                      have hnt269 := growN_bd (fvs xs0) s1
                      refine rw_cons (op_pv (w0 rfl) rfl rfl (pv_move (v := (.tuple #[(.slice A257 hs259.length c258), (.int .i64 (growN (fvs xs0) s1)), (.bool (dec (GrowOK (fvs xs0) s1)))])) rfl rfl) ?_)
                      refine rw_cons (op_pv (w0 rfl) rfl rfl (pv_ext (v := (.slice A257 hs259.length c258)) rfl rfl rfl) ?_)
                      refine rw_cons (op_pv (w0 rfl) rfl rfl (pv_ext (v := (.int .i64 (growN (fvs xs0) s1))) rfl rfl rfl) ?_)
                      refine rw_cons (op_pv (w0 rfl) rfl rfl (pv_ext (v := (.bool (dec (GrowOK (fvs xs0) s1)))) rfl rfl rfl) ?_)
                      refine rw_cons (op_pv (w0 rfl) rfl rfl (pv_assign (v := (.slice A257 hs259.length c258)) rfl rfl) ?_)
                      refine rw_cons (op_pv (w0 rfl) rfl rfl (pv_assign (v := (.int .i64 (growN (fvs xs0) s1))) rfl rfl) ?_)
                      refine rw_cons (op_pv (w0 rfl) rfl rfl (pv_assign (v := (.bool (dec (GrowOK (fvs xs0) s1)))) rfl rfl) ?_)
                      refine rw_nil (hK241 _ _ ?_)
                      refine hK239 _ _ ?_
                      refine cw_seq fun K270 hK271 => ?_
                      refine cw_seq fun K272 hK273 => ?_
                      refine cw_region fun K274 hK275 => ?_
                      refine rw_cons (op_pv (w0 rfl) rfl rfl (pv_move (v := (.slice A257 hs259.length c258)) rfl rfl) ?_)
                      refine rw_cons (op_pv (w0 rfl) rfl rfl (pv_move (v := (.slice A59 hs61.length c60)) rfl rfl) ?_)
                      refine rw_cons (op_call (w0 rfl) rfl rfl (rc_call C22 rfl rfl) (eqFileS_ok _ hs259.length _ hs259 _ hs61.length _ hs61 _ (hO260.rs (fun _ => rfl)) (hDO261.any (by omega)) (by first | assumption | exact SzOK.nil) (by omega) (hO62.rs (fun _ => rfl)) (hDO63.any (by omega)) (by first | assumption | exact SzOK.nil) (by omega)) ?_)
                      rintro _ w276 ⟨rfl, hch277⟩
                      try rw [hfe262]
                      try rw [hfe64]
                      have hsz278 := hch277.size
                      replace hR0 := hR0.ch0 hch277
                      replace hD0 := hD0.ch0 hch277
                      replace hO49 := hO49.ch0 hch277
                      replace hDO50 := hDO50.ch0 hch277
                      replace hO62 := hO62.ch0 hch277
                      replace hDO63 := hDO63.ch0 hch277
                      replace hO81 := hO81.ch0 hch277
                      replace hDO82 := hDO82.ch0 hch277
                      replace hO98 := hO98.ch0 hch277
                      replace hDO99 := hDO99.ch0 hch277
                      replace hO135 := hO135.ch0 hch277
                      replace hDO136 := hDO136.ch0 hch277
                      replace hO247 := hO247.ch0 hch277
                      replace hDO248 := hDO248.ch0 hch277
                      replace hO260 := hO260.ch0 hch277
                      replace hDO261 := hDO261.ch0 hch277
                      replace hc := hc.step0 hch277
                      refine rw_cons (op_pv (w0 rfl) rfl rfl (pv_not rfl rfl) ?_)
                      refine rw_cons (op_pv (w0 rfl) rfl rfl (pv_move (v := (.bool (!(dec (growV (fvs xs0) s1 = growV (fvs xs0) s1))))) rfl rfl) ?_)
                      refine rw_split 107 rfl (fun hb279 => ?_) (fun hb279 => ?_)
                      · -- yes
                        replace hb279 := not_t hb279
                        replace hb279 := dec_f hb279
                        refine rw_cons (op_pass (w1n2 rfl rfl rfl rfl) rfl rfl ?_)
                        refine rw_cons (op_pass (w1n2 rfl rfl rfl rfl) rfl rfl ?_)
                        refine rw_cons (op_pass (w1n2 rfl rfl rfl rfl) rfl rfl ?_)
                        refine rw_cons (op_pv (w0 rfl) rfl rfl (pv_pickT (v := (.bool true)) rfl rfl rfl) ?_)
                        refine rw_cons (op_pv (w0 rfl) rfl rfl (pv_move (v := (.bool true)) rfl rfl) ?_)
                        refine rw_cons (op_pass (w1n2 rfl rfl rfl rfl) rfl rfl ?_)
                        refine rw_cons (op_pass (w1n2 rfl rfl rfl rfl) rfl rfl ?_)
                        refine rw_cons (op_pass (w1n2 rfl rfl rfl rfl) rfl rfl ?_)
                        refine rw_cons (op_pv (w0 rfl) rfl rfl (pv_pickT (v := (.bool true)) rfl rfl rfl) ?_)
                        refine rw_nil (hK275 _ _ ?_)
                        refine hK273 _ _ ?_
                        refine cw_cond rfl (fun h280 => ?_) (fun h280 => ?_)
                        · -- then
                          clear h280
                          refine cw_seq fun K281 hK282 => ?_
                          refine cw_region fun K283 hK284 => ?_
                          refine rw_cons (op_pv (w0 rfl) rfl rfl (pv_assign (v := (.bool false)) rfl rfl) ?_)
                          refine rw_nil (hK284 _ _ ?_)
                          refine hK282 _ _ ?_
                          refine cw_ret ?_
                          refine fin1 rfl ?_
                          first
                            | exact ⟨rfl, hc⟩
                            | (exfalso; omega)
                            | exact absurd rfl (by assumption)
                            | exact absurd (by simp only [*]) (by assumption)
                        · -- else
                          cases h280
                      · -- no
                        replace hb279 := not_f hb279
                        replace hb279 := dec_t hb279
                        refine rw_cons (op_pv (w1y rfl rfl rfl rfl) rfl rfl (pv_move (v := (.int .i64 (growN (fvs xs0) s1))) rfl rfl) ?_)
                        refine rw_cons (op_pv (w1y rfl rfl rfl rfl) rfl rfl (pv_move (v := (.int .i64 (growN (fvs xs0) s1))) rfl rfl) ?_)
                        refine rw_cons (op_pv (w1y rfl rfl rfl rfl) rfl rfl (pv_nes rfl rfl rfl) ?_)
                        refine rw_cons (op_pv (w0 rfl) rfl rfl (pv_pickF (v := (.bool false)) rfl rfl rfl) ?_)
                        refine rw_cons (op_pv (w0 rfl) rfl rfl (pv_move (v := (.bool false)) rfl rfl) ?_)
                        refine rw_cons (op_pv (w1y rfl rfl rfl rfl) rfl rfl (pv_move (v := (.bool (dec (GrowOK (fvs xs0) s1)))) rfl rfl) ?_)
                        refine rw_cons (op_pv (w1y rfl rfl rfl rfl) rfl rfl (pv_move (v := (.bool (dec (GrowOK (fvs xs0) s1)))) rfl rfl) ?_)
                        refine rw_cons (op_pv (w1y rfl rfl rfl rfl) rfl rfl (pv_neBs Try.underlying4 rfl rfl rfl) ?_)
                        refine rw_cons (op_pv (w0 rfl) rfl rfl (pv_pickF (v := (.bool false)) rfl rfl rfl) ?_)
                        refine rw_nil (hK275 _ _ ?_)
                        refine hK273 _ _ ?_
                        refine cw_cond rfl (fun h285 => ?_) (fun h285 => ?_)
                        · -- then
                          cases h285
                        · -- else
                          clear h285
                          refine cw_skip ?_
                          refine hK271 _ _ ?_
                          refine cw_seq fun K286 hK287 => ?_
                          refine cw_region fun K288 hK289 => ?_
                          refine rw_cons (op_pv (w0 rfl) rfl rfl (pv_assign (v := (.int .i64 1)) rfl rfl) ?_)
                          refine rw_nil (hK289 _ _ ?_)
                          refine hK287 _ _ ?_
                          refine cw_seq fun K290 hK291 => ?_
                          refine cw_region fun K292 hK293 => ?_
                          refine rw_cons (op_pv (w0 rfl) rfl rfl (pv_move (v := (.slice A95 hs97.length c96)) rfl rfl) ?_)
                          refine rw_cons (op_pv (w0 rfl) rfl rfl (pv_move (v := (.int .i64 1)) rfl rfl) ?_)
                          refine rw_cons (op_call (w0 rfl) rfl rfl (rc_call C26 rfl rfl) (heldFileS_ok _ hs97.length _ ys200 1 _ (hO98.rs (fun _ => rfl)) (hDO99.any (by omega)) (Shape.nok hsh201 hZm206.nok) hmk202 (by omega) (by omega) (by omega)) ?_)
                          rintro _ w294 ⟨rfl, hch295⟩
                          rw [offs_same (hs := hs97) (ys := ys200) (fun k => (hsh201.2 k).2.1)]
                          have hsz296 := hch295.size
                          replace hR0 := hR0.ch0 hch295
                          replace hD0 := hD0.ch0 hch295
                          replace hO49 := hO49.ch0 hch295
                          replace hDO50 := hDO50.ch0 hch295
                          replace hO62 := hO62.ch0 hch295
                          replace hDO63 := hDO63.ch0 hch295
                          replace hO81 := hO81.ch0 hch295
                          replace hDO82 := hDO82.ch0 hch295
                          replace hO98 := hO98.ch0 hch295
                          replace hDO99 := hDO99.ch0 hch295
                          replace hO135 := hO135.ch0 hch295
                          replace hDO136 := hDO136.ch0 hch295
                          replace hO247 := hO247.ch0 hch295
                          replace hDO248 := hDO248.ch0 hch295
                          replace hO260 := hO260.ch0 hch295
                          replace hDO261 := hDO261.ch0 hch295
                          replace hc := hc.step0 hch295
                          refine rw_cons (op_pv (w0 rfl) rfl rfl (pv_assign (v := (.int .i64 (1 + ((offs hs97 hs97.length : Nat) : Int)))) rfl rfl) ?_)
                          refine rw_nil (hK293 _ _ ?_)
                          refine hK291 _ _ ?_
                          refine cw_seq fun K297 hK298 => ?_
                          refine cw_seq fun K299 hK300 => ?_
                          refine cw_region fun K301 hK302 => ?_
                          refine rw_cons (op_pv (w0 rfl) rfl rfl (pv_move (v := (.int .i64 (1 + ((offs hs97 hs97.length : Nat) : Int)))) rfl rfl) ?_)
                          refine rw_cons (op_pv (w0 rfl) rfl rfl (pv_lss rfl rfl rfl) ?_)
                          refine rw_nil (hK302 _ _ ?_)
                          refine hK300 _ _ ?_
                          refine cw_cond rfl (fun h303 => ?_) (fun h303 => ?_)
                          · -- then
                            replace h303 := of_decide_eq_true h303
                            refine cw_seq fun K304 hK305 => ?_
                            refine cw_region fun K306 hK307 => ?_
                            refine rw_cons (op_pv (w0 rfl) rfl rfl (pv_assign (v := (.bool false)) rfl rfl) ?_)
                            refine rw_nil (hK307 _ _ ?_)
                            refine hK305 _ _ ?_
                            refine cw_ret ?_
                            refine fin1 rfl ?_
                            first
                              | exact ⟨rfl, hc⟩
                              | (exfalso; omega)
                              | exact absurd rfl (by assumption)
                              | exact absurd (by simp only [*]) (by assumption)
                          · -- else
                            replace h303 := of_decide_eq_false h303
                            refine cw_skip ?_
                            refine hK298 _ _ ?_
                            refine cw_seq fun K308 hK309 => ?_
                            refine cw_seq fun K310 hK311 => ?_
                            refine cw_region fun K312 hK313 => ?_
                            refine rw_cons (op_pv (w0 rfl) rfl rfl (pv_move (v := (.int .i64 (1 + ((offs hs97 hs97.length : Nat) : Int)))) rfl rfl) ?_)
                            refine rw_cons (op_pv (w0 rfl) rfl rfl (pv_move (v := (.int .i64 (1 + ((offs hs97 hs97.length : Nat) : Int)))) rfl rfl) ?_)
                            refine rw_cons (op_pv (w0 rfl) rfl rfl (pv_nes rfl rfl rfl) ?_)
                            refine rw_nil (hK313 _ _ ?_)
                            refine hK311 _ _ ?_
                            refine cw_cond rfl (fun h314 => ?_) (fun h314 => ?_)
                            · -- then
                              cases h314
                            · -- else
                              clear h314
                              refine cw_skip ?_
                              refine hK309 _ _ ?_
                              refine cw_seq fun K315 hK316 => ?_
                              refine cw_region fun K317 hK318 => ?_
                              refine rw_cons (op_pv (w0 rfl) rfl rfl (pv_assign (v := (.bool true)) rfl rfl) ?_)
                              refine rw_nil (hK318 _ _ ?_)
                              refine hK316 _ _ ?_
                              refine cw_ret ?_
                              refine fin1 rfl ?_
                              first
                                | exact ⟨rfl, hc⟩
                                | (exfalso; omega)
                                | exact absurd rfl (by assumption)
                                | exact absurd (by simp only [*]) (by assumption)
end Go.Proofs.Ythgnlljpjpklpaa
