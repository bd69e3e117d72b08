/-
  The walk of laws.FnExactFilesValid, written by program: each line names the law of one operation. Conditions: those of the theorem.
-/
import Derived.Test.YthgnlljpjpklpaaProg
import Derived.Test.YthgnlljpjpklpaaDeep
import Derived.Test.YthgnlljpjpklpaaFlawsszFileS
import Derived.Test.YthgnlljpjpklpaaFlawstoFileS
import Derived.Test.YthgnlljpjpklpaaFlawseqFileS
import Derived.Test.YthgnlljpjpklpaaFimplFilesValid
import Derived.Test.YthgnlljpjpklpaaFspecFilesValid
import Derived.KernelRfl
namespace Go.Proofs.Ythgnlljpjpklpaa
open Go Go.RowKit
set_option linter.unusedVariables false
set_option linter.unusedSimpArgs false
namespace FnExactFilesValid_okF
theorem C18 : Callable Try.prog 18 := ⟨_, Try.func18, by kernel_rfl, by kernel_rfl⟩
theorem C20 : Callable Try.prog 20 := ⟨_, Try.func20, by kernel_rfl, by kernel_rfl⟩
theorem C22 : Callable Try.prog 22 := ⟨_, Try.func22, by kernel_rfl, by kernel_rfl⟩
theorem C31 : Callable Try.prog 31 := ⟨_, Try.func31, by kernel_rfl, by kernel_rfl⟩
theorem C32 : Callable Try.prog 32 := ⟨_, Try.func32, by kernel_rfl, by kernel_rfl⟩
end FnExactFilesValid_okF
open FnExactFilesValid_okF in
set_option maxHeartbeats 4000000 in
theorem FnExactFilesValid_ok (A0 : Option Addr) (n0 c0 : Nat) (xs0 : List Fl) (w : World) (hR0 : RS encF 2 w w.heap.size A0 n0 xs0) (hn0 : n0 ≤ c0) (hm0 : c0 ≤ maxLen) (hD0 : DX 0 w.heap.size [] w xs0) (hz0 : ∀ k, k < xs0.length → (el xs0 k).nm.size ≤ maxLen ∧ (el xs0 k).n ≤ maxLen) :
    Fn Try.prog 7 [(.slice A0 n0 c0)] w fun v w' => v = .bool true ∧ Ch [] w w' := by
  have hlen0 := hR0.len
  unfold maxLen at *
  refine fn_of (n := 27) Try.func7 rfl rfl rfl rfl ?_
  have hc : Ch [] w w := Ch.refl _ _
  refine cw_seq fun K1 hK2 => ?_
  refine cw_region fun K3 hK4 => ?_
  refine rw_cons (op_pv (w0 rfl) rfl rfl (pv_assign (v := (.bool false)) rfl rfl) ?_)
  refine rw_nil (hK4 _ _ ?_)
  refine hK2 _ _ ?_
  refine cw_seq fun K5 hK6 => ?_
  refine cw_region fun K7 hK8 => ?_
  refine rw_cons (op_pv (w0 rfl) rfl rfl (pv_assign (v := (.int .i64 1048576)) rfl rfl) ?_)
  refine rw_nil (hK8 _ _ ?_)
  refine hK6 _ _ ?_
  refine cw_seq fun K9 hK10 => ?_
  refine cw_region fun K11 hK12 => ?_
  refine rw_cons (op_pv (w0 rfl) rfl rfl (pv_move (v := (.slice A0 n0 c0)) rfl rfl) ?_)
  refine rw_cons (op_pv (w0 rfl) rfl rfl (pv_move (v := (.int .i64 1048576)) rfl rfl) ?_)
  refine rw_cons (op_call (w0 rfl) rfl rfl (rc_call C18 rfl rfl) (szFileS_ok _ n0 _ xs0 1048576 _ (hR0.more (by omega)) (hD0.any (by omega)) (by omega) (by omega) (by assumption)) ?_)
  rintro _ w13 ⟨r14, rfl, hr15, hch16⟩
  have hsz17 := hch16.size
  replace hR0 := hR0.ch0 hch16
  replace hD0 := hD0.ch0 hch16
  replace hc := hc.step0 hch16
  refine rw_cons (op_pv (w0 rfl) rfl rfl (pv_assign (v := (.int .i64 r14)) rfl rfl) ?_)
  refine rw_nil (hK12 _ _ ?_)
  refine hK10 _ _ ?_
  refine cw_seq fun K18 hK19 => ?_
  refine cw_seq fun K20 hK21 => ?_
  refine cw_region fun K22 hK23 => ?_
  refine rw_cons (op_pv (w0 rfl) rfl rfl (pv_move (v := (.int .i64 r14)) rfl rfl) ?_)
  refine rw_cons (op_pv (w0 rfl) rfl rfl (pv_lss rfl rfl rfl) ?_)
  refine rw_nil (hK23 _ _ ?_)
  refine hK21 _ _ ?_
  refine cw_cond rfl (fun h24 => ?_) (fun h24 => ?_)
  · -- then
    replace h24 := of_decide_eq_true h24
    refine cw_seq fun K25 hK26 => ?_
    refine cw_region fun K27 hK28 => ?_
    refine rw_cons (op_pv (w0 rfl) rfl rfl (pv_assign (v := (.bool true)) rfl rfl) ?_)
    refine rw_nil (hK28 _ _ ?_)
    refine hK26 _ _ ?_
    refine cw_ret ?_
    refine fin1 rfl ?_
    first
      | exact ⟨rfl, hc⟩
      | (exfalso; omega)
      | exact absurd rfl (by assumption)
      | exact absurd (by simp only [*]) (by assumption)
  · -- else
    replace h24 := of_decide_eq_false h24
    refine cw_skip ?_
    refine hK19 _ _ ?_
    refine cw_seq fun K29 hK30 => ?_
    have hZsz : SzOK xs0 := by rcases hr15 with h9 | h9 <;> first | omega | exact h9.2.2
    have hn20 : n0 ≤ 1048576 := by omega
    refine cw_region fun K31 hK32 => ?_
    refine rw_cons (op_pv (w0 rfl) rfl rfl (pv_move (v := (.slice A0 n0 c0)) rfl rfl) ?_)
    refine rw_cons (op_call (w0 rfl) rfl rfl (rc_call C20 rfl rfl) (toFileS_ok _ n0 _ xs0 _ (hR0.more (by omega)) (hD0.any (by omega)) (by first | assumption | omega) (by omega)) ?_)
    rintro _ w33 ⟨A35, c36, hs37, rfl, hO38, hDO39, hfe40, hZ41, hch34⟩
    have hsz42 := hch34.size
    replace hR0 := hR0.ch0 hch34
    replace hD0 := hD0.ch0 hch34
    replace hc := hc.step0 hch34
    have hub43 := hO38.lt
    have hcap44 : hs37.length ≤ c36 := by obtain ⟨_, _, hv, h1, _⟩ := hO38.form; injection hv with _ _ h3; omega
    have hfl45 : hs37.length = (fvs xs0).length := by rw [← hfe40, fvs_len]
    try rw [fvs_len] at hfl45
    refine rw_cons (op_call (w0 rfl) rfl rfl (rc_call C32 rfl rfl) (FilesValid_s _ hs37.length _ hs37 _ (hO38.rs (fun _ => rfl)) (hDO39.any (by omega)) (by first | assumption | exact SzOK.nil) (by omega) (by omega)) ?_)
    rintro _ w46 ⟨rfl, hch47⟩
    try rw [hfe40]
    have hsz48 := hch47.size
    replace hR0 := hR0.ch0 hch47
    replace hD0 := hD0.ch0 hch47
    replace hO38 := hO38.ch0 hch47
    replace hDO39 := hDO39.ch0 hch47
    replace hc := hc.step0 hch47
    refine rw_cons (op_pv (w0 rfl) rfl rfl (pv_assign (v := (.bool (dec (FOK (fvs xs0))))) rfl rfl) ?_)
    refine rw_nil (hK32 _ _ ?_)
    refine hK30 _ _ ?_
    refine cw_seq fun K49 hK50 => ?_
    refine cw_region fun K51 hK52 => ?_
    refine rw_cons (op_pv (w0 rfl) rfl rfl (pv_move (v := (.slice A0 n0 c0)) rfl rfl) ?_)
    refine rw_cons (op_call (w0 rfl) rfl rfl (rc_call C20 rfl rfl) (toFileS_ok _ n0 _ xs0 _ (hR0.more (by omega)) (hD0.any (by omega)) (by first | assumption | omega) (by omega)) ?_)
    rintro _ w53 ⟨A55, c56, hs57, rfl, hO58, hDO59, hfe60, hZ61, hch54⟩
    have hsz62 := hch54.size
    replace hR0 := hR0.ch0 hch54
    replace hD0 := hD0.ch0 hch54
    replace hO38 := hO38.ch0 hch54
    replace hDO39 := hDO39.ch0 hch54
    replace hc := hc.step0 hch54
    have hub63 := hO58.lt
    have hcap64 : hs57.length ≤ c56 := by obtain ⟨_, _, hv, h1, _⟩ := hO58.form; injection hv with _ _ h3; omega
    have hfl65 : hs57.length = (fvs xs0).length := by rw [← hfe60, fvs_len]
    try rw [fvs_len] at hfl65
    refine rw_cons (op_pv (w0 rfl) rfl rfl (pv_assign (v := (.slice A55 hs57.length c56)) rfl rfl) ?_)
    refine rw_nil (hK52 _ _ ?_)
    refine hK50 _ _ ?_
    refine cw_seq fun K66 hK67 => ?_
    refine cw_region fun K68 hK69 => ?_
    refine rw_cons (op_pv (w0 rfl) rfl rfl (pv_move (v := (.slice A55 hs57.length c56)) rfl rfl) ?_)
    refine rw_cons (op_call (w0 rfl) rfl rfl (rc_call C31 rfl rfl) (FilesValid_i _ hs57.length _ hs57 _ (hO58.rs (fun _ => rfl)) (hDO59.any (by omega)) (by first | assumption | exact SzOK.nil) (by omega)) ?_)
    rintro _ w70 ⟨rfl, hch71⟩
    try rw [hfe60]
    have hsz72 := hch71.size
    replace hR0 := hR0.ch0 hch71
    replace hD0 := hD0.ch0 hch71
    replace hO38 := hO38.ch0 hch71
    replace hDO39 := hDO39.ch0 hch71
    replace hO58 := hO58.ch0 hch71
    replace hDO59 := hDO59.ch0 hch71
    replace hc := hc.step0 hch71
    refine rw_cons (op_pv (w0 rfl) rfl rfl (pv_assign (v := (.bool (dec (FOK (fvs xs0))))) rfl rfl) ?_)
    refine rw_nil (hK69 _ _ ?_)
    refine hK67 _ _ ?_
    refine cw_seq fun K73 hK74 => ?_
    refine cw_seq fun K75 hK76 => ?_
    refine cw_region fun K77 hK78 => ?_
    refine rw_cons (op_pv (w0 rfl) rfl rfl (pv_move (v := (.bool (dec (FOK (fvs xs0))))) rfl rfl) ?_)
    refine rw_cons (op_pv (w0 rfl) rfl rfl (pv_move (v := (.bool (dec (FOK (fvs xs0))))) rfl rfl) ?_)
    refine rw_cons (op_pv (w0 rfl) rfl rfl (pv_neBs Try.underlying4 rfl rfl rfl) ?_)
    refine rw_nil (hK78 _ _ ?_)
    refine hK76 _ _ ?_
    refine cw_cond rfl (fun h79 => ?_) (fun h79 => ?_)
    · -- then
      cases h79
    · -- else
      clear h79
      refine cw_skip ?_
      refine hK74 _ _ ?_
      refine cw_seq fun K80 hK81 => ?_
      refine cw_seq fun K82 hK83 => ?_
      refine cw_region fun K84 hK85 => ?_
      refine rw_cons (op_pv (w0 rfl) rfl rfl (pv_move (v := (.slice A55 hs57.length c56)) rfl rfl) ?_)
      refine rw_cons (op_pv (w0 rfl) rfl rfl (pv_move (v := (.slice A0 n0 c0)) rfl rfl) ?_)
      refine rw_cons (op_call (w0 rfl) rfl rfl (rc_call C20 rfl rfl) (toFileS_ok _ n0 _ xs0 _ (hR0.more (by omega)) (hD0.any (by omega)) (by first | assumption | omega) (by omega)) ?_)
      rintro _ w86 ⟨A88, c89, hs90, rfl, hO91, hDO92, hfe93, hZ94, hch87⟩
      have hsz95 := hch87.size
      replace hR0 := hR0.ch0 hch87
      replace hD0 := hD0.ch0 hch87
      replace hO38 := hO38.ch0 hch87
      replace hDO39 := hDO39.ch0 hch87
      replace hO58 := hO58.ch0 hch87
      replace hDO59 := hDO59.ch0 hch87
      replace hc := hc.step0 hch87
      have hub96 := hO91.lt
      have hcap97 : hs90.length ≤ c89 := by obtain ⟨_, _, hv, h1, _⟩ := hO91.form; injection hv with _ _ h3; omega
      have hfl98 : hs90.length = (fvs xs0).length := by rw [← hfe93, fvs_len]
      try rw [fvs_len] at hfl98
      refine rw_cons (op_call (w0 rfl) rfl rfl (rc_call C22 rfl rfl) (eqFileS_ok _ hs57.length _ hs57 _ hs90.length _ hs90 _ (hO58.rs (fun _ => rfl)) (hDO59.any (by omega)) (by first | assumption | exact SzOK.nil) (by omega) (hO91.rs (fun _ => rfl)) (hDO92.any (by omega)) (by first | assumption | exact SzOK.nil) (by omega)) ?_)
      rintro _ w99 ⟨rfl, hch100⟩
      try rw [hfe60]
      try rw [hfe93]
      have hsz101 := hch100.size
      replace hR0 := hR0.ch0 hch100
      replace hD0 := hD0.ch0 hch100
      replace hO38 := hO38.ch0 hch100
      replace hDO39 := hDO39.ch0 hch100
      replace hO58 := hO58.ch0 hch100
      replace hDO59 := hDO59.ch0 hch100
      replace hO91 := hO91.ch0 hch100
      replace hDO92 := hDO92.ch0 hch100
      replace hc := hc.step0 hch100
      refine rw_cons (op_pv (w0 rfl) rfl rfl (pv_not rfl rfl) ?_)
      refine rw_nil (hK85 _ _ ?_)
      refine hK83 _ _ ?_
      refine cw_cond rfl (fun h102 => ?_) (fun h102 => ?_)
      · -- then
        replace h102 := not_t h102
        replace h102 := dec_f h102
        refine cw_seq fun K103 hK104 => ?_
        refine cw_region fun K105 hK106 => ?_
        refine rw_cons (op_pv (w0 rfl) rfl rfl (pv_assign (v := (.bool false)) rfl rfl) ?_)
        refine rw_nil (hK106 _ _ ?_)
        refine hK104 _ _ ?_
        refine cw_ret ?_
        refine fin1 rfl ?_
        first
          | exact ⟨rfl, hc⟩
          | (exfalso; omega)
          | exact absurd rfl (by assumption)
          | exact absurd (by simp only [*]) (by assumption)
      · -- else
        replace h102 := not_f h102
        replace h102 := dec_t h102
        refine cw_skip ?_
        refine hK81 _ _ ?_
        refine cw_seq fun K107 hK108 => ?_
        refine cw_region fun K109 hK110 => ?_
        refine rw_cons (op_pv (w0 rfl) rfl rfl (pv_assign (v := (.bool true)) rfl rfl) ?_)
        refine rw_nil (hK110 _ _ ?_)
        refine hK108 _ _ ?_
        refine cw_ret ?_
        refine fin1 rfl ?_
        first
          | exact ⟨rfl, hc⟩
          | (exfalso; omega)
          | exact absurd rfl (by assumption)
          | exact absurd (by simp only [*]) (by assumption)
end Go.Proofs.Ythgnlljpjpklpaa
