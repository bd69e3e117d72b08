/-
  The walk of laws.FnFileGrow, written by program: each line names the law of one operation. Conditions: those of the theorem.
-/
import Derived.Test.YthgnlljpjpklpaaProg
import Derived.Test.YthgnlljpjpklpaaDeep
import Derived.Test.YthgnlljpjpklpaaFlaw
import Derived.Test.YthgnlljpjpklpaaFops
import Derived.Test.YthgnlljpjpklpaaFlaw2
import Derived.Test.YthgnlljpjpklpaaFlaw3
import Derived.Test.YthgnlljpjpklpaaFspecDrawFileGrow
import Derived.Test.YthgnlljpjpklpaaFimplFileGrow
import Derived.Test.YthgnlljpjpklpaaFspecFileGrow
import Derived.Test.YthgnlljpjpklpaaFlawssameFiles
import Derived.Test.YthgnlljpjpklpaaFlawssameFile
import Derived.Test.YthgnlljpjpklpaaFimplFilesValid
import Derived.Test.YthgnlljpjpklpaaFlawssameInts
import Derived.KernelRfl
namespace Go.Proofs.Ythgnlljpjpklpaa
open Go Go.RowKit
set_option linter.unusedVariables false
set_option linter.unusedSimpArgs false
namespace FnFileGrow_okF
theorem T3 : TI Try.prog 3 false (.int .i64 0) 1 8 := TI.mk' Try.underlying3 rfl (by kernel_rfl)
theorem T9 : TI Try.prog 9 false (.string { data := #[] }) 1 16 := TI.mk' Try.underlying9 rfl (by kernel_rfl)
theorem T25 : TI Try.prog 25 false (.slice none 0 0) 1 24 := TI.mk' Try.underlying25 rfl (by kernel_rfl)
theorem T48 : TI Try.prog 48 true (.agg #[.string { data := #[] }, .slice none 0 0]) 2 40 := TI.mk' Try.underlying48 rfl (by kernel_rfl)
theorem F48_0 : FldOK Try.prog 48 0 0 := ⟨_, _, 0, Try.underlying48, rfl, rfl, by kernel_rfl⟩
theorem F48_1 : FldOK Try.prog 48 1 1 := ⟨_, _, 0, Try.underlying48, rfl, rfl, by kernel_rfl⟩
theorem C31 : Callable Try.prog 31 := ⟨_, Try.func31, by kernel_rfl, by kernel_rfl⟩
theorem C33 : Callable Try.prog 33 := ⟨_, Try.func33, by kernel_rfl, by kernel_rfl⟩
theorem C34 : Callable Try.prog 34 := ⟨_, Try.func34, by kernel_rfl, by kernel_rfl⟩
theorem C39 : Callable Try.prog 39 := ⟨_, Try.func39, by kernel_rfl, by kernel_rfl⟩
theorem C40 : Callable Try.prog 40 := ⟨_, Try.func40, by kernel_rfl, by kernel_rfl⟩
theorem C43 : Callable Try.prog 43 := ⟨_, Try.func43, by kernel_rfl, by kernel_rfl⟩
theorem C44 : Callable Try.prog 44 := ⟨_, Try.func44, by kernel_rfl, by kernel_rfl⟩
end FnFileGrow_okF
open FnFileGrow_okF in
set_option maxHeartbeats 4000000 in
theorem FnFileGrow_ok (A0 : Option Addr) (n0 c0 : Nat) (xs0 : List UInt8) (w : World) (hR0 : RS encU 1 w w.heap.size A0 n0 xs0) (hn0 : n0 ≤ c0) :
    Fn Try.prog 14 [(.slice A0 n0 c0)] w fun v w' => v = .bool true ∧ Ch [] w w' := by
  have hlen0 := hR0.len
  refine fn_of (n := 141) Try.func14 rfl rfl rfl rfl ?_
  have hc : Ch [] w w := Ch.refl _ _
  refine cw_seq fun K1 hK2 => ?_
  refine cw_region fun K3 hK4 => ?_
  refine rw_cons (op_pv (w0 rfl) rfl rfl (pv_assign (v := (.bool false)) rfl rfl) ?_)
  refine rw_nil (hK4 _ _ ?_)
  refine hK2 _ _ ?_
  refine cw_seq fun K5 hK6 => ?_
  refine cw_seq fun K7 hK8 => ?_
  refine cw_region fun K9 hK10 => ?_
  refine rw_cons (op_pv (w0 rfl) rfl rfl (pv_move (v := (.slice A0 n0 c0)) rfl rfl) ?_)
  refine rw_cons (op_pv (w0 rfl) rfl rfl (pv_len Try.underlying36 rfl rfl) ?_)
  refine rw_cons (op_pv (w0 rfl) rfl rfl (pv_gtr rfl rfl rfl) ?_)
  refine rw_nil (hK10 _ _ ?_)
  refine hK8 _ _ ?_
  refine cw_cond rfl (fun h11 => ?_) (fun h11 => ?_)
  · -- then
    replace h11 := of_decide_eq_true h11
    refine cw_seq fun K12 hK13 => ?_
    refine cw_region fun K14 hK15 => ?_
    refine rw_cons (op_pv (w0 rfl) rfl rfl (pv_assign (v := (.bool true)) rfl rfl) ?_)
    refine rw_nil (hK15 _ _ ?_)
    refine hK13 _ _ ?_
    refine cw_ret ?_
    refine fin1 rfl ?_
    exact ⟨rfl, hc⟩
  · -- else
    replace h11 := of_decide_eq_false h11
    refine cw_skip ?_
    refine hK6 _ _ ?_
    refine cw_seq fun K16 hK17 => ?_
    refine cw_region fun K18 hK19 => ?_
    refine rw_cons (op_pv (w0 rfl) rfl rfl (pv_move (v := (.slice A0 n0 c0)) rfl rfl) ?_)
    refine rw_cons (op_call (w0 rfl) rfl rfl (rc_call C43 rfl rfl) (DrawFileGrow_ok _ _ _ _ _ (hR0.more (by omega)) (by omega)) ?_)
    rintro _ w20 ⟨A24, c25, hs22, nm23, rfl, hO26, hl28, hD29, hZ30, hsl31, hch21⟩
    have hsz32 := hch21.size
    replace hR0 := hR0.ch0 hch21
    replace hc := hc.step0 hch21
    have hub27 := hO26.lt
    have hcap33 : hs22.length ≤ c25 := by obtain ⟨_, _, hv, h1, _⟩ := hO26.form; injection hv with _ _ h3; omega
    refine rw_cons (op_pv (w0 rfl) rfl rfl (pv_move (v := (.tuple #[(.slice A24 hs22.length c25), (.string nm23)])) rfl rfl) ?_)
    refine rw_cons (op_pv (w0 rfl) rfl rfl (pv_ext (v := (.slice A24 hs22.length c25)) rfl rfl rfl) ?_)
    refine rw_cons (op_pv (w0 rfl) rfl rfl (pv_ext (v := (.string nm23)) rfl rfl rfl) ?_)
    refine rw_cons (op_pv (w0 rfl) rfl rfl (pv_assign (v := (.slice A24 hs22.length c25)) rfl rfl) ?_)
    refine rw_cons (op_pv (w0 rfl) rfl rfl (pv_assign (v := (.string nm23)) rfl rfl) ?_)
    refine rw_nil (hK19 _ _ ?_)
    refine hK17 _ _ ?_
    refine cw_seq fun K34 hK35 => ?_
    refine cw_region fun K36 hK37 => ?_
    refine rw_cons (op_pv (w0 rfl) rfl rfl (pv_move (v := (.slice A24 hs22.length c25)) rfl rfl) ?_)
    refine rw_cons (op_pv (w0 rfl) rfl rfl (pv_move (v := (.string nm23)) rfl rfl) ?_)
    refine rw_cons (op_call (w0 rfl) rfl rfl (rc_call C34 rfl rfl) (FileGrow_i _ hs22.length _ hs22 nm23 _ (hO26.rs (fun _ => rfl)) (hD29.any (by omega)) (by first | assumption | exact SzOK.nil) (by omega)) ?_)
    rintro _ w38 ⟨A40, c41, hs42, rfl, hO43, hDO44, hfe45, hZ46, hch39⟩
    have hsz47 := hch39.size
    replace hR0 := hR0.ch0 hch39
    replace hO26 := hO26.ch0 hch39
    replace hD29 := hD29.ch0 hch39
    replace hc := hc.step0 hch39
    have hub48 := hO43.lt
    have hcap49 : hs42.length ≤ c41 := by obtain ⟨_, _, hv, h1, _⟩ := hO43.form; injection hv with _ _ h3; omega
    have hfl50 : hs42.length = (growV (fvs hs22) nm23).length := by rw [← hfe45, fvs_len]
    try simp only [fvs_len, List.length_take, List.length_drop] at hfl50
    have hnt51 := growV_le (fvs hs22) nm23
    have hnt52 := growN_bd (fvs hs22) nm23
    refine rw_cons (op_pv (w0 rfl) rfl rfl (pv_move (v := (.tuple #[(.slice A40 hs42.length c41), (.int .i64 (growN (fvs hs22) nm23)), (.bool (dec (GrowOK (fvs hs22) nm23)))])) rfl rfl) ?_)
    refine rw_cons (op_pv (w0 rfl) rfl rfl (pv_ext (v := (.slice A40 hs42.length c41)) rfl rfl rfl) ?_)
    refine rw_cons (op_pv (w0 rfl) rfl rfl (pv_ext (v := (.int .i64 (growN (fvs hs22) nm23))) rfl rfl rfl) ?_)
    refine rw_cons (op_pv (w0 rfl) rfl rfl (pv_ext (v := (.bool (dec (GrowOK (fvs hs22) nm23)))) rfl rfl rfl) ?_)
    refine rw_cons (op_pv (w0 rfl) rfl rfl (pv_assign (v := (.slice A40 hs42.length c41)) rfl rfl) ?_)
    refine rw_cons (op_pv (w0 rfl) rfl rfl (pv_assign (v := (.int .i64 (growN (fvs hs22) nm23))) rfl rfl) ?_)
    refine rw_cons (op_pv (w0 rfl) rfl rfl (pv_assign (v := (.bool (dec (GrowOK (fvs hs22) nm23)))) rfl rfl) ?_)
    refine rw_nil (hK37 _ _ ?_)
    refine hK35 _ _ ?_
    refine cw_seq fun K53 hK54 => ?_
    refine cw_region fun K55 hK56 => ?_
    refine rw_cons (op_pv (w0 rfl) rfl rfl (pv_move (v := (.slice A24 hs22.length c25)) rfl rfl) ?_)
    refine rw_cons (op_pv (w0 rfl) rfl rfl (pv_move (v := (.string nm23)) rfl rfl) ?_)
    refine rw_cons (op_call (w0 rfl) rfl rfl (rc_call C33 rfl rfl) (FileGrow_s _ hs22.length _ hs22 nm23 _ (hO26.rs (fun _ => rfl)) (hD29.any (by omega)) (by first | assumption | exact SzOK.nil) (by omega) (by omega)) ?_)
    rintro _ w57 ⟨A59, c60, hs61, rfl, hO62, hDO63, hfe64, hZ65, hch58⟩
    have hsz66 := hch58.size
    replace hR0 := hR0.ch0 hch58
    replace hO26 := hO26.ch0 hch58
    replace hD29 := hD29.ch0 hch58
    replace hO43 := hO43.ch0 hch58
    replace hDO44 := hDO44.ch0 hch58
    replace hc := hc.step0 hch58
    have hub67 := hO62.lt
    have hcap68 : hs61.length ≤ c60 := by obtain ⟨_, _, hv, h1, _⟩ := hO62.form; injection hv with _ _ h3; omega
    have hfl69 : hs61.length = (growV (fvs hs22) nm23).length := by rw [← hfe64, fvs_len]
    try simp only [fvs_len, List.length_take, List.length_drop] at hfl69
    have hnt70 := growV_le (fvs hs22) nm23
    have hnt71 := growN_bd (fvs hs22) nm23
    refine rw_cons (op_pv (w0 rfl) rfl rfl (pv_move (v := (.tuple #[(.slice A59 hs61.length c60), (.int .i64 (growN (fvs hs22) nm23)), (.bool (dec (GrowOK (fvs hs22) nm23)))])) rfl rfl) ?_)
    refine rw_cons (op_pv (w0 rfl) rfl rfl (pv_ext (v := (.slice A59 hs61.length c60)) rfl rfl rfl) ?_)
    refine rw_cons (op_pv (w0 rfl) rfl rfl (pv_ext (v := (.int .i64 (growN (fvs hs22) nm23))) rfl rfl rfl) ?_)
    refine rw_cons (op_pv (w0 rfl) rfl rfl (pv_ext (v := (.bool (dec (GrowOK (fvs hs22) nm23)))) rfl rfl rfl) ?_)
    refine rw_cons (op_pv (w0 rfl) rfl rfl (pv_assign (v := (.slice A59 hs61.length c60)) rfl rfl) ?_)
    refine rw_cons (op_pv (w0 rfl) rfl rfl (pv_assign (v := (.int .i64 (growN (fvs hs22) nm23))) rfl rfl) ?_)
    refine rw_cons (op_pv (w0 rfl) rfl rfl (pv_assign (v := (.bool (dec (GrowOK (fvs hs22) nm23)))) rfl rfl) ?_)
    refine rw_nil (hK56 _ _ ?_)
    refine hK54 _ _ ?_
    refine cw_seq fun K72 hK73 => ?_
    refine cw_seq fun K74 hK75 => ?_
    refine cw_region fun K76 hK77 => ?_
    refine rw_cons (op_pv (w0 rfl) rfl rfl (pv_move (v := (.bool (dec (GrowOK (fvs hs22) nm23)))) rfl rfl) ?_)
    refine rw_cons (op_pv (w0 rfl) rfl rfl (pv_move (v := (.bool (dec (GrowOK (fvs hs22) nm23)))) rfl rfl) ?_)
    refine rw_cons (op_pv (w0 rfl) rfl rfl (pv_neBs Try.underlying4 rfl rfl rfl) ?_)
    refine rw_cons (op_pv (w0 rfl) rfl rfl (pv_move (v := (.bool false)) rfl rfl) ?_)
    refine rw_cons (op_pv (w1y rfl rfl rfl rfl) rfl rfl (pv_move (v := (.int .i64 (growN (fvs hs22) nm23))) rfl rfl) ?_)
    refine rw_cons (op_pv (w1y rfl rfl rfl rfl) rfl rfl (pv_move (v := (.int .i64 (growN (fvs hs22) nm23))) rfl rfl) ?_)
    refine rw_cons (op_pv (w1y rfl rfl rfl rfl) rfl rfl (pv_nes rfl rfl rfl) ?_)
    refine rw_cons (op_pv (w0 rfl) rfl rfl (pv_pickF (v := (.bool false)) rfl rfl rfl) ?_)
    refine rw_cons (op_pv (w0 rfl) rfl rfl (pv_move (v := (.bool false)) rfl rfl) ?_)
    refine rw_cons (op_pv (w1y rfl rfl rfl rfl) rfl rfl (pv_move (v := (.slice A40 hs42.length c41)) rfl rfl) ?_)
    refine rw_cons (op_pv (w1y rfl rfl rfl rfl) rfl rfl (pv_move (v := (.slice A59 hs61.length c60)) rfl rfl) ?_)
    refine rw_cons (op_call (w1y rfl rfl rfl rfl) rfl rfl (rc_call C40 rfl rfl) (sameFiles_ok _ hs42.length _ hs42 _ hs61.length _ hs61 _ (hO43.rs (fun _ => rfl)) (hDO44.any (by omega)) (by first | assumption | exact SzOK.nil) (by omega) (hO62.rs (fun _ => rfl)) (hDO63.any (by omega)) (by first | assumption | exact SzOK.nil) (by omega)) ?_)
    rintro _ w78 ⟨rfl, hch79⟩
    try rw [hfe45]
    try rw [hfe64]
    have hsz80 := hch79.size
    replace hR0 := hR0.ch0 hch79
    replace hO26 := hO26.ch0 hch79
    replace hD29 := hD29.ch0 hch79
    replace hO43 := hO43.ch0 hch79
    replace hDO44 := hDO44.ch0 hch79
    replace hO62 := hO62.ch0 hch79
    replace hDO63 := hDO63.ch0 hch79
    replace hc := hc.step0 hch79
    refine rw_cons (op_pv (w1y rfl rfl rfl rfl) rfl rfl (pv_not rfl rfl) ?_)
    refine rw_cons (op_pv (w0 rfl) rfl rfl (pv_pickF (v := (.bool (!(dec (growV (fvs hs22) nm23 = growV (fvs hs22) nm23))))) rfl rfl rfl) ?_)
    refine rw_cons (op_pv (w0 rfl) rfl rfl (pv_move (v := (.bool (!(dec (growV (fvs hs22) nm23 = growV (fvs hs22) nm23))))) rfl rfl) ?_)
    refine rw_split 49 rfl (fun hb81 => ?_) (fun hb81 => ?_)
    · -- yes
      replace hb81 := not_t hb81
      replace hb81 := dec_f hb81
      refine rw_cons (op_pass (w1n2 rfl rfl rfl rfl) rfl rfl ?_)
      refine rw_cons (op_pass (w1n2 rfl rfl rfl rfl) rfl rfl ?_)
      refine rw_cons (op_pv (w0 rfl) rfl rfl (pv_pickT (v := (.bool true)) rfl rfl rfl) ?_)
      refine rw_nil (hK77 _ _ ?_)
      refine hK75 _ _ ?_
      refine cw_cond rfl (fun h82 => ?_) (fun h82 => ?_)
      · -- then
        clear h82
        refine cw_seq fun K83 hK84 => ?_
        refine cw_region fun K85 hK86 => ?_
        refine rw_cons (op_pv (w0 rfl) rfl rfl (pv_move (v := (.bool (dec (GrowOK (fvs hs22) nm23)))) rfl rfl) ?_)
        refine rw_cons (op_pv (w0 rfl) rfl rfl (pv_move (v := (.bool (dec (GrowOK (fvs hs22) nm23)))) rfl rfl) ?_)
        refine rw_cons (op_pv (w0 rfl) rfl rfl (pv_eqBs Try.underlying4 rfl rfl rfl) ?_)
        refine rw_cons (op_pv (w0 rfl) rfl rfl (pv_move (v := (.bool true)) rfl rfl) ?_)
        refine rw_cons (op_pv (w1y rfl rfl rfl rfl) rfl rfl (pv_move (v := (.int .i64 (growN (fvs hs22) nm23))) rfl rfl) ?_)
        refine rw_cons (op_pv (w1y rfl rfl rfl rfl) rfl rfl (pv_move (v := (.int .i64 (growN (fvs hs22) nm23))) rfl rfl) ?_)
        refine rw_cons (op_pv (w1y rfl rfl rfl rfl) rfl rfl (pv_eqs rfl rfl rfl) ?_)
        refine rw_cons (op_pv (w0 rfl) rfl rfl (pv_pickT (v := (.bool true)) rfl rfl rfl) ?_)
        refine rw_cons (op_pv (w0 rfl) rfl rfl (pv_move (v := (.bool true)) rfl rfl) ?_)
        refine rw_cons (op_pv (w1y rfl rfl rfl rfl) rfl rfl (pv_move (v := (.slice A40 hs42.length c41)) rfl rfl) ?_)
        refine rw_cons (op_pv (w1y rfl rfl rfl rfl) rfl rfl (pv_move (v := (.slice A59 hs61.length c60)) rfl rfl) ?_)
        refine rw_cons (op_call (w1y rfl rfl rfl rfl) rfl rfl (rc_call C40 rfl rfl) (sameFiles_ok _ hs42.length _ hs42 _ hs61.length _ hs61 _ (hO43.rs (fun _ => rfl)) (hDO44.any (by omega)) (by first | assumption | exact SzOK.nil) (by omega) (hO62.rs (fun _ => rfl)) (hDO63.any (by omega)) (by first | assumption | exact SzOK.nil) (by omega)) ?_)
        rintro _ w87 ⟨rfl, hch88⟩
        try rw [hfe45]
        try rw [hfe64]
        have hsz89 := hch88.size
        replace hR0 := hR0.ch0 hch88
        replace hO26 := hO26.ch0 hch88
        replace hD29 := hD29.ch0 hch88
        replace hO43 := hO43.ch0 hch88
        replace hDO44 := hDO44.ch0 hch88
        replace hO62 := hO62.ch0 hch88
        replace hDO63 := hDO63.ch0 hch88
        replace hc := hc.step0 hch88
        refine rw_cons (op_pv (w0 rfl) rfl rfl (pv_pickT (v := (.bool (dec (growV (fvs hs22) nm23 = growV (fvs hs22) nm23)))) rfl rfl rfl) ?_)
        refine rw_cons (op_pv (w0 rfl) rfl rfl (pv_assign (v := (.bool (dec (growV (fvs hs22) nm23 = growV (fvs hs22) nm23)))) rfl rfl) ?_)
        refine rw_nil (hK86 _ _ ?_)
        refine hK84 _ _ ?_
        refine cw_ret ?_
        refine fin1 rfl ?_
        first
          | exact ⟨rfl, hc⟩
          | exact absurd rfl (by assumption)
          | exact ⟨congrArg Value.bool (dec_yes rfl), hc⟩
          | exact ⟨congrArg Value.bool (beq_self_eq_true _), hc⟩
          | exact ⟨congrArg Value.bool (decide_eq_true rfl), hc⟩
      · -- else
        cases h82
    · -- no
      replace hb81 := not_f hb81
      replace hb81 := dec_t hb81
      refine rw_cons (op_pv (w1y rfl rfl rfl rfl) rfl rfl (pv_move (v := (.bool (dec (GrowOK (fvs hs22) nm23)))) rfl rfl) ?_)
      refine rw_cons (op_pv (w1y rfl rfl rfl rfl) rfl rfl (pv_not rfl rfl) ?_)
      refine rw_cons (op_pv (w0 rfl) rfl rfl (pv_pickF (v := (.bool (!(dec (GrowOK (fvs hs22) nm23))))) rfl rfl rfl) ?_)
      refine rw_nil (hK77 _ _ ?_)
      refine hK75 _ _ ?_
      refine cw_cond rfl (fun h90 => ?_) (fun h90 => ?_)
      · -- then
        replace h90 := not_t h90
        replace h90 := dec_f h90
        refine cw_seq fun K91 hK92 => ?_
        refine cw_region fun K93 hK94 => ?_
        refine rw_cons (op_pv (w0 rfl) rfl rfl (pv_move (v := (.bool (dec (GrowOK (fvs hs22) nm23)))) rfl rfl) ?_)
        refine rw_cons (op_pv (w0 rfl) rfl rfl (pv_move (v := (.bool (dec (GrowOK (fvs hs22) nm23)))) rfl rfl) ?_)
        refine rw_cons (op_pv (w0 rfl) rfl rfl (pv_eqBs Try.underlying4 rfl rfl rfl) ?_)
        refine rw_cons (op_pv (w0 rfl) rfl rfl (pv_move (v := (.bool true)) rfl rfl) ?_)
        refine rw_cons (op_pv (w1y rfl rfl rfl rfl) rfl rfl (pv_move (v := (.int .i64 (growN (fvs hs22) nm23))) rfl rfl) ?_)
        refine rw_cons (op_pv (w1y rfl rfl rfl rfl) rfl rfl (pv_move (v := (.int .i64 (growN (fvs hs22) nm23))) rfl rfl) ?_)
        refine rw_cons (op_pv (w1y rfl rfl rfl rfl) rfl rfl (pv_eqs rfl rfl rfl) ?_)
        refine rw_cons (op_pv (w0 rfl) rfl rfl (pv_pickT (v := (.bool true)) rfl rfl rfl) ?_)
        refine rw_cons (op_pv (w0 rfl) rfl rfl (pv_move (v := (.bool true)) rfl rfl) ?_)
        refine rw_cons (op_pv (w1y rfl rfl rfl rfl) rfl rfl (pv_move (v := (.slice A40 hs42.length c41)) rfl rfl) ?_)
        refine rw_cons (op_pv (w1y rfl rfl rfl rfl) rfl rfl (pv_move (v := (.slice A59 hs61.length c60)) rfl rfl) ?_)
        refine rw_cons (op_call (w1y rfl rfl rfl rfl) rfl rfl (rc_call C40 rfl rfl) (sameFiles_ok _ hs42.length _ hs42 _ hs61.length _ hs61 _ (hO43.rs (fun _ => rfl)) (hDO44.any (by omega)) (by first | assumption | exact SzOK.nil) (by omega) (hO62.rs (fun _ => rfl)) (hDO63.any (by omega)) (by first | assumption | exact SzOK.nil) (by omega)) ?_)
        rintro _ w95 ⟨rfl, hch96⟩
        try rw [hfe45]
        try rw [hfe64]
        have hsz97 := hch96.size
        replace hR0 := hR0.ch0 hch96
        replace hO26 := hO26.ch0 hch96
        replace hD29 := hD29.ch0 hch96
        replace hO43 := hO43.ch0 hch96
        replace hDO44 := hDO44.ch0 hch96
        replace hO62 := hO62.ch0 hch96
        replace hDO63 := hDO63.ch0 hch96
        replace hc := hc.step0 hch96
        refine rw_cons (op_pv (w0 rfl) rfl rfl (pv_pickT (v := (.bool (dec (growV (fvs hs22) nm23 = growV (fvs hs22) nm23)))) rfl rfl rfl) ?_)
        refine rw_cons (op_pv (w0 rfl) rfl rfl (pv_assign (v := (.bool (dec (growV (fvs hs22) nm23 = growV (fvs hs22) nm23)))) rfl rfl) ?_)
        refine rw_nil (hK94 _ _ ?_)
        refine hK92 _ _ ?_
        refine cw_ret ?_
        refine fin1 rfl ?_
        first
          | exact ⟨rfl, hc⟩
          | exact absurd rfl (by assumption)
          | exact ⟨congrArg Value.bool (dec_yes rfl), hc⟩
          | exact ⟨congrArg Value.bool (beq_self_eq_true _), hc⟩
          | exact ⟨congrArg Value.bool (decide_eq_true rfl), hc⟩
      · -- else
        replace h90 := not_f h90
        replace h90 := dec_t h90
        refine cw_skip ?_
        refine hK73 _ _ ?_
        refine cw_seq fun K98 hK99 => ?_
        refine cw_seq fun K100 hK101 => ?_
        have hok : GrowOK (fvs hs22) nm23 := by assumption
        have hgf := grow_fok hok
        have hgl := grow_len hok
        have hxl := fvs_len hs22
        have hgN := growN_bd (fvs hs22) nm23
        have hgL := grow_least hok
        refine cw_region fun K102 hK103 => ?_
        refine rw_cons (op_pv (w0 rfl) rfl rfl (pv_assign (v := (.int .i64 0)) rfl rfl) ?_)
        refine rw_nil (hK103 _ _ ?_)
        refine hK101 _ _ ?_
        refine cw_block ?_
        refine cw_loop (σ := Nat) (fun k => [(11, (.int .i64 (k : Int))), (3, (.slice A24 hs22.length c25)), (4, (.string nm23)), (5, (.slice A40 hs42.length c41)), (6, (.int .i64 (growN (fvs hs22) nm23)))]) (fun k W => (k ≤ hs22.length) ∧ RS encU 1 W w.heap.size A0 n0 xs0 ∧ Own encF 2 W w.heap.size 48 (.slice A24 hs22.length c25) hs22 ∧ DX w.heap.size w20.heap.size ([]) W hs22 ∧ Own encF 2 W w20.heap.size 48 (.slice A40 hs42.length c41) hs42 ∧ DOw w20.heap.size w38.heap.size (obl (.slice A40 hs42.length c41)) 3 W hs42 ∧ Own encF 2 W w38.heap.size 48 (.slice A59 hs61.length c60) hs61 ∧ DOw w38.heap.size w57.heap.size (obl (.slice A59 hs61.length c60)) 3 W hs61 ∧ Ch [] w W ∧ w20.heap.size ≤ W.heap.size ∧ w38.heap.size ≤ W.heap.size ∧ w57.heap.size ≤ W.heap.size) (fun k => hs22.length - k) 0 ?_ ?_ ?_
        · exact ⟨rfl, rfl, rfl, rfl, rfl, trivial⟩
        · refine ⟨Nat.zero_le _, hR0, hO26, hD29, hO43, hDO44, hO62, hDO63, hc, (by omega), (by omega), (by omega)⟩
        · rintro k J111 w104 ⟨hk, hR0, hO26, hD29, hO43, hDO44, hO62, hDO63, hc, hmono105, hmono106, hmono107⟩ K108 hK109
          have hsz113 := hc.size
          have hub114 := hO26.lt
          have hub115 := hO43.lt
          have hub116 := hO62.lt
          refine cw_seq fun K117 hK118 => ?_
          refine cw_seq fun K119 hK120 => ?_
          refine cw_region fun K121 hK122 => ?_
          refine rw_cons (op_pv (w0 rfl) rfl rfl (pv_move (v := (.int .i64 (k : Int))) rfl rfl) ?_)
          refine rw_cons (op_pv (w0 rfl) rfl rfl (pv_move (v := (.slice A24 hs22.length c25)) rfl rfl) ?_)
          refine rw_cons (op_pv (w0 rfl) rfl rfl (pv_len Try.underlying24 rfl rfl) ?_)
          refine rw_cons (op_pv (w0 rfl) rfl rfl (pv_lss rfl rfl rfl) ?_)
          refine rw_nil (hK122 _ _ ?_)
          refine hK120 _ _ ?_
          refine cw_cond rfl (fun h123 => ?_) (fun h123 => ?_)
          · -- then
            replace h123 := of_decide_eq_true h123
            refine cw_skip ?_
            refine hK118 _ _ ?_
            refine cw_seq fun K124 hK125 => ?_
            refine cw_block ?_
            refine cw_seq fun K126 hK127 => ?_
            have hzk := ‹SzOK hs22› k (by omega)
            refine cw_region fun K128 hK129 => ?_
            refine rw_cons (op_pv (w0 rfl) rfl rfl (pv_move (v := (.slice A24 hs22.length c25)) rfl rfl) ?_)
            refine rw_cons (op_pv (w0 rfl) rfl rfl (pv_move (v := (.int .i64 (k : Int))) rfl rfl) ?_)
            refine rw_cons (op_pv (w0 rfl) rfl rfl (pv_idx Try.underlying24 T48 rfl rfl rfl ((hO26.rs (fun _ => rfl)).some (k := k) (by omega)) (by omega) (by omega)) ?_)
            refine rw_cons (op_pv (w0 rfl) rfl rfl (pv_fld F48_1 rfl rfl) ?_)
            have hR130 : RS encI 1 w104 w20.heap.size (el hs22 k).A (el hs22 k).n (el hs22 k).ps := hD29.rs (k := k) (by omega)
            have hln131 := hR130.len
            refine rw_cons (op_lv (w0 rfl) rfl rfl (lv_load T25 rfl rfl ((hO26.rs (fun _ => rfl)).cellE (k := k) (j := 1) (by omega) rfl)) ?_)
            refine rw_cons (op_pv (w0 rfl) rfl rfl (pv_len Try.underlying25 rfl rfl) ?_)
            refine rw_cons (op_pv (w0 rfl) rfl rfl (pv_assign (v := (.int .i64 ((el hs22 k).n : Int))) rfl rfl) ?_)
            refine rw_nil (hK129 _ _ ?_)
            refine hK127 _ _ ?_
            refine cw_seq fun K132 hK133 => ?_
            refine cw_region fun K134 hK135 => ?_
            refine rw_cons (op_pv (w0 rfl) rfl rfl (pv_move (v := (.slice A24 hs22.length c25)) rfl rfl) ?_)
            refine rw_cons (op_pv (w0 rfl) rfl rfl (pv_move (v := (.int .i64 (k : Int))) rfl rfl) ?_)
            refine rw_cons (op_pv (w0 rfl) rfl rfl (pv_idx Try.underlying24 T48 rfl rfl rfl ((hO26.rs (fun _ => rfl)).some (k := k) (by omega)) (by omega) (by omega)) ?_)
            refine rw_cons (op_pv (w0 rfl) rfl rfl (pv_fld F48_0 rfl rfl) ?_)
            have hR136 : RS encI 1 w104 w20.heap.size (el hs22 k).A (el hs22 k).n (el hs22 k).ps := hD29.rs (k := k) (by omega)
            have hln137 := hR136.len
            refine rw_cons (op_lv (w0 rfl) rfl rfl (lv_load T9 rfl rfl ((hO26.rs (fun _ => rfl)).cellE (k := k) (j := 0) (by omega) rfl)) ?_)
            refine rw_cons (op_pv (w0 rfl) rfl rfl (pv_move (v := (.string nm23)) rfl rfl) ?_)
            refine rw_cons (op_pv (w0 rfl) rfl rfl (pv_eqS rfl rfl rfl) ?_)
            refine rw_nil (hK135 _ _ ?_)
            refine hK133 _ _ ?_
            refine cw_cond rfl (fun h138 => ?_) (fun h138 => ?_)
            · -- then
              replace h138 := of_decide_eq_true h138
              refine cw_seq fun K139 hK140 => ?_
              have hps := grow_in hok hfe45 (k := k) (by omega) (by assumption)
              obtain ⟨hp1, hp2, hp3⟩ := grow_last hps (hD29.rs (k := k) (by omega)).len
              have hpc := (hDO44.own k (by omega)).le.1
              refine cw_drawn (fun u => Ch [] w104 u) (.free 0 (.free 1 (.free 2 (.free 3 (.free 4 (.free 5 (.free 6 (.free 7 (.free 8 (.free 9 (.free 10 (.free 11 (.free 12 (.free 13 (.free 14 (.free 15 (.free 16 (.free 17 (.free 18 (.free 19 (.free 20 (.free 21 (.free 22 (.free 23 (.free 24 (.free 25 (.free 26 (.free 27 (.free 28 (.free 29 (.free 30 (.free 31 (.free 32 (.free 33 (.one 34 true (.free 35 (.free 36 (.done)))))))))))))))))))))))))))))))))))))) (by kernel_rfl) (by kernel_rfl) (Ch.refl _ _).drew fun K144 hK145 => ?_
              obtain ⟨w141, hw_, hch142, hsz143⟩ : ∃ w1 : World, w1 = w104.drew ∧ Ch [] w104 w1 ∧ w1.heap.size = w104.heap.size := ⟨_, rfl, (Ch.refl _ _).drew, rfl⟩
              rw [← hw_]; clear hw_
              have hr146 : Ch [] w104 w141 := hch142.sub (fun s hs => by cases hs)
              have hR0_r := hR0
              have hO26_r := hO26
              have hD29_r := hD29
              have hO43_r := hO43
              have hDO44_r := hDO44
              have hO62_r := hO62
              have hDO63_r := hDO63
              have hR130_r := hR130
              have hR136_r := hR136
              have hsz147 := hch142.size
              replace hR0 := hR0.ch0 hch142
              replace hO26 := hO26.ch0 hch142
              replace hD29 := hD29.ch0 hch142
              replace hO43 := hO43.ch0 hch142
              replace hDO44 := hDO44.ch0 hch142
              replace hO62 := hO62.ch0 hch142
              replace hDO63 := hDO63.ch0 hch142
              replace hR130 := hR130.ch0 hch142
              replace hR136 := hR136.ch0 hch142
              replace hc := hc.step0 hch142
              refine tw_free rfl (w0 rfl) rfl rfl (fun u hu => (pv_move (v := (.slice A40 hs42.length c41)) rfl rfl : PV _ _ _ _) u) ?_
              refine tw_free rfl (w0 rfl) rfl rfl (fun u hu => (pv_move (v := (.int .i64 (k : Int))) rfl rfl : PV _ _ _ _) u) ?_
              refine tw_free rfl (w0 rfl) rfl rfl (fun u hu => (pv_idx Try.underlying24 T48 rfl rfl rfl ((hO43.rs (fun _ => rfl)).some (k := k) (by omega)) (by omega) (by omega) : PV _ _ _ _) u) ?_
              refine tw_free rfl (w0 rfl) rfl rfl (fun u hu => (pv_fld F48_1 rfl rfl : PV _ _ _ _) u) ?_
              refine tw_free rfl (w0 rfl) rfl rfl (fun u hu => lv_load T25 rfl rfl (((hO43_r.ch0 hu).rs (fun _ => rfl)).cellE (k := k) (j := 1) (by omega) rfl)) ?_
              have hR148 : RS encI 1 w141 w38.heap.size (el hs42 k).A (el hs42 k).n (el hs42 k).ps := hDO44.rs (k := k) (by omega)
              have hR148_r : RS encI 1 w104 w38.heap.size (el hs42 k).A (el hs42 k).n (el hs42 k).ps := hDO44_r.rs (k := k) (by omega)
              have hln149 := hR148.len
              refine tw_free rfl (w0 rfl) rfl rfl (fun u hu => (pv_len Try.underlying25 rfl rfl : PV _ _ _ _) u) ?_
              refine tw_free rfl (w0 rfl) rfl rfl (fun u hu => (pv_move (v := (.int .i64 ((el hs22 k).n : Int))) rfl rfl : PV _ _ _ _) u) ?_
              refine tw_free rfl (w0 rfl) rfl rfl (fun u hu => (pv_add rfl rfl rfl (by omega) (by omega) : PV _ _ _ _) u) ?_
              refine tw_free rfl (w0 rfl) rfl rfl (fun u hu => (pv_neq rfl rfl rfl : PV _ _ _ _) u) ?_
              refine tw_free rfl (w0 rfl) rfl rfl (fun u hu => (pv_move (v := (.bool (decide ((((el hs42 k).n : Int) : Int) ≠ (((el hs22 k).n : Int) + 1))))) rfl rfl : PV _ _ _ _) u) ?_
              refine tw_split 94 rfl (fun hb150 => ?_) (fun hb150 => ?_)
              · -- yes
                replace hb150 := of_decide_eq_true hb150
                refine tw_pass rfl (w1n2 rfl rfl rfl rfl) rfl rfl ?_
                refine tw_pass rfl (w1n2 rfl rfl rfl rfl) rfl rfl ?_
                refine tw_pass rfl (w1n2 rfl rfl rfl rfl) rfl rfl ?_
                refine tw_pass rfl (w1n2 rfl rfl rfl rfl) rfl rfl ?_
                refine tw_pass rfl (w1n2 rfl rfl rfl rfl) rfl rfl ?_
                refine tw_pass rfl (w1n2 rfl rfl rfl rfl) rfl rfl ?_
                refine tw_pass rfl (w1n2 rfl rfl rfl rfl) rfl rfl ?_
                refine tw_pass rfl (w1n2 rfl rfl rfl rfl) rfl rfl ?_
                refine tw_pass rfl (w1n2 rfl rfl rfl rfl) rfl rfl ?_
                refine tw_pass rfl (w1n2 rfl rfl rfl rfl) rfl rfl ?_
                refine tw_free rfl (w0 rfl) rfl rfl (fun u hu => (pv_pickT (v := (.bool true)) rfl rfl rfl : PV _ _ _ _) u) ?_
                refine tw_free rfl (w0 rfl) rfl rfl (fun u hu => (pv_move (v := (.bool true)) rfl rfl : PV _ _ _ _) u) ?_
                refine tw_pass rfl (w1n2 rfl rfl rfl rfl) rfl rfl ?_
                refine tw_pass rfl (w1n2 rfl rfl rfl rfl) rfl rfl ?_
                refine tw_pass rfl (w1n2 rfl rfl rfl rfl) rfl rfl ?_
                refine tw_pass rfl (w1n2 rfl rfl rfl rfl) rfl rfl ?_
                refine tw_pass rfl (w1n2 rfl rfl rfl rfl) rfl rfl ?_
                refine tw_pass rfl (w1n2 rfl rfl rfl rfl) rfl rfl ?_
                refine tw_pass rfl (w1n2 rfl rfl rfl rfl) rfl rfl ?_
                refine tw_pass rfl (w1n2 rfl rfl rfl rfl) rfl rfl ?_
                refine tw_pass rfl (w1n2 rfl rfl rfl rfl) rfl rfl ?_
                refine tw_pass rfl (w1n2 rfl rfl rfl rfl) rfl rfl ?_
                refine tw_pass rfl (w1n2 rfl rfl rfl rfl) rfl rfl ?_
                refine tw_pass rfl (w1n2 rfl rfl rfl rfl) rfl rfl ?_
                refine tw_one rfl (op_pass (w1n2 rfl rfl rfl rfl) rfl rfl ?_)
                refine ⟨fun _ => hr146, ?_⟩
                refine tw_pass rfl (w1n2 rfl rfl rfl rfl) rfl rfl ?_
                refine tw_free rfl (w0 rfl) rfl rfl (fun u hu => (pv_pickT (v := (.bool true)) rfl rfl rfl : PV _ _ _ _) u) ?_
                try clear hD29_r
                try clear hDO44_r
                try clear hDO63_r
                try clear hO26_r
                try clear hO43_r
                try clear hO62_r
                try clear hR0_r
                try clear hR130_r
                try clear hR136_r
                try clear hR148_r
                refine tw_done (hK145 _ _ ?_)
                refine hK140 _ _ ?_
                refine cw_cond rfl (fun h151 => ?_) (fun h151 => ?_)
                · -- then
                  clear h151
                  refine cw_seq fun K152 hK153 => ?_
                  refine cw_region fun K154 hK155 => ?_
                  refine rw_cons (op_pv (w0 rfl) rfl rfl (pv_assign (v := (.bool false)) rfl rfl) ?_)
                  refine rw_nil (hK155 _ _ ?_)
                  refine hK153 _ _ ?_
                  refine cw_ret ?_
                  refine fin1 rfl ?_
                  exfalso
                  first
                    | omega
                    | exact absurd hp2 (by assumption)
                    | exact absurd hp3 (by assumption)
                    | exact absurd hsame (by assumption)
                    | exact absurd hgf (by assumption)
                · -- else
                  cases h151
              · -- no
                replace hb150 := of_decide_eq_false hb150
                refine tw_free rfl (w1y rfl rfl rfl rfl) rfl rfl (fun u hu => (pv_move (v := (.slice A40 hs42.length c41)) rfl rfl : PV _ _ _ _) u) ?_
                refine tw_free rfl (w1y rfl rfl rfl rfl) rfl rfl (fun u hu => (pv_move (v := (.int .i64 (k : Int))) rfl rfl : PV _ _ _ _) u) ?_
                refine tw_free rfl (w1y rfl rfl rfl rfl) rfl rfl (fun u hu => (pv_idx Try.underlying24 T48 rfl rfl rfl ((hO43.rs (fun _ => rfl)).some (k := k) (by omega)) (by omega) (by omega) : PV _ _ _ _) u) ?_
                refine tw_free rfl (w1y rfl rfl rfl rfl) rfl rfl (fun u hu => (pv_fld F48_1 rfl rfl : PV _ _ _ _) u) ?_
                refine tw_free rfl (w1y rfl rfl rfl rfl) rfl rfl (fun u hu => lv_load T25 rfl rfl (((hO43_r.ch0 hu).rs (fun _ => rfl)).cellE (k := k) (j := 1) (by omega) rfl)) ?_
                have hR156 : RS encI 1 w141 w38.heap.size (el hs42 k).A (el hs42 k).n (el hs42 k).ps := hDO44.rs (k := k) (by omega)
                have hR156_r : RS encI 1 w104 w38.heap.size (el hs42 k).A (el hs42 k).n (el hs42 k).ps := hDO44_r.rs (k := k) (by omega)
                have hln157 := hR156.len
                refine tw_free rfl (w1y rfl rfl rfl rfl) rfl rfl (fun u hu => (pv_move (v := (.int .i64 ((el hs22 k).n : Int))) rfl rfl : PV _ _ _ _) u) ?_
                refine tw_free rfl (w1y rfl rfl rfl rfl) rfl rfl (fun u hu => (pv_idx Try.underlying25 T3 rfl rfl rfl (hR156.some (k := (el hs22 k).n) (by omega)) (by omega) (by omega) : PV _ _ _ _) u) ?_
                refine tw_free rfl (w1y rfl rfl rfl rfl) rfl rfl (fun u hu => lv_load T3 rfl rfl ((hR156_r.ch0 hu).cell0 (k := (el hs22 k).n) (by omega) rfl)) ?_
                refine tw_free rfl (w1y rfl rfl rfl rfl) rfl rfl (fun u hu => (pv_move (v := (.int .i64 (growN (fvs hs22) nm23))) rfl rfl : PV _ _ _ _) u) ?_
                refine tw_free rfl (w1y rfl rfl rfl rfl) rfl rfl (fun u hu => (pv_neq rfl rfl rfl : PV _ _ _ _) u) ?_
                refine tw_free rfl (w0 rfl) rfl rfl (fun u hu => (pv_pickF (v := (.bool (decide (((el (el hs42 k).ps (el hs22 k).n) : Int) ≠ (growN (fvs hs22) nm23))))) rfl rfl rfl : PV _ _ _ _) u) ?_
                refine tw_free rfl (w0 rfl) rfl rfl (fun u hu => (pv_move (v := (.bool (decide (((el (el hs42 k).ps (el hs22 k).n) : Int) ≠ (growN (fvs hs22) nm23))))) rfl rfl : PV _ _ _ _) u) ?_
                refine tw_split 106 rfl (fun hb158 => ?_) (fun hb158 => ?_)
                · -- yes
                  replace hb158 := of_decide_eq_true hb158
                  refine tw_pass rfl (w1n2 rfl rfl rfl rfl) rfl rfl ?_
                  refine tw_pass rfl (w1n2 rfl rfl rfl rfl) rfl rfl ?_
                  refine tw_pass rfl (w1n2 rfl rfl rfl rfl) rfl rfl ?_
                  refine tw_pass rfl (w1n2 rfl rfl rfl rfl) rfl rfl ?_
                  refine tw_pass rfl (w1n2 rfl rfl rfl rfl) rfl rfl ?_
                  refine tw_pass rfl (w1n2 rfl rfl rfl rfl) rfl rfl ?_
                  refine tw_pass rfl (w1n2 rfl rfl rfl rfl) rfl rfl ?_
                  refine tw_pass rfl (w1n2 rfl rfl rfl rfl) rfl rfl ?_
                  refine tw_pass rfl (w1n2 rfl rfl rfl rfl) rfl rfl ?_
                  refine tw_pass rfl (w1n2 rfl rfl rfl rfl) rfl rfl ?_
                  refine tw_pass rfl (w1n2 rfl rfl rfl rfl) rfl rfl ?_
                  refine tw_pass rfl (w1n2 rfl rfl rfl rfl) rfl rfl ?_
                  refine tw_one rfl (op_pass (w1n2 rfl rfl rfl rfl) rfl rfl ?_)
                  refine ⟨fun _ => hr146, ?_⟩
                  refine tw_pass rfl (w1n2 rfl rfl rfl rfl) rfl rfl ?_
                  refine tw_free rfl (w0 rfl) rfl rfl (fun u hu => (pv_pickT (v := (.bool true)) rfl rfl rfl : PV _ _ _ _) u) ?_
                  try clear hD29_r
                  try clear hDO44_r
                  try clear hDO63_r
                  try clear hO26_r
                  try clear hO43_r
                  try clear hO62_r
                  try clear hR0_r
                  try clear hR130_r
                  try clear hR136_r
                  try clear hR148_r
                  try clear hR156_r
                  refine tw_done (hK145 _ _ ?_)
                  refine hK140 _ _ ?_
                  refine cw_cond rfl (fun h159 => ?_) (fun h159 => ?_)
                  · -- then
                    clear h159
                    refine cw_seq fun K160 hK161 => ?_
                    refine cw_region fun K162 hK163 => ?_
                    refine rw_cons (op_pv (w0 rfl) rfl rfl (pv_assign (v := (.bool false)) rfl rfl) ?_)
                    refine rw_nil (hK163 _ _ ?_)
                    refine hK161 _ _ ?_
                    refine cw_ret ?_
                    refine fin1 rfl ?_
                    exfalso
                    first
                      | omega
                      | exact absurd hp2 (by assumption)
                      | exact absurd hp3 (by assumption)
                      | exact absurd hsame (by assumption)
                      | exact absurd hgf (by assumption)
                  · -- else
                    cases h159
                · -- no
                  replace hb158 := of_decide_eq_false hb158
                  refine tw_free rfl (w1y rfl rfl rfl rfl) rfl rfl (fun u hu => (pv_move (v := (.slice A40 hs42.length c41)) rfl rfl : PV _ _ _ _) u) ?_
                  refine tw_free rfl (w1y rfl rfl rfl rfl) rfl rfl (fun u hu => (pv_move (v := (.int .i64 (k : Int))) rfl rfl : PV _ _ _ _) u) ?_
                  refine tw_free rfl (w1y rfl rfl rfl rfl) rfl rfl (fun u hu => (pv_idx Try.underlying24 T48 rfl rfl rfl ((hO43.rs (fun _ => rfl)).some (k := k) (by omega)) (by omega) (by omega) : PV _ _ _ _) u) ?_
                  refine tw_free rfl (w1y rfl rfl rfl rfl) rfl rfl (fun u hu => (pv_fld F48_1 rfl rfl : PV _ _ _ _) u) ?_
                  refine tw_free rfl (w1y rfl rfl rfl rfl) rfl rfl (fun u hu => lv_load T25 rfl rfl (((hO43_r.ch0 hu).rs (fun _ => rfl)).cellE (k := k) (j := 1) (by omega) rfl)) ?_
                  have hR164 : RS encI 1 w141 w38.heap.size (el hs42 k).A (el hs42 k).n (el hs42 k).ps := hDO44.rs (k := k) (by omega)
                  have hR164_r : RS encI 1 w104 w38.heap.size (el hs42 k).A (el hs42 k).n (el hs42 k).ps := hDO44_r.rs (k := k) (by omega)
                  have hln165 := hR164.len
                  refine tw_free rfl (w1y rfl rfl rfl rfl) rfl rfl (fun u hu => (pv_move (v := (.int .i64 ((el hs22 k).n : Int))) rfl rfl : PV _ _ _ _) u) ?_
                  refine tw_free rfl (w1y rfl rfl rfl rfl) rfl rfl (fun u hu => (pv_upto Try.underlying25 T3 rfl rfl rfl (by omega) (by omega) : PV _ _ _ _) u) ?_
                  have hR166 : RS encI 1 w141 w38.heap.size (el hs42 k).A (el hs22 k).n ((el hs42 k).ps.take (el hs22 k).n) := (hR164).upto (by omega)
                  refine tw_free rfl (w1y rfl rfl rfl rfl) rfl rfl (fun u hu => (pv_move (v := (.slice A24 hs22.length c25)) rfl rfl : PV _ _ _ _) u) ?_
                  refine tw_free rfl (w1y rfl rfl rfl rfl) rfl rfl (fun u hu => (pv_move (v := (.int .i64 (k : Int))) rfl rfl : PV _ _ _ _) u) ?_
                  refine tw_free rfl (w1y rfl rfl rfl rfl) rfl rfl (fun u hu => (pv_idx Try.underlying24 T48 rfl rfl rfl ((hO26.rs (fun _ => rfl)).some (k := k) (by omega)) (by omega) (by omega) : PV _ _ _ _) u) ?_
                  refine tw_free rfl (w1y rfl rfl rfl rfl) rfl rfl (fun u hu => (pv_fld F48_1 rfl rfl : PV _ _ _ _) u) ?_
                  refine tw_free rfl (w1y rfl rfl rfl rfl) rfl rfl (fun u hu => lv_load T25 rfl rfl (((hO26_r.ch0 hu).rs (fun _ => rfl)).cellE (k := k) (j := 1) (by omega) rfl)) ?_
                  have hR167 : RS encI 1 w141 w20.heap.size (el hs22 k).A (el hs22 k).n (el hs22 k).ps := hD29.rs (k := k) (by omega)
                  have hR167_r : RS encI 1 w104 w20.heap.size (el hs22 k).A (el hs22 k).n (el hs22 k).ps := hD29_r.rs (k := k) (by omega)
                  have hln168 := hR167.len
                  refine tw_one rfl (op_call (w1y rfl rfl rfl rfl) rfl rfl (rc_call C39 rfl rfl) (sameInts_ok _ _ _ _ _ _ ((el hs42 k).ps.take (el hs22 k).n) (el hs22 k).ps _ (hR166.more (by omega)) (hR167.more (by omega)) (by omega)) ?_)
                  rintro _ w169 ⟨rfl, hch170⟩
                  have hsz171 := hch170.size
                  replace hR0 := hR0.ch0 hch170
                  replace hO26 := hO26.ch0 hch170
                  replace hD29 := hD29.ch0 hch170
                  replace hO43 := hO43.ch0 hch170
                  replace hDO44 := hDO44.ch0 hch170
                  replace hO62 := hO62.ch0 hch170
                  replace hDO63 := hDO63.ch0 hch170
                  replace hR130 := hR130.ch0 hch170
                  replace hR136 := hR136.ch0 hch170
                  replace hR148 := hR148.ch0 hch170
                  replace hR156 := hR156.ch0 hch170
                  replace hR164 := hR164.ch0 hch170
                  replace hR166 := hR166.ch0 hch170
                  replace hR167 := hR167.ch0 hch170
                  replace hc := hc.step0 hch170
                  replace hr146 := hr146.step0 hch170
                  refine ⟨fun _ => hr146, ?_⟩
                  refine tw_free rfl (w1y rfl rfl rfl rfl) rfl rfl (fun u hu => (pv_not rfl rfl : PV _ _ _ _) u) ?_
                  refine tw_free rfl (w0 rfl) rfl rfl (fun u hu => (pv_pickF (v := (.bool (!(dec (((el hs42 k).ps.take (el hs22 k).n) = (el hs22 k).ps))))) rfl rfl rfl : PV _ _ _ _) u) ?_
                  try clear hD29_r
                  try clear hDO44_r
                  try clear hDO63_r
                  try clear hO26_r
                  try clear hO43_r
                  try clear hO62_r
                  try clear hR0_r
                  try clear hR130_r
                  try clear hR136_r
                  try clear hR148_r
                  try clear hR156_r
                  try clear hR164_r
                  try clear hR167_r
                  refine tw_done (hK145 _ _ ?_)
                  refine hK140 _ _ ?_
                  refine cw_cond rfl (fun h172 => ?_) (fun h172 => ?_)
                  · -- then
                    replace h172 := not_t h172
                    replace h172 := dec_f h172
                    refine cw_seq fun K173 hK174 => ?_
                    refine cw_region fun K175 hK176 => ?_
                    refine rw_cons (op_pv (w0 rfl) rfl rfl (pv_assign (v := (.bool false)) rfl rfl) ?_)
                    refine rw_nil (hK176 _ _ ?_)
                    refine hK174 _ _ ?_
                    refine cw_ret ?_
                    refine fin1 rfl ?_
                    exfalso
                    first
                      | omega
                      | exact absurd hp2 (by assumption)
                      | exact absurd hp3 (by assumption)
                      | exact absurd hsame (by assumption)
                      | exact absurd hgf (by assumption)
                  · -- else
                    replace h172 := not_f h172
                    replace h172 := dec_t h172
                    refine cw_skip ?_
                    refine hK125 _ _ ?_
                    refine cw_region fun K177 hK178 => ?_
                    refine rw_cons (op_pv (w0 rfl) rfl rfl (pv_move (v := (.int .i64 (k : Int))) rfl rfl) ?_)
                    refine rw_cons (op_pv (w0 rfl) rfl rfl (pv_add rfl rfl rfl (by omega) (by omega)) ?_)
                    refine rw_cons (op_pv (w0 rfl) rfl rfl (pv_assign (v := (.int .i64 ((k : Int) + 1))) rfl rfl) ?_)
                    refine rw_nil (hK178 _ _ ?_)
                    refine hK109 _ _ (k + 1) ⟨(iv (by omega)), rfl, rfl, rfl, rfl, trivial⟩ ⟨?_, hR0, hO26, hD29, hO43, hDO44, hO62, hDO63, hc, (by omega), (by omega), (by omega)⟩ ?_
                    · omega
                    · (first | omega | (simp only []; omega))
            · -- else
              replace h138 := of_decide_eq_false h138
              refine cw_seq fun K179 hK180 => ?_
              have hzk2 := ‹SzOK hs22› k (by omega)
              have hzg := ‹SzOK hs42› k (by omega)
              have hsame := grow_out hok hfe45 (k := k) (by omega) (by assumption)
              refine cw_drawn (fun u => Ch [] w104 u) (.free 0 (.free 1 (.free 2 (.free 3 (.free 4 (.free 5 (.free 6 (.free 7 (.one 8 true (.free 9 (.done))))))))))) (by kernel_rfl) (by kernel_rfl) (Ch.refl _ _).drew fun K184 hK185 => ?_
              obtain ⟨w181, hw_, hch182, hsz183⟩ : ∃ w1 : World, w1 = w104.drew ∧ Ch [] w104 w1 ∧ w1.heap.size = w104.heap.size := ⟨_, rfl, (Ch.refl _ _).drew, rfl⟩
              rw [← hw_]; clear hw_
              have hr186 : Ch [] w104 w181 := hch182.sub (fun s hs => by cases hs)
              have hR0_r := hR0
              have hO26_r := hO26
              have hD29_r := hD29
              have hO43_r := hO43
              have hDO44_r := hDO44
              have hO62_r := hO62
              have hDO63_r := hDO63
              have hR130_r := hR130
              have hR136_r := hR136
              have hsz187 := hch182.size
              replace hR0 := hR0.ch0 hch182
              replace hO26 := hO26.ch0 hch182
              replace hD29 := hD29.ch0 hch182
              replace hO43 := hO43.ch0 hch182
              replace hDO44 := hDO44.ch0 hch182
              replace hO62 := hO62.ch0 hch182
              replace hDO63 := hDO63.ch0 hch182
              replace hR130 := hR130.ch0 hch182
              replace hR136 := hR136.ch0 hch182
              replace hc := hc.step0 hch182
              refine tw_free rfl (w0 rfl) rfl rfl (fun u hu => (pv_move (v := (.slice A40 hs42.length c41)) rfl rfl : PV _ _ _ _) u) ?_
              refine tw_free rfl (w0 rfl) rfl rfl (fun u hu => (pv_move (v := (.int .i64 (k : Int))) rfl rfl : PV _ _ _ _) u) ?_
              refine tw_free rfl (w0 rfl) rfl rfl (fun u hu => (pv_idx Try.underlying24 T48 rfl rfl rfl ((hO43.rs (fun _ => rfl)).some (k := k) (by omega)) (by omega) (by omega) : PV _ _ _ _) u) ?_
              refine tw_free rfl (w0 rfl) rfl rfl (fun u hu => lv_loadN T48 rfl rfl rfl (fun j v hv => ((hO43_r.ch0 hu).rs (fun _ => rfl)).cellE (k := k) (by omega) hv)) ?_
              have hR188 : RS encI 1 w181 w38.heap.size (el hs42 k).A (el hs42 k).n (el hs42 k).ps := hDO44.rs (k := k) (by omega)
              have hR188_r : RS encI 1 w104 w38.heap.size (el hs42 k).A (el hs42 k).n (el hs42 k).ps := hDO44_r.rs (k := k) (by omega)
              have hln189 := hR188.len
              refine tw_free rfl (w0 rfl) rfl rfl (fun u hu => (pv_move (v := (.slice A24 hs22.length c25)) rfl rfl : PV _ _ _ _) u) ?_
              refine tw_free rfl (w0 rfl) rfl rfl (fun u hu => (pv_move (v := (.int .i64 (k : Int))) rfl rfl : PV _ _ _ _) u) ?_
              refine tw_free rfl (w0 rfl) rfl rfl (fun u hu => (pv_idx Try.underlying24 T48 rfl rfl rfl ((hO26.rs (fun _ => rfl)).some (k := k) (by omega)) (by omega) (by omega) : PV _ _ _ _) u) ?_
              refine tw_free rfl (w0 rfl) rfl rfl (fun u hu => lv_loadN T48 rfl rfl rfl (fun j v hv => ((hO26_r.ch0 hu).rs (fun _ => rfl)).cellE (k := k) (by omega) hv)) ?_
              have hR190 : RS encI 1 w181 w20.heap.size (el hs22 k).A (el hs22 k).n (el hs22 k).ps := hD29.rs (k := k) (by omega)
              have hR190_r : RS encI 1 w104 w20.heap.size (el hs22 k).A (el hs22 k).n (el hs22 k).ps := hD29_r.rs (k := k) (by omega)
              have hln191 := hR190.len
              refine tw_one rfl (op_call (w0 rfl) rfl rfl (rc_call C44 rfl rfl) (sameFile_ok (⟨(el hs42 k).nm, (el hs42 k).A, (el hs42 k).n, (el hs42 k).c, (el hs42 k).ps⟩ : Fl) (⟨(el hs22 k).nm, (el hs22 k).A, (el hs22 k).n, (el hs22 k).c, (el hs22 k).ps⟩ : Fl) _ (hR188.more (by omega)) (by dsimp only; omega) (hR190.more (by omega)) (by dsimp only; omega)) ?_)
              rintro _ w192 ⟨rfl, hch193⟩
              have hsz194 := hch193.size
              replace hR0 := hR0.ch0 hch193
              replace hO26 := hO26.ch0 hch193
              replace hD29 := hD29.ch0 hch193
              replace hO43 := hO43.ch0 hch193
              replace hDO44 := hDO44.ch0 hch193
              replace hO62 := hO62.ch0 hch193
              replace hDO63 := hDO63.ch0 hch193
              replace hR130 := hR130.ch0 hch193
              replace hR136 := hR136.ch0 hch193
              replace hR188 := hR188.ch0 hch193
              replace hR190 := hR190.ch0 hch193
              replace hc := hc.step0 hch193
              replace hr186 := hr186.step0 hch193
              refine ⟨fun _ => hr186, ?_⟩
              refine tw_free rfl (w0 rfl) rfl rfl (fun u hu => (pv_not rfl rfl : PV _ _ _ _) u) ?_
              try clear hD29_r
              try clear hDO44_r
              try clear hDO63_r
              try clear hO26_r
              try clear hO43_r
              try clear hO62_r
              try clear hR0_r
              try clear hR130_r
              try clear hR136_r
              try clear hR188_r
              try clear hR190_r
              refine tw_done (hK185 _ _ ?_)
              refine hK180 _ _ ?_
              refine cw_cond rfl (fun h195 => ?_) (fun h195 => ?_)
              · -- then
                replace h195 := not_t h195
                replace h195 := dec_f h195
                refine cw_seq fun K196 hK197 => ?_
                refine cw_region fun K198 hK199 => ?_
                refine rw_cons (op_pv (w0 rfl) rfl rfl (pv_assign (v := (.bool false)) rfl rfl) ?_)
                refine rw_nil (hK199 _ _ ?_)
                refine hK197 _ _ ?_
                refine cw_ret ?_
                refine fin1 rfl ?_
                exfalso
                first
                  | omega
                  | exact absurd hp2 (by assumption)
                  | exact absurd hp3 (by assumption)
                  | exact absurd hsame (by assumption)
                  | exact absurd hgf (by assumption)
              · -- else
                replace h195 := not_f h195
                replace h195 := dec_t h195
                refine cw_skip ?_
                refine hK125 _ _ ?_
                refine cw_region fun K200 hK201 => ?_
                refine rw_cons (op_pv (w0 rfl) rfl rfl (pv_move (v := (.int .i64 (k : Int))) rfl rfl) ?_)
                refine rw_cons (op_pv (w0 rfl) rfl rfl (pv_add rfl rfl rfl (by omega) (by omega)) ?_)
                refine rw_cons (op_pv (w0 rfl) rfl rfl (pv_assign (v := (.int .i64 ((k : Int) + 1))) rfl rfl) ?_)
                refine rw_nil (hK201 _ _ ?_)
                refine hK109 _ _ (k + 1) ⟨(iv (by omega)), rfl, rfl, rfl, rfl, trivial⟩ ⟨?_, hR0, hO26, hD29, hO43, hDO44, hO62, hDO63, hc, (by omega), (by omega), (by omega)⟩ ?_
                · omega
                · (first | omega | (simp only []; omega))
          · -- else
            replace h123 := of_decide_eq_false h123
            refine cw_exit ?_
            refine hK99 _ _ ?_
            refine cw_seq fun K202 hK203 => ?_
            refine cw_region fun K204 hK205 => ?_
            refine rw_cons (op_pv (w0 rfl) rfl rfl (pv_move (v := (.slice A40 hs42.length c41)) rfl rfl) ?_)
            refine rw_cons (op_call (w0 rfl) rfl rfl (rc_call C31 rfl rfl) (FilesValid_i _ hs42.length _ hs42 _ (hO43.rs (fun _ => rfl)) (hDO44.any (by omega)) (by first | assumption | exact SzOK.nil) (by omega)) ?_)
            rintro _ w206 ⟨rfl, hch207⟩
            try rw [hfe45]
            have hsz208 := hch207.size
            replace hR0 := hR0.ch0 hch207
            replace hO26 := hO26.ch0 hch207
            replace hD29 := hD29.ch0 hch207
            replace hO43 := hO43.ch0 hch207
            replace hDO44 := hDO44.ch0 hch207
            replace hO62 := hO62.ch0 hch207
            replace hDO63 := hDO63.ch0 hch207
            replace hc := hc.step0 hch207
            refine rw_cons (op_pv (w0 rfl) rfl rfl (pv_move (v := (.bool (dec (FOK (growV (fvs hs22) nm23))))) rfl rfl) ?_)
            refine rw_split 134 rfl (fun hb209 => ?_) (fun hb209 => ?_)
            · -- yes
              replace hb209 := dec_t hb209
              refine rw_cons (op_pv (w1y rfl rfl rfl rfl) rfl rfl (pv_move (v := (.slice A40 hs42.length c41)) rfl rfl) ?_)
              refine rw_cons (op_pv (w1y rfl rfl rfl rfl) rfl rfl (pv_len Try.underlying24 rfl rfl) ?_)
              refine rw_cons (op_pv (w1y rfl rfl rfl rfl) rfl rfl (pv_move (v := (.slice A24 hs22.length c25)) rfl rfl) ?_)
              refine rw_cons (op_pv (w1y rfl rfl rfl rfl) rfl rfl (pv_len Try.underlying24 rfl rfl) ?_)
              refine rw_cons (op_pv (w1y rfl rfl rfl rfl) rfl rfl (pv_eql rfl rfl rfl) ?_)
              refine rw_cons (op_pv (w0 rfl) rfl rfl (pv_pickT (v := (.bool (decide (((hs42.length : Int) : Int) = (hs22.length : Int))))) rfl rfl rfl) ?_)
              refine rw_cons (op_pv (w0 rfl) rfl rfl (pv_assign (v := (.bool (decide (((hs42.length : Int) : Int) = (hs22.length : Int))))) rfl rfl) ?_)
              refine rw_nil (hK205 _ _ ?_)
              refine hK203 _ _ ?_
              refine cw_ret ?_
              refine fin1 rfl ?_
              first
                | exact ⟨rfl, hc⟩
                | exact ⟨congrArg Value.bool (decide_eq_true (by omega)), hc⟩
            · -- no
              replace hb209 := dec_f hb209
              refine rw_cons (op_pass (w1n1 rfl rfl rfl rfl) rfl rfl ?_)
              refine rw_cons (op_pass (w1n1 rfl rfl rfl rfl) rfl rfl ?_)
              refine rw_cons (op_pass (w1n1 rfl rfl rfl rfl) rfl rfl ?_)
              refine rw_cons (op_pass (w1n1 rfl rfl rfl rfl) rfl rfl ?_)
              refine rw_cons (op_pass (w1n1 rfl rfl rfl rfl) rfl rfl ?_)
              refine rw_cons (op_pv (w0 rfl) rfl rfl (pv_pickF (v := (.bool false)) rfl rfl rfl) ?_)
              refine rw_cons (op_pv (w0 rfl) rfl rfl (pv_assign (v := (.bool false)) rfl rfl) ?_)
              refine rw_nil (hK205 _ _ ?_)
              refine hK203 _ _ ?_
              refine cw_ret ?_
              refine fin1 rfl ?_
              exfalso
              first
                | omega
                | exact absurd hp2 (by assumption)
                | exact absurd hp3 (by assumption)
                | exact absurd hsame (by assumption)
                | exact absurd hgf (by assumption)
end Go.Proofs.Ythgnlljpjpklpaa
