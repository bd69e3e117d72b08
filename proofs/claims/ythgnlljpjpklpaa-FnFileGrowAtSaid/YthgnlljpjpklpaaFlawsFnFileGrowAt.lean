/-
  The walk of laws.FnFileGrowAt, written by program: each line names the law of one operation. Conditions: those of the theorem.
-/
import Derived.Test.YthgnlljpjpklpaaProg
import Derived.Test.YthgnlljpjpklpaaDeep
import Derived.Test.YthgnlljpjpklpaaFlaw
import Derived.Test.YthgnlljpjpklpaaFops
import Derived.Test.YthgnlljpjpklpaaFlaw2
import Derived.Test.YthgnlljpjpklpaaFlaw3
import Derived.Test.YthgnlljpjpklpaaFspecDrawFileGrow
import Derived.Test.YthgnlljpjpklpaaFimplFileGrow
import Derived.Test.YthgnlljpjpklpaaFspecFileGrow
import Derived.Test.YthgnlljpjpklpaaFlawssameFiles
import Derived.Test.YthgnlljpjpklpaaFimplFileAt
import Derived.KernelRfl
namespace Go.Proofs.Ythgnlljpjpklpaa
open Go Go.RowKit
set_option linter.unusedVariables false
set_option linter.unusedSimpArgs false
namespace FnFileGrowAt_okF
theorem T9 : TI Try.prog 9 false (.string { data := #[] }) 1 16 := TI.mk' Try.underlying9 rfl (by kernel_rfl)
theorem T25 : TI Try.prog 25 false (.slice none 0 0) 1 24 := TI.mk' Try.underlying25 rfl (by kernel_rfl)
theorem T48 : TI Try.prog 48 true (.agg #[.string { data := #[] }, .slice none 0 0]) 2 40 := TI.mk' Try.underlying48 rfl (by kernel_rfl)
theorem F48_0 : FldOK Try.prog 48 0 0 := ⟨_, _, 0, Try.underlying48, rfl, rfl, by kernel_rfl⟩
theorem F48_1 : FldOK Try.prog 48 1 1 := ⟨_, _, 0, Try.underlying48, rfl, rfl, by kernel_rfl⟩
theorem C33 : Callable Try.prog 33 := ⟨_, Try.func33, by kernel_rfl, by kernel_rfl⟩
theorem C34 : Callable Try.prog 34 := ⟨_, Try.func34, by kernel_rfl, by kernel_rfl⟩
theorem C36 : Callable Try.prog 36 := ⟨_, Try.func36, by kernel_rfl, by kernel_rfl⟩
theorem C40 : Callable Try.prog 40 := ⟨_, Try.func40, by kernel_rfl, by kernel_rfl⟩
theorem C43 : Callable Try.prog 43 := ⟨_, Try.func43, by kernel_rfl, by kernel_rfl⟩
end FnFileGrowAt_okF
open FnFileGrowAt_okF in
set_option maxHeartbeats 4000000 in
theorem FnFileGrowAt_ok (A0 : Option Addr) (n0 c0 : Nat) (xs0 : List UInt8) (w : World) (hR0 : RS encU 1 w w.heap.size A0 n0 xs0) (hn0 : n0 ≤ c0) :
    Fn Try.prog 17 [(.slice A0 n0 c0)] w fun v w' => v = .bool true ∧ Ch [] w w' := by
  have hlen0 := hR0.len
  refine fn_of (n := 122) Try.func17 rfl rfl rfl rfl ?_
  have hc : Ch [] w w := Ch.refl _ _
  refine cw_seq fun K1 hK2 => ?_
  refine cw_region fun K3 hK4 => ?_
  refine rw_cons (op_pv (w0 rfl) rfl rfl (pv_assign (v := (.bool false)) rfl rfl) ?_)
  refine rw_nil (hK4 _ _ ?_)
  refine hK2 _ _ ?_
  refine cw_seq fun K5 hK6 => ?_
  refine cw_seq fun K7 hK8 => ?_
  refine cw_region fun K9 hK10 => ?_
  refine rw_cons (op_pv (w0 rfl) rfl rfl (pv_move (v := (.slice A0 n0 c0)) rfl rfl) ?_)
  refine rw_cons (op_pv (w0 rfl) rfl rfl (pv_len Try.underlying36 rfl rfl) ?_)
  refine rw_cons (op_pv (w0 rfl) rfl rfl (pv_gtr rfl rfl rfl) ?_)
  refine rw_nil (hK10 _ _ ?_)
  refine hK8 _ _ ?_
  refine cw_cond rfl (fun h11 => ?_) (fun h11 => ?_)
  · -- then
    replace h11 := of_decide_eq_true h11
    refine cw_seq fun K12 hK13 => ?_
    refine cw_region fun K14 hK15 => ?_
    refine rw_cons (op_pv (w0 rfl) rfl rfl (pv_assign (v := (.bool true)) rfl rfl) ?_)
    refine rw_nil (hK15 _ _ ?_)
    refine hK13 _ _ ?_
    refine cw_ret ?_
    refine fin1 rfl ?_
    exact ⟨rfl, hc⟩
  · -- else
    replace h11 := of_decide_eq_false h11
    refine cw_skip ?_
    refine hK6 _ _ ?_
    refine cw_seq fun K16 hK17 => ?_
    refine cw_region fun K18 hK19 => ?_
    refine rw_cons (op_pv (w0 rfl) rfl rfl (pv_move (v := (.slice A0 n0 c0)) rfl rfl) ?_)
    refine rw_cons (op_call (w0 rfl) rfl rfl (rc_call C43 rfl rfl) (DrawFileGrow_ok _ _ _ _ _ (hR0.more (by omega)) (by omega)) ?_)
    rintro _ w20 ⟨A24, c25, hs22, nm23, rfl, hO26, hl28, hD29, hZ30, hsl31, hch21⟩
    have hsz32 := hch21.size
    replace hR0 := hR0.ch0 hch21
    replace hc := hc.step0 hch21
    have hub27 := hO26.lt
    have hcap33 : hs22.length ≤ c25 := by obtain ⟨_, _, hv, h1, _⟩ := hO26.form; injection hv with _ _ h3; omega
    refine rw_cons (op_pv (w0 rfl) rfl rfl (pv_move (v := (.tuple #[(.slice A24 hs22.length c25), (.string nm23)])) rfl rfl) ?_)
    refine rw_cons (op_pv (w0 rfl) rfl rfl (pv_ext (v := (.slice A24 hs22.length c25)) rfl rfl rfl) ?_)
    refine rw_cons (op_pv (w0 rfl) rfl rfl (pv_ext (v := (.string nm23)) rfl rfl rfl) ?_)
    refine rw_cons (op_pv (w0 rfl) rfl rfl (pv_assign (v := (.slice A24 hs22.length c25)) rfl rfl) ?_)
    refine rw_cons (op_pv (w0 rfl) rfl rfl (pv_assign (v := (.string nm23)) rfl rfl) ?_)
    refine rw_nil (hK19 _ _ ?_)
    refine hK17 _ _ ?_
    refine cw_seq fun K34 hK35 => ?_
    refine cw_region fun K36 hK37 => ?_
    refine rw_cons (op_pv (w0 rfl) rfl rfl (pv_move (v := (.slice A24 hs22.length c25)) rfl rfl) ?_)
    refine rw_cons (op_pv (w0 rfl) rfl rfl (pv_move (v := (.string nm23)) rfl rfl) ?_)
    refine rw_cons (op_call (w0 rfl) rfl rfl (rc_call C34 rfl rfl) (FileGrow_i _ hs22.length _ hs22 nm23 _ (hO26.rs (fun _ => rfl)) (hD29.any (by omega)) (by first | assumption | exact SzOK.nil) (by omega)) ?_)
    rintro _ w38 ⟨A40, c41, hs42, rfl, hO43, hDO44, hfe45, hZ46, hch39⟩
    have hsz47 := hch39.size
    replace hR0 := hR0.ch0 hch39
    replace hO26 := hO26.ch0 hch39
    replace hD29 := hD29.ch0 hch39
    replace hc := hc.step0 hch39
    have hub48 := hO43.lt
    have hcap49 : hs42.length ≤ c41 := by obtain ⟨_, _, hv, h1, _⟩ := hO43.form; injection hv with _ _ h3; omega
    have hfl50 : hs42.length = (growV (fvs hs22) nm23).length := by rw [← hfe45, fvs_len]
    try simp only [fvs_len, List.length_take, List.length_drop] at hfl50
    have hnt51 := growV_le (fvs hs22) nm23
    have hnt52 := growN_bd (fvs hs22) nm23
    refine rw_cons (op_pv (w0 rfl) rfl rfl (pv_move (v := (.tuple #[(.slice A40 hs42.length c41), (.int .i64 (growN (fvs hs22) nm23)), (.bool (dec (GrowOK (fvs hs22) nm23)))])) rfl rfl) ?_)
    refine rw_cons (op_pv (w0 rfl) rfl rfl (pv_ext (v := (.slice A40 hs42.length c41)) rfl rfl rfl) ?_)
    refine rw_cons (op_pv (w0 rfl) rfl rfl (pv_ext (v := (.int .i64 (growN (fvs hs22) nm23))) rfl rfl rfl) ?_)
    refine rw_cons (op_pv (w0 rfl) rfl rfl (pv_ext (v := (.bool (dec (GrowOK (fvs hs22) nm23)))) rfl rfl rfl) ?_)
    refine rw_cons (op_pv (w0 rfl) rfl rfl (pv_assign (v := (.slice A40 hs42.length c41)) rfl rfl) ?_)
    refine rw_cons (op_pv (w0 rfl) rfl rfl (pv_assign (v := (.int .i64 (growN (fvs hs22) nm23))) rfl rfl) ?_)
    refine rw_cons (op_pv (w0 rfl) rfl rfl (pv_assign (v := (.bool (dec (GrowOK (fvs hs22) nm23)))) rfl rfl) ?_)
    refine rw_nil (hK37 _ _ ?_)
    refine hK35 _ _ ?_
    refine cw_seq fun K53 hK54 => ?_
    refine cw_region fun K55 hK56 => ?_
    refine rw_cons (op_pv (w0 rfl) rfl rfl (pv_move (v := (.slice A24 hs22.length c25)) rfl rfl) ?_)
    refine rw_cons (op_pv (w0 rfl) rfl rfl (pv_move (v := (.string nm23)) rfl rfl) ?_)
    refine rw_cons (op_call (w0 rfl) rfl rfl (rc_call C33 rfl rfl) (FileGrow_s _ hs22.length _ hs22 nm23 _ (hO26.rs (fun _ => rfl)) (hD29.any (by omega)) (by first | assumption | exact SzOK.nil) (by omega) (by omega)) ?_)
    rintro _ w57 ⟨A59, c60, hs61, rfl, hO62, hDO63, hfe64, hZ65, hch58⟩
    have hsz66 := hch58.size
    replace hR0 := hR0.ch0 hch58
    replace hO26 := hO26.ch0 hch58
    replace hD29 := hD29.ch0 hch58
    replace hO43 := hO43.ch0 hch58
    replace hDO44 := hDO44.ch0 hch58
    replace hc := hc.step0 hch58
    have hub67 := hO62.lt
    have hcap68 : hs61.length ≤ c60 := by obtain ⟨_, _, hv, h1, _⟩ := hO62.form; injection hv with _ _ h3; omega
    have hfl69 : hs61.length = (growV (fvs hs22) nm23).length := by rw [← hfe64, fvs_len]
    try simp only [fvs_len, List.length_take, List.length_drop] at hfl69
    have hnt70 := growV_le (fvs hs22) nm23
    have hnt71 := growN_bd (fvs hs22) nm23
    refine rw_cons (op_pv (w0 rfl) rfl rfl (pv_move (v := (.tuple #[(.slice A59 hs61.length c60), (.int .i64 (growN (fvs hs22) nm23)), (.bool (dec (GrowOK (fvs hs22) nm23)))])) rfl rfl) ?_)
    refine rw_cons (op_pv (w0 rfl) rfl rfl (pv_ext (v := (.slice A59 hs61.length c60)) rfl rfl rfl) ?_)
    refine rw_cons (op_pv (w0 rfl) rfl rfl (pv_ext (v := (.int .i64 (growN (fvs hs22) nm23))) rfl rfl rfl) ?_)
    refine rw_cons (op_pv (w0 rfl) rfl rfl (pv_ext (v := (.bool (dec (GrowOK (fvs hs22) nm23)))) rfl rfl rfl) ?_)
    refine rw_cons (op_pv (w0 rfl) rfl rfl (pv_assign (v := (.slice A59 hs61.length c60)) rfl rfl) ?_)
    refine rw_cons (op_pv (w0 rfl) rfl rfl (pv_assign (v := (.int .i64 (growN (fvs hs22) nm23))) rfl rfl) ?_)
    refine rw_cons (op_pv (w0 rfl) rfl rfl (pv_assign (v := (.bool (dec (GrowOK (fvs hs22) nm23)))) rfl rfl) ?_)
    refine rw_nil (hK56 _ _ ?_)
    refine hK54 _ _ ?_
    refine cw_seq fun K72 hK73 => ?_
    refine cw_seq fun K74 hK75 => ?_
    refine cw_region fun K76 hK77 => ?_
    refine rw_cons (op_pv (w0 rfl) rfl rfl (pv_move (v := (.bool (dec (GrowOK (fvs hs22) nm23)))) rfl rfl) ?_)
    refine rw_cons (op_pv (w0 rfl) rfl rfl (pv_move (v := (.bool (dec (GrowOK (fvs hs22) nm23)))) rfl rfl) ?_)
    refine rw_cons (op_pv (w0 rfl) rfl rfl (pv_neBs Try.underlying4 rfl rfl rfl) ?_)
    refine rw_cons (op_pv (w0 rfl) rfl rfl (pv_move (v := (.bool false)) rfl rfl) ?_)
    refine rw_cons (op_pv (w1y rfl rfl rfl rfl) rfl rfl (pv_move (v := (.int .i64 (growN (fvs hs22) nm23))) rfl rfl) ?_)
    refine rw_cons (op_pv (w1y rfl rfl rfl rfl) rfl rfl (pv_move (v := (.int .i64 (growN (fvs hs22) nm23))) rfl rfl) ?_)
    refine rw_cons (op_pv (w1y rfl rfl rfl rfl) rfl rfl (pv_nes rfl rfl rfl) ?_)
    refine rw_cons (op_pv (w0 rfl) rfl rfl (pv_pickF (v := (.bool false)) rfl rfl rfl) ?_)
    refine rw_cons (op_pv (w0 rfl) rfl rfl (pv_move (v := (.bool false)) rfl rfl) ?_)
    refine rw_cons (op_pv (w1y rfl rfl rfl rfl) rfl rfl (pv_move (v := (.slice A40 hs42.length c41)) rfl rfl) ?_)
    refine rw_cons (op_pv (w1y rfl rfl rfl rfl) rfl rfl (pv_move (v := (.slice A59 hs61.length c60)) rfl rfl) ?_)
    refine rw_cons (op_call (w1y rfl rfl rfl rfl) rfl rfl (rc_call C40 rfl rfl) (sameFiles_ok _ hs42.length _ hs42 _ hs61.length _ hs61 _ (hO43.rs (fun _ => rfl)) (hDO44.any (by omega)) (by first | assumption | exact SzOK.nil) (by omega) (hO62.rs (fun _ => rfl)) (hDO63.any (by omega)) (by first | assumption | exact SzOK.nil) (by omega)) ?_)
    rintro _ w78 ⟨rfl, hch79⟩
    try rw [hfe45]
    try rw [hfe64]
    have hsz80 := hch79.size
    replace hR0 := hR0.ch0 hch79
    replace hO26 := hO26.ch0 hch79
    replace hD29 := hD29.ch0 hch79
    replace hO43 := hO43.ch0 hch79
    replace hDO44 := hDO44.ch0 hch79
    replace hO62 := hO62.ch0 hch79
    replace hDO63 := hDO63.ch0 hch79
    replace hc := hc.step0 hch79
    refine rw_cons (op_pv (w1y rfl rfl rfl rfl) rfl rfl (pv_not rfl rfl) ?_)
    refine rw_cons (op_pv (w0 rfl) rfl rfl (pv_pickF (v := (.bool (!(dec (growV (fvs hs22) nm23 = growV (fvs hs22) nm23))))) rfl rfl rfl) ?_)
    refine rw_cons (op_pv (w0 rfl) rfl rfl (pv_move (v := (.bool (!(dec (growV (fvs hs22) nm23 = growV (fvs hs22) nm23))))) rfl rfl) ?_)
    refine rw_split 55 rfl (fun hb81 => ?_) (fun hb81 => ?_)
    · -- yes
      replace hb81 := not_t hb81
      replace hb81 := dec_f hb81
      refine rw_cons (op_pass (w1n2 rfl rfl rfl rfl) rfl rfl ?_)
      refine rw_cons (op_pass (w1n2 rfl rfl rfl rfl) rfl rfl ?_)
      refine rw_cons (op_pv (w0 rfl) rfl rfl (pv_pickT (v := (.bool true)) rfl rfl rfl) ?_)
      refine rw_nil (hK77 _ _ ?_)
      refine hK75 _ _ ?_
      refine cw_cond rfl (fun h82 => ?_) (fun h82 => ?_)
      · -- then
        clear h82
        refine cw_seq fun K83 hK84 => ?_
        refine cw_region fun K85 hK86 => ?_
        refine rw_cons (op_pv (w0 rfl) rfl rfl (pv_move (v := (.bool (dec (GrowOK (fvs hs22) nm23)))) rfl rfl) ?_)
        refine rw_cons (op_pv (w0 rfl) rfl rfl (pv_move (v := (.bool (dec (GrowOK (fvs hs22) nm23)))) rfl rfl) ?_)
        refine rw_cons (op_pv (w0 rfl) rfl rfl (pv_eqBs Try.underlying4 rfl rfl rfl) ?_)
        refine rw_cons (op_pv (w0 rfl) rfl rfl (pv_move (v := (.bool true)) rfl rfl) ?_)
        refine rw_cons (op_pv (w1y rfl rfl rfl rfl) rfl rfl (pv_move (v := (.int .i64 (growN (fvs hs22) nm23))) rfl rfl) ?_)
        refine rw_cons (op_pv (w1y rfl rfl rfl rfl) rfl rfl (pv_move (v := (.int .i64 (growN (fvs hs22) nm23))) rfl rfl) ?_)
        refine rw_cons (op_pv (w1y rfl rfl rfl rfl) rfl rfl (pv_eqs rfl rfl rfl) ?_)
        refine rw_cons (op_pv (w0 rfl) rfl rfl (pv_pickT (v := (.bool true)) rfl rfl rfl) ?_)
        refine rw_cons (op_pv (w0 rfl) rfl rfl (pv_move (v := (.bool true)) rfl rfl) ?_)
        refine rw_cons (op_pv (w1y rfl rfl rfl rfl) rfl rfl (pv_move (v := (.slice A40 hs42.length c41)) rfl rfl) ?_)
        refine rw_cons (op_pv (w1y rfl rfl rfl rfl) rfl rfl (pv_move (v := (.slice A59 hs61.length c60)) rfl rfl) ?_)
        refine rw_cons (op_call (w1y rfl rfl rfl rfl) rfl rfl (rc_call C40 rfl rfl) (sameFiles_ok _ hs42.length _ hs42 _ hs61.length _ hs61 _ (hO43.rs (fun _ => rfl)) (hDO44.any (by omega)) (by first | assumption | exact SzOK.nil) (by omega) (hO62.rs (fun _ => rfl)) (hDO63.any (by omega)) (by first | assumption | exact SzOK.nil) (by omega)) ?_)
        rintro _ w87 ⟨rfl, hch88⟩
        try rw [hfe45]
        try rw [hfe64]
        have hsz89 := hch88.size
        replace hR0 := hR0.ch0 hch88
        replace hO26 := hO26.ch0 hch88
        replace hD29 := hD29.ch0 hch88
        replace hO43 := hO43.ch0 hch88
        replace hDO44 := hDO44.ch0 hch88
        replace hO62 := hO62.ch0 hch88
        replace hDO63 := hDO63.ch0 hch88
        replace hc := hc.step0 hch88
        refine rw_cons (op_pv (w0 rfl) rfl rfl (pv_pickT (v := (.bool (dec (growV (fvs hs22) nm23 = growV (fvs hs22) nm23)))) rfl rfl rfl) ?_)
        refine rw_cons (op_pv (w0 rfl) rfl rfl (pv_assign (v := (.bool (dec (growV (fvs hs22) nm23 = growV (fvs hs22) nm23)))) rfl rfl) ?_)
        refine rw_nil (hK86 _ _ ?_)
        refine hK84 _ _ ?_
        refine cw_ret ?_
        refine fin1 rfl ?_
        first
          | exact ⟨rfl, hc⟩
          | exact absurd rfl (by assumption)
          | exact ⟨congrArg Value.bool (dec_yes rfl), hc⟩
          | exact ⟨congrArg Value.bool (beq_self_eq_true _), hc⟩
          | exact ⟨congrArg Value.bool (decide_eq_true rfl), hc⟩
      · -- else
        cases h82
    · -- no
      replace hb81 := not_f hb81
      replace hb81 := dec_t hb81
      refine rw_cons (op_pv (w1y rfl rfl rfl rfl) rfl rfl (pv_move (v := (.bool (dec (GrowOK (fvs hs22) nm23)))) rfl rfl) ?_)
      refine rw_cons (op_pv (w1y rfl rfl rfl rfl) rfl rfl (pv_not rfl rfl) ?_)
      refine rw_cons (op_pv (w0 rfl) rfl rfl (pv_pickF (v := (.bool (!(dec (GrowOK (fvs hs22) nm23))))) rfl rfl rfl) ?_)
      refine rw_nil (hK77 _ _ ?_)
      refine hK75 _ _ ?_
      refine cw_cond rfl (fun h90 => ?_) (fun h90 => ?_)
      · -- then
        replace h90 := not_t h90
        replace h90 := dec_f h90
        refine cw_seq fun K91 hK92 => ?_
        refine cw_region fun K93 hK94 => ?_
        refine rw_cons (op_pv (w0 rfl) rfl rfl (pv_move (v := (.bool (dec (GrowOK (fvs hs22) nm23)))) rfl rfl) ?_)
        refine rw_cons (op_pv (w0 rfl) rfl rfl (pv_move (v := (.bool (dec (GrowOK (fvs hs22) nm23)))) rfl rfl) ?_)
        refine rw_cons (op_pv (w0 rfl) rfl rfl (pv_eqBs Try.underlying4 rfl rfl rfl) ?_)
        refine rw_cons (op_pv (w0 rfl) rfl rfl (pv_move (v := (.bool true)) rfl rfl) ?_)
        refine rw_cons (op_pv (w1y rfl rfl rfl rfl) rfl rfl (pv_move (v := (.int .i64 (growN (fvs hs22) nm23))) rfl rfl) ?_)
        refine rw_cons (op_pv (w1y rfl rfl rfl rfl) rfl rfl (pv_move (v := (.int .i64 (growN (fvs hs22) nm23))) rfl rfl) ?_)
        refine rw_cons (op_pv (w1y rfl rfl rfl rfl) rfl rfl (pv_eqs rfl rfl rfl) ?_)
        refine rw_cons (op_pv (w0 rfl) rfl rfl (pv_pickT (v := (.bool true)) rfl rfl rfl) ?_)
        refine rw_cons (op_pv (w0 rfl) rfl rfl (pv_move (v := (.bool true)) rfl rfl) ?_)
        refine rw_cons (op_pv (w1y rfl rfl rfl rfl) rfl rfl (pv_move (v := (.slice A40 hs42.length c41)) rfl rfl) ?_)
        refine rw_cons (op_pv (w1y rfl rfl rfl rfl) rfl rfl (pv_move (v := (.slice A59 hs61.length c60)) rfl rfl) ?_)
        refine rw_cons (op_call (w1y rfl rfl rfl rfl) rfl rfl (rc_call C40 rfl rfl) (sameFiles_ok _ hs42.length _ hs42 _ hs61.length _ hs61 _ (hO43.rs (fun _ => rfl)) (hDO44.any (by omega)) (by first | assumption | exact SzOK.nil) (by omega) (hO62.rs (fun _ => rfl)) (hDO63.any (by omega)) (by first | assumption | exact SzOK.nil) (by omega)) ?_)
        rintro _ w95 ⟨rfl, hch96⟩
        try rw [hfe45]
        try rw [hfe64]
        have hsz97 := hch96.size
        replace hR0 := hR0.ch0 hch96
        replace hO26 := hO26.ch0 hch96
        replace hD29 := hD29.ch0 hch96
        replace hO43 := hO43.ch0 hch96
        replace hDO44 := hDO44.ch0 hch96
        replace hO62 := hO62.ch0 hch96
        replace hDO63 := hDO63.ch0 hch96
        replace hc := hc.step0 hch96
        refine rw_cons (op_pv (w0 rfl) rfl rfl (pv_pickT (v := (.bool (dec (growV (fvs hs22) nm23 = growV (fvs hs22) nm23)))) rfl rfl rfl) ?_)
        refine rw_cons (op_pv (w0 rfl) rfl rfl (pv_assign (v := (.bool (dec (growV (fvs hs22) nm23 = growV (fvs hs22) nm23)))) rfl rfl) ?_)
        refine rw_nil (hK94 _ _ ?_)
        refine hK92 _ _ ?_
        refine cw_ret ?_
        refine fin1 rfl ?_
        first
          | exact ⟨rfl, hc⟩
          | exact absurd rfl (by assumption)
          | exact ⟨congrArg Value.bool (dec_yes rfl), hc⟩
          | exact ⟨congrArg Value.bool (beq_self_eq_true _), hc⟩
          | exact ⟨congrArg Value.bool (decide_eq_true rfl), hc⟩
      · -- else
        replace h90 := not_f h90
        replace h90 := dec_t h90
        refine cw_skip ?_
        refine hK73 _ _ ?_
        refine cw_seq fun K98 hK99 => ?_
        have hok : GrowOK (fvs hs22) nm23 := by assumption
        have hgf := grow_fok hok
        have hgl := grow_len hok
        have hxl := fvs_len hs22
        have hgN := growN_bd (fvs hs22) nm23
        have hgL := grow_least hok
        obtain ⟨p, hp, hpl, hpn, hpv⟩ := grow_at hok
        have hp4 := (hok.1.file p hpl).2.1
        have hpe : el (fvs hs22) p = fv (el hs22 p) := el_fvs (by omega)
        have hpl4 : (el (fvs hs22) p).2.length = (el hs22 p).n := by rw [hpe]; exact (hD29.rs (k := p) (by omega)).len
        have hfo := hok.1
        refine cw_region fun K100 hK101 => ?_
        refine rw_cons (op_pv (w0 rfl) rfl rfl (pv_assign (v := (.int .i64 0)) rfl rfl) ?_)
        refine rw_nil (hK101 _ _ ?_)
        refine hK99 _ _ ?_
        refine cw_seq fun K102 hK103 => ?_
        refine cw_seq fun K104 hK105 => ?_
        refine cw_region fun K106 hK107 => ?_
        refine rw_cons (op_pv (w0 rfl) rfl rfl (pv_assign (v := (.int .i64 0)) rfl rfl) ?_)
        refine rw_nil (hK107 _ _ ?_)
        refine hK105 _ _ ?_
        refine cw_block ?_
        refine cw_loop (σ := Nat × Int) (fun ⟨k, m⟩ => [(11, (.int .i64 m)), (12, (.int .i64 (k : Int))), (2, (.bool false)), (3, (.slice A24 hs22.length c25)), (4, (.string nm23)), (5, (.slice A40 hs42.length c41)), (6, (.int .i64 (growN (fvs hs22) nm23)))]) (fun ⟨k, m⟩ W => (k ≤ hs22.length ∧ m = if p < k then 64 * ((el hs22 p).n : Int) else 0) ∧ RS encU 1 W w.heap.size A0 n0 xs0 ∧ Own encF 2 W w.heap.size 48 (.slice A24 hs22.length c25) hs22 ∧ DX w.heap.size w20.heap.size ([]) W hs22 ∧ Own encF 2 W w20.heap.size 48 (.slice A40 hs42.length c41) hs42 ∧ DOw w20.heap.size w38.heap.size (obl (.slice A40 hs42.length c41)) 3 W hs42 ∧ Own encF 2 W w38.heap.size 48 (.slice A59 hs61.length c60) hs61 ∧ DOw w38.heap.size w57.heap.size (obl (.slice A59 hs61.length c60)) 3 W hs61 ∧ Ch [] w W ∧ w20.heap.size ≤ W.heap.size ∧ w38.heap.size ≤ W.heap.size ∧ w57.heap.size ≤ W.heap.size) (fun ⟨k, m⟩ => hs22.length - k) (0, 0) ?_ ?_ ?_
        · exact ⟨rfl, rfl, rfl, rfl, rfl, rfl, rfl, trivial⟩
        · refine ⟨⟨Nat.zero_le _, by rw [if_neg (by omega)]⟩, hR0, hO26, hD29, hO43, hDO44, hO62, hDO63, hc, (by omega), (by omega), (by omega)⟩
        · rintro ⟨k, m⟩ J115 w108 ⟨⟨hk, hm⟩, hR0, hO26, hD29, hO43, hDO44, hO62, hDO63, hc, hmono109, hmono110, hmono111⟩ K112 hK113
          have hsz117 := hc.size
          have hub118 := hO26.lt
          have hub119 := hO43.lt
          have hub120 := hO62.lt
          have hzk := fun h => ‹SzOK hs22› k h
          have hone := fun (h : k < hs22.length) (e : (el hs22 k).nm = nm23) => place_one hfo (i := k) (j := p) (by omega) hpl (by rw [el_fvs h, hpn]; exact e)
          refine cw_seq fun K121 hK122 => ?_
          refine cw_seq fun K123 hK124 => ?_
          refine cw_region fun K125 hK126 => ?_
          refine rw_cons (op_pv (w0 rfl) rfl rfl (pv_move (v := (.int .i64 (k : Int))) rfl rfl) ?_)
          refine rw_cons (op_pv (w0 rfl) rfl rfl (pv_move (v := (.slice A24 hs22.length c25)) rfl rfl) ?_)
          refine rw_cons (op_pv (w0 rfl) rfl rfl (pv_len Try.underlying24 rfl rfl) ?_)
          refine rw_cons (op_pv (w0 rfl) rfl rfl (pv_lss rfl rfl rfl) ?_)
          refine rw_nil (hK126 _ _ ?_)
          refine hK124 _ _ ?_
          refine cw_cond rfl (fun h127 => ?_) (fun h127 => ?_)
          · -- then
            replace h127 := of_decide_eq_true h127
            refine cw_skip ?_
            refine hK122 _ _ ?_
            refine cw_seq fun K128 hK129 => ?_
            refine cw_block ?_
            refine cw_seq fun K130 hK131 => ?_
            refine cw_region fun K132 hK133 => ?_
            refine rw_cons (op_pv (w0 rfl) rfl rfl (pv_move (v := (.slice A24 hs22.length c25)) rfl rfl) ?_)
            refine rw_cons (op_pv (w0 rfl) rfl rfl (pv_move (v := (.int .i64 (k : Int))) rfl rfl) ?_)
            refine rw_cons (op_pv (w0 rfl) rfl rfl (pv_idx Try.underlying24 T48 rfl rfl rfl ((hO26.rs (fun _ => rfl)).some (k := k) (by omega)) (by omega) (by omega)) ?_)
            refine rw_cons (op_pv (w0 rfl) rfl rfl (pv_fld F48_0 rfl rfl) ?_)
            have hR134 : RS encI 1 w108 w20.heap.size (el hs22 k).A (el hs22 k).n (el hs22 k).ps := hD29.rs (k := k) (by omega)
            have hln135 := hR134.len
            refine rw_cons (op_lv (w0 rfl) rfl rfl (lv_load T9 rfl rfl ((hO26.rs (fun _ => rfl)).cellE (k := k) (j := 0) (by omega) rfl)) ?_)
            refine rw_cons (op_pv (w0 rfl) rfl rfl (pv_move (v := (.string nm23)) rfl rfl) ?_)
            refine rw_cons (op_pv (w0 rfl) rfl rfl (pv_eqS rfl rfl rfl) ?_)
            refine rw_nil (hK133 _ _ ?_)
            refine hK131 _ _ ?_
            refine cw_cond rfl (fun h136 => ?_) (fun h136 => ?_)
            · -- then
              replace h136 := of_decide_eq_true h136
              have hzk2 := hzk (by omega)
              have hkp := hone (by omega) (by assumption)
              refine cw_region fun K137 hK138 => ?_
              refine rw_cons (op_pv (w0 rfl) rfl rfl (pv_move (v := (.slice A24 hs22.length c25)) rfl rfl) ?_)
              refine rw_cons (op_pv (w0 rfl) rfl rfl (pv_move (v := (.int .i64 (k : Int))) rfl rfl) ?_)
              refine rw_cons (op_pv (w0 rfl) rfl rfl (pv_idx Try.underlying24 T48 rfl rfl rfl ((hO26.rs (fun _ => rfl)).some (k := k) (by omega)) (by omega) (by omega)) ?_)
              refine rw_cons (op_pv (w0 rfl) rfl rfl (pv_fld F48_1 rfl rfl) ?_)
              have hR139 : RS encI 1 w108 w20.heap.size (el hs22 k).A (el hs22 k).n (el hs22 k).ps := hD29.rs (k := k) (by omega)
              have hln140 := hR139.len
              refine rw_cons (op_lv (w0 rfl) rfl rfl (lv_load T25 rfl rfl ((hO26.rs (fun _ => rfl)).cellE (k := k) (j := 1) (by omega) rfl)) ?_)
              refine rw_cons (op_pv (w0 rfl) rfl rfl (pv_len Try.underlying25 rfl rfl) ?_)
              refine rw_cons (op_pv (w0 rfl) rfl rfl (pv_mul rfl rfl rfl (by omega) (by omega)) ?_)
              refine rw_cons (op_pv (w0 rfl) rfl rfl (pv_assign (v := (.int .i64 (64 * ((el hs22 k).n : Int)))) rfl rfl) ?_)
              refine rw_nil (hK138 _ _ ?_)
              refine hK129 _ _ ?_
              refine cw_region fun K141 hK142 => ?_
              refine rw_cons (op_pv (w0 rfl) rfl rfl (pv_move (v := (.int .i64 (k : Int))) rfl rfl) ?_)
              refine rw_cons (op_pv (w0 rfl) rfl rfl (pv_add rfl rfl rfl (by omega) (by omega)) ?_)
              refine rw_cons (op_pv (w0 rfl) rfl rfl (pv_assign (v := (.int .i64 ((k : Int) + 1))) rfl rfl) ?_)
              refine rw_nil (hK142 _ _ ?_)
              refine hK113 _ _ (k + 1, 64 * ((el hs22 k).n : Int)) ⟨(iv (by omega)), (iv (by omega)), rfl, rfl, rfl, rfl, rfl, trivial⟩ ⟨?_, hR0, hO26, hD29, hO43, hDO44, hO62, hDO63, hc, (by omega), (by omega), (by omega)⟩ ?_
              · obtain rfl := hone (by omega) (by assumption)
                exact ⟨by omega, by rw [if_pos (by omega)]⟩
              · (first | omega | (simp only []; omega))
            · -- else
              replace h136 := of_decide_eq_false h136
              refine cw_skip ?_
              refine hK129 _ _ ?_
              refine cw_region fun K143 hK144 => ?_
              refine rw_cons (op_pv (w0 rfl) rfl rfl (pv_move (v := (.int .i64 (k : Int))) rfl rfl) ?_)
              refine rw_cons (op_pv (w0 rfl) rfl rfl (pv_add rfl rfl rfl (by omega) (by omega)) ?_)
              refine rw_cons (op_pv (w0 rfl) rfl rfl (pv_assign (v := (.int .i64 ((k : Int) + 1))) rfl rfl) ?_)
              refine rw_nil (hK144 _ _ ?_)
              refine hK113 _ _ (k + 1, m) ⟨(iv (by omega)), (iv (by omega)), rfl, rfl, rfl, rfl, rfl, trivial⟩ ⟨?_, hR0, hO26, hD29, hO43, hDO44, hO62, hDO63, hc, (by omega), (by omega), (by omega)⟩ ?_
              · have hne : k ≠ p := fun h9 => by subst h9; have h8 : (el hs22 k).nm = nm23 := (congrArg Prod.fst hpe).symm.trans hpn; contradiction
                have e : (p < k + 1) = (p < k) := propext ⟨fun _ => by omega, fun _ => by omega⟩
                exact ⟨by omega, by simp only [e]; exact hm⟩
              · (first | omega | (simp only []; omega))
          · -- else
            replace h127 := of_decide_eq_false h127
            refine cw_exit ?_
            refine hK103 _ _ ?_
            refine cw_seq fun K145 hK146 => ?_
            rw [if_pos (by omega)] at hm
            obtain ⟨gb1, gb2, gb3, gb4⟩ := grow_byte hok hp (m := m) (by rw [hpl4]; exact hm)
            refine cw_region fun K147 hK148 => ?_
            refine rw_cons (op_pv (w0 rfl) rfl rfl (pv_move (v := (.slice A40 hs42.length c41)) rfl rfl) ?_)
            refine rw_cons (op_pv (w0 rfl) rfl rfl (pv_move (v := (.string nm23)) rfl rfl) ?_)
            refine rw_cons (op_pv (w0 rfl) rfl rfl (pv_move (v := (.int .i64 m)) rfl rfl) ?_)
            refine rw_cons (op_call (w0 rfl) rfl rfl (rc_call C36 rfl rfl) (FileAt_i _ hs42.length _ hs42 nm23 m _ (hO43.rs (fun _ => rfl)) (hDO44.any (by omega)) (by first | assumption | exact SzOK.nil) (by omega) (by omega)) ?_)
            rintro _ w149 ⟨rfl, hch150⟩
            try rw [hfe45]
            have hsz151 := hch150.size
            replace hR0 := hR0.ch0 hch150
            replace hO26 := hO26.ch0 hch150
            replace hD29 := hD29.ch0 hch150
            replace hO43 := hO43.ch0 hch150
            replace hDO44 := hDO44.ch0 hch150
            replace hO62 := hO62.ch0 hch150
            replace hDO63 := hDO63.ch0 hch150
            replace hc := hc.step0 hch150
            refine rw_cons (op_pv (w0 rfl) rfl rfl (pv_move (v := (.tuple #[(.int .i64 (atN (growV (fvs hs22) nm23) nm23 m)), (.int .i64 (atK (growV (fvs hs22) nm23) nm23 m)), (.bool (dec (AtOK (growV (fvs hs22) nm23) nm23 m)))])) rfl rfl) ?_)
            refine rw_cons (op_pv (w0 rfl) rfl rfl (pv_ext (v := (.int .i64 (atN (growV (fvs hs22) nm23) nm23 m))) rfl rfl rfl) ?_)
            refine rw_cons (op_pv (w0 rfl) rfl rfl (pv_ext (v := (.int .i64 (atK (growV (fvs hs22) nm23) nm23 m))) rfl rfl rfl) ?_)
            refine rw_cons (op_pv (w0 rfl) rfl rfl (pv_ext (v := (.bool (dec (AtOK (growV (fvs hs22) nm23) nm23 m)))) rfl rfl rfl) ?_)
            refine rw_cons (op_pv (w0 rfl) rfl rfl (pv_assign (v := (.int .i64 (atN (growV (fvs hs22) nm23) nm23 m))) rfl rfl) ?_)
            refine rw_cons (op_pv (w0 rfl) rfl rfl (pv_assign (v := (.int .i64 (atK (growV (fvs hs22) nm23) nm23 m))) rfl rfl) ?_)
            refine rw_cons (op_pv (w0 rfl) rfl rfl (pv_assign (v := (.bool (dec (AtOK (growV (fvs hs22) nm23) nm23 m)))) rfl rfl) ?_)
            refine rw_nil (hK148 _ _ ?_)
            refine hK146 _ _ ?_
            refine cw_seq fun K152 hK153 => ?_
            refine cw_region fun K154 hK155 => ?_
            refine rw_cons (op_pv (w0 rfl) rfl rfl (pv_move (v := (.slice A24 hs22.length c25)) rfl rfl) ?_)
            refine rw_cons (op_pv (w0 rfl) rfl rfl (pv_move (v := (.string nm23)) rfl rfl) ?_)
            refine rw_cons (op_pv (w0 rfl) rfl rfl (pv_move (v := (.int .i64 m)) rfl rfl) ?_)
            refine rw_cons (op_call (w0 rfl) rfl rfl (rc_call C36 rfl rfl) (FileAt_i _ hs22.length _ hs22 nm23 m _ (hO26.rs (fun _ => rfl)) (hD29.any (by omega)) (by first | assumption | exact SzOK.nil) (by omega) (by omega)) ?_)
            rintro _ w156 ⟨rfl, hch157⟩
            have hsz158 := hch157.size
            replace hR0 := hR0.ch0 hch157
            replace hO26 := hO26.ch0 hch157
            replace hD29 := hD29.ch0 hch157
            replace hO43 := hO43.ch0 hch157
            replace hDO44 := hDO44.ch0 hch157
            replace hO62 := hO62.ch0 hch157
            replace hDO63 := hDO63.ch0 hch157
            replace hc := hc.step0 hch157
            refine rw_cons (op_pv (w0 rfl) rfl rfl (pv_move (v := (.tuple #[(.int .i64 (atN (fvs hs22) nm23 m)), (.int .i64 (atK (fvs hs22) nm23 m)), (.bool (dec (AtOK (fvs hs22) nm23 m)))])) rfl rfl) ?_)
            refine rw_cons (op_pv (w0 rfl) rfl rfl (pv_ext (v := (.int .i64 (atN (fvs hs22) nm23 m))) rfl rfl rfl) ?_)
            refine rw_cons (op_pv (w0 rfl) rfl rfl (pv_ext (v := (.int .i64 (atK (fvs hs22) nm23 m))) rfl rfl rfl) ?_)
            refine rw_cons (op_pv (w0 rfl) rfl rfl (pv_ext (v := (.bool (dec (AtOK (fvs hs22) nm23 m)))) rfl rfl rfl) ?_)
            refine rw_cons (op_pv (w0 rfl) rfl rfl (pv_assign (v := (.int .i64 (atN (fvs hs22) nm23 m))) rfl rfl) ?_)
            refine rw_cons (op_pv (w0 rfl) rfl rfl (pv_assign (v := (.int .i64 (atK (fvs hs22) nm23 m))) rfl rfl) ?_)
            refine rw_cons (op_pv (w0 rfl) rfl rfl (pv_assign (v := (.bool (dec (AtOK (fvs hs22) nm23 m)))) rfl rfl) ?_)
            refine rw_nil (hK155 _ _ ?_)
            refine hK153 _ _ ?_
            refine cw_seq fun K159 hK160 => ?_
            refine cw_region fun K161 hK162 => ?_
            refine rw_cons (op_pv (w0 rfl) rfl rfl (pv_move (v := (.bool (dec (AtOK (growV (fvs hs22) nm23) nm23 m)))) rfl rfl) ?_)
            refine rw_cons (op_pv (w0 rfl) rfl rfl (pv_move (v := (.bool (dec (AtOK (growV (fvs hs22) nm23) nm23 m)))) rfl rfl) ?_)
            refine rw_split 109 rfl (fun hb163 => ?_) (fun hb163 => ?_)
            · -- yes
              replace hb163 := dec_t hb163
              refine rw_cons (op_pv (w1y rfl rfl rfl rfl) rfl rfl (pv_move (v := (.int .i64 (atN (growV (fvs hs22) nm23) nm23 m))) rfl rfl) ?_)
              refine rw_cons (op_pv (w1y rfl rfl rfl rfl) rfl rfl (pv_move (v := (.int .i64 (growN (fvs hs22) nm23))) rfl rfl) ?_)
              refine rw_cons (op_pv (w1y rfl rfl rfl rfl) rfl rfl (pv_eql rfl rfl rfl) ?_)
              refine rw_cons (op_pv (w0 rfl) rfl rfl (pv_pickT (v := (.bool (decide ((atN (growV (fvs hs22) nm23) nm23 m : Int) = (growN (fvs hs22) nm23))))) rfl rfl rfl) ?_)
              refine rw_cons (op_pv (w0 rfl) rfl rfl (pv_move (v := (.bool (decide ((atN (growV (fvs hs22) nm23) nm23 m : Int) = (growN (fvs hs22) nm23))))) rfl rfl) ?_)
              refine rw_split 114 rfl (fun hb164 => ?_) (fun hb164 => ?_)
              · -- yes
                replace hb164 := of_decide_eq_true hb164
                refine rw_cons (op_pv (w1y rfl rfl rfl rfl) rfl rfl (pv_move (v := (.int .i64 (atK (growV (fvs hs22) nm23) nm23 m))) rfl rfl) ?_)
                refine rw_cons (op_pv (w1y rfl rfl rfl rfl) rfl rfl (pv_eql rfl rfl rfl) ?_)
                refine rw_cons (op_pv (w0 rfl) rfl rfl (pv_pickT (v := (.bool (decide ((atK (growV (fvs hs22) nm23) nm23 m : Int) = 0)))) rfl rfl rfl) ?_)
                refine rw_cons (op_pv (w0 rfl) rfl rfl (pv_move (v := (.bool (decide ((atK (growV (fvs hs22) nm23) nm23 m : Int) = 0)))) rfl rfl) ?_)
                refine rw_split 118 rfl (fun hb165 => ?_) (fun hb165 => ?_)
                · -- yes
                  replace hb165 := of_decide_eq_true hb165
                  refine rw_cons (op_pv (w1y rfl rfl rfl rfl) rfl rfl (pv_move (v := (.bool (dec (AtOK (fvs hs22) nm23 m)))) rfl rfl) ?_)
                  refine rw_cons (op_pv (w1y rfl rfl rfl rfl) rfl rfl (pv_not rfl rfl) ?_)
                  refine rw_cons (op_pv (w0 rfl) rfl rfl (pv_pickT (v := (.bool (!(dec (AtOK (fvs hs22) nm23 m))))) rfl rfl rfl) ?_)
                  refine rw_cons (op_pv (w0 rfl) rfl rfl (pv_assign (v := (.bool (!(dec (AtOK (fvs hs22) nm23 m))))) rfl rfl) ?_)
                  refine rw_nil (hK162 _ _ ?_)
                  refine hK160 _ _ ?_
                  refine cw_ret ?_
                  refine fin1 rfl ?_
                  first
                    | exact absurd gb1 (by assumption)
                    | exact ⟨rfl, hc⟩
                    | (exfalso; omega)
                    | exact ⟨congrArg Value.bool (by rw [dec_no gb4]; rfl), hc⟩
                · -- no
                  replace hb165 := of_decide_eq_false hb165
                  refine rw_cons (op_pass (w1n1 rfl rfl rfl rfl) rfl rfl ?_)
                  refine rw_cons (op_pass (w1n1 rfl rfl rfl rfl) rfl rfl ?_)
                  refine rw_cons (op_pv (w0 rfl) rfl rfl (pv_pickF (v := (.bool false)) rfl rfl rfl) ?_)
                  refine rw_cons (op_pv (w0 rfl) rfl rfl (pv_assign (v := (.bool false)) rfl rfl) ?_)
                  refine rw_nil (hK162 _ _ ?_)
                  refine hK160 _ _ ?_
                  refine cw_ret ?_
                  refine fin1 rfl ?_
                  first
                    | exact absurd gb1 (by assumption)
                    | exact ⟨rfl, hc⟩
                    | (exfalso; omega)
                    | exact ⟨congrArg Value.bool (by rw [dec_no gb4]; rfl), hc⟩
              · -- no
                replace hb164 := of_decide_eq_false hb164
                refine rw_cons (op_pass (w1n1 rfl rfl rfl rfl) rfl rfl ?_)
                refine rw_cons (op_pass (w1n1 rfl rfl rfl rfl) rfl rfl ?_)
                refine rw_cons (op_pv (w0 rfl) rfl rfl (pv_pickF (v := (.bool false)) rfl rfl rfl) ?_)
                refine rw_cons (op_pv (w0 rfl) rfl rfl (pv_move (v := (.bool false)) rfl rfl) ?_)
                refine rw_cons (op_pass (w1n1 rfl rfl rfl rfl) rfl rfl ?_)
                refine rw_cons (op_pass (w1n1 rfl rfl rfl rfl) rfl rfl ?_)
                refine rw_cons (op_pv (w0 rfl) rfl rfl (pv_pickF (v := (.bool false)) rfl rfl rfl) ?_)
                refine rw_cons (op_pv (w0 rfl) rfl rfl (pv_assign (v := (.bool false)) rfl rfl) ?_)
                refine rw_nil (hK162 _ _ ?_)
                refine hK160 _ _ ?_
                refine cw_ret ?_
                refine fin1 rfl ?_
                first
                  | exact absurd gb1 (by assumption)
                  | exact ⟨rfl, hc⟩
                  | (exfalso; omega)
                  | exact ⟨congrArg Value.bool (by rw [dec_no gb4]; rfl), hc⟩
            · -- no
              replace hb163 := dec_f hb163
              refine rw_cons (op_pass (w1n1 rfl rfl rfl rfl) rfl rfl ?_)
              refine rw_cons (op_pass (w1n1 rfl rfl rfl rfl) rfl rfl ?_)
              refine rw_cons (op_pass (w1n1 rfl rfl rfl rfl) rfl rfl ?_)
              refine rw_cons (op_pv (w0 rfl) rfl rfl (pv_pickF (v := (.bool false)) rfl rfl rfl) ?_)
              refine rw_cons (op_pv (w0 rfl) rfl rfl (pv_move (v := (.bool false)) rfl rfl) ?_)
              refine rw_cons (op_pass (w1n1 rfl rfl rfl rfl) rfl rfl ?_)
              refine rw_cons (op_pass (w1n1 rfl rfl rfl rfl) rfl rfl ?_)
              refine rw_cons (op_pv (w0 rfl) rfl rfl (pv_pickF (v := (.bool false)) rfl rfl rfl) ?_)
              refine rw_cons (op_pv (w0 rfl) rfl rfl (pv_move (v := (.bool false)) rfl rfl) ?_)
              refine rw_cons (op_pass (w1n1 rfl rfl rfl rfl) rfl rfl ?_)
              refine rw_cons (op_pass (w1n1 rfl rfl rfl rfl) rfl rfl ?_)
              refine rw_cons (op_pv (w0 rfl) rfl rfl (pv_pickF (v := (.bool false)) rfl rfl rfl) ?_)
              refine rw_cons (op_pv (w0 rfl) rfl rfl (pv_assign (v := (.bool false)) rfl rfl) ?_)
              refine rw_nil (hK162 _ _ ?_)
              refine hK160 _ _ ?_
              refine cw_ret ?_
              refine fin1 rfl ?_
              first
                | exact absurd gb1 (by assumption)
                | exact ⟨rfl, hc⟩
                | (exfalso; omega)
                | exact ⟨congrArg Value.bool (by rw [dec_no gb4]; rfl), hc⟩
end Go.Proofs.Ythgnlljpjpklpaa
