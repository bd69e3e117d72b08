/-
  The walk of laws.FnFileGrowNew, written by program: each line names the law of one operation. Conditions: those of the theorem.
-/
import Derived.Test.YthgnlljpjpklpaaProg
import Derived.Test.YthgnlljpjpklpaaDeep
import Derived.Test.YthgnlljpjpklpaaFlaw
import Derived.Test.YthgnlljpjpklpaaFops
import Derived.Test.YthgnlljpjpklpaaFlaw2
import Derived.Test.YthgnlljpjpklpaaFlaw3
import Derived.Test.YthgnlljpjpklpaaFspecDrawFileGrow
import Derived.Test.YthgnlljpjpklpaaFimplFileGrow
import Derived.Test.YthgnlljpjpklpaaFspecFileGrow
import Derived.Test.YthgnlljpjpklpaaFlawssameFiles
import Derived.Test.YthgnlljpjpklpaaFlawshasInt
import Derived.KernelRfl
namespace Go.Proofs.Ythgnlljpjpklpaa
open Go Go.RowKit
set_option linter.unusedVariables false
set_option linter.unusedSimpArgs false
namespace FnFileGrowNew_okF
theorem T25 : TI Try.prog 25 false (.slice none 0 0) 1 24 := TI.mk' Try.underlying25 rfl (by kernel_rfl)
theorem T48 : TI Try.prog 48 true (.agg #[.string { data := #[] }, .slice none 0 0]) 2 40 := TI.mk' Try.underlying48 rfl (by kernel_rfl)
theorem F48_1 : FldOK Try.prog 48 1 1 := ⟨_, _, 0, Try.underlying48, rfl, rfl, by kernel_rfl⟩
theorem C33 : Callable Try.prog 33 := ⟨_, Try.func33, by kernel_rfl, by kernel_rfl⟩
theorem C34 : Callable Try.prog 34 := ⟨_, Try.func34, by kernel_rfl, by kernel_rfl⟩
theorem C40 : Callable Try.prog 40 := ⟨_, Try.func40, by kernel_rfl, by kernel_rfl⟩
theorem C41 : Callable Try.prog 41 := ⟨_, Try.func41, by kernel_rfl, by kernel_rfl⟩
theorem C43 : Callable Try.prog 43 := ⟨_, Try.func43, by kernel_rfl, by kernel_rfl⟩
end FnFileGrowNew_okF
open FnFileGrowNew_okF in
set_option maxHeartbeats 4000000 in
theorem FnFileGrowNew_ok (A0 : Option Addr) (n0 c0 : Nat) (xs0 : List UInt8) (w : World) (hR0 : RS encU 1 w w.heap.size A0 n0 xs0) (hn0 : n0 ≤ c0) :
    Fn Try.prog 16 [(.slice A0 n0 c0)] w fun v w' => v = .bool true ∧ Ch [] w w' := by
  have hlen0 := hR0.len
  refine fn_of (n := 95) Try.func16 rfl rfl rfl rfl ?_
  have hc : Ch [] w w := Ch.refl _ _
  refine cw_seq fun K1 hK2 => ?_
  refine cw_region fun K3 hK4 => ?_
  refine rw_cons (op_pv (w0 rfl) rfl rfl (pv_assign (v := (.bool false)) rfl rfl) ?_)
  refine rw_nil (hK4 _ _ ?_)
  refine hK2 _ _ ?_
  refine cw_seq fun K5 hK6 => ?_
  refine cw_seq fun K7 hK8 => ?_
  refine cw_region fun K9 hK10 => ?_
  refine rw_cons (op_pv (w0 rfl) rfl rfl (pv_move (v := (.slice A0 n0 c0)) rfl rfl) ?_)
  refine rw_cons (op_pv (w0 rfl) rfl rfl (pv_len Try.underlying36 rfl rfl) ?_)
  refine rw_cons (op_pv (w0 rfl) rfl rfl (pv_gtr rfl rfl rfl) ?_)
  refine rw_nil (hK10 _ _ ?_)
  refine hK8 _ _ ?_
  refine cw_cond rfl (fun h11 => ?_) (fun h11 => ?_)
  · -- then
    replace h11 := of_decide_eq_true h11
    refine cw_seq fun K12 hK13 => ?_
    refine cw_region fun K14 hK15 => ?_
    refine rw_cons (op_pv (w0 rfl) rfl rfl (pv_assign (v := (.bool true)) rfl rfl) ?_)
    refine rw_nil (hK15 _ _ ?_)
    refine hK13 _ _ ?_
    refine cw_ret ?_
    refine fin1 rfl ?_
    exact ⟨rfl, hc⟩
  · -- else
    replace h11 := of_decide_eq_false h11
    refine cw_skip ?_
    refine hK6 _ _ ?_
    refine cw_seq fun K16 hK17 => ?_
    refine cw_region fun K18 hK19 => ?_
    refine rw_cons (op_pv (w0 rfl) rfl rfl (pv_move (v := (.slice A0 n0 c0)) rfl rfl) ?_)
    refine rw_cons (op_call (w0 rfl) rfl rfl (rc_call C43 rfl rfl) (DrawFileGrow_ok _ _ _ _ _ (hR0.more (by omega)) (by omega)) ?_)
    rintro _ w20 ⟨A24, c25, hs22, nm23, rfl, hO26, hl28, hD29, hZ30, hsl31, hch21⟩
    have hsz32 := hch21.size
    replace hR0 := hR0.ch0 hch21
    replace hc := hc.step0 hch21
    have hub27 := hO26.lt
    have hcap33 : hs22.length ≤ c25 := by obtain ⟨_, _, hv, h1, _⟩ := hO26.form; injection hv with _ _ h3; omega
    refine rw_cons (op_pv (w0 rfl) rfl rfl (pv_move (v := (.tuple #[(.slice A24 hs22.length c25), (.string nm23)])) rfl rfl) ?_)
    refine rw_cons (op_pv (w0 rfl) rfl rfl (pv_ext (v := (.slice A24 hs22.length c25)) rfl rfl rfl) ?_)
    refine rw_cons (op_pv (w0 rfl) rfl rfl (pv_ext (v := (.string nm23)) rfl rfl rfl) ?_)
    refine rw_cons (op_pv (w0 rfl) rfl rfl (pv_assign (v := (.slice A24 hs22.length c25)) rfl rfl) ?_)
    refine rw_cons (op_pv (w0 rfl) rfl rfl (pv_assign (v := (.string nm23)) rfl rfl) ?_)
    refine rw_nil (hK19 _ _ ?_)
    refine hK17 _ _ ?_
    refine cw_seq fun K34 hK35 => ?_
    refine cw_region fun K36 hK37 => ?_
    refine rw_cons (op_pv (w0 rfl) rfl rfl (pv_move (v := (.slice A24 hs22.length c25)) rfl rfl) ?_)
    refine rw_cons (op_pv (w0 rfl) rfl rfl (pv_move (v := (.string nm23)) rfl rfl) ?_)
    refine rw_cons (op_call (w0 rfl) rfl rfl (rc_call C34 rfl rfl) (FileGrow_i _ hs22.length _ hs22 nm23 _ (hO26.rs (fun _ => rfl)) (hD29.any (by omega)) (by first | assumption | exact SzOK.nil) (by omega)) ?_)
    rintro _ w38 ⟨A40, c41, hs42, rfl, hO43, hDO44, hfe45, hZ46, hch39⟩
    have hsz47 := hch39.size
    replace hR0 := hR0.ch0 hch39
    replace hO26 := hO26.ch0 hch39
    replace hD29 := hD29.ch0 hch39
    replace hc := hc.step0 hch39
    have hub48 := hO43.lt
    have hcap49 : hs42.length ≤ c41 := by obtain ⟨_, _, hv, h1, _⟩ := hO43.form; injection hv with _ _ h3; omega
    have hfl50 : hs42.length = (growV (fvs hs22) nm23).length := by rw [← hfe45, fvs_len]
    try simp only [fvs_len, List.length_take, List.length_drop] at hfl50
    have hnt51 := growV_le (fvs hs22) nm23
    have hnt52 := growN_bd (fvs hs22) nm23
    refine rw_cons (op_pv (w0 rfl) rfl rfl (pv_move (v := (.tuple #[(.slice A40 hs42.length c41), (.int .i64 (growN (fvs hs22) nm23)), (.bool (dec (GrowOK (fvs hs22) nm23)))])) rfl rfl) ?_)
    refine rw_cons (op_pv (w0 rfl) rfl rfl (pv_ext (v := (.slice A40 hs42.length c41)) rfl rfl rfl) ?_)
    refine rw_cons (op_pv (w0 rfl) rfl rfl (pv_ext (v := (.int .i64 (growN (fvs hs22) nm23))) rfl rfl rfl) ?_)
    refine rw_cons (op_pv (w0 rfl) rfl rfl (pv_ext (v := (.bool (dec (GrowOK (fvs hs22) nm23)))) rfl rfl rfl) ?_)
    refine rw_cons (op_pv (w0 rfl) rfl rfl (pv_assign (v := (.slice A40 hs42.length c41)) rfl rfl) ?_)
    refine rw_cons (op_pv (w0 rfl) rfl rfl (pv_assign (v := (.int .i64 (growN (fvs hs22) nm23))) rfl rfl) ?_)
    refine rw_cons (op_pv (w0 rfl) rfl rfl (pv_assign (v := (.bool (dec (GrowOK (fvs hs22) nm23)))) rfl rfl) ?_)
    refine rw_nil (hK37 _ _ ?_)
    refine hK35 _ _ ?_
    refine cw_seq fun K53 hK54 => ?_
    refine cw_region fun K55 hK56 => ?_
    refine rw_cons (op_pv (w0 rfl) rfl rfl (pv_move (v := (.slice A24 hs22.length c25)) rfl rfl) ?_)
    refine rw_cons (op_pv (w0 rfl) rfl rfl (pv_move (v := (.string nm23)) rfl rfl) ?_)
    refine rw_cons (op_call (w0 rfl) rfl rfl (rc_call C33 rfl rfl) (FileGrow_s _ hs22.length _ hs22 nm23 _ (hO26.rs (fun _ => rfl)) (hD29.any (by omega)) (by first | assumption | exact SzOK.nil) (by omega) (by omega)) ?_)
    rintro _ w57 ⟨A59, c60, hs61, rfl, hO62, hDO63, hfe64, hZ65, hch58⟩
    have hsz66 := hch58.size
    replace hR0 := hR0.ch0 hch58
    replace hO26 := hO26.ch0 hch58
    replace hD29 := hD29.ch0 hch58
    replace hO43 := hO43.ch0 hch58
    replace hDO44 := hDO44.ch0 hch58
    replace hc := hc.step0 hch58
    have hub67 := hO62.lt
    have hcap68 : hs61.length ≤ c60 := by obtain ⟨_, _, hv, h1, _⟩ := hO62.form; injection hv with _ _ h3; omega
    have hfl69 : hs61.length = (growV (fvs hs22) nm23).length := by rw [← hfe64, fvs_len]
    try simp only [fvs_len, List.length_take, List.length_drop] at hfl69
    have hnt70 := growV_le (fvs hs22) nm23
    have hnt71 := growN_bd (fvs hs22) nm23
    refine rw_cons (op_pv (w0 rfl) rfl rfl (pv_move (v := (.tuple #[(.slice A59 hs61.length c60), (.int .i64 (growN (fvs hs22) nm23)), (.bool (dec (GrowOK (fvs hs22) nm23)))])) rfl rfl) ?_)
    refine rw_cons (op_pv (w0 rfl) rfl rfl (pv_ext (v := (.slice A59 hs61.length c60)) rfl rfl rfl) ?_)
    refine rw_cons (op_pv (w0 rfl) rfl rfl (pv_ext (v := (.int .i64 (growN (fvs hs22) nm23))) rfl rfl rfl) ?_)
    refine rw_cons (op_pv (w0 rfl) rfl rfl (pv_ext (v := (.bool (dec (GrowOK (fvs hs22) nm23)))) rfl rfl rfl) ?_)
    refine rw_cons (op_pv (w0 rfl) rfl rfl (pv_assign (v := (.slice A59 hs61.length c60)) rfl rfl) ?_)
    refine rw_cons (op_pv (w0 rfl) rfl rfl (pv_assign (v := (.int .i64 (growN (fvs hs22) nm23))) rfl rfl) ?_)
    refine rw_cons (op_pv (w0 rfl) rfl rfl (pv_assign (v := (.bool (dec (GrowOK (fvs hs22) nm23)))) rfl rfl) ?_)
    refine rw_nil (hK56 _ _ ?_)
    refine hK54 _ _ ?_
    refine cw_seq fun K72 hK73 => ?_
    refine cw_seq fun K74 hK75 => ?_
    refine cw_region fun K76 hK77 => ?_
    refine rw_cons (op_pv (w0 rfl) rfl rfl (pv_move (v := (.bool (dec (GrowOK (fvs hs22) nm23)))) rfl rfl) ?_)
    refine rw_cons (op_pv (w0 rfl) rfl rfl (pv_move (v := (.bool (dec (GrowOK (fvs hs22) nm23)))) rfl rfl) ?_)
    refine rw_cons (op_pv (w0 rfl) rfl rfl (pv_neBs Try.underlying4 rfl rfl rfl) ?_)
    refine rw_cons (op_pv (w0 rfl) rfl rfl (pv_move (v := (.bool false)) rfl rfl) ?_)
    refine rw_cons (op_pv (w1y rfl rfl rfl rfl) rfl rfl (pv_move (v := (.int .i64 (growN (fvs hs22) nm23))) rfl rfl) ?_)
    refine rw_cons (op_pv (w1y rfl rfl rfl rfl) rfl rfl (pv_move (v := (.int .i64 (growN (fvs hs22) nm23))) rfl rfl) ?_)
    refine rw_cons (op_pv (w1y rfl rfl rfl rfl) rfl rfl (pv_nes rfl rfl rfl) ?_)
    refine rw_cons (op_pv (w0 rfl) rfl rfl (pv_pickF (v := (.bool false)) rfl rfl rfl) ?_)
    refine rw_cons (op_pv (w0 rfl) rfl rfl (pv_move (v := (.bool false)) rfl rfl) ?_)
    refine rw_cons (op_pv (w1y rfl rfl rfl rfl) rfl rfl (pv_move (v := (.slice A40 hs42.length c41)) rfl rfl) ?_)
    refine rw_cons (op_pv (w1y rfl rfl rfl rfl) rfl rfl (pv_move (v := (.slice A59 hs61.length c60)) rfl rfl) ?_)
    refine rw_cons (op_call (w1y rfl rfl rfl rfl) rfl rfl (rc_call C40 rfl rfl) (sameFiles_ok _ hs42.length _ hs42 _ hs61.length _ hs61 _ (hO43.rs (fun _ => rfl)) (hDO44.any (by omega)) (by first | assumption | exact SzOK.nil) (by omega) (hO62.rs (fun _ => rfl)) (hDO63.any (by omega)) (by first | assumption | exact SzOK.nil) (by omega)) ?_)
    rintro _ w78 ⟨rfl, hch79⟩
    try rw [hfe45]
    try rw [hfe64]
    have hsz80 := hch79.size
    replace hR0 := hR0.ch0 hch79
    replace hO26 := hO26.ch0 hch79
    replace hD29 := hD29.ch0 hch79
    replace hO43 := hO43.ch0 hch79
    replace hDO44 := hDO44.ch0 hch79
    replace hO62 := hO62.ch0 hch79
    replace hDO63 := hDO63.ch0 hch79
    replace hc := hc.step0 hch79
    refine rw_cons (op_pv (w1y rfl rfl rfl rfl) rfl rfl (pv_not rfl rfl) ?_)
    refine rw_cons (op_pv (w0 rfl) rfl rfl (pv_pickF (v := (.bool (!(dec (growV (fvs hs22) nm23 = growV (fvs hs22) nm23))))) rfl rfl rfl) ?_)
    refine rw_cons (op_pv (w0 rfl) rfl rfl (pv_move (v := (.bool (!(dec (growV (fvs hs22) nm23 = growV (fvs hs22) nm23))))) rfl rfl) ?_)
    refine rw_split 50 rfl (fun hb81 => ?_) (fun hb81 => ?_)
    · -- yes
      replace hb81 := not_t hb81
      replace hb81 := dec_f hb81
      refine rw_cons (op_pass (w1n2 rfl rfl rfl rfl) rfl rfl ?_)
      refine rw_cons (op_pass (w1n2 rfl rfl rfl rfl) rfl rfl ?_)
      refine rw_cons (op_pv (w0 rfl) rfl rfl (pv_pickT (v := (.bool true)) rfl rfl rfl) ?_)
      refine rw_nil (hK77 _ _ ?_)
      refine hK75 _ _ ?_
      refine cw_cond rfl (fun h82 => ?_) (fun h82 => ?_)
      · -- then
        clear h82
        refine cw_seq fun K83 hK84 => ?_
        refine cw_region fun K85 hK86 => ?_
        refine rw_cons (op_pv (w0 rfl) rfl rfl (pv_move (v := (.bool (dec (GrowOK (fvs hs22) nm23)))) rfl rfl) ?_)
        refine rw_cons (op_pv (w0 rfl) rfl rfl (pv_move (v := (.bool (dec (GrowOK (fvs hs22) nm23)))) rfl rfl) ?_)
        refine rw_cons (op_pv (w0 rfl) rfl rfl (pv_eqBs Try.underlying4 rfl rfl rfl) ?_)
        refine rw_cons (op_pv (w0 rfl) rfl rfl (pv_move (v := (.bool true)) rfl rfl) ?_)
        refine rw_cons (op_pv (w1y rfl rfl rfl rfl) rfl rfl (pv_move (v := (.int .i64 (growN (fvs hs22) nm23))) rfl rfl) ?_)
        refine rw_cons (op_pv (w1y rfl rfl rfl rfl) rfl rfl (pv_move (v := (.int .i64 (growN (fvs hs22) nm23))) rfl rfl) ?_)
        refine rw_cons (op_pv (w1y rfl rfl rfl rfl) rfl rfl (pv_eqs rfl rfl rfl) ?_)
        refine rw_cons (op_pv (w0 rfl) rfl rfl (pv_pickT (v := (.bool true)) rfl rfl rfl) ?_)
        refine rw_cons (op_pv (w0 rfl) rfl rfl (pv_move (v := (.bool true)) rfl rfl) ?_)
        refine rw_cons (op_pv (w1y rfl rfl rfl rfl) rfl rfl (pv_move (v := (.slice A40 hs42.length c41)) rfl rfl) ?_)
        refine rw_cons (op_pv (w1y rfl rfl rfl rfl) rfl rfl (pv_move (v := (.slice A59 hs61.length c60)) rfl rfl) ?_)
        refine rw_cons (op_call (w1y rfl rfl rfl rfl) rfl rfl (rc_call C40 rfl rfl) (sameFiles_ok _ hs42.length _ hs42 _ hs61.length _ hs61 _ (hO43.rs (fun _ => rfl)) (hDO44.any (by omega)) (by first | assumption | exact SzOK.nil) (by omega) (hO62.rs (fun _ => rfl)) (hDO63.any (by omega)) (by first | assumption | exact SzOK.nil) (by omega)) ?_)
        rintro _ w87 ⟨rfl, hch88⟩
        try rw [hfe45]
        try rw [hfe64]
        have hsz89 := hch88.size
        replace hR0 := hR0.ch0 hch88
        replace hO26 := hO26.ch0 hch88
        replace hD29 := hD29.ch0 hch88
        replace hO43 := hO43.ch0 hch88
        replace hDO44 := hDO44.ch0 hch88
        replace hO62 := hO62.ch0 hch88
        replace hDO63 := hDO63.ch0 hch88
        replace hc := hc.step0 hch88
        refine rw_cons (op_pv (w0 rfl) rfl rfl (pv_pickT (v := (.bool (dec (growV (fvs hs22) nm23 = growV (fvs hs22) nm23)))) rfl rfl rfl) ?_)
        refine rw_cons (op_pv (w0 rfl) rfl rfl (pv_assign (v := (.bool (dec (growV (fvs hs22) nm23 = growV (fvs hs22) nm23)))) rfl rfl) ?_)
        refine rw_nil (hK86 _ _ ?_)
        refine hK84 _ _ ?_
        refine cw_ret ?_
        refine fin1 rfl ?_
        first
          | exact ⟨rfl, hc⟩
          | exact absurd rfl (by assumption)
          | exact ⟨congrArg Value.bool (dec_yes rfl), hc⟩
          | exact ⟨congrArg Value.bool (beq_self_eq_true _), hc⟩
          | exact ⟨congrArg Value.bool (decide_eq_true rfl), hc⟩
      · -- else
        cases h82
    · -- no
      replace hb81 := not_f hb81
      replace hb81 := dec_t hb81
      refine rw_cons (op_pv (w1y rfl rfl rfl rfl) rfl rfl (pv_move (v := (.bool (dec (GrowOK (fvs hs22) nm23)))) rfl rfl) ?_)
      refine rw_cons (op_pv (w1y rfl rfl rfl rfl) rfl rfl (pv_not rfl rfl) ?_)
      refine rw_cons (op_pv (w0 rfl) rfl rfl (pv_pickF (v := (.bool (!(dec (GrowOK (fvs hs22) nm23))))) rfl rfl rfl) ?_)
      refine rw_nil (hK77 _ _ ?_)
      refine hK75 _ _ ?_
      refine cw_cond rfl (fun h90 => ?_) (fun h90 => ?_)
      · -- then
        replace h90 := not_t h90
        replace h90 := dec_f h90
        refine cw_seq fun K91 hK92 => ?_
        refine cw_region fun K93 hK94 => ?_
        refine rw_cons (op_pv (w0 rfl) rfl rfl (pv_move (v := (.bool (dec (GrowOK (fvs hs22) nm23)))) rfl rfl) ?_)
        refine rw_cons (op_pv (w0 rfl) rfl rfl (pv_move (v := (.bool (dec (GrowOK (fvs hs22) nm23)))) rfl rfl) ?_)
        refine rw_cons (op_pv (w0 rfl) rfl rfl (pv_eqBs Try.underlying4 rfl rfl rfl) ?_)
        refine rw_cons (op_pv (w0 rfl) rfl rfl (pv_move (v := (.bool true)) rfl rfl) ?_)
        refine rw_cons (op_pv (w1y rfl rfl rfl rfl) rfl rfl (pv_move (v := (.int .i64 (growN (fvs hs22) nm23))) rfl rfl) ?_)
        refine rw_cons (op_pv (w1y rfl rfl rfl rfl) rfl rfl (pv_move (v := (.int .i64 (growN (fvs hs22) nm23))) rfl rfl) ?_)
        refine rw_cons (op_pv (w1y rfl rfl rfl rfl) rfl rfl (pv_eqs rfl rfl rfl) ?_)
        refine rw_cons (op_pv (w0 rfl) rfl rfl (pv_pickT (v := (.bool true)) rfl rfl rfl) ?_)
        refine rw_cons (op_pv (w0 rfl) rfl rfl (pv_move (v := (.bool true)) rfl rfl) ?_)
        refine rw_cons (op_pv (w1y rfl rfl rfl rfl) rfl rfl (pv_move (v := (.slice A40 hs42.length c41)) rfl rfl) ?_)
        refine rw_cons (op_pv (w1y rfl rfl rfl rfl) rfl rfl (pv_move (v := (.slice A59 hs61.length c60)) rfl rfl) ?_)
        refine rw_cons (op_call (w1y rfl rfl rfl rfl) rfl rfl (rc_call C40 rfl rfl) (sameFiles_ok _ hs42.length _ hs42 _ hs61.length _ hs61 _ (hO43.rs (fun _ => rfl)) (hDO44.any (by omega)) (by first | assumption | exact SzOK.nil) (by omega) (hO62.rs (fun _ => rfl)) (hDO63.any (by omega)) (by first | assumption | exact SzOK.nil) (by omega)) ?_)
        rintro _ w95 ⟨rfl, hch96⟩
        try rw [hfe45]
        try rw [hfe64]
        have hsz97 := hch96.size
        replace hR0 := hR0.ch0 hch96
        replace hO26 := hO26.ch0 hch96
        replace hD29 := hD29.ch0 hch96
        replace hO43 := hO43.ch0 hch96
        replace hDO44 := hDO44.ch0 hch96
        replace hO62 := hO62.ch0 hch96
        replace hDO63 := hDO63.ch0 hch96
        replace hc := hc.step0 hch96
        refine rw_cons (op_pv (w0 rfl) rfl rfl (pv_pickT (v := (.bool (dec (growV (fvs hs22) nm23 = growV (fvs hs22) nm23)))) rfl rfl rfl) ?_)
        refine rw_cons (op_pv (w0 rfl) rfl rfl (pv_assign (v := (.bool (dec (growV (fvs hs22) nm23 = growV (fvs hs22) nm23)))) rfl rfl) ?_)
        refine rw_nil (hK94 _ _ ?_)
        refine hK92 _ _ ?_
        refine cw_ret ?_
        refine fin1 rfl ?_
        first
          | exact ⟨rfl, hc⟩
          | exact absurd rfl (by assumption)
          | exact ⟨congrArg Value.bool (dec_yes rfl), hc⟩
          | exact ⟨congrArg Value.bool (beq_self_eq_true _), hc⟩
          | exact ⟨congrArg Value.bool (decide_eq_true rfl), hc⟩
      · -- else
        replace h90 := not_f h90
        replace h90 := dec_t h90
        refine cw_skip ?_
        refine hK73 _ _ ?_
        refine cw_seq fun K98 hK99 => ?_
        refine cw_seq fun K100 hK101 => ?_
        have hok : GrowOK (fvs hs22) nm23 := by assumption
        have hgf := grow_fok hok
        have hgl := grow_len hok
        have hxl := fvs_len hs22
        have hgN := growN_bd (fvs hs22) nm23
        have hgL := grow_least hok
        refine cw_region fun K102 hK103 => ?_
        refine rw_cons (op_pv (w0 rfl) rfl rfl (pv_assign (v := (.int .i64 1)) rfl rfl) ?_)
        refine rw_nil (hK103 _ _ ?_)
        refine hK101 _ _ ?_
        refine cw_block ?_
        refine cw_loop (σ := Nat) (fun k => [(11, (.int .i64 ((k : Int) + 1))), (3, (.slice A24 hs22.length c25)), (6, (.int .i64 (growN (fvs hs22) nm23)))]) (fun k W => ((k : Int) ≤ growN (fvs hs22) nm23) ∧ RS encU 1 W w.heap.size A0 n0 xs0 ∧ Own encF 2 W w.heap.size 48 (.slice A24 hs22.length c25) hs22 ∧ DX w.heap.size w20.heap.size ([]) W hs22 ∧ Own encF 2 W w20.heap.size 48 (.slice A40 hs42.length c41) hs42 ∧ DOw w20.heap.size w38.heap.size (obl (.slice A40 hs42.length c41)) 3 W hs42 ∧ Own encF 2 W w38.heap.size 48 (.slice A59 hs61.length c60) hs61 ∧ DOw w38.heap.size w57.heap.size (obl (.slice A59 hs61.length c60)) 3 W hs61 ∧ Ch [] w W ∧ w20.heap.size ≤ W.heap.size ∧ w38.heap.size ≤ W.heap.size ∧ w57.heap.size ≤ W.heap.size) (fun k => (growN (fvs hs22) nm23).toNat + 1 - k) 0 ?_ ?_ ?_
        · exact ⟨(iv (by omega)), rfl, rfl, trivial⟩
        · refine ⟨by omega, hR0, hO26, hD29, hO43, hDO44, hO62, hDO63, hc, (by omega), (by omega), (by omega)⟩
        · rintro k J111 w104 ⟨hk, hR0, hO26, hD29, hO43, hDO44, hO62, hDO63, hc, hmono105, hmono106, hmono107⟩ K108 hK109
          have hsz113 := hc.size
          have hub114 := hO26.lt
          have hub115 := hO43.lt
          have hub116 := hO62.lt
          refine cw_seq fun K117 hK118 => ?_
          refine cw_seq fun K119 hK120 => ?_
          refine cw_region fun K121 hK122 => ?_
          refine rw_cons (op_pv (w0 rfl) rfl rfl (pv_move (v := (.int .i64 ((k : Int) + 1))) rfl rfl) ?_)
          refine rw_cons (op_pv (w0 rfl) rfl rfl (pv_move (v := (.int .i64 (growN (fvs hs22) nm23))) rfl rfl) ?_)
          refine rw_cons (op_pv (w0 rfl) rfl rfl (pv_leq rfl rfl rfl) ?_)
          refine rw_nil (hK122 _ _ ?_)
          refine hK120 _ _ ?_
          refine cw_cond rfl (fun h123 => ?_) (fun h123 => ?_)
          · -- then
            replace h123 := of_decide_eq_true h123
            refine cw_skip ?_
            refine hK118 _ _ ?_
            refine cw_seq fun K124 hK125 => ?_
            refine cw_block ?_
            refine cw_seq fun K126 hK127 => ?_
            refine cw_region fun K128 hK129 => ?_
            refine rw_cons (op_pv (w0 rfl) rfl rfl (pv_assign (v := (.bool false)) rfl rfl) ?_)
            refine rw_nil (hK129 _ _ ?_)
            refine hK127 _ _ ?_
            refine cw_seq fun K130 hK131 => ?_
            refine cw_seq fun K132 hK133 => ?_
            refine cw_region fun K134 hK135 => ?_
            refine rw_cons (op_pv (w0 rfl) rfl rfl (pv_assign (v := (.int .i64 0)) rfl rfl) ?_)
            refine rw_nil (hK135 _ _ ?_)
            refine hK133 _ _ ?_
            refine cw_block ?_
            refine cw_loop (σ := Nat × Bool) (fun ⟨j, b⟩ => [(12, (.bool b)), (13, (.int .i64 (j : Int))), (3, (.slice A24 hs22.length c25)), (6, (.int .i64 (growN (fvs hs22) nm23))), (11, (.int .i64 ((k : Int) + 1))), (67, (.int .i64 ((k : Int) + 1))), (68, (.int .i64 (growN (fvs hs22) nm23))), (69, (.bool (decide (((k : Int) + 1) ≤ (growN (fvs hs22) nm23)))))]) (fun ⟨j, b⟩ W => (j ≤ hs22.length ∧ (b = true ↔ ∃ i, i < j ∧ i < hs22.length ∧ (k : Int) + 1 ∈ (el hs22 i).ps)) ∧ RS encU 1 W w.heap.size A0 n0 xs0 ∧ Own encF 2 W w.heap.size 48 (.slice A24 hs22.length c25) hs22 ∧ DX w.heap.size w20.heap.size ([]) W hs22 ∧ Own encF 2 W w20.heap.size 48 (.slice A40 hs42.length c41) hs42 ∧ DOw w20.heap.size w38.heap.size (obl (.slice A40 hs42.length c41)) 3 W hs42 ∧ Own encF 2 W w38.heap.size 48 (.slice A59 hs61.length c60) hs61 ∧ DOw w38.heap.size w57.heap.size (obl (.slice A59 hs61.length c60)) 3 W hs61 ∧ Ch [] w W ∧ w20.heap.size ≤ W.heap.size ∧ w38.heap.size ≤ W.heap.size ∧ w57.heap.size ≤ W.heap.size) (fun ⟨j, b⟩ => hs22.length - j) (0, false) ?_ ?_ ?_
            · exact ⟨rfl, rfl, rfl, rfl, rfl, rfl, rfl, rfl, trivial⟩
            · refine ⟨⟨Nat.zero_le _, ⟨fun h => (by cases h), fun ⟨i, h, _⟩ => (by omega)⟩⟩, hR0, hO26, hD29, hO43, hDO44, hO62, hDO63, hc, (by omega), (by omega), (by omega)⟩
            · rintro ⟨j, b⟩ J143 w136 ⟨⟨hj, hb⟩, hR0, hO26, hD29, hO43, hDO44, hO62, hDO63, hc, hmono137, hmono138, hmono139⟩ K140 hK141
              have hsz145 := hc.size
              have hub146 := hO26.lt
              have hub147 := hO43.lt
              have hub148 := hO62.lt
              have hzj := fun h => ‹SzOK hs22› j h
              refine cw_seq fun K149 hK150 => ?_
              refine cw_seq fun K151 hK152 => ?_
              refine cw_region fun K153 hK154 => ?_
              refine rw_cons (op_pv (w0 rfl) rfl rfl (pv_move (v := (.int .i64 (j : Int))) rfl rfl) ?_)
              refine rw_cons (op_pv (w0 rfl) rfl rfl (pv_move (v := (.slice A24 hs22.length c25)) rfl rfl) ?_)
              refine rw_cons (op_pv (w0 rfl) rfl rfl (pv_len Try.underlying24 rfl rfl) ?_)
              refine rw_cons (op_pv (w0 rfl) rfl rfl (pv_lss rfl rfl rfl) ?_)
              refine rw_nil (hK154 _ _ ?_)
              refine hK152 _ _ ?_
              refine cw_cond rfl (fun h155 => ?_) (fun h155 => ?_)
              · -- then
                replace h155 := of_decide_eq_true h155
                refine cw_skip ?_
                refine hK150 _ _ ?_
                refine cw_seq fun K156 hK157 => ?_
                refine cw_block ?_
                have hzj2 := hzj (by omega)
                refine cw_region fun K158 hK159 => ?_
                refine rw_cons (op_pv (w0 rfl) rfl rfl (pv_move (v := (.bool b)) rfl rfl) ?_)
                refine rw_cons (op_pv (w0 rfl) rfl rfl (pv_move (v := (.bool b)) rfl rfl) ?_)
                refine rw_split 79 rfl (fun hb160 => ?_) (fun hb160 => ?_)
                · -- yes
                  refine rw_cons (op_pass (w1n2 rfl rfl rfl rfl) rfl rfl ?_)
                  refine rw_cons (op_pass (w1n2 rfl rfl rfl rfl) rfl rfl ?_)
                  refine rw_cons (op_pass (w1n2 rfl rfl rfl rfl) rfl rfl ?_)
                  refine rw_cons (op_pass (w1n2 rfl rfl rfl rfl) rfl rfl ?_)
                  refine rw_cons (op_pass (w1n2 rfl rfl rfl rfl) rfl rfl ?_)
                  refine rw_cons (op_pass (w1n2 rfl rfl rfl rfl) rfl rfl ?_)
                  refine rw_cons (op_pass (w1n2 rfl rfl rfl rfl) rfl rfl ?_)
                  refine rw_cons (op_pv (w0 rfl) rfl rfl (pv_pickT (v := (.bool true)) rfl rfl rfl) ?_)
                  refine rw_cons (op_pv (w0 rfl) rfl rfl (pv_assign (v := (.bool true)) rfl rfl) ?_)
                  refine rw_nil (hK159 _ _ ?_)
                  refine hK157 _ _ ?_
                  refine cw_region fun K161 hK162 => ?_
                  refine rw_cons (op_pv (w0 rfl) rfl rfl (pv_move (v := (.int .i64 (j : Int))) rfl rfl) ?_)
                  refine rw_cons (op_pv (w0 rfl) rfl rfl (pv_add rfl rfl rfl (by omega) (by omega)) ?_)
                  refine rw_cons (op_pv (w0 rfl) rfl rfl (pv_assign (v := (.int .i64 ((j : Int) + 1))) rfl rfl) ?_)
                  refine rw_nil (hK162 _ _ ?_)
                  refine hK141 _ _ (j + 1, true) ⟨rfl, (iv (by omega)), rfl, rfl, rfl, rfl, rfl, rfl, trivial⟩ ⟨?_, hR0, hO26, hD29, hO43, hDO44, hO62, hDO63, hc, (by omega), (by omega), (by omega)⟩ ?_
                  · obtain ⟨i, h1, h3, h2⟩ := hb.1 (by assumption)
                    exact ⟨by omega, ⟨fun _ => ⟨i, by omega, h3, h2⟩, fun _ => rfl⟩⟩
                  · (first | omega | (simp only []; omega))
                · -- no
                  refine rw_cons (op_pv (w1y rfl rfl rfl rfl) rfl rfl (pv_move (v := (.slice A24 hs22.length c25)) rfl rfl) ?_)
                  refine rw_cons (op_pv (w1y rfl rfl rfl rfl) rfl rfl (pv_move (v := (.int .i64 (j : Int))) rfl rfl) ?_)
                  refine rw_cons (op_pv (w1y rfl rfl rfl rfl) rfl rfl (pv_idx Try.underlying24 T48 rfl rfl rfl ((hO26.rs (fun _ => rfl)).some (k := j) (by omega)) (by omega) (by omega)) ?_)
                  refine rw_cons (op_pv (w1y rfl rfl rfl rfl) rfl rfl (pv_fld F48_1 rfl rfl) ?_)
                  have hR163 : RS encI 1 w136 w20.heap.size (el hs22 j).A (el hs22 j).n (el hs22 j).ps := hD29.rs (k := j) (by omega)
                  have hln164 := hR163.len
                  refine rw_cons (op_lv (w1y rfl rfl rfl rfl) rfl rfl (lv_load T25 rfl rfl ((hO26.rs (fun _ => rfl)).cellE (k := j) (j := 1) (by omega) rfl)) ?_)
                  refine rw_cons (op_pv (w1y rfl rfl rfl rfl) rfl rfl (pv_move (v := (.int .i64 ((k : Int) + 1))) rfl rfl) ?_)
                  refine rw_cons (op_call (w1y rfl rfl rfl rfl) rfl rfl (rc_call C41 rfl rfl) (hasInt_ok _ (el hs22 j).n _ (el hs22 j).ps ((k : Int) + 1) _ (hR163.more (by omega)) (by omega)) ?_)
                  rintro _ w165 ⟨rfl, hch166⟩
                  have hsz167 := hch166.size
                  replace hR0 := hR0.ch0 hch166
                  replace hO26 := hO26.ch0 hch166
                  replace hD29 := hD29.ch0 hch166
                  replace hO43 := hO43.ch0 hch166
                  replace hDO44 := hDO44.ch0 hch166
                  replace hO62 := hO62.ch0 hch166
                  replace hDO63 := hDO63.ch0 hch166
                  replace hR163 := hR163.ch0 hch166
                  replace hc := hc.step0 hch166
                  refine rw_cons (op_pv (w0 rfl) rfl rfl (pv_pickF (v := (.bool (dec (((k : Int) + 1) ∈ (el hs22 j).ps)))) rfl rfl rfl) ?_)
                  refine rw_cons (op_pv (w0 rfl) rfl rfl (pv_assign (v := (.bool (dec (((k : Int) + 1) ∈ (el hs22 j).ps)))) rfl rfl) ?_)
                  refine rw_nil (hK159 _ _ ?_)
                  refine hK157 _ _ ?_
                  refine cw_region fun K168 hK169 => ?_
                  refine rw_cons (op_pv (w0 rfl) rfl rfl (pv_move (v := (.int .i64 (j : Int))) rfl rfl) ?_)
                  refine rw_cons (op_pv (w0 rfl) rfl rfl (pv_add rfl rfl rfl (by omega) (by omega)) ?_)
                  refine rw_cons (op_pv (w0 rfl) rfl rfl (pv_assign (v := (.int .i64 ((j : Int) + 1))) rfl rfl) ?_)
                  refine rw_nil (hK169 _ _ ?_)
                  refine hK141 _ _ (j + 1, dec (((k : Int) + 1) ∈ (el hs22 j).ps)) ⟨rfl, (iv (by omega)), rfl, rfl, rfl, rfl, rfl, rfl, trivial⟩ ⟨?_, hR0, hO26, hD29, hO43, hDO44, hO62, hDO63, hc, (by omega), (by omega), (by omega)⟩ ?_
                  · exact ⟨by omega, ⟨fun h => ⟨j, by omega, by omega, dec_t h⟩, fun ⟨i, h1, h3, h2⟩ => dec_yes (by by_cases e : i = j; (subst e; exact h2); exact absurd (hb.2 ⟨i, by omega, h3, h2⟩) (by simp_all))⟩⟩
                  · (first | omega | (simp only []; omega))
              · -- else
                replace h155 := of_decide_eq_false h155
                refine cw_exit ?_
                refine hK131 _ _ ?_
                refine cw_seq fun K170 hK171 => ?_
                refine cw_region fun K172 hK173 => ?_
                refine rw_cons (op_pv (w0 rfl) rfl rfl (pv_move (v := (.bool b)) rfl rfl) ?_)
                refine rw_cons (op_pv (w0 rfl) rfl rfl (pv_move (v := (.int .i64 ((k : Int) + 1))) rfl rfl) ?_)
                refine rw_cons (op_pv (w0 rfl) rfl rfl (pv_move (v := (.int .i64 (growN (fvs hs22) nm23))) rfl rfl) ?_)
                refine rw_cons (op_pv (w0 rfl) rfl rfl (pv_lss rfl rfl rfl) ?_)
                refine rw_cons (op_pv (w0 rfl) rfl rfl (pv_neqB Try.underlying4 rfl rfl rfl) ?_)
                refine rw_nil (hK173 _ _ ?_)
                refine hK171 _ _ ?_
                refine cw_cond rfl (fun h174 => ?_) (fun h174 => ?_)
                · -- then
                  replace h174 := not_t h174
                  replace h174 := ne_of_beq_false h174
                  refine cw_seq fun K175 hK176 => ?_
                  refine cw_region fun K177 hK178 => ?_
                  refine rw_cons (op_pv (w0 rfl) rfl rfl (pv_assign (v := (.bool false)) rfl rfl) ?_)
                  refine rw_nil (hK178 _ _ ?_)
                  refine hK176 _ _ ?_
                  refine cw_ret ?_
                  refine fin1 rfl ?_
                  exact absurd (bool_dec ((some_pcs (by omega) hb).trans (least_iff hok (n := (k : Int) + 1) (by omega) (by omega)))) (by assumption)
                · -- else
                  replace h174 := not_f h174
                  replace h174 := eq_of_beq h174
                  refine cw_skip ?_
                  refine hK125 _ _ ?_
                  refine cw_region fun K179 hK180 => ?_
                  refine rw_cons (op_pv (w0 rfl) rfl rfl (pv_move (v := (.int .i64 ((k : Int) + 1))) rfl rfl) ?_)
                  refine rw_cons (op_pv (w0 rfl) rfl rfl (pv_add rfl rfl rfl (by omega) (by omega)) ?_)
                  refine rw_cons (op_pv (w0 rfl) rfl rfl (pv_assign (v := (.int .i64 (((k : Int) + 1) + 1))) rfl rfl) ?_)
                  refine rw_nil (hK180 _ _ ?_)
                  refine hK109 _ _ (k + 1) ⟨(iv (by omega)), rfl, rfl, trivial⟩ ⟨?_, hR0, hO26, hD29, hO43, hDO44, hO62, hDO63, hc, (by omega), (by omega), (by omega)⟩ ?_
                  · omega
                  · (first | omega | (simp only []; omega))
          · -- else
            replace h123 := of_decide_eq_false h123
            refine cw_exit ?_
            refine hK99 _ _ ?_
            refine cw_seq fun K181 hK182 => ?_
            refine cw_region fun K183 hK184 => ?_
            refine rw_cons (op_pv (w0 rfl) rfl rfl (pv_move (v := (.int .i64 (growN (fvs hs22) nm23))) rfl rfl) ?_)
            refine rw_cons (op_pv (w0 rfl) rfl rfl (pv_geq rfl rfl rfl) ?_)
            refine rw_cons (op_pv (w0 rfl) rfl rfl (pv_assign (v := (.bool (decide (1 ≤ (growN (fvs hs22) nm23))))) rfl rfl) ?_)
            refine rw_nil (hK184 _ _ ?_)
            refine hK182 _ _ ?_
            refine cw_ret ?_
            refine fin1 rfl ?_
            exact ⟨congrArg Value.bool (decide_eq_true hgL.1), hc⟩
end Go.Proofs.Ythgnlljpjpklpaa
