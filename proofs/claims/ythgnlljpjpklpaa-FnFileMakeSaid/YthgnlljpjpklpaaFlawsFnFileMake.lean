/-
  The walk of laws.FnFileMake, written by program: each line names the law of one operation. Conditions: those of the theorem.
-/
import Derived.Test.YthgnlljpjpklpaaProg
import Derived.Test.YthgnlljpjpklpaaDeep
import Derived.Test.YthgnlljpjpklpaaFlaw
import Derived.Test.YthgnlljpjpklpaaFops
import Derived.Test.YthgnlljpjpklpaaFlaw2
import Derived.Test.YthgnlljpjpklpaaFspecDrawFileMake
import Derived.Test.YthgnlljpjpklpaaFimplFileMake
import Derived.Test.YthgnlljpjpklpaaFspecFileMake
import Derived.Test.YthgnlljpjpklpaaFlawssameFiles
import Derived.Test.YthgnlljpjpklpaaFlaw3
import Derived.Test.YthgnlljpjpklpaaFlaw4
import Derived.Test.YthgnlljpjpklpaaFimplFilesValid
import Derived.KernelRfl
namespace Go.Proofs.Ythgnlljpjpklpaa
open Go Go.RowKit
set_option linter.unusedVariables false
set_option linter.unusedSimpArgs false
namespace FnFileMake_okF
theorem T9 : TI Try.prog 9 false (.string { data := #[] }) 1 16 := TI.mk' Try.underlying9 rfl (by kernel_rfl)
theorem T25 : TI Try.prog 25 false (.slice none 0 0) 1 24 := TI.mk' Try.underlying25 rfl (by kernel_rfl)
theorem T48 : TI Try.prog 48 true (.agg #[.string { data := #[] }, .slice none 0 0]) 2 40 := TI.mk' Try.underlying48 rfl (by kernel_rfl)
theorem F48_0 : FldOK Try.prog 48 0 0 := ⟨_, _, 0, Try.underlying48, rfl, rfl, by kernel_rfl⟩
theorem F48_1 : FldOK Try.prog 48 1 1 := ⟨_, _, 0, Try.underlying48, rfl, rfl, by kernel_rfl⟩
theorem C28 : Callable Try.prog 28 := ⟨_, Try.func28, by kernel_rfl, by kernel_rfl⟩
theorem C29 : Callable Try.prog 29 := ⟨_, Try.func29, by kernel_rfl, by kernel_rfl⟩
theorem C31 : Callable Try.prog 31 := ⟨_, Try.func31, by kernel_rfl, by kernel_rfl⟩
theorem C40 : Callable Try.prog 40 := ⟨_, Try.func40, by kernel_rfl, by kernel_rfl⟩
theorem C42 : Callable Try.prog 42 := ⟨_, Try.func42, by kernel_rfl, by kernel_rfl⟩
end FnFileMake_okF
open FnFileMake_okF in
set_option maxHeartbeats 4000000 in
theorem FnFileMake_ok (A0 : Option Addr) (n0 c0 : Nat) (xs0 : List UInt8) (w : World) (hR0 : RS encU 1 w w.heap.size A0 n0 xs0) (hn0 : n0 ≤ c0) :
    Fn Try.prog 13 [(.slice A0 n0 c0)] w fun v w' => v = .bool true ∧ Ch [] w w' := by
  have hlen0 := hR0.len
  refine fn_of (n := 91) Try.func13 rfl rfl rfl rfl ?_
  have hc : Ch [] w w := Ch.refl _ _
  refine cw_seq fun K1 hK2 => ?_
  refine cw_region fun K3 hK4 => ?_
  refine rw_cons (op_pv (w0 rfl) rfl rfl (pv_assign (v := (.bool false)) rfl rfl) ?_)
  refine rw_nil (hK4 _ _ ?_)
  refine hK2 _ _ ?_
  refine cw_seq fun K5 hK6 => ?_
  refine cw_seq fun K7 hK8 => ?_
  refine cw_region fun K9 hK10 => ?_
  refine rw_cons (op_pv (w0 rfl) rfl rfl (pv_move (v := (.slice A0 n0 c0)) rfl rfl) ?_)
  refine rw_cons (op_pv (w0 rfl) rfl rfl (pv_len Try.underlying36 rfl rfl) ?_)
  refine rw_cons (op_pv (w0 rfl) rfl rfl (pv_gtr rfl rfl rfl) ?_)
  refine rw_nil (hK10 _ _ ?_)
  refine hK8 _ _ ?_
  refine cw_cond rfl (fun h11 => ?_) (fun h11 => ?_)
  · -- then
    replace h11 := of_decide_eq_true h11
    refine cw_seq fun K12 hK13 => ?_
    refine cw_region fun K14 hK15 => ?_
    refine rw_cons (op_pv (w0 rfl) rfl rfl (pv_assign (v := (.bool true)) rfl rfl) ?_)
    refine rw_nil (hK15 _ _ ?_)
    refine hK13 _ _ ?_
    refine cw_ret ?_
    refine fin1 rfl ?_
    exact ⟨rfl, hc⟩
  · -- else
    replace h11 := of_decide_eq_false h11
    refine cw_skip ?_
    refine hK6 _ _ ?_
    refine cw_seq fun K16 hK17 => ?_
    refine cw_region fun K18 hK19 => ?_
    refine rw_cons (op_pv (w0 rfl) rfl rfl (pv_move (v := (.slice A0 n0 c0)) rfl rfl) ?_)
    refine rw_cons (op_call (w0 rfl) rfl rfl (rc_call C42 rfl rfl) (DrawFileMake_ok _ _ _ _ _ (hR0.more (by omega)) (by omega)) ?_)
    rintro _ w20 ⟨A24, c25, hs22, nm23, rfl, hO26, hl28, hD29, hZ30, hsl31, hch21⟩
    have hsz32 := hch21.size
    replace hR0 := hR0.ch0 hch21
    replace hc := hc.step0 hch21
    have hub27 := hO26.lt
    have hcap33 : hs22.length ≤ c25 := by obtain ⟨_, _, hv, h1, _⟩ := hO26.form; injection hv with _ _ h3; omega
    refine rw_cons (op_pv (w0 rfl) rfl rfl (pv_move (v := (.tuple #[(.slice A24 hs22.length c25), (.string nm23)])) rfl rfl) ?_)
    refine rw_cons (op_pv (w0 rfl) rfl rfl (pv_ext (v := (.slice A24 hs22.length c25)) rfl rfl rfl) ?_)
    refine rw_cons (op_pv (w0 rfl) rfl rfl (pv_ext (v := (.string nm23)) rfl rfl rfl) ?_)
    refine rw_cons (op_pv (w0 rfl) rfl rfl (pv_assign (v := (.slice A24 hs22.length c25)) rfl rfl) ?_)
    refine rw_cons (op_pv (w0 rfl) rfl rfl (pv_assign (v := (.string nm23)) rfl rfl) ?_)
    refine rw_nil (hK19 _ _ ?_)
    refine hK17 _ _ ?_
    refine cw_seq fun K34 hK35 => ?_
    refine cw_region fun K36 hK37 => ?_
    refine rw_cons (op_pv (w0 rfl) rfl rfl (pv_move (v := (.slice A24 hs22.length c25)) rfl rfl) ?_)
    refine rw_cons (op_pv (w0 rfl) rfl rfl (pv_move (v := (.string nm23)) rfl rfl) ?_)
    refine rw_cons (op_call (w0 rfl) rfl rfl (rc_call C29 rfl rfl) (FileMake_i _ hs22.length _ hs22 nm23 _ (hO26.rs (fun _ => rfl)) (hD29.any (by omega)) (by first | assumption | exact SzOK.nil) (by omega) (by omega) (by omega)) ?_)
    rintro _ w38 ⟨A40, c41, hs42, rfl, hO43, hDO44, hfe45, hZ46, hch39⟩
    have hsz47 := hch39.size
    replace hR0 := hR0.ch0 hch39
    replace hO26 := hO26.ch0 hch39
    replace hD29 := hD29.ch0 hch39
    replace hc := hc.step0 hch39
    have hub48 := hO43.lt
    have hcap49 : hs42.length ≤ c41 := by obtain ⟨_, _, hv, h1, _⟩ := hO43.form; injection hv with _ _ h3; omega
    have hfl50 : hs42.length = (makeV (fvs hs22) nm23).length := by rw [← hfe45, fvs_len]
    try simp only [fvs_len, List.length_take, List.length_drop] at hfl50
    have hnt51 := makeV_le (fvs hs22) nm23
    refine rw_cons (op_pv (w0 rfl) rfl rfl (pv_move (v := (.tuple #[(.slice A40 hs42.length c41), (.bool (dec (MakeOK (fvs hs22) nm23)))])) rfl rfl) ?_)
    refine rw_cons (op_pv (w0 rfl) rfl rfl (pv_ext (v := (.slice A40 hs42.length c41)) rfl rfl rfl) ?_)
    refine rw_cons (op_pv (w0 rfl) rfl rfl (pv_ext (v := (.bool (dec (MakeOK (fvs hs22) nm23)))) rfl rfl rfl) ?_)
    refine rw_cons (op_pv (w0 rfl) rfl rfl (pv_assign (v := (.slice A40 hs42.length c41)) rfl rfl) ?_)
    refine rw_cons (op_pv (w0 rfl) rfl rfl (pv_assign (v := (.bool (dec (MakeOK (fvs hs22) nm23)))) rfl rfl) ?_)
    refine rw_nil (hK37 _ _ ?_)
    refine hK35 _ _ ?_
    refine cw_seq fun K52 hK53 => ?_
    refine cw_region fun K54 hK55 => ?_
    refine rw_cons (op_pv (w0 rfl) rfl rfl (pv_move (v := (.slice A24 hs22.length c25)) rfl rfl) ?_)
    refine rw_cons (op_pv (w0 rfl) rfl rfl (pv_move (v := (.string nm23)) rfl rfl) ?_)
    refine rw_cons (op_call (w0 rfl) rfl rfl (rc_call C28 rfl rfl) (FileMake_s _ hs22.length _ hs22 nm23 _ (hO26.rs (fun _ => rfl)) (hD29.any (by omega)) (by first | assumption | exact SzOK.nil) (by omega) (by omega) (by omega)) ?_)
    rintro _ w56 ⟨A58, c59, hs60, rfl, hO61, hDO62, hfe63, hZ64, hch57⟩
    have hsz65 := hch57.size
    replace hR0 := hR0.ch0 hch57
    replace hO26 := hO26.ch0 hch57
    replace hD29 := hD29.ch0 hch57
    replace hO43 := hO43.ch0 hch57
    replace hDO44 := hDO44.ch0 hch57
    replace hc := hc.step0 hch57
    have hub66 := hO61.lt
    have hcap67 : hs60.length ≤ c59 := by obtain ⟨_, _, hv, h1, _⟩ := hO61.form; injection hv with _ _ h3; omega
    have hfl68 : hs60.length = (makeV (fvs hs22) nm23).length := by rw [← hfe63, fvs_len]
    try simp only [fvs_len, List.length_take, List.length_drop] at hfl68
    have hnt69 := makeV_le (fvs hs22) nm23
    refine rw_cons (op_pv (w0 rfl) rfl rfl (pv_move (v := (.tuple #[(.slice A58 hs60.length c59), (.bool (dec (MakeOK (fvs hs22) nm23)))])) rfl rfl) ?_)
    refine rw_cons (op_pv (w0 rfl) rfl rfl (pv_ext (v := (.slice A58 hs60.length c59)) rfl rfl rfl) ?_)
    refine rw_cons (op_pv (w0 rfl) rfl rfl (pv_ext (v := (.bool (dec (MakeOK (fvs hs22) nm23)))) rfl rfl rfl) ?_)
    refine rw_cons (op_pv (w0 rfl) rfl rfl (pv_assign (v := (.slice A58 hs60.length c59)) rfl rfl) ?_)
    refine rw_cons (op_pv (w0 rfl) rfl rfl (pv_assign (v := (.bool (dec (MakeOK (fvs hs22) nm23)))) rfl rfl) ?_)
    refine rw_nil (hK55 _ _ ?_)
    refine hK53 _ _ ?_
    refine cw_seq fun K70 hK71 => ?_
    refine cw_seq fun K72 hK73 => ?_
    refine cw_region fun K74 hK75 => ?_
    refine rw_cons (op_pv (w0 rfl) rfl rfl (pv_move (v := (.bool (dec (MakeOK (fvs hs22) nm23)))) rfl rfl) ?_)
    refine rw_cons (op_pv (w0 rfl) rfl rfl (pv_move (v := (.bool (dec (MakeOK (fvs hs22) nm23)))) rfl rfl) ?_)
    refine rw_cons (op_pv (w0 rfl) rfl rfl (pv_neBs Try.underlying4 rfl rfl rfl) ?_)
    refine rw_cons (op_pv (w0 rfl) rfl rfl (pv_move (v := (.bool false)) rfl rfl) ?_)
    refine rw_cons (op_pv (w1y rfl rfl rfl rfl) rfl rfl (pv_move (v := (.slice A40 hs42.length c41)) rfl rfl) ?_)
    refine rw_cons (op_pv (w1y rfl rfl rfl rfl) rfl rfl (pv_move (v := (.slice A58 hs60.length c59)) rfl rfl) ?_)
    refine rw_cons (op_call (w1y rfl rfl rfl rfl) rfl rfl (rc_call C40 rfl rfl) (sameFiles_ok _ hs42.length _ hs42 _ hs60.length _ hs60 _ (hO43.rs (fun _ => rfl)) (hDO44.any (by omega)) (by first | assumption | exact SzOK.nil) (by omega) (hO61.rs (fun _ => rfl)) (hDO62.any (by omega)) (by first | assumption | exact SzOK.nil) (by omega)) ?_)
    rintro _ w76 ⟨rfl, hch77⟩
    try rw [hfe45]
    try rw [hfe63]
    have hsz78 := hch77.size
    replace hR0 := hR0.ch0 hch77
    replace hO26 := hO26.ch0 hch77
    replace hD29 := hD29.ch0 hch77
    replace hO43 := hO43.ch0 hch77
    replace hDO44 := hDO44.ch0 hch77
    replace hO61 := hO61.ch0 hch77
    replace hDO62 := hDO62.ch0 hch77
    replace hc := hc.step0 hch77
    refine rw_cons (op_pv (w1y rfl rfl rfl rfl) rfl rfl (pv_not rfl rfl) ?_)
    refine rw_cons (op_pv (w0 rfl) rfl rfl (pv_pickF (v := (.bool (!(dec (makeV (fvs hs22) nm23 = makeV (fvs hs22) nm23))))) rfl rfl rfl) ?_)
    refine rw_cons (op_pv (w0 rfl) rfl rfl (pv_move (v := (.bool (!(dec (makeV (fvs hs22) nm23 = makeV (fvs hs22) nm23))))) rfl rfl) ?_)
    refine rw_split 41 rfl (fun hb79 => ?_) (fun hb79 => ?_)
    · -- yes
      replace hb79 := not_t hb79
      replace hb79 := dec_f hb79
      refine rw_cons (op_pass (w1n2 rfl rfl rfl rfl) rfl rfl ?_)
      refine rw_cons (op_pass (w1n2 rfl rfl rfl rfl) rfl rfl ?_)
      refine rw_cons (op_pv (w0 rfl) rfl rfl (pv_pickT (v := (.bool true)) rfl rfl rfl) ?_)
      refine rw_nil (hK75 _ _ ?_)
      refine hK73 _ _ ?_
      refine cw_cond rfl (fun h80 => ?_) (fun h80 => ?_)
      · -- then
        clear h80
        refine cw_seq fun K81 hK82 => ?_
        refine cw_region fun K83 hK84 => ?_
        refine rw_cons (op_pv (w0 rfl) rfl rfl (pv_move (v := (.bool (dec (MakeOK (fvs hs22) nm23)))) rfl rfl) ?_)
        refine rw_cons (op_pv (w0 rfl) rfl rfl (pv_move (v := (.bool (dec (MakeOK (fvs hs22) nm23)))) rfl rfl) ?_)
        refine rw_cons (op_pv (w0 rfl) rfl rfl (pv_eqBs Try.underlying4 rfl rfl rfl) ?_)
        refine rw_cons (op_pv (w0 rfl) rfl rfl (pv_move (v := (.bool true)) rfl rfl) ?_)
        refine rw_cons (op_pv (w1y rfl rfl rfl rfl) rfl rfl (pv_move (v := (.slice A40 hs42.length c41)) rfl rfl) ?_)
        refine rw_cons (op_pv (w1y rfl rfl rfl rfl) rfl rfl (pv_move (v := (.slice A58 hs60.length c59)) rfl rfl) ?_)
        refine rw_cons (op_call (w1y rfl rfl rfl rfl) rfl rfl (rc_call C40 rfl rfl) (sameFiles_ok _ hs42.length _ hs42 _ hs60.length _ hs60 _ (hO43.rs (fun _ => rfl)) (hDO44.any (by omega)) (by first | assumption | exact SzOK.nil) (by omega) (hO61.rs (fun _ => rfl)) (hDO62.any (by omega)) (by first | assumption | exact SzOK.nil) (by omega)) ?_)
        rintro _ w85 ⟨rfl, hch86⟩
        try rw [hfe45]
        try rw [hfe63]
        have hsz87 := hch86.size
        replace hR0 := hR0.ch0 hch86
        replace hO26 := hO26.ch0 hch86
        replace hD29 := hD29.ch0 hch86
        replace hO43 := hO43.ch0 hch86
        replace hDO44 := hDO44.ch0 hch86
        replace hO61 := hO61.ch0 hch86
        replace hDO62 := hDO62.ch0 hch86
        replace hc := hc.step0 hch86
        refine rw_cons (op_pv (w0 rfl) rfl rfl (pv_pickT (v := (.bool (dec (makeV (fvs hs22) nm23 = makeV (fvs hs22) nm23)))) rfl rfl rfl) ?_)
        refine rw_cons (op_pv (w0 rfl) rfl rfl (pv_assign (v := (.bool (dec (makeV (fvs hs22) nm23 = makeV (fvs hs22) nm23)))) rfl rfl) ?_)
        refine rw_nil (hK84 _ _ ?_)
        refine hK82 _ _ ?_
        refine cw_ret ?_
        refine fin1 rfl ?_
        first
          | exact ⟨rfl, hc⟩
          | exact absurd rfl (by assumption)
          | exact ⟨congrArg Value.bool (dec_yes rfl), hc⟩
          | exact ⟨congrArg Value.bool (beq_self_eq_true _), hc⟩
          | exact ⟨congrArg Value.bool (decide_eq_true rfl), hc⟩
      · -- else
        cases h80
    · -- no
      replace hb79 := not_f hb79
      replace hb79 := dec_t hb79
      refine rw_cons (op_pv (w1y rfl rfl rfl rfl) rfl rfl (pv_move (v := (.bool (dec (MakeOK (fvs hs22) nm23)))) rfl rfl) ?_)
      refine rw_cons (op_pv (w1y rfl rfl rfl rfl) rfl rfl (pv_not rfl rfl) ?_)
      refine rw_cons (op_pv (w0 rfl) rfl rfl (pv_pickF (v := (.bool (!(dec (MakeOK (fvs hs22) nm23))))) rfl rfl rfl) ?_)
      refine rw_nil (hK75 _ _ ?_)
      refine hK73 _ _ ?_
      refine cw_cond rfl (fun h88 => ?_) (fun h88 => ?_)
      · -- then
        replace h88 := not_t h88
        replace h88 := dec_f h88
        refine cw_seq fun K89 hK90 => ?_
        refine cw_region fun K91 hK92 => ?_
        refine rw_cons (op_pv (w0 rfl) rfl rfl (pv_move (v := (.bool (dec (MakeOK (fvs hs22) nm23)))) rfl rfl) ?_)
        refine rw_cons (op_pv (w0 rfl) rfl rfl (pv_move (v := (.bool (dec (MakeOK (fvs hs22) nm23)))) rfl rfl) ?_)
        refine rw_cons (op_pv (w0 rfl) rfl rfl (pv_eqBs Try.underlying4 rfl rfl rfl) ?_)
        refine rw_cons (op_pv (w0 rfl) rfl rfl (pv_move (v := (.bool true)) rfl rfl) ?_)
        refine rw_cons (op_pv (w1y rfl rfl rfl rfl) rfl rfl (pv_move (v := (.slice A40 hs42.length c41)) rfl rfl) ?_)
        refine rw_cons (op_pv (w1y rfl rfl rfl rfl) rfl rfl (pv_move (v := (.slice A58 hs60.length c59)) rfl rfl) ?_)
        refine rw_cons (op_call (w1y rfl rfl rfl rfl) rfl rfl (rc_call C40 rfl rfl) (sameFiles_ok _ hs42.length _ hs42 _ hs60.length _ hs60 _ (hO43.rs (fun _ => rfl)) (hDO44.any (by omega)) (by first | assumption | exact SzOK.nil) (by omega) (hO61.rs (fun _ => rfl)) (hDO62.any (by omega)) (by first | assumption | exact SzOK.nil) (by omega)) ?_)
        rintro _ w93 ⟨rfl, hch94⟩
        try rw [hfe45]
        try rw [hfe63]
        have hsz95 := hch94.size
        replace hR0 := hR0.ch0 hch94
        replace hO26 := hO26.ch0 hch94
        replace hD29 := hD29.ch0 hch94
        replace hO43 := hO43.ch0 hch94
        replace hDO44 := hDO44.ch0 hch94
        replace hO61 := hO61.ch0 hch94
        replace hDO62 := hDO62.ch0 hch94
        replace hc := hc.step0 hch94
        refine rw_cons (op_pv (w0 rfl) rfl rfl (pv_pickT (v := (.bool (dec (makeV (fvs hs22) nm23 = makeV (fvs hs22) nm23)))) rfl rfl rfl) ?_)
        refine rw_cons (op_pv (w0 rfl) rfl rfl (pv_assign (v := (.bool (dec (makeV (fvs hs22) nm23 = makeV (fvs hs22) nm23)))) rfl rfl) ?_)
        refine rw_nil (hK92 _ _ ?_)
        refine hK90 _ _ ?_
        refine cw_ret ?_
        refine fin1 rfl ?_
        first
          | exact ⟨rfl, hc⟩
          | exact absurd rfl (by assumption)
          | exact ⟨congrArg Value.bool (dec_yes rfl), hc⟩
          | exact ⟨congrArg Value.bool (beq_self_eq_true _), hc⟩
          | exact ⟨congrArg Value.bool (decide_eq_true rfl), hc⟩
      · -- else
        replace h88 := not_f h88
        replace h88 := dec_t h88
        refine cw_skip ?_
        refine hK71 _ _ ?_
        refine cw_seq fun K96 hK97 => ?_
        have hok : MakeOK (fvs hs22) nm23 := by assumption
        have hfok := hok.1
        obtain ⟨p, hp, hv, hpl⟩ := make_at hok
        have hml := make_len hok
        have hxl := fvs_len hs22
        have hx8 := hfok.len
        refine cw_region fun K98 hK99 => ?_
        refine rw_cons (op_bslice [] Try.underlying24 T48 (w0 rfl) rfl rfl rfl rfl rfl (by simp [Value.cells]) (by decide) ?_)
        intro g101 w100 hg104 hg105 hK103 hch102
        have hO106 : Own encF 2 w100 w76.heap.size 48 (.slice (some ⟨g101, 0, none⟩) 0 0) ([] : List Fl) := Blk.own (xs := ([] : List Fl)) hK103 (by omega) rfl (by decide) rfl
        have hsz107 := hch102.size
        replace hR0 := hR0.ch0 hch102
        replace hO26 := hO26.ch0 hch102
        replace hD29 := hD29.ch0 hch102
        replace hO43 := hO43.ch0 hch102
        replace hDO44 := hDO44.ch0 hch102
        replace hO61 := hO61.ch0 hch102
        replace hDO62 := hDO62.ch0 hch102
        replace hc := hc.step0 hch102
        have hub108 := hO106.lt
        refine rw_cons (op_pv (w0 rfl) rfl rfl (pv_assign (v := (.slice (some ⟨g101, 0, none⟩) 0 0)) rfl rfl) ?_)
        refine rw_nil (hK99 _ _ ?_)
        refine hK97 _ _ ?_
        refine cw_seq fun K109 hK110 => ?_
        refine cw_region fun K111 hK112 => ?_
        refine rw_cons (op_pv (w0 rfl) rfl rfl (pv_assign (v := (.bool false)) rfl rfl) ?_)
        refine rw_nil (hK112 _ _ ?_)
        refine hK110 _ _ ?_
        refine cw_seq fun K113 hK114 => ?_
        refine cw_seq fun K115 hK116 => ?_
        refine cw_region fun K117 hK118 => ?_
        refine rw_cons (op_pv (w0 rfl) rfl rfl (pv_assign (v := (.int .i64 0)) rfl rfl) ?_)
        refine rw_nil (hK118 _ _ ?_)
        refine hK116 _ _ ?_
        refine cw_block ?_
        refine cw_loop (σ := Nat × Bool × (Option Addr) × Nat × (List Fl)) (fun ⟨i, b, Ao, co, ys⟩ => [(9, (.slice Ao ys.length co)), (10, (.bool b)), (11, (.int .i64 (i : Int))), (2, (.bool false)), (3, (.slice A24 hs22.length c25)), (4, (.string nm23)), (5, (.slice A40 hs42.length c41))]) (fun ⟨i, b, Ao, co, ys⟩ W => (i ≤ hs42.length ∧ b = decide (p < i) ∧ fvs ys = (fvs hs22).take (cutAt p i) ∧ SzOK ys ∧ ys.length ≤ i) ∧ RS encU 1 W w.heap.size A0 n0 xs0 ∧ Own encF 2 W w.heap.size 48 (.slice A24 hs22.length c25) hs22 ∧ DX w.heap.size w20.heap.size ([]) W hs22 ∧ Own encF 2 W w20.heap.size 48 (.slice A40 hs42.length c41) hs42 ∧ DOw w20.heap.size w38.heap.size (obl (.slice A40 hs42.length c41)) 3 W hs42 ∧ Own encF 2 W w38.heap.size 48 (.slice A58 hs60.length c59) hs60 ∧ DX w38.heap.size w56.heap.size ([]) W hs60 ∧ Own encF 2 W w76.heap.size 48 (.slice Ao ys.length co) ys ∧ DXo 0 (obl (.slice Ao ys.length co)) W ys ∧ Ch [] w W ∧ w20.heap.size ≤ W.heap.size ∧ w38.heap.size ≤ W.heap.size ∧ w56.heap.size ≤ W.heap.size ∧ w76.heap.size ≤ W.heap.size ∧ (∀ s ∈ obl (.slice A24 hs22.length c25), s ∉ obl (.slice Ao ys.length co)) ∧ (∀ s ∈ obl (.slice A40 hs42.length c41), s ∉ obl (.slice Ao ys.length co)) ∧ (∀ s ∈ obl (.slice A58 hs60.length c59), s ∉ obl (.slice Ao ys.length co))) (fun ⟨i, b, Ao, co, ys⟩ => hs42.length - i) (0, false, (some ⟨g101, 0, none⟩), 0, []) ?_ ?_ ?_
        · exact ⟨rfl, rfl, rfl, rfl, rfl, rfl, rfl, trivial⟩
        · refine ⟨⟨Nat.zero_le _, by rw [decide_eq_false (by omega)], by simp [cutAt, fvs], SzOK.nil, by simp⟩, hR0, hO26, hD29, hO43, hDO44, hO61, hDO62, hO106.less (by omega), ⟨0, by omega, DX.nil⟩, hc, (by omega), (by omega), (by omega), (by omega), (fun s hs hs2 => by first | (have h1 := hO26.off s hs; have h2 := hub48 s hs2; omega) | (have h1 := hO26.off s hs; have h2 := hub66 s hs2; omega) | (have h1 := hO26.off s hs; have h2 := hub108 s hs2; omega) | (have h1 := hO43.off s hs; have h2 := hub27 s hs2; omega) | (have h1 := hO43.off s hs; have h2 := hub66 s hs2; omega) | (have h1 := hO43.off s hs; have h2 := hub108 s hs2; omega) | (have h1 := hO61.off s hs; have h2 := hub27 s hs2; omega) | (have h1 := hO61.off s hs; have h2 := hub48 s hs2; omega) | (have h1 := hO61.off s hs; have h2 := hub108 s hs2; omega) | (have h1 := hO106.off s hs; have h2 := hub27 s hs2; omega) | (have h1 := hO106.off s hs; have h2 := hub48 s hs2; omega) | (have h1 := hO106.off s hs; have h2 := hub66 s hs2; omega) | (have h1 := hub27 s hs; have h2 := hO43.off s hs2; omega) | (have h1 := hub27 s hs; have h2 := hO61.off s hs2; omega) | (have h1 := hub27 s hs; have h2 := hO106.off s hs2; omega) | (have h1 := hub48 s hs; have h2 := hO26.off s hs2; omega) | (have h1 := hub48 s hs; have h2 := hO61.off s hs2; omega) | (have h1 := hub48 s hs; have h2 := hO106.off s hs2; omega) | (have h1 := hub66 s hs; have h2 := hO26.off s hs2; omega) | (have h1 := hub66 s hs; have h2 := hO43.off s hs2; omega) | (have h1 := hub66 s hs; have h2 := hO106.off s hs2; omega) | (have h1 := hub108 s hs; have h2 := hO26.off s hs2; omega) | (have h1 := hub108 s hs; have h2 := hO43.off s hs2; omega) | (have h1 := hub108 s hs; have h2 := hO61.off s hs2; omega) | (simp [obl, Value.ownBlock] at hs; done) | (simp [obl, Value.ownBlock] at hs2; done)), (fun s hs hs2 => by first | (have h1 := hO26.off s hs; have h2 := hub48 s hs2; omega) | (have h1 := hO26.off s hs; have h2 := hub66 s hs2; omega) | (have h1 := hO26.off s hs; have h2 := hub108 s hs2; omega) | (have h1 := hO43.off s hs; have h2 := hub27 s hs2; omega) | (have h1 := hO43.off s hs; have h2 := hub66 s hs2; omega) | (have h1 := hO43.off s hs; have h2 := hub108 s hs2; omega) | (have h1 := hO61.off s hs; have h2 := hub27 s hs2; omega) | (have h1 := hO61.off s hs; have h2 := hub48 s hs2; omega) | (have h1 := hO61.off s hs; have h2 := hub108 s hs2; omega) | (have h1 := hO106.off s hs; have h2 := hub27 s hs2; omega) | (have h1 := hO106.off s hs; have h2 := hub48 s hs2; omega) | (have h1 := hO106.off s hs; have h2 := hub66 s hs2; omega) | (have h1 := hub27 s hs; have h2 := hO43.off s hs2; omega) | (have h1 := hub27 s hs; have h2 := hO61.off s hs2; omega) | (have h1 := hub27 s hs; have h2 := hO106.off s hs2; omega) | (have h1 := hub48 s hs; have h2 := hO26.off s hs2; omega) | (have h1 := hub48 s hs; have h2 := hO61.off s hs2; omega) | (have h1 := hub48 s hs; have h2 := hO106.off s hs2; omega) | (have h1 := hub66 s hs; have h2 := hO26.off s hs2; omega) | (have h1 := hub66 s hs; have h2 := hO43.off s hs2; omega) | (have h1 := hub66 s hs; have h2 := hO106.off s hs2; omega) | (have h1 := hub108 s hs; have h2 := hO26.off s hs2; omega) | (have h1 := hub108 s hs; have h2 := hO43.off s hs2; omega) | (have h1 := hub108 s hs; have h2 := hO61.off s hs2; omega) | (simp [obl, Value.ownBlock] at hs; done) | (simp [obl, Value.ownBlock] at hs2; done)), (fun s hs hs2 => by first | (have h1 := hO26.off s hs; have h2 := hub48 s hs2; omega) | (have h1 := hO26.off s hs; have h2 := hub66 s hs2; omega) | (have h1 := hO26.off s hs; have h2 := hub108 s hs2; omega) | (have h1 := hO43.off s hs; have h2 := hub27 s hs2; omega) | (have h1 := hO43.off s hs; have h2 := hub66 s hs2; omega) | (have h1 := hO43.off s hs; have h2 := hub108 s hs2; omega) | (have h1 := hO61.off s hs; have h2 := hub27 s hs2; omega) | (have h1 := hO61.off s hs; have h2 := hub48 s hs2; omega) | (have h1 := hO61.off s hs; have h2 := hub108 s hs2; omega) | (have h1 := hO106.off s hs; have h2 := hub27 s hs2; omega) | (have h1 := hO106.off s hs; have h2 := hub48 s hs2; omega) | (have h1 := hO106.off s hs; have h2 := hub66 s hs2; omega) | (have h1 := hub27 s hs; have h2 := hO43.off s hs2; omega) | (have h1 := hub27 s hs; have h2 := hO61.off s hs2; omega) | (have h1 := hub27 s hs; have h2 := hO106.off s hs2; omega) | (have h1 := hub48 s hs; have h2 := hO26.off s hs2; omega) | (have h1 := hub48 s hs; have h2 := hO61.off s hs2; omega) | (have h1 := hub48 s hs; have h2 := hO106.off s hs2; omega) | (have h1 := hub66 s hs; have h2 := hO26.off s hs2; omega) | (have h1 := hub66 s hs; have h2 := hO43.off s hs2; omega) | (have h1 := hub66 s hs; have h2 := hO106.off s hs2; omega) | (have h1 := hub108 s hs; have h2 := hO26.off s hs2; omega) | (have h1 := hub108 s hs; have h2 := hO43.off s hs2; omega) | (have h1 := hub108 s hs; have h2 := hO61.off s hs2; omega) | (simp [obl, Value.ownBlock] at hs; done) | (simp [obl, Value.ownBlock] at hs2; done))⟩
        · rintro ⟨i, b, Ao, co, ys⟩ J130 w119 ⟨⟨hi, hb, hyv, hZy, hyl⟩, hR0, hO26, hD29, hO43, hDO44, hO61, hDO62, hO106, hDr, hc, hmono120, hmono121, hmono122, hmono123, hdj124, hdj125, hdj126⟩ K127 hK128
          have hsz132 := hc.size
          obtain ⟨B1_133, hB1134, hDr⟩ := hDr
          have hub135 := hO26.lt
          have hub136 := hO43.lt
          have hub137 := hO61.lt
          have hubOut := hO106.lt
          refine cw_seq fun K138 hK139 => ?_
          refine cw_seq fun K140 hK141 => ?_
          refine cw_region fun K142 hK143 => ?_
          refine rw_cons (op_pv (w0 rfl) rfl rfl (pv_move (v := (.int .i64 (i : Int))) rfl rfl) ?_)
          refine rw_cons (op_pv (w0 rfl) rfl rfl (pv_move (v := (.slice A40 hs42.length c41)) rfl rfl) ?_)
          refine rw_cons (op_pv (w0 rfl) rfl rfl (pv_len Try.underlying24 rfl rfl) ?_)
          refine rw_cons (op_pv (w0 rfl) rfl rfl (pv_lss rfl rfl rfl) ?_)
          refine rw_nil (hK143 _ _ ?_)
          refine hK141 _ _ ?_
          refine cw_cond rfl (fun h144 => ?_) (fun h144 => ?_)
          · -- then
            replace h144 := of_decide_eq_true h144
            refine cw_skip ?_
            refine hK139 _ _ ?_
            refine cw_seq fun K145 hK146 => ?_
            refine cw_block ?_
            refine cw_seq fun K147 hK148 => ?_
            have hzk := ‹SzOK hs42› i (by omega)
            obtain ⟨mr1, mr2, mr3⟩ := make_rest hok hp hv hfe45 (i := i) (by omega)
            have hgn := (hDO44.rs (k := i) (by omega)).len
            refine cw_region fun K149 hK150 => ?_
            refine rw_cons (op_pv (w0 rfl) rfl rfl (pv_move (v := (.slice A40 hs42.length c41)) rfl rfl) ?_)
            refine rw_cons (op_pv (w0 rfl) rfl rfl (pv_move (v := (.int .i64 (i : Int))) rfl rfl) ?_)
            refine rw_cons (op_pv (w0 rfl) rfl rfl (pv_idx Try.underlying24 T48 rfl rfl rfl ((hO43.rs (fun _ => rfl)).some (k := i) (by omega)) (by omega) (by omega)) ?_)
            refine rw_cons (op_pv (w0 rfl) rfl rfl (pv_fld F48_0 rfl rfl) ?_)
            have hR151 : RS encI 1 w119 w38.heap.size (el hs42 i).A (el hs42 i).n (el hs42 i).ps := hDO44.rs (k := i) (by omega)
            have hln152 := hR151.len
            refine rw_cons (op_lv (w0 rfl) rfl rfl (lv_load T9 rfl rfl ((hO43.rs (fun _ => rfl)).cellE (k := i) (j := 0) (by omega) rfl)) ?_)
            refine rw_cons (op_pv (w0 rfl) rfl rfl (pv_move (v := (.string nm23)) rfl rfl) ?_)
            refine rw_cons (op_pv (w0 rfl) rfl rfl (pv_eqS rfl rfl rfl) ?_)
            refine rw_nil (hK150 _ _ ?_)
            refine hK148 _ _ ?_
            refine cw_cond rfl (fun h153 => ?_) (fun h153 => ?_)
            · -- then
              replace h153 := of_decide_eq_true h153
              refine cw_region fun K154 hK155 => ?_
              refine rw_cons (op_pv (w0 rfl) rfl rfl (pv_move (v := (.slice A40 hs42.length c41)) rfl rfl) ?_)
              refine rw_cons (op_pv (w0 rfl) rfl rfl (pv_move (v := (.int .i64 (i : Int))) rfl rfl) ?_)
              refine rw_cons (op_pv (w0 rfl) rfl rfl (pv_idx Try.underlying24 T48 rfl rfl rfl ((hO43.rs (fun _ => rfl)).some (k := i) (by omega)) (by omega) (by omega)) ?_)
              refine rw_cons (op_pv (w0 rfl) rfl rfl (pv_fld F48_1 rfl rfl) ?_)
              have hR156 : RS encI 1 w119 w38.heap.size (el hs42 i).A (el hs42 i).n (el hs42 i).ps := hDO44.rs (k := i) (by omega)
              have hln157 := hR156.len
              refine rw_cons (op_lv (w0 rfl) rfl rfl (lv_load T25 rfl rfl ((hO43.rs (fun _ => rfl)).cellE (k := i) (j := 1) (by omega) rfl)) ?_)
              refine rw_cons (op_pv (w0 rfl) rfl rfl (pv_len Try.underlying25 rfl rfl) ?_)
              refine rw_cons (op_pv (w0 rfl) rfl rfl (pv_eql rfl rfl rfl) ?_)
              refine rw_cons (op_pv (w0 rfl) rfl rfl (pv_assign (v := (.bool (decide ((((el hs42 i).n : Int) : Int) = 0)))) rfl rfl) ?_)
              refine rw_nil (hK155 _ _ ?_)
              refine hK146 _ _ ?_
              refine cw_region fun K158 hK159 => ?_
              refine rw_cons (op_pv (w0 rfl) rfl rfl (pv_move (v := (.int .i64 (i : Int))) rfl rfl) ?_)
              refine rw_cons (op_pv (w0 rfl) rfl rfl (pv_add rfl rfl rfl (by omega) (by omega)) ?_)
              refine rw_cons (op_pv (w0 rfl) rfl rfl (pv_assign (v := (.int .i64 ((i : Int) + 1))) rfl rfl) ?_)
              refine rw_nil (hK159 _ _ ?_)
              have hD9 : DXo 0 (obl (.slice Ao ys.length co)) w119 ys := ⟨w119.heap.size, Nat.le_refl _, hDr.more (by omega)⟩
              refine hK128 _ _ (i + 1, decide ((((el hs42 i).n : Int) : Int) = 0), Ao, co, ys) ⟨rfl, rfl, (iv (by omega)), rfl, rfl, rfl, rfl, trivial⟩ ⟨?_, hR0, hO26, hD29, hO43, hDO44, hO61, hDO62, hO106, hD9, hc, (by omega), (by omega), (by omega), (by omega), (dj_as hdj124), (dj_as hdj125), (dj_as hdj126)⟩ ?_
              · have hip := mr1.1 (by assumption)
                have hn0 := congrArg List.length (mr2 hip)
                simp only [List.length_nil] at hn0
                exact ⟨by omega, by rw [decide_eq_true (by omega), decide_eq_true (by omega)], by rw [hyv, hip, cut_at], hZy, by omega⟩
              · (first | omega | (simp only []; omega))
            · -- else
              replace h153 := of_decide_eq_false h153
              refine cw_region fun K160 hK161 => ?_
              refine rw_cons (op_pv (w0 rfl) rfl rfl (pv_move (v := (.slice Ao ys.length co)) rfl rfl) ?_)
              refine rw_cons (op_pv (w0 rfl) rfl rfl (pv_move (v := (.slice A40 hs42.length c41)) rfl rfl) ?_)
              refine rw_cons (op_pv (w0 rfl) rfl rfl (pv_move (v := (.int .i64 (i : Int))) rfl rfl) ?_)
              refine rw_cons (op_pv (w0 rfl) rfl rfl (pv_idx Try.underlying24 T48 rfl rfl rfl ((hO43.rs (fun _ => rfl)).some (k := i) (by omega)) (by omega) (by omega)) ?_)
              have hR162 : RS encI 1 w119 w38.heap.size (el hs42 i).A (el hs42 i).n (el hs42 i).ps := hDO44.rs (k := i) (by omega)
              have hln163 := hR162.len
              refine rw_cons (op_lv (w0 rfl) rfl rfl (lv_loadN T48 rfl rfl rfl (fun j v hv => (hO43.rs (fun _ => rfl)).cellE (k := i) (by omega) hv)) ?_)
              refine rw_cons (op_bslice [(.agg #[(.string (el hs42 i).nm), (.slice (el hs42 i).A (el hs42 i).n (el hs42 i).c)])] Try.underlying24 T48 (w0 rfl) rfl rfl rfl rfl rfl (by simp [Value.cells]) (by decide) ?_)
              intro g165 w164 hg168 hg169 hK167 hch166
              have hO170 : Own encF 2 w164 w119.heap.size 48 (.slice (some ⟨g165, 0, none⟩) 1 1) ([⟨(el hs42 i).nm, (el hs42 i).A, (el hs42 i).n, (el hs42 i).c, (el hs42 i).ps⟩] : List Fl) := Blk.own (xs := ([⟨(el hs42 i).nm, (el hs42 i).A, (el hs42 i).n, (el hs42 i).c, (el hs42 i).ps⟩] : List Fl)) hK167 (by omega) rfl (by decide) rfl
              have hsz171 := hch166.size
              replace hR0 := hR0.ch0 hch166
              replace hO26 := hO26.ch0 hch166
              replace hD29 := hD29.ch0 hch166
              replace hO43 := hO43.ch0 hch166
              replace hDO44 := hDO44.ch0 hch166
              replace hO61 := hO61.ch0 hch166
              replace hDO62 := hDO62.ch0 hch166
              replace hO106 := hO106.ch0 hch166
              replace hDr := hDr.ch0 hch166
              replace hR151 := hR151.ch0 hch166
              replace hR162 := hR162.ch0 hch166
              replace hc := hc.step0 hch166
              have hub172 := hO170.lt
              refine rw_cons (op_append Try.underlying24 T48 (fun _ => rfl) rfl (by decide) (fun _ => one_all rfl) (w0 rfl) rfl rfl rfl rfl rfl hO106 (hO170.rs (fun _ => rfl)) (by unfold maxLen; first | omega | (simp; omega)) (by first | omega | (simp; omega)) (by omega) ?_)
              rintro v173 w174 hO175 hch176 hs177
              have hl178 : (ys ++ ([⟨(el hs42 i).nm, (el hs42 i).A, (el hs42 i).n, (el hs42 i).c, (el hs42 i).ps⟩] : List Fl)).length = ys.length + 1 := by first | (have hl0 := (hO170.rs (fun _ => rfl)).len; omega) | (have hl0 := (hO170.rs (fun _ => rfl)).len; simp only [List.length_append, List.length_cons, List.length_nil] at hl0 ⊢; omega) | (simp; omega; done) | simp | rfl
              clear hO170
              have hsz182 := hch176.size
              replace hR0 := hR0.ch hch176 (hO106.off.le (by omega))
              replace hO26 := hO26.ch hch176 (dj_as hdj124)
              replace hD29 := hD29.ch hch176 (fun s hs => by first | exact .inr (.inl hs) | exact .inr (.inl (obl_any hs)) | exact .inr (.inr (Nat.le_trans (by omega) (hO106.off s hs))) | exact .inl (Nat.lt_of_lt_of_le (hubOut s hs) (by omega)))
              replace hO43 := hO43.ch hch176 (dj_as hdj125)
              replace hDO44 := hDO44.ch hch176 (fun s hs => by first | exact .inr (.inl hs) | exact .inr (.inl (obl_any hs)) | exact .inr (.inr (Nat.le_trans (by omega) (hO106.off s hs))) | exact .inl (Nat.lt_of_lt_of_le (hubOut s hs) (by omega)))
              replace hO61 := hO61.ch hch176 (dj_as hdj126)
              replace hDO62 := hDO62.ch hch176 (fun s hs => by first | exact .inr (.inl hs) | exact .inr (.inl (obl_any hs)) | exact .inr (.inr (Nat.le_trans (by omega) (hO106.off s hs))) | exact .inl (Nat.lt_of_lt_of_le (hubOut s hs) (by omega)))
              replace hDr := hDr.ch hch176 (fun s hs => by first | exact .inr (.inl hs) | exact .inr (.inl (obl_any hs)) | exact .inr (.inr (Nat.le_trans (by omega) (hO106.off s hs))) | exact .inl (Nat.lt_of_lt_of_le (hubOut s hs) (by omega)))
              replace hR151 := hR151.ch hch176 (hO106.off.le (by omega))
              replace hR162 := hR162.ch hch176 (hO106.off.le (by omega))
              replace hc := (hO106.off.le (by omega)).step hc hch176
              have hub183 := hO175.lt
              obtain ⟨A184, c185, hv186, hcap187, hcap188⟩ := hO175.form; subst hv186
              have hdj179 : ∀ s ∈ obl (.slice A184 (ys ++ ([⟨(el hs42 i).nm, (el hs42 i).A, (el hs42 i).n, (el hs42 i).c, (el hs42 i).ps⟩] : List Fl)).length c185), s ∉ obl (.slice A24 hs22.length c25) := dj_new hs177 (dj_sw hdj124) (fun s hs => by have := hub135 s hs; omega)
              have hdj180 : ∀ s ∈ obl (.slice A184 (ys ++ ([⟨(el hs42 i).nm, (el hs42 i).A, (el hs42 i).n, (el hs42 i).c, (el hs42 i).ps⟩] : List Fl)).length c185), s ∉ obl (.slice A40 hs42.length c41) := dj_new hs177 (dj_sw hdj125) (fun s hs => by have := hub136 s hs; omega)
              have hdj181 : ∀ s ∈ obl (.slice A184 (ys ++ ([⟨(el hs42 i).nm, (el hs42 i).A, (el hs42 i).n, (el hs42 i).c, (el hs42 i).ps⟩] : List Fl)).length c185), s ∉ obl (.slice A58 hs60.length c59) := dj_new hs177 (dj_sw hdj126) (fun s hs => by have := hub137 s hs; omega)
              refine rw_cons (op_pv (w0 rfl) rfl rfl (pv_assign (v := (.slice A184 (ys ++ ([⟨(el hs42 i).nm, (el hs42 i).A, (el hs42 i).n, (el hs42 i).c, (el hs42 i).ps⟩] : List Fl)).length c185)) rfl rfl) ?_)
              refine rw_nil (hK161 _ _ ?_)
              refine hK146 _ _ ?_
              refine cw_region fun K189 hK190 => ?_
              refine rw_cons (op_pv (w0 rfl) rfl rfl (pv_move (v := (.int .i64 (i : Int))) rfl rfl) ?_)
              refine rw_cons (op_pv (w0 rfl) rfl rfl (pv_add rfl rfl rfl (by omega) (by omega)) ?_)
              refine rw_cons (op_pv (w0 rfl) rfl rfl (pv_assign (v := (.int .i64 ((i : Int) + 1))) rfl rfl) ?_)
              refine rw_nil (hK190 _ _ ?_)
              have hxo : ∀ s ∈ obl (.slice A184 (ys ++ ([⟨(el hs42 i).nm, (el hs42 i).A, (el hs42 i).n, (el hs42 i).c, (el hs42 i).ps⟩] : List Fl)).length c185), w38.heap.size ≤ s := fun s h => by have := hO175.off s h; omega
              have hD9 : DXo 0 (obl (.slice A184 (ys ++ ([⟨(el hs42 i).nm, (el hs42 i).A, (el hs42 i).n, (el hs42 i).c, (el hs42 i).ps⟩] : List Fl)).length c185)) w174 (ys ++ ([⟨(el hs42 i).nm, (el hs42 i).A, (el hs42 i).n, (el hs42 i).c, (el hs42 i).ps⟩] : List Fl)) := ⟨w174.heap.size, Nat.le_refl _, (hDr.rex (Y := obl (.slice A184 (ys ++ ([⟨(el hs42 i).nm, (el hs42 i).A, (el hs42 i).n, (el hs42 i).c, (el hs42 i).ps⟩] : List Fl)).length c185)) (fun s h => by rcases hs177 s h with h8 | h8; exact .inl h8; right; omega)).snocD hDO44 (k := i) (by omega) (by omega) hxo (by omega) (by omega)⟩
              refine hK128 _ _ (i + 1, b, A184, c185, (ys ++ ([⟨(el hs42 i).nm, (el hs42 i).A, (el hs42 i).n, (el hs42 i).c, (el hs42 i).ps⟩] : List Fl))) ⟨rfl, rfl, (iv (by omega)), rfl, rfl, rfl, rfl, trivial⟩ ⟨?_, hR0, hO26, hD29, hO43, hDO44, hO61, hDO62, hO175, hD9, hc, (by omega), (by omega), (by omega), (by omega), (dj_sw hdj179), (dj_sw hdj180), (dj_sw hdj181)⟩ ?_
              · have hip : i ≠ p := fun h9 => (by assumption : ¬ _ = _) (mr1.2 h9)
                obtain ⟨mr4, mr5⟩ := mr3 hip
                exact ⟨by omega, by rw [hb]; congr 1; exact propext ⟨fun _ => by omega, fun _ => by omega⟩, by rw [cut_on hip]; exact rest_snoc (by rw [fvs_len]; exact mr4) hyv mr5, hZy.app (SzOK.one (by dsimp only; omega) (by dsimp only; omega)), by simp; omega⟩
              · (first | omega | (simp only []; omega))
          · -- else
            replace h144 := of_decide_eq_false h144
            refine cw_exit ?_
            refine hK114 _ _ ?_
            refine cw_seq fun K191 hK192 => ?_
            obtain rfl : b = true := by rw [hb]; exact decide_eq_true (by omega)
            have hrv : fvs ys = fvs hs22 := by rw [hyv]; exact el_take_all _ _ (by unfold cutAt; split <;> omega)
            refine cw_region fun K193 hK194 => ?_
            refine rw_cons (op_pv (w0 rfl) rfl rfl (pv_move (v := (.slice A40 hs42.length c41)) rfl rfl) ?_)
            refine rw_cons (op_call (w0 rfl) rfl rfl (rc_call C31 rfl rfl) (FilesValid_i _ hs42.length _ hs42 _ (hO43.rs (fun _ => rfl)) (hDO44.any (by omega)) (by first | assumption | exact SzOK.nil) (by omega)) ?_)
            rintro _ w195 ⟨rfl, hch196⟩
            try rw [hfe45]
            have hsz197 := hch196.size
            replace hR0 := hR0.ch0 hch196
            replace hO26 := hO26.ch0 hch196
            replace hD29 := hD29.ch0 hch196
            replace hO43 := hO43.ch0 hch196
            replace hDO44 := hDO44.ch0 hch196
            replace hO61 := hO61.ch0 hch196
            replace hDO62 := hDO62.ch0 hch196
            replace hO106 := hO106.ch0 hch196
            replace hDr := hDr.ch0 hch196
            replace hc := hc.step0 hch196
            refine rw_cons (op_pv (w0 rfl) rfl rfl (pv_move (v := (.bool (dec (FOK (makeV (fvs hs22) nm23))))) rfl rfl) ?_)
            refine rw_split 83 rfl (fun hb198 => ?_) (fun hb198 => ?_)
            · -- yes
              replace hb198 := dec_t hb198
              refine rw_cons (op_pv (w1y rfl rfl rfl rfl) rfl rfl (pv_move (v := (.bool true)) rfl rfl) ?_)
              refine rw_cons (op_pv (w0 rfl) rfl rfl (pv_pickT (v := (.bool true)) rfl rfl rfl) ?_)
              refine rw_cons (op_pv (w0 rfl) rfl rfl (pv_move (v := (.bool true)) rfl rfl) ?_)
              refine rw_cons (op_pv (w1y rfl rfl rfl rfl) rfl rfl (pv_move (v := (.slice Ao ys.length co)) rfl rfl) ?_)
              refine rw_cons (op_pv (w1y rfl rfl rfl rfl) rfl rfl (pv_move (v := (.slice A24 hs22.length c25)) rfl rfl) ?_)
              refine rw_cons (op_call (w1y rfl rfl rfl rfl) rfl rfl (rc_call C40 rfl rfl) (sameFiles_ok _ ys.length _ ys _ hs22.length _ hs22 _ (hO106.rs (fun _ => rfl)) (hDr.any (by omega)) (by first | assumption | exact SzOK.nil) (by omega) (hO26.rs (fun _ => rfl)) (hD29.any (by omega)) (by first | assumption | exact SzOK.nil) (by omega)) ?_)
              rintro _ w199 ⟨rfl, hch200⟩
              have hsz201 := hch200.size
              replace hR0 := hR0.ch0 hch200
              replace hO26 := hO26.ch0 hch200
              replace hD29 := hD29.ch0 hch200
              replace hO43 := hO43.ch0 hch200
              replace hDO44 := hDO44.ch0 hch200
              replace hO61 := hO61.ch0 hch200
              replace hDO62 := hDO62.ch0 hch200
              replace hO106 := hO106.ch0 hch200
              replace hDr := hDr.ch0 hch200
              replace hc := hc.step0 hch200
              refine rw_cons (op_pv (w0 rfl) rfl rfl (pv_pickT (v := (.bool (dec (fvs ys = fvs hs22)))) rfl rfl rfl) ?_)
              refine rw_cons (op_pv (w0 rfl) rfl rfl (pv_assign (v := (.bool (dec (fvs ys = fvs hs22)))) rfl rfl) ?_)
              refine rw_nil (hK194 _ _ ?_)
              refine hK192 _ _ ?_
              refine cw_ret ?_
              refine fin1 rfl ?_
              have hmf := make_fok hok
              first
                | exact absurd hmf (by assumption)
                | exact ⟨congrArg Value.bool (dec_yes hrv), hc⟩
                | exact ⟨rfl, hc⟩
            · -- no
              replace hb198 := dec_f hb198
              refine rw_cons (op_pass (w1n1 rfl rfl rfl rfl) rfl rfl ?_)
              refine rw_cons (op_pv (w0 rfl) rfl rfl (pv_pickF (v := (.bool false)) rfl rfl rfl) ?_)
              refine rw_cons (op_pv (w0 rfl) rfl rfl (pv_move (v := (.bool false)) rfl rfl) ?_)
              refine rw_cons (op_pass (w1n1 rfl rfl rfl rfl) rfl rfl ?_)
              refine rw_cons (op_pass (w1n1 rfl rfl rfl rfl) rfl rfl ?_)
              refine rw_cons (op_pass (w1n1 rfl rfl rfl rfl) rfl rfl ?_)
              refine rw_cons (op_pv (w0 rfl) rfl rfl (pv_pickF (v := (.bool false)) rfl rfl rfl) ?_)
              refine rw_cons (op_pv (w0 rfl) rfl rfl (pv_assign (v := (.bool false)) rfl rfl) ?_)
              refine rw_nil (hK194 _ _ ?_)
              refine hK192 _ _ ?_
              refine cw_ret ?_
              refine fin1 rfl ?_
              have hmf := make_fok hok
              first
                | exact absurd hmf (by assumption)
                | exact ⟨congrArg Value.bool (dec_yes hrv), hc⟩
                | exact ⟨rfl, hc⟩
end Go.Proofs.Ythgnlljpjpklpaa
