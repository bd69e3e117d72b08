/-
  The walk of laws.FnFileMakeDrop, written by program: each line names the law of one operation. Conditions: those of the theorem.
-/
import Derived.Test.YthgnlljpjpklpaaProg
import Derived.Test.YthgnlljpjpklpaaDeep
import Derived.Test.YthgnlljpjpklpaaFlaw
import Derived.Test.YthgnlljpjpklpaaFops
import Derived.Test.YthgnlljpjpklpaaFlaw2
import Derived.Test.YthgnlljpjpklpaaFspecDrawFileMake
import Derived.Test.YthgnlljpjpklpaaFimplFileMake
import Derived.Test.YthgnlljpjpklpaaFspecFileMake
import Derived.Test.YthgnlljpjpklpaaFlawssameFiles
import Derived.Test.YthgnlljpjpklpaaFimplFileDrop
import Derived.KernelRfl
namespace Go.Proofs.Ythgnlljpjpklpaa
open Go Go.RowKit
set_option linter.unusedVariables false
set_option linter.unusedSimpArgs false
namespace FnFileMakeDrop_okF
theorem C21 : Callable Try.prog 21 := ⟨_, Try.func21, by kernel_rfl, by kernel_rfl⟩
theorem C28 : Callable Try.prog 28 := ⟨_, Try.func28, by kernel_rfl, by kernel_rfl⟩
theorem C29 : Callable Try.prog 29 := ⟨_, Try.func29, by kernel_rfl, by kernel_rfl⟩
theorem C40 : Callable Try.prog 40 := ⟨_, Try.func40, by kernel_rfl, by kernel_rfl⟩
theorem C42 : Callable Try.prog 42 := ⟨_, Try.func42, by kernel_rfl, by kernel_rfl⟩
end FnFileMakeDrop_okF
open FnFileMakeDrop_okF in
set_option maxHeartbeats 4000000 in
theorem FnFileMakeDrop_ok (A0 : Option Addr) (n0 c0 : Nat) (xs0 : List UInt8) (w : World) (hR0 : RS encU 1 w w.heap.size A0 n0 xs0) (hn0 : n0 ≤ c0) :
    Fn Try.prog 15 [(.slice A0 n0 c0)] w fun v w' => v = .bool true ∧ Ch [] w w' := by
  have hlen0 := hR0.len
  refine fn_of (n := 83) Try.func15 rfl rfl rfl rfl ?_
  have hc : Ch [] w w := Ch.refl _ _
  refine cw_seq fun K1 hK2 => ?_
  refine cw_region fun K3 hK4 => ?_
  refine rw_cons (op_pv (w0 rfl) rfl rfl (pv_assign (v := (.bool false)) rfl rfl) ?_)
  refine rw_nil (hK4 _ _ ?_)
  refine hK2 _ _ ?_
  refine cw_seq fun K5 hK6 => ?_
  refine cw_seq fun K7 hK8 => ?_
  refine cw_region fun K9 hK10 => ?_
  refine rw_cons (op_pv (w0 rfl) rfl rfl (pv_move (v := (.slice A0 n0 c0)) rfl rfl) ?_)
  refine rw_cons (op_pv (w0 rfl) rfl rfl (pv_len Try.underlying36 rfl rfl) ?_)
  refine rw_cons (op_pv (w0 rfl) rfl rfl (pv_gtr rfl rfl rfl) ?_)
  refine rw_nil (hK10 _ _ ?_)
  refine hK8 _ _ ?_
  refine cw_cond rfl (fun h11 => ?_) (fun h11 => ?_)
  · -- then
    replace h11 := of_decide_eq_true h11
    refine cw_seq fun K12 hK13 => ?_
    refine cw_region fun K14 hK15 => ?_
    refine rw_cons (op_pv (w0 rfl) rfl rfl (pv_assign (v := (.bool true)) rfl rfl) ?_)
    refine rw_nil (hK15 _ _ ?_)
    refine hK13 _ _ ?_
    refine cw_ret ?_
    refine fin1 rfl ?_
    exact ⟨rfl, hc⟩
  · -- else
    replace h11 := of_decide_eq_false h11
    refine cw_skip ?_
    refine hK6 _ _ ?_
    refine cw_seq fun K16 hK17 => ?_
    refine cw_region fun K18 hK19 => ?_
    refine rw_cons (op_pv (w0 rfl) rfl rfl (pv_move (v := (.slice A0 n0 c0)) rfl rfl) ?_)
    refine rw_cons (op_call (w0 rfl) rfl rfl (rc_call C42 rfl rfl) (DrawFileMake_ok _ _ _ _ _ (hR0.more (by omega)) (by omega)) ?_)
    rintro _ w20 ⟨A24, c25, hs22, nm23, rfl, hO26, hl28, hD29, hZ30, hsl31, hch21⟩
    have hsz32 := hch21.size
    replace hR0 := hR0.ch0 hch21
    replace hc := hc.step0 hch21
    have hub27 := hO26.lt
    have hcap33 : hs22.length ≤ c25 := by obtain ⟨_, _, hv, h1, _⟩ := hO26.form; injection hv with _ _ h3; omega
    refine rw_cons (op_pv (w0 rfl) rfl rfl (pv_move (v := (.tuple #[(.slice A24 hs22.length c25), (.string nm23)])) rfl rfl) ?_)
    refine rw_cons (op_pv (w0 rfl) rfl rfl (pv_ext (v := (.slice A24 hs22.length c25)) rfl rfl rfl) ?_)
    refine rw_cons (op_pv (w0 rfl) rfl rfl (pv_ext (v := (.string nm23)) rfl rfl rfl) ?_)
    refine rw_cons (op_pv (w0 rfl) rfl rfl (pv_assign (v := (.slice A24 hs22.length c25)) rfl rfl) ?_)
    refine rw_cons (op_pv (w0 rfl) rfl rfl (pv_assign (v := (.string nm23)) rfl rfl) ?_)
    refine rw_nil (hK19 _ _ ?_)
    refine hK17 _ _ ?_
    refine cw_seq fun K34 hK35 => ?_
    refine cw_region fun K36 hK37 => ?_
    refine rw_cons (op_pv (w0 rfl) rfl rfl (pv_move (v := (.slice A24 hs22.length c25)) rfl rfl) ?_)
    refine rw_cons (op_pv (w0 rfl) rfl rfl (pv_move (v := (.string nm23)) rfl rfl) ?_)
    refine rw_cons (op_call (w0 rfl) rfl rfl (rc_call C29 rfl rfl) (FileMake_i _ hs22.length _ hs22 nm23 _ (hO26.rs (fun _ => rfl)) (hD29.any (by omega)) (by first | assumption | exact SzOK.nil) (by omega) (by omega) (by omega)) ?_)
    rintro _ w38 ⟨A40, c41, hs42, rfl, hO43, hDO44, hfe45, hZ46, hch39⟩
    have hsz47 := hch39.size
    replace hR0 := hR0.ch0 hch39
    replace hO26 := hO26.ch0 hch39
    replace hD29 := hD29.ch0 hch39
    replace hc := hc.step0 hch39
    have hub48 := hO43.lt
    have hcap49 : hs42.length ≤ c41 := by obtain ⟨_, _, hv, h1, _⟩ := hO43.form; injection hv with _ _ h3; omega
    have hfl50 : hs42.length = (makeV (fvs hs22) nm23).length := by rw [← hfe45, fvs_len]
    try simp only [fvs_len, List.length_take, List.length_drop] at hfl50
    have hnt51 := makeV_le (fvs hs22) nm23
    refine rw_cons (op_pv (w0 rfl) rfl rfl (pv_move (v := (.tuple #[(.slice A40 hs42.length c41), (.bool (dec (MakeOK (fvs hs22) nm23)))])) rfl rfl) ?_)
    refine rw_cons (op_pv (w0 rfl) rfl rfl (pv_ext (v := (.slice A40 hs42.length c41)) rfl rfl rfl) ?_)
    refine rw_cons (op_pv (w0 rfl) rfl rfl (pv_ext (v := (.bool (dec (MakeOK (fvs hs22) nm23)))) rfl rfl rfl) ?_)
    refine rw_cons (op_pv (w0 rfl) rfl rfl (pv_assign (v := (.slice A40 hs42.length c41)) rfl rfl) ?_)
    refine rw_cons (op_pv (w0 rfl) rfl rfl (pv_assign (v := (.bool (dec (MakeOK (fvs hs22) nm23)))) rfl rfl) ?_)
    refine rw_nil (hK37 _ _ ?_)
    refine hK35 _ _ ?_
    refine cw_seq fun K52 hK53 => ?_
    refine cw_region fun K54 hK55 => ?_
    refine rw_cons (op_pv (w0 rfl) rfl rfl (pv_move (v := (.slice A24 hs22.length c25)) rfl rfl) ?_)
    refine rw_cons (op_pv (w0 rfl) rfl rfl (pv_move (v := (.string nm23)) rfl rfl) ?_)
    refine rw_cons (op_call (w0 rfl) rfl rfl (rc_call C28 rfl rfl) (FileMake_s _ hs22.length _ hs22 nm23 _ (hO26.rs (fun _ => rfl)) (hD29.any (by omega)) (by first | assumption | exact SzOK.nil) (by omega) (by omega) (by omega)) ?_)
    rintro _ w56 ⟨A58, c59, hs60, rfl, hO61, hDO62, hfe63, hZ64, hch57⟩
    have hsz65 := hch57.size
    replace hR0 := hR0.ch0 hch57
    replace hO26 := hO26.ch0 hch57
    replace hD29 := hD29.ch0 hch57
    replace hO43 := hO43.ch0 hch57
    replace hDO44 := hDO44.ch0 hch57
    replace hc := hc.step0 hch57
    have hub66 := hO61.lt
    have hcap67 : hs60.length ≤ c59 := by obtain ⟨_, _, hv, h1, _⟩ := hO61.form; injection hv with _ _ h3; omega
    have hfl68 : hs60.length = (makeV (fvs hs22) nm23).length := by rw [← hfe63, fvs_len]
    try simp only [fvs_len, List.length_take, List.length_drop] at hfl68
    have hnt69 := makeV_le (fvs hs22) nm23
    refine rw_cons (op_pv (w0 rfl) rfl rfl (pv_move (v := (.tuple #[(.slice A58 hs60.length c59), (.bool (dec (MakeOK (fvs hs22) nm23)))])) rfl rfl) ?_)
    refine rw_cons (op_pv (w0 rfl) rfl rfl (pv_ext (v := (.slice A58 hs60.length c59)) rfl rfl rfl) ?_)
    refine rw_cons (op_pv (w0 rfl) rfl rfl (pv_ext (v := (.bool (dec (MakeOK (fvs hs22) nm23)))) rfl rfl rfl) ?_)
    refine rw_cons (op_pv (w0 rfl) rfl rfl (pv_assign (v := (.slice A58 hs60.length c59)) rfl rfl) ?_)
    refine rw_cons (op_pv (w0 rfl) rfl rfl (pv_assign (v := (.bool (dec (MakeOK (fvs hs22) nm23)))) rfl rfl) ?_)
    refine rw_nil (hK55 _ _ ?_)
    refine hK53 _ _ ?_
    refine cw_seq fun K70 hK71 => ?_
    refine cw_seq fun K72 hK73 => ?_
    refine cw_region fun K74 hK75 => ?_
    refine rw_cons (op_pv (w0 rfl) rfl rfl (pv_move (v := (.bool (dec (MakeOK (fvs hs22) nm23)))) rfl rfl) ?_)
    refine rw_cons (op_pv (w0 rfl) rfl rfl (pv_move (v := (.bool (dec (MakeOK (fvs hs22) nm23)))) rfl rfl) ?_)
    refine rw_cons (op_pv (w0 rfl) rfl rfl (pv_neBs Try.underlying4 rfl rfl rfl) ?_)
    refine rw_cons (op_pv (w0 rfl) rfl rfl (pv_move (v := (.bool false)) rfl rfl) ?_)
    refine rw_cons (op_pv (w1y rfl rfl rfl rfl) rfl rfl (pv_move (v := (.slice A40 hs42.length c41)) rfl rfl) ?_)
    refine rw_cons (op_pv (w1y rfl rfl rfl rfl) rfl rfl (pv_move (v := (.slice A58 hs60.length c59)) rfl rfl) ?_)
    refine rw_cons (op_call (w1y rfl rfl rfl rfl) rfl rfl (rc_call C40 rfl rfl) (sameFiles_ok _ hs42.length _ hs42 _ hs60.length _ hs60 _ (hO43.rs (fun _ => rfl)) (hDO44.any (by omega)) (by first | assumption | exact SzOK.nil) (by omega) (hO61.rs (fun _ => rfl)) (hDO62.any (by omega)) (by first | assumption | exact SzOK.nil) (by omega)) ?_)
    rintro _ w76 ⟨rfl, hch77⟩
    try rw [hfe45]
    try rw [hfe63]
    have hsz78 := hch77.size
    replace hR0 := hR0.ch0 hch77
    replace hO26 := hO26.ch0 hch77
    replace hD29 := hD29.ch0 hch77
    replace hO43 := hO43.ch0 hch77
    replace hDO44 := hDO44.ch0 hch77
    replace hO61 := hO61.ch0 hch77
    replace hDO62 := hDO62.ch0 hch77
    replace hc := hc.step0 hch77
    refine rw_cons (op_pv (w1y rfl rfl rfl rfl) rfl rfl (pv_not rfl rfl) ?_)
    refine rw_cons (op_pv (w0 rfl) rfl rfl (pv_pickF (v := (.bool (!(dec (makeV (fvs hs22) nm23 = makeV (fvs hs22) nm23))))) rfl rfl rfl) ?_)
    refine rw_cons (op_pv (w0 rfl) rfl rfl (pv_move (v := (.bool (!(dec (makeV (fvs hs22) nm23 = makeV (fvs hs22) nm23))))) rfl rfl) ?_)
    refine rw_split 43 rfl (fun hb79 => ?_) (fun hb79 => ?_)
    · -- yes
      replace hb79 := not_t hb79
      replace hb79 := dec_f hb79
      refine rw_cons (op_pass (w1n2 rfl rfl rfl rfl) rfl rfl ?_)
      refine rw_cons (op_pass (w1n2 rfl rfl rfl rfl) rfl rfl ?_)
      refine rw_cons (op_pv (w0 rfl) rfl rfl (pv_pickT (v := (.bool true)) rfl rfl rfl) ?_)
      refine rw_nil (hK75 _ _ ?_)
      refine hK73 _ _ ?_
      refine cw_cond rfl (fun h80 => ?_) (fun h80 => ?_)
      · -- then
        clear h80
        refine cw_seq fun K81 hK82 => ?_
        refine cw_region fun K83 hK84 => ?_
        refine rw_cons (op_pv (w0 rfl) rfl rfl (pv_move (v := (.bool (dec (MakeOK (fvs hs22) nm23)))) rfl rfl) ?_)
        refine rw_cons (op_pv (w0 rfl) rfl rfl (pv_move (v := (.bool (dec (MakeOK (fvs hs22) nm23)))) rfl rfl) ?_)
        refine rw_cons (op_pv (w0 rfl) rfl rfl (pv_eqBs Try.underlying4 rfl rfl rfl) ?_)
        refine rw_cons (op_pv (w0 rfl) rfl rfl (pv_move (v := (.bool true)) rfl rfl) ?_)
        refine rw_cons (op_pv (w1y rfl rfl rfl rfl) rfl rfl (pv_move (v := (.slice A40 hs42.length c41)) rfl rfl) ?_)
        refine rw_cons (op_pv (w1y rfl rfl rfl rfl) rfl rfl (pv_move (v := (.slice A58 hs60.length c59)) rfl rfl) ?_)
        refine rw_cons (op_call (w1y rfl rfl rfl rfl) rfl rfl (rc_call C40 rfl rfl) (sameFiles_ok _ hs42.length _ hs42 _ hs60.length _ hs60 _ (hO43.rs (fun _ => rfl)) (hDO44.any (by omega)) (by first | assumption | exact SzOK.nil) (by omega) (hO61.rs (fun _ => rfl)) (hDO62.any (by omega)) (by first | assumption | exact SzOK.nil) (by omega)) ?_)
        rintro _ w85 ⟨rfl, hch86⟩
        try rw [hfe45]
        try rw [hfe63]
        have hsz87 := hch86.size
        replace hR0 := hR0.ch0 hch86
        replace hO26 := hO26.ch0 hch86
        replace hD29 := hD29.ch0 hch86
        replace hO43 := hO43.ch0 hch86
        replace hDO44 := hDO44.ch0 hch86
        replace hO61 := hO61.ch0 hch86
        replace hDO62 := hDO62.ch0 hch86
        replace hc := hc.step0 hch86
        refine rw_cons (op_pv (w0 rfl) rfl rfl (pv_pickT (v := (.bool (dec (makeV (fvs hs22) nm23 = makeV (fvs hs22) nm23)))) rfl rfl rfl) ?_)
        refine rw_cons (op_pv (w0 rfl) rfl rfl (pv_assign (v := (.bool (dec (makeV (fvs hs22) nm23 = makeV (fvs hs22) nm23)))) rfl rfl) ?_)
        refine rw_nil (hK84 _ _ ?_)
        refine hK82 _ _ ?_
        refine cw_ret ?_
        refine fin1 rfl ?_
        first
          | exact ⟨rfl, hc⟩
          | exact absurd rfl (by assumption)
          | exact ⟨congrArg Value.bool (dec_yes rfl), hc⟩
          | exact ⟨congrArg Value.bool (beq_self_eq_true _), hc⟩
          | exact ⟨congrArg Value.bool (decide_eq_true rfl), hc⟩
      · -- else
        cases h80
    · -- no
      replace hb79 := not_f hb79
      replace hb79 := dec_t hb79
      refine rw_cons (op_pv (w1y rfl rfl rfl rfl) rfl rfl (pv_move (v := (.bool (dec (MakeOK (fvs hs22) nm23)))) rfl rfl) ?_)
      refine rw_cons (op_pv (w1y rfl rfl rfl rfl) rfl rfl (pv_not rfl rfl) ?_)
      refine rw_cons (op_pv (w0 rfl) rfl rfl (pv_pickF (v := (.bool (!(dec (MakeOK (fvs hs22) nm23))))) rfl rfl rfl) ?_)
      refine rw_nil (hK75 _ _ ?_)
      refine hK73 _ _ ?_
      refine cw_cond rfl (fun h88 => ?_) (fun h88 => ?_)
      · -- then
        replace h88 := not_t h88
        replace h88 := dec_f h88
        refine cw_seq fun K89 hK90 => ?_
        refine cw_region fun K91 hK92 => ?_
        refine rw_cons (op_pv (w0 rfl) rfl rfl (pv_move (v := (.bool (dec (MakeOK (fvs hs22) nm23)))) rfl rfl) ?_)
        refine rw_cons (op_pv (w0 rfl) rfl rfl (pv_move (v := (.bool (dec (MakeOK (fvs hs22) nm23)))) rfl rfl) ?_)
        refine rw_cons (op_pv (w0 rfl) rfl rfl (pv_eqBs Try.underlying4 rfl rfl rfl) ?_)
        refine rw_cons (op_pv (w0 rfl) rfl rfl (pv_move (v := (.bool true)) rfl rfl) ?_)
        refine rw_cons (op_pv (w1y rfl rfl rfl rfl) rfl rfl (pv_move (v := (.slice A40 hs42.length c41)) rfl rfl) ?_)
        refine rw_cons (op_pv (w1y rfl rfl rfl rfl) rfl rfl (pv_move (v := (.slice A58 hs60.length c59)) rfl rfl) ?_)
        refine rw_cons (op_call (w1y rfl rfl rfl rfl) rfl rfl (rc_call C40 rfl rfl) (sameFiles_ok _ hs42.length _ hs42 _ hs60.length _ hs60 _ (hO43.rs (fun _ => rfl)) (hDO44.any (by omega)) (by first | assumption | exact SzOK.nil) (by omega) (hO61.rs (fun _ => rfl)) (hDO62.any (by omega)) (by first | assumption | exact SzOK.nil) (by omega)) ?_)
        rintro _ w93 ⟨rfl, hch94⟩
        try rw [hfe45]
        try rw [hfe63]
        have hsz95 := hch94.size
        replace hR0 := hR0.ch0 hch94
        replace hO26 := hO26.ch0 hch94
        replace hD29 := hD29.ch0 hch94
        replace hO43 := hO43.ch0 hch94
        replace hDO44 := hDO44.ch0 hch94
        replace hO61 := hO61.ch0 hch94
        replace hDO62 := hDO62.ch0 hch94
        replace hc := hc.step0 hch94
        refine rw_cons (op_pv (w0 rfl) rfl rfl (pv_pickT (v := (.bool (dec (makeV (fvs hs22) nm23 = makeV (fvs hs22) nm23)))) rfl rfl rfl) ?_)
        refine rw_cons (op_pv (w0 rfl) rfl rfl (pv_assign (v := (.bool (dec (makeV (fvs hs22) nm23 = makeV (fvs hs22) nm23)))) rfl rfl) ?_)
        refine rw_nil (hK92 _ _ ?_)
        refine hK90 _ _ ?_
        refine cw_ret ?_
        refine fin1 rfl ?_
        first
          | exact ⟨rfl, hc⟩
          | exact absurd rfl (by assumption)
          | exact ⟨congrArg Value.bool (dec_yes rfl), hc⟩
          | exact ⟨congrArg Value.bool (beq_self_eq_true _), hc⟩
          | exact ⟨congrArg Value.bool (decide_eq_true rfl), hc⟩
      · -- else
        replace h88 := not_f h88
        replace h88 := dec_t h88
        refine cw_skip ?_
        refine hK71 _ _ ?_
        refine cw_seq fun K96 hK97 => ?_
        have hok : MakeOK (fvs hs22) nm23 := by assumption
        have hfok := hok.1
        refine cw_region fun K98 hK99 => ?_
        refine rw_cons (op_pv (w0 rfl) rfl rfl (pv_move (v := (.slice A40 hs42.length c41)) rfl rfl) ?_)
        refine rw_cons (op_pv (w0 rfl) rfl rfl (pv_move (v := (.string nm23)) rfl rfl) ?_)
        refine rw_cons (op_call (w0 rfl) rfl rfl (rc_call C21 rfl rfl) (FileDrop_i _ hs42.length _ hs42 nm23 _ (hO43.rs (fun _ => rfl)) (hDO44.any (by omega)) (by first | assumption | exact SzOK.nil) (by omega) (by omega)) ?_)
        rintro _ w100 ⟨A105, c106, hs107, A102, c103, rfl, hO104, hO108, hDO109, hfe110, hZ111, hch101⟩
        try rw [hfe45]
        try rw [hfe45] at hO104
        try rw [hfe45] at hfe110
        have hsz112 := hch101.size
        replace hR0 := hR0.ch0 hch101
        replace hO26 := hO26.ch0 hch101
        replace hD29 := hD29.ch0 hch101
        replace hO43 := hO43.ch0 hch101
        replace hDO44 := hDO44.ch0 hch101
        replace hO61 := hO61.ch0 hch101
        replace hDO62 := hDO62.ch0 hch101
        replace hc := hc.step0 hch101
        have hub113 := hO108.lt
        have hcap114 : hs107.length ≤ c106 := by obtain ⟨_, _, hv, h1, _⟩ := hO108.form; injection hv with _ _ h3; omega
        have hfl115 : hs107.length = (dropV (makeV (fvs hs22) nm23) nm23).length := by rw [← hfe110, fvs_len]
        try simp only [fvs_len, List.length_take, List.length_drop] at hfl115
        have hub116 := hO104.lt
        have hcap117 : (dropP (makeV (fvs hs22) nm23) nm23).length ≤ c103 := by obtain ⟨_, _, hv, h1, _⟩ := hO104.form; injection hv with _ _ h3; omega
        have hnt118 := dropV_le (makeV (fvs hs22) nm23) nm23
        have hnt119 := dropP_le (makeV (fvs hs22) nm23) nm23
        refine rw_cons (op_pv (w0 rfl) rfl rfl (pv_move (v := (.tuple #[(.slice A105 hs107.length c106), (.slice A102 (dropP (makeV (fvs hs22) nm23) nm23).length c103), (.bool (dec (DropOK (makeV (fvs hs22) nm23) nm23)))])) rfl rfl) ?_)
        refine rw_cons (op_pv (w0 rfl) rfl rfl (pv_ext (v := (.slice A105 hs107.length c106)) rfl rfl rfl) ?_)
        refine rw_cons (op_pv (w0 rfl) rfl rfl (pv_ext (v := (.slice A102 (dropP (makeV (fvs hs22) nm23) nm23).length c103)) rfl rfl rfl) ?_)
        refine rw_cons (op_pv (w0 rfl) rfl rfl (pv_ext (v := (.bool (dec (DropOK (makeV (fvs hs22) nm23) nm23)))) rfl rfl rfl) ?_)
        refine rw_cons (op_pv (w0 rfl) rfl rfl (pv_assign (v := (.slice A105 hs107.length c106)) rfl rfl) ?_)
        refine rw_cons (op_pv (w0 rfl) rfl rfl (pv_assign (v := (.slice A102 (dropP (makeV (fvs hs22) nm23) nm23).length c103)) rfl rfl) ?_)
        refine rw_cons (op_pv (w0 rfl) rfl rfl (pv_assign (v := (.bool (dec (DropOK (makeV (fvs hs22) nm23) nm23)))) rfl rfl) ?_)
        refine rw_nil (hK99 _ _ ?_)
        refine hK97 _ _ ?_
        refine cw_seq fun K120 hK121 => ?_
        have hml := make_len hok
        refine cw_region fun K122 hK123 => ?_
        refine rw_cons (op_pv (w0 rfl) rfl rfl (pv_move (v := (.slice A40 hs42.length c41)) rfl rfl) ?_)
        refine rw_cons (op_pv (w0 rfl) rfl rfl (pv_move (v := (.string nm23)) rfl rfl) ?_)
        refine rw_cons (op_call (w0 rfl) rfl rfl (rc_call C29 rfl rfl) (FileMake_i _ hs42.length _ hs42 nm23 _ (hO43.rs (fun _ => rfl)) (hDO44.any (by omega)) (by first | assumption | exact SzOK.nil) (by omega) (by omega) (by omega)) ?_)
        rintro _ w124 ⟨A126, c127, hs128, rfl, hO129, hDO130, hfe131, hZ132, hch125⟩
        try rw [hfe45]
        try rw [hfe45] at hfe131
        have hsz133 := hch125.size
        replace hR0 := hR0.ch0 hch125
        replace hO26 := hO26.ch0 hch125
        replace hD29 := hD29.ch0 hch125
        replace hO43 := hO43.ch0 hch125
        replace hDO44 := hDO44.ch0 hch125
        replace hO61 := hO61.ch0 hch125
        replace hDO62 := hDO62.ch0 hch125
        replace hO108 := hO108.ch0 hch125
        replace hDO109 := hDO109.ch0 hch125
        replace hO104 := hO104.ch0 hch125
        replace hc := hc.step0 hch125
        have hub134 := hO129.lt
        have hcap135 : hs128.length ≤ c127 := by obtain ⟨_, _, hv, h1, _⟩ := hO129.form; injection hv with _ _ h3; omega
        have hfl136 : hs128.length = (makeV (makeV (fvs hs22) nm23) nm23).length := by rw [← hfe131, fvs_len]
        try simp only [fvs_len, List.length_take, List.length_drop] at hfl136
        have hnt137 := makeV_le (makeV (fvs hs22) nm23) nm23
        refine rw_cons (op_pv (w0 rfl) rfl rfl (pv_move (v := (.tuple #[(.slice A126 hs128.length c127), (.bool (dec (MakeOK (makeV (fvs hs22) nm23) nm23)))])) rfl rfl) ?_)
        refine rw_cons (op_pv (w0 rfl) rfl rfl (pv_ext (v := (.slice A126 hs128.length c127)) rfl rfl rfl) ?_)
        refine rw_cons (op_pv (w0 rfl) rfl rfl (pv_ext (v := (.bool (dec (MakeOK (makeV (fvs hs22) nm23) nm23)))) rfl rfl rfl) ?_)
        refine rw_cons (op_pv (w0 rfl) rfl rfl (pv_assign (v := (.slice A126 hs128.length c127)) rfl rfl) ?_)
        refine rw_cons (op_pv (w0 rfl) rfl rfl (pv_assign (v := (.bool (dec (MakeOK (makeV (fvs hs22) nm23) nm23)))) rfl rfl) ?_)
        refine rw_nil (hK123 _ _ ?_)
        refine hK121 _ _ ?_
        refine cw_seq fun K138 hK139 => ?_
        refine cw_region fun K140 hK141 => ?_
        refine rw_cons (op_pv (w0 rfl) rfl rfl (pv_move (v := (.bool (dec (DropOK (makeV (fvs hs22) nm23) nm23)))) rfl rfl) ?_)
        refine rw_cons (op_pv (w0 rfl) rfl rfl (pv_move (v := (.bool (dec (DropOK (makeV (fvs hs22) nm23) nm23)))) rfl rfl) ?_)
        refine rw_split 69 rfl (fun hb142 => ?_) (fun hb142 => ?_)
        · -- yes
          replace hb142 := dec_t hb142
          refine rw_cons (op_pv (w1y rfl rfl rfl rfl) rfl rfl (pv_move (v := (.slice A102 (dropP (makeV (fvs hs22) nm23) nm23).length c103)) rfl rfl) ?_)
          refine rw_cons (op_pv (w1y rfl rfl rfl rfl) rfl rfl (pv_len Try.underlying25 rfl rfl) ?_)
          refine rw_cons (op_pv (w1y rfl rfl rfl rfl) rfl rfl (pv_eql rfl rfl rfl) ?_)
          refine rw_cons (op_pv (w0 rfl) rfl rfl (pv_pickT (v := (.bool (decide ((((dropP (makeV (fvs hs22) nm23) nm23).length : Int) : Int) = 0)))) rfl rfl rfl) ?_)
          refine rw_cons (op_pv (w0 rfl) rfl rfl (pv_move (v := (.bool (decide ((((dropP (makeV (fvs hs22) nm23) nm23).length : Int) : Int) = 0)))) rfl rfl) ?_)
          refine rw_split 74 rfl (fun hb143 => ?_) (fun hb143 => ?_)
          · -- yes
            replace hb143 := of_decide_eq_true hb143
            refine rw_cons (op_pv (w1y rfl rfl rfl rfl) rfl rfl (pv_move (v := (.slice A105 hs107.length c106)) rfl rfl) ?_)
            refine rw_cons (op_pv (w1y rfl rfl rfl rfl) rfl rfl (pv_move (v := (.slice A24 hs22.length c25)) rfl rfl) ?_)
            refine rw_cons (op_call (w1y rfl rfl rfl rfl) rfl rfl (rc_call C40 rfl rfl) (sameFiles_ok _ hs107.length _ hs107 _ hs22.length _ hs22 _ (hO108.rs (fun _ => rfl)) (hDO109.any (by omega)) (by first | assumption | exact SzOK.nil) (by omega) (hO26.rs (fun _ => rfl)) (hD29.any (by omega)) (by first | assumption | exact SzOK.nil) (by omega)) ?_)
            rintro _ w144 ⟨rfl, hch145⟩
            try rw [hfe110]
            have hsz146 := hch145.size
            replace hR0 := hR0.ch0 hch145
            replace hO26 := hO26.ch0 hch145
            replace hD29 := hD29.ch0 hch145
            replace hO43 := hO43.ch0 hch145
            replace hDO44 := hDO44.ch0 hch145
            replace hO61 := hO61.ch0 hch145
            replace hDO62 := hDO62.ch0 hch145
            replace hO108 := hO108.ch0 hch145
            replace hDO109 := hDO109.ch0 hch145
            replace hO104 := hO104.ch0 hch145
            replace hO129 := hO129.ch0 hch145
            replace hDO130 := hDO130.ch0 hch145
            replace hc := hc.step0 hch145
            refine rw_cons (op_pv (w0 rfl) rfl rfl (pv_pickT (v := (.bool (dec (dropV (makeV (fvs hs22) nm23) nm23 = fvs hs22)))) rfl rfl rfl) ?_)
            refine rw_cons (op_pv (w0 rfl) rfl rfl (pv_move (v := (.bool (dec (dropV (makeV (fvs hs22) nm23) nm23 = fvs hs22)))) rfl rfl) ?_)
            refine rw_split 79 rfl (fun hb147 => ?_) (fun hb147 => ?_)
            · -- yes
              replace hb147 := dec_t hb147
              refine rw_cons (op_pv (w1y rfl rfl rfl rfl) rfl rfl (pv_move (v := (.bool (dec (MakeOK (makeV (fvs hs22) nm23) nm23)))) rfl rfl) ?_)
              refine rw_cons (op_pv (w1y rfl rfl rfl rfl) rfl rfl (pv_not rfl rfl) ?_)
              refine rw_cons (op_pv (w0 rfl) rfl rfl (pv_pickT (v := (.bool (!(dec (MakeOK (makeV (fvs hs22) nm23) nm23))))) rfl rfl rfl) ?_)
              refine rw_cons (op_pv (w0 rfl) rfl rfl (pv_assign (v := (.bool (!(dec (MakeOK (makeV (fvs hs22) nm23) nm23))))) rfl rfl) ?_)
              refine rw_nil (hK141 _ _ ?_)
              refine hK139 _ _ ?_
              refine cw_ret ?_
              refine fin1 rfl ?_
              obtain ⟨md1, md2, md3, md4⟩ := make_drop hok
              first
                | exact ⟨rfl, hc⟩
                | contradiction
                | exact absurd md3 (by assumption)
                | (exfalso; have h9 := congrArg List.length md2; simp only [List.length_nil] at h9; omega)
                | exact ⟨congrArg Value.bool (by rw [dec_no md4]; rfl), hc⟩
                | exact ⟨congrArg Value.bool (dec_yes md3), hc⟩
            · -- no
              replace hb147 := dec_f hb147
              refine rw_cons (op_pass (w1n1 rfl rfl rfl rfl) rfl rfl ?_)
              refine rw_cons (op_pass (w1n1 rfl rfl rfl rfl) rfl rfl ?_)
              refine rw_cons (op_pv (w0 rfl) rfl rfl (pv_pickF (v := (.bool false)) rfl rfl rfl) ?_)
              refine rw_cons (op_pv (w0 rfl) rfl rfl (pv_assign (v := (.bool false)) rfl rfl) ?_)
              refine rw_nil (hK141 _ _ ?_)
              refine hK139 _ _ ?_
              refine cw_ret ?_
              refine fin1 rfl ?_
              obtain ⟨md1, md2, md3, md4⟩ := make_drop hok
              first
                | exact ⟨rfl, hc⟩
                | contradiction
                | exact absurd md3 (by assumption)
                | (exfalso; have h9 := congrArg List.length md2; simp only [List.length_nil] at h9; omega)
                | exact ⟨congrArg Value.bool (by rw [dec_no md4]; rfl), hc⟩
                | exact ⟨congrArg Value.bool (dec_yes md3), hc⟩
          · -- no
            replace hb143 := of_decide_eq_false hb143
            refine rw_cons (op_pass (w1n1 rfl rfl rfl rfl) rfl rfl ?_)
            refine rw_cons (op_pass (w1n1 rfl rfl rfl rfl) rfl rfl ?_)
            refine rw_cons (op_pass (w1n1 rfl rfl rfl rfl) rfl rfl ?_)
            refine rw_cons (op_pv (w0 rfl) rfl rfl (pv_pickF (v := (.bool false)) rfl rfl rfl) ?_)
            refine rw_cons (op_pv (w0 rfl) rfl rfl (pv_move (v := (.bool false)) rfl rfl) ?_)
            refine rw_cons (op_pass (w1n1 rfl rfl rfl rfl) rfl rfl ?_)
            refine rw_cons (op_pass (w1n1 rfl rfl rfl rfl) rfl rfl ?_)
            refine rw_cons (op_pv (w0 rfl) rfl rfl (pv_pickF (v := (.bool false)) rfl rfl rfl) ?_)
            refine rw_cons (op_pv (w0 rfl) rfl rfl (pv_assign (v := (.bool false)) rfl rfl) ?_)
            refine rw_nil (hK141 _ _ ?_)
            refine hK139 _ _ ?_
            refine cw_ret ?_
            refine fin1 rfl ?_
            obtain ⟨md1, md2, md3, md4⟩ := make_drop hok
            first
              | exact ⟨rfl, hc⟩
              | contradiction
              | exact absurd md3 (by assumption)
              | (exfalso; have h9 := congrArg List.length md2; simp only [List.length_nil] at h9; omega)
              | exact ⟨congrArg Value.bool (by rw [dec_no md4]; rfl), hc⟩
              | exact ⟨congrArg Value.bool (dec_yes md3), hc⟩
        · -- no
          replace hb142 := dec_f hb142
          refine rw_cons (op_pass (w1n1 rfl rfl rfl rfl) rfl rfl ?_)
          refine rw_cons (op_pass (w1n1 rfl rfl rfl rfl) rfl rfl ?_)
          refine rw_cons (op_pass (w1n1 rfl rfl rfl rfl) rfl rfl ?_)
          refine rw_cons (op_pv (w0 rfl) rfl rfl (pv_pickF (v := (.bool false)) rfl rfl rfl) ?_)
          refine rw_cons (op_pv (w0 rfl) rfl rfl (pv_move (v := (.bool false)) rfl rfl) ?_)
          refine rw_cons (op_pass (w1n1 rfl rfl rfl rfl) rfl rfl ?_)
          refine rw_cons (op_pass (w1n1 rfl rfl rfl rfl) rfl rfl ?_)
          refine rw_cons (op_pass (w1n1 rfl rfl rfl rfl) rfl rfl ?_)
          refine rw_cons (op_pv (w0 rfl) rfl rfl (pv_pickF (v := (.bool false)) rfl rfl rfl) ?_)
          refine rw_cons (op_pv (w0 rfl) rfl rfl (pv_move (v := (.bool false)) rfl rfl) ?_)
          refine rw_cons (op_pass (w1n1 rfl rfl rfl rfl) rfl rfl ?_)
          refine rw_cons (op_pass (w1n1 rfl rfl rfl rfl) rfl rfl ?_)
          refine rw_cons (op_pv (w0 rfl) rfl rfl (pv_pickF (v := (.bool false)) rfl rfl rfl) ?_)
          refine rw_cons (op_pv (w0 rfl) rfl rfl (pv_assign (v := (.bool false)) rfl rfl) ?_)
          refine rw_nil (hK141 _ _ ?_)
          refine hK139 _ _ ?_
          refine cw_ret ?_
          refine fin1 rfl ?_
          obtain ⟨md1, md2, md3, md4⟩ := make_drop hok
          first
            | exact ⟨rfl, hc⟩
            | contradiction
            | exact absurd md3 (by assumption)
            | (exfalso; have h9 := congrArg List.length md2; simp only [List.length_nil] at h9; omega)
            | exact ⟨congrArg Value.bool (by rw [dec_no md4]; rfl), hc⟩
            | exact ⟨congrArg Value.bool (dec_yes md3), hc⟩
end Go.Proofs.Ythgnlljpjpklpaa
