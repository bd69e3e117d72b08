/-
  The walk of laws.FnFileDrop, written by program: each line names the law of one operation. Conditions: those of the theorem.
-/
import Derived.Test.YthgnlljpjpklpaaProg
import Derived.Test.YthgnlljpjpklpaaDeep
import Derived.Test.YthgnlljpjpklpaaFlaw
import Derived.Test.YthgnlljpjpklpaaFops
import Derived.Test.YthgnlljpjpklpaaFlaw2
import Derived.Test.YthgnlljpjpklpaaFspecDrawFileDrop
import Derived.Test.YthgnlljpjpklpaaFimplFileDrop
import Derived.Test.YthgnlljpjpklpaaFspecFileDrop
import Derived.Test.YthgnlljpjpklpaaFlawssameFiles
import Derived.Test.YthgnlljpjpklpaaFlawssameInts
import Derived.Test.YthgnlljpjpklpaaFlaw3
import Derived.Test.YthgnlljpjpklpaaFlaw4
import Derived.Test.YthgnlljpjpklpaaFimplFilesValid
import Derived.Test.YthgnlljpjpklpaaFlawshasInt
import Derived.KernelRfl
namespace Go.Proofs.Ythgnlljpjpklpaa
open Go Go.RowKit
set_option linter.unusedVariables false
set_option linter.unusedSimpArgs false
namespace FnFileDrop_okF
theorem T3 : TI Try.prog 3 false (.int .i64 0) 1 8 := TI.mk' Try.underlying3 rfl (by kernel_rfl)
theorem T9 : TI Try.prog 9 false (.string { data := #[] }) 1 16 := TI.mk' Try.underlying9 rfl (by kernel_rfl)
theorem T25 : TI Try.prog 25 false (.slice none 0 0) 1 24 := TI.mk' Try.underlying25 rfl (by kernel_rfl)
theorem T48 : TI Try.prog 48 true (.agg #[.string { data := #[] }, .slice none 0 0]) 2 40 := TI.mk' Try.underlying48 rfl (by kernel_rfl)
theorem F48_0 : FldOK Try.prog 48 0 0 := ⟨_, _, 0, Try.underlying48, rfl, rfl, by kernel_rfl⟩
theorem F48_1 : FldOK Try.prog 48 1 1 := ⟨_, _, 0, Try.underlying48, rfl, rfl, by kernel_rfl⟩
theorem C19 : Callable Try.prog 19 := ⟨_, Try.func19, by kernel_rfl, by kernel_rfl⟩
theorem C21 : Callable Try.prog 21 := ⟨_, Try.func21, by kernel_rfl, by kernel_rfl⟩
theorem C31 : Callable Try.prog 31 := ⟨_, Try.func31, by kernel_rfl, by kernel_rfl⟩
theorem C38 : Callable Try.prog 38 := ⟨_, Try.func38, by kernel_rfl, by kernel_rfl⟩
theorem C39 : Callable Try.prog 39 := ⟨_, Try.func39, by kernel_rfl, by kernel_rfl⟩
theorem C40 : Callable Try.prog 40 := ⟨_, Try.func40, by kernel_rfl, by kernel_rfl⟩
theorem C41 : Callable Try.prog 41 := ⟨_, Try.func41, by kernel_rfl, by kernel_rfl⟩
end FnFileDrop_okF
open FnFileDrop_okF in
set_option maxHeartbeats 4000000 in
theorem FnFileDrop_ok (A0 : Option Addr) (n0 c0 : Nat) (xs0 : List UInt8) (w : World) (hR0 : RS encU 1 w w.heap.size A0 n0 xs0) (hn0 : n0 ≤ c0) :
    Fn Try.prog 11 [(.slice A0 n0 c0)] w fun v w' => v = .bool true ∧ Ch [] w w' := by
  have hlen0 := hR0.len
  refine fn_of (n := 127) Try.func11 rfl rfl rfl rfl ?_
  have hc : Ch [] w w := Ch.refl _ _
  refine cw_seq fun K1 hK2 => ?_
  refine cw_region fun K3 hK4 => ?_
  refine rw_cons (op_pv (w0 rfl) rfl rfl (pv_assign (v := (.bool false)) rfl rfl) ?_)
  refine rw_nil (hK4 _ _ ?_)
  refine hK2 _ _ ?_
  refine cw_seq fun K5 hK6 => ?_
  refine cw_seq fun K7 hK8 => ?_
  refine cw_region fun K9 hK10 => ?_
  refine rw_cons (op_pv (w0 rfl) rfl rfl (pv_move (v := (.slice A0 n0 c0)) rfl rfl) ?_)
  refine rw_cons (op_pv (w0 rfl) rfl rfl (pv_len Try.underlying36 rfl rfl) ?_)
  refine rw_cons (op_pv (w0 rfl) rfl rfl (pv_gtr rfl rfl rfl) ?_)
  refine rw_nil (hK10 _ _ ?_)
  refine hK8 _ _ ?_
  refine cw_cond rfl (fun h11 => ?_) (fun h11 => ?_)
  · -- then
    replace h11 := of_decide_eq_true h11
    refine cw_seq fun K12 hK13 => ?_
    refine cw_region fun K14 hK15 => ?_
    refine rw_cons (op_pv (w0 rfl) rfl rfl (pv_assign (v := (.bool true)) rfl rfl) ?_)
    refine rw_nil (hK15 _ _ ?_)
    refine hK13 _ _ ?_
    refine cw_ret ?_
    refine fin1 rfl ?_
    exact ⟨rfl, hc⟩
  · -- else
    replace h11 := of_decide_eq_false h11
    refine cw_skip ?_
    refine hK6 _ _ ?_
    refine cw_seq fun K16 hK17 => ?_
    refine cw_region fun K18 hK19 => ?_
    refine rw_cons (op_pv (w0 rfl) rfl rfl (pv_move (v := (.slice A0 n0 c0)) rfl rfl) ?_)
    refine rw_cons (op_call (w0 rfl) rfl rfl (rc_call C38 rfl rfl) (DrawFileDrop_ok _ _ _ _ _ (hR0.more (by omega)) (by omega)) ?_)
    rintro _ w20 ⟨A24, c25, hs22, nm23, rfl, hO26, hl28, hD29, hZ30, hsl31, hch21⟩
    have hsz32 := hch21.size
    replace hR0 := hR0.ch0 hch21
    replace hc := hc.step0 hch21
    have hub27 := hO26.lt
    have hcap33 : hs22.length ≤ c25 := by obtain ⟨_, _, hv, h1, _⟩ := hO26.form; injection hv with _ _ h3; omega
    refine rw_cons (op_pv (w0 rfl) rfl rfl (pv_move (v := (.tuple #[(.slice A24 hs22.length c25), (.string nm23)])) rfl rfl) ?_)
    refine rw_cons (op_pv (w0 rfl) rfl rfl (pv_ext (v := (.slice A24 hs22.length c25)) rfl rfl rfl) ?_)
    refine rw_cons (op_pv (w0 rfl) rfl rfl (pv_ext (v := (.string nm23)) rfl rfl rfl) ?_)
    refine rw_cons (op_pv (w0 rfl) rfl rfl (pv_assign (v := (.slice A24 hs22.length c25)) rfl rfl) ?_)
    refine rw_cons (op_pv (w0 rfl) rfl rfl (pv_assign (v := (.string nm23)) rfl rfl) ?_)
    refine rw_nil (hK19 _ _ ?_)
    refine hK17 _ _ ?_
    refine cw_seq fun K34 hK35 => ?_
    refine cw_region fun K36 hK37 => ?_
    refine rw_cons (op_pv (w0 rfl) rfl rfl (pv_move (v := (.slice A24 hs22.length c25)) rfl rfl) ?_)
    refine rw_cons (op_pv (w0 rfl) rfl rfl (pv_move (v := (.string nm23)) rfl rfl) ?_)
    refine rw_cons (op_call (w0 rfl) rfl rfl (rc_call C21 rfl rfl) (FileDrop_i _ hs22.length _ hs22 nm23 _ (hO26.rs (fun _ => rfl)) (hD29.any (by omega)) (by first | assumption | exact SzOK.nil) (by omega) (by omega)) ?_)
    rintro _ w38 ⟨A43, c44, hs45, A40, c41, rfl, hO42, hO46, hDO47, hfe48, hZ49, hch39⟩
    have hsz50 := hch39.size
    replace hR0 := hR0.ch0 hch39
    replace hO26 := hO26.ch0 hch39
    replace hD29 := hD29.ch0 hch39
    replace hc := hc.step0 hch39
    have hub51 := hO46.lt
    have hcap52 : hs45.length ≤ c44 := by obtain ⟨_, _, hv, h1, _⟩ := hO46.form; injection hv with _ _ h3; omega
    have hfl53 : hs45.length = (dropV (fvs hs22) nm23).length := by rw [← hfe48, fvs_len]
    try simp only [fvs_len, List.length_take, List.length_drop] at hfl53
    have hub54 := hO42.lt
    have hcap55 : (dropP (fvs hs22) nm23).length ≤ c41 := by obtain ⟨_, _, hv, h1, _⟩ := hO42.form; injection hv with _ _ h3; omega
    have hnt56 := dropV_le (fvs hs22) nm23
    have hnt57 := dropP_le (fvs hs22) nm23
    refine rw_cons (op_pv (w0 rfl) rfl rfl (pv_move (v := (.tuple #[(.slice A43 hs45.length c44), (.slice A40 (dropP (fvs hs22) nm23).length c41), (.bool (dec (DropOK (fvs hs22) nm23)))])) rfl rfl) ?_)
    refine rw_cons (op_pv (w0 rfl) rfl rfl (pv_ext (v := (.slice A43 hs45.length c44)) rfl rfl rfl) ?_)
    refine rw_cons (op_pv (w0 rfl) rfl rfl (pv_ext (v := (.slice A40 (dropP (fvs hs22) nm23).length c41)) rfl rfl rfl) ?_)
    refine rw_cons (op_pv (w0 rfl) rfl rfl (pv_ext (v := (.bool (dec (DropOK (fvs hs22) nm23)))) rfl rfl rfl) ?_)
    refine rw_cons (op_pv (w0 rfl) rfl rfl (pv_assign (v := (.slice A43 hs45.length c44)) rfl rfl) ?_)
    refine rw_cons (op_pv (w0 rfl) rfl rfl (pv_assign (v := (.slice A40 (dropP (fvs hs22) nm23).length c41)) rfl rfl) ?_)
    refine rw_cons (op_pv (w0 rfl) rfl rfl (pv_assign (v := (.bool (dec (DropOK (fvs hs22) nm23)))) rfl rfl) ?_)
    refine rw_nil (hK37 _ _ ?_)
    refine hK35 _ _ ?_
    refine cw_seq fun K58 hK59 => ?_
    refine cw_region fun K60 hK61 => ?_
    refine rw_cons (op_pv (w0 rfl) rfl rfl (pv_move (v := (.slice A24 hs22.length c25)) rfl rfl) ?_)
    refine rw_cons (op_pv (w0 rfl) rfl rfl (pv_move (v := (.string nm23)) rfl rfl) ?_)
    refine rw_cons (op_call (w0 rfl) rfl rfl (rc_call C19 rfl rfl) (FileDrop_s _ hs22.length _ hs22 nm23 _ (hO26.rs (fun _ => rfl)) (hD29.any (by omega)) (by first | assumption | exact SzOK.nil) (by omega) (by omega)) ?_)
    rintro _ w62 ⟨A64, c65, hs66, A71, c73, n72, rfl, hO67, hDO68, hfe69, hZ70, hR74, hch63⟩
    have hsz75 := hch63.size
    replace hR0 := hR0.ch0 hch63
    replace hO26 := hO26.ch0 hch63
    replace hD29 := hD29.ch0 hch63
    replace hO46 := hO46.ch0 hch63
    replace hDO47 := hDO47.ch0 hch63
    replace hO42 := hO42.ch0 hch63
    replace hc := hc.step0 hch63
    have hub76 := hO67.lt
    have hcap77 : hs66.length ≤ c65 := by obtain ⟨_, _, hv, h1, _⟩ := hO67.form; injection hv with _ _ h3; omega
    have hfl78 : hs66.length = (dropV (fvs hs22) nm23).length := by rw [← hfe69, fvs_len]
    try simp only [fvs_len, List.length_take, List.length_drop] at hfl78
    have hln79 := hR74.len
    have hnt80 := dropV_le (fvs hs22) nm23
    have hnt81 := dropP_le (fvs hs22) nm23
    refine rw_cons (op_pv (w0 rfl) rfl rfl (pv_move (v := (.tuple #[(.slice A64 hs66.length c65), (.slice A71 n72 c73), (.bool (dec (DropOK (fvs hs22) nm23)))])) rfl rfl) ?_)
    refine rw_cons (op_pv (w0 rfl) rfl rfl (pv_ext (v := (.slice A64 hs66.length c65)) rfl rfl rfl) ?_)
    refine rw_cons (op_pv (w0 rfl) rfl rfl (pv_ext (v := (.slice A71 n72 c73)) rfl rfl rfl) ?_)
    refine rw_cons (op_pv (w0 rfl) rfl rfl (pv_ext (v := (.bool (dec (DropOK (fvs hs22) nm23)))) rfl rfl rfl) ?_)
    refine rw_cons (op_pv (w0 rfl) rfl rfl (pv_assign (v := (.slice A64 hs66.length c65)) rfl rfl) ?_)
    refine rw_cons (op_pv (w0 rfl) rfl rfl (pv_assign (v := (.slice A71 n72 c73)) rfl rfl) ?_)
    refine rw_cons (op_pv (w0 rfl) rfl rfl (pv_assign (v := (.bool (dec (DropOK (fvs hs22) nm23)))) rfl rfl) ?_)
    refine rw_nil (hK61 _ _ ?_)
    refine hK59 _ _ ?_
    refine cw_seq fun K82 hK83 => ?_
    refine cw_seq fun K84 hK85 => ?_
    refine cw_region fun K86 hK87 => ?_
    refine rw_cons (op_pv (w0 rfl) rfl rfl (pv_move (v := (.bool (dec (DropOK (fvs hs22) nm23)))) rfl rfl) ?_)
    refine rw_cons (op_pv (w0 rfl) rfl rfl (pv_move (v := (.bool (dec (DropOK (fvs hs22) nm23)))) rfl rfl) ?_)
    refine rw_cons (op_pv (w0 rfl) rfl rfl (pv_neBs Try.underlying4 rfl rfl rfl) ?_)
    refine rw_cons (op_pv (w0 rfl) rfl rfl (pv_move (v := (.bool false)) rfl rfl) ?_)
    refine rw_cons (op_pv (w1y rfl rfl rfl rfl) rfl rfl (pv_move (v := (.slice A40 (dropP (fvs hs22) nm23).length c41)) rfl rfl) ?_)
    refine rw_cons (op_pv (w1y rfl rfl rfl rfl) rfl rfl (pv_move (v := (.slice A71 n72 c73)) rfl rfl) ?_)
    refine rw_cons (op_call (w1y rfl rfl rfl rfl) rfl rfl (rc_call C39 rfl rfl) (sameInts_same _ _ _ _ _ _ (dropP (fvs hs22) nm23) _ (hO42.rs (fun _ => rfl)) (hR74.more (by omega)) (by omega)) ?_)
    rintro _ w88 ⟨rfl, hch89⟩
    have hsz90 := hch89.size
    replace hR0 := hR0.ch0 hch89
    replace hO26 := hO26.ch0 hch89
    replace hD29 := hD29.ch0 hch89
    replace hO46 := hO46.ch0 hch89
    replace hDO47 := hDO47.ch0 hch89
    replace hO42 := hO42.ch0 hch89
    replace hO67 := hO67.ch0 hch89
    replace hDO68 := hDO68.ch0 hch89
    replace hR74 := hR74.ch0 hch89
    replace hc := hc.step0 hch89
    refine rw_cons (op_pv (w1y rfl rfl rfl rfl) rfl rfl (pv_not rfl rfl) ?_)
    refine rw_cons (op_pv (w0 rfl) rfl rfl (pv_pickF (v := (.bool (!true))) rfl rfl rfl) ?_)
    refine rw_cons (op_pv (w0 rfl) rfl rfl (pv_move (v := (.bool (!true))) rfl rfl) ?_)
    refine rw_cons (op_pv (w1y rfl rfl rfl rfl) rfl rfl (pv_move (v := (.slice A43 hs45.length c44)) rfl rfl) ?_)
    refine rw_cons (op_pv (w1y rfl rfl rfl rfl) rfl rfl (pv_move (v := (.slice A64 hs66.length c65)) rfl rfl) ?_)
    refine rw_cons (op_call (w1y rfl rfl rfl rfl) rfl rfl (rc_call C40 rfl rfl) (sameFiles_ok _ hs45.length _ hs45 _ hs66.length _ hs66 _ (hO46.rs (fun _ => rfl)) (hDO47.any (by omega)) (by first | assumption | exact SzOK.nil) (by omega) (hO67.rs (fun _ => rfl)) (hDO68.any (by omega)) (by first | assumption | exact SzOK.nil) (by omega)) ?_)
    rintro _ w91 ⟨rfl, hch92⟩
    try rw [hfe48]
    try rw [hfe69]
    have hsz93 := hch92.size
    replace hR0 := hR0.ch0 hch92
    replace hO26 := hO26.ch0 hch92
    replace hD29 := hD29.ch0 hch92
    replace hO46 := hO46.ch0 hch92
    replace hDO47 := hDO47.ch0 hch92
    replace hO42 := hO42.ch0 hch92
    replace hO67 := hO67.ch0 hch92
    replace hDO68 := hDO68.ch0 hch92
    replace hR74 := hR74.ch0 hch92
    replace hc := hc.step0 hch92
    refine rw_cons (op_pv (w1y rfl rfl rfl rfl) rfl rfl (pv_not rfl rfl) ?_)
    refine rw_cons (op_pv (w0 rfl) rfl rfl (pv_pickF (v := (.bool (!(dec (dropV (fvs hs22) nm23 = dropV (fvs hs22) nm23))))) rfl rfl rfl) ?_)
    refine rw_cons (op_pv (w0 rfl) rfl rfl (pv_move (v := (.bool (!(dec (dropV (fvs hs22) nm23 = dropV (fvs hs22) nm23))))) rfl rfl) ?_)
    refine rw_split 52 rfl (fun hb94 => ?_) (fun hb94 => ?_)
    · -- yes
      replace hb94 := not_t hb94
      replace hb94 := dec_f hb94
      refine rw_cons (op_pass (w1n2 rfl rfl rfl rfl) rfl rfl ?_)
      refine rw_cons (op_pass (w1n2 rfl rfl rfl rfl) rfl rfl ?_)
      refine rw_cons (op_pv (w0 rfl) rfl rfl (pv_pickT (v := (.bool true)) rfl rfl rfl) ?_)
      refine rw_nil (hK87 _ _ ?_)
      refine hK85 _ _ ?_
      refine cw_cond rfl (fun h95 => ?_) (fun h95 => ?_)
      · -- then
        clear h95
        refine cw_seq fun K96 hK97 => ?_
        refine cw_region fun K98 hK99 => ?_
        refine rw_cons (op_pv (w0 rfl) rfl rfl (pv_move (v := (.bool (dec (DropOK (fvs hs22) nm23)))) rfl rfl) ?_)
        refine rw_cons (op_pv (w0 rfl) rfl rfl (pv_move (v := (.bool (dec (DropOK (fvs hs22) nm23)))) rfl rfl) ?_)
        refine rw_cons (op_pv (w0 rfl) rfl rfl (pv_eqBs Try.underlying4 rfl rfl rfl) ?_)
        refine rw_cons (op_pv (w0 rfl) rfl rfl (pv_move (v := (.bool true)) rfl rfl) ?_)
        refine rw_cons (op_pv (w1y rfl rfl rfl rfl) rfl rfl (pv_move (v := (.slice A40 (dropP (fvs hs22) nm23).length c41)) rfl rfl) ?_)
        refine rw_cons (op_pv (w1y rfl rfl rfl rfl) rfl rfl (pv_move (v := (.slice A71 n72 c73)) rfl rfl) ?_)
        refine rw_cons (op_call (w1y rfl rfl rfl rfl) rfl rfl (rc_call C39 rfl rfl) (sameInts_same _ _ _ _ _ _ (dropP (fvs hs22) nm23) _ (hO42.rs (fun _ => rfl)) (hR74.more (by omega)) (by omega)) ?_)
        rintro _ w100 ⟨rfl, hch101⟩
        have hsz102 := hch101.size
        replace hR0 := hR0.ch0 hch101
        replace hO26 := hO26.ch0 hch101
        replace hD29 := hD29.ch0 hch101
        replace hO46 := hO46.ch0 hch101
        replace hDO47 := hDO47.ch0 hch101
        replace hO42 := hO42.ch0 hch101
        replace hO67 := hO67.ch0 hch101
        replace hDO68 := hDO68.ch0 hch101
        replace hR74 := hR74.ch0 hch101
        replace hc := hc.step0 hch101
        refine rw_cons (op_pv (w0 rfl) rfl rfl (pv_pickT (v := (.bool true)) rfl rfl rfl) ?_)
        refine rw_cons (op_pv (w0 rfl) rfl rfl (pv_move (v := (.bool true)) rfl rfl) ?_)
        refine rw_cons (op_pv (w1y rfl rfl rfl rfl) rfl rfl (pv_move (v := (.slice A43 hs45.length c44)) rfl rfl) ?_)
        refine rw_cons (op_pv (w1y rfl rfl rfl rfl) rfl rfl (pv_move (v := (.slice A64 hs66.length c65)) rfl rfl) ?_)
        refine rw_cons (op_call (w1y rfl rfl rfl rfl) rfl rfl (rc_call C40 rfl rfl) (sameFiles_ok _ hs45.length _ hs45 _ hs66.length _ hs66 _ (hO46.rs (fun _ => rfl)) (hDO47.any (by omega)) (by first | assumption | exact SzOK.nil) (by omega) (hO67.rs (fun _ => rfl)) (hDO68.any (by omega)) (by first | assumption | exact SzOK.nil) (by omega)) ?_)
        rintro _ w103 ⟨rfl, hch104⟩
        try rw [hfe48]
        try rw [hfe69]
        have hsz105 := hch104.size
        replace hR0 := hR0.ch0 hch104
        replace hO26 := hO26.ch0 hch104
        replace hD29 := hD29.ch0 hch104
        replace hO46 := hO46.ch0 hch104
        replace hDO47 := hDO47.ch0 hch104
        replace hO42 := hO42.ch0 hch104
        replace hO67 := hO67.ch0 hch104
        replace hDO68 := hDO68.ch0 hch104
        replace hR74 := hR74.ch0 hch104
        replace hc := hc.step0 hch104
        refine rw_cons (op_pv (w0 rfl) rfl rfl (pv_pickT (v := (.bool (dec (dropV (fvs hs22) nm23 = dropV (fvs hs22) nm23)))) rfl rfl rfl) ?_)
        refine rw_cons (op_pv (w0 rfl) rfl rfl (pv_assign (v := (.bool (dec (dropV (fvs hs22) nm23 = dropV (fvs hs22) nm23)))) rfl rfl) ?_)
        refine rw_nil (hK99 _ _ ?_)
        refine hK97 _ _ ?_
        refine cw_ret ?_
        refine fin1 rfl ?_
        first
          | exact ⟨rfl, hc⟩
          | exact absurd rfl (by assumption)
          | exact ⟨congrArg Value.bool (dec_yes rfl), hc⟩
          | exact ⟨congrArg Value.bool (beq_self_eq_true _), hc⟩
          | exact ⟨congrArg Value.bool (decide_eq_true rfl), hc⟩
      · -- else
        cases h95
    · -- no
      replace hb94 := not_f hb94
      replace hb94 := dec_t hb94
      refine rw_cons (op_pv (w1y rfl rfl rfl rfl) rfl rfl (pv_move (v := (.bool (dec (DropOK (fvs hs22) nm23)))) rfl rfl) ?_)
      refine rw_cons (op_pv (w1y rfl rfl rfl rfl) rfl rfl (pv_not rfl rfl) ?_)
      refine rw_cons (op_pv (w0 rfl) rfl rfl (pv_pickF (v := (.bool (!(dec (DropOK (fvs hs22) nm23))))) rfl rfl rfl) ?_)
      refine rw_nil (hK87 _ _ ?_)
      refine hK85 _ _ ?_
      refine cw_cond rfl (fun h106 => ?_) (fun h106 => ?_)
      · -- then
        replace h106 := not_t h106
        replace h106 := dec_f h106
        refine cw_seq fun K107 hK108 => ?_
        refine cw_region fun K109 hK110 => ?_
        refine rw_cons (op_pv (w0 rfl) rfl rfl (pv_move (v := (.bool (dec (DropOK (fvs hs22) nm23)))) rfl rfl) ?_)
        refine rw_cons (op_pv (w0 rfl) rfl rfl (pv_move (v := (.bool (dec (DropOK (fvs hs22) nm23)))) rfl rfl) ?_)
        refine rw_cons (op_pv (w0 rfl) rfl rfl (pv_eqBs Try.underlying4 rfl rfl rfl) ?_)
        refine rw_cons (op_pv (w0 rfl) rfl rfl (pv_move (v := (.bool true)) rfl rfl) ?_)
        refine rw_cons (op_pv (w1y rfl rfl rfl rfl) rfl rfl (pv_move (v := (.slice A40 (dropP (fvs hs22) nm23).length c41)) rfl rfl) ?_)
        refine rw_cons (op_pv (w1y rfl rfl rfl rfl) rfl rfl (pv_move (v := (.slice A71 n72 c73)) rfl rfl) ?_)
        refine rw_cons (op_call (w1y rfl rfl rfl rfl) rfl rfl (rc_call C39 rfl rfl) (sameInts_same _ _ _ _ _ _ (dropP (fvs hs22) nm23) _ (hO42.rs (fun _ => rfl)) (hR74.more (by omega)) (by omega)) ?_)
        rintro _ w111 ⟨rfl, hch112⟩
        have hsz113 := hch112.size
        replace hR0 := hR0.ch0 hch112
        replace hO26 := hO26.ch0 hch112
        replace hD29 := hD29.ch0 hch112
        replace hO46 := hO46.ch0 hch112
        replace hDO47 := hDO47.ch0 hch112
        replace hO42 := hO42.ch0 hch112
        replace hO67 := hO67.ch0 hch112
        replace hDO68 := hDO68.ch0 hch112
        replace hR74 := hR74.ch0 hch112
        replace hc := hc.step0 hch112
        refine rw_cons (op_pv (w0 rfl) rfl rfl (pv_pickT (v := (.bool true)) rfl rfl rfl) ?_)
        refine rw_cons (op_pv (w0 rfl) rfl rfl (pv_move (v := (.bool true)) rfl rfl) ?_)
        refine rw_cons (op_pv (w1y rfl rfl rfl rfl) rfl rfl (pv_move (v := (.slice A43 hs45.length c44)) rfl rfl) ?_)
        refine rw_cons (op_pv (w1y rfl rfl rfl rfl) rfl rfl (pv_move (v := (.slice A64 hs66.length c65)) rfl rfl) ?_)
        refine rw_cons (op_call (w1y rfl rfl rfl rfl) rfl rfl (rc_call C40 rfl rfl) (sameFiles_ok _ hs45.length _ hs45 _ hs66.length _ hs66 _ (hO46.rs (fun _ => rfl)) (hDO47.any (by omega)) (by first | assumption | exact SzOK.nil) (by omega) (hO67.rs (fun _ => rfl)) (hDO68.any (by omega)) (by first | assumption | exact SzOK.nil) (by omega)) ?_)
        rintro _ w114 ⟨rfl, hch115⟩
        try rw [hfe48]
        try rw [hfe69]
        have hsz116 := hch115.size
        replace hR0 := hR0.ch0 hch115
        replace hO26 := hO26.ch0 hch115
        replace hD29 := hD29.ch0 hch115
        replace hO46 := hO46.ch0 hch115
        replace hDO47 := hDO47.ch0 hch115
        replace hO42 := hO42.ch0 hch115
        replace hO67 := hO67.ch0 hch115
        replace hDO68 := hDO68.ch0 hch115
        replace hR74 := hR74.ch0 hch115
        replace hc := hc.step0 hch115
        refine rw_cons (op_pv (w0 rfl) rfl rfl (pv_pickT (v := (.bool (dec (dropV (fvs hs22) nm23 = dropV (fvs hs22) nm23)))) rfl rfl rfl) ?_)
        refine rw_cons (op_pv (w0 rfl) rfl rfl (pv_assign (v := (.bool (dec (dropV (fvs hs22) nm23 = dropV (fvs hs22) nm23)))) rfl rfl) ?_)
        refine rw_nil (hK110 _ _ ?_)
        refine hK108 _ _ ?_
        refine cw_ret ?_
        refine fin1 rfl ?_
        first
          | exact ⟨rfl, hc⟩
          | exact absurd rfl (by assumption)
          | exact ⟨congrArg Value.bool (dec_yes rfl), hc⟩
          | exact ⟨congrArg Value.bool (beq_self_eq_true _), hc⟩
          | exact ⟨congrArg Value.bool (decide_eq_true rfl), hc⟩
      · -- else
        replace h106 := not_f h106
        replace h106 := dec_t h106
        refine cw_skip ?_
        refine hK83 _ _ ?_
        refine cw_seq fun K117 hK118 => ?_
        have hok : DropOK (fvs hs22) nm23 := by assumption
        have hfok := hok.1
        obtain ⟨p, hp, hpl, hpn, hpv, hpp⟩ := drop_at hok
        have hdl := drop_len hok
        have hxl := fvs_len hs22
        have hx8 := hfok.len
        refine cw_region fun K119 hK120 => ?_
        refine rw_cons (op_bslice [] Try.underlying24 T48 (w0 rfl) rfl rfl rfl rfl rfl (by simp [Value.cells]) (by decide) ?_)
        intro g122 w121 hg125 hg126 hK124 hch123
        have hO127 : Own encF 2 w121 w91.heap.size 48 (.slice (some ⟨g122, 0, none⟩) 0 0) ([] : List Fl) := Blk.own (xs := ([] : List Fl)) hK124 (by omega) rfl (by decide) rfl
        have hsz128 := hch123.size
        replace hR0 := hR0.ch0 hch123
        replace hO26 := hO26.ch0 hch123
        replace hD29 := hD29.ch0 hch123
        replace hO46 := hO46.ch0 hch123
        replace hDO47 := hDO47.ch0 hch123
        replace hO42 := hO42.ch0 hch123
        replace hO67 := hO67.ch0 hch123
        replace hDO68 := hDO68.ch0 hch123
        replace hR74 := hR74.ch0 hch123
        replace hc := hc.step0 hch123
        have hub129 := hO127.lt
        refine rw_cons (op_pv (w0 rfl) rfl rfl (pv_assign (v := (.slice (some ⟨g122, 0, none⟩) 0 0)) rfl rfl) ?_)
        refine rw_nil (hK120 _ _ ?_)
        refine hK118 _ _ ?_
        refine cw_seq fun K130 hK131 => ?_
        refine cw_seq fun K132 hK133 => ?_
        refine cw_region fun K134 hK135 => ?_
        refine rw_cons (op_pv (w0 rfl) rfl rfl (pv_assign (v := (.int .i64 0)) rfl rfl) ?_)
        refine rw_nil (hK135 _ _ ?_)
        refine hK133 _ _ ?_
        refine cw_block ?_
        refine cw_loop (σ := Nat × (Option Addr) × Nat × (List Fl)) (fun ⟨i, Ao, co, ys⟩ => [(11, (.slice Ao ys.length co)), (12, (.int .i64 (i : Int))), (3, (.slice A24 hs22.length c25)), (4, (.string nm23)), (5, (.slice A43 hs45.length c44)), (6, (.slice A40 (dropP (fvs hs22) nm23).length c41))]) (fun ⟨i, Ao, co, ys⟩ W => (i ≤ hs22.length ∧ fvs ys = (dropV (fvs hs22) nm23).take (cutAt p i) ∧ SzOK ys ∧ ys.length ≤ i) ∧ RS encU 1 W w.heap.size A0 n0 xs0 ∧ Own encF 2 W w.heap.size 48 (.slice A24 hs22.length c25) hs22 ∧ DX w.heap.size w20.heap.size ([]) W hs22 ∧ Own encF 2 W w20.heap.size 48 (.slice A43 hs45.length c44) hs45 ∧ DOw w20.heap.size w38.heap.size (obl (.slice A43 hs45.length c44)) 3 W hs45 ∧ Own encI 1 W w20.heap.size 3 (.slice A40 (dropP (fvs hs22) nm23).length c41) (dropP (fvs hs22) nm23) ∧ Own encF 2 W w38.heap.size 48 (.slice A64 hs66.length c65) hs66 ∧ DX w38.heap.size w62.heap.size ([]) W hs66 ∧ RS encI 1 W w62.heap.size A71 n72 (dropP (fvs hs22) nm23) ∧ Own encF 2 W w91.heap.size 48 (.slice Ao ys.length co) ys ∧ DXo 0 (obl (.slice Ao ys.length co)) W ys ∧ Ch [] w W ∧ w20.heap.size ≤ W.heap.size ∧ w38.heap.size ≤ W.heap.size ∧ w62.heap.size ≤ W.heap.size ∧ w91.heap.size ≤ W.heap.size ∧ (∀ s ∈ obl (.slice A24 hs22.length c25), s ∉ obl (.slice Ao ys.length co)) ∧ (∀ s ∈ obl (.slice A43 hs45.length c44), s ∉ obl (.slice Ao ys.length co)) ∧ (∀ s ∈ obl (.slice A40 (dropP (fvs hs22) nm23).length c41), s ∉ obl (.slice Ao ys.length co)) ∧ (∀ s ∈ obl (.slice A64 hs66.length c65), s ∉ obl (.slice Ao ys.length co))) (fun ⟨i, Ao, co, ys⟩ => hs22.length - i) (0, (some ⟨g122, 0, none⟩), 0, []) ?_ ?_ ?_
        · exact ⟨rfl, rfl, rfl, rfl, rfl, rfl, trivial⟩
        · refine ⟨⟨Nat.zero_le _, by simp [cutAt, fvs], SzOK.nil, by simp⟩, hR0, hO26, hD29, hO46, hDO47, hO42, hO67, hDO68, hR74, hO127.less (by omega), ⟨0, by omega, DX.nil⟩, hc, (by omega), (by omega), (by omega), (by omega), (fun s hs hs2 => by first | (have h1 := hO26.off s hs; have h2 := hub51 s hs2; omega) | (have h1 := hO26.off s hs; have h2 := hub54 s hs2; omega) | (have h1 := hO26.off s hs; have h2 := hub76 s hs2; omega) | (have h1 := hO26.off s hs; have h2 := hub129 s hs2; omega) | (have h1 := hO46.off s hs; have h2 := hub27 s hs2; omega) | (have h1 := hO46.off s hs; have h2 := hub54 s hs2; omega) | (have h1 := hO46.off s hs; have h2 := hub76 s hs2; omega) | (have h1 := hO46.off s hs; have h2 := hub129 s hs2; omega) | (have h1 := hO42.off s hs; have h2 := hub27 s hs2; omega) | (have h1 := hO42.off s hs; have h2 := hub51 s hs2; omega) | (have h1 := hO42.off s hs; have h2 := hub76 s hs2; omega) | (have h1 := hO42.off s hs; have h2 := hub129 s hs2; omega) | (have h1 := hO67.off s hs; have h2 := hub27 s hs2; omega) | (have h1 := hO67.off s hs; have h2 := hub51 s hs2; omega) | (have h1 := hO67.off s hs; have h2 := hub54 s hs2; omega) | (have h1 := hO67.off s hs; have h2 := hub129 s hs2; omega) | (have h1 := hO127.off s hs; have h2 := hub27 s hs2; omega) | (have h1 := hO127.off s hs; have h2 := hub51 s hs2; omega) | (have h1 := hO127.off s hs; have h2 := hub54 s hs2; omega) | (have h1 := hO127.off s hs; have h2 := hub76 s hs2; omega) | (have h1 := hub27 s hs; have h2 := hO46.off s hs2; omega) | (have h1 := hub27 s hs; have h2 := hO42.off s hs2; omega) | (have h1 := hub27 s hs; have h2 := hO67.off s hs2; omega) | (have h1 := hub27 s hs; have h2 := hO127.off s hs2; omega) | (have h1 := hub51 s hs; have h2 := hO26.off s hs2; omega) | (have h1 := hub51 s hs; have h2 := hO42.off s hs2; omega) | (have h1 := hub51 s hs; have h2 := hO67.off s hs2; omega) | (have h1 := hub51 s hs; have h2 := hO127.off s hs2; omega) | (have h1 := hub54 s hs; have h2 := hO26.off s hs2; omega) | (have h1 := hub54 s hs; have h2 := hO46.off s hs2; omega) | (have h1 := hub54 s hs; have h2 := hO67.off s hs2; omega) | (have h1 := hub54 s hs; have h2 := hO127.off s hs2; omega) | (have h1 := hub76 s hs; have h2 := hO26.off s hs2; omega) | (have h1 := hub76 s hs; have h2 := hO46.off s hs2; omega) | (have h1 := hub76 s hs; have h2 := hO42.off s hs2; omega) | (have h1 := hub76 s hs; have h2 := hO127.off s hs2; omega) | (have h1 := hub129 s hs; have h2 := hO26.off s hs2; omega) | (have h1 := hub129 s hs; have h2 := hO46.off s hs2; omega) | (have h1 := hub129 s hs; have h2 := hO42.off s hs2; omega) | (have h1 := hub129 s hs; have h2 := hO67.off s hs2; omega) | (simp [obl, Value.ownBlock] at hs; done) | (simp [obl, Value.ownBlock] at hs2; done)), (fun s hs hs2 => by first | (have h1 := hO26.off s hs; have h2 := hub51 s hs2; omega) | (have h1 := hO26.off s hs; have h2 := hub54 s hs2; omega) | (have h1 := hO26.off s hs; have h2 := hub76 s hs2; omega) | (have h1 := hO26.off s hs; have h2 := hub129 s hs2; omega) | (have h1 := hO46.off s hs; have h2 := hub27 s hs2; omega) | (have h1 := hO46.off s hs; have h2 := hub54 s hs2; omega) | (have h1 := hO46.off s hs; have h2 := hub76 s hs2; omega) | (have h1 := hO46.off s hs; have h2 := hub129 s hs2; omega) | (have h1 := hO42.off s hs; have h2 := hub27 s hs2; omega) | (have h1 := hO42.off s hs; have h2 := hub51 s hs2; omega) | (have h1 := hO42.off s hs; have h2 := hub76 s hs2; omega) | (have h1 := hO42.off s hs; have h2 := hub129 s hs2; omega) | (have h1 := hO67.off s hs; have h2 := hub27 s hs2; omega) | (have h1 := hO67.off s hs; have h2 := hub51 s hs2; omega) | (have h1 := hO67.off s hs; have h2 := hub54 s hs2; omega) | (have h1 := hO67.off s hs; have h2 := hub129 s hs2; omega) | (have h1 := hO127.off s hs; have h2 := hub27 s hs2; omega) | (have h1 := hO127.off s hs; have h2 := hub51 s hs2; omega) | (have h1 := hO127.off s hs; have h2 := hub54 s hs2; omega) | (have h1 := hO127.off s hs; have h2 := hub76 s hs2; omega) | (have h1 := hub27 s hs; have h2 := hO46.off s hs2; omega) | (have h1 := hub27 s hs; have h2 := hO42.off s hs2; omega) | (have h1 := hub27 s hs; have h2 := hO67.off s hs2; omega) | (have h1 := hub27 s hs; have h2 := hO127.off s hs2; omega) | (have h1 := hub51 s hs; have h2 := hO26.off s hs2; omega) | (have h1 := hub51 s hs; have h2 := hO42.off s hs2; omega) | (have h1 := hub51 s hs; have h2 := hO67.off s hs2; omega) | (have h1 := hub51 s hs; have h2 := hO127.off s hs2; omega) | (have h1 := hub54 s hs; have h2 := hO26.off s hs2; omega) | (have h1 := hub54 s hs; have h2 := hO46.off s hs2; omega) | (have h1 := hub54 s hs; have h2 := hO67.off s hs2; omega) | (have h1 := hub54 s hs; have h2 := hO127.off s hs2; omega) | (have h1 := hub76 s hs; have h2 := hO26.off s hs2; omega) | (have h1 := hub76 s hs; have h2 := hO46.off s hs2; omega) | (have h1 := hub76 s hs; have h2 := hO42.off s hs2; omega) | (have h1 := hub76 s hs; have h2 := hO127.off s hs2; omega) | (have h1 := hub129 s hs; have h2 := hO26.off s hs2; omega) | (have h1 := hub129 s hs; have h2 := hO46.off s hs2; omega) | (have h1 := hub129 s hs; have h2 := hO42.off s hs2; omega) | (have h1 := hub129 s hs; have h2 := hO67.off s hs2; omega) | (simp [obl, Value.ownBlock] at hs; done) | (simp [obl, Value.ownBlock] at hs2; done)), (fun s hs hs2 => by first | (have h1 := hO26.off s hs; have h2 := hub51 s hs2; omega) | (have h1 := hO26.off s hs; have h2 := hub54 s hs2; omega) | (have h1 := hO26.off s hs; have h2 := hub76 s hs2; omega) | (have h1 := hO26.off s hs; have h2 := hub129 s hs2; omega) | (have h1 := hO46.off s hs; have h2 := hub27 s hs2; omega) | (have h1 := hO46.off s hs; have h2 := hub54 s hs2; omega) | (have h1 := hO46.off s hs; have h2 := hub76 s hs2; omega) | (have h1 := hO46.off s hs; have h2 := hub129 s hs2; omega) | (have h1 := hO42.off s hs; have h2 := hub27 s hs2; omega) | (have h1 := hO42.off s hs; have h2 := hub51 s hs2; omega) | (have h1 := hO42.off s hs; have h2 := hub76 s hs2; omega) | (have h1 := hO42.off s hs; have h2 := hub129 s hs2; omega) | (have h1 := hO67.off s hs; have h2 := hub27 s hs2; omega) | (have h1 := hO67.off s hs; have h2 := hub51 s hs2; omega) | (have h1 := hO67.off s hs; have h2 := hub54 s hs2; omega) | (have h1 := hO67.off s hs; have h2 := hub129 s hs2; omega) | (have h1 := hO127.off s hs; have h2 := hub27 s hs2; omega) | (have h1 := hO127.off s hs; have h2 := hub51 s hs2; omega) | (have h1 := hO127.off s hs; have h2 := hub54 s hs2; omega) | (have h1 := hO127.off s hs; have h2 := hub76 s hs2; omega) | (have h1 := hub27 s hs; have h2 := hO46.off s hs2; omega) | (have h1 := hub27 s hs; have h2 := hO42.off s hs2; omega) | (have h1 := hub27 s hs; have h2 := hO67.off s hs2; omega) | (have h1 := hub27 s hs; have h2 := hO127.off s hs2; omega) | (have h1 := hub51 s hs; have h2 := hO26.off s hs2; omega) | (have h1 := hub51 s hs; have h2 := hO42.off s hs2; omega) | (have h1 := hub51 s hs; have h2 := hO67.off s hs2; omega) | (have h1 := hub51 s hs; have h2 := hO127.off s hs2; omega) | (have h1 := hub54 s hs; have h2 := hO26.off s hs2; omega) | (have h1 := hub54 s hs; have h2 := hO46.off s hs2; omega) | (have h1 := hub54 s hs; have h2 := hO67.off s hs2; omega) | (have h1 := hub54 s hs; have h2 := hO127.off s hs2; omega) | (have h1 := hub76 s hs; have h2 := hO26.off s hs2; omega) | (have h1 := hub76 s hs; have h2 := hO46.off s hs2; omega) | (have h1 := hub76 s hs; have h2 := hO42.off s hs2; omega) | (have h1 := hub76 s hs; have h2 := hO127.off s hs2; omega) | (have h1 := hub129 s hs; have h2 := hO26.off s hs2; omega) | (have h1 := hub129 s hs; have h2 := hO46.off s hs2; omega) | (have h1 := hub129 s hs; have h2 := hO42.off s hs2; omega) | (have h1 := hub129 s hs; have h2 := hO67.off s hs2; omega) | (simp [obl, Value.ownBlock] at hs; done) | (simp [obl, Value.ownBlock] at hs2; done)), (fun s hs hs2 => by first | (have h1 := hO26.off s hs; have h2 := hub51 s hs2; omega) | (have h1 := hO26.off s hs; have h2 := hub54 s hs2; omega) | (have h1 := hO26.off s hs; have h2 := hub76 s hs2; omega) | (have h1 := hO26.off s hs; have h2 := hub129 s hs2; omega) | (have h1 := hO46.off s hs; have h2 := hub27 s hs2; omega) | (have h1 := hO46.off s hs; have h2 := hub54 s hs2; omega) | (have h1 := hO46.off s hs; have h2 := hub76 s hs2; omega) | (have h1 := hO46.off s hs; have h2 := hub129 s hs2; omega) | (have h1 := hO42.off s hs; have h2 := hub27 s hs2; omega) | (have h1 := hO42.off s hs; have h2 := hub51 s hs2; omega) | (have h1 := hO42.off s hs; have h2 := hub76 s hs2; omega) | (have h1 := hO42.off s hs; have h2 := hub129 s hs2; omega) | (have h1 := hO67.off s hs; have h2 := hub27 s hs2; omega) | (have h1 := hO67.off s hs; have h2 := hub51 s hs2; omega) | (have h1 := hO67.off s hs; have h2 := hub54 s hs2; omega) | (have h1 := hO67.off s hs; have h2 := hub129 s hs2; omega) | (have h1 := hO127.off s hs; have h2 := hub27 s hs2; omega) | (have h1 := hO127.off s hs; have h2 := hub51 s hs2; omega) | (have h1 := hO127.off s hs; have h2 := hub54 s hs2; omega) | (have h1 := hO127.off s hs; have h2 := hub76 s hs2; omega) | (have h1 := hub27 s hs; have h2 := hO46.off s hs2; omega) | (have h1 := hub27 s hs; have h2 := hO42.off s hs2; omega) | (have h1 := hub27 s hs; have h2 := hO67.off s hs2; omega) | (have h1 := hub27 s hs; have h2 := hO127.off s hs2; omega) | (have h1 := hub51 s hs; have h2 := hO26.off s hs2; omega) | (have h1 := hub51 s hs; have h2 := hO42.off s hs2; omega) | (have h1 := hub51 s hs; have h2 := hO67.off s hs2; omega) | (have h1 := hub51 s hs; have h2 := hO127.off s hs2; omega) | (have h1 := hub54 s hs; have h2 := hO26.off s hs2; omega) | (have h1 := hub54 s hs; have h2 := hO46.off s hs2; omega) | (have h1 := hub54 s hs; have h2 := hO67.off s hs2; omega) | (have h1 := hub54 s hs; have h2 := hO127.off s hs2; omega) | (have h1 := hub76 s hs; have h2 := hO26.off s hs2; omega) | (have h1 := hub76 s hs; have h2 := hO46.off s hs2; omega) | (have h1 := hub76 s hs; have h2 := hO42.off s hs2; omega) | (have h1 := hub76 s hs; have h2 := hO127.off s hs2; omega) | (have h1 := hub129 s hs; have h2 := hO26.off s hs2; omega) | (have h1 := hub129 s hs; have h2 := hO46.off s hs2; omega) | (have h1 := hub129 s hs; have h2 := hO42.off s hs2; omega) | (have h1 := hub129 s hs; have h2 := hO67.off s hs2; omega) | (simp [obl, Value.ownBlock] at hs; done) | (simp [obl, Value.ownBlock] at hs2; done))⟩
        · rintro ⟨i, Ao, co, ys⟩ J148 w136 ⟨⟨hi, hyv, hZy, hyl⟩, hR0, hO26, hD29, hO46, hDO47, hO42, hO67, hDO68, hR74, hO127, hDr, hc, hmono137, hmono138, hmono139, hmono140, hdj141, hdj142, hdj143, hdj144⟩ K145 hK146
          have hsz150 := hc.size
          obtain ⟨B1_151, hB1152, hDr⟩ := hDr
          have hub153 := hO26.lt
          have hub154 := hO46.lt
          have hub155 := hO42.lt
          have hub156 := hO67.lt
          have hubOut := hO127.lt
          refine cw_seq fun K157 hK158 => ?_
          refine cw_seq fun K159 hK160 => ?_
          refine cw_region fun K161 hK162 => ?_
          refine rw_cons (op_pv (w0 rfl) rfl rfl (pv_move (v := (.int .i64 (i : Int))) rfl rfl) ?_)
          refine rw_cons (op_pv (w0 rfl) rfl rfl (pv_move (v := (.slice A24 hs22.length c25)) rfl rfl) ?_)
          refine rw_cons (op_pv (w0 rfl) rfl rfl (pv_len Try.underlying24 rfl rfl) ?_)
          refine rw_cons (op_pv (w0 rfl) rfl rfl (pv_lss rfl rfl rfl) ?_)
          refine rw_nil (hK162 _ _ ?_)
          refine hK160 _ _ ?_
          refine cw_cond rfl (fun h163 => ?_) (fun h163 => ?_)
          · -- then
            replace h163 := of_decide_eq_true h163
            refine cw_skip ?_
            refine hK158 _ _ ?_
            refine cw_seq fun K164 hK165 => ?_
            refine cw_block ?_
            refine cw_seq fun K166 hK167 => ?_
            have hzk := ‹SzOK hs22› i (by omega)
            obtain ⟨mr1, mr2, mr3⟩ := drop_rest hok hp (i := i) (by omega)
            have hgn := (hD29.rs (k := i) (by omega)).len
            refine cw_region fun K168 hK169 => ?_
            refine rw_cons (op_pv (w0 rfl) rfl rfl (pv_move (v := (.slice A24 hs22.length c25)) rfl rfl) ?_)
            refine rw_cons (op_pv (w0 rfl) rfl rfl (pv_move (v := (.int .i64 (i : Int))) rfl rfl) ?_)
            refine rw_cons (op_pv (w0 rfl) rfl rfl (pv_idx Try.underlying24 T48 rfl rfl rfl ((hO26.rs (fun _ => rfl)).some (k := i) (by omega)) (by omega) (by omega)) ?_)
            refine rw_cons (op_pv (w0 rfl) rfl rfl (pv_fld F48_0 rfl rfl) ?_)
            have hR170 : RS encI 1 w136 w20.heap.size (el hs22 i).A (el hs22 i).n (el hs22 i).ps := hD29.rs (k := i) (by omega)
            have hln171 := hR170.len
            refine rw_cons (op_lv (w0 rfl) rfl rfl (lv_load T9 rfl rfl ((hO26.rs (fun _ => rfl)).cellE (k := i) (j := 0) (by omega) rfl)) ?_)
            refine rw_cons (op_pv (w0 rfl) rfl rfl (pv_move (v := (.string nm23)) rfl rfl) ?_)
            refine rw_cons (op_pv (w0 rfl) rfl rfl (pv_neS rfl rfl rfl) ?_)
            refine rw_nil (hK169 _ _ ?_)
            refine hK167 _ _ ?_
            refine cw_cond rfl (fun h172 => ?_) (fun h172 => ?_)
            · -- then
              replace h172 := not_t h172
              replace h172 := of_decide_eq_false h172
              refine cw_region fun K173 hK174 => ?_
              refine rw_cons (op_pv (w0 rfl) rfl rfl (pv_move (v := (.slice Ao ys.length co)) rfl rfl) ?_)
              refine rw_cons (op_pv (w0 rfl) rfl rfl (pv_move (v := (.slice A24 hs22.length c25)) rfl rfl) ?_)
              refine rw_cons (op_pv (w0 rfl) rfl rfl (pv_move (v := (.int .i64 (i : Int))) rfl rfl) ?_)
              refine rw_cons (op_pv (w0 rfl) rfl rfl (pv_idx Try.underlying24 T48 rfl rfl rfl ((hO26.rs (fun _ => rfl)).some (k := i) (by omega)) (by omega) (by omega)) ?_)
              have hR175 : RS encI 1 w136 w20.heap.size (el hs22 i).A (el hs22 i).n (el hs22 i).ps := hD29.rs (k := i) (by omega)
              have hln176 := hR175.len
              refine rw_cons (op_lv (w0 rfl) rfl rfl (lv_loadN T48 rfl rfl rfl (fun j v hv => (hO26.rs (fun _ => rfl)).cellE (k := i) (by omega) hv)) ?_)
              refine rw_cons (op_bslice [(.agg #[(.string (el hs22 i).nm), (.slice (el hs22 i).A (el hs22 i).n (el hs22 i).c)])] Try.underlying24 T48 (w0 rfl) rfl rfl rfl rfl rfl (by simp [Value.cells]) (by decide) ?_)
              intro g178 w177 hg181 hg182 hK180 hch179
              have hO183 : Own encF 2 w177 w136.heap.size 48 (.slice (some ⟨g178, 0, none⟩) 1 1) ([⟨(el hs22 i).nm, (el hs22 i).A, (el hs22 i).n, (el hs22 i).c, (el hs22 i).ps⟩] : List Fl) := Blk.own (xs := ([⟨(el hs22 i).nm, (el hs22 i).A, (el hs22 i).n, (el hs22 i).c, (el hs22 i).ps⟩] : List Fl)) hK180 (by omega) rfl (by decide) rfl
              have hsz184 := hch179.size
              replace hR0 := hR0.ch0 hch179
              replace hO26 := hO26.ch0 hch179
              replace hD29 := hD29.ch0 hch179
              replace hO46 := hO46.ch0 hch179
              replace hDO47 := hDO47.ch0 hch179
              replace hO42 := hO42.ch0 hch179
              replace hO67 := hO67.ch0 hch179
              replace hDO68 := hDO68.ch0 hch179
              replace hR74 := hR74.ch0 hch179
              replace hO127 := hO127.ch0 hch179
              replace hDr := hDr.ch0 hch179
              replace hR170 := hR170.ch0 hch179
              replace hR175 := hR175.ch0 hch179
              replace hc := hc.step0 hch179
              have hub185 := hO183.lt
              refine rw_cons (op_append Try.underlying24 T48 (fun _ => rfl) rfl (by decide) (fun _ => one_all rfl) (w0 rfl) rfl rfl rfl rfl rfl hO127 (hO183.rs (fun _ => rfl)) (by unfold maxLen; first | omega | (simp; omega)) (by first | omega | (simp; omega)) (by omega) ?_)
              rintro v186 w187 hO188 hch189 hs190
              have hl191 : (ys ++ ([⟨(el hs22 i).nm, (el hs22 i).A, (el hs22 i).n, (el hs22 i).c, (el hs22 i).ps⟩] : List Fl)).length = ys.length + 1 := by first | (have hl0 := (hO183.rs (fun _ => rfl)).len; omega) | (have hl0 := (hO183.rs (fun _ => rfl)).len; simp only [List.length_append, List.length_cons, List.length_nil] at hl0 ⊢; omega) | (simp; omega; done) | simp | rfl
              clear hO183
              have hsz196 := hch189.size
              replace hR0 := hR0.ch hch189 (hO127.off.le (by omega))
              replace hO26 := hO26.ch hch189 (dj_as hdj141)
              replace hD29 := hD29.ch hch189 (fun s hs => by first | exact .inr (.inl hs) | exact .inr (.inl (obl_any hs)) | exact .inr (.inr (Nat.le_trans (by omega) (hO127.off s hs))) | exact .inl (Nat.lt_of_lt_of_le (hubOut s hs) (by omega)))
              replace hO46 := hO46.ch hch189 (dj_as hdj142)
              replace hDO47 := hDO47.ch hch189 (fun s hs => by first | exact .inr (.inl hs) | exact .inr (.inl (obl_any hs)) | exact .inr (.inr (Nat.le_trans (by omega) (hO127.off s hs))) | exact .inl (Nat.lt_of_lt_of_le (hubOut s hs) (by omega)))
              replace hO42 := hO42.ch hch189 (dj_as hdj143)
              replace hO67 := hO67.ch hch189 (dj_as hdj144)
              replace hDO68 := hDO68.ch hch189 (fun s hs => by first | exact .inr (.inl hs) | exact .inr (.inl (obl_any hs)) | exact .inr (.inr (Nat.le_trans (by omega) (hO127.off s hs))) | exact .inl (Nat.lt_of_lt_of_le (hubOut s hs) (by omega)))
              replace hR74 := hR74.ch hch189 (hO127.off.le (by omega))
              replace hDr := hDr.ch hch189 (fun s hs => by first | exact .inr (.inl hs) | exact .inr (.inl (obl_any hs)) | exact .inr (.inr (Nat.le_trans (by omega) (hO127.off s hs))) | exact .inl (Nat.lt_of_lt_of_le (hubOut s hs) (by omega)))
              replace hR170 := hR170.ch hch189 (hO127.off.le (by omega))
              replace hR175 := hR175.ch hch189 (hO127.off.le (by omega))
              replace hc := (hO127.off.le (by omega)).step hc hch189
              have hub197 := hO188.lt
              obtain ⟨A198, c199, hv200, hcap201, hcap202⟩ := hO188.form; subst hv200
              have hdj192 : ∀ s ∈ obl (.slice A198 (ys ++ ([⟨(el hs22 i).nm, (el hs22 i).A, (el hs22 i).n, (el hs22 i).c, (el hs22 i).ps⟩] : List Fl)).length c199), s ∉ obl (.slice A24 hs22.length c25) := dj_new hs190 (dj_sw hdj141) (fun s hs => by have := hub153 s hs; omega)
              have hdj193 : ∀ s ∈ obl (.slice A198 (ys ++ ([⟨(el hs22 i).nm, (el hs22 i).A, (el hs22 i).n, (el hs22 i).c, (el hs22 i).ps⟩] : List Fl)).length c199), s ∉ obl (.slice A43 hs45.length c44) := dj_new hs190 (dj_sw hdj142) (fun s hs => by have := hub154 s hs; omega)
              have hdj194 : ∀ s ∈ obl (.slice A198 (ys ++ ([⟨(el hs22 i).nm, (el hs22 i).A, (el hs22 i).n, (el hs22 i).c, (el hs22 i).ps⟩] : List Fl)).length c199), s ∉ obl (.slice A40 (dropP (fvs hs22) nm23).length c41) := dj_new hs190 (dj_sw hdj143) (fun s hs => by have := hub155 s hs; omega)
              have hdj195 : ∀ s ∈ obl (.slice A198 (ys ++ ([⟨(el hs22 i).nm, (el hs22 i).A, (el hs22 i).n, (el hs22 i).c, (el hs22 i).ps⟩] : List Fl)).length c199), s ∉ obl (.slice A64 hs66.length c65) := dj_new hs190 (dj_sw hdj144) (fun s hs => by have := hub156 s hs; omega)
              refine rw_cons (op_pv (w0 rfl) rfl rfl (pv_assign (v := (.slice A198 (ys ++ ([⟨(el hs22 i).nm, (el hs22 i).A, (el hs22 i).n, (el hs22 i).c, (el hs22 i).ps⟩] : List Fl)).length c199)) rfl rfl) ?_)
              refine rw_nil (hK174 _ _ ?_)
              refine hK165 _ _ ?_
              refine cw_region fun K203 hK204 => ?_
              refine rw_cons (op_pv (w0 rfl) rfl rfl (pv_move (v := (.int .i64 (i : Int))) rfl rfl) ?_)
              refine rw_cons (op_pv (w0 rfl) rfl rfl (pv_add rfl rfl rfl (by omega) (by omega)) ?_)
              refine rw_cons (op_pv (w0 rfl) rfl rfl (pv_assign (v := (.int .i64 ((i : Int) + 1))) rfl rfl) ?_)
              refine rw_nil (hK204 _ _ ?_)
              have hxo : ∀ s ∈ obl (.slice A198 (ys ++ ([⟨(el hs22 i).nm, (el hs22 i).A, (el hs22 i).n, (el hs22 i).c, (el hs22 i).ps⟩] : List Fl)).length c199), w20.heap.size ≤ s := fun s h => by have := hO188.off s h; omega
              have hD9 : DXo 0 (obl (.slice A198 (ys ++ ([⟨(el hs22 i).nm, (el hs22 i).A, (el hs22 i).n, (el hs22 i).c, (el hs22 i).ps⟩] : List Fl)).length c199)) w187 (ys ++ ([⟨(el hs22 i).nm, (el hs22 i).A, (el hs22 i).n, (el hs22 i).c, (el hs22 i).ps⟩] : List Fl)) := ⟨w187.heap.size, Nat.le_refl _, (hDr.rex (Y := obl (.slice A198 (ys ++ ([⟨(el hs22 i).nm, (el hs22 i).A, (el hs22 i).n, (el hs22 i).c, (el hs22 i).ps⟩] : List Fl)).length c199)) (fun s h => by rcases hs190 s h with h8 | h8; exact .inl h8; right; omega)).snocX hD29 (k := i) (by omega) (by omega) hxo (by omega) (by omega)⟩
              refine hK146 _ _ (i + 1, A198, c199, (ys ++ ([⟨(el hs22 i).nm, (el hs22 i).A, (el hs22 i).n, (el hs22 i).c, (el hs22 i).ps⟩] : List Fl))) ⟨rfl, (iv (by omega)), rfl, rfl, rfl, rfl, trivial⟩ ⟨?_, hR0, hO26, hD29, hO46, hDO47, hO42, hO67, hDO68, hR74, hO188, hD9, hc, (by omega), (by omega), (by omega), (by omega), (dj_sw hdj192), (dj_sw hdj193), (dj_sw hdj194), (dj_sw hdj195)⟩ ?_
              · have hip : i ≠ p := fun h9 => (by assumption : ¬ _ = _) (mr1.2 h9)
                obtain ⟨mr4, mr5⟩ := mr3 hip
                exact ⟨by omega, by rw [cut_on hip]; exact rest_snoc mr4 hyv mr5, hZy.app (SzOK.one (by dsimp only; omega) (by dsimp only; omega)), by simp; omega⟩
              · (first | omega | (simp only []; omega))
            · -- else
              replace h172 := not_f h172
              replace h172 := of_decide_eq_true h172
              refine cw_seq fun K205 hK206 => ?_
              refine cw_region fun K207 hK208 => ?_
              refine rw_cons (op_pv (w0 rfl) rfl rfl (pv_move (v := (.slice A24 hs22.length c25)) rfl rfl) ?_)
              refine rw_cons (op_pv (w0 rfl) rfl rfl (pv_move (v := (.int .i64 (i : Int))) rfl rfl) ?_)
              refine rw_cons (op_pv (w0 rfl) rfl rfl (pv_idx Try.underlying24 T48 rfl rfl rfl ((hO26.rs (fun _ => rfl)).some (k := i) (by omega)) (by omega) (by omega)) ?_)
              refine rw_cons (op_pv (w0 rfl) rfl rfl (pv_fld F48_1 rfl rfl) ?_)
              have hR209 : RS encI 1 w136 w20.heap.size (el hs22 i).A (el hs22 i).n (el hs22 i).ps := hD29.rs (k := i) (by omega)
              have hln210 := hR209.len
              refine rw_cons (op_lv (w0 rfl) rfl rfl (lv_load T25 rfl rfl ((hO26.rs (fun _ => rfl)).cellE (k := i) (j := 1) (by omega) rfl)) ?_)
              refine rw_cons (op_pv (w0 rfl) rfl rfl (pv_move (v := (.slice A40 (dropP (fvs hs22) nm23).length c41)) rfl rfl) ?_)
              refine rw_cons (op_call (w0 rfl) rfl rfl (rc_call C39 rfl rfl) (sameInts_ok _ _ _ _ _ _ (el hs22 i).ps (dropP (fvs hs22) nm23) _ (hR209.more (by omega)) (hO42.rs (fun _ => rfl)) (by omega)) ?_)
              rintro _ w211 ⟨rfl, hch212⟩
              have hsz213 := hch212.size
              replace hR0 := hR0.ch0 hch212
              replace hO26 := hO26.ch0 hch212
              replace hD29 := hD29.ch0 hch212
              replace hO46 := hO46.ch0 hch212
              replace hDO47 := hDO47.ch0 hch212
              replace hO42 := hO42.ch0 hch212
              replace hO67 := hO67.ch0 hch212
              replace hDO68 := hDO68.ch0 hch212
              replace hR74 := hR74.ch0 hch212
              replace hO127 := hO127.ch0 hch212
              replace hDr := hDr.ch0 hch212
              replace hR170 := hR170.ch0 hch212
              replace hR209 := hR209.ch0 hch212
              replace hc := hc.step0 hch212
              refine rw_cons (op_pv (w0 rfl) rfl rfl (pv_not rfl rfl) ?_)
              refine rw_nil (hK208 _ _ ?_)
              refine hK206 _ _ ?_
              refine cw_cond rfl (fun h214 => ?_) (fun h214 => ?_)
              · -- then
                replace h214 := not_t h214
                replace h214 := dec_f h214
                refine cw_seq fun K215 hK216 => ?_
                refine cw_region fun K217 hK218 => ?_
                refine rw_cons (op_pv (w0 rfl) rfl rfl (pv_assign (v := (.bool false)) rfl rfl) ?_)
                refine rw_nil (hK218 _ _ ?_)
                refine hK216 _ _ ?_
                refine cw_ret ?_
                refine fin1 rfl ?_
                exact absurd (mr2 (mr1.1 (by assumption))) (by assumption)
              · -- else
                replace h214 := not_f h214
                replace h214 := dec_t h214
                refine cw_skip ?_
                refine hK165 _ _ ?_
                refine cw_region fun K219 hK220 => ?_
                refine rw_cons (op_pv (w0 rfl) rfl rfl (pv_move (v := (.int .i64 (i : Int))) rfl rfl) ?_)
                refine rw_cons (op_pv (w0 rfl) rfl rfl (pv_add rfl rfl rfl (by omega) (by omega)) ?_)
                refine rw_cons (op_pv (w0 rfl) rfl rfl (pv_assign (v := (.int .i64 ((i : Int) + 1))) rfl rfl) ?_)
                refine rw_nil (hK220 _ _ ?_)
                have hD9 : DXo 0 (obl (.slice Ao ys.length co)) w211 ys := ⟨w211.heap.size, Nat.le_refl _, hDr.more (by omega)⟩
                refine hK146 _ _ (i + 1, Ao, co, ys) ⟨rfl, (iv (by omega)), rfl, rfl, rfl, rfl, trivial⟩ ⟨?_, hR0, hO26, hD29, hO46, hDO47, hO42, hO67, hDO68, hR74, hO127, hD9, hc, (by omega), (by omega), (by omega), (by omega), (dj_as hdj141), (dj_as hdj142), (dj_as hdj143), (dj_as hdj144)⟩ ?_
                · have hip := mr1.1 (by assumption)
                  exact ⟨by omega, by rw [hyv, hip, cut_at], hZy, by omega⟩
                · (first | omega | (simp only []; omega))
          · -- else
            replace h163 := of_decide_eq_false h163
            refine cw_exit ?_
            refine hK131 _ _ ?_
            refine cw_seq fun K221 hK222 => ?_
            refine cw_seq fun K223 hK224 => ?_
            have hrv : fvs ys = dropV (fvs hs22) nm23 := by rw [hyv]; exact el_take_all _ _ (by unfold cutAt; split <;> omega)
            refine cw_region fun K225 hK226 => ?_
            refine rw_cons (op_pv (w0 rfl) rfl rfl (pv_assign (v := (.int .i64 0)) rfl rfl) ?_)
            refine rw_nil (hK226 _ _ ?_)
            refine hK224 _ _ ?_
            refine cw_block ?_
            refine cw_loop (σ := Nat) (fun j => [(13, (.int .i64 (j : Int))), (5, (.slice A43 hs45.length c44)), (6, (.slice A40 (dropP (fvs hs22) nm23).length c41)), (11, (.slice Ao ys.length co))]) (fun j W => (j ≤ hs45.length) ∧ RS encU 1 W w.heap.size A0 n0 xs0 ∧ Own encF 2 W w.heap.size 48 (.slice A24 hs22.length c25) hs22 ∧ DX w.heap.size w20.heap.size ([]) W hs22 ∧ Own encF 2 W w20.heap.size 48 (.slice A43 hs45.length c44) hs45 ∧ DOw w20.heap.size w38.heap.size (obl (.slice A43 hs45.length c44)) 3 W hs45 ∧ Own encI 1 W w20.heap.size 3 (.slice A40 (dropP (fvs hs22) nm23).length c41) (dropP (fvs hs22) nm23) ∧ Own encF 2 W w38.heap.size 48 (.slice A64 hs66.length c65) hs66 ∧ DX w38.heap.size w62.heap.size ([]) W hs66 ∧ RS encI 1 W w62.heap.size A71 n72 (dropP (fvs hs22) nm23) ∧ Own encF 2 W w91.heap.size 48 (.slice Ao ys.length co) ys ∧ DX 0 B1_151 (obl (.slice Ao ys.length co)) W ys ∧ Ch [] w W ∧ B1_151 ≤ W.heap.size ∧ w20.heap.size ≤ W.heap.size ∧ w38.heap.size ≤ W.heap.size ∧ w62.heap.size ≤ W.heap.size ∧ w91.heap.size ≤ W.heap.size) (fun j => hs45.length - j) 0 ?_ ?_ ?_
            · exact ⟨rfl, rfl, rfl, rfl, trivial⟩
            · refine ⟨Nat.zero_le _, hR0, hO26, hD29, hO46, hDO47, hO42, hO67, hDO68, hR74, hO127, hDr, hc, (by omega), (by omega), (by omega), (by omega), (by omega)⟩
            · rintro j J236 w227 ⟨hj, hR0, hO26, hD29, hO46, hDO47, hO42, hO67, hDO68, hR74, hO127, hDr, hc, hmono228, hmono229, hmono230, hmono231, hmono232⟩ K233 hK234
              have hsz238 := hc.size
              have hub239 := hO26.lt
              have hub240 := hO46.lt
              have hub241 := hO42.lt
              have hub242 := hO67.lt
              have hub243 := hO127.lt
              refine cw_seq fun K244 hK245 => ?_
              refine cw_seq fun K246 hK247 => ?_
              refine cw_region fun K248 hK249 => ?_
              refine rw_cons (op_pv (w0 rfl) rfl rfl (pv_move (v := (.int .i64 (j : Int))) rfl rfl) ?_)
              refine rw_cons (op_pv (w0 rfl) rfl rfl (pv_move (v := (.slice A43 hs45.length c44)) rfl rfl) ?_)
              refine rw_cons (op_pv (w0 rfl) rfl rfl (pv_len Try.underlying24 rfl rfl) ?_)
              refine rw_cons (op_pv (w0 rfl) rfl rfl (pv_lss rfl rfl rfl) ?_)
              refine rw_nil (hK249 _ _ ?_)
              refine hK247 _ _ ?_
              refine cw_cond rfl (fun h250 => ?_) (fun h250 => ?_)
              · -- then
                replace h250 := of_decide_eq_true h250
                refine cw_skip ?_
                refine hK245 _ _ ?_
                refine cw_seq fun K251 hK252 => ?_
                refine cw_block ?_
                refine cw_seq fun K253 hK254 => ?_
                refine cw_region fun K255 hK256 => ?_
                refine rw_cons (op_pv (w0 rfl) rfl rfl (pv_assign (v := (.int .i64 0)) rfl rfl) ?_)
                refine rw_nil (hK256 _ _ ?_)
                refine hK254 _ _ ?_
                refine cw_block ?_
                refine cw_loop (σ := Nat) (fun k => [(14, (.int .i64 (k : Int))), (5, (.slice A43 hs45.length c44)), (6, (.slice A40 (dropP (fvs hs22) nm23).length c41)), (11, (.slice Ao ys.length co)), (13, (.int .i64 (j : Int))), (98, (.int .i64 (j : Int))), (99, (.slice A43 hs45.length c44)), (100, (.int .i64 (hs45.length : Int))), (101, (.bool (decide ((j : Int) < (hs45.length : Int)))))]) (fun k W => (k ≤ (dropP (fvs hs22) nm23).length) ∧ RS encU 1 W w.heap.size A0 n0 xs0 ∧ Own encF 2 W w.heap.size 48 (.slice A24 hs22.length c25) hs22 ∧ DX w.heap.size w20.heap.size ([]) W hs22 ∧ Own encF 2 W w20.heap.size 48 (.slice A43 hs45.length c44) hs45 ∧ DOw w20.heap.size w38.heap.size (obl (.slice A43 hs45.length c44)) 3 W hs45 ∧ Own encI 1 W w20.heap.size 3 (.slice A40 (dropP (fvs hs22) nm23).length c41) (dropP (fvs hs22) nm23) ∧ Own encF 2 W w38.heap.size 48 (.slice A64 hs66.length c65) hs66 ∧ DX w38.heap.size w62.heap.size ([]) W hs66 ∧ RS encI 1 W w62.heap.size A71 n72 (dropP (fvs hs22) nm23) ∧ Own encF 2 W w91.heap.size 48 (.slice Ao ys.length co) ys ∧ DX 0 B1_151 (obl (.slice Ao ys.length co)) W ys ∧ Ch [] w W ∧ B1_151 ≤ W.heap.size ∧ w20.heap.size ≤ W.heap.size ∧ w38.heap.size ≤ W.heap.size ∧ w62.heap.size ≤ W.heap.size ∧ w91.heap.size ≤ W.heap.size) (fun k => (dropP (fvs hs22) nm23).length - k) 0 ?_ ?_ ?_
                · exact ⟨rfl, rfl, rfl, rfl, rfl, rfl, rfl, rfl, rfl, trivial⟩
                · refine ⟨Nat.zero_le _, hR0, hO26, hD29, hO46, hDO47, hO42, hO67, hDO68, hR74, hO127, hDr, hc, (by omega), (by omega), (by omega), (by omega), (by omega)⟩
                · rintro k J266 w257 ⟨hk, hR0, hO26, hD29, hO46, hDO47, hO42, hO67, hDO68, hR74, hO127, hDr, hc, hmono258, hmono259, hmono260, hmono261, hmono262⟩ K263 hK264
                  have hsz268 := hc.size
                  have hub269 := hO26.lt
                  have hub270 := hO46.lt
                  have hub271 := hO42.lt
                  have hub272 := hO67.lt
                  have hub273 := hO127.lt
                  have hzg := ‹SzOK hs45› j (by omega)
                  refine cw_seq fun K274 hK275 => ?_
                  refine cw_seq fun K276 hK277 => ?_
                  refine cw_region fun K278 hK279 => ?_
                  refine rw_cons (op_pv (w0 rfl) rfl rfl (pv_move (v := (.int .i64 (k : Int))) rfl rfl) ?_)
                  refine rw_cons (op_pv (w0 rfl) rfl rfl (pv_move (v := (.slice A40 (dropP (fvs hs22) nm23).length c41)) rfl rfl) ?_)
                  refine rw_cons (op_pv (w0 rfl) rfl rfl (pv_len Try.underlying25 rfl rfl) ?_)
                  refine rw_cons (op_pv (w0 rfl) rfl rfl (pv_lss rfl rfl rfl) ?_)
                  refine rw_nil (hK279 _ _ ?_)
                  refine hK277 _ _ ?_
                  refine cw_cond rfl (fun h280 => ?_) (fun h280 => ?_)
                  · -- then
                    replace h280 := of_decide_eq_true h280
                    refine cw_skip ?_
                    refine hK275 _ _ ?_
                    refine cw_seq fun K281 hK282 => ?_
                    refine cw_block ?_
                    refine cw_seq fun K283 hK284 => ?_
                    refine cw_drawn (fun u => Ch [] w257 u) (.free 0 (.free 1 (.free 2 (.free 3 (.free 4 (.free 5 (.free 6 (.free 7 (.free 8 (.one 9 false (.done))))))))))) (by kernel_rfl) (by kernel_rfl) (Ch.refl _ _).drew fun K288 hK289 => ?_
                    obtain ⟨w285, hw_, hch286, hsz287⟩ : ∃ w1 : World, w1 = w257.drew ∧ Ch [] w257 w1 ∧ w1.heap.size = w257.heap.size := ⟨_, rfl, (Ch.refl _ _).drew, rfl⟩
                    rw [← hw_]; clear hw_
                    have hr290 : Ch [] w257 w285 := hch286.sub (fun s hs => by cases hs)
                    have hR0_r := hR0
                    have hO26_r := hO26
                    have hD29_r := hD29
                    have hO46_r := hO46
                    have hDO47_r := hDO47
                    have hO42_r := hO42
                    have hO67_r := hO67
                    have hDO68_r := hDO68
                    have hR74_r := hR74
                    have hO127_r := hO127
                    have hDr_r := hDr
                    have hsz291 := hch286.size
                    replace hR0 := hR0.ch0 hch286
                    replace hO26 := hO26.ch0 hch286
                    replace hD29 := hD29.ch0 hch286
                    replace hO46 := hO46.ch0 hch286
                    replace hDO47 := hDO47.ch0 hch286
                    replace hO42 := hO42.ch0 hch286
                    replace hO67 := hO67.ch0 hch286
                    replace hDO68 := hDO68.ch0 hch286
                    replace hR74 := hR74.ch0 hch286
                    replace hO127 := hO127.ch0 hch286
                    replace hDr := hDr.ch0 hch286
                    replace hc := hc.step0 hch286
                    refine tw_free rfl (w0 rfl) rfl rfl (fun u hu => (pv_move (v := (.slice A43 hs45.length c44)) rfl rfl : PV _ _ _ _) u) ?_
                    refine tw_free rfl (w0 rfl) rfl rfl (fun u hu => (pv_move (v := (.int .i64 (j : Int))) rfl rfl : PV _ _ _ _) u) ?_
                    refine tw_free rfl (w0 rfl) rfl rfl (fun u hu => (pv_idx Try.underlying24 T48 rfl rfl rfl ((hO46.rs (fun _ => rfl)).some (k := j) (by omega)) (by omega) (by omega) : PV _ _ _ _) u) ?_
                    refine tw_free rfl (w0 rfl) rfl rfl (fun u hu => (pv_fld F48_1 rfl rfl : PV _ _ _ _) u) ?_
                    refine tw_free rfl (w0 rfl) rfl rfl (fun u hu => lv_load T25 rfl rfl (((hO46_r.ch0 hu).rs (fun _ => rfl)).cellE (k := j) (j := 1) (by omega) rfl)) ?_
                    have hR292 : RS encI 1 w285 w38.heap.size (el hs45 j).A (el hs45 j).n (el hs45 j).ps := hDO47.rs (k := j) (by omega)
                    have hR292_r : RS encI 1 w257 w38.heap.size (el hs45 j).A (el hs45 j).n (el hs45 j).ps := hDO47_r.rs (k := j) (by omega)
                    have hln293 := hR292.len
                    refine tw_free rfl (w0 rfl) rfl rfl (fun u hu => (pv_move (v := (.slice A40 (dropP (fvs hs22) nm23).length c41)) rfl rfl : PV _ _ _ _) u) ?_
                    refine tw_free rfl (w0 rfl) rfl rfl (fun u hu => (pv_move (v := (.int .i64 (k : Int))) rfl rfl : PV _ _ _ _) u) ?_
                    refine tw_free rfl (w0 rfl) rfl rfl (fun u hu => (pv_idx Try.underlying25 T3 rfl rfl rfl ((hO42.rs (fun _ => rfl)).some (k := k) (by omega)) (by omega) (by omega) : PV _ _ _ _) u) ?_
                    refine tw_free rfl (w0 rfl) rfl rfl (fun u hu => lv_load T3 rfl rfl (((hO42_r.ch0 hu).rs (fun _ => rfl)).cell0 (k := k) (by omega) rfl)) ?_
                    refine tw_one rfl (op_call (w0 rfl) rfl rfl (rc_call C41 rfl rfl) (hasInt_ok _ (el hs45 j).n _ (el hs45 j).ps (el (dropP (fvs hs22) nm23) k) _ (hR292.more (by omega)) (by omega)) ?_)
                    rintro _ w294 ⟨rfl, hch295⟩
                    have hsz296 := hch295.size
                    replace hR0 := hR0.ch0 hch295
                    replace hO26 := hO26.ch0 hch295
                    replace hD29 := hD29.ch0 hch295
                    replace hO46 := hO46.ch0 hch295
                    replace hDO47 := hDO47.ch0 hch295
                    replace hO42 := hO42.ch0 hch295
                    replace hO67 := hO67.ch0 hch295
                    replace hDO68 := hDO68.ch0 hch295
                    replace hR74 := hR74.ch0 hch295
                    replace hO127 := hO127.ch0 hch295
                    replace hDr := hDr.ch0 hch295
                    replace hR292 := hR292.ch0 hch295
                    replace hc := hc.step0 hch295
                    replace hr290 := hr290.step0 hch295
                    refine ⟨fun h => (by cases h), ?_⟩
                    try clear hD29_r
                    try clear hDO47_r
                    try clear hDO68_r
                    try clear hDr_r
                    try clear hO127_r
                    try clear hO26_r
                    try clear hO42_r
                    try clear hO46_r
                    try clear hO67_r
                    try clear hR0_r
                    try clear hR292_r
                    try clear hR74_r
                    refine tw_done (hK289 _ _ ?_)
                    refine hK284 _ _ ?_
                    refine cw_cond rfl (fun h297 => ?_) (fun h297 => ?_)
                    · -- then
                      replace h297 := dec_t h297
                      refine cw_seq fun K298 hK299 => ?_
                      refine cw_region fun K300 hK301 => ?_
                      refine rw_cons (op_pv (w0 rfl) rfl rfl (pv_assign (v := (.bool false)) rfl rfl) ?_)
                      refine rw_nil (hK301 _ _ ?_)
                      refine hK299 _ _ ?_
                      refine cw_ret ?_
                      refine fin1 rfl ?_
                      exact absurd (by assumption) (drop_apart hok hfe48 (i := j) (by omega) (el_mem (xs := dropP (fvs hs22) nm23) (j := k) (by omega)))
                    · -- else
                      replace h297 := dec_f h297
                      refine cw_skip ?_
                      refine hK282 _ _ ?_
                      refine cw_region fun K302 hK303 => ?_
                      refine rw_cons (op_pv (w0 rfl) rfl rfl (pv_move (v := (.int .i64 (k : Int))) rfl rfl) ?_)
                      refine rw_cons (op_pv (w0 rfl) rfl rfl (pv_add rfl rfl rfl (by omega) (by omega)) ?_)
                      refine rw_cons (op_pv (w0 rfl) rfl rfl (pv_assign (v := (.int .i64 ((k : Int) + 1))) rfl rfl) ?_)
                      refine rw_nil (hK303 _ _ ?_)
                      refine hK264 _ _ (k + 1) ⟨(iv (by omega)), rfl, rfl, rfl, rfl, rfl, rfl, rfl, rfl, trivial⟩ ⟨?_, hR0, hO26, hD29, hO46, hDO47, hO42, hO67, hDO68, hR74, hO127, hDr, hc, (by omega), (by omega), (by omega), (by omega), (by omega)⟩ ?_
                      · omega
                      · (first | omega | (simp only []; omega))
                  · -- else
                    replace h280 := of_decide_eq_false h280
                    refine cw_exit ?_
                    refine hK252 _ _ ?_
                    refine cw_region fun K304 hK305 => ?_
                    refine rw_cons (op_pv (w0 rfl) rfl rfl (pv_move (v := (.int .i64 (j : Int))) rfl rfl) ?_)
                    refine rw_cons (op_pv (w0 rfl) rfl rfl (pv_add rfl rfl rfl (by omega) (by omega)) ?_)
                    refine rw_cons (op_pv (w0 rfl) rfl rfl (pv_assign (v := (.int .i64 ((j : Int) + 1))) rfl rfl) ?_)
                    refine rw_nil (hK305 _ _ ?_)
                    refine hK234 _ _ (j + 1) ⟨(iv (by omega)), rfl, rfl, rfl, trivial⟩ ⟨?_, hR0, hO26, hD29, hO46, hDO47, hO42, hO67, hDO68, hR74, hO127, hDr, hc, (by omega), (by omega), (by omega), (by omega), (by omega)⟩ ?_
                    · omega
                    · (first | omega | (simp only []; omega))
              · -- else
                replace h250 := of_decide_eq_false h250
                refine cw_exit ?_
                refine hK222 _ _ ?_
                refine cw_seq fun K306 hK307 => ?_
                refine cw_region fun K308 hK309 => ?_
                refine rw_cons (op_pv (w0 rfl) rfl rfl (pv_move (v := (.slice A43 hs45.length c44)) rfl rfl) ?_)
                refine rw_cons (op_call (w0 rfl) rfl rfl (rc_call C31 rfl rfl) (FilesValid_i _ hs45.length _ hs45 _ (hO46.rs (fun _ => rfl)) (hDO47.any (by omega)) (by first | assumption | exact SzOK.nil) (by omega)) ?_)
                rintro _ w310 ⟨rfl, hch311⟩
                try rw [hfe48]
                have hsz312 := hch311.size
                replace hR0 := hR0.ch0 hch311
                replace hO26 := hO26.ch0 hch311
                replace hD29 := hD29.ch0 hch311
                replace hO46 := hO46.ch0 hch311
                replace hDO47 := hDO47.ch0 hch311
                replace hO42 := hO42.ch0 hch311
                replace hO67 := hO67.ch0 hch311
                replace hDO68 := hDO68.ch0 hch311
                replace hR74 := hR74.ch0 hch311
                replace hO127 := hO127.ch0 hch311
                replace hDr := hDr.ch0 hch311
                replace hc := hc.step0 hch311
                refine rw_cons (op_pv (w0 rfl) rfl rfl (pv_move (v := (.bool (dec (FOK (dropV (fvs hs22) nm23))))) rfl rfl) ?_)
                refine rw_split 122 rfl (fun hb313 => ?_) (fun hb313 => ?_)
                · -- yes
                  replace hb313 := dec_t hb313
                  refine rw_cons (op_pv (w1y rfl rfl rfl rfl) rfl rfl (pv_move (v := (.slice Ao ys.length co)) rfl rfl) ?_)
                  refine rw_cons (op_pv (w1y rfl rfl rfl rfl) rfl rfl (pv_move (v := (.slice A43 hs45.length c44)) rfl rfl) ?_)
                  refine rw_cons (op_call (w1y rfl rfl rfl rfl) rfl rfl (rc_call C40 rfl rfl) (sameFiles_ok _ ys.length _ ys _ hs45.length _ hs45 _ (hO127.rs (fun _ => rfl)) (hDr.any (by omega)) (by first | assumption | exact SzOK.nil) (by omega) (hO46.rs (fun _ => rfl)) (hDO47.any (by omega)) (by first | assumption | exact SzOK.nil) (by omega)) ?_)
                  rintro _ w314 ⟨rfl, hch315⟩
                  try rw [hfe48]
                  have hsz316 := hch315.size
                  replace hR0 := hR0.ch0 hch315
                  replace hO26 := hO26.ch0 hch315
                  replace hD29 := hD29.ch0 hch315
                  replace hO46 := hO46.ch0 hch315
                  replace hDO47 := hDO47.ch0 hch315
                  replace hO42 := hO42.ch0 hch315
                  replace hO67 := hO67.ch0 hch315
                  replace hDO68 := hDO68.ch0 hch315
                  replace hR74 := hR74.ch0 hch315
                  replace hO127 := hO127.ch0 hch315
                  replace hDr := hDr.ch0 hch315
                  replace hc := hc.step0 hch315
                  refine rw_cons (op_pv (w0 rfl) rfl rfl (pv_pickT (v := (.bool (dec (fvs ys = dropV (fvs hs22) nm23)))) rfl rfl rfl) ?_)
                  refine rw_cons (op_pv (w0 rfl) rfl rfl (pv_assign (v := (.bool (dec (fvs ys = dropV (fvs hs22) nm23)))) rfl rfl) ?_)
                  refine rw_nil (hK309 _ _ ?_)
                  refine hK307 _ _ ?_
                  refine cw_ret ?_
                  refine fin1 rfl ?_
                  have hmf := drop_fok hok
                  first
                    | exact absurd hmf (by assumption)
                    | exact ⟨congrArg Value.bool (dec_yes hrv), hc⟩
                    | exact ⟨rfl, hc⟩
                · -- no
                  replace hb313 := dec_f hb313
                  refine rw_cons (op_pass (w1n1 rfl rfl rfl rfl) rfl rfl ?_)
                  refine rw_cons (op_pass (w1n1 rfl rfl rfl rfl) rfl rfl ?_)
                  refine rw_cons (op_pass (w1n1 rfl rfl rfl rfl) rfl rfl ?_)
                  refine rw_cons (op_pv (w0 rfl) rfl rfl (pv_pickF (v := (.bool false)) rfl rfl rfl) ?_)
                  refine rw_cons (op_pv (w0 rfl) rfl rfl (pv_assign (v := (.bool false)) rfl rfl) ?_)
                  refine rw_nil (hK309 _ _ ?_)
                  refine hK307 _ _ ?_
                  refine cw_ret ?_
                  refine fin1 rfl ?_
                  have hmf := drop_fok hok
                  first
                    | exact absurd hmf (by assumption)
                    | exact ⟨congrArg Value.bool (dec_yes hrv), hc⟩
                    | exact ⟨rfl, hc⟩
end Go.Proofs.Ythgnlljpjpklpaa
