/-
  The walk of laws.FnFileDropMake, written by program: each line names the law of one operation. Conditions: those of the theorem.
-/
import Derived.Test.YthgnlljpjpklpaaProg
import Derived.Test.YthgnlljpjpklpaaDeep
import Derived.Test.YthgnlljpjpklpaaFlaw
import Derived.Test.YthgnlljpjpklpaaFops
import Derived.Test.YthgnlljpjpklpaaFlaw2
import Derived.Test.YthgnlljpjpklpaaFspecDrawFileDrop
import Derived.Test.YthgnlljpjpklpaaFimplFileDrop
import Derived.Test.YthgnlljpjpklpaaFspecFileDrop
import Derived.Test.YthgnlljpjpklpaaFlawssameFiles
import Derived.Test.YthgnlljpjpklpaaFlawssameInts
import Derived.Test.YthgnlljpjpklpaaFimplFileMake
import Derived.KernelRfl
namespace Go.Proofs.Ythgnlljpjpklpaa
open Go Go.RowKit
set_option linter.unusedVariables false
set_option linter.unusedSimpArgs false
namespace FnFileDropMake_okF
theorem C19 : Callable Try.prog 19 := ⟨_, Try.func19, by kernel_rfl, by kernel_rfl⟩
theorem C21 : Callable Try.prog 21 := ⟨_, Try.func21, by kernel_rfl, by kernel_rfl⟩
theorem C29 : Callable Try.prog 29 := ⟨_, Try.func29, by kernel_rfl, by kernel_rfl⟩
theorem C38 : Callable Try.prog 38 := ⟨_, Try.func38, by kernel_rfl, by kernel_rfl⟩
theorem C39 : Callable Try.prog 39 := ⟨_, Try.func39, by kernel_rfl, by kernel_rfl⟩
theorem C40 : Callable Try.prog 40 := ⟨_, Try.func40, by kernel_rfl, by kernel_rfl⟩
end FnFileDropMake_okF
open FnFileDropMake_okF in
set_option maxHeartbeats 4000000 in
theorem FnFileDropMake_ok (A0 : Option Addr) (n0 c0 : Nat) (xs0 : List UInt8) (w : World) (hR0 : RS encU 1 w w.heap.size A0 n0 xs0) (hn0 : n0 ≤ c0) :
    Fn Try.prog 12 [(.slice A0 n0 c0)] w fun v w' => v = .bool true ∧ Ch [] w w' := by
  have hlen0 := hR0.len
  refine fn_of (n := 95) Try.func12 rfl rfl rfl rfl ?_
  have hc : Ch [] w w := Ch.refl _ _
  refine cw_seq fun K1 hK2 => ?_
  refine cw_region fun K3 hK4 => ?_
  refine rw_cons (op_pv (w0 rfl) rfl rfl (pv_assign (v := (.bool false)) rfl rfl) ?_)
  refine rw_nil (hK4 _ _ ?_)
  refine hK2 _ _ ?_
  refine cw_seq fun K5 hK6 => ?_
  refine cw_seq fun K7 hK8 => ?_
  refine cw_region fun K9 hK10 => ?_
  refine rw_cons (op_pv (w0 rfl) rfl rfl (pv_move (v := (.slice A0 n0 c0)) rfl rfl) ?_)
  refine rw_cons (op_pv (w0 rfl) rfl rfl (pv_len Try.underlying36 rfl rfl) ?_)
  refine rw_cons (op_pv (w0 rfl) rfl rfl (pv_gtr rfl rfl rfl) ?_)
  refine rw_nil (hK10 _ _ ?_)
  refine hK8 _ _ ?_
  refine cw_cond rfl (fun h11 => ?_) (fun h11 => ?_)
  · -- then
    replace h11 := of_decide_eq_true h11
    refine cw_seq fun K12 hK13 => ?_
    refine cw_region fun K14 hK15 => ?_
    refine rw_cons (op_pv (w0 rfl) rfl rfl (pv_assign (v := (.bool true)) rfl rfl) ?_)
    refine rw_nil (hK15 _ _ ?_)
    refine hK13 _ _ ?_
    refine cw_ret ?_
    refine fin1 rfl ?_
    exact ⟨rfl, hc⟩
  · -- else
    replace h11 := of_decide_eq_false h11
    refine cw_skip ?_
    refine hK6 _ _ ?_
    refine cw_seq fun K16 hK17 => ?_
    refine cw_region fun K18 hK19 => ?_
    refine rw_cons (op_pv (w0 rfl) rfl rfl (pv_move (v := (.slice A0 n0 c0)) rfl rfl) ?_)
    refine rw_cons (op_call (w0 rfl) rfl rfl (rc_call C38 rfl rfl) (DrawFileDrop_ok _ _ _ _ _ (hR0.more (by omega)) (by omega)) ?_)
    rintro _ w20 ⟨A24, c25, hs22, nm23, rfl, hO26, hl28, hD29, hZ30, hsl31, hch21⟩
    have hsz32 := hch21.size
    replace hR0 := hR0.ch0 hch21
    replace hc := hc.step0 hch21
    have hub27 := hO26.lt
    have hcap33 : hs22.length ≤ c25 := by obtain ⟨_, _, hv, h1, _⟩ := hO26.form; injection hv with _ _ h3; omega
    refine rw_cons (op_pv (w0 rfl) rfl rfl (pv_move (v := (.tuple #[(.slice A24 hs22.length c25), (.string nm23)])) rfl rfl) ?_)
    refine rw_cons (op_pv (w0 rfl) rfl rfl (pv_ext (v := (.slice A24 hs22.length c25)) rfl rfl rfl) ?_)
    refine rw_cons (op_pv (w0 rfl) rfl rfl (pv_ext (v := (.string nm23)) rfl rfl rfl) ?_)
    refine rw_cons (op_pv (w0 rfl) rfl rfl (pv_assign (v := (.slice A24 hs22.length c25)) rfl rfl) ?_)
    refine rw_cons (op_pv (w0 rfl) rfl rfl (pv_assign (v := (.string nm23)) rfl rfl) ?_)
    refine rw_nil (hK19 _ _ ?_)
    refine hK17 _ _ ?_
    refine cw_seq fun K34 hK35 => ?_
    refine cw_region fun K36 hK37 => ?_
    refine rw_cons (op_pv (w0 rfl) rfl rfl (pv_move (v := (.slice A24 hs22.length c25)) rfl rfl) ?_)
    refine rw_cons (op_pv (w0 rfl) rfl rfl (pv_move (v := (.string nm23)) rfl rfl) ?_)
    refine rw_cons (op_call (w0 rfl) rfl rfl (rc_call C21 rfl rfl) (FileDrop_i _ hs22.length _ hs22 nm23 _ (hO26.rs (fun _ => rfl)) (hD29.any (by omega)) (by first | assumption | exact SzOK.nil) (by omega) (by omega)) ?_)
    rintro _ w38 ⟨A43, c44, hs45, A40, c41, rfl, hO42, hO46, hDO47, hfe48, hZ49, hch39⟩
    have hsz50 := hch39.size
    replace hR0 := hR0.ch0 hch39
    replace hO26 := hO26.ch0 hch39
    replace hD29 := hD29.ch0 hch39
    replace hc := hc.step0 hch39
    have hub51 := hO46.lt
    have hcap52 : hs45.length ≤ c44 := by obtain ⟨_, _, hv, h1, _⟩ := hO46.form; injection hv with _ _ h3; omega
    have hfl53 : hs45.length = (dropV (fvs hs22) nm23).length := by rw [← hfe48, fvs_len]
    try simp only [fvs_len, List.length_take, List.length_drop] at hfl53
    have hub54 := hO42.lt
    have hcap55 : (dropP (fvs hs22) nm23).length ≤ c41 := by obtain ⟨_, _, hv, h1, _⟩ := hO42.form; injection hv with _ _ h3; omega
    have hnt56 := dropV_le (fvs hs22) nm23
    have hnt57 := dropP_le (fvs hs22) nm23
    refine rw_cons (op_pv (w0 rfl) rfl rfl (pv_move (v := (.tuple #[(.slice A43 hs45.length c44), (.slice A40 (dropP (fvs hs22) nm23).length c41), (.bool (dec (DropOK (fvs hs22) nm23)))])) rfl rfl) ?_)
    refine rw_cons (op_pv (w0 rfl) rfl rfl (pv_ext (v := (.slice A43 hs45.length c44)) rfl rfl rfl) ?_)
    refine rw_cons (op_pv (w0 rfl) rfl rfl (pv_ext (v := (.slice A40 (dropP (fvs hs22) nm23).length c41)) rfl rfl rfl) ?_)
    refine rw_cons (op_pv (w0 rfl) rfl rfl (pv_ext (v := (.bool (dec (DropOK (fvs hs22) nm23)))) rfl rfl rfl) ?_)
    refine rw_cons (op_pv (w0 rfl) rfl rfl (pv_assign (v := (.slice A43 hs45.length c44)) rfl rfl) ?_)
    refine rw_cons (op_pv (w0 rfl) rfl rfl (pv_assign (v := (.slice A40 (dropP (fvs hs22) nm23).length c41)) rfl rfl) ?_)
    refine rw_cons (op_pv (w0 rfl) rfl rfl (pv_assign (v := (.bool (dec (DropOK (fvs hs22) nm23)))) rfl rfl) ?_)
    refine rw_nil (hK37 _ _ ?_)
    refine hK35 _ _ ?_
    refine cw_seq fun K58 hK59 => ?_
    refine cw_region fun K60 hK61 => ?_
    refine rw_cons (op_pv (w0 rfl) rfl rfl (pv_move (v := (.slice A24 hs22.length c25)) rfl rfl) ?_)
    refine rw_cons (op_pv (w0 rfl) rfl rfl (pv_move (v := (.string nm23)) rfl rfl) ?_)
    refine rw_cons (op_call (w0 rfl) rfl rfl (rc_call C19 rfl rfl) (FileDrop_s _ hs22.length _ hs22 nm23 _ (hO26.rs (fun _ => rfl)) (hD29.any (by omega)) (by first | assumption | exact SzOK.nil) (by omega) (by omega)) ?_)
    rintro _ w62 ⟨A64, c65, hs66, A71, c73, n72, rfl, hO67, hDO68, hfe69, hZ70, hR74, hch63⟩
    have hsz75 := hch63.size
    replace hR0 := hR0.ch0 hch63
    replace hO26 := hO26.ch0 hch63
    replace hD29 := hD29.ch0 hch63
    replace hO46 := hO46.ch0 hch63
    replace hDO47 := hDO47.ch0 hch63
    replace hO42 := hO42.ch0 hch63
    replace hc := hc.step0 hch63
    have hub76 := hO67.lt
    have hcap77 : hs66.length ≤ c65 := by obtain ⟨_, _, hv, h1, _⟩ := hO67.form; injection hv with _ _ h3; omega
    have hfl78 : hs66.length = (dropV (fvs hs22) nm23).length := by rw [← hfe69, fvs_len]
    try simp only [fvs_len, List.length_take, List.length_drop] at hfl78
    have hln79 := hR74.len
    have hnt80 := dropV_le (fvs hs22) nm23
    have hnt81 := dropP_le (fvs hs22) nm23
    refine rw_cons (op_pv (w0 rfl) rfl rfl (pv_move (v := (.tuple #[(.slice A64 hs66.length c65), (.slice A71 n72 c73), (.bool (dec (DropOK (fvs hs22) nm23)))])) rfl rfl) ?_)
    refine rw_cons (op_pv (w0 rfl) rfl rfl (pv_ext (v := (.slice A64 hs66.length c65)) rfl rfl rfl) ?_)
    refine rw_cons (op_pv (w0 rfl) rfl rfl (pv_ext (v := (.slice A71 n72 c73)) rfl rfl rfl) ?_)
    refine rw_cons (op_pv (w0 rfl) rfl rfl (pv_ext (v := (.bool (dec (DropOK (fvs hs22) nm23)))) rfl rfl rfl) ?_)
    refine rw_cons (op_pv (w0 rfl) rfl rfl (pv_assign (v := (.slice A64 hs66.length c65)) rfl rfl) ?_)
    refine rw_cons (op_pv (w0 rfl) rfl rfl (pv_assign (v := (.slice A71 n72 c73)) rfl rfl) ?_)
    refine rw_cons (op_pv (w0 rfl) rfl rfl (pv_assign (v := (.bool (dec (DropOK (fvs hs22) nm23)))) rfl rfl) ?_)
    refine rw_nil (hK61 _ _ ?_)
    refine hK59 _ _ ?_
    refine cw_seq fun K82 hK83 => ?_
    refine cw_seq fun K84 hK85 => ?_
    refine cw_region fun K86 hK87 => ?_
    refine rw_cons (op_pv (w0 rfl) rfl rfl (pv_move (v := (.bool (dec (DropOK (fvs hs22) nm23)))) rfl rfl) ?_)
    refine rw_cons (op_pv (w0 rfl) rfl rfl (pv_move (v := (.bool (dec (DropOK (fvs hs22) nm23)))) rfl rfl) ?_)
    refine rw_cons (op_pv (w0 rfl) rfl rfl (pv_neBs Try.underlying4 rfl rfl rfl) ?_)
    refine rw_cons (op_pv (w0 rfl) rfl rfl (pv_move (v := (.bool false)) rfl rfl) ?_)
    refine rw_cons (op_pv (w1y rfl rfl rfl rfl) rfl rfl (pv_move (v := (.slice A40 (dropP (fvs hs22) nm23).length c41)) rfl rfl) ?_)
    refine rw_cons (op_pv (w1y rfl rfl rfl rfl) rfl rfl (pv_move (v := (.slice A71 n72 c73)) rfl rfl) ?_)
    refine rw_cons (op_call (w1y rfl rfl rfl rfl) rfl rfl (rc_call C39 rfl rfl) (sameInts_same _ _ _ _ _ _ (dropP (fvs hs22) nm23) _ (hO42.rs (fun _ => rfl)) (hR74.more (by omega)) (by omega)) ?_)
    rintro _ w88 ⟨rfl, hch89⟩
    have hsz90 := hch89.size
    replace hR0 := hR0.ch0 hch89
    replace hO26 := hO26.ch0 hch89
    replace hD29 := hD29.ch0 hch89
    replace hO46 := hO46.ch0 hch89
    replace hDO47 := hDO47.ch0 hch89
    replace hO42 := hO42.ch0 hch89
    replace hO67 := hO67.ch0 hch89
    replace hDO68 := hDO68.ch0 hch89
    replace hR74 := hR74.ch0 hch89
    replace hc := hc.step0 hch89
    refine rw_cons (op_pv (w1y rfl rfl rfl rfl) rfl rfl (pv_not rfl rfl) ?_)
    refine rw_cons (op_pv (w0 rfl) rfl rfl (pv_pickF (v := (.bool (!true))) rfl rfl rfl) ?_)
    refine rw_cons (op_pv (w0 rfl) rfl rfl (pv_move (v := (.bool (!true))) rfl rfl) ?_)
    refine rw_cons (op_pv (w1y rfl rfl rfl rfl) rfl rfl (pv_move (v := (.slice A43 hs45.length c44)) rfl rfl) ?_)
    refine rw_cons (op_pv (w1y rfl rfl rfl rfl) rfl rfl (pv_move (v := (.slice A64 hs66.length c65)) rfl rfl) ?_)
    refine rw_cons (op_call (w1y rfl rfl rfl rfl) rfl rfl (rc_call C40 rfl rfl) (sameFiles_ok _ hs45.length _ hs45 _ hs66.length _ hs66 _ (hO46.rs (fun _ => rfl)) (hDO47.any (by omega)) (by first | assumption | exact SzOK.nil) (by omega) (hO67.rs (fun _ => rfl)) (hDO68.any (by omega)) (by first | assumption | exact SzOK.nil) (by omega)) ?_)
    rintro _ w91 ⟨rfl, hch92⟩
    try rw [hfe48]
    try rw [hfe69]
    have hsz93 := hch92.size
    replace hR0 := hR0.ch0 hch92
    replace hO26 := hO26.ch0 hch92
    replace hD29 := hD29.ch0 hch92
    replace hO46 := hO46.ch0 hch92
    replace hDO47 := hDO47.ch0 hch92
    replace hO42 := hO42.ch0 hch92
    replace hO67 := hO67.ch0 hch92
    replace hDO68 := hDO68.ch0 hch92
    replace hR74 := hR74.ch0 hch92
    replace hc := hc.step0 hch92
    refine rw_cons (op_pv (w1y rfl rfl rfl rfl) rfl rfl (pv_not rfl rfl) ?_)
    refine rw_cons (op_pv (w0 rfl) rfl rfl (pv_pickF (v := (.bool (!(dec (dropV (fvs hs22) nm23 = dropV (fvs hs22) nm23))))) rfl rfl rfl) ?_)
    refine rw_cons (op_pv (w0 rfl) rfl rfl (pv_move (v := (.bool (!(dec (dropV (fvs hs22) nm23 = dropV (fvs hs22) nm23))))) rfl rfl) ?_)
    refine rw_split 53 rfl (fun hb94 => ?_) (fun hb94 => ?_)
    · -- yes
      replace hb94 := not_t hb94
      replace hb94 := dec_f hb94
      refine rw_cons (op_pass (w1n2 rfl rfl rfl rfl) rfl rfl ?_)
      refine rw_cons (op_pass (w1n2 rfl rfl rfl rfl) rfl rfl ?_)
      refine rw_cons (op_pv (w0 rfl) rfl rfl (pv_pickT (v := (.bool true)) rfl rfl rfl) ?_)
      refine rw_nil (hK87 _ _ ?_)
      refine hK85 _ _ ?_
      refine cw_cond rfl (fun h95 => ?_) (fun h95 => ?_)
      · -- then
        clear h95
        refine cw_seq fun K96 hK97 => ?_
        refine cw_region fun K98 hK99 => ?_
        refine rw_cons (op_pv (w0 rfl) rfl rfl (pv_move (v := (.bool (dec (DropOK (fvs hs22) nm23)))) rfl rfl) ?_)
        refine rw_cons (op_pv (w0 rfl) rfl rfl (pv_move (v := (.bool (dec (DropOK (fvs hs22) nm23)))) rfl rfl) ?_)
        refine rw_cons (op_pv (w0 rfl) rfl rfl (pv_eqBs Try.underlying4 rfl rfl rfl) ?_)
        refine rw_cons (op_pv (w0 rfl) rfl rfl (pv_move (v := (.bool true)) rfl rfl) ?_)
        refine rw_cons (op_pv (w1y rfl rfl rfl rfl) rfl rfl (pv_move (v := (.slice A40 (dropP (fvs hs22) nm23).length c41)) rfl rfl) ?_)
        refine rw_cons (op_pv (w1y rfl rfl rfl rfl) rfl rfl (pv_move (v := (.slice A71 n72 c73)) rfl rfl) ?_)
        refine rw_cons (op_call (w1y rfl rfl rfl rfl) rfl rfl (rc_call C39 rfl rfl) (sameInts_same _ _ _ _ _ _ (dropP (fvs hs22) nm23) _ (hO42.rs (fun _ => rfl)) (hR74.more (by omega)) (by omega)) ?_)
        rintro _ w100 ⟨rfl, hch101⟩
        have hsz102 := hch101.size
        replace hR0 := hR0.ch0 hch101
        replace hO26 := hO26.ch0 hch101
        replace hD29 := hD29.ch0 hch101
        replace hO46 := hO46.ch0 hch101
        replace hDO47 := hDO47.ch0 hch101
        replace hO42 := hO42.ch0 hch101
        replace hO67 := hO67.ch0 hch101
        replace hDO68 := hDO68.ch0 hch101
        replace hR74 := hR74.ch0 hch101
        replace hc := hc.step0 hch101
        refine rw_cons (op_pv (w0 rfl) rfl rfl (pv_pickT (v := (.bool true)) rfl rfl rfl) ?_)
        refine rw_cons (op_pv (w0 rfl) rfl rfl (pv_move (v := (.bool true)) rfl rfl) ?_)
        refine rw_cons (op_pv (w1y rfl rfl rfl rfl) rfl rfl (pv_move (v := (.slice A43 hs45.length c44)) rfl rfl) ?_)
        refine rw_cons (op_pv (w1y rfl rfl rfl rfl) rfl rfl (pv_move (v := (.slice A64 hs66.length c65)) rfl rfl) ?_)
        refine rw_cons (op_call (w1y rfl rfl rfl rfl) rfl rfl (rc_call C40 rfl rfl) (sameFiles_ok _ hs45.length _ hs45 _ hs66.length _ hs66 _ (hO46.rs (fun _ => rfl)) (hDO47.any (by omega)) (by first | assumption | exact SzOK.nil) (by omega) (hO67.rs (fun _ => rfl)) (hDO68.any (by omega)) (by first | assumption | exact SzOK.nil) (by omega)) ?_)
        rintro _ w103 ⟨rfl, hch104⟩
        try rw [hfe48]
        try rw [hfe69]
        have hsz105 := hch104.size
        replace hR0 := hR0.ch0 hch104
        replace hO26 := hO26.ch0 hch104
        replace hD29 := hD29.ch0 hch104
        replace hO46 := hO46.ch0 hch104
        replace hDO47 := hDO47.ch0 hch104
        replace hO42 := hO42.ch0 hch104
        replace hO67 := hO67.ch0 hch104
        replace hDO68 := hDO68.ch0 hch104
        replace hR74 := hR74.ch0 hch104
        replace hc := hc.step0 hch104
        refine rw_cons (op_pv (w0 rfl) rfl rfl (pv_pickT (v := (.bool (dec (dropV (fvs hs22) nm23 = dropV (fvs hs22) nm23)))) rfl rfl rfl) ?_)
        refine rw_cons (op_pv (w0 rfl) rfl rfl (pv_assign (v := (.bool (dec (dropV (fvs hs22) nm23 = dropV (fvs hs22) nm23)))) rfl rfl) ?_)
        refine rw_nil (hK99 _ _ ?_)
        refine hK97 _ _ ?_
        refine cw_ret ?_
        refine fin1 rfl ?_
        first
          | exact ⟨rfl, hc⟩
          | exact absurd rfl (by assumption)
          | exact ⟨congrArg Value.bool (dec_yes rfl), hc⟩
          | exact ⟨congrArg Value.bool (beq_self_eq_true _), hc⟩
          | exact ⟨congrArg Value.bool (decide_eq_true rfl), hc⟩
      · -- else
        cases h95
    · -- no
      replace hb94 := not_f hb94
      replace hb94 := dec_t hb94
      refine rw_cons (op_pv (w1y rfl rfl rfl rfl) rfl rfl (pv_move (v := (.bool (dec (DropOK (fvs hs22) nm23)))) rfl rfl) ?_)
      refine rw_cons (op_pv (w1y rfl rfl rfl rfl) rfl rfl (pv_not rfl rfl) ?_)
      refine rw_cons (op_pv (w0 rfl) rfl rfl (pv_pickF (v := (.bool (!(dec (DropOK (fvs hs22) nm23))))) rfl rfl rfl) ?_)
      refine rw_nil (hK87 _ _ ?_)
      refine hK85 _ _ ?_
      refine cw_cond rfl (fun h106 => ?_) (fun h106 => ?_)
      · -- then
        replace h106 := not_t h106
        replace h106 := dec_f h106
        refine cw_seq fun K107 hK108 => ?_
        refine cw_region fun K109 hK110 => ?_
        refine rw_cons (op_pv (w0 rfl) rfl rfl (pv_move (v := (.bool (dec (DropOK (fvs hs22) nm23)))) rfl rfl) ?_)
        refine rw_cons (op_pv (w0 rfl) rfl rfl (pv_move (v := (.bool (dec (DropOK (fvs hs22) nm23)))) rfl rfl) ?_)
        refine rw_cons (op_pv (w0 rfl) rfl rfl (pv_eqBs Try.underlying4 rfl rfl rfl) ?_)
        refine rw_cons (op_pv (w0 rfl) rfl rfl (pv_move (v := (.bool true)) rfl rfl) ?_)
        refine rw_cons (op_pv (w1y rfl rfl rfl rfl) rfl rfl (pv_move (v := (.slice A40 (dropP (fvs hs22) nm23).length c41)) rfl rfl) ?_)
        refine rw_cons (op_pv (w1y rfl rfl rfl rfl) rfl rfl (pv_move (v := (.slice A71 n72 c73)) rfl rfl) ?_)
        refine rw_cons (op_call (w1y rfl rfl rfl rfl) rfl rfl (rc_call C39 rfl rfl) (sameInts_same _ _ _ _ _ _ (dropP (fvs hs22) nm23) _ (hO42.rs (fun _ => rfl)) (hR74.more (by omega)) (by omega)) ?_)
        rintro _ w111 ⟨rfl, hch112⟩
        have hsz113 := hch112.size
        replace hR0 := hR0.ch0 hch112
        replace hO26 := hO26.ch0 hch112
        replace hD29 := hD29.ch0 hch112
        replace hO46 := hO46.ch0 hch112
        replace hDO47 := hDO47.ch0 hch112
        replace hO42 := hO42.ch0 hch112
        replace hO67 := hO67.ch0 hch112
        replace hDO68 := hDO68.ch0 hch112
        replace hR74 := hR74.ch0 hch112
        replace hc := hc.step0 hch112
        refine rw_cons (op_pv (w0 rfl) rfl rfl (pv_pickT (v := (.bool true)) rfl rfl rfl) ?_)
        refine rw_cons (op_pv (w0 rfl) rfl rfl (pv_move (v := (.bool true)) rfl rfl) ?_)
        refine rw_cons (op_pv (w1y rfl rfl rfl rfl) rfl rfl (pv_move (v := (.slice A43 hs45.length c44)) rfl rfl) ?_)
        refine rw_cons (op_pv (w1y rfl rfl rfl rfl) rfl rfl (pv_move (v := (.slice A64 hs66.length c65)) rfl rfl) ?_)
        refine rw_cons (op_call (w1y rfl rfl rfl rfl) rfl rfl (rc_call C40 rfl rfl) (sameFiles_ok _ hs45.length _ hs45 _ hs66.length _ hs66 _ (hO46.rs (fun _ => rfl)) (hDO47.any (by omega)) (by first | assumption | exact SzOK.nil) (by omega) (hO67.rs (fun _ => rfl)) (hDO68.any (by omega)) (by first | assumption | exact SzOK.nil) (by omega)) ?_)
        rintro _ w114 ⟨rfl, hch115⟩
        try rw [hfe48]
        try rw [hfe69]
        have hsz116 := hch115.size
        replace hR0 := hR0.ch0 hch115
        replace hO26 := hO26.ch0 hch115
        replace hD29 := hD29.ch0 hch115
        replace hO46 := hO46.ch0 hch115
        replace hDO47 := hDO47.ch0 hch115
        replace hO42 := hO42.ch0 hch115
        replace hO67 := hO67.ch0 hch115
        replace hDO68 := hDO68.ch0 hch115
        replace hR74 := hR74.ch0 hch115
        replace hc := hc.step0 hch115
        refine rw_cons (op_pv (w0 rfl) rfl rfl (pv_pickT (v := (.bool (dec (dropV (fvs hs22) nm23 = dropV (fvs hs22) nm23)))) rfl rfl rfl) ?_)
        refine rw_cons (op_pv (w0 rfl) rfl rfl (pv_assign (v := (.bool (dec (dropV (fvs hs22) nm23 = dropV (fvs hs22) nm23)))) rfl rfl) ?_)
        refine rw_nil (hK110 _ _ ?_)
        refine hK108 _ _ ?_
        refine cw_ret ?_
        refine fin1 rfl ?_
        first
          | exact ⟨rfl, hc⟩
          | exact absurd rfl (by assumption)
          | exact ⟨congrArg Value.bool (dec_yes rfl), hc⟩
          | exact ⟨congrArg Value.bool (beq_self_eq_true _), hc⟩
          | exact ⟨congrArg Value.bool (decide_eq_true rfl), hc⟩
      · -- else
        replace h106 := not_f h106
        replace h106 := dec_t h106
        refine cw_skip ?_
        refine hK83 _ _ ?_
        refine cw_seq fun K117 hK118 => ?_
        have hok : DropOK (fvs hs22) nm23 := by assumption
        have hfok := hok.1
        have hfl8 := (drop_fok hok).len
        have hx8 := hok.1.len
        have hxl := fvs_len hs22
        refine cw_region fun K119 hK120 => ?_
        refine rw_cons (op_pv (w0 rfl) rfl rfl (pv_move (v := (.slice A43 hs45.length c44)) rfl rfl) ?_)
        refine rw_cons (op_pv (w0 rfl) rfl rfl (pv_move (v := (.string nm23)) rfl rfl) ?_)
        refine rw_cons (op_call (w0 rfl) rfl rfl (rc_call C21 rfl rfl) (FileDrop_i _ hs45.length _ hs45 nm23 _ (hO46.rs (fun _ => rfl)) (hDO47.any (by omega)) (by first | assumption | exact SzOK.nil) (by omega) (by omega)) ?_)
        rintro _ w121 ⟨A126, c127, hs128, A123, c124, rfl, hO125, hO129, hDO130, hfe131, hZ132, hch122⟩
        try rw [hfe48]
        try rw [hfe48] at hO125
        try rw [hfe48] at hfe131
        have hsz133 := hch122.size
        replace hR0 := hR0.ch0 hch122
        replace hO26 := hO26.ch0 hch122
        replace hD29 := hD29.ch0 hch122
        replace hO46 := hO46.ch0 hch122
        replace hDO47 := hDO47.ch0 hch122
        replace hO42 := hO42.ch0 hch122
        replace hO67 := hO67.ch0 hch122
        replace hDO68 := hDO68.ch0 hch122
        replace hR74 := hR74.ch0 hch122
        replace hc := hc.step0 hch122
        have hub134 := hO129.lt
        have hcap135 : hs128.length ≤ c127 := by obtain ⟨_, _, hv, h1, _⟩ := hO129.form; injection hv with _ _ h3; omega
        have hfl136 : hs128.length = (dropV (dropV (fvs hs22) nm23) nm23).length := by rw [← hfe131, fvs_len]
        try simp only [fvs_len, List.length_take, List.length_drop] at hfl136
        have hub137 := hO125.lt
        have hcap138 : (dropP (dropV (fvs hs22) nm23) nm23).length ≤ c124 := by obtain ⟨_, _, hv, h1, _⟩ := hO125.form; injection hv with _ _ h3; omega
        have hnt139 := dropV_le (dropV (fvs hs22) nm23) nm23
        have hnt140 := dropP_le (dropV (fvs hs22) nm23) nm23
        refine rw_cons (op_pv (w0 rfl) rfl rfl (pv_move (v := (.tuple #[(.slice A126 hs128.length c127), (.slice A123 (dropP (dropV (fvs hs22) nm23) nm23).length c124), (.bool (dec (DropOK (dropV (fvs hs22) nm23) nm23)))])) rfl rfl) ?_)
        refine rw_cons (op_pv (w0 rfl) rfl rfl (pv_ext (v := (.slice A126 hs128.length c127)) rfl rfl rfl) ?_)
        refine rw_cons (op_pv (w0 rfl) rfl rfl (pv_ext (v := (.slice A123 (dropP (dropV (fvs hs22) nm23) nm23).length c124)) rfl rfl rfl) ?_)
        refine rw_cons (op_pv (w0 rfl) rfl rfl (pv_ext (v := (.bool (dec (DropOK (dropV (fvs hs22) nm23) nm23)))) rfl rfl rfl) ?_)
        refine rw_cons (op_pv (w0 rfl) rfl rfl (pv_assign (v := (.slice A126 hs128.length c127)) rfl rfl) ?_)
        refine rw_cons (op_pv (w0 rfl) rfl rfl (pv_assign (v := (.slice A123 (dropP (dropV (fvs hs22) nm23) nm23).length c124)) rfl rfl) ?_)
        refine rw_cons (op_pv (w0 rfl) rfl rfl (pv_assign (v := (.bool (dec (DropOK (dropV (fvs hs22) nm23) nm23)))) rfl rfl) ?_)
        refine rw_nil (hK120 _ _ ?_)
        refine hK118 _ _ ?_
        refine cw_seq fun K141 hK142 => ?_
        refine cw_region fun K143 hK144 => ?_
        refine rw_cons (op_pv (w0 rfl) rfl rfl (pv_move (v := (.slice A43 hs45.length c44)) rfl rfl) ?_)
        refine rw_cons (op_pv (w0 rfl) rfl rfl (pv_move (v := (.string nm23)) rfl rfl) ?_)
        refine rw_cons (op_call (w0 rfl) rfl rfl (rc_call C29 rfl rfl) (FileMake_i _ hs45.length _ hs45 nm23 _ (hO46.rs (fun _ => rfl)) (hDO47.any (by omega)) (by first | assumption | exact SzOK.nil) (by omega) (by omega) (by omega)) ?_)
        rintro _ w145 ⟨A147, c148, hs149, rfl, hO150, hDO151, hfe152, hZ153, hch146⟩
        try rw [hfe48]
        try rw [hfe48] at hfe152
        have hsz154 := hch146.size
        replace hR0 := hR0.ch0 hch146
        replace hO26 := hO26.ch0 hch146
        replace hD29 := hD29.ch0 hch146
        replace hO46 := hO46.ch0 hch146
        replace hDO47 := hDO47.ch0 hch146
        replace hO42 := hO42.ch0 hch146
        replace hO67 := hO67.ch0 hch146
        replace hDO68 := hDO68.ch0 hch146
        replace hR74 := hR74.ch0 hch146
        replace hO129 := hO129.ch0 hch146
        replace hDO130 := hDO130.ch0 hch146
        replace hO125 := hO125.ch0 hch146
        replace hc := hc.step0 hch146
        have hub155 := hO150.lt
        have hcap156 : hs149.length ≤ c148 := by obtain ⟨_, _, hv, h1, _⟩ := hO150.form; injection hv with _ _ h3; omega
        have hfl157 : hs149.length = (makeV (dropV (fvs hs22) nm23) nm23).length := by rw [← hfe152, fvs_len]
        try simp only [fvs_len, List.length_take, List.length_drop] at hfl157
        have hnt158 := makeV_le (dropV (fvs hs22) nm23) nm23
        refine rw_cons (op_pv (w0 rfl) rfl rfl (pv_move (v := (.tuple #[(.slice A147 hs149.length c148), (.bool (dec (MakeOK (dropV (fvs hs22) nm23) nm23)))])) rfl rfl) ?_)
        refine rw_cons (op_pv (w0 rfl) rfl rfl (pv_ext (v := (.slice A147 hs149.length c148)) rfl rfl rfl) ?_)
        refine rw_cons (op_pv (w0 rfl) rfl rfl (pv_ext (v := (.bool (dec (MakeOK (dropV (fvs hs22) nm23) nm23)))) rfl rfl rfl) ?_)
        refine rw_cons (op_pv (w0 rfl) rfl rfl (pv_assign (v := (.slice A147 hs149.length c148)) rfl rfl) ?_)
        refine rw_cons (op_pv (w0 rfl) rfl rfl (pv_assign (v := (.bool (dec (MakeOK (dropV (fvs hs22) nm23) nm23)))) rfl rfl) ?_)
        refine rw_nil (hK144 _ _ ?_)
        refine hK142 _ _ ?_
        refine cw_seq fun K159 hK160 => ?_
        refine cw_region fun K161 hK162 => ?_
        refine rw_cons (op_pv (w0 rfl) rfl rfl (pv_move (v := (.bool (dec (DropOK (dropV (fvs hs22) nm23) nm23)))) rfl rfl) ?_)
        refine rw_cons (op_pv (w0 rfl) rfl rfl (pv_not rfl rfl) ?_)
        refine rw_cons (op_pv (w0 rfl) rfl rfl (pv_move (v := (.bool (!(dec (DropOK (dropV (fvs hs22) nm23) nm23))))) rfl rfl) ?_)
        refine rw_split 85 rfl (fun hb163 => ?_) (fun hb163 => ?_)
        · -- yes
          replace hb163 := not_t hb163
          replace hb163 := dec_f hb163
          refine rw_cons (op_pv (w1y rfl rfl rfl rfl) rfl rfl (pv_move (v := (.bool (dec (MakeOK (dropV (fvs hs22) nm23) nm23)))) rfl rfl) ?_)
          refine rw_cons (op_pv (w0 rfl) rfl rfl (pv_pickT (v := (.bool (dec (MakeOK (dropV (fvs hs22) nm23) nm23)))) rfl rfl rfl) ?_)
          refine rw_cons (op_pv (w0 rfl) rfl rfl (pv_move (v := (.bool (dec (MakeOK (dropV (fvs hs22) nm23) nm23)))) rfl rfl) ?_)
          refine rw_split 88 rfl (fun hb164 => ?_) (fun hb164 => ?_)
          · -- yes
            replace hb164 := dec_t hb164
            refine rw_cons (op_pv (w1y rfl rfl rfl rfl) rfl rfl (pv_move (v := (.slice A147 hs149.length c148)) rfl rfl) ?_)
            refine rw_cons (op_pv (w1y rfl rfl rfl rfl) rfl rfl (pv_len Try.underlying24 rfl rfl) ?_)
            refine rw_cons (op_pv (w1y rfl rfl rfl rfl) rfl rfl (pv_move (v := (.slice A24 hs22.length c25)) rfl rfl) ?_)
            refine rw_cons (op_pv (w1y rfl rfl rfl rfl) rfl rfl (pv_len Try.underlying24 rfl rfl) ?_)
            refine rw_cons (op_pv (w1y rfl rfl rfl rfl) rfl rfl (pv_eql rfl rfl rfl) ?_)
            refine rw_cons (op_pv (w0 rfl) rfl rfl (pv_pickT (v := (.bool (decide (((hs149.length : Int) : Int) = (hs22.length : Int))))) rfl rfl rfl) ?_)
            refine rw_cons (op_pv (w0 rfl) rfl rfl (pv_assign (v := (.bool (decide (((hs149.length : Int) : Int) = (hs22.length : Int))))) rfl rfl) ?_)
            refine rw_nil (hK162 _ _ ?_)
            refine hK160 _ _ ?_
            refine cw_ret ?_
            refine fin1 rfl ?_
            have dm1 := drop_again hok
            obtain ⟨dm2, dm3⟩ := drop_make hok
            first
              | exact ⟨rfl, hc⟩
              | contradiction
              | exact ⟨congrArg Value.bool (decide_eq_true (by omega)), hc⟩
          · -- no
            replace hb164 := dec_f hb164
            refine rw_cons (op_pass (w1n1 rfl rfl rfl rfl) rfl rfl ?_)
            refine rw_cons (op_pass (w1n1 rfl rfl rfl rfl) rfl rfl ?_)
            refine rw_cons (op_pass (w1n1 rfl rfl rfl rfl) rfl rfl ?_)
            refine rw_cons (op_pass (w1n1 rfl rfl rfl rfl) rfl rfl ?_)
            refine rw_cons (op_pass (w1n1 rfl rfl rfl rfl) rfl rfl ?_)
            refine rw_cons (op_pv (w0 rfl) rfl rfl (pv_pickF (v := (.bool false)) rfl rfl rfl) ?_)
            refine rw_cons (op_pv (w0 rfl) rfl rfl (pv_assign (v := (.bool false)) rfl rfl) ?_)
            refine rw_nil (hK162 _ _ ?_)
            refine hK160 _ _ ?_
            refine cw_ret ?_
            refine fin1 rfl ?_
            have dm1 := drop_again hok
            obtain ⟨dm2, dm3⟩ := drop_make hok
            first
              | exact ⟨rfl, hc⟩
              | contradiction
              | exact ⟨congrArg Value.bool (decide_eq_true (by omega)), hc⟩
        · -- no
          replace hb163 := not_f hb163
          replace hb163 := dec_t hb163
          refine rw_cons (op_pass (w1n1 rfl rfl rfl rfl) rfl rfl ?_)
          refine rw_cons (op_pv (w0 rfl) rfl rfl (pv_pickF (v := (.bool false)) rfl rfl rfl) ?_)
          refine rw_cons (op_pv (w0 rfl) rfl rfl (pv_move (v := (.bool false)) rfl rfl) ?_)
          refine rw_cons (op_pass (w1n1 rfl rfl rfl rfl) rfl rfl ?_)
          refine rw_cons (op_pass (w1n1 rfl rfl rfl rfl) rfl rfl ?_)
          refine rw_cons (op_pass (w1n1 rfl rfl rfl rfl) rfl rfl ?_)
          refine rw_cons (op_pass (w1n1 rfl rfl rfl rfl) rfl rfl ?_)
          refine rw_cons (op_pass (w1n1 rfl rfl rfl rfl) rfl rfl ?_)
          refine rw_cons (op_pv (w0 rfl) rfl rfl (pv_pickF (v := (.bool false)) rfl rfl rfl) ?_)
          refine rw_cons (op_pv (w0 rfl) rfl rfl (pv_assign (v := (.bool false)) rfl rfl) ?_)
          refine rw_nil (hK162 _ _ ?_)
          refine hK160 _ _ ?_
          refine cw_ret ?_
          refine fin1 rfl ?_
          have dm1 := drop_again hok
          obtain ⟨dm2, dm3⟩ := drop_make hok
          first
            | exact ⟨rfl, hc⟩
            | contradiction
            | exact ⟨congrArg Value.bool (decide_eq_true (by omega)), hc⟩
end Go.Proofs.Ythgnlljpjpklpaa
