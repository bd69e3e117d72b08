/-
  The walk of spec.FileAt, written by program: each line names the law of one operation. Conditions: those of the theorem.
-/
import Derived.Test.YthgnlljpjpklpaaProg
import Derived.Test.YthgnlljpjpklpaaDeep
import Derived.Test.YthgnlljpjpklpaaFspecFilesValid
import Derived.Test.YthgnlljpjpklpaaFspecl21At
import Derived.Test.YthgnlljpjpklpaaFspecl6In
import Derived.KernelRfl
namespace Go.Proofs.Ythgnlljpjpklpaa
open Go Go.RowKit
set_option linter.unusedVariables false
set_option linter.unusedSimpArgs false
namespace FileAt_sF
theorem T3 : TI Try.prog 3 false (.int .i64 0) 1 8 := TI.mk' Try.underlying3 rfl (by kernel_rfl)
theorem T25 : TI Try.prog 25 false (.slice none 0 0) 1 24 := TI.mk' Try.underlying25 rfl (by kernel_rfl)
theorem T48 : TI Try.prog 48 true (.agg #[.string { data := #[] }, .slice none 0 0]) 2 40 := TI.mk' Try.underlying48 rfl (by kernel_rfl)
theorem F48_1 : FldOK Try.prog 48 1 1 := ⟨_, _, 0, Try.underlying48, rfl, rfl, by kernel_rfl⟩
theorem C32 : Callable Try.prog 32 := ⟨_, Try.func32, by kernel_rfl, by kernel_rfl⟩
theorem C46 : Callable Try.prog 46 := ⟨_, Try.func46, by kernel_rfl, by kernel_rfl⟩
theorem C58 : Callable Try.prog 58 := ⟨_, Try.func58, by kernel_rfl, by kernel_rfl⟩
end FileAt_sF
open FileAt_sF in
set_option maxHeartbeats 4000000 in
theorem FileAt_s (Ahs : Option Addr) (nhs chs : Nat) (hs : List Fl) (s : ByteArray) (a : Int) (w : World) (hRhs : RS encF 2 w w.heap.size Ahs nhs hs) (hDhs : DX 0 w.heap.size [] w hs) (hZhs : SzOK hs) (hNhs : nhs ≤ 1099511627776) (h8 : nhs ≤ 1048576) (ha : -9223372036854775808 ≤ a ∧ a ≤ 9223372036854775807) :
    Fn Try.prog 37 [(.slice Ahs nhs chs), (.string s), (.int .i64 a)] w fun v w' => v = .tuple #[.int .i64 (atN (fvs hs) s a), .int .i64 (atK (fvs hs) s a), .bool (dec (AtOK (fvs hs) s a))] ∧ Ch [] w w' := by
  have hlenhs := hRhs.len
  refine fn_of (n := 44) Try.func37 rfl rfl rfl rfl ?_
  have hc : Ch [] w w := Ch.refl _ _
  refine cw_seq fun K1 hK2 => ?_
  refine cw_region fun K3 hK4 => ?_
  refine rw_cons (op_pv (w0 rfl) rfl rfl (pv_assign (v := (.int .i64 0)) rfl rfl) ?_)
  refine rw_cons (op_pv (w0 rfl) rfl rfl (pv_assign (v := (.int .i64 0)) rfl rfl) ?_)
  refine rw_cons (op_pv (w0 rfl) rfl rfl (pv_assign (v := (.bool false)) rfl rfl) ?_)
  refine rw_nil (hK4 _ _ ?_)
  refine hK2 _ _ ?_
  refine cw_seq fun K5 hK6 => ?_
  refine cw_region fun K7 hK8 => ?_
  refine rw_cons (op_pv (w0 rfl) rfl rfl (pv_move (v := (.slice Ahs nhs chs)) rfl rfl) ?_)
  refine rw_cons (op_pv (w0 rfl) rfl rfl (pv_move (v := (.string s)) rfl rfl) ?_)
  refine rw_cons (op_call (w0 rfl) rfl rfl (rc_call C46 rfl rfl) (l21At_ok _ nhs _ hs s _ (hRhs.more (by omega)) (hDhs.any (by omega)) (by first | assumption | exact SzOK.nil) (by omega)) ?_)
  rintro _ w9 ⟨rfl, hch10⟩
  have hsz11 := hch10.size
  replace hRhs := hRhs.ch0 hch10
  replace hDhs := hDhs.ch0 hch10
  replace hc := hc.step0 hch10
  have hnt12 := place_bds hs s
  refine rw_cons (op_pv (w0 rfl) rfl rfl (pv_assign (v := (.int .i64 (fplace (fvs hs) s))) rfl rfl) ?_)
  refine rw_nil (hK8 _ _ ?_)
  refine hK6 _ _ ?_
  refine cw_seq fun K13 hK14 => ?_
  refine cw_seq fun K15 hK16 => ?_
  refine cw_region fun K17 hK18 => ?_
  refine rw_cons (op_pv (w0 rfl) rfl rfl (pv_move (v := (.slice Ahs nhs chs)) rfl rfl) ?_)
  refine rw_cons (op_call (w0 rfl) rfl rfl (rc_call C32 rfl rfl) (FilesValid_s _ nhs _ hs _ (hRhs.more (by omega)) (hDhs.any (by omega)) (by first | assumption | exact SzOK.nil) (by omega) (by omega)) ?_)
  rintro _ w19 ⟨rfl, hch20⟩
  have hsz21 := hch20.size
  replace hRhs := hRhs.ch0 hch20
  replace hDhs := hDhs.ch0 hch20
  replace hc := hc.step0 hch20
  refine rw_cons (op_pv (w0 rfl) rfl rfl (pv_not rfl rfl) ?_)
  refine rw_cons (op_pv (w0 rfl) rfl rfl (pv_move (v := (.bool (!(dec (FOK (fvs hs)))))) rfl rfl) ?_)
  refine rw_split 16 rfl (fun hb22 => ?_) (fun hb22 => ?_)
  · -- yes
    replace hb22 := not_t hb22
    replace hb22 := dec_f hb22
    refine rw_cons (op_pass (w1n2 rfl rfl rfl rfl) rfl rfl ?_)
    refine rw_cons (op_pass (w1n2 rfl rfl rfl rfl) rfl rfl ?_)
    refine rw_cons (op_pv (w0 rfl) rfl rfl (pv_pickT (v := (.bool true)) rfl rfl rfl) ?_)
    refine rw_cons (op_pv (w0 rfl) rfl rfl (pv_move (v := (.bool true)) rfl rfl) ?_)
    refine rw_cons (op_pass (w1n2 rfl rfl rfl rfl) rfl rfl ?_)
    refine rw_cons (op_pass (w1n2 rfl rfl rfl rfl) rfl rfl ?_)
    refine rw_cons (op_pass (w1n2 rfl rfl rfl rfl) rfl rfl ?_)
    refine rw_cons (op_pass (w1n2 rfl rfl rfl rfl) rfl rfl ?_)
    refine rw_cons (op_pass (w1n2 rfl rfl rfl rfl) rfl rfl ?_)
    refine rw_cons (op_pass (w1n2 rfl rfl rfl rfl) rfl rfl ?_)
    refine rw_cons (op_pass (w1n2 rfl rfl rfl rfl) rfl rfl ?_)
    refine rw_cons (op_pass (w1n2 rfl rfl rfl rfl) rfl rfl ?_)
    refine rw_cons (op_pass (w1n2 rfl rfl rfl rfl) rfl rfl ?_)
    refine rw_cons (op_pass (w1n2 rfl rfl rfl rfl) rfl rfl ?_)
    refine rw_cons (op_pass (w1n2 rfl rfl rfl rfl) rfl rfl ?_)
    refine rw_cons (op_pv (w0 rfl) rfl rfl (pv_pickT (v := (.bool true)) rfl rfl rfl) ?_)
    refine rw_nil (hK18 _ _ ?_)
    refine hK16 _ _ ?_
    refine cw_cond rfl (fun h23 => ?_) (fun h23 => ?_)
    · -- then
      clear h23
      refine cw_seq fun K24 hK25 => ?_
      refine cw_region fun K26 hK27 => ?_
      refine rw_cons (op_pv (w0 rfl) rfl rfl (pv_assign (v := (.int .i64 0)) rfl rfl) ?_)
      refine rw_cons (op_pv (w0 rfl) rfl rfl (pv_assign (v := (.int .i64 0)) rfl rfl) ?_)
      refine rw_cons (op_pv (w0 rfl) rfl rfl (pv_assign (v := (.bool false)) rfl rfl) ?_)
      refine rw_nil (hK27 _ _ ?_)
      refine hK25 _ _ ?_
      refine cw_ret ?_
      refine fin3 rfl rfl rfl ?_
      have hno : ¬AtOK (fvs hs) s a := by rintro ⟨h1, h2, h3, h4⟩; first | contradiction | omega | (rw [el_fvs (by omega)] at h4; simp only [fv] at h4; omega)
      exact ⟨tup3 (iv (atN_no hno).symm) (iv (atK_no hno).symm) (bvf hno), hc⟩
    · -- else
      cases h23
  · -- no
    replace hb22 := not_f hb22
    replace hb22 := dec_t hb22
    refine rw_cons (op_pv (w1y rfl rfl rfl rfl) rfl rfl (pv_move (v := (.int .i64 (fplace (fvs hs) s))) rfl rfl) ?_)
    refine rw_cons (op_pv (w1y rfl rfl rfl rfl) rfl rfl (pv_lss rfl rfl rfl) ?_)
    refine rw_cons (op_pv (w0 rfl) rfl rfl (pv_pickF (v := (.bool (decide ((fplace (fvs hs) s) < 0)))) rfl rfl rfl) ?_)
    refine rw_cons (op_pv (w0 rfl) rfl rfl (pv_move (v := (.bool (decide ((fplace (fvs hs) s) < 0)))) rfl rfl) ?_)
    refine rw_split 20 rfl (fun hb28 => ?_) (fun hb28 => ?_)
    · -- yes
      replace hb28 := of_decide_eq_true hb28
      refine rw_cons (op_pass (w1n2 rfl rfl rfl rfl) rfl rfl ?_)
      refine rw_cons (op_pass (w1n2 rfl rfl rfl rfl) rfl rfl ?_)
      refine rw_cons (op_pass (w1n2 rfl rfl rfl rfl) rfl rfl ?_)
      refine rw_cons (op_pass (w1n2 rfl rfl rfl rfl) rfl rfl ?_)
      refine rw_cons (op_pass (w1n2 rfl rfl rfl rfl) rfl rfl ?_)
      refine rw_cons (op_pass (w1n2 rfl rfl rfl rfl) rfl rfl ?_)
      refine rw_cons (op_pass (w1n2 rfl rfl rfl rfl) rfl rfl ?_)
      refine rw_cons (op_pass (w1n2 rfl rfl rfl rfl) rfl rfl ?_)
      refine rw_cons (op_pass (w1n2 rfl rfl rfl rfl) rfl rfl ?_)
      refine rw_cons (op_pass (w1n2 rfl rfl rfl rfl) rfl rfl ?_)
      refine rw_cons (op_pass (w1n2 rfl rfl rfl rfl) rfl rfl ?_)
      refine rw_cons (op_pv (w0 rfl) rfl rfl (pv_pickT (v := (.bool true)) rfl rfl rfl) ?_)
      refine rw_nil (hK18 _ _ ?_)
      refine hK16 _ _ ?_
      refine cw_cond rfl (fun h29 => ?_) (fun h29 => ?_)
      · -- then
        clear h29
        refine cw_seq fun K30 hK31 => ?_
        refine cw_region fun K32 hK33 => ?_
        refine rw_cons (op_pv (w0 rfl) rfl rfl (pv_assign (v := (.int .i64 0)) rfl rfl) ?_)
        refine rw_cons (op_pv (w0 rfl) rfl rfl (pv_assign (v := (.int .i64 0)) rfl rfl) ?_)
        refine rw_cons (op_pv (w0 rfl) rfl rfl (pv_assign (v := (.bool false)) rfl rfl) ?_)
        refine rw_nil (hK33 _ _ ?_)
        refine hK31 _ _ ?_
        refine cw_ret ?_
        refine fin3 rfl rfl rfl ?_
        have hno : ¬AtOK (fvs hs) s a := by rintro ⟨h1, h2, h3, h4⟩; first | contradiction | omega | (rw [el_fvs (by omega)] at h4; simp only [fv] at h4; omega)
        exact ⟨tup3 (iv (atN_no hno).symm) (iv (atK_no hno).symm) (bvf hno), hc⟩
      · -- else
        cases h29
    · -- no
      replace hb28 := of_decide_eq_false hb28
      refine rw_cons (op_pv (w1y rfl rfl rfl rfl) rfl rfl (pv_move (v := (.int .i64 a)) rfl rfl) ?_)
      refine rw_cons (op_pv (w1y rfl rfl rfl rfl) rfl rfl (pv_move (v := (.slice Ahs nhs chs)) rfl rfl) ?_)
      refine rw_cons (op_pv (w1y rfl rfl rfl rfl) rfl rfl (pv_move (v := (.int .i64 (fplace (fvs hs) s))) rfl rfl) ?_)
      refine rw_cons (op_pv (w1y rfl rfl rfl rfl) rfl rfl (pv_idx Try.underlying24 T48 rfl rfl rfl (hRhs.some (k := (fplace (fvs hs) s).toNat) (by omega)) (by omega) (by omega)) ?_)
      refine rw_cons (op_pv (w1y rfl rfl rfl rfl) rfl rfl (pv_fld F48_1 rfl rfl) ?_)
      have hR34 : RS encI 1 w19 w.heap.size (el hs (fplace (fvs hs) s).toNat).A (el hs (fplace (fvs hs) s).toNat).n (el hs (fplace (fvs hs) s).toNat).ps := hDhs.rs (k := (fplace (fvs hs) s).toNat) (by omega)
      have hln35 := hR34.len
      refine rw_cons (op_lv (w1y rfl rfl rfl rfl) rfl rfl (lv_load T25 rfl rfl (hRhs.cellE (k := (fplace (fvs hs) s).toNat) (j := 1) (by omega) rfl)) ?_)
      have hzp := hZhs (fplace (fvs hs) s).toNat (by omega)
      refine rw_cons (op_pv (w1y rfl rfl rfl rfl) rfl rfl (pv_len Try.underlying25 rfl rfl) ?_)
      refine rw_cons (op_pv (w1y rfl rfl rfl rfl) rfl rfl (pv_mul rfl rfl rfl (by omega) (by omega)) ?_)
      refine rw_cons (op_pv (w1y rfl rfl rfl rfl) rfl rfl (pv_sub rfl rfl rfl (by omega) (by omega)) ?_)
      refine rw_cons (op_call (w1y rfl rfl rfl rfl) rfl rfl (rc_call C58 rfl rfl) (l6In_ok a 0 ((64 * ((el hs (fplace (fvs hs) s).toNat).n : Int)) - 1) _  ) ?_)
      rintro _ w36 ⟨rfl, hch37⟩
      have hsz38 := hch37.size
      replace hRhs := hRhs.ch0 hch37
      replace hDhs := hDhs.ch0 hch37
      replace hR34 := hR34.ch0 hch37
      replace hc := hc.step0 hch37
      refine rw_cons (op_pv (w1y rfl rfl rfl rfl) rfl rfl (pv_not rfl rfl) ?_)
      refine rw_cons (op_pv (w0 rfl) rfl rfl (pv_pickF (v := (.bool (!(dec (0 ≤ a ∧ a ≤ ((64 * ((el hs (fplace (fvs hs) s).toNat).n : Int)) - 1)))))) rfl rfl rfl) ?_)
      refine rw_nil (hK18 _ _ ?_)
      refine hK16 _ _ ?_
      refine cw_cond rfl (fun h39 => ?_) (fun h39 => ?_)
      · -- then
        replace h39 := not_t h39
        replace h39 := dec_f h39
        refine cw_seq fun K40 hK41 => ?_
        refine cw_region fun K42 hK43 => ?_
        refine rw_cons (op_pv (w0 rfl) rfl rfl (pv_assign (v := (.int .i64 0)) rfl rfl) ?_)
        refine rw_cons (op_pv (w0 rfl) rfl rfl (pv_assign (v := (.int .i64 0)) rfl rfl) ?_)
        refine rw_cons (op_pv (w0 rfl) rfl rfl (pv_assign (v := (.bool false)) rfl rfl) ?_)
        refine rw_nil (hK43 _ _ ?_)
        refine hK41 _ _ ?_
        refine cw_ret ?_
        refine fin3 rfl rfl rfl ?_
        have hno : ¬AtOK (fvs hs) s a := by rintro ⟨h1, h2, h3, h4⟩; first | contradiction | omega | (rw [el_fvs (by omega)] at h4; simp only [fv] at h4; omega)
        exact ⟨tup3 (iv (atN_no hno).symm) (iv (atK_no hno).symm) (bvf hno), hc⟩
      · -- else
        replace h39 := not_f h39
        replace h39 := dec_t h39
        refine cw_skip ?_
        refine hK14 _ _ ?_
        refine cw_seq fun K44 hK45 => ?_
        refine cw_region fun K46 hK47 => ?_
        refine rw_cons (op_pv (w0 rfl) rfl rfl (pv_move (v := (.slice Ahs nhs chs)) rfl rfl) ?_)
        refine rw_cons (op_pv (w0 rfl) rfl rfl (pv_move (v := (.int .i64 (fplace (fvs hs) s))) rfl rfl) ?_)
        refine rw_cons (op_pv (w0 rfl) rfl rfl (pv_idx Try.underlying24 T48 rfl rfl rfl (hRhs.some (k := (fplace (fvs hs) s).toNat) (by omega)) (by omega) (by omega)) ?_)
        refine rw_cons (op_pv (w0 rfl) rfl rfl (pv_fld F48_1 rfl rfl) ?_)
        have hR48 : RS encI 1 w36 w.heap.size (el hs (fplace (fvs hs) s).toNat).A (el hs (fplace (fvs hs) s).toNat).n (el hs (fplace (fvs hs) s).toNat).ps := hDhs.rs (k := (fplace (fvs hs) s).toNat) (by omega)
        have hln49 := hR48.len
        refine rw_cons (op_lv (w0 rfl) rfl rfl (lv_load T25 rfl rfl (hRhs.cellE (k := (fplace (fvs hs) s).toNat) (j := 1) (by omega) rfl)) ?_)
        refine rw_cons (op_pv (w0 rfl) rfl rfl (pv_move (v := (.int .i64 a)) rfl rfl) ?_)
        refine rw_cons (op_pv (w0 rfl) rfl rfl (pv_quo rfl rfl rfl (by omega) (by omega) (by omega)) ?_)
        refine rw_cons (op_pv (w0 rfl) rfl rfl (pv_idx Try.underlying25 T3 rfl rfl rfl (hR48.some (k := (a / 64).toNat) (by omega)) (by omega) (by omega)) ?_)
        refine rw_cons (op_lv (w0 rfl) rfl rfl (lv_load T3 rfl rfl (hR48.cell0 (k := (a / 64).toNat) (by omega) rfl)) ?_)
        refine rw_cons (op_pv (w0 rfl) rfl rfl (pv_move (v := (.int .i64 a)) rfl rfl) ?_)
        refine rw_cons (op_pv (w0 rfl) rfl rfl (pv_rem rfl rfl rfl (by omega) (by omega)) ?_)
        refine rw_cons (op_pv (w0 rfl) rfl rfl (pv_assign (v := (.int .i64 (el (el hs (fplace (fvs hs) s).toNat).ps (a / 64).toNat))) rfl rfl) ?_)
        refine rw_cons (op_pv (w0 rfl) rfl rfl (pv_assign (v := (.int .i64 (a % 64))) rfl rfl) ?_)
        refine rw_cons (op_pv (w0 rfl) rfl rfl (pv_assign (v := (.bool true)) rfl rfl) ?_)
        refine rw_nil (hK47 _ _ ?_)
        refine hK45 _ _ ?_
        refine cw_ret ?_
        refine fin3 rfl rfl rfl ?_
        have hyes : AtOK (fvs hs) s a := ⟨by assumption, by omega, by omega, by rw [el_fvs (by omega)]; simp only [fv]; omega⟩
        exact ⟨tup3 (iv (by rw [atN_yes hyes, el_fvs (by omega)]; rfl)) (iv (atK_yes hyes).symm) (bvt hyes), hc⟩
end Go.Proofs.Ythgnlljpjpklpaa
