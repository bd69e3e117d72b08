/-
  The walk of impl.FileAt, written by program: each line names the law of one operation. Conditions: those of the theorem.
-/
import Derived.Test.YthgnlljpjpklpaaProg
import Derived.Test.YthgnlljpjpklpaaDeep
import Derived.Test.YthgnlljpjpklpaaFimplFilesValid
import Derived.Test.YthgnlljpjpklpaaFimplfilePlace
import Derived.KernelRfl
namespace Go.Proofs.Ythgnlljpjpklpaa
open Go Go.RowKit
set_option linter.unusedVariables false
set_option linter.unusedSimpArgs false
namespace FileAt_iF
theorem T3 : TI Try.prog 3 false (.int .i64 0) 1 8 := TI.mk' Try.underlying3 rfl (by kernel_rfl)
theorem T25 : TI Try.prog 25 false (.slice none 0 0) 1 24 := TI.mk' Try.underlying25 rfl (by kernel_rfl)
theorem T48 : TI Try.prog 48 true (.agg #[.string { data := #[] }, .slice none 0 0]) 2 40 := TI.mk' Try.underlying48 rfl (by kernel_rfl)
theorem F48_1 : FldOK Try.prog 48 1 1 := ⟨_, _, 0, Try.underlying48, rfl, rfl, by kernel_rfl⟩
theorem C31 : Callable Try.prog 31 := ⟨_, Try.func31, by kernel_rfl, by kernel_rfl⟩
theorem C49 : Callable Try.prog 49 := ⟨_, Try.func49, by kernel_rfl, by kernel_rfl⟩
end FileAt_iF
open FileAt_iF in
set_option maxHeartbeats 4000000 in
theorem FileAt_i (Ahs : Option Addr) (nhs chs : Nat) (hs : List Fl) (s : ByteArray) (a : Int) (w : World) (hRhs : RS encF 2 w w.heap.size Ahs nhs hs) (hDhs : DX 0 w.heap.size [] w hs) (hZhs : SzOK hs) (hNhs : nhs ≤ 1099511627776) (ha : -9223372036854775808 ≤ a ∧ a ≤ 9223372036854775807) :
    Fn Try.prog 36 [(.slice Ahs nhs chs), (.string s), (.int .i64 a)] w fun v w' => v = .tuple #[.int .i64 (atN (fvs hs) s a), .int .i64 (atK (fvs hs) s a), .bool (dec (AtOK (fvs hs) s a))] ∧ Ch [] w w' := by
  have hlenhs := hRhs.len
  refine fn_of (n := 44) Try.func36 rfl rfl rfl rfl ?_
  have hc : Ch [] w w := Ch.refl _ _
  refine cw_seq fun K1 hK2 => ?_
  refine cw_region fun K3 hK4 => ?_
  refine rw_cons (op_pv (w0 rfl) rfl rfl (pv_assign (v := (.int .i64 0)) rfl rfl) ?_)
  refine rw_cons (op_pv (w0 rfl) rfl rfl (pv_assign (v := (.int .i64 0)) rfl rfl) ?_)
  refine rw_cons (op_pv (w0 rfl) rfl rfl (pv_assign (v := (.bool false)) rfl rfl) ?_)
  refine rw_nil (hK4 _ _ ?_)
  refine hK2 _ _ ?_
  refine cw_seq fun K5 hK6 => ?_
  refine cw_seq fun K7 hK8 => ?_
  refine cw_region fun K9 hK10 => ?_
  refine rw_cons (op_pv (w0 rfl) rfl rfl (pv_move (v := (.slice Ahs nhs chs)) rfl rfl) ?_)
  refine rw_cons (op_call (w0 rfl) rfl rfl (rc_call C31 rfl rfl) (FilesValid_i _ nhs _ hs _ (hRhs.more (by omega)) (hDhs.any (by omega)) (by first | assumption | exact SzOK.nil) (by omega)) ?_)
  rintro _ w11 ⟨rfl, hch12⟩
  have hsz13 := hch12.size
  replace hRhs := hRhs.ch0 hch12
  replace hDhs := hDhs.ch0 hch12
  replace hc := hc.step0 hch12
  refine rw_cons (op_pv (w0 rfl) rfl rfl (pv_not rfl rfl) ?_)
  refine rw_cons (op_pv (w0 rfl) rfl rfl (pv_move (v := (.bool (!(dec (FOK (fvs hs)))))) rfl rfl) ?_)
  refine rw_split 13 rfl (fun hb14 => ?_) (fun hb14 => ?_)
  · -- yes
    replace hb14 := not_t hb14
    replace hb14 := dec_f hb14
    refine rw_cons (op_pass (w1n2 rfl rfl rfl rfl) rfl rfl ?_)
    refine rw_cons (op_pass (w1n2 rfl rfl rfl rfl) rfl rfl ?_)
    refine rw_cons (op_pv (w0 rfl) rfl rfl (pv_pickT (v := (.bool true)) rfl rfl rfl) ?_)
    refine rw_nil (hK10 _ _ ?_)
    refine hK8 _ _ ?_
    refine cw_cond rfl (fun h15 => ?_) (fun h15 => ?_)
    · -- then
      clear h15
      refine cw_seq fun K16 hK17 => ?_
      refine cw_region fun K18 hK19 => ?_
      refine rw_cons (op_pv (w0 rfl) rfl rfl (pv_assign (v := (.int .i64 0)) rfl rfl) ?_)
      refine rw_cons (op_pv (w0 rfl) rfl rfl (pv_assign (v := (.int .i64 0)) rfl rfl) ?_)
      refine rw_cons (op_pv (w0 rfl) rfl rfl (pv_assign (v := (.bool false)) rfl rfl) ?_)
      refine rw_nil (hK19 _ _ ?_)
      refine hK17 _ _ ?_
      refine cw_ret ?_
      refine fin3 rfl rfl rfl ?_
      have hno : ¬AtOK (fvs hs) s a := by rintro ⟨h1, h2, h3, h4⟩; first | contradiction | omega | (rw [el_fvs (by omega)] at h4; simp only [fv] at h4; omega)
      exact ⟨tup3 (iv (atN_no hno).symm) (iv (atK_no hno).symm) (bvf hno), hc⟩
    · -- else
      cases h15
  · -- no
    replace hb14 := not_f hb14
    replace hb14 := dec_t hb14
    refine rw_cons (op_pv (w1y rfl rfl rfl rfl) rfl rfl (pv_move (v := (.int .i64 a)) rfl rfl) ?_)
    refine rw_cons (op_pv (w1y rfl rfl rfl rfl) rfl rfl (pv_lss rfl rfl rfl) ?_)
    refine rw_cons (op_pv (w0 rfl) rfl rfl (pv_pickF (v := (.bool (decide (a < 0)))) rfl rfl rfl) ?_)
    refine rw_nil (hK10 _ _ ?_)
    refine hK8 _ _ ?_
    refine cw_cond rfl (fun h20 => ?_) (fun h20 => ?_)
    · -- then
      replace h20 := of_decide_eq_true h20
      refine cw_seq fun K21 hK22 => ?_
      refine cw_region fun K23 hK24 => ?_
      refine rw_cons (op_pv (w0 rfl) rfl rfl (pv_assign (v := (.int .i64 0)) rfl rfl) ?_)
      refine rw_cons (op_pv (w0 rfl) rfl rfl (pv_assign (v := (.int .i64 0)) rfl rfl) ?_)
      refine rw_cons (op_pv (w0 rfl) rfl rfl (pv_assign (v := (.bool false)) rfl rfl) ?_)
      refine rw_nil (hK24 _ _ ?_)
      refine hK22 _ _ ?_
      refine cw_ret ?_
      refine fin3 rfl rfl rfl ?_
      have hno : ¬AtOK (fvs hs) s a := by rintro ⟨h1, h2, h3, h4⟩; first | contradiction | omega | (rw [el_fvs (by omega)] at h4; simp only [fv] at h4; omega)
      exact ⟨tup3 (iv (atN_no hno).symm) (iv (atK_no hno).symm) (bvf hno), hc⟩
    · -- else
      replace h20 := of_decide_eq_false h20
      refine cw_skip ?_
      refine hK6 _ _ ?_
      refine cw_seq fun K25 hK26 => ?_
      refine cw_region fun K27 hK28 => ?_
      refine rw_cons (op_pv (w0 rfl) rfl rfl (pv_move (v := (.slice Ahs nhs chs)) rfl rfl) ?_)
      refine rw_cons (op_pv (w0 rfl) rfl rfl (pv_move (v := (.string s)) rfl rfl) ?_)
      refine rw_cons (op_call (w0 rfl) rfl rfl (rc_call C49 rfl rfl) (filePlace_i _ nhs _ hs s _ (hRhs.more (by omega)) (hDhs.any (by omega)) (by first | assumption | exact SzOK.nil) (by omega)) ?_)
      rintro _ w29 ⟨rfl, hch30⟩
      have hsz31 := hch30.size
      replace hRhs := hRhs.ch0 hch30
      replace hDhs := hDhs.ch0 hch30
      replace hc := hc.step0 hch30
      have hnt32 := place_bds hs s
      refine rw_cons (op_pv (w0 rfl) rfl rfl (pv_assign (v := (.int .i64 (fplace (fvs hs) s))) rfl rfl) ?_)
      refine rw_nil (hK28 _ _ ?_)
      refine hK26 _ _ ?_
      refine cw_seq fun K33 hK34 => ?_
      refine cw_seq fun K35 hK36 => ?_
      refine cw_region fun K37 hK38 => ?_
      refine rw_cons (op_pv (w0 rfl) rfl rfl (pv_move (v := (.int .i64 (fplace (fvs hs) s))) rfl rfl) ?_)
      refine rw_cons (op_pv (w0 rfl) rfl rfl (pv_lss rfl rfl rfl) ?_)
      refine rw_cons (op_pv (w0 rfl) rfl rfl (pv_move (v := (.bool (decide ((fplace (fvs hs) s) < 0)))) rfl rfl) ?_)
      refine rw_split 22 rfl (fun hb39 => ?_) (fun hb39 => ?_)
      · -- yes
        replace hb39 := of_decide_eq_true hb39
        refine rw_cons (op_pass (w1n2 rfl rfl rfl rfl) rfl rfl ?_)
        refine rw_cons (op_pass (w1n2 rfl rfl rfl rfl) rfl rfl ?_)
        refine rw_cons (op_pass (w1n2 rfl rfl rfl rfl) rfl rfl ?_)
        refine rw_cons (op_pass (w1n2 rfl rfl rfl rfl) rfl rfl ?_)
        refine rw_cons (op_pass (w1n2 rfl rfl rfl rfl) rfl rfl ?_)
        refine rw_cons (op_pass (w1n2 rfl rfl rfl rfl) rfl rfl ?_)
        refine rw_cons (op_pass (w1n2 rfl rfl rfl rfl) rfl rfl ?_)
        refine rw_cons (op_pass (w1n2 rfl rfl rfl rfl) rfl rfl ?_)
        refine rw_cons (op_pass (w1n2 rfl rfl rfl rfl) rfl rfl ?_)
        refine rw_cons (op_pv (w0 rfl) rfl rfl (pv_pickT (v := (.bool true)) rfl rfl rfl) ?_)
        refine rw_nil (hK38 _ _ ?_)
        refine hK36 _ _ ?_
        refine cw_cond rfl (fun h40 => ?_) (fun h40 => ?_)
        · -- then
          clear h40
          refine cw_seq fun K41 hK42 => ?_
          refine cw_region fun K43 hK44 => ?_
          refine rw_cons (op_pv (w0 rfl) rfl rfl (pv_assign (v := (.int .i64 0)) rfl rfl) ?_)
          refine rw_cons (op_pv (w0 rfl) rfl rfl (pv_assign (v := (.int .i64 0)) rfl rfl) ?_)
          refine rw_cons (op_pv (w0 rfl) rfl rfl (pv_assign (v := (.bool false)) rfl rfl) ?_)
          refine rw_nil (hK44 _ _ ?_)
          refine hK42 _ _ ?_
          refine cw_ret ?_
          refine fin3 rfl rfl rfl ?_
          have hno : ¬AtOK (fvs hs) s a := by rintro ⟨h1, h2, h3, h4⟩; first | contradiction | omega | (rw [el_fvs (by omega)] at h4; simp only [fv] at h4; omega)
          exact ⟨tup3 (iv (atN_no hno).symm) (iv (atK_no hno).symm) (bvf hno), hc⟩
        · -- else
          cases h40
      · -- no
        replace hb39 := of_decide_eq_false hb39
        refine rw_cons (op_pv (w1y rfl rfl rfl rfl) rfl rfl (pv_move (v := (.int .i64 a)) rfl rfl) ?_)
        refine rw_cons (op_pv (w1y rfl rfl rfl rfl) rfl rfl (pv_quo rfl rfl rfl (by omega) (by omega) (by omega)) ?_)
        refine rw_cons (op_pv (w1y rfl rfl rfl rfl) rfl rfl (pv_move (v := (.slice Ahs nhs chs)) rfl rfl) ?_)
        refine rw_cons (op_pv (w1y rfl rfl rfl rfl) rfl rfl (pv_move (v := (.int .i64 (fplace (fvs hs) s))) rfl rfl) ?_)
        refine rw_cons (op_pv (w1y rfl rfl rfl rfl) rfl rfl (pv_idx Try.underlying24 T48 rfl rfl rfl (hRhs.some (k := (fplace (fvs hs) s).toNat) (by omega)) (by omega) (by omega)) ?_)
        refine rw_cons (op_pv (w1y rfl rfl rfl rfl) rfl rfl (pv_fld F48_1 rfl rfl) ?_)
        have hR45 : RS encI 1 w29 w.heap.size (el hs (fplace (fvs hs) s).toNat).A (el hs (fplace (fvs hs) s).toNat).n (el hs (fplace (fvs hs) s).toNat).ps := hDhs.rs (k := (fplace (fvs hs) s).toNat) (by omega)
        have hln46 := hR45.len
        refine rw_cons (op_lv (w1y rfl rfl rfl rfl) rfl rfl (lv_load T25 rfl rfl (hRhs.cellE (k := (fplace (fvs hs) s).toNat) (j := 1) (by omega) rfl)) ?_)
        refine rw_cons (op_pv (w1y rfl rfl rfl rfl) rfl rfl (pv_len Try.underlying25 rfl rfl) ?_)
        refine rw_cons (op_pv (w1y rfl rfl rfl rfl) rfl rfl (pv_geq rfl rfl rfl) ?_)
        refine rw_cons (op_pv (w0 rfl) rfl rfl (pv_pickF (v := (.bool (decide (((el hs (fplace (fvs hs) s).toNat).n : Int) ≤ (a / 64))))) rfl rfl rfl) ?_)
        refine rw_nil (hK38 _ _ ?_)
        refine hK36 _ _ ?_
        refine cw_cond rfl (fun h47 => ?_) (fun h47 => ?_)
        · -- then
          replace h47 := of_decide_eq_true h47
          refine cw_seq fun K48 hK49 => ?_
          refine cw_region fun K50 hK51 => ?_
          refine rw_cons (op_pv (w0 rfl) rfl rfl (pv_assign (v := (.int .i64 0)) rfl rfl) ?_)
          refine rw_cons (op_pv (w0 rfl) rfl rfl (pv_assign (v := (.int .i64 0)) rfl rfl) ?_)
          refine rw_cons (op_pv (w0 rfl) rfl rfl (pv_assign (v := (.bool false)) rfl rfl) ?_)
          refine rw_nil (hK51 _ _ ?_)
          refine hK49 _ _ ?_
          refine cw_ret ?_
          refine fin3 rfl rfl rfl ?_
          have hno : ¬AtOK (fvs hs) s a := by rintro ⟨h1, h2, h3, h4⟩; first | contradiction | omega | (rw [el_fvs (by omega)] at h4; simp only [fv] at h4; omega)
          exact ⟨tup3 (iv (atN_no hno).symm) (iv (atK_no hno).symm) (bvf hno), hc⟩
        · -- else
          replace h47 := of_decide_eq_false h47
          refine cw_skip ?_
          refine hK34 _ _ ?_
          refine cw_seq fun K52 hK53 => ?_
          refine cw_region fun K54 hK55 => ?_
          refine rw_cons (op_pv (w0 rfl) rfl rfl (pv_move (v := (.slice Ahs nhs chs)) rfl rfl) ?_)
          refine rw_cons (op_pv (w0 rfl) rfl rfl (pv_move (v := (.int .i64 (fplace (fvs hs) s))) rfl rfl) ?_)
          refine rw_cons (op_pv (w0 rfl) rfl rfl (pv_idx Try.underlying24 T48 rfl rfl rfl (hRhs.some (k := (fplace (fvs hs) s).toNat) (by omega)) (by omega) (by omega)) ?_)
          refine rw_cons (op_pv (w0 rfl) rfl rfl (pv_fld F48_1 rfl rfl) ?_)
          have hR56 : RS encI 1 w29 w.heap.size (el hs (fplace (fvs hs) s).toNat).A (el hs (fplace (fvs hs) s).toNat).n (el hs (fplace (fvs hs) s).toNat).ps := hDhs.rs (k := (fplace (fvs hs) s).toNat) (by omega)
          have hln57 := hR56.len
          refine rw_cons (op_lv (w0 rfl) rfl rfl (lv_load T25 rfl rfl (hRhs.cellE (k := (fplace (fvs hs) s).toNat) (j := 1) (by omega) rfl)) ?_)
          refine rw_cons (op_pv (w0 rfl) rfl rfl (pv_move (v := (.int .i64 a)) rfl rfl) ?_)
          refine rw_cons (op_pv (w0 rfl) rfl rfl (pv_quo rfl rfl rfl (by omega) (by omega) (by omega)) ?_)
          refine rw_cons (op_pv (w0 rfl) rfl rfl (pv_idx Try.underlying25 T3 rfl rfl rfl (hR56.some (k := (a / 64).toNat) (by omega)) (by omega) (by omega)) ?_)
          refine rw_cons (op_lv (w0 rfl) rfl rfl (lv_load T3 rfl rfl (hR56.cell0 (k := (a / 64).toNat) (by omega) rfl)) ?_)
          refine rw_cons (op_pv (w0 rfl) rfl rfl (pv_move (v := (.int .i64 a)) rfl rfl) ?_)
          refine rw_cons (op_pv (w0 rfl) rfl rfl (pv_rem rfl rfl rfl (by omega) (by omega)) ?_)
          refine rw_cons (op_pv (w0 rfl) rfl rfl (pv_assign (v := (.int .i64 (el (el hs (fplace (fvs hs) s).toNat).ps (a / 64).toNat))) rfl rfl) ?_)
          refine rw_cons (op_pv (w0 rfl) rfl rfl (pv_assign (v := (.int .i64 (a % 64))) rfl rfl) ?_)
          refine rw_cons (op_pv (w0 rfl) rfl rfl (pv_assign (v := (.bool true)) rfl rfl) ?_)
          refine rw_nil (hK55 _ _ ?_)
          refine hK53 _ _ ?_
          refine cw_ret ?_
          refine fin3 rfl rfl rfl ?_
          have hyes : AtOK (fvs hs) s a := ⟨by assumption, by omega, by omega, by rw [el_fvs (by omega)]; simp only [fv]; omega⟩
          exact ⟨tup3 (iv (by rw [atN_yes hyes, el_fvs (by omega)]; rfl)) (iv (atK_yes hyes).symm) (bvt hyes), hc⟩
end Go.Proofs.Ythgnlljpjpklpaa
