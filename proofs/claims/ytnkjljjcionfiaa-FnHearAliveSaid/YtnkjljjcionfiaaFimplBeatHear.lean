/-
  The walk of impl.BeatHear, written by program: each line names the law of one operation. Conditions: those of the theorem.
-/
import Derived.Test.YtnkjljjcionfiaaProg
import Derived.Test.YtnkjljjcionfiaaBeats
import Derived.Test.YtnkjljjcionfiaaFimplBeatsValid
import Derived.Test.YtnkjljjcionfiaaFimplbeatValid
import Derived.Test.YtnkjljjcionfiaaFimplnewBook
import Derived.Test.YtnkjljjcionfiaaFimplbeatBookhear
import Derived.Test.YtnkjljjcionfiaaFimplbeatBookall
import Derived.KernelRfl
namespace Go.Proofs.Ytnkjljjcionfiaa
open Go Go.RowKit
set_option linter.unusedVariables false
set_option linter.unusedSimpArgs false
namespace BeatHear_iF
theorem T39 : TI Try.prog 39 true (.agg #[.int .i64 0, .int .i64 0]) 2 16 := TI.mk' Try.underlying39 rfl (by kernel_rfl)
theorem C17 : Callable Try.prog 17 := ⟨_, Try.func17, by kernel_rfl, by kernel_rfl⟩
theorem C42 : Callable Try.prog 42 := ⟨_, Try.func42, by kernel_rfl, by kernel_rfl⟩
theorem C49 : Callable Try.prog 49 := ⟨_, Try.func49, by kernel_rfl, by kernel_rfl⟩
theorem C50 : Callable Try.prog 50 := ⟨_, Try.func50, by kernel_rfl, by kernel_rfl⟩
theorem C51 : Callable Try.prog 51 := ⟨_, Try.func51, by kernel_rfl, by kernel_rfl⟩
end BeatHear_iF
open BeatHear_iF in
set_option maxHeartbeats 4000000 in
theorem BeatHear_i (Axs : Option Addr) (nxs cxs : Nat) (xs : List Bt) (xS : Int) (xA : Int) (w : World) (hRxs : RS encB 2 w w.heap.size Axs nxs xs) (hNxs : nxs ≤ 1099511627776) :
    Fn Try.prog 35 [(.slice Axs nxs cxs), (.agg #[(.int .i64 xS), (.int .i64 xA)])] w fun v w' => ∃ A_0 c_0, v = .tuple #[.slice A_0 (hearV xs ⟨xS, xA⟩).length c_0, .bool (dec (HearOK xs ⟨xS, xA⟩))] ∧ Own encB 2 w' w.heap.size 39 (.slice A_0 (hearV xs ⟨xS, xA⟩).length c_0) (hearV xs ⟨xS, xA⟩) ∧ Ch [] w w' := by
  have hlenxs := hRxs.len
  refine fn_of (n := 29) Try.func35 rfl rfl rfl rfl ?_
  have hc : Ch [] w w := Ch.refl _ _
  refine cw_seq fun K1 hK2 => ?_
  refine cw_region fun K3 hK4 => ?_
  refine rw_cons (op_box (w0 rfl) rfl rfl rfl rfl ?_)
  rintro g6 w5 hg9 hg10 hB8 hch7
  have hsz11 := hch7.size
  replace hRxs := hRxs.ch0 hch7
  replace hc := hc.step0 hch7
  replace hB8 : Blk w5 g6 39 [(.int .i64 xS), (.int .i64 xA)] := hB8
  refine rw_cons (op_pv (w0 rfl) rfl rfl (pv_assign (v := (.slice none 0 0)) rfl rfl) ?_)
  refine rw_cons (op_pv (w0 rfl) rfl rfl (pv_assign (v := (.bool false)) rfl rfl) ?_)
  refine rw_nil (hK4 _ _ ?_)
  refine hK2 _ _ ?_
  refine cw_seq fun K12 hK13 => ?_
  refine cw_seq fun K14 hK15 => ?_
  refine cw_region fun K16 hK17 => ?_
  refine rw_cons (op_pv (w0 rfl) rfl rfl (pv_move (v := (.slice Axs nxs cxs)) rfl rfl) ?_)
  refine rw_cons (op_call (w0 rfl) rfl rfl (rc_call C17 rfl rfl) (BeatsValid_i _ _ _ xs _ (hRxs.more (by omega)) (by omega)) ?_)
  rintro _ w18 ⟨rfl, hch19⟩
  have hsz20 := hch19.size
  replace hRxs := hRxs.ch0 hch19
  replace hB8 := hB8.ch0 hch19
  replace hc := hc.step0 hch19
  refine rw_cons (op_pv (w0 rfl) rfl rfl (pv_not rfl rfl) ?_)
  refine rw_cons (op_pv (w0 rfl) rfl rfl (pv_move (v := (.bool (!(dec (BeatsOK xs))))) rfl rfl) ?_)
  refine rw_split 11 rfl (fun hb21 => ?_) (fun hb21 => ?_)
  · -- yes
    replace hb21 := not_t hb21
    replace hb21 := dec_f hb21
    refine rw_cons (op_pass (w1n2 rfl rfl rfl rfl) rfl rfl ?_)
    refine rw_cons (op_pass (w1n2 rfl rfl rfl rfl) rfl rfl ?_)
    refine rw_cons (op_pass (w1n2 rfl rfl rfl rfl) rfl rfl ?_)
    refine rw_cons (op_pv (w0 rfl) rfl rfl (pv_pickT (v := (.bool true)) rfl rfl rfl) ?_)
    refine rw_nil (hK17 _ _ ?_)
    refine hK15 _ _ ?_
    refine cw_cond rfl (fun h22 => ?_) (fun h22 => ?_)
    · -- then
      clear h22
      refine cw_seq fun K23 hK24 => ?_
      refine cw_region fun K25 hK26 => ?_
      refine rw_cons (op_bslice [] Try.underlying23 T39 (w0 rfl) rfl rfl rfl rfl rfl (by simp [Value.cells]) (by decide) ?_)
      intro g28 w27 hg31 hg32 hK30 hch29
      have hO33 : Own encB 2 w27 w18.heap.size 39 (.slice (some ⟨g28, 0, none⟩) 0 0) ([] : List Bt) := Blk.own (xs := ([] : List Bt)) hK30 (by omega) rfl (by decide) rfl
      have hsz34 := hch29.size
      replace hRxs := hRxs.ch0 hch29
      replace hB8 := hB8.ch0 hch29
      replace hc := hc.step0 hch29
      have hub35 := hO33.lt
      refine rw_cons (op_pv (w0 rfl) rfl rfl (pv_assign (v := (.slice (some ⟨g28, 0, none⟩) 0 0)) rfl rfl) ?_)
      refine rw_cons (op_pv (w0 rfl) rfl rfl (pv_assign (v := (.bool false)) rfl rfl) ?_)
      refine rw_nil (hK26 _ _ ?_)
      refine hK24 _ _ ?_
      refine cw_ret ?_
      refine fin2 rfl rfl ?_
      have hno : ¬ HearOK xs ⟨xS, xA⟩ := (by rintro ⟨h1, h2, h3⟩; have h2b : (1 ≤ xS ∧ xS ≤ 99) ∧ (0 ≤ xA ∧ xA ≤ 9999) := h2; first | contradiction | omega | exact absurd (beats_one.2 h2) (by assumption))
      have he_0 : ([] : List Bt) = hearV xs ⟨xS, xA⟩ := (hearV_no hno).symm
      exact ⟨_, _, tup2 (sl_as hO33 he_0) (bvf hno), own_as (hO33.less (by omega)) he_0, hc⟩
    · -- else
      cases h22
  · -- no
    replace hb21 := not_f hb21
    replace hb21 := dec_t hb21
    refine rw_cons (op_lv (w1y rfl rfl rfl rfl) rfl rfl (lv_loadN T39 rfl rfl rfl (fun j v hv => hB8.cellA hv)) ?_)
    refine rw_cons (op_call (w1y rfl rfl rfl rfl) rfl rfl (rc_call C42 rfl rfl) (beatValid_ok xS xA _ ) ?_)
    rintro _ w36 ⟨rfl, hch37⟩
    have hsz38 := hch37.size
    replace hRxs := hRxs.ch0 hch37
    replace hB8 := hB8.ch0 hch37
    replace hc := hc.step0 hch37
    refine rw_cons (op_pv (w1y rfl rfl rfl rfl) rfl rfl (pv_not rfl rfl) ?_)
    refine rw_cons (op_pv (w0 rfl) rfl rfl (pv_pickF (v := (.bool (!(dec ((1 ≤ xS ∧ xS ≤ 99) ∧ (0 ≤ xA ∧ xA ≤ 9999)))))) rfl rfl rfl) ?_)
    refine rw_nil (hK17 _ _ ?_)
    refine hK15 _ _ ?_
    refine cw_cond rfl (fun h39 => ?_) (fun h39 => ?_)
    · -- then
      replace h39 := not_t h39
      replace h39 := dec_f h39
      refine cw_seq fun K40 hK41 => ?_
      refine cw_region fun K42 hK43 => ?_
      refine rw_cons (op_bslice [] Try.underlying23 T39 (w0 rfl) rfl rfl rfl rfl rfl (by simp [Value.cells]) (by decide) ?_)
      intro g45 w44 hg48 hg49 hK47 hch46
      have hO50 : Own encB 2 w44 w36.heap.size 39 (.slice (some ⟨g45, 0, none⟩) 0 0) ([] : List Bt) := Blk.own (xs := ([] : List Bt)) hK47 (by omega) rfl (by decide) rfl
      have hsz51 := hch46.size
      replace hRxs := hRxs.ch0 hch46
      replace hB8 := hB8.ch0 hch46
      replace hc := hc.step0 hch46
      have hub52 := hO50.lt
      refine rw_cons (op_pv (w0 rfl) rfl rfl (pv_assign (v := (.slice (some ⟨g45, 0, none⟩) 0 0)) rfl rfl) ?_)
      refine rw_cons (op_pv (w0 rfl) rfl rfl (pv_assign (v := (.bool false)) rfl rfl) ?_)
      refine rw_nil (hK43 _ _ ?_)
      refine hK41 _ _ ?_
      refine cw_ret ?_
      refine fin2 rfl rfl ?_
      have hno : ¬ HearOK xs ⟨xS, xA⟩ := (by rintro ⟨h1, h2, h3⟩; have h2b : (1 ≤ xS ∧ xS ≤ 99) ∧ (0 ≤ xA ∧ xA ≤ 9999) := h2; first | contradiction | omega | exact absurd (beats_one.2 h2) (by assumption))
      have he_0 : ([] : List Bt) = hearV xs ⟨xS, xA⟩ := (hearV_no hno).symm
      exact ⟨_, _, tup2 (sl_as hO50 he_0) (bvf hno), own_as (hO50.less (by omega)) he_0, hc⟩
    · -- else
      replace h39 := not_f h39
      replace h39 := dec_t h39
      refine cw_skip ?_
      refine hK13 _ _ ?_
      refine cw_seq fun K53 hK54 => ?_
      have hx8 := (‹BeatsOK xs›).1
      refine cw_region fun K55 hK56 => ?_
      refine rw_cons (op_pv (w0 rfl) rfl rfl (pv_move (v := (.slice Axs nxs cxs)) rfl rfl) ?_)
      refine rw_cons (op_call (w0 rfl) rfl rfl (rc_call C49 rfl rfl) (newBook_ok _ nxs _ xs _ (hRxs.more (by omega)) (by omega)) ?_)
      rintro _ w58 ⟨g57, rfl, hg59, hbk60, hch61⟩
      have hsz62 := hch61.size
      replace hRxs := hRxs.ch0 hch61
      replace hB8 := hB8.ch0 hch61
      replace hc := hc.step0 hch61
      refine rw_cons (op_pv (w0 rfl) rfl rfl (pv_assign (v := (.pointer (some (⟨g57, 0, none⟩)))) rfl rfl) ?_)
      refine rw_nil (hK56 _ _ ?_)
      refine hK54 _ _ ?_
      refine cw_seq fun K63 hK64 => ?_
      refine cw_region fun K65 hK66 => ?_
      refine rw_cons (op_pv (w0 rfl) rfl rfl (pv_move (v := (.pointer (some (⟨g57, 0, none⟩)))) rfl rfl) ?_)
      refine rw_cons (op_lv (w0 rfl) rfl rfl (lv_loadN T39 rfl rfl rfl (fun j v hv => hB8.cellA hv)) ?_)
      refine rw_cons (op_call (w0 rfl) rfl rfl (rc_call C50 rfl rfl) (hear_ok _ _ _ xS xA _ hbk60 (by omega) (by omega)) ?_)
      rintro _ w67 ⟨rfl, hbk68, hbl69⟩
      obtain ⟨S70, hOff71, hch72⟩ := below_ch hbl69
      have hsz73 := hch72.size
      replace hRxs := hRxs.ch hch72 (hOff71.le (by omega))
      replace hB8 := hB8.ch hch72 (hOff71.not (by omega))
      replace hc := (hOff71.le (by omega)).step hc hch72
      clear hbk60; have hbk60 := hbk68; clear hbk68
      have hhl74 := hear_len xs ⟨xS, xA⟩
      refine rw_nil (hK66 _ _ ?_)
      refine hK64 _ _ ?_
      refine cw_seq fun K75 hK76 => ?_
      refine cw_region fun K77 hK78 => ?_
      refine rw_cons (op_pv (w0 rfl) rfl rfl (pv_move (v := (.pointer (some (⟨g57, 0, none⟩)))) rfl rfl) ?_)
      refine rw_cons (op_call (w0 rfl) rfl rfl (rc_call C51 rfl rfl) (all_ok _ _ _  _ hbk60 (by omega) (by omega)) ?_)
      rintro _ w79 ⟨A80, c81, rfl, hO82, hbk83, S84, hOff85, hch86⟩
      have hsz87 := hch86.size
      replace hRxs := hRxs.ch hch86 (hOff85.le (by omega))
      replace hB8 := hB8.ch hch86 (hOff85.not (by omega))
      replace hc := (hOff85.le (by omega)).step hc hch86
      clear hbk60; have hbk60 := hbk83; clear hbk83
      clear hbk60
      have hub88 := hO82.lt
      have hcap89 : (hearL xs ⟨xS, xA⟩).length ≤ c81 := by obtain ⟨_, _, hv, h1, _⟩ := hO82.form; injection hv with _ _ h3; omega
      refine rw_cons (op_pv (w0 rfl) rfl rfl (pv_assign (v := (.slice A80 (hearL xs ⟨xS, xA⟩).length c81)) rfl rfl) ?_)
      refine rw_nil (hK78 _ _ ?_)
      refine hK76 _ _ ?_
      refine cw_seq fun K90 hK91 => ?_
      refine cw_seq fun K92 hK93 => ?_
      refine cw_region fun K94 hK95 => ?_
      refine rw_cons (op_pv (w0 rfl) rfl rfl (pv_move (v := (.slice A80 (hearL xs ⟨xS, xA⟩).length c81)) rfl rfl) ?_)
      refine rw_cons (op_call (w0 rfl) rfl rfl (rc_call C17 rfl rfl) (BeatsValid_i _ _ _ (hearL xs ⟨xS, xA⟩) _ (hO82.rs (fun _ => rfl)) (by omega)) ?_)
      rintro _ w96 ⟨rfl, hch97⟩
      have hsz98 := hch97.size
      replace hRxs := hRxs.ch0 hch97
      replace hB8 := hB8.ch0 hch97
      replace hO82 := hO82.ch0 hch97
      replace hc := hc.step0 hch97
      refine rw_cons (op_pv (w0 rfl) rfl rfl (pv_not rfl rfl) ?_)
      refine rw_nil (hK95 _ _ ?_)
      refine hK93 _ _ ?_
      refine cw_cond rfl (fun h99 => ?_) (fun h99 => ?_)
      · -- then
        replace h99 := not_t h99
        replace h99 := dec_f h99
        refine cw_seq fun K100 hK101 => ?_
        refine cw_region fun K102 hK103 => ?_
        refine rw_cons (op_bslice [] Try.underlying23 T39 (w0 rfl) rfl rfl rfl rfl rfl (by simp [Value.cells]) (by decide) ?_)
        intro g105 w104 hg108 hg109 hK107 hch106
        have hO110 : Own encB 2 w104 w96.heap.size 39 (.slice (some ⟨g105, 0, none⟩) 0 0) ([] : List Bt) := Blk.own (xs := ([] : List Bt)) hK107 (by omega) rfl (by decide) rfl
        have hsz111 := hch106.size
        replace hRxs := hRxs.ch0 hch106
        replace hB8 := hB8.ch0 hch106
        replace hO82 := hO82.ch0 hch106
        replace hc := hc.step0 hch106
        have hub112 := hO110.lt
        refine rw_cons (op_pv (w0 rfl) rfl rfl (pv_assign (v := (.slice (some ⟨g105, 0, none⟩) 0 0)) rfl rfl) ?_)
        refine rw_cons (op_pv (w0 rfl) rfl rfl (pv_assign (v := (.bool false)) rfl rfl) ?_)
        refine rw_nil (hK103 _ _ ?_)
        refine hK101 _ _ ?_
        refine cw_ret ?_
        refine fin2 rfl rfl ?_
        have hno : ¬ HearOK xs ⟨xS, xA⟩ := (by rintro ⟨h1, h2, h3⟩; have h2b : (1 ≤ xS ∧ xS ≤ 99) ∧ (0 ≤ xA ∧ xA ≤ 9999) := h2; first | contradiction | omega | exact absurd (beats_one.2 h2) (by assumption))
        have he_0 : ([] : List Bt) = hearV xs ⟨xS, xA⟩ := (hearV_no hno).symm
        exact ⟨_, _, tup2 (sl_as hO110 he_0) (bvf hno), own_as (hO110.less (by omega)) he_0, hc⟩
      · -- else
        replace h99 := not_f h99
        replace h99 := dec_t h99
        refine cw_skip ?_
        refine hK91 _ _ ?_
        refine cw_seq fun K113 hK114 => ?_
        refine cw_region fun K115 hK116 => ?_
        refine rw_cons (op_pv (w0 rfl) rfl rfl (pv_move (v := (.slice A80 (hearL xs ⟨xS, xA⟩).length c81)) rfl rfl) ?_)
        refine rw_cons (op_pv (w0 rfl) rfl rfl (pv_assign (v := (.slice A80 (hearL xs ⟨xS, xA⟩).length c81)) rfl rfl) ?_)
        refine rw_cons (op_pv (w0 rfl) rfl rfl (pv_assign (v := (.bool true)) rfl rfl) ?_)
        refine rw_nil (hK116 _ _ ?_)
        refine hK114 _ _ ?_
        refine cw_ret ?_
        refine fin2 rfl rfl ?_
        have hb2 : BtOK ⟨xS, xA⟩ := by first | exact beats_one.1 (by assumption) | (show (1 ≤ xS ∧ xS ≤ 99) ∧ (0 ≤ xA ∧ xA ≤ 9999); omega)
        have hyes : HearOK xs ⟨xS, xA⟩ := ⟨‹BeatsOK xs›, hb2, by assumption⟩
        have he_0 : (hearL xs ⟨xS, xA⟩) = hearV xs ⟨xS, xA⟩ := (hearV_yes hyes).symm
        exact ⟨_, _, tup2 (sl_as hO82 he_0) (bvt hyes), own_as (hO82.less (by omega)) he_0, hc⟩
end Go.Proofs.Ytnkjljjcionfiaa
