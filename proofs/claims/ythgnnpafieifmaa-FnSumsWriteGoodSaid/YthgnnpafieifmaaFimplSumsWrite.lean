/-
  The walk of impl.SumsWrite, written by program: each line names the law of one operation. Conditions: those of the theorem.
-/
import Derived.Test.YthgnnpafieifmaaProg
import Derived.Test.YthgnnpafieifmaaSums
import Derived.Test.YthgnnpafieifmaaFimplBytesValid
import Derived.Test.YthgnnpafieifmaaFimplallSums
import Derived.Test.YthgnnpafieifmaaFimplsameNumbers
import Derived.KernelRfl
namespace Go.Proofs.Ythgnnpafieifmaa
open Go Go.RowKit
set_option linter.unusedVariables false
set_option linter.unusedSimpArgs false
namespace SumsWrite_iF
theorem T3 : TI Try.prog 3 false (.int .i64 0) 1 8 := TI.mk' Try.underlying3 rfl (by kernel_rfl)
theorem C19 : Callable Try.prog 19 := ⟨_, Try.func19, by kernel_rfl, by kernel_rfl⟩
theorem C38 : Callable Try.prog 38 := ⟨_, Try.func38, by kernel_rfl, by kernel_rfl⟩
theorem C40 : Callable Try.prog 40 := ⟨_, Try.func40, by kernel_rfl, by kernel_rfl⟩
end SumsWrite_iF
open SumsWrite_iF in
set_option maxHeartbeats 4000000 in
theorem SumsWrite_i (Axs : Option Addr) (nxs cxs : Nat) (xs : List Int) (Ass : Option Addr) (nss css : Nat) (ss : List Int) (a : Int) (Afr : Option Addr) (nfr cfr : Nat) (fr : List Int) (w : World) (hRxs : RS encI 1 w w.heap.size Axs nxs xs) (hnxs : nxs ≤ cxs) (hNxs : nxs ≤ 1099511627776) (hRss : RS encI 1 w w.heap.size Ass nss ss) (hNss : nss ≤ 1099511627776) (hRfr : RS encI 1 w w.heap.size Afr nfr fr) (hNfr : nfr ≤ 1099511627776) :
    Fn Try.prog 31 [(.slice Axs nxs cxs), (.slice Ass nss css), (.int .i64 a), (.slice Afr nfr cfr)] w fun v w' => ∃ A_0 c_0 A_1 c_1, v = .tuple #[.slice A_0 (writeV xs ss a fr).length c_0, .slice A_1 (writeS xs ss a fr).length c_1, .bool (dec (WriteOK xs ss a fr))] ∧ Own encI 1 w' w.heap.size 3 (.slice A_0 (writeV xs ss a fr).length c_0) (writeV xs ss a fr) ∧ Own encI 1 w' w.heap.size 3 (.slice A_1 (writeS xs ss a fr).length c_1) (writeS xs ss a fr) ∧ (∀ s ∈ obl (.slice A_0 (writeV xs ss a fr).length c_0), s ∉ obl (.slice A_1 (writeS xs ss a fr).length c_1)) ∧ Ch [] w w' := by
  have hlenxs := hRxs.len
  have hlenss := hRss.len
  have hlenfr := hRfr.len
  refine fn_of (n := 65) Try.func31 rfl rfl rfl rfl ?_
  have hc : Ch [] w w := Ch.refl _ _
  refine cw_seq fun K1 hK2 => ?_
  refine cw_region fun K3 hK4 => ?_
  refine rw_cons (op_pv (w0 rfl) rfl rfl (pv_assign (v := (.slice none 0 0)) rfl rfl) ?_)
  refine rw_cons (op_pv (w0 rfl) rfl rfl (pv_assign (v := (.slice none 0 0)) rfl rfl) ?_)
  refine rw_cons (op_pv (w0 rfl) rfl rfl (pv_assign (v := (.bool false)) rfl rfl) ?_)
  refine rw_nil (hK4 _ _ ?_)
  refine hK2 _ _ ?_
  refine cw_seq fun K5 hK6 => ?_
  refine cw_seq fun K7 hK8 => ?_
  refine cw_region fun K9 hK10 => ?_
  refine rw_cons (op_pv (w0 rfl) rfl rfl (pv_move (v := (.slice Axs nxs cxs)) rfl rfl) ?_)
  refine rw_cons (op_call (w0 rfl) rfl rfl (rc_call C19 rfl rfl) (BytesValid_i _ _ _ xs _ (hRxs.more (by omega)) (by omega)) ?_)
  rintro _ w11 ⟨rfl, hch12⟩
  have hsz13 := hch12.size
  replace hRxs := hRxs.ch0 hch12
  replace hRss := hRss.ch0 hch12
  replace hRfr := hRfr.ch0 hch12
  replace hc := hc.step0 hch12
  refine rw_cons (op_pv (w0 rfl) rfl rfl (pv_not rfl rfl) ?_)
  refine rw_cons (op_pv (w0 rfl) rfl rfl (pv_move (v := (.bool (!(dec (BytesOK xs))))) rfl rfl) ?_)
  refine rw_split 15 rfl (fun hb14 => ?_) (fun hb14 => ?_)
  · -- yes
    replace hb14 := not_t hb14
    replace hb14 := dec_f hb14
    refine rw_cons (op_pass (w1n2 rfl rfl rfl rfl) rfl rfl ?_)
    refine rw_cons (op_pass (w1n2 rfl rfl rfl rfl) rfl rfl ?_)
    refine rw_cons (op_pass (w1n2 rfl rfl rfl rfl) rfl rfl ?_)
    refine rw_cons (op_pv (w0 rfl) rfl rfl (pv_pickT (v := (.bool true)) rfl rfl rfl) ?_)
    refine rw_cons (op_pv (w0 rfl) rfl rfl (pv_move (v := (.bool true)) rfl rfl) ?_)
    refine rw_cons (op_pass (w1n2 rfl rfl rfl rfl) rfl rfl ?_)
    refine rw_cons (op_pass (w1n2 rfl rfl rfl rfl) rfl rfl ?_)
    refine rw_cons (op_pv (w0 rfl) rfl rfl (pv_pickT (v := (.bool true)) rfl rfl rfl) ?_)
    refine rw_cons (op_pv (w0 rfl) rfl rfl (pv_move (v := (.bool true)) rfl rfl) ?_)
    refine rw_cons (op_pass (w1n2 rfl rfl rfl rfl) rfl rfl ?_)
    refine rw_cons (op_pass (w1n2 rfl rfl rfl rfl) rfl rfl ?_)
    refine rw_cons (op_pass (w1n2 rfl rfl rfl rfl) rfl rfl ?_)
    refine rw_cons (op_pass (w1n2 rfl rfl rfl rfl) rfl rfl ?_)
    refine rw_cons (op_pv (w0 rfl) rfl rfl (pv_pickT (v := (.bool true)) rfl rfl rfl) ?_)
    refine rw_nil (hK10 _ _ ?_)
    refine hK8 _ _ ?_
    refine cw_cond rfl (fun h15 => ?_) (fun h15 => ?_)
    · -- then
      clear h15
      refine cw_seq fun K16 hK17 => ?_
      refine cw_region fun K18 hK19 => ?_
      refine rw_cons (op_bslice [] Try.underlying22 T3 (w0 rfl) rfl rfl rfl rfl rfl (by simp [Value.cells]) (by decide) ?_)
      intro g21 w20 hg24 hg25 hK23 hch22
      have hO26 : Own encI 1 w20 w11.heap.size 3 (.slice (some ⟨g21, 0, none⟩) 0 0) ([] : List Int) := Blk.own (xs := ([] : List Int)) hK23 (by omega) rfl (by decide) rfl
      have hsz27 := hch22.size
      replace hRxs := hRxs.ch0 hch22
      replace hRss := hRss.ch0 hch22
      replace hRfr := hRfr.ch0 hch22
      replace hc := hc.step0 hch22
      have hub28 := hO26.lt
      refine rw_cons (op_bslice [] Try.underlying22 T3 (w0 rfl) rfl rfl rfl rfl rfl (by simp [Value.cells]) (by decide) ?_)
      intro g30 w29 hg33 hg34 hK32 hch31
      have hO35 : Own encI 1 w29 w20.heap.size 3 (.slice (some ⟨g30, 0, none⟩) 0 0) ([] : List Int) := Blk.own (xs := ([] : List Int)) hK32 (by omega) rfl (by decide) rfl
      have hsz36 := hch31.size
      replace hRxs := hRxs.ch0 hch31
      replace hRss := hRss.ch0 hch31
      replace hRfr := hRfr.ch0 hch31
      replace hO26 := hO26.ch0 hch31
      replace hc := hc.step0 hch31
      have hub37 := hO35.lt
      refine rw_cons (op_pv (w0 rfl) rfl rfl (pv_assign (v := (.slice (some ⟨g21, 0, none⟩) 0 0)) rfl rfl) ?_)
      refine rw_cons (op_pv (w0 rfl) rfl rfl (pv_assign (v := (.slice (some ⟨g30, 0, none⟩) 0 0)) rfl rfl) ?_)
      refine rw_cons (op_pv (w0 rfl) rfl rfl (pv_assign (v := (.bool false)) rfl rfl) ?_)
      refine rw_nil (hK19 _ _ ?_)
      refine hK17 _ _ ?_
      refine cw_ret ?_
      refine fin3 rfl rfl rfl ?_
      have hno : ¬ WriteOK xs ss a fr := (by rintro ⟨h1, h2, h3, h4, h5, h6⟩; have h7 := bad_iff.2 h6; have h8 : (badL (sumsL xs) ss).length = 0 := by { rw [h7.1]; rfl }; have h9 := h7.2; first | contradiction | omega | exact absurd (writeL_ok h1 h2 (a := a.toNat) (by omega) (by omega)) (by assumption))
      have he_0 : ([] : List Int) = writeV xs ss a fr := (writeV_no hno).symm
      have he_1 : ([] : List Int) = writeS xs ss a fr := (writeS_no hno).symm
      exact ⟨_, _, _, _, tup3 (sl_as hO26 he_0) (sl_as hO35 he_1) (bvf hno), own_as (hO26.less (by omega)) he_0, own_as (hO35.less (by omega)) he_1, (dj_as (show ∀ s ∈ obl (.slice (some ⟨g21, 0, none⟩) 0 0), s ∉ obl (.slice (some ⟨g30, 0, none⟩) 0 0) from fun s hs hs2 => by first | (have h1 := hO26.off s hs; have h2 := hub37 s hs2; omega) | (have h1 := hub28 s hs; have h2 := hO35.off s hs2; omega) | (simp [obl, Value.ownBlock] at hs; done) | (simp [obl, Value.ownBlock] at hs2; done) | (have h2 := hub37 s hs2; simp [obl, Value.ownBlock] at hs; omega) | (have h1 := hub28 s hs; simp [obl, Value.ownBlock] at hs2; omega))), hc⟩
    · -- else
      cases h15
  · -- no
    replace hb14 := not_f hb14
    replace hb14 := dec_t hb14
    refine rw_cons (op_pv (w1y rfl rfl rfl rfl) rfl rfl (pv_move (v := (.slice Afr nfr cfr)) rfl rfl) ?_)
    refine rw_cons (op_call (w1y rfl rfl rfl rfl) rfl rfl (rc_call C19 rfl rfl) (BytesValid_i _ _ _ fr _ (hRfr.more (by omega)) (by omega)) ?_)
    rintro _ w38 ⟨rfl, hch39⟩
    have hsz40 := hch39.size
    replace hRxs := hRxs.ch0 hch39
    replace hRss := hRss.ch0 hch39
    replace hRfr := hRfr.ch0 hch39
    replace hc := hc.step0 hch39
    refine rw_cons (op_pv (w1y rfl rfl rfl rfl) rfl rfl (pv_not rfl rfl) ?_)
    refine rw_cons (op_pv (w0 rfl) rfl rfl (pv_pickF (v := (.bool (!(dec (BytesOK fr))))) rfl rfl rfl) ?_)
    refine rw_cons (op_pv (w0 rfl) rfl rfl (pv_move (v := (.bool (!(dec (BytesOK fr))))) rfl rfl) ?_)
    refine rw_split 20 rfl (fun hb41 => ?_) (fun hb41 => ?_)
    · -- yes
      replace hb41 := not_t hb41
      replace hb41 := dec_f hb41
      refine rw_cons (op_pass (w1n2 rfl rfl rfl rfl) rfl rfl ?_)
      refine rw_cons (op_pass (w1n2 rfl rfl rfl rfl) rfl rfl ?_)
      refine rw_cons (op_pv (w0 rfl) rfl rfl (pv_pickT (v := (.bool true)) rfl rfl rfl) ?_)
      refine rw_cons (op_pv (w0 rfl) rfl rfl (pv_move (v := (.bool true)) rfl rfl) ?_)
      refine rw_cons (op_pass (w1n2 rfl rfl rfl rfl) rfl rfl ?_)
      refine rw_cons (op_pass (w1n2 rfl rfl rfl rfl) rfl rfl ?_)
      refine rw_cons (op_pass (w1n2 rfl rfl rfl rfl) rfl rfl ?_)
      refine rw_cons (op_pass (w1n2 rfl rfl rfl rfl) rfl rfl ?_)
      refine rw_cons (op_pv (w0 rfl) rfl rfl (pv_pickT (v := (.bool true)) rfl rfl rfl) ?_)
      refine rw_nil (hK10 _ _ ?_)
      refine hK8 _ _ ?_
      refine cw_cond rfl (fun h42 => ?_) (fun h42 => ?_)
      · -- then
        clear h42
        refine cw_seq fun K43 hK44 => ?_
        refine cw_region fun K45 hK46 => ?_
        refine rw_cons (op_bslice [] Try.underlying22 T3 (w0 rfl) rfl rfl rfl rfl rfl (by simp [Value.cells]) (by decide) ?_)
        intro g48 w47 hg51 hg52 hK50 hch49
        have hO53 : Own encI 1 w47 w38.heap.size 3 (.slice (some ⟨g48, 0, none⟩) 0 0) ([] : List Int) := Blk.own (xs := ([] : List Int)) hK50 (by omega) rfl (by decide) rfl
        have hsz54 := hch49.size
        replace hRxs := hRxs.ch0 hch49
        replace hRss := hRss.ch0 hch49
        replace hRfr := hRfr.ch0 hch49
        replace hc := hc.step0 hch49
        have hub55 := hO53.lt
        refine rw_cons (op_bslice [] Try.underlying22 T3 (w0 rfl) rfl rfl rfl rfl rfl (by simp [Value.cells]) (by decide) ?_)
        intro g57 w56 hg60 hg61 hK59 hch58
        have hO62 : Own encI 1 w56 w47.heap.size 3 (.slice (some ⟨g57, 0, none⟩) 0 0) ([] : List Int) := Blk.own (xs := ([] : List Int)) hK59 (by omega) rfl (by decide) rfl
        have hsz63 := hch58.size
        replace hRxs := hRxs.ch0 hch58
        replace hRss := hRss.ch0 hch58
        replace hRfr := hRfr.ch0 hch58
        replace hO53 := hO53.ch0 hch58
        replace hc := hc.step0 hch58
        have hub64 := hO62.lt
        refine rw_cons (op_pv (w0 rfl) rfl rfl (pv_assign (v := (.slice (some ⟨g48, 0, none⟩) 0 0)) rfl rfl) ?_)
        refine rw_cons (op_pv (w0 rfl) rfl rfl (pv_assign (v := (.slice (some ⟨g57, 0, none⟩) 0 0)) rfl rfl) ?_)
        refine rw_cons (op_pv (w0 rfl) rfl rfl (pv_assign (v := (.bool false)) rfl rfl) ?_)
        refine rw_nil (hK46 _ _ ?_)
        refine hK44 _ _ ?_
        refine cw_ret ?_
        refine fin3 rfl rfl rfl ?_
        have hno : ¬ WriteOK xs ss a fr := (by rintro ⟨h1, h2, h3, h4, h5, h6⟩; have h7 := bad_iff.2 h6; have h8 : (badL (sumsL xs) ss).length = 0 := by { rw [h7.1]; rfl }; have h9 := h7.2; first | contradiction | omega | exact absurd (writeL_ok h1 h2 (a := a.toNat) (by omega) (by omega)) (by assumption))
        have he_0 : ([] : List Int) = writeV xs ss a fr := (writeV_no hno).symm
        have he_1 : ([] : List Int) = writeS xs ss a fr := (writeS_no hno).symm
        exact ⟨_, _, _, _, tup3 (sl_as hO53 he_0) (sl_as hO62 he_1) (bvf hno), own_as (hO53.less (by omega)) he_0, own_as (hO62.less (by omega)) he_1, (dj_as (show ∀ s ∈ obl (.slice (some ⟨g48, 0, none⟩) 0 0), s ∉ obl (.slice (some ⟨g57, 0, none⟩) 0 0) from fun s hs hs2 => by first | (have h1 := hO53.off s hs; have h2 := hub64 s hs2; omega) | (have h1 := hub55 s hs; have h2 := hO62.off s hs2; omega) | (simp [obl, Value.ownBlock] at hs; done) | (simp [obl, Value.ownBlock] at hs2; done) | (have h2 := hub64 s hs2; simp [obl, Value.ownBlock] at hs; omega) | (have h1 := hub55 s hs; simp [obl, Value.ownBlock] at hs2; omega))), hc⟩
      · -- else
        cases h42
    · -- no
      replace hb41 := not_f hb41
      replace hb41 := dec_t hb41
      refine rw_cons (op_pv (w1y rfl rfl rfl rfl) rfl rfl (pv_move (v := (.int .i64 a)) rfl rfl) ?_)
      refine rw_cons (op_pv (w1y rfl rfl rfl rfl) rfl rfl (pv_lss rfl rfl rfl) ?_)
      refine rw_cons (op_pv (w0 rfl) rfl rfl (pv_pickF (v := (.bool (decide (a < 0)))) rfl rfl rfl) ?_)
      refine rw_cons (op_pv (w0 rfl) rfl rfl (pv_move (v := (.bool (decide (a < 0)))) rfl rfl) ?_)
      refine rw_split 24 rfl (fun hb65 => ?_) (fun hb65 => ?_)
      · -- yes
        replace hb65 := of_decide_eq_true hb65
        refine rw_cons (op_pass (w1n2 rfl rfl rfl rfl) rfl rfl ?_)
        refine rw_cons (op_pass (w1n2 rfl rfl rfl rfl) rfl rfl ?_)
        refine rw_cons (op_pass (w1n2 rfl rfl rfl rfl) rfl rfl ?_)
        refine rw_cons (op_pass (w1n2 rfl rfl rfl rfl) rfl rfl ?_)
        refine rw_cons (op_pv (w0 rfl) rfl rfl (pv_pickT (v := (.bool true)) rfl rfl rfl) ?_)
        refine rw_nil (hK10 _ _ ?_)
        refine hK8 _ _ ?_
        refine cw_cond rfl (fun h66 => ?_) (fun h66 => ?_)
        · -- then
          clear h66
          refine cw_seq fun K67 hK68 => ?_
          refine cw_region fun K69 hK70 => ?_
          refine rw_cons (op_bslice [] Try.underlying22 T3 (w0 rfl) rfl rfl rfl rfl rfl (by simp [Value.cells]) (by decide) ?_)
          intro g72 w71 hg75 hg76 hK74 hch73
          have hO77 : Own encI 1 w71 w38.heap.size 3 (.slice (some ⟨g72, 0, none⟩) 0 0) ([] : List Int) := Blk.own (xs := ([] : List Int)) hK74 (by omega) rfl (by decide) rfl
          have hsz78 := hch73.size
          replace hRxs := hRxs.ch0 hch73
          replace hRss := hRss.ch0 hch73
          replace hRfr := hRfr.ch0 hch73
          replace hc := hc.step0 hch73
          have hub79 := hO77.lt
          refine rw_cons (op_bslice [] Try.underlying22 T3 (w0 rfl) rfl rfl rfl rfl rfl (by simp [Value.cells]) (by decide) ?_)
          intro g81 w80 hg84 hg85 hK83 hch82
          have hO86 : Own encI 1 w80 w71.heap.size 3 (.slice (some ⟨g81, 0, none⟩) 0 0) ([] : List Int) := Blk.own (xs := ([] : List Int)) hK83 (by omega) rfl (by decide) rfl
          have hsz87 := hch82.size
          replace hRxs := hRxs.ch0 hch82
          replace hRss := hRss.ch0 hch82
          replace hRfr := hRfr.ch0 hch82
          replace hO77 := hO77.ch0 hch82
          replace hc := hc.step0 hch82
          have hub88 := hO86.lt
          refine rw_cons (op_pv (w0 rfl) rfl rfl (pv_assign (v := (.slice (some ⟨g72, 0, none⟩) 0 0)) rfl rfl) ?_)
          refine rw_cons (op_pv (w0 rfl) rfl rfl (pv_assign (v := (.slice (some ⟨g81, 0, none⟩) 0 0)) rfl rfl) ?_)
          refine rw_cons (op_pv (w0 rfl) rfl rfl (pv_assign (v := (.bool false)) rfl rfl) ?_)
          refine rw_nil (hK70 _ _ ?_)
          refine hK68 _ _ ?_
          refine cw_ret ?_
          refine fin3 rfl rfl rfl ?_
          have hno : ¬ WriteOK xs ss a fr := (by rintro ⟨h1, h2, h3, h4, h5, h6⟩; have h7 := bad_iff.2 h6; have h8 : (badL (sumsL xs) ss).length = 0 := by { rw [h7.1]; rfl }; have h9 := h7.2; first | contradiction | omega | exact absurd (writeL_ok h1 h2 (a := a.toNat) (by omega) (by omega)) (by assumption))
          have he_0 : ([] : List Int) = writeV xs ss a fr := (writeV_no hno).symm
          have he_1 : ([] : List Int) = writeS xs ss a fr := (writeS_no hno).symm
          exact ⟨_, _, _, _, tup3 (sl_as hO77 he_0) (sl_as hO86 he_1) (bvf hno), own_as (hO77.less (by omega)) he_0, own_as (hO86.less (by omega)) he_1, (dj_as (show ∀ s ∈ obl (.slice (some ⟨g72, 0, none⟩) 0 0), s ∉ obl (.slice (some ⟨g81, 0, none⟩) 0 0) from fun s hs hs2 => by first | (have h1 := hO77.off s hs; have h2 := hub88 s hs2; omega) | (have h1 := hub79 s hs; have h2 := hO86.off s hs2; omega) | (simp [obl, Value.ownBlock] at hs; done) | (simp [obl, Value.ownBlock] at hs2; done) | (have h2 := hub88 s hs2; simp [obl, Value.ownBlock] at hs; omega) | (have h1 := hub79 s hs; simp [obl, Value.ownBlock] at hs2; omega))), hc⟩
        · -- else
          cases h66
      · -- no
        replace hb65 := of_decide_eq_false hb65
        refine rw_cons (op_pv (w1y rfl rfl rfl rfl) rfl rfl (pv_move (v := (.int .i64 a)) rfl rfl) ?_)
        refine rw_cons (op_pv (w1y rfl rfl rfl rfl) rfl rfl (pv_move (v := (.slice Axs nxs cxs)) rfl rfl) ?_)
        refine rw_cons (op_pv (w1y rfl rfl rfl rfl) rfl rfl (pv_len Try.underlying22 rfl rfl) ?_)
        refine rw_cons (op_pv (w1y rfl rfl rfl rfl) rfl rfl (pv_gtr rfl rfl rfl) ?_)
        refine rw_cons (op_pv (w0 rfl) rfl rfl (pv_pickF (v := (.bool (decide ((nxs : Int) < a)))) rfl rfl rfl) ?_)
        refine rw_nil (hK10 _ _ ?_)
        refine hK8 _ _ ?_
        refine cw_cond rfl (fun h89 => ?_) (fun h89 => ?_)
        · -- then
          replace h89 := of_decide_eq_true h89
          refine cw_seq fun K90 hK91 => ?_
          refine cw_region fun K92 hK93 => ?_
          refine rw_cons (op_bslice [] Try.underlying22 T3 (w0 rfl) rfl rfl rfl rfl rfl (by simp [Value.cells]) (by decide) ?_)
          intro g95 w94 hg98 hg99 hK97 hch96
          have hO100 : Own encI 1 w94 w38.heap.size 3 (.slice (some ⟨g95, 0, none⟩) 0 0) ([] : List Int) := Blk.own (xs := ([] : List Int)) hK97 (by omega) rfl (by decide) rfl
          have hsz101 := hch96.size
          replace hRxs := hRxs.ch0 hch96
          replace hRss := hRss.ch0 hch96
          replace hRfr := hRfr.ch0 hch96
          replace hc := hc.step0 hch96
          have hub102 := hO100.lt
          refine rw_cons (op_bslice [] Try.underlying22 T3 (w0 rfl) rfl rfl rfl rfl rfl (by simp [Value.cells]) (by decide) ?_)
          intro g104 w103 hg107 hg108 hK106 hch105
          have hO109 : Own encI 1 w103 w94.heap.size 3 (.slice (some ⟨g104, 0, none⟩) 0 0) ([] : List Int) := Blk.own (xs := ([] : List Int)) hK106 (by omega) rfl (by decide) rfl
          have hsz110 := hch105.size
          replace hRxs := hRxs.ch0 hch105
          replace hRss := hRss.ch0 hch105
          replace hRfr := hRfr.ch0 hch105
          replace hO100 := hO100.ch0 hch105
          replace hc := hc.step0 hch105
          have hub111 := hO109.lt
          refine rw_cons (op_pv (w0 rfl) rfl rfl (pv_assign (v := (.slice (some ⟨g95, 0, none⟩) 0 0)) rfl rfl) ?_)
          refine rw_cons (op_pv (w0 rfl) rfl rfl (pv_assign (v := (.slice (some ⟨g104, 0, none⟩) 0 0)) rfl rfl) ?_)
          refine rw_cons (op_pv (w0 rfl) rfl rfl (pv_assign (v := (.bool false)) rfl rfl) ?_)
          refine rw_nil (hK93 _ _ ?_)
          refine hK91 _ _ ?_
          refine cw_ret ?_
          refine fin3 rfl rfl rfl ?_
          have hno : ¬ WriteOK xs ss a fr := (by rintro ⟨h1, h2, h3, h4, h5, h6⟩; have h7 := bad_iff.2 h6; have h8 : (badL (sumsL xs) ss).length = 0 := by { rw [h7.1]; rfl }; have h9 := h7.2; first | contradiction | omega | exact absurd (writeL_ok h1 h2 (a := a.toNat) (by omega) (by omega)) (by assumption))
          have he_0 : ([] : List Int) = writeV xs ss a fr := (writeV_no hno).symm
          have he_1 : ([] : List Int) = writeS xs ss a fr := (writeS_no hno).symm
          exact ⟨_, _, _, _, tup3 (sl_as hO100 he_0) (sl_as hO109 he_1) (bvf hno), own_as (hO100.less (by omega)) he_0, own_as (hO109.less (by omega)) he_1, (dj_as (show ∀ s ∈ obl (.slice (some ⟨g95, 0, none⟩) 0 0), s ∉ obl (.slice (some ⟨g104, 0, none⟩) 0 0) from fun s hs hs2 => by first | (have h1 := hO100.off s hs; have h2 := hub111 s hs2; omega) | (have h1 := hub102 s hs; have h2 := hO109.off s hs2; omega) | (simp [obl, Value.ownBlock] at hs; done) | (simp [obl, Value.ownBlock] at hs2; done) | (have h2 := hub111 s hs2; simp [obl, Value.ownBlock] at hs; omega) | (have h1 := hub102 s hs; simp [obl, Value.ownBlock] at hs2; omega))), hc⟩
        · -- else
          replace h89 := of_decide_eq_false h89
          refine cw_skip ?_
          refine hK6 _ _ ?_
          refine cw_seq fun K112 hK113 => ?_
          refine cw_seq fun K114 hK115 => ?_
          refine cw_region fun K116 hK117 => ?_
          refine rw_cons (op_pv (w0 rfl) rfl rfl (pv_move (v := (.int .i64 a)) rfl rfl) ?_)
          refine rw_cons (op_pv (w0 rfl) rfl rfl (pv_move (v := (.slice Afr nfr cfr)) rfl rfl) ?_)
          refine rw_cons (op_pv (w0 rfl) rfl rfl (pv_len Try.underlying22 rfl rfl) ?_)
          refine rw_cons (op_pv (w0 rfl) rfl rfl (pv_add rfl rfl rfl (by omega) (by omega)) ?_)
          refine rw_cons (op_pv (w0 rfl) rfl rfl (pv_gtr rfl rfl rfl) ?_)
          refine rw_cons (op_pv (w0 rfl) rfl rfl (pv_move (v := (.bool (decide (16 < (a + (nfr : Int)))))) rfl rfl) ?_)
          refine rw_split 37 rfl (fun hb118 => ?_) (fun hb118 => ?_)
          · -- yes
            replace hb118 := of_decide_eq_true hb118
            refine rw_cons (op_pass (w1n2 rfl rfl rfl rfl) rfl rfl ?_)
            refine rw_cons (op_pass (w1n2 rfl rfl rfl rfl) rfl rfl ?_)
            refine rw_cons (op_pass (w1n2 rfl rfl rfl rfl) rfl rfl ?_)
            refine rw_cons (op_pass (w1n2 rfl rfl rfl rfl) rfl rfl ?_)
            refine rw_cons (op_pass (w1n2 rfl rfl rfl rfl) rfl rfl ?_)
            refine rw_cons (op_pv (w0 rfl) rfl rfl (pv_pickT (v := (.bool true)) rfl rfl rfl) ?_)
            refine rw_nil (hK117 _ _ ?_)
            refine hK115 _ _ ?_
            refine cw_cond rfl (fun h119 => ?_) (fun h119 => ?_)
            · -- then
              clear h119
              refine cw_seq fun K120 hK121 => ?_
              refine cw_region fun K122 hK123 => ?_
              refine rw_cons (op_bslice [] Try.underlying22 T3 (w0 rfl) rfl rfl rfl rfl rfl (by simp [Value.cells]) (by decide) ?_)
              intro g125 w124 hg128 hg129 hK127 hch126
              have hO130 : Own encI 1 w124 w38.heap.size 3 (.slice (some ⟨g125, 0, none⟩) 0 0) ([] : List Int) := Blk.own (xs := ([] : List Int)) hK127 (by omega) rfl (by decide) rfl
              have hsz131 := hch126.size
              replace hRxs := hRxs.ch0 hch126
              replace hRss := hRss.ch0 hch126
              replace hRfr := hRfr.ch0 hch126
              replace hc := hc.step0 hch126
              have hub132 := hO130.lt
              refine rw_cons (op_bslice [] Try.underlying22 T3 (w0 rfl) rfl rfl rfl rfl rfl (by simp [Value.cells]) (by decide) ?_)
              intro g134 w133 hg137 hg138 hK136 hch135
              have hO139 : Own encI 1 w133 w124.heap.size 3 (.slice (some ⟨g134, 0, none⟩) 0 0) ([] : List Int) := Blk.own (xs := ([] : List Int)) hK136 (by omega) rfl (by decide) rfl
              have hsz140 := hch135.size
              replace hRxs := hRxs.ch0 hch135
              replace hRss := hRss.ch0 hch135
              replace hRfr := hRfr.ch0 hch135
              replace hO130 := hO130.ch0 hch135
              replace hc := hc.step0 hch135
              have hub141 := hO139.lt
              refine rw_cons (op_pv (w0 rfl) rfl rfl (pv_assign (v := (.slice (some ⟨g125, 0, none⟩) 0 0)) rfl rfl) ?_)
              refine rw_cons (op_pv (w0 rfl) rfl rfl (pv_assign (v := (.slice (some ⟨g134, 0, none⟩) 0 0)) rfl rfl) ?_)
              refine rw_cons (op_pv (w0 rfl) rfl rfl (pv_assign (v := (.bool false)) rfl rfl) ?_)
              refine rw_nil (hK123 _ _ ?_)
              refine hK121 _ _ ?_
              refine cw_ret ?_
              refine fin3 rfl rfl rfl ?_
              have hno : ¬ WriteOK xs ss a fr := (by rintro ⟨h1, h2, h3, h4, h5, h6⟩; have h7 := bad_iff.2 h6; have h8 : (badL (sumsL xs) ss).length = 0 := by { rw [h7.1]; rfl }; have h9 := h7.2; first | contradiction | omega | exact absurd (writeL_ok h1 h2 (a := a.toNat) (by omega) (by omega)) (by assumption))
              have he_0 : ([] : List Int) = writeV xs ss a fr := (writeV_no hno).symm
              have he_1 : ([] : List Int) = writeS xs ss a fr := (writeS_no hno).symm
              exact ⟨_, _, _, _, tup3 (sl_as hO130 he_0) (sl_as hO139 he_1) (bvf hno), own_as (hO130.less (by omega)) he_0, own_as (hO139.less (by omega)) he_1, (dj_as (show ∀ s ∈ obl (.slice (some ⟨g125, 0, none⟩) 0 0), s ∉ obl (.slice (some ⟨g134, 0, none⟩) 0 0) from fun s hs hs2 => by first | (have h1 := hO130.off s hs; have h2 := hub141 s hs2; omega) | (have h1 := hub132 s hs; have h2 := hO139.off s hs2; omega) | (simp [obl, Value.ownBlock] at hs; done) | (simp [obl, Value.ownBlock] at hs2; done) | (have h2 := hub141 s hs2; simp [obl, Value.ownBlock] at hs; omega) | (have h1 := hub132 s hs; simp [obl, Value.ownBlock] at hs2; omega))), hc⟩
            · -- else
              cases h119
          · -- no
            replace hb118 := of_decide_eq_false hb118
            refine rw_cons (op_pv (w1y rfl rfl rfl rfl) rfl rfl (pv_move (v := (.slice Axs nxs cxs)) rfl rfl) ?_)
            refine rw_cons (op_call (w1y rfl rfl rfl rfl) rfl rfl (rc_call C38 rfl rfl) (allSums_ok _ nxs _ xs _ (hRxs.more (by omega)) (by omega) (by omega) (fun j hj => by have h9 := ‹BytesOK xs›.2 j (by omega); omega)) ?_)
            rintro _ w142 ⟨A144, c145, rfl, hO146, hch143⟩
            have hsz147 := hch143.size
            replace hRxs := hRxs.ch0 hch143
            replace hRss := hRss.ch0 hch143
            replace hRfr := hRfr.ch0 hch143
            replace hc := hc.step0 hch143
            have hub148 := hO146.lt
            have hcap149 : (sumsL xs).length ≤ c145 := by obtain ⟨_, _, hv, h1, _⟩ := hO146.form; injection hv with _ _ h3; omega
            have hnt150 := sumsL_len xs
            have hnt151 := sumsL_le xs
            refine rw_cons (op_pv (w1y rfl rfl rfl rfl) rfl rfl (pv_move (v := (.slice Ass nss css)) rfl rfl) ?_)
            refine rw_cons (op_call (w1y rfl rfl rfl rfl) rfl rfl (rc_call C40 rfl rfl) (sameNumbers_ok _ _ _ _ _ _ (sumsL xs) ss _ (hO146.rs (fun _ => rfl)) (hRss.more (by omega)) (by omega)) ?_)
            rintro _ w152 ⟨rfl, hch153⟩
            have hsz154 := hch153.size
            replace hRxs := hRxs.ch0 hch153
            replace hRss := hRss.ch0 hch153
            replace hRfr := hRfr.ch0 hch153
            replace hO146 := hO146.ch0 hch153
            replace hc := hc.step0 hch153
            refine rw_cons (op_pv (w1y rfl rfl rfl rfl) rfl rfl (pv_not rfl rfl) ?_)
            refine rw_cons (op_pv (w0 rfl) rfl rfl (pv_pickF (v := (.bool (!(dec ((sumsL xs) = ss))))) rfl rfl rfl) ?_)
            refine rw_nil (hK117 _ _ ?_)
            refine hK115 _ _ ?_
            refine cw_cond rfl (fun h155 => ?_) (fun h155 => ?_)
            · -- then
              replace h155 := not_t h155
              replace h155 := dec_f h155
              refine cw_seq fun K156 hK157 => ?_
              refine cw_region fun K158 hK159 => ?_
              refine rw_cons (op_bslice [] Try.underlying22 T3 (w0 rfl) rfl rfl rfl rfl rfl (by simp [Value.cells]) (by decide) ?_)
              intro g161 w160 hg164 hg165 hK163 hch162
              have hO166 : Own encI 1 w160 w152.heap.size 3 (.slice (some ⟨g161, 0, none⟩) 0 0) ([] : List Int) := Blk.own (xs := ([] : List Int)) hK163 (by omega) rfl (by decide) rfl
              have hsz167 := hch162.size
              replace hRxs := hRxs.ch0 hch162
              replace hRss := hRss.ch0 hch162
              replace hRfr := hRfr.ch0 hch162
              replace hO146 := hO146.ch0 hch162
              replace hc := hc.step0 hch162
              have hub168 := hO166.lt
              refine rw_cons (op_bslice [] Try.underlying22 T3 (w0 rfl) rfl rfl rfl rfl rfl (by simp [Value.cells]) (by decide) ?_)
              intro g170 w169 hg173 hg174 hK172 hch171
              have hO175 : Own encI 1 w169 w160.heap.size 3 (.slice (some ⟨g170, 0, none⟩) 0 0) ([] : List Int) := Blk.own (xs := ([] : List Int)) hK172 (by omega) rfl (by decide) rfl
              have hsz176 := hch171.size
              replace hRxs := hRxs.ch0 hch171
              replace hRss := hRss.ch0 hch171
              replace hRfr := hRfr.ch0 hch171
              replace hO146 := hO146.ch0 hch171
              replace hO166 := hO166.ch0 hch171
              replace hc := hc.step0 hch171
              have hub177 := hO175.lt
              refine rw_cons (op_pv (w0 rfl) rfl rfl (pv_assign (v := (.slice (some ⟨g161, 0, none⟩) 0 0)) rfl rfl) ?_)
              refine rw_cons (op_pv (w0 rfl) rfl rfl (pv_assign (v := (.slice (some ⟨g170, 0, none⟩) 0 0)) rfl rfl) ?_)
              refine rw_cons (op_pv (w0 rfl) rfl rfl (pv_assign (v := (.bool false)) rfl rfl) ?_)
              refine rw_nil (hK159 _ _ ?_)
              refine hK157 _ _ ?_
              refine cw_ret ?_
              refine fin3 rfl rfl rfl ?_
              have hno : ¬ WriteOK xs ss a fr := (by rintro ⟨h1, h2, h3, h4, h5, h6⟩; have h7 := bad_iff.2 h6; have h8 : (badL (sumsL xs) ss).length = 0 := by { rw [h7.1]; rfl }; have h9 := h7.2; first | contradiction | omega | exact absurd (writeL_ok h1 h2 (a := a.toNat) (by omega) (by omega)) (by assumption))
              have he_0 : ([] : List Int) = writeV xs ss a fr := (writeV_no hno).symm
              have he_1 : ([] : List Int) = writeS xs ss a fr := (writeS_no hno).symm
              exact ⟨_, _, _, _, tup3 (sl_as hO166 he_0) (sl_as hO175 he_1) (bvf hno), own_as (hO166.less (by omega)) he_0, own_as (hO175.less (by omega)) he_1, (dj_as (show ∀ s ∈ obl (.slice (some ⟨g161, 0, none⟩) 0 0), s ∉ obl (.slice (some ⟨g170, 0, none⟩) 0 0) from fun s hs hs2 => by first | (have h1 := hO166.off s hs; have h2 := hub177 s hs2; omega) | (have h1 := hub168 s hs; have h2 := hO175.off s hs2; omega) | (simp [obl, Value.ownBlock] at hs; done) | (simp [obl, Value.ownBlock] at hs2; done) | (have h2 := hub177 s hs2; simp [obl, Value.ownBlock] at hs; omega) | (have h1 := hub168 s hs; simp [obl, Value.ownBlock] at hs2; omega))), hc⟩
            · -- else
              replace h155 := not_f h155
              replace h155 := dec_t h155
              refine cw_skip ?_
              refine hK113 _ _ ?_
              refine cw_seq fun K178 hK179 => ?_
              refine cw_region fun K180 hK181 => ?_
              refine rw_cons (op_pv (w0 rfl) rfl rfl (pv_move (v := (.slice Axs nxs cxs)) rfl rfl) ?_)
              refine rw_cons (op_pv (w0 rfl) rfl rfl (pv_len Try.underlying22 rfl rfl) ?_)
              refine rw_cons (op_pv (w0 rfl) rfl rfl (pv_move (v := (.int .i64 a)) rfl rfl) ?_)
              refine rw_cons (op_pv (w0 rfl) rfl rfl (pv_move (v := (.slice Afr nfr cfr)) rfl rfl) ?_)
              refine rw_cons (op_pv (w0 rfl) rfl rfl (pv_len Try.underlying22 rfl rfl) ?_)
              refine rw_cons (op_pv (w0 rfl) rfl rfl (pv_add rfl rfl rfl (by omega) (by omega)) ?_)
              refine rw_cons (op_pv (w0 rfl) rfl rfl (pv_max rfl rfl rfl) ?_)
              obtain ⟨d182, hd183⟩ : ∃ d : Nat, max (nxs : Int) (a + (nfr : Int)) = (d : Int) := ⟨(max (nxs : Int) (a + (nfr : Int))).toNat, by omega⟩
              rw [hd183]
              refine rw_cons (op_make (enc := encI) d182 default Try.underlying22 T3 (fun _ => rfl) rfl (by decide) (w0 rfl) rfl rfl rfl rfl rfl (by omega) (by unfold maxLen; omega) ?_)
              rintro g185 w184 hg188 hg189 hO187 hch186
              have hsz190 := hch186.size
              replace hRxs := hRxs.ch0 hch186
              replace hRss := hRss.ch0 hch186
              replace hRfr := hRfr.ch0 hch186
              replace hO146 := hO146.ch0 hch186
              replace hc := hc.step0 hch186
              replace hO187 := hO187.less (b := w152.heap.size) (by omega)
              have hub191 := hO187.lt
              refine rw_cons (op_pv (w0 rfl) rfl rfl (pv_assign (v := (.slice (some ⟨g185, 0, none⟩) d182 d182)) rfl rfl) ?_)
              refine rw_nil (hK181 _ _ ?_)
              refine hK179 _ _ ?_
              refine cw_seq fun K192 hK193 => ?_
              refine cw_region fun K194 hK195 => ?_
              refine rw_cons (op_pv (w0 rfl) rfl rfl (pv_move (v := (.slice (some ⟨g185, 0, none⟩) d182 d182)) rfl rfl) ?_)
              refine rw_cons (op_pv (w0 rfl) rfl rfl (pv_move (v := (.slice Axs nxs cxs)) rfl rfl) ?_)
              have hle199 := hO187.le
              refine rw_cons (op_copy (k := 0) Try.underlying22 T3 (fun _ => rfl) (by decide) (fun _ => one_all rfl) (w0 rfl) rfl rfl rfl rfl rfl hO187 hRxs (fun h => by have := hO187.some' (by omega); simpa [add_zero'] using this) (by omega) ?_)
              rintro w196 hO197 hch198
              have hsz200 := hch198.size
              replace hRxs := hRxs.ch hch198 (hO187.off.le (by omega))
              replace hRss := hRss.ch hch198 (hO187.off.le (by omega))
              replace hRfr := hRfr.ch hch198 (hO187.off.le (by omega))
              replace hO146 := hO146.ch hch198 (fun s hs hs2 => by first | (have h1 := hO146.off s hs; have h2 := hub191 s hs2; omega) | (have h1 := hub148 s hs; have h2 := hO187.off s hs2; omega) | (have h2 := hub191 s hs2; simp [obl, Value.ownBlock] at hs; omega) | (have h1 := hub148 s hs; simp [obl, Value.ownBlock] at hs2; omega))
              replace hc := (hO187.off.le (by omega)).step hc hch198
              clear hO187; have hO187 := hO197; clear hO197
              refine rw_nil (hK195 _ _ ?_)
              refine hK193 _ _ ?_
              refine cw_seq fun K201 hK202 => ?_
              refine cw_region fun K203 hK204 => ?_
              refine rw_cons (op_pv (w0 rfl) rfl rfl (pv_move (v := (.slice (some ⟨g185, 0, none⟩) d182 d182)) rfl rfl) ?_)
              refine rw_cons (op_pv (w0 rfl) rfl rfl (pv_move (v := (.int .i64 a)) rfl rfl) ?_)
              refine rw_cons (op_pv (w0 rfl) rfl rfl (pv_from Try.underlying22 T3 rfl rfl rfl (by omega) (by omega)) ?_)
              have hR205 : RS encI 1 w196 w196.heap.size (if d182 = (a).toNat then (some ⟨g185, 0, none⟩) else ((some ⟨g185, 0, none⟩) : Option Addr).map (·.add ((a).toNat * 1))) (d182 - (a).toNat) (((List.replicate d182 default).take 0 ++ xs.take (min nxs d182) ++ (List.replicate d182 default).drop (0 + min nxs d182)).drop (a).toNat) := ((hO187.rs (fun _ => rfl))).from (by omega) (by omega)
              refine rw_cons (op_pv (w0 rfl) rfl rfl (pv_move (v := (.slice Afr nfr cfr)) rfl rfl) ?_)
              have hle209 := hO187.le
              refine rw_cons (op_copy (k := (a).toNat) Try.underlying22 T3 (fun _ => rfl) (by decide) (fun _ => one_all rfl) (w0 rfl) rfl rfl rfl rfl rfl hO187 hRfr (fun h => hO187.from_some h) (by omega) ?_)
              rintro w206 hO207 hch208
              have hsz210 := hch208.size
              replace hRxs := hRxs.ch hch208 (hO187.off.le (by omega))
              replace hRss := hRss.ch hch208 (hO187.off.le (by omega))
              replace hRfr := hRfr.ch hch208 (hO187.off.le (by omega))
              replace hO146 := hO146.ch hch208 (fun s hs hs2 => by first | (have h1 := hO146.off s hs; have h2 := hub191 s hs2; omega) | (have h1 := hub148 s hs; have h2 := hO187.off s hs2; omega) | (have h2 := hub191 s hs2; simp [obl, Value.ownBlock] at hs; omega) | (have h1 := hub148 s hs; simp [obl, Value.ownBlock] at hs2; omega))
              clear hR205
              replace hc := (hO187.off.le (by omega)).step hc hch208
              clear hO187; have hO187 := hO207; clear hO207
              have hrn211 : (((List.replicate d182 default).take 0 ++ xs.take (min nxs d182) ++ (List.replicate d182 default).drop (0 + min nxs d182)).take (a).toNat ++ fr.take (min nfr (d182 - (a).toNat)) ++ ((List.replicate d182 default).take 0 ++ xs.take (min nxs d182) ++ (List.replicate d182 default).drop (0 + min nxs d182)).drop ((a).toNat + min nfr (d182 - (a).toNat))) = writeL xs a.toNat fr := written (by omega) (by omega) (by omega) (by omega)
              rw [hrn211] at hO187
              have hub212 := hO187.lt
              have hwl := writeL_ok ‹BytesOK xs› ‹BytesOK fr› (a := a.toNat) (by omega) (by omega); have hwn := writeL_len (bs := xs) (fr := fr) (a := a.toNat) (by omega)
              refine rw_nil (hK204 _ _ ?_)
              refine hK202 _ _ ?_
              refine cw_seq fun K213 hK214 => ?_
              refine cw_region fun K215 hK216 => ?_
              refine rw_cons (op_pv (w0 rfl) rfl rfl (pv_move (v := (.slice (some ⟨g185, 0, none⟩) d182 d182)) rfl rfl) ?_)
              refine rw_cons (op_pv (w0 rfl) rfl rfl (pv_move (v := (.slice (some ⟨g185, 0, none⟩) d182 d182)) rfl rfl) ?_)
              refine rw_cons (op_call (w0 rfl) rfl rfl (rc_call C38 rfl rfl) (allSums_ok _ d182 _ (writeL xs a.toNat fr) _ (hO187.rs (fun _ => rfl)) (by omega) (by omega) (fun j hj => by have h9 := ‹BytesOK (writeL xs a.toNat fr)›.2 j (by omega); omega)) ?_)
              rintro _ w217 ⟨A219, c220, rfl, hO221, hch218⟩
              have hsz222 := hch218.size
              replace hRxs := hRxs.ch0 hch218
              replace hRss := hRss.ch0 hch218
              replace hRfr := hRfr.ch0 hch218
              replace hO146 := hO146.ch0 hch218
              replace hO187 := hO187.ch0 hch218
              replace hc := hc.step0 hch218
              have hub223 := hO221.lt
              have hcap224 : (sumsL (writeL xs a.toNat fr)).length ≤ c220 := by obtain ⟨_, _, hv, h1, _⟩ := hO221.form; injection hv with _ _ h3; omega
              have hnt225 := sumsL_len (writeL xs a.toNat fr)
              have hnt226 := sumsL_le (writeL xs a.toNat fr)
              refine rw_cons (op_pv (w0 rfl) rfl rfl (pv_assign (v := (.slice (some ⟨g185, 0, none⟩) d182 d182)) rfl rfl) ?_)
              refine rw_cons (op_pv (w0 rfl) rfl rfl (pv_assign (v := (.slice A219 (sumsL (writeL xs a.toNat fr)).length c220)) rfl rfl) ?_)
              refine rw_cons (op_pv (w0 rfl) rfl rfl (pv_assign (v := (.bool true)) rfl rfl) ?_)
              refine rw_nil (hK216 _ _ ?_)
              refine hK214 _ _ ?_
              refine cw_ret ?_
              refine fin3 rfl rfl rfl ?_
              have hl15 := (by assumption : BytesOK (writeL xs a.toNat fr)).1
              have hyes : WriteOK xs ss a fr := ⟨‹BytesOK xs›, ‹BytesOK fr›, by omega, by omega, by omega, by first | assumption | exact bad_iff.1 ⟨List.eq_nil_of_length_eq_zero (by omega), by omega⟩⟩
              have hl16 : (writeL xs a.toNat fr).length ≤ 16 := (by assumption : BytesOK (writeL xs a.toNat fr)).1
              have he_0 : (writeL xs a.toNat fr) = writeV xs ss a fr := (writeV_yes hyes).symm
              have he_1 : (sumsL (writeL xs a.toNat fr)) = writeS xs ss a fr := (writeS_yes hyes).symm
              exact ⟨_, _, _, _, tup3 (sl_as hO187 he_0) (sl_as hO221 he_1) (bvt hyes), own_as (hO187.less (by omega)) he_0, own_as (hO221.less (by omega)) he_1, (dj_as (show ∀ s ∈ obl (.slice (some ⟨g185, 0, none⟩) d182 d182), s ∉ obl (.slice A219 (sumsL (writeL xs a.toNat fr)).length c220) from fun s hs hs2 => by first | (have h1 := hO187.off s hs; have h2 := hub223 s hs2; omega) | (have h1 := hub212 s hs; have h2 := hO221.off s hs2; omega) | (simp [obl, Value.ownBlock] at hs; done) | (simp [obl, Value.ownBlock] at hs2; done) | (have h2 := hub223 s hs2; simp [obl, Value.ownBlock] at hs; omega) | (have h1 := hub212 s hs; simp [obl, Value.ownBlock] at hs2; omega))), hc⟩
end Go.Proofs.Ythgnnpafieifmaa
