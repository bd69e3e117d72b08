/-
  The walk of spec.SumsWrite, written by program: each line names the law of one operation. Conditions: those of the theorem.
-/
import Derived.Test.YthgnnpafieifmaaProg
import Derived.Test.YthgnnpafieifmaaSums
import Derived.Test.YthgnnpafieifmaaFspecBytesValid
import Derived.Test.YthgnnpafieifmaaFspecl6In
import Derived.Test.YthgnnpafieifmaaFspecl32Bad
import Derived.Test.YthgnnpafieifmaaFspecl32Sums
import Derived.KernelRfl
namespace Go.Proofs.Ythgnnpafieifmaa
open Go Go.RowKit
set_option linter.unusedVariables false
set_option linter.unusedSimpArgs false
namespace SumsWrite_sF
theorem T3 : TI Try.prog 3 false (.int .i64 0) 1 8 := TI.mk' Try.underlying3 rfl (by kernel_rfl)
theorem C17 : Callable Try.prog 17 := ⟨_, Try.func17, by kernel_rfl, by kernel_rfl⟩
theorem C34 : Callable Try.prog 34 := ⟨_, Try.func34, by kernel_rfl, by kernel_rfl⟩
theorem C37 : Callable Try.prog 37 := ⟨_, Try.func37, by kernel_rfl, by kernel_rfl⟩
theorem C39 : Callable Try.prog 39 := ⟨_, Try.func39, by kernel_rfl, by kernel_rfl⟩
end SumsWrite_sF
open SumsWrite_sF in
set_option maxHeartbeats 4000000 in
theorem SumsWrite_s (Axs : Option Addr) (nxs cxs : Nat) (xs : List Int) (Ass : Option Addr) (nss css : Nat) (ss : List Int) (a : Int) (Afr : Option Addr) (nfr cfr : Nat) (fr : List Int) (w : World) (hRxs : RS encI 1 w w.heap.size Axs nxs xs) (hnxs : nxs ≤ cxs) (hNxs : nxs ≤ 1099511627776) (hRss : RS encI 1 w w.heap.size Ass nss ss) (hNss : nss ≤ 1099511627776) (hRfr : RS encI 1 w w.heap.size Afr nfr fr) (hNfr : nfr ≤ 1099511627776) :
    Fn Try.prog 30 [(.slice Axs nxs cxs), (.slice Ass nss css), (.int .i64 a), (.slice Afr nfr cfr)] w fun v w' => ∃ A_0 c_0 A_1 c_1, v = .tuple #[.slice A_0 (writeV xs ss a fr).length c_0, .slice A_1 (writeS xs ss a fr).length c_1, .bool (dec (WriteOK xs ss a fr))] ∧ Own encI 1 w' w.heap.size 3 (.slice A_0 (writeV xs ss a fr).length c_0) (writeV xs ss a fr) ∧ Own encI 1 w' w.heap.size 3 (.slice A_1 (writeS xs ss a fr).length c_1) (writeS xs ss a fr) ∧ (∀ s ∈ obl (.slice A_0 (writeV xs ss a fr).length c_0), s ∉ obl (.slice A_1 (writeS xs ss a fr).length c_1)) ∧ Ch [] w w' := by
  have hlenxs := hRxs.len
  have hlenss := hRss.len
  have hlenfr := hRfr.len
  refine fn_of (n := 75) Try.func30 rfl rfl rfl rfl ?_
  have hc : Ch [] w w := Ch.refl _ _
  refine cw_seq fun K1 hK2 => ?_
  refine cw_region fun K3 hK4 => ?_
  refine rw_cons (op_pv (w0 rfl) rfl rfl (pv_assign (v := (.slice none 0 0)) rfl rfl) ?_)
  refine rw_cons (op_pv (w0 rfl) rfl rfl (pv_assign (v := (.slice none 0 0)) rfl rfl) ?_)
  refine rw_cons (op_pv (w0 rfl) rfl rfl (pv_assign (v := (.bool false)) rfl rfl) ?_)
  refine rw_nil (hK4 _ _ ?_)
  refine hK2 _ _ ?_
  refine cw_seq fun K5 hK6 => ?_
  refine cw_seq fun K7 hK8 => ?_
  refine cw_region fun K9 hK10 => ?_
  refine rw_cons (op_pv (w0 rfl) rfl rfl (pv_move (v := (.slice Axs nxs cxs)) rfl rfl) ?_)
  refine rw_cons (op_call (w0 rfl) rfl rfl (rc_call C17 rfl rfl) (BytesValid_s _ _ _ xs _ (hRxs.more (by omega)) (by omega)) ?_)
  rintro _ w11 ⟨rfl, hch12⟩
  have hsz13 := hch12.size
  replace hRxs := hRxs.ch0 hch12
  replace hRss := hRss.ch0 hch12
  replace hRfr := hRfr.ch0 hch12
  replace hc := hc.step0 hch12
  refine rw_cons (op_pv (w0 rfl) rfl rfl (pv_not rfl rfl) ?_)
  refine rw_cons (op_pv (w0 rfl) rfl rfl (pv_move (v := (.bool (!(dec (BytesOK xs))))) rfl rfl) ?_)
  refine rw_split 15 rfl (fun hb14 => ?_) (fun hb14 => ?_)
  · -- yes
    replace hb14 := not_t hb14
    replace hb14 := dec_f hb14
    refine rw_cons (op_pass (w1n2 rfl rfl rfl rfl) rfl rfl ?_)
    refine rw_cons (op_pass (w1n2 rfl rfl rfl rfl) rfl rfl ?_)
    refine rw_cons (op_pass (w1n2 rfl rfl rfl rfl) rfl rfl ?_)
    refine rw_cons (op_pv (w0 rfl) rfl rfl (pv_pickT (v := (.bool true)) rfl rfl rfl) ?_)
    refine rw_cons (op_pv (w0 rfl) rfl rfl (pv_move (v := (.bool true)) rfl rfl) ?_)
    refine rw_cons (op_pass (w1n2 rfl rfl rfl rfl) rfl rfl ?_)
    refine rw_cons (op_pass (w1n2 rfl rfl rfl rfl) rfl rfl ?_)
    refine rw_cons (op_pass (w1n2 rfl rfl rfl rfl) rfl rfl ?_)
    refine rw_cons (op_pass (w1n2 rfl rfl rfl rfl) rfl rfl ?_)
    refine rw_cons (op_pass (w1n2 rfl rfl rfl rfl) rfl rfl ?_)
    refine rw_cons (op_pv (w0 rfl) rfl rfl (pv_pickT (v := (.bool true)) rfl rfl rfl) ?_)
    refine rw_cons (op_pv (w0 rfl) rfl rfl (pv_move (v := (.bool true)) rfl rfl) ?_)
    refine rw_cons (op_pass (w1n2 rfl rfl rfl rfl) rfl rfl ?_)
    refine rw_cons (op_pass (w1n2 rfl rfl rfl rfl) rfl rfl ?_)
    refine rw_cons (op_pass (w1n2 rfl rfl rfl rfl) rfl rfl ?_)
    refine rw_cons (op_pass (w1n2 rfl rfl rfl rfl) rfl rfl ?_)
    refine rw_cons (op_pass (w1n2 rfl rfl rfl rfl) rfl rfl ?_)
    refine rw_cons (op_pv (w0 rfl) rfl rfl (pv_pickT (v := (.bool true)) rfl rfl rfl) ?_)
    refine rw_cons (op_pv (w0 rfl) rfl rfl (pv_move (v := (.bool true)) rfl rfl) ?_)
    refine rw_cons (op_pass (w1n2 rfl rfl rfl rfl) rfl rfl ?_)
    refine rw_cons (op_pass (w1n2 rfl rfl rfl rfl) rfl rfl ?_)
    refine rw_cons (op_pass (w1n2 rfl rfl rfl rfl) rfl rfl ?_)
    refine rw_cons (op_pass (w1n2 rfl rfl rfl rfl) rfl rfl ?_)
    refine rw_cons (op_pass (w1n2 rfl rfl rfl rfl) rfl rfl ?_)
    refine rw_cons (op_pass (w1n2 rfl rfl rfl rfl) rfl rfl ?_)
    refine rw_cons (op_pv (w0 rfl) rfl rfl (pv_pickT (v := (.bool true)) rfl rfl rfl) ?_)
    refine rw_nil (hK10 _ _ ?_)
    refine hK8 _ _ ?_
    refine cw_cond rfl (fun h15 => ?_) (fun h15 => ?_)
    · -- then
      clear h15
      refine cw_seq fun K16 hK17 => ?_
      refine cw_region fun K18 hK19 => ?_
      refine rw_cons (op_bslice [] Try.underlying22 T3 (w0 rfl) rfl rfl rfl rfl rfl (by simp [Value.cells]) (by decide) ?_)
      intro g21 w20 hg24 hg25 hK23 hch22
      have hO26 : Own encI 1 w20 w11.heap.size 3 (.slice (some ⟨g21, 0, none⟩) 0 0) ([] : List Int) := Blk.own (xs := ([] : List Int)) hK23 (by omega) rfl (by decide) rfl
      have hsz27 := hch22.size
      replace hRxs := hRxs.ch0 hch22
      replace hRss := hRss.ch0 hch22
      replace hRfr := hRfr.ch0 hch22
      replace hc := hc.step0 hch22
      have hub28 := hO26.lt
      refine rw_cons (op_bslice [] Try.underlying22 T3 (w0 rfl) rfl rfl rfl rfl rfl (by simp [Value.cells]) (by decide) ?_)
      intro g30 w29 hg33 hg34 hK32 hch31
      have hO35 : Own encI 1 w29 w20.heap.size 3 (.slice (some ⟨g30, 0, none⟩) 0 0) ([] : List Int) := Blk.own (xs := ([] : List Int)) hK32 (by omega) rfl (by decide) rfl
      have hsz36 := hch31.size
      replace hRxs := hRxs.ch0 hch31
      replace hRss := hRss.ch0 hch31
      replace hRfr := hRfr.ch0 hch31
      replace hO26 := hO26.ch0 hch31
      replace hc := hc.step0 hch31
      have hub37 := hO35.lt
      refine rw_cons (op_pv (w0 rfl) rfl rfl (pv_assign (v := (.slice (some ⟨g21, 0, none⟩) 0 0)) rfl rfl) ?_)
      refine rw_cons (op_pv (w0 rfl) rfl rfl (pv_assign (v := (.slice (some ⟨g30, 0, none⟩) 0 0)) rfl rfl) ?_)
      refine rw_cons (op_pv (w0 rfl) rfl rfl (pv_assign (v := (.bool false)) rfl rfl) ?_)
      refine rw_nil (hK19 _ _ ?_)
      refine hK17 _ _ ?_
      refine cw_ret ?_
      refine fin3 rfl rfl rfl ?_
      have hno : ¬ WriteOK xs ss a fr := (by rintro ⟨h1, h2, h3, h4, h5, h6⟩; have h7 := bad_iff.2 h6; have h8 : (badL (sumsL xs) ss).length = 0 := by { rw [h7.1]; rfl }; have h9 := h7.2; first | contradiction | omega | exact absurd (writeL_ok h1 h2 (a := a.toNat) (by omega) (by omega)) (by assumption))
      have he_0 : ([] : List Int) = writeV xs ss a fr := (writeV_no hno).symm
      have he_1 : ([] : List Int) = writeS xs ss a fr := (writeS_no hno).symm
      exact ⟨_, _, _, _, tup3 (sl_as hO26 he_0) (sl_as hO35 he_1) (bvf hno), own_as (hO26.less (by omega)) he_0, own_as (hO35.less (by omega)) he_1, (dj_as (show ∀ s ∈ obl (.slice (some ⟨g21, 0, none⟩) 0 0), s ∉ obl (.slice (some ⟨g30, 0, none⟩) 0 0) from fun s hs hs2 => by first | (have h1 := hO26.off s hs; have h2 := hub37 s hs2; omega) | (have h1 := hub28 s hs; have h2 := hO35.off s hs2; omega) | (simp [obl, Value.ownBlock] at hs; done) | (simp [obl, Value.ownBlock] at hs2; done) | (have h2 := hub37 s hs2; simp [obl, Value.ownBlock] at hs; omega) | (have h1 := hub28 s hs; simp [obl, Value.ownBlock] at hs2; omega))), hc⟩
    · -- else
      cases h15
  · -- no
    replace hb14 := not_f hb14
    replace hb14 := dec_t hb14
    refine rw_cons (op_pv (w1y rfl rfl rfl rfl) rfl rfl (pv_move (v := (.slice Afr nfr cfr)) rfl rfl) ?_)
    refine rw_cons (op_call (w1y rfl rfl rfl rfl) rfl rfl (rc_call C17 rfl rfl) (BytesValid_s _ _ _ fr _ (hRfr.more (by omega)) (by omega)) ?_)
    rintro _ w38 ⟨rfl, hch39⟩
    have hsz40 := hch39.size
    replace hRxs := hRxs.ch0 hch39
    replace hRss := hRss.ch0 hch39
    replace hRfr := hRfr.ch0 hch39
    replace hc := hc.step0 hch39
    refine rw_cons (op_pv (w1y rfl rfl rfl rfl) rfl rfl (pv_not rfl rfl) ?_)
    refine rw_cons (op_pv (w0 rfl) rfl rfl (pv_pickF (v := (.bool (!(dec (BytesOK fr))))) rfl rfl rfl) ?_)
    refine rw_cons (op_pv (w0 rfl) rfl rfl (pv_move (v := (.bool (!(dec (BytesOK fr))))) rfl rfl) ?_)
    refine rw_split 20 rfl (fun hb41 => ?_) (fun hb41 => ?_)
    · -- yes
      replace hb41 := not_t hb41
      replace hb41 := dec_f hb41
      refine rw_cons (op_pass (w1n2 rfl rfl rfl rfl) rfl rfl ?_)
      refine rw_cons (op_pass (w1n2 rfl rfl rfl rfl) rfl rfl ?_)
      refine rw_cons (op_pass (w1n2 rfl rfl rfl rfl) rfl rfl ?_)
      refine rw_cons (op_pass (w1n2 rfl rfl rfl rfl) rfl rfl ?_)
      refine rw_cons (op_pass (w1n2 rfl rfl rfl rfl) rfl rfl ?_)
      refine rw_cons (op_pv (w0 rfl) rfl rfl (pv_pickT (v := (.bool true)) rfl rfl rfl) ?_)
      refine rw_cons (op_pv (w0 rfl) rfl rfl (pv_move (v := (.bool true)) rfl rfl) ?_)
      refine rw_cons (op_pass (w1n2 rfl rfl rfl rfl) rfl rfl ?_)
      refine rw_cons (op_pass (w1n2 rfl rfl rfl rfl) rfl rfl ?_)
      refine rw_cons (op_pass (w1n2 rfl rfl rfl rfl) rfl rfl ?_)
      refine rw_cons (op_pass (w1n2 rfl rfl rfl rfl) rfl rfl ?_)
      refine rw_cons (op_pass (w1n2 rfl rfl rfl rfl) rfl rfl ?_)
      refine rw_cons (op_pv (w0 rfl) rfl rfl (pv_pickT (v := (.bool true)) rfl rfl rfl) ?_)
      refine rw_cons (op_pv (w0 rfl) rfl rfl (pv_move (v := (.bool true)) rfl rfl) ?_)
      refine rw_cons (op_pass (w1n2 rfl rfl rfl rfl) rfl rfl ?_)
      refine rw_cons (op_pass (w1n2 rfl rfl rfl rfl) rfl rfl ?_)
      refine rw_cons (op_pass (w1n2 rfl rfl rfl rfl) rfl rfl ?_)
      refine rw_cons (op_pass (w1n2 rfl rfl rfl rfl) rfl rfl ?_)
      refine rw_cons (op_pass (w1n2 rfl rfl rfl rfl) rfl rfl ?_)
      refine rw_cons (op_pass (w1n2 rfl rfl rfl rfl) rfl rfl ?_)
      refine rw_cons (op_pv (w0 rfl) rfl rfl (pv_pickT (v := (.bool true)) rfl rfl rfl) ?_)
      refine rw_nil (hK10 _ _ ?_)
      refine hK8 _ _ ?_
      refine cw_cond rfl (fun h42 => ?_) (fun h42 => ?_)
      · -- then
        clear h42
        refine cw_seq fun K43 hK44 => ?_
        refine cw_region fun K45 hK46 => ?_
        refine rw_cons (op_bslice [] Try.underlying22 T3 (w0 rfl) rfl rfl rfl rfl rfl (by simp [Value.cells]) (by decide) ?_)
        intro g48 w47 hg51 hg52 hK50 hch49
        have hO53 : Own encI 1 w47 w38.heap.size 3 (.slice (some ⟨g48, 0, none⟩) 0 0) ([] : List Int) := Blk.own (xs := ([] : List Int)) hK50 (by omega) rfl (by decide) rfl
        have hsz54 := hch49.size
        replace hRxs := hRxs.ch0 hch49
        replace hRss := hRss.ch0 hch49
        replace hRfr := hRfr.ch0 hch49
        replace hc := hc.step0 hch49
        have hub55 := hO53.lt
        refine rw_cons (op_bslice [] Try.underlying22 T3 (w0 rfl) rfl rfl rfl rfl rfl (by simp [Value.cells]) (by decide) ?_)
        intro g57 w56 hg60 hg61 hK59 hch58
        have hO62 : Own encI 1 w56 w47.heap.size 3 (.slice (some ⟨g57, 0, none⟩) 0 0) ([] : List Int) := Blk.own (xs := ([] : List Int)) hK59 (by omega) rfl (by decide) rfl
        have hsz63 := hch58.size
        replace hRxs := hRxs.ch0 hch58
        replace hRss := hRss.ch0 hch58
        replace hRfr := hRfr.ch0 hch58
        replace hO53 := hO53.ch0 hch58
        replace hc := hc.step0 hch58
        have hub64 := hO62.lt
        refine rw_cons (op_pv (w0 rfl) rfl rfl (pv_assign (v := (.slice (some ⟨g48, 0, none⟩) 0 0)) rfl rfl) ?_)
        refine rw_cons (op_pv (w0 rfl) rfl rfl (pv_assign (v := (.slice (some ⟨g57, 0, none⟩) 0 0)) rfl rfl) ?_)
        refine rw_cons (op_pv (w0 rfl) rfl rfl (pv_assign (v := (.bool false)) rfl rfl) ?_)
        refine rw_nil (hK46 _ _ ?_)
        refine hK44 _ _ ?_
        refine cw_ret ?_
        refine fin3 rfl rfl rfl ?_
        have hno : ¬ WriteOK xs ss a fr := (by rintro ⟨h1, h2, h3, h4, h5, h6⟩; have h7 := bad_iff.2 h6; have h8 : (badL (sumsL xs) ss).length = 0 := by { rw [h7.1]; rfl }; have h9 := h7.2; first | contradiction | omega | exact absurd (writeL_ok h1 h2 (a := a.toNat) (by omega) (by omega)) (by assumption))
        have he_0 : ([] : List Int) = writeV xs ss a fr := (writeV_no hno).symm
        have he_1 : ([] : List Int) = writeS xs ss a fr := (writeS_no hno).symm
        exact ⟨_, _, _, _, tup3 (sl_as hO53 he_0) (sl_as hO62 he_1) (bvf hno), own_as (hO53.less (by omega)) he_0, own_as (hO62.less (by omega)) he_1, (dj_as (show ∀ s ∈ obl (.slice (some ⟨g48, 0, none⟩) 0 0), s ∉ obl (.slice (some ⟨g57, 0, none⟩) 0 0) from fun s hs hs2 => by first | (have h1 := hO53.off s hs; have h2 := hub64 s hs2; omega) | (have h1 := hub55 s hs; have h2 := hO62.off s hs2; omega) | (simp [obl, Value.ownBlock] at hs; done) | (simp [obl, Value.ownBlock] at hs2; done) | (have h2 := hub64 s hs2; simp [obl, Value.ownBlock] at hs; omega) | (have h1 := hub55 s hs; simp [obl, Value.ownBlock] at hs2; omega))), hc⟩
      · -- else
        cases h42
    · -- no
      replace hb41 := not_f hb41
      replace hb41 := dec_t hb41
      refine rw_cons (op_pv (w1y rfl rfl rfl rfl) rfl rfl (pv_move (v := (.int .i64 a)) rfl rfl) ?_)
      refine rw_cons (op_pv (w1y rfl rfl rfl rfl) rfl rfl (pv_move (v := (.slice Axs nxs cxs)) rfl rfl) ?_)
      refine rw_cons (op_pv (w1y rfl rfl rfl rfl) rfl rfl (pv_len Try.underlying22 rfl rfl) ?_)
      refine rw_cons (op_call (w1y rfl rfl rfl rfl) rfl rfl (rc_call C34 rfl rfl) (l6In_ok a 0 (nxs : Int) _  ) ?_)
      rintro _ w65 ⟨rfl, hch66⟩
      have hsz67 := hch66.size
      replace hRxs := hRxs.ch0 hch66
      replace hRss := hRss.ch0 hch66
      replace hRfr := hRfr.ch0 hch66
      replace hc := hc.step0 hch66
      refine rw_cons (op_pv (w1y rfl rfl rfl rfl) rfl rfl (pv_not rfl rfl) ?_)
      refine rw_cons (op_pv (w0 rfl) rfl rfl (pv_pickF (v := (.bool (!(dec (0 ≤ a ∧ a ≤ (nxs : Int)))))) rfl rfl rfl) ?_)
      refine rw_cons (op_pv (w0 rfl) rfl rfl (pv_move (v := (.bool (!(dec (0 ≤ a ∧ a ≤ (nxs : Int)))))) rfl rfl) ?_)
      refine rw_split 27 rfl (fun hb68 => ?_) (fun hb68 => ?_)
      · -- yes
        replace hb68 := not_t hb68
        replace hb68 := dec_f hb68
        refine rw_cons (op_pass (w1n2 rfl rfl rfl rfl) rfl rfl ?_)
        refine rw_cons (op_pass (w1n2 rfl rfl rfl rfl) rfl rfl ?_)
        refine rw_cons (op_pass (w1n2 rfl rfl rfl rfl) rfl rfl ?_)
        refine rw_cons (op_pass (w1n2 rfl rfl rfl rfl) rfl rfl ?_)
        refine rw_cons (op_pass (w1n2 rfl rfl rfl rfl) rfl rfl ?_)
        refine rw_cons (op_pv (w0 rfl) rfl rfl (pv_pickT (v := (.bool true)) rfl rfl rfl) ?_)
        refine rw_cons (op_pv (w0 rfl) rfl rfl (pv_move (v := (.bool true)) rfl rfl) ?_)
        refine rw_cons (op_pass (w1n2 rfl rfl rfl rfl) rfl rfl ?_)
        refine rw_cons (op_pass (w1n2 rfl rfl rfl rfl) rfl rfl ?_)
        refine rw_cons (op_pass (w1n2 rfl rfl rfl rfl) rfl rfl ?_)
        refine rw_cons (op_pass (w1n2 rfl rfl rfl rfl) rfl rfl ?_)
        refine rw_cons (op_pass (w1n2 rfl rfl rfl rfl) rfl rfl ?_)
        refine rw_cons (op_pass (w1n2 rfl rfl rfl rfl) rfl rfl ?_)
        refine rw_cons (op_pv (w0 rfl) rfl rfl (pv_pickT (v := (.bool true)) rfl rfl rfl) ?_)
        refine rw_nil (hK10 _ _ ?_)
        refine hK8 _ _ ?_
        refine cw_cond rfl (fun h69 => ?_) (fun h69 => ?_)
        · -- then
          clear h69
          refine cw_seq fun K70 hK71 => ?_
          refine cw_region fun K72 hK73 => ?_
          refine rw_cons (op_bslice [] Try.underlying22 T3 (w0 rfl) rfl rfl rfl rfl rfl (by simp [Value.cells]) (by decide) ?_)
          intro g75 w74 hg78 hg79 hK77 hch76
          have hO80 : Own encI 1 w74 w65.heap.size 3 (.slice (some ⟨g75, 0, none⟩) 0 0) ([] : List Int) := Blk.own (xs := ([] : List Int)) hK77 (by omega) rfl (by decide) rfl
          have hsz81 := hch76.size
          replace hRxs := hRxs.ch0 hch76
          replace hRss := hRss.ch0 hch76
          replace hRfr := hRfr.ch0 hch76
          replace hc := hc.step0 hch76
          have hub82 := hO80.lt
          refine rw_cons (op_bslice [] Try.underlying22 T3 (w0 rfl) rfl rfl rfl rfl rfl (by simp [Value.cells]) (by decide) ?_)
          intro g84 w83 hg87 hg88 hK86 hch85
          have hO89 : Own encI 1 w83 w74.heap.size 3 (.slice (some ⟨g84, 0, none⟩) 0 0) ([] : List Int) := Blk.own (xs := ([] : List Int)) hK86 (by omega) rfl (by decide) rfl
          have hsz90 := hch85.size
          replace hRxs := hRxs.ch0 hch85
          replace hRss := hRss.ch0 hch85
          replace hRfr := hRfr.ch0 hch85
          replace hO80 := hO80.ch0 hch85
          replace hc := hc.step0 hch85
          have hub91 := hO89.lt
          refine rw_cons (op_pv (w0 rfl) rfl rfl (pv_assign (v := (.slice (some ⟨g75, 0, none⟩) 0 0)) rfl rfl) ?_)
          refine rw_cons (op_pv (w0 rfl) rfl rfl (pv_assign (v := (.slice (some ⟨g84, 0, none⟩) 0 0)) rfl rfl) ?_)
          refine rw_cons (op_pv (w0 rfl) rfl rfl (pv_assign (v := (.bool false)) rfl rfl) ?_)
          refine rw_nil (hK73 _ _ ?_)
          refine hK71 _ _ ?_
          refine cw_ret ?_
          refine fin3 rfl rfl rfl ?_
          have hno : ¬ WriteOK xs ss a fr := (by rintro ⟨h1, h2, h3, h4, h5, h6⟩; have h7 := bad_iff.2 h6; have h8 : (badL (sumsL xs) ss).length = 0 := by { rw [h7.1]; rfl }; have h9 := h7.2; first | contradiction | omega | exact absurd (writeL_ok h1 h2 (a := a.toNat) (by omega) (by omega)) (by assumption))
          have he_0 : ([] : List Int) = writeV xs ss a fr := (writeV_no hno).symm
          have he_1 : ([] : List Int) = writeS xs ss a fr := (writeS_no hno).symm
          exact ⟨_, _, _, _, tup3 (sl_as hO80 he_0) (sl_as hO89 he_1) (bvf hno), own_as (hO80.less (by omega)) he_0, own_as (hO89.less (by omega)) he_1, (dj_as (show ∀ s ∈ obl (.slice (some ⟨g75, 0, none⟩) 0 0), s ∉ obl (.slice (some ⟨g84, 0, none⟩) 0 0) from fun s hs hs2 => by first | (have h1 := hO80.off s hs; have h2 := hub91 s hs2; omega) | (have h1 := hub82 s hs; have h2 := hO89.off s hs2; omega) | (simp [obl, Value.ownBlock] at hs; done) | (simp [obl, Value.ownBlock] at hs2; done) | (have h2 := hub91 s hs2; simp [obl, Value.ownBlock] at hs; omega) | (have h1 := hub82 s hs; simp [obl, Value.ownBlock] at hs2; omega))), hc⟩
        · -- else
          cases h69
      · -- no
        replace hb68 := not_f hb68
        replace hb68 := dec_t hb68
        refine rw_cons (op_pv (w1y rfl rfl rfl rfl) rfl rfl (pv_move (v := (.slice Axs nxs cxs)) rfl rfl) ?_)
        refine rw_cons (op_pv (w1y rfl rfl rfl rfl) rfl rfl (pv_move (v := (.slice Ass nss css)) rfl rfl) ?_)
        refine rw_cons (op_call (w1y rfl rfl rfl rfl) rfl rfl (rc_call C39 rfl rfl) (l32Bad_ok _ nxs _ xs _ nss _ ss _ (hRxs.more (by omega)) (by omega) (by omega) (hRss.more (by omega)) (by omega) (fun j hj => by have h9 := ‹BytesOK xs›.2 j (by omega); omega)) ?_)
        rintro _ w92 ⟨A94, c95, rfl, hO96, hch93⟩
        have hsz97 := hch93.size
        replace hRxs := hRxs.ch0 hch93
        replace hRss := hRss.ch0 hch93
        replace hRfr := hRfr.ch0 hch93
        replace hc := hc.step0 hch93
        have hub98 := hO96.lt
        have hcap99 : (badL (sumsL xs) ss).length ≤ c95 := by obtain ⟨_, _, hv, h1, _⟩ := hO96.form; injection hv with _ _ h3; omega
        have hnt100 := badL_le (sumsL xs) ss
        have hnt101 := sumsL_len xs
        have hnt102 := sumsL_le xs
        refine rw_cons (op_pv (w1y rfl rfl rfl rfl) rfl rfl (pv_len Try.underlying22 rfl rfl) ?_)
        refine rw_cons (op_pv (w1y rfl rfl rfl rfl) rfl rfl (pv_gtr rfl rfl rfl) ?_)
        refine rw_cons (op_pv (w0 rfl) rfl rfl (pv_pickF (v := (.bool (decide (0 < ((badL (sumsL xs) ss).length : Int))))) rfl rfl rfl) ?_)
        refine rw_cons (op_pv (w0 rfl) rfl rfl (pv_move (v := (.bool (decide (0 < ((badL (sumsL xs) ss).length : Int))))) rfl rfl) ?_)
        refine rw_split 34 rfl (fun hb103 => ?_) (fun hb103 => ?_)
        · -- yes
          replace hb103 := of_decide_eq_true hb103
          refine rw_cons (op_pass (w1n2 rfl rfl rfl rfl) rfl rfl ?_)
          refine rw_cons (op_pass (w1n2 rfl rfl rfl rfl) rfl rfl ?_)
          refine rw_cons (op_pass (w1n2 rfl rfl rfl rfl) rfl rfl ?_)
          refine rw_cons (op_pass (w1n2 rfl rfl rfl rfl) rfl rfl ?_)
          refine rw_cons (op_pass (w1n2 rfl rfl rfl rfl) rfl rfl ?_)
          refine rw_cons (op_pass (w1n2 rfl rfl rfl rfl) rfl rfl ?_)
          refine rw_cons (op_pv (w0 rfl) rfl rfl (pv_pickT (v := (.bool true)) rfl rfl rfl) ?_)
          refine rw_nil (hK10 _ _ ?_)
          refine hK8 _ _ ?_
          refine cw_cond rfl (fun h104 => ?_) (fun h104 => ?_)
          · -- then
            clear h104
            refine cw_seq fun K105 hK106 => ?_
            refine cw_region fun K107 hK108 => ?_
            refine rw_cons (op_bslice [] Try.underlying22 T3 (w0 rfl) rfl rfl rfl rfl rfl (by simp [Value.cells]) (by decide) ?_)
            intro g110 w109 hg113 hg114 hK112 hch111
            have hO115 : Own encI 1 w109 w92.heap.size 3 (.slice (some ⟨g110, 0, none⟩) 0 0) ([] : List Int) := Blk.own (xs := ([] : List Int)) hK112 (by omega) rfl (by decide) rfl
            have hsz116 := hch111.size
            replace hRxs := hRxs.ch0 hch111
            replace hRss := hRss.ch0 hch111
            replace hRfr := hRfr.ch0 hch111
            replace hO96 := hO96.ch0 hch111
            replace hc := hc.step0 hch111
            have hub117 := hO115.lt
            refine rw_cons (op_bslice [] Try.underlying22 T3 (w0 rfl) rfl rfl rfl rfl rfl (by simp [Value.cells]) (by decide) ?_)
            intro g119 w118 hg122 hg123 hK121 hch120
            have hO124 : Own encI 1 w118 w109.heap.size 3 (.slice (some ⟨g119, 0, none⟩) 0 0) ([] : List Int) := Blk.own (xs := ([] : List Int)) hK121 (by omega) rfl (by decide) rfl
            have hsz125 := hch120.size
            replace hRxs := hRxs.ch0 hch120
            replace hRss := hRss.ch0 hch120
            replace hRfr := hRfr.ch0 hch120
            replace hO96 := hO96.ch0 hch120
            replace hO115 := hO115.ch0 hch120
            replace hc := hc.step0 hch120
            have hub126 := hO124.lt
            refine rw_cons (op_pv (w0 rfl) rfl rfl (pv_assign (v := (.slice (some ⟨g110, 0, none⟩) 0 0)) rfl rfl) ?_)
            refine rw_cons (op_pv (w0 rfl) rfl rfl (pv_assign (v := (.slice (some ⟨g119, 0, none⟩) 0 0)) rfl rfl) ?_)
            refine rw_cons (op_pv (w0 rfl) rfl rfl (pv_assign (v := (.bool false)) rfl rfl) ?_)
            refine rw_nil (hK108 _ _ ?_)
            refine hK106 _ _ ?_
            refine cw_ret ?_
            refine fin3 rfl rfl rfl ?_
            have hno : ¬ WriteOK xs ss a fr := (by rintro ⟨h1, h2, h3, h4, h5, h6⟩; have h7 := bad_iff.2 h6; have h8 : (badL (sumsL xs) ss).length = 0 := by { rw [h7.1]; rfl }; have h9 := h7.2; first | contradiction | omega | exact absurd (writeL_ok h1 h2 (a := a.toNat) (by omega) (by omega)) (by assumption))
            have he_0 : ([] : List Int) = writeV xs ss a fr := (writeV_no hno).symm
            have he_1 : ([] : List Int) = writeS xs ss a fr := (writeS_no hno).symm
            exact ⟨_, _, _, _, tup3 (sl_as hO115 he_0) (sl_as hO124 he_1) (bvf hno), own_as (hO115.less (by omega)) he_0, own_as (hO124.less (by omega)) he_1, (dj_as (show ∀ s ∈ obl (.slice (some ⟨g110, 0, none⟩) 0 0), s ∉ obl (.slice (some ⟨g119, 0, none⟩) 0 0) from fun s hs hs2 => by first | (have h1 := hO115.off s hs; have h2 := hub126 s hs2; omega) | (have h1 := hub117 s hs; have h2 := hO124.off s hs2; omega) | (simp [obl, Value.ownBlock] at hs; done) | (simp [obl, Value.ownBlock] at hs2; done) | (have h2 := hub126 s hs2; simp [obl, Value.ownBlock] at hs; omega) | (have h1 := hub117 s hs; simp [obl, Value.ownBlock] at hs2; omega))), hc⟩
          · -- else
            cases h104
        · -- no
          replace hb103 := of_decide_eq_false hb103
          refine rw_cons (op_pv (w1y rfl rfl rfl rfl) rfl rfl (pv_move (v := (.slice Ass nss css)) rfl rfl) ?_)
          refine rw_cons (op_pv (w1y rfl rfl rfl rfl) rfl rfl (pv_len Try.underlying22 rfl rfl) ?_)
          refine rw_cons (op_pv (w1y rfl rfl rfl rfl) rfl rfl (pv_move (v := (.slice Axs nxs cxs)) rfl rfl) ?_)
          refine rw_cons (op_call (w1y rfl rfl rfl rfl) rfl rfl (rc_call C37 rfl rfl) (l32Sums_ok _ nxs _ xs _ (hRxs.more (by omega)) (by omega) (by omega) (fun j hj => by have h9 := ‹BytesOK xs›.2 j (by omega); omega)) ?_)
          rintro _ w127 ⟨A129, c130, rfl, hO131, hch128⟩
          have hsz132 := hch128.size
          replace hRxs := hRxs.ch0 hch128
          replace hRss := hRss.ch0 hch128
          replace hRfr := hRfr.ch0 hch128
          replace hO96 := hO96.ch0 hch128
          replace hc := hc.step0 hch128
          have hub133 := hO131.lt
          have hcap134 : (sumsL xs).length ≤ c130 := by obtain ⟨_, _, hv, h1, _⟩ := hO131.form; injection hv with _ _ h3; omega
          have hnt135 := sumsL_len xs
          have hnt136 := sumsL_le xs
          refine rw_cons (op_pv (w1y rfl rfl rfl rfl) rfl rfl (pv_len Try.underlying22 rfl rfl) ?_)
          refine rw_cons (op_pv (w1y rfl rfl rfl rfl) rfl rfl (pv_gtr rfl rfl rfl) ?_)
          refine rw_cons (op_pv (w0 rfl) rfl rfl (pv_pickF (v := (.bool (decide (((sumsL xs).length : Int) < (nss : Int))))) rfl rfl rfl) ?_)
          refine rw_nil (hK10 _ _ ?_)
          refine hK8 _ _ ?_
          refine cw_cond rfl (fun h137 => ?_) (fun h137 => ?_)
          · -- then
            replace h137 := of_decide_eq_true h137
            refine cw_seq fun K138 hK139 => ?_
            refine cw_region fun K140 hK141 => ?_
            refine rw_cons (op_bslice [] Try.underlying22 T3 (w0 rfl) rfl rfl rfl rfl rfl (by simp [Value.cells]) (by decide) ?_)
            intro g143 w142 hg146 hg147 hK145 hch144
            have hO148 : Own encI 1 w142 w127.heap.size 3 (.slice (some ⟨g143, 0, none⟩) 0 0) ([] : List Int) := Blk.own (xs := ([] : List Int)) hK145 (by omega) rfl (by decide) rfl
            have hsz149 := hch144.size
            replace hRxs := hRxs.ch0 hch144
            replace hRss := hRss.ch0 hch144
            replace hRfr := hRfr.ch0 hch144
            replace hO96 := hO96.ch0 hch144
            replace hO131 := hO131.ch0 hch144
            replace hc := hc.step0 hch144
            have hub150 := hO148.lt
            refine rw_cons (op_bslice [] Try.underlying22 T3 (w0 rfl) rfl rfl rfl rfl rfl (by simp [Value.cells]) (by decide) ?_)
            intro g152 w151 hg155 hg156 hK154 hch153
            have hO157 : Own encI 1 w151 w142.heap.size 3 (.slice (some ⟨g152, 0, none⟩) 0 0) ([] : List Int) := Blk.own (xs := ([] : List Int)) hK154 (by omega) rfl (by decide) rfl
            have hsz158 := hch153.size
            replace hRxs := hRxs.ch0 hch153
            replace hRss := hRss.ch0 hch153
            replace hRfr := hRfr.ch0 hch153
            replace hO96 := hO96.ch0 hch153
            replace hO131 := hO131.ch0 hch153
            replace hO148 := hO148.ch0 hch153
            replace hc := hc.step0 hch153
            have hub159 := hO157.lt
            refine rw_cons (op_pv (w0 rfl) rfl rfl (pv_assign (v := (.slice (some ⟨g143, 0, none⟩) 0 0)) rfl rfl) ?_)
            refine rw_cons (op_pv (w0 rfl) rfl rfl (pv_assign (v := (.slice (some ⟨g152, 0, none⟩) 0 0)) rfl rfl) ?_)
            refine rw_cons (op_pv (w0 rfl) rfl rfl (pv_assign (v := (.bool false)) rfl rfl) ?_)
            refine rw_nil (hK141 _ _ ?_)
            refine hK139 _ _ ?_
            refine cw_ret ?_
            refine fin3 rfl rfl rfl ?_
            have hno : ¬ WriteOK xs ss a fr := (by rintro ⟨h1, h2, h3, h4, h5, h6⟩; have h7 := bad_iff.2 h6; have h8 : (badL (sumsL xs) ss).length = 0 := by { rw [h7.1]; rfl }; have h9 := h7.2; first | contradiction | omega | exact absurd (writeL_ok h1 h2 (a := a.toNat) (by omega) (by omega)) (by assumption))
            have he_0 : ([] : List Int) = writeV xs ss a fr := (writeV_no hno).symm
            have he_1 : ([] : List Int) = writeS xs ss a fr := (writeS_no hno).symm
            exact ⟨_, _, _, _, tup3 (sl_as hO148 he_0) (sl_as hO157 he_1) (bvf hno), own_as (hO148.less (by omega)) he_0, own_as (hO157.less (by omega)) he_1, (dj_as (show ∀ s ∈ obl (.slice (some ⟨g143, 0, none⟩) 0 0), s ∉ obl (.slice (some ⟨g152, 0, none⟩) 0 0) from fun s hs hs2 => by first | (have h1 := hO148.off s hs; have h2 := hub159 s hs2; omega) | (have h1 := hub150 s hs; have h2 := hO157.off s hs2; omega) | (simp [obl, Value.ownBlock] at hs; done) | (simp [obl, Value.ownBlock] at hs2; done) | (have h2 := hub159 s hs2; simp [obl, Value.ownBlock] at hs; omega) | (have h1 := hub150 s hs; simp [obl, Value.ownBlock] at hs2; omega))), hc⟩
          · -- else
            replace h137 := of_decide_eq_false h137
            refine cw_skip ?_
            refine hK6 _ _ ?_
            refine cw_seq fun K160 hK161 => ?_
            refine cw_region fun K162 hK163 => ?_
            refine rw_cons (op_bslice [] Try.underlying22 T3 (w0 rfl) rfl rfl rfl rfl rfl (by simp [Value.cells]) (by decide) ?_)
            intro g165 w164 hg168 hg169 hK167 hch166
            have hO170 : Own encI 1 w164 w127.heap.size 3 (.slice (some ⟨g165, 0, none⟩) 0 0) ([] : List Int) := Blk.own (xs := ([] : List Int)) hK167 (by omega) rfl (by decide) rfl
            have hsz171 := hch166.size
            replace hRxs := hRxs.ch0 hch166
            replace hRss := hRss.ch0 hch166
            replace hRfr := hRfr.ch0 hch166
            replace hO96 := hO96.ch0 hch166
            replace hO131 := hO131.ch0 hch166
            replace hc := hc.step0 hch166
            have hub172 := hO170.lt
            refine rw_cons (op_pv (w0 rfl) rfl rfl (pv_move (v := (.slice Axs nxs cxs)) rfl rfl) ?_)
            refine rw_cons (op_pv (w0 rfl) rfl rfl (pv_move (v := (.int .i64 a)) rfl rfl) ?_)
            refine rw_cons (op_pv (w0 rfl) rfl rfl (pv_upto Try.underlying22 T3 rfl rfl rfl (by omega) (by omega)) ?_)
            have hR173 : RS encI 1 w164 w.heap.size Axs (a).toNat (xs.take (a).toNat) := (hRxs).upto (by omega)
            refine rw_cons (op_append Try.underlying22 T3 (fun _ => rfl) rfl (by decide) (fun _ => one_all rfl) (w0 rfl) rfl rfl rfl rfl rfl hO170 hR173 (by unfold maxLen; first | omega | (simp; omega)) (by first | omega | (simp; omega)) (by omega) ?_)
            rintro v174 w175 hO176 hch177 hs178
            replace hO176 : Own encI 1 w175 w127.heap.size 3 v174 (xs.take (a).toNat) := hO176
            have hl179 : (xs.take (a).toNat).length = 0 + (a).toNat := by first | (have hl0 := hR173.len; omega) | (have hl0 := hR173.len; simp only [List.length_append, List.length_cons, List.length_nil] at hl0 ⊢; omega) | simp | rfl
            have hsz180 := hch177.size
            replace hRxs := hRxs.ch hch177 (hO170.off.le (by omega))
            replace hRss := hRss.ch hch177 (hO170.off.le (by omega))
            replace hRfr := hRfr.ch hch177 (hO170.off.le (by omega))
            replace hO96 := hO96.ch hch177 (fun s hs hs2 => by first | (have h1 := hO96.off s hs; have h2 := hub172 s hs2; omega) | (have h1 := hub98 s hs; have h2 := hO170.off s hs2; omega) | (have h2 := hub172 s hs2; simp [obl, Value.ownBlock] at hs; omega) | (have h1 := hub98 s hs; simp [obl, Value.ownBlock] at hs2; omega))
            replace hO131 := hO131.ch hch177 (fun s hs hs2 => by first | (have h1 := hO131.off s hs; have h2 := hub172 s hs2; omega) | (have h1 := hub133 s hs; have h2 := hO170.off s hs2; omega) | (have h2 := hub172 s hs2; simp [obl, Value.ownBlock] at hs; omega) | (have h1 := hub133 s hs; simp [obl, Value.ownBlock] at hs2; omega))
            replace hR173 := hR173.ch hch177 (hO170.off.le (by omega))
            replace hc := (hO170.off.le (by omega)).step hc hch177
            have hub181 := hO176.lt
            obtain ⟨A182, c183, hv184, hcap185, hcap186⟩ := hO176.form; subst hv184
            refine rw_cons (op_pv (w0 rfl) rfl rfl (pv_assign (v := (.slice A182 (xs.take (a).toNat).length c183)) rfl rfl) ?_)
            refine rw_nil (hK163 _ _ ?_)
            refine hK161 _ _ ?_
            refine cw_seq fun K187 hK188 => ?_
            refine cw_region fun K189 hK190 => ?_
            refine rw_cons (op_pv (w0 rfl) rfl rfl (pv_move (v := (.slice A182 (xs.take (a).toNat).length c183)) rfl rfl) ?_)
            refine rw_cons (op_pv (w0 rfl) rfl rfl (pv_move (v := (.slice Afr nfr cfr)) rfl rfl) ?_)
            refine rw_cons (op_append Try.underlying22 T3 (fun _ => rfl) rfl (by decide) (fun _ => one_all rfl) (w0 rfl) rfl rfl rfl rfl rfl hO176 hRfr (by unfold maxLen; first | omega | (simp; omega)) (by first | omega | (simp; omega)) (by omega) ?_)
            rintro v191 w192 hO193 hch194 hs195
            have hl196 : ((xs.take (a).toNat) ++ fr).length = (xs.take (a).toNat).length + nfr := by first | (have hl0 := hRfr.len; omega) | (have hl0 := hRfr.len; simp only [List.length_append, List.length_cons, List.length_nil] at hl0 ⊢; omega) | simp | rfl
            have hsz197 := hch194.size
            replace hRxs := hRxs.ch hch194 (hO176.off.le (by omega))
            replace hRss := hRss.ch hch194 (hO176.off.le (by omega))
            replace hRfr := hRfr.ch hch194 (hO176.off.le (by omega))
            replace hO96 := hO96.ch hch194 (fun s hs hs2 => by first | (have h1 := hO96.off s hs; have h2 := hub181 s hs2; omega) | (have h1 := hub98 s hs; have h2 := hO176.off s hs2; omega) | (have h2 := hub181 s hs2; simp [obl, Value.ownBlock] at hs; omega) | (have h1 := hub98 s hs; simp [obl, Value.ownBlock] at hs2; omega))
            replace hO131 := hO131.ch hch194 (fun s hs hs2 => by first | (have h1 := hO131.off s hs; have h2 := hub181 s hs2; omega) | (have h1 := hub133 s hs; have h2 := hO176.off s hs2; omega) | (have h2 := hub181 s hs2; simp [obl, Value.ownBlock] at hs; omega) | (have h1 := hub133 s hs; simp [obl, Value.ownBlock] at hs2; omega))
            replace hR173 := hR173.ch hch194 (hO176.off.le (by omega))
            replace hc := (hO176.off.le (by omega)).step hc hch194
            have hub198 := hO193.lt
            obtain ⟨A199, c200, hv201, hcap202, hcap203⟩ := hO193.form; subst hv201
            refine rw_cons (op_pv (w0 rfl) rfl rfl (pv_assign (v := (.slice A199 ((xs.take (a).toNat) ++ fr).length c200)) rfl rfl) ?_)
            refine rw_nil (hK190 _ _ ?_)
            refine hK188 _ _ ?_
            refine cw_seq fun K204 hK205 => ?_
            refine cw_seq fun K206 hK207 => ?_
            refine cw_region fun K208 hK209 => ?_
            refine rw_cons (op_pv (w0 rfl) rfl rfl (pv_move (v := (.int .i64 a)) rfl rfl) ?_)
            refine rw_cons (op_pv (w0 rfl) rfl rfl (pv_move (v := (.slice Afr nfr cfr)) rfl rfl) ?_)
            refine rw_cons (op_pv (w0 rfl) rfl rfl (pv_len Try.underlying22 rfl rfl) ?_)
            refine rw_cons (op_pv (w0 rfl) rfl rfl (pv_add rfl rfl rfl (by omega) (by omega)) ?_)
            refine rw_cons (op_pv (w0 rfl) rfl rfl (pv_move (v := (.slice Axs nxs cxs)) rfl rfl) ?_)
            refine rw_cons (op_pv (w0 rfl) rfl rfl (pv_len Try.underlying22 rfl rfl) ?_)
            refine rw_cons (op_pv (w0 rfl) rfl rfl (pv_lss rfl rfl rfl) ?_)
            refine rw_nil (hK209 _ _ ?_)
            refine hK207 _ _ ?_
            refine cw_cond rfl (fun h210 => ?_) (fun h210 => ?_)
            · -- then
              replace h210 := of_decide_eq_true h210
              refine cw_region fun K211 hK212 => ?_
              refine rw_cons (op_pv (w0 rfl) rfl rfl (pv_move (v := (.slice A199 ((xs.take (a).toNat) ++ fr).length c200)) rfl rfl) ?_)
              refine rw_cons (op_pv (w0 rfl) rfl rfl (pv_move (v := (.slice Axs nxs cxs)) rfl rfl) ?_)
              refine rw_cons (op_pv (w0 rfl) rfl rfl (pv_move (v := (.int .i64 a)) rfl rfl) ?_)
              refine rw_cons (op_pv (w0 rfl) rfl rfl (pv_move (v := (.slice Afr nfr cfr)) rfl rfl) ?_)
              refine rw_cons (op_pv (w0 rfl) rfl rfl (pv_len Try.underlying22 rfl rfl) ?_)
              refine rw_cons (op_pv (w0 rfl) rfl rfl (pv_add rfl rfl rfl (by omega) (by omega)) ?_)
              refine rw_cons (op_pv (w0 rfl) rfl rfl (pv_from Try.underlying22 T3 rfl rfl rfl (by omega) (by omega)) ?_)
              have hR213 : RS encI 1 w192 w.heap.size (if cxs = (a + (nfr : Int)).toNat then Axs else (Axs : Option Addr).map (·.add ((a + (nfr : Int)).toNat * 1))) (nxs - (a + (nfr : Int)).toNat) (xs.drop (a + (nfr : Int)).toNat) := (hRxs).from (by omega) (by omega)
              refine rw_cons (op_append Try.underlying22 T3 (fun _ => rfl) rfl (by decide) (fun _ => one_all rfl) (w0 rfl) rfl rfl rfl rfl rfl hO193 hR213 (by unfold maxLen; first | omega | (simp; omega)) (by first | omega | (simp; omega)) (by omega) ?_)
              rintro v214 w215 hO216 hch217 hs218
              have hl219 : (((xs.take (a).toNat) ++ fr) ++ (xs.drop (a + (nfr : Int)).toNat)).length = ((xs.take (a).toNat) ++ fr).length + (nxs - (a + (nfr : Int)).toNat) := by first | (have hl0 := hR213.len; omega) | (have hl0 := hR213.len; simp only [List.length_append, List.length_cons, List.length_nil] at hl0 ⊢; omega) | simp | rfl
              have hsz220 := hch217.size
              replace hRxs := hRxs.ch hch217 (hO193.off.le (by omega))
              replace hRss := hRss.ch hch217 (hO193.off.le (by omega))
              replace hRfr := hRfr.ch hch217 (hO193.off.le (by omega))
              replace hO96 := hO96.ch hch217 (fun s hs hs2 => by first | (have h1 := hO96.off s hs; have h2 := hub198 s hs2; omega) | (have h1 := hub98 s hs; have h2 := hO193.off s hs2; omega) | (have h2 := hub198 s hs2; simp [obl, Value.ownBlock] at hs; omega) | (have h1 := hub98 s hs; simp [obl, Value.ownBlock] at hs2; omega))
              replace hO131 := hO131.ch hch217 (fun s hs hs2 => by first | (have h1 := hO131.off s hs; have h2 := hub198 s hs2; omega) | (have h1 := hub133 s hs; have h2 := hO193.off s hs2; omega) | (have h2 := hub198 s hs2; simp [obl, Value.ownBlock] at hs; omega) | (have h1 := hub133 s hs; simp [obl, Value.ownBlock] at hs2; omega))
              replace hR173 := hR173.ch hch217 (hO193.off.le (by omega))
              replace hR213 := hR213.ch hch217 (hO193.off.le (by omega))
              replace hc := (hO193.off.le (by omega)).step hc hch217
              have hub221 := hO216.lt
              obtain ⟨A222, c223, hv224, hcap225, hcap226⟩ := hO216.form; subst hv224
              have hrn227 : (((xs.take (a).toNat) ++ fr) ++ (xs.drop (a + (nfr : Int)).toNat)) = writeL xs a.toNat fr := (by unfold writeL; rw [show (a + (nfr : Int)).toNat = a.toNat + fr.length by omega])
              rw [hrn227] at hO216
              try rw [hrn227]
              have hub228 := hO216.lt
              have hf16 := (‹BytesOK fr›).1; have hx16 := (‹BytesOK xs›).1; have hwn := writeL_len (bs := xs) (fr := fr) (a := a.toNat) (by omega)
              refine rw_cons (op_pv (w0 rfl) rfl rfl (pv_assign (v := (.slice A222 (writeL xs a.toNat fr).length c223)) rfl rfl) ?_)
              refine rw_nil (hK212 _ _ ?_)
              refine hK205 _ _ ?_
              refine cw_seq fun K229 hK230 => ?_
              refine cw_seq fun K231 hK232 => ?_
              refine cw_region fun K233 hK234 => ?_
              refine rw_cons (op_pv (w0 rfl) rfl rfl (pv_move (v := (.slice A222 (writeL xs a.toNat fr).length c223)) rfl rfl) ?_)
              refine rw_cons (op_call (w0 rfl) rfl rfl (rc_call C17 rfl rfl) (BytesValid_s _ _ _ (writeL xs a.toNat fr) _ (hO216.rs (fun _ => rfl)) (by omega)) ?_)
              rintro _ w235 ⟨rfl, hch236⟩
              have hsz237 := hch236.size
              replace hRxs := hRxs.ch0 hch236
              replace hRss := hRss.ch0 hch236
              replace hRfr := hRfr.ch0 hch236
              replace hO96 := hO96.ch0 hch236
              replace hO131 := hO131.ch0 hch236
              replace hR173 := hR173.ch0 hch236
              replace hR213 := hR213.ch0 hch236
              replace hO216 := hO216.ch0 hch236
              replace hc := hc.step0 hch236
              refine rw_cons (op_pv (w0 rfl) rfl rfl (pv_not rfl rfl) ?_)
              refine rw_nil (hK234 _ _ ?_)
              refine hK232 _ _ ?_
              refine cw_cond rfl (fun h238 => ?_) (fun h238 => ?_)
              · -- then
                replace h238 := not_t h238
                replace h238 := dec_f h238
                refine cw_seq fun K239 hK240 => ?_
                refine cw_region fun K241 hK242 => ?_
                refine rw_cons (op_bslice [] Try.underlying22 T3 (w0 rfl) rfl rfl rfl rfl rfl (by simp [Value.cells]) (by decide) ?_)
                intro g244 w243 hg247 hg248 hK246 hch245
                have hO249 : Own encI 1 w243 w235.heap.size 3 (.slice (some ⟨g244, 0, none⟩) 0 0) ([] : List Int) := Blk.own (xs := ([] : List Int)) hK246 (by omega) rfl (by decide) rfl
                have hsz250 := hch245.size
                replace hRxs := hRxs.ch0 hch245
                replace hRss := hRss.ch0 hch245
                replace hRfr := hRfr.ch0 hch245
                replace hO96 := hO96.ch0 hch245
                replace hO131 := hO131.ch0 hch245
                replace hR173 := hR173.ch0 hch245
                replace hR213 := hR213.ch0 hch245
                replace hO216 := hO216.ch0 hch245
                replace hc := hc.step0 hch245
                have hub251 := hO249.lt
                refine rw_cons (op_bslice [] Try.underlying22 T3 (w0 rfl) rfl rfl rfl rfl rfl (by simp [Value.cells]) (by decide) ?_)
                intro g253 w252 hg256 hg257 hK255 hch254
                have hO258 : Own encI 1 w252 w243.heap.size 3 (.slice (some ⟨g253, 0, none⟩) 0 0) ([] : List Int) := Blk.own (xs := ([] : List Int)) hK255 (by omega) rfl (by decide) rfl
                have hsz259 := hch254.size
                replace hRxs := hRxs.ch0 hch254
                replace hRss := hRss.ch0 hch254
                replace hRfr := hRfr.ch0 hch254
                replace hO96 := hO96.ch0 hch254
                replace hO131 := hO131.ch0 hch254
                replace hR173 := hR173.ch0 hch254
                replace hR213 := hR213.ch0 hch254
                replace hO216 := hO216.ch0 hch254
                replace hO249 := hO249.ch0 hch254
                replace hc := hc.step0 hch254
                have hub260 := hO258.lt
                refine rw_cons (op_pv (w0 rfl) rfl rfl (pv_assign (v := (.slice (some ⟨g244, 0, none⟩) 0 0)) rfl rfl) ?_)
                refine rw_cons (op_pv (w0 rfl) rfl rfl (pv_assign (v := (.slice (some ⟨g253, 0, none⟩) 0 0)) rfl rfl) ?_)
                refine rw_cons (op_pv (w0 rfl) rfl rfl (pv_assign (v := (.bool false)) rfl rfl) ?_)
                refine rw_nil (hK242 _ _ ?_)
                refine hK240 _ _ ?_
                refine cw_ret ?_
                refine fin3 rfl rfl rfl ?_
                have hno : ¬ WriteOK xs ss a fr := (by rintro ⟨h1, h2, h3, h4, h5, h6⟩; have h7 := bad_iff.2 h6; have h8 : (badL (sumsL xs) ss).length = 0 := by { rw [h7.1]; rfl }; have h9 := h7.2; first | contradiction | omega | exact absurd (writeL_ok h1 h2 (a := a.toNat) (by omega) (by omega)) (by assumption))
                have he_0 : ([] : List Int) = writeV xs ss a fr := (writeV_no hno).symm
                have he_1 : ([] : List Int) = writeS xs ss a fr := (writeS_no hno).symm
                exact ⟨_, _, _, _, tup3 (sl_as hO249 he_0) (sl_as hO258 he_1) (bvf hno), own_as (hO249.less (by omega)) he_0, own_as (hO258.less (by omega)) he_1, (dj_as (show ∀ s ∈ obl (.slice (some ⟨g244, 0, none⟩) 0 0), s ∉ obl (.slice (some ⟨g253, 0, none⟩) 0 0) from fun s hs hs2 => by first | (have h1 := hO249.off s hs; have h2 := hub260 s hs2; omega) | (have h1 := hub251 s hs; have h2 := hO258.off s hs2; omega) | (simp [obl, Value.ownBlock] at hs; done) | (simp [obl, Value.ownBlock] at hs2; done) | (have h2 := hub260 s hs2; simp [obl, Value.ownBlock] at hs; omega) | (have h1 := hub251 s hs; simp [obl, Value.ownBlock] at hs2; omega))), hc⟩
              · -- else
                replace h238 := not_f h238
                replace h238 := dec_t h238
                refine cw_skip ?_
                refine hK230 _ _ ?_
                refine cw_seq fun K261 hK262 => ?_
                refine cw_region fun K263 hK264 => ?_
                refine rw_cons (op_pv (w0 rfl) rfl rfl (pv_move (v := (.slice A222 (writeL xs a.toNat fr).length c223)) rfl rfl) ?_)
                refine rw_cons (op_pv (w0 rfl) rfl rfl (pv_move (v := (.slice A222 (writeL xs a.toNat fr).length c223)) rfl rfl) ?_)
                refine rw_cons (op_call (w0 rfl) rfl rfl (rc_call C37 rfl rfl) (l32Sums_ok _ (writeL xs a.toNat fr).length _ (writeL xs a.toNat fr) _ (hO216.rs (fun _ => rfl)) (by omega) (by omega) (fun j hj => by have h9 := ‹BytesOK (writeL xs a.toNat fr)›.2 j (by omega); omega)) ?_)
                rintro _ w265 ⟨A267, c268, rfl, hO269, hch266⟩
                have hsz270 := hch266.size
                replace hRxs := hRxs.ch0 hch266
                replace hRss := hRss.ch0 hch266
                replace hRfr := hRfr.ch0 hch266
                replace hO96 := hO96.ch0 hch266
                replace hO131 := hO131.ch0 hch266
                replace hR173 := hR173.ch0 hch266
                replace hR213 := hR213.ch0 hch266
                replace hO216 := hO216.ch0 hch266
                replace hc := hc.step0 hch266
                have hub271 := hO269.lt
                have hcap272 : (sumsL (writeL xs a.toNat fr)).length ≤ c268 := by obtain ⟨_, _, hv, h1, _⟩ := hO269.form; injection hv with _ _ h3; omega
                have hnt273 := sumsL_len (writeL xs a.toNat fr)
                have hnt274 := sumsL_le (writeL xs a.toNat fr)
                refine rw_cons (op_pv (w0 rfl) rfl rfl (pv_assign (v := (.slice A222 (writeL xs a.toNat fr).length c223)) rfl rfl) ?_)
                refine rw_cons (op_pv (w0 rfl) rfl rfl (pv_assign (v := (.slice A267 (sumsL (writeL xs a.toNat fr)).length c268)) rfl rfl) ?_)
                refine rw_cons (op_pv (w0 rfl) rfl rfl (pv_assign (v := (.bool true)) rfl rfl) ?_)
                refine rw_nil (hK264 _ _ ?_)
                refine hK262 _ _ ?_
                refine cw_ret ?_
                refine fin3 rfl rfl rfl ?_
                have hl15 := (by assumption : BytesOK (writeL xs a.toNat fr)).1
                have hyes : WriteOK xs ss a fr := ⟨‹BytesOK xs›, ‹BytesOK fr›, by omega, by omega, by omega, by first | assumption | exact bad_iff.1 ⟨List.eq_nil_of_length_eq_zero (by omega), by omega⟩⟩
                have hl16 : (writeL xs a.toNat fr).length ≤ 16 := (by assumption : BytesOK (writeL xs a.toNat fr)).1
                have he_0 : (writeL xs a.toNat fr) = writeV xs ss a fr := (writeV_yes hyes).symm
                have he_1 : (sumsL (writeL xs a.toNat fr)) = writeS xs ss a fr := (writeS_yes hyes).symm
                exact ⟨_, _, _, _, tup3 (sl_as hO216 he_0) (sl_as hO269 he_1) (bvt hyes), own_as (hO216.less (by omega)) he_0, own_as (hO269.less (by omega)) he_1, (dj_as (show ∀ s ∈ obl (.slice A222 (writeL xs a.toNat fr).length c223), s ∉ obl (.slice A267 (sumsL (writeL xs a.toNat fr)).length c268) from fun s hs hs2 => by first | (have h1 := hO216.off s hs; have h2 := hub271 s hs2; omega) | (have h1 := hub228 s hs; have h2 := hO269.off s hs2; omega) | (simp [obl, Value.ownBlock] at hs; done) | (simp [obl, Value.ownBlock] at hs2; done) | (have h2 := hub271 s hs2; simp [obl, Value.ownBlock] at hs; omega) | (have h1 := hub228 s hs; simp [obl, Value.ownBlock] at hs2; omega))), hc⟩
            · -- else
              replace h210 := of_decide_eq_false h210
              have hrn275 : ((xs.take (a).toNat) ++ fr) = writeL xs a.toNat fr := writeL_short (by omega)
              rw [hrn275] at hO193
              try rw [hrn275]
              have hub276 := hO193.lt
              have hf16 := (‹BytesOK fr›).1; have hx16 := (‹BytesOK xs›).1; have hwn := writeL_len (bs := xs) (fr := fr) (a := a.toNat) (by omega)
              refine cw_skip ?_
              refine hK205 _ _ ?_
              refine cw_seq fun K277 hK278 => ?_
              refine cw_seq fun K279 hK280 => ?_
              refine cw_region fun K281 hK282 => ?_
              refine rw_cons (op_pv (w0 rfl) rfl rfl (pv_move (v := (.slice A199 (writeL xs a.toNat fr).length c200)) rfl rfl) ?_)
              refine rw_cons (op_call (w0 rfl) rfl rfl (rc_call C17 rfl rfl) (BytesValid_s _ _ _ (writeL xs a.toNat fr) _ (hO193.rs (fun _ => rfl)) (by omega)) ?_)
              rintro _ w283 ⟨rfl, hch284⟩
              have hsz285 := hch284.size
              replace hRxs := hRxs.ch0 hch284
              replace hRss := hRss.ch0 hch284
              replace hRfr := hRfr.ch0 hch284
              replace hO96 := hO96.ch0 hch284
              replace hO131 := hO131.ch0 hch284
              replace hR173 := hR173.ch0 hch284
              replace hO193 := hO193.ch0 hch284
              replace hc := hc.step0 hch284
              refine rw_cons (op_pv (w0 rfl) rfl rfl (pv_not rfl rfl) ?_)
              refine rw_nil (hK282 _ _ ?_)
              refine hK280 _ _ ?_
              refine cw_cond rfl (fun h286 => ?_) (fun h286 => ?_)
              · -- then
                replace h286 := not_t h286
                replace h286 := dec_f h286
                refine cw_seq fun K287 hK288 => ?_
                refine cw_region fun K289 hK290 => ?_
                refine rw_cons (op_bslice [] Try.underlying22 T3 (w0 rfl) rfl rfl rfl rfl rfl (by simp [Value.cells]) (by decide) ?_)
                intro g292 w291 hg295 hg296 hK294 hch293
                have hO297 : Own encI 1 w291 w283.heap.size 3 (.slice (some ⟨g292, 0, none⟩) 0 0) ([] : List Int) := Blk.own (xs := ([] : List Int)) hK294 (by omega) rfl (by decide) rfl
                have hsz298 := hch293.size
                replace hRxs := hRxs.ch0 hch293
                replace hRss := hRss.ch0 hch293
                replace hRfr := hRfr.ch0 hch293
                replace hO96 := hO96.ch0 hch293
                replace hO131 := hO131.ch0 hch293
                replace hR173 := hR173.ch0 hch293
                replace hO193 := hO193.ch0 hch293
                replace hc := hc.step0 hch293
                have hub299 := hO297.lt
                refine rw_cons (op_bslice [] Try.underlying22 T3 (w0 rfl) rfl rfl rfl rfl rfl (by simp [Value.cells]) (by decide) ?_)
                intro g301 w300 hg304 hg305 hK303 hch302
                have hO306 : Own encI 1 w300 w291.heap.size 3 (.slice (some ⟨g301, 0, none⟩) 0 0) ([] : List Int) := Blk.own (xs := ([] : List Int)) hK303 (by omega) rfl (by decide) rfl
                have hsz307 := hch302.size
                replace hRxs := hRxs.ch0 hch302
                replace hRss := hRss.ch0 hch302
                replace hRfr := hRfr.ch0 hch302
                replace hO96 := hO96.ch0 hch302
                replace hO131 := hO131.ch0 hch302
                replace hR173 := hR173.ch0 hch302
                replace hO193 := hO193.ch0 hch302
                replace hO297 := hO297.ch0 hch302
                replace hc := hc.step0 hch302
                have hub308 := hO306.lt
                refine rw_cons (op_pv (w0 rfl) rfl rfl (pv_assign (v := (.slice (some ⟨g292, 0, none⟩) 0 0)) rfl rfl) ?_)
                refine rw_cons (op_pv (w0 rfl) rfl rfl (pv_assign (v := (.slice (some ⟨g301, 0, none⟩) 0 0)) rfl rfl) ?_)
                refine rw_cons (op_pv (w0 rfl) rfl rfl (pv_assign (v := (.bool false)) rfl rfl) ?_)
                refine rw_nil (hK290 _ _ ?_)
                refine hK288 _ _ ?_
                refine cw_ret ?_
                refine fin3 rfl rfl rfl ?_
                have hno : ¬ WriteOK xs ss a fr := (by rintro ⟨h1, h2, h3, h4, h5, h6⟩; have h7 := bad_iff.2 h6; have h8 : (badL (sumsL xs) ss).length = 0 := by { rw [h7.1]; rfl }; have h9 := h7.2; first | contradiction | omega | exact absurd (writeL_ok h1 h2 (a := a.toNat) (by omega) (by omega)) (by assumption))
                have he_0 : ([] : List Int) = writeV xs ss a fr := (writeV_no hno).symm
                have he_1 : ([] : List Int) = writeS xs ss a fr := (writeS_no hno).symm
                exact ⟨_, _, _, _, tup3 (sl_as hO297 he_0) (sl_as hO306 he_1) (bvf hno), own_as (hO297.less (by omega)) he_0, own_as (hO306.less (by omega)) he_1, (dj_as (show ∀ s ∈ obl (.slice (some ⟨g292, 0, none⟩) 0 0), s ∉ obl (.slice (some ⟨g301, 0, none⟩) 0 0) from fun s hs hs2 => by first | (have h1 := hO297.off s hs; have h2 := hub308 s hs2; omega) | (have h1 := hub299 s hs; have h2 := hO306.off s hs2; omega) | (simp [obl, Value.ownBlock] at hs; done) | (simp [obl, Value.ownBlock] at hs2; done) | (have h2 := hub308 s hs2; simp [obl, Value.ownBlock] at hs; omega) | (have h1 := hub299 s hs; simp [obl, Value.ownBlock] at hs2; omega))), hc⟩
              · -- else
                replace h286 := not_f h286
                replace h286 := dec_t h286
                refine cw_skip ?_
                refine hK278 _ _ ?_
                refine cw_seq fun K309 hK310 => ?_
                refine cw_region fun K311 hK312 => ?_
                refine rw_cons (op_pv (w0 rfl) rfl rfl (pv_move (v := (.slice A199 (writeL xs a.toNat fr).length c200)) rfl rfl) ?_)
                refine rw_cons (op_pv (w0 rfl) rfl rfl (pv_move (v := (.slice A199 (writeL xs a.toNat fr).length c200)) rfl rfl) ?_)
                refine rw_cons (op_call (w0 rfl) rfl rfl (rc_call C37 rfl rfl) (l32Sums_ok _ (writeL xs a.toNat fr).length _ (writeL xs a.toNat fr) _ (hO193.rs (fun _ => rfl)) (by omega) (by omega) (fun j hj => by have h9 := ‹BytesOK (writeL xs a.toNat fr)›.2 j (by omega); omega)) ?_)
                rintro _ w313 ⟨A315, c316, rfl, hO317, hch314⟩
                have hsz318 := hch314.size
                replace hRxs := hRxs.ch0 hch314
                replace hRss := hRss.ch0 hch314
                replace hRfr := hRfr.ch0 hch314
                replace hO96 := hO96.ch0 hch314
                replace hO131 := hO131.ch0 hch314
                replace hR173 := hR173.ch0 hch314
                replace hO193 := hO193.ch0 hch314
                replace hc := hc.step0 hch314
                have hub319 := hO317.lt
                have hcap320 : (sumsL (writeL xs a.toNat fr)).length ≤ c316 := by obtain ⟨_, _, hv, h1, _⟩ := hO317.form; injection hv with _ _ h3; omega
                have hnt321 := sumsL_len (writeL xs a.toNat fr)
                have hnt322 := sumsL_le (writeL xs a.toNat fr)
                refine rw_cons (op_pv (w0 rfl) rfl rfl (pv_assign (v := (.slice A199 (writeL xs a.toNat fr).length c200)) rfl rfl) ?_)
                refine rw_cons (op_pv (w0 rfl) rfl rfl (pv_assign (v := (.slice A315 (sumsL (writeL xs a.toNat fr)).length c316)) rfl rfl) ?_)
                refine rw_cons (op_pv (w0 rfl) rfl rfl (pv_assign (v := (.bool true)) rfl rfl) ?_)
                refine rw_nil (hK312 _ _ ?_)
                refine hK310 _ _ ?_
                refine cw_ret ?_
                refine fin3 rfl rfl rfl ?_
                have hl15 := (by assumption : BytesOK (writeL xs a.toNat fr)).1
                have hyes : WriteOK xs ss a fr := ⟨‹BytesOK xs›, ‹BytesOK fr›, by omega, by omega, by omega, by first | assumption | exact bad_iff.1 ⟨List.eq_nil_of_length_eq_zero (by omega), by omega⟩⟩
                have hl16 : (writeL xs a.toNat fr).length ≤ 16 := (by assumption : BytesOK (writeL xs a.toNat fr)).1
                have he_0 : (writeL xs a.toNat fr) = writeV xs ss a fr := (writeV_yes hyes).symm
                have he_1 : (sumsL (writeL xs a.toNat fr)) = writeS xs ss a fr := (writeS_yes hyes).symm
                exact ⟨_, _, _, _, tup3 (sl_as hO193 he_0) (sl_as hO317 he_1) (bvt hyes), own_as (hO193.less (by omega)) he_0, own_as (hO317.less (by omega)) he_1, (dj_as (show ∀ s ∈ obl (.slice A199 (writeL xs a.toNat fr).length c200), s ∉ obl (.slice A315 (sumsL (writeL xs a.toNat fr)).length c316) from fun s hs hs2 => by first | (have h1 := hO193.off s hs; have h2 := hub319 s hs2; omega) | (have h1 := hub276 s hs; have h2 := hO317.off s hs2; omega) | (simp [obl, Value.ownBlock] at hs; done) | (simp [obl, Value.ownBlock] at hs2; done) | (have h2 := hub319 s hs2; simp [obl, Value.ownBlock] at hs; omega) | (have h1 := hub276 s hs; simp [obl, Value.ownBlock] at hs2; omega))), hc⟩
end Go.Proofs.Ythgnnpafieifmaa
