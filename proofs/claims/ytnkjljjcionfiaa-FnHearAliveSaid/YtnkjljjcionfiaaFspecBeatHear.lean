/-
  The walk of spec.BeatHear, written by program: each line names the law of one operation. Conditions: those of the theorem.
-/
import Derived.Test.YtnkjljjcionfiaaProg
import Derived.Test.YtnkjljjcionfiaaBeats
import Derived.Test.YtnkjljjcionfiaaFspecBeatsValid
import Derived.KernelRfl
namespace Go.Proofs.Ytnkjljjcionfiaa
open Go Go.RowKit
set_option linter.unusedVariables false
set_option linter.unusedSimpArgs false
namespace BeatHear_sF
theorem T3 : TI Try.prog 3 false (.int .i64 0) 1 8 := TI.mk' Try.underlying3 rfl (by kernel_rfl)
theorem T39 : TI Try.prog 39 true (.agg #[.int .i64 0, .int .i64 0]) 2 16 := TI.mk' Try.underlying39 rfl (by kernel_rfl)
theorem F39_0 : FldOK Try.prog 39 0 0 := ⟨_, _, 0, Try.underlying39, rfl, rfl, by kernel_rfl⟩
theorem F39_1 : FldOK Try.prog 39 1 1 := ⟨_, _, 0, Try.underlying39, rfl, rfl, by kernel_rfl⟩
theorem C18 : Callable Try.prog 18 := ⟨_, Try.func18, by kernel_rfl, by kernel_rfl⟩
end BeatHear_sF
open BeatHear_sF in
set_option maxHeartbeats 4000000 in
theorem BeatHear_s (Axs : Option Addr) (nxs cxs : Nat) (xs : List Bt) (xS : Int) (xA : Int) (w : World) (hRxs : RS encB 2 w w.heap.size Axs nxs xs) (hNxs : nxs ≤ 1099511627776) :
    Fn Try.prog 36 [(.slice Axs nxs cxs), (.agg #[(.int .i64 xS), (.int .i64 xA)])] w fun v w' => ∃ A_0 c_0, v = .tuple #[.slice A_0 (hearV xs ⟨xS, xA⟩).length c_0, .bool (dec (HearOK xs ⟨xS, xA⟩))] ∧ Own encB 2 w' w.heap.size 39 (.slice A_0 (hearV xs ⟨xS, xA⟩).length c_0) (hearV xs ⟨xS, xA⟩) ∧ Ch [] w w' := by
  have hlenxs := hRxs.len
  refine fn_of (n := 70) Try.func36 rfl rfl rfl rfl ?_
  have hc : Ch [] w w := Ch.refl _ _
  refine cw_seq fun K1 hK2 => ?_
  refine cw_region fun K3 hK4 => ?_
  refine rw_cons (op_box (w0 rfl) rfl rfl rfl rfl ?_)
  rintro g6 w5 hg9 hg10 hB8 hch7
  have hsz11 := hch7.size
  replace hRxs := hRxs.ch0 hch7
  replace hc := hc.step0 hch7
  replace hB8 : Blk w5 g6 39 [(.int .i64 xS), (.int .i64 xA)] := hB8
  refine rw_cons (op_pv (w0 rfl) rfl rfl (pv_assign (v := (.slice none 0 0)) rfl rfl) ?_)
  refine rw_cons (op_pv (w0 rfl) rfl rfl (pv_assign (v := (.bool false)) rfl rfl) ?_)
  refine rw_nil (hK4 _ _ ?_)
  refine hK2 _ _ ?_
  refine cw_seq fun K12 hK13 => ?_
  refine cw_seq fun K14 hK15 => ?_
  refine cw_region fun K16 hK17 => ?_
  refine rw_cons (op_pv (w0 rfl) rfl rfl (pv_move (v := (.slice Axs nxs cxs)) rfl rfl) ?_)
  refine rw_cons (op_call (w0 rfl) rfl rfl (rc_call C18 rfl rfl) (BeatsValid_s _ _ _ xs _ (hRxs.more (by omega)) (by omega)) ?_)
  rintro _ w18 ⟨rfl, hch19⟩
  have hsz20 := hch19.size
  replace hRxs := hRxs.ch0 hch19
  replace hB8 := hB8.ch0 hch19
  replace hc := hc.step0 hch19
  refine rw_cons (op_pv (w0 rfl) rfl rfl (pv_not rfl rfl) ?_)
  refine rw_cons (op_pv (w0 rfl) rfl rfl (pv_move (v := (.bool (!(dec (BeatsOK xs))))) rfl rfl) ?_)
  refine rw_split 13 rfl (fun hb21 => ?_) (fun hb21 => ?_)
  · -- yes
    replace hb21 := not_t hb21
    replace hb21 := dec_f hb21
    refine rw_cons (op_pass (w1n2 rfl rfl rfl rfl) rfl rfl ?_)
    refine rw_cons (op_pass (w1n2 rfl rfl rfl rfl) rfl rfl ?_)
    refine rw_cons (op_pass (w1n2 rfl rfl rfl rfl) rfl rfl ?_)
    refine rw_cons (op_pass (w1n2 rfl rfl rfl rfl) rfl rfl ?_)
    refine rw_cons (op_pv (w0 rfl) rfl rfl (pv_pickT (v := (.bool true)) rfl rfl rfl) ?_)
    refine rw_nil (hK17 _ _ ?_)
    refine hK15 _ _ ?_
    refine cw_cond rfl (fun h22 => ?_) (fun h22 => ?_)
    · -- then
      clear h22
      refine cw_seq fun K23 hK24 => ?_
      refine cw_region fun K25 hK26 => ?_
      refine rw_cons (op_bslice [] Try.underlying23 T39 (w0 rfl) rfl rfl rfl rfl rfl (by simp [Value.cells]) (by decide) ?_)
      intro g28 w27 hg31 hg32 hK30 hch29
      have hO33 : Own encB 2 w27 w18.heap.size 39 (.slice (some ⟨g28, 0, none⟩) 0 0) ([] : List Bt) := Blk.own (xs := ([] : List Bt)) hK30 (by omega) rfl (by decide) rfl
      have hsz34 := hch29.size
      replace hRxs := hRxs.ch0 hch29
      replace hB8 := hB8.ch0 hch29
      replace hc := hc.step0 hch29
      have hub35 := hO33.lt
      refine rw_cons (op_pv (w0 rfl) rfl rfl (pv_assign (v := (.slice (some ⟨g28, 0, none⟩) 0 0)) rfl rfl) ?_)
      refine rw_cons (op_pv (w0 rfl) rfl rfl (pv_assign (v := (.bool false)) rfl rfl) ?_)
      refine rw_nil (hK26 _ _ ?_)
      refine hK24 _ _ ?_
      refine cw_ret ?_
      refine fin2 rfl rfl ?_
      have hno : ¬ HearOK xs ⟨xS, xA⟩ := (by rintro ⟨h1, h2, h3⟩; have h2b : (1 ≤ xS ∧ xS ≤ 99) ∧ (0 ≤ xA ∧ xA ≤ 9999) := h2; first | contradiction | omega | exact absurd (beats_one.2 h2) (by assumption))
      have he_0 : ([] : List Bt) = hearV xs ⟨xS, xA⟩ := (hearV_no hno).symm
      exact ⟨_, _, tup2 (sl_as hO33 he_0) (bvf hno), own_as (hO33.less (by omega)) he_0, hc⟩
    · -- else
      cases h22
  · -- no
    replace hb21 := not_f hb21
    replace hb21 := dec_t hb21
    refine rw_cons (op_lv (w1y rfl rfl rfl rfl) rfl rfl (lv_loadN T39 rfl rfl rfl (fun j v hv => hB8.cellA hv)) ?_)
    refine rw_cons (op_bslice [(.agg #[(.int .i64 xS), (.int .i64 xA)])] Try.underlying23 T39 (w1y rfl rfl rfl rfl) rfl rfl rfl rfl rfl (by simp [Value.cells]) (by decide) ?_)
    intro g37 w36 hg40 hg41 hK39 hch38
    have hO42 : Own encB 2 w36 w18.heap.size 39 (.slice (some ⟨g37, 0, none⟩) 1 1) ([⟨xS, xA⟩] : List Bt) := Blk.own (xs := ([⟨xS, xA⟩] : List Bt)) hK39 (by omega) rfl (by decide) rfl
    have hsz43 := hch38.size
    replace hRxs := hRxs.ch0 hch38
    replace hB8 := hB8.ch0 hch38
    replace hc := hc.step0 hch38
    have hub44 := hO42.lt
    refine rw_cons (op_call (w1y rfl rfl rfl rfl) rfl rfl (rc_call C18 rfl rfl) (BeatsValid_s _ _ _ ([⟨xS, xA⟩] : List Bt) _ (hO42.rs (fun _ => rfl)) (by omega)) ?_)
    rintro _ w45 ⟨rfl, hch46⟩
    have hsz47 := hch46.size
    replace hRxs := hRxs.ch0 hch46
    replace hB8 := hB8.ch0 hch46
    replace hO42 := hO42.ch0 hch46
    replace hc := hc.step0 hch46
    refine rw_cons (op_pv (w1y rfl rfl rfl rfl) rfl rfl (pv_not rfl rfl) ?_)
    refine rw_cons (op_pv (w0 rfl) rfl rfl (pv_pickF (v := (.bool (!(dec (BeatsOK ([⟨xS, xA⟩] : List Bt)))))) rfl rfl rfl) ?_)
    refine rw_nil (hK17 _ _ ?_)
    refine hK15 _ _ ?_
    refine cw_cond rfl (fun h48 => ?_) (fun h48 => ?_)
    · -- then
      replace h48 := not_t h48
      replace h48 := dec_f h48
      refine cw_seq fun K49 hK50 => ?_
      refine cw_region fun K51 hK52 => ?_
      refine rw_cons (op_bslice [] Try.underlying23 T39 (w0 rfl) rfl rfl rfl rfl rfl (by simp [Value.cells]) (by decide) ?_)
      intro g54 w53 hg57 hg58 hK56 hch55
      have hO59 : Own encB 2 w53 w45.heap.size 39 (.slice (some ⟨g54, 0, none⟩) 0 0) ([] : List Bt) := Blk.own (xs := ([] : List Bt)) hK56 (by omega) rfl (by decide) rfl
      have hsz60 := hch55.size
      replace hRxs := hRxs.ch0 hch55
      replace hB8 := hB8.ch0 hch55
      replace hO42 := hO42.ch0 hch55
      replace hc := hc.step0 hch55
      have hub61 := hO59.lt
      refine rw_cons (op_pv (w0 rfl) rfl rfl (pv_assign (v := (.slice (some ⟨g54, 0, none⟩) 0 0)) rfl rfl) ?_)
      refine rw_cons (op_pv (w0 rfl) rfl rfl (pv_assign (v := (.bool false)) rfl rfl) ?_)
      refine rw_nil (hK52 _ _ ?_)
      refine hK50 _ _ ?_
      refine cw_ret ?_
      refine fin2 rfl rfl ?_
      have hno : ¬ HearOK xs ⟨xS, xA⟩ := (by rintro ⟨h1, h2, h3⟩; have h2b : (1 ≤ xS ∧ xS ≤ 99) ∧ (0 ≤ xA ∧ xA ≤ 9999) := h2; first | contradiction | omega | exact absurd (beats_one.2 h2) (by assumption))
      have he_0 : ([] : List Bt) = hearV xs ⟨xS, xA⟩ := (hearV_no hno).symm
      exact ⟨_, _, tup2 (sl_as hO59 he_0) (bvf hno), own_as (hO59.less (by omega)) he_0, hc⟩
    · -- else
      replace h48 := not_f h48
      replace h48 := dec_t h48
      refine cw_skip ?_
      refine hK13 _ _ ?_
      refine cw_seq fun K62 hK63 => ?_
      refine cw_region fun K64 hK65 => ?_
      refine rw_cons (op_bslice [] Try.underlying23 T39 (w0 rfl) rfl rfl rfl rfl rfl (by simp [Value.cells]) (by decide) ?_)
      intro g67 w66 hg70 hg71 hK69 hch68
      have hO72 : Own encB 2 w66 w45.heap.size 39 (.slice (some ⟨g67, 0, none⟩) 0 0) ([] : List Bt) := Blk.own (xs := ([] : List Bt)) hK69 (by omega) rfl (by decide) rfl
      have hsz73 := hch68.size
      replace hRxs := hRxs.ch0 hch68
      replace hB8 := hB8.ch0 hch68
      replace hO42 := hO42.ch0 hch68
      replace hc := hc.step0 hch68
      have hub74 := hO72.lt
      refine rw_cons (op_pv (w0 rfl) rfl rfl (pv_assign (v := (.slice (some ⟨g67, 0, none⟩) 0 0)) rfl rfl) ?_)
      refine rw_nil (hK65 _ _ ?_)
      refine hK63 _ _ ?_
      refine cw_seq fun K75 hK76 => ?_
      refine cw_region fun K77 hK78 => ?_
      refine rw_cons (op_pv (w0 rfl) rfl rfl (pv_assign (v := (.bool false)) rfl rfl) ?_)
      refine rw_nil (hK78 _ _ ?_)
      refine hK76 _ _ ?_
      refine cw_seq fun K79 hK80 => ?_
      refine cw_seq fun K81 hK82 => ?_
      have hx8 := (‹BeatsOK xs›).1
      refine cw_region fun K83 hK84 => ?_
      refine rw_cons (op_pv (w0 rfl) rfl rfl (pv_assign (v := (.int .i64 0)) rfl rfl) ?_)
      refine rw_nil (hK84 _ _ ?_)
      refine hK82 _ _ ?_
      refine cw_block ?_
      refine cw_loop (σ := Nat × (Option Addr) × Nat) (fun ⟨k, Ao, co⟩ => [(6, (.slice Ao ((hearS ⟨xS, xA⟩ (xs.take k)).2).length co)), (7, (.bool (hearS ⟨xS, xA⟩ (xs.take k)).1)), (8, (.int .i64 (k : Int))), (0, (.slice Axs nxs cxs)), (3, (.pointer (some (⟨g6, 0, none⟩)))), (4, (.slice none 0 0)), (5, (.bool false))]) (fun ⟨k, Ao, co⟩ W => (k ≤ nxs) ∧ RS encB 2 W w.heap.size Axs nxs xs ∧ Blk W g6 39 [(.int .i64 xS), (.int .i64 xA)] ∧ Own encB 2 W w18.heap.size 39 (.slice (some ⟨g37, 0, none⟩) 1 1) ([⟨xS, xA⟩] : List Bt) ∧ Own encB 2 W w.heap.size 39 (.slice Ao ((hearS ⟨xS, xA⟩ (xs.take k)).2).length co) ((hearS ⟨xS, xA⟩ (xs.take k)).2) ∧ Ch [] w W ∧ w18.heap.size ≤ W.heap.size ∧ (∀ s ∈ obl (.slice (some ⟨g37, 0, none⟩) 1 1), s ∉ obl (.slice Ao ((hearS ⟨xS, xA⟩ (xs.take k)).2).length co)) ∧ (∀ s ∈ obl (.slice Ao ((hearS ⟨xS, xA⟩ (xs.take k)).2).length co), s ≠ g6)) (fun ⟨k, Ao, co⟩ => nxs - k) (0, (some ⟨g67, 0, none⟩), 0) ?_ ?_ ?_
      · exact ⟨rfl, rfl, rfl, rfl, rfl, rfl, rfl, trivial⟩
      · refine ⟨Nat.zero_le _, hRxs, hB8, hO42, (hO72.less (by omega)), hc, (by omega), (fun s hs hs2 => by first | (have h1 := hO42.off s hs; have h2 := hub74 s hs2; omega) | (have h1 := hO72.off s hs; have h2 := hub44 s hs2; omega) | (have h1 := hub44 s hs; have h2 := hO72.off s hs2; omega) | (have h1 := hub74 s hs; have h2 := hO42.off s hs2; omega) | (simp [obl, Value.ownBlock] at hs; done) | (simp [obl, Value.ownBlock] at hs2; done)), (fun s hs => by first | (have h1 := hO42.off s hs; omega) | (have h1 := hO72.off s hs; omega) | (have h1 := hub44 s hs; omega) | (have h1 := hub74 s hs; omega) | (simp [obl, Value.ownBlock] at hs; done) | (simp [obl, Value.ownBlock] at hs; omega))⟩
      · rintro ⟨k, Ao, co⟩ J92 w85 ⟨hk, hRxs, hB8, hO42, hOut, hc, hmono86, hdj87, hdj88⟩ K89 hK90
        have hsz94 := hc.size
        have hub95 := hO42.lt
        have hubO := hOut.lt
        have hhs := hearS_le ⟨xS, xA⟩ (xs.take k); have htl : (xs.take k).length ≤ k := List.length_take_le _ _
        refine cw_seq fun K96 hK97 => ?_
        refine cw_seq fun K98 hK99 => ?_
        refine cw_region fun K100 hK101 => ?_
        refine rw_cons (op_pv (w0 rfl) rfl rfl (pv_move (v := (.int .i64 (k : Int))) rfl rfl) ?_)
        refine rw_cons (op_pv (w0 rfl) rfl rfl (pv_move (v := (.slice Axs nxs cxs)) rfl rfl) ?_)
        refine rw_cons (op_pv (w0 rfl) rfl rfl (pv_len Try.underlying23 rfl rfl) ?_)
        refine rw_cons (op_pv (w0 rfl) rfl rfl (pv_lss rfl rfl rfl) ?_)
        refine rw_nil (hK101 _ _ ?_)
        refine hK99 _ _ ?_
        refine cw_cond rfl (fun h102 => ?_) (fun h102 => ?_)
        · -- then
          replace h102 := of_decide_eq_true h102
          refine cw_skip ?_
          refine hK97 _ _ ?_
          refine cw_seq fun K103 hK104 => ?_
          refine cw_block ?_
          refine cw_seq fun K105 hK106 => ?_
          refine cw_region fun K107 hK108 => ?_
          refine rw_cons (op_pv (w0 rfl) rfl rfl (pv_move (v := (.slice Axs nxs cxs)) rfl rfl) ?_)
          refine rw_cons (op_pv (w0 rfl) rfl rfl (pv_move (v := (.int .i64 (k : Int))) rfl rfl) ?_)
          refine rw_cons (op_pv (w0 rfl) rfl rfl (pv_idx Try.underlying23 T39 rfl rfl rfl (hRxs.some (k := k) (by omega)) (by omega) (by omega)) ?_)
          refine rw_cons (op_lv (w0 rfl) rfl rfl (lv_loadN T39 rfl rfl rfl (fun j v hv => hRxs.cellE (k := k) (by omega) hv)) ?_)
          refine rw_cons (op_alloc T39 (w0 rfl) rfl rfl rfl ?_)
          rintro g110 w109 hg113 hg114 hB112 hch111
          have hsz115 := hch111.size
          replace hRxs := hRxs.ch0 hch111
          replace hB8 := hB8.ch0 hch111
          replace hO42 := hO42.ch0 hch111
          replace hOut := hOut.ch0 hch111
          replace hc := hc.step0 hch111
          replace hB112 : Blk w109 g110 39 [(.int .i64 0), (.int .i64 0)] := hB112
          have hdj116 : ∀ s ∈ obl (.slice (some ⟨g37, 0, none⟩) 1 1), s ≠ g110 := fun s hs => by have := hub95 s hs; omega
          have hdj117 : ∀ s ∈ obl (.slice Ao ((hearS ⟨xS, xA⟩ (xs.take k)).2).length co), s ≠ g110 := fun s hs => by have := hubO s hs; omega
          refine rw_cons (op_store_blk T39 hB112 (w0 rfl) rfl rfl rfl rfl rfl (one_all rfl) (Nat.le_of_ble_eq_true rfl) ?_)
          rintro w118 hB120 hch119
          have hsz121 := hch119.size
          replace hRxs := hRxs.ch hch119 (off1 (by omega))
          replace hB8 := hB8.ch hch119 (by simp; omega)
          replace hO42 := hO42.ch hch119 (fun s hs => by have := dj_asg hdj116 s hs; simpa using this)
          replace hOut := hOut.ch hch119 (fun s hs => by have := dj_asg hdj117 s hs; simpa using this)
          replace hc := (off1 (by omega)).step hc hch119
          replace hB112 : Blk w118 g110 39 [(.int .i64 (el xs k).s), (.int .i64 (el xs k).a)] := hB120
          clear hB120
          refine rw_nil (hK108 _ _ ?_)
          refine hK106 _ _ ?_
          refine cw_seq fun K122 hK123 => ?_
          refine cw_seq fun K124 hK125 => ?_
          refine cw_region fun K126 hK127 => ?_
          refine rw_cons (op_pv (w0 rfl) rfl rfl (pv_fld F39_0 rfl rfl) ?_)
          refine rw_cons (op_lv (w0 rfl) rfl rfl (lv_load T3 rfl rfl (hB112.cellA (i := 0) rfl)) ?_)
          refine rw_cons (op_pv (w0 rfl) rfl rfl (pv_fld F39_0 rfl rfl) ?_)
          refine rw_cons (op_lv (w0 rfl) rfl rfl (lv_load T3 rfl rfl (hB8.cellA (i := 0) rfl)) ?_)
          refine rw_cons (op_pv (w0 rfl) rfl rfl (pv_eql rfl rfl rfl) ?_)
          refine rw_nil (hK127 _ _ ?_)
          refine hK125 _ _ ?_
          refine cw_cond rfl (fun h128 => ?_) (fun h128 => ?_)
          · -- then
            replace h128 := of_decide_eq_true h128
            refine cw_seq fun K129 hK130 => ?_
            refine cw_region fun K131 hK132 => ?_
            refine rw_cons (op_pv (w0 rfl) rfl rfl (pv_fld F39_1 rfl rfl) ?_)
            refine rw_cons (op_lv (w0 rfl) rfl rfl (lv_load T3 rfl rfl (hB112.cellA (i := 1) rfl)) ?_)
            refine rw_cons (op_pv (w0 rfl) rfl rfl (pv_fld F39_1 rfl rfl) ?_)
            refine rw_cons (op_lv (w0 rfl) rfl rfl (lv_load T3 rfl rfl (hB8.cellA (i := 1) rfl)) ?_)
            refine rw_cons (op_pv (w0 rfl) rfl rfl (pv_max rfl rfl rfl) ?_)
            refine rw_cons (op_pv (w0 rfl) rfl rfl (pv_fld F39_1 rfl rfl) ?_)
            refine rw_cons (op_store_blk T3 hB112 (w0 rfl) rfl rfl rfl rfl rfl (one_all rfl) (Nat.le_of_ble_eq_true rfl) ?_)
            rintro w133 hB135 hch134
            have hsz136 := hch134.size
            replace hRxs := hRxs.ch hch134 (off1 (by omega))
            replace hB8 := hB8.ch hch134 (by simp; omega)
            replace hO42 := hO42.ch hch134 (fun s hs => by have := dj_asg hdj116 s hs; simpa using this)
            replace hOut := hOut.ch hch134 (fun s hs => by have := dj_asg hdj117 s hs; simpa using this)
            replace hc := (off1 (by omega)).step hc hch134
            replace hB112 : Blk w133 g110 39 [(.int .i64 (el xs k).s), (.int .i64 (max (el xs k).a xA))] := hB135
            clear hB135
            refine rw_nil (hK132 _ _ ?_)
            refine hK130 _ _ ?_
            refine cw_region fun K137 hK138 => ?_
            refine rw_cons (op_pv (w0 rfl) rfl rfl (pv_assign (v := (.bool true)) rfl rfl) ?_)
            refine rw_nil (hK138 _ _ ?_)
            refine hK123 _ _ ?_
            refine cw_region fun K139 hK140 => ?_
            refine rw_cons (op_pv (w0 rfl) rfl rfl (pv_move (v := (.slice Ao ((hearS ⟨xS, xA⟩ (xs.take k)).2).length co)) rfl rfl) ?_)
            refine rw_cons (op_lv (w0 rfl) rfl rfl (lv_loadN T39 rfl rfl rfl (fun j v hv => hB112.cellA hv)) ?_)
            refine rw_cons (op_bslice [(.agg #[(.int .i64 (el xs k).s), (.int .i64 (max (el xs k).a xA))])] Try.underlying23 T39 (w0 rfl) rfl rfl rfl rfl rfl (by simp [Value.cells]) (by decide) ?_)
            intro g142 w141 hg145 hg146 hK144 hch143
            have hO147 : Own encB 2 w141 w133.heap.size 39 (.slice (some ⟨g142, 0, none⟩) 1 1) ([⟨(el xs k).s, max (el xs k).a xA⟩] : List Bt) := Blk.own (xs := ([⟨(el xs k).s, max (el xs k).a xA⟩] : List Bt)) hK144 (by omega) rfl (by decide) rfl
            have hsz148 := hch143.size
            replace hRxs := hRxs.ch0 hch143
            replace hB8 := hB8.ch0 hch143
            replace hO42 := hO42.ch0 hch143
            replace hOut := hOut.ch0 hch143
            replace hB112 := hB112.ch0 hch143
            replace hc := hc.step0 hch143
            have hub149 := hO147.lt
            refine rw_cons (op_append Try.underlying23 T39 (fun _ => rfl) rfl (by decide) (fun _ => one_all rfl) (w0 rfl) rfl rfl rfl rfl rfl hOut (hO147.rs (fun _ => rfl)) (by unfold maxLen; first | omega | (simp; omega)) (by first | omega | (simp; omega)) (by omega) ?_)
            rintro v150 w151 hO152 hch153 hs154
            have hl155 : (((hearS ⟨xS, xA⟩ (xs.take k)).2) ++ ([⟨(el xs k).s, max (el xs k).a xA⟩] : List Bt)).length = ((hearS ⟨xS, xA⟩ (xs.take k)).2).length + 1 := by first | (have hl0 := (hO147.rs (fun _ => rfl)).len; omega) | (have hl0 := (hO147.rs (fun _ => rfl)).len; simp only [List.length_append, List.length_cons, List.length_nil] at hl0 ⊢; omega) | simp | rfl
            clear hO147
            have hgl158 := hB8.lt
            have hgl160 := hB112.lt
            have hsz161 := hch153.size
            replace hRxs := hRxs.ch hch153 (hOut.off.le (by omega))
            replace hB8 := hB8.ch hch153 (fun hs => dj_asg hdj88 _ hs rfl)
            replace hO42 := hO42.ch hch153 (dj_as hdj87)
            replace hB112 := hB112.ch hch153 (fun hs => dj_asg hdj117 _ hs rfl)
            replace hc := (hOut.off.le (by omega)).step hc hch153
            have hub162 := hO152.lt
            obtain ⟨A163, c164, hv165, hcap166, hcap167⟩ := hO152.form; subst hv165
            have hdj156 : ∀ s ∈ obl (.slice A163 (((hearS ⟨xS, xA⟩ (xs.take k)).2) ++ ([⟨(el xs k).s, max (el xs k).a xA⟩] : List Bt)).length c164), s ∉ obl (.slice (some ⟨g37, 0, none⟩) 1 1) := dj_new hs154 (dj_sw hdj87) (fun s hs => by have := hub95 s hs; omega)
            have hdj157 : ∀ s ∈ obl (.slice A163 (((hearS ⟨xS, xA⟩ (xs.take k)).2) ++ ([⟨(el xs k).s, max (el xs k).a xA⟩] : List Bt)).length c164), s ≠ g6 := dj_newg hs154 (dj_asg hdj88) (by omega)
            have hdj159 : ∀ s ∈ obl (.slice A163 (((hearS ⟨xS, xA⟩ (xs.take k)).2) ++ ([⟨(el xs k).s, max (el xs k).a xA⟩] : List Bt)).length c164), s ≠ g110 := dj_newg hs154 (dj_asg hdj117) (by omega)
            refine rw_cons (op_pv (w0 rfl) rfl rfl (pv_assign (v := (.slice A163 (((hearS ⟨xS, xA⟩ (xs.take k)).2) ++ ([⟨(el xs k).s, max (el xs k).a xA⟩] : List Bt)).length c164)) rfl rfl) ?_)
            refine rw_nil (hK140 _ _ ?_)
            refine hK104 _ _ ?_
            refine cw_region fun K168 hK169 => ?_
            refine rw_cons (op_pv (w0 rfl) rfl rfl (pv_move (v := (.int .i64 (k : Int))) rfl rfl) ?_)
            refine rw_cons (op_pv (w0 rfl) rfl rfl (pv_add rfl rfl rfl (by omega) (by omega)) ?_)
            refine rw_cons (op_pv (w0 rfl) rfl rfl (pv_assign (v := (.int .i64 ((k : Int) + 1))) rfl rfl) ?_)
            refine rw_nil (hK169 _ _ ?_)
            have hEQ170 : (((hearS ⟨xS, xA⟩ (xs.take k)).2) ++ ([⟨(el xs k).s, max (el xs k).a xA⟩] : List Bt)) = (hearS ⟨xS, xA⟩ (xs.take (k + 1))).2 := by rw [hearA (x := ⟨xS, xA⟩) (xs := xs) (k := k) (by omega) (by show (el xs k).s = xS; omega)]
            have hO171 := own_as hO152 hEQ170
            refine hK90 _ _ (k + 1, A163, c164) ⟨(sl_as hO152 hEQ170), (bv (show true = (hearS ⟨xS, xA⟩ (xs.take (k + 1))).1 by rw [hearA (x := ⟨xS, xA⟩) (xs := xs) (k := k) (by omega) (by show (el xs k).s = xS; omega)])), (iv (by omega)), rfl, rfl, rfl, rfl, trivial⟩ ⟨?_, hRxs, hB8, hO42, hO171, hc, (by omega), (dj_sw hdj156), (dj_asg hdj157)⟩ ?_
            · omega
            · (first | omega | (simp only []; omega))
          · -- else
            replace h128 := of_decide_eq_false h128
            refine cw_seq fun K172 hK173 => ?_
            refine cw_region fun K174 hK175 => ?_
            refine rw_cons (op_pv (w0 rfl) rfl rfl (pv_move (v := (.bool (hearS ⟨xS, xA⟩ (xs.take k)).1)) rfl rfl) ?_)
            refine rw_cons (op_pv (w0 rfl) rfl rfl (pv_not rfl rfl) ?_)
            refine rw_cons (op_pv (w0 rfl) rfl rfl (pv_move (v := (.bool (!(hearS ⟨xS, xA⟩ (xs.take k)).1))) rfl rfl) ?_)
            refine rw_split 44 rfl (fun hb176 => ?_) (fun hb176 => ?_)
            · -- yes
              replace hb176 := not_t hb176
              refine rw_cons (op_pv (w1y rfl rfl rfl rfl) rfl rfl (pv_fld F39_0 rfl rfl) ?_)
              refine rw_cons (op_lv (w1y rfl rfl rfl rfl) rfl rfl (lv_load T3 rfl rfl (hB112.cellA (i := 0) rfl)) ?_)
              refine rw_cons (op_pv (w1y rfl rfl rfl rfl) rfl rfl (pv_fld F39_0 rfl rfl) ?_)
              refine rw_cons (op_lv (w1y rfl rfl rfl rfl) rfl rfl (lv_load T3 rfl rfl (hB8.cellA (i := 0) rfl)) ?_)
              refine rw_cons (op_pv (w1y rfl rfl rfl rfl) rfl rfl (pv_gtr rfl rfl rfl) ?_)
              refine rw_cons (op_pv (w0 rfl) rfl rfl (pv_pickT (v := (.bool (decide (xS < (el xs k).s)))) rfl rfl rfl) ?_)
              refine rw_nil (hK175 _ _ ?_)
              refine hK173 _ _ ?_
              refine cw_cond rfl (fun h177 => ?_) (fun h177 => ?_)
              · -- then
                replace h177 := of_decide_eq_true h177
                refine cw_seq fun K178 hK179 => ?_
                refine cw_region fun K180 hK181 => ?_
                refine rw_cons (op_pv (w0 rfl) rfl rfl (pv_move (v := (.slice Ao ((hearS ⟨xS, xA⟩ (xs.take k)).2).length co)) rfl rfl) ?_)
                refine rw_cons (op_lv (w0 rfl) rfl rfl (lv_loadN T39 rfl rfl rfl (fun j v hv => hB8.cellA hv)) ?_)
                refine rw_cons (op_bslice [(.agg #[(.int .i64 xS), (.int .i64 xA)])] Try.underlying23 T39 (w0 rfl) rfl rfl rfl rfl rfl (by simp [Value.cells]) (by decide) ?_)
                intro g183 w182 hg186 hg187 hK185 hch184
                have hO188 : Own encB 2 w182 w118.heap.size 39 (.slice (some ⟨g183, 0, none⟩) 1 1) ([⟨xS, xA⟩] : List Bt) := Blk.own (xs := ([⟨xS, xA⟩] : List Bt)) hK185 (by omega) rfl (by decide) rfl
                have hsz189 := hch184.size
                replace hRxs := hRxs.ch0 hch184
                replace hB8 := hB8.ch0 hch184
                replace hO42 := hO42.ch0 hch184
                replace hOut := hOut.ch0 hch184
                replace hB112 := hB112.ch0 hch184
                replace hc := hc.step0 hch184
                have hub190 := hO188.lt
                refine rw_cons (op_append Try.underlying23 T39 (fun _ => rfl) rfl (by decide) (fun _ => one_all rfl) (w0 rfl) rfl rfl rfl rfl rfl hOut (hO188.rs (fun _ => rfl)) (by unfold maxLen; first | omega | (simp; omega)) (by first | omega | (simp; omega)) (by omega) ?_)
                rintro v191 w192 hO193 hch194 hs195
                have hl196 : (((hearS ⟨xS, xA⟩ (xs.take k)).2) ++ ([⟨xS, xA⟩] : List Bt)).length = ((hearS ⟨xS, xA⟩ (xs.take k)).2).length + 1 := by first | (have hl0 := (hO188.rs (fun _ => rfl)).len; omega) | (have hl0 := (hO188.rs (fun _ => rfl)).len; simp only [List.length_append, List.length_cons, List.length_nil] at hl0 ⊢; omega) | simp | rfl
                clear hO188
                have hgl199 := hB8.lt
                have hgl201 := hB112.lt
                have hsz202 := hch194.size
                replace hRxs := hRxs.ch hch194 (hOut.off.le (by omega))
                replace hB8 := hB8.ch hch194 (fun hs => dj_asg hdj88 _ hs rfl)
                replace hO42 := hO42.ch hch194 (dj_as hdj87)
                replace hB112 := hB112.ch hch194 (fun hs => dj_asg hdj117 _ hs rfl)
                replace hc := (hOut.off.le (by omega)).step hc hch194
                have hub203 := hO193.lt
                obtain ⟨A204, c205, hv206, hcap207, hcap208⟩ := hO193.form; subst hv206
                have hdj197 : ∀ s ∈ obl (.slice A204 (((hearS ⟨xS, xA⟩ (xs.take k)).2) ++ ([⟨xS, xA⟩] : List Bt)).length c205), s ∉ obl (.slice (some ⟨g37, 0, none⟩) 1 1) := dj_new hs195 (dj_sw hdj87) (fun s hs => by have := hub95 s hs; omega)
                have hdj198 : ∀ s ∈ obl (.slice A204 (((hearS ⟨xS, xA⟩ (xs.take k)).2) ++ ([⟨xS, xA⟩] : List Bt)).length c205), s ≠ g6 := dj_newg hs195 (dj_asg hdj88) (by omega)
                have hdj200 : ∀ s ∈ obl (.slice A204 (((hearS ⟨xS, xA⟩ (xs.take k)).2) ++ ([⟨xS, xA⟩] : List Bt)).length c205), s ≠ g110 := dj_newg hs195 (dj_asg hdj117) (by omega)
                refine rw_cons (op_pv (w0 rfl) rfl rfl (pv_assign (v := (.slice A204 (((hearS ⟨xS, xA⟩ (xs.take k)).2) ++ ([⟨xS, xA⟩] : List Bt)).length c205)) rfl rfl) ?_)
                refine rw_nil (hK181 _ _ ?_)
                refine hK179 _ _ ?_
                refine cw_region fun K209 hK210 => ?_
                refine rw_cons (op_pv (w0 rfl) rfl rfl (pv_assign (v := (.bool true)) rfl rfl) ?_)
                refine rw_nil (hK210 _ _ ?_)
                refine hK123 _ _ ?_
                refine cw_region fun K211 hK212 => ?_
                refine rw_cons (op_pv (w0 rfl) rfl rfl (pv_move (v := (.slice A204 (((hearS ⟨xS, xA⟩ (xs.take k)).2) ++ ([⟨xS, xA⟩] : List Bt)).length c205)) rfl rfl) ?_)
                refine rw_cons (op_lv (w0 rfl) rfl rfl (lv_loadN T39 rfl rfl rfl (fun j v hv => hB112.cellA hv)) ?_)
                refine rw_cons (op_bslice [(.agg #[(.int .i64 (el xs k).s), (.int .i64 (el xs k).a)])] Try.underlying23 T39 (w0 rfl) rfl rfl rfl rfl rfl (by simp [Value.cells]) (by decide) ?_)
                intro g214 w213 hg217 hg218 hK216 hch215
                have hO219 : Own encB 2 w213 w192.heap.size 39 (.slice (some ⟨g214, 0, none⟩) 1 1) ([⟨(el xs k).s, (el xs k).a⟩] : List Bt) := Blk.own (xs := ([⟨(el xs k).s, (el xs k).a⟩] : List Bt)) hK216 (by omega) rfl (by decide) rfl
                have hsz220 := hch215.size
                replace hRxs := hRxs.ch0 hch215
                replace hB8 := hB8.ch0 hch215
                replace hO42 := hO42.ch0 hch215
                replace hB112 := hB112.ch0 hch215
                replace hO193 := hO193.ch0 hch215
                replace hc := hc.step0 hch215
                have hub221 := hO219.lt
                refine rw_cons (op_append Try.underlying23 T39 (fun _ => rfl) rfl (by decide) (fun _ => one_all rfl) (w0 rfl) rfl rfl rfl rfl rfl hO193 (hO219.rs (fun _ => rfl)) (by unfold maxLen; first | omega | (simp; omega)) (by first | omega | (simp; omega)) (by omega) ?_)
                rintro v222 w223 hO224 hch225 hs226
                have hl227 : ((((hearS ⟨xS, xA⟩ (xs.take k)).2) ++ ([⟨xS, xA⟩] : List Bt)) ++ ([⟨(el xs k).s, (el xs k).a⟩] : List Bt)).length = (((hearS ⟨xS, xA⟩ (xs.take k)).2) ++ ([⟨xS, xA⟩] : List Bt)).length + 1 := by first | (have hl0 := (hO219.rs (fun _ => rfl)).len; omega) | (have hl0 := (hO219.rs (fun _ => rfl)).len; simp only [List.length_append, List.length_cons, List.length_nil] at hl0 ⊢; omega) | simp | rfl
                clear hO219
                have hgl230 := hB8.lt
                have hgl232 := hB112.lt
                have hsz233 := hch225.size
                replace hRxs := hRxs.ch hch225 (hO193.off.le (by omega))
                replace hB8 := hB8.ch hch225 (fun hs => dj_asg hdj198 _ hs rfl)
                replace hO42 := hO42.ch hch225 (dj_sw hdj197)
                replace hB112 := hB112.ch hch225 (fun hs => dj_asg hdj200 _ hs rfl)
                replace hc := (hO193.off.le (by omega)).step hc hch225
                have hub234 := hO224.lt
                obtain ⟨A235, c236, hv237, hcap238, hcap239⟩ := hO224.form; subst hv237
                have hdj228 : ∀ s ∈ obl (.slice A235 ((((hearS ⟨xS, xA⟩ (xs.take k)).2) ++ ([⟨xS, xA⟩] : List Bt)) ++ ([⟨(el xs k).s, (el xs k).a⟩] : List Bt)).length c236), s ∉ obl (.slice (some ⟨g37, 0, none⟩) 1 1) := dj_new hs226 (dj_as hdj197) (fun s hs => by have := hub95 s hs; omega)
                have hdj229 : ∀ s ∈ obl (.slice A235 ((((hearS ⟨xS, xA⟩ (xs.take k)).2) ++ ([⟨xS, xA⟩] : List Bt)) ++ ([⟨(el xs k).s, (el xs k).a⟩] : List Bt)).length c236), s ≠ g6 := dj_newg hs226 (dj_asg hdj198) (by omega)
                have hdj231 : ∀ s ∈ obl (.slice A235 ((((hearS ⟨xS, xA⟩ (xs.take k)).2) ++ ([⟨xS, xA⟩] : List Bt)) ++ ([⟨(el xs k).s, (el xs k).a⟩] : List Bt)).length c236), s ≠ g110 := dj_newg hs226 (dj_asg hdj200) (by omega)
                refine rw_cons (op_pv (w0 rfl) rfl rfl (pv_assign (v := (.slice A235 ((((hearS ⟨xS, xA⟩ (xs.take k)).2) ++ ([⟨xS, xA⟩] : List Bt)) ++ ([⟨(el xs k).s, (el xs k).a⟩] : List Bt)).length c236)) rfl rfl) ?_)
                refine rw_nil (hK212 _ _ ?_)
                refine hK104 _ _ ?_
                refine cw_region fun K240 hK241 => ?_
                refine rw_cons (op_pv (w0 rfl) rfl rfl (pv_move (v := (.int .i64 (k : Int))) rfl rfl) ?_)
                refine rw_cons (op_pv (w0 rfl) rfl rfl (pv_add rfl rfl rfl (by omega) (by omega)) ?_)
                refine rw_cons (op_pv (w0 rfl) rfl rfl (pv_assign (v := (.int .i64 ((k : Int) + 1))) rfl rfl) ?_)
                refine rw_nil (hK241 _ _ ?_)
                have hEQ242 : ((((hearS ⟨xS, xA⟩ (xs.take k)).2) ++ ([⟨xS, xA⟩] : List Bt)) ++ ([⟨(el xs k).s, (el xs k).a⟩] : List Bt)) = (hearS ⟨xS, xA⟩ (xs.take (k + 1))).2 := by rw [hearB (x := ⟨xS, xA⟩) (xs := xs) (k := k) (by omega) (by show ¬(el xs k).s = xS; omega) (by assumption) (by show xS < (el xs k).s; omega)]
                have hO243 := own_as hO224 hEQ242
                refine hK90 _ _ (k + 1, A235, c236) ⟨(sl_as hO224 hEQ242), (bv (show true = (hearS ⟨xS, xA⟩ (xs.take (k + 1))).1 by rw [hearB (x := ⟨xS, xA⟩) (xs := xs) (k := k) (by omega) (by show ¬(el xs k).s = xS; omega) (by assumption) (by show xS < (el xs k).s; omega)])), (iv (by omega)), rfl, rfl, rfl, rfl, trivial⟩ ⟨?_, hRxs, hB8, hO42, hO243, hc, (by omega), (dj_sw hdj228), (dj_asg hdj229)⟩ ?_
                · omega
                · (first | omega | (simp only []; omega))
              · -- else
                replace h177 := of_decide_eq_false h177
                refine cw_skip ?_
                refine hK123 _ _ ?_
                refine cw_region fun K244 hK245 => ?_
                refine rw_cons (op_pv (w0 rfl) rfl rfl (pv_move (v := (.slice Ao ((hearS ⟨xS, xA⟩ (xs.take k)).2).length co)) rfl rfl) ?_)
                refine rw_cons (op_lv (w0 rfl) rfl rfl (lv_loadN T39 rfl rfl rfl (fun j v hv => hB112.cellA hv)) ?_)
                refine rw_cons (op_bslice [(.agg #[(.int .i64 (el xs k).s), (.int .i64 (el xs k).a)])] Try.underlying23 T39 (w0 rfl) rfl rfl rfl rfl rfl (by simp [Value.cells]) (by decide) ?_)
                intro g247 w246 hg250 hg251 hK249 hch248
                have hO252 : Own encB 2 w246 w118.heap.size 39 (.slice (some ⟨g247, 0, none⟩) 1 1) ([⟨(el xs k).s, (el xs k).a⟩] : List Bt) := Blk.own (xs := ([⟨(el xs k).s, (el xs k).a⟩] : List Bt)) hK249 (by omega) rfl (by decide) rfl
                have hsz253 := hch248.size
                replace hRxs := hRxs.ch0 hch248
                replace hB8 := hB8.ch0 hch248
                replace hO42 := hO42.ch0 hch248
                replace hOut := hOut.ch0 hch248
                replace hB112 := hB112.ch0 hch248
                replace hc := hc.step0 hch248
                have hub254 := hO252.lt
                refine rw_cons (op_append Try.underlying23 T39 (fun _ => rfl) rfl (by decide) (fun _ => one_all rfl) (w0 rfl) rfl rfl rfl rfl rfl hOut (hO252.rs (fun _ => rfl)) (by unfold maxLen; first | omega | (simp; omega)) (by first | omega | (simp; omega)) (by omega) ?_)
                rintro v255 w256 hO257 hch258 hs259
                have hl260 : (((hearS ⟨xS, xA⟩ (xs.take k)).2) ++ ([⟨(el xs k).s, (el xs k).a⟩] : List Bt)).length = ((hearS ⟨xS, xA⟩ (xs.take k)).2).length + 1 := by first | (have hl0 := (hO252.rs (fun _ => rfl)).len; omega) | (have hl0 := (hO252.rs (fun _ => rfl)).len; simp only [List.length_append, List.length_cons, List.length_nil] at hl0 ⊢; omega) | simp | rfl
                clear hO252
                have hgl263 := hB8.lt
                have hgl265 := hB112.lt
                have hsz266 := hch258.size
                replace hRxs := hRxs.ch hch258 (hOut.off.le (by omega))
                replace hB8 := hB8.ch hch258 (fun hs => dj_asg hdj88 _ hs rfl)
                replace hO42 := hO42.ch hch258 (dj_as hdj87)
                replace hB112 := hB112.ch hch258 (fun hs => dj_asg hdj117 _ hs rfl)
                replace hc := (hOut.off.le (by omega)).step hc hch258
                have hub267 := hO257.lt
                obtain ⟨A268, c269, hv270, hcap271, hcap272⟩ := hO257.form; subst hv270
                have hdj261 : ∀ s ∈ obl (.slice A268 (((hearS ⟨xS, xA⟩ (xs.take k)).2) ++ ([⟨(el xs k).s, (el xs k).a⟩] : List Bt)).length c269), s ∉ obl (.slice (some ⟨g37, 0, none⟩) 1 1) := dj_new hs259 (dj_sw hdj87) (fun s hs => by have := hub95 s hs; omega)
                have hdj262 : ∀ s ∈ obl (.slice A268 (((hearS ⟨xS, xA⟩ (xs.take k)).2) ++ ([⟨(el xs k).s, (el xs k).a⟩] : List Bt)).length c269), s ≠ g6 := dj_newg hs259 (dj_asg hdj88) (by omega)
                have hdj264 : ∀ s ∈ obl (.slice A268 (((hearS ⟨xS, xA⟩ (xs.take k)).2) ++ ([⟨(el xs k).s, (el xs k).a⟩] : List Bt)).length c269), s ≠ g110 := dj_newg hs259 (dj_asg hdj117) (by omega)
                refine rw_cons (op_pv (w0 rfl) rfl rfl (pv_assign (v := (.slice A268 (((hearS ⟨xS, xA⟩ (xs.take k)).2) ++ ([⟨(el xs k).s, (el xs k).a⟩] : List Bt)).length c269)) rfl rfl) ?_)
                refine rw_nil (hK245 _ _ ?_)
                refine hK104 _ _ ?_
                refine cw_region fun K273 hK274 => ?_
                refine rw_cons (op_pv (w0 rfl) rfl rfl (pv_move (v := (.int .i64 (k : Int))) rfl rfl) ?_)
                refine rw_cons (op_pv (w0 rfl) rfl rfl (pv_add rfl rfl rfl (by omega) (by omega)) ?_)
                refine rw_cons (op_pv (w0 rfl) rfl rfl (pv_assign (v := (.int .i64 ((k : Int) + 1))) rfl rfl) ?_)
                refine rw_nil (hK274 _ _ ?_)
                have hEQ275 : (((hearS ⟨xS, xA⟩ (xs.take k)).2) ++ ([⟨(el xs k).s, (el xs k).a⟩] : List Bt)) = (hearS ⟨xS, xA⟩ (xs.take (k + 1))).2 := by rw [hearC (x := ⟨xS, xA⟩) (xs := xs) (k := k) (by omega) (by show ¬(el xs k).s = xS; omega) (by rintro ⟨h8, h9⟩; first | (have h7 : xS < (el xs k).s := h9; omega) | (rw [h8] at *; contradiction) | simp_all)]
                have hO276 := own_as hO257 hEQ275
                refine hK90 _ _ (k + 1, A268, c269) ⟨(sl_as hO257 hEQ275), (bv (show (hearS ⟨xS, xA⟩ (xs.take k)).1 = (hearS ⟨xS, xA⟩ (xs.take (k + 1))).1 by rw [hearC (x := ⟨xS, xA⟩) (xs := xs) (k := k) (by omega) (by show ¬(el xs k).s = xS; omega) (by rintro ⟨h8, h9⟩; first | (have h7 : xS < (el xs k).s := h9; omega) | (rw [h8] at *; contradiction) | simp_all)])), (iv (by omega)), rfl, rfl, rfl, rfl, trivial⟩ ⟨?_, hRxs, hB8, hO42, hO276, hc, (by omega), (dj_sw hdj261), (dj_asg hdj262)⟩ ?_
                · omega
                · (first | omega | (simp only []; omega))
            · -- no
              replace hb176 := not_f hb176
              refine rw_cons (op_pass (w1n1 rfl rfl rfl rfl) rfl rfl ?_)
              refine rw_cons (op_pass (w1n1 rfl rfl rfl rfl) rfl rfl ?_)
              refine rw_cons (op_pass (w1n1 rfl rfl rfl rfl) rfl rfl ?_)
              refine rw_cons (op_pass (w1n1 rfl rfl rfl rfl) rfl rfl ?_)
              refine rw_cons (op_pass (w1n1 rfl rfl rfl rfl) rfl rfl ?_)
              refine rw_cons (op_pv (w0 rfl) rfl rfl (pv_pickF (v := (.bool false)) rfl rfl rfl) ?_)
              refine rw_nil (hK175 _ _ ?_)
              refine hK173 _ _ ?_
              refine cw_cond rfl (fun h277 => ?_) (fun h277 => ?_)
              · -- then
                cases h277
              · -- else
                clear h277
                refine cw_skip ?_
                refine hK123 _ _ ?_
                refine cw_region fun K278 hK279 => ?_
                refine rw_cons (op_pv (w0 rfl) rfl rfl (pv_move (v := (.slice Ao ((hearS ⟨xS, xA⟩ (xs.take k)).2).length co)) rfl rfl) ?_)
                refine rw_cons (op_lv (w0 rfl) rfl rfl (lv_loadN T39 rfl rfl rfl (fun j v hv => hB112.cellA hv)) ?_)
                refine rw_cons (op_bslice [(.agg #[(.int .i64 (el xs k).s), (.int .i64 (el xs k).a)])] Try.underlying23 T39 (w0 rfl) rfl rfl rfl rfl rfl (by simp [Value.cells]) (by decide) ?_)
                intro g281 w280 hg284 hg285 hK283 hch282
                have hO286 : Own encB 2 w280 w118.heap.size 39 (.slice (some ⟨g281, 0, none⟩) 1 1) ([⟨(el xs k).s, (el xs k).a⟩] : List Bt) := Blk.own (xs := ([⟨(el xs k).s, (el xs k).a⟩] : List Bt)) hK283 (by omega) rfl (by decide) rfl
                have hsz287 := hch282.size
                replace hRxs := hRxs.ch0 hch282
                replace hB8 := hB8.ch0 hch282
                replace hO42 := hO42.ch0 hch282
                replace hOut := hOut.ch0 hch282
                replace hB112 := hB112.ch0 hch282
                replace hc := hc.step0 hch282
                have hub288 := hO286.lt
                refine rw_cons (op_append Try.underlying23 T39 (fun _ => rfl) rfl (by decide) (fun _ => one_all rfl) (w0 rfl) rfl rfl rfl rfl rfl hOut (hO286.rs (fun _ => rfl)) (by unfold maxLen; first | omega | (simp; omega)) (by first | omega | (simp; omega)) (by omega) ?_)
                rintro v289 w290 hO291 hch292 hs293
                have hl294 : (((hearS ⟨xS, xA⟩ (xs.take k)).2) ++ ([⟨(el xs k).s, (el xs k).a⟩] : List Bt)).length = ((hearS ⟨xS, xA⟩ (xs.take k)).2).length + 1 := by first | (have hl0 := (hO286.rs (fun _ => rfl)).len; omega) | (have hl0 := (hO286.rs (fun _ => rfl)).len; simp only [List.length_append, List.length_cons, List.length_nil] at hl0 ⊢; omega) | simp | rfl
                clear hO286
                have hgl297 := hB8.lt
                have hgl299 := hB112.lt
                have hsz300 := hch292.size
                replace hRxs := hRxs.ch hch292 (hOut.off.le (by omega))
                replace hB8 := hB8.ch hch292 (fun hs => dj_asg hdj88 _ hs rfl)
                replace hO42 := hO42.ch hch292 (dj_as hdj87)
                replace hB112 := hB112.ch hch292 (fun hs => dj_asg hdj117 _ hs rfl)
                replace hc := (hOut.off.le (by omega)).step hc hch292
                have hub301 := hO291.lt
                obtain ⟨A302, c303, hv304, hcap305, hcap306⟩ := hO291.form; subst hv304
                have hdj295 : ∀ s ∈ obl (.slice A302 (((hearS ⟨xS, xA⟩ (xs.take k)).2) ++ ([⟨(el xs k).s, (el xs k).a⟩] : List Bt)).length c303), s ∉ obl (.slice (some ⟨g37, 0, none⟩) 1 1) := dj_new hs293 (dj_sw hdj87) (fun s hs => by have := hub95 s hs; omega)
                have hdj296 : ∀ s ∈ obl (.slice A302 (((hearS ⟨xS, xA⟩ (xs.take k)).2) ++ ([⟨(el xs k).s, (el xs k).a⟩] : List Bt)).length c303), s ≠ g6 := dj_newg hs293 (dj_asg hdj88) (by omega)
                have hdj298 : ∀ s ∈ obl (.slice A302 (((hearS ⟨xS, xA⟩ (xs.take k)).2) ++ ([⟨(el xs k).s, (el xs k).a⟩] : List Bt)).length c303), s ≠ g110 := dj_newg hs293 (dj_asg hdj117) (by omega)
                refine rw_cons (op_pv (w0 rfl) rfl rfl (pv_assign (v := (.slice A302 (((hearS ⟨xS, xA⟩ (xs.take k)).2) ++ ([⟨(el xs k).s, (el xs k).a⟩] : List Bt)).length c303)) rfl rfl) ?_)
                refine rw_nil (hK279 _ _ ?_)
                refine hK104 _ _ ?_
                refine cw_region fun K307 hK308 => ?_
                refine rw_cons (op_pv (w0 rfl) rfl rfl (pv_move (v := (.int .i64 (k : Int))) rfl rfl) ?_)
                refine rw_cons (op_pv (w0 rfl) rfl rfl (pv_add rfl rfl rfl (by omega) (by omega)) ?_)
                refine rw_cons (op_pv (w0 rfl) rfl rfl (pv_assign (v := (.int .i64 ((k : Int) + 1))) rfl rfl) ?_)
                refine rw_nil (hK308 _ _ ?_)
                have hEQ309 : (((hearS ⟨xS, xA⟩ (xs.take k)).2) ++ ([⟨(el xs k).s, (el xs k).a⟩] : List Bt)) = (hearS ⟨xS, xA⟩ (xs.take (k + 1))).2 := by rw [hearC (x := ⟨xS, xA⟩) (xs := xs) (k := k) (by omega) (by show ¬(el xs k).s = xS; omega) (by rintro ⟨h8, h9⟩; first | (have h7 : xS < (el xs k).s := h9; omega) | (rw [h8] at *; contradiction) | simp_all)]
                have hO310 := own_as hO291 hEQ309
                refine hK90 _ _ (k + 1, A302, c303) ⟨(sl_as hO291 hEQ309), (bv (show (hearS ⟨xS, xA⟩ (xs.take k)).1 = (hearS ⟨xS, xA⟩ (xs.take (k + 1))).1 by rw [hearC (x := ⟨xS, xA⟩) (xs := xs) (k := k) (by omega) (by show ¬(el xs k).s = xS; omega) (by rintro ⟨h8, h9⟩; first | (have h7 : xS < (el xs k).s := h9; omega) | (rw [h8] at *; contradiction) | simp_all)])), (iv (by omega)), rfl, rfl, rfl, rfl, trivial⟩ ⟨?_, hRxs, hB8, hO42, hO310, hc, (by omega), (dj_sw hdj295), (dj_asg hdj296)⟩ ?_
                · omega
                · (first | omega | (simp only []; omega))
        · -- else
          replace h102 := of_decide_eq_false h102
          refine cw_exit ?_
          refine hK80 _ _ ?_
          refine cw_seq fun K311 hK312 => ?_
          refine cw_seq fun K313 hK314 => ?_
          refine cw_region fun K315 hK316 => ?_
          refine rw_cons (op_pv (w0 rfl) rfl rfl (pv_move (v := (.bool (hearS ⟨xS, xA⟩ (xs.take k)).1)) rfl rfl) ?_)
          refine rw_cons (op_pv (w0 rfl) rfl rfl (pv_not rfl rfl) ?_)
          refine rw_nil (hK316 _ _ ?_)
          refine hK314 _ _ ?_
          refine cw_cond rfl (fun h317 => ?_) (fun h317 => ?_)
          · -- then
            replace h317 := not_t h317
            refine cw_region fun K318 hK319 => ?_
            refine rw_cons (op_pv (w0 rfl) rfl rfl (pv_move (v := (.slice Ao ((hearS ⟨xS, xA⟩ (xs.take k)).2).length co)) rfl rfl) ?_)
            refine rw_cons (op_lv (w0 rfl) rfl rfl (lv_loadN T39 rfl rfl rfl (fun j v hv => hB8.cellA hv)) ?_)
            refine rw_cons (op_bslice [(.agg #[(.int .i64 xS), (.int .i64 xA)])] Try.underlying23 T39 (w0 rfl) rfl rfl rfl rfl rfl (by simp [Value.cells]) (by decide) ?_)
            intro g321 w320 hg324 hg325 hK323 hch322
            have hO326 : Own encB 2 w320 w85.heap.size 39 (.slice (some ⟨g321, 0, none⟩) 1 1) ([⟨xS, xA⟩] : List Bt) := Blk.own (xs := ([⟨xS, xA⟩] : List Bt)) hK323 (by omega) rfl (by decide) rfl
            have hsz327 := hch322.size
            replace hRxs := hRxs.ch0 hch322
            replace hB8 := hB8.ch0 hch322
            replace hO42 := hO42.ch0 hch322
            replace hOut := hOut.ch0 hch322
            replace hc := hc.step0 hch322
            have hub328 := hO326.lt
            refine rw_cons (op_append Try.underlying23 T39 (fun _ => rfl) rfl (by decide) (fun _ => one_all rfl) (w0 rfl) rfl rfl rfl rfl rfl hOut (hO326.rs (fun _ => rfl)) (by unfold maxLen; first | omega | (simp; omega)) (by first | omega | (simp; omega)) (by omega) ?_)
            rintro v329 w330 hO331 hch332 hs333
            have hl334 : (((hearS ⟨xS, xA⟩ (xs.take k)).2) ++ ([⟨xS, xA⟩] : List Bt)).length = ((hearS ⟨xS, xA⟩ (xs.take k)).2).length + 1 := by first | (have hl0 := (hO326.rs (fun _ => rfl)).len; omega) | (have hl0 := (hO326.rs (fun _ => rfl)).len; simp only [List.length_append, List.length_cons, List.length_nil] at hl0 ⊢; omega) | simp | rfl
            clear hO326
            have hgl337 := hB8.lt
            have hsz338 := hch332.size
            replace hRxs := hRxs.ch hch332 (hOut.off.le (by omega))
            replace hB8 := hB8.ch hch332 (fun hs => dj_asg hdj88 _ hs rfl)
            replace hO42 := hO42.ch hch332 (dj_as hdj87)
            replace hc := (hOut.off.le (by omega)).step hc hch332
            have hub339 := hO331.lt
            obtain ⟨A340, c341, hv342, hcap343, hcap344⟩ := hO331.form; subst hv342
            have hdj335 : ∀ s ∈ obl (.slice A340 (((hearS ⟨xS, xA⟩ (xs.take k)).2) ++ ([⟨xS, xA⟩] : List Bt)).length c341), s ∉ obl (.slice (some ⟨g37, 0, none⟩) 1 1) := dj_new hs333 (dj_sw hdj87) (fun s hs => by have := hub95 s hs; omega)
            have hdj336 : ∀ s ∈ obl (.slice A340 (((hearS ⟨xS, xA⟩ (xs.take k)).2) ++ ([⟨xS, xA⟩] : List Bt)).length c341), s ≠ g6 := dj_newg hs333 (dj_asg hdj88) (by omega)
            refine rw_cons (op_pv (w0 rfl) rfl rfl (pv_assign (v := (.slice A340 (((hearS ⟨xS, xA⟩ (xs.take k)).2) ++ ([⟨xS, xA⟩] : List Bt)).length c341)) rfl rfl) ?_)
            refine rw_nil (hK319 _ _ ?_)
            refine hK312 _ _ ?_
            refine cw_seq fun K345 hK346 => ?_
            refine cw_seq fun K347 hK348 => ?_
            have hrn349 : (((hearS ⟨xS, xA⟩ (xs.take k)).2) ++ ([⟨xS, xA⟩] : List Bt)) = (hearL xs ⟨xS, xA⟩) := hear_no (by omega) (‹BeatsOK xs›).asc (by assumption)
            rw [hrn349] at hO331
            try dsimp only
            try rw [hrn349]
            have hub350 := hO331.lt
            have hhl := hear_len xs ⟨xS, xA⟩
            refine cw_region fun K351 hK352 => ?_
            refine rw_cons (op_pv (w0 rfl) rfl rfl (pv_move (v := (.slice A340 (hearL xs ⟨xS, xA⟩).length c341)) rfl rfl) ?_)
            refine rw_cons (op_call (w0 rfl) rfl rfl (rc_call C18 rfl rfl) (BeatsValid_s _ _ _ (hearL xs ⟨xS, xA⟩) _ (hO331.rs (fun _ => rfl)) (by omega)) ?_)
            rintro _ w353 ⟨rfl, hch354⟩
            have hsz355 := hch354.size
            replace hRxs := hRxs.ch0 hch354
            replace hB8 := hB8.ch0 hch354
            replace hO42 := hO42.ch0 hch354
            replace hO331 := hO331.ch0 hch354
            replace hc := hc.step0 hch354
            refine rw_cons (op_pv (w0 rfl) rfl rfl (pv_not rfl rfl) ?_)
            refine rw_nil (hK352 _ _ ?_)
            refine hK348 _ _ ?_
            refine cw_cond rfl (fun h356 => ?_) (fun h356 => ?_)
            · -- then
              replace h356 := not_t h356
              replace h356 := dec_f h356
              refine cw_seq fun K357 hK358 => ?_
              refine cw_region fun K359 hK360 => ?_
              refine rw_cons (op_bslice [] Try.underlying23 T39 (w0 rfl) rfl rfl rfl rfl rfl (by simp [Value.cells]) (by decide) ?_)
              intro g362 w361 hg365 hg366 hK364 hch363
              have hO367 : Own encB 2 w361 w353.heap.size 39 (.slice (some ⟨g362, 0, none⟩) 0 0) ([] : List Bt) := Blk.own (xs := ([] : List Bt)) hK364 (by omega) rfl (by decide) rfl
              have hsz368 := hch363.size
              replace hRxs := hRxs.ch0 hch363
              replace hB8 := hB8.ch0 hch363
              replace hO42 := hO42.ch0 hch363
              replace hO331 := hO331.ch0 hch363
              replace hc := hc.step0 hch363
              have hub369 := hO367.lt
              refine rw_cons (op_pv (w0 rfl) rfl rfl (pv_assign (v := (.slice (some ⟨g362, 0, none⟩) 0 0)) rfl rfl) ?_)
              refine rw_cons (op_pv (w0 rfl) rfl rfl (pv_assign (v := (.bool false)) rfl rfl) ?_)
              refine rw_nil (hK360 _ _ ?_)
              refine hK358 _ _ ?_
              refine cw_ret ?_
              refine fin2 rfl rfl ?_
              have hno : ¬ HearOK xs ⟨xS, xA⟩ := (by rintro ⟨h1, h2, h3⟩; have h2b : (1 ≤ xS ∧ xS ≤ 99) ∧ (0 ≤ xA ∧ xA ≤ 9999) := h2; first | contradiction | omega | exact absurd (beats_one.2 h2) (by assumption))
              have he_0 : ([] : List Bt) = hearV xs ⟨xS, xA⟩ := (hearV_no hno).symm
              exact ⟨_, _, tup2 (sl_as hO367 he_0) (bvf hno), own_as (hO367.less (by omega)) he_0, hc⟩
            · -- else
              replace h356 := not_f h356
              replace h356 := dec_t h356
              refine cw_skip ?_
              refine hK346 _ _ ?_
              refine cw_seq fun K370 hK371 => ?_
              refine cw_region fun K372 hK373 => ?_
              refine rw_cons (op_pv (w0 rfl) rfl rfl (pv_move (v := (.slice A340 (hearL xs ⟨xS, xA⟩).length c341)) rfl rfl) ?_)
              refine rw_cons (op_pv (w0 rfl) rfl rfl (pv_assign (v := (.slice A340 (hearL xs ⟨xS, xA⟩).length c341)) rfl rfl) ?_)
              refine rw_cons (op_pv (w0 rfl) rfl rfl (pv_assign (v := (.bool true)) rfl rfl) ?_)
              refine rw_nil (hK373 _ _ ?_)
              refine hK371 _ _ ?_
              refine cw_ret ?_
              refine fin2 rfl rfl ?_
              have hb2 : BtOK ⟨xS, xA⟩ := by first | exact beats_one.1 (by assumption) | (show (1 ≤ xS ∧ xS ≤ 99) ∧ (0 ≤ xA ∧ xA ≤ 9999); omega)
              have hyes : HearOK xs ⟨xS, xA⟩ := ⟨‹BeatsOK xs›, hb2, by assumption⟩
              have he_0 : (hearL xs ⟨xS, xA⟩) = hearV xs ⟨xS, xA⟩ := (hearV_yes hyes).symm
              exact ⟨_, _, tup2 (sl_as hO331 he_0) (bvt hyes), own_as (hO331.less (by omega)) he_0, hc⟩
          · -- else
            replace h317 := not_f h317
            refine cw_skip ?_
            refine hK312 _ _ ?_
            refine cw_seq fun K374 hK375 => ?_
            refine cw_seq fun K376 hK377 => ?_
            have hrn378 : ((hearS ⟨xS, xA⟩ (xs.take k)).2) = (hearL xs ⟨xS, xA⟩) := hear_yes (by omega) (‹BeatsOK xs›).asc (by assumption)
            rw [hrn378] at hOut
            try dsimp only
            try rw [hrn378]
            have hub379 := hOut.lt
            have hhl := hear_len xs ⟨xS, xA⟩
            refine cw_region fun K380 hK381 => ?_
            refine rw_cons (op_pv (w0 rfl) rfl rfl (pv_move (v := (.slice Ao (hearL xs ⟨xS, xA⟩).length co)) rfl rfl) ?_)
            refine rw_cons (op_call (w0 rfl) rfl rfl (rc_call C18 rfl rfl) (BeatsValid_s _ _ _ (hearL xs ⟨xS, xA⟩) _ (hOut.rs (fun _ => rfl)) (by omega)) ?_)
            rintro _ w382 ⟨rfl, hch383⟩
            have hsz384 := hch383.size
            replace hRxs := hRxs.ch0 hch383
            replace hB8 := hB8.ch0 hch383
            replace hO42 := hO42.ch0 hch383
            replace hOut := hOut.ch0 hch383
            replace hc := hc.step0 hch383
            refine rw_cons (op_pv (w0 rfl) rfl rfl (pv_not rfl rfl) ?_)
            refine rw_nil (hK381 _ _ ?_)
            refine hK377 _ _ ?_
            refine cw_cond rfl (fun h385 => ?_) (fun h385 => ?_)
            · -- then
              replace h385 := not_t h385
              replace h385 := dec_f h385
              refine cw_seq fun K386 hK387 => ?_
              refine cw_region fun K388 hK389 => ?_
              refine rw_cons (op_bslice [] Try.underlying23 T39 (w0 rfl) rfl rfl rfl rfl rfl (by simp [Value.cells]) (by decide) ?_)
              intro g391 w390 hg394 hg395 hK393 hch392
              have hO396 : Own encB 2 w390 w382.heap.size 39 (.slice (some ⟨g391, 0, none⟩) 0 0) ([] : List Bt) := Blk.own (xs := ([] : List Bt)) hK393 (by omega) rfl (by decide) rfl
              have hsz397 := hch392.size
              replace hRxs := hRxs.ch0 hch392
              replace hB8 := hB8.ch0 hch392
              replace hO42 := hO42.ch0 hch392
              replace hOut := hOut.ch0 hch392
              replace hc := hc.step0 hch392
              have hub398 := hO396.lt
              refine rw_cons (op_pv (w0 rfl) rfl rfl (pv_assign (v := (.slice (some ⟨g391, 0, none⟩) 0 0)) rfl rfl) ?_)
              refine rw_cons (op_pv (w0 rfl) rfl rfl (pv_assign (v := (.bool false)) rfl rfl) ?_)
              refine rw_nil (hK389 _ _ ?_)
              refine hK387 _ _ ?_
              refine cw_ret ?_
              refine fin2 rfl rfl ?_
              have hno : ¬ HearOK xs ⟨xS, xA⟩ := (by rintro ⟨h1, h2, h3⟩; have h2b : (1 ≤ xS ∧ xS ≤ 99) ∧ (0 ≤ xA ∧ xA ≤ 9999) := h2; first | contradiction | omega | exact absurd (beats_one.2 h2) (by assumption))
              have he_0 : ([] : List Bt) = hearV xs ⟨xS, xA⟩ := (hearV_no hno).symm
              exact ⟨_, _, tup2 (sl_as hO396 he_0) (bvf hno), own_as (hO396.less (by omega)) he_0, hc⟩
            · -- else
              replace h385 := not_f h385
              replace h385 := dec_t h385
              refine cw_skip ?_
              refine hK375 _ _ ?_
              refine cw_seq fun K399 hK400 => ?_
              refine cw_region fun K401 hK402 => ?_
              refine rw_cons (op_pv (w0 rfl) rfl rfl (pv_move (v := (.slice Ao (hearL xs ⟨xS, xA⟩).length co)) rfl rfl) ?_)
              refine rw_cons (op_pv (w0 rfl) rfl rfl (pv_assign (v := (.slice Ao (hearL xs ⟨xS, xA⟩).length co)) rfl rfl) ?_)
              refine rw_cons (op_pv (w0 rfl) rfl rfl (pv_assign (v := (.bool true)) rfl rfl) ?_)
              refine rw_nil (hK402 _ _ ?_)
              refine hK400 _ _ ?_
              refine cw_ret ?_
              refine fin2 rfl rfl ?_
              have hb2 : BtOK ⟨xS, xA⟩ := by first | exact beats_one.1 (by assumption) | (show (1 ≤ xS ∧ xS ≤ 99) ∧ (0 ≤ xA ∧ xA ≤ 9999); omega)
              have hyes : HearOK xs ⟨xS, xA⟩ := ⟨‹BeatsOK xs›, hb2, by assumption⟩
              have he_0 : (hearL xs ⟨xS, xA⟩) = hearV xs ⟨xS, xA⟩ := (hearV_yes hyes).symm
              exact ⟨_, _, tup2 (sl_as hOut he_0) (bvt hyes), own_as (hOut.less (by omega)) he_0, hc⟩
end Go.Proofs.Ytnkjljjcionfiaa
