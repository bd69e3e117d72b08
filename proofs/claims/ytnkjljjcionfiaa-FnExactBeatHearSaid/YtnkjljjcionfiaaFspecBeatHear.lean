/-
  The walk of spec.BeatHear, written by program: each line names the law of one operation. Conditions: those of the theorem.
-/
import Derived.Test.YtnkjljjcionfiaaProg
import Derived.Test.YtnkjljjcionfiaaBeats
import Derived.Test.YtnkjljjcionfiaaFspecBeatsValid
import Derived.KernelRfl
namespace Go.Proofs.Ytnkjljjcionfiaa
open Go Go.RowKit
set_option linter.unusedVariables false
set_option linter.unusedSimpArgs false
namespace BeatHear_sF
theorem T3 : TI Try.prog 3 false (.int .i64 0) 1 8 := TI.mk' Try.underlying3 rfl (by kernel_rfl)
theorem T39 : TI Try.prog 39 true (.agg #[.int .i64 0, .int .i64 0]) 2 16 := TI.mk' Try.underlying39 rfl (by kernel_rfl)
theorem F39_0 : FldOK Try.prog 39 0 0 := ⟨_, _, 0, Try.underlying39, rfl, rfl, by kernel_rfl⟩
theorem F39_1 : FldOK Try.prog 39 1 1 := ⟨_, _, 0, Try.underlying39, rfl, rfl, by kernel_rfl⟩
theorem C18 : Callable Try.prog 18 := ⟨_, Try.func18, by kernel_rfl, by kernel_rfl⟩
end BeatHear_sF
open BeatHear_sF in
set_option maxHeartbeats 4000000 in
theorem BeatHear_s (Axs : Option Addr) (nxs cxs : Nat) (xs : List Bt) (xS : Int) (xA : Int) (w : World) (hRxs : RS encB 2 w w.heap.size Axs nxs xs) (hNxs : nxs ≤ 1099511627776) :
    Fn Try.prog 36 [(.slice Axs nxs cxs), (.agg #[(.int .i64 xS), (.int .i64 xA)])] w fun v w' => ∃ A_0 c_0, v = .tuple #[.slice A_0 (hearV xs ⟨xS, xA⟩).length c_0, .bool (dec (HearOK xs ⟨xS, xA⟩))] ∧ Own encB 2 w' w.heap.size 39 (.slice A_0 (hearV xs ⟨xS, xA⟩).length c_0) (hearV xs ⟨xS, xA⟩) ∧ Ch [] w w' := by
  have hlenxs := hRxs.len
  refine fn_of (n := 70) Try.func36 rfl rfl rfl rfl ?_
  have hc : Ch [] w w := Ch.refl _ _
  refine cw_seq fun K1 hK2 => ?_
  refine cw_region fun K3 hK4 => ?_
  refine rw_cons (op_box (w0 rfl) rfl rfl rfl rfl ?_)
  rintro g6 w5 hg9 hg10 hB8 hch7
  have hsz11 := hch7.size
  replace hRxs := hRxs.ch0 hch7
  replace hc := hc.step0 hch7
  replace hB8 : Blk w5 g6 39 [(.int .i64 xS), (.int .i64 xA)] := hB8
  refine rw_cons (op_pv (w0 rfl) rfl rfl (pv_assign (v := (.slice none 0 0)) rfl rfl) ?_)
  refine rw_cons (op_pv (w0 rfl) rfl rfl (pv_assign (v := (.bool false)) rfl rfl) ?_)
  refine rw_nil (hK4 _ _ ?_)
  refine hK2 _ _ ?_
  refine cw_seq fun K12 hK13 => ?_
  refine cw_seq fun K14 hK15 => ?_
  refine cw_region fun K16 hK17 => ?_
  refine rw_cons (op_pv (w0 rfl) rfl rfl (pv_move (v := (.slice Axs nxs cxs)) rfl rfl) ?_)
  refine rw_cons (op_call (w0 rfl) rfl rfl (rc_call C18 rfl rfl) (BeatsValid_s _ _ _ xs _ (hRxs.more (by omega)) (by omega)) ?_)
  rintro _ w18 ⟨rfl, hch19⟩
  have hsz20 := hch19.size
  replace hRxs := hRxs.ch0 hch19
  replace hB8 := hB8.ch0 hch19
  replace hc := hc.step0 hch19
  refine rw_cons (op_pv (w0 rfl) rfl rfl (pv_not rfl rfl) ?_)
  refine rw_cons (op_pv (w0 rfl) rfl rfl (pv_move (v := (.bool (!(dec (BeatsOK xs))))) rfl rfl) ?_)
  refine rw_split 13 rfl (fun hb21 => ?_) (fun hb21 => ?_)
  · -- yes
    replace hb21 := not_t hb21
    replace hb21 := dec_f hb21
    refine rw_cons (op_pass (w1n2 rfl rfl rfl rfl) rfl rfl ?_)
    refine rw_cons (op_pass (w1n2 rfl rfl rfl rfl) rfl rfl ?_)
    refine rw_cons (op_pass (w1n2 rfl rfl rfl rfl) rfl rfl ?_)
    refine rw_cons (op_pass (w1n2 rfl rfl rfl rfl) rfl rfl ?_)
    refine rw_cons (op_pv (w0 rfl) rfl rfl (pv_pickT (v := (.bool true)) rfl rfl rfl) ?_)
    refine rw_nil (hK17 _ _ ?_)
    refine hK15 _ _ ?_
    refine cw_cond rfl (fun h22 => ?_) (fun h22 => ?_)
    · -- then
      clear h22
      refine cw_seq fun K23 hK24 => ?_
      refine cw_region fun K25 hK26 => ?_
      refine rw_cons (op_bslice [] Try.underlying23 T39 (w0 rfl) rfl rfl rfl rfl rfl (by simp [Value.cells]) (by decide) ?_)
      intro g28 w27 hg31 hg32 hK30 hch29
      have hO33 : Own encB 2 w27 w18.heap.size 39 (.slice (some ⟨g28, 0, none⟩) 0 0) ([] : List Bt) := Blk.own (xs := ([] : List Bt)) hK30 (by omega) rfl (by decide) rfl
      have hsz34 := hch29.size
      replace hRxs := hRxs.ch0 hch29
      replace hB8 := hB8.ch0 hch29
      replace hc := hc.step0 hch29
      have hub35 := hO33.lt
      refine rw_cons (op_pv (w0 rfl) rfl rfl (pv_assign (v := (.slice (some ⟨g28, 0, none⟩) 0 0)) rfl rfl) ?_)
      refine rw_cons (op_pv (w0 rfl) rfl rfl (pv_assign (v := (.bool false)) rfl rfl) ?_)
      refine rw_nil (hK26 _ _ ?_)
      refine hK24 _ _ ?_
      refine cw_ret ?_
      refine fin2 rfl rfl ?_
      have hno : ¬ HearOK xs ⟨xS, xA⟩ := (by rintro ⟨h1, h2, h3⟩; have h2b : (1 ≤ xS ∧ xS ≤ 99) ∧ (0 ≤ xA ∧ xA ≤ 9999) := h2; first | contradiction | omega | exact absurd (beats_one.2 h2) (by assumption))
      have he_0 : ([] : List Bt) = hearV xs ⟨xS, xA⟩ := (hearV_no hno).symm
      exact ⟨_, _, tup2 (sl_as hO33 he_0) (bvf hno), own_as (hO33.less (by omega)) he_0, hc⟩
    · -- else
      cases h22
  · -- no
    replace hb21 := not_f hb21
    replace hb21 := dec_t hb21
    refine rw_cons (op_lv (w1y rfl rfl rfl rfl) rfl rfl (lv_loadN T39 rfl rfl rfl (fun j v hv => hB8.cellA hv)) ?_)
    refine rw_cons (op_bslice [(.agg #[(.int .i64 xS), (.int .i64 xA)])] Try.underlying23 T39 (w1y rfl rfl rfl rfl) rfl rfl rfl rfl rfl (by simp [Value.cells]) (by decide) ?_)
    intro g37 w36 hg40 hg41 hK39 hch38
    have hO42 : Own encB 2 w36 w18.heap.size 39 (.slice (some ⟨g37, 0, none⟩) 1 1) ([⟨xS, xA⟩] : List Bt) := Blk.own (xs := ([⟨xS, xA⟩] : List Bt)) hK39 (by omega) rfl (by decide) rfl
    have hsz43 := hch38.size
    replace hRxs := hRxs.ch0 hch38
    replace hB8 := hB8.ch0 hch38
    replace hc := hc.step0 hch38
    have hub44 := hO42.lt
    refine rw_cons (op_call (w1y rfl rfl rfl rfl) rfl rfl (rc_call C18 rfl rfl) (BeatsValid_s _ _ _ ([⟨xS, xA⟩] : List Bt) _ (hO42.rs (fun _ => rfl)) (by omega)) ?_)
    rintro _ w45 ⟨rfl, hch46⟩
    have hsz47 := hch46.size
    replace hRxs := hRxs.ch0 hch46
    replace hB8 := hB8.ch0 hch46
    replace hO42 := hO42.ch0 hch46
    replace hc := hc.step0 hch46
    refine rw_cons (op_pv (w1y rfl rfl rfl rfl) rfl rfl (pv_not rfl rfl) ?_)
    refine rw_cons (op_pv (w0 rfl) rfl rfl (pv_pickF (v := (.bool (!(dec (BeatsOK ([⟨xS, xA⟩] : List Bt)))))) rfl rfl rfl) ?_)
    refine rw_nil (hK17 _ _ ?_)
    refine hK15 _ _ ?_
    refine cw_cond rfl (fun h48 => ?_) (fun h48 => ?_)
    · -- then
      replace h48 := not_t h48
      replace h48 := dec_f h48
      refine cw_seq fun K49 hK50 => ?_
      refine cw_region fun K51 hK52 => ?_
      refine rw_cons (op_bslice [] Try.underlying23 T39 (w0 rfl) rfl rfl rfl rfl rfl (by simp [Value.cells]) (by decide) ?_)
      intro g54 w53 hg57 hg58 hK56 hch55
      have hO59 : Own encB 2 w53 w45.heap.size 39 (.slice (some ⟨g54, 0, none⟩) 0 0) ([] : List Bt) := Blk.own (xs := ([] : List Bt)) hK56 (by omega) rfl (by decide) rfl
      have hsz60 := hch55.size
      replace hRxs := hRxs.ch0 hch55
      replace hB8 := hB8.ch0 hch55
      replace hO42 := hO42.ch0 hch55
      replace hc := hc.step0 hch55
      have hub61 := hO59.lt
      refine rw_cons (op_pv (w0 rfl) rfl rfl (pv_assign (v := (.slice (some ⟨g54, 0, none⟩) 0 0)) rfl rfl) ?_)
      refine rw_cons (op_pv (w0 rfl) rfl rfl (pv_assign (v := (.bool false)) rfl rfl) ?_)
      refine rw_nil (hK52 _ _ ?_)
      refine hK50 _ _ ?_
      refine cw_ret ?_
      refine fin2 rfl rfl ?_
      have hno : ¬ HearOK xs ⟨xS, xA⟩ := (by rintro ⟨h1, h2, h3⟩; have h2b : (1 ≤ xS ∧ xS ≤ 99) ∧ (0 ≤ xA ∧ xA ≤ 9999) := h2; first | contradiction | omega | exact absurd (beats_one.2 h2) (by assumption))
      have he_0 : ([] : List Bt) = hearV xs ⟨xS, xA⟩ := (hearV_no hno).symm
      exact ⟨_, _, tup2 (sl_as hO59 he_0) (bvf hno), own_as (hO59.less (by omega)) he_0, hc⟩
    · -- else
      replace h48 := not_f h48
      replace h48 := dec_t h48
      refine cw_skip ?_
      refine hK13 _ _ ?_
      refine cw_seq fun K62 hK63 => ?_
      refine cw_region fun K64 hK65 => ?_
      refine rw_cons (op_bslice [] Try.underlying23 T39 (w0 rfl) rfl rfl rfl rfl rfl (by simp [Value.cells]) (by decide) ?_)
      intro g67 w66 hg70 hg71 hK69 hch68
      have hO72 : Own encB 2 w66 w45.heap.size 39 (.slice (some ⟨g67, 0, none⟩) 0 0) ([] : List Bt) := Blk.own (xs := ([] : List Bt)) hK69 (by omega) rfl (by decide) rfl
      have hsz73 := hch68.size
      replace hRxs := hRxs.ch0 hch68
      replace hB8 := hB8.ch0 hch68
      replace hO42 := hO42.ch0 hch68
      replace hc := hc.step0 hch68
      have hub74 := hO72.lt
      refine rw_cons (op_pv (w0 rfl) rfl rfl (pv_assign (v := (.slice (some ⟨g67, 0, none⟩) 0 0)) rfl rfl) ?_)
      refine rw_nil (hK65 _ _ ?_)
      refine hK63 _ _ ?_
      refine cw_seq fun K75 hK76 => ?_
      refine cw_region fun K77 hK78 => ?_
      refine rw_cons (op_pv (w0 rfl) rfl rfl (pv_assign (v := (.bool false)) rfl rfl) ?_)
      refine rw_nil (hK78 _ _ ?_)
      refine hK76 _ _ ?_
      refine cw_seq fun K79 hK80 => ?_
      refine cw_seq fun K81 hK82 => ?_
      have hx8 := (‹BeatsOK xs›).1
      refine cw_region fun K83 hK84 => ?_
      refine rw_cons (op_pv (w0 rfl) rfl rfl (pv_assign (v := (.int .i64 0)) rfl rfl) ?_)
      refine rw_nil (hK84 _ _ ?_)
      refine hK82 _ _ ?_
      refine cw_block ?_
      refine cw_loop (σ := Nat × (Option Addr) × Nat) (fun ⟨k, Ao, co⟩ => [(6, (.slice Ao ((hearS ⟨xS, xA⟩ (xs.take k)).2).length co)), (7, (.bool (hearS ⟨xS, xA⟩ (xs.take k)).1)), (8, (.int .i64 (k : Int))), (0, (.slice Axs nxs cxs)), (3, (.pointer (some (⟨g6, 0, none⟩)))), (4, (.slice none 0 0)), (5, (.bool false))]) (fun ⟨k, Ao, co⟩ W => (k ≤ nxs) ∧ RS encB 2 W w.heap.size Axs nxs xs ∧ Blk W g6 39 [(.int .i64 xS), (.int .i64 xA)] ∧ Own encB 2 W w18.heap.size 39 (.slice (some ⟨g37, 0, none⟩) 1 1) ([⟨xS, xA⟩] : List Bt) ∧ Own encB 2 W w.heap.size 39 (.slice Ao ((hearS ⟨xS, xA⟩ (xs.take k)).2).length co) ((hearS ⟨xS, xA⟩ (xs.take k)).2) ∧ Ch [] w W ∧ w18.heap.size ≤ W.heap.size ∧ (∀ s ∈ obl (.slice (some ⟨g37, 0, none⟩) 1 1), s ∉ obl (.slice Ao ((hearS ⟨xS, xA⟩ (xs.take k)).2).length co)) ∧ (∀ s ∈ obl (.slice Ao ((hearS ⟨xS, xA⟩ (xs.take k)).2).length co), s ≠ g6)) (fun ⟨k, Ao, co⟩ => nxs - k) (0, (some ⟨g67, 0, none⟩), 0) ?_ ?_ ?_
      · exact ⟨rfl, rfl, rfl, rfl, rfl, rfl, rfl, trivial⟩
      · refine ⟨Nat.zero_le _, hRxs, hB8, hO42, (hO72.less (by omega)), hc, (by omega), (fun s hs hs2 => by first | (have h1 := hO42.off s hs; have h2 := hub74 s hs2; omega) | (have h1 := hO72.off s hs; have h2 := hub44 s hs2; omega) | (have h1 := hub44 s hs; have h2 := hO72.off s hs2; omega) | (have h1 := hub74 s hs; have h2 := hO42.off s hs2; omega) | (simp [obl, Value.ownBlock] at hs; done) | (simp [obl, Value.ownBlock] at hs2; done)), (fun s hs => by first | (have h1 := hO42.off s hs; omega) | (have h1 := hO72.off s hs; omega) | (have h1 := hub44 s hs; omega) | (have h1 := hub74 s hs; omega) | (simp [obl, Value.ownBlock] at hs; done) | (simp [obl, Value.ownBlock] at hs; omega))⟩
      · rintro ⟨k, Ao, co⟩ J92 w85 ⟨hk, hRxs, hB8, hO42, hOut, hc, hmono86, hdj87, hdj88⟩ K89 hK90
        have hsz94 := hc.size
        have hub44 := hO42.lt
        have hubO := hOut.lt
        have hhs := hearS_le ⟨xS, xA⟩ (xs.take k); have htl : (xs.take k).length ≤ k := List.length_take_le _ _
        refine cw_seq fun K95 hK96 => ?_
        refine cw_seq fun K97 hK98 => ?_
        refine cw_region fun K99 hK100 => ?_
        refine rw_cons (op_pv (w0 rfl) rfl rfl (pv_move (v := (.int .i64 (k : Int))) rfl rfl) ?_)
        refine rw_cons (op_pv (w0 rfl) rfl rfl (pv_move (v := (.slice Axs nxs cxs)) rfl rfl) ?_)
        refine rw_cons (op_pv (w0 rfl) rfl rfl (pv_len Try.underlying23 rfl rfl) ?_)
        refine rw_cons (op_pv (w0 rfl) rfl rfl (pv_lss rfl rfl rfl) ?_)
        refine rw_nil (hK100 _ _ ?_)
        refine hK98 _ _ ?_
        refine cw_cond rfl (fun h101 => ?_) (fun h101 => ?_)
        · -- then
          replace h101 := of_decide_eq_true h101
          refine cw_skip ?_
          refine hK96 _ _ ?_
          refine cw_seq fun K102 hK103 => ?_
          refine cw_block ?_
          refine cw_seq fun K104 hK105 => ?_
          refine cw_region fun K106 hK107 => ?_
          refine rw_cons (op_pv (w0 rfl) rfl rfl (pv_move (v := (.slice Axs nxs cxs)) rfl rfl) ?_)
          refine rw_cons (op_pv (w0 rfl) rfl rfl (pv_move (v := (.int .i64 (k : Int))) rfl rfl) ?_)
          refine rw_cons (op_pv (w0 rfl) rfl rfl (pv_idx Try.underlying23 T39 rfl rfl rfl (hRxs.some (k := k) (by omega)) (by omega) (by omega)) ?_)
          refine rw_cons (op_lv (w0 rfl) rfl rfl (lv_loadN T39 rfl rfl rfl (fun j v hv => hRxs.cellE (k := k) (by omega) hv)) ?_)
          refine rw_cons (op_alloc T39 (w0 rfl) rfl rfl rfl ?_)
          rintro g109 w108 hg112 hg113 hB111 hch110
          have hsz114 := hch110.size
          replace hRxs := hRxs.ch0 hch110
          replace hB8 := hB8.ch0 hch110
          replace hO42 := hO42.ch0 hch110
          replace hOut := hOut.ch0 hch110
          replace hc := hc.step0 hch110
          replace hB111 : Blk w108 g109 39 [(.int .i64 0), (.int .i64 0)] := hB111
          have hdj115 : ∀ s ∈ obl (.slice (some ⟨g37, 0, none⟩) 1 1), s ≠ g109 := fun s hs => by have := hub44 s hs; omega
          have hdj116 : ∀ s ∈ obl (.slice Ao ((hearS ⟨xS, xA⟩ (xs.take k)).2).length co), s ≠ g109 := fun s hs => by have := hubO s hs; omega
          refine rw_cons (op_store_blk T39 hB111 (w0 rfl) rfl rfl rfl rfl rfl (one_all rfl) (Nat.le_of_ble_eq_true rfl) ?_)
          rintro w117 hB119 hch118
          have hsz120 := hch118.size
          replace hRxs := hRxs.ch hch118 (off1 (by omega))
          replace hB8 := hB8.ch hch118 (by simp; omega)
          replace hO42 := hO42.ch hch118 (fun s hs => by have := dj_asg hdj115 s hs; simpa using this)
          replace hOut := hOut.ch hch118 (fun s hs => by have := dj_asg hdj116 s hs; simpa using this)
          replace hc := (off1 (by omega)).step hc hch118
          replace hB111 : Blk w117 g109 39 [(.int .i64 (el xs k).s), (.int .i64 (el xs k).a)] := hB119
          clear hB119
          refine rw_nil (hK107 _ _ ?_)
          refine hK105 _ _ ?_
          refine cw_seq fun K121 hK122 => ?_
          refine cw_seq fun K123 hK124 => ?_
          refine cw_region fun K125 hK126 => ?_
          refine rw_cons (op_pv (w0 rfl) rfl rfl (pv_fld F39_0 rfl rfl) ?_)
          refine rw_cons (op_lv (w0 rfl) rfl rfl (lv_load T3 rfl rfl (hB111.cellA (i := 0) rfl)) ?_)
          refine rw_cons (op_pv (w0 rfl) rfl rfl (pv_fld F39_0 rfl rfl) ?_)
          refine rw_cons (op_lv (w0 rfl) rfl rfl (lv_load T3 rfl rfl (hB8.cellA (i := 0) rfl)) ?_)
          refine rw_cons (op_pv (w0 rfl) rfl rfl (pv_eql rfl rfl rfl) ?_)
          refine rw_nil (hK126 _ _ ?_)
          refine hK124 _ _ ?_
          refine cw_cond rfl (fun h127 => ?_) (fun h127 => ?_)
          · -- then
            replace h127 := of_decide_eq_true h127
            refine cw_seq fun K128 hK129 => ?_
            refine cw_region fun K130 hK131 => ?_
            refine rw_cons (op_pv (w0 rfl) rfl rfl (pv_fld F39_1 rfl rfl) ?_)
            refine rw_cons (op_lv (w0 rfl) rfl rfl (lv_load T3 rfl rfl (hB111.cellA (i := 1) rfl)) ?_)
            refine rw_cons (op_pv (w0 rfl) rfl rfl (pv_fld F39_1 rfl rfl) ?_)
            refine rw_cons (op_lv (w0 rfl) rfl rfl (lv_load T3 rfl rfl (hB8.cellA (i := 1) rfl)) ?_)
            refine rw_cons (op_pv (w0 rfl) rfl rfl (pv_max rfl rfl rfl) ?_)
            refine rw_cons (op_pv (w0 rfl) rfl rfl (pv_fld F39_1 rfl rfl) ?_)
            refine rw_cons (op_store_blk T3 hB111 (w0 rfl) rfl rfl rfl rfl rfl (one_all rfl) (Nat.le_of_ble_eq_true rfl) ?_)
            rintro w132 hB134 hch133
            have hsz135 := hch133.size
            replace hRxs := hRxs.ch hch133 (off1 (by omega))
            replace hB8 := hB8.ch hch133 (by simp; omega)
            replace hO42 := hO42.ch hch133 (fun s hs => by have := dj_asg hdj115 s hs; simpa using this)
            replace hOut := hOut.ch hch133 (fun s hs => by have := dj_asg hdj116 s hs; simpa using this)
            replace hc := (off1 (by omega)).step hc hch133
            replace hB111 : Blk w132 g109 39 [(.int .i64 (el xs k).s), (.int .i64 (max (el xs k).a xA))] := hB134
            clear hB134
            refine rw_nil (hK131 _ _ ?_)
            refine hK129 _ _ ?_
            refine cw_region fun K136 hK137 => ?_
            refine rw_cons (op_pv (w0 rfl) rfl rfl (pv_assign (v := (.bool true)) rfl rfl) ?_)
            refine rw_nil (hK137 _ _ ?_)
            refine hK122 _ _ ?_
            refine cw_region fun K138 hK139 => ?_
            refine rw_cons (op_pv (w0 rfl) rfl rfl (pv_move (v := (.slice Ao ((hearS ⟨xS, xA⟩ (xs.take k)).2).length co)) rfl rfl) ?_)
            refine rw_cons (op_lv (w0 rfl) rfl rfl (lv_loadN T39 rfl rfl rfl (fun j v hv => hB111.cellA hv)) ?_)
            refine rw_cons (op_bslice [(.agg #[(.int .i64 (el xs k).s), (.int .i64 (max (el xs k).a xA))])] Try.underlying23 T39 (w0 rfl) rfl rfl rfl rfl rfl (by simp [Value.cells]) (by decide) ?_)
            intro g141 w140 hg144 hg145 hK143 hch142
            have hO146 : Own encB 2 w140 w132.heap.size 39 (.slice (some ⟨g141, 0, none⟩) 1 1) ([⟨(el xs k).s, max (el xs k).a xA⟩] : List Bt) := Blk.own (xs := ([⟨(el xs k).s, max (el xs k).a xA⟩] : List Bt)) hK143 (by omega) rfl (by decide) rfl
            have hsz147 := hch142.size
            replace hRxs := hRxs.ch0 hch142
            replace hB8 := hB8.ch0 hch142
            replace hO42 := hO42.ch0 hch142
            replace hOut := hOut.ch0 hch142
            replace hB111 := hB111.ch0 hch142
            replace hc := hc.step0 hch142
            have hub148 := hO146.lt
            refine rw_cons (op_append Try.underlying23 T39 (fun _ => rfl) rfl (by decide) (fun _ => one_all rfl) (w0 rfl) rfl rfl rfl rfl rfl hOut (hO146.rs (fun _ => rfl)) (by unfold maxLen; first | omega | (simp; omega)) (by first | omega | (simp; omega)) (by omega) ?_)
            rintro v149 w150 hO151 hch152 hs153
            have hl154 : (((hearS ⟨xS, xA⟩ (xs.take k)).2) ++ ([⟨(el xs k).s, max (el xs k).a xA⟩] : List Bt)).length = ((hearS ⟨xS, xA⟩ (xs.take k)).2).length + 1 := by first | (have hl0 := (hO146.rs (fun _ => rfl)).len; omega) | (have hl0 := (hO146.rs (fun _ => rfl)).len; simp only [List.length_append, List.length_cons, List.length_nil] at hl0 ⊢; omega) | simp | rfl
            clear hO146
            have hgl157 := hB8.lt
            have hgl159 := hB111.lt
            have hsz160 := hch152.size
            replace hRxs := hRxs.ch hch152 (hOut.off.le (by omega))
            replace hB8 := hB8.ch hch152 (fun hs => dj_asg hdj88 _ hs rfl)
            replace hO42 := hO42.ch hch152 (dj_as hdj87)
            replace hB111 := hB111.ch hch152 (fun hs => dj_asg hdj116 _ hs rfl)
            replace hc := (hOut.off.le (by omega)).step hc hch152
            have hub161 := hO151.lt
            obtain ⟨A162, c163, hv164, hcap165, hcap166⟩ := hO151.form; subst hv164
            have hdj155 : ∀ s ∈ obl (.slice A162 (((hearS ⟨xS, xA⟩ (xs.take k)).2) ++ ([⟨(el xs k).s, max (el xs k).a xA⟩] : List Bt)).length c163), s ∉ obl (.slice (some ⟨g37, 0, none⟩) 1 1) := dj_new hs153 (dj_sw hdj87) (fun s hs => by have := hub44 s hs; omega)
            have hdj156 : ∀ s ∈ obl (.slice A162 (((hearS ⟨xS, xA⟩ (xs.take k)).2) ++ ([⟨(el xs k).s, max (el xs k).a xA⟩] : List Bt)).length c163), s ≠ g6 := dj_newg hs153 (dj_asg hdj88) (by omega)
            have hdj158 : ∀ s ∈ obl (.slice A162 (((hearS ⟨xS, xA⟩ (xs.take k)).2) ++ ([⟨(el xs k).s, max (el xs k).a xA⟩] : List Bt)).length c163), s ≠ g109 := dj_newg hs153 (dj_asg hdj116) (by omega)
            refine rw_cons (op_pv (w0 rfl) rfl rfl (pv_assign (v := (.slice A162 (((hearS ⟨xS, xA⟩ (xs.take k)).2) ++ ([⟨(el xs k).s, max (el xs k).a xA⟩] : List Bt)).length c163)) rfl rfl) ?_)
            refine rw_nil (hK139 _ _ ?_)
            refine hK103 _ _ ?_
            refine cw_region fun K167 hK168 => ?_
            refine rw_cons (op_pv (w0 rfl) rfl rfl (pv_move (v := (.int .i64 (k : Int))) rfl rfl) ?_)
            refine rw_cons (op_pv (w0 rfl) rfl rfl (pv_add rfl rfl rfl (by omega) (by omega)) ?_)
            refine rw_cons (op_pv (w0 rfl) rfl rfl (pv_assign (v := (.int .i64 ((k : Int) + 1))) rfl rfl) ?_)
            refine rw_nil (hK168 _ _ ?_)
            have hEQ169 : (((hearS ⟨xS, xA⟩ (xs.take k)).2) ++ ([⟨(el xs k).s, max (el xs k).a xA⟩] : List Bt)) = (hearS ⟨xS, xA⟩ (xs.take (k + 1))).2 := by rw [hearA (x := ⟨xS, xA⟩) (xs := xs) (k := k) (by omega) (by show (el xs k).s = xS; omega)]
            have hO170 := own_as hO151 hEQ169
            refine hK90 _ _ (k + 1, A162, c163) ⟨(sl_as hO151 hEQ169), (bv (show true = (hearS ⟨xS, xA⟩ (xs.take (k + 1))).1 by rw [hearA (x := ⟨xS, xA⟩) (xs := xs) (k := k) (by omega) (by show (el xs k).s = xS; omega)])), (iv (by omega)), rfl, rfl, rfl, rfl, trivial⟩ ⟨?_, hRxs, hB8, hO42, hO170, hc, (by omega), (dj_sw hdj155), (dj_asg hdj156)⟩ ?_
            · omega
            · (first | omega | (simp only []; omega))
          · -- else
            replace h127 := of_decide_eq_false h127
            refine cw_seq fun K171 hK172 => ?_
            refine cw_region fun K173 hK174 => ?_
            refine rw_cons (op_pv (w0 rfl) rfl rfl (pv_move (v := (.bool (hearS ⟨xS, xA⟩ (xs.take k)).1)) rfl rfl) ?_)
            refine rw_cons (op_pv (w0 rfl) rfl rfl (pv_not rfl rfl) ?_)
            refine rw_cons (op_pv (w0 rfl) rfl rfl (pv_move (v := (.bool (!(hearS ⟨xS, xA⟩ (xs.take k)).1))) rfl rfl) ?_)
            refine rw_split 44 rfl (fun hb175 => ?_) (fun hb175 => ?_)
            · -- yes
              replace hb175 := not_t hb175
              refine rw_cons (op_pv (w1y rfl rfl rfl rfl) rfl rfl (pv_fld F39_0 rfl rfl) ?_)
              refine rw_cons (op_lv (w1y rfl rfl rfl rfl) rfl rfl (lv_load T3 rfl rfl (hB111.cellA (i := 0) rfl)) ?_)
              refine rw_cons (op_pv (w1y rfl rfl rfl rfl) rfl rfl (pv_fld F39_0 rfl rfl) ?_)
              refine rw_cons (op_lv (w1y rfl rfl rfl rfl) rfl rfl (lv_load T3 rfl rfl (hB8.cellA (i := 0) rfl)) ?_)
              refine rw_cons (op_pv (w1y rfl rfl rfl rfl) rfl rfl (pv_gtr rfl rfl rfl) ?_)
              refine rw_cons (op_pv (w0 rfl) rfl rfl (pv_pickT (v := (.bool (decide (xS < (el xs k).s)))) rfl rfl rfl) ?_)
              refine rw_nil (hK174 _ _ ?_)
              refine hK172 _ _ ?_
              refine cw_cond rfl (fun h176 => ?_) (fun h176 => ?_)
              · -- then
                replace h176 := of_decide_eq_true h176
                refine cw_seq fun K177 hK178 => ?_
                refine cw_region fun K179 hK180 => ?_
                refine rw_cons (op_pv (w0 rfl) rfl rfl (pv_move (v := (.slice Ao ((hearS ⟨xS, xA⟩ (xs.take k)).2).length co)) rfl rfl) ?_)
                refine rw_cons (op_lv (w0 rfl) rfl rfl (lv_loadN T39 rfl rfl rfl (fun j v hv => hB8.cellA hv)) ?_)
                refine rw_cons (op_bslice [(.agg #[(.int .i64 xS), (.int .i64 xA)])] Try.underlying23 T39 (w0 rfl) rfl rfl rfl rfl rfl (by simp [Value.cells]) (by decide) ?_)
                intro g182 w181 hg185 hg186 hK184 hch183
                have hO187 : Own encB 2 w181 w117.heap.size 39 (.slice (some ⟨g182, 0, none⟩) 1 1) ([⟨xS, xA⟩] : List Bt) := Blk.own (xs := ([⟨xS, xA⟩] : List Bt)) hK184 (by omega) rfl (by decide) rfl
                have hsz188 := hch183.size
                replace hRxs := hRxs.ch0 hch183
                replace hB8 := hB8.ch0 hch183
                replace hO42 := hO42.ch0 hch183
                replace hOut := hOut.ch0 hch183
                replace hB111 := hB111.ch0 hch183
                replace hc := hc.step0 hch183
                have hub189 := hO187.lt
                refine rw_cons (op_append Try.underlying23 T39 (fun _ => rfl) rfl (by decide) (fun _ => one_all rfl) (w0 rfl) rfl rfl rfl rfl rfl hOut (hO187.rs (fun _ => rfl)) (by unfold maxLen; first | omega | (simp; omega)) (by first | omega | (simp; omega)) (by omega) ?_)
                rintro v190 w191 hO192 hch193 hs194
                have hl195 : (((hearS ⟨xS, xA⟩ (xs.take k)).2) ++ ([⟨xS, xA⟩] : List Bt)).length = ((hearS ⟨xS, xA⟩ (xs.take k)).2).length + 1 := by first | (have hl0 := (hO187.rs (fun _ => rfl)).len; omega) | (have hl0 := (hO187.rs (fun _ => rfl)).len; simp only [List.length_append, List.length_cons, List.length_nil] at hl0 ⊢; omega) | simp | rfl
                clear hO187
                have hgl198 := hB8.lt
                have hgl200 := hB111.lt
                have hsz201 := hch193.size
                replace hRxs := hRxs.ch hch193 (hOut.off.le (by omega))
                replace hB8 := hB8.ch hch193 (fun hs => dj_asg hdj88 _ hs rfl)
                replace hO42 := hO42.ch hch193 (dj_as hdj87)
                replace hB111 := hB111.ch hch193 (fun hs => dj_asg hdj116 _ hs rfl)
                replace hc := (hOut.off.le (by omega)).step hc hch193
                have hub202 := hO192.lt
                obtain ⟨A203, c204, hv205, hcap206, hcap207⟩ := hO192.form; subst hv205
                have hdj196 : ∀ s ∈ obl (.slice A203 (((hearS ⟨xS, xA⟩ (xs.take k)).2) ++ ([⟨xS, xA⟩] : List Bt)).length c204), s ∉ obl (.slice (some ⟨g37, 0, none⟩) 1 1) := dj_new hs194 (dj_sw hdj87) (fun s hs => by have := hub44 s hs; omega)
                have hdj197 : ∀ s ∈ obl (.slice A203 (((hearS ⟨xS, xA⟩ (xs.take k)).2) ++ ([⟨xS, xA⟩] : List Bt)).length c204), s ≠ g6 := dj_newg hs194 (dj_asg hdj88) (by omega)
                have hdj199 : ∀ s ∈ obl (.slice A203 (((hearS ⟨xS, xA⟩ (xs.take k)).2) ++ ([⟨xS, xA⟩] : List Bt)).length c204), s ≠ g109 := dj_newg hs194 (dj_asg hdj116) (by omega)
                refine rw_cons (op_pv (w0 rfl) rfl rfl (pv_assign (v := (.slice A203 (((hearS ⟨xS, xA⟩ (xs.take k)).2) ++ ([⟨xS, xA⟩] : List Bt)).length c204)) rfl rfl) ?_)
                refine rw_nil (hK180 _ _ ?_)
                refine hK178 _ _ ?_
                refine cw_region fun K208 hK209 => ?_
                refine rw_cons (op_pv (w0 rfl) rfl rfl (pv_assign (v := (.bool true)) rfl rfl) ?_)
                refine rw_nil (hK209 _ _ ?_)
                refine hK122 _ _ ?_
                refine cw_region fun K210 hK211 => ?_
                refine rw_cons (op_pv (w0 rfl) rfl rfl (pv_move (v := (.slice A203 (((hearS ⟨xS, xA⟩ (xs.take k)).2) ++ ([⟨xS, xA⟩] : List Bt)).length c204)) rfl rfl) ?_)
                refine rw_cons (op_lv (w0 rfl) rfl rfl (lv_loadN T39 rfl rfl rfl (fun j v hv => hB111.cellA hv)) ?_)
                refine rw_cons (op_bslice [(.agg #[(.int .i64 (el xs k).s), (.int .i64 (el xs k).a)])] Try.underlying23 T39 (w0 rfl) rfl rfl rfl rfl rfl (by simp [Value.cells]) (by decide) ?_)
                intro g213 w212 hg216 hg217 hK215 hch214
                have hO218 : Own encB 2 w212 w191.heap.size 39 (.slice (some ⟨g213, 0, none⟩) 1 1) ([⟨(el xs k).s, (el xs k).a⟩] : List Bt) := Blk.own (xs := ([⟨(el xs k).s, (el xs k).a⟩] : List Bt)) hK215 (by omega) rfl (by decide) rfl
                have hsz219 := hch214.size
                replace hRxs := hRxs.ch0 hch214
                replace hB8 := hB8.ch0 hch214
                replace hO42 := hO42.ch0 hch214
                replace hB111 := hB111.ch0 hch214
                replace hO192 := hO192.ch0 hch214
                replace hc := hc.step0 hch214
                have hub220 := hO218.lt
                refine rw_cons (op_append Try.underlying23 T39 (fun _ => rfl) rfl (by decide) (fun _ => one_all rfl) (w0 rfl) rfl rfl rfl rfl rfl hO192 (hO218.rs (fun _ => rfl)) (by unfold maxLen; first | omega | (simp; omega)) (by first | omega | (simp; omega)) (by omega) ?_)
                rintro v221 w222 hO223 hch224 hs225
                have hl226 : ((((hearS ⟨xS, xA⟩ (xs.take k)).2) ++ ([⟨xS, xA⟩] : List Bt)) ++ ([⟨(el xs k).s, (el xs k).a⟩] : List Bt)).length = (((hearS ⟨xS, xA⟩ (xs.take k)).2) ++ ([⟨xS, xA⟩] : List Bt)).length + 1 := by first | (have hl0 := (hO218.rs (fun _ => rfl)).len; omega) | (have hl0 := (hO218.rs (fun _ => rfl)).len; simp only [List.length_append, List.length_cons, List.length_nil] at hl0 ⊢; omega) | simp | rfl
                clear hO218
                have hgl229 := hB8.lt
                have hgl231 := hB111.lt
                have hsz232 := hch224.size
                replace hRxs := hRxs.ch hch224 (hO192.off.le (by omega))
                replace hB8 := hB8.ch hch224 (fun hs => dj_asg hdj197 _ hs rfl)
                replace hO42 := hO42.ch hch224 (dj_sw hdj196)
                replace hB111 := hB111.ch hch224 (fun hs => dj_asg hdj199 _ hs rfl)
                replace hc := (hO192.off.le (by omega)).step hc hch224
                have hub233 := hO223.lt
                obtain ⟨A234, c235, hv236, hcap237, hcap238⟩ := hO223.form; subst hv236
                have hdj227 : ∀ s ∈ obl (.slice A234 ((((hearS ⟨xS, xA⟩ (xs.take k)).2) ++ ([⟨xS, xA⟩] : List Bt)) ++ ([⟨(el xs k).s, (el xs k).a⟩] : List Bt)).length c235), s ∉ obl (.slice (some ⟨g37, 0, none⟩) 1 1) := dj_new hs225 (dj_as hdj196) (fun s hs => by have := hub44 s hs; omega)
                have hdj228 : ∀ s ∈ obl (.slice A234 ((((hearS ⟨xS, xA⟩ (xs.take k)).2) ++ ([⟨xS, xA⟩] : List Bt)) ++ ([⟨(el xs k).s, (el xs k).a⟩] : List Bt)).length c235), s ≠ g6 := dj_newg hs225 (dj_asg hdj197) (by omega)
                have hdj230 : ∀ s ∈ obl (.slice A234 ((((hearS ⟨xS, xA⟩ (xs.take k)).2) ++ ([⟨xS, xA⟩] : List Bt)) ++ ([⟨(el xs k).s, (el xs k).a⟩] : List Bt)).length c235), s ≠ g109 := dj_newg hs225 (dj_asg hdj199) (by omega)
                refine rw_cons (op_pv (w0 rfl) rfl rfl (pv_assign (v := (.slice A234 ((((hearS ⟨xS, xA⟩ (xs.take k)).2) ++ ([⟨xS, xA⟩] : List Bt)) ++ ([⟨(el xs k).s, (el xs k).a⟩] : List Bt)).length c235)) rfl rfl) ?_)
                refine rw_nil (hK211 _ _ ?_)
                refine hK103 _ _ ?_
                refine cw_region fun K239 hK240 => ?_
                refine rw_cons (op_pv (w0 rfl) rfl rfl (pv_move (v := (.int .i64 (k : Int))) rfl rfl) ?_)
                refine rw_cons (op_pv (w0 rfl) rfl rfl (pv_add rfl rfl rfl (by omega) (by omega)) ?_)
                refine rw_cons (op_pv (w0 rfl) rfl rfl (pv_assign (v := (.int .i64 ((k : Int) + 1))) rfl rfl) ?_)
                refine rw_nil (hK240 _ _ ?_)
                have hEQ241 : ((((hearS ⟨xS, xA⟩ (xs.take k)).2) ++ ([⟨xS, xA⟩] : List Bt)) ++ ([⟨(el xs k).s, (el xs k).a⟩] : List Bt)) = (hearS ⟨xS, xA⟩ (xs.take (k + 1))).2 := by rw [hearB (x := ⟨xS, xA⟩) (xs := xs) (k := k) (by omega) (by show ¬(el xs k).s = xS; omega) (by assumption) (by show xS < (el xs k).s; omega)]
                have hO242 := own_as hO223 hEQ241
                refine hK90 _ _ (k + 1, A234, c235) ⟨(sl_as hO223 hEQ241), (bv (show true = (hearS ⟨xS, xA⟩ (xs.take (k + 1))).1 by rw [hearB (x := ⟨xS, xA⟩) (xs := xs) (k := k) (by omega) (by show ¬(el xs k).s = xS; omega) (by assumption) (by show xS < (el xs k).s; omega)])), (iv (by omega)), rfl, rfl, rfl, rfl, trivial⟩ ⟨?_, hRxs, hB8, hO42, hO242, hc, (by omega), (dj_sw hdj227), (dj_asg hdj228)⟩ ?_
                · omega
                · (first | omega | (simp only []; omega))
              · -- else
                replace h176 := of_decide_eq_false h176
                refine cw_skip ?_
                refine hK122 _ _ ?_
                refine cw_region fun K243 hK244 => ?_
                refine rw_cons (op_pv (w0 rfl) rfl rfl (pv_move (v := (.slice Ao ((hearS ⟨xS, xA⟩ (xs.take k)).2).length co)) rfl rfl) ?_)
                refine rw_cons (op_lv (w0 rfl) rfl rfl (lv_loadN T39 rfl rfl rfl (fun j v hv => hB111.cellA hv)) ?_)
                refine rw_cons (op_bslice [(.agg #[(.int .i64 (el xs k).s), (.int .i64 (el xs k).a)])] Try.underlying23 T39 (w0 rfl) rfl rfl rfl rfl rfl (by simp [Value.cells]) (by decide) ?_)
                intro g246 w245 hg249 hg250 hK248 hch247
                have hO251 : Own encB 2 w245 w117.heap.size 39 (.slice (some ⟨g246, 0, none⟩) 1 1) ([⟨(el xs k).s, (el xs k).a⟩] : List Bt) := Blk.own (xs := ([⟨(el xs k).s, (el xs k).a⟩] : List Bt)) hK248 (by omega) rfl (by decide) rfl
                have hsz252 := hch247.size
                replace hRxs := hRxs.ch0 hch247
                replace hB8 := hB8.ch0 hch247
                replace hO42 := hO42.ch0 hch247
                replace hOut := hOut.ch0 hch247
                replace hB111 := hB111.ch0 hch247
                replace hc := hc.step0 hch247
                have hub253 := hO251.lt
                refine rw_cons (op_append Try.underlying23 T39 (fun _ => rfl) rfl (by decide) (fun _ => one_all rfl) (w0 rfl) rfl rfl rfl rfl rfl hOut (hO251.rs (fun _ => rfl)) (by unfold maxLen; first | omega | (simp; omega)) (by first | omega | (simp; omega)) (by omega) ?_)
                rintro v254 w255 hO256 hch257 hs258
                have hl259 : (((hearS ⟨xS, xA⟩ (xs.take k)).2) ++ ([⟨(el xs k).s, (el xs k).a⟩] : List Bt)).length = ((hearS ⟨xS, xA⟩ (xs.take k)).2).length + 1 := by first | (have hl0 := (hO251.rs (fun _ => rfl)).len; omega) | (have hl0 := (hO251.rs (fun _ => rfl)).len; simp only [List.length_append, List.length_cons, List.length_nil] at hl0 ⊢; omega) | simp | rfl
                clear hO251
                have hgl262 := hB8.lt
                have hgl264 := hB111.lt
                have hsz265 := hch257.size
                replace hRxs := hRxs.ch hch257 (hOut.off.le (by omega))
                replace hB8 := hB8.ch hch257 (fun hs => dj_asg hdj88 _ hs rfl)
                replace hO42 := hO42.ch hch257 (dj_as hdj87)
                replace hB111 := hB111.ch hch257 (fun hs => dj_asg hdj116 _ hs rfl)
                replace hc := (hOut.off.le (by omega)).step hc hch257
                have hub266 := hO256.lt
                obtain ⟨A267, c268, hv269, hcap270, hcap271⟩ := hO256.form; subst hv269
                have hdj260 : ∀ s ∈ obl (.slice A267 (((hearS ⟨xS, xA⟩ (xs.take k)).2) ++ ([⟨(el xs k).s, (el xs k).a⟩] : List Bt)).length c268), s ∉ obl (.slice (some ⟨g37, 0, none⟩) 1 1) := dj_new hs258 (dj_sw hdj87) (fun s hs => by have := hub44 s hs; omega)
                have hdj261 : ∀ s ∈ obl (.slice A267 (((hearS ⟨xS, xA⟩ (xs.take k)).2) ++ ([⟨(el xs k).s, (el xs k).a⟩] : List Bt)).length c268), s ≠ g6 := dj_newg hs258 (dj_asg hdj88) (by omega)
                have hdj263 : ∀ s ∈ obl (.slice A267 (((hearS ⟨xS, xA⟩ (xs.take k)).2) ++ ([⟨(el xs k).s, (el xs k).a⟩] : List Bt)).length c268), s ≠ g109 := dj_newg hs258 (dj_asg hdj116) (by omega)
                refine rw_cons (op_pv (w0 rfl) rfl rfl (pv_assign (v := (.slice A267 (((hearS ⟨xS, xA⟩ (xs.take k)).2) ++ ([⟨(el xs k).s, (el xs k).a⟩] : List Bt)).length c268)) rfl rfl) ?_)
                refine rw_nil (hK244 _ _ ?_)
                refine hK103 _ _ ?_
                refine cw_region fun K272 hK273 => ?_
                refine rw_cons (op_pv (w0 rfl) rfl rfl (pv_move (v := (.int .i64 (k : Int))) rfl rfl) ?_)
                refine rw_cons (op_pv (w0 rfl) rfl rfl (pv_add rfl rfl rfl (by omega) (by omega)) ?_)
                refine rw_cons (op_pv (w0 rfl) rfl rfl (pv_assign (v := (.int .i64 ((k : Int) + 1))) rfl rfl) ?_)
                refine rw_nil (hK273 _ _ ?_)
                have hEQ274 : (((hearS ⟨xS, xA⟩ (xs.take k)).2) ++ ([⟨(el xs k).s, (el xs k).a⟩] : List Bt)) = (hearS ⟨xS, xA⟩ (xs.take (k + 1))).2 := by rw [hearC (x := ⟨xS, xA⟩) (xs := xs) (k := k) (by omega) (by show ¬(el xs k).s = xS; omega) (by rintro ⟨h8, h9⟩; first | (have h7 : xS < (el xs k).s := h9; omega) | (rw [h8] at *; contradiction) | simp_all)]
                have hO275 := own_as hO256 hEQ274
                refine hK90 _ _ (k + 1, A267, c268) ⟨(sl_as hO256 hEQ274), (bv (show (hearS ⟨xS, xA⟩ (xs.take k)).1 = (hearS ⟨xS, xA⟩ (xs.take (k + 1))).1 by rw [hearC (x := ⟨xS, xA⟩) (xs := xs) (k := k) (by omega) (by show ¬(el xs k).s = xS; omega) (by rintro ⟨h8, h9⟩; first | (have h7 : xS < (el xs k).s := h9; omega) | (rw [h8] at *; contradiction) | simp_all)])), (iv (by omega)), rfl, rfl, rfl, rfl, trivial⟩ ⟨?_, hRxs, hB8, hO42, hO275, hc, (by omega), (dj_sw hdj260), (dj_asg hdj261)⟩ ?_
                · omega
                · (first | omega | (simp only []; omega))
            · -- no
              replace hb175 := not_f hb175
              refine rw_cons (op_pass (w1n1 rfl rfl rfl rfl) rfl rfl ?_)
              refine rw_cons (op_pass (w1n1 rfl rfl rfl rfl) rfl rfl ?_)
              refine rw_cons (op_pass (w1n1 rfl rfl rfl rfl) rfl rfl ?_)
              refine rw_cons (op_pass (w1n1 rfl rfl rfl rfl) rfl rfl ?_)
              refine rw_cons (op_pass (w1n1 rfl rfl rfl rfl) rfl rfl ?_)
              refine rw_cons (op_pv (w0 rfl) rfl rfl (pv_pickF (v := (.bool false)) rfl rfl rfl) ?_)
              refine rw_nil (hK174 _ _ ?_)
              refine hK172 _ _ ?_
              refine cw_cond rfl (fun h276 => ?_) (fun h276 => ?_)
              · -- then
                cases h276
              · -- else
                clear h276
                refine cw_skip ?_
                refine hK122 _ _ ?_
                refine cw_region fun K277 hK278 => ?_
                refine rw_cons (op_pv (w0 rfl) rfl rfl (pv_move (v := (.slice Ao ((hearS ⟨xS, xA⟩ (xs.take k)).2).length co)) rfl rfl) ?_)
                refine rw_cons (op_lv (w0 rfl) rfl rfl (lv_loadN T39 rfl rfl rfl (fun j v hv => hB111.cellA hv)) ?_)
                refine rw_cons (op_bslice [(.agg #[(.int .i64 (el xs k).s), (.int .i64 (el xs k).a)])] Try.underlying23 T39 (w0 rfl) rfl rfl rfl rfl rfl (by simp [Value.cells]) (by decide) ?_)
                intro g280 w279 hg283 hg284 hK282 hch281
                have hO285 : Own encB 2 w279 w117.heap.size 39 (.slice (some ⟨g280, 0, none⟩) 1 1) ([⟨(el xs k).s, (el xs k).a⟩] : List Bt) := Blk.own (xs := ([⟨(el xs k).s, (el xs k).a⟩] : List Bt)) hK282 (by omega) rfl (by decide) rfl
                have hsz286 := hch281.size
                replace hRxs := hRxs.ch0 hch281
                replace hB8 := hB8.ch0 hch281
                replace hO42 := hO42.ch0 hch281
                replace hOut := hOut.ch0 hch281
                replace hB111 := hB111.ch0 hch281
                replace hc := hc.step0 hch281
                have hub287 := hO285.lt
                refine rw_cons (op_append Try.underlying23 T39 (fun _ => rfl) rfl (by decide) (fun _ => one_all rfl) (w0 rfl) rfl rfl rfl rfl rfl hOut (hO285.rs (fun _ => rfl)) (by unfold maxLen; first | omega | (simp; omega)) (by first | omega | (simp; omega)) (by omega) ?_)
                rintro v288 w289 hO290 hch291 hs292
                have hl293 : (((hearS ⟨xS, xA⟩ (xs.take k)).2) ++ ([⟨(el xs k).s, (el xs k).a⟩] : List Bt)).length = ((hearS ⟨xS, xA⟩ (xs.take k)).2).length + 1 := by first | (have hl0 := (hO285.rs (fun _ => rfl)).len; omega) | (have hl0 := (hO285.rs (fun _ => rfl)).len; simp only [List.length_append, List.length_cons, List.length_nil] at hl0 ⊢; omega) | simp | rfl
                clear hO285
                have hgl296 := hB8.lt
                have hgl298 := hB111.lt
                have hsz299 := hch291.size
                replace hRxs := hRxs.ch hch291 (hOut.off.le (by omega))
                replace hB8 := hB8.ch hch291 (fun hs => dj_asg hdj88 _ hs rfl)
                replace hO42 := hO42.ch hch291 (dj_as hdj87)
                replace hB111 := hB111.ch hch291 (fun hs => dj_asg hdj116 _ hs rfl)
                replace hc := (hOut.off.le (by omega)).step hc hch291
                have hub300 := hO290.lt
                obtain ⟨A301, c302, hv303, hcap304, hcap305⟩ := hO290.form; subst hv303
                have hdj294 : ∀ s ∈ obl (.slice A301 (((hearS ⟨xS, xA⟩ (xs.take k)).2) ++ ([⟨(el xs k).s, (el xs k).a⟩] : List Bt)).length c302), s ∉ obl (.slice (some ⟨g37, 0, none⟩) 1 1) := dj_new hs292 (dj_sw hdj87) (fun s hs => by have := hub44 s hs; omega)
                have hdj295 : ∀ s ∈ obl (.slice A301 (((hearS ⟨xS, xA⟩ (xs.take k)).2) ++ ([⟨(el xs k).s, (el xs k).a⟩] : List Bt)).length c302), s ≠ g6 := dj_newg hs292 (dj_asg hdj88) (by omega)
                have hdj297 : ∀ s ∈ obl (.slice A301 (((hearS ⟨xS, xA⟩ (xs.take k)).2) ++ ([⟨(el xs k).s, (el xs k).a⟩] : List Bt)).length c302), s ≠ g109 := dj_newg hs292 (dj_asg hdj116) (by omega)
                refine rw_cons (op_pv (w0 rfl) rfl rfl (pv_assign (v := (.slice A301 (((hearS ⟨xS, xA⟩ (xs.take k)).2) ++ ([⟨(el xs k).s, (el xs k).a⟩] : List Bt)).length c302)) rfl rfl) ?_)
                refine rw_nil (hK278 _ _ ?_)
                refine hK103 _ _ ?_
                refine cw_region fun K306 hK307 => ?_
                refine rw_cons (op_pv (w0 rfl) rfl rfl (pv_move (v := (.int .i64 (k : Int))) rfl rfl) ?_)
                refine rw_cons (op_pv (w0 rfl) rfl rfl (pv_add rfl rfl rfl (by omega) (by omega)) ?_)
                refine rw_cons (op_pv (w0 rfl) rfl rfl (pv_assign (v := (.int .i64 ((k : Int) + 1))) rfl rfl) ?_)
                refine rw_nil (hK307 _ _ ?_)
                have hEQ308 : (((hearS ⟨xS, xA⟩ (xs.take k)).2) ++ ([⟨(el xs k).s, (el xs k).a⟩] : List Bt)) = (hearS ⟨xS, xA⟩ (xs.take (k + 1))).2 := by rw [hearC (x := ⟨xS, xA⟩) (xs := xs) (k := k) (by omega) (by show ¬(el xs k).s = xS; omega) (by rintro ⟨h8, h9⟩; first | (have h7 : xS < (el xs k).s := h9; omega) | (rw [h8] at *; contradiction) | simp_all)]
                have hO309 := own_as hO290 hEQ308
                refine hK90 _ _ (k + 1, A301, c302) ⟨(sl_as hO290 hEQ308), (bv (show (hearS ⟨xS, xA⟩ (xs.take k)).1 = (hearS ⟨xS, xA⟩ (xs.take (k + 1))).1 by rw [hearC (x := ⟨xS, xA⟩) (xs := xs) (k := k) (by omega) (by show ¬(el xs k).s = xS; omega) (by rintro ⟨h8, h9⟩; first | (have h7 : xS < (el xs k).s := h9; omega) | (rw [h8] at *; contradiction) | simp_all)])), (iv (by omega)), rfl, rfl, rfl, rfl, trivial⟩ ⟨?_, hRxs, hB8, hO42, hO309, hc, (by omega), (dj_sw hdj294), (dj_asg hdj295)⟩ ?_
                · omega
                · (first | omega | (simp only []; omega))
        · -- else
          replace h101 := of_decide_eq_false h101
          refine cw_exit ?_
          refine hK80 _ _ ?_
          refine cw_seq fun K310 hK311 => ?_
          refine cw_seq fun K312 hK313 => ?_
          refine cw_region fun K314 hK315 => ?_
          refine rw_cons (op_pv (w0 rfl) rfl rfl (pv_move (v := (.bool (hearS ⟨xS, xA⟩ (xs.take k)).1)) rfl rfl) ?_)
          refine rw_cons (op_pv (w0 rfl) rfl rfl (pv_not rfl rfl) ?_)
          refine rw_nil (hK315 _ _ ?_)
          refine hK313 _ _ ?_
          refine cw_cond rfl (fun h316 => ?_) (fun h316 => ?_)
          · -- then
            replace h316 := not_t h316
            refine cw_region fun K317 hK318 => ?_
            refine rw_cons (op_pv (w0 rfl) rfl rfl (pv_move (v := (.slice Ao ((hearS ⟨xS, xA⟩ (xs.take k)).2).length co)) rfl rfl) ?_)
            refine rw_cons (op_lv (w0 rfl) rfl rfl (lv_loadN T39 rfl rfl rfl (fun j v hv => hB8.cellA hv)) ?_)
            refine rw_cons (op_bslice [(.agg #[(.int .i64 xS), (.int .i64 xA)])] Try.underlying23 T39 (w0 rfl) rfl rfl rfl rfl rfl (by simp [Value.cells]) (by decide) ?_)
            intro g320 w319 hg323 hg324 hK322 hch321
            have hO325 : Own encB 2 w319 w85.heap.size 39 (.slice (some ⟨g320, 0, none⟩) 1 1) ([⟨xS, xA⟩] : List Bt) := Blk.own (xs := ([⟨xS, xA⟩] : List Bt)) hK322 (by omega) rfl (by decide) rfl
            have hsz326 := hch321.size
            replace hRxs := hRxs.ch0 hch321
            replace hB8 := hB8.ch0 hch321
            replace hO42 := hO42.ch0 hch321
            replace hOut := hOut.ch0 hch321
            replace hc := hc.step0 hch321
            have hub327 := hO325.lt
            refine rw_cons (op_append Try.underlying23 T39 (fun _ => rfl) rfl (by decide) (fun _ => one_all rfl) (w0 rfl) rfl rfl rfl rfl rfl hOut (hO325.rs (fun _ => rfl)) (by unfold maxLen; first | omega | (simp; omega)) (by first | omega | (simp; omega)) (by omega) ?_)
            rintro v328 w329 hO330 hch331 hs332
            have hl333 : (((hearS ⟨xS, xA⟩ (xs.take k)).2) ++ ([⟨xS, xA⟩] : List Bt)).length = ((hearS ⟨xS, xA⟩ (xs.take k)).2).length + 1 := by first | (have hl0 := (hO325.rs (fun _ => rfl)).len; omega) | (have hl0 := (hO325.rs (fun _ => rfl)).len; simp only [List.length_append, List.length_cons, List.length_nil] at hl0 ⊢; omega) | simp | rfl
            clear hO325
            have hgl336 := hB8.lt
            have hsz337 := hch331.size
            replace hRxs := hRxs.ch hch331 (hOut.off.le (by omega))
            replace hB8 := hB8.ch hch331 (fun hs => dj_asg hdj88 _ hs rfl)
            replace hO42 := hO42.ch hch331 (dj_as hdj87)
            replace hc := (hOut.off.le (by omega)).step hc hch331
            have hub338 := hO330.lt
            obtain ⟨A339, c340, hv341, hcap342, hcap343⟩ := hO330.form; subst hv341
            have hdj334 : ∀ s ∈ obl (.slice A339 (((hearS ⟨xS, xA⟩ (xs.take k)).2) ++ ([⟨xS, xA⟩] : List Bt)).length c340), s ∉ obl (.slice (some ⟨g37, 0, none⟩) 1 1) := dj_new hs332 (dj_sw hdj87) (fun s hs => by have := hub44 s hs; omega)
            have hdj335 : ∀ s ∈ obl (.slice A339 (((hearS ⟨xS, xA⟩ (xs.take k)).2) ++ ([⟨xS, xA⟩] : List Bt)).length c340), s ≠ g6 := dj_newg hs332 (dj_asg hdj88) (by omega)
            refine rw_cons (op_pv (w0 rfl) rfl rfl (pv_assign (v := (.slice A339 (((hearS ⟨xS, xA⟩ (xs.take k)).2) ++ ([⟨xS, xA⟩] : List Bt)).length c340)) rfl rfl) ?_)
            refine rw_nil (hK318 _ _ ?_)
            refine hK311 _ _ ?_
            refine cw_seq fun K344 hK345 => ?_
            refine cw_seq fun K346 hK347 => ?_
            have hrn348 : (((hearS ⟨xS, xA⟩ (xs.take k)).2) ++ ([⟨xS, xA⟩] : List Bt)) = (hearL xs ⟨xS, xA⟩) := hear_no (by omega) (‹BeatsOK xs›).asc (by assumption)
            rw [hrn348] at hO330
            try dsimp only
            try rw [hrn348]
            have hub349 := hO330.lt
            have hhl := hear_len xs ⟨xS, xA⟩
            refine cw_region fun K350 hK351 => ?_
            refine rw_cons (op_pv (w0 rfl) rfl rfl (pv_move (v := (.slice A339 (hearL xs ⟨xS, xA⟩).length c340)) rfl rfl) ?_)
            refine rw_cons (op_call (w0 rfl) rfl rfl (rc_call C18 rfl rfl) (BeatsValid_s _ _ _ (hearL xs ⟨xS, xA⟩) _ (hO330.rs (fun _ => rfl)) (by omega)) ?_)
            rintro _ w352 ⟨rfl, hch353⟩
            have hsz354 := hch353.size
            replace hRxs := hRxs.ch0 hch353
            replace hB8 := hB8.ch0 hch353
            replace hO42 := hO42.ch0 hch353
            replace hO330 := hO330.ch0 hch353
            replace hc := hc.step0 hch353
            refine rw_cons (op_pv (w0 rfl) rfl rfl (pv_not rfl rfl) ?_)
            refine rw_nil (hK351 _ _ ?_)
            refine hK347 _ _ ?_
            refine cw_cond rfl (fun h355 => ?_) (fun h355 => ?_)
            · -- then
              replace h355 := not_t h355
              replace h355 := dec_f h355
              refine cw_seq fun K356 hK357 => ?_
              refine cw_region fun K358 hK359 => ?_
              refine rw_cons (op_bslice [] Try.underlying23 T39 (w0 rfl) rfl rfl rfl rfl rfl (by simp [Value.cells]) (by decide) ?_)
              intro g361 w360 hg364 hg365 hK363 hch362
              have hO366 : Own encB 2 w360 w352.heap.size 39 (.slice (some ⟨g361, 0, none⟩) 0 0) ([] : List Bt) := Blk.own (xs := ([] : List Bt)) hK363 (by omega) rfl (by decide) rfl
              have hsz367 := hch362.size
              replace hRxs := hRxs.ch0 hch362
              replace hB8 := hB8.ch0 hch362
              replace hO42 := hO42.ch0 hch362
              replace hO330 := hO330.ch0 hch362
              replace hc := hc.step0 hch362
              have hub368 := hO366.lt
              refine rw_cons (op_pv (w0 rfl) rfl rfl (pv_assign (v := (.slice (some ⟨g361, 0, none⟩) 0 0)) rfl rfl) ?_)
              refine rw_cons (op_pv (w0 rfl) rfl rfl (pv_assign (v := (.bool false)) rfl rfl) ?_)
              refine rw_nil (hK359 _ _ ?_)
              refine hK357 _ _ ?_
              refine cw_ret ?_
              refine fin2 rfl rfl ?_
              have hno : ¬ HearOK xs ⟨xS, xA⟩ := (by rintro ⟨h1, h2, h3⟩; have h2b : (1 ≤ xS ∧ xS ≤ 99) ∧ (0 ≤ xA ∧ xA ≤ 9999) := h2; first | contradiction | omega | exact absurd (beats_one.2 h2) (by assumption))
              have he_0 : ([] : List Bt) = hearV xs ⟨xS, xA⟩ := (hearV_no hno).symm
              exact ⟨_, _, tup2 (sl_as hO366 he_0) (bvf hno), own_as (hO366.less (by omega)) he_0, hc⟩
            · -- else
              replace h355 := not_f h355
              replace h355 := dec_t h355
              refine cw_skip ?_
              refine hK345 _ _ ?_
              refine cw_seq fun K369 hK370 => ?_
              refine cw_region fun K371 hK372 => ?_
              refine rw_cons (op_pv (w0 rfl) rfl rfl (pv_move (v := (.slice A339 (hearL xs ⟨xS, xA⟩).length c340)) rfl rfl) ?_)
              refine rw_cons (op_pv (w0 rfl) rfl rfl (pv_assign (v := (.slice A339 (hearL xs ⟨xS, xA⟩).length c340)) rfl rfl) ?_)
              refine rw_cons (op_pv (w0 rfl) rfl rfl (pv_assign (v := (.bool true)) rfl rfl) ?_)
              refine rw_nil (hK372 _ _ ?_)
              refine hK370 _ _ ?_
              refine cw_ret ?_
              refine fin2 rfl rfl ?_
              have hb2 : BtOK ⟨xS, xA⟩ := by first | exact beats_one.1 (by assumption) | (show (1 ≤ xS ∧ xS ≤ 99) ∧ (0 ≤ xA ∧ xA ≤ 9999); omega)
              have hyes : HearOK xs ⟨xS, xA⟩ := ⟨‹BeatsOK xs›, hb2, by assumption⟩
              have he_0 : (hearL xs ⟨xS, xA⟩) = hearV xs ⟨xS, xA⟩ := (hearV_yes hyes).symm
              exact ⟨_, _, tup2 (sl_as hO330 he_0) (bvt hyes), own_as (hO330.less (by omega)) he_0, hc⟩
          · -- else
            replace h316 := not_f h316
            refine cw_skip ?_
            refine hK311 _ _ ?_
            refine cw_seq fun K373 hK374 => ?_
            refine cw_seq fun K375 hK376 => ?_
            have hrn377 : ((hearS ⟨xS, xA⟩ (xs.take k)).2) = (hearL xs ⟨xS, xA⟩) := hear_yes (by omega) (‹BeatsOK xs›).asc (by assumption)
            rw [hrn377] at hOut
            try dsimp only
            try rw [hrn377]
            have hub378 := hOut.lt
            have hhl := hear_len xs ⟨xS, xA⟩
            refine cw_region fun K379 hK380 => ?_
            refine rw_cons (op_pv (w0 rfl) rfl rfl (pv_move (v := (.slice Ao (hearL xs ⟨xS, xA⟩).length co)) rfl rfl) ?_)
            refine rw_cons (op_call (w0 rfl) rfl rfl (rc_call C18 rfl rfl) (BeatsValid_s _ _ _ (hearL xs ⟨xS, xA⟩) _ (hOut.rs (fun _ => rfl)) (by omega)) ?_)
            rintro _ w381 ⟨rfl, hch382⟩
            have hsz383 := hch382.size
            replace hRxs := hRxs.ch0 hch382
            replace hB8 := hB8.ch0 hch382
            replace hO42 := hO42.ch0 hch382
            replace hOut := hOut.ch0 hch382
            replace hc := hc.step0 hch382
            refine rw_cons (op_pv (w0 rfl) rfl rfl (pv_not rfl rfl) ?_)
            refine rw_nil (hK380 _ _ ?_)
            refine hK376 _ _ ?_
            refine cw_cond rfl (fun h384 => ?_) (fun h384 => ?_)
            · -- then
              replace h384 := not_t h384
              replace h384 := dec_f h384
              refine cw_seq fun K385 hK386 => ?_
              refine cw_region fun K387 hK388 => ?_
              refine rw_cons (op_bslice [] Try.underlying23 T39 (w0 rfl) rfl rfl rfl rfl rfl (by simp [Value.cells]) (by decide) ?_)
              intro g390 w389 hg393 hg394 hK392 hch391
              have hO395 : Own encB 2 w389 w381.heap.size 39 (.slice (some ⟨g390, 0, none⟩) 0 0) ([] : List Bt) := Blk.own (xs := ([] : List Bt)) hK392 (by omega) rfl (by decide) rfl
              have hsz396 := hch391.size
              replace hRxs := hRxs.ch0 hch391
              replace hB8 := hB8.ch0 hch391
              replace hO42 := hO42.ch0 hch391
              replace hOut := hOut.ch0 hch391
              replace hc := hc.step0 hch391
              have hub397 := hO395.lt
              refine rw_cons (op_pv (w0 rfl) rfl rfl (pv_assign (v := (.slice (some ⟨g390, 0, none⟩) 0 0)) rfl rfl) ?_)
              refine rw_cons (op_pv (w0 rfl) rfl rfl (pv_assign (v := (.bool false)) rfl rfl) ?_)
              refine rw_nil (hK388 _ _ ?_)
              refine hK386 _ _ ?_
              refine cw_ret ?_
              refine fin2 rfl rfl ?_
              have hno : ¬ HearOK xs ⟨xS, xA⟩ := (by rintro ⟨h1, h2, h3⟩; have h2b : (1 ≤ xS ∧ xS ≤ 99) ∧ (0 ≤ xA ∧ xA ≤ 9999) := h2; first | contradiction | omega | exact absurd (beats_one.2 h2) (by assumption))
              have he_0 : ([] : List Bt) = hearV xs ⟨xS, xA⟩ := (hearV_no hno).symm
              exact ⟨_, _, tup2 (sl_as hO395 he_0) (bvf hno), own_as (hO395.less (by omega)) he_0, hc⟩
            · -- else
              replace h384 := not_f h384
              replace h384 := dec_t h384
              refine cw_skip ?_
              refine hK374 _ _ ?_
              refine cw_seq fun K398 hK399 => ?_
              refine cw_region fun K400 hK401 => ?_
              refine rw_cons (op_pv (w0 rfl) rfl rfl (pv_move (v := (.slice Ao (hearL xs ⟨xS, xA⟩).length co)) rfl rfl) ?_)
              refine rw_cons (op_pv (w0 rfl) rfl rfl (pv_assign (v := (.slice Ao (hearL xs ⟨xS, xA⟩).length co)) rfl rfl) ?_)
              refine rw_cons (op_pv (w0 rfl) rfl rfl (pv_assign (v := (.bool true)) rfl rfl) ?_)
              refine rw_nil (hK401 _ _ ?_)
              refine hK399 _ _ ?_
              refine cw_ret ?_
              refine fin2 rfl rfl ?_
              have hb2 : BtOK ⟨xS, xA⟩ := by first | exact beats_one.1 (by assumption) | (show (1 ≤ xS ∧ xS ≤ 99) ∧ (0 ≤ xA ∧ xA ≤ 9999); omega)
              have hyes : HearOK xs ⟨xS, xA⟩ := ⟨‹BeatsOK xs›, hb2, by assumption⟩
              have he_0 : (hearL xs ⟨xS, xA⟩) = hearV xs ⟨xS, xA⟩ := (hearV_yes hyes).symm
              exact ⟨_, _, tup2 (sl_as hOut he_0) (bvt hyes), own_as (hOut.less (by omega)) he_0, hc⟩
end Go.Proofs.Ytnkjljjcionfiaa
