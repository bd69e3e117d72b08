/-
  The walk of impl.PlaceOf, written by program: each line names the law of one operation. Conditions: those of the theorem.
-/
import Derived.Test.YtielahdnccocdaaProg
import Derived.Test.YtielahdnccocdaaRank
import Derived.Test.YtielahdnccocdaaRank2
import Derived.Test.YtielahdnccocdaaIface
import Derived.Test.YtielahdnccocdaaFimplidValid
import Derived.Test.YtielahdnccocdaaFimplServersValid
import Derived.Test.YtielahdnccocdaaFimplPlaceScore
import Derived.Test.YtielahdnccocdaaFcontainerheapPush
import Derived.Test.YtielahdnccocdaaFcontainerheapPop
import Derived.KernelRfl
namespace Go.Proofs.Ytielahdnccocdaa
open Go Go.RowKit
set_option linter.unusedVariables false
set_option linter.unusedSimpArgs false
namespace PlaceOf_iF
theorem T3 : TI Try.prog 3 false (.int .i64 0) 1 8 := TI.mk' Try.underlying3 rfl (by kernel_rfl)
theorem T53 : TI Try.prog 53 true (.agg #[.int .i64 0, .int .i64 0]) 2 16 := TI.mk' Try.underlying53 rfl (by kernel_rfl)
theorem C14 : Callable Try.prog 14 := ⟨_, Try.func14, by kernel_rfl, by kernel_rfl⟩
theorem C17 : Callable Try.prog 17 := ⟨_, Try.func17, by kernel_rfl, by kernel_rfl⟩
theorem C30 : Callable Try.prog 30 := ⟨_, Try.func30, by kernel_rfl, by kernel_rfl⟩
theorem C36 : Callable Try.prog 36 := ⟨_, Try.func36, by kernel_rfl, by kernel_rfl⟩
theorem C37 : Callable Try.prog 37 := ⟨_, Try.func37, by kernel_rfl, by kernel_rfl⟩
theorem B53_0I_1I (a0 : Int) (a1 : Int) (u : World) : (Instr.build 53 #[(0, .int .i64 a0), (1, .int .i64 a1)]).run Try.prog u = .ok (.agg #[.int .i64 a0, .int .i64 a1]) u := by kernel_rfl
end PlaceOf_iF
open PlaceOf_iF in
set_option maxHeartbeats 4000000 in
theorem PlaceOf_i (p : Int) (Axs : Option Addr) (nxs cxs : Nat) (xs : List Int) (m : Int) (w : World) (hRxs : RS encI 1 w w.heap.size Axs nxs xs) (hNxs : nxs ≤ 1099511627776) :
    Fn Try.prog 22 [(.int .i64 p), (.slice Axs nxs cxs), (.int .i64 m)] w fun v w' => ∃ A_0 c_0, v = .tuple #[.slice A_0 (placeV p xs m).length c_0, .bool (dec (PlaceOK p xs m))] ∧ Own encI 1 w' w.heap.size 3 (.slice A_0 (placeV p xs m).length c_0) (placeV p xs m) ∧ Ch [] w w' := by
  have hlenxs := hRxs.len
  refine fn_of (n := 63) Try.func22 rfl rfl rfl rfl ?_
  have hc : Ch [] w w := Ch.refl _ _
  refine cw_seq fun K1 hK2 => ?_
  refine cw_region fun K3 hK4 => ?_
  refine rw_cons (op_pv (w0 rfl) rfl rfl (pv_assign (v := (.slice none 0 0)) rfl rfl) ?_)
  refine rw_cons (op_pv (w0 rfl) rfl rfl (pv_assign (v := (.bool false)) rfl rfl) ?_)
  refine rw_nil (hK4 _ _ ?_)
  refine hK2 _ _ ?_
  refine cw_seq fun K5 hK6 => ?_
  refine cw_seq fun K7 hK8 => ?_
  refine cw_region fun K9 hK10 => ?_
  refine rw_cons (op_pv (w0 rfl) rfl rfl (pv_move (v := (.int .i64 p)) rfl rfl) ?_)
  refine rw_cons (op_call (w0 rfl) rfl rfl (rc_call C30 rfl rfl) (idValid_ok p _  ) ?_)
  rintro _ w11 ⟨rfl, hch12⟩
  have hsz13 := hch12.size
  replace hRxs := hRxs.ch0 hch12
  replace hc := hc.step0 hch12
  refine rw_cons (op_pv (w0 rfl) rfl rfl (pv_not rfl rfl) ?_)
  refine rw_cons (op_pv (w0 rfl) rfl rfl (pv_move (v := (.bool (!(dec (1 ≤ p ∧ p ≤ 99))))) rfl rfl) ?_)
  refine rw_split 15 rfl (fun hb14 => ?_) (fun hb14 => ?_)
  · -- yes
    replace hb14 := not_t hb14
    replace hb14 := dec_f hb14
    refine rw_cons (op_pass (w1n2 rfl rfl rfl rfl) rfl rfl ?_)
    refine rw_cons (op_pass (w1n2 rfl rfl rfl rfl) rfl rfl ?_)
    refine rw_cons (op_pass (w1n2 rfl rfl rfl rfl) rfl rfl ?_)
    refine rw_cons (op_pv (w0 rfl) rfl rfl (pv_pickT (v := (.bool true)) rfl rfl rfl) ?_)
    refine rw_cons (op_pv (w0 rfl) rfl rfl (pv_move (v := (.bool true)) rfl rfl) ?_)
    refine rw_cons (op_pass (w1n2 rfl rfl rfl rfl) rfl rfl ?_)
    refine rw_cons (op_pass (w1n2 rfl rfl rfl rfl) rfl rfl ?_)
    refine rw_cons (op_pv (w0 rfl) rfl rfl (pv_pickT (v := (.bool true)) rfl rfl rfl) ?_)
    refine rw_cons (op_pv (w0 rfl) rfl rfl (pv_move (v := (.bool true)) rfl rfl) ?_)
    refine rw_cons (op_pass (w1n2 rfl rfl rfl rfl) rfl rfl ?_)
    refine rw_cons (op_pass (w1n2 rfl rfl rfl rfl) rfl rfl ?_)
    refine rw_cons (op_pass (w1n2 rfl rfl rfl rfl) rfl rfl ?_)
    refine rw_cons (op_pass (w1n2 rfl rfl rfl rfl) rfl rfl ?_)
    refine rw_cons (op_pv (w0 rfl) rfl rfl (pv_pickT (v := (.bool true)) rfl rfl rfl) ?_)
    refine rw_nil (hK10 _ _ ?_)
    refine hK8 _ _ ?_
    refine cw_cond rfl (fun h15 => ?_) (fun h15 => ?_)
    · -- then
      clear h15
      refine cw_seq fun K16 hK17 => ?_
      refine cw_region fun K18 hK19 => ?_
      refine rw_cons (op_bslice [] Try.underlying24 T3 (w0 rfl) rfl rfl rfl rfl rfl (by simp [Value.cells]) (by decide) ?_)
      intro g21 w20 hg24 hg25 hK23 hch22
      have hO26 : Own encI 1 w20 w11.heap.size 3 (.slice (some ⟨g21, 0, none⟩) 0 0) ([] : List Int) := Blk.own (xs := ([] : List Int)) hK23 (by omega) rfl (by decide) rfl
      have hsz27 := hch22.size
      replace hRxs := hRxs.ch0 hch22
      replace hc := hc.step0 hch22
      have hub28 := hO26.lt
      refine rw_cons (op_pv (w0 rfl) rfl rfl (pv_assign (v := (.slice (some ⟨g21, 0, none⟩) 0 0)) rfl rfl) ?_)
      refine rw_cons (op_pv (w0 rfl) rfl rfl (pv_assign (v := (.bool false)) rfl rfl) ?_)
      refine rw_nil (hK19 _ _ ?_)
      refine hK17 _ _ ?_
      refine cw_ret ?_
      refine fin2 rfl rfl ?_
      have hno : ¬PlaceOK p xs m := by rintro ⟨h1, h2, h3, h4⟩; first | contradiction | omega
      have he_0 : ([] : List Int) = placeV p xs m := (placeV_no hno).symm
      exact ⟨_, _, tup2 (sl_as hO26 he_0) (bvf hno), own_as (hO26.less (by omega)) he_0, hc⟩
    · -- else
      cases h15
  · -- no
    replace hb14 := not_f hb14
    replace hb14 := dec_t hb14
    refine rw_cons (op_pv (w1y rfl rfl rfl rfl) rfl rfl (pv_move (v := (.slice Axs nxs cxs)) rfl rfl) ?_)
    refine rw_cons (op_call (w1y rfl rfl rfl rfl) rfl rfl (rc_call C17 rfl rfl) (ServersValid_i _ _ _ xs _ (hRxs.more (by omega)) (by omega)) ?_)
    rintro _ w29 ⟨rfl, hch30⟩
    have hsz31 := hch30.size
    replace hRxs := hRxs.ch0 hch30
    replace hc := hc.step0 hch30
    refine rw_cons (op_pv (w1y rfl rfl rfl rfl) rfl rfl (pv_not rfl rfl) ?_)
    refine rw_cons (op_pv (w0 rfl) rfl rfl (pv_pickF (v := (.bool (!(dec (ServersOK xs))))) rfl rfl rfl) ?_)
    refine rw_cons (op_pv (w0 rfl) rfl rfl (pv_move (v := (.bool (!(dec (ServersOK xs))))) rfl rfl) ?_)
    refine rw_split 20 rfl (fun hb32 => ?_) (fun hb32 => ?_)
    · -- yes
      replace hb32 := not_t hb32
      replace hb32 := dec_f hb32
      refine rw_cons (op_pass (w1n2 rfl rfl rfl rfl) rfl rfl ?_)
      refine rw_cons (op_pass (w1n2 rfl rfl rfl rfl) rfl rfl ?_)
      refine rw_cons (op_pv (w0 rfl) rfl rfl (pv_pickT (v := (.bool true)) rfl rfl rfl) ?_)
      refine rw_cons (op_pv (w0 rfl) rfl rfl (pv_move (v := (.bool true)) rfl rfl) ?_)
      refine rw_cons (op_pass (w1n2 rfl rfl rfl rfl) rfl rfl ?_)
      refine rw_cons (op_pass (w1n2 rfl rfl rfl rfl) rfl rfl ?_)
      refine rw_cons (op_pass (w1n2 rfl rfl rfl rfl) rfl rfl ?_)
      refine rw_cons (op_pass (w1n2 rfl rfl rfl rfl) rfl rfl ?_)
      refine rw_cons (op_pv (w0 rfl) rfl rfl (pv_pickT (v := (.bool true)) rfl rfl rfl) ?_)
      refine rw_nil (hK10 _ _ ?_)
      refine hK8 _ _ ?_
      refine cw_cond rfl (fun h33 => ?_) (fun h33 => ?_)
      · -- then
        clear h33
        refine cw_seq fun K34 hK35 => ?_
        refine cw_region fun K36 hK37 => ?_
        refine rw_cons (op_bslice [] Try.underlying24 T3 (w0 rfl) rfl rfl rfl rfl rfl (by simp [Value.cells]) (by decide) ?_)
        intro g39 w38 hg42 hg43 hK41 hch40
        have hO44 : Own encI 1 w38 w29.heap.size 3 (.slice (some ⟨g39, 0, none⟩) 0 0) ([] : List Int) := Blk.own (xs := ([] : List Int)) hK41 (by omega) rfl (by decide) rfl
        have hsz45 := hch40.size
        replace hRxs := hRxs.ch0 hch40
        replace hc := hc.step0 hch40
        have hub46 := hO44.lt
        refine rw_cons (op_pv (w0 rfl) rfl rfl (pv_assign (v := (.slice (some ⟨g39, 0, none⟩) 0 0)) rfl rfl) ?_)
        refine rw_cons (op_pv (w0 rfl) rfl rfl (pv_assign (v := (.bool false)) rfl rfl) ?_)
        refine rw_nil (hK37 _ _ ?_)
        refine hK35 _ _ ?_
        refine cw_ret ?_
        refine fin2 rfl rfl ?_
        have hno : ¬PlaceOK p xs m := by rintro ⟨h1, h2, h3, h4⟩; first | contradiction | omega
        have he_0 : ([] : List Int) = placeV p xs m := (placeV_no hno).symm
        exact ⟨_, _, tup2 (sl_as hO44 he_0) (bvf hno), own_as (hO44.less (by omega)) he_0, hc⟩
      · -- else
        cases h33
    · -- no
      replace hb32 := not_f hb32
      replace hb32 := dec_t hb32
      refine rw_cons (op_pv (w1y rfl rfl rfl rfl) rfl rfl (pv_move (v := (.int .i64 m)) rfl rfl) ?_)
      refine rw_cons (op_pv (w1y rfl rfl rfl rfl) rfl rfl (pv_lss rfl rfl rfl) ?_)
      refine rw_cons (op_pv (w0 rfl) rfl rfl (pv_pickF (v := (.bool (decide (m < 1)))) rfl rfl rfl) ?_)
      refine rw_cons (op_pv (w0 rfl) rfl rfl (pv_move (v := (.bool (decide (m < 1)))) rfl rfl) ?_)
      refine rw_split 24 rfl (fun hb47 => ?_) (fun hb47 => ?_)
      · -- yes
        replace hb47 := of_decide_eq_true hb47
        refine rw_cons (op_pass (w1n2 rfl rfl rfl rfl) rfl rfl ?_)
        refine rw_cons (op_pass (w1n2 rfl rfl rfl rfl) rfl rfl ?_)
        refine rw_cons (op_pass (w1n2 rfl rfl rfl rfl) rfl rfl ?_)
        refine rw_cons (op_pass (w1n2 rfl rfl rfl rfl) rfl rfl ?_)
        refine rw_cons (op_pv (w0 rfl) rfl rfl (pv_pickT (v := (.bool true)) rfl rfl rfl) ?_)
        refine rw_nil (hK10 _ _ ?_)
        refine hK8 _ _ ?_
        refine cw_cond rfl (fun h48 => ?_) (fun h48 => ?_)
        · -- then
          clear h48
          refine cw_seq fun K49 hK50 => ?_
          refine cw_region fun K51 hK52 => ?_
          refine rw_cons (op_bslice [] Try.underlying24 T3 (w0 rfl) rfl rfl rfl rfl rfl (by simp [Value.cells]) (by decide) ?_)
          intro g54 w53 hg57 hg58 hK56 hch55
          have hO59 : Own encI 1 w53 w29.heap.size 3 (.slice (some ⟨g54, 0, none⟩) 0 0) ([] : List Int) := Blk.own (xs := ([] : List Int)) hK56 (by omega) rfl (by decide) rfl
          have hsz60 := hch55.size
          replace hRxs := hRxs.ch0 hch55
          replace hc := hc.step0 hch55
          have hub61 := hO59.lt
          refine rw_cons (op_pv (w0 rfl) rfl rfl (pv_assign (v := (.slice (some ⟨g54, 0, none⟩) 0 0)) rfl rfl) ?_)
          refine rw_cons (op_pv (w0 rfl) rfl rfl (pv_assign (v := (.bool false)) rfl rfl) ?_)
          refine rw_nil (hK52 _ _ ?_)
          refine hK50 _ _ ?_
          refine cw_ret ?_
          refine fin2 rfl rfl ?_
          have hno : ¬PlaceOK p xs m := by rintro ⟨h1, h2, h3, h4⟩; first | contradiction | omega
          have he_0 : ([] : List Int) = placeV p xs m := (placeV_no hno).symm
          exact ⟨_, _, tup2 (sl_as hO59 he_0) (bvf hno), own_as (hO59.less (by omega)) he_0, hc⟩
        · -- else
          cases h48
      · -- no
        replace hb47 := of_decide_eq_false hb47
        refine rw_cons (op_pv (w1y rfl rfl rfl rfl) rfl rfl (pv_move (v := (.int .i64 m)) rfl rfl) ?_)
        refine rw_cons (op_pv (w1y rfl rfl rfl rfl) rfl rfl (pv_move (v := (.slice Axs nxs cxs)) rfl rfl) ?_)
        refine rw_cons (op_pv (w1y rfl rfl rfl rfl) rfl rfl (pv_len Try.underlying24 rfl rfl) ?_)
        refine rw_cons (op_pv (w1y rfl rfl rfl rfl) rfl rfl (pv_gtr rfl rfl rfl) ?_)
        refine rw_cons (op_pv (w0 rfl) rfl rfl (pv_pickF (v := (.bool (decide ((nxs : Int) < m)))) rfl rfl rfl) ?_)
        refine rw_nil (hK10 _ _ ?_)
        refine hK8 _ _ ?_
        refine cw_cond rfl (fun h62 => ?_) (fun h62 => ?_)
        · -- then
          replace h62 := of_decide_eq_true h62
          refine cw_seq fun K63 hK64 => ?_
          refine cw_region fun K65 hK66 => ?_
          refine rw_cons (op_bslice [] Try.underlying24 T3 (w0 rfl) rfl rfl rfl rfl rfl (by simp [Value.cells]) (by decide) ?_)
          intro g68 w67 hg71 hg72 hK70 hch69
          have hO73 : Own encI 1 w67 w29.heap.size 3 (.slice (some ⟨g68, 0, none⟩) 0 0) ([] : List Int) := Blk.own (xs := ([] : List Int)) hK70 (by omega) rfl (by decide) rfl
          have hsz74 := hch69.size
          replace hRxs := hRxs.ch0 hch69
          replace hc := hc.step0 hch69
          have hub75 := hO73.lt
          refine rw_cons (op_pv (w0 rfl) rfl rfl (pv_assign (v := (.slice (some ⟨g68, 0, none⟩) 0 0)) rfl rfl) ?_)
          refine rw_cons (op_pv (w0 rfl) rfl rfl (pv_assign (v := (.bool false)) rfl rfl) ?_)
          refine rw_nil (hK66 _ _ ?_)
          refine hK64 _ _ ?_
          refine cw_ret ?_
          refine fin2 rfl rfl ?_
          have hno : ¬PlaceOK p xs m := by rintro ⟨h1, h2, h3, h4⟩; first | contradiction | omega
          have he_0 : ([] : List Int) = placeV p xs m := (placeV_no hno).symm
          exact ⟨_, _, tup2 (sl_as hO73 he_0) (bvf hno), own_as (hO73.less (by omega)) he_0, hc⟩
        · -- else
          replace h62 := of_decide_eq_false h62
          refine cw_skip ?_
          refine hK6 _ _ ?_
          refine cw_seq fun K76 hK77 => ?_
          have hx8 := (‹ServersOK xs›).1
          refine cw_region fun K78 hK79 => ?_
          refine rw_cons (op_bslice [] Try.underlying50 T53 (w0 rfl) rfl rfl rfl rfl rfl (by simp [Value.cells]) (by decide) ?_)
          intro g81 w80 hg84 hg85 hK83 hch82
          have hO86 : Own encB 2 w80 w29.heap.size 53 (.slice (some ⟨g81, 0, none⟩) 0 0) ([] : List Bt) := Blk.own (xs := ([] : List Bt)) hK83 (by omega) rfl (by decide) rfl
          have hsz87 := hch82.size
          replace hRxs := hRxs.ch0 hch82
          replace hc := hc.step0 hch82
          have hub88 := hO86.lt
          refine rw_cons (op_box (w0 rfl) rfl rfl rfl rfl ?_)
          rintro g90 w89 hg93 hg94 hB92 hch91
          have hsz95 := hch91.size
          replace hRxs := hRxs.ch0 hch91
          replace hO86 := hO86.ch0 hch91
          replace hc := hc.step0 hch91
          replace hB92 : Blk w89 g90 50 [(.slice (some ⟨g81, 0, none⟩) 0 0)] := hB92
          have hdj96 : ∀ s ∈ obl (.slice (some ⟨g81, 0, none⟩) 0 0), s ≠ g90 := fun s hs => by have := hub88 s hs; omega
          refine rw_cons (op_pv (w0 rfl) rfl rfl (pv_assign (v := (.pointer (some (⟨g90, 0, none⟩)))) rfl rfl) ?_)
          refine rw_nil (hK79 _ _ ?_)
          refine hK77 _ _ ?_
          refine cw_seq fun K97 hK98 => ?_
          refine cw_seq fun K99 hK100 => ?_
          refine cw_region fun K101 hK102 => ?_
          refine rw_cons (op_pv (w0 rfl) rfl rfl (pv_move (v := (.slice Axs nxs cxs)) rfl rfl) ?_)
          refine rw_cons (op_pv (w0 rfl) rfl rfl (pv_len Try.underlying24 rfl rfl) ?_)
          refine rw_cons (op_pv (w0 rfl) rfl rfl (pv_move (v := (.int .i64 0)) rfl rfl) ?_)
          refine rw_nil (hK102 _ _ ?_)
          refine hK100 _ _ ?_
          refine cw_block ?_
          refine cw_loop (σ := Nat × (Option Addr) × Nat × (List Bt)) (fun ⟨k, Ah, ch, ys⟩ => [(35, (.int .i64 (k : Int))), (0, (.int .i64 p)), (2, (.int .i64 m)), (6, (.slice none 0 0)), (7, (.bool false)), (8, (.pointer (some (⟨g90, 0, none⟩)))), (33, (.slice Axs nxs cxs)), (34, (.int .i64 (nxs : Int)))]) (fun ⟨k, Ah, ch, ys⟩ W => (k ≤ nxs ∧ ys.Perm (scored p (xs.take k)) ∧ HeapN ys.length ys ∧ ∀ s ∈ obl (.slice Ah ys.length ch), s ≠ g90) ∧ RS encI 1 W w.heap.size Axs nxs xs ∧ Blk W g90 50 [(.slice Ah ys.length ch)] ∧ Own encB 2 W w29.heap.size 53 (.slice Ah ys.length ch) ys ∧ Ch [] w W ∧ w29.heap.size ≤ W.heap.size) (fun ⟨k, Ah, ch, ys⟩ => nxs - k) (0, (some ⟨g81, 0, none⟩), 0, []) ?_ ?_ ?_
          · exact ⟨rfl, rfl, rfl, rfl, rfl, rfl, rfl, rfl, trivial⟩
          · refine ⟨⟨Nat.zero_le _, .refl _, fun j h0 hj => by simp at hj, fun s hs => dj_asg hdj96 s hs⟩, hRxs, hB92, hO86.less (by omega), hc, (by omega)⟩
          · rintro ⟨k, Ah, ch, ys⟩ J108 w103 ⟨⟨hk, hperm, hheap, hgo2⟩, hRxs, hB92, hO86, hc, hmono104⟩ K105 hK106
            have hsz110 := hc.size
            have hbl111 := hB92.lt
            have hubH := hO86.lt
            have hylen : ys.length = k := by rw [hperm.length_eq]; simp [scored]; omega
            have hcapH := hO86.le
            have hsk : k < xs.length → (1 ≤ el xs k ∧ el xs k ≤ 99) := fun h => ((‹ServersOK xs›).2 k h).1
            refine cw_seq fun K112 hK113 => ?_
            refine cw_region fun K114 hK115 => ?_
            refine rw_cons (op_pv (w0 rfl) rfl rfl (pv_lss rfl rfl rfl) ?_)
            refine rw_nil (hK115 _ _ ?_)
            refine hK113 _ _ ?_
            refine cw_seq fun K116 hK117 => ?_
            refine cw_cond rfl (fun h118 => ?_) (fun h118 => ?_)
            · -- then
              replace h118 := of_decide_eq_true h118
              refine cw_skip ?_
              refine hK117 _ _ ?_
              refine cw_seq fun K119 hK120 => ?_
              refine cw_block ?_
              refine cw_seq fun K121 hK122 => ?_
              refine cw_region fun K123 hK124 => ?_
              refine rw_cons (op_pv (w0 rfl) rfl rfl (pv_idx Try.underlying24 T3 rfl rfl rfl (hRxs.some (k := k) (by omega)) (by omega) (by omega)) ?_)
              refine rw_cons (op_lv (w0 rfl) rfl rfl (lv_load T3 rfl rfl (hRxs.cell0 (k := k) (by omega) rfl)) ?_)
              refine rw_cons (op_pv (w0 rfl) rfl rfl (pv_assign (v := (.int .i64 (el xs k))) rfl rfl) ?_)
              refine rw_nil (hK124 _ _ ?_)
              refine hK122 _ _ ?_
              refine cw_region fun K125 hK126 => ?_
              refine rw_cons (op_pv (w0 rfl) rfl rfl (pv_move (v := (.pointer (some (⟨g90, 0, none⟩)))) rfl rfl) ?_)
              refine rw_cons (op_pv (w0 rfl) rfl rfl (pv_mkif Try.underlying48 rfl rfl rfl) ?_)
              refine rw_cons (op_pv (w0 rfl) rfl rfl (pv_move (v := (.int .i64 (el xs k))) rfl rfl) ?_)
              refine rw_cons (op_pv (w0 rfl) rfl rfl (pv_move (v := (.int .i64 p)) rfl rfl) ?_)
              refine rw_cons (op_pv (w0 rfl) rfl rfl (pv_move (v := (.int .i64 (el xs k))) rfl rfl) ?_)
              refine rw_cons (op_call (w0 rfl) rfl rfl (rc_call C14 rfl rfl) (PlaceScore_i p (el xs k) _  ) ?_)
              rintro _ w127 ⟨rfl, hch128⟩
              have hsz129 := hch128.size
              replace hRxs := hRxs.ch0 hch128
              replace hB92 := hB92.ch0 hch128
              replace hO86 := hO86.ch0 hch128
              replace hc := hc.step0 hch128
              have hsb130 := scoreOf_bd p (el xs k)
              refine rw_cons (op_pv (w0 rfl) rfl rfl (pv_build rfl rfl (B53_0I_1I _ _)) ?_)
              refine rw_cons (op_pv (w0 rfl) rfl rfl (pv_mkif Try.underlying53 rfl rfl rfl) ?_)
              refine rw_cons (op_call (w0 rfl) rfl rfl (rc_call C36 rfl rfl) (heapPush_ok _ _ _ _ _ _ (el xs k) (scoreOf p (el xs k)) _ hB92 hO86 hgo2 (by omega) (by omega) (by omega) hheap) ?_)
              rintro _ w131 ⟨rfl, ys132, hperm133, hheap134, hHI135, hbl136⟩
              obtain ⟨S137, hOff138, hch139⟩ := below_ch hbl136
              have hsz140 := hch139.size
              replace hRxs := hRxs.ch hch139 (hOff138.le (by omega))
              replace hc := (hOff138.le (by omega)).step hc hch139
              clear hB92 hO86; obtain ⟨A141, c142, hB92, hO86, hgb143, hdj145⟩ := hHI135
              have hub144 := hO86.lt
              have hle146 := hO86.le
              have hgl147 := hB92.lt
              refine rw_nil (hK126 _ _ ?_)
              refine hK120 _ _ ?_
              refine cw_region fun K148 hK149 => ?_
              refine rw_cons (op_pv (w0 rfl) rfl rfl (pv_add rfl rfl rfl (by omega) (by omega)) ?_)
              refine rw_cons (op_pv (w0 rfl) rfl rfl (pv_move (v := (.int .i64 ((k : Int) + 1))) rfl rfl) ?_)
              refine rw_nil (hK149 _ _ ?_)
              refine hK106 _ _ (k + 1, A141, c142, ys132) ⟨(iv (by omega)), rfl, rfl, rfl, rfl, rfl, rfl, rfl, trivial⟩ ⟨?_, hRxs, hB92, hO86, hc, (by omega)⟩ ?_
              · refine ⟨by omega, ?_, hheap134, fun s hs => dj_asg hdj145 s hs⟩
                rw [scored_snoc (by omega)]
                rw [scoreOf_yes (by omega)] at hperm133
                exact hperm133.trans (hperm.append_right _)
              · (first | omega | (simp only []; omega))
            · -- else
              replace h118 := of_decide_eq_false h118
              refine cw_exit ?_
              refine hK98 _ _ ?_
              refine cw_seq fun K150 hK151 => ?_
              refine cw_region fun K152 hK153 => ?_
              have hgl154 := hB92.lt
              refine rw_cons (op_bslice [] Try.underlying24 T3 (w0 rfl) rfl rfl rfl rfl rfl (by simp [Value.cells]) (by decide) ?_)
              intro g156 w155 hg159 hg160 hK158 hch157
              have hO161 : Own encI 1 w155 w103.heap.size 3 (.slice (some ⟨g156, 0, none⟩) 0 0) ([] : List Int) := Blk.own (xs := ([] : List Int)) hK158 (by omega) rfl (by decide) rfl
              have hsz162 := hch157.size
              replace hRxs := hRxs.ch0 hch157
              replace hB92 := hB92.ch0 hch157
              replace hO86 := hO86.ch0 hch157
              replace hc := hc.step0 hch157
              have hub163 := hO161.lt
              have hdj164 : ∀ s ∈ obl (.slice (some ⟨g156, 0, none⟩) 0 0), s ≠ g90 := fun s hs => by first | (have h1 := hO161.off s hs; omega) | (simp [obl, Value.ownBlock] at hs; done) | (simp [obl, Value.ownBlock] at hs; omega)
              have hdj165 : ∀ s ∈ obl (.slice Ah ys.length ch), s ∉ obl (.slice (some ⟨g156, 0, none⟩) 0 0) := fun s hs hs2 => by first | (have h1 := hubH s hs; have h2 := hO161.off s hs2; omega) | (simp [obl, Value.ownBlock] at hs; done) | (simp [obl, Value.ownBlock] at hs2; done) | (have h1 := hubH s hs; simp [obl, Value.ownBlock] at hs2; omega)
              refine rw_cons (op_pv (w0 rfl) rfl rfl (pv_assign (v := (.slice (some ⟨g156, 0, none⟩) 0 0)) rfl rfl) ?_)
              refine rw_nil (hK153 _ _ ?_)
              refine hK151 _ _ ?_
              refine cw_seq fun K166 hK167 => ?_
              refine cw_seq fun K168 hK169 => ?_
              refine cw_region fun K170 hK171 => ?_
              refine rw_cons (op_pv (w0 rfl) rfl rfl (pv_move (v := (.int .i64 m)) rfl rfl) ?_)
              refine rw_cons (op_pv (w0 rfl) rfl rfl (pv_move (v := (.int .i64 0)) rfl rfl) ?_)
              refine rw_nil (hK171 _ _ ?_)
              refine hK169 _ _ ?_
              refine cw_block ?_
              refine cw_loop (σ := Nat × (Option Addr) × Nat × (List Bt)) (fun ⟨k, Ao, co, ys⟩ => [(11, (.slice Ao ((rankP p xs).take k).length co)), (51, (.int .i64 (k : Int))), (6, (.slice none 0 0)), (7, (.bool false)), (8, (.pointer (some (⟨g90, 0, none⟩)))), (50, (.int .i64 m))]) (fun ⟨k, Ao, co, ys⟩ W => ((k : Int) ≤ m ∧ Left p xs k ys ∧ (∀ s ∈ obl (.slice Ao ((rankP p xs).take k).length co), s ≠ g90) ∧ ∀ s ∈ obl (.slice Ah ys.length ch), s ≠ g90) ∧ RS encI 1 W w.heap.size Axs nxs xs ∧ Blk W g90 50 [(.slice Ah ys.length ch)] ∧ Own encB 2 W w29.heap.size 53 (.slice Ah ys.length ch) ys ∧ Own encI 1 W w103.heap.size 3 (.slice Ao ((rankP p xs).take k).length co) ((rankP p xs).take k) ∧ Ch [] w W ∧ w103.heap.size ≤ W.heap.size ∧ w29.heap.size ≤ W.heap.size ∧ (∀ s ∈ obl (.slice Ah ys.length ch), s ∉ obl (.slice Ao ((rankP p xs).take k).length co))) (fun ⟨k, Ao, co, ys⟩ => m.toNat - k) (0, (some ⟨g156, 0, none⟩), 0, ys) ?_ ?_ ?_
              · exact ⟨rfl, rfl, rfl, rfl, rfl, rfl, trivial⟩
              · refine ⟨⟨by omega, left_start (ids_nodup (‹ServersOK xs›).2) (by have h9 := hperm; rw [el_take_all xs _ (by omega)] at h9; exact h9) hheap, fun s hs => dj_asg hdj164 s hs, fun s hs => dj_asg hgo2 s hs⟩, hRxs, hB92, hO86.less (by omega), (hO161.less (by omega)), hc, (by omega), (by omega), (fun s hs hs2 => by first | (have h1 := hO86.off s hs; have h2 := hub163 s hs2; omega) | (have h1 := hO161.off s hs; have h2 := hubH s hs2; omega) | (have h1 := hubH s hs; have h2 := hO161.off s hs2; omega) | (have h1 := hub163 s hs; have h2 := hO86.off s hs2; omega) | (simp [obl, Value.ownBlock] at hs; done) | (simp [obl, Value.ownBlock] at hs2; done) | exact dj_as hdj165 s hs hs2 | exact dj_sw hdj165 s hs hs2)⟩
              · rintro ⟨k, Ao, co, ys⟩ J179 w172 ⟨⟨hk, hleft, hgout, hgo3⟩, hRxs, hB92, hO86, hOut, hc, hmono173, hmono174, hdj175⟩ K176 hK177
                have hsz181 := hc.size
                have hbl182 := hB92.lt
                have hubH := hO86.lt
                have hubO := hOut.lt
                have hyk := hleft.1
                have hcapH := hO86.le
                have hrl := rankP_len p xs; have htl : ((rankP p xs).take k).length ≤ k := List.length_take_le _ _
                refine cw_seq fun K183 hK184 => ?_
                refine cw_region fun K185 hK186 => ?_
                refine rw_cons (op_pv (w0 rfl) rfl rfl (pv_lss rfl rfl rfl) ?_)
                refine rw_nil (hK186 _ _ ?_)
                refine hK184 _ _ ?_
                refine cw_seq fun K187 hK188 => ?_
                refine cw_cond rfl (fun h189 => ?_) (fun h189 => ?_)
                · -- then
                  replace h189 := of_decide_eq_true h189
                  refine cw_skip ?_
                  refine hK188 _ _ ?_
                  refine cw_seq fun K190 hK191 => ?_
                  refine cw_block ?_
                  refine cw_region fun K192 hK193 => ?_
                  refine rw_cons (op_pv (w0 rfl) rfl rfl (pv_move (v := (.slice Ao ((rankP p xs).take k).length co)) rfl rfl) ?_)
                  refine rw_cons (op_pv (w0 rfl) rfl rfl (pv_move (v := (.pointer (some (⟨g90, 0, none⟩)))) rfl rfl) ?_)
                  refine rw_cons (op_pv (w0 rfl) rfl rfl (pv_mkif Try.underlying48 rfl rfl rfl) ?_)
                  refine rw_cons (op_call (w0 rfl) rfl rfl (rc_call C37 rfl rfl) (heapPop_ok _ _ _ _ _ _ _ hB92 hO86 hgo3 (by omega) (by omega) (by omega) hleft.2.1) ?_)
                  rintro _ w194 ⟨rfl, zs195, hzl196, hpp197, hheap198, hB199, hO200, hch201⟩
                  have hSz202 := hch201.size
                  replace hRxs := hRxs.ch hch201 (fun s hs => by rcases List.mem_cons.1 hs with h | h <;> first | omega | (have := hO86.off s h; omega))
                  replace hOut := hOut.ch hch201 (fun s hs hs2 => by rcases List.mem_cons.1 hs2 with h | h; exact (dj_asg hgout) s hs h; exact (dj_sw hdj175) s hs h)
                  replace hc := hc.step hch201 (fun s hs => by right; rcases List.mem_cons.1 hs with h | h <;> first | omega | (have := hO86.off s h; omega))
                  clear hB92 hO86; have hB92 := hB199; have hO86 := hO200; clear hB199 hO200
                  rw [← hzl196] at hB92 hO86
                  have hub203 := hO86.lt
                  refine rw_cons (op_pv (w0 rfl) rfl rfl (pv_assert Try.underlying53 rfl rfl rfl) ?_)
                  refine rw_cons (op_pv (w0 rfl) rfl rfl (pv_field Try.underlying53 rfl T3 rfl rfl rfl) ?_)
                  have hgl204 := hB92.lt
                  refine rw_cons (op_bslice [(.int .i64 (el ys 0).s)] Try.underlying24 T3 (w0 rfl) rfl rfl rfl rfl rfl (by simp [Value.cells]) (by decide) ?_)
                  intro g206 w205 hg209 hg210 hK208 hch207
                  have hO211 : Own encI 1 w205 w194.heap.size 3 (.slice (some ⟨g206, 0, none⟩) 1 1) ([(el ys 0).s] : List Int) := Blk.own (xs := ([(el ys 0).s] : List Int)) hK208 (by omega) rfl (by decide) rfl
                  have hsz212 := hch207.size
                  replace hRxs := hRxs.ch0 hch207
                  replace hB92 := hB92.ch0 hch207
                  replace hO86 := hO86.ch0 hch207
                  replace hOut := hOut.ch0 hch207
                  replace hc := hc.step0 hch207
                  have hub213 := hO211.lt
                  have hdj214 : ∀ s ∈ obl (.slice (some ⟨g206, 0, none⟩) 1 1), s ≠ g90 := fun s hs => by first | (have h1 := hO211.off s hs; omega) | (simp [obl, Value.ownBlock] at hs; done) | (simp [obl, Value.ownBlock] at hs; omega)
                  have hdj215 : ∀ s ∈ obl (.slice Ah zs195.length ch), s ∉ obl (.slice (some ⟨g206, 0, none⟩) 1 1) := fun s hs hs2 => by first | (have h1 := hub203 s hs; have h2 := hO211.off s hs2; omega) | (simp [obl, Value.ownBlock] at hs; done) | (simp [obl, Value.ownBlock] at hs2; done) | (have h1 := hub203 s hs; simp [obl, Value.ownBlock] at hs2; omega)
                  have hdj216 : ∀ s ∈ obl (.slice Ao ((rankP p xs).take k).length co), s ∉ obl (.slice (some ⟨g206, 0, none⟩) 1 1) := fun s hs hs2 => by first | (have h1 := hubO s hs; have h2 := hO211.off s hs2; omega) | (simp [obl, Value.ownBlock] at hs; done) | (simp [obl, Value.ownBlock] at hs2; done) | (have h1 := hubO s hs; simp [obl, Value.ownBlock] at hs2; omega)
                  refine rw_cons (op_append Try.underlying24 T3 (fun _ => rfl) rfl (by decide) (fun _ => one_all rfl) (w0 rfl) rfl rfl rfl rfl rfl hOut (hO211.rs (fun _ => rfl)) (by unfold maxLen; first | omega | (simp; omega)) (by first | omega | (simp; omega)) (by omega) ?_)
                  rintro v217 w218 hO219 hch220 hs221
                  have hl222 : (((rankP p xs).take k) ++ ([(el ys 0).s] : List Int)).length = ((rankP p xs).take k).length + 1 := by first | (have hl0 := (hO211.rs (fun _ => rfl)).len; omega) | (have hl0 := (hO211.rs (fun _ => rfl)).len; simp only [List.length_append, List.length_cons, List.length_nil] at hl0 ⊢; omega) | simp | rfl
                  clear hO211
                  have hgl224 := hB92.lt
                  have hsz226 := hch220.size
                  replace hRxs := hRxs.ch hch220 (hOut.off.le (by omega))
                  replace hB92 := hB92.ch hch220 (fun hs => dj_asg hgout _ hs rfl)
                  replace hO86 := hO86.ch hch220 (dj_as hdj175)
                  replace hc := (hOut.off.le (by omega)).step hc hch220
                  have hub227 := hO219.lt
                  obtain ⟨A228, c229, hv230, hcap231, hcap232⟩ := hO219.form; subst hv230
                  have hdj223 : ∀ s ∈ obl (.slice A228 (((rankP p xs).take k) ++ ([(el ys 0).s] : List Int)).length c229), s ≠ g90 := dj_newg hs221 (dj_asg hgout) (by omega)
                  have hdj225 : ∀ s ∈ obl (.slice A228 (((rankP p xs).take k) ++ ([(el ys 0).s] : List Int)).length c229), s ∉ obl (.slice Ah zs195.length ch) := dj_new hs221 (dj_sw hdj175) (fun s hs => by have := hub203 s hs; omega)
                  refine rw_cons (op_pv (w0 rfl) rfl rfl (pv_assign (v := (.slice A228 (((rankP p xs).take k) ++ ([(el ys 0).s] : List Int)).length c229)) rfl rfl) ?_)
                  refine rw_nil (hK193 _ _ ?_)
                  refine hK191 _ _ ?_
                  refine cw_region fun K233 hK234 => ?_
                  refine rw_cons (op_pv (w0 rfl) rfl rfl (pv_add rfl rfl rfl (by omega) (by omega)) ?_)
                  refine rw_cons (op_pv (w0 rfl) rfl rfl (pv_move (v := (.int .i64 ((k : Int) + 1))) rfl rfl) ?_)
                  refine rw_nil (hK234 _ _ ?_)
                  have hEQ235 : (((rankP p xs).take k) ++ ([(el ys 0).s] : List Int)) = ((rankP p xs).take (k + 1)) := by rw [left_top (ids_nodup (‹ServersOK xs›).2) hleft (by omega)]; exact (take_snoc _ _ (by rw [rankP_len]; omega)).symm
                  have hO236 := own_as hO219 hEQ235
                  refine hK177 _ _ (k + 1, A228, c229, zs195) ⟨(sl_as hO219 hEQ235), (iv (by omega)), rfl, rfl, rfl, rfl, trivial⟩ ⟨?_, hRxs, hB92, hO86, hO236, hc, (by omega), (by omega), (dj_sw hdj225)⟩ ?_
                  · refine ⟨by omega, left_step (n := 0) (ids_nodup (‹ServersOK xs›).2) hleft (by omega) hzl196 hpp197 hheap198, fun s hs => dj_asg hdj223 s hs, fun s hs => dj_asg hgo3 s hs⟩
                  · show m.toNat - (k + 1) < m.toNat - k; omega
                · -- else
                  replace h189 := of_decide_eq_false h189
                  refine cw_exit ?_
                  refine hK167 _ _ ?_
                  refine cw_seq fun K237 hK238 => ?_
                  refine cw_region fun K239 hK240 => ?_
                  refine rw_cons (op_pv (w0 rfl) rfl rfl (pv_move (v := (.slice Ao ((rankP p xs).take k).length co)) rfl rfl) ?_)
                  refine rw_cons (op_pv (w0 rfl) rfl rfl (pv_assign (v := (.slice Ao ((rankP p xs).take k).length co)) rfl rfl) ?_)
                  refine rw_cons (op_pv (w0 rfl) rfl rfl (pv_assign (v := (.bool true)) rfl rfl) ?_)
                  refine rw_nil (hK240 _ _ ?_)
                  refine hK238 _ _ ?_
                  refine cw_ret ?_
                  refine fin2 rfl rfl ?_
                  have hyes : PlaceOK p xs m := ⟨by omega, by assumption, by omega, by omega⟩
                  have he_0 : ((rankP p xs).take k) = placeV p xs m := (by rw [placeV_yes hyes, show m.toNat = k by omega])
                  exact ⟨_, _, tup2 (sl_as hOut he_0) (bvt hyes), own_as (hOut.less (by omega)) he_0, hc⟩
end Go.Proofs.Ytielahdnccocdaa
