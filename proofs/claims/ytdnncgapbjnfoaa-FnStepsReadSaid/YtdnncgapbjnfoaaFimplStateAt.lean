/-
  The walk of impl.StateAt, written by program: each line names the law of one operation. Conditions: those of the theorem.
-/
import Derived.Test.YtdnncgapbjnfoaaProg
import Derived.Test.YtdnncgapbjnfoaaNode
import Derived.Test.YtdnncgapbjnfoaaArr
import Derived.Test.YtdnncgapbjnfoaaFimplLogValid
import Derived.Test.YtdnncgapbjnfoaaFimplnewState
import Derived.Test.YtdnncgapbjnfoaaFimplstateArrayput
import Derived.Test.YtdnncgapbjnfoaaFimplstateArraylist
import Derived.KernelRfl
namespace Go.Proofs.Ytdnncgapbjnfoaa
open Go Go.RowKit
set_option linter.unusedVariables false
set_option linter.unusedSimpArgs false
namespace StateAt_okF
theorem T3 : TI Try.prog 3 false (.int .i64 0) 1 8 := TI.mk' Try.underlying3 rfl (by kernel_rfl)
theorem T33 : TI Try.prog 33 true (.agg #[.int .i64 0, .int .i64 0]) 2 16 := TI.mk' Try.underlying33 rfl (by kernel_rfl)
theorem C16 : Callable Try.prog 16 := ⟨_, Try.func16, by kernel_rfl, by kernel_rfl⟩
theorem C39 : Callable Try.prog 39 := ⟨_, Try.func39, by kernel_rfl, by kernel_rfl⟩
theorem C40 : Callable Try.prog 40 := ⟨_, Try.func40, by kernel_rfl, by kernel_rfl⟩
theorem C43 : Callable Try.prog 43 := ⟨_, Try.func43, by kernel_rfl, by kernel_rfl⟩
end StateAt_okF
open StateAt_okF in
set_option maxHeartbeats 4000000 in
theorem StateAt_ok (Alog : Option Addr) (nlog clog : Nat) (log : List Bt) (dn : Int) (w : World) (hRlog : RS encB 2 w w.heap.size Alog nlog log) (hnlog : nlog ≤ clog) (hNlog : nlog ≤ 1099511627776) :
    Fn Try.prog 36 [(.slice Alog nlog clog), (.int .i64 dn)] w fun v w' => ∃ A_0 c_0, v = .slice A_0 (stateV log dn).length c_0 ∧ Own encI 1 w' w.heap.size 3 (.slice A_0 (stateV log dn).length c_0) (stateV log dn) ∧ Ch [] w w' := by
  have hlenlog := hRlog.len
  refine fn_of (n := 37) Try.func36 rfl rfl rfl rfl ?_
  have hc : Ch [] w w := Ch.refl _ _
  refine cw_seq fun K1 hK2 => ?_
  refine cw_region fun K3 hK4 => ?_
  refine rw_cons (op_pv (w0 rfl) rfl rfl (pv_assign (v := (.slice none 0 0)) rfl rfl) ?_)
  refine rw_nil (hK4 _ _ ?_)
  refine hK2 _ _ ?_
  refine cw_seq fun K5 hK6 => ?_
  refine cw_seq fun K7 hK8 => ?_
  refine cw_region fun K9 hK10 => ?_
  refine rw_cons (op_pv (w0 rfl) rfl rfl (pv_move (v := (.slice Alog nlog clog)) rfl rfl) ?_)
  refine rw_cons (op_call (w0 rfl) rfl rfl (rc_call C16 rfl rfl) (LogValid_i _ _ _ log _ (hRlog.more (by omega)) (by omega)) ?_)
  rintro _ w11 ⟨rfl, hch12⟩
  have hsz13 := hch12.size
  replace hRlog := hRlog.ch0 hch12
  replace hc := hc.step0 hch12
  refine rw_cons (op_pv (w0 rfl) rfl rfl (pv_not rfl rfl) ?_)
  refine rw_cons (op_pv (w0 rfl) rfl rfl (pv_move (v := (.bool (!(dec (LogOK log))))) rfl rfl) ?_)
  refine rw_split 11 rfl (fun hb14 => ?_) (fun hb14 => ?_)
  · -- yes
    replace hb14 := not_t hb14
    replace hb14 := dec_f hb14
    refine rw_cons (op_pass (w1n2 rfl rfl rfl rfl) rfl rfl ?_)
    refine rw_cons (op_pass (w1n2 rfl rfl rfl rfl) rfl rfl ?_)
    refine rw_cons (op_pv (w0 rfl) rfl rfl (pv_pickT (v := (.bool true)) rfl rfl rfl) ?_)
    refine rw_cons (op_pv (w0 rfl) rfl rfl (pv_move (v := (.bool true)) rfl rfl) ?_)
    refine rw_cons (op_pass (w1n2 rfl rfl rfl rfl) rfl rfl ?_)
    refine rw_cons (op_pass (w1n2 rfl rfl rfl rfl) rfl rfl ?_)
    refine rw_cons (op_pass (w1n2 rfl rfl rfl rfl) rfl rfl ?_)
    refine rw_cons (op_pass (w1n2 rfl rfl rfl rfl) rfl rfl ?_)
    refine rw_cons (op_pv (w0 rfl) rfl rfl (pv_pickT (v := (.bool true)) rfl rfl rfl) ?_)
    refine rw_nil (hK10 _ _ ?_)
    refine hK8 _ _ ?_
    refine cw_cond rfl (fun h15 => ?_) (fun h15 => ?_)
    · -- then
      clear h15
      refine cw_seq fun K16 hK17 => ?_
      refine cw_region fun K18 hK19 => ?_
      refine rw_cons (op_bslice [] Try.underlying42 T3 (w0 rfl) rfl rfl rfl rfl rfl (by simp [Value.cells]) (by decide) ?_)
      intro g21 w20 hg24 hg25 hK23 hch22
      have hO26 : Own encI 1 w20 w11.heap.size 3 (.slice (some ⟨g21, 0, none⟩) 0 0) ([] : List Int) := Blk.own (xs := ([] : List Int)) hK23 (by omega) rfl (by decide) rfl
      have hsz27 := hch22.size
      replace hRlog := hRlog.ch0 hch22
      replace hc := hc.step0 hch22
      have hub28 := hO26.lt
      refine rw_cons (op_pv (w0 rfl) rfl rfl (pv_assign (v := (.slice (some ⟨g21, 0, none⟩) 0 0)) rfl rfl) ?_)
      refine rw_nil (hK19 _ _ ?_)
      refine hK17 _ _ ?_
      refine cw_ret ?_
      refine fin1 rfl ?_
      have he_0 : ([] : List Int) = stateV log dn := (stateV_no (by rintro ⟨h1, h2⟩; first | contradiction | omega)).symm
      exact ⟨_, _, (sl_as hO26 he_0), own_as (hO26.less (by omega)) he_0, hc⟩
    · -- else
      cases h15
  · -- no
    replace hb14 := not_f hb14
    replace hb14 := dec_t hb14
    refine rw_cons (op_pv (w1y rfl rfl rfl rfl) rfl rfl (pv_move (v := (.int .i64 dn)) rfl rfl) ?_)
    refine rw_cons (op_pv (w1y rfl rfl rfl rfl) rfl rfl (pv_lss rfl rfl rfl) ?_)
    refine rw_cons (op_pv (w0 rfl) rfl rfl (pv_pickF (v := (.bool (decide (dn < 0)))) rfl rfl rfl) ?_)
    refine rw_cons (op_pv (w0 rfl) rfl rfl (pv_move (v := (.bool (decide (dn < 0)))) rfl rfl) ?_)
    refine rw_split 15 rfl (fun hb29 => ?_) (fun hb29 => ?_)
    · -- yes
      replace hb29 := of_decide_eq_true hb29
      refine rw_cons (op_pass (w1n2 rfl rfl rfl rfl) rfl rfl ?_)
      refine rw_cons (op_pass (w1n2 rfl rfl rfl rfl) rfl rfl ?_)
      refine rw_cons (op_pass (w1n2 rfl rfl rfl rfl) rfl rfl ?_)
      refine rw_cons (op_pass (w1n2 rfl rfl rfl rfl) rfl rfl ?_)
      refine rw_cons (op_pv (w0 rfl) rfl rfl (pv_pickT (v := (.bool true)) rfl rfl rfl) ?_)
      refine rw_nil (hK10 _ _ ?_)
      refine hK8 _ _ ?_
      refine cw_cond rfl (fun h30 => ?_) (fun h30 => ?_)
      · -- then
        clear h30
        refine cw_seq fun K31 hK32 => ?_
        refine cw_region fun K33 hK34 => ?_
        refine rw_cons (op_bslice [] Try.underlying42 T3 (w0 rfl) rfl rfl rfl rfl rfl (by simp [Value.cells]) (by decide) ?_)
        intro g36 w35 hg39 hg40 hK38 hch37
        have hO41 : Own encI 1 w35 w11.heap.size 3 (.slice (some ⟨g36, 0, none⟩) 0 0) ([] : List Int) := Blk.own (xs := ([] : List Int)) hK38 (by omega) rfl (by decide) rfl
        have hsz42 := hch37.size
        replace hRlog := hRlog.ch0 hch37
        replace hc := hc.step0 hch37
        have hub43 := hO41.lt
        refine rw_cons (op_pv (w0 rfl) rfl rfl (pv_assign (v := (.slice (some ⟨g36, 0, none⟩) 0 0)) rfl rfl) ?_)
        refine rw_nil (hK34 _ _ ?_)
        refine hK32 _ _ ?_
        refine cw_ret ?_
        refine fin1 rfl ?_
        have he_0 : ([] : List Int) = stateV log dn := (stateV_no (by rintro ⟨h1, h2⟩; first | contradiction | omega)).symm
        exact ⟨_, _, (sl_as hO41 he_0), own_as (hO41.less (by omega)) he_0, hc⟩
      · -- else
        cases h30
    · -- no
      replace hb29 := of_decide_eq_false hb29
      refine rw_cons (op_pv (w1y rfl rfl rfl rfl) rfl rfl (pv_move (v := (.int .i64 dn)) rfl rfl) ?_)
      refine rw_cons (op_pv (w1y rfl rfl rfl rfl) rfl rfl (pv_move (v := (.slice Alog nlog clog)) rfl rfl) ?_)
      refine rw_cons (op_pv (w1y rfl rfl rfl rfl) rfl rfl (pv_len Try.underlying29 rfl rfl) ?_)
      refine rw_cons (op_pv (w1y rfl rfl rfl rfl) rfl rfl (pv_gtr rfl rfl rfl) ?_)
      refine rw_cons (op_pv (w0 rfl) rfl rfl (pv_pickF (v := (.bool (decide ((nlog : Int) < dn)))) rfl rfl rfl) ?_)
      refine rw_nil (hK10 _ _ ?_)
      refine hK8 _ _ ?_
      refine cw_cond rfl (fun h44 => ?_) (fun h44 => ?_)
      · -- then
        replace h44 := of_decide_eq_true h44
        refine cw_seq fun K45 hK46 => ?_
        refine cw_region fun K47 hK48 => ?_
        refine rw_cons (op_bslice [] Try.underlying42 T3 (w0 rfl) rfl rfl rfl rfl rfl (by simp [Value.cells]) (by decide) ?_)
        intro g50 w49 hg53 hg54 hK52 hch51
        have hO55 : Own encI 1 w49 w11.heap.size 3 (.slice (some ⟨g50, 0, none⟩) 0 0) ([] : List Int) := Blk.own (xs := ([] : List Int)) hK52 (by omega) rfl (by decide) rfl
        have hsz56 := hch51.size
        replace hRlog := hRlog.ch0 hch51
        replace hc := hc.step0 hch51
        have hub57 := hO55.lt
        refine rw_cons (op_pv (w0 rfl) rfl rfl (pv_assign (v := (.slice (some ⟨g50, 0, none⟩) 0 0)) rfl rfl) ?_)
        refine rw_nil (hK48 _ _ ?_)
        refine hK46 _ _ ?_
        refine cw_ret ?_
        refine fin1 rfl ?_
        have he_0 : ([] : List Int) = stateV log dn := (stateV_no (by rintro ⟨h1, h2⟩; first | contradiction | omega)).symm
        exact ⟨_, _, (sl_as hO55 he_0), own_as (hO55.less (by omega)) he_0, hc⟩
      · -- else
        replace h44 := of_decide_eq_false h44
        refine cw_skip ?_
        refine hK6 _ _ ?_
        refine cw_seq fun K58 hK59 => ?_
        refine cw_region fun K60 hK61 => ?_
        refine rw_cons (op_call (w0 rfl) rfl rfl (rc_call C39 rfl rfl) (newState_ok _) ?_)
        rintro _ w62 ⟨g63, rfl, hg64, hO65, hch66⟩
        have hsz68 := hch66.size
        replace hRlog := hRlog.ch0 hch66
        replace hc := hc.step0 hch66
        have hub67 := hO65.lt
        refine rw_cons (op_pv (w0 rfl) rfl rfl (pv_assign (v := (.pointer (some (⟨g63, 0, none⟩)))) rfl rfl) ?_)
        refine rw_nil (hK61 _ _ ?_)
        refine hK59 _ _ ?_
        refine cw_seq fun K69 hK70 => ?_
        refine cw_seq fun K71 hK72 => ?_
        refine cw_region fun K73 hK74 => ?_
        refine rw_cons (op_pv (w0 rfl) rfl rfl (pv_move (v := (.slice Alog nlog clog)) rfl rfl) ?_)
        refine rw_cons (op_pv (w0 rfl) rfl rfl (pv_move (v := (.int .i64 dn)) rfl rfl) ?_)
        refine rw_cons (op_pv (w0 rfl) rfl rfl (pv_upto Try.underlying29 T33 rfl rfl rfl (by omega) (by omega)) ?_)
        have hR75 : RS encB 2 w62 w.heap.size Alog (dn).toNat (log.take (dn).toNat) := (hRlog).upto (by omega)
        refine rw_cons (op_pv (w0 rfl) rfl rfl (pv_len Try.underlying29 rfl rfl) ?_)
        refine rw_cons (op_pv (w0 rfl) rfl rfl (pv_move (v := (.int .i64 0)) rfl rfl) ?_)
        refine rw_nil (hK74 _ _ ?_)
        refine hK72 _ _ ?_
        refine cw_block ?_
        refine cw_loop (σ := Nat) (fun k => [(27, (.int .i64 (k : Int))), (4, (.slice none 0 0)), (5, (.pointer (some (⟨g63, 0, none⟩)))), (25, (.slice Alog (dn).toNat clog)), (26, (.int .i64 ((dn).toNat : Int)))]) (fun k W => ((k : Int) ≤ dn) ∧ RS encB 2 W w.heap.size Alog nlog log ∧ RS encB 2 W w.heap.size Alog (dn).toNat (log.take (dn).toNat) ∧ Own encI 1 W w11.heap.size 69 (.slice (some ⟨g63, 0, none⟩) 5 5) (runL empty5 (log.take k)) ∧ Ch [] w W ∧ w11.heap.size ≤ W.heap.size) (fun k => dn.toNat - k) 0 ?_ ?_ ?_
        · exact ⟨rfl, rfl, rfl, rfl, rfl, trivial⟩
        · refine ⟨by omega, hRlog, hR75, hO65, hc, (by omega)⟩
        · rintro k J81 w76 ⟨hk, hRlog, hR75, hO65, hc, hmono77⟩ K78 hK79
          have hsz83 := hc.size
          have hub67 := hO65.lt
          have hlk := (‹LogOK log›).2 k
          have hlk2 : k < dn.toNat → (0 ≤ (el (log.take (dn).toNat) k).s ∧ (el (log.take (dn).toNat) k).s ≤ 4) := fun h => by rw [el_take log dn.toNat k h]; exact ((‹LogOK log›).2 k (by omega)).1
          refine cw_seq fun K84 hK85 => ?_
          refine cw_region fun K86 hK87 => ?_
          refine rw_cons (op_pv (w0 rfl) rfl rfl (pv_lss rfl rfl rfl) ?_)
          refine rw_nil (hK87 _ _ ?_)
          refine hK85 _ _ ?_
          refine cw_seq fun K88 hK89 => ?_
          refine cw_cond rfl (fun h90 => ?_) (fun h90 => ?_)
          · -- then
            replace h90 := of_decide_eq_true h90
            refine cw_skip ?_
            refine hK89 _ _ ?_
            refine cw_seq fun K91 hK92 => ?_
            refine cw_block ?_
            refine cw_seq fun K93 hK94 => ?_
            refine cw_region fun K95 hK96 => ?_
            refine rw_cons (op_pv (w0 rfl) rfl rfl (pv_idx Try.underlying29 T33 rfl rfl rfl (hR75.some (k := k) (by omega)) (by omega) (by omega)) ?_)
            refine rw_cons (op_lv (w0 rfl) rfl rfl (lv_loadN T33 rfl rfl rfl (fun j v hv => hR75.cellE (k := k) (by omega) hv)) ?_)
            refine rw_cons (op_alloc T33 (w0 rfl) rfl rfl rfl ?_)
            rintro g98 w97 hg101 hg102 hB100 hch99
            have hsz103 := hch99.size
            replace hRlog := hRlog.ch0 hch99
            replace hR75 := hR75.ch0 hch99
            replace hO65 := hO65.ch0 hch99
            replace hc := hc.step0 hch99
            replace hB100 : Blk w97 g98 33 [(.int .i64 0), (.int .i64 0)] := hB100
            have hdj104 : ∀ s ∈ obl (.slice (some ⟨g63, 0, none⟩) 5 5), s ≠ g98 := fun s hs => by have := hub67 s hs; omega
            refine rw_cons (op_store_blk T33 hB100 (w0 rfl) rfl rfl rfl rfl rfl (one_all rfl) (Nat.le_of_ble_eq_true rfl) ?_)
            rintro w105 hB107 hch106
            have hsz108 := hch106.size
            replace hRlog := hRlog.ch hch106 (off1 (by omega))
            replace hR75 := hR75.ch hch106 (off1 (by omega))
            replace hO65 := hO65.ch hch106 (fun s hs => by have := dj_asg hdj104 s hs; simpa using this)
            replace hc := (off1 (by omega)).step hc hch106
            replace hB100 : Blk w105 g98 33 [(.int .i64 (el (log.take (dn).toNat) k).s), (.int .i64 (el (log.take (dn).toNat) k).a)] := hB107
            clear hB107
            refine rw_nil (hK96 _ _ ?_)
            refine hK94 _ _ ?_
            refine cw_region fun K109 hK110 => ?_
            refine rw_cons (op_pv (w0 rfl) rfl rfl (pv_move (v := (.pointer (some (⟨g63, 0, none⟩)))) rfl rfl) ?_)
            refine rw_cons (op_lv (w0 rfl) rfl rfl (lv_loadN T33 rfl rfl rfl (fun j v hv => hB100.cellA hv)) ?_)
            refine rw_cons (op_call (w0 rfl) rfl rfl (rc_call C40 rfl rfl) (put_ok _ _ _ (el (log.take (dn).toNat) k).s (el (log.take (dn).toNat) k).a _ hO65 (by omega) (by omega)) ?_)
            rintro _ w111 ⟨rfl, hO112, hch113⟩
            have hsz114 := hch113.size
            replace hRlog := hRlog.ch hch113 (hO65.off.le (by omega))
            replace hR75 := hR75.ch hch113 (hO65.off.le (by omega))
            replace hB100 := hB100.ch hch113 (fun hs => dj_asg hdj104 _ hs rfl)
            replace hc := (hO65.off.le (by omega)).step hc hch113
            clear hO65; have hO65 := hO112; clear hO112
            refine rw_nil (hK110 _ _ ?_)
            refine hK92 _ _ ?_
            refine cw_region fun K115 hK116 => ?_
            refine rw_cons (op_pv (w0 rfl) rfl rfl (pv_add rfl rfl rfl (by omega) (by omega)) ?_)
            refine rw_cons (op_pv (w0 rfl) rfl rfl (pv_move (v := (.int .i64 ((k : Int) + 1))) rfl rfl) ?_)
            refine rw_nil (hK116 _ _ ?_)
            refine hK79 _ _ (k + 1) ⟨(iv (by omega)), rfl, rfl, rfl, rfl, trivial⟩ ⟨?_, hRlog, hR75, (by rw [runL_snoc empty5 (by omega)]; rw [el_take log dn.toNat k (by omega)] at hO65; exact hO65), hc, (by omega)⟩ ?_
            · omega
            · show dn.toNat - (k + 1) < dn.toNat - k; omega
          · -- else
            replace h90 := of_decide_eq_false h90
            refine cw_exit ?_
            refine hK70 _ _ ?_
            refine cw_seq fun K117 hK118 => ?_
            have hrn119 : (runL empty5 (log.take k)) = (runL empty5 (log.take dn.toNat)) := by rw [show k = dn.toNat by omega]
            rw [hrn119] at hO65
            have hub120 := hO65.lt
            have hrl2 := runL_len (log.take dn.toNat) empty5; have he5 := empty5_len
            refine cw_region fun K121 hK122 => ?_
            refine rw_cons (op_pv (w0 rfl) rfl rfl (pv_move (v := (.pointer (some (⟨g63, 0, none⟩)))) rfl rfl) ?_)
            refine rw_cons (op_call (w0 rfl) rfl rfl (rc_call C43 rfl rfl) (stlist_ok _ _ _ _ hO65) ?_)
            rintro _ w123 ⟨A124, c125, rfl, hO126, hch127⟩
            have hsz128 := hch127.size
            replace hRlog := hRlog.ch0 hch127
            replace hR75 := hR75.ch0 hch127
            replace hO65 := hO65.ch0 hch127
            replace hc := hc.step0 hch127
            have hub129 := hO126.lt
            have hcap130 : (runL empty5 (log.take dn.toNat)).length ≤ c125 := by obtain ⟨_, _, hv, h1, _⟩ := hO126.form; injection hv with _ _ h3; omega
            refine rw_cons (op_pv (w0 rfl) rfl rfl (pv_assign (v := (.slice A124 (runL empty5 (log.take dn.toNat)).length c125)) rfl rfl) ?_)
            refine rw_nil (hK122 _ _ ?_)
            refine hK118 _ _ ?_
            refine cw_ret ?_
            refine fin1 rfl ?_
            have he_0 : (runL empty5 (log.take dn.toNat)) = stateV log dn := by rw [stateV_yes ⟨by assumption, by omega⟩]
            exact ⟨_, _, (sl_as hO126 he_0), own_as (hO126.less (by omega)) he_0, hc⟩
end Go.Proofs.Ytdnncgapbjnfoaa
