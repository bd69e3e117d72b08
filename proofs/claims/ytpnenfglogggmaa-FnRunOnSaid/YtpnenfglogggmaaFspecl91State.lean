/-
  The walk of spec.l91State, written by program: each line names the law of one operation. Conditions: those of the theorem.
-/
import Derived.Test.YtpnenfglogggmaaProg
import Derived.Test.YtpnenfglogggmaaBase
import Derived.Test.YtpnenfglogggmaaFspecl6Rdpick
import Derived.KernelRfl
namespace Go.Proofs.Ytpnenfglogggmaa
open Go Go.RowKit
set_option linter.unusedVariables false
set_option linter.unusedSimpArgs false
namespace l91State_okF
theorem T3 : TI Try.prog 3 false (.int .i64 0) 1 8 := TI.mk' Try.underlying3 rfl (by kernel_rfl)
theorem C49 : Callable Try.prog 49 := ⟨_, Try.func49, by kernel_rfl, by kernel_rfl⟩
end l91State_okF
open l91State_okF in
set_option maxHeartbeats 4000000 in
theorem l91State_ok (g : Nat) (N : Nat) (w : World) (hRd : Rd 76 w g N) (hN : N ≤ 900000) :
    Fn Try.prog 48 [(.pointer (some (⟨g, 0, none⟩)))] w fun v w' => ∃ Axs cxs xs, v = .slice Axs xs.length cxs ∧ Own encI 1 w' w.heap.size 3 (.slice Axs xs.length cxs) xs ∧ xs.length ≤ 5 ∧ Rd 76 w' g (N + 16) ∧ Ch [g] w w' := by
  have hg0 := hRd.lt
  refine fn_of (n := 38) Try.func48 rfl rfl rfl rfl ?_
  have hc : Ch [g] w w := Ch.refl _ _
  refine cw_seq fun K1 hK2 => ?_
  refine cw_region fun K3 hK4 => ?_
  refine rw_cons (op_pv (w0 rfl) rfl rfl (pv_assign (v := (.slice none 0 0)) rfl rfl) ?_)
  refine rw_nil (hK4 _ _ ?_)
  refine hK2 _ _ ?_
  refine cw_seq fun K5 hK6 => ?_
  refine cw_region fun K7 hK8 => ?_
  refine rw_cons (op_bslice [] Try.underlying23 T3 (w0 rfl) rfl rfl rfl rfl rfl (by simp [Value.cells]) (by decide) ?_)
  intro g10 w9 hg13 hg14 hK12 hch11
  have hO15 : Own encI 1 w9 w.heap.size 3 (.slice (some ⟨g10, 0, none⟩) 0 0) ([] : List Int) := Blk.own (xs := ([] : List Int)) hK12 (by omega) rfl (by decide) rfl
  have hsz16 := hch11.size
  replace hRd := hRd.ch0 hch11
  replace hc := hc.step0 hch11
  have hub17 := hO15.lt
  refine rw_cons (op_pv (w0 rfl) rfl rfl (pv_assign (v := (.slice (some ⟨g10, 0, none⟩) 0 0)) rfl rfl) ?_)
  refine rw_nil (hK8 _ _ ?_)
  refine hK6 _ _ ?_
  refine cw_seq fun K18 hK19 => ?_
  refine cw_seq fun K20 hK21 => ?_
  refine cw_region fun K22 hK23 => ?_
  refine rw_cons (op_pv (w0 rfl) rfl rfl (pv_assign (v := (.int .i64 0)) rfl rfl) ?_)
  refine rw_nil (hK23 _ _ ?_)
  refine hK21 _ _ ?_
  refine cw_block ?_
  refine cw_loop (σ := Nat × (Option Addr) × Nat × (List Int)) (fun ⟨k, Ao, co, xs⟩ => [(3, (.slice Ao xs.length co)), (4, (.int .i64 (k : Int))), (0, (.pointer (some (⟨g, 0, none⟩)))), (2, (.slice none 0 0))]) (fun ⟨k, Ao, co, xs⟩ W => (xs.length = k ∧ (k : Int) ≤ 5) ∧ Own encI 1 W w.heap.size 3 (.slice Ao xs.length co) xs ∧ Rd 76 W g (N + 2 * k) ∧ Ch [g] w W) (fun ⟨k, Ao, co, xs⟩ => (5 : Int).toNat - k) (0, (some ⟨g10, 0, none⟩), 0, ([] : List Int)) ?_ ?_ ?_
  · exact ⟨rfl, rfl, rfl, rfl, trivial⟩
  · refine ⟨⟨rfl, by omega⟩, (hO15.less (by omega)), (hRd.up (by omega)), hc⟩
  · rintro ⟨k, Ao, co, xs⟩ J28 w24 ⟨⟨hxl, hk⟩, hOut, hRd, hc⟩ K25 hK26
    have hsz30 := hc.size
    have hlt31 := hRd.lt
    have hubO := hOut.lt
    have hcapO := hOut.le
    refine cw_seq fun K32 hK33 => ?_
    refine cw_seq fun K34 hK35 => ?_
    refine cw_region fun K36 hK37 => ?_
    refine rw_cons (op_pv (w0 rfl) rfl rfl (pv_move (v := (.int .i64 (k : Int))) rfl rfl) ?_)
    refine rw_cons (op_pv (w0 rfl) rfl rfl (pv_lss rfl rfl rfl) ?_)
    refine rw_nil (hK37 _ _ ?_)
    refine hK35 _ _ ?_
    refine cw_cond rfl (fun h38 => ?_) (fun h38 => ?_)
    · -- then
      replace h38 := of_decide_eq_true h38
      refine cw_skip ?_
      refine hK33 _ _ ?_
      refine cw_seq fun K39 hK40 => ?_
      refine cw_block ?_
      refine cw_region fun K41 hK42 => ?_
      refine rw_cons (op_pv (w0 rfl) rfl rfl (pv_move (v := (.slice Ao xs.length co)) rfl rfl) ?_)
      refine rw_cons (op_pv (w0 rfl) rfl rfl (pv_move (v := (.pointer (some (⟨g, 0, none⟩)))) rfl rfl) ?_)
      refine rw_cons (op_call (w0 rfl) rfl rfl (rc_call C49 rfl rfl) (pick_ok _ _ _ _ hRd (by omega)) ?_)
      rintro _ w44 ⟨r43, rfl, hr45, hr46, hr47, hRd48, hch49⟩
      have hsz50 := hch49.size
      replace hOut := hOut.ch hch49 (fun s hs => by first | (have := hOut.off s hs; simp; omega) | (have := hubO s hs; simp; omega))
      replace hc := hc.step hch49 (fun s hs => .inl hs)
      clear hRd; have hRd := hRd48; clear hRd48
      refine rw_cons (op_bslice [(.int .i64 (-1)), (.int .i64 r43)] Try.underlying23 T3 (w0 rfl) rfl rfl rfl rfl rfl (by simp [Value.cells]) (by decide) ?_)
      intro g52 w51 hg55 hg56 hK54 hch53
      have hO57 : Own encI 1 w51 w44.heap.size 3 (.slice (some ⟨g52, 0, none⟩) 2 2) ([-1, r43] : List Int) := Blk.own (xs := ([-1, r43] : List Int)) hK54 (by omega) rfl (by decide) rfl
      have hsz58 := hch53.size
      replace hOut := hOut.ch0 hch53
      replace hRd := hRd.ch0 hch53
      replace hc := hc.step0 hch53
      have hub59 := hO57.lt
      refine rw_cons (op_pv (w0 rfl) rfl rfl (pv_move (v := (.pointer (some (⟨g, 0, none⟩)))) rfl rfl) ?_)
      refine rw_cons (op_call (w0 rfl) rfl rfl (rc_call C49 rfl rfl) (pick_ok _ _ _ _ hRd (by omega)) ?_)
      rintro _ w61 ⟨r60, rfl, hr62, hr63, hr64, hRd65, hch66⟩
      have hsz67 := hch66.size
      replace hOut := hOut.ch hch66 (fun s hs => by first | (have := hOut.off s hs; simp; omega) | (have := hubO s hs; simp; omega))
      replace hO57 := hO57.ch hch66 (fun s hs => by first | (have := hO57.off s hs; simp; omega) | (have := hub59 s hs; simp; omega))
      replace hc := hc.step hch66 (fun s hs => .inl hs)
      clear hRd; have hRd := hRd65; clear hRd65
      refine rw_cons (op_pv (w0 rfl) rfl rfl (pv_idx Try.underlying23 T3 rfl rfl rfl ((hO57.rs (fun _ => rfl)).some (k := (r60).toNat) (by omega)) (by omega) (by omega)) ?_)
      refine rw_cons (op_lv (w0 rfl) rfl rfl (lv_load T3 rfl rfl ((hO57.rs (fun _ => rfl)).cell0 (k := (r60).toNat) (by omega) rfl)) ?_)
      refine rw_cons (op_bslice [(.int .i64 (el ([-1, r43] : List Int) (r60).toNat))] Try.underlying23 T3 (w0 rfl) rfl rfl rfl rfl rfl (by simp [Value.cells]) (by decide) ?_)
      intro g69 w68 hg72 hg73 hK71 hch70
      have hO74 : Own encI 1 w68 w61.heap.size 3 (.slice (some ⟨g69, 0, none⟩) 1 1) ([(el ([-1, r43] : List Int) (r60).toNat)] : List Int) := Blk.own (xs := ([(el ([-1, r43] : List Int) (r60).toNat)] : List Int)) hK71 (by omega) rfl (by decide) rfl
      have hsz75 := hch70.size
      replace hOut := hOut.ch0 hch70
      replace hRd := hRd.ch0 hch70
      replace hO57 := hO57.ch0 hch70
      replace hc := hc.step0 hch70
      have hub76 := hO74.lt
      refine rw_cons (op_append Try.underlying23 T3 (fun _ => rfl) rfl (by decide) (fun _ => one_all rfl) (w0 rfl) rfl rfl rfl rfl rfl hOut (hO74.rs (fun _ => rfl)) (by unfold maxLen; first | omega | (simp; omega)) (by first | omega | (simp; omega)) (by omega) ?_)
      rintro v77 w78 hO79 hch80 hs81
      have hl82 : (xs ++ ([(el ([-1, r43] : List Int) (r60).toNat)] : List Int)).length = xs.length + 1 := by first | (have hl0 := (hO74.rs (fun _ => rfl)).len; omega) | (have hl0 := (hO74.rs (fun _ => rfl)).len; simp only [List.length_append, List.length_cons, List.length_nil] at hl0 ⊢; omega) | simp | rfl
      clear hO74
      have hsz83 := hch80.size
      replace hRd := hRd.ch hch80 (hOut.off.le (by omega))
      replace hO57 := hO57.ch hch80 (fun s hs hs2 => by first | (have h1 := hO57.off s hs; have h2 := hubO s hs2; omega) | (have h1 := hub59 s hs; have h2 := hOut.off s hs2; omega) | (have h2 := hubO s hs2; simp [obl, Value.ownBlock] at hs; omega) | (have h1 := hub59 s hs; simp [obl, Value.ownBlock] at hs2; omega))
      replace hc := hc.step hch80 (fun s hs => .inr (hOut.off s hs))
      have hub84 := hO79.lt
      obtain ⟨A85, c86, hv87, hcap88, hcap89⟩ := hO79.form; subst hv87
      refine rw_cons (op_pv (w0 rfl) rfl rfl (pv_assign (v := (.slice A85 (xs ++ ([(el ([-1, r43] : List Int) (r60).toNat)] : List Int)).length c86)) rfl rfl) ?_)
      refine rw_nil (hK42 _ _ ?_)
      refine hK40 _ _ ?_
      refine cw_region fun K90 hK91 => ?_
      refine rw_cons (op_pv (w0 rfl) rfl rfl (pv_move (v := (.int .i64 (k : Int))) rfl rfl) ?_)
      refine rw_cons (op_pv (w0 rfl) rfl rfl (pv_add rfl rfl rfl (by omega) (by omega)) ?_)
      refine rw_cons (op_pv (w0 rfl) rfl rfl (pv_assign (v := (.int .i64 ((k : Int) + 1))) rfl rfl) ?_)
      refine rw_nil (hK91 _ _ ?_)
      replace hRd := hRd.up (M := N + 2 * (k + 1)) (by omega)
      refine hK26 _ _ (k + 1, A85, c86, (xs ++ ([(el ([-1, r43] : List Int) (r60).toNat)] : List Int))) ⟨rfl, (iv (by omega)), rfl, rfl, trivial⟩ ⟨?_, hO79, hRd, hc⟩ ?_
      · exact ⟨by omega, by omega⟩
      · show (5 : Int).toNat - (k + 1) < (5 : Int).toNat - k; omega
    · -- else
      replace h38 := of_decide_eq_false h38
      refine cw_exit ?_
      refine hK19 _ _ ?_
      refine cw_seq fun K92 hK93 => ?_
      refine cw_seq fun K94 hK95 => ?_
      refine cw_region fun K96 hK97 => ?_
      refine rw_cons (op_pv (w0 rfl) rfl rfl (pv_move (v := (.pointer (some (⟨g, 0, none⟩)))) rfl rfl) ?_)
      refine rw_cons (op_call (w0 rfl) rfl rfl (rc_call C49 rfl rfl) (pick_ok _ _ _ _ hRd (by omega)) ?_)
      rintro _ w99 ⟨r98, rfl, hr100, hr101, hr102, hRd103, hch104⟩
      have hsz105 := hch104.size
      replace hOut := hOut.ch hch104 (fun s hs => by first | (have := hOut.off s hs; simp; omega) | (have := hubO s hs; simp; omega))
      replace hc := hc.step hch104 (fun s hs => .inl hs)
      clear hRd; have hRd := hRd103; clear hRd103
      refine rw_nil (hK97 _ _ ?_)
      refine hK95 _ _ ?_
      refine cw_block ?_
      refine cw_seq fun K106 hK107 => ?_
      refine cw_region fun K108 hK109 => ?_
      refine rw_cons (op_pv (w0 rfl) rfl rfl (pv_eql rfl rfl rfl) ?_)
      refine rw_cons (op_pv (w0 rfl) rfl rfl (pv_assign (v := (.bool (decide ((r98 : Int) = 0)))) rfl rfl) ?_)
      refine rw_nil (hK109 _ _ ?_)
      refine hK107 _ _ ?_
      refine cw_cond rfl (fun h110 => ?_) (fun h110 => ?_)
      · -- then
        replace h110 := of_decide_eq_true h110
        refine cw_region fun K111 hK112 => ?_
        refine rw_cons (op_pv (w0 rfl) rfl rfl (pv_move (v := (.slice Ao xs.length co)) rfl rfl) ?_)
        refine rw_cons (op_pv (w0 rfl) rfl rfl (pv_move (v := (.pointer (some (⟨g, 0, none⟩)))) rfl rfl) ?_)
        refine rw_cons (op_call (w0 rfl) rfl rfl (rc_call C49 rfl rfl) (pick_ok _ _ _ _ hRd (by omega)) ?_)
        rintro _ w114 ⟨r113, rfl, hr115, hr116, hr117, hRd118, hch119⟩
        have hsz120 := hch119.size
        replace hOut := hOut.ch hch119 (fun s hs => by first | (have := hOut.off s hs; simp; omega) | (have := hubO s hs; simp; omega))
        replace hc := hc.step hch119 (fun s hs => .inl hs)
        clear hRd; have hRd := hRd118; clear hRd118
        refine rw_cons (op_bslice [(.int .i64 (-2)), (.int .i64 100)] Try.underlying23 T3 (w0 rfl) rfl rfl rfl rfl rfl (by simp [Value.cells]) (by decide) ?_)
        intro g122 w121 hg125 hg126 hK124 hch123
        have hO127 : Own encI 1 w121 w114.heap.size 3 (.slice (some ⟨g122, 0, none⟩) 2 2) ([-2, 100] : List Int) := Blk.own (xs := ([-2, 100] : List Int)) hK124 (by omega) rfl (by decide) rfl
        have hsz128 := hch123.size
        replace hOut := hOut.ch0 hch123
        replace hRd := hRd.ch0 hch123
        replace hc := hc.step0 hch123
        have hub129 := hO127.lt
        refine rw_cons (op_pv (w0 rfl) rfl rfl (pv_move (v := (.pointer (some (⟨g, 0, none⟩)))) rfl rfl) ?_)
        refine rw_cons (op_call (w0 rfl) rfl rfl (rc_call C49 rfl rfl) (pick_ok _ _ _ _ hRd (by omega)) ?_)
        rintro _ w131 ⟨r130, rfl, hr132, hr133, hr134, hRd135, hch136⟩
        have hsz137 := hch136.size
        replace hOut := hOut.ch hch136 (fun s hs => by first | (have := hOut.off s hs; simp; omega) | (have := hubO s hs; simp; omega))
        replace hO127 := hO127.ch hch136 (fun s hs => by first | (have := hO127.off s hs; simp; omega) | (have := hub129 s hs; simp; omega))
        replace hc := hc.step hch136 (fun s hs => .inl hs)
        clear hRd; have hRd := hRd135; clear hRd135
        refine rw_cons (op_pv (w0 rfl) rfl rfl (pv_idx Try.underlying23 T3 rfl rfl rfl ((hO127.rs (fun _ => rfl)).some (k := (r130).toNat) (by omega)) (by omega) (by omega)) ?_)
        refine rw_cons (op_lv (w0 rfl) rfl rfl (lv_load T3 rfl rfl ((hO127.rs (fun _ => rfl)).cell0 (k := (r130).toNat) (by omega) rfl)) ?_)
        refine rw_cons (op_pv (w0 rfl) rfl rfl (pv_idx Try.underlying23 T3 rfl rfl rfl ((hOut.rs (fun _ => rfl)).some (k := (r113).toNat) (by omega)) (by omega) (by omega)) ?_)
        refine rw_cons (op_store_ownA (k := (r113).toNat) (off := 0) (el ([-2, 100] : List Int) (r130).toNat) T3 hOut (fun _ => rfl) (w0 rfl) rfl rfl rfl rfl rfl (one_all rfl) (by omega) (Nat.le_of_ble_eq_true rfl) rfl ?_)
        rintro w138 hO140 hch139
        have hsz141 := hch139.size
        replace hRd := hRd.ch hch139 (hOut.off.le (by omega))
        replace hO127 := hO127.ch hch139 (fun s hs hs2 => by first | (have h1 := hO127.off s hs; have h2 := hubO s hs2; omega) | (have h1 := hub129 s hs; have h2 := hOut.off s hs2; omega) | (have h2 := hubO s hs2; simp [obl, Value.ownBlock] at hs; omega) | (have h1 := hub129 s hs; simp [obl, Value.ownBlock] at hs2; omega))
        replace hc := hc.step hch139 (fun s hs => .inr (hOut.off s hs))
        clear hOut; have hOut := hO140; clear hO140
        refine rw_nil (hK112 _ _ ?_)
        refine hK93 _ _ ?_
        refine cw_seq fun K142 hK143 => ?_
        refine cw_region fun K144 hK145 => ?_
        refine rw_cons (op_pv (w0 rfl) rfl rfl (pv_move (v := (.slice Ao xs.length co)) rfl rfl) ?_)
        refine rw_cons (op_pv (w0 rfl) rfl rfl (pv_assign (v := (.slice Ao xs.length co)) rfl rfl) ?_)
        refine rw_nil (hK145 _ _ ?_)
        refine hK143 _ _ ?_
        refine cw_ret ?_
        refine fin1 rfl ?_
        exact ⟨_, _, _, (sl_as hOut rfl), own_as (hOut.less (by omega)) rfl, by first | omega | (simp only [List.length_take, List.length_set, List.length_append, List.length_cons, List.length_nil, List.length_replicate]; omega), hRd.up (by omega), hc⟩
      · -- else
        replace h110 := of_decide_eq_false h110
        refine cw_seq fun K146 hK147 => ?_
        refine cw_region fun K148 hK149 => ?_
        refine rw_cons (op_pv (w0 rfl) rfl rfl (pv_eql rfl rfl rfl) ?_)
        refine rw_cons (op_pv (w0 rfl) rfl rfl (pv_assign (v := (.bool (decide ((r98 : Int) = 1)))) rfl rfl) ?_)
        refine rw_nil (hK149 _ _ ?_)
        refine hK147 _ _ ?_
        refine cw_cond rfl (fun h150 => ?_) (fun h150 => ?_)
        · -- then
          replace h150 := of_decide_eq_true h150
          refine cw_seq fun K151 hK152 => ?_
          refine cw_region fun K153 hK154 => ?_
          refine rw_cons (op_pv (w0 rfl) rfl rfl (pv_move (v := (.slice Ao xs.length co)) rfl rfl) ?_)
          refine rw_cons (op_pv (w0 rfl) rfl rfl (pv_upto Try.underlying23 T3 rfl rfl rfl (by omega) (by omega)) ?_)
          have hR155 : RS encI 1 w99 w99.heap.size Ao 4 (xs.take 4) := ((hOut.rs (fun _ => rfl))).upto (by omega)
          refine rw_cons (op_pv (w0 rfl) rfl rfl (pv_assign (v := (.slice Ao 4 co)) rfl rfl) ?_)
          refine rw_nil (hK154 _ _ ?_)
          refine hK152 _ _ ?_
          refine cw_ret ?_
          refine fin1 rfl ?_
          exact ⟨_, _, _, (sl_as (hOut.upto (fun _ => rfl) (k := 4) (by omega)) rfl), own_as ((hOut.upto (fun _ => rfl) (k := 4) (by omega)).less (by omega)) rfl, by first | omega | (simp only [List.length_take, List.length_set, List.length_append, List.length_cons, List.length_nil, List.length_replicate]; omega), hRd.up (by omega), hc⟩
        · -- else
          replace h150 := of_decide_eq_false h150
          refine cw_skip ?_
          refine hK93 _ _ ?_
          refine cw_seq fun K156 hK157 => ?_
          refine cw_region fun K158 hK159 => ?_
          refine rw_cons (op_pv (w0 rfl) rfl rfl (pv_move (v := (.slice Ao xs.length co)) rfl rfl) ?_)
          refine rw_cons (op_pv (w0 rfl) rfl rfl (pv_assign (v := (.slice Ao xs.length co)) rfl rfl) ?_)
          refine rw_nil (hK159 _ _ ?_)
          refine hK157 _ _ ?_
          refine cw_ret ?_
          refine fin1 rfl ?_
          exact ⟨_, _, _, (sl_as hOut rfl), own_as (hOut.less (by omega)) rfl, by first | omega | (simp only [List.length_take, List.length_set, List.length_append, List.length_cons, List.length_nil, List.length_replicate]; omega), hRd.up (by omega), hc⟩
end Go.Proofs.Ytpnenfglogggmaa
