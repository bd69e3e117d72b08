/-
  The walk of spec.l92Bytes, written by program: each line names the law of one operation. Conditions: those of the theorem.
-/
import Derived.Test.YthgnnpafieifmaaProg
import Derived.Test.YthgnnpafieifmaaSums
import Derived.Test.YthgnnpafieifmaaFspecl6Rdpick
import Derived.KernelRfl
namespace Go.Proofs.Ythgnnpafieifmaa
open Go Go.RowKit
set_option linter.unusedVariables false
set_option linter.unusedSimpArgs false
namespace l92Bytes_okF
theorem T3 : TI Try.prog 3 false (.int .i64 0) 1 8 := TI.mk' Try.underlying3 rfl (by kernel_rfl)
theorem C42 : Callable Try.prog 42 := ⟨_, Try.func42, by kernel_rfl, by kernel_rfl⟩
end l92Bytes_okF
open l92Bytes_okF in
set_option maxHeartbeats 4000000 in
theorem l92Bytes_ok (g : Nat) (N : Nat) (w : World) (hRd : Rd 48 w g N) (hN : N ≤ 900000) :
    Fn Try.prog 35 [(.pointer (some (⟨g, 0, none⟩)))] w fun v w' => ∃ A c xs, v = .slice A xs.length c ∧ Own encI 1 w' w.heap.size 3 (.slice A xs.length c) xs ∧ xs.length ≤ 17 ∧ DrawnB xs ∧ Rd 48 w' g (N + 24) ∧ Ch [g] w w' := by
  have hg0 := hRd.lt
  refine fn_of (n := 39) Try.func35 rfl rfl rfl rfl ?_
  have hc : Ch [g] w w := Ch.refl _ _
  refine cw_seq fun K1 hK2 => ?_
  refine cw_region fun K3 hK4 => ?_
  refine rw_cons (op_pv (w0 rfl) rfl rfl (pv_assign (v := (.slice none 0 0)) rfl rfl) ?_)
  refine rw_nil (hK4 _ _ ?_)
  refine hK2 _ _ ?_
  refine cw_seq fun K5 hK6 => ?_
  refine cw_region fun K7 hK8 => ?_
  refine rw_cons (op_bslice [] Try.underlying22 T3 (w0 rfl) rfl rfl rfl rfl rfl (by simp [Value.cells]) (by decide) ?_)
  intro g10 w9 hg13 hg14 hK12 hch11
  have hO15 : Own encI 1 w9 w.heap.size 3 (.slice (some ⟨g10, 0, none⟩) 0 0) ([] : List Int) := Blk.own (xs := ([] : List Int)) hK12 (by omega) rfl (by decide) rfl
  have hsz16 := hch11.size
  replace hRd := hRd.ch0 hch11
  replace hc := hc.step0 hch11
  have hub17 := hO15.lt
  refine rw_cons (op_pv (w0 rfl) rfl rfl (pv_assign (v := (.slice (some ⟨g10, 0, none⟩) 0 0)) rfl rfl) ?_)
  refine rw_nil (hK8 _ _ ?_)
  refine hK6 _ _ ?_
  refine cw_seq fun K18 hK19 => ?_
  refine cw_region fun K20 hK21 => ?_
  refine rw_cons (op_pv (w0 rfl) rfl rfl (pv_move (v := (.pointer (some (⟨g, 0, none⟩)))) rfl rfl) ?_)
  refine rw_cons (op_call (w0 rfl) rfl rfl (rc_call C42 rfl rfl) (pick_ok _ _ _ _ hRd (by omega)) ?_)
  rintro _ w23 ⟨r22, rfl, hr24, hr25, hr26, hRd27, hch28⟩
  have hsz29 := hch28.size
  replace hO15 := hO15.ch hch28 (fun s hs => by have := hO15.off s hs; simp; omega)
  replace hc := hc.step hch28 (fun s hs => .inl hs)
  clear hRd; have hRd := hRd27; clear hRd27
  refine rw_cons (op_pv (w0 rfl) rfl rfl (pv_assign (v := (.int .i64 r22)) rfl rfl) ?_)
  refine rw_nil (hK21 _ _ ?_)
  refine hK19 _ _ ?_
  refine cw_seq fun K30 hK31 => ?_
  refine cw_seq fun K32 hK33 => ?_
  refine cw_region fun K34 hK35 => ?_
  refine rw_cons (op_pv (w0 rfl) rfl rfl (pv_assign (v := (.int .i64 0)) rfl rfl) ?_)
  refine rw_nil (hK35 _ _ ?_)
  refine hK33 _ _ ?_
  refine cw_block ?_
  refine cw_loop (σ := Nat × (Option Addr) × Nat × (List Int)) (fun ⟨k, A3, c3, xs⟩ => [(3, (.slice A3 xs.length c3)), (5, (.int .i64 (k : Int))), (0, (.pointer (some (⟨g, 0, none⟩)))), (2, (.slice none 0 0)), (4, (.int .i64 r22))]) (fun ⟨k, A3, c3, xs⟩ W => (xs.length = k ∧ (k : Int) ≤ r22 ∧ DrawnB xs) ∧ Own encI 1 W w.heap.size 3 (.slice A3 xs.length c3) xs ∧ Rd 48 W g (N + (k + 1)) ∧ Ch [g] w W) (fun ⟨k, A3, c3, xs⟩ => (r22).toNat - k) (0, (some ⟨g10, 0, none⟩), 0, ([] : List Int)) ?_ ?_ ?_
  · exact ⟨rfl, rfl, rfl, rfl, rfl, trivial⟩
  · refine ⟨⟨rfl, by omega, drawn_nil⟩, (hO15.less (by omega)), hRd, hc⟩
  · rintro ⟨k, A3, c3, xs⟩ J40 w36 ⟨⟨hxl, hk, hdr⟩, hOut, hRd, hc⟩ K37 hK38
    have hsz42 := hc.size
    have hlt43 := hRd.lt
    have hubO := hOut.lt
    refine cw_seq fun K44 hK45 => ?_
    refine cw_seq fun K46 hK47 => ?_
    refine cw_region fun K48 hK49 => ?_
    refine rw_cons (op_pv (w0 rfl) rfl rfl (pv_move (v := (.int .i64 (k : Int))) rfl rfl) ?_)
    refine rw_cons (op_pv (w0 rfl) rfl rfl (pv_move (v := (.int .i64 r22)) rfl rfl) ?_)
    refine rw_cons (op_pv (w0 rfl) rfl rfl (pv_lss rfl rfl rfl) ?_)
    refine rw_nil (hK49 _ _ ?_)
    refine hK47 _ _ ?_
    refine cw_cond rfl (fun h50 => ?_) (fun h50 => ?_)
    · -- then
      replace h50 := of_decide_eq_true h50
      refine cw_skip ?_
      refine hK45 _ _ ?_
      refine cw_seq fun K51 hK52 => ?_
      refine cw_block ?_
      refine cw_region fun K53 hK54 => ?_
      refine rw_cons (op_pv (w0 rfl) rfl rfl (pv_move (v := (.slice A3 xs.length c3)) rfl rfl) ?_)
      refine rw_cons (op_pv (w0 rfl) rfl rfl (pv_move (v := (.pointer (some (⟨g, 0, none⟩)))) rfl rfl) ?_)
      refine rw_cons (op_call (w0 rfl) rfl rfl (rc_call C42 rfl rfl) (pick_ok _ _ _ _ hRd (by omega)) ?_)
      rintro _ w56 ⟨r55, rfl, hr57, hr58, hr59, hRd60, hch61⟩
      have hsz62 := hch61.size
      replace hOut := hOut.ch hch61 (fun s hs => by have := hOut.off s hs; simp; omega)
      replace hc := hc.step hch61 (fun s hs => .inl hs)
      clear hRd; have hRd := hRd60; clear hRd60
      refine rw_cons (op_bslice [(.int .i64 r55)] Try.underlying22 T3 (w0 rfl) rfl rfl rfl rfl rfl (by simp [Value.cells]) (by decide) ?_)
      intro g64 w63 hg67 hg68 hK66 hch65
      have hO69 : Own encI 1 w63 w56.heap.size 3 (.slice (some ⟨g64, 0, none⟩) 1 1) ([r55] : List Int) := Blk.own (xs := ([r55] : List Int)) hK66 (by omega) rfl (by decide) rfl
      have hsz70 := hch65.size
      replace hOut := hOut.ch0 hch65
      replace hRd := hRd.ch0 hch65
      replace hc := hc.step0 hch65
      have hub71 := hO69.lt
      refine rw_cons (op_append Try.underlying22 T3 (fun _ => rfl) rfl (by decide) (fun _ => one_all rfl) (w0 rfl) rfl rfl rfl rfl rfl hOut (hO69.rs (fun _ => rfl)) (by unfold maxLen; first | omega | (simp; omega)) (by first | omega | (simp; omega)) (by omega) ?_)
      rintro v72 w73 hO74 hch75 hs76
      have hl77 : (xs ++ ([r55] : List Int)).length = xs.length + 1 := by first | (have hl0 := (hO69.rs (fun _ => rfl)).len; omega) | (have hl0 := (hO69.rs (fun _ => rfl)).len; simp only [List.length_append, List.length_cons, List.length_nil] at hl0 ⊢; omega) | simp | rfl
      clear hO69
      have hsz78 := hch75.size
      replace hRd := hRd.ch hch75 (hOut.off.le (by omega))
      replace hc := hc.step hch75 (fun s hs => .inr (hOut.off s hs))
      have hub79 := hO74.lt
      obtain ⟨A80, c81, hv82, hcap83, hcap84⟩ := hO74.form; subst hv82
      refine rw_cons (op_pv (w0 rfl) rfl rfl (pv_assign (v := (.slice A80 (xs ++ ([r55] : List Int)).length c81)) rfl rfl) ?_)
      refine rw_nil (hK54 _ _ ?_)
      refine hK52 _ _ ?_
      refine cw_region fun K85 hK86 => ?_
      refine rw_cons (op_pv (w0 rfl) rfl rfl (pv_move (v := (.int .i64 (k : Int))) rfl rfl) ?_)
      refine rw_cons (op_pv (w0 rfl) rfl rfl (pv_add rfl rfl rfl (by omega) (by omega)) ?_)
      refine rw_cons (op_pv (w0 rfl) rfl rfl (pv_assign (v := (.int .i64 ((k : Int) + 1))) rfl rfl) ?_)
      refine rw_nil (hK86 _ _ ?_)
      replace hRd := hRd.up (M := N + (k + 1 + 1)) (by omega)
      refine hK38 _ _ (k + 1, A80, c81, (xs ++ ([r55] : List Int))) ⟨rfl, (iv (by omega)), rfl, rfl, rfl, trivial⟩ ⟨?_, hO74, hRd, hc⟩ ?_
      · exact ⟨by omega, by omega, drawn_snoc hdr _ (by omega) (by omega)⟩
      · show (r22).toNat - (k + 1) < (r22).toNat - k; omega
    · -- else
      replace h50 := of_decide_eq_false h50
      refine cw_exit ?_
      refine hK31 _ _ ?_
      refine cw_seq fun K87 hK88 => ?_
      refine cw_seq fun K89 hK90 => ?_
      refine cw_region fun K91 hK92 => ?_
      refine rw_cons (op_pv (w0 rfl) rfl rfl (pv_move (v := (.pointer (some (⟨g, 0, none⟩)))) rfl rfl) ?_)
      refine rw_cons (op_call (w0 rfl) rfl rfl (rc_call C42 rfl rfl) (pick_ok _ _ _ _ hRd (by omega)) ?_)
      rintro _ w94 ⟨r93, rfl, hr95, hr96, hr97, hRd98, hch99⟩
      have hsz100 := hch99.size
      replace hOut := hOut.ch hch99 (fun s hs => by have := hOut.off s hs; simp; omega)
      replace hc := hc.step hch99 (fun s hs => .inl hs)
      clear hRd; have hRd := hRd98; clear hRd98
      refine rw_nil (hK92 _ _ ?_)
      refine hK90 _ _ ?_
      refine cw_block ?_
      refine cw_seq fun K101 hK102 => ?_
      refine cw_region fun K103 hK104 => ?_
      refine rw_cons (op_pv (w0 rfl) rfl rfl (pv_eql rfl rfl rfl) ?_)
      refine rw_cons (op_pv (w0 rfl) rfl rfl (pv_assign (v := (.bool (decide ((r93 : Int) = 0)))) rfl rfl) ?_)
      refine rw_nil (hK104 _ _ ?_)
      refine hK102 _ _ ?_
      refine cw_cond rfl (fun h105 => ?_) (fun h105 => ?_)
      · -- then
        replace h105 := of_decide_eq_true h105
        refine cw_seq fun K106 hK107 => ?_
        refine cw_region fun K108 hK109 => ?_
        refine rw_cons (op_pv (w0 rfl) rfl rfl (pv_move (v := (.int .i64 r22)) rfl rfl) ?_)
        refine rw_cons (op_pv (w0 rfl) rfl rfl (pv_gtr rfl rfl rfl) ?_)
        refine rw_nil (hK109 _ _ ?_)
        refine hK107 _ _ ?_
        refine cw_cond rfl (fun h110 => ?_) (fun h110 => ?_)
        · -- then
          replace h110 := of_decide_eq_true h110
          refine cw_region fun K111 hK112 => ?_
          refine rw_cons (op_pv (w0 rfl) rfl rfl (pv_move (v := (.slice A3 xs.length c3)) rfl rfl) ?_)
          refine rw_cons (op_pv (w0 rfl) rfl rfl (pv_move (v := (.pointer (some (⟨g, 0, none⟩)))) rfl rfl) ?_)
          refine rw_cons (op_pv (w0 rfl) rfl rfl (pv_move (v := (.int .i64 r22)) rfl rfl) ?_)
          refine rw_cons (op_call (w0 rfl) rfl rfl (rc_call C42 rfl rfl) (pick_ok _ _ _ _ hRd (by omega)) ?_)
          rintro _ w114 ⟨r113, rfl, hr115, hr116, hr117, hRd118, hch119⟩
          have hsz120 := hch119.size
          replace hOut := hOut.ch hch119 (fun s hs => by have := hOut.off s hs; simp; omega)
          replace hc := hc.step hch119 (fun s hs => .inl hs)
          clear hRd; have hRd := hRd118; clear hRd118
          refine rw_cons (op_bslice [(.int .i64 (-1)), (.int .i64 256)] Try.underlying22 T3 (w0 rfl) rfl rfl rfl rfl rfl (by simp [Value.cells]) (by decide) ?_)
          intro g122 w121 hg125 hg126 hK124 hch123
          have hO127 : Own encI 1 w121 w114.heap.size 3 (.slice (some ⟨g122, 0, none⟩) 2 2) ([-1, 256] : List Int) := Blk.own (xs := ([-1, 256] : List Int)) hK124 (by omega) rfl (by decide) rfl
          have hsz128 := hch123.size
          replace hOut := hOut.ch0 hch123
          replace hRd := hRd.ch0 hch123
          replace hc := hc.step0 hch123
          have hub129 := hO127.lt
          refine rw_cons (op_pv (w0 rfl) rfl rfl (pv_move (v := (.pointer (some (⟨g, 0, none⟩)))) rfl rfl) ?_)
          refine rw_cons (op_call (w0 rfl) rfl rfl (rc_call C42 rfl rfl) (pick_ok _ _ _ _ hRd (by omega)) ?_)
          rintro _ w131 ⟨r130, rfl, hr132, hr133, hr134, hRd135, hch136⟩
          have hsz137 := hch136.size
          replace hOut := hOut.ch hch136 (fun s hs => by have := hOut.off s hs; simp; omega)
          replace hO127 := hO127.ch hch136 (fun s hs => by have := hO127.off s hs; simp; omega)
          replace hc := hc.step hch136 (fun s hs => .inl hs)
          clear hRd; have hRd := hRd135; clear hRd135
          refine rw_cons (op_pv (w0 rfl) rfl rfl (pv_idx Try.underlying22 T3 rfl rfl rfl ((hO127.rs (fun _ => rfl)).some (k := (r130).toNat) (by omega)) (by omega) (by omega)) ?_)
          refine rw_cons (op_lv (w0 rfl) rfl rfl (lv_load T3 rfl rfl ((hO127.rs (fun _ => rfl)).cell0 (k := (r130).toNat) (by omega) rfl)) ?_)
          refine rw_cons (op_pv (w0 rfl) rfl rfl (pv_idx Try.underlying22 T3 rfl rfl rfl ((hOut.rs (fun _ => rfl)).some (k := (r113).toNat) (by omega)) (by omega) (by omega)) ?_)
          refine rw_cons (op_store_ownA (k := (r113).toNat) (off := 0) (el ([-1, 256] : List Int) (r130).toNat) T3 hOut (fun _ => rfl) (w0 rfl) rfl rfl rfl rfl rfl (one_all rfl) (by omega) (Nat.le_of_ble_eq_true rfl) rfl ?_)
          rintro w138 hO140 hch139
          have hsz141 := hch139.size
          replace hRd := hRd.ch hch139 (hOut.off.le (by omega))
          replace hO127 := hO127.ch hch139 (fun s hs hs2 => by first | (have h1 := hO127.off s hs; have h2 := hubO s hs2; omega) | (have h1 := hub129 s hs; have h2 := hOut.off s hs2; omega) | (have h2 := hubO s hs2; simp [obl, Value.ownBlock] at hs; omega) | (have h1 := hub129 s hs; simp [obl, Value.ownBlock] at hs2; omega))
          replace hc := hc.step hch139 (fun s hs => .inr (hOut.off s hs))
          clear hOut; have hOut := hO140; clear hO140
          refine rw_nil (hK112 _ _ ?_)
          refine hK88 _ _ ?_
          refine cw_seq fun K142 hK143 => ?_
          refine cw_region fun K144 hK145 => ?_
          refine rw_cons (op_pv (w0 rfl) rfl rfl (pv_move (v := (.slice A3 xs.length c3)) rfl rfl) ?_)
          refine rw_cons (op_pv (w0 rfl) rfl rfl (pv_assign (v := (.slice A3 xs.length c3)) rfl rfl) ?_)
          refine rw_nil (hK145 _ _ ?_)
          refine hK143 _ _ ?_
          refine cw_ret ?_
          refine fin1 rfl ?_
          have hsl : (xs.set (r113).toNat (el ([-1, 256] : List Int) (r130).toNat)).length = xs.length := List.length_set ..
          exact ⟨A3, c3, (xs.set (r113).toNat (el ([-1, 256] : List Int) (r130).toNat)), by rw [hsl]; rfl, by rw [hsl]; exact hOut.less (by omega), by omega, drawn_set hdr _ _ (by omega) (two_bd _).1 (two_bd _).2, hRd.up (by omega), hc⟩
        · -- else
          replace h110 := of_decide_eq_false h110
          refine cw_skip ?_
          refine hK88 _ _ ?_
          refine cw_seq fun K146 hK147 => ?_
          refine cw_region fun K148 hK149 => ?_
          refine rw_cons (op_pv (w0 rfl) rfl rfl (pv_move (v := (.slice A3 xs.length c3)) rfl rfl) ?_)
          refine rw_cons (op_pv (w0 rfl) rfl rfl (pv_assign (v := (.slice A3 xs.length c3)) rfl rfl) ?_)
          refine rw_nil (hK149 _ _ ?_)
          refine hK147 _ _ ?_
          refine cw_ret ?_
          refine fin1 rfl ?_
          exact ⟨_, _, xs, rfl, hOut.less (by omega), by omega, hdr, hRd.up (by omega), hc⟩
      · -- else
        replace h105 := of_decide_eq_false h105
        refine cw_seq fun K150 hK151 => ?_
        refine cw_region fun K152 hK153 => ?_
        refine rw_cons (op_pv (w0 rfl) rfl rfl (pv_eql rfl rfl rfl) ?_)
        refine rw_cons (op_pv (w0 rfl) rfl rfl (pv_assign (v := (.bool (decide ((r93 : Int) = 1)))) rfl rfl) ?_)
        refine rw_nil (hK153 _ _ ?_)
        refine hK151 _ _ ?_
        refine cw_cond rfl (fun h154 => ?_) (fun h154 => ?_)
        · -- then
          replace h154 := of_decide_eq_true h154
          refine cw_seq fun K155 hK156 => ?_
          refine cw_region fun K157 hK158 => ?_
          refine rw_cons (op_make (enc := encI) 17 default Try.underlying22 T3 (fun _ => rfl) rfl (by decide) (w0 rfl) rfl rfl rfl rfl rfl (by omega) (by unfold maxLen; omega) ?_)
          rintro g160 w159 hg163 hg164 hO162 hch161
          have hsz165 := hch161.size
          replace hOut := hOut.ch0 hch161
          replace hRd := hRd.ch0 hch161
          replace hc := hc.step0 hch161
          replace hO162 := hO162.less (b := w94.heap.size) (by omega)
          have hub166 := hO162.lt
          refine rw_cons (op_pv (w0 rfl) rfl rfl (pv_assign (v := (.slice (some ⟨g160, 0, none⟩) 17 17)) rfl rfl) ?_)
          refine rw_nil (hK158 _ _ ?_)
          refine hK156 _ _ ?_
          refine cw_ret ?_
          refine fin1 rfl ?_
          exact ⟨_, _, (List.replicate 17 default), rfl, hO162.less (by omega), by first | omega | (simp; omega) | decide, drawn_zero _, hRd.up (by omega), hc⟩
        · -- else
          replace h154 := of_decide_eq_false h154
          refine cw_skip ?_
          refine hK88 _ _ ?_
          refine cw_seq fun K167 hK168 => ?_
          refine cw_region fun K169 hK170 => ?_
          refine rw_cons (op_pv (w0 rfl) rfl rfl (pv_move (v := (.slice A3 xs.length c3)) rfl rfl) ?_)
          refine rw_cons (op_pv (w0 rfl) rfl rfl (pv_assign (v := (.slice A3 xs.length c3)) rfl rfl) ?_)
          refine rw_nil (hK170 _ _ ?_)
          refine hK168 _ _ ?_
          refine cw_ret ?_
          refine fin1 rfl ?_
          exact ⟨_, _, xs, rfl, hOut.less (by omega), by omega, hdr, hRd.up (by omega), hc⟩
end Go.Proofs.Ythgnnpafieifmaa
