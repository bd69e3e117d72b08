/-
  The walk of spec.l91Update, written by program: each line names the law of one operation. Conditions: those of the theorem.
-/
import Derived.Test.YtpnenfglogggmaaProg
import Derived.Test.YtpnenfglogggmaaBase
import Derived.Test.YtpnenfglogggmaaFspecl6Rdpick
import Derived.KernelRfl
namespace Go.Proofs.Ytpnenfglogggmaa
open Go Go.RowKit
set_option linter.unusedVariables false
set_option linter.unusedSimpArgs false
namespace l91Update_okF
theorem T3 : TI Try.prog 3 false (.int .i64 0) 1 8 := TI.mk' Try.underlying3 rfl (by kernel_rfl)
theorem T65 : TI Try.prog 65 true (.agg #[.int .i64 0, .int .i64 0]) 2 16 := TI.mk' Try.underlying65 rfl (by kernel_rfl)
theorem F65_0 : FldOK Try.prog 65 0 0 := ⟨_, _, 0, Try.underlying65, rfl, rfl, by kernel_rfl⟩
theorem F65_1 : FldOK Try.prog 65 1 1 := ⟨_, _, 0, Try.underlying65, rfl, rfl, by kernel_rfl⟩
theorem C49 : Callable Try.prog 49 := ⟨_, Try.func49, by kernel_rfl, by kernel_rfl⟩
theorem B65_0I_1I (a0 : Int) (a1 : Int) (u : World) : (Instr.build 65 #[(0, .int .i64 a0), (1, .int .i64 a1)]).run Try.prog u = .ok (.agg #[.int .i64 a0, .int .i64 a1]) u := by kernel_rfl
end l91Update_okF
open l91Update_okF in
set_option maxHeartbeats 4000000 in
theorem l91Update_ok (g : Nat) (N : Nat) (w : World) (hRd : Rd 76 w g N) (hN : N ≤ 950000) :
    Fn Try.prog 50 [(.pointer (some (⟨g, 0, none⟩)))] w fun v w' => ∃ us ua, v = .agg #[.int .i64 us, .int .i64 ua] ∧ Rd 76 w' g (N + 4) ∧ Ch [g] w w' := by
  have hg0 := hRd.lt
  refine fn_of (n := 28) Try.func50 rfl rfl rfl rfl ?_
  have hc : Ch [g] w w := Ch.refl _ _
  refine cw_seq fun K1 hK2 => ?_
  refine cw_region fun K3 hK4 => ?_
  refine rw_cons (op_alloc T65 (w0 rfl) rfl rfl rfl ?_)
  rintro g6 w5 hg9 hg10 hB8 hch7
  have hsz11 := hch7.size
  replace hRd := hRd.ch0 hch7
  replace hc := hc.step0 hch7
  replace hB8 : Blk w5 g6 65 [(.int .i64 0), (.int .i64 0)] := hB8
  refine rw_nil (hK4 _ _ ?_)
  refine hK2 _ _ ?_
  refine cw_seq fun K12 hK13 => ?_
  refine cw_region fun K14 hK15 => ?_
  refine rw_cons (op_pv (w0 rfl) rfl rfl (pv_move (v := (.pointer (some (⟨g, 0, none⟩)))) rfl rfl) ?_)
  refine rw_cons (op_call (w0 rfl) rfl rfl (rc_call C49 rfl rfl) (pick_ok _ _ _ _ hRd (by omega)) ?_)
  rintro _ w17 ⟨r16, rfl, hr18, hr19, hr20, hRd21, hch22⟩
  have hsz23 := hch22.size
  replace hB8 := hB8.ch hch22 (by simp; omega)
  replace hc := hc.step hch22 (fun s hs => .inl hs)
  clear hRd; have hRd := hRd21; clear hRd21
  refine rw_cons (op_pv (w0 rfl) rfl rfl (pv_move (v := (.pointer (some (⟨g, 0, none⟩)))) rfl rfl) ?_)
  refine rw_cons (op_call (w0 rfl) rfl rfl (rc_call C49 rfl rfl) (pick_ok _ _ _ _ hRd (by omega)) ?_)
  rintro _ w25 ⟨r24, rfl, hr26, hr27, hr28, hRd29, hch30⟩
  have hsz31 := hch30.size
  replace hB8 := hB8.ch hch30 (by simp; omega)
  replace hc := hc.step hch30 (fun s hs => .inl hs)
  clear hRd; have hRd := hRd29; clear hRd29
  refine rw_cons (op_pv (w0 rfl) rfl rfl (pv_build rfl rfl (B65_0I_1I _ _)) ?_)
  refine rw_cons (op_alloc T65 (w0 rfl) rfl rfl rfl ?_)
  rintro g33 w32 hg36 hg37 hB35 hch34
  have hsz38 := hch34.size
  replace hRd := hRd.ch0 hch34
  replace hB8 := hB8.ch0 hch34
  replace hc := hc.step0 hch34
  replace hB35 : Blk w32 g33 65 [(.int .i64 0), (.int .i64 0)] := hB35
  refine rw_cons (op_store_blk T65 hB35 (w0 rfl) rfl rfl rfl rfl rfl (one_all rfl) (Nat.le_of_ble_eq_true rfl) ?_)
  rintro w39 hB41 hch40
  have hsz42 := hch40.size
  replace hRd := hRd.ch hch40 (off1 (by omega))
  replace hB8 := hB8.ch hch40 (by simp; omega)
  replace hc := hc.step hch40 (fun s hs => by simp at hs; first | (left; simp; omega) | (right; omega))
  replace hB35 : Blk w39 g33 65 [(.int .i64 r16), (.int .i64 r24)] := hB41
  clear hB41
  refine rw_nil (hK15 _ _ ?_)
  refine hK13 _ _ ?_
  refine cw_seq fun K43 hK44 => ?_
  refine cw_seq fun K45 hK46 => ?_
  refine cw_region fun K47 hK48 => ?_
  refine rw_cons (op_pv (w0 rfl) rfl rfl (pv_move (v := (.pointer (some (⟨g, 0, none⟩)))) rfl rfl) ?_)
  refine rw_cons (op_call (w0 rfl) rfl rfl (rc_call C49 rfl rfl) (pick_ok _ _ _ _ hRd (by omega)) ?_)
  rintro _ w50 ⟨r49, rfl, hr51, hr52, hr53, hRd54, hch55⟩
  have hsz56 := hch55.size
  replace hB8 := hB8.ch hch55 (by simp; omega)
  replace hB35 := hB35.ch hch55 (by simp; omega)
  replace hc := hc.step hch55 (fun s hs => .inl hs)
  clear hRd; have hRd := hRd54; clear hRd54
  refine rw_nil (hK48 _ _ ?_)
  refine hK46 _ _ ?_
  refine cw_block ?_
  refine cw_seq fun K57 hK58 => ?_
  refine cw_region fun K59 hK60 => ?_
  refine rw_cons (op_pv (w0 rfl) rfl rfl (pv_eql rfl rfl rfl) ?_)
  refine rw_cons (op_pv (w0 rfl) rfl rfl (pv_assign (v := (.bool (decide ((r49 : Int) = 0)))) rfl rfl) ?_)
  refine rw_nil (hK60 _ _ ?_)
  refine hK58 _ _ ?_
  refine cw_cond rfl (fun h61 => ?_) (fun h61 => ?_)
  · -- then
    replace h61 := of_decide_eq_true h61
    refine cw_region fun K62 hK63 => ?_
    refine rw_cons (op_bslice [(.int .i64 (-1)), (.int .i64 4), (.int .i64 5)] Try.underlying23 T3 (w0 rfl) rfl rfl rfl rfl rfl (by simp [Value.cells]) (by decide) ?_)
    intro g65 w64 hg68 hg69 hK67 hch66
    have hO70 : Own encI 1 w64 w50.heap.size 3 (.slice (some ⟨g65, 0, none⟩) 3 3) ([-1, 4, 5] : List Int) := Blk.own (xs := ([-1, 4, 5] : List Int)) hK67 (by omega) rfl (by decide) rfl
    have hsz71 := hch66.size
    replace hRd := hRd.ch0 hch66
    replace hB8 := hB8.ch0 hch66
    replace hB35 := hB35.ch0 hch66
    replace hc := hc.step0 hch66
    have hub72 := hO70.lt
    refine rw_cons (op_pv (w0 rfl) rfl rfl (pv_move (v := (.pointer (some (⟨g, 0, none⟩)))) rfl rfl) ?_)
    refine rw_cons (op_call (w0 rfl) rfl rfl (rc_call C49 rfl rfl) (pick_ok _ _ _ _ hRd (by omega)) ?_)
    rintro _ w74 ⟨r73, rfl, hr75, hr76, hr77, hRd78, hch79⟩
    have hsz80 := hch79.size
    replace hB8 := hB8.ch hch79 (by simp; omega)
    replace hB35 := hB35.ch hch79 (by simp; omega)
    replace hO70 := hO70.ch hch79 (fun s hs => by first | (have := hO70.off s hs; simp; omega) | (have := hub72 s hs; simp; omega))
    replace hc := hc.step hch79 (fun s hs => .inl hs)
    clear hRd; have hRd := hRd78; clear hRd78
    refine rw_cons (op_pv (w0 rfl) rfl rfl (pv_idx Try.underlying23 T3 rfl rfl rfl ((hO70.rs (fun _ => rfl)).some (k := (r73).toNat) (by omega)) (by omega) (by omega)) ?_)
    refine rw_cons (op_lv (w0 rfl) rfl rfl (lv_load T3 rfl rfl ((hO70.rs (fun _ => rfl)).cell0 (k := (r73).toNat) (by omega) rfl)) ?_)
    refine rw_cons (op_pv (w0 rfl) rfl rfl (pv_fld F65_0 rfl rfl) ?_)
    refine rw_cons (op_store_blk T3 hB35 (w0 rfl) rfl rfl rfl rfl rfl (one_all rfl) (Nat.le_of_ble_eq_true rfl) ?_)
    rintro w81 hB83 hch82
    have hsz84 := hch82.size
    replace hRd := hRd.ch hch82 (off1 (by omega))
    replace hB8 := hB8.ch hch82 (by simp; omega)
    replace hO70 := hO70.ch hch82 (fun s hs => by first | (have := hO70.off s hs; simp; omega) | (have := hub72 s hs; simp; omega))
    replace hc := hc.step hch82 (fun s hs => by simp at hs; first | (left; simp; omega) | (right; omega))
    replace hB35 : Blk w81 g33 65 [(.int .i64 (el ([-1, 4, 5] : List Int) (r73).toNat)), (.int .i64 r24)] := hB83
    clear hB83
    refine rw_nil (hK63 _ _ ?_)
    refine hK44 _ _ ?_
    refine cw_seq fun K85 hK86 => ?_
    refine cw_region fun K87 hK88 => ?_
    refine rw_cons (op_lv (w0 rfl) rfl rfl (lv_loadN T65 rfl rfl rfl (fun j v hv => hB35.cellA hv)) ?_)
    refine rw_cons (op_store_blk T65 hB8 (w0 rfl) rfl rfl rfl rfl rfl (one_all rfl) (Nat.le_of_ble_eq_true rfl) ?_)
    rintro w89 hB91 hch90
    have hsz92 := hch90.size
    replace hRd := hRd.ch hch90 (off1 (by omega))
    replace hB35 := hB35.ch hch90 (by simp; omega)
    replace hO70 := hO70.ch hch90 (fun s hs => by first | (have := hO70.off s hs; simp; omega) | (have := hub72 s hs; simp; omega))
    replace hc := hc.step hch90 (fun s hs => by simp at hs; first | (left; simp; omega) | (right; omega))
    replace hB8 : Blk w89 g6 65 [(.int .i64 (el ([-1, 4, 5] : List Int) (r73).toNat)), (.int .i64 r24)] := hB91
    clear hB91
    refine rw_nil (hK88 _ _ ?_)
    refine hK86 _ _ ?_
    refine cw_ret ?_
    refine finC T65 rfl rfl (fun j v hv => hB8.cellA hv) ?_
    exact ⟨_, _, (agg2 rfl rfl), hRd.up (by omega), hc⟩
  · -- else
    replace h61 := of_decide_eq_false h61
    refine cw_seq fun K93 hK94 => ?_
    refine cw_region fun K95 hK96 => ?_
    refine rw_cons (op_pv (w0 rfl) rfl rfl (pv_eql rfl rfl rfl) ?_)
    refine rw_cons (op_pv (w0 rfl) rfl rfl (pv_assign (v := (.bool (decide ((r49 : Int) = 1)))) rfl rfl) ?_)
    refine rw_nil (hK96 _ _ ?_)
    refine hK94 _ _ ?_
    refine cw_cond rfl (fun h97 => ?_) (fun h97 => ?_)
    · -- then
      replace h97 := of_decide_eq_true h97
      refine cw_region fun K98 hK99 => ?_
      refine rw_cons (op_bslice [(.int .i64 (-1)), (.int .i64 99), (.int .i64 100)] Try.underlying23 T3 (w0 rfl) rfl rfl rfl rfl rfl (by simp [Value.cells]) (by decide) ?_)
      intro g101 w100 hg104 hg105 hK103 hch102
      have hO106 : Own encI 1 w100 w50.heap.size 3 (.slice (some ⟨g101, 0, none⟩) 3 3) ([-1, 99, 100] : List Int) := Blk.own (xs := ([-1, 99, 100] : List Int)) hK103 (by omega) rfl (by decide) rfl
      have hsz107 := hch102.size
      replace hRd := hRd.ch0 hch102
      replace hB8 := hB8.ch0 hch102
      replace hB35 := hB35.ch0 hch102
      replace hc := hc.step0 hch102
      have hub108 := hO106.lt
      refine rw_cons (op_pv (w0 rfl) rfl rfl (pv_move (v := (.pointer (some (⟨g, 0, none⟩)))) rfl rfl) ?_)
      refine rw_cons (op_call (w0 rfl) rfl rfl (rc_call C49 rfl rfl) (pick_ok _ _ _ _ hRd (by omega)) ?_)
      rintro _ w110 ⟨r109, rfl, hr111, hr112, hr113, hRd114, hch115⟩
      have hsz116 := hch115.size
      replace hB8 := hB8.ch hch115 (by simp; omega)
      replace hB35 := hB35.ch hch115 (by simp; omega)
      replace hO106 := hO106.ch hch115 (fun s hs => by first | (have := hO106.off s hs; simp; omega) | (have := hub108 s hs; simp; omega))
      replace hc := hc.step hch115 (fun s hs => .inl hs)
      clear hRd; have hRd := hRd114; clear hRd114
      refine rw_cons (op_pv (w0 rfl) rfl rfl (pv_idx Try.underlying23 T3 rfl rfl rfl ((hO106.rs (fun _ => rfl)).some (k := (r109).toNat) (by omega)) (by omega) (by omega)) ?_)
      refine rw_cons (op_lv (w0 rfl) rfl rfl (lv_load T3 rfl rfl ((hO106.rs (fun _ => rfl)).cell0 (k := (r109).toNat) (by omega) rfl)) ?_)
      refine rw_cons (op_pv (w0 rfl) rfl rfl (pv_fld F65_1 rfl rfl) ?_)
      refine rw_cons (op_store_blk T3 hB35 (w0 rfl) rfl rfl rfl rfl rfl (one_all rfl) (Nat.le_of_ble_eq_true rfl) ?_)
      rintro w117 hB119 hch118
      have hsz120 := hch118.size
      replace hRd := hRd.ch hch118 (off1 (by omega))
      replace hB8 := hB8.ch hch118 (by simp; omega)
      replace hO106 := hO106.ch hch118 (fun s hs => by first | (have := hO106.off s hs; simp; omega) | (have := hub108 s hs; simp; omega))
      replace hc := hc.step hch118 (fun s hs => by simp at hs; first | (left; simp; omega) | (right; omega))
      replace hB35 : Blk w117 g33 65 [(.int .i64 r16), (.int .i64 (el ([-1, 99, 100] : List Int) (r109).toNat))] := hB119
      clear hB119
      refine rw_nil (hK99 _ _ ?_)
      refine hK44 _ _ ?_
      refine cw_seq fun K121 hK122 => ?_
      refine cw_region fun K123 hK124 => ?_
      refine rw_cons (op_lv (w0 rfl) rfl rfl (lv_loadN T65 rfl rfl rfl (fun j v hv => hB35.cellA hv)) ?_)
      refine rw_cons (op_store_blk T65 hB8 (w0 rfl) rfl rfl rfl rfl rfl (one_all rfl) (Nat.le_of_ble_eq_true rfl) ?_)
      rintro w125 hB127 hch126
      have hsz128 := hch126.size
      replace hRd := hRd.ch hch126 (off1 (by omega))
      replace hB35 := hB35.ch hch126 (by simp; omega)
      replace hO106 := hO106.ch hch126 (fun s hs => by first | (have := hO106.off s hs; simp; omega) | (have := hub108 s hs; simp; omega))
      replace hc := hc.step hch126 (fun s hs => by simp at hs; first | (left; simp; omega) | (right; omega))
      replace hB8 : Blk w125 g6 65 [(.int .i64 r16), (.int .i64 (el ([-1, 99, 100] : List Int) (r109).toNat))] := hB127
      clear hB127
      refine rw_nil (hK124 _ _ ?_)
      refine hK122 _ _ ?_
      refine cw_ret ?_
      refine finC T65 rfl rfl (fun j v hv => hB8.cellA hv) ?_
      exact ⟨_, _, (agg2 rfl rfl), hRd.up (by omega), hc⟩
    · -- else
      replace h97 := of_decide_eq_false h97
      refine cw_skip ?_
      refine hK44 _ _ ?_
      refine cw_seq fun K129 hK130 => ?_
      refine cw_region fun K131 hK132 => ?_
      refine rw_cons (op_lv (w0 rfl) rfl rfl (lv_loadN T65 rfl rfl rfl (fun j v hv => hB35.cellA hv)) ?_)
      refine rw_cons (op_store_blk T65 hB8 (w0 rfl) rfl rfl rfl rfl rfl (one_all rfl) (Nat.le_of_ble_eq_true rfl) ?_)
      rintro w133 hB135 hch134
      have hsz136 := hch134.size
      replace hRd := hRd.ch hch134 (off1 (by omega))
      replace hB35 := hB35.ch hch134 (by simp; omega)
      replace hc := hc.step hch134 (fun s hs => by simp at hs; first | (left; simp; omega) | (right; omega))
      replace hB8 : Blk w133 g6 65 [(.int .i64 r16), (.int .i64 r24)] := hB135
      clear hB135
      refine rw_nil (hK132 _ _ ?_)
      refine hK130 _ _ ?_
      refine cw_ret ?_
      refine finC T65 rfl rfl (fun j v hv => hB8.cellA hv) ?_
      exact ⟨_, _, (agg2 rfl rfl), hRd.up (by omega), hc⟩
end Go.Proofs.Ytpnenfglogggmaa
