/-
  The walk of spec.DrawPlanLoad, written by program: each line names the law of one operation. Conditions: those of the theorem.
-/
import Derived.Test.YtajdoloefkoekaaProg
import Derived.Test.YtajdoloefkoekaaFspecl6Open
import Derived.Test.YtajdoloefkoekaaFspecl6Rdpick
import Derived.KernelRfl
namespace Go.Proofs.Ytajdoloefkoekaa
open Go Go.RowKit
set_option linter.unusedVariables false
namespace DrawPlanLoad_okF
theorem T37 : TI Try.prog 37 true (.agg #[.int .i64 0, .int .i64 0, .int .i64 0]) 3 24 := TI.mk' Try.underlying37 rfl (by kernel_rfl)
theorem C11 : Callable Try.prog 11 := ⟨_, Try.func11, by kernel_rfl, by kernel_rfl⟩
theorem C12 : Callable Try.prog 12 := ⟨_, Try.func12, by kernel_rfl, by kernel_rfl⟩
theorem B37_0I_1I_2I (a0 : Int) (a1 : Int) (a2 : Int) (u : World) : (Instr.build 37 #[(0, .int .i64 a0), (1, .int .i64 a1), (2, .int .i64 a2)]).run Try.prog u = .ok (.agg #[.int .i64 a0, .int .i64 a1, .int .i64 a2]) u := by kernel_rfl
end DrawPlanLoad_okF
open DrawPlanLoad_okF in
set_option maxHeartbeats 4000000 in
theorem DrawPlanLoad_ok (A : Option Addr) (n c : Nat) (bs : List UInt8) (w : World) (hR : RS encU 1 w w.heap.size A n bs) (hn : n ≤ c) :
    Fn Try.prog 5 [(.slice A n c)] w fun v w' => ∃ v1 s ms, v = .tuple #[v1, .int .i64 s] ∧ Own encM 3 w' w.heap.size 37 v1 ms ∧ ms.length ≤ 5 ∧ Ch [] w w' := by
  refine fn_of (n := 35) Try.func5 rfl rfl rfl rfl ?_
  have hc : Ch [] w w := Ch.refl _ _
  refine cw_seq fun K1 hK2 => ?_
  refine cw_region fun K3 hK4 => ?_
  refine rw_cons (op_pv (w0 rfl) rfl rfl (pv_assign rfl rfl) ?_)
  refine rw_cons (op_pv (w0 rfl) rfl rfl (pv_assign rfl rfl) ?_)
  refine rw_nil (hK4 _ _ ?_)
  refine hK2 _ _ ?_
  refine cw_seq fun K5 hK6 => ?_
  refine cw_region fun K7 hK8 => ?_
  refine rw_cons (op_pv (w0 rfl) rfl rfl (pv_move rfl rfl) ?_)
  refine rw_cons (op_call (w0 rfl) rfl rfl (rc_call C11 rfl rfl) (l6Open_ok _ _ _ _ _ (hR.more (by omega)) (by omega)) ?_)
  rintro _ w10 ⟨g9, rfl, hg11, hRd12, hch13⟩
  have hsz14 := hch13.size
  replace hR := hR.ch0 hch13
  replace hc := hc.step0 hch13
  have hlt15 := hRd12.lt
  refine rw_cons (op_pv (w0 rfl) rfl rfl (pv_assign rfl rfl) ?_)
  refine rw_nil (hK8 _ _ ?_)
  refine hK6 _ _ ?_
  refine cw_seq fun K16 hK17 => ?_
  refine cw_region fun K18 hK19 => ?_
  refine rw_cons (op_bslice [] Try.underlying23 T37 (w0 rfl) rfl rfl rfl rfl rfl (by simp [Value.cells]) (by decide) ?_)
  intro g21 w20 hg24 hg25 hK23 hch22
  have hO26 : Own encM 3 w20 (g9 + 1) 37 (.slice ((some ⟨g21, 0, none⟩)) 0 0) ([] : List Mv) := Blk.own (xs := ([] : List Mv)) hK23 (by omega) rfl (by decide) rfl
  have hsz27 := hch22.size
  replace hR := hR.ch0 hch22
  replace hRd12 := hRd12.ch0 hch22
  replace hc := hc.step0 hch22
  refine rw_cons (op_pv (w0 rfl) rfl rfl (pv_assign rfl rfl) ?_)
  refine rw_nil (hK19 _ _ ?_)
  refine hK17 _ _ ?_
  refine cw_seq fun K28 hK29 => ?_
  refine cw_region fun K30 hK31 => ?_
  refine rw_cons (op_pv (w0 rfl) rfl rfl (pv_move rfl rfl) ?_)
  refine rw_cons (op_call (w0 rfl) rfl rfl (rc_call C12 rfl rfl) (pick_ok _ _ _ _ hRd12 (by omega)) ?_)
  rintro _ w33 ⟨r32, rfl, hr34, hr35, hr36, hRd37, hch38⟩
  have hsz39 := hch38.size
  replace hR := hR.ch hch38 (off1 (by omega))
  replace hO26 := hO26.ch hch38 (fun s hs => by have := hO26.off s hs; simp; omega)
  replace hc := (off1 (by omega)).step hc hch38
  clear hRd12; have hRd12 := hRd37; clear hRd37
  refine rw_cons (op_pv (w0 rfl) rfl rfl (pv_assign rfl rfl) ?_)
  refine rw_nil (hK31 _ _ ?_)
  refine hK29 _ _ ?_
  refine cw_seq fun K40 hK41 => ?_
  refine cw_seq fun K42 hK43 => ?_
  refine cw_region fun K44 hK45 => ?_
  refine rw_cons (op_pv (w0 rfl) rfl rfl (pv_assign rfl rfl) ?_)
  refine rw_nil (hK45 _ _ ?_)
  refine hK43 _ _ ?_
  refine cw_block ?_
  refine cw_loop (σ := Nat × Value × (List Mv)) (fun ⟨k, v5, ms⟩ => [(5, v5), (7, (.int .i64 ((k : Int)))), (2, (.slice none 0 0)), (3, (.int .i64 0)), (4, (.pointer (some (⟨g9, 0, none⟩)))), (6, (.int .i64 r32))]) (fun ⟨k, v5, ms⟩ W => (ms.length = k ∧ (k : Int) ≤ r32) ∧ RS encU 1 W w.heap.size A n bs ∧ Own encM 3 W (g9 + 1) 37 v5 ms ∧ Rd 42 W g9 ((0 + 1) + 3 * k) ∧ Ch [] w W) (fun ⟨k, v5, ms⟩ => (r32).toNat - k) (0, (.slice ((some ⟨g21, 0, none⟩)) 0 0), []) ?_ ?_ ?_
  · exact ⟨rfl, rfl, rfl, rfl, rfl, rfl, trivial⟩
  · refine ⟨⟨rfl, by omega⟩, hR, hO26, hRd12, hc⟩
  · rintro ⟨k, v5, ms⟩ J50 w46 ⟨⟨hk1, hk2⟩, hR, hO26, hRd12, hc⟩ K47 hK48
    have hsz52 := hc.size
    have hlt53 := hRd12.lt
    refine cw_seq fun K54 hK55 => ?_
    refine cw_seq fun K56 hK57 => ?_
    refine cw_region fun K58 hK59 => ?_
    refine rw_cons (op_pv (w0 rfl) rfl rfl (pv_move rfl rfl) ?_)
    refine rw_cons (op_pv (w0 rfl) rfl rfl (pv_move rfl rfl) ?_)
    refine rw_cons (op_pv (w0 rfl) rfl rfl (pv_lss rfl rfl rfl) ?_)
    refine rw_nil (hK59 _ _ ?_)
    refine hK57 _ _ ?_
    refine cw_cond rfl (fun h60 => ?_) (fun h60 => ?_)
    · -- then
      replace h60 := of_decide_eq_true h60
      refine cw_skip ?_
      refine hK55 _ _ ?_
      refine cw_seq fun K61 hK62 => ?_
      refine cw_block ?_
      refine cw_region fun K63 hK64 => ?_
      refine rw_cons (op_pv (w0 rfl) rfl rfl (pv_move rfl rfl) ?_)
      refine rw_cons (op_pv (w0 rfl) rfl rfl (pv_move rfl rfl) ?_)
      refine rw_cons (op_call (w0 rfl) rfl rfl (rc_call C12 rfl rfl) (pick_ok _ _ _ _ hRd12 (by omega)) ?_)
      rintro _ w66 ⟨r65, rfl, hr67, hr68, hr69, hRd70, hch71⟩
      have hsz72 := hch71.size
      replace hR := hR.ch hch71 (off1 (by omega))
      replace hO26 := hO26.ch hch71 (fun s hs => by have := hO26.off s hs; simp; omega)
      replace hc := (off1 (by omega)).step hc hch71
      clear hRd12; have hRd12 := hRd70; clear hRd70
      refine rw_cons (op_pv (w0 rfl) rfl rfl (pv_add rfl rfl rfl (by omega) (by omega)) ?_)
      refine rw_cons (op_pv (w0 rfl) rfl rfl (pv_move rfl rfl) ?_)
      refine rw_cons (op_call (w0 rfl) rfl rfl (rc_call C12 rfl rfl) (pick_ok _ _ _ _ hRd12 (by omega)) ?_)
      rintro _ w74 ⟨r73, rfl, hr75, hr76, hr77, hRd78, hch79⟩
      have hsz80 := hch79.size
      replace hR := hR.ch hch79 (off1 (by omega))
      replace hO26 := hO26.ch hch79 (fun s hs => by have := hO26.off s hs; simp; omega)
      replace hc := (off1 (by omega)).step hc hch79
      clear hRd12; have hRd12 := hRd78; clear hRd78
      refine rw_cons (op_pv (w0 rfl) rfl rfl (pv_add rfl rfl rfl (by omega) (by omega)) ?_)
      refine rw_cons (op_pv (w0 rfl) rfl rfl (pv_move rfl rfl) ?_)
      refine rw_cons (op_call (w0 rfl) rfl rfl (rc_call C12 rfl rfl) (pick_ok _ _ _ _ hRd12 (by omega)) ?_)
      rintro _ w82 ⟨r81, rfl, hr83, hr84, hr85, hRd86, hch87⟩
      have hsz88 := hch87.size
      replace hR := hR.ch hch87 (off1 (by omega))
      replace hO26 := hO26.ch hch87 (fun s hs => by have := hO26.off s hs; simp; omega)
      replace hc := (off1 (by omega)).step hc hch87
      clear hRd12; have hRd12 := hRd86; clear hRd86
      refine rw_cons (op_pv (w0 rfl) rfl rfl (pv_add rfl rfl rfl (by omega) (by omega)) ?_)
      refine rw_cons (op_pv (w0 rfl) rfl rfl (pv_build rfl rfl (B37_0I_1I_2I _ _ _)) ?_)
      refine rw_cons (op_bslice [(.agg #[(.int .i64 (1 + r65)), (.int .i64 (1 + r73)), (.int .i64 (1 + r81))])] Try.underlying23 T37 (w0 rfl) rfl rfl rfl rfl rfl (by simp [Value.cells]) (by decide) ?_)
      intro g90 w89 hg93 hg94 hK92 hch91
      have hO95 : Own encM 3 w89 (g9 + 1) 37 (.slice ((some ⟨g90, 0, none⟩)) 1 1) ([⟨1 + r65, 1 + r73, 1 + r81⟩] : List Mv) := Blk.own (xs := ([⟨1 + r65, 1 + r73, 1 + r81⟩] : List Mv)) hK92 (by omega) rfl (by decide) rfl
      have hsz96 := hch91.size
      replace hR := hR.ch0 hch91
      replace hO26 := hO26.ch0 hch91
      replace hRd12 := hRd12.ch0 hch91
      replace hc := hc.step0 hch91
      refine rw_cons (op_append Try.underlying23 T37 (fun _ => rfl) rfl (by decide) (fun _ => one_all rfl) (w0 rfl) rfl rfl rfl rfl rfl hO26 (hO95.rs (fun _ => rfl)) (by unfold maxLen; first | omega | (simp; omega)) (by first | omega | (simp; omega)) (by omega) ?_)
      rintro v97 w98 hO99 hch100 hs101
      clear hO95
      have hsz102 := hch100.size
      replace hR := hR.ch hch100 (hO26.off.le (by omega))
      replace hRd12 := hRd12.ch hch100 (hO26.off.le (by omega))
      replace hc := (hO26.off.le (by omega)).step hc hch100
      refine rw_cons (op_pv (w0 rfl) rfl rfl (pv_assign rfl rfl) ?_)
      refine rw_nil (hK64 _ _ ?_)
      refine hK62 _ _ ?_
      refine cw_region fun K103 hK104 => ?_
      refine rw_cons (op_pv (w0 rfl) rfl rfl (pv_move rfl rfl) ?_)
      refine rw_cons (op_pv (w0 rfl) rfl rfl (pv_add rfl rfl rfl (by omega) (by omega)) ?_)
      refine rw_cons (op_pv (w0 rfl) rfl rfl (pv_assign rfl rfl) ?_)
      refine rw_nil (hK104 _ _ ?_)
      replace hRd12 := hRd12.up (M := (0 + 1) + 3 * (k + 1)) (by omega)
      have hO26 := hO99
      refine hK48 _ _ (k + 1, v97, (ms ++ ([⟨1 + r65, 1 + r73, 1 + r81⟩] : List Mv))) ⟨rfl, (iv (by omega)), rfl, rfl, rfl, rfl, trivial⟩ ⟨?_, hR, hO26, hRd12, hc⟩ ?_
      · exact ⟨by simp; omega, by omega⟩
      · show (r32).toNat - (k + 1) < (r32).toNat - k; omega
    · -- else
      replace h60 := of_decide_eq_false h60
      refine cw_exit ?_
      refine hK41 _ _ ?_
      refine cw_seq fun K105 hK106 => ?_
      refine cw_region fun K107 hK108 => ?_
      refine rw_cons (op_pv (w0 rfl) rfl rfl (pv_move rfl rfl) ?_)
      refine rw_cons (op_pv (w0 rfl) rfl rfl (pv_move rfl rfl) ?_)
      refine rw_cons (op_call (w0 rfl) rfl rfl (rc_call C12 rfl rfl) (pick_ok _ _ _ _ hRd12 (by omega)) ?_)
      rintro _ w110 ⟨r109, rfl, hr111, hr112, hr113, hRd114, hch115⟩
      have hsz116 := hch115.size
      replace hR := hR.ch hch115 (off1 (by omega))
      replace hO26 := hO26.ch hch115 (fun s hs => by have := hO26.off s hs; simp; omega)
      replace hc := (off1 (by omega)).step hc hch115
      clear hRd12; have hRd12 := hRd114; clear hRd114
      refine rw_cons (op_pv (w0 rfl) rfl rfl (pv_add rfl rfl rfl (by omega) (by omega)) ?_)
      refine rw_cons (op_pv (w0 rfl) rfl rfl (pv_assign rfl rfl) ?_)
      refine rw_cons (op_pv (w0 rfl) rfl rfl (pv_assign rfl rfl) ?_)
      refine rw_nil (hK108 _ _ ?_)
      refine hK106 _ _ ?_
      refine cw_ret ?_
      refine fin2 rfl rfl ?_
      exact ⟨_, _, _, rfl, hO26.less (by omega), by omega, hc⟩
end Go.Proofs.Ytajdoloefkoekaa
