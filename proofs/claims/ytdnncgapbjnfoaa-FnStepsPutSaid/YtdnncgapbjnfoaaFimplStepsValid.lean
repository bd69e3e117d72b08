/-
  The walk of impl.StepsValid, written by program: each line names the law of one operation. Conditions: those of the theorem.
-/
import Derived.Test.YtdnncgapbjnfoaaProg
import Derived.Test.YtdnncgapbjnfoaaSteps
import Derived.Test.YtdnncgapbjnfoaaFimplstepsInOrder
import Derived.Test.YtdnncgapbjnfoaaFimplstepValid
import Derived.KernelRfl
namespace Go.Proofs.Ytdnncgapbjnfoaa
open Go Go.RowKit
set_option linter.unusedVariables false
set_option linter.unusedSimpArgs false
namespace StepsValid_iF
theorem T3 : TI Try.prog 3 false (.int .i64 0) 1 8 := TI.mk' Try.underlying3 rfl (by kernel_rfl)
theorem T4 : TI Try.prog 4 false (.bool false) 1 1 := TI.mk' Try.underlying4 rfl (by kernel_rfl)
theorem T27 : TI Try.prog 27 true (.agg #[.bool false, .int .i64 0, .int .i64 0]) 3 24 := TI.mk' Try.underlying27 rfl (by kernel_rfl)
theorem F27_0 : FldOK Try.prog 27 0 0 := ⟨_, _, 0, Try.underlying27, rfl, rfl, by kernel_rfl⟩
theorem C29 : Callable Try.prog 29 := ⟨_, Try.func29, by kernel_rfl, by kernel_rfl⟩
theorem C30 : Callable Try.prog 30 := ⟨_, Try.func30, by kernel_rfl, by kernel_rfl⟩
theorem C41 : Callable Try.prog 41 := ⟨_, Try.func41, by kernel_rfl, by kernel_rfl⟩
end StepsValid_iF
open StepsValid_iF in
set_option maxHeartbeats 4000000 in
theorem StepsValid_i (Ahs : Option Addr) (nhs chs : Nat) (hs : List Stp) (w : World) (hRhs : RS encP 3 w w.heap.size Ahs nhs hs) (hNhs : nhs ≤ 1099511627776) :
    Fn Try.prog 10 [(.slice Ahs nhs chs)] w fun v w' => v = .bool (dec (StepsOK hs)) ∧ Ch [] w w' := by
  have hlenhs := hRhs.len
  refine fn_ofX (n := 23) Try.func10 rfl rfl rfl rfl ?_
  have hc : Ch [] w w := Ch.refl _ _
  refine cwx_seq fun K1 hK2 => ?_
  refine cwx_lift ?_
  refine cw_region fun K3 hK4 => ?_
  refine rw_cons (op_alloc T4 (w0 rfl) rfl rfl rfl ?_)
  rintro g6 w5 hg9 hg10 hB8 hch7
  have hsz11 := hch7.size
  replace hRhs := hRhs.ch0 hch7
  replace hc := hc.step0 hch7
  replace hB8 : Blk w5 g6 4 [(.bool false)] := hB8
  refine rw_nil (hK4 _ _ ?_)
  refine hK2 _ _ _ ?_
  refine cwx_seq fun K12 hK13 => ?_
  refine cwx_lift ?_
  refine cw_seq fun K14 hK15 => ?_
  refine cw_region fun K16 hK17 => ?_
  refine rw_cons (op_pv (w0 rfl) rfl rfl (pv_move (v := (.slice Ahs nhs chs)) rfl rfl) ?_)
  refine rw_cons (op_pv (w0 rfl) rfl rfl (pv_len Try.underlying23 rfl rfl) ?_)
  refine rw_cons (op_pv (w0 rfl) rfl rfl (pv_gtr rfl rfl rfl) ?_)
  refine rw_nil (hK17 _ _ ?_)
  refine hK15 _ _ ?_
  refine cw_cond rfl (fun h18 => ?_) (fun h18 => ?_)
  · -- then
    replace h18 := of_decide_eq_true h18
    refine cw_seq fun K19 hK20 => ?_
    refine cw_region fun K21 hK22 => ?_
    refine rw_cons (op_store_blk T4 hB8 (w0 rfl) rfl rfl rfl rfl rfl (one_all rfl) (Nat.le_of_ble_eq_true rfl) ?_)
    rintro w23 hB25 hch24
    have hsz26 := hch24.size
    replace hRhs := hRhs.ch hch24 (off1 (by omega))
    replace hc := (off1 (by omega)).step hc hch24
    replace hB8 : Blk w23 g6 4 [(.bool false)] := hB25
    clear hB25
    refine rw_nil (hK22 _ _ ?_)
    refine hK20 _ _ ?_
    refine cw_ret ?_
    refine fqx_l ?_
    refine finC1 T4 rfl (hB8.cell (i := 0) rfl) ?_
    exact ⟨(bvf (fun h => by have := h.len; omega)), hc⟩
  · -- else
    replace h18 := of_decide_eq_false h18
    refine cw_skip ?_
    refine hK13 _ _ _ ?_
    refine cwx_seq fun K27 hK28 => ?_
    refine cwx_lift ?_
    refine cw_region fun K29 hK30 => ?_
    refine rw_cons (op_alloc T3 (w0 rfl) rfl rfl rfl ?_)
    rintro g32 w31 hg35 hg36 hB34 hch33
    have hsz37 := hch33.size
    replace hRhs := hRhs.ch0 hch33
    replace hB8 := hB8.ch0 hch33
    replace hc := hc.step0 hch33
    replace hB34 : Blk w31 g32 3 [(.int .i64 0)] := hB34
    refine rw_cons (op_store_blk T3 hB34 (w0 rfl) rfl rfl rfl rfl rfl (one_all rfl) (Nat.le_of_ble_eq_true rfl) ?_)
    rintro w38 hB40 hch39
    have hsz41 := hch39.size
    replace hRhs := hRhs.ch hch39 (off1 (by omega))
    replace hB8 := hB8.ch hch39 (by simp; omega)
    replace hc := (off1 (by omega)).step hc hch39
    replace hB34 : Blk w38 g32 3 [(.int .i64 0)] := hB40
    clear hB40
    refine rw_nil (hK30 _ _ ?_)
    refine hK28 _ _ _ ?_
    refine cwx_seq fun K42 hK43 => ?_
    refine cwx_seq fun K44 hK45 => ?_
    refine cwx_lift ?_
    refine cw_region fun K46 hK47 => ?_
    refine rw_cons (op_pv (w0 rfl) rfl rfl (pv_move (v := (.slice Ahs nhs chs)) rfl rfl) ?_)
    refine rw_cons (op_call (w0 rfl) rfl rfl (rc_call C29 rfl rfl) (stepsInOrder_ok _ nhs chs hs _ (hRhs.more (by omega))) ?_)
    rintro _ w49 ⟨g48, rfl, hg50, hB51, hch52⟩
    have hsz53 := hch52.size
    replace hRhs := hRhs.ch0 hch52
    replace hB8 := hB8.ch0 hch52
    replace hB34 := hB34.ch0 hch52
    replace hc := hc.step0 hch52
    refine rw_nil (hK47 _ _ ?_)
    refine hK45 _ _ _ ?_
    refine cwx_block ?_
    have hbl54 := hB8.lt
    have hbl55 := hB34.lt
    have hbl56 := hB51.lt
    refine cwx_range (α := It) (fun x => .int .i64 (x.1 : Int)) (fun x => aggP x.2) (hg := rfl) (hf := C41) (hp := rfl) (hq := rfl) (hseq := (steps_seq hB51 hRhs (by omega) (by omega))) (hKt := kp_t) (hKb := kp_b (by omega) (by omega)) (hKc := fun W W' h1 h2 => kp_ch h2 (by omega) (by omega) (fun s hs => by cases hs)) (I := (fun pre W => (∀ x ∈ pre, StepOK x.2) ∧ Blk W g6 4 [.bool false] ∧ Blk W g32 3 [.int .i64 (puts (pre.map Prod.snd) : Int)] ∧ Ch [] w W ∧ w49.heap.size ≤ W.heap.size)) (Ix := (fun pre W => (¬∀ x ∈ pre, StepOK x.2) ∧ Blk W g6 4 [.bool false] ∧ Ch [] w W ∧ w49.heap.size ≤ W.heap.size)) (hI := ?hI) (hIx := ?hIx) (hsz := ?hsz) (h0 := ?h0) (EX := fun E x g => upd (E) 5 (.pointer (some ⟨g, 0, none⟩))) (tb := 27) (cs := fun x => encP x.2) (hassign := ?assign) (hbody := ?body) (hdone := ?done) (hstop := ?stop)
    case hI =>
      exact fun s W W' S h hc ho => ⟨h.1, h.2.1.keep hc ho, h.2.2.1.keep hc ho, h.2.2.2.1.keep hc ho (by omega), Nat.le_trans h.2.2.2.2 hc.size⟩
    case hIx =>
      exact fun s W W' S h hc ho => ⟨h.1, h.2.1.keep hc ho, h.2.2.1.keep hc ho (by omega), Nat.le_trans h.2.2.2 hc.size⟩
    case hsz =>
      exact fun s W h => h.2.2.2.2
    case h0 =>
      exact ⟨fun x hx => (by cases hx), hB8, hB34, hc, Nat.le_refl _⟩
    case assign =>
      intro l x WA
      have hcA : Ch [] WA WA := Ch.refl _ _
      refine cr_region fun K57 hK58 => ?_
      refine rr_cons rfl (op_alloc T27 (w0 rfl) rfl rfl rfl ?_)
      rintro g60 w59 hg63 hg64 hB62 hch61
      have hsz65 := hch61.size
      replace hcA := hcA.step0 hch61
      replace hB62 : Blk w59 g60 27 [(.bool false), (.int .i64 0), (.int .i64 0)] := hB62
      refine rr_cons rfl (op_store_blk T27 hB62 (w0 rfl) rfl rfl rfl rfl rfl (one_all rfl) (Nat.le_of_ble_eq_true rfl) ?_)
      rintro w66 hB68 hch67
      have hsz69 := hch67.size
      replace hcA := (off1 (by omega)).step hcA hch67
      replace hB62 : Blk w66 g60 27 [(.bool x.2.r), (.int .i64 x.2.k), (.int .i64 x.2.v)] := hB68
      clear hB68
      refine rr_nil (hK58 _ _ ?_)
      exact ⟨rfl, g60, rfl, by omega, hB62, hcA⟩
    case body =>
      intro l pre x gb WB hgb hI0 hBx hlen
      obtain ⟨hpre, hB8, hB34, hcw, hsz0⟩ := hI0
      have hpl := puts_le (pre.map Prod.snd)
      rw [List.length_map] at hpl
      have hBlt := hBx.lt
      replace hBx : Blk WB gb 27 [(.bool x.2.r), (.int .i64 x.2.k), (.int .i64 x.2.v)] := hBx
      have hcB : Ch [g6, g32] WB WB := Ch.refl _ _
      refine cr_block ?_
      refine cr_seq fun K70 hK71 => ?_
      refine cr_seq fun K72 hK73 => ?_
      refine cr_region fun K74 hK75 => ?_
      refine rr_cons rfl (op_lv (w0 rfl) rfl rfl (lv_loadN T27 rfl rfl rfl (fun j v hv => hBx.cellA hv)) ?_)
      refine rr_cons rfl (op_call (w0 rfl) rfl rfl (rc_call C30 rfl rfl) (stepValid_i x.2.r x.2.k x.2.v _ ) ?_)
      rintro _ w76 ⟨rfl, hch77⟩
      have hsz78 := hch77.size
      replace hB8 := hB8.ch0 hch77
      replace hB34 := hB34.ch0 hch77
      replace hBx := hBx.ch0 hch77
      replace hcB := hcB.step0 hch77
      refine rr_cons rfl (op_pv (w0 rfl) rfl rfl (pv_not rfl rfl) ?_)
      refine rr_nil (hK75 _ _ ?_)
      refine hK73 _ _ ?_
      refine cr_cond rfl (fun h79 => ?_) (fun h79 => ?_)
      · -- then
        replace h79 := not_t h79
        replace h79 := dec_f h79
        refine cr_seq fun K80 hK81 => ?_
        refine cr_region fun K82 hK83 => ?_
        refine rr_cons rfl (op_store_blk T4 hB8 (w0 rfl) rfl rfl rfl rfl rfl (one_all rfl) (Nat.le_of_ble_eq_true rfl) ?_)
        rintro w84 hB86 hch85
        have hsz87 := hch85.size
        replace hB34 := hB34.ch hch85 (by simp; omega)
        replace hBx := hBx.ch hch85 (by simp; omega)
        replace hcB := hcB.step hch85 (fun s hs => .inl (by simp at hs; simp [hs]))
        replace hB8 : Blk w84 g6 4 [(.bool false)] := hB86
        clear hB86
        refine rr_nil (hK83 _ _ ?_)
        refine hK81 _ _ ?_
        refine cr_ret ?_
        have hsB := hcB.size
        exact bodyq_r (keepsFrom_ch hcB (fun s hs => .inl (by simp at hs; omega))) ⟨fun h => absurd (h x (by simp)) ‹¬StepOK _›, hB8, hcw.step hcB (fun s hs => .inr (by simp at hs; omega)), by omega⟩
      · -- else
        replace h79 := not_f h79
        replace h79 := dec_t h79
        refine cr_skip ?_
        refine hK71 _ _ ?_
        refine cr_seq fun K88 hK89 => ?_
        refine cr_region fun K90 hK91 => ?_
        refine rr_cons rfl (op_pv (w0 rfl) rfl rfl (pv_fld F27_0 rfl rfl) ?_)
        refine rr_cons rfl (op_lv (w0 rfl) rfl rfl (lv_load T4 rfl rfl (hBx.cellA (i := 0) rfl)) ?_)
        refine rr_cons rfl (op_pv (w0 rfl) rfl rfl (pv_not rfl rfl) ?_)
        refine rr_nil (hK91 _ _ ?_)
        refine hK89 _ _ ?_
        refine cr_cond rfl (fun h92 => ?_) (fun h92 => ?_)
        · -- then
          replace h92 := not_t h92
          refine cr_region fun K93 hK94 => ?_
          refine rr_cons rfl (op_lv (w0 rfl) rfl rfl (lv_load T3 rfl rfl (hB34.cell (i := 0) rfl)) ?_)
          refine rr_cons rfl (op_pv (w0 rfl) rfl rfl (pv_add rfl rfl rfl (by omega) (by omega)) ?_)
          refine rr_cons rfl (op_store_blk T3 hB34 (w0 rfl) rfl rfl rfl rfl rfl (one_all rfl) (Nat.le_of_ble_eq_true rfl) ?_)
          rintro w95 hB97 hch96
          have hsz98 := hch96.size
          replace hB8 := hB8.ch hch96 (by simp; omega)
          replace hBx := hBx.ch hch96 (by simp; omega)
          replace hcB := hcB.step hch96 (fun s hs => .inl (by simp at hs; simp [hs]))
          replace hB34 : Blk w95 g32 3 [(.int .i64 ((puts (pre.map Prod.snd) : Int) + 1))] := hB97
          clear hB97
          refine rr_nil (hK94 _ _ ?_)
          have hsB := hcB.size
          exact bodyq_n (keepsFrom_ch hcB (fun s hs => .inl (by simp at hs; omega))) (kp_ch hcB (by omega) (by omega) (fun s hs => by simp at hs; omega)) ⟨snoc_all hpre ‹StepOK _›, hB8, (by first | (rw [puts_put (by assumption)]; exact hB34) | (rw [puts_read (by simp_all)]; exact hB34)), hcw.step hcB (fun s hs => .inr (by simp at hs; omega)), by omega⟩
        · -- else
          replace h92 := not_f h92
          refine cr_skip ?_
          have hsB := hcB.size
          exact bodyq_n (keepsFrom_ch hcB (fun s hs => .inl (by simp at hs; omega))) (kp_ch hcB (by omega) (by omega) (fun s hs => by simp at hs; omega)) ⟨snoc_all hpre ‹StepOK _›, hB8, (by first | (rw [puts_put (by assumption)]; exact hB34) | (rw [puts_read (by simp_all)]; exact hB34)), hcw.step hcB (fun s hs => .inr (by simp at hs; omega)), by omega⟩
    case done =>
      intro d xs WD hd hS hI0 hk
      have hS2 : xs = items hs := hS
      subst hS2
      obtain ⟨hpre, hB8, hB34, hc, hsz0⟩ := hI0
      rw [items_snd] at hB34
      have hall := items_all.1 hpre
      have hpl := puts_le hs
      refine hK43 _ _ _ ?_
      refine cwx_lift ?_
      refine cw_seq fun K99 hK100 => ?_
      refine cw_region fun K101 hK102 => ?_
      refine rw_cons (op_lv (w0 rfl) rfl rfl (lv_load T3 rfl rfl (hB34.cell (i := 0) rfl)) ?_)
      refine rw_cons (op_pv (w0 rfl) rfl rfl (pv_leq rfl rfl rfl) ?_)
      refine rw_cons (op_store_blk T4 hB8 (w0 rfl) rfl rfl rfl rfl rfl (one_all rfl) (Nat.le_of_ble_eq_true rfl) ?_)
      rintro w103 hB105 hch104
      have hsz106 := hch104.size
      replace hB34 := hB34.ch hch104 (by simp; omega)
      replace hk := mark_keep hk hch104 (by simp; omega)
      replace hc := (off1 (by omega)).step hc hch104
      replace hB8 : Blk w103 g6 4 [(.bool (decide ((puts hs : Int) ≤ 12)))] := hB105
      clear hB105
      refine rw_nil (hK102 _ _ ?_)
      refine hK100 _ _ ?_
      refine cw_ret ?_
      refine fqx_r hk ?_
      have hodd109 : Odd w49.heap.size [d] w103 := fun r hr => by rw [List.mem_singleton] at hr; subst hr; exact ⟨hd, _, hk, rfl⟩
      obtain ⟨w107, hwq110_, hch108⟩ : ∃ u : World, u = w103.putObj d (.deferred none) ∧ Ch [d] w103 u := ⟨_, rfl, ch_putObj _ _ _⟩
      rw [← hwq110_]
      replace hB8 := hB8.keep hch108 hodd109
      replace hB34 := hB34.keep hch108 hodd109
      replace hc := hc.keep hch108 hodd109 (by omega)
      refine finC1 T4 rfl (hB8.cell (i := 0) rfl) ?_
      exact ⟨(bv (dec_dec ⟨fun h => ⟨by omega, hall, by omega⟩, fun h => by have := h.few; omega⟩)), hc⟩
    case stop =>
      intro d pre WS hd hSp hI0 hk
      obtain ⟨hpre, hB8, hc, hsz0⟩ := hI0
      refine fqx_r hk ?_
      have hodd113 : Odd w49.heap.size [d] WS := fun r hr => by rw [List.mem_singleton] at hr; subst hr; exact ⟨hd, _, hk, rfl⟩
      obtain ⟨w111, hwq114_, hch112⟩ : ∃ u : World, u = WS.putObj d (.deferred none) ∧ Ch [d] WS u := ⟨_, rfl, ch_putObj _ _ _⟩
      rw [← hwq114_]
      replace hB8 := hB8.keep hch112 hodd113
      replace hc := hc.keep hch112 hodd113 (by omega)
      refine finC1 T4 rfl (hB8.cell (i := 0) rfl) ?_
      exact ⟨(bvf (fun h => hpre (fun x hx => items_all.2 h.each x (hSp.subset hx)))), hc⟩
end Go.Proofs.Ytdnncgapbjnfoaa
