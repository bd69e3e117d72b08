/-
  The walk of impl.StepsBad, written by program: each line names the law of one operation. Conditions: those of the theorem.
-/
import Derived.Test.YtdnncgapbjnfoaaProg
import Derived.Test.YtdnncgapbjnfoaaFits
import Derived.Test.YtdnncgapbjnfoaaSteps
import Derived.Test.YtdnncgapbjnfoaaNode
import Derived.Test.YtdnncgapbjnfoaaArr
import Derived.Test.YtdnncgapbjnfoaaFimplstepsInOrder
import Derived.Test.YtdnncgapbjnfoaaFimplStepsValid
import Derived.Test.YtdnncgapbjnfoaaFimplnewState
import Derived.Test.YtdnncgapbjnfoaaFimplstateArrayput
import Derived.KernelRfl
namespace Go.Proofs.Ytdnncgapbjnfoaa
open Go Go.RowKit
set_option linter.unusedVariables false
set_option linter.unusedSimpArgs false
namespace StepsBad_iF
theorem T3 : TI Try.prog 3 false (.int .i64 0) 1 8 := TI.mk' Try.underlying3 rfl (by kernel_rfl)
theorem T4 : TI Try.prog 4 false (.bool false) 1 1 := TI.mk' Try.underlying4 rfl (by kernel_rfl)
theorem T27 : TI Try.prog 27 true (.agg #[.bool false, .int .i64 0, .int .i64 0]) 3 24 := TI.mk' Try.underlying27 rfl (by kernel_rfl)
theorem T63 : TI Try.prog 63 false (.pointer none) 1 8 := TI.mk' Try.underlying63 rfl (by kernel_rfl)
theorem F27_0 : FldOK Try.prog 27 0 0 := ⟨_, _, 0, Try.underlying27, rfl, rfl, by kernel_rfl⟩
theorem F27_1 : FldOK Try.prog 27 1 1 := ⟨_, _, 0, Try.underlying27, rfl, rfl, by kernel_rfl⟩
theorem F27_2 : FldOK Try.prog 27 2 2 := ⟨_, _, 0, Try.underlying27, rfl, rfl, by kernel_rfl⟩
theorem C10 : Callable Try.prog 10 := ⟨_, Try.func10, by kernel_rfl, by kernel_rfl⟩
theorem C29 : Callable Try.prog 29 := ⟨_, Try.func29, by kernel_rfl, by kernel_rfl⟩
theorem C39 : Callable Try.prog 39 := ⟨_, Try.func39, by kernel_rfl, by kernel_rfl⟩
theorem C40 : Callable Try.prog 40 := ⟨_, Try.func40, by kernel_rfl, by kernel_rfl⟩
theorem C41 : Callable Try.prog 41 := ⟨_, Try.func41, by kernel_rfl, by kernel_rfl⟩
theorem B33_0I_1I (a0 : Int) (a1 : Int) (u : World) : (Instr.build 33 #[(0, .int .i64 a0), (1, .int .i64 a1)]).run Try.prog u = .ok (.agg #[.int .i64 a0, .int .i64 a1]) u := by kernel_rfl
end StepsBad_iF
open StepsBad_iF in
set_option maxHeartbeats 4000000 in
theorem StepsBad_i (A : Option Addr) (n c : Nat) (hs : List Stp) (w : World) (hR : RS encP 3 w w.heap.size A n hs) (hn : n ≤ 1099511627776) :
    Fn Try.prog 27 [(.slice A n c)] w fun v w' => ∃ r : Int, v = .int .i64 r ∧ (r = -1 ↔ FitsOK hs) ∧ Ch [] w w' := by
  have hlen := hR.len
  refine fn_ofX (n := 34) Try.func27 rfl rfl rfl rfl ?_
  have hc : Ch [] w w := Ch.refl _ _
  refine cwx_seq fun K1 hK2 => ?_
  refine cwx_lift ?_
  refine cw_region fun K3 hK4 => ?_
  refine rw_cons (op_alloc T3 (w0 rfl) rfl rfl rfl ?_)
  rintro g6 w5 hg9 hg10 hB8 hch7
  have hsz11 := hch7.size
  replace hR := hR.ch0 hch7
  replace hc := hc.step0 hch7
  replace hB8 : Blk w5 g6 3 [(.int .i64 0)] := hB8
  refine rw_nil (hK4 _ _ ?_)
  refine hK2 _ _ _ ?_
  refine cwx_seq fun K12 hK13 => ?_
  refine cwx_lift ?_
  refine cw_seq fun K14 hK15 => ?_
  refine cw_region fun K16 hK17 => ?_
  refine rw_cons (op_pv (w0 rfl) rfl rfl (pv_move (v := (.slice A n c)) rfl rfl) ?_)
  refine rw_cons (op_call (w0 rfl) rfl rfl (rc_call C10 rfl rfl) (StepsValid_i _ n _ hs _ (hR.more (by omega)) (by omega)) ?_)
  rintro _ w18 ⟨rfl, hch19⟩
  have hsz20 := hch19.size
  replace hR := hR.ch0 hch19
  replace hB8 := hB8.ch0 hch19
  replace hc := hc.step0 hch19
  refine rw_cons (op_pv (w0 rfl) rfl rfl (pv_not rfl rfl) ?_)
  refine rw_nil (hK17 _ _ ?_)
  refine hK15 _ _ ?_
  refine cw_cond rfl (fun h21 => ?_) (fun h21 => ?_)
  · -- then
    replace h21 := not_t h21
    replace h21 := dec_f h21
    refine cw_seq fun K22 hK23 => ?_
    refine cw_region fun K24 hK25 => ?_
    refine rw_cons (op_store_blk T3 hB8 (w0 rfl) rfl rfl rfl rfl rfl (one_all rfl) (Nat.le_of_ble_eq_true rfl) ?_)
    rintro w26 hB28 hch27
    have hsz29 := hch27.size
    replace hR := hR.ch hch27 (off1 (by omega))
    replace hc := (off1 (by omega)).step hc hch27
    replace hB8 : Blk w26 g6 3 [(.int .i64 (-2))] := hB28
    clear hB28
    refine rw_nil (hK25 _ _ ?_)
    refine hK23 _ _ ?_
    refine cw_ret ?_
    refine fqx_l ?_
    refine finC1 T3 rfl (hB8.cell (i := 0) rfl) ?_
    exact ⟨_, rfl, ⟨fun h => by omega, fun h => absurd h.1 (by assumption)⟩, hc⟩
  · -- else
    replace h21 := not_f h21
    replace h21 := dec_t h21
    refine cw_skip ?_
    refine hK13 _ _ _ ?_
    refine cwx_seq fun K30 hK31 => ?_
    refine cwx_lift ?_
    refine cw_region fun K32 hK33 => ?_
    refine rw_cons (op_call (w0 rfl) rfl rfl (rc_call C39 rfl rfl) (newState_ok _) ?_)
    rintro _ w34 ⟨g35, rfl, hg36, hO37, hch38⟩
    have hsz40 := hch38.size
    replace hR := hR.ch0 hch38
    replace hB8 := hB8.ch0 hch38
    replace hc := hc.step0 hch38
    have hub39 := hO37.lt
    refine rw_cons (op_alloc T63 (w0 rfl) rfl rfl rfl ?_)
    rintro g42 w41 hg45 hg46 hB44 hch43
    have hsz47 := hch43.size
    replace hR := hR.ch0 hch43
    replace hB8 := hB8.ch0 hch43
    replace hO37 := hO37.ch0 hch43
    replace hc := hc.step0 hch43
    replace hB44 : Blk w41 g42 63 [(.pointer none)] := hB44
    have hdj48 : ∀ s ∈ obl (.slice (some ⟨g35, 0, none⟩) 5 5), s ≠ g42 := fun s hs => by have := hub39 s hs; omega
    refine rw_cons (op_store_blk T63 hB44 (w0 rfl) rfl rfl rfl rfl rfl (one_all rfl) (Nat.le_of_ble_eq_true rfl) ?_)
    rintro w49 hB51 hch50
    have hsz52 := hch50.size
    replace hR := hR.ch hch50 (off1 (by omega))
    replace hB8 := hB8.ch hch50 (by simp; omega)
    replace hO37 := hO37.ch hch50 (fun s hs => by have := dj_asg hdj48 s hs; simpa using this)
    replace hc := (off1 (by omega)).step hc hch50
    replace hB44 : Blk w49 g42 63 [(.pointer (some (⟨g35, 0, none⟩)))] := hB51
    clear hB51
    refine rw_nil (hK33 _ _ ?_)
    refine hK31 _ _ _ ?_
    refine cwx_seq fun K53 hK54 => ?_
    refine cwx_seq fun K55 hK56 => ?_
    refine cwx_lift ?_
    refine cw_region fun K57 hK58 => ?_
    refine rw_cons (op_pv (w0 rfl) rfl rfl (pv_move (v := (.slice A n c)) rfl rfl) ?_)
    refine rw_cons (op_call (w0 rfl) rfl rfl (rc_call C29 rfl rfl) (stepsInOrder_ok _ n c hs _ (hR.more (by omega))) ?_)
    rintro _ w60 ⟨g59, rfl, hg61, hB62, hch63⟩
    have hsz64 := hch63.size
    replace hR := hR.ch0 hch63
    replace hB8 := hB8.ch0 hch63
    replace hO37 := hO37.ch0 hch63
    replace hB44 := hB44.ch0 hch63
    replace hc := hc.step0 hch63
    refine rw_nil (hK58 _ _ ?_)
    refine hK56 _ _ _ ?_
    refine cwx_block ?_
    have hbl65 := hB8.lt
    have hbl66 := hB44.lt
    have hbl67 := hB62.lt
    have hd1 : ∀ s ∈ obl (.slice (some ⟨g35, 0, none⟩) 5 5), s ≠ g59 := fun s hs => by have := hub39 s hs; omega
    have hd3 : ∀ s ∈ obl (.slice (some ⟨g35, 0, none⟩) 5 5), s ≠ g42 := fun s hs => by have := hub39 s hs; omega
    have hd2 : ∀ s ∈ obl (.slice (some ⟨g35, 0, none⟩) 5 5), s ≠ g6 := fun s hs => by have := hO37.off s hs; omega
    have hoffA := hO37.off
    refine cwx_range (α := Itm hs) (fun x => .int .i64 (x.1.1 : Int)) (fun x => aggP x.1.2) (hg := rfl) (hf := C41) (hp := rfl) (hq := rfl) (hseq := (steps_seq2 hB62 hR (by omega) (by omega))) (hKt := kp_t) (hKb := kp_b (by omega) (by omega)) (hKc := fun W W' h1 h2 => kp_ch h2 (by omega) (by omega) (fun s hs => by cases hs)) (I := (fun pre W => GoodL (ofI pre) ∧ Blk W g6 3 [.int .i64 0] ∧ Blk W g42 63 [(.pointer (some (⟨g35, 0, none⟩)))] ∧ Own encI 1 W w18.heap.size 69 (.slice (some ⟨g35, 0, none⟩) 5 5) (runL empty5 (upds (ofI pre))) ∧ Ch [] w W ∧ w60.heap.size ≤ W.heap.size)) (Ix := (fun pre W => ¬GoodL (ofI pre) ∧ ∃ r : Int, 0 ≤ r ∧ Blk W g6 3 [.int .i64 r] ∧ Ch [] w W ∧ w60.heap.size ≤ W.heap.size)) (hI := ?hI) (hIx := ?hIx) (hsz := ?hsz) (h0 := ?h0) (EX := fun E x g => upd (upd (E) 4 (.int .i64 (x.1.1 : Int))) 5 (.pointer (some ⟨g, 0, none⟩))) (tb := 27) (cs := fun x => encP x.1.2) (hassign := ?assign) (hbody := ?body) (hdone := ?done) (hstop := ?stop)
    case hI =>
      exact fun s W W' S h hc ho => ⟨h.1, h.2.1.keep hc ho, h.2.2.1.keep hc ho, h.2.2.2.1.keep hc ho, h.2.2.2.2.1.keep hc ho (by omega), Nat.le_trans h.2.2.2.2.2 hc.size⟩
    case hIx =>
      rintro s W W' S ⟨h1, r, h2, h3, h4, h5⟩ hc ho
      exact ⟨h1, r, h2, h3.keep hc ho, h4.keep hc ho (by omega), Nat.le_trans h5 hc.size⟩
    case hsz =>
      exact fun s W h => h.2.2.2.2.2
    case h0 =>
      exact ⟨good_nil, hB8, hB44, hO37, hc, Nat.le_refl _⟩
    case assign =>
      intro l x WA
      have hcA : Ch [] WA WA := Ch.refl _ _
      refine cr_seq fun K68 hK69 => ?_
      refine cr_region fun K70 hK71 => ?_
      refine rr_cons rfl (op_pv (w0 rfl) rfl rfl (pv_assign (v := (.int .i64 (x.1.1 : Int))) rfl rfl) ?_)
      refine rr_nil (hK71 _ _ ?_)
      refine hK69 _ _ ?_
      refine cr_region fun K72 hK73 => ?_
      refine rr_cons rfl (op_alloc T27 (w0 rfl) rfl rfl rfl ?_)
      rintro g75 w74 hg78 hg79 hB77 hch76
      have hsz80 := hch76.size
      replace hcA := hcA.step0 hch76
      replace hB77 : Blk w74 g75 27 [(.bool false), (.int .i64 0), (.int .i64 0)] := hB77
      refine rr_cons rfl (op_store_blk T27 hB77 (w0 rfl) rfl rfl rfl rfl rfl (one_all rfl) (Nat.le_of_ble_eq_true rfl) ?_)
      rintro w81 hB83 hch82
      have hsz84 := hch82.size
      replace hcA := (off1 (by omega)).step hcA hch82
      replace hB77 : Blk w81 g75 27 [(.bool x.1.2.r), (.int .i64 x.1.2.k), (.int .i64 x.1.2.v)] := hB83
      clear hB83
      refine rr_nil (hK73 _ _ ?_)
      exact ⟨rfl, g75, rfl, by omega, hB77, hcA⟩
    case body =>
      intro l pre x gb WB hgb hI0 hBx hlen
      obtain ⟨hgd, hB8, hB44, hO37, hcw, hsz0⟩ := hI0
      have hdB : ∀ s ∈ obl (.slice (some ⟨g35, 0, none⟩) 5 5), s ≠ gb := fun s hs => by have := hub39 s hs; omega
      have hubO := hO37.lt
      have hcel := hO37.cells
      obtain ⟨hx1, hx2, hx3, hx4⟩ := stepok_s.1 (itm_ok ‹StepsOK hs› x)
      have hrl5 := run_len5 (upds (ofI pre))
      have hBlt := hBx.lt
      replace hBx : Blk WB gb 27 [(.bool x.1.2.r), (.int .i64 x.1.2.k), (.int .i64 x.1.2.v)] := hBx
      have hcB : Ch (g6 :: obl (.slice (some ⟨g35, 0, none⟩) 5 5)) WB WB := Ch.refl _ _
      refine cr_block ?_
      refine cr_seq fun K85 hK86 => ?_
      refine cr_region fun K87 hK88 => ?_
      refine rr_cons rfl (op_pv (w0 rfl) rfl rfl (pv_fld F27_0 rfl rfl) ?_)
      refine rr_cons rfl (op_lv (w0 rfl) rfl rfl (lv_load T4 rfl rfl (hBx.cellA (i := 0) rfl)) ?_)
      refine rr_cons rfl (op_pv (w0 rfl) rfl rfl (pv_not rfl rfl) ?_)
      refine rr_nil (hK88 _ _ ?_)
      refine hK86 _ _ ?_
      refine cr_cond rfl (fun h89 => ?_) (fun h89 => ?_)
      · -- then
        replace h89 := not_t h89
        refine cr_region fun K90 hK91 => ?_
        refine rr_cons rfl (op_lv (w0 rfl) rfl rfl (lv_load T63 rfl rfl (hB44.cell (i := 0) rfl)) ?_)
        refine rr_cons rfl (op_pv (w0 rfl) rfl rfl (pv_fld F27_1 rfl rfl) ?_)
        refine rr_cons rfl (op_lv (w0 rfl) rfl rfl (lv_load T3 rfl rfl (hBx.cellA (i := 1) rfl)) ?_)
        refine rr_cons rfl (op_pv (w0 rfl) rfl rfl (pv_fld F27_2 rfl rfl) ?_)
        refine rr_cons rfl (op_lv (w0 rfl) rfl rfl (lv_load T3 rfl rfl (hBx.cellA (i := 2) rfl)) ?_)
        refine rr_cons rfl (op_pv (w0 rfl) rfl rfl (pv_build rfl rfl (B33_0I_1I _ _)) ?_)
        refine rr_cons rfl (op_call (w0 rfl) rfl rfl (rc_call C40 rfl rfl) (put_ok _ _ _ x.1.2.k x.1.2.v _ hO37 (by omega) (by omega)) ?_)
        rintro _ w92 ⟨rfl, hO93, hch94⟩
        have hsz95 := hch94.size
        replace hB8 := hB8.ch hch94 (fun hs => dj_asg hd2 _ hs rfl)
        replace hB44 := hB44.ch hch94 (fun hs => dj_asg hd3 _ hs rfl)
        replace hBx := hBx.ch hch94 (fun hs => dj_asg hdB _ hs rfl)
        replace hcB := hcB.step hch94 (fun s hs => .inl (List.mem_cons_of_mem _ hs))
        clear hO37; have hO37 := hO93; clear hO93
        refine rr_nil (hK91 _ _ ?_)
        have hwr : x.1.2.r = false := (by first | assumption | simp_all)
        have hsB := hcB.size
        have hkf : KeepsFrom w60.heap.size WB w92 := keepsFrom_ch hcB (fun s hs => (List.mem_cons.1 hs).elim (fun h => .inl (by omega)) (fun h => .inr (hcel s h)))
        have hst : Ch [] w w92 := hcw.step hcB (fun s hs => .inr (by rcases List.mem_cons.1 hs with h | h <;> first | omega | (have := hoffA s h; omega)))
        refine bodyq_n hkf (kp_ch hcB (by omega) (by omega) (fun s hs => by rcases List.mem_cons.1 hs with h | h <;> first | omega | (have h1 := hoffA s h; have h2 := hd1 s h; omega))) ?_
        refine ⟨?_, hB8, hB44, ?_, hst, by omega⟩
        · rw [ofI_snoc]; exact good_snoc.2 ⟨hgd, fun h => (by rw [hwr] at h; cases h)⟩
        · rw [ofI_snoc, run_put hwr]; exact hO37
      · -- else
        replace h89 := not_f h89
        refine cr_seq fun K96 hK97 => ?_
        refine cr_drawn (fun u => Ch [] WB u) (.free 0 (.free 1 (.free 2 (.free 3 (.free 4 (.free 5 (.free 6 (.free 7 (.free 8 (.done)))))))))) (by kernel_rfl) (by kernel_rfl) (Ch.refl _ _).drew fun K101 hK102 => ?_
        obtain ⟨w98, hw_, hch99, hsz100⟩ : ∃ w1 : World, w1 = WB.drew ∧ Ch [] WB w1 ∧ w1.heap.size = WB.heap.size := ⟨_, rfl, (Ch.refl _ _).drew, rfl⟩
        rw [← hw_]; clear hw_
        have hr103 : Ch [] WB w98 := hch99.sub (fun s hs => by cases hs)
        have hB8_r := hB8
        have hB44_r := hB44
        have hO37_r := hO37
        have hBx_r := hBx
        have hsz104 := hch99.size
        replace hB8 := hB8.ch0 hch99
        replace hB44 := hB44.ch0 hch99
        replace hO37 := hO37.ch0 hch99
        replace hBx := hBx.ch0 hch99
        replace hcB := hcB.step0 hch99
        refine tw_free rfl (w0 rfl) rfl rfl (fun u hu => lv_load T63 rfl rfl ((hB44_r.ch hu (by simp)).cell (i := 0) rfl)) ?_
        refine tw_free rfl (w0 rfl) rfl rfl (fun u hu => (pv_fld F27_1 rfl rfl : PV _ _ _ _) u) ?_
        refine tw_free rfl (w0 rfl) rfl rfl (fun u hu => lv_load T3 rfl rfl ((hBx_r.ch hu (by simp)).cellA (i := 1) rfl)) ?_
        refine tw_free rfl (w0 rfl) rfl rfl (fun u hu => (pv_nil rfl rfl : PV _ _ _ _) u) ?_
        refine tw_free rfl (w0 rfl) rfl rfl (fun u hu => (pv_idxA Try.underlying69 T3 rfl rfl rfl (by omega) (by omega) : PV _ _ _ _) u) ?_
        refine tw_free rfl (w0 rfl) rfl rfl (fun u hu => lv_load T3 rfl rfl (((hO37_r.ch0 hu).rs (fun _ => rfl)).cell0 (k := (x.1.2.k).toNat) (by omega) rfl)) ?_
        refine tw_free rfl (w0 rfl) rfl rfl (fun u hu => (pv_fld F27_2 rfl rfl : PV _ _ _ _) u) ?_
        refine tw_free rfl (w0 rfl) rfl rfl (fun u hu => lv_load T3 rfl rfl ((hBx_r.ch hu (by simp)).cellA (i := 2) rfl)) ?_
        refine tw_free rfl (w0 rfl) rfl rfl (fun u hu => (pv_neq rfl rfl rfl : PV _ _ _ _) u) ?_
        try clear hB44_r
        try clear hB8_r
        try clear hBx_r
        try clear hO37_r
        refine tw_done (hK102 _ _ ?_)
        refine hK97 _ _ ?_
        refine cr_cond rfl (fun h105 => ?_) (fun h105 => ?_)
        · -- then
          replace h105 := of_decide_eq_true h105
          refine cr_seq fun K106 hK107 => ?_
          refine cr_region fun K108 hK109 => ?_
          refine rr_cons rfl (op_pv (w0 rfl) rfl rfl (pv_move (v := (.int .i64 (x.1.1 : Int))) rfl rfl) ?_)
          refine rr_cons rfl (op_store_blk T3 hB8 (w0 rfl) rfl rfl rfl rfl rfl (one_all rfl) (Nat.le_of_ble_eq_true rfl) ?_)
          rintro w110 hB112 hch111
          have hsz113 := hch111.size
          replace hB44 := hB44.ch hch111 (by simp; omega)
          replace hO37 := hO37.ch hch111 (fun s hs => by have := dj_asg hd2 s hs; simpa using this)
          replace hBx := hBx.ch hch111 (by simp; omega)
          replace hcB := hcB.step hch111 (fun s hs => .inl (by simp at hs; simp [hs]))
          replace hB8 : Blk w110 g6 3 [(.int .i64 (x.1.1 : Int))] := hB112
          clear hB112
          refine rr_nil (hK109 _ _ ?_)
          refine hK107 _ _ ?_
          refine cr_ret ?_
          have hsB := hcB.size
          have hkf : KeepsFrom w60.heap.size WB w110 := keepsFrom_ch hcB (fun s hs => (List.mem_cons.1 hs).elim (fun h => .inl (by omega)) (fun h => .inr (hcel s h)))
          have hst : Ch [] w w110 := hcw.step hcB (fun s hs => .inr (by rcases List.mem_cons.1 hs with h | h <;> first | omega | (have := hoffA s h; omega)))
          have hrd : x.1.2.r = true := (by first | assumption | simp_all)
          exact bodyq_r hkf ⟨fun h => absurd ((good_snoc.1 (ofI_snoc pre x ▸ h)).2 hrd) (by assumption), _, by omega, hB8, hst, by omega⟩
        · -- else
          replace h105 := of_decide_eq_false h105
          refine cr_skip ?_
          have hrd : x.1.2.r = true := (by first | assumption | simp_all)
          have hsB := hcB.size
          have hkf : KeepsFrom w60.heap.size WB w98 := keepsFrom_ch hcB (fun s hs => (List.mem_cons.1 hs).elim (fun h => .inl (by omega)) (fun h => .inr (hcel s h)))
          have hst : Ch [] w w98 := hcw.step hcB (fun s hs => .inr (by rcases List.mem_cons.1 hs with h | h <;> first | omega | (have := hoffA s h; omega)))
          refine bodyq_n hkf (kp_ch hcB (by omega) (by omega) (fun s hs => by rcases List.mem_cons.1 hs with h | h <;> first | omega | (have h1 := hoffA s h; have h2 := hd1 s h; omega))) ?_
          refine ⟨?_, hB8, hB44, ?_, hst, by omega⟩
          · rw [ofI_snoc]; exact good_snoc.2 ⟨hgd, fun _ => (by omega)⟩
          · rw [ofI_snoc, run_read hrd]; exact hO37
    case done =>
      intro d xs WD hd hS hI0 hk
      have hall : ofI xs = hs := ofI_all hS
      obtain ⟨hgd, hB8, _, _, hc, hsz0⟩ := hI0
      rw [hall] at hgd
      refine hK54 _ _ _ ?_
      refine cwx_lift ?_
      refine cw_seq fun K114 hK115 => ?_
      refine cw_region fun K116 hK117 => ?_
      refine rw_cons (op_store_blk T3 hB8 (w0 rfl) rfl rfl rfl rfl rfl (one_all rfl) (Nat.le_of_ble_eq_true rfl) ?_)
      rintro w118 hB120 hch119
      have hsz121 := hch119.size
      replace hk := mark_keep hk hch119 (by simp; omega)
      replace hc := (off1 (by omega)).step hc hch119
      replace hB8 : Blk w118 g6 3 [(.int .i64 (-1))] := hB120
      clear hB120
      refine rw_nil (hK117 _ _ ?_)
      refine hK115 _ _ ?_
      refine cw_ret ?_
      refine fqx_r hk ?_
      have hodd124 : Odd w60.heap.size [d] w118 := fun r hr => by rw [List.mem_singleton] at hr; subst hr; exact ⟨hd, _, hk, rfl⟩
      obtain ⟨w122, hwq125_, hch123⟩ : ∃ u : World, u = w118.putObj d (.deferred none) ∧ Ch [d] w118 u := ⟨_, rfl, ch_putObj _ _ _⟩
      rw [← hwq125_]
      replace hB8 := hB8.keep hch123 hodd124
      replace hc := hc.keep hch123 hodd124 (by omega)
      refine finC1 T3 rfl (hB8.cell (i := 0) rfl) ?_
      exact ⟨_, rfl, ⟨fun _ => ⟨‹StepsOK hs›, hgd⟩, fun _ => rfl⟩, hc⟩
    case stop =>
      intro d pre WS hd hSp hI0 hk
      obtain ⟨hbad, r, hr0, hB8, hc, hsz0⟩ := hI0
      have hno : ¬GoodL hs := fun h => hbad (good_pre (ofI_pre hSp) h)
      refine fqx_r hk ?_
      have hodd128 : Odd w60.heap.size [d] WS := fun r hr => by rw [List.mem_singleton] at hr; subst hr; exact ⟨hd, _, hk, rfl⟩
      obtain ⟨w126, hwq129_, hch127⟩ : ∃ u : World, u = WS.putObj d (.deferred none) ∧ Ch [d] WS u := ⟨_, rfl, ch_putObj _ _ _⟩
      rw [← hwq129_]
      replace hB8 := hB8.keep hch127 hodd128
      replace hc := hc.keep hch127 hodd128 (by omega)
      refine finC1 T3 rfl (hB8.cell (i := 0) rfl) ?_
      exact ⟨r, rfl, ⟨fun h => by omega, fun h => absurd h.2 hno⟩, hc⟩
end Go.Proofs.Ytdnncgapbjnfoaa
