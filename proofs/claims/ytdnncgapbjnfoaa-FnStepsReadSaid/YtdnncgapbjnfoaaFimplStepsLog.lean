/-
  The walk of impl.StepsLog, written by program: each line names the law of one operation. Conditions: those of the theorem.
-/
import Derived.Test.YtdnncgapbjnfoaaProg
import Derived.Test.YtdnncgapbjnfoaaSteps
import Derived.Test.YtdnncgapbjnfoaaFimplstepsInOrder
import Derived.Test.YtdnncgapbjnfoaaFimplStepsValid
import Derived.KernelRfl
namespace Go.Proofs.Ytdnncgapbjnfoaa
open Go Go.RowKit
set_option linter.unusedVariables false
set_option linter.unusedSimpArgs false
namespace StepsLog_iF
theorem T3 : TI Try.prog 3 false (.int .i64 0) 1 8 := TI.mk' Try.underlying3 rfl (by kernel_rfl)
theorem T4 : TI Try.prog 4 false (.bool false) 1 1 := TI.mk' Try.underlying4 rfl (by kernel_rfl)
theorem T27 : TI Try.prog 27 true (.agg #[.bool false, .int .i64 0, .int .i64 0]) 3 24 := TI.mk' Try.underlying27 rfl (by kernel_rfl)
theorem T29 : TI Try.prog 29 false (.slice none 0 0) 1 24 := TI.mk' Try.underlying29 rfl (by kernel_rfl)
theorem T33 : TI Try.prog 33 true (.agg #[.int .i64 0, .int .i64 0]) 2 16 := TI.mk' Try.underlying33 rfl (by kernel_rfl)
theorem F27_0 : FldOK Try.prog 27 0 0 := ⟨_, _, 0, Try.underlying27, rfl, rfl, by kernel_rfl⟩
theorem F27_1 : FldOK Try.prog 27 1 1 := ⟨_, _, 0, Try.underlying27, rfl, rfl, by kernel_rfl⟩
theorem F27_2 : FldOK Try.prog 27 2 2 := ⟨_, _, 0, Try.underlying27, rfl, rfl, by kernel_rfl⟩
theorem C10 : Callable Try.prog 10 := ⟨_, Try.func10, by kernel_rfl, by kernel_rfl⟩
theorem C29 : Callable Try.prog 29 := ⟨_, Try.func29, by kernel_rfl, by kernel_rfl⟩
theorem C41 : Callable Try.prog 41 := ⟨_, Try.func41, by kernel_rfl, by kernel_rfl⟩
theorem B33_0I_1I (a0 : Int) (a1 : Int) (u : World) : (Instr.build 33 #[(0, .int .i64 a0), (1, .int .i64 a1)]).run Try.prog u = .ok (.agg #[.int .i64 a0, .int .i64 a1]) u := by kernel_rfl
end StepsLog_iF
open StepsLog_iF in
set_option maxHeartbeats 4000000 in
theorem StepsLog_i (Ahs : Option Addr) (nhs chs : Nat) (hs : List Stp) (w : World) (hRhs : RS encP 3 w w.heap.size Ahs nhs hs) (hNhs : nhs ≤ 1099511627776) :
    Fn Try.prog 12 [(.slice Ahs nhs chs)] w fun v w' => ∃ A_0 c_0, v = .slice A_0 (logV hs).length c_0 ∧ Own encB 2 w' w.heap.size 33 (.slice A_0 (logV hs).length c_0) (logV hs) ∧ Ch [] w w' := by
  have hlenhs := hRhs.len
  refine fn_ofX (n := 27) Try.func12 rfl rfl rfl rfl ?_
  have hc : Ch [] w w := Ch.refl _ _
  refine cwx_seq fun K1 hK2 => ?_
  refine cwx_lift ?_
  refine cw_region fun K3 hK4 => ?_
  refine rw_cons (op_pv (w0 rfl) rfl rfl (pv_assign (v := (.slice none 0 0)) rfl rfl) ?_)
  refine rw_nil (hK4 _ _ ?_)
  refine hK2 _ _ _ ?_
  refine cwx_seq fun K5 hK6 => ?_
  refine cwx_lift ?_
  refine cw_region fun K7 hK8 => ?_
  refine rw_cons (op_bslice [] Try.underlying29 T33 (w0 rfl) rfl rfl rfl rfl rfl (by simp [Value.cells]) (by decide) ?_)
  intro g10 w9 hg13 hg14 hK12 hch11
  have hO15 : Own encB 2 w9 w.heap.size 33 (.slice (some ⟨g10, 0, none⟩) 0 0) ([] : List Bt) := Blk.own (xs := ([] : List Bt)) hK12 (by omega) rfl (by decide) rfl
  have hsz16 := hch11.size
  replace hRhs := hRhs.ch0 hch11
  replace hc := hc.step0 hch11
  have hub17 := hO15.lt
  refine rw_cons (op_alloc T29 (w0 rfl) rfl rfl rfl ?_)
  rintro g19 w18 hg22 hg23 hB21 hch20
  have hsz24 := hch20.size
  replace hRhs := hRhs.ch0 hch20
  replace hO15 := hO15.ch0 hch20
  replace hc := hc.step0 hch20
  replace hB21 : Blk w18 g19 29 [(.slice none 0 0)] := hB21
  have hdj25 : ∀ s ∈ obl (.slice (some ⟨g10, 0, none⟩) 0 0), s ≠ g19 := fun s hs => by have := hub17 s hs; omega
  refine rw_cons (op_store_blk T29 hB21 (w0 rfl) rfl rfl rfl rfl rfl (one_all rfl) (Nat.le_of_ble_eq_true rfl) ?_)
  rintro w26 hB28 hch27
  have hsz29 := hch27.size
  replace hRhs := hRhs.ch hch27 (off1 (by omega))
  replace hO15 := hO15.ch hch27 (fun s hs => by have := dj_asg hdj25 s hs; simpa using this)
  replace hc := (off1 (by omega)).step hc hch27
  replace hB21 : Blk w26 g19 29 [(.slice (some ⟨g10, 0, none⟩) 0 0)] := hB28
  clear hB28
  refine rw_nil (hK8 _ _ ?_)
  refine hK6 _ _ _ ?_
  refine cwx_seq fun K30 hK31 => ?_
  refine cwx_lift ?_
  refine cw_seq fun K32 hK33 => ?_
  refine cw_region fun K34 hK35 => ?_
  refine rw_cons (op_pv (w0 rfl) rfl rfl (pv_move (v := (.slice Ahs nhs chs)) rfl rfl) ?_)
  refine rw_cons (op_call (w0 rfl) rfl rfl (rc_call C10 rfl rfl) (StepsValid_i _ nhs _ hs _ (hRhs.more (by omega)) (by omega)) ?_)
  rintro _ w36 ⟨rfl, hch37⟩
  have hsz38 := hch37.size
  replace hRhs := hRhs.ch0 hch37
  replace hO15 := hO15.ch0 hch37
  replace hB21 := hB21.ch0 hch37
  replace hc := hc.step0 hch37
  refine rw_cons (op_pv (w0 rfl) rfl rfl (pv_not rfl rfl) ?_)
  refine rw_nil (hK35 _ _ ?_)
  refine hK33 _ _ ?_
  refine cw_cond rfl (fun h39 => ?_) (fun h39 => ?_)
  · -- then
    replace h39 := not_t h39
    replace h39 := dec_f h39
    refine cw_seq fun K40 hK41 => ?_
    refine cw_region fun K42 hK43 => ?_
    refine rw_cons (op_lv (w0 rfl) rfl rfl (lv_load T29 rfl rfl (hB21.cell (i := 0) rfl)) ?_)
    refine rw_cons (op_pv (w0 rfl) rfl rfl (pv_assign (v := (.slice (some ⟨g10, 0, none⟩) 0 0)) rfl rfl) ?_)
    refine rw_nil (hK43 _ _ ?_)
    refine hK41 _ _ ?_
    refine cw_ret ?_
    refine fqx_l ?_
    refine fin1 rfl ?_
    have he_0 : ([] : List Bt) = logV hs := (logV_no ‹_›).symm
    exact ⟨_, _, (sl_as hO15 he_0), own_as (hO15.less (by omega)) he_0, hc⟩
  · -- else
    replace h39 := not_f h39
    replace h39 := dec_t h39
    refine cw_skip ?_
    refine hK31 _ _ _ ?_
    refine cwx_seq fun K44 hK45 => ?_
    refine cwx_seq fun K46 hK47 => ?_
    refine cwx_lift ?_
    refine cw_region fun K48 hK49 => ?_
    refine rw_cons (op_pv (w0 rfl) rfl rfl (pv_move (v := (.slice Ahs nhs chs)) rfl rfl) ?_)
    refine rw_cons (op_call (w0 rfl) rfl rfl (rc_call C29 rfl rfl) (stepsInOrder_ok _ nhs chs hs _ (hRhs.more (by omega))) ?_)
    rintro _ w51 ⟨g50, rfl, hg52, hB53, hch54⟩
    have hsz55 := hch54.size
    replace hRhs := hRhs.ch0 hch54
    replace hO15 := hO15.ch0 hch54
    replace hB21 := hB21.ch0 hch54
    replace hc := hc.step0 hch54
    refine rw_nil (hK49 _ _ ?_)
    refine hK47 _ _ _ ?_
    refine cwx_block ?_
    have hbl56 := hB21.lt
    have hbl57 := hB53.lt
    have hdi : ∀ s ∈ obl (.slice (some ⟨g10, 0, none⟩) 0 0), s ≠ g50 := fun s hs => by have := hub17 s hs; omega
    refine cwx_range (α := It) (fun x => .int .i64 (x.1 : Int)) (fun x => aggP x.2) (hg := rfl) (hf := C41) (hp := rfl) (hq := rfl) (hseq := (steps_seq hB53 hRhs (by omega) (by omega))) (hKt := kp_t) (hKb := kp_b (by omega) (by omega)) (hKc := fun W W' h1 h2 => kp_ch h2 (by omega) (by omega) (fun s hs => by cases hs)) (I := (fun pre W => ∃ Ao co, Blk W g19 29 [.slice Ao (upds (pre.map Prod.snd)).length co] ∧ Own encB 2 W w.heap.size 33 (.slice Ao (upds (pre.map Prod.snd)).length co) (upds (pre.map Prod.snd)) ∧ (∀ s ∈ obl (.slice Ao (upds (pre.map Prod.snd)).length co), s ≠ g19) ∧ (∀ s ∈ obl (.slice Ao (upds (pre.map Prod.snd)).length co), s ≠ g50) ∧ Blk W g50 23 [(.slice Ahs nhs chs)] ∧ Ch [] w W ∧ w51.heap.size ≤ W.heap.size)) (Ix := (fun _ _ => False)) (hI := ?hI) (hIx := ?hIx) (hsz := ?hsz) (h0 := ?h0) (EX := fun E x g => upd (E) 5 (.pointer (some ⟨g, 0, none⟩))) (tb := 27) (cs := fun x => encP x.2) (hassign := ?assign) (hbody := ?body) (hdone := ?done) (hstop := ?stop)
    case hI =>
      rintro s W W' S ⟨Ao, co, h1, h2, h3, h4, h5, h6, h7⟩ hc ho
      exact ⟨Ao, co, h1.keep hc ho, h2.keep hc ho, h3, h4, h5.keep hc ho, h6.keep hc ho (by omega), Nat.le_trans h7 hc.size⟩
    case hIx =>
      exact fun s W W' S h hc ho => h
    case hsz =>
      rintro s W ⟨Ao, co, h1, h2, h3, h4, h5, h6, h7⟩
      exact h7
    case h0 =>
      exact ⟨_, _, hB21, hO15.less (by omega), dj_asg hdj25, hdi, hB53, hc, Nat.le_refl _⟩
    case assign =>
      intro l x WA
      have hcA : Ch [] WA WA := Ch.refl _ _
      refine cr_region fun K58 hK59 => ?_
      refine rr_cons rfl (op_alloc T27 (w0 rfl) rfl rfl rfl ?_)
      rintro g61 w60 hg64 hg65 hB63 hch62
      have hsz66 := hch62.size
      replace hcA := hcA.step0 hch62
      replace hB63 : Blk w60 g61 27 [(.bool false), (.int .i64 0), (.int .i64 0)] := hB63
      refine rr_cons rfl (op_store_blk T27 hB63 (w0 rfl) rfl rfl rfl rfl rfl (one_all rfl) (Nat.le_of_ble_eq_true rfl) ?_)
      rintro w67 hB69 hch68
      have hsz70 := hch68.size
      replace hcA := (off1 (by omega)).step hcA hch68
      replace hB63 : Blk w67 g61 27 [(.bool x.2.r), (.int .i64 x.2.k), (.int .i64 x.2.v)] := hB69
      clear hB69
      refine rr_nil (hK59 _ _ ?_)
      exact ⟨rfl, g61, rfl, by omega, hB63, hcA⟩
    case body =>
      intro l pre x gb WB hgb hI0 hBx hlen
      obtain ⟨Ao, co, hB21, hO15, hd3, hd1, hB53, hcw, hsz0⟩ := hI0
      have hpl := puts_le (pre.map Prod.snd)
      rw [List.length_map] at hpl
      have hul := upds_len (pre.map Prod.snd)
      have hubO := hO15.lt
      have hcel := hO15.cells
      have hoffO := hO15.off
      have hcapO := hO15.le
      have hbl3 := hB21.lt
      have hdB := own_apart hO15 hBx (by decide)
      have hBlt := hBx.lt
      replace hBx : Blk WB gb 27 [(.bool x.2.r), (.int .i64 x.2.k), (.int .i64 x.2.v)] := hBx
      have hcB : Ch (g19 :: obl (.slice Ao (upds (pre.map Prod.snd)).length co)) WB WB := Ch.refl _ _
      refine cr_block ?_
      refine cr_seq fun K71 hK72 => ?_
      refine cr_region fun K73 hK74 => ?_
      refine rr_cons rfl (op_pv (w0 rfl) rfl rfl (pv_fld F27_0 rfl rfl) ?_)
      refine rr_cons rfl (op_lv (w0 rfl) rfl rfl (lv_load T4 rfl rfl (hBx.cellA (i := 0) rfl)) ?_)
      refine rr_cons rfl (op_pv (w0 rfl) rfl rfl (pv_not rfl rfl) ?_)
      refine rr_nil (hK74 _ _ ?_)
      refine hK72 _ _ ?_
      refine cr_cond rfl (fun h75 => ?_) (fun h75 => ?_)
      · -- then
        replace h75 := not_t h75
        refine cr_region fun K76 hK77 => ?_
        refine rr_cons rfl (op_lv (w0 rfl) rfl rfl (lv_load T29 rfl rfl (hB21.cell (i := 0) rfl)) ?_)
        refine rr_cons rfl (op_pv (w0 rfl) rfl rfl (pv_fld F27_1 rfl rfl) ?_)
        refine rr_cons rfl (op_lv (w0 rfl) rfl rfl (lv_load T3 rfl rfl (hBx.cellA (i := 1) rfl)) ?_)
        refine rr_cons rfl (op_pv (w0 rfl) rfl rfl (pv_fld F27_2 rfl rfl) ?_)
        refine rr_cons rfl (op_lv (w0 rfl) rfl rfl (lv_load T3 rfl rfl (hBx.cellA (i := 2) rfl)) ?_)
        refine rr_cons rfl (op_pv (w0 rfl) rfl rfl (pv_build rfl rfl (B33_0I_1I _ _)) ?_)
        refine rr_cons rfl (op_bslice [(.agg #[(.int .i64 x.2.k), (.int .i64 x.2.v)])] Try.underlying29 T33 (w0 rfl) rfl rfl rfl rfl rfl (by simp [Value.cells]) (by decide) ?_)
        intro g79 w78 hg82 hg83 hK81 hch80
        have hO84 : Own encB 2 w78 WB.heap.size 33 (.slice (some ⟨g79, 0, none⟩) 1 1) ([⟨x.2.k, x.2.v⟩] : List Bt) := Blk.own (xs := ([⟨x.2.k, x.2.v⟩] : List Bt)) hK81 (by omega) rfl (by decide) rfl
        have hsz85 := hch80.size
        replace hB21 := hB21.ch0 hch80
        replace hO15 := hO15.ch0 hch80
        replace hB53 := hB53.ch0 hch80
        replace hBx := hBx.ch0 hch80
        replace hcB := hcB.step0 hch80
        have hub86 := hO84.lt
        refine rr_cons rfl (op_append Try.underlying29 T33 (fun _ => rfl) rfl (by decide) (fun _ => one_all rfl) (w0 rfl) rfl rfl rfl rfl rfl hO15 (hO84.rs (fun _ => rfl)) (by unfold maxLen; first | omega | (simp; omega)) (by first | omega | (simp; omega)) (by omega) ?_)
        rintro v87 w88 hO89 hch90 hs91
        have hl92 : ((upds (pre.map Prod.snd)) ++ ([⟨x.2.k, x.2.v⟩] : List Bt)).length = (upds (pre.map Prod.snd)).length + 1 := by first | (have hl0 := (hO84.rs (fun _ => rfl)).len; omega) | (have hl0 := (hO84.rs (fun _ => rfl)).len; simp only [List.length_append, List.length_cons, List.length_nil] at hl0 ⊢; omega) | (simp; omega; done) | simp | rfl
        clear hO84
        have hgl94 := hBx.lt
        have hgl96 := hB21.lt
        have hgl98 := hB53.lt
        have hsz99 := hch90.size
        replace hB21 := hB21.ch hch90 (fun hs => dj_asg hd3 _ hs rfl)
        replace hB53 := hB53.ch hch90 (fun hs => dj_asg hd1 _ hs rfl)
        replace hBx := hBx.ch hch90 (fun hs => dj_asg hdB _ hs rfl)
        replace hcB := hcB.step hch90 (fun s hs => .inl (List.mem_cons_of_mem _ hs))
        have hub100 := hO89.lt
        obtain ⟨A101, c102, hv103, hcap104, hcap105⟩ := hO89.form; subst hv103
        have hdj93 : ∀ s ∈ obl (.slice A101 ((upds (pre.map Prod.snd)) ++ ([⟨x.2.k, x.2.v⟩] : List Bt)).length c102), s ≠ gb := dj_newg hs91 (dj_asg hdB) (by omega)
        have hdj95 : ∀ s ∈ obl (.slice A101 ((upds (pre.map Prod.snd)) ++ ([⟨x.2.k, x.2.v⟩] : List Bt)).length c102), s ≠ g19 := dj_newg hs91 (dj_asg hd3) (by omega)
        have hdj97 : ∀ s ∈ obl (.slice A101 ((upds (pre.map Prod.snd)) ++ ([⟨x.2.k, x.2.v⟩] : List Bt)).length c102), s ≠ g50 := dj_newg hs91 (dj_asg hd1) (by omega)
        refine rr_cons rfl (op_store_blk T29 hB21 (w0 rfl) rfl rfl rfl rfl rfl (one_all rfl) (Nat.le_of_ble_eq_true rfl) ?_)
        rintro w106 hB108 hch107
        have hsz109 := hch107.size
        replace hB53 := hB53.ch hch107 (by simp; omega)
        replace hBx := hBx.ch hch107 (by simp; omega)
        replace hO89 := hO89.ch hch107 (fun s hs => by have := dj_asg hdj95 s hs; simpa using this)
        replace hcB := hcB.step hch107 (fun s hs => .inl (by simp at hs; simp [hs]))
        replace hB21 : Blk w106 g19 29 [(.slice A101 ((upds (pre.map Prod.snd)) ++ ([⟨x.2.k, x.2.v⟩] : List Bt)).length c102)] := hB108
        clear hB108
        refine rr_nil (hK77 _ _ ?_)
        have hsB := hcB.size
        have hup := (upds_put (pre := pre) (x := x) (by assumption))
        refine bodyq_n (keepsFrom_ch hcB (fun s hs => ?_)) (kp_ch hcB (by omega) (by omega) (fun s hs => ?_)) ?_
        · rcases List.mem_cons.1 hs with h | h
          · exact .inl (by omega)
          · exact .inr (hcel s h)
        · rcases List.mem_cons.1 hs with h | h
          · omega
          · exact ⟨hd1 s h, hoffO s h⟩
        · show ∃ _, _
          rw [hup]
          exact ⟨_, _, hB21, hO89, dj_asg hdj95, dj_asg hdj97, hB53, hcw.step hcB (fun s hs => .inr (by rcases List.mem_cons.1 hs with h | h <;> first | omega | (have := hoffO s h; omega))), by omega⟩
      · -- else
        replace h75 := not_f h75
        refine cr_skip ?_
        have hsB := hcB.size
        have hup := (upds_read (pre := pre) (x := x) (by simp_all))
        have hcB2 := hcB
        refine bodyq_n (keepsFrom_ch hcB (fun s hs => ?_)) (kp_ch hcB (by omega) (by omega) (fun s hs => ?_)) ?_
        · rcases List.mem_cons.1 hs with h | h
          · exact .inl (by omega)
          · exact .inr (hcel s h)
        · rcases List.mem_cons.1 hs with h | h
          · omega
          · exact ⟨hd1 s h, hoffO s h⟩
        · show ∃ _, _
          rw [hup]
          exact ⟨_, _, hB21, hO15, dj_asg hd3, dj_asg hd1, hB53, hcw.step hcB (fun s hs => .inr (by rcases List.mem_cons.1 hs with h | h <;> first | omega | (have := hoffO s h; omega))), by omega⟩
    case done =>
      intro d xs WD hd hS hI0 hk
      have hS2 : xs = items hs := hS
      subst hS2
      obtain ⟨Ao, co, hB21, hO15, hd3, hd1, hB53, hc, hsz0⟩ := hI0
      rw [items_snd] at hB21 hO15
      have hubO := hO15.lt
      refine hK45 _ _ _ ?_
      refine cwx_lift ?_
      refine cw_seq fun K110 hK111 => ?_
      refine cw_region fun K112 hK113 => ?_
      refine rw_cons (op_lv (w0 rfl) rfl rfl (lv_load T29 rfl rfl (hB21.cell (i := 0) rfl)) ?_)
      refine rw_cons (op_pv (w0 rfl) rfl rfl (pv_assign (v := (.slice Ao (upds hs).length co)) rfl rfl) ?_)
      refine rw_nil (hK113 _ _ ?_)
      refine hK111 _ _ ?_
      refine cw_ret ?_
      refine fqx_r hk ?_
      have hodd116 : Odd w51.heap.size [d] WD := fun r hr => by rw [List.mem_singleton] at hr; subst hr; exact ⟨hd, _, hk, rfl⟩
      obtain ⟨w114, hwq117_, hch115⟩ : ∃ u : World, u = WD.putObj d (.deferred none) ∧ Ch [d] WD u := ⟨_, rfl, ch_putObj _ _ _⟩
      rw [← hwq117_]
      replace hB21 := hB21.keep hch115 hodd116
      replace hO15 := hO15.keep hch115 hodd116
      replace hB53 := hB53.keep hch115 hodd116
      replace hc := hc.keep hch115 hodd116 (by omega)
      refine fin1 rfl ?_
      have he_0 : (upds hs) = logV hs := (logV_yes ‹_›).symm
      exact ⟨_, _, (sl_as hO15 he_0), own_as (hO15.less (by omega)) he_0, hc⟩
    case stop =>
      intro d pre WS hd hSp hI0 hk
      exact hI0.elim
end Go.Proofs.Ytdnncgapbjnfoaa
