/-
  The walk of spec.StepsLog, written by program: each line names the law of one operation. Conditions: those of the theorem.
-/
import Derived.Test.YtdnncgapbjnfoaaProg
import Derived.Test.YtdnncgapbjnfoaaSteps
import Derived.Test.YtdnncgapbjnfoaaFspecStepsValid
import Derived.KernelRfl
namespace Go.Proofs.Ytdnncgapbjnfoaa
open Go Go.RowKit
set_option linter.unusedVariables false
set_option linter.unusedSimpArgs false
namespace StepsLog_sF
theorem T3 : TI Try.prog 3 false (.int .i64 0) 1 8 := TI.mk' Try.underlying3 rfl (by kernel_rfl)
theorem T4 : TI Try.prog 4 false (.bool false) 1 1 := TI.mk' Try.underlying4 rfl (by kernel_rfl)
theorem T27 : TI Try.prog 27 true (.agg #[.bool false, .int .i64 0, .int .i64 0]) 3 24 := TI.mk' Try.underlying27 rfl (by kernel_rfl)
theorem T33 : TI Try.prog 33 true (.agg #[.int .i64 0, .int .i64 0]) 2 16 := TI.mk' Try.underlying33 rfl (by kernel_rfl)
theorem F27_0 : FldOK Try.prog 27 0 0 := ⟨_, _, 0, Try.underlying27, rfl, rfl, by kernel_rfl⟩
theorem F27_1 : FldOK Try.prog 27 1 1 := ⟨_, _, 0, Try.underlying27, rfl, rfl, by kernel_rfl⟩
theorem F27_2 : FldOK Try.prog 27 2 2 := ⟨_, _, 0, Try.underlying27, rfl, rfl, by kernel_rfl⟩
theorem C15 : Callable Try.prog 15 := ⟨_, Try.func15, by kernel_rfl, by kernel_rfl⟩
theorem B33_0I_1I (a0 : Int) (a1 : Int) (u : World) : (Instr.build 33 #[(0, .int .i64 a0), (1, .int .i64 a1)]).run Try.prog u = .ok (.agg #[.int .i64 a0, .int .i64 a1]) u := by kernel_rfl
end StepsLog_sF
open StepsLog_sF in
set_option maxHeartbeats 4000000 in
theorem StepsLog_s (Ahs : Option Addr) (nhs chs : Nat) (hs : List Stp) (w : World) (hRhs : RS encP 3 w w.heap.size Ahs nhs hs) (hNhs : nhs ≤ 1099511627776) :
    Fn Try.prog 13 [(.slice Ahs nhs chs)] w fun v w' => ∃ A_0 c_0, v = .slice A_0 (logV hs).length c_0 ∧ Own encB 2 w' w.heap.size 33 (.slice A_0 (logV hs).length c_0) (logV hs) ∧ Ch [] w w' := by
  have hlenhs := hRhs.len
  refine fn_of (n := 37) Try.func13 rfl rfl rfl rfl ?_
  have hc : Ch [] w w := Ch.refl _ _
  refine cw_seq fun K1 hK2 => ?_
  refine cw_region fun K3 hK4 => ?_
  refine rw_cons (op_pv (w0 rfl) rfl rfl (pv_assign (v := (.slice none 0 0)) rfl rfl) ?_)
  refine rw_nil (hK4 _ _ ?_)
  refine hK2 _ _ ?_
  refine cw_seq fun K5 hK6 => ?_
  refine cw_region fun K7 hK8 => ?_
  refine rw_cons (op_bslice [] Try.underlying29 T33 (w0 rfl) rfl rfl rfl rfl rfl (by simp [Value.cells]) (by decide) ?_)
  intro g10 w9 hg13 hg14 hK12 hch11
  have hO15 : Own encB 2 w9 w.heap.size 33 (.slice (some ⟨g10, 0, none⟩) 0 0) ([] : List Bt) := Blk.own (xs := ([] : List Bt)) hK12 (by omega) rfl (by decide) rfl
  have hsz16 := hch11.size
  replace hRhs := hRhs.ch0 hch11
  replace hc := hc.step0 hch11
  have hub17 := hO15.lt
  refine rw_cons (op_pv (w0 rfl) rfl rfl (pv_assign (v := (.slice (some ⟨g10, 0, none⟩) 0 0)) rfl rfl) ?_)
  refine rw_nil (hK8 _ _ ?_)
  refine hK6 _ _ ?_
  refine cw_seq fun K18 hK19 => ?_
  refine cw_seq fun K20 hK21 => ?_
  refine cw_region fun K22 hK23 => ?_
  refine rw_cons (op_pv (w0 rfl) rfl rfl (pv_assign (v := (.int .i64 0)) rfl rfl) ?_)
  refine rw_nil (hK23 _ _ ?_)
  refine hK21 _ _ ?_
  refine cw_block ?_
  refine cw_loop (σ := Nat × (Option Addr) × Nat) (fun ⟨k, Ao, co⟩ => [(3, (.slice Ao (upds (hs.take k)).length co)), (4, (.int .i64 (k : Int))), (0, (.slice Ahs nhs chs)), (2, (.slice none 0 0))]) (fun ⟨k, Ao, co⟩ W => (k ≤ nhs ∧ (0 < k → StepsOK hs)) ∧ RS encP 3 W w.heap.size Ahs nhs hs ∧ Own encB 2 W w.heap.size 33 (.slice Ao (upds (hs.take k)).length co) (upds (hs.take k)) ∧ Ch [] w W) (fun ⟨k, Ao, co⟩ => nhs - k) (0, (some ⟨g10, 0, none⟩), 0) ?_ ?_ ?_
  · exact ⟨rfl, rfl, rfl, rfl, trivial⟩
  · refine ⟨⟨Nat.zero_le _, fun h => by omega⟩, hRhs, (hO15.less (by omega)), hc⟩
  · rintro ⟨k, Ao, co⟩ J28 w24 ⟨⟨hk, hok⟩, hRhs, hOut, hc⟩ K25 hK26
    have hsz30 := hc.size
    have hubO := hOut.lt
    have hul := upds_len (hs.take k)
    have hpl := puts_le (hs.take k)
    have htl : (hs.take k).length ≤ k := List.length_take_le _ _
    refine cw_seq fun K31 hK32 => ?_
    refine cw_seq fun K33 hK34 => ?_
    refine cw_region fun K35 hK36 => ?_
    refine rw_cons (op_pv (w0 rfl) rfl rfl (pv_move (v := (.int .i64 (k : Int))) rfl rfl) ?_)
    refine rw_cons (op_pv (w0 rfl) rfl rfl (pv_move (v := (.slice Ahs nhs chs)) rfl rfl) ?_)
    refine rw_cons (op_pv (w0 rfl) rfl rfl (pv_len Try.underlying23 rfl rfl) ?_)
    refine rw_cons (op_pv (w0 rfl) rfl rfl (pv_lss rfl rfl rfl) ?_)
    refine rw_cons (op_pv (w0 rfl) rfl rfl (pv_move (v := (.bool (decide ((k : Int) < (nhs : Int))))) rfl rfl) ?_)
    refine rw_split 10 rfl (fun hb37 => ?_) (fun hb37 => ?_)
    · -- yes
      replace hb37 := of_decide_eq_true hb37
      refine rw_cons (op_pv (w1y rfl rfl rfl rfl) rfl rfl (pv_move (v := (.slice Ahs nhs chs)) rfl rfl) ?_)
      refine rw_cons (op_call (w1y rfl rfl rfl rfl) rfl rfl (rc_call C15 rfl rfl) (StepsValid_s _ nhs _ hs _ (hRhs.more (by omega)) (by omega)) ?_)
      rintro _ w38 ⟨rfl, hch39⟩
      have hsz40 := hch39.size
      replace hRhs := hRhs.ch0 hch39
      replace hOut := hOut.ch0 hch39
      replace hc := hc.step0 hch39
      refine rw_cons (op_pv (w0 rfl) rfl rfl (pv_pickT (v := (.bool (dec (StepsOK hs)))) rfl rfl rfl) ?_)
      refine rw_nil (hK36 _ _ ?_)
      refine hK34 _ _ ?_
      refine cw_cond rfl (fun h41 => ?_) (fun h41 => ?_)
      · -- then
        replace h41 := dec_t h41
        refine cw_skip ?_
        refine hK32 _ _ ?_
        refine cw_seq fun K42 hK43 => ?_
        refine cw_block ?_
        refine cw_seq fun K44 hK45 => ?_
        have hlen20 := (‹StepsOK hs›).len
        refine cw_region fun K46 hK47 => ?_
        refine rw_cons (op_pv (w0 rfl) rfl rfl (pv_move (v := (.slice Ahs nhs chs)) rfl rfl) ?_)
        refine rw_cons (op_pv (w0 rfl) rfl rfl (pv_move (v := (.int .i64 (k : Int))) rfl rfl) ?_)
        refine rw_cons (op_pv (w0 rfl) rfl rfl (pv_idx Try.underlying23 T27 rfl rfl rfl (hRhs.some (k := k) (by omega)) (by omega) (by omega)) ?_)
        refine rw_cons (op_pv (w0 rfl) rfl rfl (pv_fld F27_0 rfl rfl) ?_)
        refine rw_cons (op_lv (w0 rfl) rfl rfl (lv_load T4 rfl rfl (hRhs.cellE (k := k) (j := 0) (by omega) rfl)) ?_)
        refine rw_cons (op_pv (w0 rfl) rfl rfl (pv_not rfl rfl) ?_)
        refine rw_nil (hK47 _ _ ?_)
        refine hK45 _ _ ?_
        refine cw_cond rfl (fun h48 => ?_) (fun h48 => ?_)
        · -- then
          replace h48 := not_t h48
          refine cw_drawn (fun u => Ch (obl (.slice Ao (upds (hs.take k)).length co)) w38 u) (.free 0 (.free 1 (.free 2 (.free 3 (.free 4 (.free 5 (.free 6 (.free 7 (.free 8 (.free 9 (.free 10 (.free 11 (.one 12 true (.one 13 true (.free 14 (.done)))))))))))))))) (by kernel_rfl) (by kernel_rfl) (Ch.refl _ _).drew fun K52 hK53 => ?_
          obtain ⟨w49, hw_, hch50, hsz51⟩ : ∃ w1 : World, w1 = w38.drew ∧ Ch [] w38 w1 ∧ w1.heap.size = w38.heap.size := ⟨_, rfl, (Ch.refl _ _).drew, rfl⟩
          rw [← hw_]; clear hw_
          have hr54 : Ch (obl (.slice Ao (upds (hs.take k)).length co)) w38 w49 := hch50.sub (fun s hs => by cases hs)
          have hRhs_r := hRhs
          have hOut_r := hOut
          have hsz55 := hch50.size
          replace hRhs := hRhs.ch0 hch50
          replace hOut := hOut.ch0 hch50
          replace hc := hc.step0 hch50
          refine tw_free rfl (w0 rfl) rfl rfl (fun u hu => (pv_move (v := (.slice Ao (upds (hs.take k)).length co)) rfl rfl : PV _ _ _ _) u) ?_
          refine tw_free rfl (w0 rfl) rfl rfl (fun u hu => (pv_move (v := (.slice Ahs nhs chs)) rfl rfl : PV _ _ _ _) u) ?_
          refine tw_free rfl (w0 rfl) rfl rfl (fun u hu => (pv_move (v := (.int .i64 (k : Int))) rfl rfl : PV _ _ _ _) u) ?_
          refine tw_free rfl (w0 rfl) rfl rfl (fun u hu => (pv_idx Try.underlying23 T27 rfl rfl rfl (hRhs.some (k := k) (by omega)) (by omega) (by omega) : PV _ _ _ _) u) ?_
          refine tw_free rfl (w0 rfl) rfl rfl (fun u hu => (pv_fld F27_1 rfl rfl : PV _ _ _ _) u) ?_
          refine tw_free rfl (w0 rfl) rfl rfl (fun u hu => lv_load T3 rfl rfl ((hRhs_r.ch hu (hOut_r.off.le (by omega))).cellE (k := k) (j := 1) (by omega) rfl)) ?_
          refine tw_free rfl (w0 rfl) rfl rfl (fun u hu => (pv_move (v := (.slice Ahs nhs chs)) rfl rfl : PV _ _ _ _) u) ?_
          refine tw_free rfl (w0 rfl) rfl rfl (fun u hu => (pv_move (v := (.int .i64 (k : Int))) rfl rfl : PV _ _ _ _) u) ?_
          refine tw_free rfl (w0 rfl) rfl rfl (fun u hu => (pv_idx Try.underlying23 T27 rfl rfl rfl (hRhs.some (k := k) (by omega)) (by omega) (by omega) : PV _ _ _ _) u) ?_
          refine tw_free rfl (w0 rfl) rfl rfl (fun u hu => (pv_fld F27_2 rfl rfl : PV _ _ _ _) u) ?_
          refine tw_free rfl (w0 rfl) rfl rfl (fun u hu => lv_load T3 rfl rfl ((hRhs_r.ch hu (hOut_r.off.le (by omega))).cellE (k := k) (j := 2) (by omega) rfl)) ?_
          refine tw_free rfl (w0 rfl) rfl rfl (fun u hu => (pv_build rfl rfl (B33_0I_1I _ _) : PV _ _ _ _) u) ?_
          refine tw_one rfl (op_bslice [(.agg #[(.int .i64 (el hs k).k), (.int .i64 (el hs k).v)])] Try.underlying29 T33 (w0 rfl) rfl rfl rfl rfl rfl (by simp [Value.cells]) (by decide) ?_)
          intro g57 w56 hg60 hg61 hK59 hch58
          have hO62 : Own encB 2 w56 w49.heap.size 33 (.slice (some ⟨g57, 0, none⟩) 1 1) ([⟨(el hs k).k, (el hs k).v⟩] : List Bt) := Blk.own (xs := ([⟨(el hs k).k, (el hs k).v⟩] : List Bt)) hK59 (by omega) rfl (by decide) rfl
          have hsz63 := hch58.size
          replace hRhs := hRhs.ch0 hch58
          replace hOut := hOut.ch0 hch58
          replace hc := hc.step0 hch58
          replace hr54 := hr54.step0 hch58
          have hub64 := hO62.lt
          refine ⟨fun _ => hr54, ?_⟩
          refine tw_one rfl (op_append Try.underlying29 T33 (fun _ => rfl) rfl (by decide) (fun _ => one_all rfl) (w0 rfl) rfl rfl rfl rfl rfl hOut (hO62.rs (fun _ => rfl)) (by unfold maxLen; first | omega | (simp; omega)) (by first | omega | (simp; omega)) (by omega) ?_)
          rintro v65 w66 hO67 hch68 hs69
          have hl70 : ((upds (hs.take k)) ++ ([⟨(el hs k).k, (el hs k).v⟩] : List Bt)).length = (upds (hs.take k)).length + 1 := by first | (have hl0 := (hO62.rs (fun _ => rfl)).len; omega) | (have hl0 := (hO62.rs (fun _ => rfl)).len; simp only [List.length_append, List.length_cons, List.length_nil] at hl0 ⊢; omega) | (simp; omega; done) | simp | rfl
          clear hO62
          have hsz71 := hch68.size
          replace hRhs := hRhs.ch hch68 (hOut.off.le (by omega))
          replace hc := (hOut.off.le (by omega)).step hc hch68
          replace hr54 := hr54.step hch68 (fun s hs => .inl hs)
          have hub72 := hO67.lt
          obtain ⟨A73, c74, hv75, hcap76, hcap77⟩ := hO67.form; subst hv75
          refine ⟨fun _ => hr54, ?_⟩
          refine tw_free rfl (w0 rfl) rfl rfl (fun u hu => (pv_assign (v := (.slice A73 ((upds (hs.take k)) ++ ([⟨(el hs k).k, (el hs k).v⟩] : List Bt)).length c74)) rfl rfl : PV _ _ _ _) u) ?_
          try clear hOut_r
          try clear hRhs_r
          refine tw_done (hK53 _ _ ?_)
          refine hK43 _ _ ?_
          refine cw_region fun K78 hK79 => ?_
          refine rw_cons (op_pv (w0 rfl) rfl rfl (pv_move (v := (.int .i64 (k : Int))) rfl rfl) ?_)
          refine rw_cons (op_pv (w0 rfl) rfl rfl (pv_add rfl rfl rfl (by omega) (by omega)) ?_)
          refine rw_cons (op_pv (w0 rfl) rfl rfl (pv_assign (v := (.int .i64 ((k : Int) + 1))) rfl rfl) ?_)
          refine rw_nil (hK79 _ _ ?_)
          have hEQ80 : ((upds (hs.take k)) ++ ([⟨(el hs k).k, (el hs k).v⟩] : List Bt)) = upds (hs.take (k + 1)) := by exact (upds_take_put (by omega) (by first | assumption | simp_all)).symm
          have hO81 := own_as hO67 hEQ80
          refine hK26 _ _ (k + 1, A73, c74) ⟨(sl_as hO67 hEQ80), (iv (by omega)), rfl, rfl, trivial⟩ ⟨?_, hRhs, hO81, hc⟩ ?_
          · exact ⟨by omega, fun _ => by assumption⟩
          · (first | omega | (simp only []; omega))
        · -- else
          replace h48 := not_f h48
          refine cw_skip ?_
          refine hK43 _ _ ?_
          refine cw_region fun K82 hK83 => ?_
          refine rw_cons (op_pv (w0 rfl) rfl rfl (pv_move (v := (.int .i64 (k : Int))) rfl rfl) ?_)
          refine rw_cons (op_pv (w0 rfl) rfl rfl (pv_add rfl rfl rfl (by omega) (by omega)) ?_)
          refine rw_cons (op_pv (w0 rfl) rfl rfl (pv_assign (v := (.int .i64 ((k : Int) + 1))) rfl rfl) ?_)
          refine rw_nil (hK83 _ _ ?_)
          have hEQ84 : (upds (hs.take k)) = upds (hs.take (k + 1)) := by exact (upds_take_read (by omega) (by first | assumption | simp_all)).symm
          have hO85 := own_as hOut hEQ84
          refine hK26 _ _ (k + 1, Ao, co) ⟨(sl_as hOut hEQ84), (iv (by omega)), rfl, rfl, trivial⟩ ⟨?_, hRhs, hO85, hc⟩ ?_
          · exact ⟨by omega, fun _ => by assumption⟩
          · (first | omega | (simp only []; omega))
      · -- else
        replace h41 := dec_f h41
        refine cw_exit ?_
        refine hK19 _ _ ?_
        refine cw_seq fun K86 hK87 => ?_
        refine cw_region fun K88 hK89 => ?_
        refine rw_cons (op_pv (w0 rfl) rfl rfl (pv_move (v := (.slice Ao (upds (hs.take k)).length co)) rfl rfl) ?_)
        refine rw_cons (op_pv (w0 rfl) rfl rfl (pv_assign (v := (.slice Ao (upds (hs.take k)).length co)) rfl rfl) ?_)
        refine rw_nil (hK89 _ _ ?_)
        refine hK87 _ _ ?_
        refine cw_ret ?_
        refine fin1 rfl ?_
        have he_0 : (upds (hs.take k)) = logV hs := (by first | exact slog_bad (by assumption) hok | exact slog_done (by omega) hok)
        exact ⟨_, _, (sl_as hOut he_0), own_as (hOut.less (by omega)) he_0, hc⟩
    · -- no
      replace hb37 := of_decide_eq_false hb37
      refine rw_cons (op_pass (w1n1 rfl rfl rfl rfl) rfl rfl ?_)
      refine rw_cons (op_pass (w1n1 rfl rfl rfl rfl) rfl rfl ?_)
      refine rw_cons (op_pv (w0 rfl) rfl rfl (pv_pickF (v := (.bool false)) rfl rfl rfl) ?_)
      refine rw_nil (hK36 _ _ ?_)
      refine hK34 _ _ ?_
      refine cw_cond rfl (fun h90 => ?_) (fun h90 => ?_)
      · -- then
        cases h90
      · -- else
        clear h90
        refine cw_exit ?_
        refine hK19 _ _ ?_
        refine cw_seq fun K91 hK92 => ?_
        refine cw_region fun K93 hK94 => ?_
        refine rw_cons (op_pv (w0 rfl) rfl rfl (pv_move (v := (.slice Ao (upds (hs.take k)).length co)) rfl rfl) ?_)
        refine rw_cons (op_pv (w0 rfl) rfl rfl (pv_assign (v := (.slice Ao (upds (hs.take k)).length co)) rfl rfl) ?_)
        refine rw_nil (hK94 _ _ ?_)
        refine hK92 _ _ ?_
        refine cw_ret ?_
        refine fin1 rfl ?_
        have he_0 : (upds (hs.take k)) = logV hs := (by first | exact slog_bad (by assumption) hok | exact slog_done (by omega) hok)
        exact ⟨_, _, (sl_as hOut he_0), own_as (hOut.less (by omega)) he_0, hc⟩
end Go.Proofs.Ytdnncgapbjnfoaa
